import PyProof.Rows.All
import Wide.All
import OpenK.AllK
import Wide.FinOn
import Lean
import HandS.ForMost
import HandS.Exc
import HandS.TryOnly
import HandS.ExcOwn
import HandS.WordsExc
import HandS.Conv
import HandS.Deep
import HandS.DictComp
import HandS.More
import HandS.SetKeys
import HandS.SortKw
import HandS.TupAny
import HandS.TupLen
import HandS.Zip
import HandS.Flow
import HandS.IsInst
import HandS.Defaults
import HandS.RaiseMore
import HandS.FStrTup
import HandS.ExcInit
import HandS.ExcSuper
import HandS.Head0
import HandS.Head1
import HandS.Head2
import HandS.HeadEnd
import HandS.HeadHook1
import HandS.HeadHook2
import KE.SortKeyHeap
import KE.SortData
import KE.KExcSuper
import KE.DataCmp
import KE.DataFind
import HandS.Walk
import PyProof.ReprRoads
import PyProof.Rows.RegFStrParts
import HandS.WordsDict
import PySem.Challenge.RW_rulestead_k30_wishes
set_option Elab.async false
set_option linter.all false
set_option maxRecDepth 100000


set_option Elab.async false
set_option linter.all false
set_option maxRecDepth 100000
set_option maxHeartbeats 2000000
/-! # R1: rows of ints and texts: equality, order, as the machine's == and < say them -/
namespace Rs
open PySem PySem.Spec PyProof.Rows L2 PySem.W PySem.SeqAt

/-- a row of values -/
abbrev Row : Type := List L2.Key
/-- a value's place in the order: ints, then texts -/
def ktok : L2.Key → Int ⊕ List Nat
  | .inl i => .inl i
  | .inr x => .inr x.cps.toList
def rtoks (r : Row) : List (Int ⊕ List Nat) := r.map ktok
/-- value_key's answer -/
def vk : L2.Key → Row
  | .inl i => [.inl 0, .inl i]
  | .inr x => [.inl 1, .inr x]
theorem ktok_inj {a b : L2.Key} (h : ktok a = ktok b) : a = b := by
  cases a with
  | inl i =>
    cases b with
    | inl j => exact congrArg Sum.inl (Sum.inl.inj h)
    | inr y => cases h
  | inr x =>
    cases b with
    | inl j => cases h
    | inr y =>
      have e : x.cps.toList = y.cps.toList := Sum.inr.inj h
      exact congrArg Sum.inr (PyProof.Rows.ext_toList e)
theorem vk_inj {a b : L2.Key} : vk a = vk b ↔ a = b := by
  constructor
  · intro h
    cases a <;> cases b <;> simp [vk] at h
    · exact congrArg Sum.inl h
    · exact congrArg Sum.inr h
  · intro h
    rw [h]
/-- a row stands at p -/
def RowAt (h : Heap) (p : Addr) (r : Row) : Prop := ∃ its : List Value, Vals (r.map kV) its ∧ IsTup h p its.toArray
section
variable {prog : Program} {w : World} {A : Around} {s : Shared}
theorem key_eqAt {a b : L2.Key} {u v : Value} (ra : RelV (kV a) u) (rb : RelV (kV b) v) : EqAt A s u v (decide (a = b)) := by
  cases a with
  | inl i =>
    obtain ⟨t, rfl⟩ := ra
    cases b with
    | inl j =>
      obtain ⟨t', rfl⟩ := rb
      rw [key_ll]
      exact EqAt.int_int i t j t'
    | inr y =>
      obtain ⟨t', rfl⟩ := rb
      rw [key_lr]
      exact EqAt.int_str i t y t'
  | inr x =>
    obtain ⟨t, rfl⟩ := ra
    cases b with
    | inl j =>
      obtain ⟨t', rfl⟩ := rb
      rw [key_rl]
      exact EqAt.str_int x t j t'
    | inr y =>
      obtain ⟨t', rfl⟩ := rb
      have e : decide ((Sum.inr x : L2.Key) = Sum.inr y) = (x == y) := by
        rw [key_rr]
        by_cases h : x = y
        · subst h; simp
        · rw [decide_eq_false h]; exact (beq_eq_false_iff_ne.mpr h).symm
      rw [e]
      exact EqAt.str_str x t y t'
theorem vals_at {xs : List V} {its : List Value} (r : Vals xs its) {j : Nat} (h1 : j < xs.length) (h2 : j < its.length) : RelV xs[j] its[j] := by
  obtain ⟨u, e, q⟩ := r.get (List.getElem?_eq_getElem h1)
  rw [List.getElem?_eq_getElem h2] at e
  exact (Option.some.inj e) ▸ q
/-- the places that agree, all of them and as many: the rows are one -/
theorem all_pl (r1 r2 : Row) : ((List.range (min r1.length r2.length)).all (fun j => decide (r1[j]? = r2[j]?)) && r1.length == r2.length) = decide (r1 = r2) := by
  by_cases h : r1 = r2
  · subst h
    simp
  · rw [decide_eq_false h]
    by_cases hl : r1.length = r2.length
    · have hb : (r1.length == r2.length) = true := beq_iff_eq.mpr hl
      rw [hb, Bool.and_true]
      refine Bool.eq_false_iff.mpr fun ha => h (List.ext_getElem? fun j => ?_)
      rw [List.all_eq_true] at ha
      by_cases hj : j < r1.length
      · exact of_decide_eq_true (ha j (List.mem_range.mpr (by omega)))
      · rw [List.getElem?_eq_none (by omega), List.getElem?_eq_none (by omega)]
    · have hb : (r1.length == r2.length) = false := beq_eq_false_iff_ne.mpr hl
      rw [hb, Bool.and_false]
theorem RowAt.one {h : Heap} {p : Addr} {r1 r2 : Row} (a : RowAt h p r1) (b : RowAt h p r2) : r1 = r2 := by
  obtain ⟨i1, v1, o1, e1, c1, n1, d1⟩ := a
  obtain ⟨i2, v2, o2, e2, c2, n2, d2⟩ := b
  rw [e1] at e2
  cases e2
  rw [d1] at d2
  injection d2 with d3 _
  have e3 : i1 = i2 := by simpa using congrArg Array.toList d3
  subst e3
  have e4 := v1.inj v2
  have inj : ∀ a b : L2.Key, kV a = kV b → a = b := fun a b e => by
    cases a <;> cases b <;> simp [kV] at e
    · exact congrArg Sum.inl e
    · exact congrArg Sum.inr e
  exact List.map_inj_right (fun a b => inj a b) |>.mp e4
theorem RowAt.keep {h h' : Heap} {p : Addr} {r : Row} (a : RowAt h p r) (k : ∀ b o, h.get? b = some o → h'.get? b = some o) : RowAt h' p r := by
  obtain ⟨i1, v1, o1, e1, c⟩ := a
  exact ⟨i1, v1, o1, k _ _ e1, c⟩
theorem row_rcAt {p q : Addr} {r1 r2 : Row} (a : RowAt s.heap p r1) (b : RowAt s.heap q r2) (hu : A.units < cLine) : RcAt A s (.ref p) (.ref q) (decide (r1 = r2)) := by
  obtain ⟨i1, v1, t1⟩ := a
  obtain ⟨i2, v2, t2⟩ := b
  have l1 := v1.length
  have l2 := v2.length
  rw [List.length_map] at l1 l2
  have e : ((List.range (min i1.toArray.size i2.toArray.size)).all (fun j => decide (r1[j]? = r2[j]?)) && i1.toArray.size == i2.toArray.size) = decide (r1 = r2) := by
    rw [← all_pl, List.size_toArray, List.size_toArray, ← l1, ← l2]
  rw [← e]
  refine RcAt.tuples t1 t2 hu fun j h1 h2 => ?_
  have h1' : j < r1.length := by simpa [l1] using h1
  have h2' : j < r2.length := by simpa [l2] using h2
  have e1 : decide (r1[j]? = r2[j]?) = decide (r1[j] = r2[j]) := by
    rw [List.getElem?_eq_getElem h1', List.getElem?_eq_getElem h2']
    simp
  rw [e1]
  have q1 := vals_at v1 (j := j) (by rw [List.length_map]; exact h1') (by simpa using h1)
  have q2 := vals_at v2 (j := j) (by rw [List.length_map]; exact h2') (by simpa using h2)
  rw [List.getElem_map] at q1 q2
  exact key_eqAt (by simpa using q1) (by simpa using q2)
theorem row_eqAt {p q : Addr} {r1 r2 : Row} (a : RowAt s.heap p r1) (b : RowAt s.heap q r2) (hu : A.units < cLine) : EqAt A s (.ref p) (.ref q) (decide (r1 = r2)) := by
  by_cases h : p = q
  · subst h
    have e := a.one b
    subst e
    rw [decide_eq_true rfl]
    exact EqAt.same _
  · exact EqAt.of_refs h (row_rcAt a b hu)
end
end Rs


set_option Elab.async false
set_option linter.all false
set_option maxRecDepth 100000
set_option maxHeartbeats 2000000
/-! # R2: the order of rows as a sort's keys -/
namespace Rs
open PySem PySem.Spec PyProof.Rows L2 PySem.W PySem.SeqAt
open AutoSeq1 (wpAny_loadPart')
/-- where the first items differ they alone decide -/
theorem first_lt (l b : Addr) (x y : Value) (xs ys : List Value) (n n2 : Nat) (dd dd2 : Option Addr) (sl sl2 : Array (Option Value)) (k : Bool) :
    Meets (Builtin.«tuple.__lt__» ⟨[.ref l, .ref b], []⟩)
      (fun A R s => s.heap.get? l = some { cls := .type "tuple", dict := dd, data := .seq (x :: xs).toArray n, slots := sl } ∧ s.heap.get? b = some { cls := .type "tuple", dict := dd2, data := .seq (y :: ys).toArray n2, slots := sl2 } ∧
        EqAt A.in1 s x y false ∧ RcLt A.in1 s x y k ∧ R (.ok (.ret (.bool k))) s) :=
  .of_wp fun prog w A R s hyp => by
    obtain ⟨hp, g, d, tk, os⟩ := s
    obtain ⟨f1, f2, he, hr, fin⟩ := hyp
    have sub := AutoSeq1.sub_tuple_tuple
    have hz : (x :: xs).toArray.toList.zip (y :: ys).toArray.toList = (x, y) :: xs.zip ys := by simp
    wp_walk using wpAny_loadPart' f1, wpAny_loadPart' f2, wpAny_forIn_list _ (fun todo c s' => c.1 = none ∧ s' = ⟨hp, g, d, tk, os⟩ ∧ todo = (x, y) :: xs.zip ys) _
    case turn =>
      rintro ⟨x', y'⟩ todo c s' ⟨_, rfl, hh⟩
      obtain ⟨rfl, rfl⟩ := Prod.mk.inj (List.cons.inj hh).1
      refine wpAny_bind (he prog w _ _ ?_)
      show wpAny _ _ (rule _ >>= fun _ => richCompare .Lt x' y' >>= _) _ _ _
      refine wpAny_bind (wpAny_rule (wpAny_bind (hr prog w _ _ ?_)))
      wp_walk
      exact ⟨_, rfl, fin⟩
    case fin =>
      rintro ⟨c1, c2⟩ s' ⟨_, _, hh⟩
      cases hh
    case h => exact ⟨rfl, rfl, hz⟩
section
variable {prog : Program} {w : World} {A : Around} {s : Shared}
theorem lt_self_tok (x : Str) : itemLt (ktok (.inr x)) (ktok (.inr x)) = false := itemOrd.irrefl (.inr x.cps.toList)
/-- tuples whose first items differ -/
theorem head_rcLt {p q : Addr} {x y : Value} {xs ys : List Value} {k : Bool} (t1 : s.heap.IsTuple p (x :: xs).toArray) (t2 : s.heap.IsTuple q (y :: ys).toArray) (hu : A.units < cLine) (he : EqAt A.in1 s x y false) (hr : RcLt A.in1 s x y k) :
    RcLt A s (.ref p) (.ref q) k := fun prog w E Q hq => by
  obtain ⟨⟨c1, d1, da1, s1⟩, g1, e1, n1, f1⟩ := t1
  obtain ⟨⟨c2, d2, da2, s2⟩, g2, e2, n2, f2⟩ := t2
  simp only at e1 f1 e2 f2
  subst e1 f1 e2 f2
  exact richCompare_meets_room (op := .Lt) ⟨_, g1, rfl⟩ ⟨_, g2, rfl⟩ F.slot_tuple_lt F.entry_tuple_lt (F.args_tuple_lt_2 _ _) (first_lt p q x y xs ys n1 n2 d1 d2 s1 s2 k)
    ⟨g1, g2, he, hr, show Value.bool k ≠ Value.notImplemented ∧ Q (.bool k) s from ⟨(fun z => nomatch z), hq⟩⟩ hu
theorem int_rcLt {i j : Int} {u v : Value} (ra : RelV (.int i) u) (rb : RelV (.int j) v) : RcLt A s u v (decide (i < j)) := by
  obtain ⟨t, rfl⟩ := ra
  obtain ⟨t', rfl⟩ := rb
  intro prog w E Q hq
  exact P.lt_int hq
theorem str_rcLt {x y : Str} {u v : Value} (ra : RelV (.str x) u) (rb : RelV (.str y) v) : RcLt A s u v (itemLt (.inr x.cps.toList) (.inr y.cps.toList)) := by
  obtain ⟨t, rfl⟩ := ra
  obtain ⟨t', rfl⟩ := rb
  intro prog w E Q hq
  exact P.lt_str hq
theorem pair_rcLt {a b a' b' : L2.Key} {p q : Addr} (ra : RowAt s.heap p [a, b]) (rb : RowAt s.heap q [a', b']) (hu : A.units < cLine) {r : Nat → Bool}
    (h0 : ¬ a = a' → ∀ u v : Value, RelV (kV a) u → RelV (kV a') v → RcLt A.in1 s u v (r 0)) (h1 : ¬ b = b' → ∀ u v : Value, RelV (kV b) u → RelV (kV b') v → RcLt A.in1 s u v (r 1)) :
    RcLt A s (.ref p) (.ref q) (if a = a' then (if b = b' then false else r 1) else r 0) := by
  obtain ⟨i1, v1, t1⟩ := ra
  obtain ⟨i2, v2, t2⟩ := rb
  obtain ⟨u1, u2, rfl, x1, x2⟩ := L2.vals2 v1
  obtain ⟨w1, w2, rfl, y1, y2⟩ := L2.vals2 v2
  have e := RcLt.tuples (A := A) (s := s) (e := fun j => if j = 0 then decide (a = a') else decide (b = b')) (r := r) t1 t2 hu (fun j h1' h2' => ?_) (fun j h1' h2' hj => ?_)
  · have e2 : firstLt (fun j => if j = 0 then decide (a = a') else decide (b = b')) r (decide ([u1, u2].toArray.size < [w1, w2].toArray.size)) (List.range (min [u1, u2].toArray.size [w1, w2].toArray.size)) = (if a = a' then (if b = b' then false else r 1) else r 0) := by
      have e3 : List.range (min [u1, u2].toArray.size [w1, w2].toArray.size) = [0, 1] := rfl
      rw [e3]
      by_cases ha : a = a'
      · by_cases hb : b = b' <;> simp [firstLt, ha, hb]
      · simp [firstLt, ha]
    rw [e2] at e
    exact e
  · have hj : j = 0 ∨ j = 1 := by
      have : j < 2 := h1'
      omega
    rcases hj with rfl | rfl
    · exact key_eqAt x1 y1
    · exact key_eqAt x2 y2
  · have hj' : j = 0 ∨ j = 1 := by
      have : j < 2 := h1'
      omega
    rcases hj' with rfl | rfl
    · exact h0 (of_decide_eq_false hj) _ _ x1 y1
    · exact h1 (of_decide_eq_false hj) _ _ x2 y2
/-- value_key's answers are ordered as the values are -/
theorem vk_rcLt {a b : L2.Key} {p q : Addr} (ra : RowAt s.heap p (vk a)) (rb : RowAt s.heap q (vk b)) (hu : A.units < cLine) : RcLt A s (.ref p) (.ref q) (itemLt (ktok a) (ktok b)) := by
  cases a with
  | inl i =>
    cases b with
    | inl j =>
      have e := pair_rcLt (r := fun _ => decide (i < j)) ra rb hu (fun h => absurd rfl h) (fun _ u v hx hy => int_rcLt hx hy)
      rw [if_pos rfl] at e
      by_cases h : (Sum.inl i : L2.Key) = Sum.inl j
      · rw [if_pos h] at e
        have h2 : i = j := Sum.inl.inj h
        subst h2
        have e2 : itemLt (ktok (.inl i)) (ktok (.inl i)) = false := by simp [ktok, itemLt]
        rw [e2]
        exact e
      · rw [if_neg h] at e
        exact e
    | inr y =>
      obtain ⟨i1, v1, t1⟩ := ra
      obtain ⟨i2, v2, t2⟩ := rb
      obtain ⟨u1, u2, rfl, x1, x2⟩ := L2.vals2 v1
      obtain ⟨w1, w2, rfl, y1, y2⟩ := L2.vals2 v2
      exact head_rcLt t1 t2 hu (key_eqAt (a := .inl 0) (b := .inl 1) x1 y1) (int_rcLt (i := 0) (j := 1) x1 y1)
  | inr x =>
    cases b with
    | inl j =>
      obtain ⟨i1, v1, t1⟩ := ra
      obtain ⟨i2, v2, t2⟩ := rb
      obtain ⟨u1, u2, rfl, x1, x2⟩ := L2.vals2 v1
      obtain ⟨w1, w2, rfl, y1, y2⟩ := L2.vals2 v2
      exact head_rcLt t1 t2 hu (key_eqAt (a := .inl 1) (b := .inl 0) x1 y1) (int_rcLt (i := 1) (j := 0) x1 y1)
    | inr y =>
      have e := pair_rcLt (r := fun _ => itemLt (.inr x.cps.toList) (.inr y.cps.toList)) ra rb hu (fun h => absurd rfl h) (fun _ u v hx hy => str_rcLt hx hy)
      rw [if_pos rfl] at e
      by_cases h : (Sum.inr x : L2.Key) = Sum.inr y
      · rw [if_pos h] at e
        have h2 : x = y := Sum.inr.inj h
        subst h2
        have e2 : itemLt (ktok (.inr x)) (ktok (.inr x)) = false := lt_self_tok _
        rw [e2]
        exact e
      · rw [if_neg h] at e
        exact e
end
end Rs


set_option Elab.async false
set_option linter.all false
set_option maxRecDepth 100000
set_option maxHeartbeats 2000000
/-! # R3: row_key's answers as the keys of a sort -/
namespace Rs
open PySem PySem.Spec PyProof.Rows L2 PySem.W PySem.SeqAt
/-- value_key's answers, one after another -/
abbrev VkAll (h : Heap) : List Value → Row → Prop := Paired fun (v : Value) (k : L2.Key) => ∃ b, v = .ref b ∧ RowAt h b (vk k)
/-- row_key's answer at p -/
def RKeyAt (h : Heap) (p : Addr) (r : Row) : Prop := ∃ its : List Value, VkAll h its r ∧ IsTup h p its.toArray
theorem RKeyAt.keep {h h' : Heap} {p : Addr} {r : Row} (a : RKeyAt h p r) (k : ∀ b o, h.get? b = some o → h'.get? b = some o) : RKeyAt h' p r := by
  obtain ⟨its, v, o, e, c⟩ := a
  exact ⟨its, L2.Paired.mapP v fun x y ⟨b, eb, rb⟩ => ⟨b, eb, rb.keep k⟩, o, k _ _ e, c⟩
/-- r1 stands ahead of r2 -/
def rowLt (r1 r2 : Row) : Bool := PyProof.Rows.lexLt itemOrd (rtoks r1) (rtoks r2)
section
variable {prog : Program} {w : World} {A : Around} {s : Shared}
theorem katLex_rows {Q : Bool → Shared → Prop} (hu : A.units + 1 < cLine) : ∀ (r1 r2 : Row) (i : Nat) (us ws : List Value) (fin : Bool), VkAll s.heap us r1 → VkAll s.heap ws r2 → fin = decide (r1.length < r2.length) →
    Q (PyProof.Rows.lexLt itemOrd (rtoks r1) (rtoks r2)) s → KatLex prog w A false fin Q (us.zip ws) i s
  | [], [], i, _, _, fin, .nil, .nil, hf, hq => by
    subst hf
    exact kat_nil hq
  | [], _ :: _, i, _, _, fin, .nil, .cons _ _, hf, hq => by
    subst hf
    exact kat_nil hq
  | _ :: _, [], i, _, _, fin, .cons _ _, .nil, hf, hq => by
    subst hf
    exact kat_nil hq
  | a :: r1, b :: r2, i, _, _, fin, .cons ⟨p, hp, ra⟩ ta, .cons ⟨q, hq', rb⟩ tb, hf, hq => by
    subst hp hq'
    refine kat_cons (row_eqAt ra rb (by omega) prog w _ _ ?_)
    by_cases h : a = b
    · subst h
      rw [decide_eq_true rfl]
      refine kat_yes (katLex_rows hu r1 r2 (i + 1) _ _ fin ta tb ?_ ?_)
      · rw [hf, List.length_cons, List.length_cons]
        exact decide_eq_decide.mpr (by omega)
      · have e := lex_self (O := itemOrd) (ktok a) (rtoks r1) (rtoks r2)
        show Q (PyProof.Rows.lexLt itemOrd (rtoks r1) (rtoks r2)) s
        rw [← e]
        exact hq
    · rw [decide_eq_false (fun e => h (vk_inj.mp e))]
      have e := lex_diff (O := itemOrd) (r := rtoks r1) (t := rtoks r2) (fun e => h (ktok_inj e))
      have hq2 : Q (itemLt (ktok a) (ktok b)) s := by
        have e2 : PyProof.Rows.lexLt itemOrd (rtoks (a :: r1)) (rtoks (b :: r2)) = itemLt (ktok a) (ktok b) := e
        rw [← e2]
        exact hq
      refine kat_no ?_
      have l := vk_rcLt ra rb (A := A) (by omega)
      refine kat_one _ _ (l prog w _ _ ?_)
      exact hq2
/-- rows as keys; tbl tells which row's key stands where -/
def rowKind (tbl : List (Addr × Row)) : PyProof.Rows.KeyKind where
  toKeyOrd := listOrd itemOrd
  keyOf v := match v with
    | .ref a => (tbl.lookup a).map rtoks
    | _ => none
  dflt := ([] : List (Int ⊕ List Nat))
theorem lookup_mem {α : Type} {l : List (Addr × α)} {a : Addr} {x : α} (h : l.lookup a = some x) : (a, x) ∈ l := by
  induction l with
  | nil => cases h
  | cons p l ih =>
    obtain ⟨k, y⟩ := p
    rw [List.lookup_cons] at h
    cases e : a == k with
    | true =>
      rw [e] at h
      have : k = a := (beq_iff_eq.mp e).symm
      subst this
      cases h
      exact List.mem_cons_self
    | false =>
      rw [e] at h
      exact List.mem_cons_of_mem _ (ih h)
theorem mem_lookup' {α : Type} {l : List (Addr × α)} {a : Addr} {x : α} (h : (a, x) ∈ l) : ∃ y, l.lookup a = some y := by
  induction l with
  | nil => cases h
  | cons p l ih =>
    obtain ⟨k, y⟩ := p
    rw [List.lookup_cons]
    cases e : a == k with
    | true => exact ⟨y, rfl⟩
    | false =>
      rcases List.mem_cons.mp h with q | q
      · cases q
        simp at e
      · exact ih q
theorem rowKind_lt {tbl : List (Addr × Row)} (ht : ∀ p ∈ tbl, RKeyAt s.heap p.1 p.2) (hu : A.units + 1 < cLine) : H.LtAt prog w A s (rowKind tbl) (tuples' false) := by
  intro E x y a b Q ha hb hq
  have get : ∀ {v : Value} {c : List (Int ⊕ List Nat)}, (rowKind tbl).keyOf v = some c → ∃ p r, v = .ref p ∧ RKeyAt s.heap p r ∧ c = rtoks r := fun {v c} h => by
    cases v with
    | ref p =>
      have h2 : (tbl.lookup p).map rtoks = some c := h
      obtain ⟨r, e1, e2⟩ := Option.map_eq_some_iff.mp h2
      exact ⟨p, r, rfl, ht _ (lookup_mem e1), e2.symm⟩
    | _ => cases h
  obtain ⟨p, r1, rfl, ⟨i1, v1, o1, g1, c1, n1, d1⟩, rfl⟩ := get ha
  obtain ⟨q, r2, rfl, ⟨i2, v2, o2, g2, c2, n2, d2⟩, rfl⟩ := get hb
  refine kat_lt g1 d1 g2 d2 ?_
  have l1 : i1.length = r1.length := Paired.length v1
  have l2 : i2.length = r2.length := Paired.length v2
  have e1 : i1.toArray.toList.zip i2.toArray.toList = i1.zip i2 := by simp
  rw [e1]
  exact katLex_rows hu r1 r2 0 i1 i2 _ v1 v2 (by rw [List.size_toArray, List.size_toArray, l1, l2]) hq
theorem key_tups {h : Heap} : ∀ {ks : List Value} {tbl : List (Addr × Row)}, Paired (fun (v : Value) (p : Addr × Row) => v = .ref p.1 ∧ RKeyAt h p.1 p.2 ∧ p.2 ≠ []) ks tbl → ∃ fs, KatTups h ks fs ∧ fs.length = ks.length ∧ ∀ f ∈ fs, ∃ b k, f = .ref b ∧ RowAt h b (vk k)
  | _, _, .nil => ⟨[], KatTups.nil, rfl, fun f hf => absurd hf (by simp)⟩
  | _, _, .cons (b := pr) ⟨e, ⟨its, v, o, g, c, n, d⟩, ne⟩ t => by
    obtain ⟨fs, h1, h2, h3⟩ := key_tups t
    obtain ⟨p, r⟩ := pr
    subst e
    cases r with
    | nil => exact absurd rfl ne
    | cons k r =>
      cases v with
      | cons hv tv =>
        rename_i u its'
        obtain ⟨b, rfl, rb⟩ := hv
        refine ⟨.ref b :: fs, KatTups.cons g c d (by simp) h1, by rw [List.length_cons, List.length_cons, h2], fun f hf => ?_⟩
        rcases List.mem_cons.mp hf with rfl | hf
        · exact ⟨b, k, rfl, rb⟩
        · exact h3 f hf
/-- the keys can be sorted -/
theorem rows_sort {ks : List Value} {tbl : List (Addr × Row)} (hk : Paired (fun (v : Value) (p : Addr × Row) => v = .ref p.1 ∧ RKeyAt s.heap p.1 p.2) ks tbl) (hne : 2 ≤ ks.length → ∀ p ∈ tbl, p.2 ≠ []) (hu : A.units + 1 < cLine) : SortsAt prog w A s (rowKind tbl) ks := by
  have mem : ∀ {ks : List Value} {tbl : List (Addr × Row)}, Paired (fun (v : Value) (p : Addr × Row) => v = .ref p.1 ∧ RKeyAt s.heap p.1 p.2) ks tbl → (∀ v ∈ ks, ∃ p ∈ tbl, v = .ref p.1) ∧ ∀ p ∈ tbl, RKeyAt s.heap p.1 p.2 := by
    intro ks tbl h
    induction h with
    | nil => exact ⟨fun v hv => absurd hv (by simp), fun p hp => absurd hp (by simp)⟩
    | cons h1 _ ih =>
      rename_i v p vs ps _
      refine ⟨fun u hu => ?_, fun q hq => ?_⟩
      · rcases List.mem_cons.mp hu with rfl | hu
        · exact ⟨p, List.mem_cons_self, h1.1⟩
        · obtain ⟨p', m, e⟩ := ih.1 u hu
          exact ⟨p', List.mem_cons_of_mem _ m, e⟩
      · rcases List.mem_cons.mp hq with rfl | hq
        · exact h1.2
        · exact ih.2 q hq
  have full : ∀ {ks : List Value} {tbl : List (Addr × Row)}, (∀ p ∈ tbl, p.2 ≠ []) → Paired (fun (v : Value) (p : Addr × Row) => v = .ref p.1 ∧ RKeyAt s.heap p.1 p.2) ks tbl → Paired (fun (v : Value) (p : Addr × Row) => v = .ref p.1 ∧ RKeyAt s.heap p.1 p.2 ∧ p.2 ≠ []) ks tbl := by
    intro ks tbl hn h
    induction h with
    | nil => exact .nil
    | cons h1 _ ih => exact .cons ⟨h1.1, h1.2, hn _ List.mem_cons_self⟩ (ih fun p hp => hn p (List.mem_cons_of_mem _ hp))
  obtain ⟨m1, m2⟩ := mem hk
  refine ⟨fun v hv => ?_, tuples' false, rowKind_lt m2 hu, fun h2 E Q hq => ?_⟩
  · obtain ⟨p, hp, rfl⟩ := m1 v hv
    obtain ⟨r, e⟩ := mem_lookup' (l := tbl) (a := p.1) (x := p.2) hp
    exact ⟨rtoks r, by show (tbl.lookup p.1).map rtoks = _; rw [e]; rfl⟩
  · obtain ⟨fs, t1, t2, t3⟩ := key_tups (full (hne h2) hk)
    refine kat_kind (T := .type "tuple") t1 (by omega) (fun f hf => ?_) (beq_self_eq_true _) (by
      have e : (Value.type "tuple" != Value.type "tuple") = false := by simp
      rw [e]
      exact hq)
    obtain ⟨b, k, rfl, its, v, o, g, c, n, d⟩ := t3 f hf
    show Looks _ _ (typeOf (Value.ref _)) (Value.type "tuple")
    exact c ▸ (Looks.ld g).andThen .now
end
end Rs


set_option Elab.async false
set_option linter.all false
set_option maxRecDepth 100000
set_option maxHeartbeats 2000000
/-! # R4: the sort itself: list.sort(key=row_key) upon a new list -/
namespace Rs
open PySem PySem.Spec PyProof.Rows L2 PySem.W PySem.SeqAt
/-- row_key's promise -/
def spRK : Sp := fun vs H Q _ => ∃ (p : Addr) (r : Row), vs = [.ref p] ∧ H p = some (.tup (r.map kV)) ∧ r.length ≤ 1000 ∧
  ∀ (H' : Hp) (q : Addr) (bs : List Addr), Same H H' → H q = none → H' q = some (.tup (bs.map V.ref)) → Paired (fun (b : Addr) (k : L2.Key) => H' b = some (.tup ((vk k).map kV))) bs r → Q (.ref q) H'
/-- rows in order, equal ones as they stood -/
def sortP (ps : List (Addr × Row)) : List (Addr × Row) := ps.mergeSort fun a b => !rowLt b.2 a.2
theorem sortP_perm (ps : List (Addr × Row)) : (sortP ps).Perm ps := List.mergeSort_perm _ _
/-- from the abstract heap to the heap -/
theorem rowAt_of {P : Program} {w : World} {H : Hp} {h : Heap} {p : Addr} {r : Row} (ok : HOk P w H h) (e : H p = some (.tup (r.map kV))) : RowAt h p r := by
  obtain ⟨_, its, v, t⟩ := ok p _ e
  exact ⟨its, v, t⟩
theorem vals_refs {bs : List Addr} {its : List Value} (v : Vals (bs.map V.ref) its) : its = bs.map Value.ref := by
  induction bs generalizing its with
  | nil => cases v; rfl
  | cons b bs ih =>
    cases v with
    | cons h t =>
      obtain rfl := ih t
      cases h
      rfl
theorem refs_vals (bs : List Addr) : Vals (bs.map V.ref) (bs.map Value.ref) := by
  induction bs with
  | nil => exact .nil
  | cons b bs ih => exact .cons rfl ih
/-- row_key's answer, tracked -/
def RKeyH (H : Hp) (p : Addr) (r : Row) : Prop := ∃ bs : List Addr, H p = some (.tup (bs.map V.ref)) ∧ Paired (fun (b : Addr) (k : L2.Key) => H b = some (.tup ((vk k).map kV))) bs r
theorem RKeyH.same {H H' : Hp} {p : Addr} {r : Row} (q : RKeyH H p r) (sm : Same H H') : RKeyH H' p r := by
  obtain ⟨bs, e, t⟩ := q
  exact ⟨bs, sm _ _ e, L2.Paired.mapP t fun _ _ h => sm _ _ h⟩
theorem rkeyAt_of {P : Program} {w : World} {H : Hp} {h : Heap} {p : Addr} {bs : List Addr} {r : Row} (ok : HOk P w H h) (e : H p = some (.tup (bs.map V.ref))) (q : Paired (fun (b : Addr) (k : L2.Key) => H b = some (.tup ((vk k).map kV))) bs r) : RKeyAt h p r := by
  obtain ⟨hz, its, v, t⟩ := ok p _ e
  obtain rfl := vals_refs v
  refine ⟨_, ?_, t⟩
  clear v t e hz
  induction q with
  | nil => exact .nil
  | cons h1 _ ih => exact .cons ⟨_, rfl, rowAt_of ok h1⟩ ih
theorem RKeyAt.one {h : Heap} {p : Addr} {r1 r2 : Row} (a : RKeyAt h p r1) (b : RKeyAt h p r2) : r1 = r2 := by
  obtain ⟨i1, v1, o1, e1, c1, n1, d1⟩ := a
  obtain ⟨i2, v2, o2, e2, c2, n2, d2⟩ := b
  rw [e1] at e2
  cases e2
  rw [d1] at d2
  injection d2 with d3 _
  have e3 : i1 = i2 := by simpa using congrArg Array.toList d3
  subst e3
  clear d3 d1 e1
  induction v1 generalizing r2 with
  | nil => cases v2; rfl
  | cons h1 _ ih =>
    cases v2 with
    | cons h2 t2 =>
      obtain ⟨b, rfl, rb⟩ := h1
      obtain ⟨c, e, rc⟩ := h2
      cases e
      rw [vk_inj.mp (rb.one rc), ih t2]
section
variable {X : Cx} {pins : List (Addr × Obj)} {σ : L2.St} {H : Hp} {s : Shared} {k : Nat} {f : Addr} {fd : FuncData}
/-- a call within two built-ins -/
theorem call_in2 {ps : List Str} {sp : Sp} {Q : VK} {us : List Value} {vs : List V} (F : FnOk X.prog X.w X.K X.mg X.base CX0 k f fd ps sp) (hr : Room (k + 2) X.A) (hb : Binds X.K fd ps []) (I : Inv X pins σ H s) (r : Vals vs us) (h : sp vs H Q E0) :
    wpAny (model X.prog X.w) X.A.in1.in1 (call (.ref f) us) (EP X pins σ Q) (fun _ _ => False) s := by
  have hl : us.length = ps.length := by rw [← r.length]; exact F.len _ _ _ _ h
  have b := hb s us I.kIn (by rw [List.append_nil]; exact hl)
  rw [List.append_nil] at b
  refine wpAny_call (codeAny_mono (F.run X.A.in1.in1 X.stack s H ⟨us, []⟩ us vs Q E0 hr.in1.in1 I.env0.in1.in1 b r h) fun r s' hq => ?_)
  match r, hq with
  | .ok (.ret u), hq => exact I.after hq
/-- what stands in the loop behind some keys: a the list that is sorted (empty meanwhile), S the keys' list; neither is tracked -/
def KeysMade (X : Cx) (pins : List (Addr × Obj)) (σ : L2.St) (H0 : Hp) (a S : Addr) (ep : Nat) (ps : List (Addr × Row)) (s : Shared) : Prop :=
  ∃ (H : Hp) (bs : List Addr) (n : Nat), Inv X pins σ H s ∧ Same H0 H ∧ FpOk X pins H a ∧ s.heap.get? a = some { cls := .type "list", data := .seq #[] ep } ∧ FpOk X pins H S ∧
    s.heap.get? S = some { cls := .type "list", data := .seq (bs.map Value.ref).toArray n } ∧ Paired (fun (b : Addr) (p : Addr × Row) => RKeyH H b p.2) bs ps
/-- two records of ours turn: the sorted list stands at a, and is tracked from here on -/
theorem Inv.sorted {h' : Heap} {a S : Addr} {ys : List V} {its : List Value} {n tk : Nat} (I : Inv X pins σ H s) (hA : FpOk X pins H a) (hS : FpOk X pins H S)
    (keep : ∀ b o, b ≠ a → b ≠ S → s.heap.get? b = some o → h'.get? b = some o) (new : h'.get? a = some { cls := .type "list", data := .seq its.toArray n }) (v : Vals ys its) (hz : ys.length ≤ sizeLine) :
    Inv X pins σ (upd H a (.lst ys)) { s with heap := h', toks := tk } := by
  have out : ∀ {b : Addr}, b ∉ [a, S] → b ≠ a ∧ b ≠ S := fun h => ⟨fun z => h (by simp [z]), fun z => h (by simp [z])⟩
  have nA : ∀ b u, H b = some u → b ≠ a := fun b u e z => by rw [z, hA.1] at e; cases e
  have nS : ∀ b u, H b = some u → b ≠ S := fun b u e z => by rw [z, hS.1] at e; cases e
  have same : ∀ b u, H b = some u → upd H a (.lst ys) b = some u := fun b u e => by
    rw [upd_ne (nA b u e)]
    exact e
  refine I.step (g' := s.gens) (d' := s.drawn) (ch := [a, S]) (fun b hb => ?_) (fun b o _ _ hc e _ => keep b o (out hc).1 (out hc).2 e) (fun b o _ _ hc e _ => ⟨o.slots, keep b o (out hc).1 (out hc).2 e⟩)
    (fun b o hc e n0 => by rw [upd_ne (out hc).1]; exact n0) (fun b o hc e => ⟨o, keep b o (out hc).1 (out hc).2 e⟩) (fun b xs e => same b _ e) (fun b o u e => same b _ e) (fun b qs e => ⟨#[], by rw [same b _ e]; simp⟩) (fun m hm => ?_) (fun b u e => ?_) I.bare
  · have hb' : b = a ∨ b = S := by simpa using hb
    rcases hb' with rfl | rfl
    · exact ⟨hA.2.2.2.1, hA.2.1, hA.2.2.2.2.1, hA.2.2.2.2.2⟩
    · exact ⟨hS.2.2.2.1, hS.2.1, hS.2.2.2.2.1, hS.2.2.2.2.2⟩
  · obtain ⟨o, es, q, ho, r⟩ := hm
    exact ⟨o, es, q, keep _ o (Ne.symm hA.2.1) (Ne.symm hS.2.1) ho, r⟩
  · by_cases z : b = a
    · rw [z, upd_same] at e
      cases e
      rw [z]
      exact ⟨hz, its, n, v, new⟩
    · rw [upd_ne z] at e
      refine (I.hok b u e).stay (fun c o hc q => keep c o ?_ ?_ q) (fun c q => same c _ q) fun c xs q => same c _ q
      · rcases hc with hc | hc
        · rw [hc]; exact z
        · exact nA c _ hc
      · rcases hc with hc | hc
        · rw [hc]; exact nS b u e
        · exact nS c _ hc
end
end Rs


set_option Elab.async false
set_option linter.all false
set_option maxRecDepth 100000
set_option maxHeartbeats 2000000
/-! # R5: the sort, key after key -/
namespace Rs
open PySem PySem.Spec PyProof.Rows L2 PySem.W PySem.SeqAt
section
variable {X : Cx} {pins : List (Addr × Obj)} {σ : L2.St} {H : Hp} {s : Shared} {k : Nat} {f : Addr} {fd : FuncData}
theorem pinned_get {l : List Addr} {S : Addr} {o : Obj} {s0 s1 : Shared} {H1 : Hp} (hS : S ∈ l) (e : s0.heap.get? S = some o) (I : Inv X (pins ++ pinsAt l s0.heap) σ H1 s1) : s1.heap.get? S = some o ∧ H1 S = none :=
  let z := I.pin (S, o) (List.mem_append_right _ (List.mem_append_right _ (mem_pinsAt hS e)))
  ⟨z.1, z.2.1⟩
theorem FpOk.same {H1 : Hp} {S : Addr} (h : FpOk X pins H S) (n : H1 S = none) : FpOk X pins H1 S := ⟨n, h.2⟩
theorem snocP {α β : Type} {R : α → β → Prop} : ∀ {l : List α} {m : List β} {x : α} {y : β}, Paired R l m → R x y → Paired R (l ++ [x]) (m ++ [y])
  | _, _, _, _, .nil, h => .cons h .nil
  | _, _, _, _, .cons h t, q => .cons h (snocP t q)
/-- one key -/
theorem key_turn (F : FnOk X.prog X.w X.K X.mg X.base CX0 k f fd ["row"] spRK) (hr : Room (k + 2) X.A) (hb : Binds X.K fd ["row"] []) {H0 : Hp} {a S c : Addr} {r : Row} {ep : Nat} {ps : List (Addr × Row)} {E : Value → Shared → Prop}
    (hc : H0 c = some (.tup (r.map kV))) (hl : r.length ≤ 1000) (hz : ps.length < sizeLine) (haS : a ≠ S) (M : KeysMade X pins σ H0 a S ep ps s) :
    wpAny (model X.prog X.w) X.A.in1.in1 (call (.ref f) [.ref c]) (fun u s2 => ∀ Q : PUnit → Shared → Prop, (∀ s', KeysMade X pins σ H0 a S ep (ps ++ [(c, r)]) s' → Q ⟨⟩ s') →
      wpAny (model X.prog X.w) X.A.in1.in1 (Builtin.List.listUpdate (.ref S) (·.push u)) Q E s2) (fun _ _ => False) s := by
  obtain ⟨H1, bs, n, I1, sm, fA, hA, fS, hS, pk⟩ := M
  have Ip := I1.pinned (fp := [a, S]) (fun b hb => by
    have hb' : b = a ∨ b = S := by simpa using hb
    rcases hb' with rfl | rfl
    · exact fA
    · exact fS) (fun b hb => by
    have hb' : b = a ∨ b = S := by simpa using hb
    rcases hb' with rfl | rfl
    · exact ⟨_, hA, fun v z => by cases z⟩
    · exact ⟨_, hS, fun v z => by cases z⟩)
  have lb : bs.length = ps.length := Paired.length pk
  refine wpAny_mono (call_in2 (Q := fun v H' => ∃ q, v = .ref q ∧ Same H1 H' ∧ ∃ bs', H' q = some (.tup (bs'.map V.ref)) ∧ Paired (fun (b : Addr) (k : L2.Key) => H' b = some (.tup ((vk k).map kV))) bs' r) F hr hb Ip (us := [.ref c]) (vs := [.ref c]) (.cons rfl .nil)
    ⟨c, r, rfl, sm _ _ hc, hl, fun H' q bs' s1 _ e1 e2 => ⟨q, rfl, s1, bs', e1, e2⟩⟩) (fun u s2 h => ?_) fun _ _ z => z.elim
  obtain ⟨v, H2, I2, rv, q2, rfl, sm2, bs', hq, hbs⟩ := h
  obtain rfl : u = Value.ref q2 := rv
  obtain ⟨hS2, nS2⟩ := pinned_get (by simp) hS I2
  obtain ⟨hA2, nA2⟩ := pinned_get (by simp) hA I2
  have I3 := I2.unpinned
  have fS2 := FpOk.same fS nS2
  have fA2 := FpOk.same fA nA2
  have hsz : (bs.map Value.ref).toArray.size = ps.length := by rw [List.size_toArray, List.length_map]; exact lb
  intro Q q
  refine listUpdate_at hS2 rfl (q _ ?_) (by rw [hsz]; omega) (by rw [Array.size_push, hsz]; omega)
  have kp : ∀ b o, b ≠ S → s2.heap.get? b = some o → (s2.heap.update S (Obj.mapSeq (·.push (.ref q2)))).get? b = some o := fun b o hb e => (Heap.get?_update_other _ _ (Ne.symm hb)).trans e
  have I4 : Inv X pins σ H2 { s2 with heap := s2.heap.update S (Obj.mapSeq (·.push (.ref q2))), toks := s2.toks } := I3.turnedL (ch := [S]) (fun b o hb e => kp b o (fun z => hb (by simp [z])) e) fun b hb => by rw [List.mem_singleton.mp hb]; exact fS2
  have e4 := PySem.IsL.update hS2 (·.push (Value.ref q2))
  have ea : (bs.map Value.ref).toArray.push (Value.ref q2) = ((bs ++ [q2]).map Value.ref).toArray := by
    rw [List.map_append]
    simp
  rw [ea] at e4
  refine ⟨H2, bs ++ [q2], _, I4, sm.trans sm2, fA2, kp _ _ haS hA2, fS2, e4, ?_⟩
  exact snocP (L2.Paired.mapP pk fun b p h => h.same sm2) ⟨bs', hq, hbs⟩
/-- which row's key stands where -/
def tblOf (bs : List Addr) (ps : List (Addr × Row)) : List (Addr × Row) := (bs.zip ps).map fun x => (x.1, x.2.2)
theorem each_refs : ∀ ps : List (Addr × Row), EachIs (fun (v : Value) (p : Addr × Row) => v = .ref p.1) (ps.map fun p => Value.ref p.1) ps
  | [] => .nil
  | _ :: ps => .cons rfl (each_refs ps)
theorem of_each : ∀ {vs : List Value} {ps : List (Addr × Row)}, EachIs (fun (v : Value) (p : Addr × Row) => v = .ref p.1) vs ps → vs = ps.map fun p => Value.ref p.1
  | _, _, .nil => rfl
  | _, _, .cons h t => by rw [h, of_each t]; rfl
theorem tbl_of {h : Heap} {bs : List Addr} {ps : List (Addr × Row)} (q : Paired (fun (b : Addr) (p : Addr × Row) => RKeyAt h b p.2) bs ps) :
    Paired (fun (v : Value) (p : Addr × Row) => v = .ref p.1 ∧ RKeyAt h p.1 p.2) (bs.map Value.ref) (tblOf bs ps) ∧ (∀ p ∈ tblOf bs ps, ∃ p' ∈ ps, p.2 = p'.2) ∧
      EachIs (fun (v : Value) (p : Addr × Row) => (rowKind (tblOf bs ps)).keyOf v = some (rtoks p.2)) (bs.map Value.ref) ps := by
  have a1 : ∀ {bs : List Addr} {ps : List (Addr × Row)}, Paired (fun (b : Addr) (p : Addr × Row) => RKeyAt h b p.2) bs ps → Paired (fun (v : Value) (p : Addr × Row) => v = .ref p.1 ∧ RKeyAt h p.1 p.2) (bs.map Value.ref) (tblOf bs ps) := by
    intro bs ps q
    induction q with
    | nil => exact .nil
    | cons h1 _ ih => exact .cons ⟨rfl, h1⟩ ih
  have a2 : ∀ p ∈ tblOf bs ps, RKeyAt h p.1 p.2 ∧ ∃ p' ∈ ps, p.2 = p'.2 := by
    clear a1
    induction q with
    | nil => exact fun p hp => absurd hp (by simp [tblOf])
    | cons h1 _ ih =>
      rename_i b p' bs' ps' _
      intro p hp
      have hp2 : p = (b, p'.2) ∨ p ∈ tblOf bs' ps' := by simpa [tblOf] using hp
      rcases hp2 with rfl | hp2
      · exact ⟨h1, p', List.mem_cons_self, rfl⟩
      · obtain ⟨r1, p'', m, e⟩ := ih p hp2
        exact ⟨r1, p'', List.mem_cons_of_mem _ m, e⟩
  refine ⟨a1 q, fun p hp => (a2 p hp).2, ?_⟩
  have a3 : ∀ {cs : List Addr} {qs : List (Addr × Row)}, Paired (fun (b : Addr) (p : Addr × Row) => RKeyAt h b p.2) cs qs → (∀ x ∈ cs.zip qs, (x.1, x.2.2) ∈ tblOf bs ps) → EachIs (fun (v : Value) (p : Addr × Row) => (rowKind (tblOf bs ps)).keyOf v = some (rtoks p.2)) (cs.map Value.ref) qs := by
    intro cs qs q hm
    induction q with
    | nil => exact .nil
    | cons h1 _ ih =>
      rename_i b p' cs' qs' _
      refine .cons ?_ (ih fun x hx => hm x (List.mem_cons_of_mem _ hx))
      have m := hm (b, p') List.mem_cons_self
      obtain ⟨r, e⟩ := mem_lookup' m
      have e2 : r = p'.2 := (a2 _ (lookup_mem e)).1.one h1
      show ((tblOf bs ps).lookup b).map rtoks = _
      rw [e, e2]
      rfl
  exact a3 q fun x hx => List.mem_map.mpr ⟨x, hx, rfl⟩
/-- THE SORT: the list at a (its items the rows' addresses) is sorted by row_key -/
theorem sort_core (F : FnOk X.prog X.w X.K X.mg X.base CX0 k f fd ["row"] spRK) (hr : Room (k + 2) X.A) (hb : Binds X.K fd ["row"] []) {a : Addr} {n : Nat} {ps : List (Addr × Row)} {P : PySem.Fin → Shared → Prop} {E : Value → Shared → Prop}
    (I : Inv X pins σ H s) (fA : FpOk X pins H a) (hA : s.heap.get? a = some { cls := .type "list", data := .seq (ps.map fun p => Value.ref p.1).toArray n }) (hz : ps.length ≤ sizeLine) (hp : ∀ p ∈ ps, H p.1 = some (.tup (p.2.map kV)) ∧ p.2.length ≤ 1000)
    (hne : 2 ≤ ps.length → ∀ p ∈ ps, p.2 ≠ []) (q : ∀ H' s', Inv X pins σ H' s' → Same H H' → H' a = some (.lst ((sortP ps).map fun p => V.ref p.1)) → P (.done (.ret .none)) s') :
    wpAny (model X.prog X.w) X.A.in1.in1 (ksk_tree a (.ref f) false) P E s := by
  have lz : (ps.map fun p => Value.ref p.1).length = ps.length := List.length_map _
  unfold ksk_tree
  refine wpAny_bind (listItems_at hA rfl ?_)
  refine wpAny_bind (listUpdate_at hA rfl ?_ (by rw [List.size_toArray, lz]; exact hz) (Nat.zero_le _))
  have k1 : ∀ b o, b ≠ a → s.heap.get? b = some o → (s.heap.update a (Obj.mapSeq fun _ => (#[] : Array Value))).get? b = some o := fun b o hb e => (Heap.get?_update_other _ _ (Ne.symm hb)).trans e
  have I1 : Inv X pins σ H { s with heap := s.heap.update a (Obj.mapSeq fun _ => (#[] : Array Value)), toks := s.toks } := I.turnedL (ch := [a]) (fun b o hb e => k1 b o (fun z => hb (by simp [z])) e) fun b hb => by rw [List.mem_singleton.mp hb]; exact fA
  have e1 := PySem.IsL.update hA fun _ => (#[] : Array Value)
  obtain ⟨ep, e1⟩ : ∃ ep, (s.heap.update a (Obj.mapSeq fun _ => (#[] : Array Value))).get? a = some { cls := .type "list", data := .seq #[] ep } := ⟨_, e1⟩
  refine wpAny_bind (seqEpoch_at e1 rfl ?_)
  refine wpAny_bind (wpAny_newTuple ?_ (by show (ps.map fun p => Value.ref p.1).length ≤ _; rw [lz]; exact hz))
  refine wpAny_bind (wpAny_newList ?_ (Nat.zero_le _))
  refine wpAny_holding ?_
  generalize hs1 : s.heap.update a (Obj.mapSeq fun _ => (#[] : Array Value)) = h1 at I1 e1 k1 ⊢
  have I2 : Inv X pins σ H { s with heap := h1.push { cls := .type "tuple", data := .seq (ps.map fun p => Value.ref p.1).toArray }, toks := s.toks } := I1.kept fun b o e => Heap.get?_push_of_some _ e
  generalize hs2 : h1.push { cls := .type "tuple", data := .seq (ps.map fun p => Value.ref p.1).toArray } = h2 at I2
  have e2 : h2.get? a = some { cls := .type "list", data := .seq #[] ep } := by rw [← hs2]; exact Heap.get?_push_of_some _ e1
  have I3 : Inv X pins σ H { s with heap := h2.push { cls := .type "list", data := .seq #[] }, toks := s.toks } := I2.kept fun b o e => Heap.get?_push_of_some _ e
  have fS : FpOk X pins H h2.objs.size := I2.fpOk (Nat.le_refl _) (I2.hok.fresh (Nat.le_refl _))
  have haS : a ≠ h2.objs.size := Nat.ne_of_lt (Heap.lt_size e2)
  have M0 : KeysMade X pins σ H a h2.objs.size ep [] { s with heap := h2.push { cls := .type "list", data := .seq #[] } } :=
    ⟨H, [], 0, I3, Same.refl _, fA, Heap.get?_push_of_some _ e2, fS, Heap.get?_push_size _ rfl, .nil⟩
  have hits : (Array.toList (ps.map fun p => Value.ref p.1).toArray) = ps.map fun p => Value.ref p.1 := by simp
  generalize hS : h2.objs.size = S at fS haS M0
  have goal : wpAny (model X.prog X.w) X.A.in1.in1 (ksk_rest a (.ref f) false (ps.map fun p => Value.ref p.1).toArray ep (.ref S)) P E { s with heap := h2.push { cls := .type "list", data := .seq #[] } } := by
    unfold ksk_rest
    refine wpAny_bind (wpAny_rule ?_)
    rw [List.forIn_toArray]
    refine wpAny_bind (ksk_fold (fun i s' => KeysMade X pins σ H a S ep (ps.take i) s') _ 0 _ M0 ?step ?done)
    case step =>
      intro j x s' hx M
      rw [List.getElem?_map] at hx
      obtain ⟨p, hpj, rfl⟩ := Option.map_eq_some_iff.mp hx
      have hpm := List.mem_of_getElem? hpj
      have hj : j < ps.length := (List.getElem?_eq_some_iff.mp hpj).1
      simp only [Nat.zero_add] at M ⊢
      refine wpAny_bind (wpAny_attempt (wpAny_mono (key_turn (E := E) F hr hb (hp p hpm).1 (hp p hpm).2 (by rw [List.length_take]; omega) haS M) (fun u s2 h => ?_) fun _ _ z => z.elim))
      refine wpAny_bind (h _ fun s3 M3 => wpAny_pure ⟨rfl, ?_⟩)
      have et : ps.take (j + 1) = ps.take j ++ [(p.1, p.2)] := by rw [List.take_add_one, hpj]; simp
      rw [et]
      exact M3
    case done =>
      rintro s' ⟨H1, bs, n1, J, sm, gA, gA2, gS, gS2, pk⟩
      rw [List.length_map, Nat.zero_add, List.take_of_length_le (Nat.le_refl _)] at pk
      have lb : bs.length = ps.length := Paired.length pk
      obtain ⟨G, g1, g2⟩ := L2.restrict s'.heap fun b => decide (b ≠ S)
      have pk2 : Paired (fun (b : Addr) (p : Addr × Row) => RKeyAt s'.heap b p.2) bs ps := L2.Paired.mapP pk fun b p ⟨cs, e, t⟩ => rkeyAt_of J.hok e t
      obtain ⟨tb1, tb2, tb3⟩ := tbl_of pk2
      refine wpAny_bind (listItems_at gS2 rfl ?_)
      refine keyH_end (κ := rowKind (tblOf bs ps)) (h₁ := G) (fun b o hb e => ?_) (g2 S (by simp)) gS2 gA2 (Ne.symm haS) (rows_sort (by simpa using tb1) (fun h2 p hp => ?_) (by have := hr.in1.in1.units; omega)) (by rw [List.size_toArray, List.length_map, List.length_map]; exact lb) (by rw [lz]; exact hz) fun h' tk c kb new => ?_
      · by_cases z : b = S
        · rw [z, g2 S (by simp)] at e
          cases e
        · rw [g1 b (by simp [z])] at e
          exact e
      · obtain ⟨p', hp', e⟩ := tb2 p hp
        rw [e]
        exact hne (by
          have h3 : 2 ≤ bs.length := by simpa using h2
          omega) p' hp'
      · have ev : (sortVals (rowKind (tblOf bs ps)) false (bs.map Value.ref).toArray.toList (ps.map fun p => Value.ref p.1)) = (sortP ps).map fun p => Value.ref p.1 := by
          have e1 : EachIs (fun (v : Value) (p : Addr × Row) => v = .ref p.1) (ps.map fun p => Value.ref p.1) ps := each_refs ps
          have e2 := sortVals_each (κ := rowKind (tblOf bs ps)) (rev := false) (fun p : Addr × Row => rtoks p.2) e1 (ks := (bs.map Value.ref).toArray.toList) (by rw [show (bs.map Value.ref).toArray.toList = bs.map Value.ref from by simp]; exact tb3)
          exact of_each e2
        rw [ev] at new
        refine q (upd H1 a (.lst ((sortP ps).map fun p => V.ref p.1))) _ (Inv.sorted J gA gS (fun b o hb hb2 e => kb b o hb (by rw [g1 b (by simp [hb2])]; exact e)) new ?_ ?_) (sm.trans fun b o e => ?_) upd_same
        · have e3 := refs_vals ((sortP ps).map fun p => p.1)
          rw [List.map_map, List.map_map] at e3
          exact e3
        · rw [List.length_map, (sortP_perm ps).length_eq]
          exact hz
        · rw [upd_ne (fun z => by rw [z, gA.1] at e; cases e)]
          exact e
  subst hS
  exact goal
end
end Rs


set_option Elab.async false
set_option linter.all false
set_option maxRecDepth 100000
set_option maxHeartbeats 2000000
/-! # R6: sorted(e, key=row_key) as rules: e a list of rows, e a dict whose keys are rows -/
namespace Rs
open PySem PySem.Spec PyProof.Rows L2 PySem.W PySem.SeqAt
/-- sorted(l, key=row_key), l a list of rows -/
def rSortL (K : PySem.W.Frag) (f : Addr) : List V → List V → Hp → VK → Prop := fun vs zs H Q => ∃ (a : Addr) (ps : List (Addr × Row)), vs = [.ref a] ∧ zs = [.ref f] ∧ SqL K H a (ps.map fun p => V.ref p.1) ∧
  (∀ p ∈ ps, H p.1 = some (.tup (p.2.map kV)) ∧ p.2.length ≤ 1000) ∧ (2 ≤ ps.length → ∀ p ∈ ps, p.2 ≠ []) ∧
  ∀ H' q, Same H H' → H q = none → H' q = some (.lst ((sortP ps).map fun p => V.ref p.1)) → Q (.ref q) H'
/-- sorted(d, key=row_key), d a dict whose keys are rows -/
def rSortD (f : Addr) : List V → List V → Hp → VK → Prop := fun vs zs H Q => ∃ (d : Addr) (kvs : List (Row × V)), vs = [.ref d] ∧ zs = [.ref f] ∧ Rd H d (.dT kvs) ∧
  (∀ p ∈ kvs, p.1.length ≤ 1000) ∧ (2 ≤ kvs.length → ∀ p ∈ kvs, p.1 ≠ []) ∧
  ∀ (ps : List (Addr × Row)) H' q, ps.map (·.2) = kvs.map (·.1) → (∀ p ∈ ps, H p.1 = some (.tup (p.2.map kV))) → Same H H' → H q = none → H' q = some (.lst ((sortP ps).map fun p => V.ref p.1)) → Q (.ref q) H'
theorem kt_rows {H : Hp} {kvs : List (Row × V)} {ks : List (Row × Addr × Value)} (h : Paired (fun (p : Row × V) (q : Row × Addr × Value) => p.1 = q.1 ∧ H q.2.1 = some (.tup (p.1.map kV)) ∧ RelV p.2 q.2.2) kvs ks) :
    (ks.map fun x => (x.2.1, x.1)).map (fun p : Addr × Row => p.2) = kvs.map (fun p => p.1) ∧ ∀ p ∈ (ks.map fun x => (x.2.1, x.1) : List (Addr × Row)), H p.1 = some (.tup (p.2.map kV)) := by
  induction h with
  | nil => exact ⟨rfl, fun p hp => absurd hp (by simp)⟩
  | cons h1 _ ih =>
    refine ⟨?_, fun p hp => ?_⟩
    · have e := ih.1
      simp only [List.map_cons, h1.1]
      rw [e]
    · rcases List.mem_cons.mp hp with rfl | hp
      · dsimp only
        rw [← h1.1]
        exact h1.2.1
      · exact ih.2 p hp
section
variable {X : Cx} {k : Nat} {f : Addr} {fd : FuncData}
theorem vals1' {zs : List V} {ws : List Value} {a : Addr} (rz : Vals zs ws) (e : zs = [.ref a]) : ws = [Value.ref a] := by
  subst e
  obtain ⟨u, rfl, ru⟩ := L2.vals1 rz
  obtain rfl : u = Value.ref a := ru
  rfl
theorem cr_sortL (hc : X.calm = true) (F : FnOk X.prog X.w X.K X.mg X.base CX0 k f fd ["row"] spRK) (hr : Room (k + 2) X.A) (hb : Binds X.K fd ["row"] []) : CallRK X (.builtin "sorted") [Str.ofString "key"] (rSortL X.K f) := by
  intro pins s σ H vs zs us ws Q I r rz h
  obtain ⟨a, ps, ev, ez, hs, hp, hne, q⟩ := h
  obtain rfl := vals1' r ev
  obtain rfl := vals1' rz ez
  obtain ⟨its, rv, hl, hz⟩ := I.list hs
  have ei : its = ps.map fun p => Value.ref p.1 := by
    have e : (ps.map fun p => V.ref p.1) = (ps.map fun p => p.1).map V.ref := by rw [List.map_map]; rfl
    rw [e] at rv
    rw [vals_refs rv, List.map_map]
    rfl
  subst ei
  rw [List.length_map] at hz
  refine sorted_of_sort hl.isList (by rw [List.length_map]; exact hz) (ksk_s1 _ _) (fun _ => ksk_l1 _ _) fun E' => ?_
  show wpAny _ _ (Builtin.«list.sort» ⟨[.ref (s.heap.objs.size + 1)], [(Str.ofString "key", .ref f)]⟩) _ _ _
  rw [ksk_t1]
  have I1 : Inv X pins σ H { s with heap := copyHeap s.heap (ps.map fun p => Value.ref p.1), toks := s.toks } := I.kept fun b o e => copyHeap_old e
  have fA : FpOk X pins H (s.heap.objs.size + 1) := I.fpOk (Nat.le_succ _) (I.hok.fresh (Nat.le_succ _))
  exact sort_core (s := { s with heap := copyHeap s.heap (ps.map fun p => Value.ref p.1) }) F hr hb I1 fA (copyHeap_at _ _) hz hp hne fun H' s' J sm ha => ⟨rfl, V.ref _, H', J, rfl, q H' _ sm fA.1 ha⟩
theorem cr_sortD (hc : X.calm = true) (F : FnOk X.prog X.w X.K X.mg X.base CX0 k f fd ["row"] spRK) (hr : Room (k + 2) X.A) (hb : Binds X.K fd ["row"] []) : CallRK X (.builtin "sorted") [Str.ofString "key"] (rSortD f) := by
  intro pins s σ H vs zs us ws Q I r rz h
  obtain ⟨d, kvs, ev, ez, hd, hlen, hne, q⟩ := h
  obtain rfl := vals1' r ev
  obtain rfl := vals1' rz ez
  obtain ⟨z, hs, ks, pr, o, es, ep, ho, hx, hdt, he, hn⟩ := (show ObjOk X.prog X.w H s.heap d (.dT kvs) from hd.ok I.hok)
  have l1 : es.size = ks.length := size_of_entries he
  have l2 : kvs.length = ks.length := Paired.length pr
  refine call_function_entry_kw kind_sorted plain_sorted entry_sorted (ksk_s1 _ _) ?_
  unfold Builtin.«sorted»
  refine wpAny_bind (m := checkCount "sorted" 1 1 _) (wpAny_pure ?_)
  refine wpAny_bind (PySem.W.kdu_collect (A := X.A.in1) (kdl_raw hs hx hdt) (I.ok.hd hc) ho (by omega) fun h' tk acc hk hacc => ?_)
  have I1 : Inv X pins σ H { s with heap := h', toks := tk } := I.kept hk
  -- the items: the keys' tuples
  have ea : acc.toList = ks.map fun x => Value.ref x.2.1 := by
    have hl : acc.toList.length = ks.length := by rw [Array.length_toList, hacc.1]; exact l1
    refine List.ext_getElem? fun j => ?_
    rw [List.getElem?_map]
    cases hj : acc.toList[j]? with
    | none =>
      rw [List.getElem?_eq_none (by have := List.getElem?_eq_none_iff.mp hj; omega)]
      rfl
    | some v =>
      obtain ⟨en, hen, hv⟩ := hacc.2 j v (by rw [← Array.getElem?_toList]; exact hj)
      have qe := entry_at he j
      rw [hen] at qe
      cases hb : ks[j]? with
      | none =>
        rw [hb] at qe
        exact nomatch (show some en = none from qe)
      | some b =>
        rw [hb] at qe
        have e2 : en = entryOfKey (tupleKind (mixKind X.prog X.w)) b := Option.some.inj qe
        rw [hv, e2]
        rfl
  obtain ⟨ps, e1, e2, e3⟩ : ∃ ps : List (Addr × Row), ps.map (fun p => Value.ref p.1) = acc.toList ∧ ps.map (·.2) = kvs.map (·.1) ∧ ∀ p ∈ ps, H p.1 = some (.tup (p.2.map kV)) := by
    refine ⟨ks.map fun x => (x.2.1, x.1), by rw [ea, List.map_map]; rfl, ?_⟩
    exact kt_rows pr
  have lps : ps.length = ks.length := by
    have e := congrArg List.length e2
    rw [List.length_map, List.length_map] at e
    omega
  have lac : acc.toList.length = ks.length := by rw [← e1, List.length_map]; exact lps
  have mem : ∀ p ∈ ps, ∃ p' ∈ kvs, p.2 = p'.1 := fun p hp => by
    have m : p.2 ∈ ps.map (·.2) := List.mem_map.mpr ⟨p, hp, rfl⟩
    rw [e2] at m
    obtain ⟨p', h1, h2⟩ := List.mem_map.mp m
    exact ⟨p', h1, h2.symm⟩
  refine wpAny_bind (wpAny_newList ?_ (by rw [lac]; omega))
  have hoL : (h'.push (seqObj "list" acc.toList.toArray 0)).get? h'.objs.size = some (seqObj "list" acc.toList.toArray 0) := Heap.get?_push_size _ rfl
  show wpAny _ _ _ _ _ { s with heap := h'.push (seqObj "list" acc.toList.toArray 0), toks := tk }
  have I2 : Inv X pins σ H { s with heap := h'.push (seqObj "list" acc.toList.toArray 0), toks := tk } := I1.kept fun b o e => Heap.get?_push_of_some _ e
  have fA : FpOk X pins H h'.objs.size := I1.fpOk (Nat.le_refl _) (I1.hok.fresh (Nat.le_refl _))
  refine wpAny_bind (wpAny_holding (wpAny_call_entry_kw slot_list_sort ⟨_, hoL, rfl⟩ entry_list_sort ?body (ksk_l1 _ _)))
  case body =>
    show wpAny _ _ (Builtin.«list.sort» ⟨[.ref h'.objs.size], [(Str.ofString "key", .ref f)]⟩) _ _ _
    rw [ksk_t1]
    rw [← e1] at hoL I2 ⊢
    refine sort_core (s := { s with heap := h'.push (seqObj "list" (ps.map fun p => Value.ref p.1).toArray 0), toks := tk }) F hr hb I2 fA hoL (by omega) (fun p hp => ?_) (fun h2 p hp => ?_) fun H' s' J sm ha => ⟨_, rfl, wpAny_pure ⟨_, rfl, V.ref _, H', J, rfl, q ps H' _ e2 e3 sm fA.1 ha⟩⟩
    · obtain ⟨p', h1, h2⟩ := mem p hp
      exact ⟨e3 p hp, by rw [h2]; exact hlen p' h1⟩
    · obtain ⟨p', h1, h3⟩ := mem p hp
      rw [h3]
      exact hne (by omega) p' h1
end
end Rs


set_option Elab.async false
set_option linter.all false
set_option maxRecDepth 100000
set_option maxHeartbeats 2000000
/-! # R7: dict comprehensions of either kind (keys ints and texts, or rows), as values and given to a name -/
namespace Rs
open PySem PySem.Spec PyProof.Rows L2 PySem.W
section
variable {X : Cx}
/-- the new dict's first state, by its kind of keys -/
def emptyD : Bool → HO
  | true => .dT []
  | false => .dK []
theorem dset {pins : List (Addr × Obj)} {σ : L2.St} {H H' : Hp} {s : Shared} {E : Value → Shared → Prop} {d : Addr} {y v : V} {u r : Value} {Q : Unit → Shared → Prop} (hu : X.A.units + 1 < cLine) (I : Inv X pins σ H s) (p : DPut H d y v H')
    (ry : RelV y u) (rv : RelV v r) (h : ∀ s', Inv X pins σ H' s' → Q () s') : wpAny (model X.prog X.w) X.A (dictSet d u r) Q E s := by
  rcases p with ⟨kvs, k, e, rfl, hl, rfl⟩ | ⟨kvs, k, b, e, rfl, eb, hl, rfl⟩
  · exact d_dictSet I e hl ry rv h
  · obtain rfl : u = Value.ref b := ry
    obtain ⟨z, hd, xs, rel, dd⟩ := dt_of I.hok e
    have l1 : xs.length ≤ sizeLine := by rw [← Paired.length rel]; exact z
    have l2 : (putK kvs k v).length ≤ sizeLine := by have := length_putK kvs k v; omega
    have room : (tupleKind (mixKind X.prog X.w)).room X.A := (show X.A.units < cLine by omega)
    refine wpAny_dictSet_heap (hsz := l1) room (key_of I.hok eb) dd fun h' dd' hs => h _ ?_
    obtain ⟨q, es, ep, hq, h2, h3, h4, _, h5⟩ := dd'
    refine d_write I (by rw [e]; exact True.intro) hs ⟨q, hq⟩ ⟨l2, hd, _, (rel.put k eb rv).keeps fun c ys ec => ?_, q, es, ep, hq, h2, h3, h4, h5⟩
    rw [upd_ne (ne_of ec e (fun z => nomatch z))]
    exact ec
abbrev Blk (X : Cx) (scope : Scope) (s : Shared) (H : Hp) (C : Addr) (cl : List (Str × Addr)) (fp : List Addr) : Cx := X.blk s H scope (compEnvC scope cl C X.env) fp
/-- {key: value for target in iter if ..}; rows: are its keys rows? -/
def tDg (rows : Bool) (wi : TI) (g : TG) (tt : TT) (tk tv : TE) (own : List Nat) : TE := fun σ H Q => wi σ H fun J H1 => ∀ d, H1 d = none → ∃ W : Nat → Nat → Hp → Prop, (∃ m, W 0 m (upd H1 d (emptyD rows))) ∧ ∀ i m H2, W i m H2 →
  (J.stop i H2 ∧ Q (.ref d) H2) ∨ (J.go i H2 ∧ ∃ Nx : Hp → Prop, (∀ H3, Nx H3 → ∃ m', m' < m ∧ W (i + 1) m' H3) ∧ ∀ x H3, J.yld i H2 x H3 → g x (wipe σ own) H3 fun σ1 H4 => wipe σ1 own = wipe σ own ∧ tt σ1 H4 fun c H5 =>
    if c = true then tk σ1 H5 fun y H6 => tv σ1 H6 fun z H7 => ∃ H8, DPut H7 d y z H8 ∧ Nx H8 else Nx H5)
theorem dg_core {rows : Bool} {pins : List (Addr × Obj)} {s : Shared} {σ : L2.St} {H : Hp} {Q : VK} {ke ve tg it0 : Expr} {ifs : List Expr} {scope : Scope} {own : List (Str × Nat)} {pos pos' : Pos} {wi : TI} {g : TG} {tt : TT} {tk tv : TE} {use : Option (Value → Sem Unit)} {Qf : Value → Shared → Prop}
    (hu : X.A.units + 1 < cLine) (hc : X.calm = true) (hN : X.N.Nodup) (I : Inv X pins σ H s) (hi : PI X tg it0 wi) (ok : BlkOk X.N X.env.scope scope own)
    (hg : ∀ s H C cl fp, PG (Blk X scope s H C cl fp) tg g) (ht : ∀ s H C cl fp, PTs (Blk X scope s H C cl fp) ifs tt) (hk : ∀ s H C cl fp, PE (Blk X scope s H C cl fp) ke tk) (hv : ∀ s H C cl fp, PE (Blk X scope s H C cl fp) ve tv)
    (hs : ∀ x, foldedSetIterable it0 X.env x = pure x) (h : tDg rows wi g tt tk tv (own.map (·.2)) σ H Q)
    (back : ∀ d C s' m H', Inv X pins σ H' s' → Q (.ref d) H' → s'.heap.Ns C m → FpOk X pins H' C → compPost (model X.prog X.w) X.A X.xe use Qf (.ref d) C (.ok .next) s') :
    wpAny (model X.prog X.w) X.A (comprehension (.DictComp ke ve [⟨tg, it0, ifs, 0⟩] scope pos) scope X.env pos' newDict false (eval it0 X.env) use) Qf X.xe s := by
  have hfree : ∀ y ∈ scope.names, y.2 = .free → ∃ c, X.env.cells.lookup y.1 = some c := fun y hy e => (ok.free y hy e).elim (fun z => I.ok.has _ (.inl z)) fun z => I.ok.has _ (.inr z)
  refine wpAny_comprehension_free (use := use) rfl hs (closure_ok hfree) ok.kind (fun y hy e => by rw [ok.uniq y hy, e]) (thn (hi.run pins s σ H _ I h) fun xv s1 hx => thn hx fun iv s2 h2 => ?_)
  obtain ⟨it, fp, tn, J, H2, rfl, I2, T, st2, f2, q⟩ := h2
  refine wpAny_newObj_type (newEnv_comp ?_)
  generalize hd : s2.heap.objs.size = d
  obtain ⟨W, ⟨m0, w0⟩, turn⟩ := q d (I2.hok.fresh (Nat.le_of_eq hd))
  have hp3 : ({ s2 with heap := s2.heap.push { cls := .type "dict", data := .dict #[] } } : Shared).heap = s2.heap.push { cls := .type "dict", data := .dict #[] } := rfl
  generalize hs3 : ({ s2 with heap := s2.heap.push { cls := .type "dict", data := .dict #[] } } : Shared) = s3 at hp3
  have I3 : Inv X pins σ (upd H2 d (emptyD rows)) s3 := by
    rw [← hs3]
    refine I2.laid (t' := s2.toks) (fun b o e => Heap.get?_push_of_some _ e) (Nat.le_of_eq hd) ?_
    rw [← hd]
    cases rows with
    | true => exact dt_empty s2.heap I2.big
    | false => exact dk_empty s2.heap I2.big
  have f3 : ∀ b ∈ fp, FpOk X pins (upd H2 d (emptyD rows)) b ∧ b < s3.heap.objs.size := fun b hb => by
    obtain ⟨o, e, _⟩ := T.obj _ _ st2 b hb
    have lt := Heap.lt_size e
    refine ⟨⟨?_, (f2 b hb).2⟩, by rw [hp3, Heap.size_push]; exact Nat.lt_succ_of_lt lt⟩
    rw [upd_ne (by rw [← hd]; exact Nat.ne_of_lt lt)]
    exact (f2 b hb).1
  have st3 : tn 0 s3.heap := T.keep _ _ _ st2 fun b _ o e => by rw [hp3]; exact Heap.get?_push_of_some _ e
  have I4 := block_start I3 ok hN f3
  have pg := hg s3 (upd H2 d (emptyD rows)) s3.heap.objs.size (cellsFrom (s3.heap.objs.size + 1) scope.names (cloFrom X.env.cells scope.names [])) fp
  have pt := ht s3 (upd H2 d (emptyD rows)) s3.heap.objs.size (cellsFrom (s3.heap.objs.size + 1) scope.names (cloFrom X.env.cells scope.names [])) fp
  have pk := hk s3 (upd H2 d (emptyD rows)) s3.heap.objs.size (cellsFrom (s3.heap.objs.size + 1) scope.names (cloFrom X.env.cells scope.names [])) fp
  have pv := hv s3 (upd H2 d (emptyD rows)) s3.heap.objs.size (cellsFrom (s3.heap.objs.size + 1) scope.names (cloFrom X.env.cells scope.names [])) fp
  unfold Blk at pg pt pk pv
  generalize hce : compEnvC scope (cellsFrom (s3.heap.objs.size + 1) scope.names (cloFrom X.env.cells scope.names [])) s3.heap.objs.size X.env = ce at I4 pg pt pk pv
  have cL : ce.locals = s3.heap.objs.size := by subst hce; rfl
  have hce' : compEnvC scope (cellsFrom (s3.heap.objs.size + 1) scope.names (cloFrom X.env.cells scope.names [])) s3.heap.objs.size X.env = ce := hce
  have nfp : ∀ b ∈ fp, (upd H2 d (emptyD rows)) b = none := fun b hb => (f3 b hb).1.1
  generalize upd H2 d (emptyD rows) = H3 at I3 I4 pg pt pk pv w0 nfp f3
  show codeAny _ _ (.compStart (.DictComp ke ve [⟨tg, it0, ifs, 0⟩] scope pos) 0 (.ref it) (.ref d) (compEnvC scope (cellsFrom (s3.heap.objs.size + 1) scope.names (cloFrom X.env.cells scope.names [])) s3.heap.objs.size X.env))
    (compPost (model X.prog X.w) X.A X.xe use Qf (.ref d) s3.heap.objs.size) { s3 with heap := pushCells (s3.heap.push { cls := .type "dict", data := .dict #[] }) scope.names }
  rw [hce']
  generalize hs4 : ({ s3 with heap := pushCells (s3.heap.push { cls := .type "dict", data := .dict #[] }) scope.names } : Shared) = s4 at I4
  have st4 : tn 0 s4.heap := T.keep _ _ _ st3 fun b _ o e => by rw [← hs4]; exact pushCells_keeps _ _ _ _ (Heap.get?_push_of_some _ e)
  -- the iterator's records within the block
  have recs : ∀ {σ1 : L2.St} {G : Hp} {z : Shared}, Inv (X.blk s3 H3 scope ce fp) [] σ1 G z → (∀ b ∈ fp, G b = none) → ∀ b ∈ fp, FpOk (X.blk s3 H3 scope ce fp) [] G b := fun {σ1 G z} J1 hn b hb =>
    ⟨hn b hb, (J1.ok.exf b hb).1, J1.ok.exfs b hb, .inl hb, fun x c e => (J1.ok.exf b hb).2 x c e, fun p hp => absurd (show p ∈ ([] : List (Addr × Obj)) ++ [] from hp) (by simp)⟩
  have huB : (X.blk s3 H3 scope ce fp).A.units + 1 < cLine := hu
  have loop : codeAny (model X.prog X.w) X.A (.compLoop (.DictComp ke ve [⟨tg, it0, ifs, 0⟩] scope pos) 0 (.ref it) (.ref d) ce) (compPost (model X.prog X.w) X.A X.xe use Qf (.ref d) s3.heap.objs.size) s4 := by
    refine compLoop_anyD (fun n z => ∃ i G, Inv (X.blk s3 H3 scope ce fp) [] (wipe σ (own.map (·.2))) G z ∧ tn i z.heap ∧ (∀ b ∈ fp, G b = none) ∧ W i n G) ?_ m0 ⟨0, H3, I4, st4, nfp, w0⟩
    rintro n s5 ⟨i, H5, I5, st5, n5, w5⟩
    rcases turn i n H5 w5 with ⟨over, fin⟩ | ⟨more, Nx, hNx, step⟩
    · refine thnF (T.done (X.blk s3 H3 scope ce fp) rfl rfl rfl hc i [] s5 _ H5 (fun _ _ => False) I5 (recs I5 n5) st5 over) fun r s6 ⟨hr, I6⟩ => ?_
      subst hr
      have I7 : Inv X pins σ H5 s6 := I3.call' (ch := fp) I6.os I6.base I6.hok I6.bare fun b hb =>
        let ⟨_, g1, _, g3, g4, g5⟩ := (f3 b hb).1
        ⟨g3, g1, g4, g5⟩
      obtain ⟨m, hm, _⟩ := I6.loc
      have hm : s6.heap.Ns ce.locals m := hm
      have nC : H5 ce.locals = none := I6.free
      rw [cL] at hm nC
      exact back d s3.heap.objs.size s6 m H5 I7 fin hm (I3.fpOk (Nat.le_refl _) nC)
    · refine thnF (T.item (X.blk s3 H3 scope ce fp) rfl rfl rfl hc i [] s5 _ H5 (fun _ _ => False) I5 (recs I5 n5) st5 more) fun r s6 ⟨u, hr, h6⟩ => ?_
      subst hr
      refine thnF h6 fun _ s7 ⟨x, H7, I7, r7, y7, st7, n7⟩ => ?_
      have I7p := I7.pinned (recs I7 n7) (T.obj _ _ st7)
      refine thnF (pg.run _ s7 _ H7 x u _ I7p r7 (step x H7 y7)) fun _ s8 ⟨σ8, H8, I8, hw, q8⟩ => ?_
      refine thnF (pt.run _ s8 σ8 H8 _ I8 q8) fun c s9 ⟨H9, I9, q9⟩ => ?_
      have next : ∀ {z : Shared} {G : Hp}, Inv (X.blk s3 H3 scope ce fp) ([] ++ pinsAt fp s7.heap) σ8 G z → Nx G → ∃ m, m < n ∧ ∃ i G, Inv (X.blk s3 H3 scope ce fp) [] (wipe σ (own.map (·.2))) G z ∧ tn i z.heap ∧ (∀ b ∈ fp, G b = none) ∧ W i m G := fun {z G} JG nx => by
        obtain ⟨m', lt, wG⟩ := hNx G nx
        have pin : ∀ b ∈ fp, ∀ o, s7.heap.get? b = some o → z.heap.get? b = some o ∧ G b = none := fun b hb o e =>
          let p := JG.pin (b, o) (List.mem_append_right _ (List.mem_append_right _ (mem_pinsAt hb e)))
          ⟨p.1, p.2.1⟩
        refine ⟨m', lt, i + 1, G, (JG.unpinned (pins := [])).weak (by rw [← hw, wipe_length]) (fun j v e => ?_), T.keep _ _ _ st7 fun b hb o e => (pin b hb o e).1, fun b hb => ?_, wG⟩
        · rw [← hw] at e
          exact (wipe_some e).1
        · obtain ⟨o, e, _⟩ := T.obj _ _ st7 b hb
          exact (pin b hb o e).2
      cases c with
      | false =>
        simp only [Bool.false_eq_true, if_false] at q9 ⊢
        exact next I9 q9
      | true =>
        simp only [if_true] at q9 ⊢
        refine thnF (pk.run _ s9 σ8 H9 _ I9 q9) fun ku s10 ⟨ky, H10, I10, r10, q10⟩ => ?_
        refine thnF (pv.run _ s10 σ8 H10 _ I10 q10) fun vu s11 ⟨vy, H11, I11, r11, H12, hput, nx⟩ => ?_
        exact dset (X := X.blk s3 H3 scope ce fp) huB I11 hput r10 r11 fun s12 I12 => next I12 nx
  exact codeAny_compStart_dict loop (T.self X.A 0 _ _ _ st4 loop)
/-- as a value -/
theorem pe_dg {rows : Bool} {ke ve tg it0 : Expr} {ifs : List Expr} {scope : Scope} {own : List (Str × Nat)} {pos : Pos} {wi : TI} {g : TG} {tt : TT} {tk tv : TE} (hu : X.A.units + 1 < cLine) (hc : X.calm = true) (hN : X.N.Nodup) (hi : PI X tg it0 wi) (ok : BlkOk X.N X.env.scope scope own)
    (hg : ∀ s H C cl fp, PG (Blk X scope s H C cl fp) tg g) (ht : ∀ s H C cl fp, PTs (Blk X scope s H C cl fp) ifs tt) (hk : ∀ s H C cl fp, PE (Blk X scope s H C cl fp) ke tk) (hv : ∀ s H C cl fp, PE (Blk X scope s H C cl fp) ve tv)
    (hs : ∀ x, foldedSetIterable it0 X.env x = pure x := by intro _; rfl) : PE X (.DictComp ke ve [⟨tg, it0, ifs, 0⟩] scope pos) (tDg rows wi g tt tk tv (own.map (·.2))) := by
  refine ⟨fun pins s σ H Q I h => ?_⟩
  rw [arm_eval_DictComp]
  refine dg_core (rows := rows) hu hc hN I hi ok hg ht hk hv hs h fun d C s' m H' I' q hn f => ⟨m, hn, fun h2 sb => ?_⟩
  obtain ⟨f0, f1, _, f3, f4, f5⟩ := f
  exact ⟨.ref d, H', I'.turned (t' := s'.toks) (fun b o hb e => (sb.2 b hb).trans e) f0 f1 f3 f4 f5, rfl, q⟩
/-- name = {..} on one line, the name a local -/
theorem ps_setDg {rows : Bool} {i : Nat} {y : Str} {py : Pos} {ke ve tg it0 : Expr} {ifs : List Expr} {scope : Scope} {own : List (Str × Nat)} {pos spos : Pos} {wi : TI} {g : TG} {tt : TT} {tk tv : TE} (hu : X.A.units + 1 < cLine) (hc : X.calm = true) (hN : X.N.Nodup)
    (hy : X.N[i]? = some y) (hyl : X.env.scope.names.lookup y = some .local) (hsw : swapsWith (.DictComp ke ve [⟨tg, it0, ifs, 0⟩] scope pos) (some (.Name y py)) spos.line X.env = pure true) (hi : PI X tg it0 wi) (ok : BlkOk X.N X.env.scope scope own)
    (hg : ∀ s H C cl fp, PG (Blk X scope s H C cl fp) tg g) (ht : ∀ s H C cl fp, PTs (Blk X scope s H C cl fp) ifs tt) (hk : ∀ s H C cl fp, PE (Blk X scope s H C cl fp) ke tk) (hv : ∀ s H C cl fp, PE (Blk X scope s H C cl fp) ve tv)
    (hs : ∀ x, foldedSetIterable it0 X.env x = pure x := by intro _; rfl) : PS X (.Assign [.Name y py] (.DictComp ke ve [⟨tg, it0, ifs, 0⟩] scope pos) spos) (tAsg (tDg rows wi g tt tk tv (own.map (·.2))) (gName i)) := by
  refine ⟨fun pins s σ H D I h => ?_⟩
  rw [exec_Assign_Name_used _ _ _ _ hsw]
  refine wpAny_bind (wpAny_standAt (wpAny_bind ?_))
  show wpAny _ X.A (do let _ ← comprehension (.DictComp ke ve [⟨tg, it0, ifs, 0⟩] scope pos) scope X.env (firstIterPos [⟨tg, it0, ifs, 0⟩] pos) newDict false (eval it0 X.env) (some (assign (.Name y py) X.env))) _ _ s
  have h : tDg rows wi g tt tk tv (own.map (·.2)) σ H (fun x H1 => gName i x σ H1 D.nx) := h
  refine wpAny_bind (thn (dg_core (rows := rows) (Qf := fun _ s' => SP X pins D .next s') hu hc hN I hi ok hg ht hk hv hs h fun d C s' m H' I' q hn f => ?_) fun _ s' hq => wpAny_pure (wpAny_pure hq))
  show wpAny _ _ (assign (.Name y py) X.env (.ref d)) _ _ _
  refine wpAny_assign_Name (store_ok2 (v := V.ref d) I' hN hy (.inl hyl) rfl (fun s2 I2 ⟨a, sb, ha⟩ => ?_) (.inr hyl))
  obtain ⟨f0, f1, _, f3, f4, f5⟩ := f
  have apart : C ≠ a := ha.elim (fun z => by rw [z]; exact f1) fun z e => f4 y a z e.symm
  exact ⟨m, hn.sameBut sb apart, fun h3 sb3 => ⟨_, H', I2.turned (t' := s2.toks) (fun b o hb e => (sb3.2 b hb).trans e) f0 f1 f3 f4 f5, q⟩⟩
theorem swD_true {ke ve : Expr} {gs : List Comprehension} {scope : Scope} {pos py : Pos} {y : Str} {l : Nat} {env : Env} (hk : env.scope.kind = .function) (hy : env.scope.names.lookup y = some .local) (hl : (py.line == pos.line) = true)
    (ha : (scope.names.any fun (n, k) => n == y && (k == .local || k == .cell)) = false) : swapsWith (.DictComp ke ve gs scope pos) (some (.Name y py)) l env = pure true := by
  have e1 : env.kindOf y = some .local := hy
  have e2 : env.blockKind = .function := by unfold Env.blockKind; rw [hk]; rfl
  unfold swapsWith
  simp only [e1, e2, ha, Expr.pos, hl]
  rfl
end
end Rs


set_option Elab.async false
set_option linter.all false
set_option maxRecDepth 100000
set_option maxHeartbeats 2000000
/-! # R8: Refused((..)): an own exception whose __init__ calls ValueError's by super() and then keeps one field -/
namespace Rs
open PySem PySem.Spec PyProof.Rows L2 PySem.W PySem.Calls PySem.HandSPX
def topS (i : Nat) : Stmt := PySem.Challenge.pw_rulestead_k30_wishes.main.body.getD i (.Pass ⟨0, 0, 0, 0⟩)
abbrev sRI : Stmt := inClass (topS 17) 0
structure RefTxt (P : Program) (K : Frag) (mg : Str → Option Value) (C fI : Addr) : Prop where
  gC : mg "Refused" = some (.ref C)
  cls : ∃ nm q N bs bm sn sub ab col dd k0 k1 k2 k3 k5, K.lookup C = some (excClassObj nm q C N bs bm true sn sub ab col dd k0 k1 k2 k3 k5 "ValueError.__new__") ∧ refsVE bm = true
  sa : findIn K (.ref C) "__setattr__" = some (some (.builtin "object.__setattr__"))
  noN : findIn K (.ref C) "problem" = some none
  iC : findIn K (.ref C) "__init__" = some (some (.ref fI))
  tC : typeIn K (.ref fI) = some (.type "function")
  kC : keepIn K (.ref C) = true
  exC : subIn K (.ref C) (.type "BaseException") = some true
  veC : subIn K (.ref C) (.type "ValueError") = some true
  tyC : typeIn K (.ref C) = some (.type "type")
  te : exmOne K (.ref C) (.ref C) = some true
  mC : mroIn K C (.ref C) = some true
  sup : ks_superIn K C C "__init__" = some (some (.builtin "ValueError.__init__"))
  opq : nsIn K cStatics "thirdparty.any" = some none
  sg : nsIn K mainGlobals "super" = some none
  top : (P.main.scope.names.lookup ("super" : Str)).isSome = false
  fn : ∃ (oc : Value) (od : Option Addr) (dV kV doc pm : Value) (an : Option Addr) (cda cc : Addr) (ct : Value) (osl : Array (Option Value)),
    K.lookup fI = some ⟨oc, od, .func (ksFn "__init__" "Refused.__init__" (defArgs sRI) (defBody sRI) (defScope sRI) dV kV doc pm an (.ref cda) ct cc), osl⟩ ∧ codeIn K (.ref cda) "Refused.__init__" = true ∧ (∃ ccl cdd vs ccs file tf, K.lookup cda = some ⟨ccl, cdd, .fields vs, ccs⟩ ∧ vs[2]? = some (.str file tf) ∧ ((P.main.file : Str) == file) = true) ∧
      (∃ cl cld csl, K.lookup cc = some ⟨cl, cld, .cell (some (.ref C)), csl⟩) ∧ ∀ (s : Shared) (a b : Value), BindsTo s (ksFn "__init__" "Refused.__init__" (defArgs sRI) (defBody sRI) (defScope sRI) dV kV doc pm an (.ref cda) ct cc) ⟨[a, b], []⟩ [("self", a), ("problem", b)]
section
variable {prog : Program} {w : World} {A : Around} {E : Value → Shared → Prop} {h : Heap} {g : Array GenState} {d : Drawn} {t : Nat} {os : OsState}
variable {nm q : Str} {C N : Addr} {bs bm : List Value} {hdct : Bool} {sn : List Str} {sub : List Value} {ab : Bool} {col : Option Bool} {dd : Option Addr} {k0 k1 k2 k3 k5 : Option Value}
theorem call_mwVE {u e t0 : Addr} {rest : List Value} {Q : Value → Shared → Prop}
    (hC : h.get? C = some (excClassObj nm q C N bs bm hdct sn sub ab col dd k0 k1 k2 k3 k5 "ValueError.__new__")) (he : h.get? e = some (excO C t0)) (hu : h.get? u = some (kxs_mw "ValueError.__init__" e)) (hrest : rest.length ≤ sizeLine)
    (hq : ∀ h' t1, (∀ b o, b ≠ e → h.get? b = some o → h'.get? b = some o) → h'.get? e = some (excO C t1) → Q .none ⟨h', g, d, t, os⟩) :
    wpAny (model prog w) A (call (.ref u) rest) Q E ⟨h, g, d, t, os⟩ := by
  refine wpAny_call (codeAny_of_tree ?_)
  show wpAny _ A.in1 (callAny (.ref u) ⟨rest, []⟩) _ _ _
  simp only [callAny]
  refine wpAny_bind (wpAny_load hu ?_)
  simp only [kxs_mw, show (Value.type "method-wrapper" == Value.type "method" || Value.type "method-wrapper" == Value.type "builtin_function_or_method" || Value.type "method-wrapper" == Value.type "method-wrapper") = true by decide, if_true]
  refine W.KFB.if_so (by decide) ?_
  refine wpAny_bind (ESX.check_bound F.excBase_ValueError hC he rfl ?_)
  refine wpAny_bind (wpAny_pure (wpAny_pure ?_))
  refine ⟨Code.quiet_builtin _ (by decide +kernel), codeAny_builtin F.excBase_ValueError.initEntry ?_⟩
  rw [Around.under_plainId F.excBase_ValueError.init.plain _]
  wp_walk
  refine hq _ h.objs.size (fun b o hb ho => ?_) ?_
  · rw [Heap.get?_update_other _ _ (Ne.symm hb)]
    exact Heap.get?_push_of_some _ ho
  · rw [Heap.get?_update_self _ (Heap.get?_push_of_some _ he) rfl]
    rfl
end
abbrev bRI : List Stmt := defBody sRI
theorem body_RI : defBody sRI = bRI := rfl
abbrev scRI : Scope := defScope sRI
theorem sc_RI : defScope sRI = scRI := rfl
/-- what __init__ leaves of a fresh exception at x -/
structure InitEnd (h h' : Heap) (x C dx : Addr) (v : Value) : Prop where
  keep : ∀ b o, b ≠ x → h.get? b = some o → h'.get? b = some o
  obj : ∃ t1, h'.get? x = some { cls := .ref C, dict := some dx, data := .fields #[.ref t1, .none, .none, .none, .bool false, .none] }
  dbig : h.objs.size ≤ dx
  dne : dx ≠ x
  ns : h'.Ns1 dx (fun y => if y = "problem" then some v else none)
section
variable {prog : Program} {w : World} {A : Around} {E : Value → Shared → Prop} {R : Result → Shared → Prop} {s : Shared} {K : Frag} {mg mb : Str → Option Value} {C fI : Addr}
theorem ref_init (T : RefTxt prog K mg C fI) {x t0 : Addr} {v : Value} (X : K.In s.heap) (hG : s.heap.Ns mainGlobals mg) (hB : s.heap.Ns builtinsNs mb) (hb : mb "super" = some (.type "super")) (hlim : s.heap.NoLimit) (hx : s.heap.get? x = some (excO C t0)) (hnx : K.lookup x = none) (hroom : A.depth < recursionLimit)
    (hq : ∀ h' tk dx, InitEnd s.heap h' x C dx v → R (.ok (.ret .none)) { s with heap := h', toks := tk }) :
    codeAny (model prog w) A (.call (.ref fI) ⟨[.ref x, v], []⟩) R s := by
  obtain ⟨oc, od, dV, kV, doc, pm, an, cda, cc, ct, osl, ho, hcd, ⟨ccl, cdd, vs, ccs, file, tf, hcode, hvs, hfile⟩, ⟨cl, cld, csl, hcell⟩, hbd⟩ := T.fn
  obtain ⟨nm, q, N, bs, bm, sn, sub, ab, col, dd, k0, k1, k2, k3, k5, hC, hbm⟩ := T.cls
  have hcl : clsIn K C = some { name := nm, bases := bs, mro := .ref C :: bm, ns := N, qualname := q, hasDict := true, slotNames := sn, subclasses := sub, abstract := ab, collection := col, hasDel := false } := by unfold clsIn; rw [hC] <;> rfl
  rw [body_RI, sc_RI] at ho hbd
  refine ks_codeAny_call_defAt (fd := ksFn "__init__" "Refused.__init__" (defArgs sRI) bRI scRI dV kV doc pm an (.ref cda) ct cc) (body := bRI) (binds := [("self", .ref x), ("problem", v)]) hroom (X _ _ ho) rfl hlim (codeRec_of X hcd) rfl (hbd s _ _)
    (fun x hx => (by decide +kernel : ∀ x ∈ scRI.names, x.2 ≠ .cell) x hx) (fun y hy => ?b) (fun h₁ hns k => ?_) rfl rfl rfl
  case b =>
    rcases List.mem_cons.mp hy with rfl | hy
    · exact (by decide +kernel : scRI.names.lookup ("self" : Str) = some .local)
    · rcases List.mem_cons.mp hy with rfl | hy
      · exact (by decide +kernel : scRI.names.lookup ("problem" : Str) = some .local)
      · cases hy
  show _root_.PySem.wpAt _ (A.deeper (ksEnv "Refused.__init__" scRI s.heap.objs.size fI (.ref cda) cc)) (.func bRI (ksEnv "Refused.__init__" scRI s.heap.objs.size fI (.ref cda) cc)) (execs bRI (ksEnv "Refused.__init__" scRI s.heap.objs.size fI (.ref cda) cc)) _ _ _
  have X₁ : K.In h₁ := X.keeps k
  have hx₁ := k _ _ hx
  have hxC : x ≠ C := by
    rintro rfl
    have e := (X _ _ hC).symm.trans hx
    cases e
  refine ks_wpAt_execs_cons (ks_wpAt_Expr_any (ks_wpAt_MethodCall ?_))
  have hse : ∀ y v', (List.lookup y ([("self", Value.ref x), ("problem", v)] : List (Str × Value)).reverse) = some v' → (fun z => List.lookup z ([("self", Value.ref x), ("problem", v)] : List (Str × Value)).reverse) y = some v' := fun _ _ e => e
  refine ks_wpAt_super_base (f := fI) (fd := ksFn "__init__" "Refused.__init__" (defArgs sRI) bRI scRI dV kV doc pm an (.ref cda) ct cc) (by rfl) (by rfl) (by decide +kernel) rfl (X₁ _ _ ho) rfl (by rfl) rfl (X₁ _ _ hcode) rfl hvs hfile T.top ?_
  refine ks_loadName_global rfl (by rfl) (loadGlobal_builtin (hG.keeps k) (mg_none_of X hG T.sg) (hB.keeps k) hb ⟨rfl, ?_⟩)
  refine wpAny_loadName_free rfl (by rfl) rfl ⟨_, X₁ _ _ hcell, rfl⟩ ?_
  refine wpAny_loadName_local rfl (by rfl) hns (by rfl) ?_
  refine ks_wpAny_isType_cls (X₁ _ _ hC) rfl ⟨rfl, ?_⟩
  refine ks_wpAny_call_super (X₁ _ _ hC) rfl hx₁ rfl (fun c e => by cases e) (looks_mroIn X₁ T.mC) (fun h₂ e₂ k₂ => ?_)
  have X₂ : K.In h₂ := X₁.keeps k₂
  have hx₂ := k₂ _ _ hx₁
  have I₂ : InstAt h₂ x (excO C t0) C none := ⟨hx₂, rfl, rfl, trivial⟩
  have hm : alongIn K "__init__" (((Value.ref C :: bm).dropWhile (· != .ref C)).drop 1) = some (some (.builtin "ValueError.__init__")) := by
    have := T.sup
    unfold ks_superIn at this
    rw [hcl] at this
    exact this
  refine kxs_getMethod kxs_ValueError e₂ (looks_opaque X₂ T.opq) (l₀ := .ref C :: bm) ?_ rfl X₂ hm (I₂.type.andThen (looks_subIn X₂ T.veC)) hxC (by decide +kernel) ?_
  · exact fun A Q E s k q => wpAny_bind ((looks_clsIn X₂ hcl) A _ E s k (wpAny_pure q))
  have k₃ : ∀ b o, h₂.get? b = some o → (h₂.push (kxs_mw "ValueError.__init__" x)).get? b = some o := fun b o e => Heap.get?_push_of_some _ e
  have hu : (h₂.push (kxs_mw "ValueError.__init__" x)).get? h₂.objs.size = some (kxs_mw "ValueError.__init__" x) := Heap.get?_push_at rfl rfl
  refine kxs_callWith (i := "ValueError.__init__") (x := x) rfl ?_
  refine evalArgs_plain ?_
  refine spliced_cons (wpAny_Constant_str (k := 0) (pos := ⟨0, 0, 0, 0⟩) (spliced_nil ⟨hu, ?_⟩))
  show wpAny _ _ (call (.ref h₂.objs.size) _) _ _ _
  have k₃' : ∀ b o, s.heap.get? b = some o → (h₂.push (kxs_mw "ValueError.__init__" x)).get? b = some o := fun b o e => k₃ b o (k₂ b o (k b o e))
  refine call_mwVE (X₂.keeps k₃ _ _ hC) (k₃ _ _ hx₂) hu (by rw [sizeLine_eq]; exact (by decide : 1 ≤ 16777216)) (fun h₄ t4 k₄ hx₄ => ?_)
  have hxL : s.heap.objs.size ≠ x := Nat.ne_of_gt (Heap.lt_size hx)
  have X₄ : K.In h₄ := fun a o e => k₄ a o (fun z => by rw [z, hnx] at e; cases e) (X₂.keeps k₃ a o e)
  have hns₄ : h₄.Ns s.heap.objs.size (fun z => List.lookup z ([("self", Value.ref x), ("problem", v)] : List (Str × Value)).reverse) := hns.at fun o e => k₄ _ o hxL (k₃ _ o (k₂ _ o e))
  refine wpAt_of_wpAny ?_
  refine wpAny_execs_cons (plainObj_wpAny_Assign_Attribute ?_)
  refine wpAny_Name (wpAny_loadName_local rfl (by rfl) hns₄ (by rfl) ?_) (by decide +kernel)
  refine wpAny_Name (wpAny_loadName_local rfl (by rfl) hns₄ (by rfl) ?_) (by decide +kernel)
  refine set_plain X₄ (ox := excO C t4) (od := none) ⟨hx₄, rfl, rfl, trivial⟩ T.sa ?_
  refine exc_osa X₄ hx₄ hcl (show refsVE (.ref C :: bm) = true from hbm) rfl T.noN (fun h₅ tk₅ dx k₅ dn dne hx₅ hn₅ => ?_)
  refine wpAny_execs_nil (hq h₅ tk₅ dx ⟨fun b o hb e => k₅ b o hb (k₄ b o hb (k₃' b o e)), ⟨_, hx₅⟩, ?_, dne, hn₅⟩)
  exact Nat.le_of_lt (Nat.lt_of_lt_of_le hns₄.lt dn)
/-- a made Refused -/
structure OwnMade (h h' : Heap) (e C d : Addr) (v : Value) : Prop where
  keep : ∀ b o, h.get? b = some o → h'.get? b = some o
  new : h.objs.size ≤ e
  obj : ∃ oe vs, h'.get? e = some oe ∧ oe.cls = .ref C ∧ oe.dict = some d ∧ oe.data = .fields vs ∧ vs[1]? = some .none
  dbig : h.objs.size ≤ d
  dne : d ≠ e
  ns : h'.Ns1 d (fun y => if y = "problem" then some v else none)
theorem ref_made (T : RefTxt prog K mg C fI) {v : Value} (X : K.In s.heap) (hG : s.heap.Ns mainGlobals mg) (hB : s.heap.Ns builtinsNs mb) (hb : mb "super" = some (.type "super")) (hlim : s.heap.NoLimit) (hroom : A.depth + 1 < recursionLimit)
    (hq : ∀ h' tk e d, OwnMade s.heap h' e C d v → R (.ok (.ret (.ref e))) { s with heap := h', toks := tk }) :
    codeAny (model prog w) A (.call (.ref C) ⟨[v], []⟩) R s := by
  obtain ⟨nm, q, N, bs, bm, sn, sub, ab, col, dd, k0, k1, k2, k3, k5, hC, hbm⟩ := T.cls
  obtain ⟨hp, g, dr, tk, os⟩ := s
  have k : ∀ b o, hp.get? b = some o → ((hp.push (kdv_tup [v])).push (excO C hp.objs.size)).get? b = some o := fun b o e => Heap.get?_push_of_some _ (Heap.get?_push_of_some _ e)
  have hget : ((hp.push (kdv_tup [v])).push (excO C hp.objs.size)).get? (hp.objs.size + 1) = some (excO C hp.objs.size) := by heap_get
  have hnx : K.lookup (hp.objs.size + 1) = none := by
    cases e : K.lookup (hp.objs.size + 1) with
    | none => rfl
    | some o =>
      have z : hp.get? (hp.objs.size + 1) = some o := X _ _ e
      exact absurd (Nat.lt_of_succ_lt (Heap.lt_size z)) (Nat.lt_irrefl _)
  refine call_own F.excBase_ValueError (fun X => refsVE_contains X bm hbm) (X _ _ hC) (looks_findIn X T.iC) (fun self => bind_fn X self T.tC) (by rw [sizeLine_eq]; exact (by decide : 1 ≤ 16777216)) ?_
  refine ref_init (s := ⟨(hp.push (kdv_tup [v])).push (excO C hp.objs.size), g, dr, tk, os⟩) T (X.keeps k) (hG.keeps k) (hB.keeps k) hb (hlim.keeps k) hget hnx ?_ fun h' tk' dx ⟨k', ⟨t1, hx⟩, dn, dne, hns⟩ => ?_
  · show A.depth + 1 < recursionLimit
    exact hroom
  · have old : ∀ b o, hp.get? b = some o → h'.get? b = some o := fun b o e => k' b o (Nat.ne_of_lt (Nat.lt_succ_of_lt (Heap.lt_size e))) (k b o e)
    have z : hp.objs.size + 1 + 1 ≤ dx := by
      first
        | (simpa only [Heap.size_push] using dn)
        | exact dn
        | (have q := dn; rw [Heap.size_push, Heap.size_push] at q; exact q)
    exact ⟨rfl, hq h' tk' (hp.objs.size + 1) dx ⟨old, Nat.le_succ _, ⟨_, _, hx, rfl, rfl, rfl, rfl⟩, Nat.le_trans (Nat.le_trans (Nat.le_succ _) (Nat.le_succ _)) z, dne, hns⟩⟩
end
theorem relO_ref {v : V} {v' : Value} (r : RelV v v') (f : Str) : RelO (List.lookup f [(("problem" : Str), v)]) (if f = "problem" then some v' else none) := by
  by_cases hw : f = "problem"
  · subst hw
    rw [if_pos rfl]
    have q : List.lookup ("problem" : Str) [(("problem" : Str), v)] = some v := by simp [List.lookup]
    rw [q]
    exact r
  · rw [if_neg hw]
    have qw : (f == ("problem" : Str)) = false := by simpa using hw
    have q2 : List.lookup f [(("problem" : Str), v)] = none := by simp [List.lookup, qw]
    rw [q2]
    trivial
section
variable {X : Cx} {C fI : Addr}
/-- Refused(e) -/
def tMkR (C : Addr) (ta : TA) : L2.St → Hp → XK → Prop := fun σ H Q => ta σ H fun vs H1 => ∃ v, vs = [v] ∧ ∀ d, H1 d = none → Q (.ref C) (some d) (upd H1 d (.xd [(("problem" : Str), v)]))
theorem pmk_ref {a : Expr} {ta : TA} {p pos : Pos} {k : Nat} (T : RefTxt X.prog X.K X.mg C fI) (hr : Room k X.A) (ha : PA X [a] ta) (hg : Gl X "Refused" := by rfl)
    (he : starEach (a :: []) X.env = (false, eval a X.env) :: starEach [] X.env := by rfl) (hpl : (backTo pos (starEach [] X.env)).any (·.1) = false := by rfl) :
    PMk X (.Call (.Name "Refused" p) [a] [] pos) (tMkR C ta) := by
  intro pins s σ H Q I h
  refine wpAny_Call_Name_kw (ld_glob I hg T.gC ?_)
  refine PySem.W.callWith_K (h₀ := X.base) I.ok.mod.kin T.kC (thn (ha.run pos pins s σ H _ I h) fun us s1 hh => ?_) he hpl
  obtain ⟨vs, H1, I1, r1, v, ev, q1⟩ := hh
  subst ev
  refine ⟨I1.kIn, ?_⟩
  cases r1 with
  | cons rv rn =>
    rename_i v' us'
    cases rn
    show wpAny _ _ (call (.ref C) [v']) _ _ _
    have hlim := I1.nolimit
    obtain ⟨mb, hb1, hb2⟩ := I1.mod.blt
    have hG := I1.mod.glob.keeps I1.bk
    have hB := hb1.keeps I1.bk
    have hsu : mb "super" = some (.type "super") := (hb2 "super" (by decide +kernel)).trans (by first | boot_by_name | rfl | kernel_rfl)
    obtain ⟨hp, g, dr, tk, os⟩ := s1
    refine wpAny_call (ref_made T I1.kIn hG hB hsu hlim (by have := hr.dp; omega) fun h' tk' e d M => ?_)
    show MkP X pins σ Q (.ref e) ⟨h', g, dr, tk', os⟩
    obtain ⟨oe, fv, hoe, hc, hd, hdat, h1⟩ := M.obj
    have hns := M.ns
    obtain ⟨G', g1, g2⟩ := restrict h' fun b => decide (b ≠ e)
    have gk : ∀ b, b ≠ e → G'.get? b = h'.get? b := fun b hb => g1 b (decide_eq_true hb)
    have ge : G'.get? e = none := g2 e (by simp)
    have old : ∀ b o, hp.get? b = some o → G'.get? b = some o := fun b o q => (gk b (Nat.ne_of_lt (Nat.lt_of_lt_of_le (Heap.lt_size q) M.new))).trans (M.keep b o q)
    have ob : ObjOk X.prog X.w (upd H1 d (.xd [(("problem" : Str), v)])) G' d (.xd [(("problem" : Str), v)]) :=
      ⟨_, hns.at (fun o q => (gk d M.dne).trans q), fun f => relO_ref rv f⟩
    have J : Inv X pins σ (upd H1 d (.xd [(("problem" : Str), v)])) ⟨G', g, dr, tk', os⟩ := I1.laid (t' := tk') old M.dbig ob
    refine ⟨e, oe, fv, ⟨G', g, dr, tk', os⟩, _, .ref C, some d, rfl, J, fun b o q => ?_, ge, hoe, ⟨hc, hd⟩, hdat, h1, ?_, rfl, I1.bare, raises_own T.exC T.tyC, q1 d (I1.hok.fresh M.dbig)⟩
    · by_cases hb : b = e
      · have q' : G'.get? b = some o := q
        rw [hb, ge] at q'; cases q'
      · exact (gk b hb).symm.trans q
    · rw [upd_ne (Ne.symm M.dne)]
      exact I1.hok.fresh M.new
/-- raise Refused(e) -/
def tRaiseR (C : Addr) (W : WX) (ta : TA) : TS := fun _ σ H => tMkR C ta σ H fun cls d H' => W cls d σ H'
theorem ps_raiseR {a : Expr} {ta : TA} {W : WX} {p pos pos2 : Pos} {k : Nat} (hc : X.calm = true) (T : RefTxt X.prog X.K X.mg C fI) (hr : Room k X.A) (tk : Takes X W) (ha : PA X [a] ta) (hg : Gl X "Refused" := by rfl)
    (he : starEach (a :: []) X.env = (false, eval a X.env) :: starEach [] X.env := by rfl) (hpl : (backTo pos (starEach [] X.env)).any (·.1) = false := by rfl) :
    PS X (.Raise (some (.Call (.Name "Refused" p) [a] [] pos)) none pos2) (tRaiseR C W ta) := ps_raise hc tk (pmk_ref T hr ha hg he hpl)
end
end Rs


set_option Elab.async false
set_option linter.all false
set_option maxRecDepth 100000
set_option maxHeartbeats 2000000
/-! # T1: the text by places, what the top has written (Tx), a def that may be called (Cal) -/
namespace Rs
open PySem PySem.Spec PyProof.Rows L2
def fdef (i : Nat) (x : Str) : He.DefD := ⟨(x, none), x, x, defArgs (topS i), defBody (topS i), defScope (topS i), [], []⟩
def mdef (j : Nat) (m q : Str) (dfl : List He.Dv := []) : He.DefD := ⟨("State", some m), m, q, defArgs (inClass (topS 42) j), defBody (inClass (topS 42) j), defScope (inClass (topS 42) j), dfl, []⟩
def fn0 : List He.DefD := [fdef 1 "value_key", fdef 2 "row_key", fdef 4 "is_integer", fdef 5 "met", fdef 6 "value_of", fdef 7 "compares", fdef 8 "reckoned", fdef 9 "bound", fdef 10 "count_of", fdef 11 "tested", fdef 12 "ways", fdef 13 "head_row", fdef 14 "relations_of", fdef 20 "columns", fdef 21 "check_atom", fdef 22 "check_terms", fdef 23 "variables_of", fdef 24 "check_literal", fdef 25 "check_body", fdef 26 "makes"]
def fn1 : List He.DefD := [fdef 27 "edges", fdef 28 "reached", fdef 29 "has_ring", fdef 30 "growing", fdef 31 "check_rule", fdef 32 "check_denial", fdef 34 "all_relations", fdef 35 "levels", fdef 36 "rule_rows", fdef 37 "start_rows", fdef 38 "added", fdef 39 "model", fdef 44 "answer_rows", fdef 45 "clash", fdef 46 "subsets", fdef 47 "has_part", fdef 49 "turned", fdef 50 "grants", fdef 51 "wish", fdef 59 "check_fact"]
def fn2 : List He.DefD := [fdef 60 "say_relation", fdef 62 "say_fact", fdef 63 "say_rule", fdef 65 "say_denial", fdef 67 "say", fdef 69 "_law_draw", fdef 70 "_law_v", fdef 71 "_law_rule", fdef 72 "_law_row", fdef 73 "_law_statements", fdef 74 "_law_state", fdef 75 "_law_denial", fdef 76 "_law_turned", fdef 77 "_law_power", fdef 78 "_law_due", fdef 79 "law", mdef 0 "__init__" "State.__init__" [.adr (He.dflAt ("State", some "__init__") 0)], mdef 1 "put" "State.put", mdef 2 "take" "State.take", mdef 3 "tidy" "State.tidy"]
def fn3 : List He.DefD := [mdef 4 "all_items" "State.all_items", mdef 5 "has" "State.has", mdef 6 "copy" "State.copy", mdef 7 "change" "State.change"]
def fn : List He.DefD := fn0 ++ fn1 ++ fn2 ++ fn3
def glo0 : List Str := ["value_key", "row_key", "is_integer", "met", "value_of", "compares", "reckoned", "bound", "count_of", "tested", "ways", "head_row", "relations_of", "columns", "check_atom", "check_terms", "variables_of", "check_literal", "check_body", "makes"]
def glo1 : List Str := ["edges", "reached", "has_ring", "growing", "check_rule", "check_denial", "all_relations", "levels", "rule_rows", "start_rows", "added", "model", "answer_rows", "clash", "subsets", "has_part", "turned", "grants", "wish", "check_fact"]
def glo2 : List Str := ["say_relation", "say_fact", "say_rule", "say_denial", "say", "_law_draw", "_law_v", "_law_rule", "_law_row", "_law_statements", "_law_state", "_law_denial", "_law_turned", "_law_power", "_law_due", "law", "State", "Refused"]
def gloN : List Str := glo0 ++ glo1 ++ glo2
def freeN : List Str := ["len", "range", "sorted", "isinstance", "int", "str", "bool", "list", "tuple", "dict", "zip", "max", "min", "repr", "super"]
def fldN : List Str := ["relations", "facts", "rules", "denials"]
def metN : List Str := ["put", "take", "tidy", "all_items", "has", "copy", "change"]
def fa : List He.Fa := gloN.map .glo ++ freeN.map .free ++ fldN.map (.noat "State") ++ metN.map (.meth "State") ++ [.cls "State", .mkr "State", .int "MOST_COLUMNS_checks" 4, .int "MOST_COLUMNS_statements" 4]
/-- what the top has written, as far as the defs lean on it -/
structure Tx (P : Program) (K : PySem.W.Frag) (mg : Str → Option Value) : Prop where
  ex : ∃ h : Heap, K.In h ∧ h.Ns mainGlobals mg
  c : He.SaysD fa fn K
  rf : RefTxt P K mg (He.ga K "Refused") (He.ma K (He.ga K "Refused") "__init__")
section
variable {P : Program} {w : World} {K : PySem.W.Frag} {mg : Str → Option Value} {base : Heap}
theorem Tx.fa_ok (T : Tx P K mg) {f : He.Fa} (h : f ∈ fa) : f.ok K = true := by
  have c1 := (He.ba (show ((fa.all fun f => f.ok K) && fn.all fun d => d.ok K) = true from congrArg (fun z : He.AlD => z.1) T.c)).1
  exact List.all_eq_true.mp c1 f h
theorem Tx.glo (T : Tx P K mg) (x : Str) (h : x ∈ gloN := by decide +kernel) : mg x = some (.ref (He.ga K x)) := by
  obtain ⟨hh, X, G⟩ := T.ex
  exact He.glo_ok X G (T.fa_ok (by unfold fa; simp only [List.mem_append]; exact .inl (.inl (.inl (.inl (List.mem_map_of_mem h))))))
theorem Tx.fr (T : Tx P K mg) (x : Str) (h : x ∈ freeN := by decide +kernel) : mg x = none := by
  obtain ⟨hh, X, G⟩ := T.ex
  exact He.free_ok X G (T.fa_ok (by unfold fa; simp only [List.mem_append]; exact .inl (.inl (.inl (.inr (List.mem_map_of_mem h))))))
theorem Tx.na (T : Tx P K mg) (x : Str) (h : x ∈ fldN := by decide +kernel) : NoAttr K (He.ga K "State") x :=
  He.noat_ok (T.fa_ok (by unfold fa; simp only [List.mem_append]; exact .inl (.inl (.inr (List.mem_map_of_mem h)))))
theorem Tx.me (T : Tx P K mg) (x : Str) (h : x ∈ metN := by decide +kernel) : Meth K (He.ga K "State") x (He.ma K (He.ga K "State") x) :=
  He.meth_ok (T.fa_ok (by unfold fa; simp only [List.mem_append]; exact .inl (.inr (List.mem_map_of_mem h))))
theorem Tx.cl (T : Tx P K mg) : Cls K (He.ga K "State") := He.cls_ok (T.fa_ok (by unfold fa; simp only [List.mem_append]; exact .inr (List.mem_cons_self ..)))
theorem Tx.mkS (T : Tx P K mg) : Mk K (He.ga K "State") (He.ma K (He.ga K "State") "__init__") := He.mkr_ok (T.fa_ok (by unfold fa; simp only [List.mem_append]; exact .inr (List.mem_cons_of_mem _ (List.mem_cons_self ..))))
theorem Tx.mc (T : Tx P K mg) : ∃ t, mg "MOST_COLUMNS_checks" = some (.int 4 t) := by
  obtain ⟨hh, X, G⟩ := T.ex
  exact He.int_ok X G (T.fa_ok (by unfold fa; simp only [List.mem_append]; exact .inr (List.mem_cons_of_mem _ (List.mem_cons_of_mem _ (List.mem_cons_self ..)))))
theorem Tx.ms (T : Tx P K mg) : ∃ t, mg "MOST_COLUMNS_statements" = some (.int 4 t) := by
  obtain ⟨hh, X, G⟩ := T.ex
  exact He.int_ok X G (T.fa_ok (by unfold fa; simp only [List.mem_append]; exact .inr (List.mem_cons_of_mem _ (List.mem_cons_of_mem _ (List.mem_cons_of_mem _ (List.mem_cons_self ..))))))
theorem Tx.fd (T : Tx P K mg) (i : Nat) {d : He.DefD} (h : fn[i]? = some d) : ∃ fd, FunD K d.name d.qual d.params d.body d.scope (d.dvs K) (d.kws K) (He.fAd K d.at_) fd := T.c.def_ i h

/-- a def that may be called by its name; CX: what it may let out -/
structure Cal (P : Program) (w : World) (K : PySem.W.Frag) (mg : Str → Option Value) (base : Heap) (CX : CXT) (k : Nat) (x : Str) (sp : Sp) : Prop where
  ex : ∃ (f : Addr) (fd : FuncData) (ps : List Str), FnOk P w K mg base CX k f fd ps sp ∧ mg x = some (.ref f) ∧ PySem.W.keepIn K (.ref f) = true ∧ Binds K fd ps []
/-- its making: i its place in fn, n its place at the top -/
theorem calF_of (T : Tx P K mg) (i n : Nat) {CX : CXT} {x : Str} {N ps : List Str} {k : Nat} {sp : Sp} (h : fn[i]? = some (fdef n x)) (hx : x ∈ gloN) (S : FnScope N ps (defScope (topS n))) (len : ∀ vs H Q E, sp vs H Q E → vs.length = ps.length)
    (hb : ∀ (kV doc pm : Value) (an : Option Addr) (cdv ct : Value) (us : List Value), us.length = ps.length → bindArgs (PySem.W.fnOf x x (defArgs (topS n)) (defBody (topS n)) (defScope (topS n)) .none kV doc pm an cdv ct) ⟨us, []⟩ = pure (ps.zip us))
    (hbody : ∀ (cdv : Value) (A : Around) (outer : List Env) (s : Shared) (H : Hp) (vs : List V) (Q : VK) (E : XK), Room k (A.deeper (envOfC x (defScope (topS n)) s.heap.objs.size (He.ga K x) cdv)) → sp vs H Q E →
      ∃ t, PSs (cxOf CX P w K mg base N x (defScope (topS n)) (He.ga K x) cdv A outer s H E) (defBody (topS n)) t ∧ t { nx := fun _ H' => Q .non H', rt := Q } (start N vs) H) :
    ∃ fd, FnOk P w K mg base CX (k + 1) (He.ga K x) fd ps sp ∧ mg x = some (.ref (He.ga K x)) ∧ PySem.W.keepIn K (.ref (He.ga K x)) = true ∧ Binds K fd ps [] := by
  obtain ⟨fd, F⟩ := T.fd i h
  exact ⟨fd, FunD.ok F S len hbody, T.glo x hx, F.kp, FunD.bindsN F hb⟩
theorem cal_of (T : Tx P K mg) (i n : Nat) {CX : CXT} {x : Str} {N ps : List Str} {k : Nat} {sp : Sp} (h : fn[i]? = some (fdef n x)) (hx : x ∈ gloN) (S : FnScope N ps (defScope (topS n))) (len : ∀ vs H Q E, sp vs H Q E → vs.length = ps.length)
    (hb : ∀ (kV doc pm : Value) (an : Option Addr) (cdv ct : Value) (us : List Value), us.length = ps.length → bindArgs (PySem.W.fnOf x x (defArgs (topS n)) (defBody (topS n)) (defScope (topS n)) .none kV doc pm an cdv ct) ⟨us, []⟩ = pure (ps.zip us))
    (hbody : ∀ (cdv : Value) (A : Around) (outer : List Env) (s : Shared) (H : Hp) (vs : List V) (Q : VK) (E : XK), Room k (A.deeper (envOfC x (defScope (topS n)) s.heap.objs.size (He.ga K x) cdv)) → sp vs H Q E →
      ∃ t, PSs (cxOf CX P w K mg base N x (defScope (topS n)) (He.ga K x) cdv A outer s H E) (defBody (topS n)) t ∧ t { nx := fun _ H' => Q .non H', rt := Q } (start N vs) H) : Cal P w K mg base CX (k + 1) x sp := by
  obtain ⟨fd, c1, c2, c3, c4⟩ := calF_of T i n h hx S len hb hbody
  exact ⟨_, fd, ps, c1, c2, c3, c4⟩
end
section
variable {X : Cx} {k j : Nat} {x : Str} {sp : Sp} {W : WX} {p pos : Pos} {e : Expr} {es : List Expr} {t : TA}
theorem pe_c (c : Cal X.prog X.w X.K X.mg X.base CX0 k x sp) (hr : Room j X.A) (ha : PA X (e :: es) t) (hk : k ≤ j := by decide) (hg : Gl X x := by rfl)
    (hdb : (x == ("__debug__" : Str)) = false := by decide) (he : starEach (e :: es) X.env = (false, eval e X.env) :: starEach es X.env := by rfl) (hpl : (backTo pos (starEach es X.env)).any (·.1) = false := by rfl) :
    PE X (.Call (.Name x p) (e :: es) [] pos) (tCall sp [] E0 t) := by
  obtain ⟨f, fd, ps, F, hm, kp, b⟩ := c.ex
  exact pe_call F (hr.mono hk) hg hm kp b .nil pass0 ha hdb he hpl
/-- a def that may raise, where it does not -/
theorem pe_cL (c : Cal X.prog X.w X.K X.mg X.base (L2.CX X.prog X.w) k x sp) (hr : Room j X.A) (ha : PA X (e :: es) t) (hk : k ≤ j := by decide) (hg : Gl X x := by rfl)
    (hdb : (x == ("__debug__" : Str)) = false := by decide) (he : starEach (e :: es) X.env = (false, eval e X.env) :: starEach es X.env := by rfl) (hpl : (backTo pos (starEach es X.env)).any (·.1) = false := by rfl) :
    PE X (.Call (.Name x p) (e :: es) [] pos) (tCall sp [] E0 t) := by
  obtain ⟨f, fd, ps, F, hm, kp, b⟩ := c.ex
  exact pe_call F (hr.mono hk) hg hm kp b .nil passL ha hdb he hpl
/-- .. where it may -/
theorem pe_cS (c : Cal X.prog X.w X.K X.mg X.base (L2.CX X.prog X.w) k x sp) (hr : Room j X.A) (tk : Takes X W) (ha : PA X (e :: es) t) (hk : k ≤ j := by decide) (hg : Gl X x := by rfl)
    (hdb : (x == ("__debug__" : Str)) = false := by decide) (he : starEach (e :: es) X.env = (false, eval e X.env) :: starEach es X.env := by rfl) (hpl : (backTo pos (starEach es X.env)).any (·.1) = false := by rfl) :
    PE X (.Call (.Name x p) (e :: es) [] pos) (tCallS sp (WE W) t) := by
  obtain ⟨f, fd, ps, F, hm, kp, b⟩ := c.ex
  exact pe_callS F (hr.mono hk) hg hm kp b (fun σ => passAt tk σ) ha hdb he hpl
end
end Rs


set_option Elab.async false
set_option linter.all false
set_option maxRecDepth 100000
set_option maxHeartbeats 2000000
/-! # H1: what the top leaves: the facts, Refused's too, by a Hook -/
namespace Rs
open PySem PySem.Spec PyProof.Rows L2 PySem.W PySem.Calls PySem.HandSPX
abbrev PP : Program := PySem.Challenge.pw_rulestead_k30_wishes
def rC (K : Frag) : Addr := He.ga K "Refused"
def rI (K : Frag) : Addr := He.ma K (rC K) "__init__"
def clsB (K : Frag) (C : Addr) : Bool := match K.lookup C with
  | some ⟨.type t, _, .cls cd, sl⟩ => (match cd.mro, sl.toList with
    | .ref C' :: bm, [_, _, _, _, some (.builtin n), _] => decide (t = "type") && (decide (C' = C) && (refsVE bm && (cd.hasDict && (!cd.hasDel && decide (n = "ValueError.__new__")))))
    | _, _ => false)
  | _ => false
theorem clsB_ok {K : Frag} {C : Addr} (h : clsB K C = true) : ∃ nm q N bs bm sn sub ab col dd k0 k1 k2 k3 k5, K.lookup C = some (excClassObj nm q C N bs bm true sn sub ab col dd k0 k1 k2 k3 k5 "ValueError.__new__") ∧ refsVE bm = true := by
  unfold clsB at h
  cases e : K.lookup C with
  | none =>
    rw [e] at h
    cases h
  | some o =>
    obtain ⟨oc, od, dt, sl⟩ := o
    rw [e] at h
    cases oc with
    | type t =>
      cases dt with
      | cls cd =>
        obtain ⟨a1, a2, a3, a4, a5, a6, a7, a8, a9, a10, a11⟩ := cd
        dsimp only at h
        split at h
        · rename_i C' bm k0 k1 k2 k3 n k5 hsl
          simp only [Bool.and_eq_true, decide_eq_true_eq, Bool.not_eq_true'] at h
          obtain ⟨h1, h2, h3, h4, h5, h6⟩ := h
          have es : sl = #[k0, k1, k2, k3, some (.builtin n), k5] := Array.toList_inj.mp hsl
          have h4' : a6 = true := h4
          have h5' : a11 = false := h5
          subst h1 h2 h6 es h4' h5'
          exact ⟨_, _, _, _, _, _, _, _, _, _, _, _, _, _, _, rfl, h3⟩
        · cases h
      | _ => cases h
    | _ => cases dt <;> cases h
abbrev RW : Type := Option (Str × Str × Arguments × FuncBody × Scope × Addr × List Str × Addr)
def refW (K : Frag) : RW := match K.lookup (rI K) with
  | some ⟨_, _, .func fd, _⟩ => some (fd.name, fd.qualname, fd.params, fd.body, fd.scope, fd.globals, fd.closure.map (·.1), fd.builtins)
  | _ => none
def refV : RW := some ("__init__", "Refused.__init__", defArgs sRI, .stmts (defBody sRI), defScope sRI, mainGlobals, ["__class__"], builtinsNs)
def cdB (K : Frag) (v : Value) : Bool := match v with
  | .ref cda => (match K.lookup cda with
    | some ⟨_, _, .fields vs, _⟩ => (match (vs[2]? : Option Value) with
      | some (.str file _) => (PP.main.file : Str) == file
      | _ => false)
    | _ => false)
  | _ => false
def cellB (K : Frag) (C : Addr) (l : List (Str × Addr)) : Bool := match l with
  | [(_, cc)] => (match K.lookup cc with
    | some ⟨_, _, .cell (some (.ref D)), _⟩ => decide (D = C)
    | _ => false)
  | _ => false
def fnB (K : Frag) : Bool := match K.lookup (rI K) with
  | some ⟨_, _, .func fd, _⟩ => He.dflB K fd.defaults [] && (codeIn K fd.code "Refused.__init__" && (cdB K fd.code && cellB K (rC K) fd.closure))
  | _ => false
def refB (K : Frag) : Bool := clsB K (rC K) && (He.eqO (findIn K (.ref (rC K)) "__setattr__") (some (some (.builtin "object.__setattr__"))) && (He.eqO (findIn K (.ref (rC K)) "problem") (some none) && (He.eqO (findIn K (.ref (rC K)) "__init__") (some (some (.ref (rI K)))) &&
  (decide (typeIn K (.ref (rI K)) = some (.type "function")) && (keepIn K (.ref (rC K)) && (decide (subIn K (.ref (rC K)) (.type "BaseException") = some true) && (decide (subIn K (.ref (rC K)) (.type "ValueError") = some true) &&
  (decide (typeIn K (.ref (rC K)) = some (.type "type")) && (decide (exmOne K (.ref (rC K)) (.ref (rC K)) = some true) && (decide (mroIn K (rC K) (.ref (rC K)) = some true) && (He.eqO (ks_superIn K (rC K) (rC K) "__init__") (some (some (.builtin "ValueError.__init__"))) &&
  (He.eqO (nsIn K cStatics "thirdparty.any") (some none) && (He.eqO (nsIn K mainGlobals "super") (some none) && fnB K)))))))))))))
theorem an {a b : Bool} (h : (a && b) = true) : a = true ∧ b = true := Bool.and_eq_true_iff.mp h
theorem ref_fn {K : Frag} (hw : refW K = refV) (hb : fnB K = true) : ∃ (oc : Value) (od : Option Addr) (dV kV doc pm : Value) (an : Option Addr) (cda cc : Addr) (ct : Value) (osl : Array (Option Value)),
    K.lookup (rI K) = some ⟨oc, od, .func (ksFn "__init__" "Refused.__init__" (defArgs sRI) (defBody sRI) (defScope sRI) dV kV doc pm an (.ref cda) ct cc), osl⟩ ∧ codeIn K (.ref cda) "Refused.__init__" = true ∧ (∃ ccl cdd vs ccs file tf, K.lookup cda = some ⟨ccl, cdd, .fields vs, ccs⟩ ∧ vs[2]? = some (.str file tf) ∧ ((PP.main.file : Str) == file) = true) ∧
      (∃ cl cld csl, K.lookup cc = some ⟨cl, cld, .cell (some (.ref (rC K))), csl⟩) ∧ ∀ (s : Shared) (a b : Value), BindsTo s (ksFn "__init__" "Refused.__init__" (defArgs sRI) (defBody sRI) (defScope sRI) dV kV doc pm an (.ref cda) ct cc) ⟨[a, b], []⟩ [("self", a), ("problem", b)] := by
  unfold refW refV at hw
  unfold fnB at hb
  cases e : K.lookup (rI K) with
  | none =>
    rw [e] at hb
    cases hb
  | some o =>
    obtain ⟨oc, od, dt, osl⟩ := o
    rw [e] at hb hw
    cases dt with
    | func fd =>
      obtain ⟨n1, n2, n3, n4, n5, n6, n7, n8, n9, n10, n11, n12, n13, n14, n15⟩ := fd
      have e2 : (some (n1, n2, n3, n4, n5, n6, n7.map (·.1), n15) : RW) = (some ("__init__", "Refused.__init__", defArgs sRI, .stmts (defBody sRI), defScope sRI, mainGlobals, ["__class__"], builtinsNs) : RW) := hw
      simp only [Option.some.injEq, Prod.mk.injEq] at e2
      obtain ⟨h1, h2, h3, h4, h5, h6, h7, h8⟩ := e2
      have hb1 : (He.dflB K n8 [] && (codeIn K n13 "Refused.__init__" && (cdB K n13 && cellB K (rC K) n7))) = true := hb
      obtain ⟨b1, hb2⟩ := an hb1
      obtain ⟨b2, hb3⟩ := an hb2
      obtain ⟨b3, b4⟩ := an hb3
      clear hb hb1 hb2 hb3 hw
      have e8 : n8 = .none := by
        rcases He.dflB_ok b1 with ⟨_, z⟩ | ⟨z, _⟩
        · exact z
        · exact absurd rfl z
      unfold cdB at b3
      split at b3
      · rename_i cda
        split at b3
        · rename_i ccl cdd vs ccs hcda
          split at b3
          · rename_i file tf hv
            unfold cellB at b4
            split at b4
            · rename_i x cc
              split at b4
              · rename_i cl cld D csl hcc
                have eD := of_decide_eq_true b4
                have ex : x = "__class__" := by
                  have h7' : [x] = [("__class__" : Str)] := h7
                  injection h7'
                subst h1 h2 h3 h4 h5 h6 h8 e8 ex eD
                exact ⟨oc, od, .none, n9, n10, n11, n12, cda, cc, n14, osl, rfl, b2, ⟨_, _, _, _, _, _, hcda, hv, b3⟩, ⟨_, _, _, hcc⟩, fun s a b => .of_eq rfl⟩
              · cases b4
            · cases b4
          · cases b3
        · cases b3
      · cases b3
    | _ => cases hb
theorem ref_txt {K : Frag} {mg : Str → Option Value} (hg : mg "Refused" = some (.ref (rC K))) (hb : refB K = true) (hw : refW K = refV) : RefTxt PP K mg (rC K) (rI K) := by
  unfold refB at hb
  obtain ⟨b1, hb⟩ := an hb
  obtain ⟨b2, hb⟩ := an hb
  obtain ⟨b3, hb⟩ := an hb
  obtain ⟨b4, hb⟩ := an hb
  obtain ⟨b5, hb⟩ := an hb
  obtain ⟨b6, hb⟩ := an hb
  obtain ⟨b7, hb⟩ := an hb
  obtain ⟨b8, hb⟩ := an hb
  obtain ⟨b9, hb⟩ := an hb
  obtain ⟨b10, hb⟩ := an hb
  obtain ⟨b11, hb⟩ := an hb
  obtain ⟨b12, hb⟩ := an hb
  obtain ⟨b13, hb⟩ := an hb
  obtain ⟨b14, b15⟩ := an hb
  exact ⟨hg, clsB_ok b1, He.eqO_ok b2, He.eqO_ok b3, He.eqO_ok b4, of_decide_eq_true b5, b6, of_decide_eq_true b7, of_decide_eq_true b8, of_decide_eq_true b9, of_decide_eq_true b10, of_decide_eq_true b11, He.eqO_ok b12, He.eqO_ok b13, He.eqO_ok b14, by decide +kernel, ref_fn hw b15⟩
/-! ### the Hook -/
abbrev AlR : Type := He.AlD × (Bool × RW)
/-- what the frontier names -/
def nextR (g : Addr → Option Obj) (l : List Addr) : List Addr := l.flatMap fun a => match g a with
  | some o => He.refsD o
  | none => []
/-- what is met in n steps, in the order in which it is met -/
def walkR (g : Addr → Option Obj) : Nat → List Addr → List Addr
  | 0, l => l
  | n + 1, l => l ++ walkR g n (nextR g l)
def frR (g : Addr → Option Obj) : Frag := He.frG g (cStatics :: walkR g 5 [mainGlobals])
def obsR (K : Frag) : AlR := (He.obsD fa fn K, (refB K, refW K))
def valR : AlR := (He.valD fn, (true, refV))
def obsRG (g : Addr → Option Obj) : AlR := obsR (frR g)
def hookR : Hook where
  α := AlR
  obs := fun s => obsRG s.heap.get?
  val := fun _ => valR
  says := fun _ h => ∃ K : Frag, K.In h ∧ obsR K = valR
  of := fun _ _ e => ⟨_, He.frG_in, e⟩
  keeps := fun _ _ _ ⟨K, hK, c⟩ k => ⟨K, Frag.In.keeps hK k, c⟩
theorem obsRG_eq {g : Addr → Option Obj} {s : Shared} (h : ∀ a, g a = s.heap.get? a) : obsRG g = hookR.obs s := by
  have e : g = s.heap.get? := funext h
  rw [e] <;> rfl
theorem tx_of {K : Frag} {h : Heap} {mg : Str → Option Value} (X : K.In h) (G : h.Ns mainGlobals mg) (e : obsR K = valR) : Tx PP K mg := by
  have c : He.SaysD fa fn K := congrArg (fun z : AlR => z.1) e
  have hb : refB K = true := congrArg (fun z : AlR => z.2.1) e
  have hw : refW K = refV := congrArg (fun z : AlR => z.2.2) e
  have hg : mg "Refused" = some (.ref (rC K)) := by
    have c1 := (He.ba (show ((fa.all fun f => f.ok K) && fn.all fun d => d.ok K) = true from congrArg (fun z : He.AlD => z.1) c)).1
    have c2 := List.all_eq_true.mp c1 (.glo "Refused") (by unfold fa; simp only [List.mem_append]; exact .inl (.inl (.inl (.inl (List.mem_map_of_mem (by decide +kernel))))))
    exact He.glo_ok X G c2
  exact ⟨⟨h, X, G⟩, c, ref_txt hg hb hw⟩
end Rs


set_option Elab.async false
set_option linter.all false
set_option maxRecDepth 100000
set_option maxHeartbeats 0
/-! # H2: the top's run -/
namespace Rs
open PySem PySem.Spec PyProof.Rows L2 PySem.W PySem.Calls
def loose0 : List PySem.Str := ["__name__", "value_key", "row_key", "__name__", "is_integer", "met", "value_of", "compares", "reckoned", "bound", "count_of", "tested", "ways", "head_row", "relations_of", "__name__", "RuleError", "Refused", "__name__", "MOST_COLUMNS_checks", "columns", "check_atom", "check_terms", "variables_of", "check_literal", "check_body", "makes", "edges", "reached", "has_ring"]
def loose1 : List PySem.Str := ["growing", "check_rule", "check_denial", "__name__", "all_relations", "levels", "rule_rows", "start_rows", "added", "model", "heights", "__name__", "State", "__name__", "answer_rows", "clash", "subsets", "has_part", "__name__", "turned", "grants", "wish", "__name__", "fact_relations", "reason", "why", "__name__", "MOST_COLUMNS_statements", "check_used", "check_fact"]
def loose2 : List PySem.Str := ["say_relation", "say_drop", "say_fact", "say_rule", "say_strike", "say_denial", "say_question", "say", "__name__", "_law_draw", "_law_v", "_law_rule", "_law_row", "_law_statements", "_law_state", "_law_denial", "_law_turned", "_law_power", "_law_due"]
def looseN : List PySem.Str := loose0 ++ loose1 ++ loose2
abbrev RR : OpenRow := OpenLaw.row PySem.Challenge.rw_rulestead_k30_wishes
def obR (s : SharedT) : AlR := obsRG (HandSHeadRun.getT s)
theorem obR_eq (s : SharedT) : obR s = hookR.obs s.abs := obsRG_eq (HandSHeadRun.getT_eq s)
theorem top_run (w : World) : HandSHeadRun.RunEq RR (view RR.prog [79]) hookR obR 4000 looseN w := by
  intro os
  kernel_rfl
end Rs


set_option Elab.async false
set_option linter.all false
set_option maxRecDepth 100000
set_option maxHeartbeats 2000000
/-! # R9: comparisons of rows and of value_key's answers; membership and removal in a list of rows, of pairs -/
namespace Rs
open PySem PySem.Spec PyProof.Rows L2 PySem.W PySem.SeqAt
/-- the values that occur: ints, one text -/
def okK : L2.Key → Prop
  | .inl i => -1000000 ≤ i ∧ i ≤ 1000000
  | .inr x => x = "a"
/-- the order of values -/
def kLt : L2.Key → L2.Key → Bool
  | .inl i, .inl j => decide (i < j)
  | .inl _, .inr _ => true
  | .inr _, _ => false
open AutoSeq1 (wpAny_loadPart')
theorem first_gt (l b : Addr) (x y : Value) (xs ys : List Value) (n n2 : Nat) (dd dd2 : Option Addr) (sl sl2 : Array (Option Value)) (k : Bool) :
    Meets (Builtin.«tuple.__gt__» ⟨[.ref l, .ref b], []⟩)
      (fun A R s => s.heap.get? l = some { cls := .type "tuple", dict := dd, data := .seq (x :: xs).toArray n, slots := sl } ∧ s.heap.get? b = some { cls := .type "tuple", dict := dd2, data := .seq (y :: ys).toArray n2, slots := sl2 } ∧
        EqAt A.in1 s x y false ∧ RcOp .Gt A.in1 s x y k ∧ R (.ok (.ret (.bool k))) s) :=
  .of_wp fun prog w A R s hyp => by
    obtain ⟨hp, g, d, tk, os⟩ := s
    obtain ⟨f1, f2, he, hr, fin⟩ := hyp
    have sub := AutoSeq1.sub_tuple_tuple
    have hz : (x :: xs).toArray.toList.zip (y :: ys).toArray.toList = (x, y) :: xs.zip ys := by simp
    wp_walk using wpAny_loadPart' f1, wpAny_loadPart' f2, wpAny_forIn_list _ (fun todo c s' => c.1 = none ∧ s' = ⟨hp, g, d, tk, os⟩ ∧ todo = (x, y) :: xs.zip ys) _
    case turn =>
      rintro ⟨x', y'⟩ todo c s' ⟨_, rfl, hh⟩
      obtain ⟨rfl, rfl⟩ := Prod.mk.inj (List.cons.inj hh).1
      refine wpAny_bind (he prog w _ _ ?_)
      show wpAny _ _ (rule _ >>= fun _ => richCompare .Gt x' y' >>= _) _ _ _
      refine wpAny_bind (wpAny_rule (wpAny_bind (hr prog w _ _ ?_)))
      wp_walk
      exact ⟨_, rfl, fin⟩
    case fin =>
      rintro ⟨c1, c2⟩ s' ⟨_, _, hh⟩
      cases hh
    case h => exact ⟨rfl, rfl, hz⟩
theorem head_gt {A : Around} {s : Shared} {p q : Addr} {x y : Value} {xs ys : List Value} {k : Bool} (t1 : s.heap.IsTuple p (x :: xs).toArray) (t2 : s.heap.IsTuple q (y :: ys).toArray) (hu : A.units < cLine) (he : EqAt A.in1 s x y false) (hr : RcOp .Gt A.in1 s x y k) :
    RcOp .Gt A s (.ref p) (.ref q) k := fun prog w E Q hq => by
  obtain ⟨⟨c1, d1, da1, s1⟩, g1, e1, n1, f1⟩ := t1
  obtain ⟨⟨c2, d2, da2, s2⟩, g2, e2, n2, f2⟩ := t2
  simp only at e1 f1 e2 f2
  subst e1 f1 e2 f2
  exact richCompare_meets_room (op := .Gt) ⟨_, g1, rfl⟩ ⟨_, g2, rfl⟩ F.slot_tuple_gt F.entry_tuple_gt (F.args_tuple_gt_2 _ _) (first_gt p q x y xs ys n1 n2 d1 d2 s1 s2 k)
    ⟨g1, g2, he, hr, show Value.bool k ≠ Value.notImplemented ∧ Q (.bool k) s from ⟨(fun z => nomatch z), hq⟩⟩ hu
theorem first_ge (l b : Addr) (x y : Value) (xs ys : List Value) (n n2 : Nat) (dd dd2 : Option Addr) (sl sl2 : Array (Option Value)) (k : Bool) :
    Meets (Builtin.«tuple.__ge__» ⟨[.ref l, .ref b], []⟩)
      (fun A R s => s.heap.get? l = some { cls := .type "tuple", dict := dd, data := .seq (x :: xs).toArray n, slots := sl } ∧ s.heap.get? b = some { cls := .type "tuple", dict := dd2, data := .seq (y :: ys).toArray n2, slots := sl2 } ∧
        EqAt A.in1 s x y false ∧ RcOp .GtE A.in1 s x y k ∧ R (.ok (.ret (.bool k))) s) :=
  .of_wp fun prog w A R s hyp => by
    obtain ⟨hp, g, d, tk, os⟩ := s
    obtain ⟨f1, f2, he, hr, fin⟩ := hyp
    have sub := AutoSeq1.sub_tuple_tuple
    have hz : (x :: xs).toArray.toList.zip (y :: ys).toArray.toList = (x, y) :: xs.zip ys := by simp
    wp_walk using wpAny_loadPart' f1, wpAny_loadPart' f2, wpAny_forIn_list _ (fun todo c s' => c.1 = none ∧ s' = ⟨hp, g, d, tk, os⟩ ∧ todo = (x, y) :: xs.zip ys) _
    case turn =>
      rintro ⟨x', y'⟩ todo c s' ⟨_, rfl, hh⟩
      obtain ⟨rfl, rfl⟩ := Prod.mk.inj (List.cons.inj hh).1
      refine wpAny_bind (he prog w _ _ ?_)
      show wpAny _ _ (rule _ >>= fun _ => richCompare .GtE x' y' >>= _) _ _ _
      refine wpAny_bind (wpAny_rule (wpAny_bind (hr prog w _ _ ?_)))
      wp_walk
      exact ⟨_, rfl, fin⟩
    case fin =>
      rintro ⟨c1, c2⟩ s' ⟨_, _, hh⟩
      cases hh
    case h => exact ⟨rfl, rfl, hz⟩
theorem head_ge {A : Around} {s : Shared} {p q : Addr} {x y : Value} {xs ys : List Value} {k : Bool} (t1 : s.heap.IsTuple p (x :: xs).toArray) (t2 : s.heap.IsTuple q (y :: ys).toArray) (hu : A.units < cLine) (he : EqAt A.in1 s x y false) (hr : RcOp .GtE A.in1 s x y k) :
    RcOp .GtE A s (.ref p) (.ref q) k := fun prog w E Q hq => by
  obtain ⟨⟨c1, d1, da1, s1⟩, g1, e1, n1, f1⟩ := t1
  obtain ⟨⟨c2, d2, da2, s2⟩, g2, e2, n2, f2⟩ := t2
  simp only at e1 f1 e2 f2
  subst e1 f1 e2 f2
  exact richCompare_meets_room (op := .GtE) ⟨_, g1, rfl⟩ ⟨_, g2, rfl⟩ F.slot_tuple_ge F.entry_tuple_ge (F.args_tuple_ge_2 _ _) (first_ge p q x y xs ys n1 n2 d1 d2 s1 s2 k)
    ⟨g1, g2, he, hr, show Value.bool k ≠ Value.notImplemented ∧ Q (.bool k) s from ⟨(fun z => nomatch z), hq⟩⟩ hu
section
variable {A : Around} {s : Shared}
theorem rowNe_at {p q : Addr} {r1 r2 : Row} (a : RowAt s.heap p r1) (b : RowAt s.heap q r2) (hu : A.units < cLine) : RcNeAt A s (.ref p) (.ref q) (!decide (r1 = r2)) := by
  obtain ⟨i1, v1, t1⟩ := a
  obtain ⟨i2, v2, t2⟩ := b
  have l1 := v1.length
  have l2 := v2.length
  rw [List.length_map] at l1 l2
  have e : ((List.range (min i1.toArray.size i2.toArray.size)).all (fun j => decide (r1[j]? = r2[j]?)) && i1.toArray.size == i2.toArray.size) = decide (r1 = r2) := by
    rw [← all_pl, List.size_toArray, List.size_toArray, ← l1, ← l2]
  rw [← e]
  refine RcNeAt.tuples t1 t2 hu fun j h1 h2 => ?_
  have h1' : j < r1.length := by simpa [l1] using h1
  have h2' : j < r2.length := by simpa [l2] using h2
  have e1 : decide (r1[j]? = r2[j]?) = decide (r1[j] = r2[j]) := by
    rw [List.getElem?_eq_getElem h1', List.getElem?_eq_getElem h2']
    simp
  rw [e1]
  have q1 := vals_at v1 (j := j) (by rw [List.length_map]; exact h1') (by simpa using h1)
  have q2 := vals_at v2 (j := j) (by rw [List.length_map]; exact h2') (by simpa using h2)
  rw [List.getElem_map] at q1 q2
  exact key_eqAt (by simpa using q1) (by simpa using q2)
/-- two pairs in the order op, item by item -/
theorem pair_op {op : CmpOp} {a b a' b' : L2.Key} {p q : Addr} (ra : RowAt s.heap p [a, b]) (rb : RowAt s.heap q [a', b']) {r : Nat → Bool} {fin : Bool} {fz : Nat → Nat → Bool} (hf : fz 2 2 = fin)
    (tup : ∀ {l b : Addr} {items items2 : Array Value} {e r : Nat → Bool}, s.heap.IsTuple l items → s.heap.IsTuple b items2 → (∀ j (h1 : j < items.size) (h2 : j < items2.size), EqAt A.in1 s items[j] items2[j] (e j)) →
      (∀ j (h1 : j < items.size) (h2 : j < items2.size), e j = false → RcOp op A.in1 s items[j] items2[j] (r j)) → RcOp op A s (.ref l) (.ref b) (firstLt e r (fz items.size items2.size) (List.range (min items.size items2.size))))
    (h0 : ¬ a = a' → ∀ u v : Value, RelV (kV a) u → RelV (kV a') v → RcOp op A.in1 s u v (r 0)) (h1 : ¬ b = b' → ∀ u v : Value, RelV (kV b) u → RelV (kV b') v → RcOp op A.in1 s u v (r 1)) :
    RcOp op A s (.ref p) (.ref q) (if a = a' then (if b = b' then fin else r 1) else r 0) := by
  obtain ⟨i1, v1, t1⟩ := ra
  obtain ⟨i2, v2, t2⟩ := rb
  obtain ⟨u1, u2, rfl, x1, x2⟩ := L2.vals2 v1
  obtain ⟨w1, w2, rfl, y1, y2⟩ := L2.vals2 v2
  have e := tup (e := fun j => if j = 0 then decide (a = a') else decide (b = b')) (r := r) t1 t2 (fun j h1' h2' => ?_) (fun j h1' h2' hj => ?_)
  · have e2 : firstLt (fun j => if j = 0 then decide (a = a') else decide (b = b')) r (fz [u1, u2].toArray.size [w1, w2].toArray.size) (List.range (min [u1, u2].toArray.size [w1, w2].toArray.size)) = (if a = a' then (if b = b' then fin else r 1) else r 0) := by
      have e3 : List.range (min [u1, u2].toArray.size [w1, w2].toArray.size) = [0, 1] := rfl
      have e4 : fz [u1, u2].toArray.size [w1, w2].toArray.size = fin := hf
      rw [e3, e4]
      by_cases ha : a = a'
      · by_cases hb : b = b' <;> simp [firstLt, ha, hb]
      · simp [firstLt, ha]
    rw [e2] at e
    exact e
  · have hj : j = 0 ∨ j = 1 := by
      have : j < 2 := h1'
      omega
    rcases hj with rfl | rfl
    · exact key_eqAt x1 y1
    · exact key_eqAt x2 y2
  · have hj' : j = 0 ∨ j = 1 := by
      have : j < 2 := h1'
      omega
    rcases hj' with rfl | rfl
    · exact h0 (of_decide_eq_false hj) _ _ x1 y1
    · exact h1 (of_decide_eq_false hj) _ _ x2 y2
/-- .. of value_key's answers: f decides ints -/
theorem vk_op {op : CmpOp} {a b : L2.Key} {p q : Addr} (oa : okK a) (ob : okK b) (ra : RowAt s.heap p (vk a)) (rb : RowAt s.heap q (vk b)) {f : Int → Int → Bool} {fin : Bool} {fz : Nat → Nat → Bool} (hf : fz 2 2 = fin)
    (tup : ∀ {l b : Addr} {items items2 : Array Value} {e r : Nat → Bool}, s.heap.IsTuple l items → s.heap.IsTuple b items2 → (∀ j (h1 : j < items.size) (h2 : j < items2.size), EqAt A.in1 s items[j] items2[j] (e j)) →
      (∀ j (h1 : j < items.size) (h2 : j < items2.size), e j = false → RcOp op A.in1 s items[j] items2[j] (r j)) → RcOp op A s (.ref l) (.ref b) (firstLt e r (fz items.size items2.size) (List.range (min items.size items2.size))))
    (head : ∀ {p q : Addr} {x y : Value} {xs ys : List Value} {k : Bool}, s.heap.IsTuple p (x :: xs).toArray → s.heap.IsTuple q (y :: ys).toArray → EqAt A.in1 s x y false → RcOp op A.in1 s x y k → RcOp op A s (.ref p) (.ref q) k)
    (hin : ∀ (i j : Int) (u v : Value), RelV (.int i) u → RelV (.int j) v → RcOp op A.in1 s u v (f i j)) :
    RcOp op A s (.ref p) (.ref q) (match a, b with | .inl i, .inl j => if i = j then fin else f i j | .inl _, .inr _ => f 0 1 | .inr _, .inl _ => f 1 0 | .inr _, .inr _ => fin) := by
  cases a with
  | inl i =>
    cases b with
    | inl j =>
      have e := pair_op (r := fun _ => f i j) ra rb hf tup (fun h => absurd rfl h) (fun _ u v hx hy => hin i j u v hx hy)
      rw [if_pos rfl] at e
      simpa using e
    | inr y =>
      obtain ⟨i1, v1, t1⟩ := ra
      obtain ⟨i2, v2, t2⟩ := rb
      obtain ⟨u1, u2, rfl, x1, x2⟩ := L2.vals2 v1
      obtain ⟨w1, w2, rfl, y1, y2⟩ := L2.vals2 v2
      exact head t1 t2 (key_eqAt (a := .inl 0) (b := .inl 1) x1 y1) (hin 0 1 _ _ x1 y1)
  | inr x =>
    cases b with
    | inl j =>
      obtain ⟨i1, v1, t1⟩ := ra
      obtain ⟨i2, v2, t2⟩ := rb
      obtain ⟨u1, u2, rfl, x1, x2⟩ := L2.vals2 v1
      obtain ⟨w1, w2, rfl, y1, y2⟩ := L2.vals2 v2
      exact head t1 t2 (key_eqAt (a := .inl 1) (b := .inl 0) x1 y1) (hin 1 0 _ _ x1 y1)
    | inr y =>
      have e1 : x = "a" := oa
      have e2 : y = "a" := ob
      subst e1 e2
      have e := pair_op (r := fun _ => false) ra rb hf tup (fun h => absurd rfl h) (fun h => absurd rfl h)
      rw [if_pos rfl, if_pos rfl] at e
      exact e
theorem vk_lt {a b : L2.Key} {p q : Addr} (oa : okK a) (ob : okK b) (ra : RowAt s.heap p (vk a)) (rb : RowAt s.heap q (vk b)) (hu : A.units < cLine) : RcOp .Lt A s (.ref p) (.ref q) (kLt a b) := by
  have e := vk_op (op := .Lt) (f := fun i j => decide (i < j)) (fz := fun i j => decide (i < j)) (fin := false) oa ob ra rb rfl (fun h1 h2 h3 h4 => RcLt.tuples h1 h2 hu h3 h4) (fun h1 h2 h3 h4 => head_rcLt h1 h2 hu h3 h4) (fun i j u v hx hy => int_rcLt hx hy)
  cases a <;> cases b <;> simp only [kLt] at e ⊢
  · split at e
    · rename_i h
      subst h
      simpa using e
    · exact e
  · exact e
  · exact e
  · exact e
theorem vk_gt {a b : L2.Key} {p q : Addr} (oa : okK a) (ob : okK b) (ra : RowAt s.heap p (vk a)) (rb : RowAt s.heap q (vk b)) (hu : A.units < cLine) : RcOp .Gt A s (.ref p) (.ref q) (kLt b a) := by
  have e := vk_op (op := .Gt) (f := fun i j => decide (i > j)) (fz := fun i j => decide (i > j)) (fin := false) oa ob ra rb rfl (fun h1 h2 h3 h4 => RcOp.tuples_gt h1 h2 hu h3 h4) (fun h1 h2 h3 h4 => head_gt h1 h2 hu h3 h4) (fun i j u v hx hy => by
    obtain ⟨t, rfl⟩ := hx
    obtain ⟨t', rfl⟩ := hy
    intro prog w E Q hq
    exact P.gt_int hq)
  cases a <;> cases b <;> simp only [kLt] at e ⊢
  · split at e
    · rename_i h
      subst h
      simpa using e
    · exact e
  · exact e
  · exact e
  · exact e
theorem vk_ge {a b : L2.Key} {p q : Addr} (oa : okK a) (ob : okK b) (ra : RowAt s.heap p (vk a)) (rb : RowAt s.heap q (vk b)) (hu : A.units < cLine) : RcOp .GtE A s (.ref p) (.ref q) (!kLt a b) := by
  have e := vk_op (op := .GtE) (f := fun i j => decide (i ≥ j)) (fz := fun i j => decide (i ≥ j)) (fin := true) oa ob ra rb rfl (fun h1 h2 h3 h4 => RcOp.tuples_ge h1 h2 hu h3 h4) (fun h1 h2 h3 h4 => head_ge h1 h2 hu h3 h4) (fun i j u v hx hy => by
    obtain ⟨t, rfl⟩ := hx
    obtain ⟨t', rfl⟩ := hy
    intro prog w E Q hq
    exact P.ge_int hq)
  have q : ∀ i j : Int, (!decide (i < j)) = decide (i ≥ j) := fun i j => by
    by_cases h : i < j
    · rw [decide_eq_true h, decide_eq_false (by omega)]; rfl
    · rw [decide_eq_false h, decide_eq_true (by omega)]; rfl
  cases a <;> cases b <;> simp only [kLt] at e ⊢
  · rw [q]
    split at e
    · rename_i h
      subst h
      simpa using e
    · exact e
  · exact e
  · exact e
  · exact e
end
/-! ### the rules -/
section
variable {X : Cx}
def rK2 (f : L2.Key → L2.Key → Bool) : R2 := fun x y H Q => ∃ (p q : Addr) (a b : L2.Key), x = .ref p ∧ y = .ref q ∧ H p = some (.tup ((vk a).map kV)) ∧ H q = some (.tup ((vk b).map kV)) ∧ okK a ∧ okK b ∧ Q (.bl (f a b)) H
def rRow2 (f : Row → Row → Bool) : R2 := fun x y H Q => ∃ (p q : Addr) (a b : Row), x = .ref p ∧ y = .ref q ∧ H p = some (.tup (a.map kV)) ∧ H q = some (.tup (b.map kV)) ∧ Q (.bl (f a b)) H
theorem op_ltK (hu : X.A.units + 1 < cLine) : OpR X (compareOp .Lt) (rK2 kLt) := by
  intro pins s σ H x y v u Q I rx ry ⟨p, q, a, b, ex, ey, ha, hb, oa, ob, k⟩
  subst ex ey
  cases rx
  cases ry
  exact vk_lt oa ob (rowAt_of I.hok ha) (rowAt_of I.hok hb) (by omega) _ _ _ _ ⟨.bl _, H, I, rfl, k⟩
theorem op_gtK (hu : X.A.units + 1 < cLine) : OpR X (compareOp .Gt) (rK2 fun a b => kLt b a) := by
  intro pins s σ H x y v u Q I rx ry ⟨p, q, a, b, ex, ey, ha, hb, oa, ob, k⟩
  subst ex ey
  cases rx
  cases ry
  exact vk_gt oa ob (rowAt_of I.hok ha) (rowAt_of I.hok hb) (by omega) _ _ _ _ ⟨.bl _, H, I, rfl, k⟩
theorem op_geK (hu : X.A.units + 1 < cLine) : OpR X (compareOp .GtE) (rK2 fun a b => !kLt a b) := by
  intro pins s σ H x y v u Q I rx ry ⟨p, q, a, b, ex, ey, ha, hb, oa, ob, k⟩
  subst ex ey
  cases rx
  cases ry
  exact vk_ge oa ob (rowAt_of I.hok ha) (rowAt_of I.hok hb) (by omega) _ _ _ _ ⟨.bl _, H, I, rfl, k⟩
theorem op_eqRow (hu : X.A.units + 1 < cLine) : OpR X (compareOp .Eq) (rRow2 fun a b => decide (a = b)) := by
  intro pins s σ H x y v u Q I rx ry ⟨p, q, a, b, ex, ey, ha, hb, k⟩
  subst ex ey
  cases rx
  cases ry
  exact row_rcAt (rowAt_of I.hok ha) (rowAt_of I.hok hb) (by omega) _ _ _ _ ⟨.bl _, H, I, rfl, k⟩
theorem op_neRow (hu : X.A.units + 1 < cLine) : OpR X (compareOp .NotEq) (rRow2 fun a b => !decide (a = b)) := by
  intro pins s σ H x y v u Q I rx ry ⟨p, q, a, b, ex, ey, ha, hb, k⟩
  subst ex ey
  cases rx
  cases ry
  exact rowNe_at (rowAt_of I.hok ha) (rowAt_of I.hok hb) (by omega) _ _ _ _ ⟨.bl _, H, I, rfl, k⟩
end
/-! ### lists of things that are told apart by α -/
section
variable {α : Type} [DecidableEq α]
/-- the function that finds x in such a list -/
def isAt (ps : List (Addr × α)) (x : α) : Value → Bool
  | .ref b => (match ps.lookup b with
    | some y => decide (y = x)
    | none => false)
  | _ => false
theorem isAt_of {ps : List (Addr × α)} (one : ∀ p ∈ ps, ∀ q ∈ ps, p.1 = q.1 → p.2 = q.2) {p : Addr × α} (hp : p ∈ ps) (x : α) : isAt ps x (.ref p.1) = decide (p.2 = x) := by
  obtain ⟨y, hy⟩ := mem_lookup' (a := p.1) (x := p.2) hp
  have e := one _ (lookup_mem hy) _ hp rfl
  show (match ps.lookup p.1 with | some y => decide (y = x) | none => false) = _
  rw [hy]
  show decide (y = x) = _
  rw [show y = p.2 from e]
theorem any_isAt {ps : List (Addr × α)} (one : ∀ p ∈ ps, ∀ q ∈ ps, p.1 = q.1 → p.2 = q.2) (x : α) : (ps.map fun p => Value.ref p.1).any (isAt ps x) = decide (x ∈ ps.map (·.2)) := by
  by_cases h : x ∈ ps.map (·.2)
  · rw [decide_eq_true h, List.any_eq_true]
    obtain ⟨p, hp, e⟩ := List.mem_map.mp h
    exact ⟨_, List.mem_map_of_mem hp, by rw [isAt_of one hp]; exact decide_eq_true e⟩
  · rw [decide_eq_false h, List.any_eq_false]
    intro v hv
    obtain ⟨p, hp, rfl⟩ := List.mem_map.mp hv
    rw [isAt_of one hp]
    intro z
    exact h (List.mem_map.mpr ⟨p, hp, of_decide_eq_true z⟩)
/-- a kind of things in the heap that the machine's == tells apart -/
structure Tells (R : Hp → Addr → α → Prop) : Prop where
  eq : ∀ {X : Cx} {pins : List (Addr × Obj)} {σ : L2.St} {H : Hp} {s : Shared} {p q : Addr} {a b : α}, Inv X pins σ H s → X.A.units + 3 < cLine → R H p a → R H q b → EqAt X.A.in1 s (.ref p) (.ref q) (decide (a = b))
  one : ∀ {H : Hp} {p : Addr} {a b : α}, R H p a → R H p b → a = b
variable {X : Cx} {R : Hp → Addr → α → Prop}
def rInT (K : PySem.W.Frag) (R : Hp → Addr → α → Prop) (neg : Bool) : R2 := fun x y H Q => ∃ (a l : Addr) (r : α) (ps : List (Addr × α)), x = .ref a ∧ y = .ref l ∧ R H a r ∧ SqL K H l (ps.map fun p => V.ref p.1) ∧ (∀ p ∈ ps, R H p.1 p.2) ∧
  Q (.bl (if neg then !decide (r ∈ ps.map (·.2)) else decide (r ∈ ps.map (·.2)))) H
theorem vals_refs' {ps : List (Addr × α)} {its : List Value} (v : Vals (ps.map fun p => V.ref p.1) its) : its = ps.map fun p => Value.ref p.1 := by
  have e := vals_refs (bs := ps.map (·.1)) (its := its) (by rw [List.map_map]; exact v)
  rw [e, List.map_map]
  rfl
theorem op_inT (T : Tells R) (hu : X.A.units + 3 < cLine) : OpR X (compareOp .In) (rInT X.K R false) := by
  intro pins s σ H x y v u Q I rx ry ⟨a, l, r, ps, ex, ey, ha, hl, hp, k⟩
  subst ex ey
  cases rx
  cases ry
  obtain ⟨its, rv, pl, hz⟩ := I.list hl
  have e := vals_refs' rv
  subst e
  have one : ∀ p ∈ ps, ∀ q ∈ ps, p.1 = q.1 → p.2 = q.2 := fun p h1 q h2 e => T.one (hp p h1) (by rw [e]; exact hp q h2)
  refine in_listAt (isAt ps r) pl.isList (fun w hw => ?_) ⟨.bl _, H, I, rfl, ?_⟩
  · have hw' : w ∈ ps.map fun p => Value.ref p.1 := by simpa using hw
    obtain ⟨p, h1, rfl⟩ := List.mem_map.mp hw'
    rw [isAt_of one h1]
    exact T.eq I hu (hp p h1) ha
  · rw [show (ps.map fun p => Value.ref p.1).toArray.any (isAt ps r) = (ps.map fun p => Value.ref p.1).any (isAt ps r) by simp, any_isAt one]
    exact k
theorem op_notInT (T : Tells R) (hu : X.A.units + 3 < cLine) : OpR X (compareOp .NotIn) (rInT X.K R true) := by
  intro pins s σ H x y v u Q I rx ry ⟨a, l, r, ps, ex, ey, ha, hl, hp, k⟩
  subst ex ey
  cases rx
  cases ry
  obtain ⟨its, rv, pl, hz⟩ := I.list hl
  have e := vals_refs' rv
  subst e
  have one : ∀ p ∈ ps, ∀ q ∈ ps, p.1 = q.1 → p.2 = q.2 := fun p h1 q h2 e => T.one (hp p h1) (by rw [e]; exact hp q h2)
  refine notIn_listAt (isAt ps r) pl.isList (fun w hw => ?_) ⟨.bl _, H, I, rfl, ?_⟩
  · have hw' : w ∈ ps.map fun p => Value.ref p.1 := by simpa using hw
    obtain ⟨p, h1, rfl⟩ := List.mem_map.mp hw'
    rw [isAt_of one h1]
    exact T.eq I hu (hp p h1) ha
  · rw [show (ps.map fun p => Value.ref p.1).toArray.any (isAt ps r) = (ps.map fun p => Value.ref p.1).any (isAt ps r) by simp, any_isAt one]
    exact k
/-- l.remove(x), x there: the first is gone -/
def rRemT (R : Hp → Addr → α → Prop) : V → List V → Hp → VK → Prop := fun x xs H Q => ∃ (l a : Addr) (r : α) (pre : List (Addr × α)) (m : Addr × α) (post : List (Addr × α)), x = .ref l ∧ xs = [.ref a] ∧ R H a r ∧ H l = some (.lst ((pre ++ m :: post).map fun p => V.ref p.1)) ∧ (∀ p ∈ pre ++ m :: post, R H p.1 p.2) ∧
  m.2 = r ∧ (∀ p ∈ pre, p.2 ≠ r) ∧ Q .non (upd H l (.lst ((pre ++ post).map fun p => V.ref p.1)))
theorem mt_removeT (T : Tells R) (hu : X.A.units + 3 < cLine) : MtM X "list.remove" (rRemT R) := by
  intro pins s σ H x xs v us Q I rx rxs ⟨l, a, r, pre, m, post, ex, es, ha, hH, hp, hm, hn, k⟩
  subst ex es
  cases rx
  obtain ⟨u, rfl, ru⟩ := rxs.one
  cases ru
  obtain ⟨z, its, n, rv, hl, e⟩ := I.lstM hH
  have ei := vals_refs' rv
  subst ei
  have one : ∀ p ∈ pre ++ m :: post, ∀ q ∈ pre ++ m :: post, p.1 = q.1 → p.2 = q.2 := fun p h1 q h2 e => T.one (hp p h1) (by rw [e]; exact hp q h2)
  have hz : ((pre ++ m :: post).map fun p => Value.ref p.1).length ≤ sizeLine := by
    rw [List.length_map] at z ⊢
    omega
  refine call_meets PySem.F.slot_list_remove ⟨_, e, rfl⟩ PySem.F.entry_list_remove (PySem.F.args_list_remove_2 _ _)
    (list_removeAt l ((pre ++ m :: post).map fun p => Value.ref p.1).toArray n none #[] (.ref a) (isAt (pre ++ m :: post) r) pre.length (by simp) ?_ ?_ (by simpa using hz)) ⟨e, fun y hy => ?_, ?_⟩
  · have e1 : ((pre ++ m :: post).map fun p => Value.ref p.1).toArray[pre.length]'(by simp) = .ref m.1 := by simp
    rw [e1, isAt_of one (by simp)]
    exact decide_eq_true hm
  · intro j hj hjp
    have e1 : ((pre ++ m :: post).map fun p => Value.ref p.1).toArray[j]'hj = .ref pre[j].1 := by
      simp only [List.map_append, List.map_cons, List.getElem_toArray]
      rw [List.getElem_append_left (by simpa using hjp)]
      simp
    rw [e1, isAt_of one (List.mem_append_left _ (List.getElem_mem hjp))]
    exact decide_eq_false (hn _ (List.getElem_mem hjp))
  · have hy' : y ∈ (pre ++ m :: post).map fun p => Value.ref p.1 := by simpa using hy
    obtain ⟨p, h1, rfl⟩ := List.mem_map.mp hy'
    rw [isAt_of one h1]
    exact T.eq I hu (hp p h1) ha
  · have er : ((pre ++ m :: post).map fun p => Value.ref p.1).eraseIdx pre.length = (pre ++ post).map fun p => Value.ref p.1 := by
      rw [List.map_append, List.map_append, List.map_cons, List.eraseIdx_append_of_length_le (by simp)]
      simp
    refine ⟨.non, _, I.lset (its' := (pre ++ post).map fun p => Value.ref p.1) (t' := s.toks) hH e ?_ ?_ ?_, rfl, k⟩
    · show ((pre ++ m :: post).map fun p => Value.ref p.1).toArray.eraseIdxIfInBounds pre.length = _
      rw [List.eraseIdxIfInBounds_toArray, er]
    · have q := refs_vals ((pre ++ post).map (·.1))
      rw [List.map_map, List.map_map] at q
      exact q
    · rw [List.length_map, List.length_append] at *
      simp at z ⊢
      omega
end
def RowH (H : Hp) (p : Addr) (r : Row) : Prop := H p = some (.tup (r.map kV))
theorem kVmap_inj : ∀ {r r' : Row}, r.map kV = r'.map kV → r = r'
  | [], [], _ => rfl
  | a :: r, b :: r', h => by
    injection h with h1 h2
    have e : a = b := by
      cases a <;> cases b <;> simp [kV] at h1
      · exact congrArg Sum.inl h1
      · exact congrArg Sum.inr h1
    rw [e, kVmap_inj h2]
theorem RowH.one {H : Hp} {p : Addr} {a b : Row} (x : RowH H p a) (y : RowH H p b) : a = b := by
  have e := Option.some.inj (x.symm.trans y)
  injection e with e
  exact kVmap_inj e
theorem tells_row : Tells RowH := ⟨fun I hu a b => row_eqAt (rowAt_of I.hok a) (rowAt_of I.hok b) (by show _ + 1 < _; omega), fun a b => a.one b⟩
end Rs


set_option Elab.async false
set_option linter.all false
set_option maxRecDepth 100000
set_option maxHeartbeats 2000000
/-! # M1: terms, literals, bodies, environments; how they stand in the heap -/
namespace Rs
open PySem PySem.Spec PyProof.Rows L2
/-! ### association lists in a dict's order -/
section
variable {κ β γ : Type} [DecidableEq κ]
def look (l : List (κ × β)) (k : κ) : Option β := (l.find? fun p => decide (p.1 = k)).map (·.2)
def put (l : List (κ × β)) (k : κ) (v : β) : List (κ × β) := if (l.any fun p => decide (p.1 = k)) = true then l.map (fun p => if p.1 = k then (p.1, v) else p) else l ++ [(k, v)]
theorem look_nil (k : κ) : look ([] : List (κ × β)) k = none := rfl
theorem look_pos {p : κ × β} {r : List (κ × β)} {k : κ} (e : p.1 = k) : look (p :: r) k = some p.2 := by simp [look, List.find?_cons, e]
theorem look_neg {p : κ × β} {r : List (κ × β)} {k : κ} (e : ¬ p.1 = k) : look (p :: r) k = look r k := by simp [look, List.find?_cons, e]
theorem look_any (k : κ) : ∀ l : List (κ × β), (l.any fun p => decide (p.1 = k)) = (look l k).isSome
  | [] => rfl
  | p :: r => by
    rw [List.any_cons]
    by_cases e : p.1 = k
    · rw [look_pos e, decide_eq_true e]
      rfl
    · rw [look_neg e, decide_eq_false e, look_any k r]
      rfl
theorem look_mem {l : List (κ × β)} {k : κ} {v : β} (h : look l k = some v) : (k, v) ∈ l := by
  induction l with
  | nil => cases h
  | cons p r ih =>
    by_cases e : p.1 = k
    · rw [look_pos e] at h
      injection h with h
      rw [← e, ← h]
      exact List.mem_cons_self ..
    · rw [look_neg e] at h
      exact List.mem_cons_of_mem _ (ih h)
theorem look_of_mem {l : List (κ × β)} {k : κ} {v : β} (h : (k, v) ∈ l) : ∃ u, look l k = some u := by
  induction l with
  | nil => cases h
  | cons p r ih =>
    by_cases e : p.1 = k
    · exact ⟨_, look_pos e⟩
    · rw [look_neg e]
      rcases List.mem_cons.mp h with h | h
      · rw [← h] at e
        exact absurd rfl e
      · exact ih h
theorem look_put (k j : κ) (v : β) : ∀ l : List (κ × β), look (put l k v) j = if j = k then some v else look l j := by
  have h1 : ∀ l : List (κ × β), look (l.map fun p => if p.1 = k then (p.1, v) else p) j = (look l j).map fun x => if j = k then v else x := by
    intro l
    induction l with
    | nil => rfl
    | cons p r ih =>
      rw [List.map_cons]
      by_cases e : p.1 = j
      · rw [look_pos e]
        by_cases ek : p.1 = k
        · rw [if_pos ek, look_pos (p := (p.1, v)) e]
          simp [← e, ek]
        · rw [if_neg ek, look_pos e]
          simp [← e, ek]
      · rw [look_neg e]
        by_cases ek : p.1 = k
        · rw [if_pos ek, look_neg (p := (p.1, v)) e]
          exact ih
        · rw [if_neg ek, look_neg e]
          exact ih
  have h2 : ∀ l : List (κ × β), look l k = none → look (l ++ [(k, v)]) j = if j = k then some v else look l j := by
    intro l
    induction l with
    | nil =>
      intro _
      by_cases e : j = k
      · subst e
        simp [look]
      · have : ¬ k = j := fun z => e z.symm
        simp [look, e, this]
    | cons p r ih =>
      intro hn
      by_cases ek : p.1 = k
      · rw [look_pos ek] at hn
        cases hn
      · rw [look_neg ek] at hn
        rw [List.cons_append]
        by_cases e : p.1 = j
        · rw [look_pos e, look_pos e, if_neg (by rw [← e]; exact ek)]
        · rw [look_neg e, look_neg e]
          exact ih hn
  intro l
  unfold put
  rw [look_any]
  cases hl : look l k with
  | none =>
    rw [if_neg (by simp)]
    exact h2 l hl
  | some u =>
    rw [if_pos (by simp), h1]
    by_cases e : j = k
    · subst e
      simp [hl]
    · simp [e]
theorem put_length (l : List (κ × β)) (k : κ) (v : β) : (put l k v).length ≤ l.length + 1 := by
  unfold put
  split
  · rw [List.length_map]
    omega
  · rw [List.length_append, List.length_singleton]
    exact Nat.le_refl _
theorem put_mem {l : List (κ × β)} {k : κ} {v : β} {p : κ × β} (h : p ∈ put l k v) : p = (k, v) ∨ p ∈ l := by
  unfold put at h
  split at h
  · obtain ⟨q, hq, e⟩ := List.mem_map.mp h
    split at e
    · rename_i ek
      rw [ek] at e
      exact .inl e.symm
    · rw [← e]
      exact .inr hq
  · rcases List.mem_append.mp h with h | h
    · exact .inr h
    · exact .inl (List.mem_singleton.mp h)
theorem put_keys (l : List (κ × β)) (k : κ) (v : β) : (put l k v).map (·.1) = if (look l k).isSome = true then l.map (·.1) else l.map (·.1) ++ [k] := by
  unfold put
  rw [look_any]
  split
  · rw [List.map_map]
    refine List.map_congr_left fun p hp => ?_
    show (if p.1 = k then (p.1, v) else p).1 = p.1
    split <;> rfl
  · rw [List.map_append]
    rfl
theorem look_none {l : List (κ × β)} {k : κ} : look l k = none ↔ k ∉ l.map (·.1) := by
  induction l with
  | nil => simp [look]
  | cons p r ih =>
    by_cases e : p.1 = k
    · rw [look_pos e]
      simp [e]
    · rw [look_neg e, ih]
      have : ¬ k = p.1 := fun z => e z.symm
      simp [this]
theorem put_nodup {l : List (κ × β)} {k : κ} {v : β} (h : (l.map (·.1)).Nodup) : ((put l k v).map (·.1)).Nodup := by
  rw [put_keys]
  split
  · exact h
  · rename_i e
    have hn : look l k = none := by
      cases q : look l k with
      | none => rfl
      | some u =>
        rw [q] at e
        exact absurd rfl e
    rw [List.nodup_append]
    refine ⟨h, by simp, fun a ha b hb => ?_⟩
    rw [List.mem_singleton.mp hb]
    rintro rfl
    exact look_none.mp hn ha
end
/-- a dict's content from an association list -/
def encS {β : Type} (f : β → V) (l : List (Str × β)) : List (L2.Key × V) := l.map fun p => (.inr p.1, f p.2)
theorem encS_val {β : Type} (f : β → V) (x : Str) : ∀ l : List (Str × β), valV (encS f l) (.inr x) = (look l x).map f
  | [] => rfl
  | p :: r => by
    show valV ((Sum.inr p.1, f p.2) :: encS f r) _ = _
    by_cases e : p.1 = x
    · rw [look_pos e, valV_pos (congrArg Sum.inr e)]
      rfl
    · rw [look_neg e, valV_neg (fun z => e (Sum.inr.inj z)), encS_val f x r]
theorem encS_put {β : Type} (f : β → V) (l : List (Str × β)) (x : Str) (v : β) : putK (encS f l) (.inr x) (f v) = encS f (put l x v) := by
  have h : ((encS f l).any fun kv => decide (kv.1 = (Sum.inr x : L2.Key))) = (l.any fun p => decide (p.1 = x)) := by
    rw [valV_any, encS_val, look_any]
    cases look l x <;> rfl
  unfold putK put
  rw [h]
  split
  · unfold encS
    rw [List.map_map, List.map_map]
    refine List.map_congr_left fun p _ => ?_
    by_cases e : p.1 = x
    · have e2 : (Sum.inr p.1 : L2.Key) = Sum.inr x := congrArg Sum.inr e
      simp [e]
    · have e2 : ¬ (Sum.inr p.1 : L2.Key) = Sum.inr x := fun z => e (Sum.inr.inj z)
      simp [e]
  · unfold encS
    rw [List.map_append]
    rfl
theorem encS_len {β : Type} (f : β → V) (l : List (Str × β)) : (encS f l).length = l.length := List.length_map _
/-! ### terms -/
inductive Tm where
  | var (x : Str)
  | val (k : L2.Key)
  | any
  deriving DecidableEq
def Tm.enc : Tm → Row
  | .var x => [.inr "variable", .inr x]
  | .val k => [.inr "value", k]
  | .any => [.inr "any"]
inductive Lit where
  | fact (r : Str) (ts : List Tm)
  | not_ (r : Str) (ts : List Tm)
  | cmp (op : Str) (a b : Tm)
  | is_ (x op : Str) (a b : Tm)
  | cnt (x r : Str) (ts : List Tm)
  deriving DecidableEq
abbrev Envr : Type := List (Str × L2.Key)
abbrev TmAt (H : Hp) (p : Addr) (t : Tm) : Prop := RowH H p t.enc
/-- a tuple of things of a kind stands at p -/
def TupOf {α : Type} (R : Hp → Addr → α → Prop) (H : Hp) (p : Addr) (l : List α) : Prop := ∃ ps : List (Addr × α), H p = some (.tup (ps.map fun q => V.ref q.1)) ∧ ps.map (·.2) = l ∧ ∀ q ∈ ps, R H q.1 q.2
/-- a list of them -/
def LstOf {α : Type} (R : Hp → Addr → α → Prop) (H : Hp) (p : Addr) (l : List α) : Prop := ∃ ps : List (Addr × α), H p = some (.lst (ps.map fun q => V.ref q.1)) ∧ ps.map (·.2) = l ∧ ∀ q ∈ ps, R H q.1 q.2
/-- the tuples stay -/
def SameT (H H' : Hp) : Prop := ∀ b xs, H b = some (.tup xs) → H' b = some (.tup xs)
/-- all but lists stays -/
def SameL (H H' : Hp) : Prop := ∀ b o, (∀ xs, o ≠ .lst xs) → H b = some o → H' b = some o
theorem SameT.refl (H : Hp) : SameT H H := fun _ _ h => h
theorem SameT.trans {H H1 H2 : Hp} (a : SameT H H1) (b : SameT H1 H2) : SameT H H2 := fun c o h => b c o (a c o h)
theorem SameL.refl (H : Hp) : SameL H H := fun _ _ _ h => h
theorem SameL.trans {H H1 H2 : Hp} (a : SameL H H1) (b : SameL H1 H2) : SameL H H2 := fun c o n h => b c o n (a c o n h)
theorem SameL.t {H H' : Hp} (s : SameL H H') : SameT H H' := fun b xs h => s b _ (fun _ z => nomatch z) h
theorem _root_.L2.Same.l {H H' : Hp} (s : Same H H') : SameL H H' := fun b o _ h => s b o h
theorem _root_.L2.Same.t {H H' : Hp} (s : Same H H') : SameT H H' := fun b xs h => s b _ h
theorem sameT_upd {H : Hp} {D : Addr} {o : HO} (h : ∀ xs, H D ≠ some (.tup xs)) : SameT H (upd H D o) := fun b xs e => by
  rw [upd_ne (fun z => h xs (by rw [← z]; exact e))]
  exact e
theorem sameT_lst {H : Hp} {D : Addr} {o : HO} {ys : List V} (h : H D = some (.lst ys)) : SameT H (upd H D o) := sameT_upd fun xs z => by rw [h] at z; cases z
theorem sameT_dK {H : Hp} {D : Addr} {o : HO} {ys : List (L2.Key × V)} (h : H D = some (.dK ys)) : SameT H (upd H D o) := sameT_upd fun xs z => by rw [h] at z; cases z
theorem sameT_new {H : Hp} {D : Addr} {o : HO} (h : H D = none) : SameT H (upd H D o) := sameT_upd fun xs z => by rw [h] at z; cases z
theorem sameL_lst {H : Hp} {D : Addr} {o : HO} {ys : List V} (h : H D = some (.lst ys)) : SameL H (upd H D o) := fun b u n e => by
  rw [upd_ne (fun z => n ys (by rw [z, h] at e; exact (Option.some.inj e).symm))]
  exact e
/-- what stays where the tuples stay -/
structure Stays {α : Type} (R : Hp → Addr → α → Prop) : Prop where
  go : ∀ {H H' : Hp} {p : Addr} {x : α}, SameT H H' → R H p x → R H' p x
theorem stays_row : Stays RowH := ⟨fun s h => s _ _ h⟩
theorem stays_tup {α : Type} {R : Hp → Addr → α → Prop} (S : Stays R) : Stays (TupOf R) := ⟨fun s ⟨ps, h, e, q⟩ => ⟨ps, s _ _ h, e, fun x hx => S.go s (q x hx)⟩⟩
theorem LstOf.keep {α : Type} {R : Hp → Addr → α → Prop} (S : Stays R) {H H' : Hp} {p : Addr} {l : List α} (s : SameT H H') (e : H' p = H p) (h : LstOf R H p l) : LstOf R H' p l := by
  obtain ⟨ps, h, e2, q⟩ := h
  exact ⟨ps, by rw [e]; exact h, e2, fun x hx => S.go s (q x hx)⟩
theorem LstOf.same {α : Type} {R : Hp → Addr → α → Prop} (S : Stays R) {H H' : Hp} {p : Addr} {l : List α} (s : Same H H') (h : LstOf R H p l) : LstOf R H' p l := by
  obtain ⟨ps, h, e2, q⟩ := h
  exact ⟨ps, s _ _ h, e2, fun x hx => S.go s.t (q x hx)⟩
abbrev TmsAt : Hp → Addr → List Tm → Prop := TupOf TmAt
theorem stays_tm : Stays TmAt := ⟨fun s h => s _ _ h⟩
theorem stays_tms : Stays TmsAt := stays_tup stays_tm
def LitAt (H : Hp) (p : Addr) : Lit → Prop
  | .fact r ts => ∃ a, H p = some (.tup [.str "fact", .str r, .ref a]) ∧ TmsAt H a ts
  | .not_ r ts => ∃ a, H p = some (.tup [.str "not", .str r, .ref a]) ∧ TmsAt H a ts
  | .cmp op a b => ∃ x y, H p = some (.tup [.str "compare", .str op, .ref x, .ref y]) ∧ TmAt H x a ∧ TmAt H y b
  | .is_ v op a b => ∃ x y, H p = some (.tup [.str "is", .str v, .str op, .ref x, .ref y]) ∧ TmAt H x a ∧ TmAt H y b
  | .cnt v r ts => ∃ a, H p = some (.tup [.str "count", .str v, .str r, .ref a]) ∧ TmsAt H a ts
theorem stays_lit : Stays LitAt := by
  refine ⟨fun {H H' p x} s h => ?_⟩
  cases x with
  | fact r ts =>
    obtain ⟨a, h1, h2⟩ := h
    exact ⟨a, s _ _ h1, stays_tms.go s h2⟩
  | not_ r ts =>
    obtain ⟨a, h1, h2⟩ := h
    exact ⟨a, s _ _ h1, stays_tms.go s h2⟩
  | cmp op t u =>
    obtain ⟨a, b, h1, h2, h3⟩ := h
    exact ⟨a, b, s _ _ h1, s _ _ h2, s _ _ h3⟩
  | is_ v op t u =>
    obtain ⟨a, b, h1, h2, h3⟩ := h
    exact ⟨a, b, s _ _ h1, s _ _ h2, s _ _ h3⟩
  | cnt v r ts =>
    obtain ⟨a, h1, h2⟩ := h
    exact ⟨a, s _ _ h1, stays_tms.go s h2⟩
abbrev Body : Type := List Lit
abbrev BodyAt : Hp → Addr → Body → Prop := TupOf LitAt
theorem stays_body : Stays BodyAt := stays_tup stays_lit
/-- an environment: a dict from variables to values -/
def EnvAt (H : Hp) (p : Addr) (e : Envr) : Prop := H p = some (.dK (encS kV e))
/-- names in a list, in a tuple -/
def StrL (H : Hp) (p : Addr) (l : List Str) : Prop := H p = some (.lst (l.map V.str))
/-- rows by relation: a dict of lists of rows -/
def RowsAt (H : Hp) (p : Addr) (l : List (Str × List Row)) : Prop := ∃ ps : List (Str × Addr × List Row), H p = some (.dK (encS V.ref (ps.map fun q => (q.1, q.2.1)))) ∧ (ps.map fun q => (q.1, q.2.2)) = l ∧ ∀ q ∈ ps, LstOf RowH H q.2.1 q.2.2
theorem RowsAt.same {H H' : Hp} {p : Addr} {l : List (Str × List Row)} (s : Same H H') (h : RowsAt H p l) : RowsAt H' p l := by
  obtain ⟨ps, h, e, q⟩ := h
  exact ⟨ps, s _ _ h, e, fun x hx => (q x hx).same stays_row s⟩
theorem look_map {κ β γ : Type} [DecidableEq κ] (f : β → γ) (k : κ) : ∀ l : List (κ × β), look (l.map fun q => (q.1, f q.2)) k = (look l k).map f
  | [] => rfl
  | p :: r => by
    rw [List.map_cons]
    by_cases e : p.1 = k
    · rw [look_pos (p := (p.1, f p.2)) e, look_pos e]
      rfl
    · rw [look_neg (p := (p.1, f p.2)) e, look_neg e, look_map f k r]
/-! ### the heap -/
theorem same_new {H : Hp} {p : Addr} {o : HO} (h : H p = none) : Same H (upd H p o) := fun b u e => by rw [upd_ne (ne_of_none e h)]; exact e
theorem dgetS {β : Type} {f : β → V} {H : Hp} {a : Addr} {l : List (Str × β)} {x : Str} {v : β} (h : Rd H a (.dK (encS f l))) (e : look l x = some v) : DGet H a (.str x) (some (f v)) := .inl ⟨_, .inr x, h, rfl, by rw [encS_val, e]; rfl⟩
theorem dgetS' {β : Type} {f : β → V} {H : Hp} {a : Addr} {l : List (Str × β)} (x : Str) (h : Rd H a (.dK (encS f l))) : DGet H a (.str x) ((look l x).map f) := .inl ⟨_, .inr x, h, rfl, by rw [encS_val]⟩
/-! ### loops and comprehensions, by what is done and what is left -/
theorem SqT.of_H {K : PySem.W.Frag} {H : Hp} {p : Addr} {xs : List V} (h : H p = some (.tup xs)) : SqT K H p xs := .inl (.inl h)
theorem SqL.of_H {K : PySem.W.Frag} {H : Hp} {p : Addr} {xs : List V} (h : H p = some (.lst xs)) : SqL K H p xs := .inl (.inl h)
theorem split_at {α : Type} {l : List α} {i : Nat} {x : V} {f : α → V} (h : (l.map f)[i]? = some x) : ∃ y, x = f y ∧ l = l.take i ++ y :: l.drop (i + 1) ∧ l.take (i + 1) = l.take i ++ [y] ∧ (l.take i).length = i := by
  rw [List.getElem?_map] at h
  cases e : l[i]? with
  | none =>
    rw [e] at h
    cases h
  | some y =>
    rw [e] at h
    obtain ⟨hi, he⟩ := List.getElem?_eq_some_iff.mp e
    refine ⟨y, (Option.some.inj h).symm, ?_, ?_, ?_⟩
    · have q := List.take_append_drop i l
      rw [List.drop_eq_getElem_cons hi, he] at q
      exact q.symm
    · rw [List.take_succ, e]
      rfl
    · rw [List.length_take]
      omega
section
variable {α : Type} {K : PySem.W.Frag} {a : Addr} {l : List α} {f : α → V} {g : TG}
theorem for_tupG {tb : TS} {D : Ends} {σ : L2.St} {H : Hp} (W : List α → L2.St → Hp → Prop) (h0 : W [] σ H) (hl : ∀ pre σ H, W pre σ H → SqT K H a (l.map f))
    (hs : ∀ pre x post σ H, l = pre ++ x :: post → W pre σ H → g (f x) σ H fun σ2 H2 => tb { D with nx := W (pre ++ [x]), ct := W (pre ++ [x]), bk := D.nx } σ2 H2) (hd : ∀ σ H, W l σ H → D.nx σ H) :
    ∃ W : Nat → Nat → L2.St → Hp → Prop, (∃ m, W 0 m σ H) ∧ ∀ i m σ H, W i m σ H →
      ((Itt K a).stop i H ∧ D.nx σ H) ∨ ((Itt K a).go i H ∧ ∃ N : L2.St → Hp → Prop, (∀ σ' H', N σ' H' → ∃ m', m' < m ∧ W (i + 1) m' σ' H') ∧ ∀ x H', (Itt K a).yld i H x H' → g x σ H' fun σ2 H2 => tb { D with nx := N, ct := N, bk := D.nx } σ2 H2) := by
  refine for_tup (K := K) (a := a) (xs := l.map f) (fun i σ H => W (l.take i) σ H) h0 (fun i σ H _ h => hl _ σ H h) (fun i x σ H hx h => ?_) (fun σ H h => hd σ H ?_)
  · obtain ⟨y, rfl, e1, e2, e3⟩ := split_at hx
    rw [e2]
    exact hs _ y _ σ H e1 h
  · rw [List.length_map, List.take_length] at h
    exact h
theorem for_listG {tb : TS} {D : Ends} {σ : L2.St} {H : Hp} (W : List α → L2.St → Hp → Prop) (h0 : W [] σ H) (hl : ∀ pre σ H, W pre σ H → SqL K H a (l.map f))
    (hs : ∀ pre x post σ H, l = pre ++ x :: post → W pre σ H → g (f x) σ H fun σ2 H2 => tb { D with nx := W (pre ++ [x]), ct := W (pre ++ [x]), bk := D.nx } σ2 H2) (hd : ∀ σ H, W l σ H → D.nx σ H) :
    ∃ W : Nat → Nat → L2.St → Hp → Prop, (∃ m, W 0 m σ H) ∧ ∀ i m σ H, W i m σ H →
      ((Itl K a).stop i H ∧ D.nx σ H) ∨ ((Itl K a).go i H ∧ ∃ N : L2.St → Hp → Prop, (∀ σ' H', N σ' H' → ∃ m', m' < m ∧ W (i + 1) m' σ' H') ∧ ∀ x H', (Itl K a).yld i H x H' → g x σ H' fun σ2 H2 => tb { D with nx := N, ct := N, bk := D.nx } σ2 H2) := by
  refine for_list (K := K) (a := a) (xs := l.map f) (fun i σ H => W (l.take i) σ H) h0 (fun i σ H _ h => hl _ σ H h) (fun i x σ H hx h => ?_) (fun σ H h => hd σ H ?_)
  · obtain ⟨y, rfl, e1, e2, e3⟩ := split_at hx
    rw [e2]
    exact hs _ y _ σ H e1 h
  · rw [List.length_map, List.take_length] at h
    exact h
/-- a comprehension over what stands at a: G acc pre, acc made of pre -/
theorem lc_tupG {tt : TT} {te : TE} {vs : List Nat} {σ : L2.St} {H1 : Hp} {D : Addr} {Qd : Hp → Prop} (hD : H1 D = none) (ha : SqT K H1 a (l.map f)) (hz : l.length ≤ 1000000) (G : Hp → List V → List α → Prop) (h0 : G (upd H1 D (.lst [])) [] [])
    (hs : ∀ (pre : List α) (x : α) (post : List α) (acc : List V) (H' : Hp) (Nx : V → Hp → Prop) (No : Hp → Prop), l = pre ++ x :: post → Same H1 H' → H' D = some (.lst acc) → G H' acc pre →
      (∀ y H4, Same H' H4 → G (upd H4 D (.lst (acc ++ [y]))) (acc ++ [y]) (pre ++ [x]) → Nx y H4) → (∀ H4, Same H' H4 → G H4 acc (pre ++ [x]) → No H4) →
      g (f x) (wipe σ vs) H' fun σ2 H2 => wipe σ2 vs = wipe σ vs ∧ tt σ2 H2 fun b H3 => if b = true then te σ2 H3 Nx else No H3)
    (hd : ∀ H' acc, Same H1 H' → H' D = some (.lst acc) → G H' acc l → Qd H') :
    ∃ W : Nat → Nat → Hp → Prop, (∃ m, W 0 m (upd H1 D (.lst []))) ∧ ∀ i m H, W i m H →
      ((Itt K a).stop i H ∧ Qd H) ∨ ((Itt K a).go i H ∧ ∃ Nx : Hp → Prop, (∀ H', Nx H' → ∃ m', m' < m ∧ W (i + 1) m' H') ∧ ∀ x H', (Itt K a).yld i H x H' → g x (wipe σ vs) H' fun σ2 H2 => wipe σ2 vs = wipe σ vs ∧ tt σ2 H2 fun b H3 =>
        if b = true then te σ2 H3 fun y H4 => ∃ acc, H4 D = some (.lst acc) ∧ acc.length < sizeLine ∧ Nx (upd H4 D (.lst (acc ++ [y]))) else Nx H3) := by
  refine lc_tup (K := K) (a := a) (xs := l.map f) (fun i H' => ∃ acc, Same H1 H' ∧ H' D = some (.lst acc) ∧ acc.length ≤ i ∧ G H' acc (l.take i)) ⟨[], same_new hD, upd_same, Nat.le_refl _, h0⟩ (fun i H' _ ⟨acc, s, _, _, _⟩ => ?_) (fun i x H' hx ⟨acc, s, eD, ln, hG⟩ => ?_) (fun H' ⟨acc, s, eD, ln, hG⟩ => ?_)
  · rcases ha with (ha | ⟨o, ha⟩) | ha
    · exact .inl (.inl (s _ _ ha))
    · exact .inl (.inr ⟨o, s _ _ ha⟩)
    · exact .inr ha
  · obtain ⟨y, rfl, e1, e2, e3⟩ := split_at hx
    have hi : i < l.length := by
      have q := congrArg List.length e1
      rw [List.length_append, List.length_cons, e3] at q
      omega
    have hsz : acc.length < sizeLine := by
      rw [sizeLine_eq]
      omega
    refine hs (l.take i) y _ acc H' _ _ e1 s eD hG (fun z H4 s4 g4 => ⟨acc, s4 _ _ eD, hsz, acc ++ [z], fun b o e => ?_, upd_same, ?_, ?_⟩) (fun H4 s4 g4 => ⟨acc, s.trans s4, s4 _ _ eD, by omega, ?_⟩)
    · rw [upd_ne (ne_of_none e hD)]
      exact s4 _ _ (s _ _ e)
    · rw [List.length_append, List.length_singleton]
      omega
    · rw [e2]
      exact g4
    · rw [e2]
      exact g4
  · rw [List.length_map, List.take_length] at hG
    exact hd H' acc s eD hG
theorem lc_listG {tt : TT} {te : TE} {vs : List Nat} {σ : L2.St} {H1 : Hp} {D : Addr} {Qd : Hp → Prop} (hD : H1 D = none) (ha : SqL K H1 a (l.map f)) (hz : l.length ≤ 1000000) (G : Hp → List V → List α → Prop) (h0 : G (upd H1 D (.lst [])) [] [])
    (hs : ∀ (pre : List α) (x : α) (post : List α) (acc : List V) (H' : Hp) (Nx : V → Hp → Prop) (No : Hp → Prop), l = pre ++ x :: post → Same H1 H' → H' D = some (.lst acc) → G H' acc pre →
      (∀ y H4, Same H' H4 → G (upd H4 D (.lst (acc ++ [y]))) (acc ++ [y]) (pre ++ [x]) → Nx y H4) → (∀ H4, Same H' H4 → G H4 acc (pre ++ [x]) → No H4) →
      g (f x) (wipe σ vs) H' fun σ2 H2 => wipe σ2 vs = wipe σ vs ∧ tt σ2 H2 fun b H3 => if b = true then te σ2 H3 Nx else No H3)
    (hd : ∀ H' acc, Same H1 H' → H' D = some (.lst acc) → G H' acc l → Qd H') :
    ∃ W : Nat → Nat → Hp → Prop, (∃ m, W 0 m (upd H1 D (.lst []))) ∧ ∀ i m H, W i m H →
      ((Itl K a).stop i H ∧ Qd H) ∨ ((Itl K a).go i H ∧ ∃ Nx : Hp → Prop, (∀ H', Nx H' → ∃ m', m' < m ∧ W (i + 1) m' H') ∧ ∀ x H', (Itl K a).yld i H x H' → g x (wipe σ vs) H' fun σ2 H2 => wipe σ2 vs = wipe σ vs ∧ tt σ2 H2 fun b H3 =>
        if b = true then te σ2 H3 fun y H4 => ∃ acc, H4 D = some (.lst acc) ∧ acc.length < sizeLine ∧ Nx (upd H4 D (.lst (acc ++ [y]))) else Nx H3) := by
  refine lc_list (K := K) (a := a) (xs := l.map f) (fun i H' => ∃ acc, Same H1 H' ∧ H' D = some (.lst acc) ∧ acc.length ≤ i ∧ G H' acc (l.take i)) ⟨[], same_new hD, upd_same, Nat.le_refl _, h0⟩ (fun i H' _ ⟨acc, s, _, _, _⟩ => s.seq ha) (fun i x H' hx ⟨acc, s, eD, ln, hG⟩ => ?_) (fun H' ⟨acc, s, eD, ln, hG⟩ => ?_)
  · obtain ⟨y, rfl, e1, e2, e3⟩ := split_at hx
    have hi : i < l.length := by
      have q := congrArg List.length e1
      rw [List.length_append, List.length_cons, e3] at q
      omega
    have hsz : acc.length < sizeLine := by
      rw [sizeLine_eq]
      omega
    refine hs (l.take i) y _ acc H' _ _ e1 s eD hG (fun z H4 s4 g4 => ⟨acc, s4 _ _ eD, hsz, acc ++ [z], fun b o e => ?_, upd_same, ?_, ?_⟩) (fun H4 s4 g4 => ⟨acc, s.trans s4, s4 _ _ eD, by omega, ?_⟩)
    · rw [upd_ne (ne_of_none e hD)]
      exact s4 _ _ (s _ _ e)
    · rw [List.length_append, List.length_singleton]
      omega
    · rw [e2]
      exact g4
    · rw [e2]
      exact g4
  · rw [List.length_map, List.take_length] at hG
    exact hd H' acc s eD hG
/-- over range(n) -/
theorem lc_rangeG {n : Nat} {tt : TT} {te : TE} {vs : List Nat} {σ : L2.St} {H1 : Hp} {D : Addr} {Qd : Hp → Prop} (hD : H1 D = none) (hz : n ≤ 1000000) (G : Hp → List V → Nat → Prop) (h0 : G (upd H1 D (.lst [])) [] 0)
    (hs : ∀ (i : Nat) (acc : List V) (H' : Hp) (Nx : V → Hp → Prop) (No : Hp → Prop), i < n → Same H1 H' → H' D = some (.lst acc) → G H' acc i →
      (∀ y H4, Same H' H4 → G (upd H4 D (.lst (acc ++ [y]))) (acc ++ [y]) (i + 1) → Nx y H4) → (∀ H4, Same H' H4 → G H4 acc (i + 1) → No H4) →
      g (.int (0 + i)) (wipe σ vs) H' fun σ2 H2 => wipe σ2 vs = wipe σ vs ∧ tt σ2 H2 fun b H3 => if b = true then te σ2 H3 Nx else No H3)
    (hd : ∀ H' acc, Same H1 H' → H' D = some (.lst acc) → G H' acc n → Qd H') :
    ∃ W : Nat → Nat → Hp → Prop, (∃ m, W 0 m (upd H1 D (.lst []))) ∧ ∀ i m H, W i m H →
      ((Itr 0 n).stop i H ∧ Qd H) ∨ ((Itr 0 n).go i H ∧ ∃ Nx : Hp → Prop, (∀ H', Nx H' → ∃ m', m' < m ∧ W (i + 1) m' H') ∧ ∀ x H', (Itr 0 n).yld i H x H' → g x (wipe σ vs) H' fun σ2 H2 => wipe σ2 vs = wipe σ vs ∧ tt σ2 H2 fun b H3 =>
        if b = true then te σ2 H3 fun y H4 => ∃ acc, H4 D = some (.lst acc) ∧ acc.length < sizeLine ∧ Nx (upd H4 D (.lst (acc ++ [y]))) else Nx H3) := by
  refine lc_range (lo := 0) (n := n) (fun i H' => ∃ acc, Same H1 H' ∧ H' D = some (.lst acc) ∧ acc.length ≤ i ∧ G H' acc i) ⟨[], same_new hD, upd_same, Nat.le_refl _, h0⟩ (fun i H' hi ⟨acc, s, eD, ln, hG⟩ => ?_) (fun H' ⟨acc, s, eD, ln, hG⟩ => hd H' acc s eD hG)
  have hsz : acc.length < sizeLine := by
    rw [sizeLine_eq]
    omega
  refine hs i acc H' _ _ hi s eD hG (fun z H4 s4 g4 => ⟨acc, s4 _ _ eD, hsz, acc ++ [z], fun b o e => ?_, upd_same, ?_, g4⟩) (fun H4 s4 g4 => ⟨acc, s.trans s4, s4 _ _ eD, by omega, g4⟩)
  · rw [upd_ne (ne_of_none e hD)]
    exact s4 _ _ (s _ _ e)
  · rw [List.length_append, List.length_singleton]
    omega
end
end Rs


set_option Elab.async false
set_option linter.all false
set_option maxRecDepth 100000
set_option maxHeartbeats 2000000
/-! # F1: value_key, row_key, is_integer, value_of, compares, reckoned, bound -/
namespace Rs
open PySem PySem.Spec PyProof.Rows L2
section
variable {P : Program} {w : World} {K : PySem.W.Frag} {mg : Str → Option Value} {base : Heap}
def spVK : Sp := fun vs H Q _ => ∃ k : L2.Key, vs = [kV k] ∧ ∀ (H' : Hp) (p : Addr), Same H H' → H p = none → RowH H' p (vk k) → Q (.ref p) H'
theorem sc_value_key : FnScope ["value"] ["value"] (defScope (topS 1)) := ⟨rfl, rfl, rfl, by decide +kernel, rfl, by decide +kernel, by decide +kernel⟩
theorem ok_value_key (T : Tx P K mg) : Cal P w K mg base CX0 1 "value_key" spVK := by
  refine cal_of T 0 1 rfl (by decide +kernel) sc_value_key (fun vs H Q E h => ?_) (fun _ _ _ _ _ _ us hl => match us, hl with | [_], _ => rfl) (fun cdv A outer s H vs Q E hr h => ?_)
  · obtain ⟨k, rfl, _⟩ := h
    rfl
  · obtain ⟨k, rfl, q⟩ := h
    refine ⟨_, PSs.nox (pss_cons (ps_if (pt_val (pe_callB call_isi (by rfl) (T.fr "isinstance") (by decide +kernel) (pa_cons (pv 0) (pa_cons (pe_bltn (v := .ty "str") (by rfl) (T.fr "str") (by decide +kernel) rfl) pa_nil)))) (pss_one (ps_ret (pe_tup (pa_cons pe_int (pa_cons (pv 0) pa_nil))))) pss_nil)
      (pss_one (ps_ret (pe_tup (pa_cons pe_int (pa_cons (pv 0) pa_nil)))))), ?_⟩
    cases k with
    | inl i =>
      refine ⟨_, rfl, _, _, _, _, false, rfl, .ty "str", .base (.int i), kit_ty (by decide +kernel), false, rfl, ?_⟩
      refine iteF ⟨_, rfl, by show 2 ≤ sizeLine; decide, fun p hp => ?_⟩
      exact q _ p (same_new hp) hp upd_same
    | inr x =>
      refine ⟨_, rfl, _, _, _, _, true, rfl, .ty "str", .base (.str x), kit_ty (by decide +kernel), true, rfl, ?_⟩
      refine iteT ⟨_, rfl, by show 2 ≤ sizeLine; decide, fun p hp => ?_⟩
      exact q _ p (same_new hp) hp upd_same
theorem sc_row_key : FnScope ["row", "value"] ["row"] (defScope (topS 2)) := ⟨rfl, rfl, rfl, by decide +kernel, rfl, by decide +kernel, by decide +kernel⟩
theorem okF_row_key (T : Tx P K mg) : ∃ fd, FnOk P w K mg base CX0 2 (He.ga K "row_key") fd ["row"] spRK ∧ mg "row_key" = some (.ref (He.ga K "row_key")) ∧ PySem.W.keepIn K (.ref (He.ga K "row_key")) = true ∧ Binds K fd ["row"] [] := by
  have C1 := ok_value_key (w := w) (base := base) T
  refine calF_of T 1 2 rfl (by decide +kernel) sc_row_key (fun vs H Q E h => ?_) (fun _ _ _ _ _ _ us hl => match us, hl with | [_], _ => rfl) (fun cdv A outer s H vs Q E hr h => ?_)
  · obtain ⟨p, r, rfl, _⟩ := h
    rfl
  · obtain ⟨p, r, rfl, hp, hl, q⟩ := h
    refine ⟨_, PSs.nox (pss_one (ps_ret (pe_callTy call_tuple_of (by rfl) (T.fr "tuple") (by decide +kernel) (pa_cons (pe_lc (own := [("value", 1)]) (g := gName 1) (tt := tYes) rfl sc_row_key.nd (pi_tup (pv 0)) (blkOk_by (own := [("value", 1)]) (N := ["row", "value"]) (sc := defScope (topS 2)) (by decide +kernel)) (fun _ _ _ _ _ => (pg_name (i := 1) sc_row_key.nd rfl (Or.inl rfl))) (fun _ _ _ _ _ => pts_nil) (fun _ _ _ _ _ => (pe_c C1 hr (pa_cons (pv 1) pa_nil)))) pa_nil)))), ?_⟩
    refine ⟨_, rfl, p, rfl, ⟨_, SqT.of_H hp⟩, fun D hD => lc_tupG (K := K) (f := kV) hD (SqT.of_H hp) (Nat.le_trans hl (by decide)) (fun H' acc pre => ∃ bs : List Addr, acc = bs.map V.ref ∧ Paired (fun b k => RowH H' b (vk k)) bs pre) ⟨[], rfl, .nil⟩ ?_ ?_⟩
    · rintro pre x post acc H' Nx No el s eD ⟨bs, rfl, hb⟩ hN _
      refine ⟨rfl, ?_⟩
      refine ⟨_, rfl, x, rfl, fun H4 b s4 nb r4 => hN _ _ s4 ⟨bs ++ [b], by simp, ?_⟩⟩
      have st : SameT H' (upd H4 D (.lst (bs.map V.ref ++ [V.ref b]))) := s4.t.trans (sameT_lst (s4 _ _ eD))
      exact Paired.snoc (hb.mono fun _ _ z => stays_row.go st z) (stays_row.go (sameT_lst (s4 _ _ eD)) r4)
    · rintro H' acc s eD ⟨bs, rfl, hb⟩
      refine ⟨D, _, rfl, .inl ⟨SqL.of_H eD, fun l nl => ?_⟩⟩
      have s2 := same_new (o := .tup (bs.map V.ref)) nl
      exact q _ l bs (s.trans s2) (s.free nl) upd_same (hb.mono fun _ _ z => s2 _ _ z)
theorem sc_is_integer : FnScope ["value"] ["value"] (defScope (topS 4)) := ⟨rfl, rfl, rfl, by decide +kernel, rfl, by decide +kernel, by decide +kernel⟩
def isI : L2.Key → Bool
  | .inl _ => true
  | .inr _ => false
def spII : Sp := fun vs H Q _ => ∃ k : L2.Key, vs = [kV k] ∧ Q (.bl (isI k)) H
theorem ok_is_integer (T : Tx P K mg) : Cal P w K mg base CX0 1 "is_integer" spII := by
  refine cal_of T 2 4 rfl (by decide +kernel) sc_is_integer (fun vs H Q E h => ?_) (fun _ _ _ _ _ _ us hl => match us, hl with | [_], _ => rfl) (fun cdv A outer s H vs Q E hr h => ?_)
  · obtain ⟨k, rfl, _⟩ := h
    rfl
  · obtain ⟨k, rfl, q⟩ := h
    refine ⟨_, PSs.nox (pss_one (ps_ret (pe_and (pe_callB call_isi (by rfl) (T.fr "isinstance") (by decide +kernel) (pa_cons (pv 0) (pa_cons (pe_bltn (v := .ty "int") (by rfl) (T.fr "int") (by decide +kernel) rfl) pa_nil)))
      (pe_one (pe_not (pe_callB call_isi (by rfl) (T.fr "isinstance") (by decide +kernel) (pa_cons (pv 0) (pa_cons (pe_bltn (v := .ty "bool") (by rfl) (T.fr "bool") (by decide +kernel) rfl) pa_nil)))))))), ?_⟩
    cases k with
    | inl i =>
      refine ⟨_, rfl, _, _, _, _, true, rfl, .ty "int", .base (.int i), kit_ty (by decide +kernel), true, rfl, ?_⟩
      exact ⟨_, rfl, _, _, _, _, false, rfl, .ty "bool", .base (.int i), kit_ty (by decide +kernel), false, rfl, q⟩
    | inr x =>
      refine ⟨_, rfl, _, _, _, _, false, rfl, .ty "int", .base (.str x), kit_ty (by decide +kernel), false, rfl, ?_⟩
      exact q
theorem sc_value_of : FnScope ["term", "values"] ["term", "values"] (defScope (topS 6)) := ⟨rfl, rfl, rfl, by decide +kernel, rfl, by decide +kernel, by decide +kernel⟩
def vof (t : Tm) (e : Envr) : Option L2.Key := match t with
  | .var x => look e x
  | .val k => some k
  | .any => none
def spVO : Sp := fun vs H Q _ => ∃ (p d : Addr) (t : Tm) (e : Envr) (k : L2.Key), vs = [.ref p, .ref d] ∧ TmAt H p t ∧ EnvAt H d e ∧ vof t e = some k ∧ Q (kV k) H
theorem ok_value_of (T : Tx P K mg) : Cal P w K mg base CX0 1 "value_of" spVO := by
  refine cal_of T 4 6 rfl (by decide +kernel) sc_value_of (fun vs H Q E h => ?_) (fun _ _ _ _ _ _ us hl => match us, hl with | [_, _], _ => rfl) (fun cdv A outer s H vs Q E hr h => ?_)
  · obtain ⟨p, d, t, e, k, rfl, _⟩ := h
    rfl
  · obtain ⟨p, d, t, e, k, rfl, ht, he, hk, q⟩ := h
    refine ⟨_, PSs.nox (pss_cons (ps_if (pt_cmpR op_eq (pe_ix ix_tup (pv 0) pe_int (fun _ _ => rfl)) pe_str (nomark _)) (pss_one (ps_ret (pe_ix ix_tup (pv 0) pe_int (fun _ _ => rfl)))) pss_nil)
      (pss_one (ps_ret (pe_dget (hu_of hr) (pv 1) (pe_ix ix_tup (pv 0) pe_int (fun _ _ => rfl)) (fun _ _ => rfl))))), ?_⟩
    cases t with
    | val c =>
      cases hk
      refine ⟨_, rfl, p, _, 0, _, rfl, rfl, SqT.of_H ht, atI_nat rfl, rfl, true, rfl, ?_⟩
      exact iteT ⟨_, rfl, p, _, 1, _, rfl, rfl, SqT.of_H ht, atI_nat rfl, q⟩
    | var x =>
      refine ⟨_, rfl, p, _, 0, _, rfl, rfl, SqT.of_H ht, atI_nat rfl, rfl, false, rfl, ?_⟩
      refine iteF ⟨_, rfl, _, rfl, p, _, 1, _, rfl, rfl, SqT.of_H ht, atI_nat rfl, d, _, rfl, dgetS (.inl he) hk, q⟩
    | any => cases hk
theorem sc_compares : FnScope ["operator", "first", "second", "one", "other"] ["operator", "first", "second"] (defScope (topS 7)) := ⟨rfl, rfl, rfl, by decide +kernel, rfl, by decide +kernel, by decide +kernel⟩
def cmpM (op : Str) (a b : L2.Key) : Bool := if op = "=" then decide (vk a = vk b) else if op = "<>" then !decide (vk a = vk b) else if op = "<" then kLt a b else if op = ">" then kLt b a else !kLt a b
def spCmp : Sp := fun vs H Q _ => ∃ (op : Str) (a b : L2.Key), vs = [.str op, kV a, kV b] ∧ okK a ∧ okK b ∧ op ≠ "<=" ∧ ∀ H', Same H H' → Q (.bl (cmpM op a b)) H'
theorem str_dec (x y : Str) : decide (V.str x = V.str y) = decide (x = y) := by
  by_cases h : x = y
  · subst h; simp
  · rw [decide_eq_false h, decide_eq_false (fun z => h (V.str.inj z))]
theorem ok_compares (T : Tx P K mg) : Cal P w K mg base CX0 2 "compares" spCmp := by
  have C1 := ok_value_key (w := w) (base := base) T
  refine cal_of T 5 7 rfl (by decide +kernel) sc_compares (fun vs H Q E h => ?_) (fun _ _ _ _ _ _ us hl => match us, hl with | [_, _, _], _ => rfl) (fun cdv A outer s H vs Q E hr h => ?_)
  · obtain ⟨op, a, b, rfl, _⟩ := h
    rfl
  · obtain ⟨op, a, b, rfl, oa, ob, hop, q⟩ := h
    refine ⟨_, PSs.nox (pss_cons (ps_set (i := 3) sc_compares.nd rfl (Or.inl rfl) (pe_c C1 hr (pa_cons (pv 1) pa_nil)))
    (pss_cons (ps_set (i := 4) sc_compares.nd rfl (Or.inl rfl) (pe_c C1 hr (pa_cons (pv 2) pa_nil)))
    (pss_cons (ps_if (pt_cmpR op_eq (pv 0) pe_str (nomark _)) (pss_one (ps_ret (pe_cmpR (op_eqRow (hu_of hr)) (pv 3) (pv 4) (nomark _)))) pss_nil)
    (pss_cons (ps_if (pt_cmpR op_eq (pv 0) pe_str (nomark _)) (pss_one (ps_ret (pe_cmpR (op_neRow (hu_of hr)) (pv 3) (pv 4) (nomark _)))) pss_nil)
    (pss_cons (ps_if (pt_cmpR op_eq (pv 0) pe_str (nomark _)) (pss_one (ps_ret (pe_cmpR (op_ltK (hu_of hr)) (pv 3) (pv 4) (nomark _)))) pss_nil)
    (pss_cons (ps_if (pt_cmpR op_eq (pv 0) pe_str (nomark _)) (pss_one ps_never) pss_nil)
    (pss_cons (ps_if (pt_cmpR op_eq (pv 0) pe_str (nomark _)) (pss_one (ps_ret (pe_cmpR (op_gtK (hu_of hr)) (pv 3) (pv 4) (nomark _)))) pss_nil)
    (pss_one (ps_ret (pe_cmpR (op_geK (hu_of hr)) (pv 3) (pv 4) (nomark _))))))))))), ?_⟩
    refine ⟨_, rfl, a, rfl, fun H1 p s1 n1 r1 => ⟨_, rfl, b, rfl, fun H2 p2 s2 n2 r2 => ?_⟩⟩
    have r1' := stays_row.go s2.t r1
    have ss := s1.trans s2
    have q2 := q H2 ss
    unfold cmpM at q2
    refine ⟨_, rfl, rfl, _, rfl, ?_⟩
    rw [str_dec]
    by_cases c1 : op = "="
    · rw [decide_eq_true c1]
      rw [if_pos c1] at q2
      exact iteT ⟨_, rfl, _, rfl, p, p2, _, _, rfl, rfl, r1', r2, q2⟩
    rw [decide_eq_false c1]
    rw [if_neg c1] at q2
    refine iteF ⟨_, rfl, rfl, _, rfl, ?_⟩
    rw [str_dec]
    by_cases c2 : op = "<>"
    · rw [decide_eq_true c2]
      rw [if_pos c2] at q2
      exact iteT ⟨_, rfl, _, rfl, p, p2, _, _, rfl, rfl, r1', r2, q2⟩
    rw [decide_eq_false c2]
    rw [if_neg c2] at q2
    refine iteF ⟨_, rfl, rfl, _, rfl, ?_⟩
    rw [str_dec]
    by_cases c3 : op = "<"
    · rw [decide_eq_true c3]
      rw [if_pos c3] at q2
      exact iteT ⟨_, rfl, _, rfl, p, p2, _, _, rfl, rfl, r1', r2, oa, ob, q2⟩
    rw [decide_eq_false c3]
    rw [if_neg c3] at q2
    refine iteF ⟨_, rfl, rfl, _, rfl, ?_⟩
    rw [str_dec, decide_eq_false hop]
    refine iteF ⟨_, rfl, rfl, _, rfl, ?_⟩
    rw [str_dec]
    by_cases c4 : op = ">"
    · rw [decide_eq_true c4]
      rw [if_pos c4] at q2
      exact iteT ⟨_, rfl, _, rfl, p, p2, _, _, rfl, rfl, r1', r2, oa, ob, q2⟩
    rw [decide_eq_false c4]
    rw [if_neg c4] at q2
    exact iteF ⟨_, rfl, _, rfl, p, p2, _, _, rfl, rfl, r1', r2, oa, ob, q2⟩
theorem sc_reckoned : FnScope ["operator", "first", "second"] ["operator", "first", "second"] (defScope (topS 8)) := ⟨rfl, rfl, rfl, by decide +kernel, rfl, by decide +kernel, by decide +kernel⟩
def reckM (op : Str) : L2.Key → L2.Key → Option L2.Key
  | .inl i, .inl j => some (.inl (if op = "+" then i + j else if op = "-" then i - j else i * j))
  | _, _ => none
def oV : Option L2.Key → V
  | none => .non
  | some k => kV k
def spReck : Sp := fun vs H Q _ => ∃ (op : Str) (a b : L2.Key), vs = [.str op, kV a, kV b] ∧ okK a ∧ Q (oV (reckM op a b)) H
theorem ok_reckoned (T : Tx P K mg) : Cal P w K mg base CX0 2 "reckoned" spReck := by
  have C1 := ok_is_integer (w := w) (base := base) T
  refine cal_of T 6 8 rfl (by decide +kernel) sc_reckoned (fun vs H Q E h => ?_) (fun _ _ _ _ _ _ us hl => match us, hl with | [_, _, _], _ => rfl) (fun cdv A outer s H vs Q E hr h => ?_)
  · obtain ⟨op, a, b, rfl, _⟩ := h
    rfl
  · obtain ⟨op, a, b, rfl, oa, q⟩ := h
    refine ⟨_, PSs.nox (pss_cons (ps_if (PW.pt (pw_or (pt_not (pt_val (pe_c C1 hr (pa_cons (pv 1) pa_nil)))) (pw_or1 (pt_not (pt_val (pe_c C1 hr (pa_cons (pv 2) pa_nil))))))) (pss_one (ps_ret pe_non)) pss_nil)
    (pss_cons (ps_if (pt_cmpR op_eq (pv 0) pe_str (nomark _)) (pss_one (ps_ret (pe_op op_add (pv 1) (pv 2)))) pss_nil)
    (pss_cons (ps_if (pt_cmpR op_eq (pv 0) pe_str (nomark _)) (pss_one (ps_ret (pe_op op_sub (pv 1) (pv 2)))) pss_nil)
    (pss_one (ps_ret (pe_op op_mul (pv 1) (pv 2))))))), ?_⟩
    cases a with
    | inr x =>
      refine ⟨_, rfl, .inr x, rfl, _, rfl, ?_⟩
      exact iteT (iteT q)
    | inl i =>
      refine ⟨_, rfl, .inl i, rfl, _, rfl, ?_⟩
      cases b with
      | inr y =>
        refine iteF ⟨_, rfl, .inr y, rfl, _, rfl, ?_⟩
        exact iteT q
      | inl j =>
        refine iteF ⟨_, rfl, .inl j, rfl, _, rfl, ?_⟩
        refine iteF ⟨_, rfl, rfl, _, rfl, ?_⟩
        rw [str_dec]
        have q : Q (.int (if op = "+" then i + j else if op = "-" then i - j else i * j)) H := q
        by_cases c1 : op = "+"
        · rw [decide_eq_true c1]
          rw [if_pos c1] at q
          exact iteT ⟨_, rfl, _, rfl, _, _, rfl, rfl, q⟩
        rw [decide_eq_false c1]
        rw [if_neg c1] at q
        refine iteF ⟨_, rfl, rfl, _, rfl, ?_⟩
        rw [str_dec]
        by_cases c2 : op = "-"
        · rw [decide_eq_true c2]
          rw [if_pos c2] at q
          exact iteT ⟨_, rfl, _, rfl, _, _, rfl, rfl, q⟩
        rw [decide_eq_false c2]
        rw [if_neg c2] at q
        have hi : -(1000000 : Int) ≤ i ∧ i ≤ 1000000 := oa
        exact iteF ⟨_, rfl, _, rfl, _, _, rfl, rfl, .inl ⟨by omega, by omega⟩, q⟩
theorem sc_bound : FnScope ["variable", "value", "values", "found"] ["variable", "value", "values"] (defScope (topS 9)) := ⟨rfl, rfl, rfl, by decide +kernel, rfl, by decide +kernel, by decide +kernel⟩
def boundM (x : Str) (k : L2.Key) (e : Envr) : Option Envr := match look e x with
  | some u => if u = k then some (put e x k) else none
  | none => some (put e x k)
theorem kV_inj {a b : L2.Key} (h : kV a = kV b) : a = b := by
  cases a <;> cases b <;> simp [kV] at h
  · exact congrArg Sum.inl h
  · exact congrArg Sum.inr h
theorem kV_dec (a b : L2.Key) : decide (kV a = kV b) = decide (a = b) := by
  by_cases h : a = b
  · subst h; simp
  · rw [decide_eq_false h, decide_eq_false (fun z => h (kV_inj z))]
theorem scal_kV (a b : L2.Key) : scal (kV a) (kV b) = true := by cases a <;> cases b <;> rfl
def spBound : Sp := fun vs H Q _ => ∃ (x : Str) (k : L2.Key) (d : Addr) (e : Envr), vs = [.str x, kV k, .ref d] ∧ EnvAt H d e ∧ e.length ≤ 1000 ∧
  (boundM x k e = none → Q .non H) ∧ ∀ e' (H' : Hp) (p : Addr), boundM x k e = some e' → Same H H' → H p = none → EnvAt H' p e' → Q (.ref p) H'
theorem ok_bound (T : Tx P K mg) : Cal P w K mg base CX0 1 "bound" spBound := by
  refine cal_of T 7 9 rfl (by decide +kernel) sc_bound (fun vs H Q E h => ?_) (fun _ _ _ _ _ _ us hl => match us, hl with | [_, _, _], _ => rfl) (fun cdv A outer s H vs Q E hr h => ?_)
  · obtain ⟨x, k, d, e, rfl, _⟩ := h
    rfl
  · obtain ⟨x, k, d, e, rfl, he, hl, qn, qs⟩ := h
    refine ⟨_, PSs.nox (pss_cons (ps_if (PW.pt (pw_and (pt_cmp (pc_din (hu_of hr) (pv 0) (pv 2))) (pw_and1 (pt_cmpR op_ne (pe_dget (hu_of hr) (pv 2) (pv 0) (fun _ _ => rfl)) (pv 1) (nomark _))))) (pss_one (ps_ret pe_non)) pss_nil)
    (pss_cons (ps_set (i := 3) sc_bound.nd rfl (Or.inl rfl) (pe_callTy call_dictD (by rfl) (T.fr "dict") (by decide +kernel) (pa_cons (pv 2) pa_nil)))
    (pss_cons (ps_dput (hu_of hr) (pv 3) (pv 0) (pv 1) rfl)
    (pss_one (ps_ret (pv 3)))))), ?_⟩
    refine ⟨_, rfl, _, rfl, d, _, rfl, dgetS' x (.inl he), _, rfl, ?_⟩
    have fin : boundM x k e = some (put e x k) → ∀ H1 p, H p = none → H1 = upd H p (.dK (encS kV e)) → Q (.ref p) (upd H1 p (.dK (putK (encS kV e) (.inr x) (kV k)))) := fun hb H1 p np e1 => by
      subst e1
      refine qs _ _ p hb (fun b o z => ?_) np ?_
      · rw [upd_ne (ne_of_none z np), upd_ne (ne_of_none z np)]
        exact z
      · show upd _ _ _ _ = _
        rw [upd_same, encS_put]
    unfold boundM at qn fin
    cases hx : look e x with
    | none =>
      rw [hx] at fin
      refine iteF (iteF ⟨_, rfl, d, _, rfl, .inl he, fun p np => ?_⟩)
      exact ⟨_, rfl, _, rfl, _, rfl, p, _, rfl, DPut.k (k := .inr x) upd_same (by rw [encS_len]; exact small1000 hl), _, rfl, fin rfl _ p np rfl⟩
    | some u =>
      rw [hx] at qn fin
      refine iteT ⟨_, rfl, _, rfl, d, _, rfl, dgetS (.inl he) hx, _, rfl, scal_kV u k, _, rfl, ?_⟩
      rw [kV_dec]
      by_cases c : u = k
      · rw [decide_eq_true c]
        simp only [if_pos c] at fin
        refine iteF ⟨_, rfl, d, _, rfl, .inl he, fun p np => ?_⟩
        exact ⟨_, rfl, _, rfl, _, rfl, p, _, rfl, DPut.k (k := .inr x) upd_same (by rw [encS_len]; exact small1000 hl), _, rfl, fin trivial _ p np rfl⟩
      · rw [decide_eq_false c]
        simp only [if_neg c] at qn
        exact iteT (qn trivial)
end
end Rs


set_option Elab.async false
set_option linter.all false
set_option maxRecDepth 100000
set_option maxHeartbeats 2000000
/-! # F2: met, count_of, tested -/
namespace Rs
open PySem PySem.Spec PyProof.Rows L2
def metStep (t : Tm) (v : L2.Key) (e : Envr) : Option Envr := match t with
  | .val k => if k = v then some e else none
  | .var x => boundM x v e
  | .any => some e
def metGo : List Tm → Row → Envr → Option Envr
  | t :: ts, v :: vs, e => (metStep t v e).bind fun e' => metGo ts vs e'
  | _, _, e => some e
def metM (ts : List Tm) (r : Row) (e : Envr) : Option Envr := if ts.length = r.length then metGo ts r e else none
def oEnv : Option Envr → Prop := fun _ => True
def spMet : Sp := fun vs H Q _ => ∃ (pt pr d : Addr) (ts : List Tm) (r : Row) (e : Envr), vs = [.ref pt, .ref pr, .ref d] ∧ TmsAt H pt ts ∧ RowH H pr r ∧ EnvAt H d e ∧ e.length ≤ 800 ∧ r.length ≤ 100 ∧
  (metM ts r e = none → ∀ H', Same H H' → Q .non H') ∧ ∀ e' (H' : Hp) (p : Addr), metM ts r e = some e' → Same H H' → H p = none → EnvAt H' p e' → Q (.ref p) H'
theorem boundM_len {x : Str} {k : L2.Key} {e e' : Envr} (h : boundM x k e = some e') : e'.length ≤ e.length + 1 := by
  have key : ∀ {z : Option Envr}, z = some (put e x k) → z = some e' → e'.length ≤ e.length + 1 := fun h1 h2 => by
    rw [h1] at h2
    rw [← Option.some.inj h2]
    exact put_length _ _ _
  unfold boundM at h
  split at h
  · split at h
    · exact key rfl h
    · cases h
  · exact key rfl h
theorem dec_str_ne {a b : String} (h : ¬ (PySem.Str.ofString a = PySem.Str.ofString b)) : decide (V.str (PySem.Str.ofString a) = V.str (PySem.Str.ofString b)) = false := decide_eq_false fun z => h (V.str.inj z)
section
variable {P : Program} {w : World} {K : PySem.W.Frag} {mg : Str → Option Value} {base : Heap}
theorem sc_met : FnScope ["terms", "row", "values", "found", "term", "value"] ["terms", "row", "values"] (defScope (topS 5)) := ⟨rfl, rfl, rfl, by decide +kernel, rfl, by decide +kernel, by decide +kernel⟩
theorem ok_met (T : Tx P K mg) : Cal P w K mg base CX0 1 "met" spMet := by
  refine cal_of T 3 5 rfl (by decide +kernel) sc_met (fun vs H Q E h => ?_) (fun _ _ _ _ _ _ us hl => match us, hl with | [_, _, _], _ => rfl) (fun cdv A outer s H vs Q E hr h => ?_)
  · obtain ⟨pt, pr, d, ts, r, e, rfl, _⟩ := h
    rfl
  · obtain ⟨pt, pr, d, ts, r, e, rfl, ⟨ps, hpt, rfl, hps⟩, hpr, hd, hle, hlr, qn, qs⟩ := h
    refine ⟨_, PSs.nox (pss_cons (ps_if (pt_cmpR op_ne (pe_callB call_len (by rfl) (T.fr "len") PySem.boot_len (pa_cons (pv 0) pa_nil)) (pe_callB call_len (by rfl) (T.fr "len") PySem.boot_len (pa_cons (pv 1) pa_nil)) (nomark _)) (pss_one (ps_ret pe_non)) pss_nil)
    (pss_cons (ps_set (i := 3) sc_met.nd rfl (Or.inl rfl) (pe_callTy call_dictD (by rfl) (T.fr "dict") (by decide +kernel) (pa_cons (pv 2) pa_nil)))
    (pss_cons (ps_for PassesOwn.never rfl (RZ.pi_zipA (by rfl) (T.fr "zip") (pa_cons (pv 0) (pa_cons (pv 1) pa_nil))) (pg_tup rfl (pgs_cons (pg_name (i := 4) sc_met.nd rfl (Or.inl rfl)) (pgs_cons (pg_name (i := 5) sc_met.nd rfl (Or.inl rfl)) pgs_nil)))
    (pss_cons (ps_if (PW.pt (pw_and (pt_cmpR op_eq (pe_ix ix_tup (pv 4) pe_int (fun _ _ => rfl)) pe_str (nomark _)) (pw_and1 (pt_cmpR op_ne (pe_ix ix_tup (pv 4) pe_int (fun _ _ => rfl)) (pv 5) (nomark _))))) (pss_one (ps_ret pe_non)) pss_nil)
    (pss_one (ps_if (pt_cmpR op_eq (pe_ix ix_tup (pv 4) pe_int (fun _ _ => rfl)) pe_str (nomark _)) (pss_cons (ps_if (PW.pt (pw_and (pt_cmp (pc_din (hu_of hr) (pe_ix ix_tup (pv 4) pe_int (fun _ _ => rfl)) (pv 3))) (pw_and1 (pt_cmpR op_ne (pe_dget (hu_of hr) (pv 3) (pe_ix ix_tup (pv 4) pe_int (fun _ _ => rfl)) (fun _ _ => rfl)) (pv 5) (nomark _))))) (pss_one (ps_ret pe_non)) pss_nil)
    (pss_one (ps_dput (hu_of hr) (pv 3) (pe_ix ix_tup (pv 4) pe_int (fun _ _ => rfl)) (pv 5) rfl))) pss_nil))))
    (pss_one (ps_ret (pv 3)))))), ?_⟩
    refine ⟨_, rfl, _, _, rfl, .inr ⟨_, SqT.of_H hpt, rfl⟩, _, rfl, _, _, rfl, .inr ⟨_, SqT.of_H hpr, rfl⟩, rfl, _, rfl, ?_⟩
    by_cases hlen : ps.length = r.length
    case neg =>
      have e1 : (!decide (V.int (((ps.map fun q => V.ref q.1).length : Nat) : Int) = V.int (((r.map kV).length : Nat) : Int))) = true := by
        rw [List.length_map, List.length_map]
        have hz : ¬ ((ps.length : Nat) : Int) = ((r.length : Nat) : Int) := by omega
        simp [hz]
      rw [e1]
      refine iteT (qn ?_ H (Same.refl H))
      unfold metM
      rw [if_neg (by rw [List.length_map]; exact hlen)]
    have e1 : (!decide (V.int (((ps.map fun q => V.ref q.1).length : Nat) : Int) = V.int (((r.map kV).length : Nat) : Int))) = false := by
      rw [List.length_map, List.length_map, hlen]
      simp
    rw [e1]
    have em : metM (ps.map (·.2)) r e = metGo (ps.map (·.2)) r e := by
      unfold metM
      rw [if_pos (by rw [List.length_map]; exact hlen)]
    rw [em] at qn
    simp only [em] at qs
    refine iteF ⟨_, rfl, d, _, rfl, .inl hd, fun D hD => ?_⟩
    refine ⟨_, rfl, _, rfl, pt, pr, _, _, rfl, .inr ⟨SqT.of_H ((same_new hD) _ _ hpt), SqT.of_H ((same_new hD) _ _ hpr), ?_⟩⟩
    refine RZ.for_zipT (K := K) (a := pt) (b := pr) (xs := ps.map fun q => V.ref q.1) (ys := r.map kV) (by rw [List.length_map, List.length_map]; exact hlen)
      (fun i σ H' => ∃ (v1 v2 : Option V) (ei : Envr), σ = [some (.ref pt), some (.ref pr), some (.ref d), some (.ref D), v1, v2] ∧ Same H H' ∧ H' D = some (.dK (encS kV ei)) ∧ ei.length ≤ e.length + i ∧ metGo (ps.map (·.2)) r e = metGo ((ps.map (·.2)).drop i) (r.drop i) ei)
      ⟨none, none, e, rfl, same_new hD, upd_same, Nat.le_refl _, rfl⟩ (fun i σ H' ⟨_, _, _, _, s1, _⟩ => ⟨SqT.of_H (s1 _ _ hpt), SqT.of_H (s1 _ _ hpr)⟩) ?_ ?_
    · rintro i x y Tt σ H' hx hy ⟨v1, v2, ei, rfl, s1, hDi, hli, hgo⟩ hT
      obtain ⟨⟨a, t⟩, rfl, ea, _, _⟩ := split_at hx
      obtain ⟨v, rfl, eb, _, _⟩ := split_at hy
      have hat : TmAt H' a t := stays_tm.go s1.t (hps (a, t) (by rw [ea]; simp))
      have hi1 : i < ps.length := by
        have := (List.getElem?_eq_some_iff.mp hx).1
        rwa [List.length_map] at this
      have hi2 : i < r.length := by omega
      have d1 : (ps.map (·.2)).drop i = t :: (ps.map (·.2)).drop (i + 1) := by
        have z := List.getElem?_eq_some_iff.mp hx
        have zz : ps[i] = (a, t) := by
          have q := ea
          have q2 : ps[i]? = some (a, t) := by
            conv => lhs; rw [ea]
            rw [List.getElem?_append_right (by rw [List.length_take]; omega)]
            simp [List.length_take, Nat.min_eq_left (Nat.le_of_lt hi1)]
          exact (List.getElem?_eq_some_iff.mp q2).2
        rw [List.drop_eq_getElem_cons (by rw [List.length_map]; exact hi1), List.getElem_map, zz]
      have d2 : r.drop i = v :: r.drop (i + 1) := by
        have q2 : r[i]? = some v := by
          conv => lhs; rw [eb]
          rw [List.getElem?_append_right (by rw [List.length_take]; omega)]
          simp [List.length_take, Nat.min_eq_left (Nat.le_of_lt hi2)]
        rw [List.drop_eq_getElem_cons hi2, (List.getElem?_eq_some_iff.mp q2).2]
      rw [d1, d2] at hgo
      have s2 := same_new (o := .tup [V.ref a, kV v]) hT
      have sH := s1.trans s2
      have hat2 := stays_tm.go s2.t hat
      have hD2 := s2 _ _ hDi
      have hgo2 : metGo (ps.map (·.2)) r e = (metStep t v ei).bind fun e' => metGo ((ps.map (·.2)).drop (i + 1)) (r.drop (i + 1)) e' := hgo
      refine ⟨Tt, _, rfl, SqT.of_H upd_same, rfl, _, _, rfl, _, _, rfl, rfl, ?_⟩
      cases t with
      | any =>
        have n1 : decide (V.str "any" = V.str "value") = false := dec_str_ne (by decide +kernel)
        have n2 : decide (V.str "any" = V.str "variable") = false := dec_str_ne (by decide +kernel)
        refine ⟨_, rfl, a, _, 0, _, rfl, rfl, SqT.of_H hat2, atI_nat rfl, rfl, false, by rw [← n1]; rfl, ?_⟩
        refine iteF ?_
        refine iteF ⟨_, rfl, a, _, 0, _, rfl, rfl, SqT.of_H hat2, atI_nat rfl, rfl, false, by rw [← n2]; rfl, ?_⟩
        exact iteF ⟨_, _, ei, rfl, sH, hD2, by omega, hgo2⟩
      | val k =>
        have n1 : decide (V.str "value" = V.str "value") = true := decide_eq_true rfl
        have n2 : decide (V.str "value" = V.str "variable") = false := dec_str_ne (by decide +kernel)
        refine ⟨_, rfl, a, _, 0, _, rfl, rfl, SqT.of_H hat2, atI_nat rfl, rfl, true, by rw [← n1]; rfl, ?_⟩
        refine iteT ⟨_, rfl, a, _, 1, _, rfl, rfl, SqT.of_H hat2, atI_nat rfl, _, rfl, scal_kV k v, _, rfl, ?_⟩
        rw [kV_dec]
        have hgo3 : metGo (ps.map (·.2)) r e = ((if k = v then some ei else none) : Option Envr).bind fun e' => metGo ((ps.map (·.2)).drop (i + 1)) (r.drop (i + 1)) e' := hgo2
        by_cases c : k = v
        · rw [decide_eq_true c]
          rw [if_pos c] at hgo3
          refine iteF ⟨_, rfl, a, _, 0, _, rfl, rfl, SqT.of_H hat2, atI_nat rfl, rfl, false, by rw [← n2]; rfl, ?_⟩
          exact iteF ⟨_, _, ei, rfl, sH, hD2, by omega, hgo3⟩
        · rw [decide_eq_false c]
          rw [if_neg c] at hgo3
          exact iteT (qn hgo3 _ sH)
      | var x =>
        have n1 : decide (V.str "variable" = V.str "value") = false := dec_str_ne (by decide +kernel)
        have n2 : decide (V.str "variable" = V.str "variable") = true := decide_eq_true rfl
        refine ⟨_, rfl, a, _, 0, _, rfl, rfl, SqT.of_H hat2, atI_nat rfl, rfl, false, by rw [← n1]; rfl, ?_⟩
        refine iteF ?_
        refine iteF ⟨_, rfl, a, _, 0, _, rfl, rfl, SqT.of_H hat2, atI_nat rfl, rfl, true, by rw [← n2]; rfl, ?_⟩
        refine iteT ⟨_, rfl, a, _, 1, _, rfl, rfl, SqT.of_H hat2, atI_nat rfl, _, rfl, D, _, rfl, dgetS' x (.inl hD2), _, rfl, ?_⟩
        have fin : boundM x v ei = some (put ei x v) → ∃ (v1 v2 : Option V) (e2 : Envr), ([some (V.ref pt), some (.ref pr), some (.ref d), some (.ref D), some (.ref a), some (kV v)] : L2.St) = [some (.ref pt), some (.ref pr), some (.ref d), some (.ref D), v1, v2] ∧ Same H (upd (upd H' Tt (.tup [V.ref a, kV v])) D (.dK (putK (encS kV ei) (.inr x) (kV v)))) ∧
            upd (upd H' Tt (.tup [V.ref a, kV v])) D (.dK (putK (encS kV ei) (.inr x) (kV v))) D = some (.dK (encS kV e2)) ∧ e2.length ≤ e.length + (i + 1) ∧ metGo (ps.map (·.2)) r e = metGo ((ps.map (·.2)).drop (i + 1)) (r.drop (i + 1)) e2 := fun hb => by
          refine ⟨_, _, put ei x v, rfl, fun b o z => ?_, ?_, ?_, ?_⟩
          · rw [upd_ne (ne_of_none z hD)]
            exact sH _ _ z
          · rw [upd_same, encS_put]
          · have := put_length ei x v
            omega
          · rw [hgo2]
            show (boundM x v ei).bind _ = _
            rw [hb]
            rfl
        have hsz : (encS kV ei).length < sizeLine := by
          rw [encS_len]
          exact small1000 (by omega)
        cases hx : look ei x with
        | none =>
          have hb : boundM x v ei = some (put ei x v) := by
            unfold boundM
            rw [hx]
          refine iteF ?_
          refine iteF ⟨_, rfl, _, rfl, _, rfl, a, _, 1, _, rfl, rfl, SqT.of_H hat2, atI_nat rfl, D, _, rfl, DPut.k (k := .inr x) hD2 hsz, ?_⟩
          exact fin hb
        | some u =>
          refine iteT ⟨_, rfl, _, rfl, a, _, 1, _, rfl, rfl, SqT.of_H hat2, atI_nat rfl, D, _, rfl, dgetS (.inl hD2) hx, _, rfl, scal_kV u v, _, rfl, ?_⟩
          rw [kV_dec]
          by_cases c : u = v
          · rw [decide_eq_true c]
            have hb : boundM x v ei = some (put ei x v) := by
              unfold boundM
              rw [hx]
              exact if_pos c
            refine iteF ⟨_, rfl, _, rfl, _, rfl, a, _, 1, _, rfl, rfl, SqT.of_H hat2, atI_nat rfl, D, _, rfl, DPut.k (k := .inr x) hD2 hsz, ?_⟩
            exact fin hb
          · rw [decide_eq_false c]
            have hb : boundM x v ei = none := by
              unfold boundM
              rw [hx]
              exact if_neg c
            refine iteT (qn ?_ _ sH)
            rw [hgo2]
            show (boundM x v ei).bind _ = _
            rw [hb]
            rfl
    · rintro σ H' ⟨v1, v2, ei, rfl, s1, hDi, hli, hgo⟩
      refine ⟨_, rfl, qs ei H' D ?_ s1 hD hDi⟩
      rw [hgo, List.length_map, List.drop_eq_nil_of_le (by rw [List.length_map]; exact Nat.le_refl _)]
      rfl
end
end Rs


set_option Elab.async false
set_option linter.all false
set_option maxRecDepth 100000
set_option maxHeartbeats 2000000
/-! # F3: count_of, tested -/
namespace Rs
open PySem PySem.Spec PyProof.Rows L2
def cntM (ts : List Tm) (rows : List Row) (e : Envr) : Nat := (rows.filter fun r => (metM ts r e).isSome).length
def spCount : Sp := fun vs H Q _ => ∃ (pt pl d : Addr) (ts : List Tm) (rows : List Row) (e : Envr), vs = [.ref pt, .ref pl, .ref d] ∧ TmsAt H pt ts ∧ LstOf RowH H pl rows ∧ EnvAt H d e ∧ e.length ≤ 800 ∧ (∀ r ∈ rows, r.length ≤ 100) ∧ rows.length ≤ 1000000 ∧
  ∀ H', Same H H' → Q (.int (cntM ts rows e : Nat)) H'
section
variable {P : Program} {w : World} {K : PySem.W.Frag} {mg : Str → Option Value} {base : Heap}
theorem sc_count_of : FnScope ["terms", "rows", "values", "row"] ["terms", "rows", "values"] (defScope (topS 10)) := ⟨rfl, rfl, rfl, by decide +kernel, rfl, by decide +kernel, by decide +kernel⟩
theorem ok_count_of (T : Tx P K mg) : Cal P w K mg base CX0 2 "count_of" spCount := by
  have C1 := ok_met (w := w) (base := base) T
  refine cal_of T 8 10 rfl (by decide +kernel) sc_count_of (fun vs H Q E h => ?_) (fun _ _ _ _ _ _ us hl => match us, hl with | [_, _, _], _ => rfl) (fun cdv A outer s H vs Q E hr h => ?_)
  · obtain ⟨pt, pl, d, ts, rows, e, rfl, _⟩ := h
    rfl
  · obtain ⟨pt, pl, d, ts, rows, e, rfl, ht, ⟨ps, hpl, rfl, hps⟩, hd, hle, hlr, hz, q⟩ := h
    refine ⟨_, PSs.nox (pss_one (ps_ret (pe_callB call_len (by rfl) (T.fr "len") PySem.boot_len (pa_cons (pe_lc (own := [("row", 3)]) (g := gName 3) (tt := _) rfl sc_count_of.nd (pi_list (pv 1)) (blkOk_by (own := [("row", 3)]) (N := ["terms", "rows", "values", "row"]) (sc := defScope (topS 10)) (by decide +kernel)) (fun _ _ _ _ _ => (pg_name (i := 3) sc_count_of.nd rfl (Or.inl rfl)))
      (fun _ _ _ _ _ => (pts_one (pt_cmpR op_notN (pe_c C1 hr (pa_cons (pv 0) (pa_cons (pv 3) (pa_cons (pv 2) pa_nil)))) pe_non (nomark _)))) (fun _ _ _ _ _ => (pv 3))) pa_nil)))), ?_⟩
    refine ⟨_, rfl, pl, rfl, ⟨_, SqL.of_H hpl⟩, fun D hD => lc_listG (K := K) (f := fun q : Addr × Row => V.ref q.1) (l := ps) hD (SqL.of_H hpl) (by rw [List.length_map] at hz; exact hz) (fun H' acc pre => acc.length = cntM ts (pre.map (·.2)) e) rfl ?_ ?_⟩
    · rintro pre ⟨b, r⟩ post acc H' Nx No el s eD hG hN hNo
      have hm : (b, r) ∈ ps := by rw [el]; simp
      have ec : cntM ts ((pre ++ [(b, r)]).map (·.2)) e = cntM ts (pre.map (·.2)) e + if (metM ts r e).isSome = true then 1 else 0 := by
        unfold cntM
        rw [List.map_append, List.filter_append, List.length_append]
        cases hc : (metM ts r e).isSome <;> simp [List.filter, hc]
      refine ⟨rfl, _, rfl, _, rfl, _, rfl, pt, b, d, ts, r, e, rfl, stays_tms.go s.t ht, s _ _ (hps _ hm), s _ _ hd, hle, hlr r (List.mem_map_of_mem hm), fun hn H4 s4 => ?_, fun e' H4 p he s4 np r4 => ?_⟩
      · refine ⟨rfl, false, rfl, ?_⟩
        refine iteF (hNo _ s4 ?_)
        rw [ec, hn]
        exact hG
      · refine ⟨rfl, true, rfl, ?_⟩
        refine iteT ⟨_, rfl, hN _ _ s4 ?_⟩
        rw [ec, he, List.length_append, hG]
        rfl
    · rintro H' acc s eD hG
      refine ⟨_, _, rfl, .inl ⟨_, SqL.of_H eD, rfl⟩, ?_⟩
      rw [hG]
      exact q _ s
theorem sc_tested : FnScope ["literal", "lookups", "values", "result"] ["literal", "lookups", "values"] (defScope (topS 11)) := ⟨rfl, rfl, rfl, by decide +kernel, rfl, by decide +kernel, by decide +kernel⟩
abbrev rowsOf (rows : List (Str × List Row)) (r : Str) : List Row := (look rows r).getD []
def testM (rows : List (Str × List Row)) (e : Envr) : Lit → Option Envr
  | .fact _ _ => none
  | .not_ r ts => if (cntM ts (rowsOf rows r) e : Nat) > 0 then none else some e
  | .cmp op a b => match vof a e, vof b e with
    | some x, some y => if cmpM op x y = true then some e else none
    | _, _ => none
  | .is_ v op a b => match vof a e, vof b e with
    | some x, some y => (reckM op x y).bind fun k => boundM v k e
    | _, _ => none
  | .cnt v r ts => boundM v (.inl (cntM ts (rowsOf rows r) e : Nat)) e
/-- what a literal that takes no row wants of an environment -/
def LitOk (e : Envr) : Lit → Prop
  | .fact _ _ => False
  | .not_ _ _ => True
  | .cmp op a b => ∃ x y, vof a e = some x ∧ vof b e = some y ∧ okK x ∧ okK y ∧ op ≠ "<="
  | .is_ _ _ a b => ∃ x y, vof a e = some x ∧ vof b e = some y ∧ okK x
  | .cnt _ _ _ => True
def RowsOk (rows : List (Str × List Row)) : Prop := ∀ q ∈ rows, q.2.length ≤ 1000000 ∧ ∀ r ∈ q.2, r.length ≤ 100
def spTest : Sp := fun vs H Q _ => ∃ (pl pr d : Addr) (l : Lit) (rows : List (Str × List Row)) (e : Envr), vs = [.ref pl, .ref pr, .ref d] ∧ LitAt H pl l ∧ RowsAt H pr rows ∧ EnvAt H d e ∧ e.length ≤ 800 ∧ RowsOk rows ∧ LitOk e l ∧
  (testM rows e l = none → ∀ H', Same H H' → Q .non H') ∧ ∀ e' (H' : Hp) (p : Addr), testM rows e l = some e' → Same H H' → EnvAt H' p e' → Q (.ref p) H'
theorem rowsOf_ok {rows : List (Str × List Row)} (h : RowsOk rows) (r : Str) : (rowsOf rows r).length ≤ 1000000 ∧ ∀ x ∈ rowsOf rows r, x.length ≤ 100 := by
  unfold rowsOf
  cases e : look rows r with
  | none => exact ⟨Nat.zero_le _, fun x hx => by cases hx⟩
  | some l => exact h _ (look_mem e)
/-- rows.get(name, []) -/
theorem get_rows {H : Hp} {p l : Addr} {rows : List (Str × List Row)} (h : RowsAt H p rows) (n : Str) (hl : H l = some (.lst [])) : ∃ o, DGet H p (.str n) o ∧ ∃ a, o.getD (.ref l) = .ref a ∧ LstOf RowH H a (rowsOf rows n) := by
  obtain ⟨ps, hp, rfl, hq⟩ := h
  refine ⟨_, dgetS' n (.inl hp), ?_⟩
  have e1 : look (ps.map fun q => (q.1, q.2.1)) n = (look ps n).map (·.1) := look_map (fun q : Addr × List Row => q.1) n ps
  have e2 : look (ps.map fun q => (q.1, q.2.2)) n = (look ps n).map (·.2) := look_map (fun q : Addr × List Row => q.2) n ps
  unfold rowsOf
  rw [e1, e2]
  cases e : look ps n with
  | none => exact ⟨l, rfl, [], hl, rfl, fun q hq => by cases hq⟩
  | some q => exact ⟨q.1, rfl, hq _ (look_mem e)⟩
theorem rows_isD {H : Hp} {p : Addr} {rows : List (Str × List Row)} (h : RowsAt H p rows) : IsD H p := by
  obtain ⟨ps, hp, _⟩ := h
  exact .inl ⟨_, .inl hp⟩
theorem ok_tested (T : Tx P K mg) : Cal P w K mg base CX0 3 "tested" spTest := by
  have C1 := ok_count_of (w := w) (base := base) T
  have C2 := ok_compares (w := w) (base := base) T
  have C3 := ok_value_of (w := w) (base := base) T
  have C4 := ok_reckoned (w := w) (base := base) T
  have C5 := ok_bound (w := w) (base := base) T
  refine cal_of T 9 11 rfl (by decide +kernel) sc_tested (fun vs H Q E h => ?_) (fun _ _ _ _ _ _ us hl => match us, hl with | [_, _, _], _ => rfl) (fun cdv A outer s H vs Q E hr h => ?_)
  · obtain ⟨pl, pr, d, l, rows, e, rfl, _⟩ := h
    rfl
  · obtain ⟨pl, pr, d, l, rows, e, rfl, hl, hrw, hd, hle, hok, hlo, qn, qs⟩ := h
    refine ⟨_, PSs.nox (pss_cons (ps_if (pt_cmpR op_eq (pe_ix ix_tup (pv 0) pe_int (fun _ _ => rfl)) pe_str (nomark _)) (pss_cons (ps_if (pt_cmpR op_gt (pe_c C1 hr (pa_cons (pe_ix ix_tup (pv 0) pe_int (fun _ _ => rfl)) (pa_cons (pe_dget2 (hu_of hr) (pv 1) (pe_ix ix_tup (pv 0) pe_int (fun _ _ => rfl)) (pe_lst pa_nil) ⟨rfl, rfl, rfl, rfl⟩) (pa_cons (pv 2) pa_nil)))) pe_int (nomark _)) (pss_one (ps_ret pe_non)) pss_nil)
    (pss_one (ps_ret (pv 2)))) pss_nil)
    (pss_cons (ps_if (pt_cmpR op_eq (pe_ix ix_tup (pv 0) pe_int (fun _ _ => rfl)) pe_str (nomark _)) (pss_cons (ps_if (pt_val (pe_c C2 hr (pa_cons (pe_ix ix_tup (pv 0) pe_int (fun _ _ => rfl)) (pa_cons (pe_c C3 hr (pa_cons (pe_ix ix_tup (pv 0) pe_int (fun _ _ => rfl)) (pa_cons (pv 2) pa_nil))) (pa_cons (pe_c C3 hr (pa_cons (pe_ix ix_tup (pv 0) pe_int (fun _ _ => rfl)) (pa_cons (pv 2) pa_nil))) pa_nil))))) (pss_one (ps_ret (pv 2))) pss_nil)
    (pss_one (ps_ret pe_non))) pss_nil)
    (pss_cons (ps_if (pt_cmpR op_eq (pe_ix ix_tup (pv 0) pe_int (fun _ _ => rfl)) pe_str (nomark _)) (pss_cons (ps_set (i := 3) sc_tested.nd rfl (Or.inl rfl) (pe_c C4 hr (pa_cons (pe_ix ix_tup (pv 0) pe_int (fun _ _ => rfl)) (pa_cons (pe_c C3 hr (pa_cons (pe_ix ix_tup (pv 0) pe_int (fun _ _ => rfl)) (pa_cons (pv 2) pa_nil))) (pa_cons (pe_c C3 hr (pa_cons (pe_ix ix_tup (pv 0) pe_int (fun _ _ => rfl)) (pa_cons (pv 2) pa_nil))) pa_nil)))))
    (pss_cons (ps_if (pt_cmpR op_isN (pv 3) pe_non (nomark _)) (pss_one (ps_ret pe_non)) pss_nil)
    (pss_one (ps_ret (pe_c C5 hr (pa_cons (pe_ix ix_tup (pv 0) pe_int (fun _ _ => rfl)) (pa_cons (pv 3) (pa_cons (pv 2) pa_nil)))))))) pss_nil)
    (pss_one (ps_ret (pe_c C5 hr (pa_cons (pe_ix ix_tup (pv 0) pe_int (fun _ _ => rfl)) (pa_cons (pe_c C1 hr (pa_cons (pe_ix ix_tup (pv 0) pe_int (fun _ _ => rfl)) (pa_cons (pe_dget2 (hu_of hr) (pv 1) (pe_ix ix_tup (pv 0) pe_int (fun _ _ => rfl)) (pe_lst pa_nil) ⟨rfl, rfl, rfl, rfl⟩) (pa_cons (pv 2) pa_nil)))) (pa_cons (pv 2) pa_nil))))))))), ?_⟩
    cases l with
    | fact r ts => exact hlo.elim
    | not_ r ts =>
      obtain ⟨a, ha, hts⟩ := hl
      obtain ⟨z1, z2⟩ := rowsOf_ok hok r
      have n1 : decide (V.str "not" = V.str "not") = true := decide_eq_true rfl
      refine ⟨_, rfl, pl, _, 0, _, rfl, rfl, SqT.of_H ha, atI_nat rfl, rfl, true, congrArg V.bl n1, ?_⟩
      refine iteT ⟨_, rfl, pl, _, 2, _, rfl, rfl, SqT.of_H ha, atI_nat rfl, _, rfl, pr, rfl, rows_isD hrw, _, rfl, pl, _, 1, _, rfl, rfl, SqT.of_H ha, atI_nat rfl, Nat.zero_le _, fun L nL => ?_⟩
      have sL := same_new (o := .lst []) nL
      obtain ⟨o, g1, b, g2, g3⟩ := get_rows (hrw.same sL) r upd_same
      refine ⟨o, g1, _, rfl, a, b, d, ts, _, e, (by rw [g2]; rfl), stays_tms.go sL.t hts, g3, sL _ _ hd, hle, z2, z1, fun H1 s1 => ?_⟩
      have ss := sL.trans s1
      refine ⟨_, _, rfl, rfl, _, rfl, ?_⟩
      have em : testM rows e (.not_ r ts) = if (cntM ts (rowsOf rows r) e : Nat) > 0 then none else some e := rfl
      by_cases c : (cntM ts (rowsOf rows r) e : Nat) > 0
      · have c' : decide ((0 : Int) < ((cntM ts (rowsOf rows r) e : Nat) : Int)) = true := decide_eq_true (by omega)
        rw [c']
        rw [if_pos c] at em
        exact iteT (qn em _ ss)
      · have c' : decide ((0 : Int) < ((cntM ts (rowsOf rows r) e : Nat) : Int)) = false := decide_eq_false (by omega)
        rw [c']
        rw [if_neg c] at em
        exact iteF ⟨_, rfl, qs _ _ _ em ss (ss _ _ hd)⟩
    | cmp op ta tb =>
      obtain ⟨x, y, ha, hx, hy⟩ := hl
      obtain ⟨u, v, hu, hv, ou, ov, hop⟩ := hlo
      have n1 : decide (V.str "compare" = V.str "not") = false := dec_str_ne (by decide +kernel)
      have n2 : decide (V.str "compare" = V.str "compare") = true := decide_eq_true rfl
      refine ⟨_, rfl, pl, _, 0, _, rfl, rfl, SqT.of_H ha, atI_nat rfl, rfl, false, congrArg V.bl n1, ?_⟩
      refine iteF ⟨_, rfl, pl, _, 0, _, rfl, rfl, SqT.of_H ha, atI_nat rfl, rfl, true, congrArg V.bl n2, ?_⟩
      refine iteT ⟨_, rfl, pl, _, 1, _, rfl, rfl, SqT.of_H ha, atI_nat rfl, _, rfl, pl, _, 2, _, rfl, rfl, SqT.of_H ha, atI_nat rfl, _, rfl, x, d, ta, e, u, rfl, hx, hd, hu, ?_⟩
      refine ⟨_, rfl, pl, _, 3, _, rfl, rfl, SqT.of_H ha, atI_nat rfl, _, rfl, y, d, tb, e, v, rfl, hy, hd, hv, ?_⟩
      refine ⟨op, u, v, rfl, ou, ov, hop, fun H1 s1 => ⟨_, rfl, ?_⟩⟩
      have em : testM rows e (.cmp op ta tb) = if cmpM op u v = true then some e else none := by
        show (match vof ta e, vof tb e with | some x, some y => if cmpM op x y = true then some e else none | _, _ => none) = _
        rw [hu, hv]
      cases c : cmpM op u v with
      | true =>
        rw [c, if_pos rfl] at em
        exact iteT ⟨_, rfl, qs _ _ _ em s1 (s1 _ _ hd)⟩
      | false =>
        rw [c, if_neg (by decide)] at em
        exact iteF (qn em _ s1)
    | is_ z op ta tb =>
      obtain ⟨x, y, ha, hx, hy⟩ := hl
      obtain ⟨u, v, hu, hv, ou⟩ := hlo
      have n1 : decide (V.str "is" = V.str "not") = false := dec_str_ne (by decide +kernel)
      have n2 : decide (V.str "is" = V.str "compare") = false := dec_str_ne (by decide +kernel)
      have n3 : decide (V.str "is" = V.str "is") = true := decide_eq_true rfl
      refine ⟨_, rfl, pl, _, 0, _, rfl, rfl, SqT.of_H ha, atI_nat rfl, rfl, false, congrArg V.bl n1, ?_⟩
      refine iteF ⟨_, rfl, pl, _, 0, _, rfl, rfl, SqT.of_H ha, atI_nat rfl, rfl, false, congrArg V.bl n2, ?_⟩
      refine iteF ⟨_, rfl, pl, _, 0, _, rfl, rfl, SqT.of_H ha, atI_nat rfl, rfl, true, congrArg V.bl n3, ?_⟩
      refine iteT ⟨_, rfl, pl, _, 2, _, rfl, rfl, SqT.of_H ha, atI_nat rfl, _, rfl, pl, _, 3, _, rfl, rfl, SqT.of_H ha, atI_nat rfl, _, rfl, x, d, ta, e, u, rfl, hx, hd, hu, ?_⟩
      refine ⟨_, rfl, pl, _, 4, _, rfl, rfl, SqT.of_H ha, atI_nat rfl, _, rfl, y, d, tb, e, v, rfl, hy, hd, hv, ?_⟩
      refine ⟨op, u, v, rfl, ou, ?_⟩
      have em : testM rows e (.is_ z op ta tb) = (reckM op u v).bind fun k => boundM z k e := by
        show (match vof ta e, vof tb e with | some x, some y => (reckM op x y).bind fun k => boundM z k e | _, _ => none) = _
        rw [hu, hv]
      refine ⟨_, rfl, rfl, _, rfl, ?_⟩
      cases c : reckM op u v with
      | none =>
        rw [c] at em
        exact iteT (qn em H (Same.refl H))
      | some k =>
        rw [c] at em
        have n4 : decide (kV k = V.non) = false := by cases k <;> rfl
        show if decide (kV k = V.non) = true then _ else _
        rw [n4]
        refine iteF ⟨_, rfl, pl, _, 1, _, rfl, rfl, SqT.of_H ha, atI_nat rfl, _, rfl, _, rfl, z, k, d, e, rfl, hd, by omega, fun hb => qn (em.trans hb) H (Same.refl H), fun e' H1 p hb s1 _ r1 => qs _ _ _ (em.trans hb) s1 r1⟩
    | cnt z r ts =>
      obtain ⟨a, ha, hts⟩ := hl
      obtain ⟨z1, z2⟩ := rowsOf_ok hok r
      have n1 : decide (V.str "count" = V.str "not") = false := dec_str_ne (by decide +kernel)
      have n2 : decide (V.str "count" = V.str "compare") = false := dec_str_ne (by decide +kernel)
      have n3 : decide (V.str "count" = V.str "is") = false := dec_str_ne (by decide +kernel)
      refine ⟨_, rfl, pl, _, 0, _, rfl, rfl, SqT.of_H ha, atI_nat rfl, rfl, false, congrArg V.bl n1, ?_⟩
      refine iteF ⟨_, rfl, pl, _, 0, _, rfl, rfl, SqT.of_H ha, atI_nat rfl, rfl, false, congrArg V.bl n2, ?_⟩
      refine iteF ⟨_, rfl, pl, _, 0, _, rfl, rfl, SqT.of_H ha, atI_nat rfl, rfl, false, congrArg V.bl n3, ?_⟩
      refine iteF ⟨_, rfl, pl, _, 1, _, rfl, rfl, SqT.of_H ha, atI_nat rfl, _, rfl, pl, _, 3, _, rfl, rfl, SqT.of_H ha, atI_nat rfl, _, rfl, pr, rfl, rows_isD hrw, _, rfl, pl, _, 2, _, rfl, rfl, SqT.of_H ha, atI_nat rfl, Nat.zero_le _, fun L nL => ?_⟩
      have sL := same_new (o := .lst []) nL
      obtain ⟨o, g1, b, g2, g3⟩ := get_rows (hrw.same sL) r upd_same
      refine ⟨o, g1, _, rfl, a, b, d, ts, _, e, (by rw [g2]; rfl), stays_tms.go sL.t hts, g3, sL _ _ hd, hle, z2, z1, fun H1 s1 => ?_⟩
      have ss := sL.trans s1
      exact ⟨_, rfl, z, .inl _, d, e, rfl, ss _ _ hd, by omega, fun hb => qn hb H1 ss, fun e' H2 p hb s2 _ r2 => qs _ _ _ hb (ss.trans s2) r2⟩
end
end Rs


set_option Elab.async false
set_option linter.all false
set_option maxRecDepth 100000
set_option maxHeartbeats 2000000
/-! # F4: ways -/
namespace Rs
open PySem PySem.Spec PyProof.Rows L2
def litWays (rows : List (Str × List Row)) (l : Lit) (e : Envr) : List Envr := match l with
  | .fact r ts => (rowsOf rows r).filterMap fun row => metM ts row e
  | l => (testM rows e l).toList
def waysGo (rows : List (Str × List Row)) : Body → List Envr → List Envr
  | [], es => es
  | l :: ls, es => waysGo rows ls (es.flatMap (litWays rows l))
def waysM (rows : List (Str × List Row)) (b : Body) : List Envr := waysGo rows b [[]]
def isFact : Lit → Bool
  | .fact _ _ => true
  | _ => false
def WaysOk (rows : List (Str × List Row)) : Body → List Envr → Prop
  | [], es => es.length ≤ 1000000
  | l :: ls, es => es.length ≤ 1000000 ∧ (∀ e ∈ es, e.length ≤ 800 ∧ (isFact l = true ∨ LitOk e l)) ∧ WaysOk rows ls (es.flatMap (litWays rows l))
/-- one way: a pair of an environment and of the rows that were taken (at most n) -/
def WayAt (n : Nat) (H : Hp) (q : Addr) (e : Envr) : Prop := ∃ (d t : Addr) (xs : List V), H q = some (.tup [.ref d, .ref t]) ∧ EnvAt H d e ∧ H t = some (.tup xs) ∧ xs.length ≤ n
theorem WayAt.l {n m : Nat} {H H' : Hp} {q : Addr} {e : Envr} (s : SameL H H') (h : n ≤ m) (w : WayAt n H q e) : WayAt m H' q e := by
  obtain ⟨d, t, xs, h1, h2, h3, h4⟩ := w
  exact ⟨d, t, xs, s _ _ (fun _ z => nomatch z) h1, s _ _ (fun _ z => nomatch z) h2, s _ _ (fun _ z => nomatch z) h3, Nat.le_trans h4 h⟩
def WaysL (n : Nat) (H : Hp) (A : Addr) (l : List Envr) : Prop := LstOf (WayAt n) H A l
theorem WaysL.same {n : Nat} {H H' : Hp} {A : Addr} {l : List Envr} (s : Same H H') (w : WaysL n H A l) : WaysL n H' A l := by
  obtain ⟨ps, h1, h2, h3⟩ := w
  exact ⟨ps, s _ _ h1, h2, fun q hq => (h3 q hq).l s.l (Nat.le_refl _)⟩
theorem push_way {n : Nat} {H' Hx : Hp} {A d t TP : Addr} {ps : List (Addr × Envr)} {e : Envr} {ys : List V} (hA : H' A = some (.lst (ps.map fun q => V.ref q.1))) (hp : ∀ q ∈ ps, WayAt n H' q.1 q.2) (s : Same H' Hx) (he : EnvAt Hx d e) (ht : Hx t = some (.tup ys)) (hy : ys.length ≤ n) (nT : Hx TP = none) :
    WaysL n (upd (upd Hx TP (.tup [.ref d, .ref t])) A (.lst ((ps.map fun q => V.ref q.1) ++ [V.ref TP]))) A (ps.map (·.2) ++ [e]) := by
  have s1 := same_new (o := .tup [V.ref d, V.ref t]) nT
  have hA2 := s1 _ _ (s _ _ hA)
  have s2 := sameL_lst (o := .lst ((ps.map fun q => V.ref q.1) ++ [V.ref TP])) hA2
  refine ⟨ps ++ [(TP, e)], by rw [upd_same]; simp, by simp, fun q hq => ?_⟩
  rcases List.mem_append.mp hq with hq | hq
  · exact (hp q hq).l ((s.trans s1).l.trans s2) (Nat.le_refl _)
  · rw [List.mem_singleton.mp hq]
    exact ⟨d, t, ys, s2 _ _ (fun _ z => nomatch z) upd_same, s2 _ _ (fun _ z => nomatch z) (s1 _ _ he), s2 _ _ (fun _ z => nomatch z) (s1 _ _ ht), hy⟩
theorem same_but {H H' Hx : Hp} {A TP : Addr} {o u : HO} (s : Same H H') (sx : Same H' Hx) (nA : H A = none) (nT : Hx TP = none) : Same H (upd (upd Hx TP o) A u) := fun b z e => by
  rw [upd_ne (ne_of_none e nA), upd_ne (ne_of_none (sx _ _ (s _ _ e)) nT)]
  exact sx _ _ (s _ _ e)
/-- rows.get(name, []), the default at l -/
theorem get_rows2 {H H2 : Hp} {p l : Addr} {rows : List (Str × List Row)} (h : RowsAt H p rows) (n : Str) (s : Same H H2) (hl : H2 l = some (.lst [])) : ∃ o, DGet H2 p (.str n) o ∧ ∃ (a : Addr) (ps : List (Addr × Row)), o.getD (.ref l) = .ref a ∧ (a = l ∨ ∃ u, H a = some u) ∧ H2 a = some (.lst (ps.map fun q => V.ref q.1)) ∧ ps.map (·.2) = rowsOf rows n ∧ ∀ q ∈ ps, RowH H2 q.1 q.2 := by
  obtain ⟨qs, hp, rfl, hq⟩ := h
  refine ⟨_, dgetS' n (.inl (s _ _ hp)), ?_⟩
  have e1 : look (qs.map fun q => (q.1, q.2.1)) n = (look qs n).map (·.1) := look_map (fun q : Addr × List Row => q.1) n qs
  have e2 : look (qs.map fun q => (q.1, q.2.2)) n = (look qs n).map (·.2) := look_map (fun q : Addr × List Row => q.2) n qs
  unfold rowsOf
  rw [e1, e2]
  cases e : look qs n with
  | none => exact ⟨l, [], rfl, .inl rfl, hl, rfl, fun q hq => by cases hq⟩
  | some q =>
    obtain ⟨ps, h1, h2, h3⟩ := hq _ (look_mem e)
    exact ⟨q.1, ps, rfl, .inr ⟨_, h1⟩, s _ _ h1, h2, fun x hx => stays_row.go s.t (h3 x hx)⟩
def spWays : Sp := fun vs H Q _ => ∃ (pb pr : Addr) (b : Body) (rows : List (Str × List Row)), vs = [.ref pb, .ref pr, .ref pr] ∧ BodyAt H pb b ∧ b.length ≤ 100 ∧ RowsAt H pr rows ∧ RowsOk rows ∧ WaysOk rows b [[]] ∧
  ∀ (H' : Hp) (p : Addr), Same H H' → H p = none → WaysL 100 H' p (waysM rows b) → Q (.ref p) H'
def hid (A : Addr) (H : Hp) : Hp := fun b => if b = A then none else H b
theorem hid_ne {A b : Addr} {H : Hp} (h : b ≠ A) : hid A H b = H b := if_neg h
theorem hid_self {A : Addr} {H : Hp} : hid A H A = none := if_pos rfl
theorem hid_sub {A : Addr} {H : Hp} : Same (hid A H) H := fun b o e => by
  by_cases h : b = A
  · rw [h, hid_self] at e
    cases e
  · rw [hid_ne h] at e
    exact e
theorem hid_of {A : Addr} {H H2 : Hp} (s : Same H H2) (n : H A = none) : Same H (hid A H2) := fun b o e => by
  rw [hid_ne (ne_of_none e n)]
  exact s _ _ e
theorem hid_at {A b : Addr} {H : Hp} {o : HO} {ys : List V} (hA : H A = some (.lst ys)) (e : H b = some o) (n : ∀ xs, o ≠ .lst xs) : hid A H b = some o := by
  rw [hid_ne]
  · exact e
  · intro z
    rw [z, hA] at e
    exact n _ (Option.some.inj e).symm
theorem hid_way {A : Addr} {H : Hp} {ys : List V} (hA : H A = some (.lst ys)) : SameL H (hid A H) := fun b o n e => hid_at hA e n
theorem flatMap_snoc {α β : Type} (f : α → List β) (l : List α) (x : α) : (l ++ [x]).flatMap f = l.flatMap f ++ f x := by
  rw [List.flatMap_append]
  simp
theorem flatMap_le {α β : Type} (f : α → List β) {l pre post : List α} {x : α} (h : l = pre ++ x :: post) : (pre.flatMap f).length + (f x).length ≤ (l.flatMap f).length := by
  rw [h, List.flatMap_append, List.flatMap_cons, List.length_append, List.length_append]
  omega
section
variable {P : Program} {w : World} {K : PySem.W.Frag} {mg : Str → Option Value} {base : Heap}
theorem sc_ways : FnScope ["body", "rows", "lookups", "found", "literal", "after", "values", "taken", "row", "more"] ["body", "rows", "lookups"] (defScope (topS 12)) := ⟨rfl, rfl, rfl, by decide +kernel, rfl, by decide +kernel, by decide +kernel⟩
theorem ok_ways (T : Tx P K mg) : Cal P w K mg base CX0 4 "ways" spWays := by
  have C1 := ok_met (w := w) (base := base) T
  have C2 := ok_tested (w := w) (base := base) T
  refine cal_of T 10 12 rfl (by decide +kernel) sc_ways (fun vs H Q E h => ?_) (fun _ _ _ _ _ _ us hl => match us, hl with | [_, _, _], _ => rfl) (fun cdv A outer s H vs Q E hr h => ?_)
  · obtain ⟨pb, pr, b, rows, rfl, _⟩ := h
    rfl
  · obtain ⟨pb, pr, b, rows, rfl, ⟨bs, hpb, rfl, hbs⟩, hbl, hrw, hok, hwo, q⟩ := h
    rw [List.length_map] at hbl
    refine ⟨_, PSs.nox (pss_cons (ps_set (i := 3) sc_ways.nd rfl (Or.inl rfl) (pe_lst (pa_cons (pe_tup (pa_cons pe_dnewK (pa_cons (pe_tup pa_nil) pa_nil))) pa_nil)))
    (pss_cons (ps_for PassesOwn.never rfl (pi_tup (pv 0)) (pg_name (i := 4) sc_ways.nd rfl (Or.inl rfl))
    (pss_cons (ps_set (i := 5) sc_ways.nd rfl (Or.inl rfl) (pe_lst pa_nil))
    (pss_cons (ps_for PassesOwn.never rfl (pi_list (pv 3)) (pg_tup rfl (pgs_cons (pg_name (i := 6) sc_ways.nd rfl (Or.inl rfl)) (pgs_cons (pg_name (i := 7) sc_ways.nd rfl (Or.inl rfl)) pgs_nil)))
    (pss_one (ps_if (pt_cmpR op_eq (pe_ix ix_tup (pv 4) pe_int (fun _ _ => rfl)) pe_str (nomark _)) (pss_one (ps_for PassesOwn.never rfl (pi_list (pe_dget2 (hu_of hr) (pv 1) (pe_ix ix_tup (pv 4) pe_int (fun _ _ => rfl)) (pe_lst pa_nil) ⟨rfl, rfl, rfl, rfl⟩)) (pg_name (i := 8) sc_ways.nd rfl (Or.inl rfl))
    (pss_cons (ps_set (i := 9) sc_ways.nd rfl (Or.inl rfl) (pe_c C1 hr (pa_cons (pe_ix ix_tup (pv 4) pe_int (fun _ _ => rfl)) (pa_cons (pv 8) (pa_cons (pv 6) pa_nil)))))
    (pss_one (ps_if (pt_cmpR op_notN (pv 9) pe_non (nomark _)) (pss_one (ps_expr (pe_bm PySem.F.plainAttrs_list PySem.F.slot_list_append PySem.F.type_list_append mt_append (pv 5) (pa_cons (pe_tup (pa_cons (pv 9) (pa_cons (pe_op op_catA (pv 7) (pe_tup (pa_cons (pv 8) pa_nil))) pa_nil))) pa_nil)))) pss_nil))))) (pss_cons (ps_set (i := 9) sc_ways.nd rfl (Or.inl rfl) (pe_c C2 hr (pa_cons (pv 4) (pa_cons (pv 2) (pa_cons (pv 6) pa_nil)))))
    (pss_one (ps_if (pt_cmpR op_notN (pv 9) pe_non (nomark _)) (pss_one (ps_expr (pe_bm PySem.F.plainAttrs_list PySem.F.slot_list_append PySem.F.type_list_append mt_append (pv 5) (pa_cons (pe_tup (pa_cons (pv 9) (pa_cons (pv 7) pa_nil))) pa_nil)))) pss_nil))))))
    (pss_one (ps_set (i := 3) sc_ways.nd rfl (Or.inl rfl) (pv 5))))))
    (pss_one (ps_ret (pv 3))))), ?_⟩
    refine fun d nd => ⟨Nat.zero_le _, fun t nt => ⟨by show 2 ≤ sizeLine; decide, fun p np => ⟨by show 1 ≤ sizeLine; decide, fun F nF => ?_⟩⟩⟩
    have s1 := same_new (o := .dK []) nd
    have s2 := same_new (o := .tup []) nt
    have s3 := same_new (o := .tup [V.ref d, V.ref t]) np
    have s4 := same_new (o := .lst [V.ref p]) nF
    have s0 := ((s1.trans s2).trans s3).trans s4
    have w0 : WaysL 0 (upd (upd (upd (upd H d (.dK [])) t (.tup [])) p (.tup [V.ref d, V.ref t])) F (.lst [V.ref p])) F [[]] := ⟨[(p, [])], upd_same, rfl, fun q hq => by
      rw [List.mem_singleton.mp hq]
      exact ⟨d, t, [], s4 _ _ upd_same, s4 _ _ (s3 _ _ (s2 _ _ upd_same)), s4 _ _ (s3 _ _ upd_same), Nat.le_refl _⟩⟩
    have nF0 : H F = none := ((s1.trans s2).trans s3).free nF
    refine ⟨_, rfl, pb, rfl, ⟨_, SqT.of_H (s0 _ _ hpb)⟩, for_tupG (K := K) (a := pb) (l := bs) (f := fun q : Addr × Lit => V.ref q.1) (fun pre σ H' => ∃ (F : Addr) (es : List Envr) (v4 v5 v6 v7 v8 v9 : Option V), σ = [some (.ref pb), some (.ref pr), some (.ref pr), some (.ref F), v4, v5, v6, v7, v8, v9] ∧ Same H H' ∧ H F = none ∧ WaysL pre.length H' F es ∧
        ∀ post, bs = pre ++ post → waysM rows (bs.map (·.2)) = waysGo rows (post.map (·.2)) es ∧ WaysOk rows (post.map (·.2)) es)
      ⟨F, [[]], none, none, none, none, none, none, rfl, s0, nF0, w0, fun post e => by
        rw [List.nil_append] at e
        subst e
        exact ⟨rfl, hwo⟩⟩ (fun pre σ H' ⟨_, _, _, _, _, _, _, _, _, sm, _⟩ => SqT.of_H (sm _ _ hpb)) ?_ ?_⟩
    · rintro pre ⟨lp, l⟩ post σ H' el ⟨F, es, v4, v5, v6, v7, v8, v9, rfl, sm, nF, ⟨ps, hF, rfl, hps⟩, hgo⟩
      obtain ⟨g1, g2⟩ := hgo _ el
      obtain ⟨g3, g4, g5⟩ := g2
      have g1' : waysM rows (bs.map (·.2)) = waysGo rows (post.map (·.2)) ((ps.map (·.2)).flatMap (litWays rows l)) := g1
      have bnd : ((ps.map (·.2)).flatMap (litWays rows l)).length ≤ 1000000 := by
        cases hp : post.map (·.2) with
        | nil =>
          rw [hp] at g5
          exact g5
        | cons a b =>
          rw [hp] at g5
          exact g5.1
      have hl : LitAt H' lp l := stays_lit.go sm.t (hbs (lp, l) (by rw [el]; simp))
      have npre : pre.length < 100 := by
        have := congrArg List.length el
        rw [List.length_append, List.length_cons] at this
        omega
      refine ⟨Nat.zero_le _, fun A nA => ?_⟩
      have sA := same_new (o := .lst []) nA
      refine ⟨_, rfl, F, rfl, ⟨_, SqL.of_H (sA _ _ hF)⟩, for_listG (K := K) (a := F) (l := ps) (f := fun q : Addr × Envr => V.ref q.1) (fun mpre σ H2 => ∃ (v6 v7 v8 v9 : Option V), σ = [some (.ref pb), some (.ref pr), some (.ref pr), some (.ref F), some (.ref lp), some (.ref A), v6, v7, v8, v9] ∧ Same H' H2 ∧ WaysL (pre.length + 1) H2 A ((mpre.map (·.2)).flatMap (litWays rows l)))
        ⟨v6, v7, v8, v9, rfl, sA, [], upd_same, rfl, fun q hq => by cases hq⟩ (fun mpre σ H2 ⟨_, _, _, _, _, sm2, _⟩ => SqL.of_H (sm2 _ _ hF)) ?_ ?_⟩
      · rintro mpre ⟨wq, e⟩ mpost σ H2 em ⟨v6, v7, v8, v9, rfl, sm2, ⟨ac, hA, hac, hw⟩⟩
        have hm : (wq, e) ∈ ps := by rw [em]; simp
        obtain ⟨de, te, xs, h1, h2, h3, h4⟩ := (hps _ hm).l sm2.l (Nat.le_refl _)
        obtain ⟨k1, k2⟩ := g4 e (List.mem_map_of_mem hm)
        have hl2 := stays_lit.go sm2.t hl
        have hsz := flatMap_le (litWays rows l) (l := ps.map (·.2)) (pre := mpre.map (·.2)) (x := e) (post := mpost.map (·.2)) (by rw [em]; simp)
        have hfl : ((mpre ++ [(wq, e)]).map (·.2)).flatMap (litWays rows l) = (mpre.map (·.2)).flatMap (litWays rows l) ++ litWays rows l e := by
          rw [List.map_append]
          exact flatMap_snoc _ _ _
        refine ⟨wq, _, rfl, SqT.of_H h1, rfl, _, _, rfl, _, _, rfl, rfl, ?_⟩
        have other : (∀ r ts, l ≠ .fact r ts) → litWays rows l e = (testM rows e l).toList ∧ LitOk e l := fun hn => by
          cases l with
          | fact r ts => exact absurd rfl (hn r ts)
          | not_ r ts => exact ⟨rfl, k2.resolve_left (by intro z; cases z)⟩
          | cmp op a b => exact ⟨rfl, k2.resolve_left (by intro z; cases z)⟩
          | is_ v op a b => exact ⟨rfl, k2.resolve_left (by intro z; cases z)⟩
          | cnt v r ts => exact ⟨rfl, k2.resolve_left (by intro z; cases z)⟩
        by_cases hfact : ∃ r ts, l = .fact r ts
        · obtain ⟨r, ts, rfl⟩ := hfact
          obtain ⟨ta, ht, hts⟩ := hl2
          obtain ⟨z1, z2⟩ := rowsOf_ok hok r
          have n1 : decide (V.str "fact" = V.str "fact") = true := decide_eq_true rfl
          refine ⟨_, rfl, lp, _, 0, _, rfl, rfl, SqT.of_H ht, atI_nat rfl, rfl, true, congrArg V.bl n1, ?_⟩
          refine iteT ⟨_, rfl, pr, rfl, rows_isD ((hrw.same sm).same sm2), _, rfl, lp, _, 1, _, rfl, rfl, SqT.of_H ht, atI_nat rfl, Nat.zero_le _, fun L nL => ?_⟩
          have sL := same_new (o := .lst []) nL
          have nLA : L ≠ A := fun z => by
            rw [z, hA] at nL
            cases nL
          have hA3 := sL _ _ hA
          have smL := sm2.trans sL
          obtain ⟨o, gg, la, qs, e1, e2, e3, e4, e5⟩ := get_rows2 (hrw.same sm) r smL upd_same
          have nla : la ≠ A := by
            rcases e2 with e2 | ⟨u, e2⟩
            · rw [e2]
              exact nLA
            · exact ne_of_none e2 nA
          have sb : Same H' (hid A (upd H2 L (.lst []))) := hid_of smL nA
          have l1 : hid A (upd H2 L (.lst [])) la = some (.lst (qs.map fun q => V.ref q.1)) := by rw [hid_ne nla]; exact e3
          refine ⟨o, gg, la, e1, ⟨_, SqL.of_H e3⟩, for_listG (K := K) (a := la) (l := qs) (f := fun q : Addr × Row => V.ref q.1) (fun rpre σ H3 => ∃ (v8 v9 : Option V), σ = [some (.ref pb), some (.ref pr), some (.ref pr), some (.ref F), some (.ref lp), some (.ref A), some (.ref de), some (.ref te), v8, v9] ∧ Same (hid A (upd H2 L (.lst []))) H3 ∧
              WaysL (pre.length + 1) H3 A ((mpre.map (·.2)).flatMap (litWays rows (.fact r ts)) ++ (rpre.map (·.2)).filterMap fun row => metM ts row e))
            ⟨v8, v9, rfl, hid_sub, ac, hA3, by rw [hac]; simp, fun q hq => (hw q hq).l sL.l (Nat.le_refl _)⟩ (fun rpre σ H3 ⟨_, _, _, sm3, _⟩ => SqL.of_H (sm3 _ _ l1)) ?_ ?_⟩
          · rintro rpre ⟨rb, row⟩ rpost σ H3 er ⟨v8, v9, rfl, sm3, ⟨cc, hA4, hcc, hw4⟩⟩
            have hrm : (rb, row) ∈ qs := by rw [er]; simp
            have hrow : row ∈ rowsOf rows r := by
              rw [← e4]
              exact List.mem_map_of_mem hrm
            have t3 : TmsAt H3 ta ts := stays_tms.go (((sL.t).trans (hid_way hA3).t).trans sm3.t) hts
            have r3 : RowH H3 rb row := stays_row.go ((hid_way hA3).t.trans sm3.t) (e5 _ hrm)
            have d3 : EnvAt H3 de e := sm3 _ _ (hid_at hA3 (sL _ _ h2) (fun _ z => nomatch z))
            have lt3 : H3 lp = some (.tup [.str "fact", .str r, .ref ta]) := sm3 _ _ (hid_at hA3 (sL _ _ ht) (fun _ z => nomatch z))
            have te3 : H3 te = some (.tup xs) := sm3 _ _ (hid_at hA3 (sL _ _ h3) (fun _ z => nomatch z))
            have efm : ∀ z, ((rpre ++ [(rb, row)]).map (·.2)).filterMap (fun row => metM ts row e) = z ↔ (rpre.map (·.2)).filterMap (fun row => metM ts row e) ++ (metM ts row e).toList = z := fun z => by
              rw [List.map_append, List.filterMap_append]
              cases hmm : metM ts row e <;> simp [hmm]
            have efm := (efm _).mpr rfl
            have lcc : cc.length + 1 ≤ 1000000 ∨ metM ts row e = none := by
              cases hmm : metM ts row e with
              | none => exact .inr rfl
              | some e' =>
                refine .inl ?_
                have q1 := congrArg List.length hcc
                rw [List.length_map, List.length_append] at q1
                have q2 : (rpre.map (·.2)).filterMap (fun row => metM ts row e) ++ [e'] ++ (rpost.map (·.2)).filterMap (fun row => metM ts row e) = litWays rows (.fact r ts) e := by
                  show _ = (rowsOf rows r).filterMap _
                  rw [← e4, er, List.map_append, List.map_cons, List.filterMap_append, List.filterMap_cons, hmm]
                  simp
                have q3 := congrArg List.length q2
                simp only [List.length_append, List.length_singleton] at q3
                omega
            refine ⟨_, rfl, lp, _, 2, _, rfl, rfl, SqT.of_H lt3, atI_nat rfl, _, rfl, _, rfl, ta, rb, de, ts, row, e, rfl, t3, r3, d3, k1, z2 _ hrow, fun hn H4 s5 => ?_, fun e' H4 dm hs s5 n5 r5 => ?_⟩
            · refine ⟨_, rfl, rfl, false, rfl, ?_⟩
              refine iteF ⟨_, _, rfl, sm3.trans s5, ?_⟩
              rw [efm, hn, Option.toList_none, List.append_nil, ← hcc]
              exact WaysL.same s5 ⟨cc, hA4, rfl, hw4⟩
            · refine ⟨_, rfl, rfl, true, rfl, ?_⟩
              have lcc' : (cc.map fun q => V.ref q.1).length < sizeLine := by
                rw [List.length_map, sizeLine_eq]
                rcases lcc with lcc | lcc
                · omega
                · rw [lcc] at hs
                  cases hs
              have hA5 := s5 _ _ hA4
              have fin : ∀ (Hx : Hp) (t' TP : Addr) (ys : List V), Same H4 Hx → Hx t' = some (.tup ys) → ys.length ≤ pre.length + 1 → Hx TP = none →
                  ∃ (v8 v9 : Option V), ([some (.ref pb), some (.ref pr), some (.ref pr), some (.ref F), some (.ref lp), some (.ref A), some (.ref de), some (.ref te), some (.ref rb), some (.ref dm)] : L2.St) = [some (.ref pb), some (.ref pr), some (.ref pr), some (.ref F), some (.ref lp), some (.ref A), some (.ref de), some (.ref te), v8, v9] ∧
                    Same (hid A (upd H2 L (.lst []))) (upd (upd Hx TP (.tup [V.ref dm, V.ref t'])) A (.lst ((cc.map fun q => V.ref q.1) ++ [V.ref TP]))) ∧
                    WaysL (pre.length + 1) (upd (upd Hx TP (.tup [V.ref dm, V.ref t'])) A (.lst ((cc.map fun q => V.ref q.1) ++ [V.ref TP]))) A ((mpre.map (·.2)).flatMap (litWays rows (.fact r ts)) ++ ((rpre ++ [(rb, row)]).map (·.2)).filterMap fun row => metM ts row e) := by
                intro Hx t' TP ys sx hx1 hx2 nTP
                refine ⟨_, _, rfl, same_but sm3 (s5.trans sx) hid_self nTP, ?_⟩
                rw [efm, hs, Option.toList_some, ← List.append_assoc, ← hcc]
                exact push_way hA4 hw4 (s5.trans sx) (sx _ _ r5) hx1 hx2 nTP
              refine iteT ⟨_, rfl, .inl ⟨rfl, _, SqL.of_H hA5⟩, _, rfl, _, rfl, _, rfl, by show 1 ≤ sizeLine; decide, fun T1 nT1 => ?_⟩
              have sT1 := same_new (o := .tup [V.ref rb]) nT1
              refine ⟨te, T1, xs, [.ref rb], rfl, rfl, SqT.of_H (sT1 _ _ (s5 _ _ te3)), SqT.of_H upd_same, ?_, fun hx => ?_, fun _ z => (by cases z), fun hx _ T2 nT2 => ?_⟩
              · rw [sizeLine_eq]
                show xs.length + 1 ≤ _
                omega
              · refine ⟨by show 2 ≤ sizeLine; decide, fun TP nTP => ?_⟩
                refine ⟨A, _, _, rfl, rfl, (same_new nTP) _ _ (sT1 _ _ hA5), lcc', ?_⟩
                exact fin _ T1 TP [.ref rb] sT1 upd_same (by show 1 ≤ _; omega) nTP
              · have sT2 := same_new (o := .tup (xs ++ [V.ref rb])) nT2
                refine ⟨by show 2 ≤ sizeLine; decide, fun TP nTP => ?_⟩
                refine ⟨A, _, _, rfl, rfl, (same_new nTP) _ _ (sT2 _ _ (sT1 _ _ hA5)), lcc', ?_⟩
                exact fin _ T2 TP (xs ++ [.ref rb]) (sT1.trans sT2) upd_same (by rw [List.length_append]; show xs.length + 1 ≤ _; omega) nTP
          · rintro σ H3 ⟨v8, v9, rfl, sm3, hw3⟩
            refine ⟨_, _, _, _, rfl, sb.trans sm3, ?_⟩
            rw [hfl]
            rw [e4] at hw3
            exact hw3
        · obtain ⟨hlw, hlo⟩ := other fun r ts z => hfact ⟨r, ts, z⟩
          have hlp : ∃ w vs, H2 lp = some (.tup (.str w :: vs)) ∧ w ≠ "fact" := by
            cases l with
            | fact r ts => exact absurd ⟨r, ts, rfl⟩ hfact
            | not_ r ts =>
              obtain ⟨a, h, _⟩ := hl2
              exact ⟨_, _, h, by decide +kernel⟩
            | cmp op a b =>
              obtain ⟨a, b, h, _⟩ := hl2
              exact ⟨_, _, h, by decide +kernel⟩
            | is_ v op a b =>
              obtain ⟨a, b, h, _⟩ := hl2
              exact ⟨_, _, h, by decide +kernel⟩
            | cnt v r ts =>
              obtain ⟨a, h, _⟩ := hl2
              exact ⟨_, _, h, by decide +kernel⟩
          obtain ⟨wd, vs, hlp, hwd⟩ := hlp
          have n1 : decide (V.str wd = V.str "fact") = false := decide_eq_false fun z => hwd (V.str.inj z)
          refine ⟨_, rfl, lp, _, 0, _, rfl, rfl, SqT.of_H hlp, atI_nat rfl, rfl, false, congrArg V.bl n1, ?_⟩
          refine iteF ⟨_, rfl, _, rfl, _, rfl, lp, pr, de, l, rows, e, rfl, hl2, (hrw.same sm).same sm2, h2, k1, hok, hlo, fun hn H4 s5 => ?_, fun e' H4 dm hs s5 r5 => ?_⟩
          · refine ⟨_, rfl, rfl, false, rfl, ?_⟩
            refine iteF ⟨_, _, _, _, rfl, sm2.trans s5, ?_⟩
            rw [hfl, hlw, hn, Option.toList_none, List.append_nil, ← hac]
            exact WaysL.same s5 ⟨ac, hA, rfl, hw⟩
          · refine ⟨_, rfl, rfl, true, rfl, ?_⟩
            have hA5 := s5 _ _ hA
            have lcc' : (ac.map fun q => V.ref q.1).length < sizeLine := by
              have q1 := congrArg List.length hac
              rw [List.length_map] at q1
              rw [hlw, hs] at hsz
              rw [List.length_map, sizeLine_eq]
              simp only [Option.toList_some, List.length_singleton] at hsz
              omega
            refine iteT ⟨_, rfl, .inl ⟨rfl, _, SqL.of_H hA5⟩, _, rfl, _, rfl, by show 2 ≤ sizeLine; decide, fun TP nTP => ?_⟩
            refine ⟨A, _, _, rfl, rfl, (same_new nTP) _ _ hA5, lcc', ?_⟩
            refine ⟨_, _, _, _, rfl, same_but sm2 s5 nA nTP, ?_⟩
            rw [hfl, hlw, hs, Option.toList_some, ← hac]
            exact push_way hA hw s5 r5 (s5 _ _ h3) (Nat.le_succ_of_le h4) nTP
      · rintro σ H2 ⟨v6, v7, v8, v9, rfl, sm2, hw⟩
        refine ⟨_, rfl, A, (ps.map (·.2)).flatMap (litWays rows l), _, _, _, _, _, _, rfl, sm.trans sm2, sm.free nA, ?_, fun post2 e2 => ?_⟩
        · rw [List.length_append, List.length_singleton]
          exact hw
        · have e3 : post2 = post := by
            rw [el, List.append_assoc] at e2
            exact ((List.cons.inj (List.append_cancel_left e2)).2).symm
          rw [e3]
          exact ⟨g1', g5⟩
    · rintro σ H' ⟨F, es, v4, v5, v6, v7, v8, v9, rfl, sm, nF, hw, hgo⟩
      obtain ⟨g1, g2⟩ := hgo [] (by rw [List.append_nil])
      refine ⟨_, rfl, q H' F sm nF ?_⟩
      rw [g1]
      obtain ⟨ps, h1, h2, h3⟩ := hw
      exact ⟨ps, h1, h2, fun x hx => (h3 x hx).l (SameL.refl _) hbl⟩
end
end Rs


set_option Elab.async false
set_option linter.all false
set_option maxRecDepth 100000
set_option maxHeartbeats 2000000
/-! # M2: loops, comprehensions of lists and dicts over anything that is walked; locks -/
namespace Rs
open PySem PySem.Spec PyProof.Rows L2
section
variable {α : Type} {J : It} {l : List α} {f : α → V} {Pre : Hp → Prop}
/-- J walks l, item by item, while Pre holds -/
abbrev Walks (J : It) (l : List α) (f : α → V) (Pre : Hp → Prop) : Prop := Walk J l.length Pre (YAt (l.map f))
theorem split_l {i : Nat} {x : V} (hx : (l.map f)[i]? = some x) : ∃ y, x = f y ∧ l = l.take i ++ y :: l.drop (i + 1) ∧ l.take (i + 1) = l.take i ++ [y] ∧ (l.take i).length = i := split_at hx
theorem for_W (w : Walks J l f Pre) {g : TG} {tb : TS} {D : Ends} {σ : L2.St} {H : Hp} (W : List α → L2.St → Hp → Prop) (h0 : W [] σ H) (hl : ∀ pre σ H, W pre σ H → Pre H)
    (hs : ∀ pre x post σ H, l = pre ++ x :: post → W pre σ H → g (f x) σ H fun σ2 H2 => tb { D with nx := W (pre ++ [x]), ct := W (pre ++ [x]), bk := D.nx } σ2 H2) (hd : ∀ σ H, W l σ H → D.nx σ H) :
    ∃ W : Nat → Nat → L2.St → Hp → Prop, (∃ m, W 0 m σ H) ∧ ∀ i m σ H, W i m σ H →
      (J.stop i H ∧ D.nx σ H) ∨ (J.go i H ∧ ∃ N : L2.St → Hp → Prop, (∀ σ' H', N σ' H' → ∃ m', m' < m ∧ W (i + 1) m' σ' H') ∧ ∀ x H', J.yld i H x H' → g x σ H' fun σ2 H2 => tb { D with nx := N, ct := N, bk := D.nx } σ2 H2) := by
  refine for_it w (fun i σ H => W (l.take i) σ H) h0 (fun i σ H _ h => hl _ σ H h) (fun i x σ H H' hi h y => ?_) (fun σ H h => hd σ H ?_)
  · obtain ⟨e, hx⟩ := y
    subst e
    obtain ⟨y, rfl, e1, e2, e3⟩ := split_at hx
    rw [e2]
    exact hs _ y _ σ _ e1 h
  · rw [List.take_length] at h
    exact h
theorem lc_W (w : Walks J l f Pre) {g : TG} {tt : TT} {te : TE} {vs : List Nat} {σ : L2.St} {H1 : Hp} {D : Addr} {Qd : Hp → Prop} (hD : H1 D = none) (hp : ∀ H', Same H1 H' → Pre H') (hz : l.length ≤ 1000000) (G : Hp → List V → List α → Prop) (h0 : G (upd H1 D (.lst [])) [] [])
    (hs : ∀ (pre : List α) (x : α) (post : List α) (acc : List V) (H' : Hp) (Nx : V → Hp → Prop) (No : Hp → Prop), l = pre ++ x :: post → Same H1 H' → H' D = some (.lst acc) → G H' acc pre →
      (∀ y H4, Same H' H4 → G (upd H4 D (.lst (acc ++ [y]))) (acc ++ [y]) (pre ++ [x]) → Nx y H4) → (∀ H4, Same H' H4 → G H4 acc (pre ++ [x]) → No H4) →
      g (f x) (wipe σ vs) H' fun σ2 H2 => wipe σ2 vs = wipe σ vs ∧ tt σ2 H2 fun b H3 => if b = true then te σ2 H3 Nx else No H3)
    (hd : ∀ H' acc, Same H1 H' → H' D = some (.lst acc) → G H' acc l → Qd H') :
    ∃ W : Nat → Nat → Hp → Prop, (∃ m, W 0 m (upd H1 D (.lst []))) ∧ ∀ i m H, W i m H →
      (J.stop i H ∧ Qd H) ∨ (J.go i H ∧ ∃ Nx : Hp → Prop, (∀ H', Nx H' → ∃ m', m' < m ∧ W (i + 1) m' H') ∧ ∀ x H', J.yld i H x H' → g x (wipe σ vs) H' fun σ2 H2 => wipe σ2 vs = wipe σ vs ∧ tt σ2 H2 fun b H3 =>
        if b = true then te σ2 H3 fun y H4 => ∃ acc, H4 D = some (.lst acc) ∧ acc.length < sizeLine ∧ Nx (upd H4 D (.lst (acc ++ [y]))) else Nx H3) := by
  refine lc_it w (fun i H' => ∃ acc, Same H1 H' ∧ H' D = some (.lst acc) ∧ acc.length ≤ i ∧ G H' acc (l.take i)) ⟨[], same_new hD, upd_same, Nat.le_refl _, h0⟩ (fun i H' _ ⟨acc, s, _, _, _⟩ => hp _ s) (fun i x H' H'' hi ⟨acc, s, eD, ln, hG⟩ y => ?_) (fun H' ⟨acc, s, eD, ln, hG⟩ => ?_)
  · obtain ⟨e, hx⟩ := y
    subst e
    obtain ⟨y, rfl, e1, e2, e3⟩ := split_at hx
    have hsz : acc.length < sizeLine := by
      rw [sizeLine_eq]
      omega
    refine hs (l.take i) y _ acc _ _ _ e1 s eD hG (fun z H4 s4 g4 => ⟨acc, s4 _ _ eD, hsz, acc ++ [z], fun b o e => ?_, upd_same, ?_, ?_⟩) (fun H4 s4 g4 => ⟨acc, s.trans s4, s4 _ _ eD, by omega, ?_⟩)
    · rw [upd_ne (ne_of_none e hD)]
      exact s4 _ _ (s _ _ e)
    · rw [List.length_append, List.length_singleton]
      omega
    · rw [e2]
      exact g4
    · rw [e2]
      exact g4
  · rw [List.take_length] at hG
    exact hd H' acc s eD hG
/-- {name: value ..}, keys ints and texts -/
theorem dg_W (w : Walks J l f Pre) {g : TG} {tt : TT} {tk tv : TE} {own : List Nat} {σ : L2.St} {H1 : Hp} {D : Addr} {Qd : Hp → Prop} (hD : H1 D = none) (hp : ∀ H', Same H1 H' → Pre H') (hz : l.length ≤ 1000000) (G : Hp → List (L2.Key × V) → List α → Prop) (h0 : G (upd H1 D (.dK [])) [] [])
    (hs : ∀ (pre : List α) (x : α) (post : List α) (kvs : List (L2.Key × V)) (H' : Hp) (Nx : V → V → Hp → Prop) (No : Hp → Prop), l = pre ++ x :: post → Same H1 H' → H' D = some (.dK kvs) → G H' kvs pre →
      (∀ k z H7, Same H' H7 → G (upd H7 D (.dK (putK kvs k z))) (putK kvs k z) (pre ++ [x]) → Nx (kV k) z H7) → (∀ H5, Same H' H5 → G H5 kvs (pre ++ [x]) → No H5) →
      g (f x) (wipe σ own) H' fun σ1 H4 => wipe σ1 own = wipe σ own ∧ tt σ1 H4 fun c H5 => if c = true then tk σ1 H5 fun y H6 => tv σ1 H6 fun z H7 => Nx y z H7 else No H5)
    (hd : ∀ H' kvs, Same H1 H' → H' D = some (.dK kvs) → G H' kvs l → Qd H') :
    ∃ W : Nat → Nat → Hp → Prop, (∃ m, W 0 m (upd H1 D (emptyD false))) ∧ ∀ i m H2, W i m H2 →
      (J.stop i H2 ∧ Qd H2) ∨ (J.go i H2 ∧ ∃ Nx : Hp → Prop, (∀ H3, Nx H3 → ∃ m', m' < m ∧ W (i + 1) m' H3) ∧ ∀ x H3, J.yld i H2 x H3 → g x (wipe σ own) H3 fun σ1 H4 => wipe σ1 own = wipe σ own ∧ tt σ1 H4 fun c H5 =>
        if c = true then tk σ1 H5 fun y H6 => tv σ1 H6 fun z H7 => ∃ H8, DPut H7 D y z H8 ∧ Nx H8 else Nx H5) := by
  refine ⟨fun i m H' => m = l.length - i ∧ i ≤ l.length ∧ ∃ kvs, Same H1 H' ∧ H' D = some (.dK kvs) ∧ kvs.length ≤ i ∧ G H' kvs (l.take i), ⟨l.length, by simp, Nat.zero_le _, [], same_new hD, upd_same, Nat.le_refl _, h0⟩, ?_⟩
  rintro i m H' ⟨rfl, hi, kvs, s, eD, ln, hG⟩
  by_cases hlt : i < l.length
  · refine .inr ⟨w.goes i H' hlt (hp _ s), fun H8 => ∃ kvs, Same H1 H8 ∧ H8 D = some (.dK kvs) ∧ kvs.length ≤ i + 1 ∧ G H8 kvs (l.take (i + 1)), fun H8 h8 => ⟨l.length - (i + 1), by omega, rfl, hlt, h8⟩, fun x H3 hy => ?_⟩
    obtain ⟨e, hx⟩ := w.yields i H' x H3 hlt (hp _ s) hy
    subst e
    obtain ⟨y, rfl, e1, e2, e3⟩ := split_at hx
    have hsz : kvs.length < sizeLine := by
      rw [sizeLine_eq]
      omega
    refine hs (l.take i) y _ kvs _ (fun y z H7 => ∃ H8, DPut H7 D y z H8 ∧ ∃ kvs, Same H1 H8 ∧ H8 D = some (.dK kvs) ∧ kvs.length ≤ i + 1 ∧ G H8 kvs (l.take (i + 1))) _ e1 s eD hG (fun k z H7 s7 g7 => ⟨_, DPut.k (s7 _ _ eD) hsz, putK kvs k z, fun b o e => ?_, upd_same, ?_, ?_⟩) (fun H5 s5 g5 => ⟨kvs, s.trans s5, s5 _ _ eD, by omega, ?_⟩)
    · rw [upd_ne (ne_of_none e hD)]
      exact s7 _ _ (s _ _ e)
    · have := length_putK kvs k z
      omega
    · rw [e2]
      exact g7
    · rw [e2]
      exact g5
  · have e : i = l.length := by omega
    subst e
    rw [List.take_length] at hG
    exact .inl ⟨w.stops H' (hp _ s), hd H' kvs s eD hG⟩
/-- {row: value ..} -/
theorem dg_WT (w : Walks J l f Pre) {g : TG} {tt : TT} {tk tv : TE} {own : List Nat} {σ : L2.St} {H1 : Hp} {D : Addr} {Qd : Hp → Prop} (hD : H1 D = none) (hp : ∀ H', Same H1 H' → Pre H') (hz : l.length ≤ 1000000) (G : Hp → List (Row × V) → List α → Prop) (h0 : G (upd H1 D (.dT [])) [] [])
    (hs : ∀ (pre : List α) (x : α) (post : List α) (kvs : List (Row × V)) (H' : Hp) (Nx : V → V → Hp → Prop) (No : Hp → Prop), l = pre ++ x :: post → Same H1 H' → H' D = some (.dT kvs) → G H' kvs pre →
      (∀ b k z H7, Same H' H7 → RowH H7 b k → G (upd H7 D (.dT (putK kvs k z))) (putK kvs k z) (pre ++ [x]) → Nx (.ref b) z H7) → (∀ H5, Same H' H5 → G H5 kvs (pre ++ [x]) → No H5) →
      g (f x) (wipe σ own) H' fun σ1 H4 => wipe σ1 own = wipe σ own ∧ tt σ1 H4 fun c H5 => if c = true then tk σ1 H5 fun y H6 => tv σ1 H6 fun z H7 => Nx y z H7 else No H5)
    (hd : ∀ H' kvs, Same H1 H' → H' D = some (.dT kvs) → G H' kvs l → Qd H') :
    ∃ W : Nat → Nat → Hp → Prop, (∃ m, W 0 m (upd H1 D (emptyD true))) ∧ ∀ i m H2, W i m H2 →
      (J.stop i H2 ∧ Qd H2) ∨ (J.go i H2 ∧ ∃ Nx : Hp → Prop, (∀ H3, Nx H3 → ∃ m', m' < m ∧ W (i + 1) m' H3) ∧ ∀ x H3, J.yld i H2 x H3 → g x (wipe σ own) H3 fun σ1 H4 => wipe σ1 own = wipe σ own ∧ tt σ1 H4 fun c H5 =>
        if c = true then tk σ1 H5 fun y H6 => tv σ1 H6 fun z H7 => ∃ H8, DPut H7 D y z H8 ∧ Nx H8 else Nx H5) := by
  refine ⟨fun i m H' => m = l.length - i ∧ i ≤ l.length ∧ ∃ kvs, Same H1 H' ∧ H' D = some (.dT kvs) ∧ kvs.length ≤ i ∧ G H' kvs (l.take i), ⟨l.length, by simp, Nat.zero_le _, [], same_new hD, upd_same, Nat.le_refl _, h0⟩, ?_⟩
  rintro i m H' ⟨rfl, hi, kvs, s, eD, ln, hG⟩
  by_cases hlt : i < l.length
  · refine .inr ⟨w.goes i H' hlt (hp _ s), fun H8 => ∃ kvs, Same H1 H8 ∧ H8 D = some (.dT kvs) ∧ kvs.length ≤ i + 1 ∧ G H8 kvs (l.take (i + 1)), fun H8 h8 => ⟨l.length - (i + 1), by omega, rfl, hlt, h8⟩, fun x H3 hy => ?_⟩
    obtain ⟨e, hx⟩ := w.yields i H' x H3 hlt (hp _ s) hy
    subst e
    obtain ⟨y, rfl, e1, e2, e3⟩ := split_at hx
    have hsz : kvs.length < sizeLine := by
      rw [sizeLine_eq]
      omega
    refine hs (l.take i) y _ kvs _ (fun y z H7 => ∃ H8, DPut H7 D y z H8 ∧ ∃ kvs, Same H1 H8 ∧ H8 D = some (.dT kvs) ∧ kvs.length ≤ i + 1 ∧ G H8 kvs (l.take (i + 1))) _ e1 s eD hG (fun b k z H7 s7 r7 g7 => ⟨_, DPut.t (s7 _ _ eD) r7 hsz, putK kvs k z, fun b o e => ?_, upd_same, ?_, ?_⟩) (fun H5 s5 g5 => ⟨kvs, s.trans s5, s5 _ _ eD, by omega, ?_⟩)
    · rw [upd_ne (ne_of_none e hD)]
      exact s7 _ _ (s _ _ e)
    · have := length_putK kvs k z
      omega
    · rw [e2]
      exact g7
    · rw [e2]
      exact g5
  · have e : i = l.length := by omega
    subst e
    rw [List.take_length] at hG
    exact .inl ⟨w.stops H' (hp _ s), hd H' kvs s eD hG⟩
end
theorem walks_list {α : Type} {l : List α} {f : α → V} {K : PySem.W.Frag} {a : Addr} : Walks (Itl K a) l f (fun H => SqL K H a (l.map f)) := by
  have w := walk_list (K := K) (a := a) (xs := l.map f)
  rw [List.length_map] at w
  exact w
theorem walks_tup {α : Type} {l : List α} {f : α → V} {K : PySem.W.Frag} {a : Addr} : Walks (Itt K a) l f (fun H => SqT K H a (l.map f)) := by
  have w := walk_tup (K := K) (a := a) (xs := l.map f)
  rw [List.length_map] at w
  exact w
/-- the names of a dict -/
theorem walks_keys {β : Type} {l : List (Str × β)} {h : β → V} {d : Addr} {o : Obj} : Walks (Itk d o (encS h l)) l (fun q => V.str q.1) (fun H => H d = some (.frz o (.dK (encS h l)))) := by
  have w := walk_keys (d := d) (o := o) (kvs := encS h l)
  rw [encS_len] at w
  refine w.mono (fun _ h => h) (fun i H x H' hi _ y => ⟨y.1, ?_⟩)
  obtain ⟨_, k, v, e1, e2⟩ := y
  subst e2
  unfold encS at e1
  rw [List.getElem?_map] at e1 ⊢
  cases e : l[i]? with
  | none =>
    rw [e] at e1
    cases e1
  | some q =>
    rw [e] at e1
    obtain ⟨rfl, rfl⟩ := Prod.mk.inj (Option.some.inj e1)
    rfl
theorem walks_vals {β : Type} {l : List (Str × β)} {h : β → V} {d : Addr} {o : Obj} : Walks (Itd d o (encS h l)) l (fun q => h q.2) (fun H => H d = some (.frz o (.dK (encS h l)))) := by
  have w := walk_values (d := d) (o := o) (kvs := encS h l)
  rw [encS_len] at w
  refine w.mono (fun _ h => h) (fun i H x H' hi _ y => ⟨y.1, ?_⟩)
  obtain ⟨_, k, e1⟩ := y
  unfold encS at e1
  rw [List.getElem?_map] at e1 ⊢
  cases e : l[i]? with
  | none =>
    rw [e] at e1
    cases e1
  | some q =>
    rw [e] at e1
    obtain ⟨rfl, rfl⟩ := Prod.mk.inj (Option.some.inj e1)
    rfl
/-! ### locks -/
theorem lock_back {H H' : Hp} {d : Addr} {u : HO} {od : Obj} (hd : H d = some u) (s : Same (upd H d (.frz od u)) H') : H' d = some (.frz od u) ∧ Same H (upd H' d u) := by
  refine ⟨s _ _ upd_same, fun b o e => ?_⟩
  by_cases h : b = d
  · subst h
    rw [hd] at e
    rw [upd_same, ← e]
  · rw [upd_ne h]
    exact s _ _ (by rw [upd_ne h]; exact e)
theorem lock_in {H : Hp} {d : Addr} {u : HO} {od : Obj} (b : Addr) (h : b ≠ d) : upd H d (.frz od u) b = H b := upd_ne h
end Rs


set_option Elab.async false
set_option linter.all false
set_option maxRecDepth 100000
set_option maxHeartbeats 2000000
/-! # F5: states; head_row, relations_of, variables_of, makes -/
namespace Rs
open PySem PySem.Spec PyProof.Rows L2
structure Rule where
  rel : Str
  ts : List Tm
  body : Body
  deriving DecidableEq
structure St where
  rels : List (Str × Int)
  facts : List (Str × List Row)
  rules : List (Str × Rule)
  dens : List (Str × Body)
def RuleAt (H : Hp) (p : Addr) (r : Rule) : Prop := ∃ a b, H p = some (.tup [.str r.rel, .ref a, .ref b]) ∧ TmsAt H a r.ts ∧ BodyAt H b r.body
theorem stays_rule : Stays RuleAt := ⟨fun s ⟨a, b, h1, h2, h3⟩ => ⟨a, b, s _ _ h1, stays_tms.go s h2, stays_body.go s h3⟩⟩
/-- a dict of things of a kind by name -/
def DictOf {α : Type} (R : Hp → Addr → α → Prop) (H : Hp) (p : Addr) (l : List (Str × α)) : Prop := ∃ ps : List (Str × Addr × α), H p = some (.dK (encS V.ref (ps.map fun q => (q.1, q.2.1)))) ∧ (ps.map fun q => (q.1, q.2.2)) = l ∧ ∀ q ∈ ps, R H q.2.1 q.2.2
theorem DictOf.same {α : Type} {R : Hp → Addr → α → Prop} (S : Stays R) {H H' : Hp} {p : Addr} {l : List (Str × α)} (s : Same H H') (h : DictOf R H p l) : DictOf R H' p l := by
  obtain ⟨ps, h1, h2, h3⟩ := h
  exact ⟨ps, s _ _ h1, h2, fun q hq => S.go s.t (h3 q hq)⟩
def stF (r f u d : Addr) : List (Str × V) := [("relations", .ref r), ("facts", .ref f), ("rules", .ref u), ("denials", .ref d)]
/-- the parts of a state -/
structure StP (C : Addr) (H : Hp) (p r f u d : Addr) (st : St) : Prop where
  ins : ∃ dx, H p = some (.ins C dx (stF r f u d))
  rels : H r = some (.dK (encS V.int st.rels))
  facts : RowsAt H f st.facts
  rules : DictOf RuleAt H u st.rules
  dens : DictOf BodyAt H d st.dens
def StAt (K : PySem.W.Frag) (H : Hp) (p : Addr) (st : St) : Prop := ∃ r f u d, StP (He.ga K "State") H p r f u d st
theorem StP.same {C : Addr} {H H' : Hp} {p r f u d : Addr} {st : St} (s : Same H H') (h : StP C H p r f u d st) : StP C H' p r f u d st := by
  obtain ⟨⟨dx, h1⟩, h2, h3, h4, h5⟩ := h
  exact ⟨⟨dx, s _ _ h1⟩, s _ _ h2, h3.same s, h4.same stays_rule s, h5.same stays_body s⟩
theorem StAt.same {K : PySem.W.Frag} {H H' : Hp} {p : Addr} {st : St} (s : Same H H') (h : StAt K H p st) : StAt K H' p st := by
  obtain ⟨r, f, u, d, h⟩ := h
  exact ⟨r, f, u, d, h.same s⟩
theorem stF_r (r f u d : Addr) : (stF r f u d).lookup ("relations" : Str) = some (.ref r) := by rfl
theorem stF_f (r f u d : Addr) : (stF r f u d).lookup ("facts" : Str) = some (.ref f) := by rfl
theorem stF_u (r f u d : Addr) : (stF r f u d).lookup ("rules" : Str) = some (.ref u) := by rfl
theorem stF_d (r f u d : Addr) : (stF r f u d).lookup ("denials" : Str) = some (.ref d) := by rfl
/-! ### head_row -/
def headM (ts : List Tm) (e : Envr) : Row := ts.map fun t => (vof t e).getD (.inl 0)
def spHead : Sp := fun vs H Q _ => ∃ (pt d : Addr) (ts : List Tm) (e : Envr), vs = [.ref pt, .ref d] ∧ TmsAt H pt ts ∧ EnvAt H d e ∧ ts.length ≤ 100 ∧ (∀ t ∈ ts, ∃ k, vof t e = some k) ∧ ∀ (H' : Hp) (p : Addr), Same H H' → RowH H' p (headM ts e) → Q (.ref p) H'
def PairB (H : Hp) (q : Addr) (x : Str × Bool) : Prop := H q = some (.tup [.str x.1, .bl x.2])
theorem stays_pairB : Stays PairB := ⟨fun s h => s _ _ h⟩
def litRel : Lit → Option (Str × Bool)
  | .fact r _ => some (r, false)
  | .not_ r _ => some (r, true)
  | .cnt _ r _ => some (r, true)
  | _ => none
def relsM (b : Body) : List (Str × Bool) := b.filterMap litRel
def spRels : Sp := fun vs H Q _ => ∃ (pb : Addr) (b : Body), vs = [.ref pb] ∧ BodyAt H pb b ∧ b.length ≤ 100 ∧ ∀ (H' : Hp) (p : Addr), Same H H' → H p = none → LstOf PairB H' p (relsM b) → Q (.ref p) H'
def varOf : Tm → Option Str
  | .var x => some x
  | _ => none
def varsM (ts : List Tm) : List Str := ts.filterMap varOf
def spVars : Sp := fun vs H Q _ => ∃ (pt : Addr) (ts : List Tm), vs = [.ref pt] ∧ TmsAt H pt ts ∧ ts.length ≤ 100 ∧ ∀ (H' : Hp) (p : Addr), Same H H' → H p = none → StrL H' p (varsM ts) → Q (.ref p) H'
section
variable {P : Program} {w : World} {K : PySem.W.Frag} {mg : Str → Option Value} {base : Heap}
theorem sc_head_row : FnScope ["terms", "values", "term"] ["terms", "values"] (defScope (topS 13)) := ⟨rfl, rfl, rfl, by decide +kernel, rfl, by decide +kernel, by decide +kernel⟩
theorem ok_head_row (T : Tx P K mg) : Cal P w K mg base CX0 2 "head_row" spHead := by
  have C1 := ok_value_of (w := w) (base := base) T
  refine cal_of T 11 13 rfl (by decide +kernel) sc_head_row (fun vs H Q E h => ?_) (fun _ _ _ _ _ _ us hl => match us, hl with | [_, _], _ => rfl) (fun cdv A outer s H vs Q E hr h => ?_)
  · obtain ⟨pt, d, ts, e, rfl, _⟩ := h
    rfl
  · obtain ⟨pt, d, ts, e, rfl, ⟨ps, hpt, rfl, hps⟩, he, hl, hb, q⟩ := h
    rw [List.length_map] at hl
    refine ⟨_, PSs.nox (pss_one (ps_ret (pe_callTy call_tuple_of (by rfl) (T.fr "tuple") (by decide +kernel) (pa_cons (pe_lc (own := [("term", 2)]) (g := gName 2) (tt := tYes) rfl sc_head_row.nd (pi_tup (pv 0)) (blkOk_by (own := [("term", 2)]) (N := ["terms", "values", "term"]) (sc := defScope (topS 13)) (by decide +kernel)) (fun _ _ _ _ _ => (pg_name (i := 2) sc_head_row.nd rfl (Or.inl rfl))) (fun _ _ _ _ _ => pts_nil) (fun _ _ _ _ _ => (pe_c C1 hr (pa_cons (pv 2) (pa_cons (pv 1) pa_nil))))) pa_nil)))), ?_⟩
    refine ⟨_, rfl, pt, rfl, ⟨_, SqT.of_H hpt⟩, fun D hD => lc_W (walks_tup (K := K) (l := ps) (f := fun q : Addr × Tm => V.ref q.1)) hD (fun H' s => SqT.of_H (s _ _ hpt)) (by omega) (fun H' acc pre => acc = (headM (pre.map (·.2)) e).map kV) rfl ?_ ?_⟩
    · rintro pre ⟨b, t⟩ post acc H' Nx No el s eD rfl hN _
      have hm : (b, t) ∈ ps := by rw [el]; simp
      obtain ⟨k, hk⟩ := hb t (List.mem_map_of_mem hm)
      refine ⟨rfl, _, rfl, _, rfl, b, d, t, e, k, rfl, s _ _ (hps _ hm), s _ _ he, hk, hN _ _ (Same.refl _) ?_⟩
      unfold headM
      simp [hk]
    · rintro H' acc s eD rfl
      refine ⟨D, _, rfl, .inl ⟨SqL.of_H eD, fun l nl => ?_⟩⟩
      exact q _ l (s.trans (same_new nl)) upd_same
theorem sc_relations_of : FnScope ["body", "found", "literal"] ["body"] (defScope (topS 14)) := ⟨rfl, rfl, rfl, by decide +kernel, rfl, by decide +kernel, by decide +kernel⟩
theorem push_pair {H Hx : Hp} {A TP : Addr} {ps : List (Addr × (Str × Bool))} {x : Str × Bool} (hA : Hx A = some (.lst (ps.map fun q => V.ref q.1))) (hp : ∀ q ∈ ps, PairB Hx q.1 q.2) (nT : Hx TP = none) :
    LstOf PairB (upd (upd Hx TP (.tup [.str x.1, .bl x.2])) A (.lst ((ps.map fun q => V.ref q.1) ++ [V.ref TP]))) A (ps.map (·.2) ++ [x]) := by
  have s1 := same_new (o := .tup [V.str x.1, V.bl x.2]) nT
  have t2 := sameT_lst (o := .lst ((ps.map fun q => V.ref q.1) ++ [V.ref TP])) (s1 _ _ hA)
  refine ⟨ps ++ [(TP, x)], by rw [upd_same]; simp, by simp, fun q hq => ?_⟩
  rcases List.mem_append.mp hq with hq | hq
  · exact stays_pairB.go (s1.t.trans t2) (hp q hq)
  · rw [List.mem_singleton.mp hq]
    exact t2 _ _ upd_same
theorem ok_relations_of (T : Tx P K mg) : Cal P w K mg base CX0 1 "relations_of" spRels := by
  refine cal_of T 12 14 rfl (by decide +kernel) sc_relations_of (fun vs H Q E h => ?_) (fun _ _ _ _ _ _ us hl => match us, hl with | [_], _ => rfl) (fun cdv A outer s H vs Q E hr h => ?_)
  · obtain ⟨pb, b, rfl, _⟩ := h
    rfl
  · obtain ⟨pb, b, rfl, ⟨ps, hpb, rfl, hps⟩, hl, q⟩ := h
    rw [List.length_map] at hl
    refine ⟨_, PSs.nox (pss_cons (ps_set (i := 1) sc_relations_of.nd rfl (Or.inl rfl) (pe_lst pa_nil))
    (pss_cons (ps_for PassesOwn.never rfl (pi_tup (pv 0)) (pg_name (i := 2) sc_relations_of.nd rfl (Or.inl rfl))
    (pss_one (ps_if (pt_cmpR op_in_seq (pe_ix ix_tup (pv 2) pe_int (fun _ _ => rfl)) (pe_tup (pa_cons pe_str (pa_cons pe_str pa_nil))) (by rfl)) (pss_one (ps_expr (pe_bm PySem.F.plainAttrs_list PySem.F.slot_list_append PySem.F.type_list_append mt_append (pv 1) (pa_cons (pe_tup (pa_cons (pe_ix ix_tup (pv 2) pe_int (fun _ _ => rfl)) (pa_cons (pe_cmpR op_eq (pe_ix ix_tup (pv 2) pe_int (fun _ _ => rfl)) pe_str (nomark _)) pa_nil))) pa_nil)))) (pss_one (ps_if (pt_cmpR op_eq (pe_ix ix_tup (pv 2) pe_int (fun _ _ => rfl)) pe_str (nomark _)) (pss_one (ps_expr (pe_bm PySem.F.plainAttrs_list PySem.F.slot_list_append PySem.F.type_list_append mt_append (pv 1) (pa_cons (pe_tup (pa_cons (pe_ix ix_tup (pv 2) pe_int (fun _ _ => rfl)) (pa_cons pe_bl pa_nil))) pa_nil)))) pss_nil)))))
    (pss_one (ps_ret (pv 1))))), ?_⟩
    refine ⟨Nat.zero_le _, fun F nF => ?_⟩
    have s0 := same_new (o := .lst []) nF
    refine ⟨_, rfl, pb, rfl, ⟨_, SqT.of_H (s0 _ _ hpb)⟩, for_W (walks_tup (K := K) (l := ps) (f := fun q : Addr × Lit => V.ref q.1)) (fun pre σ H' => ∃ v2, σ = [some (.ref pb), some (.ref F), v2] ∧ Same H H' ∧ LstOf PairB H' F (relsM (pre.map (·.2)))) ⟨none, rfl, s0, [], upd_same, rfl, fun q hq => by cases hq⟩ (fun pre σ H' ⟨_, _, sm, _⟩ => SqT.of_H (sm _ _ hpb)) ?_ ?_⟩
    · rintro pre ⟨lp, l⟩ post σ H' el ⟨v2, rfl, sm, ac, hA, hac, hw⟩
      have hlit : LitAt H' lp l := stays_lit.go sm.t (hps (lp, l) (by rw [el]; simp))
      have hsz : (ac.map fun q => V.ref q.1).length < sizeLine := by
        have q1 := congrArg List.length hac
        have q2 := List.length_filterMap_le litRel (pre.map (·.2))
        have q3 := congrArg List.length el
        rw [List.length_map] at q1 q2 ⊢
        rw [List.length_append, List.length_cons] at q3
        rw [sizeLine_eq]
        unfold relsM at q1
        omega
      have efm : relsM ((pre ++ [(lp, l)]).map (·.2)) = relsM (pre.map (·.2)) ++ (litRel l).toList := by
        unfold relsM
        rw [List.map_append, List.filterMap_append]
        cases hl : litRel l <;> simp [hl]
      -- append((rel, b)) behind what was laid
      have fin : ∀ (Hx : Hp) (x : Str × Bool), Same H' Hx → litRel l = some x → ∀ TP, Hx TP = none → ∃ v2, ([some (.ref pb), some (.ref F), some (.ref lp)] : L2.St) = [some (.ref pb), some (.ref F), v2] ∧ Same H (upd (upd Hx TP (.tup [.str x.1, .bl x.2])) F (.lst ((ac.map fun q => V.ref q.1) ++ [V.ref TP]))) ∧
          LstOf PairB (upd (upd Hx TP (.tup [.str x.1, .bl x.2])) F (.lst ((ac.map fun q => V.ref q.1) ++ [V.ref TP]))) F (relsM ((pre ++ [(lp, l)]).map (·.2))) := fun Hx x sx hx TP nTP => by
        refine ⟨_, rfl, same_but sm sx nF nTP, ?_⟩
        rw [efm, hx, Option.toList_some, ← hac]
        exact push_pair (H := Hx) (sx _ _ hA) (fun q hq => stays_pairB.go sx.t (hw q hq)) nTP
      have skip : ∀ Hx, Same H' Hx → litRel l = none → ∃ v2, ([some (.ref pb), some (.ref F), some (.ref lp)] : L2.St) = [some (.ref pb), some (.ref F), v2] ∧ Same H Hx ∧ LstOf PairB Hx F (relsM ((pre ++ [(lp, l)]).map (·.2))) := fun Hx sx hx => by
        refine ⟨_, rfl, sm.trans sx, ?_⟩
        rw [efm, hx, Option.toList_none, List.append_nil, ← hac]
        exact LstOf.same stays_pairB sx ⟨ac, hA, rfl, hw⟩
      cases l with
      | fact r ts =>
        obtain ⟨a, ha, _⟩ := hlit
        refine ⟨_, rfl, lp, _, 0, _, rfl, rfl, SqT.of_H ha, atI_nat rfl, by show 2 ≤ sizeLine; decide, fun T1 n1 => ?_⟩
        have s1 := same_new (o := .tup [V.str "fact", V.str "not"]) n1
        refine ⟨T1, _, rfl, .inr (SqT.of_H upd_same), rfl, by decide +kernel, true, congrArg V.bl (by decide +kernel), ?_⟩
        refine iteT ⟨_, rfl, .inl ⟨rfl, _, SqL.of_H (s1 _ _ hA)⟩, _, rfl, lp, _, 1, _, rfl, rfl, SqT.of_H (s1 _ _ ha), atI_nat rfl, _, rfl, lp, _, 0, _, rfl, rfl, SqT.of_H (s1 _ _ ha), atI_nat rfl, rfl, by show 2 ≤ sizeLine; decide, fun TP nTP => ?_⟩
        have n2 : decide (V.str "fact" = V.str "not") = false := dec_str_ne (by decide +kernel)
        refine ⟨F, _, _, rfl, rfl, (same_new nTP) _ _ (s1 _ _ hA), hsz, ?_⟩
        rw [n2]
        exact fin _ (r, false) s1 rfl TP nTP
      | not_ r ts =>
        obtain ⟨a, ha, _⟩ := hlit
        refine ⟨_, rfl, lp, _, 0, _, rfl, rfl, SqT.of_H ha, atI_nat rfl, by show 2 ≤ sizeLine; decide, fun T1 n1 => ?_⟩
        have s1 := same_new (o := .tup [V.str "fact", V.str "not"]) n1
        refine ⟨T1, _, rfl, .inr (SqT.of_H upd_same), rfl, by decide +kernel, true, congrArg V.bl (by decide +kernel), ?_⟩
        refine iteT ⟨_, rfl, .inl ⟨rfl, _, SqL.of_H (s1 _ _ hA)⟩, _, rfl, lp, _, 1, _, rfl, rfl, SqT.of_H (s1 _ _ ha), atI_nat rfl, _, rfl, lp, _, 0, _, rfl, rfl, SqT.of_H (s1 _ _ ha), atI_nat rfl, rfl, by show 2 ≤ sizeLine; decide, fun TP nTP => ?_⟩
        have n2 : decide (V.str "not" = V.str "not") = true := decide_eq_true rfl
        refine ⟨F, _, _, rfl, rfl, (same_new nTP) _ _ (s1 _ _ hA), hsz, ?_⟩
        rw [n2]
        exact fin _ (r, true) s1 rfl TP nTP
      | cnt v r ts =>
        obtain ⟨a, ha, _⟩ := hlit
        refine ⟨_, rfl, lp, _, 0, _, rfl, rfl, SqT.of_H ha, atI_nat rfl, by show 2 ≤ sizeLine; decide, fun T1 n1 => ?_⟩
        have s1 := same_new (o := .tup [V.str "fact", V.str "not"]) n1
        refine ⟨T1, _, rfl, .inr (SqT.of_H upd_same), rfl, by decide +kernel, false, congrArg V.bl (by decide +kernel), ?_⟩
        have n2 : decide (V.str "count" = V.str "count") = true := decide_eq_true rfl
        refine iteF ⟨_, rfl, lp, _, 0, _, rfl, rfl, SqT.of_H (s1 _ _ ha), atI_nat rfl, rfl, true, congrArg V.bl n2, ?_⟩
        refine iteT ⟨_, rfl, .inl ⟨rfl, _, SqL.of_H (s1 _ _ hA)⟩, _, rfl, lp, _, 2, _, rfl, rfl, SqT.of_H (s1 _ _ ha), atI_nat rfl, by show 2 ≤ sizeLine; decide, fun TP nTP => ?_⟩
        refine ⟨F, _, _, rfl, rfl, (same_new nTP) _ _ (s1 _ _ hA), hsz, ?_⟩
        exact fin _ (r, true) s1 rfl TP nTP
      | cmp op x y =>
        obtain ⟨a, b, ha, _⟩ := hlit
        refine ⟨_, rfl, lp, _, 0, _, rfl, rfl, SqT.of_H ha, atI_nat rfl, by show 2 ≤ sizeLine; decide, fun T1 n1 => ?_⟩
        have s1 := same_new (o := .tup [V.str "fact", V.str "not"]) n1
        refine ⟨T1, _, rfl, .inr (SqT.of_H upd_same), rfl, by decide +kernel, false, congrArg V.bl (by decide +kernel), ?_⟩
        have n2 : decide (V.str "compare" = V.str "count") = false := dec_str_ne (by decide +kernel)
        refine iteF ⟨_, rfl, lp, _, 0, _, rfl, rfl, SqT.of_H (s1 _ _ ha), atI_nat rfl, rfl, false, congrArg V.bl n2, ?_⟩
        exact iteF (skip _ s1 rfl)
      | is_ v op x y =>
        obtain ⟨a, b, ha, _⟩ := hlit
        refine ⟨_, rfl, lp, _, 0, _, rfl, rfl, SqT.of_H ha, atI_nat rfl, by show 2 ≤ sizeLine; decide, fun T1 n1 => ?_⟩
        have s1 := same_new (o := .tup [V.str "fact", V.str "not"]) n1
        refine ⟨T1, _, rfl, .inr (SqT.of_H upd_same), rfl, by decide +kernel, false, congrArg V.bl (by decide +kernel), ?_⟩
        have n2 : decide (V.str "is" = V.str "count") = false := dec_str_ne (by decide +kernel)
        refine iteF ⟨_, rfl, lp, _, 0, _, rfl, rfl, SqT.of_H (s1 _ _ ha), atI_nat rfl, rfl, false, congrArg V.bl n2, ?_⟩
        exact iteF (skip _ s1 rfl)
    · rintro σ H' ⟨v2, rfl, sm, hL⟩
      exact ⟨_, rfl, q H' F sm nF hL⟩
end
end Rs


set_option Elab.async false
set_option linter.all false
set_option maxRecDepth 100000
set_option maxHeartbeats 2000000
/-! # M3: sorted names are a function -/
namespace Rs
open PySem PySem.Spec PyProof.Rows L2
def leS (a b : Str) : Bool := !ltCps b.cps.toList a.cps.toList
theorem leS_iff (a b : Str) : leS a b = true ↔ a.cps.toList ≤ b.cps.toList := by
  unfold leS
  rw [ltCps_eq]
  show (!decide (b.cps.toList < a.cps.toList)) = true ↔ ¬ (b.cps.toList < a.cps.toList)
  simp
theorem leS_trans (a b c : Str) (h1 : leS a b = true) (h2 : leS b c = true) : leS a c = true := by
  rw [leS_iff] at *
  exact List.le_trans h1 h2
theorem leS_total (a b : Str) : (leS a b || leS b a) = true := by
  rw [Bool.or_eq_true, leS_iff, leS_iff]
  exact List.le_total _ _
theorem leS_anti {a b : Str} (h1 : leS a b = true) (h2 : leS b a = true) : a = b := by
  rw [leS_iff] at *
  exact PyProof.Rows.ext_toList (List.le_antisymm h1 h2)
def sortS (l : List Str) : List Str := l.mergeSort leS
theorem sortS_perm (l : List Str) : (sortS l).Perm l := List.mergeSort_perm _ _
theorem rising_all (l : List Str) : ∀ p : Str, risingS p l = true → (∀ x, x ∈ l → leS p x = true) ∧ List.Pairwise (fun a b => leS a b = true) l := by
  induction l with
  | nil =>
    intro p _
    refine ⟨fun x hx => ?_, List.Pairwise.nil⟩
    cases hx
  | cons x r ih =>
    intro p h
    have h' : (leS p x && risingS x r) = true := h
    rw [Bool.and_eq_true] at h'
    obtain ⟨q1, q2⟩ := ih x h'.2
    refine ⟨fun y hy => ?_, List.Pairwise.cons q1 q2⟩
    rcases List.mem_cons.mp hy with rfl | hy
    · exact h'.1
    · exact leS_trans _ _ _ h'.1 (q1 y hy)
theorem sortedS_pw {l : List Str} (h : sortedS l = true) : l.Pairwise (fun a b => leS a b = true) := by
  cases l with
  | nil => exact List.Pairwise.nil
  | cons x r =>
    obtain ⟨q1, q2⟩ := rising_all r x h
    exact List.Pairwise.cons q1 q2
theorem sorted_is {ys ks : List Str} (hp : ys.Perm ks) (hs : sortedS ys = true) : ys = sortS ks :=
  List.Perm.eq_of_pairwise (fun a b _ _ h1 h2 => leS_anti h1 h2) (sortedS_pw hs) (List.pairwise_mergeSort leS_trans leS_total ks) (hp.trans (sortS_perm ks).symm)
theorem sortS_of_perm {a b : List Str} (h : a.Perm b) : sortS a = sortS b :=
  List.Perm.eq_of_pairwise (fun a b _ _ h1 h2 => leS_anti h1 h2) (List.pairwise_mergeSort leS_trans leS_total a) (List.pairwise_mergeSort leS_trans leS_total b) ((sortS_perm a).trans (h.trans (sortS_perm b).symm))
theorem sortS_fix {a : List Str} (h : a.Pairwise (fun a b => leS a b = true)) : sortS a = a :=
  List.Perm.eq_of_pairwise (fun a b _ _ h1 h2 => leS_anti h1 h2) (List.pairwise_mergeSort leS_trans leS_total a) h (sortS_perm a)
theorem sortS_pw (a : List Str) : (sortS a).Pairwise (fun a b => leS a b = true) := List.pairwise_mergeSort leS_trans leS_total a
theorem sortS_len (a : List Str) : (sortS a).length = a.length := (sortS_perm a).length_eq
theorem mem_sortS {a : List Str} {x : Str} : x ∈ sortS a ↔ x ∈ a := (sortS_perm a).mem_iff
/-- sorted(d), d's keys texts -/
theorem encS_keys {β : Type} (f : β → V) (l : List (Str × β)) : (encS f l).map (·.1) = (l.map (·.1)).map Sum.inr := by
  unfold encS
  rw [List.map_map, List.map_map]
  rfl
theorem inV_str (x : Str) (l : List Str) : inV (.str x) (l.map V.str) = decide (x ∈ l) := by
  unfold inV
  rw [List.any_map]
  by_cases h : x ∈ l
  · rw [decide_eq_true h, List.any_eq_true]
    refine ⟨x, h, ?_⟩
    show eqV (.str x) (.str x) = true
    simp [eqV]
  · rw [decide_eq_false h, List.any_eq_false]
    intro y hy z
    have z' : eqV (.str y) (.str x) = true := z
    have e : y = x := by simpa [eqV] using z'
    exact h (e ▸ hy)
theorem flat_str (l : List Str) : (l.map V.str).all flatV = true := by
  rw [List.all_eq_true]
  intro v hv
  obtain ⟨y, _, rfl⟩ := List.mem_map.mp hv
  rfl
end Rs


set_option Elab.async false
set_option linter.all false
set_option maxRecDepth 100000
set_option maxHeartbeats 2000000
/-! # F6: variables_of, makes, columns, check_atom, check_terms -/
namespace Rs
open PySem PySem.Spec PyProof.Rows L2
def litTs : Lit → List Tm
  | .fact _ ts => ts
  | .not_ _ ts => ts
  | .cnt _ _ ts => ts
  | _ => []
def BodyOk (b : Body) : Prop := b.length ≤ 100 ∧ ∀ l ∈ b, (litTs l).length ≤ 100
def makesGo : Body → List Str → Bool
  | [], _ => false
  | .fact _ ts :: ls, kn => makesGo ls (kn ++ varsM ts)
  | .cnt v _ _ :: ls, kn => makesGo ls (kn ++ [v])
  | .is_ v _ _ _ :: ls, kn => if v ∈ kn then makesGo ls kn else true
  | .not_ _ _ :: ls, kn => makesGo ls kn
  | .cmp _ _ _ :: ls, kn => makesGo ls kn
def makesM (b : Body) : Bool := makesGo b []
def spMakes : Sp := fun vs H Q _ => ∃ (pb : Addr) (b : Body), vs = [.ref pb] ∧ BodyAt H pb b ∧ BodyOk b ∧ ∀ H', Same H H' → Q (.bl (makesM b)) H'
theorem LitAt.kind {H : Hp} {p : Addr} {l : Lit} (h : LitAt H p l) : ∃ vs, H p = some (.tup (.str (match l with | .fact _ _ => "fact" | .not_ _ _ => "not" | .cmp _ _ _ => "compare" | .is_ _ _ _ _ => "is" | .cnt _ _ _ => "count") :: vs)) := by
  cases l with
  | fact r ts =>
    obtain ⟨a, h, _⟩ := h
    exact ⟨_, h⟩
  | not_ r ts =>
    obtain ⟨a, h, _⟩ := h
    exact ⟨_, h⟩
  | cmp op a b =>
    obtain ⟨a, b, h, _⟩ := h
    exact ⟨_, h⟩
  | is_ v op a b =>
    obtain ⟨a, b, h, _⟩ := h
    exact ⟨_, h⟩
  | cnt v r ts =>
    obtain ⟨a, h, _⟩ := h
    exact ⟨_, h⟩
theorem strL_push {H : Hp} {F : Addr} {l : List Str} {x : Str} : StrL (upd H F (.lst (l.map V.str ++ [V.str x]))) F (l ++ [x]) := by
  show upd _ _ _ _ = _
  rw [upd_same]
  simp
section
variable {P : Program} {w : World} {K : PySem.W.Frag} {mg : Str → Option Value} {base : Heap}
theorem sc_variables_of : FnScope ["terms", "term"] ["terms"] (defScope (topS 23)) := ⟨rfl, rfl, rfl, by decide +kernel, rfl, by decide +kernel, by decide +kernel⟩
theorem ok_variables_of (T : Tx P K mg) : Cal P w K mg base CX0 1 "variables_of" spVars := by
  refine cal_of T 16 23 rfl (by decide +kernel) sc_variables_of (fun vs H Q E h => ?_) (fun _ _ _ _ _ _ us hl => match us, hl with | [_], _ => rfl) (fun cdv A outer s H vs Q E hr h => ?_)
  · obtain ⟨pt, ts, rfl, _⟩ := h
    rfl
  · obtain ⟨pt, ts, rfl, ⟨ps, hpt, rfl, hps⟩, hl, q⟩ := h
    rw [List.length_map] at hl
    refine ⟨_, PSs.nox (pss_one (ps_ret (pe_lc (own := [("term", 1)]) (g := gName 1) (tt := _) rfl sc_variables_of.nd (pi_tup (pv 0)) (blkOk_by (own := [("term", 1)]) (N := ["terms", "term"]) (sc := defScope (topS 23)) (by decide +kernel)) (fun _ _ _ _ _ => (pg_name (i := 1) sc_variables_of.nd rfl (Or.inl rfl))) (fun _ _ _ _ _ => (pts_one (pt_cmpR op_eq (pe_ix (show IxR _ (rIxT K) from ix_tup) (pv 1) pe_int (fun _ _ => rfl)) pe_str (nomark _)))) (fun _ _ _ _ _ => (pe_ix (show IxR _ (rIxT K) from ix_tup) (pv 1) pe_int (fun _ _ => rfl)))))), ?_⟩
    refine ⟨_, rfl, pt, rfl, ⟨_, SqT.of_H hpt⟩, fun D hD => lc_W (walks_tup (K := K) (l := ps) (f := fun q : Addr × Tm => V.ref q.1)) hD (fun H' s => SqT.of_H (s _ _ hpt)) (by omega) (fun H' acc pre => acc = (varsM (pre.map (·.2))).map V.str) rfl ?_ ?_⟩
    · rintro pre ⟨b, t⟩ post acc H' Nx No el s eD rfl hN hNo
      have ht : TmAt H' b t := s _ _ (hps (b, t) (by rw [el]; simp))
      have ev : varsM ((pre ++ [(b, t)]).map (·.2)) = varsM (pre.map (·.2)) ++ (varOf t).toList := by
        unfold varsM
        rw [List.map_append, List.filterMap_append]
        cases hv : varOf t <;> simp [hv]
      cases t with
      | var x =>
        have n1 : decide (V.str "variable" = V.str "variable") = true := decide_eq_true rfl
        refine ⟨rfl, _, rfl, b, _, 0, _, rfl, rfl, SqT.of_H ht, atI_nat rfl, rfl, true, congrArg V.bl n1, ?_⟩
        refine iteT ⟨_, rfl, b, _, 1, _, rfl, rfl, SqT.of_H ht, atI_nat rfl, hN _ _ (Same.refl _) ?_⟩
        rw [ev, List.map_append]
        rfl
      | val k =>
        have n1 : decide (V.str "value" = V.str "variable") = false := dec_str_ne (by decide +kernel)
        refine ⟨rfl, _, rfl, b, _, 0, _, rfl, rfl, SqT.of_H ht, atI_nat rfl, rfl, false, congrArg V.bl n1, ?_⟩
        refine iteF (hNo _ (Same.refl _) ?_)
        rw [ev]
        simp [varOf]
      | any =>
        have n1 : decide (V.str "any" = V.str "variable") = false := dec_str_ne (by decide +kernel)
        refine ⟨rfl, _, rfl, b, _, 0, _, rfl, rfl, SqT.of_H ht, atI_nat rfl, rfl, false, congrArg V.bl n1, ?_⟩
        refine iteF (hNo _ (Same.refl _) ?_)
        rw [ev]
        simp [varOf]
    · rintro H' acc s eD rfl
      exact q H' D s hD eD
theorem sc_makes : FnScope ["body", "known", "literal"] ["body"] (defScope (topS 26)) := ⟨rfl, rfl, rfl, by decide +kernel, rfl, by decide +kernel, by decide +kernel⟩
theorem ok_makes (T : Tx P K mg) : Cal P w K mg base CX0 2 "makes" spMakes := by
  have C1 := ok_variables_of (w := w) (base := base) T
  refine cal_of T 19 26 rfl (by decide +kernel) sc_makes (fun vs H Q E h => ?_) (fun _ _ _ _ _ _ us hl => match us, hl with | [_], _ => rfl) (fun cdv A outer s H vs Q E hr h => ?_)
  · obtain ⟨pb, b, rfl, _⟩ := h
    rfl
  · obtain ⟨pb, b, rfl, ⟨ps, hpb, rfl, hps⟩, ⟨hl, hlt⟩, q⟩ := h
    rw [List.length_map] at hl
    refine ⟨_, PSs.nox (pss_cons (ps_set (i := 1) sc_makes.nd rfl (Or.inl rfl) (pe_lst pa_nil))
    (pss_cons (ps_for PassesOwn.never rfl (pi_tup (pv 0)) (pg_name (i := 2) sc_makes.nd rfl (Or.inl rfl))
    (pss_one (ps_if (pt_cmpR op_eq (pe_ix ix_tup (pv 2) pe_int (fun _ _ => rfl)) pe_str (nomark _)) (pss_one (ps_expr (pe_bm PySem.F.plainAttrs_list PySem.F.slot_list_extend PySem.F.type_list_extend mt_extend (pv 1) (pa_cons (pe_c C1 hr (pa_cons (pe_ix ix_tup (pv 2) pe_int (fun _ _ => rfl)) pa_nil)) pa_nil)))) (pss_one (ps_if (pt_cmpR op_eq (pe_ix ix_tup (pv 2) pe_int (fun _ _ => rfl)) pe_str (nomark _)) (pss_one (ps_expr (pe_bm PySem.F.plainAttrs_list PySem.F.slot_list_append PySem.F.type_list_append mt_append (pv 1) (pa_cons (pe_ix ix_tup (pv 2) pe_int (fun _ _ => rfl)) pa_nil)))) (pss_one (ps_if (pt_cmpR op_eq (pe_ix ix_tup (pv 2) pe_int (fun _ _ => rfl)) pe_str (nomark _)) (pss_one (ps_if (pt_cmpR op_notIn_seq (pe_ix ix_tup (pv 2) pe_int (fun _ _ => rfl)) (pv 1) (by rfl)) (pss_one (ps_ret pe_bl)) pss_nil)) pss_nil)))))))
    (pss_one (ps_ret pe_bl)))), ?_⟩
    refine ⟨Nat.zero_le _, fun F nF => ?_⟩
    have s0 := same_new (o := .lst []) nF
    refine ⟨_, rfl, pb, rfl, ⟨_, SqT.of_H (s0 _ _ hpb)⟩, for_W (walks_tup (K := K) (l := ps) (f := fun q : Addr × Lit => V.ref q.1)) (fun pre σ H' => ∃ v2 kn, σ = [some (.ref pb), some (.ref F), v2] ∧ Same H H' ∧ H' F = some (.lst (kn.map V.str)) ∧ kn.length ≤ 101 * pre.length ∧ ∀ post, ps = pre ++ post → makesM (ps.map (·.2)) = makesGo (post.map (·.2)) kn)
      ⟨none, [], rfl, s0, upd_same, Nat.zero_le _, fun post e => by rw [e]; rfl⟩ (fun pre σ H' ⟨_, _, _, sm, _⟩ => SqT.of_H (sm _ _ hpb)) ?_ ?_⟩
    · rintro pre ⟨lp, l⟩ post σ H' el ⟨v2, kn, rfl, sm, hA, hkn, hgo⟩
      have hg := hgo _ el
      have hlit : LitAt H' lp l := stays_lit.go sm.t (hps (lp, l) (by rw [el]; simp))
      have hlts : (litTs l).length ≤ 100 := hlt l (List.mem_map_of_mem (f := (·.2)) (a := (lp, l)) (by rw [el]; simp))
      have npre : pre.length < 100 := by
        have := congrArg List.length el
        rw [List.length_append, List.length_cons] at this
        omega
      have nxt : ∀ (z : Bool) (kn' : List Str), makesM (ps.map (·.2)) = makesGo (post.map (·.2)) kn' → ∀ post2, ps = (pre ++ [(lp, l)]) ++ post2 → makesM (ps.map (·.2)) = makesGo (post2.map (·.2)) kn' := fun _ kn' e post2 e2 => by
        have e3 : post2 = post := by
          rw [el, List.append_assoc] at e2
          exact ((List.cons.inj (List.append_cancel_left e2)).2).symm
        rw [e3]
        exact e
      have sF : ∀ (Hx : Hp) (o : HO), Same H' Hx → Same H (upd Hx F o) := fun Hx o sx b u e => by
        rw [upd_ne (ne_of_none e nF)]
        exact sx _ _ (sm _ _ e)
      cases l with
      | fact r ts =>
        obtain ⟨a, ha, hts⟩ := hlit
        have n1 : decide (V.str "fact" = V.str "fact") = true := decide_eq_true rfl
        refine ⟨_, rfl, lp, _, 0, _, rfl, rfl, SqT.of_H ha, atI_nat rfl, rfl, true, congrArg V.bl n1, ?_⟩
        refine iteT ⟨_, rfl, .inl ⟨rfl, _, SqL.of_H hA⟩, _, rfl, lp, _, 2, _, rfl, rfl, SqT.of_H ha, atI_nat rfl, a, ts, rfl, hts, hlts, fun H4 b s4 n4 r4 => ?_⟩
        have lv : (varsM ts).length ≤ 100 := Nat.le_trans (List.length_filterMap_le _ _) hlts
        refine ⟨F, b, _, _, rfl, rfl, s4 _ _ hA, r4, ?_, ?_⟩
        · rw [List.length_map, List.length_map, sizeLine_eq]
          omega
        · refine ⟨_, kn ++ varsM ts, rfl, sF _ _ s4, by rw [upd_same, List.map_append], ?_, nxt true _ hg⟩
          rw [List.length_append, List.length_append, List.length_singleton]
          omega
      | cnt v r ts =>
        obtain ⟨a, ha, hts⟩ := hlit
        have n1 : decide (V.str "count" = V.str "fact") = false := dec_str_ne (by decide +kernel)
        have n2 : decide (V.str "count" = V.str "count") = true := decide_eq_true rfl
        refine ⟨_, rfl, lp, _, 0, _, rfl, rfl, SqT.of_H ha, atI_nat rfl, rfl, false, congrArg V.bl n1, ?_⟩
        refine iteF ⟨_, rfl, lp, _, 0, _, rfl, rfl, SqT.of_H ha, atI_nat rfl, rfl, true, congrArg V.bl n2, ?_⟩
        refine iteT ⟨_, rfl, .inl ⟨rfl, _, SqL.of_H hA⟩, _, rfl, lp, _, 1, _, rfl, rfl, SqT.of_H ha, atI_nat rfl, ?_⟩
        refine ⟨F, _, _, rfl, rfl, hA, ?_, ?_⟩
        · rw [List.length_map, sizeLine_eq]
          omega
        · refine ⟨_, kn ++ [v], rfl, sF _ _ (Same.refl _), by rw [upd_same, List.map_append]; rfl, ?_, nxt true _ hg⟩
          rw [List.length_append, List.length_append, List.length_singleton, List.length_singleton]
          omega
      | is_ v op x y =>
        obtain ⟨a, b, ha, _⟩ := hlit
        have n1 : decide (V.str "is" = V.str "fact") = false := dec_str_ne (by decide +kernel)
        have n2 : decide (V.str "is" = V.str "count") = false := dec_str_ne (by decide +kernel)
        have n3 : decide (V.str "is" = V.str "is") = true := decide_eq_true rfl
        refine ⟨_, rfl, lp, _, 0, _, rfl, rfl, SqT.of_H ha, atI_nat rfl, rfl, false, congrArg V.bl n1, ?_⟩
        refine iteF ⟨_, rfl, lp, _, 0, _, rfl, rfl, SqT.of_H ha, atI_nat rfl, rfl, false, congrArg V.bl n2, ?_⟩
        refine iteF ⟨_, rfl, lp, _, 0, _, rfl, rfl, SqT.of_H ha, atI_nat rfl, rfl, true, congrArg V.bl n3, ?_⟩
        refine iteT ⟨_, rfl, lp, _, 1, _, rfl, rfl, SqT.of_H ha, atI_nat rfl, _, rfl, F, _, rfl, .inl (SqL.of_H hA), rfl, flat_str kn, _, rfl, ?_⟩
        have eg : makesM (ps.map (·.2)) = if v ∈ kn then makesGo (post.map (·.2)) kn else true := hg
        show if (if true = true then !inV (V.str v) (kn.map V.str) else inV (V.str v) (kn.map V.str)) = true then _ else _
        rw [if_pos rfl, inV_str]
        by_cases c : v ∈ kn
        · rw [decide_eq_true c]
          rw [if_pos c] at eg
          refine iteF ⟨_, kn, rfl, sm, hA, ?_, nxt true _ eg⟩
          rw [List.length_append, List.length_singleton]
          omega
        · rw [decide_eq_false c]
          rw [if_neg c] at eg
          refine iteT ?_
          have := q H' sm
          rw [eg] at this
          exact this
      | not_ r ts =>
        obtain ⟨a, ha, _⟩ := hlit
        have n1 : decide (V.str "not" = V.str "fact") = false := dec_str_ne (by decide +kernel)
        have n2 : decide (V.str "not" = V.str "count") = false := dec_str_ne (by decide +kernel)
        have n3 : decide (V.str "not" = V.str "is") = false := dec_str_ne (by decide +kernel)
        refine ⟨_, rfl, lp, _, 0, _, rfl, rfl, SqT.of_H ha, atI_nat rfl, rfl, false, congrArg V.bl n1, ?_⟩
        refine iteF ⟨_, rfl, lp, _, 0, _, rfl, rfl, SqT.of_H ha, atI_nat rfl, rfl, false, congrArg V.bl n2, ?_⟩
        refine iteF ⟨_, rfl, lp, _, 0, _, rfl, rfl, SqT.of_H ha, atI_nat rfl, rfl, false, congrArg V.bl n3, ?_⟩
        refine iteF ⟨_, kn, rfl, sm, hA, ?_, nxt true _ hg⟩
        rw [List.length_append, List.length_singleton]
        omega
      | cmp op x y =>
        obtain ⟨a, b, ha, _⟩ := hlit
        have n1 : decide (V.str "compare" = V.str "fact") = false := dec_str_ne (by decide +kernel)
        have n2 : decide (V.str "compare" = V.str "count") = false := dec_str_ne (by decide +kernel)
        have n3 : decide (V.str "compare" = V.str "is") = false := dec_str_ne (by decide +kernel)
        refine ⟨_, rfl, lp, _, 0, _, rfl, rfl, SqT.of_H ha, atI_nat rfl, rfl, false, congrArg V.bl n1, ?_⟩
        refine iteF ⟨_, rfl, lp, _, 0, _, rfl, rfl, SqT.of_H ha, atI_nat rfl, rfl, false, congrArg V.bl n2, ?_⟩
        refine iteF ⟨_, rfl, lp, _, 0, _, rfl, rfl, SqT.of_H ha, atI_nat rfl, rfl, false, congrArg V.bl n3, ?_⟩
        refine iteF ⟨_, kn, rfl, sm, hA, ?_, nxt true _ hg⟩
        rw [List.length_append, List.length_singleton]
        omega
    · rintro σ H' ⟨v2, kn, rfl, sm, hA, hkn, hgo⟩
      have hg : makesM (ps.map (·.2)) = false := hgo [] (by rw [List.append_nil])
      have := q H' sm
      rw [hg] at this
      exact this
end
end Rs


set_option Elab.async false
set_option linter.all false
set_option maxRecDepth 100000
set_option maxHeartbeats 2000000
/-! # F7: columns, check_atom, check_terms -/
namespace Rs
open PySem PySem.Spec PyProof.Rows L2
def colsGo (rules : List (Str × Rule)) (r : Str) : List Str → Option Int
  | [] => none
  | n :: ns => match look rules n with
    | some ru => if ru.rel = r then some (ru.ts.length : Int) else colsGo rules r ns
    | none => colsGo rules r ns
def colsM (st : St) (r : Str) : Option Int := match look st.rels r with
  | some w => some w
  | none => colsGo st.rules r (sortS (st.rules.map (·.1)))
def oI : Option Int → V
  | none => .non
  | some i => .int i
def spCols (K : PySem.W.Frag) : Sp := fun vs H Q _ => ∃ (p : Addr) (st : St) (r : Str), vs = [.ref p, .str r] ∧ StAt K H p st ∧ st.rules.length < 64 ∧ ∀ H', Same H H' → Q (oI (colsM st r)) H'
def atomM (st : St) (r : Str) (ts : List Tm) : Bool := match colsM st r with
  | some i => decide (i = (ts.length : Int))
  | none => false
/-- how the defs that check raise -/
abbrev Refuses (K : PySem.W.Frag) (E : XK) (H : Hp) : Prop := ∀ (H' : Hp) (d : Addr), Same H H' → E (.ref (He.ga K "Refused")) (some d) H'
def spAtom (K : PySem.W.Frag) : Sp := fun vs H Q E => ∃ (p pt : Addr) (st : St) (r : Str) (ts : List Tm), vs = [.ref p, .str r, .ref pt] ∧ StAt K H p st ∧ st.rules.length < 64 ∧ TmsAt H pt ts ∧
  (atomM st r ts = false → Refuses K E H) ∧ (atomM st r ts = true → ∀ H', Same H H' → Q .non H')
def okTm (kn : List Str) (any : Bool) : Tm → Bool
  | .any => any
  | .var x => decide (x ∈ kn)
  | .val _ => true
def okTms (ts : List Tm) (kn : List Str) (any : Bool) : Bool := ts.all (okTm kn any)
def spTms (K : PySem.W.Frag) : Sp := fun vs H Q E => ∃ (pt pk : Addr) (ts : List Tm) (kn : List Str) (any : Bool), vs = [.ref pt, .ref pk, .bl any] ∧ TmsAt H pt ts ∧ (StrL H pk kn ∨ H pk = some (.tup (kn.map V.str))) ∧
  (okTms ts kn any = false → Refuses K E H) ∧ (okTms ts kn any = true → ∀ H', Same H H' → Q .non H')
section
variable {P : Program} {w : World} {K : PySem.W.Frag} {mg : Str → Option Value} {base : Heap}
theorem sc_columns : FnScope ["state", "relation", "name"] ["state", "relation"] (defScope (topS 20)) := ⟨rfl, rfl, rfl, by decide +kernel, rfl, by decide +kernel, by decide +kernel⟩
theorem ok_columns (T : Tx P K mg) : Cal P w K mg base CX0 1 "columns" (spCols K) := by
  refine cal_of T 13 20 rfl (by decide +kernel) sc_columns (fun vs H Q E h => ?_) (fun _ _ _ _ _ _ us hl => match us, hl with | [_, _], _ => rfl) (fun cdv A outer s H vs Q E hr h => ?_)
  · obtain ⟨p, st, r, rfl, _⟩ := h
    rfl
  · obtain ⟨p, st, r, rfl, ⟨ra, fa, ua, da, ⟨dx, hi⟩, hrel, hfac, ⟨us, hu, eu, hus⟩, hden⟩, h64, q⟩ := h
    refine ⟨_, PSs.nox (pss_cons (ps_if (pt_cmp (pc_din (hu_of hr) (pv 1) (pe_fld (pv 0) rfl))) (pss_one (ps_ret (pe_dget (hu_of hr) (pe_fld (pv 0) rfl) (pv 1) (fun _ _ => rfl)))) pss_nil)
    (pss_cons (ps_for PassesOwn.never rfl (pi_list (pe_callB (call_sortedD rfl) (by rfl) (T.fr "sorted") (by decide +kernel) (pa_cons (pe_fld (pv 0) rfl) pa_nil))) (pg_name (i := 2) sc_columns.nd rfl (Or.inl rfl))
    (pss_one (ps_if (pt_cmpR op_eq (pe_ix ix_tup (pe_dget (hu_of hr) (pe_fld (pv 0) rfl) (pv 2) (fun _ _ => rfl)) pe_int (fun _ _ => rfl)) (pv 1) (nomark _)) (pss_one (ps_ret (pe_callB call_len (by rfl) (T.fr "len") PySem.boot_len (pa_cons (pe_ix ix_tup (pe_dget (hu_of hr) (pe_fld (pv 0) rfl) (pv 2) (fun _ _ => rfl)) pe_int (fun _ _ => rfl)) pa_nil)))) pss_nil)))
    (pss_one (ps_ret pe_non)))), ?_⟩
    refine ⟨_, rfl, _, rfl, p, _, dx, _, _, rfl, hi, T.cl, T.na "relations", stF_r ra fa ua da, ra, _, rfl, dgetS' r (.inl hrel), _, rfl, ?_⟩
    unfold colsM at q
    cases hx : look st.rels r with
    | some i =>
      rw [hx] at q
      refine iteT ⟨_, rfl, p, _, dx, _, _, rfl, hi, T.cl, T.na "relations", stF_r ra fa ua da, _, rfl, ra, _, rfl, dgetS (.inl hrel) hx, q H (Same.refl H)⟩
    | none =>
      rw [hx] at q
      refine iteF ⟨_, rfl, p, _, dx, _, _, rfl, hi, T.cl, T.na "rules", stF_u ra fa ua da, ua, _, us.map (·.1), rfl, .inl hu, by rw [encS_keys, List.map_map, List.map_map, List.map_map]; rfl, ?_, fun ys l perm srt nl => ?_⟩
      · have := congrArg List.length eu
        rw [List.length_map] at this
        rw [List.length_map]
        omega
      · have ek : us.map (·.1) = st.rules.map (·.1) := by
          rw [← eu, List.map_map]
          rfl
        have e := sorted_is perm srt
        rw [ek] at e
        subst e
        have s1 := same_new (o := .lst ((sortS (st.rules.map (·.1))).map V.str)) nl
        refine ⟨l, rfl, ⟨_, SqL.of_H upd_same⟩, for_W (walks_list (K := K) (l := sortS (st.rules.map (·.1))) (f := V.str)) (fun pre σ H' => ∃ v2, σ = [some (.ref p), some (.str r), v2] ∧ Same H H' ∧ H' l = some (.lst ((sortS (st.rules.map (·.1))).map V.str)) ∧ ∀ post, sortS (st.rules.map (·.1)) = pre ++ post → colsGo st.rules r (sortS (st.rules.map (·.1))) = colsGo st.rules r post)
          ⟨none, rfl, s1, upd_same, fun post e => by rw [List.nil_append] at e; rw [← e]⟩ (fun pre σ H' ⟨_, _, _, hl, _⟩ => SqL.of_H hl) ?_ ?_⟩
        · rintro pre n post σ H' el ⟨v2, rfl, sm, hl, hgo⟩
          have hg := hgo _ el
          obtain ⟨ru, hru⟩ : ∃ ru, look st.rules n = some ru := by
            have hm : n ∈ st.rules.map (·.1) := mem_sortS.mp (by rw [el]; simp)
            cases hh : look st.rules n with
            | none => exact absurd hm (look_none.mp hh)
            | some ru => exact ⟨ru, rfl⟩
          have e2 : look (us.map fun q => (q.1, q.2.2)) n = (look us n).map (·.2) := look_map (fun q : Addr × Rule => q.2) n us
          rw [eu, hru] at e2
          cases hl2 : look us n with
          | none =>
            rw [hl2] at e2
            cases e2
          | some qq =>
            rw [hl2] at e2
            have e3 : qq.2 = ru := (Option.some.inj e2).symm
            have e4 : look (us.map fun q => (q.1, q.2.1)) n = some qq.1 := by
              have : look (us.map fun q => (q.1, q.2.1)) n = (look us n).map (·.1) := look_map (fun q : Addr × Rule => q.1) n us
              rw [this, hl2]
              rfl
            obtain ⟨a, b, h1, h2, h3⟩ : RuleAt H' qq.1 ru := stays_rule.go sm.t (by rw [← e3]; exact hus _ (look_mem hl2))
            have dg : DGet H' ua (.str n) (some (.ref qq.1)) := dgetS (.inl (sm _ _ hu)) e4
            refine ⟨_, rfl, p, _, dx, _, _, rfl, sm _ _ hi, T.cl, T.na "rules", stF_u ra fa ua da, _, rfl, ua, _, rfl, dg, qq.1, _, 0, _, rfl, rfl, SqT.of_H h1, atI_nat rfl, _, rfl, rfl, _, rfl, ?_⟩
            rw [str_dec]
            have eg : colsGo st.rules r (n :: post) = if ru.rel = r then some (ru.ts.length : Int) else colsGo st.rules r post := by
              show (match look st.rules n with | some ru => if ru.rel = r then some (ru.ts.length : Int) else colsGo st.rules r post | none => colsGo st.rules r post) = _
              rw [hru]
            rw [eg] at hg
            by_cases c : ru.rel = r
            · rw [decide_eq_true c]
              rw [if_pos c] at hg
              obtain ⟨ts, h4, h5, h6⟩ := h2
              refine iteT ⟨_, rfl, p, _, dx, _, _, rfl, sm _ _ hi, T.cl, T.na "rules", stF_u ra fa ua da, _, rfl, ua, _, rfl, dg, qq.1, _, 1, _, rfl, rfl, SqT.of_H h1, atI_nat rfl, _, _, rfl, .inr ⟨_, SqT.of_H h4, rfl⟩, ?_⟩
              have := q H' sm
              simp only [hg] at this
              rw [← h5, List.length_map] at this
              rw [List.length_map]
              exact this
            · rw [decide_eq_false c]
              rw [if_neg c] at hg
              refine iteF ⟨_, rfl, sm, hl, fun post2 e2 => ?_⟩
              have e3 : post2 = post := by
                rw [el, List.append_assoc] at e2
                exact ((List.cons.inj (List.append_cancel_left e2)).2).symm
              rw [e3]
              exact hg
        · rintro σ H' ⟨v2, rfl, sm, hl, hgo⟩
          have hg := hgo [] (by rw [List.append_nil])
          have := q H' sm
          simp only [hg] at this
          exact this
theorem sc_check_atom : FnScope ["state", "relation", "terms", "width"] ["state", "relation", "terms"] (defScope (topS 21)) := ⟨rfl, rfl, rfl, by decide +kernel, rfl, by decide +kernel, by decide +kernel⟩
theorem ok_check_atom (T : Tx P K mg) : Cal P w K mg base (L2.CX P w) 2 "check_atom" (spAtom K) := by
  have C1 := ok_columns (w := w) (base := base) T
  refine cal_of T 14 21 rfl (by decide +kernel) sc_check_atom (fun vs H Q E h => ?_) (fun _ _ _ _ _ _ us hl => match us, hl with | [_, _, _], _ => rfl) (fun cdv A outer s H vs Q E hr h => ?_)
  · obtain ⟨p, pt, st, r, ts, rfl, _⟩ := h
    rfl
  · obtain ⟨p, pt, st, r, ts, rfl, hst, h64, ⟨ps, hpt, rfl, hps⟩, qe, qn⟩ := h
    refine ⟨_, pss_cons (ps_set (i := 3) sc_check_atom.nd rfl (Or.inl rfl) (pe_c C1 hr (pa_cons (pv 0) (pa_cons (pv 1) pa_nil))))
    (pss_cons (ps_if (pt_cmpR op_isN (pv 3) pe_non (nomark _)) (pss_one (ps_raiseR rfl T.rf hr (takes_of rfl rfl rfl rfl) (by exact (pa_cons (pe_tup (pa_cons pe_str (pa_cons (pv 1) pa_nil))) pa_nil)))) pss_nil)
    (pss_one (ps_if (pt_cmpR op_ne (pv 3) (pe_callB call_len (by rfl) (T.fr "len") PySem.boot_len (pa_cons (pv 2) pa_nil)) (nomark _)) (pss_one (ps_raiseR rfl T.rf hr (takes_of rfl rfl rfl rfl) (by exact (pa_cons (pe_tup (pa_cons pe_str (pa_cons (pv 1) pa_nil))) pa_nil)))) pss_nil))), ?_⟩
    refine ⟨_, rfl, _, rfl, p, st, r, rfl, hst, h64, fun H1 s1 => ?_⟩
    refine ⟨_, rfl, rfl, _, rfl, ?_⟩
    unfold atomM at qe qn
    cases hc : colsM st r with
    | none =>
      rw [hc] at qe
      refine iteT ⟨_, rfl, by show 2 ≤ sizeLine; decide, fun t nt => ⟨_, rfl, fun d hd => ?_⟩⟩
      exact qe rfl _ d (s1.trans ((same_new nt).trans (same_new hd)))
    | some i =>
      rw [hc] at qe qn
      refine iteF ⟨_, rfl, _, rfl, _, _, rfl, .inr ⟨_, SqT.of_H (s1 _ _ hpt), rfl⟩, rfl, _, rfl, ?_⟩
      have e1 : (!decide (oI (some i) = V.int (((ps.map fun q => V.ref q.1).length : Nat) : Int))) = !decide (i = (((ps.map (·.2)).length : Nat) : Int)) := by
        rw [List.length_map, List.length_map]
        by_cases z : i = ((ps.length : Nat) : Int)
        · subst z
          simp [oI]
        · have z' : ¬ (oI (some i) = V.int ((ps.length : Nat) : Int)) := fun w => z (V.int.inj w)
          rw [decide_eq_false z, decide_eq_false z']
      rw [e1]
      cases hz : decide (i = (((ps.map (·.2)).length : Nat) : Int)) with
      | true => exact iteF (qn hz H1 s1)
      | false =>
        refine iteT ⟨_, rfl, by show 2 ≤ sizeLine; decide, fun t nt => ⟨_, rfl, fun d hd => ?_⟩⟩
        exact qe hz _ d (s1.trans ((same_new nt).trans (same_new hd)))
theorem sc_check_terms : FnScope ["terms", "known", "lets_any", "term"] ["terms", "known", "lets_any"] (defScope (topS 22)) := ⟨rfl, rfl, rfl, by decide +kernel, rfl, by decide +kernel, by decide +kernel⟩
theorem ok_check_terms (T : Tx P K mg) : Cal P w K mg base (L2.CX P w) 2 "check_terms" (spTms K) := by
  refine cal_of T 15 22 rfl (by decide +kernel) sc_check_terms (fun vs H Q E h => ?_) (fun _ _ _ _ _ _ us hl => match us, hl with | [_, _, _], _ => rfl) (fun cdv A outer s H vs Q E hr h => ?_)
  · obtain ⟨pt, pk, ts, kn, any, rfl, _⟩ := h
    rfl
  · obtain ⟨pt, pk, ts, kn, any, rfl, ⟨ps, hpt, rfl, hps⟩, hk, qe, qn⟩ := h
    refine ⟨_, pss_one (ps_for (passes_of rfl) rfl (pi_tup (pv 0)) (pg_name (i := 3) sc_check_terms.nd rfl (Or.inl rfl))
    (pss_cons (ps_if (PW.pt (pw_and (pt_cmpR op_eq (pe_ix ix_tup (pv 3) pe_int (fun _ _ => rfl)) pe_str (nomark _)) (pw_and1 (pt_not (pt_truth (pv 2) (by intro _; rfl)))))) (pss_one (ps_raiseR rfl T.rf hr (takes_of rfl rfl rfl rfl) (by exact (pa_cons (pe_tup (pa_cons pe_str pa_nil)) pa_nil)))) pss_nil)
    (pss_one (ps_if (PW.pt (pw_and (pt_cmpR op_eq (pe_ix ix_tup (pv 3) pe_int (fun _ _ => rfl)) pe_str (nomark _)) (pw_and1 (pt_cmpR op_notIn_seq (pe_ix ix_tup (pv 3) pe_int (fun _ _ => rfl)) (pv 1) (by rfl))))) (pss_one (ps_raiseR rfl T.rf hr (takes_of rfl rfl rfl rfl) (by exact (pa_cons (pe_tup (pa_cons pe_str (pa_cons (pe_ix ix_tup (pv 3) pe_int (fun _ _ => rfl)) pa_nil))) pa_nil)))) pss_nil)))), ?_⟩
    refine ⟨_, rfl, pt, rfl, ⟨_, SqT.of_H hpt⟩, for_W (walks_tup (K := K) (l := ps) (f := fun q : Addr × Tm => V.ref q.1)) (fun pre σ H' => ∃ v3, σ = [some (.ref pt), some (.ref pk), some (.bl any), v3] ∧ Same H H' ∧ okTms (pre.map (·.2)) kn any = true) ⟨none, rfl, Same.refl _, rfl⟩ (fun pre σ H' ⟨_, _, sm, _⟩ => SqT.of_H (sm _ _ hpt)) ?_ ?_⟩
    · rintro pre ⟨tp, t⟩ post σ H' el ⟨v3, rfl, sm, hok⟩
      have ht : TmAt H' tp t := sm _ _ (hps (tp, t) (by rw [el]; simp))
      have eok : okTms ((pre ++ [(tp, t)]).map (·.2)) kn any = okTm kn any t := by
        unfold okTms at hok ⊢
        rw [List.map_append, List.all_append, hok]
        simp
      have bad : okTm kn any t = false → Refuses K E H' := fun hb H2 d s2 => qe (by
        unfold okTms
        rw [el, List.map_append, List.all_append, List.map_cons, List.all_cons, hb]
        simp) H2 d (sm.trans s2)
      have hk' : SqL K H' pk (kn.map V.str) ∨ SqT K H' pk (kn.map V.str) := by
        rcases hk with hk | hk
        · exact .inl (SqL.of_H (sm _ _ hk))
        · exact .inr (SqT.of_H (sm _ _ hk))
      cases t with
      | any =>
        have n1 : decide (V.str "any" = V.str "any") = true := decide_eq_true rfl
        have n2 : decide (V.str "any" = V.str "variable") = false := dec_str_ne (by decide +kernel)
        refine ⟨_, rfl, tp, _, 0, _, rfl, rfl, SqT.of_H ht, atI_nat rfl, rfl, true, congrArg V.bl n1, ?_⟩
        refine iteT ⟨_, rfl, any, rfl, ?_⟩
        cases any with
        | true =>
          refine iteF ⟨_, rfl, tp, _, 0, _, rfl, rfl, SqT.of_H ht, atI_nat rfl, rfl, false, congrArg V.bl n2, ?_⟩
          exact iteF ⟨_, rfl, sm, by rw [eok]; rfl⟩
        | false =>
          refine iteT ⟨by show 1 ≤ sizeLine; decide, fun t nt => ⟨_, rfl, fun d hd => ?_⟩⟩
          exact bad rfl _ d ((same_new nt).trans (same_new hd))
      | val k =>
        have n1 : decide (V.str "value" = V.str "any") = false := dec_str_ne (by decide +kernel)
        have n2 : decide (V.str "value" = V.str "variable") = false := dec_str_ne (by decide +kernel)
        refine ⟨_, rfl, tp, _, 0, _, rfl, rfl, SqT.of_H ht, atI_nat rfl, rfl, false, congrArg V.bl n1, ?_⟩
        refine iteF ?_
        refine iteF ⟨_, rfl, tp, _, 0, _, rfl, rfl, SqT.of_H ht, atI_nat rfl, rfl, false, congrArg V.bl n2, ?_⟩
        exact iteF ⟨_, rfl, sm, by rw [eok]; rfl⟩
      | var x =>
        have n1 : decide (V.str "variable" = V.str "any") = false := dec_str_ne (by decide +kernel)
        have n2 : decide (V.str "variable" = V.str "variable") = true := decide_eq_true rfl
        refine ⟨_, rfl, tp, _, 0, _, rfl, rfl, SqT.of_H ht, atI_nat rfl, rfl, false, congrArg V.bl n1, ?_⟩
        refine iteF ?_
        refine iteF ⟨_, rfl, tp, _, 0, _, rfl, rfl, SqT.of_H ht, atI_nat rfl, rfl, true, congrArg V.bl n2, ?_⟩
        refine iteT ⟨_, rfl, tp, _, 1, _, rfl, rfl, SqT.of_H ht, atI_nat rfl, _, rfl, pk, _, rfl, hk', rfl, flat_str kn, _, rfl, ?_⟩
        show if (if true = true then !inV (V.str x) (kn.map V.str) else inV (V.str x) (kn.map V.str)) = true then _ else _
        rw [if_pos rfl, inV_str]
        have eo : okTm kn any (.var x) = decide (x ∈ kn) := rfl
        cases hx : decide (x ∈ kn) with
        | true => exact iteF ⟨_, rfl, sm, by rw [eok, eo, hx]⟩
        | false =>
          refine iteT ⟨_, rfl, tp, _, 1, _, rfl, rfl, SqT.of_H ht, atI_nat rfl, by show 2 ≤ sizeLine; decide, fun t nt => ⟨_, rfl, fun d hd => ?_⟩⟩
          exact bad (by rw [eo, hx]) _ d ((same_new nt).trans (same_new hd))
    · rintro σ H' ⟨v3, rfl, sm, hok⟩
      exact qn hok H' sm
end
end Rs


set_option Elab.async false
set_option linter.all false
set_option maxRecDepth 100000
set_option maxHeartbeats 2000000
/-! # F8: check_literal, check_body -/
namespace Rs
open PySem PySem.Spec PyProof.Rows L2
def litChk (st : St) (kn : List Str) : Lit → Option (List Str)
  | .fact r ts => if atomM st r ts = true then some (varsM ts) else none
  | .not_ r ts => if atomM st r ts = true then (if okTms ts kn true = true then some [] else none) else none
  | .cmp _ a b => if okTms [a, b] kn false = true then some [] else none
  | .is_ v _ a b => if okTms [a, b] kn false = true then some [v] else none
  | .cnt v r ts => if atomM st r ts = true then (if v ∈ varsM ts then none else some [v]) else none
def spLitChk (K : PySem.W.Frag) : Sp := fun vs H Q E => ∃ (p pl pk : Addr) (st : St) (l : Lit) (kn : List Str), vs = [.ref p, .ref pl, .ref pk] ∧ StAt K H p st ∧ st.rules.length < 64 ∧ LitAt H pl l ∧ (litTs l).length ≤ 100 ∧ StrL H pk kn ∧
  (litChk st kn l = none → Refuses K E H) ∧ ∀ l', litChk st kn l = some l' → ∀ (H' : Hp) (q : Addr), Same H H' → H q = none → StrL H' q l' → Q (.ref q) H'
def addNew (kn : List Str) (vs : List Str) : List Str := vs.foldl (fun kn v => if v ∈ kn then kn else kn ++ [v]) kn
def chkGo (st : St) : Body → List Str → Option (List Str)
  | [], kn => some kn
  | l :: ls, kn => match litChk st kn l with
    | some vs => chkGo st ls (addNew kn vs)
    | none => none
def chkM (st : St) (b : Body) : Option (List Str) := chkGo st b []
def spChk (K : PySem.W.Frag) : Sp := fun vs H Q E => ∃ (p pb : Addr) (st : St) (b : Body), vs = [.ref p, .ref pb] ∧ StAt K H p st ∧ st.rules.length < 64 ∧ BodyAt H pb b ∧ BodyOk b ∧
  (chkM st b = none → Refuses K E H) ∧ ∀ l', chkM st b = some l' → ∀ (H' : Hp) (q : Addr), Same H H' → H' q = some (.tup (l'.map V.str)) → Q (.ref q) H'
theorem litChk_len {st : St} {kn l' : List Str} {l : Lit} (h : litChk st kn l = some l') (hl : (litTs l).length ≤ 100) : l'.length ≤ 100 := by
  cases l with
  | fact r ts =>
    simp only [litChk] at h
    split at h
    · rw [← Option.some.inj h]
      exact Nat.le_trans (List.length_filterMap_le _ _) hl
    · cases h
  | not_ r ts =>
    simp only [litChk] at h
    split at h
    · split at h
      · rw [← Option.some.inj h]
        exact Nat.zero_le _
      · cases h
    · cases h
  | cmp op a b =>
    simp only [litChk] at h
    split at h
    · rw [← Option.some.inj h]
      exact Nat.zero_le _
    · cases h
  | is_ v op a b =>
    simp only [litChk] at h
    split at h
    · rw [← Option.some.inj h]
      show 1 ≤ 100
      decide
    · cases h
  | cnt v r ts =>
    simp only [litChk] at h
    split at h
    · split at h
      · cases h
      · rw [← Option.some.inj h]
        show 1 ≤ 100
        decide
    · cases h
theorem addNew_len : ∀ (vs kn : List Str), (addNew kn vs).length ≤ kn.length + vs.length
  | [], kn => Nat.le_refl _
  | v :: vs, kn => by
    have ih := addNew_len vs (if v ∈ kn then kn else kn ++ [v])
    have e : addNew kn (v :: vs) = addNew (if v ∈ kn then kn else kn ++ [v]) vs := rfl
    rw [e]
    have : (if v ∈ kn then kn else kn ++ [v]).length ≤ kn.length + 1 := by
      split
      · omega
      · rw [List.length_append, List.length_singleton]
        omega
    rw [List.length_cons]
    omega
section
variable {P : Program} {w : World} {K : PySem.W.Frag} {mg : Str → Option Value} {base : Heap}
theorem sc_check_literal : FnScope ["state", "literal", "known"] ["state", "literal", "known"] (defScope (topS 24)) := ⟨rfl, rfl, rfl, by decide +kernel, rfl, by decide +kernel, by decide +kernel⟩
theorem ok_check_literal (T : Tx P K mg) : Cal P w K mg base (L2.CX P w) 3 "check_literal" (spLitChk K) := by
  have C1 := ok_check_atom (w := w) (base := base) T
  have C2 := ok_check_terms (w := w) (base := base) T
  have C3 := ok_variables_of (w := w) (base := base) T
  refine cal_of T 17 24 rfl (by decide +kernel) sc_check_literal (fun vs H Q E h => ?_) (fun _ _ _ _ _ _ us hl => match us, hl with | [_, _, _], _ => rfl) (fun cdv A outer s H vs Q E hr h => ?_)
  · obtain ⟨p, pl, pk, st, l, kn, rfl, _⟩ := h
    rfl
  · obtain ⟨p, pl, pk, st, l, kn, rfl, hst, h64, hl, hlt, hk, qe, qn⟩ := h
    refine ⟨_, pss_cons (ps_if (pt_cmpR op_eq (pe_ix ix_tup (pv 1) pe_int (fun _ _ => rfl)) pe_str (nomark _)) (pss_cons (ps_expr (pe_cS C1 hr (takes_of rfl rfl rfl rfl) (pa_cons (pv 0) (pa_cons (pe_ix ix_tup (pv 1) pe_int (fun _ _ => rfl)) (pa_cons (pe_ix ix_tup (pv 1) pe_int (fun _ _ => rfl)) pa_nil)))))
    (pss_one (ps_ret (pe_c C3 hr (pa_cons (pe_ix ix_tup (pv 1) pe_int (fun _ _ => rfl)) pa_nil))))) pss_nil)
    (pss_cons (ps_if (pt_cmpR op_eq (pe_ix ix_tup (pv 1) pe_int (fun _ _ => rfl)) pe_str (nomark _)) (pss_cons (ps_expr (pe_cS C1 hr (takes_of rfl rfl rfl rfl) (pa_cons (pv 0) (pa_cons (pe_ix ix_tup (pv 1) pe_int (fun _ _ => rfl)) (pa_cons (pe_ix ix_tup (pv 1) pe_int (fun _ _ => rfl)) pa_nil)))))
    (pss_cons (ps_expr (pe_cS C2 hr (takes_of rfl rfl rfl rfl) (pa_cons (pe_ix ix_tup (pv 1) pe_int (fun _ _ => rfl)) (pa_cons (pv 2) (pa_cons pe_bl pa_nil)))))
    (pss_one (ps_ret (pe_lst pa_nil))))) pss_nil)
    (pss_cons (ps_if (pt_cmpR op_eq (pe_ix ix_tup (pv 1) pe_int (fun _ _ => rfl)) pe_str (nomark _)) (pss_cons (ps_expr (pe_cS C2 hr (takes_of rfl rfl rfl rfl) (pa_cons (pe_slice sl_tupA (pv 1) (po_some pe_int) po_none) (pa_cons (pv 2) (pa_cons pe_bl pa_nil)))))
    (pss_one (ps_ret (pe_lst pa_nil)))) pss_nil)
    (pss_cons (ps_if (pt_cmpR op_eq (pe_ix ix_tup (pv 1) pe_int (fun _ _ => rfl)) pe_str (nomark _)) (pss_cons (ps_expr (pe_cS C2 hr (takes_of rfl rfl rfl rfl) (pa_cons (pe_slice sl_tupA (pv 1) (po_some pe_int) po_none) (pa_cons (pv 2) (pa_cons pe_bl pa_nil)))))
    (pss_one (ps_ret (pe_lst (pa_cons (pe_ix ix_tup (pv 1) pe_int (fun _ _ => rfl)) pa_nil))))) pss_nil)
    (pss_cons (ps_expr (pe_cS C1 hr (takes_of rfl rfl rfl rfl) (pa_cons (pv 0) (pa_cons (pe_ix ix_tup (pv 1) pe_int (fun _ _ => rfl)) (pa_cons (pe_ix ix_tup (pv 1) pe_int (fun _ _ => rfl)) pa_nil)))))
    (pss_cons (ps_if (pt_cmpR op_in_seq (pe_ix ix_tup (pv 1) pe_int (fun _ _ => rfl)) (pe_c C3 hr (pa_cons (pe_ix ix_tup (pv 1) pe_int (fun _ _ => rfl)) pa_nil)) (by rfl)) (pss_one (ps_raiseR rfl T.rf hr (takes_of rfl rfl rfl rfl) (by exact (pa_cons (pe_tup (pa_cons pe_str (pa_cons (pe_ix ix_tup (pv 1) pe_int (fun _ _ => rfl)) pa_nil))) pa_nil)))) pss_nil)
    (pss_one (ps_ret (pe_lst (pa_cons (pe_ix ix_tup (pv 1) pe_int (fun _ _ => rfl)) pa_nil))))))))), ?_⟩
    have retE : ∀ (H1 : Hp), Same H H1 → litChk st kn l = some [] → ∀ q, H1 q = none → Q (.ref q) (upd H1 q (.lst [])) := fun H1 s1 he q nq => qn [] he _ q (s1.trans (same_new nq)) (s1.free nq) upd_same
    have retV : ∀ (H1 : Hp) (v : Str), Same H H1 → litChk st kn l = some [v] → ∀ q, H1 q = none → Q (.ref q) (upd H1 q (.lst [.str v])) := fun H1 v s1 he q nq => qn [v] he _ q (s1.trans (same_new nq)) (s1.free nq) upd_same
    cases l with
    | fact r ts =>
      obtain ⟨a, ha, hts⟩ := hl
      have n1 : decide (V.str "fact" = V.str "fact") = true := decide_eq_true rfl
      refine ⟨_, rfl, pl, _, 0, _, rfl, rfl, SqT.of_H ha, atI_nat rfl, rfl, true, congrArg V.bl n1, ?_⟩
      refine iteT ⟨_, rfl, _, rfl, pl, _, 1, _, rfl, rfl, SqT.of_H ha, atI_nat rfl, _, rfl, pl, _, 2, _, rfl, rfl, SqT.of_H ha, atI_nat rfl, p, a, st, r, ts, rfl, hst, h64, hts, fun hb H2 d s2 => qe ?_ H2 d s2, fun hg H1 s1 => ?_⟩
      · simp [litChk, hb]
      · refine ⟨_, rfl, pl, _, 2, _, rfl, rfl, SqT.of_H (s1 _ _ ha), atI_nat rfl, a, ts, rfl, stays_tms.go s1.t hts, hlt, fun H2 q s2 n2 r2 => qn (varsM ts) ?_ H2 q (s1.trans s2) (s1.free n2) r2⟩
        simp [litChk, hg]
    | not_ r ts =>
      obtain ⟨a, ha, hts⟩ := hl
      have n1 : decide (V.str "not" = V.str "fact") = false := dec_str_ne (by decide +kernel)
      have n2 : decide (V.str "not" = V.str "not") = true := decide_eq_true rfl
      refine ⟨_, rfl, pl, _, 0, _, rfl, rfl, SqT.of_H ha, atI_nat rfl, rfl, false, congrArg V.bl n1, ?_⟩
      refine iteF ⟨_, rfl, pl, _, 0, _, rfl, rfl, SqT.of_H ha, atI_nat rfl, rfl, true, congrArg V.bl n2, ?_⟩
      refine iteT ⟨_, rfl, _, rfl, pl, _, 1, _, rfl, rfl, SqT.of_H ha, atI_nat rfl, _, rfl, pl, _, 2, _, rfl, rfl, SqT.of_H ha, atI_nat rfl, p, a, st, r, ts, rfl, hst, h64, hts, fun hb H2 d s2 => qe ?_ H2 d s2, fun hg H1 s1 => ?_⟩
      · simp [litChk, hb]
      · refine ⟨_, rfl, pl, _, 2, _, rfl, rfl, SqT.of_H (s1 _ _ ha), atI_nat rfl, _, rfl, a, pk, ts, kn, true, rfl, stays_tms.go s1.t hts, .inl (s1 _ _ hk), fun hb H2 d s2 => qe ?_ H2 d (s1.trans s2), fun hg2 H2 s2 => ⟨Nat.zero_le _, fun q nq => retE H2 (s1.trans s2) ?_ q nq⟩⟩
        · simp [litChk, hg, hb]
        · simp [litChk, hg, hg2]
    | cmp op x y =>
      obtain ⟨a, b, ha, hx, hy⟩ := hl
      have n1 : decide (V.str "compare" = V.str "fact") = false := dec_str_ne (by decide +kernel)
      have n2 : decide (V.str "compare" = V.str "not") = false := dec_str_ne (by decide +kernel)
      have n3 : decide (V.str "compare" = V.str "compare") = true := decide_eq_true rfl
      refine ⟨_, rfl, pl, _, 0, _, rfl, rfl, SqT.of_H ha, atI_nat rfl, rfl, false, congrArg V.bl n1, ?_⟩
      refine iteF ⟨_, rfl, pl, _, 0, _, rfl, rfl, SqT.of_H ha, atI_nat rfl, rfl, false, congrArg V.bl n2, ?_⟩
      refine iteF ⟨_, rfl, pl, _, 0, _, rfl, rfl, SqT.of_H ha, atI_nat rfl, rfl, true, congrArg V.bl n3, ?_⟩
      refine iteT ⟨_, rfl, _, rfl, pl, _, rfl, SqT.of_H ha, fun z => absurd z.1 (by show ¬ ((HT.sIx _ 0 (some _)) = 0); simp [HT.sIx]), fun _ t nt => ?_⟩
      have s1 := same_new (o := .tup (cutV [V.str "compare", V.str op, V.ref a, V.ref b] (some 2) none)) nt
      refine ⟨_, rfl, t, pk, [x, y], kn, false, rfl, ⟨[(a, x), (b, y)], upd_same, rfl, fun q hq => ?_⟩, .inl (s1 _ _ hk), fun hb H2 d s2 => qe ?_ H2 d (s1.trans s2), fun hg2 H2 s2 => ⟨Nat.zero_le _, fun q nq => retE H2 (s1.trans s2) ?_ q nq⟩⟩
      · rcases List.mem_cons.mp hq with rfl | hq
        · exact s1 _ _ hx
        · rw [List.mem_singleton.mp hq]
          exact s1 _ _ hy
      · simp [litChk, hb]
      · simp [litChk, hg2]
    | is_ v op x y =>
      obtain ⟨a, b, ha, hx, hy⟩ := hl
      have n1 : decide (V.str "is" = V.str "fact") = false := dec_str_ne (by decide +kernel)
      have n2 : decide (V.str "is" = V.str "not") = false := dec_str_ne (by decide +kernel)
      have n3 : decide (V.str "is" = V.str "compare") = false := dec_str_ne (by decide +kernel)
      have n4 : decide (V.str "is" = V.str "is") = true := decide_eq_true rfl
      refine ⟨_, rfl, pl, _, 0, _, rfl, rfl, SqT.of_H ha, atI_nat rfl, rfl, false, congrArg V.bl n1, ?_⟩
      refine iteF ⟨_, rfl, pl, _, 0, _, rfl, rfl, SqT.of_H ha, atI_nat rfl, rfl, false, congrArg V.bl n2, ?_⟩
      refine iteF ⟨_, rfl, pl, _, 0, _, rfl, rfl, SqT.of_H ha, atI_nat rfl, rfl, false, congrArg V.bl n3, ?_⟩
      refine iteF ⟨_, rfl, pl, _, 0, _, rfl, rfl, SqT.of_H ha, atI_nat rfl, rfl, true, congrArg V.bl n4, ?_⟩
      refine iteT ⟨_, rfl, _, rfl, pl, _, rfl, SqT.of_H ha, fun z => absurd z.1 (by show ¬ ((HT.sIx _ 0 (some _)) = 0); simp [HT.sIx]), fun _ t nt => ?_⟩
      have s1 := same_new (o := .tup (cutV [V.str "is", V.str v, V.str op, V.ref a, V.ref b] (some 3) none)) nt
      refine ⟨_, rfl, t, pk, [x, y], kn, false, rfl, ⟨[(a, x), (b, y)], upd_same, rfl, fun q hq => ?_⟩, .inl (s1 _ _ hk), fun hb H2 d s2 => qe ?_ H2 d (s1.trans s2), fun hg2 H2 s2 => ⟨_, rfl, pl, _, 1, _, rfl, rfl, SqT.of_H (s2 _ _ (s1 _ _ ha)), atI_nat rfl, by show 1 ≤ sizeLine; decide, fun q nq => retV H2 v (s1.trans s2) ?_ q nq⟩⟩
      · rcases List.mem_cons.mp hq with rfl | hq
        · exact s1 _ _ hx
        · rw [List.mem_singleton.mp hq]
          exact s1 _ _ hy
      · simp [litChk, hb]
      · simp [litChk, hg2]
    | cnt v r ts =>
      obtain ⟨a, ha, hts⟩ := hl
      have n1 : decide (V.str "count" = V.str "fact") = false := dec_str_ne (by decide +kernel)
      have n2 : decide (V.str "count" = V.str "not") = false := dec_str_ne (by decide +kernel)
      have n3 : decide (V.str "count" = V.str "compare") = false := dec_str_ne (by decide +kernel)
      have n4 : decide (V.str "count" = V.str "is") = false := dec_str_ne (by decide +kernel)
      refine ⟨_, rfl, pl, _, 0, _, rfl, rfl, SqT.of_H ha, atI_nat rfl, rfl, false, congrArg V.bl n1, ?_⟩
      refine iteF ⟨_, rfl, pl, _, 0, _, rfl, rfl, SqT.of_H ha, atI_nat rfl, rfl, false, congrArg V.bl n2, ?_⟩
      refine iteF ⟨_, rfl, pl, _, 0, _, rfl, rfl, SqT.of_H ha, atI_nat rfl, rfl, false, congrArg V.bl n3, ?_⟩
      refine iteF ⟨_, rfl, pl, _, 0, _, rfl, rfl, SqT.of_H ha, atI_nat rfl, rfl, false, congrArg V.bl n4, ?_⟩
      refine iteF ⟨_, rfl, _, rfl, pl, _, 2, _, rfl, rfl, SqT.of_H ha, atI_nat rfl, _, rfl, pl, _, 3, _, rfl, rfl, SqT.of_H ha, atI_nat rfl, p, a, st, r, ts, rfl, hst, h64, hts, fun hb H2 d s2 => qe ?_ H2 d s2, fun hg H1 s1 => ?_⟩
      · simp [litChk, hb]
      · refine ⟨_, rfl, pl, _, 1, _, rfl, rfl, SqT.of_H (s1 _ _ ha), atI_nat rfl, _, rfl, pl, _, 3, _, rfl, rfl, SqT.of_H (s1 _ _ ha), atI_nat rfl, a, ts, rfl, stays_tms.go s1.t hts, hlt, fun H2 L s2 nL r2 => ?_⟩
        have ss := s1.trans s2
        have ha2 := ss _ _ ha
        refine ⟨L, _, rfl, .inl (SqL.of_H r2), rfl, flat_str _, _, rfl, ?_⟩
        have e9 : (if false = true then !inV (V.str v) ((varsM ts).map V.str) else inV (V.str v) ((varsM ts).map V.str)) = decide (v ∈ varsM ts) := by
          rw [if_neg Bool.false_ne_true, inV_str]
        show if (if false = true then !inV (V.str v) ((varsM ts).map V.str) else inV (V.str v) ((varsM ts).map V.str)) = true then _ else _
        rw [e9]
        have el : litChk st kn (.cnt v r ts) = if v ∈ varsM ts then none else some [v] := by
          show (if atomM st r ts = true then (if v ∈ varsM ts then none else some [v]) else none) = _
          rw [if_pos hg]
        by_cases c : v ∈ varsM ts
        · rw [decide_eq_true c]
          rw [if_pos c] at el
          refine iteT ⟨_, rfl, pl, _, 1, _, rfl, rfl, SqT.of_H ha2, atI_nat rfl, by show 2 ≤ sizeLine; decide, fun t nt => ⟨_, rfl, fun d hd => ?_⟩⟩
          exact qe el _ d (ss.trans ((same_new nt).trans (same_new hd)))
        · rw [decide_eq_false c]
          rw [if_neg c] at el
          exact iteF ⟨_, rfl, pl, _, 1, _, rfl, rfl, SqT.of_H ha2, atI_nat rfl, by show 1 ≤ sizeLine; decide, fun q nq => retV H2 v ss el q nq⟩
theorem sc_check_body : FnScope ["state", "body", "known", "literal", "variable"] ["state", "body"] (defScope (topS 25)) := ⟨rfl, rfl, rfl, by decide +kernel, rfl, by decide +kernel, by decide +kernel⟩
theorem ok_check_body (T : Tx P K mg) : Cal P w K mg base (L2.CX P w) 4 "check_body" (spChk K) := by
  have C1 := ok_check_literal (w := w) (base := base) T
  refine cal_of T 18 25 rfl (by decide +kernel) sc_check_body (fun vs H Q E h => ?_) (fun _ _ _ _ _ _ us hl => match us, hl with | [_, _], _ => rfl) (fun cdv A outer s H vs Q E hr h => ?_)
  · obtain ⟨p, pb, st, b, rfl, _⟩ := h
    rfl
  · obtain ⟨p, pb, st, b, rfl, hst, h64, ⟨ps, hpb, rfl, hps⟩, ⟨hl, hlt⟩, qe, qn⟩ := h
    rw [List.length_map] at hl
    refine ⟨_, pss_cons (ps_set (i := 2) sc_check_body.nd rfl (Or.inl rfl) (pe_lst pa_nil))
    (pss_cons (ps_for (passes_of rfl) rfl (pi_tup (pv 1)) (pg_name (i := 3) sc_check_body.nd rfl (Or.inl rfl))
    (pss_one (ps_for (passes_of rfl) rfl (pi_list (pe_cS C1 hr (takes_of rfl rfl rfl rfl) (pa_cons (pv 0) (pa_cons (pv 3) (pa_cons (pv 2) pa_nil))))) (pg_name (i := 4) sc_check_body.nd rfl (Or.inl rfl))
    (pss_one (ps_if (pt_cmpR op_notIn_seq (pv 4) (pv 2) (by rfl)) (pss_one (ps_expr (pe_bm PySem.F.plainAttrs_list PySem.F.slot_list_append PySem.F.type_list_append mt_append (pv 2) (pa_cons (pv 4) pa_nil)))) pss_nil)))))
    (pss_one (ps_ret (pe_callTy call_tuple_of (by rfl) (T.fr "tuple") (by decide +kernel) (pa_cons (pv 2) pa_nil))))), ?_⟩
    refine ⟨Nat.zero_le _, fun F nF => ?_⟩
    have s0 := same_new (o := .lst []) nF
    refine ⟨_, rfl, pb, rfl, ⟨_, SqT.of_H (s0 _ _ hpb)⟩, for_W (walks_tup (K := K) (l := ps) (f := fun q : Addr × Lit => V.ref q.1)) (fun pre σ H' => ∃ v3 v4 kn, σ = [some (.ref p), some (.ref pb), some (.ref F), v3, v4] ∧ Same H H' ∧ H' F = some (.lst (kn.map V.str)) ∧ kn.length ≤ 101 * pre.length ∧ ∀ post, ps = pre ++ post → chkM st (ps.map (·.2)) = chkGo st (post.map (·.2)) kn)
      ⟨none, none, [], rfl, s0, upd_same, Nat.zero_le _, fun post e => by rw [e]; rfl⟩ (fun pre σ H' ⟨_, _, _, _, sm, _⟩ => SqT.of_H (sm _ _ hpb)) ?_ ?_⟩
    · rintro pre ⟨lp, l⟩ post σ H' el ⟨v3, v4, kn, rfl, sm, hA, hkn, hgo⟩
      have hg : chkM st (ps.map (·.2)) = (match litChk st kn l with | some vs => chkGo st (post.map (·.2)) (addNew kn vs) | none => none) := hgo _ el
      have hlit : LitAt H' lp l := stays_lit.go sm.t (hps (lp, l) (by rw [el]; simp))
      have hlts : (litTs l).length ≤ 100 := hlt l (List.mem_map_of_mem (f := (·.2)) (a := (lp, l)) (by rw [el]; simp))
      have npre : pre.length < 100 := by
        have := congrArg List.length el
        rw [List.length_append, List.length_cons] at this
        omega
      refine ⟨_, rfl, _, rfl, _, rfl, p, lp, F, st, l, kn, rfl, hst.same sm, h64, hlit, hlts, hA, fun hb H2 d s2 => qe (by rw [hg, hb]) H2 d (sm.trans s2), fun l' hl' H1 q s1 nq hq => ?_⟩
      rw [hl'] at hg
      have ll := litChk_len hl' hlts
      have nqF : q ≠ F := fun z => by
        rw [z, hA] at nq
        cases nq
      refine ⟨q, rfl, ⟨_, SqL.of_H hq⟩, for_W (walks_list (K := K) (l := l') (f := V.str)) (fun ipre σ H2 => ∃ v4, σ = [some (.ref p), some (.ref pb), some (.ref F), some (.ref lp), v4] ∧ Same H H2 ∧ H2 q = some (.lst (l'.map V.str)) ∧ H2 F = some (.lst ((addNew kn ipre).map V.str)))
        ⟨v4, rfl, sm.trans s1, hq, s1 _ _ hA⟩ (fun ipre σ H2 ⟨_, _, _, h, _⟩ => SqL.of_H h) ?_ ?_⟩
      · rintro ipre v ipost σ H2 ei ⟨v4, rfl, sm2, hq2, hA2⟩
        have ea : addNew kn (ipre ++ [v]) = if v ∈ addNew kn ipre then addNew kn ipre else addNew kn ipre ++ [v] := by
          unfold addNew
          rw [List.foldl_append]
          rfl
        have lea := addNew_len ipre kn
        have lip : ipre.length < 100 := by
          have := congrArg List.length ei
          rw [List.length_append, List.length_cons] at this
          omega
        refine ⟨_, rfl, _, rfl, F, _, rfl, .inl (SqL.of_H hA2), rfl, flat_str _, _, rfl, ?_⟩
        show if (if true = true then !inV (V.str v) ((addNew kn ipre).map V.str) else inV (V.str v) ((addNew kn ipre).map V.str)) = true then _ else _
        rw [if_pos rfl, inV_str]
        by_cases c : v ∈ addNew kn ipre
        · rw [decide_eq_true c]
          rw [if_pos c] at ea
          exact iteF ⟨_, rfl, sm2, hq2, by rw [ea]; exact hA2⟩
        · rw [decide_eq_false c]
          rw [if_neg c] at ea
          refine iteT ⟨_, rfl, .inl ⟨rfl, _, SqL.of_H hA2⟩, _, rfl, F, _, _, rfl, rfl, hA2, ?_, ?_⟩
          · rw [List.length_map, sizeLine_eq]
            omega
          · refine ⟨_, rfl, fun b o e => ?_, ?_, ?_⟩
            · rw [upd_ne (ne_of_none e nF)]
              exact sm2 _ _ e
            · rw [upd_ne nqF]
              exact hq2
            · rw [upd_same, ea, List.map_append]
              rfl
      · rintro σ H2 ⟨v4, rfl, sm2, hq2, hA2⟩
        refine ⟨_, _, addNew kn l', rfl, sm2, hA2, ?_, fun post2 e2 => ?_⟩
        · have := addNew_len l' kn
          rw [List.length_append, List.length_singleton]
          omega
        · have e3 : post2 = post := by
            rw [el, List.append_assoc] at e2
            exact ((List.cons.inj (List.append_cancel_left e2)).2).symm
          rw [e3]
          exact hg
    · rintro σ H' ⟨v3, v4, kn, rfl, sm, hA, hkn, hgo⟩
      have hg : chkM st (ps.map (·.2)) = some kn := hgo [] (by rw [List.append_nil])
      refine ⟨_, rfl, F, _, rfl, .inl ⟨SqL.of_H hA, fun l nl => ?_⟩⟩
      exact qn kn hg _ l (sm.trans (same_new nl)) upd_same
end
end Rs


set_option Elab.async false
set_option linter.all false
set_option maxRecDepth 100000
set_option maxHeartbeats 2000000
/-! # F9: all_relations, start_rows -/
namespace Rs
open PySem PySem.Spec PyProof.Rows L2
/-- a dict whose values are all True -/
def trueD (ks : List Str) : List (L2.Key × V) := encS (fun _ : Unit => V.bl true) (ks.map fun k => (k, ()))
theorem trueD_keys (ks : List Str) : (trueD ks).map (·.1) = ks.map Sum.inr := by
  unfold trueD
  rw [encS_keys, List.map_map]
  simp
theorem look_unit (ks : List Str) (x : Str) : (look (ks.map fun k => (k, ())) x).isSome = decide (x ∈ ks) := by
  cases h : look (ks.map fun k => (k, ())) x with
  | none =>
    have q := look_none.mp h
    rw [List.map_map] at q
    rw [decide_eq_false (by simpa using q)]
    rfl
  | some u =>
    have q := look_mem h
    obtain ⟨y, hy, e⟩ := List.mem_map.mp q
    have : x ∈ ks := by
      have e2 : y = x := congrArg Prod.fst e
      rw [← e2]
      exact hy
    rw [decide_eq_true this]
    rfl
theorem trueD_put (ks : List Str) (x : Str) : putK (trueD ks) (.inr x) (.bl true) = trueD (addNew ks [x]) := by
  unfold trueD
  have e := encS_put (fun _ : Unit => V.bl true) (ks.map fun k => (k, ())) x ()
  rw [e]
  congr 1
  unfold put
  rw [look_any, look_unit]
  show _ = (addNew ks [x]).map fun k => (k, ())
  have ea : addNew ks [x] = if x ∈ ks then ks else ks ++ [x] := rfl
  rw [ea]
  by_cases h : x ∈ ks
  · rw [decide_eq_true h, if_pos rfl, if_pos h, List.map_map]
    refine List.map_congr_left fun k _ => ?_
    show (if k = x then (k, ()) else (k, ())) = (k, ())
    split <;> rfl
  · rw [decide_eq_false h, if_neg Bool.false_ne_true, if_neg h, List.map_append]
    rfl
theorem addNew_snoc (kn vs : List Str) (x : Str) : addNew kn (vs ++ [x]) = addNew (addNew kn vs) [x] := by
  unfold addNew
  rw [List.foldl_append]
def allRels (st : St) : List Str := sortS (addNew (addNew [] (st.rels.map (·.1))) (st.rules.map (·.2.rel)))
def spAllRels (K : PySem.W.Frag) : Sp := fun vs H Q _ => ∃ (p : Addr) (st : St), vs = [.ref p] ∧ StAt K H p st ∧ st.rels.length + st.rules.length < 64 ∧ ∀ (H' : Hp) (q : Addr), Same H H' → H q = none → StrL H' q (allRels st) → Q (.ref q) H'
section
variable {P : Program} {w : World} {K : PySem.W.Frag} {mg : Str → Option Value} {base : Heap}
theorem sc_all_relations : FnScope ["state", "found", "name", "relation", "_"] ["state"] (defScope (topS 34)) := ⟨rfl, rfl, rfl, by decide +kernel, rfl, by decide +kernel, by decide +kernel⟩
theorem ok_all_relations (T : Tx P K mg) : Cal P w K mg base CX0 1 "all_relations" (spAllRels K) := by
  refine cal_of T 26 34 rfl (by decide +kernel) sc_all_relations (fun vs H Q E h => ?_) (fun _ _ _ _ _ _ us hl => match us, hl with | [_], _ => rfl) (fun cdv A outer s H vs Q E hr h => ?_)
  · obtain ⟨p, st, rfl, _⟩ := h
    rfl
  · obtain ⟨p, st, rfl, ⟨ra, fa, ua, da, ⟨dx, hi⟩, hrel, hfac, ⟨us, hu, eu, hus⟩, hden⟩, h64, q⟩ := h
    refine ⟨_, PSs.nox (pss_cons (ps_lock (ps_setDg (rows := false) (i := 1) (own := [("name", 2)]) (g := gName 2) (tt := tYes) (hu_of hr) rfl sc_all_relations.nd rfl rfl (swD_true rfl rfl rfl rfl) (pi_keys (pe_fld (pv 0) rfl)) (blkOk_by (own := [("name", 2)]) (N := ["state", "found", "name", "relation", "_"]) (sc := defScope (topS 34)) (by decide +kernel)) (fun _ _ _ _ _ => (pg_name (i := 2) sc_all_relations.nd rfl (Or.inl rfl))) (fun _ _ _ _ _ => pts_nil) (fun _ _ _ _ _ => pv 2) (fun _ _ _ _ _ => pe_bl)))
    (pss_cons (ps_lock (ps_for PassesOwn.never rfl (pi_values (pe_fld (pv 0) rfl)) (pg_tup rfl (pgs_cons (pg_name (i := 3) sc_all_relations.nd rfl (Or.inl rfl)) (pgs_cons (pg_name (i := 4) sc_all_relations.nd rfl (Or.inl rfl)) (pgs_cons (pg_name (i := 4) sc_all_relations.nd rfl (Or.inl rfl)) pgs_nil))))
    (pss_one (ps_dput (hu_of hr) (pv 1) (pv 3) pe_bl rfl))))
    (pss_one (ps_ret (pe_callB (call_sortedD rfl) (by rfl) (T.fr "sorted") (by decide +kernel) (pa_cons (pv 1) pa_nil)))))), ?_⟩
    refine ⟨ra, _, hrel, trivial, fun od => ?_⟩
    have npr : p ≠ ra := ne_of hi hrel (by intro z; cases z)
    refine ⟨_, rfl, p, _, dx, _, _, rfl, (by rw [upd_ne npr]; exact hi), T.cl, T.na "relations", stF_r ra fa ua da, ra, od, rfl, .inl ⟨_, upd_same, fun D hD => dg_W (walks_keys (l := st.rels) (h := V.int) (d := ra) (o := od)) hD (fun H' s => s _ _ upd_same) (by omega) (fun H' kvs pre => kvs = trueD (addNew [] (pre.map (·.1)))) rfl ?_ ?_⟩⟩
    · rintro pre ⟨n, wd⟩ post kvs H' Nx No el s eD rfl hN _
      refine ⟨rfl, _, rfl, hN (.inr n) _ _ (Same.refl _) ?_⟩
      rw [trueD_put, List.map_append]
      exact congrArg trueD (addNew_snoc _ _ _).symm
    · rintro H1 kvs s eD rfl
      obtain ⟨hf, sH⟩ := lock_back hrel s
      refine ⟨hf, ?_⟩
      have nDr : D ≠ ra := fun z => by
        rw [z, upd_same] at hD
        cases hD
      have nD0 : H D = none := by
        rw [upd_ne nDr] at hD
        exact hD
      have hD1 : upd H1 ra (.dK (encS V.int st.rels)) D = some (.dK (trueD (addNew [] (st.rels.map (·.1))))) := by
        rw [upd_ne nDr]
        exact eD
      -- for relation, _, _ in state.rules.values(): found[relation] = True
      have hu1 := sH _ _ hu
      have npu : p ≠ ua := ne_of hi hu (by intro z; cases z)
      refine ⟨ua, _, hu1, trivial, fun od2 => ?_⟩
      refine ⟨_, rfl, p, _, dx, _, _, rfl, (by rw [upd_ne npu]; exact sH _ _ hi), T.cl, T.na "rules", stF_u ra fa ua da, ua, od2, _, rfl, upd_same, ?_⟩
      have nDu : D ≠ ua := fun z => by
        rw [z, hu] at nD0
        cases nD0
      refine for_W (walks_vals (l := us.map fun q => (q.1, q.2.1)) (h := V.ref) (d := ua) (o := od2)) (fun pre σ H' => ∃ v2 v3 v4 ks, σ = [some (.ref p), some (.ref D), v2, v3, v4] ∧ (∀ b o, b ≠ ua → H b = some o → H' b = some o) ∧ H' ua = some (.frz od2 (.dK (encS V.ref (us.map fun q => (q.1, q.2.1))))) ∧ H' D = some (.dK (trueD ks)) ∧
          ∀ rpre rpost, us = rpre ++ rpost → pre = rpre.map (fun q => (q.1, q.2.1)) → ks = addNew (addNew [] (st.rels.map (·.1))) (rpre.map (·.2.2.rel)))
        ⟨_, _, _, _, rfl, fun b o hb e => (by rw [upd_ne hb]; exact sH _ _ e), upd_same, (by rw [upd_ne nDu]; exact hD1), fun rpre rpost e1 e2 => ?_⟩ (fun pre σ H' ⟨_, _, _, _, _, _, h, _⟩ => h) ?_ ?_
      · have : rpre = [] := by
          cases rpre with
          | nil => rfl
          | cons a b => cases e2
        rw [this]
        rfl
      · rintro pre ⟨n, rp⟩ post σ H' el ⟨v2, v3, v4, ks, rfl, sm, hfz, hD', hks⟩
        obtain ⟨rpre, rrest, e1, e2, e3⟩ := List.map_eq_append_iff.mp el
        obtain ⟨⟨n', rp', ru⟩, rpost, e4, e5, e6⟩ := List.map_eq_cons_iff.mp e3
        obtain ⟨rfl, rfl⟩ := Prod.mk.inj e5
        have hm : (n', rp', ru) ∈ us := by rw [e1, e4]; simp
        obtain ⟨a, b, h1, h2, h3⟩ := hus _ hm
        have h1' : H' rp' = some (.tup [.str ru.rel, .ref a, .ref b]) := sm _ _ (ne_of h1 hu (by intro z; cases z)) h1
        refine ⟨rp', _, rfl, SqT.of_H h1', rfl, _, _, rfl, _, _, rfl, _, _, rfl, rfl, ?_⟩
        have eks := hks rpre rrest e1 e2.symm
        have lks : ks.length ≤ 200 := by
          rw [eks]
          have q1 := addNew_len (rpre.map (·.2.2.rel)) (addNew [] (st.rels.map (·.1)))
          have q2 := addNew_len (st.rels.map (·.1)) []
          rw [List.length_map] at q1 q2
          have q3 := congrArg List.length e1
          rw [List.length_append] at q3
          have q4 := congrArg List.length eu
          rw [List.length_map] at q4
          show _ ≤ 200
          simp only [List.length_nil] at q2
          omega
        have nDu2 : ua ≠ D := fun z => nDu z.symm
        refine ⟨_, rfl, _, rfl, D, _, rfl, DPut.k (k := .inr ru.rel) hD' ?_, ?_⟩
        · unfold trueD
          rw [encS_len, List.length_map, sizeLine_eq]
          omega
        · refine ⟨_, _, _, addNew ks [ru.rel], rfl, fun b o hb e => ?_, by rw [upd_ne nDu2]; exact hfz, by rw [upd_same, trueD_put], fun rpre2 rpost2 q1 q2 => ?_⟩
          · rw [upd_ne (ne_of_none e nD0)]
            exact sm _ _ hb e
          · have e7 : rpre2 = rpre ++ [(n', rp', ru)] := by
              have l1 : rpre2.length = rpre.length + 1 := by
                have z := congrArg List.length q2
                rw [List.length_append, List.length_map, ← e2, List.length_map, List.length_singleton] at z
                omega
              have z1 : us.take (rpre.length + 1) = rpre2 := by rw [q1, ← l1, List.take_left]
              have z2 : us.take (rpre.length + 1) = rpre ++ [(n', rp', ru)] := by
                rw [e1, e4, List.take_append, List.take_of_length_le (by omega)]
                simp
              rw [← z1, z2]
            rw [e7, eks, List.map_append]
            exact (addNew_snoc _ _ _).symm
      · rintro σ H2 ⟨v2, v3, v4, ks, rfl, sm, hfz, hD', hks⟩
        refine ⟨hfz, ?_⟩
        have eks := hks us [] (by rw [List.append_nil]) rfl
        have eks2 : ks = addNew (addNew [] (st.rels.map (·.1))) (st.rules.map (·.2.rel)) := by
          rw [eks, ← eu, List.map_map]
          rfl
        subst eks2
        have sF : Same H (upd H2 ua (.dK (encS V.ref (us.map fun q => (q.1, q.2.1))))) := fun b o e => by
          by_cases hb : b = ua
          · rw [hb, upd_same, ← hu, ← hb]
            exact e
          · rw [upd_ne hb]
            exact sm _ _ hb e
        have lks : (addNew (addNew [] (st.rels.map (·.1))) (st.rules.map (·.2.rel))).length < 64 := by
          have q1 := addNew_len (st.rules.map (·.2.rel)) (addNew [] (st.rels.map (·.1)))
          have q2 := addNew_len (st.rels.map (·.1)) []
          rw [List.length_map] at q1 q2
          simp only [List.length_nil] at q2
          omega
        refine ⟨_, rfl, D, _, _, rfl, .inl (by rw [upd_ne nDu]; exact hD'), trueD_keys _, lks, fun ys l perm srt nl => ?_⟩
        have e := sorted_is perm srt
        subst e
        exact q _ l (sF.trans (same_new nl)) (sF.free nl) upd_same
end
end Rs


set_option Elab.async false
set_option linter.all false
set_option maxRecDepth 100000
set_option maxHeartbeats 2000000
/-! # F10: start_rows, added -/
namespace Rs
open PySem PySem.Spec PyProof.Rows L2
abbrev Kn : Type := List (Str × List Row)
instance decMemRow (r : Row) (rs : List Row) : Decidable (r ∈ rs) := @List.instDecidableMemOfLawfulBEq Row instBEqOfDecidableEq inferInstance r rs
def rowsD (rs : List Row) : List (Row × V) := rs.map fun r => (r, V.bl true)
def addRow (rs : List Row) (r : Row) : List Row := if r ∈ rs then rs else rs ++ [r]
def dedup (rs : List Row) : List Row := rs.foldl addRow []
theorem rowsD_val (rs : List Row) (r : Row) : valV (rowsD rs) r = if r ∈ rs then some (.bl true) else none := by
  induction rs with
  | nil => rfl
  | cons a rs ih =>
    show valV ((a, V.bl true) :: rowsD rs) r = _
    by_cases h : a = r
    · rw [valV_pos (p := (a, V.bl true)) h, if_pos (by rw [h]; exact List.mem_cons_self ..)]
    · rw [valV_neg (p := (a, V.bl true)) h, ih]
      have h' : ¬ r = a := fun z => h z.symm
      by_cases h2 : r ∈ rs
      · rw [if_pos h2, if_pos (List.mem_cons_of_mem _ h2)]
      · rw [if_neg h2, if_neg (by simp [h', h2])]
theorem rowsD_put (rs : List Row) (r : Row) : putK (rowsD rs) r (.bl true) = rowsD (addRow rs r) := by
  unfold putK addRow
  rw [valV_any, rowsD_val]
  by_cases h : r ∈ rs
  · rw [if_pos h, if_pos h, if_pos (show (some (V.bl true)).isSome = true from rfl)]
    unfold rowsD
    rw [List.map_map]
    refine List.map_congr_left fun k _ => ?_
    show (if k = r then (k, V.bl true) else (k, V.bl true)) = (k, V.bl true)
    split <;> rfl
  · rw [if_neg h, if_neg h, if_neg (by simp)]
    unfold rowsD
    rw [List.map_append]
    rfl
theorem put_new {κ β : Type} [DecidableEq κ] {l : List (κ × β)} {k : κ} (v : β) (h : look l k = none) : put l k v = l ++ [(k, v)] := by
  unfold put
  rw [look_any, h, if_neg (by simp)]
theorem addNew_nodup : ∀ (vs kn : List Str), kn.Nodup → (addNew kn vs).Nodup
  | [], _, h => h
  | v :: vs, kn, h => by
    have e : addNew kn (v :: vs) = addNew (if v ∈ kn then kn else kn ++ [v]) vs := rfl
    rw [e]
    refine addNew_nodup vs _ ?_
    split
    · exact h
    · rename_i hv
      rw [List.nodup_append]
      refine ⟨h, by simp, fun a ha b hb => ?_⟩
      rw [List.mem_singleton.mp hb]
      rintro rfl
      exact hv ha
theorem allRels_nodup (st : St) : (allRels st).Nodup := (sortS_perm _).nodup_iff.mpr (addNew_nodup _ _ (addNew_nodup _ _ List.nodup_nil))
/-- what is known: a dict of dicts of rows; the inner dicts are not of H0, and no two are one -/
def KnAt (H0 H : Hp) (k : Addr) (kn : Kn) : Prop := ∃ ps : List (Str × Addr × List Row), H k = some (.dK (encS (fun x : Addr × List Row => V.ref x.1) ps)) ∧ ps.map (fun q => (q.1, q.2.2)) = kn ∧ (∀ q ∈ ps, H q.2.1 = some (.dT (rowsD q.2.2)) ∧ H0 q.2.1 = none) ∧ (ps.map (·.2.1)).Nodup ∧ Same H0 H ∧ H0 k = none
def startM (st : St) : Kn := (allRels st).map fun n => (n, dedup (rowsOf st.facts n))
def spStart (K : PySem.W.Frag) : Sp := fun vs H Q _ => ∃ (p : Addr) (st : St), vs = [.ref p] ∧ StAt K H p st ∧ st.rels.length + st.rules.length < 64 ∧ RowsOk st.facts ∧ ∀ (H' : Hp) (q : Addr), KnAt H H' q (startM st) → Q (.ref q) H'
section
variable {P : Program} {w : World} {K : PySem.W.Frag} {mg : Str → Option Value} {base : Heap}
theorem sc_start_rows : FnScope ["state", "found", "name", "row"] ["state"] (defScope (topS 37)) := ⟨rfl, rfl, rfl, by decide +kernel, rfl, by decide +kernel, by decide +kernel⟩
theorem ok_start_rows (T : Tx P K mg) : Cal P w K mg base CX0 2 "start_rows" (spStart K) := by
  have C1 := ok_all_relations (w := w) (base := base) T
  refine cal_of T 29 37 rfl (by decide +kernel) sc_start_rows (fun vs H Q E h => ?_) (fun _ _ _ _ _ _ us hl => match us, hl with | [_], _ => rfl) (fun cdv A outer s H vs Q E hr h => ?_)
  · obtain ⟨p, st, rfl, _⟩ := h
    rfl
  · obtain ⟨p, st, rfl, hst, h64, hok, q⟩ := h
    refine ⟨_, PSs.nox (pss_cons (ps_set (i := 1) sc_start_rows.nd rfl (Or.inl rfl) pe_dnewK)
    (pss_cons (ps_for PassesOwn.never rfl (pi_list (pe_c C1 hr (pa_cons (pv 0) pa_nil))) (pg_name (i := 2) sc_start_rows.nd rfl (Or.inl rfl))
    (pss_one (ps_dput (hu_of hr) (pv 1) (pv 2) (pe_dg (rows := true) (own := [("row", 3)]) (g := gName 3) (tt := tYes) (hu_of hr) rfl sc_start_rows.nd (pi_list (pe_dget2 (hu_of hr) (pe_fld (pv 0) rfl) (pv 2) (pe_lst pa_nil) ⟨rfl, rfl, rfl, rfl⟩)) (blkOk_by (own := [("row", 3)]) (N := ["state", "found", "name", "row"]) (sc := defScope (topS 37)) (by decide +kernel)) (fun _ _ _ _ _ => (pg_name (i := 3) sc_start_rows.nd rfl (Or.inl rfl))) (fun _ _ _ _ _ => pts_nil) (fun _ _ _ _ _ => pv 3) (fun _ _ _ _ _ => pe_bl)) rfl)))
    (pss_one (ps_ret (pv 1))))), ?_⟩
    refine fun F nF => ?_
    have s0 := same_new (o := .dK []) nF
    refine ⟨_, rfl, p, st, rfl, hst.same s0, h64, fun H1 l s1 nl hl => ?_⟩
    have nlF : l ≠ F := fun z => by
      rw [z, upd_same] at nl
      cases nl
    refine ⟨l, rfl, ⟨_, SqL.of_H hl⟩, for_W (walks_list (K := K) (l := allRels st) (f := V.str)) (fun pre σ H' => ∃ v2 v3 ps, σ = [some (.ref p), some (.ref F), v2, v3] ∧ Same H H' ∧ H' l = some (.lst ((allRels st).map V.str)) ∧ H' F = some (.dK (encS (fun x : Addr × List Row => V.ref x.1) ps)) ∧
        ps.map (fun q => (q.1, q.2.2)) = pre.map (fun n => (n, dedup (rowsOf st.facts n))) ∧ (∀ q ∈ ps, H' q.2.1 = some (.dT (rowsD q.2.2)) ∧ H q.2.1 = none) ∧ (ps.map (·.2.1)).Nodup)
      ⟨none, none, [], rfl, s0.trans s1, hl, s1 _ _ upd_same, rfl, fun q hq => (by cases hq), List.nodup_nil⟩ (fun pre σ H' ⟨_, _, _, _, _, h, _⟩ => SqL.of_H h) ?_ ?_⟩
    · rintro pre n post σ H' el ⟨v2, v3, ps, rfl, sm, hl', hF, hps, hin, hnd⟩
      obtain ⟨ra, fa, ua, da, ⟨dx, hi⟩, hrel, hfac, hrul, hden⟩ := hst.same sm
      refine ⟨_, rfl, p, _, dx, _, _, rfl, hi, T.cl, T.na "facts", stF_f ra fa ua da, fa, rfl, rows_isD hfac, _, rfl, Nat.zero_le _, fun L nL => ?_⟩
      have sL := same_new (o := .lst []) nL
      obtain ⟨o, gg, la, qs, e1, e2, e3, e4, e5⟩ := get_rows2 hfac n sL upd_same
      have z12 := rowsOf_ok hok n
      have lq : qs.length ≤ 1000000 := by
        have := congrArg List.length e4
        rw [List.length_map] at this
        rw [this]
        exact z12.1
      refine ⟨o, gg, la, e1, ⟨_, SqL.of_H e3⟩, fun D nD => dg_WT (walks_list (K := K) (l := qs) (f := fun q : Addr × Row => V.ref q.1)) nD (fun H3 s3 => SqL.of_H (s3 _ _ e3)) lq (fun H3 kvs pre => kvs = rowsD (dedup (pre.map (·.2)))) rfl ?_ ?_⟩
      · rintro rpre ⟨rb, row⟩ rpost kvs H3 Nx No er s3 eD rfl hN _
        have hrow := stays_row.go s3.t (e5 (rb, row) (by rw [er]; simp))
        refine ⟨rfl, _, rfl, hN rb row _ _ (Same.refl _) hrow ?_⟩
        rw [rowsD_put, List.map_append]
        unfold dedup
        rw [List.foldl_append]
        rfl
      · rintro H3 kvs s3 eD rfl
        rw [e4] at eD
        have ss : Same H' H3 := sL.trans s3
        have nD0 : H' D = none := sL.free nD
        have hF3 := ss _ _ hF
        have nDF : D ≠ F := fun z => by
          rw [z, hF] at nD0
          cases nD0
        have lps : ps.length ≤ 64 := by
          have q1 := congrArg List.length hps
          rw [List.length_map, List.length_map] at q1
          have q2 := congrArg List.length el
          rw [List.length_append, List.length_cons] at q2
          have q3 : (allRels st).length ≤ 64 := by
            unfold allRels
            rw [sortS_len]
            have q1 := addNew_len (st.rules.map (·.2.rel)) (addNew [] (st.rels.map (·.1)))
            have q2 := addNew_len (st.rels.map (·.1)) []
            rw [List.length_map] at q1 q2
            simp only [List.length_nil] at q2
            omega
          omega
        refine ⟨_, rfl, _, rfl, F, _, rfl, DPut.k (k := .inr n) hF3 (by rw [encS_len, sizeLine_eq]; omega), ?_⟩
        have hnew : look ps n = none := by
          rw [look_none]
          have : ps.map (·.1) = pre := by
            have q1 := congrArg (List.map Prod.fst) hps
            rw [List.map_map, List.map_map] at q1
            have q2 : List.map (Prod.fst ∘ fun n => (n, dedup (rowsOf st.facts n))) pre = pre := by
              simp [Function.comp_def]
            rw [q2] at q1
            exact q1
          rw [this]
          have nd := allRels_nodup st
          rw [el, List.nodup_append] at nd
          exact fun hm => nd.2.2 n hm n (List.mem_cons_self ..) rfl
        have ep := encS_put (fun x : Addr × List Row => V.ref x.1) ps n (D, dedup (rowsOf st.facts n))
        rw [put_new _ hnew] at ep
        have nF0 : H F = none := nF
        refine ⟨_, _, ps ++ [(n, D, dedup (rowsOf st.facts n))], rfl, fun b o e => ?_, ?_, ?_, ?_, fun qq hq => ?_, ?_⟩
        · rw [upd_ne (ne_of_none e nF0)]
          exact ss _ _ (sm _ _ e)
        · rw [upd_ne nlF]
          exact ss _ _ hl'
        · rw [upd_same]
          exact congrArg (fun z => some (HO.dK z)) ep
        · rw [List.map_append, List.map_append, hps]
          rfl
        · rcases List.mem_append.mp hq with hq | hq
          · obtain ⟨w1, w2⟩ := hin qq hq
            refine ⟨?_, w2⟩
            rw [upd_ne (ne_of w1 hF (by intro z; cases z))]
            exact ss _ _ w1
          · rw [List.mem_singleton.mp hq]
            refine ⟨?_, sm.free nD0⟩
            rw [upd_ne nDF]
            exact eD
        · rw [List.map_append, List.nodup_append]
          refine ⟨hnd, by simp, fun a ha b hb => ?_⟩
          have hb' : b = D := by simpa using hb
          rw [hb']
          rintro rfl
          obtain ⟨qq, hqq, rfl⟩ := List.mem_map.mp ha
          rw [(hin qq hqq).1] at nD0
          cases nD0
    · rintro σ H' ⟨v2, v3, ps, rfl, sm, hl', hF, hps, hin, hnd⟩
      exact ⟨_, rfl, q H' F ⟨ps, hF, hps, hin, hnd, sm, nF⟩⟩
end
end Rs


set_option Elab.async false
set_option linter.all false
set_option maxRecDepth 100000
set_option maxHeartbeats 2000000
/-! # F11: added, rule_rows -/
namespace Rs
open PySem PySem.Spec PyProof.Rows L2
/-- a pair of a relation and a row -/
def PairR (H : Hp) (q : Addr) (x : Str × Row) : Prop := ∃ a, H q = some (.tup [.str x.1, .ref a]) ∧ RowH H a x.2
theorem stays_pairR : Stays PairR := ⟨fun s ⟨a, h1, h2⟩ => ⟨a, s _ _ h1, s _ _ h2⟩⟩
def addOne (kn : Kn) (n : Str) (r : Row) : Kn := kn.map fun q => if q.1 = n then (q.1, addRow q.2 r) else q
def addStep (s : Kn × Bool) (p : Str × Row) : Kn × Bool := if p.2 ∈ rowsOf s.1 p.1 then s else (addOne s.1 p.1 p.2, true)
def addAll (kn : Kn) (prs : List (Str × Row)) : Kn × Bool := prs.foldl addStep (kn, false)
def spAdded : Sp := fun vs H Q _ => ∃ (H0 : Hp) (k q : Addr) (kn : Kn) (prs : List (Str × Row)), vs = [.ref k, .ref q] ∧ KnAt H0 H k kn ∧ LstOf PairR H q prs ∧ (kn.map (·.1)).Nodup ∧ (∀ p ∈ prs, p.1 ∈ kn.map (·.1)) ∧ (∀ x ∈ kn, x.2.length + prs.length ≤ 1000000) ∧ prs.length ≤ 1000000 ∧
  ∀ H', KnAt H0 H' k (addAll kn prs).1 → Q (.bl (addAll kn prs).2) H'
theorem addOne_keys (kn : Kn) (n : Str) (r : Row) : (addOne kn n r).map (·.1) = kn.map (·.1) := by
  unfold addOne
  rw [List.map_map]
  refine List.map_congr_left fun q _ => ?_
  show (if q.1 = n then (q.1, addRow q.2 r) else q).1 = q.1
  split <;> rfl
theorem addStep_keys (s : Kn × Bool) (p : Str × Row) : (addStep s p).1.map (·.1) = s.1.map (·.1) := by
  unfold addStep
  split
  · rfl
  · exact addOne_keys _ _ _
theorem addRow_len (rs : List Row) (r : Row) : (addRow rs r).length ≤ rs.length + 1 := by
  unfold addRow
  split
  · omega
  · rw [List.length_append, List.length_singleton]
    omega
theorem addOne_len {kn : Kn} {n : Str} {r : Row} {b : Nat} (h : ∀ x ∈ kn, x.2.length ≤ b) : ∀ x ∈ addOne kn n r, x.2.length ≤ b + 1 := fun x hx => by
  obtain ⟨q, hq, e⟩ := List.mem_map.mp hx
  have := h q hq
  split at e
  · rw [← e]
    have := addRow_len q.2 r
    show (addRow q.2 r).length ≤ _
    omega
  · rw [← e]
    omega
theorem addStep_len {s : Kn × Bool} {p : Str × Row} {b : Nat} (h : ∀ x ∈ s.1, x.2.length ≤ b) : ∀ x ∈ (addStep s p).1, x.2.length ≤ b + 1 := by
  unfold addStep
  split
  · exact fun x hx => Nat.le_succ_of_le (h x hx)
  · exact addOne_len h
theorem nodup_look {β : Type} {l : List (Str × β)} (hn : (l.map (·.1)).Nodup) {q : Str × β} (hq : q ∈ l) : look l q.1 = some q.2 := by
  induction l with
  | nil => cases hq
  | cons p r ih =>
    rw [List.map_cons, List.nodup_cons] at hn
    rcases List.mem_cons.mp hq with e | hq
    · rw [e]
      exact look_pos rfl
    · rw [look_neg (fun z => hn.1 (by rw [z]; exact List.mem_map_of_mem hq))]
      exact ih hn.2 hq
/-- all but what is known's own -/
theorem KnAt.rest {H0 H : Hp} {k : Addr} {kn : Kn} (h : KnAt H0 H k kn) : ∃ H1, KnAt H1 H k kn ∧ Same H0 H1 ∧ ∀ b o, H b = some o → b ≠ k → (∀ kvs, o ≠ .dT kvs) → H1 b = some o := by
  obtain ⟨ps, h1, h2, h3, h4, h5, h6⟩ := h
  refine ⟨fun b => if b = k ∨ b ∈ ps.map (·.2.1) then none else H b, ⟨ps, h1, h2, fun q hq => ⟨(h3 q hq).1, if_pos (.inr (List.mem_map_of_mem hq))⟩, h4, fun b o e => ?_, if_pos (.inl rfl)⟩, fun b o e => ?_, fun b o e nk nd => ?_⟩
  · have e' : (if b = k ∨ b ∈ ps.map (·.2.1) then none else H b) = some o := e
    split at e'
    · cases e'
    · exact e'
  · have n : ¬ (b = k ∨ b ∈ ps.map (·.2.1)) := by
      rintro (z | z)
      · rw [z, h6] at e
        cases e
      · obtain ⟨q, hq, rfl⟩ := List.mem_map.mp z
        rw [(h3 q hq).2] at e
        cases e
    show (if b = k ∨ b ∈ ps.map (·.2.1) then none else H b) = some o
    rw [if_neg n]
    exact h5 _ _ e
  · have n : ¬ (b = k ∨ b ∈ ps.map (·.2.1)) := by
      rintro (z | z)
      · exact nk z
      · obtain ⟨q, hq, rfl⟩ := List.mem_map.mp z
        rw [(h3 q hq).1] at e
        exact nd _ (Option.some.inj e).symm
    show (if b = k ∨ b ∈ ps.map (·.2.1) then none else H b) = some o
    rw [if_neg n]
    exact e
section
variable {P : Program} {w : World} {K : PySem.W.Frag} {mg : Str → Option Value} {base : Heap}
theorem sc_added : FnScope ["known", "pairs", "changed", "relation", "row"] ["known", "pairs"] (defScope (topS 38)) := ⟨rfl, rfl, rfl, by decide +kernel, rfl, by decide +kernel, by decide +kernel⟩
theorem ok_added (T : Tx P K mg) : Cal P w K mg base CX0 1 "added" spAdded := by
  refine cal_of T 30 38 rfl (by decide +kernel) sc_added (fun vs H Q E h => ?_) (fun _ _ _ _ _ _ us hl => match us, hl with | [_, _], _ => rfl) (fun cdv A outer s H vs Q E hr h => ?_)
  · obtain ⟨H0, k, q, kn, prs, rfl, _⟩ := h
    rfl
  · obtain ⟨H0, k, q, kn, prs, rfl, hkn, ⟨qs, hq, rfl, hqs⟩, hnd, hks, hlen, hpl, fin⟩ := h
    rw [List.length_map] at hpl
    obtain ⟨H1, hk1, s01, hrest⟩ := hkn.rest
    have hq1 : H1 q = some (.lst (qs.map fun q => V.ref q.1)) := by
      obtain ⟨ps, h1, _⟩ := hkn
      exact hrest q _ hq (ne_of hq h1 (by intro z; cases z)) (fun _ z => nomatch z)
    have hqs1 : ∀ x ∈ qs, PairR H1 x.1 x.2 := fun x hx => by
      obtain ⟨a, e1, e2⟩ := hqs x hx
      obtain ⟨ps, h1, _⟩ := hkn
      exact ⟨a, hrest _ _ e1 (ne_of e1 h1 (by intro z; cases z)) (fun _ z => nomatch z), hrest _ _ e2 (ne_of e2 h1 (by intro z; cases z)) (fun _ z => nomatch z)⟩
    refine ⟨_, PSs.nox (pss_cons (ps_set (i := 2) sc_added.nd rfl (Or.inl rfl) pe_bl)
    (pss_cons (ps_for PassesOwn.never rfl (pi_list (pv 1)) (pg_tup rfl (pgs_cons (pg_name (i := 3) sc_added.nd rfl (Or.inl rfl)) (pgs_cons (pg_name (i := 4) sc_added.nd rfl (Or.inl rfl)) pgs_nil)))
    (pss_one (ps_if (pt_cmp (pc_dnotin (hu_of hr) (pv 4) (pe_dget (hu_of hr) (pv 0) (pv 3) (fun _ _ => rfl)))) (pss_cons (ps_dput (hu_of hr) (pe_dget (hu_of hr) (pv 0) (pv 3) (fun _ _ => rfl)) (pv 4) pe_bl rfl)
    (pss_one (ps_set (i := 2) sc_added.nd rfl (Or.inl rfl) pe_bl))) pss_nil)))
    (pss_one (ps_ret (pv 2))))), ?_⟩
    refine ⟨_, rfl, q, rfl, ⟨_, SqL.of_H hq⟩, for_W (walks_list (K := K) (l := qs) (f := fun x : Addr × (Str × Row) => V.ref x.1)) (fun pre σ H' => ∃ v3 v4, σ = [some (.ref k), some (.ref q), some (.bl (addAll kn (pre.map (·.2))).2), v3, v4] ∧ KnAt H1 H' k (addAll kn (pre.map (·.2))).1 ∧ (∀ x ∈ (addAll kn (pre.map (·.2))).1, x.2.length ≤ 1000000 - qs.length + pre.length) ∧ (addAll kn (pre.map (·.2))).1.map (·.1) = kn.map (·.1))
      ⟨none, none, rfl, hk1, fun x hx => (by have := hlen x hx; rw [List.length_map] at this; show x.2.length ≤ _; omega), rfl⟩ (fun pre σ H' ⟨_, _, _, ⟨_, _, _, _, _, sm, _⟩, _⟩ => SqL.of_H (sm _ _ hq1)) ?_ ?_⟩
    · rintro pre ⟨tp, n, r⟩ post σ H' el ⟨v3, v4, rfl, hkn', hb, hkeys⟩
      obtain ⟨ps, h1, h2, h3, h4, h5, h6⟩ := id hkn'
      have hm : (tp, n, r) ∈ qs := by rw [el]; simp
      obtain ⟨a, e1, e2⟩ := hqs1 _ hm
      have e1' := h5 _ _ e1
      have e2' := h5 _ _ e2
      have est : addAll kn ((pre ++ [(tp, n, r)]).map (·.2)) = addStep (addAll kn (pre.map (·.2))) (n, r) := by
        unfold addAll
        rw [List.map_append, List.foldl_append]
        rfl
      have hlq : pre.length + 1 ≤ qs.length := by
        have := congrArg List.length el
        rw [List.length_append, List.length_cons] at this
        omega
      have nds : (ps.map (·.1)).Nodup := by
        have q1 := congrArg (List.map Prod.fst) h2
        rw [List.map_map] at q1
        have q2 : List.map (Prod.fst ∘ fun q : Str × Addr × List Row => (q.1, q.2.2)) ps = ps.map (·.1) := rfl
        rw [q2, hkeys] at q1
        rw [q1]
        exact hnd
      obtain ⟨x, hx, ex⟩ : ∃ x ∈ ps, x.1 = n := by
        have z : n ∈ kn.map (·.1) := hks (n, r) (List.mem_map_of_mem hm)
        rw [← hkeys, ← h2, List.map_map] at z
        obtain ⟨x, hx, e⟩ := List.mem_map.mp z
        exact ⟨x, hx, e⟩
      obtain ⟨n', xa, xr⟩ := x
      have ex' : n' = n := ex
      subst ex'
      have hlook : look ps n' = some (xa, xr) := nodup_look nds hx
      obtain ⟨w1, w2⟩ := h3 _ hx
      have erows : rowsOf (addAll kn (pre.map (·.2))).1 n' = xr := by
        unfold rowsOf
        have q1 : look (ps.map fun q => (q.1, q.2.2)) n' = (look ps n').map (·.2) := look_map (fun q : Addr × List Row => q.2) n' ps
        rw [← h2, q1, hlook]
        rfl
      have dg : DGet H' k (.str n') (some (.ref xa)) := dgetS (f := fun x : Addr × List Row => V.ref x.1) (.inl h1) hlook
      refine ⟨tp, _, rfl, SqT.of_H e1', rfl, _, _, rfl, _, _, rfl, rfl, ?_⟩
      refine ⟨_, rfl, _, rfl, _, rfl, k, _, rfl, dg, xa, _, rfl, DGet.t w1 e2', _, rfl, ?_⟩
      rw [rowsD_val]
      by_cases c : r ∈ xr
      · rw [if_pos c]
        have es : addStep (addAll kn (pre.map (·.2))) (n', r) = addAll kn (pre.map (·.2)) := by
          unfold addStep
          rw [if_pos (by rw [erows]; exact c)]
        refine iteF ⟨some (.str n'), some (.ref a), ?_, ?_, ?_, ?_⟩
        · rw [est, es]
          rfl
        · rw [est, es]
          exact hkn'
        · rw [est, es]
          intro y hy
          have := hb y hy
          rw [List.length_append, List.length_singleton]
          omega
        · rw [est, es]
          exact hkeys
      · rw [if_neg c]
        have es : addStep (addAll kn (pre.map (·.2))) (n', r) = (addOne (addAll kn (pre.map (·.2))).1 n' r, true) := by
          unfold addStep
          rw [if_neg (by rw [erows]; exact c)]
        have hlx : xr.length ≤ 1000000 - qs.length + pre.length := hb (n', xr) (by rw [← h2]; exact List.mem_map_of_mem (f := fun q : Str × Addr × List Row => (q.1, q.2.2)) hx)
        refine iteT ⟨_, rfl, _, rfl, k, _, rfl, dg, _, rfl, xa, _, rfl, DPut.t w1 e2' (by show (rowsD xr).length < _; unfold rowsD; rw [List.length_map, sizeLine_eq]; omega), ?_⟩
        rw [rowsD_put]
        have nxk : xa ≠ k := ne_of w1 h1 (by intro z; cases z)
        refine ⟨some (.str n'), some (.ref a), ?_, ?_, ?_, ?_⟩
        · rw [est, es]
          rfl
        · rw [est, es]
          refine ⟨ps.map fun q => if q.1 = n' then (q.1, q.2.1, addRow q.2.2 r) else q, ?_, ?_, fun y hy => ?_, ?_, fun b o e => ?_, h6⟩
          · rw [upd_ne nxk.symm, h1]
            congr 2
            unfold encS
            rw [List.map_map]
            refine List.map_congr_left fun q _ => ?_
            show _ = ((Sum.inr (if q.1 = n' then (q.1, q.2.1, addRow q.2.2 r) else q).1, V.ref (if q.1 = n' then (q.1, q.2.1, addRow q.2.2 r) else q).2.1) : L2.Key × V)
            split <;> rfl
          · unfold addOne
            rw [← h2, List.map_map, List.map_map]
            refine List.map_congr_left fun q _ => ?_
            show ((if q.1 = n' then (q.1, q.2.1, addRow q.2.2 r) else q).1, (if q.1 = n' then (q.1, q.2.1, addRow q.2.2 r) else q).2.2) = if q.1 = n' then (q.1, addRow q.2.2 r) else (q.1, q.2.2)
            split <;> rfl
          · obtain ⟨z, hz, e⟩ := List.mem_map.mp hy
            obtain ⟨z1, z2⟩ := h3 z hz
            split at e
            · rename_i hn
              have ez : z = (n', xa, xr) := by
                have q1 := nodup_look nds hz
                rw [hn, hlook] at q1
                obtain ⟨zn, zr⟩ := z
                have q2 : (xa, xr) = zr := Option.some.inj q1
                rw [← q2]
                have hn' : zn = n' := hn
                rw [hn']
              rw [← e, ez]
              exact ⟨upd_same, w2⟩
            · rename_i hn
              rw [← e]
              refine ⟨?_, z2⟩
              rw [upd_ne]
              · exact z1
              · intro ea
                apply hn
                have : z = (n', xa, xr) := by
                  -- one address, one entry
                  have q1 : ∀ (l : List (Str × Addr × List Row)), (l.map (·.2.1)).Nodup → ∀ u ∈ l, ∀ v ∈ l, u.2.1 = v.2.1 → u = v := by
                    intro l
                    induction l with
                    | nil => intro _ u hu; cases hu
                    | cons p l ih =>
                      intro hn u hu v hv e
                      rw [List.map_cons, List.nodup_cons] at hn
                      rcases List.mem_cons.mp hu with eu | hu'
                      · rcases List.mem_cons.mp hv with ev | hv'
                        · rw [eu, ev]
                        · rw [eu] at e
                          exact absurd (by rw [e]; exact List.mem_map_of_mem (f := fun q : Str × Addr × List Row => q.2.1) hv') hn.1
                      · rcases List.mem_cons.mp hv with ev | hv'
                        · rw [ev] at e
                          exact absurd (by rw [← e]; exact List.mem_map_of_mem (f := fun q : Str × Addr × List Row => q.2.1) hu') hn.1
                        · exact ih hn.2 u hu' v hv' e
                  exact q1 ps h4 z hz _ hx ea
                rw [this]
          · rw [List.map_map]
            have : (List.map ((fun x : Str × Addr × List Row => x.2.1) ∘ fun q => if q.1 = n' then (q.1, q.2.1, addRow q.2.2 r) else q) ps) = ps.map (·.2.1) := by
              refine List.map_congr_left fun q _ => ?_
              show (if q.1 = n' then (q.1, q.2.1, addRow q.2.2 r) else q).2.1 = q.2.1
              split <;> rfl
            rw [this]
            exact h4
          · rw [upd_ne (ne_of_none e w2)]
            exact h5 _ _ e
        · rw [est, es]
          intro y hy
          have := addOne_len (n := n') (r := r) hb y hy
          rw [List.length_append, List.length_singleton]
          omega
        · rw [est, es]
          show (addOne _ _ _).map _ = _
          rw [addOne_keys]
          exact hkeys
    · rintro σ H' ⟨v3, v4, rfl, hkn', _, _⟩
      refine ⟨_, rfl, fin H' ?_⟩
      obtain ⟨ps, h1, h2, h3, h4, h5, h6⟩ := hkn'
      obtain ⟨ps0, g1, g2, g3, g4, g5, g6⟩ := hkn
      refine ⟨ps, h1, h2, fun x hx => ⟨(h3 x hx).1, s01.free (h3 x hx).2⟩, h4, s01.trans h5, g6⟩
end
end Rs


set_option Elab.async false
set_option linter.all false
set_option maxRecDepth 100000
set_option maxHeartbeats 2000000
/-! # F12: rule_rows -/
namespace Rs
open PySem PySem.Spec PyProof.Rows L2
def ruleM (rows : Kn) (ru : Rule) : List (Str × Row) := (waysM rows ru.body).map fun e => (ru.rel, headM ru.ts e)
def rulesM (rows : Kn) (rules : List Rule) : List (Str × Row) := rules.flatMap (ruleM rows)
def RuleOk (rows : Kn) (ru : Rule) : Prop := ru.body.length ≤ 100 ∧ ru.ts.length ≤ 100 ∧ WaysOk rows ru.body [[]] ∧ ∀ e ∈ waysM rows ru.body, ∀ t ∈ ru.ts, ∃ k, vof t e = some k
def spRR : Sp := fun vs H Q _ => ∃ (pl pr : Addr) (rules : List Rule) (rows : Kn), vs = [.ref pl, .ref pr, .ref pr] ∧ LstOf RuleAt H pl rules ∧ RowsAt H pr rows ∧ RowsOk rows ∧ (∀ ru ∈ rules, RuleOk rows ru) ∧ (rulesM rows rules).length ≤ 1000000 ∧
  ∀ (H' : Hp) (q : Addr), Same H H' → H q = none → LstOf PairR H' q (rulesM rows rules) → Q (.ref q) H'
section
variable {P : Program} {w : World} {K : PySem.W.Frag} {mg : Str → Option Value} {base : Heap}
theorem sc_rule_rows : FnScope ["rules", "rows", "lookups", "found", "relation", "terms", "body", "values", "_"] ["rules", "rows", "lookups"] (defScope (topS 36)) := ⟨rfl, rfl, rfl, by decide +kernel, rfl, by decide +kernel, by decide +kernel⟩
theorem ok_rule_rows (T : Tx P K mg) : Cal P w K mg base CX0 5 "rule_rows" spRR := by
  have C1 := ok_ways (w := w) (base := base) T
  have C2 := ok_head_row (w := w) (base := base) T
  refine cal_of T 28 36 rfl (by decide +kernel) sc_rule_rows (fun vs H Q E h => ?_) (fun _ _ _ _ _ _ us hl => match us, hl with | [_, _, _], _ => rfl) (fun cdv A outer s H vs Q E hr h => ?_)
  · obtain ⟨pl, pr, rules, rows, rfl, _⟩ := h
    rfl
  · obtain ⟨pl, pr, rules, rows, rfl, ⟨ps, hpl, rfl, hps⟩, hrw, hok, hro, hsz, q⟩ := h
    refine ⟨_, PSs.nox (pss_cons (ps_set (i := 3) sc_rule_rows.nd rfl (Or.inl rfl) (pe_lst pa_nil))
    (pss_cons (ps_for PassesOwn.never rfl (pi_list (pv 0)) (pg_tup rfl (pgs_cons (pg_name (i := 4) sc_rule_rows.nd rfl (Or.inl rfl)) (pgs_cons (pg_name (i := 5) sc_rule_rows.nd rfl (Or.inl rfl)) (pgs_cons (pg_name (i := 6) sc_rule_rows.nd rfl (Or.inl rfl)) pgs_nil))))
    (pss_one (ps_for PassesOwn.never rfl (pi_list (pe_c C1 hr (pa_cons (pv 6) (pa_cons (pv 1) (pa_cons (pv 2) pa_nil))))) (pg_tup rfl (pgs_cons (pg_name (i := 7) sc_rule_rows.nd rfl (Or.inl rfl)) (pgs_cons (pg_name (i := 8) sc_rule_rows.nd rfl (Or.inl rfl)) pgs_nil)))
    (pss_one (ps_expr (pe_bm PySem.F.plainAttrs_list PySem.F.slot_list_append PySem.F.type_list_append mt_append (pv 3) (pa_cons (pe_tup (pa_cons (pv 4) (pa_cons (pe_c C2 hr (pa_cons (pv 5) (pa_cons (pv 7) pa_nil))) pa_nil))) pa_nil)))))))
    (pss_one (ps_ret (pv 3))))), ?_⟩
    refine ⟨Nat.zero_le _, fun F nF => ?_⟩
    have s0 := same_new (o := .lst []) nF
    refine ⟨_, rfl, pl, rfl, ⟨_, SqL.of_H (s0 _ _ hpl)⟩, for_W (walks_list (K := K) (l := ps) (f := fun x : Addr × Rule => V.ref x.1)) (fun pre σ H' => ∃ v4 v5 v6 v7 v8, σ = [some (.ref pl), some (.ref pr), some (.ref pr), some (.ref F), v4, v5, v6, v7, v8] ∧ Same H H' ∧ LstOf PairR H' F (rulesM rows (pre.map (·.2))))
      ⟨none, none, none, none, none, rfl, s0, [], upd_same, rfl, fun q hq => by cases hq⟩ (fun pre σ H' ⟨_, _, _, _, _, _, sm, _⟩ => SqL.of_H (sm _ _ hpl)) ?_ ?_⟩
    · rintro pre ⟨rp, ru⟩ post σ H' el ⟨v4, v5, v6, v7, v8, rfl, sm, hL⟩
      have hm : (rp, ru) ∈ ps := by rw [el]; simp
      obtain ⟨a, b, h1, h2, h3⟩ : RuleAt H' rp ru := stays_rule.go sm.t (hps _ hm)
      obtain ⟨o1, o2, o3, o4⟩ := hro ru (List.mem_map_of_mem hm)
      refine ⟨rp, _, rfl, SqT.of_H h1, rfl, _, _, rfl, _, _, rfl, _, _, rfl, rfl, ?_⟩
      have efm : rulesM rows ((pre ++ [(rp, ru)]).map (·.2)) = rulesM rows (pre.map (·.2)) ++ ruleM rows ru := by
        rw [List.map_append]
        exact flatMap_snoc _ _ _
      have hle : (rulesM rows (pre.map (·.2))).length + (ruleM rows ru).length ≤ 1000000 := by
        have := flatMap_le (ruleM rows) (l := ps.map (·.2)) (pre := pre.map (·.2)) (x := ru) (post := post.map (·.2)) (by rw [el]; simp)
        unfold rulesM at hsz ⊢
        omega
      refine ⟨_, rfl, _, rfl, _, rfl, b, pr, ru.body, rows, rfl, h3, o1, hrw.same sm, hok, o3, fun H1 wl s1 nw hw => ?_⟩
      obtain ⟨ws, hwl, ews, hws⟩ := hw
      obtain ⟨ac0, hF0, _, _⟩ := id hL
      have nwF : wl ≠ F := fun z => by
        rw [z, hF0] at nw
        cases nw
      refine ⟨wl, rfl, ⟨_, SqL.of_H hwl⟩, for_W (walks_list (K := K) (l := ws) (f := fun x : Addr × Envr => V.ref x.1)) (fun wpre σ H2 => ∃ v7 v8, σ = [some (.ref pl), some (.ref pr), some (.ref pr), some (.ref F), some (.str ru.rel), some (.ref a), some (.ref b), v7, v8] ∧ Same (hid F H1) H2 ∧ LstOf PairR H2 F (rulesM rows (pre.map (·.2)) ++ (wpre.map (·.2)).map fun e => (ru.rel, headM ru.ts e)))
        ⟨v7, v8, rfl, hid_sub, by rw [List.map_nil, List.map_nil, List.append_nil]; exact hL.same stays_pairR s1⟩ (fun wpre σ H2 ⟨_, _, _, sm2, _⟩ => SqL.of_H (sm2 _ _ (by rw [hid_ne nwF]; exact hwl))) ?_ ?_⟩
      · rintro wpre ⟨wq, e⟩ wpost σ H2 ew ⟨v7, v8, rfl, sm2, ac, hA, hac, hw2⟩
        have hm2 : (wq, e) ∈ ws := by rw [ew]; simp
        have hF1 : H1 F = some (.lst (ac0.map fun q => V.ref q.1)) := s1 _ _ hF0
        obtain ⟨de, te, xs, g1, g2, g3, g4⟩ := ((hws _ hm2).l (hid_way hF1) (Nat.le_refl _)).l sm2.l (Nat.le_refl _)
        refine ⟨wq, _, rfl, SqT.of_H g1, rfl, _, _, rfl, _, _, rfl, rfl, ?_⟩
        have ht2 : TmsAt H2 a ru.ts := stays_tms.go ((s1.t.trans (hid_way hF1).t).trans sm2.t) h2
        have hme : e ∈ waysM rows ru.body := by
          rw [← ews]
          exact List.mem_map_of_mem hm2
        refine ⟨_, rfl, .inl ⟨rfl, _, SqL.of_H hA⟩, _, rfl, _, rfl, _, rfl, a, de, ru.ts, e, rfl, ht2, g2, o2, o4 e hme, fun H3 hp s3 r3 => ?_⟩
        refine ⟨by show 2 ≤ sizeLine; decide, fun TP nTP => ?_⟩
        have sT := same_new (o := .tup [V.str ru.rel, V.ref hp]) nTP
        have hA3 := sT _ _ (s3 _ _ hA)
        have hlen : (ac.map fun q => V.ref q.1).length < sizeLine := by
          have q1 := congrArg List.length hac
          rw [List.length_map, List.length_append, List.length_map, List.length_map] at q1
          have q2 := congrArg List.length ew
          rw [List.length_append, List.length_cons] at q2
          have q3 : ws.length = (ruleM rows ru).length := by
            unfold ruleM
            rw [List.length_map, ← ews, List.length_map]
          rw [List.length_map, sizeLine_eq]
          omega
        refine ⟨F, _, _, rfl, rfl, hA3, hlen, ?_⟩
        refine ⟨_, _, rfl, same_but sm2 s3 hid_self nTP, ?_⟩
        have tF := sameT_lst (o := .lst ((ac.map fun q => V.ref q.1) ++ [V.ref TP])) hA3
        refine ⟨ac ++ [(TP, (ru.rel, headM ru.ts e))], by rw [upd_same]; simp, ?_, fun q hq => ?_⟩
        · rw [List.map_append, hac, List.map_append, List.map_append, List.append_assoc]
          rfl
        · rcases List.mem_append.mp hq with hq | hq
          · exact stays_pairR.go ((s3.trans sT).t.trans tF) (hw2 q hq)
          · rw [List.mem_singleton.mp hq]
            exact ⟨hp, tF _ _ upd_same, tF _ _ (sT _ _ r3)⟩
      · rintro σ H2 ⟨v7, v8, rfl, sm2, hL2⟩
        refine ⟨_, _, _, _, _, rfl, (hid_of (sm.trans s1) nF).trans sm2, ?_⟩
        rw [efm]
        rw [ews] at hL2
        exact hL2
    · rintro σ H' ⟨v4, v5, v6, v7, v8, rfl, sm, hL⟩
      exact ⟨_, rfl, q H' F sm nF hL⟩
end
end Rs


set_option Elab.async false
set_option linter.all false
set_option maxRecDepth 100000
set_option maxHeartbeats 2000000
/-! # F13: levels -/
namespace Rs
open PySem PySem.Spec PyProof.Rows L2
abbrev Lv : Type := List (Str × Int)
def bump (mk b : Bool) : Int := if (b || mk) = true then 1 else 0
def levOne (rel : Str) (mk : Bool) (s : Lv × Bool) (o : Str × Bool) : Lv × Bool :=
  if (look s.1 o.1).getD 0 + bump mk o.2 > (look s.1 rel).getD 0 then (put s.1 rel ((look s.1 o.1).getD 0 + bump mk o.2), true) else s
def levRule (s : Lv × Bool) (ru : Rule) : Lv × Bool := (relsM ru.body).foldl (levOne ru.rel (makesM ru.body)) s
def levPass (rules : List Rule) (f : Lv) : Lv × Bool := rules.foldl levRule (f, false)
def levGo (rules : List Rule) : Nat → Lv → Lv
  | 0, f => f
  | n + 1, f => if (levPass rules f).2 = true then levGo rules n (levPass rules f).1 else (levPass rules f).1
def levelsM (st : St) : Lv := levGo (st.rules.map (·.2)) ((allRels st).length + 1) ((allRels st).map fun n => (n, 0))
def RulesOk (st : St) : Prop := ∀ q ∈ st.rules, BodyOk q.2.body
def spLevels (K : PySem.W.Frag) : Sp := fun vs H Q _ => ∃ (p : Addr) (st : St), vs = [.ref p] ∧ StAt K H p st ∧ st.rels.length + st.rules.length < 64 ∧ RulesOk st ∧ ∀ (H' : Hp) (q : Addr), Same H H' → H q = none → H' q = some (.dK (encS V.int (levelsM st))) → Q (.ref q) H'
theorem encS_map {β γ : Type} (f : γ → V) (g : β → γ) (l : List (Str × β)) : encS f (l.map fun q => (q.1, g q.2)) = encS (fun x => f (g x)) l := by
  unfold encS
  rw [List.map_map]
  rfl
theorem hid_T {A : Addr} {H : Hp} (h : ∀ xs, H A ≠ some (.tup xs)) : SameT H (hid A H) := fun b xs e => by
  rw [hid_ne (fun z => h xs (by rw [← z]; exact e))]
  exact e
theorem levOne_keys {rel : Str} {mk : Bool} {s : Lv × Bool} {o : Str × Bool} (h : rel ∈ s.1.map (·.1)) : (levOne rel mk s o).1.map (·.1) = s.1.map (·.1) := by
  unfold levOne
  split
  · show (put _ _ _).map _ = _
    rw [put_keys, if_pos]
    cases e : look s.1 rel with
    | none => exact absurd h (look_none.mp e)
    | some v => rfl
  · rfl
theorem getD_int (o : Option Int) : (o.map V.int).getD (.int 0) = .int (o.getD 0) := by cases o <;> rfl
section
variable {P : Program} {w : World} {K : PySem.W.Frag} {mg : Str → Option Value} {base : Heap}
theorem sc_levels : FnScope ["state", "found", "name", "changed", "rounds", "relation", "_", "body", "other", "below", "least"] ["state"] (defScope (topS 35)) := ⟨rfl, rfl, rfl, by decide +kernel, rfl, by decide +kernel, by decide +kernel⟩
theorem ok_levels (T : Tx P K mg) : Cal P w K mg base CX0 3 "levels" (spLevels K) := by
  have C1 := ok_all_relations (w := w) (base := base) T
  have C2 := ok_relations_of (w := w) (base := base) T
  have C3 := ok_makes (w := w) (base := base) T
  refine cal_of T 27 35 rfl (by decide +kernel) sc_levels (fun vs H Q E h => ?_) (fun _ _ _ _ _ _ us hl => match us, hl with | [_], _ => rfl) (fun cdv A outer s H vs Q E hr h => ?_)
  · obtain ⟨p, st, rfl, _⟩ := h
    rfl
  · obtain ⟨p, st, rfl, hst, h64, hrk, q⟩ := h
    refine ⟨_, PSs.nox (pss_cons (ps_setDg (rows := false) (i := 1) (own := [("name", 2)]) (g := gName 2) (tt := tYes) (hu_of hr) rfl sc_levels.nd rfl rfl (swD_true rfl rfl rfl rfl) (pi_list (pe_c C1 hr (pa_cons (pv 0) pa_nil))) (blkOk_by (own := [("name", 2)]) (N := ["state", "found", "name", "changed", "rounds", "relation", "_", "body", "other", "below", "least"]) (sc := defScope (topS 35)) (by decide +kernel)) (fun _ _ _ _ _ => (pg_name (i := 2) sc_levels.nd rfl (Or.inl rfl))) (fun _ _ _ _ _ => pts_nil) (fun _ _ _ _ _ => pv 2) (fun _ _ _ _ _ => pe_int))
    (pss_cons (ps_set (i := 3) sc_levels.nd rfl (Or.inl rfl) pe_bl)
    (pss_cons (ps_set (i := 4) sc_levels.nd rfl (Or.inl rfl) pe_int)
    (pss_cons (ps_while PassesOwn.never (PW.pt (pw_and (pt_truth (pv 3) (by intro _; rfl)) (pw_and1 (pt_cmpR op_le (pv 4) (pe_callB call_lenD (by rfl) (T.fr "len") PySem.boot_len (pa_cons (pv 1) pa_nil)) (nomark _))))) (pss_cons (ps_set (i := 3) sc_levels.nd rfl (Or.inl rfl) pe_bl)
    (pss_cons (ps_aug (i := 4) sc_levels.nd rfl (.inl rfl) pe_int ip_add)
    (pss_one (ps_lock (ps_for PassesOwn.never rfl (pi_values (pe_fld (pv 0) rfl)) (pg_tup rfl (pgs_cons (pg_name (i := 5) sc_levels.nd rfl (Or.inl rfl)) (pgs_cons (pg_name (i := 6) sc_levels.nd rfl (Or.inl rfl)) (pgs_cons (pg_name (i := 7) sc_levels.nd rfl (Or.inl rfl)) pgs_nil))))
    (pss_one (ps_for PassesOwn.never rfl (pi_list (pe_c C2 hr (pa_cons (pv 7) pa_nil))) (pg_tup rfl (pgs_cons (pg_name (i := 8) sc_levels.nd rfl (Or.inl rfl)) (pgs_cons (pg_name (i := 9) sc_levels.nd rfl (Or.inl rfl)) pgs_nil)))
    (pss_cons (ps_set (i := 10) sc_levels.nd rfl (Or.inl rfl) (pe_op op_add (pe_dget2 (hu_of hr) (pv 1) (pv 8) pe_int ⟨rfl, rfl, rfl, rfl⟩) (pe_callTy call_int1 (by rfl) (T.fr "int") (by decide +kernel) (pa_cons (pe_or (pv 9) (pe_one (pe_c C3 hr (pa_cons (pv 7) pa_nil)))) pa_nil))))
    (pss_one (ps_if (pt_cmpR op_gt (pv 10) (pe_dget (hu_of hr) (pv 1) (pv 5) (fun _ _ => rfl)) (nomark _)) (pss_cons (ps_dput (hu_of hr) (pv 1) (pv 5) (pv 10) rfl)
    (pss_one (ps_set (i := 3) sc_levels.nd rfl (Or.inl rfl) pe_bl))) pss_nil)))))))))))
    (pss_one (ps_ret (pv 1))))))), ?_⟩
    refine ⟨_, rfl, p, st, rfl, hst, h64, fun H1 l s1 nl hl => ?_⟩
    have lall : (allRels st).length < 64 := by
      unfold allRels
      rw [sortS_len]
      have q1 := addNew_len (st.rules.map (·.2.rel)) (addNew [] (st.rels.map (·.1)))
      have q2 := addNew_len (st.rels.map (·.1)) []
      rw [List.length_map] at q1 q2
      simp only [List.length_nil] at q2
      omega
    refine ⟨l, rfl, ⟨_, SqL.of_H hl⟩, fun F nF => dg_W (walks_list (K := K) (l := allRels st) (f := V.str)) nF (fun H' s => SqL.of_H (s _ _ hl)) (by omega) (fun H' kvs pre => kvs = encS V.int (pre.map fun n => (n, 0))) rfl ?_ ?_⟩
    · rintro pre n post kvs H' Nx No el s eD rfl hN _
      refine ⟨rfl, _, rfl, hN (.inr n) _ _ (Same.refl _) ?_⟩
      have hnew : look (pre.map fun n => (n, (0 : Int))) n = none := by
        rw [look_none, List.map_map]
        have nd := allRels_nodup st
        rw [el, List.nodup_append] at nd
        have : List.map ((fun x : Str × Int => x.1) ∘ fun n => (n, (0 : Int))) pre = pre := by simp [Function.comp_def]
        rw [this]
        exact fun hm => nd.2.2 n hm n (List.mem_cons_self ..) rfl
      have ep := encS_put V.int (pre.map fun n => (n, (0 : Int))) n 0
      rw [put_new _ hnew] at ep
      rw [List.map_append]
      exact ep
    · rintro H2 kvs s2 eD rfl
      have sm0 : Same H H2 := s1.trans s2
      have nF0 : H F = none := s1.free nF
      refine ⟨fun m σ H' => ∃ (f : Lv) (ch : Bool) (r : Nat) (v2 v5 v6 v7 v8 v9 v10 : Option V), σ = [some (.ref p), some (.ref F), v2, some (.bl ch), some (.int (r : Nat)), v5, v6, v7, v8, v9, v10] ∧ Same H H' ∧ H' F = some (.dK (encS V.int f)) ∧ f.map (·.1) = allRels st ∧ r + m = (allRels st).length + 1 ∧
          levelsM st = if ch = true then levGo (st.rules.map (·.2)) m f else f, ⟨(allRels st).length + 1, _, true, 0, _, _, _, _, _, _, _, rfl, sm0, eD, ?_, by omega, rfl⟩, ?_⟩
      · rw [List.map_map]
        simp [Function.comp_def]
      · rintro m σ H' ⟨f, ch, r, v2, v5, v6, v7, v8, v9, v10, rfl, sm, hF, hkeys, hrm, hgo⟩
        refine ⟨_, rfl, ch, rfl, ?_⟩
        have lf : f.length = (allRels st).length := by rw [← hkeys, List.length_map]
        cases ch with
        | false =>
          refine iteF ?_
          refine iteF ⟨_, rfl, q H' F sm nF0 ?_⟩
          rw [hgo]
          exact hF
        | true =>
          refine iteT ⟨_, rfl, _, rfl, F, _, rfl, hF, _, _, rfl, rfl, _, rfl, ?_⟩
          have elen : (encS V.int f).length = (allRels st).length := by rw [encS_len, lf]
          rw [elen]
          by_cases hrl : r ≤ (allRels st).length
          case neg =>
            have e0 : decide ((r : Int) ≤ (((allRels st).length : Nat) : Int)) = false := decide_eq_false (by omega)
            show if decide ((r : Int) ≤ (((allRels st).length : Nat) : Int)) = true then _ else _
            rw [e0]
            refine iteF ⟨_, rfl, q H' F sm nF0 ?_⟩
            have em : m = 0 := by omega
            subst em
            rw [if_pos rfl] at hgo
            rw [hgo]
            exact hF
          have e0 : decide ((r : Int) ≤ (((allRels st).length : Nat) : Int)) = true := decide_eq_true (by omega)
          show if decide ((r : Int) ≤ (((allRels st).length : Nat) : Int)) = true then _ else _
          rw [e0]
          obtain ⟨m', rfl⟩ : ∃ m', m = m' + 1 := ⟨m - 1, by omega⟩
          rw [if_pos rfl] at hgo
          refine iteT ⟨fun σ' H'' => ∃ (f : Lv) (ch : Bool) (v2 v5 v6 v7 v8 v9 v10 : Option V), σ' = [some (.ref p), some (.ref F), v2, some (.bl ch), some (.int ((r + 1 : Nat) : Int)), v5, v6, v7, v8, v9, v10] ∧ Same H H'' ∧ H'' F = some (.dK (encS V.int f)) ∧ f.map (·.1) = allRels st ∧ levelsM st = if ch = true then levGo (st.rules.map (·.2)) m' f else f,
            fun σ' H'' ⟨f, ch, v2, v5, v6, v7, v8, v9, v10, e1, e2, e3, e4, e5⟩ => ⟨m', Nat.lt_succ_self _, f, ch, r + 1, v2, v5, v6, v7, v8, v9, v10, e1, e2, e3, e4, by omega, e5⟩, ?_⟩
          refine ⟨_, rfl, _, _, rfl, rfl, ?_⟩
          obtain ⟨ra, fa, ua, da, ⟨dx, hi⟩, hrel, hfac, ⟨us, hu, eu, hus⟩, hden⟩ := hst.same sm
          rw [encS_map] at hu
          have npu : p ≠ ua := ne_of hi hu (by intro z; cases z)
          have huT : ∀ xs, H' ua ≠ some (.tup xs) := fun xs z => by rw [hu] at z; cases z
          refine ⟨ua, _, hu, trivial, fun od => ?_⟩
          refine ⟨_, rfl, p, _, dx, _, _, rfl, (by rw [upd_ne npu]; exact hi), T.cl, T.na "rules", stF_u ra fa ua da, ua, od, _, rfl, upd_same, ?_⟩
          have nFu : F ≠ ua := fun z => by
            have z2 := hst
            obtain ⟨ra', fa', ua', da', ⟨dx', hi'⟩, _, _, ⟨us', hu', _⟩, _⟩ := z2
            have q1 := sm _ _ hi'
            rw [hi] at q1
            have q2 : stF ra fa ua da = stF ra' fa' ua' da' := by
              injection q1 with q1
              injection q1
            have q3 : ua = ua' := by
              unfold stF at q2
              simp at q2
              exact q2.2.2.1
            rw [z, q3, hu'] at nF0
            cases nF0
          have erules : st.rules.map (·.2) = us.map (·.2.2) := by
            rw [← eu, List.map_map]
            rfl
          refine for_W (walks_vals (l := us) (h := fun x : Addr × Rule => V.ref x.1) (d := ua) (o := od)) (fun pre σ H2 => ∃ (s : Lv × Bool) (v2 v5 v6 v7 v8 v9 v10 : Option V), σ = [some (.ref p), some (.ref F), v2, some (.bl s.2), some (.int ((r + 1 : Nat) : Int)), v5, v6, v7, v8, v9, v10] ∧ Same (hid F (hid ua H')) H2 ∧ H2 ua = some (.frz od (.dK (encS (fun x : Addr × Rule => V.ref x.1) us))) ∧ H2 F = some (.dK (encS V.int s.1)) ∧
              s.1.map (·.1) = allRels st ∧ s = (pre.map (·.2.2)).foldl levRule (f, false))
            ⟨(f, false), v2, v5, v6, v7, v8, v9, v10, rfl, fun b o e => ?_, upd_same, by rw [upd_ne nFu]; exact hF, hkeys, rfl⟩ (fun pre σ H2 ⟨_, _, _, _, _, _, _, _, _, _, h, _⟩ => h) ?_ ?_
          · have hb : b ≠ ua := fun z => by
              have q1 := hid_sub _ _ e
              rw [z, hid_self] at q1
              cases q1
            rw [upd_ne hb]
            exact hid_sub _ _ (hid_sub _ _ e)
          · rintro pre ⟨n, rp, ru⟩ post σ H2 el ⟨sv, w2, w5, w6, w7, w8, w9, w10, rfl, sm2, hfz, hF2, hk2, hs⟩
            have hm : (n, rp, ru) ∈ us := by rw [el]; simp
            have tFu : SameT H' (hid F (hid ua H')) := (hid_T huT).trans (hid_T (fun xs z => by rw [hid_ne nFu, hF] at z; cases z))
            obtain ⟨a, b, h1, h2, h3⟩ : RuleAt H2 rp ru := stays_rule.go (tFu.trans sm2.t) (hus _ hm)
            have hbo : BodyOk ru.body := hrk (n, ru) (by rw [← eu]; exact List.mem_map_of_mem (f := fun q : Str × Addr × Rule => (q.1, q.2.2)) hm)
            have hrel2 : ru.rel ∈ allRels st := by
              unfold allRels
              rw [mem_sortS]
              have key : ∀ (vs kn : List Str) (x : Str), (x ∈ kn ∨ x ∈ vs) → x ∈ addNew kn vs := by
                intro vs
                induction vs with
                | nil =>
                  intro kn x hx
                  exact hx.resolve_right (by intro z; cases z)
                | cons v vs ih =>
                  intro kn x hx
                  have e : addNew kn (v :: vs) = addNew (if v ∈ kn then kn else kn ++ [v]) vs := rfl
                  rw [e]
                  refine ih _ _ ?_
                  by_cases hv : v ∈ kn
                  · rw [if_pos hv]
                    rcases hx with hx | hx
                    · exact .inl hx
                    · rcases List.mem_cons.mp hx with rfl | hx
                      · exact .inl hv
                      · exact .inr hx
                  · rw [if_neg hv]
                    rcases hx with hx | hx
                    · exact .inl (List.mem_append_left _ hx)
                    · rcases List.mem_cons.mp hx with rfl | hx
                      · exact .inl (by simp)
                      · exact .inr hx
              refine key _ _ _ (.inr ?_)
              rw [← eu, List.map_map]
              exact List.mem_map_of_mem (f := fun q : Str × Addr × Rule => q.2.2.rel) hm
            refine ⟨rp, _, rfl, SqT.of_H h1, rfl, _, _, rfl, _, _, rfl, _, _, rfl, rfl, ?_⟩
            refine ⟨_, rfl, b, ru.body, rfl, h3, hbo.1, fun H3 rl s3 nrl ⟨rs, hrl, ers, hrs⟩ => ?_⟩
            have nrF : rl ≠ F := fun z => by
              rw [z, hF2] at nrl
              cases nrl
            have hF3 := s3 _ _ hF2
            have hfz3 := s3 _ _ hfz
            have nuF : ua ≠ F := nFu.symm
            refine ⟨rl, rfl, ⟨_, SqL.of_H hrl⟩, for_W (walks_list (K := K) (l := rs) (f := fun x : Addr × (Str × Bool) => V.ref x.1)) (fun rpre σ H4 => ∃ (s : Lv × Bool) (v2 v6 v8 v9 v10 : Option V), σ = [some (.ref p), some (.ref F), v2, some (.bl s.2), some (.int ((r + 1 : Nat) : Int)), some (.str ru.rel), v6, some (.ref b), v8, v9, v10] ∧ Same (hid F H3) H4 ∧ H4 F = some (.dK (encS V.int s.1)) ∧
                s.1.map (·.1) = allRels st ∧ s = (rpre.map (·.2)).foldl (levOne ru.rel (makesM ru.body)) sv)
              ⟨sv, _, _, _, _, _, rfl, hid_sub, hF3, hk2, rfl⟩ (fun rpre σ H4 ⟨_, _, _, _, _, _, _, sm4, _⟩ => SqL.of_H (sm4 _ _ (by rw [hid_ne nrF]; exact hrl))) ?_ ?_⟩
            · rintro rpre ⟨op, ot, bl⟩ rpost σ H4 er ⟨s4, x2, x6, x8, x9, x10, rfl, sm4, hF4, hk4, hs4⟩
              have hm2 : (op, ot, bl) ∈ rs := by rw [er]; simp
              have tF3 : SameT H3 (hid F H3) := hid_T (fun xs z => by rw [hF3] at z; cases z)
              have hpr : H4 op = some (.tup [.str ot, .bl bl]) := sm4 _ _ (tF3 _ _ (hrs _ hm2))
              have hb4 : BodyAt H4 b ru.body := stays_body.go ((s3.t.trans tF3).trans sm4.t) h3
              obtain ⟨cv, hcv⟩ : ∃ cv, look s4.1 ru.rel = some cv := by
                cases e : look s4.1 ru.rel with
                | none => exact absurd (by rw [hk4]; exact hrel2) (look_none.mp e)
                | some v => exact ⟨v, rfl⟩
              have est : ((rpre ++ [(op, ot, bl)]).map (·.2)).foldl (levOne ru.rel (makesM ru.body)) sv = levOne ru.rel (makesM ru.body) s4 (ot, bl) := by
                rw [List.map_append, List.foldl_append, ← hs4]
                rfl
              refine ⟨op, _, rfl, SqT.of_H hpr, rfl, _, _, rfl, _, _, rfl, rfl, ?_⟩
              refine ⟨_, rfl, F, rfl, .inl ⟨_, .inl hF4⟩, _, rfl, _, dgetS' ot (.inl hF4), ?_⟩
              -- what comes behind the number to be added
              have fin : ∀ (H5 : Hp), Same H4 H5 → ∀ k : Int, k = bump (makesM ru.body) bl →
                  ((H5 F = some (.dK (encS V.int s4.1))) ∧ Same (hid F H3) H5) := fun H5 s5 k _ => ⟨s5 _ _ hF4, sm4.trans s5⟩
              have lput : (encS V.int s4.1).length < sizeLine := by
                have q1 := congrArg List.length hk4
                rw [List.length_map] at q1
                rw [encS_len, sizeLine_eq]
                omega
              have tail : ∀ (H5 : Hp) (k : Int), Same H4 H5 → k = bump (makesM ru.body) bl → ∀ (u : V), u = .int ((look s4.1 ot).getD 0 + k) →
                  (decide ((cv : Int) < (look s4.1 ot).getD 0 + k) = true → levOne ru.rel (makesM ru.body) s4 (ot, bl) = (put s4.1 ru.rel ((look s4.1 ot).getD 0 + k), true)) ∧ (decide ((cv : Int) < (look s4.1 ot).getD 0 + k) = false → levOne ru.rel (makesM ru.body) s4 (ot, bl) = s4) := fun H5 k s5 hk u _ => by
                subst hk
                unfold levOne
                rw [hcv]
                constructor
                · intro z
                  exact if_pos (of_decide_eq_true z)
                · intro z
                  exact if_neg (of_decide_eq_false z)
              have go : ∀ (H5 : Hp) (k : Int), Same H4 H5 → k = bump (makesM ru.body) bl → ∀ y10 : Option V, 
                  ((decide ((cv : Int) < (look s4.1 ot).getD 0 + k) = true → ∃ (s : Lv × Bool) (v2 v6 v8 v9 v10 : Option V), ([some (.ref p), some (.ref F), x2, some (.bl true), some (.int ((r + 1 : Nat) : Int)), some (.str ru.rel), x6, some (.ref b), some (.str ot), some (.bl bl), some (.int ((look s4.1 ot).getD 0 + k))] : L2.St) = [some (.ref p), some (.ref F), v2, some (.bl s.2), some (.int ((r + 1 : Nat) : Int)), some (.str ru.rel), v6, some (.ref b), v8, v9, v10] ∧
                      Same (hid F H3) (upd H5 F (.dK (putK (encS V.int s4.1) (.inr ru.rel) (.int ((look s4.1 ot).getD 0 + k))))) ∧ upd H5 F (.dK (putK (encS V.int s4.1) (.inr ru.rel) (.int ((look s4.1 ot).getD 0 + k)))) F = some (.dK (encS V.int s.1)) ∧ s.1.map (·.1) = allRels st ∧ s = ((rpre ++ [(op, ot, bl)]).map (·.2)).foldl (levOne ru.rel (makesM ru.body)) sv) ∧
                   (decide ((cv : Int) < (look s4.1 ot).getD 0 + k) = false → ∃ (s : Lv × Bool) (v2 v6 v8 v9 v10 : Option V), ([some (.ref p), some (.ref F), x2, some (.bl s4.2), some (.int ((r + 1 : Nat) : Int)), some (.str ru.rel), x6, some (.ref b), some (.str ot), some (.bl bl), some (.int ((look s4.1 ot).getD 0 + k))] : L2.St) = [some (.ref p), some (.ref F), v2, some (.bl s.2), some (.int ((r + 1 : Nat) : Int)), some (.str ru.rel), v6, some (.ref b), v8, v9, v10] ∧
                      Same (hid F H3) H5 ∧ H5 F = some (.dK (encS V.int s.1)) ∧ s.1.map (·.1) = allRels st ∧ s = ((rpre ++ [(op, ot, bl)]).map (·.2)).foldl (levOne ru.rel (makesM ru.body)) sv)) := fun H5 k s5 hk y10 => by
                obtain ⟨t1, t2⟩ := tail H5 k s5 hk _ rfl
                refine ⟨fun z => ?_, fun z => ?_⟩
                · refine ⟨_, x2, x6, some (.str ot), some (.bl bl), some (.int ((look s4.1 ot).getD 0 + k)), ?_, fun b o e => ?_, ?_, ?_, rfl⟩
                  · rw [est, t1 z]
                  · have hb : b ≠ F := fun w => by
                      rw [w, hid_self] at e
                      cases e
                    rw [upd_ne hb]
                    exact s5 _ _ (sm4 _ _ e)
                  · rw [est, t1 z, upd_same, encS_put]
                  · rw [est, levOne_keys (by rw [hk4]; exact hrel2)]
                    exact hk4
                · refine ⟨_, x2, x6, some (.str ot), some (.bl bl), some (.int ((look s4.1 ot).getD 0 + k)), ?_, sm4.trans s5, ?_, ?_, rfl⟩
                  · rw [est, t2 z]
                  · rw [est, t2 z]
                    exact s5 _ _ hF4
                  · rw [est, levOne_keys (by rw [hk4]; exact hrel2)]
                    exact hk4
              cases bl with
              | true =>
                refine ⟨_, rfl, true, rfl, ?_⟩
                refine iteT (.inr ⟨true, rfl, _, _, getD_int _, rfl, ?_⟩)
                refine ⟨_, rfl, _, rfl, _, rfl, F, _, rfl, dgetS (.inl hF4) hcv, _, _, rfl, rfl, _, rfl, ?_⟩
                obtain ⟨g1, g2⟩ := go H4 (if true = true then 1 else 0) (Same.refl _) rfl none
                show if decide ((cv : Int) < (look s4.1 ot).getD 0 + (if true = true then 1 else 0)) = true then _ else _
                cases hd : decide ((cv : Int) < (look s4.1 ot).getD 0 + (if true = true then 1 else 0)) with
                | true => exact iteT ⟨_, rfl, _, rfl, _, rfl, F, _, rfl, DPut.k (k := .inr ru.rel) hF4 lput, g1 hd⟩
                | false => exact iteF (g2 hd)
              | false =>
                refine ⟨_, rfl, false, rfl, ?_⟩
                refine iteF ⟨_, rfl, b, ru.body, rfl, hb4, hbo, fun H5 s5 => .inr ⟨makesM ru.body, rfl, _, _, getD_int _, rfl, ?_⟩⟩
                refine ⟨_, rfl, _, rfl, _, rfl, F, _, rfl, dgetS (.inl (s5 _ _ hF4)) hcv, _, _, rfl, rfl, _, rfl, ?_⟩
                have eb : (if makesM ru.body = true then (1 : Int) else 0) = bump (makesM ru.body) false := by
                  unfold bump
                  rw [Bool.false_or]
                obtain ⟨g1, g2⟩ := go H5 (if makesM ru.body = true then 1 else 0) s5 eb none
                show if decide ((cv : Int) < (look s4.1 ot).getD 0 + (if makesM ru.body = true then 1 else 0)) = true then _ else _
                cases hd : decide ((cv : Int) < (look s4.1 ot).getD 0 + (if makesM ru.body = true then 1 else 0)) with
                | true => exact iteT ⟨_, rfl, _, rfl, _, rfl, F, _, rfl, DPut.k (k := .inr ru.rel) (s5 _ _ hF4) lput, g1 hd⟩
                | false => exact iteF (g2 hd)
            · rintro σ H4 ⟨s4, x2, x6, x8, x9, x10, rfl, sm4, hF4, hk4, hs4⟩
              refine ⟨s4, _, _, _, _, _, _, _, rfl, fun b o e => ?_, ?_, hF4, hk4, ?_⟩
              · have hb : b ≠ F := fun z => by
                  rw [z, hid_self] at e
                  cases e
                exact sm4 _ _ (by rw [hid_ne hb]; exact s3 _ _ (sm2 _ _ e))
              · exact sm4 _ _ (by rw [hid_ne nuF]; exact hfz3)
              · rw [hs4, hs, List.map_append, List.foldl_append]
                rw [ers]
                rfl
          · rintro σ H2 ⟨sv, w2, w5, w6, w7, w8, w9, w10, rfl, sm2, hfz, hF2, hk2, hs⟩
            refine ⟨hfz, sv.1, sv.2, _, _, _, _, _, _, _, rfl, fun b o e => ?_, by rw [upd_ne nFu]; exact hF2, hk2, ?_⟩
            · by_cases hb : b = ua
              · rw [hb, upd_same, ← hu, ← hb]
                exact sm _ _ e
              · rw [upd_ne hb]
                refine sm2 _ _ ?_
                rw [hid_ne (ne_of_none e nF0), hid_ne hb]
                exact sm _ _ e
            · rw [hgo]
              have e1 : levPass (st.rules.map (·.2)) f = sv := by
                rw [hs, erules]
                rfl
              show (if (levPass (st.rules.map (·.2)) f).2 = true then levGo (st.rules.map (·.2)) m' (levPass (st.rules.map (·.2)) f).1 else (levPass (st.rules.map (·.2)) f).1) = _
              rw [e1]
end
end Rs


set_option Elab.async false
set_option linter.all false
set_option maxRecDepth 100000
set_option maxHeartbeats 2000000
/-! # M4: the model's mirror -/
namespace Rs
open PySem PySem.Spec PyProof.Rows L2
def lvRules (st : St) (i : Int) : List Rule := (sortS (st.rules.map (·.1))).filterMap fun n => match look st.rules n with
  | some ru => if (look (levelsM st) ru.rel).getD 0 = i then some ru else none
  | none => none
def stepM (rules : List Rule) (kn : Kn) : Kn × Bool := addAll kn (rulesM kn rules)
def fixGo (rules : List Rule) : Nat → Kn → Kn
  | 0, kn => kn
  | n + 1, kn => if (stepM rules kn).2 = true then fixGo rules n (stepM rules kn).1 else (stepM rules kn).1
def maxLev (st : St) : Int := ((levelsM st).map (·.2)).foldl max 0
def sortRows (l : List Row) : List Row := l.mergeSort fun a b => !rowLt b a
def fullM (st : St) (n : Nat) : Kn := (List.range n).foldl (fun kn (i : Nat) => fixGo (lvRules st (i : Int)) 1000000 kn) (startM st)
def modelM (st : St) : Kn := (fullM st ((maxLev st).toNat + 1)).map fun q => (q.1, sortRows q.2)
/-- what the walk of the model leans on: an invariant of what is known, a measure -/
def ModelOk (st : St) : Prop := ∃ (I : Kn → Prop) (μ : Kn → Nat), I (startM st) ∧ (∀ kn, I kn → μ kn < 1000000 ∧ RowsOk kn ∧ ∀ x ∈ kn, ∀ r ∈ x.2, r ≠ []) ∧
  ∀ kn (i : Nat), I kn → (∀ ru ∈ lvRules st i, RuleOk kn ru) ∧ (rulesM kn (lvRules st i)).length ≤ 1000000 ∧ (∀ x ∈ kn, x.2.length + (rulesM kn (lvRules st i)).length ≤ 1000000) ∧ I (stepM (lvRules st i) kn).1 ∧ ((stepM (lvRules st i) kn).2 = true → μ (stepM (lvRules st i) kn).1 < μ kn)
theorem addAll_keys (kn : Kn) (prs : List (Str × Row)) : (addAll kn prs).1.map (·.1) = kn.map (·.1) := by
  have key : ∀ (l : List (Str × Row)) (s : Kn × Bool), (l.foldl addStep s).1.map (·.1) = s.1.map (·.1) := by
    intro l
    induction l with
    | nil => intro s; rfl
    | cons p l ih =>
      intro s
      rw [List.foldl_cons, ih, addStep_keys]
  exact key prs (kn, false)
theorem fixGo_keys (rules : List Rule) : ∀ (n : Nat) (kn : Kn), (fixGo rules n kn).map (·.1) = kn.map (·.1)
  | 0, _ => rfl
  | n + 1, kn => by
    unfold fixGo
    split
    · rw [fixGo_keys rules n]
      exact addAll_keys _ _
    · exact addAll_keys _ _
theorem startM_keys (st : St) : (startM st).map (·.1) = allRels st := by
  unfold startM
  rw [List.map_map]
  simp [Function.comp_def]
theorem fullM_keys (st : St) (n : Nat) : (fullM st n).map (·.1) = allRels st := by
  unfold fullM
  induction n with
  | zero => exact startM_keys st
  | succ n ih =>
    rw [List.range_succ, List.foldl_append]
    show (fixGo _ _ _).map _ = _
    rw [fixGo_keys, ih]
theorem lvRules_mem {st : St} {i : Int} {ru : Rule} (h : ru ∈ lvRules st i) : ∃ n, (n, ru) ∈ st.rules := by
  unfold lvRules at h
  obtain ⟨n, _, e⟩ := List.mem_filterMap.mp h
  cases hl : look st.rules n with
  | none =>
    rw [hl] at e
    cases e
  | some r =>
    rw [hl] at e
    dsimp only at e
    split at e
    · have : r = ru := Option.some.inj e
      rw [← this]
      exact ⟨n, look_mem hl⟩
    · cases e
theorem addNew_mem : ∀ (vs kn : List Str) (x : Str), x ∈ addNew kn vs ↔ x ∈ kn ∨ x ∈ vs := by
  intro vs
  induction vs with
  | nil =>
    intro kn x
    exact ⟨.inl, fun h => h.resolve_right (by intro z; cases z)⟩
  | cons v vs ih =>
    intro kn x
    have e : addNew kn (v :: vs) = addNew (if v ∈ kn then kn else kn ++ [v]) vs := rfl
    rw [e, ih]
    by_cases hv : v ∈ kn
    · rw [if_pos hv]
      constructor
      · rintro (h | h)
        · exact .inl h
        · exact .inr (List.mem_cons_of_mem _ h)
      · rintro (h | h)
        · exact .inl h
        · rcases List.mem_cons.mp h with rfl | h
          · exact .inl hv
          · exact .inr h
    · rw [if_neg hv]
      constructor
      · rintro (h | h)
        · rcases List.mem_append.mp h with h | h
          · exact .inl h
          · rw [List.mem_singleton.mp h]
            exact .inr (List.mem_cons_self ..)
        · exact .inr (List.mem_cons_of_mem _ h)
      · rintro (h | h)
        · exact .inl (List.mem_append_left _ h)
        · rcases List.mem_cons.mp h with rfl | h
          · exact .inl (by simp)
          · exact .inr h
theorem allRels_mem (st : St) (x : Str) : x ∈ allRels st ↔ x ∈ st.rels.map (·.1) ∨ x ∈ st.rules.map (·.2.rel) := by
  unfold allRels
  rw [mem_sortS, addNew_mem, addNew_mem]
  simp
theorem lvRules_rel {st : St} {i : Int} {ru : Rule} (h : ru ∈ lvRules st i) : ru.rel ∈ allRels st := by
  obtain ⟨n, hn⟩ := lvRules_mem h
  rw [allRels_mem]
  exact .inr (List.mem_map_of_mem (f := fun q : Str × Rule => q.2.rel) hn)
theorem rulesM_rel {kn : Kn} {rules : List Rule} {p : Str × Row} (h : p ∈ rulesM kn rules) : ∃ ru ∈ rules, p.1 = ru.rel := by
  unfold rulesM at h
  obtain ⟨ru, hr, e⟩ := List.mem_flatMap.mp h
  unfold ruleM at e
  obtain ⟨en, _, e⟩ := List.mem_map.mp e
  exact ⟨ru, hr, by rw [← e]⟩
/-! ### the levels' bound -/
theorem look_le {l : Lv} {b : Int} (h : ∀ q ∈ l, q.2 ≤ b) (hb : 0 ≤ b) (x : Str) : (look l x).getD 0 ≤ b := by
  cases e : look l x with
  | none => exact hb
  | some v => exact h _ (look_mem e)
theorem levOne_le {rel : Str} {mk : Bool} {s : Lv × Bool} {o : Str × Bool} {b : Int} (h : ∀ q ∈ s.1, q.2 ≤ b) (hb : 0 ≤ b) : ∀ q ∈ (levOne rel mk s o).1, q.2 ≤ b + 1 := by
  have hbump : bump mk o.2 ≤ 1 := by
    unfold bump
    split <;> omega
  have hl := look_le h hb o.1
  unfold levOne
  split
  · intro q hq
    rcases put_mem hq with e | hq
    · rw [e]
      show (look s.1 o.1).getD 0 + bump mk o.2 ≤ b + 1
      omega
    · have := h q hq
      omega
  · intro q hq
    have := h q hq
    omega
theorem levRule_le {ru : Rule} {s : Lv × Bool} {b : Int} (h : ∀ q ∈ s.1, q.2 ≤ b) (hb : 0 ≤ b) : ∀ q ∈ (levRule s ru).1, q.2 ≤ b + (relsM ru.body).length := by
  unfold levRule
  have key : ∀ (l : List (Str × Bool)) (s : Lv × Bool) (b : Int), (∀ q ∈ s.1, q.2 ≤ b) → 0 ≤ b → ∀ q ∈ (l.foldl (levOne ru.rel (makesM ru.body)) s).1, q.2 ≤ b + l.length := by
    intro l
    induction l with
    | nil =>
      intro s b h _ q hq
      have := h q hq
      simp only [List.length_nil]
      omega
    | cons o l ih =>
      intro s b h hb q hq
      have := ih _ (b + 1) (levOne_le h hb) (by omega) q hq
      simp only [List.length_cons]
      omega
  exact key _ s b h hb
theorem levPass_le {rules : List Rule} {f : Lv} {b : Int} (hr : ∀ ru ∈ rules, ru.body.length ≤ 100) (h : ∀ q ∈ f, q.2 ≤ b) (hb : 0 ≤ b) : ∀ q ∈ (levPass rules f).1, q.2 ≤ b + 100 * rules.length := by
  have key : ∀ (l : List Rule) (s : Lv × Bool) (b : Int), (∀ ru ∈ l, ru.body.length ≤ 100) → (∀ q ∈ s.1, q.2 ≤ b) → 0 ≤ b → ∀ q ∈ (l.foldl levRule s).1, q.2 ≤ b + 100 * l.length := by
    intro l
    induction l with
    | nil =>
      intro s b _ h _ q hq
      have := h q hq
      simp only [List.length_nil]
      omega
    | cons ru l ih =>
      intro s b hr h hb q hq
      have l1 : (relsM ru.body).length ≤ 100 := Nat.le_trans (List.length_filterMap_le _ _) (hr ru (List.mem_cons_self ..))
      have h1 : ∀ q ∈ (levRule s ru).1, q.2 ≤ b + 100 := fun q hq => by
        have := levRule_le h hb q hq
        omega
      have := ih _ (b + 100) (fun x hx => hr x (List.mem_cons_of_mem _ hx)) h1 (by omega) q hq
      simp only [List.length_cons]
      omega
  exact key rules (f, false) b hr h hb
theorem levGo_le {rules : List Rule} (hr : ∀ ru ∈ rules, ru.body.length ≤ 100) (hl : rules.length ≤ 64) : ∀ (n : Nat) (f : Lv) (b : Int), (∀ q ∈ f, q.2 ≤ b) → 0 ≤ b → ∀ q ∈ levGo rules n f, q.2 ≤ b + 6400 * n
  | 0, f, b, h, hb => fun q hq => by
    have := h q hq
    omega
  | n + 1, f, b, h, hb => by
    have h1 : ∀ q ∈ (levPass rules f).1, q.2 ≤ b + 6400 := fun q hq => by
      have := levPass_le hr h hb q hq
      omega
    unfold levGo
    split
    · intro q hq
      have := levGo_le hr hl n _ (b + 6400) h1 (by omega) q hq
      omega
    · intro q hq
      have := h1 q hq
      omega
theorem levels_le {st : St} (hr : RulesOk st) (hl : st.rels.length + st.rules.length < 64) : ∀ q ∈ levelsM st, q.2 ≤ 1000000 := by
  intro q hq
  have lall : (allRels st).length < 64 := by
    unfold allRels
    rw [sortS_len]
    have q1 := addNew_len (st.rules.map (·.2.rel)) (addNew [] (st.rels.map (·.1)))
    have q2 := addNew_len (st.rels.map (·.1)) []
    rw [List.length_map] at q1 q2
    simp only [List.length_nil] at q2
    omega
  have := levGo_le (rules := st.rules.map (·.2)) (fun ru hru => by
    obtain ⟨p, hp, rfl⟩ := List.mem_map.mp hru
    exact (hr p hp).1) (by rw [List.length_map]; omega) ((allRels st).length + 1) ((allRels st).map fun n => (n, 0)) 0 (fun p hp => by
    obtain ⟨n, _, rfl⟩ := List.mem_map.mp hp
    exact Int.le_refl _) (Int.le_refl _) q hq
  omega
theorem max_is {l : List Int} {m : Int} (hm : m ∈ (0 : Int) :: l) (hle : ∀ y ∈ (0 : Int) :: l, y ≤ m) : m = l.foldl max 0 := by
  have key : ∀ (l : List Int) (a : Int), a ≤ l.foldl max a ∧ (∀ y ∈ l, y ≤ l.foldl max a) ∧ (l.foldl max a = a ∨ l.foldl max a ∈ l) := by
    intro l
    induction l with
    | nil => intro a; exact ⟨Int.le_refl _, fun y hy => (by cases hy), .inl rfl⟩
    | cons x l ih =>
      intro a
      obtain ⟨h1, h2, h3⟩ := ih (max a x)
      rw [List.foldl_cons]
      refine ⟨by omega, fun y hy => ?_, ?_⟩
      · rcases List.mem_cons.mp hy with rfl | hy
        · omega
        · exact h2 y hy
      · rcases h3 with h3 | h3
        · rw [h3]
          by_cases c : a ≤ x
          · exact .inr (by rw [Int.max_eq_right c]; exact List.mem_cons_self ..)
          · exact .inl (Int.max_eq_left (by omega))
        · exact .inr (List.mem_cons_of_mem _ h3)
  obtain ⟨h1, h2, h3⟩ := key l 0
  have q1 : m ≤ l.foldl max 0 := by
    rcases List.mem_cons.mp hm with rfl | hm
    · exact h1
    · exact h2 m hm
  have q2 : l.foldl max 0 ≤ m := by
    rcases h3 with h3 | h3
    · rw [h3]
      exact hle 0 (List.mem_cons_self ..)
    · exact hle _ (List.mem_cons_of_mem _ h3)
  omega
theorem maxLev_nn (st : St) : 0 ≤ maxLev st := by
  unfold maxLev
  have key : ∀ (l : List Int) (a : Int), a ≤ l.foldl max a := by
    intro l
    induction l with
    | nil => intro a; exact Int.le_refl _
    | cons x l ih =>
      intro a
      have := ih (max a x)
      rw [List.foldl_cons]
      omega
  exact key _ 0
theorem maxLev_le {st : St} (hr : RulesOk st) (hl : st.rels.length + st.rules.length < 64) : maxLev st ≤ 1000000 := by
  have key : ∀ (l : List Int) (a : Int), a ≤ 1000000 → (∀ y ∈ l, y ≤ 1000000) → l.foldl max a ≤ 1000000 := by
    intro l
    induction l with
    | nil => intro a h _; exact h
    | cons x l ih =>
      intro a h hy
      rw [List.foldl_cons]
      have := hy x (List.mem_cons_self ..)
      exact ih _ (by omega) (fun y h => hy y (List.mem_cons_of_mem _ h))
  refine key _ 0 (by omega) (fun y hy => ?_)
  obtain ⟨q, hq, rfl⟩ := List.mem_map.mp hy
  exact levels_le hr hl q hq
theorem sortP_rows (ps : List (Addr × Row)) : (sortP ps).map (·.2) = sortRows (ps.map (·.2)) := by
  unfold sortP sortRows
  exact List.map_mergeSort (f := fun p : Addr × Row => p.2) (fun _ _ _ _ => rfl)
theorem sortRows_mem {l : List Row} {r : Row} : r ∈ sortRows l ↔ r ∈ l := (List.mergeSort_perm _ _).mem_iff
theorem sortRows_len (l : List Row) : (sortRows l).length = l.length := (List.mergeSort_perm _ _).length_eq
theorem isk_lst {H : Hp} : ∀ {rows : List Row} {bs : List Addr}, IsKeys H (rowsD rows) bs → ∃ ps : List (Addr × Row), bs = ps.map (·.1) ∧ ps.map (·.2) = rows ∧ ∀ q ∈ ps, RowH H q.1 q.2
  | [], [], _ => ⟨[], rfl, rfl, fun q hq => by cases hq⟩
  | r :: rows, b :: bs, h => by
    cases h with
    | cons h1 h2 =>
      obtain ⟨ps, e1, e2, e3⟩ := isk_lst h2
      refine ⟨(b, r) :: ps, by rw [e1]; rfl, by rw [← e2]; rfl, fun q hq => ?_⟩
      rcases List.mem_cons.mp hq with rfl | hq
      · exact h1
      · exact e3 q hq
theorem KnAt.same {H0 H H' : Hp} {k : Addr} {kn : Kn} (s : Same H H') (h : KnAt H0 H k kn) : KnAt H0 H' k kn := by
  obtain ⟨ps, h1, h2, h3, h4, h5, h6⟩ := h
  exact ⟨ps, s _ _ h1, h2, fun q hq => ⟨s _ _ (h3 q hq).1, (h3 q hq).2⟩, h4, h5.trans s, h6⟩
end Rs


set_option Elab.async false
set_option linter.all false
set_option maxRecDepth 100000
set_option maxHeartbeats 2000000
/-! # F14: model -/
namespace Rs
open PySem PySem.Spec PyProof.Rows L2
theorem ix_tupK {X : Cx} {K : PySem.W.Frag} (h : X.K = K) : IxR X (rIxT K) := by
  subst h
  exact ix_tup
theorem pe_fldK {X : Cx} {K : PySem.W.Frag} {o : Expr} {x : Str} {pos : Pos} {to : TE} (h : X.K = K) (ho : PE X o to) (hb : attributeBase o x X.env (eval o X.env) = eval o X.env := by rfl) : PE X (.Attribute o x pos) (tFld K to x) := by
  subst h
  exact pe_fld ho hb
theorem levRule_keys {ks : List Str} {s : Lv × Bool} {ru : Rule} (h : s.1.map (·.1) = ks) (hr : ru.rel ∈ ks) : (levRule s ru).1.map (·.1) = ks := by
  unfold levRule
  have key : ∀ (l : List (Str × Bool)) (s : Lv × Bool), s.1.map (·.1) = ks → (l.foldl (levOne ru.rel (makesM ru.body)) s).1.map (·.1) = ks := by
    intro l
    induction l with
    | nil => intro s h; exact h
    | cons o l ih =>
      intro s h
      exact ih _ ((levOne_keys (by rw [h]; exact hr)).trans h)
  exact key _ s h
theorem levPass_keys {ks : List Str} {rules : List Rule} (hr : ∀ ru ∈ rules, ru.rel ∈ ks) {f : Lv} (h : f.map (·.1) = ks) : (levPass rules f).1.map (·.1) = ks := by
  have key : ∀ (l : List Rule) (s : Lv × Bool), (∀ ru ∈ l, ru.rel ∈ ks) → s.1.map (·.1) = ks → (l.foldl levRule s).1.map (·.1) = ks := by
    intro l
    induction l with
    | nil => intro s _ h; exact h
    | cons o l ih =>
      intro s hr h
      exact ih _ (fun x hx => hr x (List.mem_cons_of_mem _ hx)) (levRule_keys h (hr o (List.mem_cons_self ..)))
  exact key rules (f, false) hr h
theorem levGo_keys {ks : List Str} {rules : List Rule} (hr : ∀ ru ∈ rules, ru.rel ∈ ks) : ∀ (n : Nat) {f : Lv}, f.map (·.1) = ks → (levGo rules n f).map (·.1) = ks
  | 0, f, h => h
  | n + 1, f, h => by
    unfold levGo
    split
    · exact levGo_keys hr n (levPass_keys hr h)
    · exact levPass_keys hr h
theorem levels_keys (st : St) : (levelsM st).map (·.1) = allRels st := by
  refine levGo_keys (fun ru hru => ?_) _ ?_
  · obtain ⟨q, hq, rfl⟩ := List.mem_map.mp hru
    rw [allRels_mem]
    exact .inr (List.mem_map_of_mem (f := fun q : Str × Rule => q.2.rel) hq)
  · rw [List.map_map]
    simp [Function.comp_def]
theorem fixGo_nil : ∀ (n : Nat) (kn : Kn), fixGo [] n kn = kn
  | 0, _ => rfl
  | n + 1, kn => rfl
theorem fullM_succ (st : St) (n : Nat) : fullM st (n + 1) = fixGo (lvRules st (n : Int)) 1000000 (fullM st n) := by
  unfold fullM
  rw [List.range_succ, List.foldl_append]
  rfl
theorem lock_same {H : Hp} {d : Addr} {u : HO} {od : Obj} {b : Addr} {o : HO} (hd : H d = some u) (e : H b = some o) (n : o ≠ u) : upd H d (.frz od u) b = some o := by
  rw [upd_ne (fun z => n (by rw [z, hd] at e; exact (Option.some.inj e).symm))]
  exact e
def spModel (K : PySem.W.Frag) : Sp := fun vs H Q _ => ∃ (p : Addr) (st : St), vs = [.ref p] ∧ StAt K H p st ∧ st.rels.length + st.rules.length < 64 ∧ RulesOk st ∧ RowsOk st.facts ∧ ModelOk st ∧ ∀ (H' : Hp) (q : Addr), Same H H' → RowsAt H' q (modelM st) → Q (.ref q) H'
section
variable {P : Program} {w : World} {K : PySem.W.Frag} {mg : Str → Option Value} {base : Heap}
theorem sc_model : FnScope ["state", "known", "found", "level", "name", "rules", "changed", "rows"] ["state"] (defScope (topS 39)) := ⟨rfl, rfl, rfl, by decide +kernel, rfl, by decide +kernel, by decide +kernel⟩
theorem ok_model (T : Tx P K mg) : Cal P w K mg base CX0 6 "model" (spModel K) := by
  have C1 := ok_start_rows (w := w) (base := base) T
  have C2 := ok_levels (w := w) (base := base) T
  have C3 := ok_added (w := w) (base := base) T
  have C4 := ok_rule_rows (w := w) (base := base) T
  obtain ⟨fdk, FK, gk, kk, bk⟩ := okF_row_key (w := w) (base := base) T
  refine cal_of T 31 39 rfl (by decide +kernel) sc_model (fun vs H Q E h => ?_) (fun _ _ _ _ _ _ us hl => match us, hl with | [_], _ => rfl) (fun cdv A outer s H vs Q E hr h => ?_)
  · obtain ⟨p, st, rfl, _⟩ := h
    rfl
  · obtain ⟨p, st, rfl, hst, h64, hrk, hfk, ⟨I, μ, hI0, hIk, hIs⟩, q⟩ := h
    have hr4 : Room 4 _ := hr.mono (by decide)
    refine ⟨_, PSs.nox (pss_cons (ps_set (i := 1) sc_model.nd rfl (Or.inr rfl) (pe_c C1 hr (pa_cons (pv 0) pa_nil)))
    (pss_cons (ps_set (i := 2) sc_model.nd rfl (Or.inr rfl) (pe_c C2 hr (pa_cons (pv 0) pa_nil)))
    (pss_cons (ps_for PassesOwn.never rfl (pi_range1 (by rfl) (T.fr "range") (pa_cons (pe_op op_add (pe_callB (cr_max rfl) (by rfl) (T.fr "max") (by decide +kernel) (pa_cons (pe_op op_cat (pe_lst (pa_cons pe_int pa_nil))
        (pe_lock (pe_lc (own := [("name", 4)]) (g := gName 4) (tt := tYes) rfl sc_model.nd (pi_keys (pv 2)) (blkOk_by (own := [("name", 4)]) (N := ["state", "known", "found", "level", "name", "rules", "changed", "rows"]) (sc := defScope (topS 39)) (by decide +kernel)) (fun _ _ _ _ _ => (pg_name (i := 4) sc_model.nd rfl (Or.inl rfl))) (fun _ _ _ _ _ => pts_nil) (fun _ _ _ _ _ => (pe_dget (hu_of hr) (pv 2) (pv 4) (fun _ _ => rfl)))))) pa_nil)) pe_int) pa_nil)) (pg_name (i := 3) sc_model.nd rfl (Or.inr rfl))
    (pss_cons (ps_setLc (i := 5) (own := [("name", 4)]) (g := gName 4) (tt := _) rfl sc_model.nd rfl rfl (sw_true rfl rfl rfl (by decide +kernel)) (pi_list (pe_callB (call_sortedD rfl) (by rfl) (T.fr "sorted") (by decide +kernel) (pa_cons (pe_fld (pv 0) rfl) pa_nil))) (blkOk_by (own := [("name", 4)]) (N := ["state", "known", "found", "level", "name", "rules", "changed", "rows"]) (sc := defScope (topS 39)) (by decide +kernel)) (fun _ _ _ _ _ => (pg_name (i := 4) sc_model.nd rfl (Or.inl rfl)))
        (fun _ _ _ _ _ => (pts_one (pt_cmpR op_eq (pe_dget (hu_of hr) (pv 2) (pe_ix (ix_tupK rfl) (pe_dget (hu_of hr) (pe_fldK rfl (pv 0)) (pv 4) (fun _ _ => rfl)) pe_int (fun _ _ => rfl)) (fun _ _ => rfl)) (pv 3) (nomark _)))) (fun _ _ _ _ _ => (pe_dget (hu_of hr) (pe_fldK rfl (pv 0)) (pv 4) (fun _ _ => rfl))))
    (pss_cons (ps_set (i := 6) sc_model.nd rfl (Or.inl rfl) (pe_cmpR op_gt (pe_callB call_len (by rfl) (T.fr "len") PySem.boot_len (pa_cons (pv 5) pa_nil)) pe_int (nomark _)))
    (pss_one (ps_while PassesOwn.never (pt_truth (pv 6) (by intro _; rfl)) (pss_cons (ps_lock (ps_setDg (rows := false) (i := 7) (own := [("name", 4)]) (g := gName 4) (tt := tYes) (hu_of hr) rfl sc_model.nd rfl rfl (swD_true rfl rfl rfl (by decide +kernel)) (pi_keys (pv 1)) (blkOk_by (own := [("name", 4)]) (N := ["state", "known", "found", "level", "name", "rules", "changed", "rows"]) (sc := defScope (topS 39)) (by decide +kernel)) (fun _ _ _ _ _ => (pg_name (i := 4) sc_model.nd rfl (Or.inl rfl))) (fun _ _ _ _ _ => pts_nil) (fun _ _ _ _ _ => pv 4) (fun _ _ _ _ _ => pe_callTy (call_list_dT rfl) (by rfl) (T.fr "list") (by decide +kernel) (pa_cons (pe_dget (hu_of hr) (pv 1) (pv 4) (fun _ _ => rfl)) pa_nil))))
    (pss_one (ps_set (i := 6) sc_model.nd rfl (Or.inl rfl) (pe_c C3 hr (pa_cons (pv 1) (pa_cons (pe_c C4 hr (pa_cons (pv 5) (pa_cons (pv 7) (pa_cons (pv 7) pa_nil)))) pa_nil)))))))))))
    (pss_one (ps_ret (pe_lock (pe_dg (rows := false) (own := [("name", 4)]) (g := gName 4) (tt := tYes) (hu_of hr) rfl sc_model.nd (pi_keys (pv 1)) (blkOk_by (own := [("name", 4)]) (N := ["state", "known", "found", "level", "name", "rules", "changed", "rows"]) (sc := defScope (topS 39)) (by decide +kernel)) (fun _ _ _ _ _ => (pg_name (i := 4) sc_model.nd rfl (Or.inl rfl))) (fun _ _ _ _ _ => pts_nil) (fun _ _ _ _ _ => pv 4)
        (fun _ _ _ _ _ => pe_callBK (cr_sortD rfl FK hr4 bk) (by rfl) (T.fr "sorted") (by decide +kernel) (pa_cons (pe_dget (hu_of hr) (pv 1) (pv 4) (fun _ _ => rfl)) pa_nil) (pk_cons (pe_glob (v := .ref (He.ga K "row_key")) (by rfl) gk rfl) pk_nil))))))))), ?_⟩
    refine ⟨_, rfl, p, st, rfl, hst, h64, hfk, fun H1 k hk => ?_⟩
    have s1 : Same H H1 := by
      obtain ⟨_, _, _, _, _, sm, _⟩ := hk
      exact sm
    refine ⟨_, rfl, p, st, rfl, hst.same s1, h64, hrk, fun H2 g s2 ng hg => ?_⟩
    have lall : (allRels st).length < 64 := by
      unfold allRels
      rw [sortS_len]
      have q1 := addNew_len (st.rules.map (·.2.rel)) (addNew [] (st.rels.map (·.1)))
      have q2 := addNew_len (st.rels.map (·.1)) []
      rw [List.length_map] at q1 q2
      simp only [List.length_nil] at q2
      omega
    have llev : (levelsM st).length < 64 := by
      have := congrArg List.length (levels_keys st)
      rw [List.length_map] at this
      omega
    have ndlev : ((levelsM st).map (·.1)).Nodup := by
      rw [levels_keys]
      exact allRels_nodup st
    refine ⟨by show 1 ≤ sizeLine; decide, fun l0 n0 => ⟨g, _, (same_new n0) _ _ hg, trivial, fun od => ⟨_, rfl, g, od, rfl, .inl ⟨_, upd_same, fun D nD => lc_W (walks_keys (l := levelsM st) (h := V.int) (d := g) (o := od)) nD (fun H' s => s _ _ upd_same) (by omega) (fun H' acc pre => acc = pre.map fun q => V.int q.2) rfl ?_ ?_⟩⟩⟩⟩
    · rintro pre ⟨n, i⟩ post acc H' Nx No el s eD rfl hN _
      have hm : (n, i) ∈ levelsM st := by rw [el]; simp
      refine ⟨rfl, _, rfl, _, rfl, g, _, rfl, dgetS (.inr ⟨od, s _ _ upd_same⟩) (nodup_look ndlev hm), hN _ _ (Same.refl _) ?_⟩
      rw [List.map_append]
      rfl
    · rintro H3 acc s3 eD rfl
      have sl0 := same_new (o := .lst [V.int 0]) n0
      obtain ⟨hf, sB⟩ := lock_back (sl0 _ _ hg) s3
      refine ⟨hf, ?_⟩
      have nDg : D ≠ g := fun z => by
        rw [z, upd_same] at nD
        cases nD
      have hDB : upd H3 g (.dK (encS V.int (levelsM st))) D = some (.lst ((levelsM st).map fun q => V.int q.2)) := by
        rw [upd_ne nDg]
        exact eD
      refine ⟨l0, D, _, _, rfl, rfl, sB _ _ upd_same, hDB, ?_, fun pp npp => ?_⟩
      · rw [List.length_map, sizeLine_eq]
        show 1 + _ ≤ _
        omega
      have spp := same_new (o := .lst ([V.int 0] ++ (levelsM st).map fun q => V.int q.2)) npp
      refine ⟨pp, 0 :: (levelsM st).map (·.2), rfl, SqL.of_H ?_, Nat.succ_pos _, fun m hm hle => ?_⟩
      · rw [upd_same, List.map_cons, List.map_map]
        rfl
      have em : m = maxLev st := max_is hm hle
      subst em
      have mnn := maxLev_nn st
      have mle := maxLev_le hrk h64
      have ss : Same H2 (upd (upd H3 g (.dK (encS V.int (levelsM st)))) pp (.lst ([V.int 0] ++ (levelsM st).map fun q => V.int q.2))) := (sl0.trans sB).trans spp
      refine ⟨_, _, rfl, rfl, _, rfl, by omega, by omega, ?_⟩
      have en : (maxLev st + 1).toNat = (maxLev st).toNat + 1 := by omega
      rw [en]
      refine for_range (lo := 0) (n := (maxLev st).toNat + 1) (fun i σ H' => ∃ v3 v4 v5 v6 v7, σ = [some (.ref p), some (.ref k), some (.ref g), v3, v4, v5, v6, v7] ∧ KnAt H H' k (fullM st i) ∧ H' g = some (.dK (encS V.int (levelsM st))) ∧ I (fullM st i))
        ⟨_, _, _, _, _, rfl, (hk.same s2).same ss, ss _ _ hg, hI0⟩ ?_ ?_
      · rintro i σ H4 hi ⟨v3, v4, v5, v6, v7, rfl, hk4, hg4, hI4⟩
        have sm4 : Same H H4 := by
          obtain ⟨_, _, _, _, _, sm, _⟩ := hk4
          exact sm
        obtain ⟨ra, fa, ua, da, ⟨dx, hi'⟩, hrel, hfac, ⟨us, hu, eu, hus⟩, hden⟩ := hst.same sm4
        rw [encS_map] at hu
        refine ⟨_, rfl, p, _, dx, _, _, rfl, hi', T.cl, T.na "rules", stF_u ra fa ua da, ua, _, us.map (·.1), rfl, .inl hu, encS_keys _ _, ?_, fun ys l perm srt nl => ?_⟩
        · have := congrArg List.length eu
          rw [List.length_map] at this
          rw [List.length_map]
          omega
        have ek : us.map (·.1) = st.rules.map (·.1) := by
          rw [← eu, List.map_map]
          rfl
        have e := sorted_is perm srt
        rw [ek] at e
        subst e
        have sl := same_new (o := .lst ((sortS (st.rules.map (·.1))).map V.str)) nl
        have lnames : (sortS (st.rules.map (·.1))).length < 64 := by
          rw [sortS_len, List.length_map]
          omega
        refine ⟨l, rfl, ⟨_, SqL.of_H upd_same⟩, fun R nR => lc_W (walks_list (K := K) (l := sortS (st.rules.map (·.1))) (f := V.str)) nR (fun H' s => SqL.of_H (s _ _ upd_same)) (by omega) (fun H' acc pre => ∃ ps : List (Addr × Rule), acc = ps.map (fun q => V.ref q.1) ∧ (ps.map (·.2) = pre.filterMap fun n => match look st.rules n with
            | some ru => if (look (levelsM st) ru.rel).getD 0 = ((i : Nat) : Int) then some ru else none
            | none => none) ∧ ∀ q ∈ ps, RuleAt H' q.1 q.2) ⟨[], rfl, rfl, fun q hq => by cases hq⟩ ?_ ?_⟩
        · rintro pre n post acc H5 Nx No el s5 eD5 ⟨ps, rfl, eps, hps⟩ hN hNo
          obtain ⟨ru, hru⟩ : ∃ ru, look st.rules n = some ru := by
            have hm : n ∈ st.rules.map (·.1) := mem_sortS.mp (by rw [el]; simp)
            cases hh : look st.rules n with
            | none => exact absurd hm (look_none.mp hh)
            | some ru => exact ⟨ru, rfl⟩
          have e2 : look (us.map fun q => (q.1, q.2.2)) n = (look us n).map (·.2) := look_map (fun q : Addr × Rule => q.2) n us
          rw [eu, hru] at e2
          cases hl2 : look us n with
          | none =>
            rw [hl2] at e2
            cases e2
          | some qq =>
            rw [hl2] at e2
            have e3 : qq.2 = ru := (Option.some.inj e2).symm
            have s45 : Same H4 H5 := sl.trans s5
            have hrat : RuleAt H5 qq.1 ru := stays_rule.go s45.t (by rw [← e3]; exact hus _ (look_mem hl2))
            obtain ⟨a, b, h1, h2, h3⟩ := id hrat
            have dg : DGet H5 ua (.str n) (some (.ref qq.1)) := dgetS (f := fun x : Addr × Rule => V.ref x.1) (.inl (s45 _ _ hu)) hl2
            have hrr : ru.rel ∈ allRels st := by
              rw [allRels_mem]
              exact .inr (List.mem_map_of_mem (f := fun q : Str × Rule => q.2.rel) (look_mem hru))
            obtain ⟨lv, hlv⟩ : ∃ lv, look (levelsM st) ru.rel = some lv := by
              cases hh : look (levelsM st) ru.rel with
              | none => exact absurd (by rw [levels_keys]; exact hrr) (look_none.mp hh)
              | some v => exact ⟨v, rfl⟩
            refine ⟨rfl, _, rfl, _, rfl, p, _, dx, _, _, rfl, s45 _ _ hi', T.cl, T.na "rules", stF_u ra fa ua da, _, rfl, ua, _, rfl, dg, qq.1, _, 0, _, rfl, rfl, SqT.of_H h1, atI_nat rfl, g, _, rfl, dgetS (.inl (s45 _ _ hg4)) hlv, _, rfl, rfl, _, rfl, ?_⟩
            have ed : decide (V.int lv = V.int (0 + ((i : Nat) : Int))) = decide (lv = ((i : Nat) : Int)) := by
              by_cases z : lv = ((i : Nat) : Int)
              · subst z
                simp
              · rw [decide_eq_false z, decide_eq_false (fun w => z (by have := V.int.inj w; omega))]
            have eone : (match look st.rules n with
                | some ru => if (look (levelsM st) ru.rel).getD 0 = ((i : Nat) : Int) then some ru else none
                | none => none) = if lv = ((i : Nat) : Int) then some ru else none := by
              rw [hru]
              show (if (look (levelsM st) ru.rel).getD 0 = ((i : Nat) : Int) then some ru else none) = _
              rw [hlv]
              rfl
            show if decide (V.int lv = V.int (0 + ((i : Nat) : Int))) = true then _ else _
            rw [ed]
            by_cases c : lv = ((i : Nat) : Int)
            · rw [decide_eq_true c]
              rw [if_pos c] at eone
              refine iteT ⟨_, rfl, p, _, dx, _, _, rfl, s45 _ _ hi', T.cl, T.na "rules", stF_u ra fa ua da, _, rfl, ua, _, rfl, dg, hN _ _ (Same.refl _) ⟨ps ++ [(qq.1, ru)], by simp, ?_, fun q hq => ?_⟩⟩
              · rw [List.map_append, eps, List.filterMap_append]
                congr 1
                rw [List.filterMap_cons, eone]
                rfl
              · have tD := sameT_lst (o := .lst ((ps.map fun q => V.ref q.1) ++ [V.ref qq.1])) eD5
                rcases List.mem_append.mp hq with hq | hq
                · exact stays_rule.go tD (hps q hq)
                · rw [List.mem_singleton.mp hq]
                  exact stays_rule.go tD hrat
            · rw [decide_eq_false c]
              rw [if_neg c] at eone
              refine iteF (hNo _ (Same.refl _) ⟨ps, rfl, ?_, hps⟩)
              rw [List.filterMap_append, List.filterMap_cons, eone, eps]
              simp
        · rintro H5 acc s5 eR ⟨rs, rfl, ers, hrs⟩
          have ers' : rs.map (·.2) = lvRules st ((i : Nat) : Int) := ers
          have s45 : Same H4 H5 := sl.trans s5
          have hk5 := hk4.same s45
          have hg5 := s45 _ _ hg4
          refine ⟨_, rfl, _, _, rfl, .inl ⟨_, SqL.of_H eR, rfl⟩, _, _, rfl, rfl, ?_⟩
          obtain ⟨H6, hk6, s06, hrest⟩ := hk5.rest
          have nRk : R ≠ k := by
            obtain ⟨ps, h1, _⟩ := hk5
            exact ne_of eR h1 (by intro z; cases z)
          have ngk : g ≠ k := fun z => by
            obtain ⟨ps, h1, _, _, _, _, _⟩ := hk
            rw [z, h1] at ng
            cases ng
          have hR6 := hrest _ _ eR nRk (fun _ z => nomatch z)
          have hg6 := hrest _ _ hg5 ngk (fun _ z => nomatch z)
          have t56 : SameT H5 H6 := fun b xs e => by
            obtain ⟨ps, h1, _⟩ := hk5
            exact hrest _ _ e (ne_of e h1 (by intro z; cases z)) (fun _ z => nomatch z)
          have hrs6 : ∀ q ∈ rs, RuleAt H6 q.1 q.2 := fun q hq => stays_rule.go t56 (hrs q hq)
          obtain ⟨m0, hm0⟩ := hIk _ hI4
          have ek4 := fullM_keys st i
          refine ⟨fun m σ H' => ∃ (v4 v7 : Option V) (ch : Bool) (kn : Kn), σ = [some (.ref p), some (.ref k), some (.ref g), some (.int (0 + ((i : Nat) : Int))), v4, some (.ref R), some (.bl ch), v7] ∧ KnAt H6 H' k kn ∧ I kn ∧ kn.map (·.1) = allRels st ∧
              (if ch = true then fixGo (lvRules st ((i : Nat) : Int)) m kn else kn) = fixGo (lvRules st ((i : Nat) : Int)) 1000000 (fullM st i) ∧ (ch = true → μ kn < m),
            ⟨1000000, _, _, decide ((0 : Int) < (((rs.map fun q => V.ref q.1).length : Nat) : Int)), fullM st i, rfl, hk6, hI4, ek4, ?_, fun _ => m0⟩, ?_⟩
          · cases hd : decide ((0 : Int) < (((rs.map fun q => V.ref q.1).length : Nat) : Int)) with
            | true => rfl
            | false =>
              have hz := of_decide_eq_false hd
              rw [List.length_map] at hz
              have : rs = [] := List.length_eq_zero_iff.mp (by omega)
              rw [← ers', this]
              exact (fixGo_nil _ _).symm
          · rintro m σ H7 ⟨w4, w7, ch, kn, rfl, hk7, hI7, ek7, hfx, hmu⟩
            refine ⟨_, rfl, ch, rfl, ?_⟩
            cases ch with
            | false =>
              have hfx' : kn = fixGo (lvRules st ((i : Nat) : Int)) 1000000 (fullM st i) := hfx
              refine iteF ⟨_, _, _, _, _, rfl, ?_, ?_, ?_⟩
              · rw [fullM_succ, ← hfx']
                obtain ⟨ps, h1, h2, h3, h4, h5, h6⟩ := hk7
                obtain ⟨ps0, g1, g2, g3, g4, g5, g6⟩ := hk5
                exact ⟨ps, h1, h2, fun x hx => ⟨(h3 x hx).1, s06.free (h3 x hx).2⟩, h4, s06.trans h5, g6⟩
              · obtain ⟨ps, h1, h2, h3, h4, h5, h6⟩ := hk7
                exact h5 _ _ hg6
              · rw [fullM_succ, ← hfx']
                exact hI7
            | true =>
              have hfx' : fixGo (lvRules st ((i : Nat) : Int)) m kn = fixGo (lvRules st ((i : Nat) : Int)) 1000000 (fullM st i) := hfx
              have hmu' := hmu rfl
              obtain ⟨m', rfl⟩ : ∃ m', m = m' + 1 := ⟨m - 1, by omega⟩
              obtain ⟨i1, i2, i3, i4, i5⟩ := hIs kn i hI7
              obtain ⟨b1, b2, b3⟩ := hIk _ hI7
              refine iteT ⟨fun σ' H'' => ∃ (v4 v7 : Option V) (ch : Bool) (kn : Kn), σ' = [some (.ref p), some (.ref k), some (.ref g), some (.int (0 + ((i : Nat) : Int))), v4, some (.ref R), some (.bl ch), v7] ∧ KnAt H6 H'' k kn ∧ I kn ∧ kn.map (·.1) = allRels st ∧
                  (if ch = true then fixGo (lvRules st ((i : Nat) : Int)) m' kn else kn) = fixGo (lvRules st ((i : Nat) : Int)) 1000000 (fullM st i) ∧ (ch = true → μ kn < m'), fun σ' H'' ⟨v4, v7, ch, kn, e1, e2, e3, e4, e5, e6⟩ => ⟨m', Nat.lt_succ_self _, v4, v7, ch, kn, e1, e2, e3, e4, e5, e6⟩, ?_⟩
              obtain ⟨ps, h1, h2, h3, h4, h5, h6⟩ := id hk7
              have lps : ps.length < 64 := by
                have q1 := congrArg List.length h2
                rw [List.length_map] at q1
                have q2 := congrArg List.length ek7
                rw [List.length_map] at q2
                omega
              have ndps : (ps.map (·.1)).Nodup := by
                have q1 := congrArg (List.map Prod.fst) h2
                rw [List.map_map] at q1
                have q2 : List.map (Prod.fst ∘ fun q : Str × Addr × List Row => (q.1, q.2.2)) ps = ps.map (·.1) := rfl
                rw [q2, ek7] at q1
                rw [q1]
                exact allRels_nodup st
              refine ⟨k, _, h1, trivial, fun od2 => ⟨_, rfl, k, od2, rfl, .inl ⟨_, upd_same, fun D2 nD2 => dg_W (walks_keys (l := ps) (h := fun x : Addr × List Row => V.ref x.1) (d := k) (o := od2)) nD2 (fun H' s => s _ _ upd_same) (by omega) (fun H' kvs pre => ∃ qs : List (Str × Addr × List Row), kvs = encS V.ref (qs.map fun q => (q.1, q.2.1)) ∧ qs.map (fun q => (q.1, q.2.2)) = pre.map (fun q => (q.1, q.2.2)) ∧ ∀ q ∈ qs, LstOf RowH H' q.2.1 q.2.2)
                ⟨[], rfl, rfl, fun q hq => by cases hq⟩ ?_ ?_⟩⟩⟩
              · rintro pre ⟨n, xa, xr⟩ post kvs H8 Nx No el8 s8 eD8 ⟨qs, rfl, eqs, hqs⟩ hN _
                have hm : (n, xa, xr) ∈ ps := by rw [el8]; simp
                have hxa : upd H7 k (.frz od2 (.dK (encS (fun x : Addr × List Row => V.ref x.1) ps))) xa = some (.dT (rowsD xr)) := lock_same h1 (h3 _ hm).1 (by intro z; cases z)
                refine ⟨rfl, _, rfl, _, rfl, _, rfl, k, _, rfl, dgetS (f := fun x : Addr × List Row => V.ref x.1) (.inr ⟨od2, s8 _ _ upd_same⟩) (nodup_look ndps hm), xa, _, rfl, .inl (s8 _ _ hxa), fun lp bs nlp hbs => ?_⟩
                obtain ⟨zs, rfl, ezs, hzs⟩ := isk_lst hbs
                have sn := same_new (o := .lst ((zs.map (·.1)).map V.ref)) nlp
                refine hN (.inr n) _ _ sn ⟨qs ++ [(n, lp, xr)], ?_, ?_, fun q hq => ?_⟩
                · have hnew : look (qs.map fun q => (q.1, q.2.1)) n = none := by
                    rw [look_none, List.map_map]
                    have q1 := congrArg (List.map Prod.fst) eqs
                    rw [List.map_map, List.map_map] at q1
                    have q2 : List.map ((fun x : Str × Addr => x.1) ∘ fun q : Str × Addr × List Row => (q.1, q.2.1)) qs = pre.map (·.1) := q1
                    rw [q2]
                    have nd := ndps
                    rw [el8, List.map_append, List.nodup_append] at nd
                    exact fun hmm => nd.2.2 n hmm n (by simp) rfl
                  have ep := encS_put V.ref (qs.map fun q => (q.1, q.2.1)) n lp
                  rw [put_new _ hnew] at ep
                  rw [List.map_append]
                  exact ep
                · rw [List.map_append, List.map_append, eqs]
                  rfl
                · have tD := sameT_dK (o := .dK (putK (encS V.ref (qs.map fun q => (q.1, q.2.1))) (.inr n) (V.ref lp))) (sn _ _ eD8)
                  rcases List.mem_append.mp hq with hq | hq
                  · obtain ⟨ys, y1, y2, y3⟩ := hqs q hq
                    refine ⟨ys, ?_, y2, fun x hx => stays_row.go (sn.t.trans tD) (y3 x hx)⟩
                    rw [upd_ne (ne_of (sn _ _ y1) (sn _ _ eD8) (by intro z; cases z))]
                    exact sn _ _ y1
                  · rw [List.mem_singleton.mp hq]
                    refine ⟨zs, ?_, ezs, fun x hx => stays_row.go (sn.t.trans tD) (hzs x hx)⟩
                    rw [upd_ne (ne_of upd_same (sn _ _ eD8) (by intro z; cases z)), upd_same, List.map_map]
                    rfl
              · rintro H8 kvs s8 eD8 ⟨qs, rfl, eqs, hqs⟩
                obtain ⟨hfz, sU⟩ := lock_back h1 s8
                refine ⟨hfz, ?_⟩
                have nD2k : D2 ≠ k := fun z => by
                  rw [z, upd_same] at nD2
                  cases nD2
                have tU : SameT H8 (upd H8 k (.dK (encS (fun x : Addr × List Row => V.ref x.1) ps))) := sameT_upd fun xs z => by rw [hfz] at z; cases z
                have hrows : RowsAt (upd H8 k (.dK (encS (fun x : Addr × List Row => V.ref x.1) ps))) D2 kn := by
                  refine ⟨qs, by rw [upd_ne nD2k]; exact eD8, by rw [eqs, h2], fun q hq => ?_⟩
                  obtain ⟨ys, y1, y2, y3⟩ := hqs q hq
                  refine ⟨ys, ?_, y2, fun x hx => stays_row.go tU (y3 x hx)⟩
                  rw [upd_ne (ne_of y1 hfz (by intro z; cases z))]
                  exact y1
                have hkU := hk7.same sU
                have sm6U : Same H6 (upd H8 k (.dK (encS (fun x : Addr × List Row => V.ref x.1) ps))) := h5.trans sU
                refine ⟨_, rfl, _, rfl, _, rfl, _, rfl, R, D2, lvRules st ((i : Nat) : Int), kn, rfl, ⟨rs, sm6U _ _ hR6, ers', fun q hq => stays_rule.go sm6U.t (hrs6 q hq)⟩, hrows, b2, i1, i2, fun H9 q9 s9 n9 hq9 => ?_⟩
                refine ⟨H6, k, q9, kn, rulesM kn (lvRules st ((i : Nat) : Int)), rfl, hkU.same s9, hq9, by rw [ek7]; exact allRels_nodup st, fun pr hpr => ?_, i3, i2, fun H10 hk10 => ?_⟩
                · obtain ⟨ru, hru, e⟩ := rulesM_rel hpr
                  rw [ek7, e]
                  exact lvRules_rel hru
                · have est : fixGo (lvRules st ((i : Nat) : Int)) (m' + 1) kn = if (stepM (lvRules st ((i : Nat) : Int)) kn).2 = true then fixGo (lvRules st ((i : Nat) : Int)) m' (stepM (lvRules st ((i : Nat) : Int)) kn).1 else (stepM (lvRules st ((i : Nat) : Int)) kn).1 := rfl
                  rw [est] at hfx'
                  exact ⟨_, _, _, _, rfl, hk10, i4, (addAll_keys _ _).trans ek7, hfx', fun hc => Nat.lt_of_lt_of_le (i5 hc) (Nat.le_of_lt_succ hmu')⟩
      · rintro σ H4 ⟨v3, v4, v5, v6, v7, rfl, hk4, hg4, hI4⟩
        obtain ⟨ps, h1, h2, h3, h4, h5, h6⟩ := id hk4
        have ek4 := fullM_keys st ((maxLev st).toNat + 1)
        obtain ⟨b1, b2, b3⟩ := hIk _ hI4
        have lps : ps.length < 64 := by
          have q1 := congrArg List.length h2
          rw [List.length_map] at q1
          have q2 := congrArg List.length ek4
          rw [List.length_map] at q2
          omega
        have ndps : (ps.map (·.1)).Nodup := by
          have q1 := congrArg (List.map Prod.fst) h2
          rw [List.map_map] at q1
          have q2 : List.map (Prod.fst ∘ fun q : Str × Addr × List Row => (q.1, q.2.2)) ps = ps.map (·.1) := rfl
          rw [q2, ek4] at q1
          rw [q1]
          exact allRels_nodup st
        refine ⟨k, _, h1, trivial, fun od2 => ⟨_, rfl, k, od2, rfl, .inl ⟨_, upd_same, fun D2 nD2 => dg_W (walks_keys (l := ps) (h := fun x : Addr × List Row => V.ref x.1) (d := k) (o := od2)) nD2 (fun H' s => s _ _ upd_same) (by omega) (fun H' kvs pre => ∃ qs : List (Str × Addr × List Row), kvs = encS V.ref (qs.map fun q => (q.1, q.2.1)) ∧ qs.map (fun q => (q.1, q.2.2)) = pre.map (fun q => (q.1, sortRows q.2.2)) ∧ ∀ q ∈ qs, LstOf RowH H' q.2.1 q.2.2)
          ⟨[], rfl, rfl, fun q hq => by cases hq⟩ ?_ ?_⟩⟩⟩
        · rintro pre ⟨n, xa, xr⟩ post kvs H8 Nx No el8 s8 eD8 ⟨qs, rfl, eqs, hqs⟩ hN _
          have hm : (n, xa, xr) ∈ ps := by rw [el8]; simp
          have hmk : (n, xr) ∈ fullM st ((maxLev st).toNat + 1) := by
            rw [← h2]
            exact List.mem_map_of_mem (f := fun q : Str × Addr × List Row => (q.1, q.2.2)) hm
          have hxa : upd H4 k (.frz od2 (.dK (encS (fun x : Addr × List Row => V.ref x.1) ps))) xa = some (.dT (rowsD xr)) := lock_same h1 (h3 _ hm).1 (by intro z; cases z)
          refine ⟨rfl, _, rfl, _, rfl, _, rfl, k, _, rfl, dgetS (f := fun x : Addr × List Row => V.ref x.1) (.inr ⟨od2, s8 _ _ upd_same⟩) (nodup_look ndps hm), xa, _, rfl, rfl, .inl (s8 _ _ hxa), fun pr hpr => ?_, fun _ pr hpr => ?_, fun zs H9 lq ez hz s9 nlq hlq => ?_⟩
          · obtain ⟨r, hr', rfl⟩ := List.mem_map.mp hpr
            exact Nat.le_trans ((b2 _ hmk).2 r hr') (by decide)
          · obtain ⟨r, hr', rfl⟩ := List.mem_map.mp hpr
            exact b3 _ hmk r hr'
          · have ez' : zs.map (·.2) = xr := by
              rw [ez]
              unfold rowsD
              rw [List.map_map]
              simp [Function.comp_def]
            refine hN (.inr n) _ _ s9 ⟨qs ++ [(n, lq, sortRows xr)], ?_, ?_, fun q hq => ?_⟩
            · have hnew : look (qs.map fun q => (q.1, q.2.1)) n = none := by
                rw [look_none, List.map_map]
                have q1 := congrArg (List.map Prod.fst) eqs
                rw [List.map_map, List.map_map] at q1
                have q2 : List.map ((fun x : Str × Addr => x.1) ∘ fun q : Str × Addr × List Row => (q.1, q.2.1)) qs = pre.map (·.1) := q1
                rw [q2]
                have nd := ndps
                rw [el8, List.map_append, List.nodup_append] at nd
                exact fun hmm => nd.2.2 n hmm n (by simp) rfl
              have ep := encS_put V.ref (qs.map fun q => (q.1, q.2.1)) n lq
              rw [put_new _ hnew] at ep
              rw [List.map_append]
              exact ep
            · rw [List.map_append, List.map_append, eqs]
              rfl
            · have tD := sameT_dK (o := .dK (putK (encS V.ref (qs.map fun q => (q.1, q.2.1))) (.inr n) (V.ref lq))) (s9 _ _ eD8)
              rcases List.mem_append.mp hq with hq | hq
              · obtain ⟨ys, y1, y2, y3⟩ := hqs q hq
                refine ⟨ys, ?_, y2, fun x hx => stays_row.go (s9.t.trans tD) (y3 x hx)⟩
                rw [upd_ne (ne_of (s9 _ _ y1) (s9 _ _ eD8) (by intro z; cases z))]
                exact s9 _ _ y1
              · rw [List.mem_singleton.mp hq]
                refine ⟨sortP zs, ?_, by rw [sortP_rows, ez'], fun x hx => ?_⟩
                · rw [upd_ne (ne_of hlq (s9 _ _ eD8) (by intro z; cases z))]
                  exact hlq
                · exact tD _ _ (s9 _ _ (hz x ((sortP_perm zs).mem_iff.mp hx)))
        · rintro H8 kvs s8 eD8 ⟨qs, rfl, eqs, hqs⟩
          obtain ⟨hfz, sU⟩ := lock_back h1 s8
          refine ⟨hfz, q _ D2 (h5.trans sU) ?_⟩
          have nD2k : D2 ≠ k := fun z => by
            rw [z, upd_same] at nD2
            cases nD2
          have tU : SameT H8 (upd H8 k (.dK (encS (fun x : Addr × List Row => V.ref x.1) ps))) := sameT_upd fun xs z => by rw [hfz] at z; cases z
          refine ⟨qs, by rw [upd_ne nD2k]; exact eD8, ?_, fun q hq => ?_⟩
          · rw [eqs]
            unfold modelM
            rw [← h2, List.map_map]
            rfl
          · obtain ⟨ys, y1, y2, y3⟩ := hqs q hq
            refine ⟨ys, ?_, y2, fun x hx => stays_row.go tU (y3 x hx)⟩
            rw [upd_ne (ne_of y1 hfz (by intro z; cases z))]
            exact y1
end
end Rs


set_option Elab.async false
set_option linter.all false
set_option maxRecDepth 100000
set_option maxHeartbeats 2000000
/-! # M5: items, states as they change, the templates of rules and denials; what is good stays good -/
namespace Rs
open PySem PySem.Spec PyProof.Rows L2
inductive Item where
  | rel (n : Str) (w : Int)
  | fact (n : Str) (r : Row)
  | rule (n : Str) (ru : Rule)
  | den (n : Str) (b : Body)
def ItemAt (H : Hp) (q : Addr) : Item → Prop
  | .rel n w => H q = some (.tup [.str "relation", .str n, .int w])
  | .fact n r => ∃ a, H q = some (.tup [.str "fact", .str n, .ref a]) ∧ RowH H a r
  | .rule n ru => ∃ a b, H q = some (.tup [.str "rule", .str n, .str ru.rel, .ref a, .ref b]) ∧ TmsAt H a ru.ts ∧ BodyAt H b ru.body
  | .den n b => ∃ a, H q = some (.tup [.str "denial", .str n, .ref a]) ∧ BodyAt H a b
theorem stays_item : Stays ItemAt := by
  refine ⟨fun {H H' p x} s h => ?_⟩
  cases x with
  | rel n w => exact s _ _ h
  | fact n r =>
    obtain ⟨a, h1, h2⟩ := h
    exact ⟨a, s _ _ h1, s _ _ h2⟩
  | rule n ru =>
    obtain ⟨a, b, h1, h2, h3⟩ := h
    exact ⟨a, b, s _ _ h1, stays_tms.go s h2, stays_body.go s h3⟩
  | den n b =>
    obtain ⟨a, h1, h2⟩ := h
    exact ⟨a, s _ _ h1, stays_body.go s h2⟩
def emptySt : St := ⟨[], [], [], []⟩
def putM (st : St) : Item → St
  | .rel n w => { st with rels := put st.rels n w }
  | .fact n r => if r ∈ rowsOf st.facts n then st else { st with facts := put st.facts n (rowsOf st.facts n ++ [r]) }
  | .rule n ru => { st with rules := put st.rules n ru }
  | .den n b => { st with dens := put st.dens n b }
def eraseR (r : Row) : List Row → List Row
  | [] => []
  | a :: l => if a = r then l else a :: eraseR r l
theorem eraseR_sub (r : Row) : ∀ l : List Row, (eraseR r l).Sublist l
  | [] => List.Sublist.refl _
  | a :: l => by
    unfold eraseR
    split
    · exact List.sublist_cons_self a l
    · exact (eraseR_sub r l).cons₂ a
def takeM (st : St) (n : Str) (r : Row) : St := if r ∈ rowsOf st.facts n then { st with facts := put st.facts n (eraseR r (rowsOf st.facts n)) } else st
def tidyNames (st : St) : List Str := sortS (st.rels.map (·.1) ++ (st.facts.filter fun q => decide (0 < q.2.length)).map (·.1))
def tidyF (facts : List (Str × List Row)) (names : List Str) : List (Str × List Row) := names.foldl (fun d n => put d n (sortRows (rowsOf facts n))) []
def tidyM (st : St) : St := { st with facts := tidyF st.facts (tidyNames st) }
def allItems (st : St) : List Item :=
  (sortS (st.rels.map (·.1))).map (fun n => .rel n ((look st.rels n).getD 0)) ++
  (sortS (st.facts.map (·.1))).flatMap (fun n => (rowsOf st.facts n).map fun r => .fact n r) ++
  (sortS (st.rules.map (·.1))).map (fun n => .rule n ((look st.rules n).getD ⟨"", [], []⟩)) ++
  (sortS (st.dens.map (·.1))).map (fun n => .den n ((look st.dens n).getD []))
def copyM (st : St) : St := tidyM ((allItems st).foldl putM emptySt)
inductive Chg where
  | comes (i : Item)
  | goes (n : Str) (r : Row)
def chgM (st : St) : Chg → St
  | .comes i => putM st i
  | .goes n r => takeM st n r
def changeM (st : St) (l : List Chg) : St := tidyM (l.foldl chgM (copyM st))
/-! ### the templates -/
def vx : Tm := .var "x"
def vy : Tm := .var "y"
def vz : Tm := .var "z"
def cT (c : Nat) : Tm := .val (.inl (c : Int))
def tmpl (k c : Nat) : Rule := match k with
  | 0 => ⟨"r", [vx, vy], [.fact "p" [vx, vy]]⟩
  | 1 => ⟨"r", [vx, vz], [.fact "r" [vx, vy], .fact "p" [vy, vz]]⟩
  | 2 => ⟨"s", [vx], [.fact "q" [vx], .not_ "r" [vx, vx]]⟩
  | 3 => ⟨"s", [vx], [.fact "p" [vx, .any], .cmp "<" vx (cT c)]⟩
  | 4 => ⟨"t", [vx, vy], [.fact "q" [vx], .cnt "y" "r" [vx, .any]]⟩
  | 5 => ⟨"t", [vx, vy], [.fact "s" [vx], .is_ "y" "+" vx (cT c)]⟩
  | 6 => ⟨"u", [vx], [.fact "t" [vx, vy], .not_ "s" [vy]]⟩
  | 7 => ⟨"u", [cT c], []⟩
  | 8 => ⟨"r", [vy, vx], [.fact "r" [vx, vy]]⟩
  | 9 => ⟨"s", [vy], [.fact "u" [vx], .is_ "y" "*" vx (cT c)]⟩
  | 10 => ⟨"u", [vx], [.fact "q" [vx], .fact "p" [vx, vx]]⟩
  | 11 => ⟨"s", [vx], [.fact "r" [vx, cT c], .cmp "<>" vx (cT c)]⟩
  | 12 => ⟨"w", [vx, vy], [.fact "p" [vx, vy], .not_ "p" [vy, vx], .fact "q" [vy]]⟩
  | 13 => ⟨"w", [vx, vy], [.fact "w" [vx, vz], .fact "w" [vz, vy]]⟩
  | 14 => ⟨"t", [vx, vx], [.fact "w" [vx, vy], .cnt "x" "p" [vy, .any]]⟩
  | _ => ⟨"u", [vx], [.fact "s" [vx], .fact "r" [vx, vy], .cmp ">=" vy vx]⟩
def dtmpl (k c : Nat) : Body := match k with
  | 0 => [.fact "p" [vx, vy], .fact "p" [vy, vx], .cmp "<" vx vy]
  | 1 => [.fact "q" [cT c]]
  | 2 => [.fact "p" [vx, vx], .not_ "q" [vx]]
  | 3 => [.cnt "x" "q" [.any], .cmp ">" vx (cT c)]
  | 4 => [.fact "p" [vx, cT c], .fact "q" [vx]]
  | 5 => [.fact "r" [vx, vx]]
  | 6 => [.not_ "q" [cT c], .fact "p" [vx, vy], .cmp "=" vx (cT c)]
  | _ => [.fact "s" [vx], .fact "p" [vx, vy]]
def baseK : List L2.Key := [.inl 0, .inl 1, .inl 2, .inl 3, .inl 4, .inr "a"]
def rowsP : List Row := baseK.flatMap fun a => baseK.map fun b => [a, b]
def rowsQ : List Row := baseK.map fun a => [a]
def ruleNames : List Str := (List.range 20).map fun k => "n" ++ Str.ofString (toString k)
def denNames : List Str := ["d0", "d1"]
def GoodI : Item → Prop
  | .rel n w => (n = "p" ∧ w = 2) ∨ (n = "q" ∧ w = 1)
  | .fact n r => (n = "p" ∧ r ∈ rowsP) ∨ (n = "q" ∧ r ∈ rowsQ)
  | .rule n ru => n ∈ ruleNames ∧ ∃ k c, k < 16 ∧ c < 5 ∧ ru = tmpl k c
  | .den n b => n ∈ denNames ∧ ∃ k c, k < 8 ∧ c < 5 ∧ b = dtmpl k c
structure GoodS (st : St) : Prop where
  rels : ∀ q ∈ st.rels, GoodI (.rel q.1 q.2)
  relN : (st.rels.map (·.1)).Nodup
  facts : ∀ q ∈ st.facts, (q.1 = "p" ∨ q.1 = "q") ∧ ∀ r ∈ q.2, GoodI (.fact q.1 r)
  factN : (st.facts.map (·.1)).Nodup
  factR : ∀ q ∈ st.facts, q.2.Nodup
  rules : ∀ q ∈ st.rules, GoodI (.rule q.1 q.2)
  ruleN : (st.rules.map (·.1)).Nodup
  dens : ∀ q ∈ st.dens, GoodI (.den q.1 q.2)
  denN : (st.dens.map (·.1)).Nodup
theorem pigeon {α : Type} [DecidableEq α] : ∀ {l m : List α}, l.Nodup → (∀ x ∈ l, x ∈ m) → l.length ≤ m.length
  | [], m, _, _ => Nat.zero_le _
  | a :: l, m, h, hs => by
    rw [List.nodup_cons] at h
    have ha := hs a (List.mem_cons_self ..)
    have := pigeon (m := m.erase a) h.2 fun x hx => (List.mem_erase_of_ne (fun z => h.1 (by rw [← z]; exact hx))).mpr (hs x (List.mem_cons_of_mem _ hx))
    rw [List.length_erase_of_mem ha] at this
    have hp : 0 < m.length := List.length_pos_of_mem ha
    rw [List.length_cons]
    omega
theorem GoodS.empty : GoodS emptySt := ⟨fun q hq => (by cases hq), List.nodup_nil, fun q hq => (by cases hq), List.nodup_nil, fun q hq => (by cases hq), fun q hq => (by cases hq), List.nodup_nil, fun q hq => (by cases hq), List.nodup_nil⟩
theorem rowsOf_mem {f : List (Str × List Row)} {n : Str} {r : Row} (h : r ∈ rowsOf f n) : ∃ rows, (n, rows) ∈ f ∧ r ∈ rows ∧ rowsOf f n = rows := by
  unfold rowsOf at h ⊢
  cases e : look f n with
  | none =>
    rw [e] at h
    cases h
  | some rows =>
    rw [e] at h
    exact ⟨rows, look_mem e, h, rfl⟩
theorem GoodS.rowsOf_nodup {st : St} (h : GoodS st) (n : Str) : (rowsOf st.facts n).Nodup := by
  unfold rowsOf
  cases e : look st.facts n with
  | none => exact List.nodup_nil
  | some rows => exact h.factR _ (look_mem e)
theorem GoodS.rowsOf_good {st : St} (h : GoodS st) {n : Str} {r : Row} (hr : r ∈ rowsOf st.facts n) : GoodI (.fact n r) := by
  obtain ⟨rows, h1, h2, _⟩ := rowsOf_mem hr
  exact (h.facts _ h1).2 r h2
theorem GoodS.putG {st : St} (h : GoodS st) {i : Item} (hi : GoodI i) : GoodS (putM st i) := by
  cases i with
  | rel n w =>
    refine ⟨fun q hq => ?_, put_nodup h.relN, h.facts, h.factN, h.factR, h.rules, h.ruleN, h.dens, h.denN⟩
    rcases put_mem hq with rfl | hq
    · exact hi
    · exact h.rels q hq
  | rule n ru =>
    refine ⟨h.rels, h.relN, h.facts, h.factN, h.factR, fun q hq => ?_, put_nodup h.ruleN, h.dens, h.denN⟩
    rcases put_mem hq with rfl | hq
    · exact hi
    · exact h.rules q hq
  | den n b =>
    refine ⟨h.rels, h.relN, h.facts, h.factN, h.factR, h.rules, h.ruleN, fun q hq => ?_, put_nodup h.denN⟩
    rcases put_mem hq with rfl | hq
    · exact hi
    · exact h.dens q hq
  | fact n r =>
    show GoodS (if r ∈ rowsOf st.facts n then st else { st with facts := put st.facts n (rowsOf st.facts n ++ [r]) })
    split
    · exact h
    · rename_i hr
      refine ⟨h.rels, h.relN, fun q hq => ?_, put_nodup h.factN, fun q hq => ?_, h.rules, h.ruleN, h.dens, h.denN⟩
      · rcases put_mem hq with rfl | hq
        · refine ⟨?_, fun x hx => ?_⟩
          · rcases hi with hi | hi
            · exact .inl hi.1
            · exact .inr hi.1
          · rcases List.mem_append.mp hx with hx | hx
            · exact h.rowsOf_good hx
            · rw [List.mem_singleton.mp hx]
              exact hi
        · exact h.facts q hq
      · rcases put_mem hq with rfl | hq
        · show (rowsOf st.facts n ++ [r]).Nodup
          rw [List.nodup_append]
          refine ⟨h.rowsOf_nodup n, by simp, fun a ha b hb => ?_⟩
          rw [List.mem_singleton.mp hb]
          rintro rfl
          exact hr ha
        · exact h.factR q hq
theorem GoodS.take {st : St} (h : GoodS st) (n : Str) (r : Row) (hn : n = "p" ∨ n = "q") : GoodS (takeM st n r) := by
  unfold takeM
  split
  · refine ⟨h.rels, h.relN, fun q hq => ?_, put_nodup h.factN, fun q hq => ?_, h.rules, h.ruleN, h.dens, h.denN⟩
    · rcases put_mem hq with rfl | hq
      · exact ⟨hn, fun x hx => h.rowsOf_good ((eraseR_sub _ _).subset hx)⟩
      · exact h.facts q hq
    · rcases put_mem hq with rfl | hq
      · exact (eraseR_sub _ _).nodup (h.rowsOf_nodup n)
      · exact h.factR q hq
  · exact h
theorem tidyF_mem {f : List (Str × List Row)} {names : List Str} {q : Str × List Row} (h : q ∈ tidyF f names) : q.1 ∈ names ∧ q.2 = sortRows (rowsOf f q.1) := by
  have key : ∀ (l : List Str) (d : List (Str × List Row)), (∀ q ∈ d, q.1 ∈ names ∧ q.2 = sortRows (rowsOf f q.1)) → (∀ n ∈ l, n ∈ names) → ∀ q ∈ l.foldl (fun d n => Rs.put d n (sortRows (rowsOf f n))) d, q.1 ∈ names ∧ q.2 = sortRows (rowsOf f q.1) := by
    intro l
    induction l with
    | nil => intro d hd _; exact hd
    | cons n l ih =>
      intro d hd hl
      refine ih _ (fun q hq => ?_) (fun x hx => hl x (List.mem_cons_of_mem _ hx))
      rcases put_mem hq with rfl | hq
      · exact ⟨hl n (List.mem_cons_self ..), rfl⟩
      · exact hd q hq
  exact key names [] (fun q hq => by cases hq) (fun _ h => h) q h
theorem tidyF_nodup (f : List (Str × List Row)) (names : List Str) : ((tidyF f names).map (·.1)).Nodup := by
  have key : ∀ (l : List Str) (d : List (Str × List Row)), (d.map (·.1)).Nodup → ((l.foldl (fun d n => Rs.put d n (sortRows (rowsOf f n))) d).map (·.1)).Nodup := by
    intro l
    induction l with
    | nil => intro d hd; exact hd
    | cons n l ih =>
      intro d hd
      exact ih _ (put_nodup hd)
  exact key names [] List.nodup_nil
theorem GoodS.names {st : St} (h : GoodS st) {n : Str} (hn : n ∈ tidyNames st) : n = "p" ∨ n = "q" := by
  unfold tidyNames at hn
  rw [mem_sortS] at hn
  rcases List.mem_append.mp hn with hn | hn
  · obtain ⟨q, hq, rfl⟩ := List.mem_map.mp hn
    rcases h.rels q hq with z | z
    · exact .inl z.1
    · exact .inr z.1
  · obtain ⟨q, hq, rfl⟩ := List.mem_map.mp hn
    exact (h.facts q (List.mem_filter.mp hq).1).1
theorem GoodS.tidy {st : St} (h : GoodS st) : GoodS (tidyM st) := by
  refine ⟨h.rels, h.relN, fun q hq => ?_, tidyF_nodup _ _, fun q hq => ?_, h.rules, h.ruleN, h.dens, h.denN⟩
  · obtain ⟨h1, h2⟩ := tidyF_mem hq
    refine ⟨h.names h1, fun r hr => ?_⟩
    rw [h2, sortRows_mem] at hr
    exact h.rowsOf_good hr
  · obtain ⟨h1, h2⟩ := tidyF_mem hq
    rw [h2]
    exact (List.mergeSort_perm _ _).nodup_iff.mpr (h.rowsOf_nodup q.1)
theorem GoodS.items {st : St} (h : GoodS st) : ∀ i ∈ allItems st, GoodI i := by
  intro i hi
  unfold allItems at hi
  rw [List.mem_append, List.mem_append, List.mem_append] at hi
  rcases hi with ((hi | hi) | hi) | hi
  · obtain ⟨n, hn, rfl⟩ := List.mem_map.mp hi
    rw [mem_sortS] at hn
    cases e : look st.rels n with
    | none => exact absurd hn (look_none.mp e)
    | some w => exact h.rels _ (look_mem e)
  · obtain ⟨n, hn, hi⟩ := List.mem_flatMap.mp hi
    obtain ⟨r, hr, rfl⟩ := List.mem_map.mp hi
    exact h.rowsOf_good hr
  · obtain ⟨n, hn, rfl⟩ := List.mem_map.mp hi
    rw [mem_sortS] at hn
    cases e : look st.rules n with
    | none => exact absurd hn (look_none.mp e)
    | some w => exact h.rules _ (look_mem e)
  · obtain ⟨n, hn, rfl⟩ := List.mem_map.mp hi
    rw [mem_sortS] at hn
    cases e : look st.dens n with
    | none => exact absurd hn (look_none.mp e)
    | some w => exact h.dens _ (look_mem e)
theorem GoodS.fold {l : List Item} : ∀ {st : St}, GoodS st → (∀ i ∈ l, GoodI i) → GoodS (l.foldl putM st) := by
  induction l with
  | nil => intro st h _; exact h
  | cons i l ih =>
    intro st h hl
    exact ih (h.putG (hl i (List.mem_cons_self ..))) fun x hx => hl x (List.mem_cons_of_mem _ hx)
theorem GoodS.copy {st : St} (h : GoodS st) : GoodS (copyM st) := (GoodS.fold GoodS.empty h.items).tidy
def GoodC : Chg → Prop
  | .comes i => GoodI i
  | .goes n _ => n = "p" ∨ n = "q"
theorem GoodS.chg {st : St} (h : GoodS st) {c : Chg} (hc : GoodC c) : GoodS (chgM st c) := by
  cases c with
  | comes i => exact h.putG hc
  | goes n r => exact h.take n r hc
theorem GoodS.chgs {l : List Chg} : ∀ {st : St}, GoodS st → (∀ c ∈ l, GoodC c) → GoodS (l.foldl chgM st) := by
  induction l with
  | nil => intro st h _; exact h
  | cons i l ih =>
    intro st h hl
    exact ih (h.chg (hl i (List.mem_cons_self ..))) fun x hx => hl x (List.mem_cons_of_mem _ hx)
theorem GoodS.change {st : St} (h : GoodS st) {l : List Chg} (hl : ∀ c ∈ l, GoodC c) : GoodS (changeM st l) := (GoodS.chgs h.copy hl).tidy
/-! ### sizes -/
theorem GoodS.lrels {st : St} (h : GoodS st) : st.rels.length ≤ 2 := by
  have := pigeon (α := Str) (l := st.rels.map (·.1)) (m := ["p", "q"]) h.relN fun x hx => by
    obtain ⟨q, hq, rfl⟩ := List.mem_map.mp hx
    rcases h.rels q hq with z | z
    · rw [z.1]; simp
    · rw [z.1]; simp
  rw [List.length_map] at this
  exact this
theorem GoodS.lfacts {st : St} (h : GoodS st) : st.facts.length ≤ 2 := by
  have := pigeon (α := Str) (l := st.facts.map (·.1)) (m := ["p", "q"]) h.factN fun x hx => by
    obtain ⟨q, hq, rfl⟩ := List.mem_map.mp hx
    rcases (h.facts q hq).1 with z | z
    · rw [z]; simp
    · rw [z]; simp
  rw [List.length_map] at this
  exact this
theorem GoodS.lrules {st : St} (h : GoodS st) : st.rules.length ≤ 20 := by
  have := pigeon (α := Str) (l := st.rules.map (·.1)) (m := ruleNames) h.ruleN fun x hx => by
    obtain ⟨q, hq, rfl⟩ := List.mem_map.mp hx
    exact (h.rules q hq).1
  rw [List.length_map] at this
  exact this
theorem GoodS.ldens {st : St} (h : GoodS st) : st.dens.length ≤ 2 := by
  have := pigeon (α := Str) (l := st.dens.map (·.1)) (m := denNames) h.denN fun x hx => by
    obtain ⟨q, hq, rfl⟩ := List.mem_map.mp hx
    exact (h.dens q hq).1
  rw [List.length_map] at this
  exact this
theorem rowsP_len : ∀ r ∈ rowsP, r.length = 2 := by decide +kernel
theorem rowsQ_len : ∀ r ∈ rowsQ, r.length = 1 := by decide +kernel
theorem good_row {n : Str} {r : Row} (h : GoodI (.fact n r)) : r.length ≤ 2 ∧ r ≠ [] := by
  rcases h with h | h
  · have := rowsP_len r h.2
    exact ⟨by omega, fun z => by rw [z] at this; cases this⟩
  · have := rowsQ_len r h.2
    exact ⟨by omega, fun z => by rw [z] at this; cases this⟩
theorem GoodS.lrows {st : St} (h : GoodS st) (n : Str) : (rowsOf st.facts n).length ≤ 42 := by
  have := pigeon (m := rowsP ++ rowsQ) (h.rowsOf_nodup n) fun x hx => by
    rcases h.rowsOf_good hx with z | z
    · exact List.mem_append_left _ z.2
    · exact List.mem_append_right _ z.2
  exact this
theorem tmpl_len : ∀ k, k < 16 → ∀ c, c < 5 → (tmpl k c).ts.length ≤ 4 ∧ (tmpl k c).body.length ≤ 3 ∧ ∀ l ∈ (tmpl k c).body, (litTs l).length ≤ 4 := by decide +kernel
theorem dtmpl_len : ∀ k, k < 8 → ∀ c, c < 5 → (dtmpl k c).length ≤ 3 ∧ ∀ l ∈ (dtmpl k c), (litTs l).length ≤ 4 := by decide +kernel
theorem GoodS.rulesOk {st : St} (h : GoodS st) : RulesOk st := fun q hq => by
  obtain ⟨_, k, c, hk, hc, e⟩ := h.rules q hq
  obtain ⟨h1, h2, h3⟩ := tmpl_len k hk c hc
  rw [e]
  exact ⟨by omega, fun l hl => by have := h3 l hl; omega⟩
theorem GoodS.rowsOk {st : St} (h : GoodS st) : RowsOk st.facts := fun q hq => by
  have e : rowsOf st.facts q.1 = q.2 := by
    unfold rowsOf
    rw [nodup_look h.factN hq]
    rfl
  have := h.lrows q.1
  rw [e] at this
  refine ⟨by omega, fun r hr => ?_⟩
  have := good_row ((h.facts q hq).2 r hr)
  omega
theorem dens_ok {st : St} (h : GoodS st) : ∀ q ∈ st.dens, BodyOk q.2 := fun q hq => by
  obtain ⟨_, k, c, hk, hc, e⟩ := h.dens q hq
  obtain ⟨h2, h3⟩ := dtmpl_len k hk c hc
  rw [e]
  exact ⟨by omega, fun l hl => by have := h3 l hl; omega⟩
theorem GoodS.lnames {st : St} (h : GoodS st) : (tidyNames st).length ≤ 4 := by
  unfold tidyNames
  rw [sortS_len, List.length_append, List.length_map, List.length_map]
  have := h.lrels
  have := h.lfacts
  have := List.length_filter_le (fun q : Str × List Row => decide (0 < q.2.length)) st.facts
  omega
end Rs


set_option Elab.async false
set_option linter.all false
set_option maxRecDepth 100000
set_option maxHeartbeats 2000000
/-! # S1: methods (Met), a state that is owned (SOwn); has, put -/
namespace Rs
open PySem PySem.Spec PyProof.Rows L2
theorem hu3 {A : Around} {k : Nat} (hr : Room k A) : A.units + 3 < cLine := by have := hr.un; omega
structure Met (P : Program) (w : World) (K : PySem.W.Frag) (mg : Str → Option Value) (base : Heap) (CX : CXT) (k : Nat) (m : Str) (sp : Sp) : Prop where
  ex : ∃ (fd : FuncData) (ps : List Str), FnOk P w K mg base CX k (He.ma K (He.ga K "State") m) fd ps sp ∧ Binds K fd ps []
section
variable {P : Program} {w : World} {K : PySem.W.Frag} {mg : Str → Option Value} {base : Heap}
theorem met_of (T : Tx P K mg) (i j : Nat) {CX : CXT} {m q : Str} {N ps : List Str} {k : Nat} {sp : Sp} (h : fn[i]? = some (mdef j m q)) (S : FnScope N ps (defScope (inClass (topS 42) j))) (len : ∀ vs H Q E, sp vs H Q E → vs.length = ps.length)
    (hb : ∀ (kV doc pm : Value) (an : Option Addr) (cdv ct : Value) (us : List Value), us.length = ps.length → bindArgs (PySem.W.fnOf m q (defArgs (inClass (topS 42) j)) (defBody (inClass (topS 42) j)) (defScope (inClass (topS 42) j)) .none kV doc pm an cdv ct) ⟨us, []⟩ = pure (ps.zip us))
    (hbody : ∀ (cdv : Value) (A : Around) (outer : List Env) (s : Shared) (H : Hp) (vs : List V) (Q : VK) (E : XK), Room k (A.deeper (envOfC q (defScope (inClass (topS 42) j)) s.heap.objs.size (He.ma K (He.ga K "State") m) cdv)) → sp vs H Q E →
      ∃ t, PSs (cxOf CX P w K mg base N q (defScope (inClass (topS 42) j)) (He.ma K (He.ga K "State") m) cdv A outer s H E) (defBody (inClass (topS 42) j)) t ∧ t { nx := fun _ H' => Q .non H', rt := Q } (start N vs) H) : Met P w K mg base CX (k + 1) m sp := by
  obtain ⟨fd, F⟩ := T.fd i h
  exact ⟨fd, ps, FunD.ok F S len hbody, FunD.bindsN F hb⟩
end
section
variable {X : Cx} {k j : Nat} {m : Str} {sp : Sp} {pos apos : Pos} {o e : Expr} {es : List Expr} {ta : TE} {t : TA}
theorem pe_mt {pl : Sem Bool} (T : Tx X.prog X.K X.mg) (c : Met X.prog X.w X.K X.mg X.base CX0 k m sp) (hr : Room j X.A) (he : PE X o ta) (ha : PA X (e :: es) t) (hk : k ≤ j := by decide) (hm : m ∈ metN := by decide +kernel)
    (hst : starEach (e :: es) X.env = (false, eval e X.env) :: starEach es X.env := by rfl) (hpl : (backTo pos (starEach es X.env)).any (·.1) = false := by rfl)
    (ht : eval (.Call (.Attribute o m apos) (e :: es) [] pos) X.env = (do
      let ov ← eval o X.env
      standAt apos.atName
      let (f, first) ← holding [ov] (getMethod ov m pl)
      callWith pos f first (backTo pos (starEach (e :: es) X.env)) (backToKw pos (keywordEach [] X.env))) := by rfl) :
    PE X (.Call (.Attribute o m apos) (e :: es) [] pos) (tMeth (He.ga X.K "State") m sp [] E0 ta t) := by
  obtain ⟨fd, ps, F, b⟩ := c.ex
  exact pe_meth he T.cl (T.me m hm) F (hr.mono hk) b .nil pass0 ha hst hpl ht
theorem pe_mt0 {pl : Sem Bool} (T : Tx X.prog X.K X.mg) (c : Met X.prog X.w X.K X.mg X.base CX0 k m sp) (hr : Room j X.A) (he : PE X o ta) (hk : k ≤ j := by decide) (hm : m ∈ metN := by decide +kernel)
    (ht : eval (.Call (.Attribute o m apos) [] [] pos) X.env = (do
      let ov ← eval o X.env
      standAt apos.atName
      let (f, first) ← holding [ov] (getMethod ov m pl)
      callWith pos f first (backTo pos (starEach [] X.env)) (backToKw pos (keywordEach [] X.env))) := by rfl) :
    PE X (.Call (.Attribute o m apos) [] [] pos) (tMeth (He.ga X.K "State") m sp [] E0 ta tNil) := by
  obtain ⟨fd, ps, F, b⟩ := c.ex
  exact pe_meth0 he T.cl (T.me m hm) F (hr.mono hk) b .nil pass0 ht
end
/-! ### has -/
def spHas (K : PySem.W.Frag) : Sp := fun vs H Q _ => ∃ (p a : Addr) (n : Str) (r : Row) (st : St), vs = [.ref p, .str n, .ref a] ∧ StAt K H p st ∧ RowH H a r ∧ ∀ H', Same H H' → Q (.bl (decide (r ∈ rowsOf st.facts n))) H'
section
variable {P : Program} {w : World} {K : PySem.W.Frag} {mg : Str → Option Value} {base : Heap}
theorem sc_has : FnScope ["self", "relation", "row"] ["self", "relation", "row"] (defScope (inClass (topS 42) 5)) := ⟨rfl, rfl, rfl, by decide +kernel, rfl, by decide +kernel, by decide +kernel⟩
theorem ok_has (T : Tx P K mg) : Met P w K mg base CX0 1 "has" (spHas K) := by
  refine met_of T 61 5 rfl sc_has (fun vs H Q E h => ?_) (fun _ _ _ _ _ _ us hl => match us, hl with | [_, _, _], _ => rfl) (fun cdv A outer s H vs Q E hr h => ?_)
  · obtain ⟨p, a, n, r, st, rfl, _⟩ := h
    rfl
  · obtain ⟨p, a, n, r, st, rfl, ⟨rr, f, u, d, ⟨⟨dx, hi⟩, _, hf, _, _⟩⟩, hra, q⟩ := h
    refine ⟨_, PSs.nox (pss_one (ps_ret (pe_cmpR (op_inT tells_row (hu3 hr)) (pv 2) (pe_dget2 (hu_of hr) (pe_fld (pv 0) rfl) (pv 1) (pe_lst pa_nil) ⟨rfl, rfl, rfl, rfl⟩) (by rfl)))), ?_⟩
    refine ⟨_, rfl, _, rfl, p, _, dx, _, _, rfl, hi, T.cl, T.na "facts", stF_f rr f u d, f, rfl, rows_isD hf, _, rfl, Nat.zero_le _, fun l nl => ?_⟩
    have sl := same_new (o := .lst []) nl
    obtain ⟨o, gg, la, qs, e1, e2, e3, e4, e5⟩ := get_rows2 hf n sl upd_same
    refine ⟨o, gg, a, la, r, qs, rfl, e1, sl _ _ hra, SqL.of_H e3, e5, ?_⟩
    rw [e4]
    exact q _ sl
end
/-! ### a state that is owned -/
structure SOwn (C : Addr) (H0 H : Hp) (p r f u d dx : Addr) (ps : List (Str × Addr × List Row)) (st : St) : Prop where
  ins : H p = some (.ins C dx (stF r f u d))
  rels : H r = some (.dK (encS V.int st.rels))
  facts : H f = some (.dK (encS V.ref (ps.map fun q => (q.1, q.2.1))))
  fm : ps.map (fun q => (q.1, q.2.2)) = st.facts
  fl : ∀ q ∈ ps, LstOf RowH H q.2.1 q.2.2
  nd : (ps.map (·.2.1)).Nodup
  kn : (st.facts.map (·.1)).Nodup
  rules : DictOf RuleAt H u st.rules
  dens : DictOf BodyAt H d st.dens
  ne : r ≠ f ∧ r ≠ u ∧ r ≠ d ∧ f ≠ u ∧ f ≠ d ∧ u ≠ d
  new : H0 p = none ∧ H0 r = none ∧ H0 f = none ∧ H0 u = none ∧ H0 d = none ∧ ∀ q ∈ ps, H0 q.2.1 = none
  sm : Same H0 H
def OwnAt (K : PySem.W.Frag) (H0 H : Hp) (p : Addr) (st : St) : Prop := ∃ r f u d dx ps, SOwn (He.ga K "State") H0 H p r f u d dx ps st
theorem SOwn.parts {C : Addr} {H0 H : Hp} {p r f u d dx : Addr} {ps : List (Str × Addr × List Row)} {st : St} (h : SOwn C H0 H p r f u d dx ps st) : StP C H p r f u d st := ⟨⟨dx, h.ins⟩, h.rels, ⟨ps, h.facts, h.fm, h.fl⟩, h.rules, h.dens⟩
theorem OwnAt.at {K : PySem.W.Frag} {H0 H : Hp} {p : Addr} {st : St} (h : OwnAt K H0 H p st) : StAt K H p st := by
  obtain ⟨r, f, u, d, dx, ps, h⟩ := h
  exact ⟨r, f, u, d, h.parts⟩
theorem OwnAt.same0 {K : PySem.W.Frag} {H0 H : Hp} {p : Addr} {st : St} (h : OwnAt K H0 H p st) : Same H0 H := by
  obtain ⟨r, f, u, d, dx, ps, h⟩ := h
  exact h.sm
theorem SOwn.same {C : Addr} {H0 H H' : Hp} {p r f u d dx : Addr} {ps : List (Str × Addr × List Row)} {st : St} (h : SOwn C H0 H p r f u d dx ps st) (s : Same H H') : SOwn C H0 H' p r f u d dx ps st :=
  ⟨s _ _ h.ins, s _ _ h.rels, s _ _ h.facts, h.fm, fun q hq => (h.fl q hq).same stays_row s, h.nd, h.kn, h.rules.same stays_rule s, h.dens.same stays_body s, h.ne, h.new, h.sm.trans s⟩
theorem OwnAt.same {K : PySem.W.Frag} {H0 H H' : Hp} {p : Addr} {st : St} (h : OwnAt K H0 H p st) (s : Same H H') : OwnAt K H0 H' p st := by
  obtain ⟨r, f, u, d, dx, ps, h⟩ := h
  exact ⟨r, f, u, d, dx, ps, h.same s⟩
/-- what is owned may be written -/
theorem same0_upd {H0 H : Hp} {a : Addr} {o : HO} (s : Same H0 H) (n : H0 a = none) : Same H0 (upd H a o) := fun b z e => by
  rw [upd_ne (ne_of_none e n)]
  exact s _ _ e
theorem DictOf.other {α : Type} {R : Hp → Addr → α → Prop} (S : Stays R) {H : Hp} {p a : Addr} {l : List (Str × α)} {o : HO} (t : SameT H (upd H a o)) (n : p ≠ a) (h : DictOf R H p l) : DictOf R (upd H a o) p l := by
  obtain ⟨ps, h1, h2, h3⟩ := h
  exact ⟨ps, by rw [upd_ne n]; exact h1, h2, fun q hq => S.go t (h3 q hq)⟩
theorem map_put {κ β γ : Type} [DecidableEq κ] (g : β → γ) (l : List (κ × β)) (k : κ) (v : β) : (put l k v).map (fun q => (q.1, g q.2)) = put (l.map fun q => (q.1, g q.2)) k (g v) := by
  unfold put
  rw [List.any_map]
  have e : ((fun p : κ × γ => decide (p.1 = k)) ∘ fun q : κ × β => (q.1, g q.2)) = fun p : κ × β => decide (p.1 = k) := rfl
  rw [e]
  split
  · rw [List.map_map, List.map_map]
    refine List.map_congr_left fun q _ => ?_
    show (fun q : κ × β => (q.1, g q.2)) (if q.1 = k then (q.1, v) else q) = if q.1 = k then (q.1, g v) else (q.1, g q.2)
    split <;> rfl
  · rw [List.map_append]
    rfl
theorem DictOf.put {α : Type} {R : Hp → Addr → α → Prop} (S : Stays R) {H : Hp} {p a : Addr} {l : List (Str × α)} {n : Str} {x : α} {kvs : List (L2.Key × V)} (h : DictOf R H p l) (e : H p = some (.dK kvs)) (hx : R H a x) : DictOf R (upd H p (.dK (putK kvs (.inr n) (.ref a)))) p (Rs.put l n x) := by
  obtain ⟨ps, h1, h2, h3⟩ := h
  rw [h1] at e
  injection e with e
  injection e with e
  subst e
  have t := sameT_dK (o := .dK (putK (encS V.ref (ps.map fun q => (q.1, q.2.1))) (.inr n) (V.ref a))) h1
  refine ⟨Rs.put ps n (a, x), ?_, ?_, fun q hq => S.go t ?_⟩
  · rw [upd_same, map_put (fun q : Addr × α => q.1), encS_put]
  · rw [map_put (fun q : Addr × α => q.2), h2]
  · rcases put_mem hq with rfl | hq
    · exact hx
    · exact h3 q hq
theorem SOwn.lstNe {C : Addr} {H0 H : Hp} {p r f u d dx : Addr} {ps : List (Str × Addr × List Row)} {st : St} (h : SOwn C H0 H p r f u d dx ps st) {q : Str × Addr × List Row} (hq : q ∈ ps) {b : Addr} {o : HO} (e : H b = some o) (n : ∀ xs, o ≠ .lst xs) : q.2.1 ≠ b := fun z => by
  obtain ⟨qs, h1, _⟩ := h.fl q hq
  rw [z, e] at h1
  exact n _ (Option.some.inj h1)
theorem SOwn.isU {C : Addr} {H0 H : Hp} {p r f u d dx : Addr} {ps : List (Str × Addr × List Row)} {st : St} (h : SOwn C H0 H p r f u d dx ps st) : ∃ kvs, H u = some (.dK kvs) ∧ kvs.length = st.rules.length := by
  obtain ⟨qs, h1, h2, _⟩ := h.rules
  exact ⟨_, h1, by rw [encS_len, List.length_map, ← h2, List.length_map]⟩
theorem SOwn.isD {C : Addr} {H0 H : Hp} {p r f u d dx : Addr} {ps : List (Str × Addr × List Row)} {st : St} (h : SOwn C H0 H p r f u d dx ps st) : ∃ kvs, H d = some (.dK kvs) ∧ kvs.length = st.dens.length := by
  obtain ⟨qs, h1, h2, _⟩ := h.dens
  exact ⟨_, h1, by rw [encS_len, List.length_map, ← h2, List.length_map]⟩
theorem SOwn.setRel {C : Addr} {H0 H : Hp} {p r f u d dx : Addr} {ps : List (Str × Addr × List Row)} {st : St} (h : SOwn C H0 H p r f u d dx ps st) (n : Str) (x : Int) : SOwn C H0 (upd H r (.dK (putK (encS V.int st.rels) (.inr n) (.int x)))) p r f u d dx ps { st with rels := put st.rels n x } := by
  have t := sameT_dK (o := .dK (putK (encS V.int st.rels) (.inr n) (.int x))) h.rels
  obtain ⟨n1, n2, n3, n4, n5, n6⟩ := h.ne
  refine ⟨by rw [upd_ne (ne_of h.ins h.rels (by intro z; cases z))]; exact h.ins, by rw [upd_same, encS_put], by rw [upd_ne (Ne.symm n1)]; exact h.facts, h.fm, fun q hq => (h.fl q hq).keep stays_row t (upd_ne (h.lstNe hq h.rels (fun _ z => nomatch z))), h.nd, h.kn,
    h.rules.other stays_rule t (Ne.symm n2), h.dens.other stays_body t (Ne.symm n3), h.ne, h.new, same0_upd h.sm h.new.2.1⟩
theorem SOwn.setRule {C : Addr} {H0 H : Hp} {p r f u d dx a : Addr} {ps : List (Str × Addr × List Row)} {st : St} (h : SOwn C H0 H p r f u d dx ps st) (n : Str) {x : Rule} {kvs : List (L2.Key × V)} (e : H u = some (.dK kvs)) (hx : RuleAt H a x) : SOwn C H0 (upd H u (.dK (putK kvs (.inr n) (.ref a)))) p r f u d dx ps { st with rules := put st.rules n x } := by
  have t := sameT_dK (o := .dK (putK kvs (.inr n) (.ref a))) e
  obtain ⟨n1, n2, n3, n4, n5, n6⟩ := h.ne
  refine ⟨by rw [upd_ne (ne_of h.ins e (by intro z; cases z))]; exact h.ins, by rw [upd_ne n2]; exact h.rels, by rw [upd_ne n4]; exact h.facts, h.fm, fun q hq => (h.fl q hq).keep stays_row t (upd_ne (h.lstNe hq e (fun _ z => nomatch z))), h.nd, h.kn,
    h.rules.put stays_rule e hx, h.dens.other stays_body t (Ne.symm n6), h.ne, h.new, same0_upd h.sm h.new.2.2.2.1⟩
theorem SOwn.setDen {C : Addr} {H0 H : Hp} {p r f u d dx a : Addr} {ps : List (Str × Addr × List Row)} {st : St} (h : SOwn C H0 H p r f u d dx ps st) (n : Str) {x : Body} {kvs : List (L2.Key × V)} (e : H d = some (.dK kvs)) (hx : BodyAt H a x) : SOwn C H0 (upd H d (.dK (putK kvs (.inr n) (.ref a)))) p r f u d dx ps { st with dens := put st.dens n x } := by
  have t := sameT_dK (o := .dK (putK kvs (.inr n) (.ref a))) e
  obtain ⟨n1, n2, n3, n4, n5, n6⟩ := h.ne
  refine ⟨by rw [upd_ne (ne_of h.ins e (by intro z; cases z))]; exact h.ins, by rw [upd_ne n3]; exact h.rels, by rw [upd_ne n5]; exact h.facts, h.fm, fun q hq => (h.fl q hq).keep stays_row t (upd_ne (h.lstNe hq e (fun _ z => nomatch z))), h.nd, h.kn,
    h.rules.other stays_rule t n6, h.dens.put stays_body e hx, h.ne, h.new, same0_upd h.sm h.new.2.2.2.2.1⟩
theorem nodup_key {α β : Type} {l : List (α × β)} (h : (l.map (·.1)).Nodup) {a b : α × β} (ha : a ∈ l) (hb : b ∈ l) (e : a.1 = b.1) : a = b := by
  induction l with
  | nil => cases ha
  | cons x l ih =>
    rw [List.map_cons, List.nodup_cons] at h
    rcases List.mem_cons.mp ha with h1 | h1
    · rcases List.mem_cons.mp hb with h2 | h2
      · rw [h1, h2]
      · exact absurd (by rw [← h1, e]; exact List.mem_map_of_mem (f := fun q : α × β => q.1) h2) h.1
    · rcases List.mem_cons.mp hb with h2 | h2
      · exact absurd (by rw [← h2, ← e]; exact List.mem_map_of_mem (f := fun q : α × β => q.1) h1) h.1
      · exact ih h.2 h1 h2
/-- a list of facts is written -/
theorem SOwn.setL {C : Addr} {H0 H : Hp} {p r f u d dx a : Addr} {ps : List (Str × Addr × List Row)} {st : St} (h : SOwn C H0 H p r f u d dx ps st) {n : Str} {rows : List Row} (hm : (n, a, rows) ∈ ps) {qs : List (Addr × Row)} (hq : ∀ q ∈ qs, RowH H q.1 q.2) :
    ∃ ps', SOwn C H0 (upd H a (.lst (qs.map fun q => V.ref q.1))) p r f u d dx ps' { st with facts := put st.facts n (qs.map (·.2)) } := by
  obtain ⟨ws, hw, _⟩ := h.fl _ hm
  have hw' : H a = some (.lst (ws.map fun q => V.ref q.1)) := hw
  have t := sameT_lst (o := .lst (qs.map fun q => V.ref q.1)) hw'
  have nk : (ps.map (·.1)).Nodup := by
    have := h.kn
    rw [← h.fm, List.map_map] at this
    exact this
  have hn : ∀ q ∈ ps, q.1 = n ↔ q.2.1 = a := fun q hq => by
    constructor
    · intro e
      have := nodup_key nk hq hm e
      rw [this]
    · intro e
      have := nodup_key (l := ps.map fun q => (q.2.1, q)) (by rw [List.map_map]; exact h.nd) (List.mem_map_of_mem (f := fun q : Str × Addr × List Row => (q.2.1, q)) hq) (List.mem_map_of_mem (f := fun q : Str × Addr × List Row => (q.2.1, q)) hm) e
      rw [(Prod.mk.inj this).2]
  have e1 : (ps.map fun q => if q.1 = n then (q.1, q.2.1, qs.map (·.2)) else q).map (fun q => (q.1, q.2.1)) = ps.map fun q => (q.1, q.2.1) := by
    rw [List.map_map]
    refine List.map_congr_left fun q _ => ?_
    show (fun q : Str × Addr × List Row => (q.1, q.2.1)) (if q.1 = n then (q.1, q.2.1, qs.map (·.2)) else q) = _
    split <;> rfl
  have e3 : (ps.map fun q => if q.1 = n then (q.1, q.2.1, qs.map (·.2)) else q).map (fun q => q.2.1) = ps.map (·.2.1) := by
    rw [List.map_map]
    refine List.map_congr_left fun q _ => ?_
    show (fun q : Str × Addr × List Row => q.2.1) (if q.1 = n then (q.1, q.2.1, qs.map (·.2)) else q) = _
    split <;> rfl
  have hany : (st.facts.any fun p => decide (p.1 = n)) = true := by
    rw [List.any_eq_true]
    refine ⟨(n, rows), ?_, decide_eq_true rfl⟩
    rw [← h.fm]
    exact List.mem_map_of_mem (f := fun q : Str × Addr × List Row => (q.1, q.2.2)) hm
  have ho : ∀ {b : Addr} {o : HO}, H b = some o → (∀ xs, o ≠ .lst xs) → upd H a (.lst (qs.map fun q => V.ref q.1)) b = some o := fun e nl => by
    rw [upd_ne (ne_of e hw' (nl _))]
    exact e
  refine ⟨ps.map fun q => if q.1 = n then (q.1, q.2.1, qs.map (·.2)) else q, ho h.ins (fun _ z => nomatch z), ho h.rels (fun _ z => nomatch z), by rw [e1]; exact ho h.facts (fun _ z => nomatch z), ?_, ?_, by rw [e3]; exact h.nd, put_nodup h.kn,
    ?_, ?_, h.ne, ?_, same0_upd h.sm (h.new.2.2.2.2.2 _ hm)⟩
  · show _ = put st.facts n (qs.map (·.2))
    unfold put
    rw [if_pos hany, ← h.fm, List.map_map, List.map_map]
    refine List.map_congr_left fun q _ => ?_
    show (fun q : Str × Addr × List Row => (q.1, q.2.2)) (if q.1 = n then (q.1, q.2.1, qs.map (·.2)) else q) = if q.1 = n then (q.1, qs.map (·.2)) else (q.1, q.2.2)
    split <;> rfl
  · intro q hq'
    obtain ⟨q0, hq0, rfl⟩ := List.mem_map.mp hq'
    by_cases e : q0.1 = n
    · rw [if_pos e]
      refine ⟨qs, ?_, rfl, fun x hx => stays_row.go t (hq x hx)⟩
      show upd H a _ q0.2.1 = _
      rw [(hn q0 hq0).mp e, upd_same]
    · rw [if_neg e]
      exact (h.fl q0 hq0).keep stays_row t (upd_ne fun z => e ((hn q0 hq0).mpr z))
  · obtain ⟨zs, z1, z2, z3⟩ := h.rules
    exact ⟨zs, ho z1 (fun _ z => nomatch z), z2, fun q hq => stays_rule.go t (z3 q hq)⟩
  · obtain ⟨zs, z1, z2, z3⟩ := h.dens
    exact ⟨zs, ho z1 (fun _ z => nomatch z), z2, fun q hq => stays_body.go t (z3 q hq)⟩
  · obtain ⟨m1, m2, m3, m4, m5, m6⟩ := h.new
    refine ⟨m1, m2, m3, m4, m5, fun q hq' => ?_⟩
    obtain ⟨q0, hq0, rfl⟩ := List.mem_map.mp hq'
    have := m6 q0 hq0
    split <;> exact this
/-- a new list of facts -/
theorem SOwn.newL {C : Addr} {H0 H : Hp} {p r f u d dx L : Addr} {ps : List (Str × Addr × List Row)} {st : St} (h : SOwn C H0 H p r f u d dx ps st) {n : Str} (hn : look st.facts n = none) (nL : H L = none) {kvs : List (L2.Key × V)} (e : H f = some (.dK kvs)) :
    SOwn C H0 (upd (upd H L (.lst [])) f (.dK (putK kvs (.inr n) (.ref L)))) p r f u d dx (ps ++ [(n, L, [])]) { st with facts := put st.facts n [] } := by
  have h1 := h.same (same_new (o := .lst []) nL)
  have e1 : upd H L (.lst []) f = some (.dK kvs) := same_new nL _ _ e
  have t := sameT_dK (o := .dK (putK kvs (.inr n) (.ref L))) e1
  have ek : kvs = encS V.ref (ps.map fun q => (q.1, q.2.1)) := by
    have := e.symm.trans h.facts
    injection this with this
    injection this
  obtain ⟨n1, n2, n3, n4, n5, n6⟩ := h.ne
  have nLf : L ≠ f := fun z => by
    rw [z, e] at nL
    cases nL
  have hn2 : look (ps.map fun q => (q.1, q.2.1)) n = none := by
    rw [look_none, List.map_map]
    rw [← h.fm, look_none, List.map_map] at hn
    exact hn
  refine ⟨by rw [upd_ne (ne_of h1.ins e1 (by intro z; cases z))]; exact h1.ins, by rw [upd_ne n1]; exact h1.rels, ?_, ?_, ?_, ?_, put_nodup h.kn, h1.rules.other stays_rule t (Ne.symm n4), h1.dens.other stays_body t (Ne.symm n5), h.ne, ?_, same0_upd h1.sm h.new.2.2.1⟩
  · rw [upd_same, ek, encS_put, put_new _ hn2, List.map_append]
    rfl
  · show _ = put st.facts n []
    rw [put_new _ hn, List.map_append, h.fm]
    rfl
  · intro q hq
    rcases List.mem_append.mp hq with hq | hq
    · exact (h1.fl q hq).keep stays_row t (upd_ne (h1.lstNe hq e1 (fun _ z => nomatch z)))
    · rw [List.mem_singleton.mp hq]
      exact ⟨[], by rw [upd_ne nLf, upd_same]; rfl, rfl, fun q hq => by cases hq⟩
  · rw [List.map_append, List.nodup_append]
    refine ⟨h.nd, by simp, fun a ha b hb => ?_⟩
    rw [List.map_singleton, List.mem_singleton] at hb
    obtain ⟨q, hq, rfl⟩ := List.mem_map.mp ha
    obtain ⟨ws, hw, _⟩ := h.fl q hq
    rw [hb]
    exact ne_of_none hw nL
  · obtain ⟨m1, m2, m3, m4, m5, m6⟩ := h.new
    refine ⟨m1, m2, m3, m4, m5, fun q hq => ?_⟩
    rcases List.mem_append.mp hq with hq | hq
    · exact m6 q hq
    · rw [List.mem_singleton.mp hq]
      cases e0 : H0 L with
      | none => rfl
      | some o => exact absurd (h.sm _ _ e0) (by rw [nL]; intro z; cases z)
theorem put_put {κ β : Type} [DecidableEq κ] (l : List (κ × β)) (k : κ) (v v' : β) : put (put l k v) k v' = put l k v' := by
  have hany : ((put l k v).any fun p => decide (p.1 = k)) = true := by
    rw [look_any, look_put, if_pos rfl]
    rfl
  have h1 : put (put l k v) k v' = (put l k v).map (fun p => if p.1 = k then (p.1, v') else p) := by
    show (if _ then _ else _) = _
    rw [if_pos hany]
  rw [h1]
  by_cases h : (l.any fun p => decide (p.1 = k)) = true
  · unfold put
    rw [if_pos h, if_pos h, List.map_map]
    refine List.map_congr_left fun q _ => ?_
    show (if (if q.1 = k then (q.1, v) else q).1 = k then ((if q.1 = k then (q.1, v) else q).1, v') else (if q.1 = k then (q.1, v) else q)) = _
    by_cases e : q.1 = k
    · simp [e]
    · simp [e]
  · unfold put
    rw [if_neg h, if_neg h, List.map_append]
    congr 1
    · refine (List.map_congr_left fun q hq => ?_).trans (List.map_id _)
      have : ¬ q.1 = k := fun e => h (List.any_eq_true.mpr ⟨q, hq, decide_eq_true e⟩)
      rw [if_neg this]
      rfl
    · simp
end Rs


set_option Elab.async false
set_option linter.all false
set_option maxRecDepth 100000
set_option maxHeartbeats 2000000
/-! # S2: put, take -/
namespace Rs
open PySem PySem.Spec PyProof.Rows L2
structure SmallS (st : St) : Prop where
  rels : st.rels.length ≤ 1000
  facts : st.facts.length ≤ 1000
  rules : st.rules.length ≤ 1000
  dens : st.dens.length ≤ 1000
  rows : ∀ q ∈ st.facts, q.2.length ≤ 1000
def spPut (K : PySem.W.Frag) : Sp := fun vs H Q _ => ∃ (H0 : Hp) (p i : Addr) (st : St) (it : Item), vs = [.ref p, .ref i] ∧ OwnAt K H0 H p st ∧ ItemAt H i it ∧ SmallS st ∧ ∀ H', OwnAt K H0 H' p (putM st it) → Q .non H'
theorem small1 {n : Nat} (h : n ≤ 1000) : n < sizeLine := by rw [sizeLine_eq]; omega
theorem nw3 : ¬(HT.sIx 3 0 none = 0 ∧ HT.sIx 3 3 (some 2) = 3) := by decide
theorem nw5 : ¬(HT.sIx 5 0 none = 0 ∧ HT.sIx 5 5 (some 2) = 5) := by decide
theorem nw5b : ¬(HT.sIx 5 0 (some 2) = 0 ∧ HT.sIx 5 5 none = 5) := by decide
section
variable {P : Program} {w : World} {K : PySem.W.Frag} {mg : Str → Option Value} {base : Heap}
theorem sc_put : FnScope ["self", "item", "word", "name"] ["self", "item"] (defScope (inClass (topS 42) 1)) := ⟨rfl, rfl, rfl, by decide +kernel, rfl, by decide +kernel, by decide +kernel⟩
theorem ok_put (T : Tx P K mg) : Met P w K mg base CX0 2 "put" (spPut K) := by
  have C1 := ok_has (w := w) (base := base) T
  refine met_of T 57 1 rfl sc_put (fun vs H Q E h => ?_) (fun _ _ _ _ _ _ us hl => match us, hl with | [_, _], _ => rfl) (fun cdv A outer s H vs Q E hr h => ?_)
  · obtain ⟨H0, p, i, st, it, rfl, _⟩ := h
    rfl
  · obtain ⟨H0, p, i, st, it, rfl, ⟨r, f, u, d, dx, ps, hO⟩, hit, hsm, q⟩ := h
    refine ⟨_, PSs.nox (pss_cons (ps_asg (pe_slice sl_tup (pv 1) po_none (po_some pe_int)) (pg_tup rfl (pgs_cons (pg_name (i := 2) sc_put.nd rfl (Or.inl rfl)) (pgs_cons (pg_name (i := 3) sc_put.nd rfl (Or.inl rfl)) pgs_nil))))
    (pss_one (ps_if (pt_cmpR op_eq (pv 2) pe_str (nomark _)) (pss_one (ps_dput (hu_of hr) (pe_fld (pv 0) rfl) (pv 3) (pe_ix ix_tup (pv 1) pe_int (fun _ _ => rfl)) rfl)) (pss_one (ps_if (pt_cmpR op_eq (pv 2) pe_str (nomark _)) (pss_one (ps_dput (hu_of hr) (pe_fld (pv 0) rfl) (pv 3) (pe_slice sl_tup (pv 1) (po_some pe_int) po_none) rfl)) (pss_one (ps_if (pt_cmpR op_eq (pv 2) pe_str (nomark _)) (pss_one (ps_dput (hu_of hr) (pe_fld (pv 0) rfl) (pv 3) (pe_ix ix_tup (pv 1) pe_int (fun _ _ => rfl)) rfl)) (pss_one (ps_if (pt_not (pt_val (pe_mt T C1 hr (pv 0) (pa_cons (pv 3) (pa_cons (pe_ix ix_tup (pv 1) pe_int (fun _ _ => rfl)) pa_nil))))) (pss_one (ps_expr (pe_bm PySem.F.plainAttrs_list PySem.F.slot_list_append PySem.F.type_list_append mt_append (pe_dsetd (pe_fld (pv 0) rfl) (pv 3) (pe_lst pa_nil) ⟨rfl, rfl, rfl, rfl⟩) (pa_cons (pe_ix ix_tup (pv 1) pe_int (fun _ _ => rfl)) pa_nil)))) pss_nil))))))))), ?_⟩
    cases it with
    | rel n x =>
      have hi : H i = some (.tup [.str "relation", .str n, .int x]) := hit
      refine ⟨_, rfl, _, rfl, i, _, rfl, SqT.of_H hi, nw3, fun c nc => ?_⟩
      have sc := same_new (o := .tup (cutV [V.str "relation", V.str n, V.int x] none (some 2))) nc
      have hO1 := hO.same sc
      refine ⟨c, _, rfl, SqT.of_H upd_same, rfl, _, _, rfl, _, _, rfl, rfl, ?_⟩
      refine ⟨_, rfl, rfl, true, congrArg V.bl (decide_eq_true rfl), ?_⟩
      refine iteT ?_
      refine ⟨_, rfl, i, _, 2, _, rfl, rfl, SqT.of_H (sc _ _ hi), atI_nat rfl, _, rfl, p, _, dx, _, _, rfl, hO1.ins, T.cl, T.na "relations", stF_r r f u d, _, rfl, r, _, rfl, DPut.k (k := .inr n) hO1.rels (by rw [encS_len]; exact small1 hsm.rels), ?_⟩
      exact q _ ⟨r, f, u, d, dx, ps, hO1.setRel n x⟩
    | rule n ru =>
      obtain ⟨a, b, hi, hta, hbo⟩ := hit
      refine ⟨_, rfl, _, rfl, i, _, rfl, SqT.of_H hi, nw5, fun c nc => ?_⟩
      have sc := same_new (o := .tup (cutV [V.str "rule", V.str n, V.str ru.rel, V.ref a, V.ref b] none (some 2))) nc
      have hO1 := hO.same sc
      refine ⟨c, _, rfl, SqT.of_H upd_same, rfl, _, _, rfl, _, _, rfl, rfl, ?_⟩
      refine ⟨_, rfl, rfl, false, congrArg V.bl (dec_str_ne (by decide +kernel)), ?_⟩
      refine iteF ⟨_, rfl, rfl, true, congrArg V.bl (decide_eq_true rfl), ?_⟩
      refine iteT ⟨_, rfl, _, rfl, i, _, rfl, SqT.of_H (sc _ _ hi), nw5b, fun e ne => ?_⟩
      have se := same_new (o := .tup (cutV [V.str "rule", V.str n, V.str ru.rel, V.ref a, V.ref b] (some 2) none)) ne
      have hO2 := hO1.same se
      obtain ⟨kvs, hu, hul⟩ := hO2.isU
      refine ⟨_, rfl, p, _, dx, _, _, rfl, hO2.ins, T.cl, T.na "rules", stF_u r f u d, _, rfl, u, _, rfl, DPut.k (k := .inr n) hu (by rw [hul]; exact small1 hsm.rules), ?_⟩
      exact q _ ⟨r, f, u, d, dx, ps, hO2.setRule n hu ⟨a, b, upd_same, stays_tms.go (sc.trans se).t hta, stays_body.go (sc.trans se).t hbo⟩⟩
    | den n b =>
      obtain ⟨a, hi, hbo⟩ := hit
      refine ⟨_, rfl, _, rfl, i, _, rfl, SqT.of_H hi, nw3, fun c nc => ?_⟩
      have sc := same_new (o := .tup (cutV [V.str "denial", V.str n, V.ref a] none (some 2))) nc
      have hO1 := hO.same sc
      refine ⟨c, _, rfl, SqT.of_H upd_same, rfl, _, _, rfl, _, _, rfl, rfl, ?_⟩
      refine ⟨_, rfl, rfl, false, congrArg V.bl (dec_str_ne (by decide +kernel)), ?_⟩
      refine iteF ⟨_, rfl, rfl, false, congrArg V.bl (dec_str_ne (by decide +kernel)), ?_⟩
      refine iteF ⟨_, rfl, rfl, true, congrArg V.bl (decide_eq_true rfl), ?_⟩
      obtain ⟨kvs, hd, hdl⟩ := hO1.isD
      refine iteT ⟨_, rfl, i, _, 2, _, rfl, rfl, SqT.of_H (sc _ _ hi), atI_nat rfl, _, rfl, p, _, dx, _, _, rfl, hO1.ins, T.cl, T.na "denials", stF_d r f u d, _, rfl, d, _, rfl, DPut.k (k := .inr n) hd (by rw [hdl]; exact small1 hsm.dens), ?_⟩
      exact q _ ⟨r, f, u, d, dx, ps, hO1.setDen n hd (stays_body.go sc.t hbo)⟩
    | fact n rw0 =>
      obtain ⟨a, hi, hrw⟩ := hit
      refine ⟨_, rfl, _, rfl, i, _, rfl, SqT.of_H hi, nw3, fun c nc => ?_⟩
      have sc := same_new (o := .tup (cutV [V.str "fact", V.str n, V.ref a] none (some 2))) nc
      have hO1 := hO.same sc
      refine ⟨c, _, rfl, SqT.of_H upd_same, rfl, _, _, rfl, _, _, rfl, rfl, ?_⟩
      refine ⟨_, rfl, rfl, false, congrArg V.bl (dec_str_ne (by decide +kernel)), ?_⟩
      refine iteF ⟨_, rfl, rfl, false, congrArg V.bl (dec_str_ne (by decide +kernel)), ?_⟩
      refine iteF ⟨_, rfl, rfl, false, congrArg V.bl (dec_str_ne (by decide +kernel)), ?_⟩
      refine iteF ⟨_, rfl, p, dx, _, rfl, hO1.ins, rfl, _, rfl, _, rfl, i, _, 2, _, rfl, rfl, SqT.of_H (sc _ _ hi), atI_nat rfl, p, a, n, rw0, st, rfl, ⟨r, f, u, d, hO1.parts⟩, sc _ _ hrw, fun H2 s2 => ?_⟩
      have hO2 := hO1.same s2
      have hi2 := s2 _ _ (sc _ _ hi)
      have hrw2 : RowH H2 a rw0 := s2 _ _ (sc _ _ hrw)
      refine ⟨_, rfl, ?_⟩
      by_cases hin : rw0 ∈ rowsOf st.facts n
      · rw [decide_eq_true hin]
        refine iteF ?_
        refine q _ ?_
        rw [show putM st (.fact n rw0) = st from if_pos hin]
        exact ⟨r, f, u, d, dx, ps, hO2⟩
      · rw [decide_eq_false hin]
        have eput : putM st (.fact n rw0) = { st with facts := put st.facts n (rowsOf st.facts n ++ [rw0]) } := if_neg hin
        rw [eput] at q
        refine iteT ⟨_, rfl, p, _, dx, _, _, rfl, hO2.ins, T.cl, T.na "facts", stF_f r f u d, f, rfl, rows_isD hO2.parts.facts, _, rfl, Nat.zero_le _, fun L nL => ?_⟩
        have sL := same_new (o := .lst []) nL
        have hO3 := hO2.same sL
        refine ⟨_, .inr n, sL _ _ hO2.facts, rfl, by rw [encS_len, List.length_map]; have := congrArg List.length hO2.fm; rw [List.length_map] at this; rw [this]; exact small1 hsm.facts, fun v hv => ?_, fun hv => ?_⟩
        · rw [encS_val, look_map (fun q : Addr × List Row => q.1)] at hv
          cases hl : look ps n with
          | none =>
            rw [hl] at hv
            cases hv
          | some qq =>
            obtain ⟨la, rows⟩ := qq
            rw [hl] at hv
            have hv' : V.ref la = v := Option.some.inj hv
            subst hv'
            have hm := look_mem hl
            obtain ⟨ws, w1, w2, w3⟩ := hO3.fl _ hm
            have er : rowsOf st.facts n = rows := by
              unfold rowsOf
              rw [← hO2.fm, look_map (fun q : Addr × List Row => q.2), hl]
              rfl
            have lr : rows.length ≤ 1000 := hsm.rows (n, rows) (by rw [← hO2.fm]; exact List.mem_map_of_mem (f := fun q : Str × Addr × List Row => (q.1, q.2.2)) hm)
            refine ⟨.inl ⟨rfl, _, SqL.of_H w1⟩, _, rfl, i, _, 2, _, rfl, rfl, SqT.of_H (sL _ _ hi2), atI_nat rfl, la, _, _, rfl, rfl, w1, ?_, ?_⟩
            · have w2' : (ws.map (·.2)).length = rows.length := congrArg List.length w2
              rw [List.length_map] at w2'
              rw [List.length_map]
              exact small1 (by omega)
            · obtain ⟨ps', h'⟩ := hO3.setL hm (qs := ws ++ [(a, rw0)]) (fun x hx => by
                rcases List.mem_append.mp hx with hx | hx
                · exact w3 x hx
                · rw [List.mem_singleton.mp hx]
                  exact sL _ _ hrw2)
              rw [List.map_append, List.map_append, w2] at h'
              refine q _ ⟨r, f, u, d, dx, ps', ?_⟩
              rw [er]
              exact h'
        · rw [encS_val, look_map (fun q : Addr × List Row => q.1)] at hv
          cases hl : look ps n with
          | some qq =>
            rw [hl] at hv
            cases hv
          | none =>
            have hln : look st.facts n = none := by rw [← hO2.fm, look_map (fun q : Addr × List Row => q.2), hl]; rfl
            have hN := hO2.newL hln nL hO2.facts
            have nLf : L ≠ f := fun z => by
              rw [z, hO2.facts] at nL
              cases nL
            have er : rowsOf st.facts n = [] := by
              unfold rowsOf
              rw [hln]
              rfl
            have tD := sameT_dK (o := .dK (putK (encS V.ref (ps.map fun q => (q.1, q.2.1))) (.inr n) (V.ref L))) (sL _ _ hO2.facts)
            have eL : upd (upd H2 L (.lst [])) f (.dK (putK (encS V.ref (ps.map fun q => (q.1, q.2.1))) (.inr n) (V.ref L))) L = some (.lst []) := by rw [upd_ne nLf, upd_same]
            refine ⟨.inl ⟨rfl, _, SqL.of_H eL⟩, _, rfl, i, _, 2, _, rfl, rfl, SqT.of_H (tD _ _ (sL _ _ hi2)), atI_nat rfl, L, _, _, rfl, rfl, eL, Nat.zero_lt_of_lt (small1 (Nat.le_refl _)), ?_⟩
            obtain ⟨ps', h'⟩ := hN.setL (n := n) (a := L) (rows := []) (by simp) (qs := [(a, rw0)]) (fun x hx => by
              rw [List.mem_singleton.mp hx]
              exact tD _ _ (sL _ _ hrw2))
            refine q _ ⟨r, f, u, d, dx, ps', ?_⟩
            have h'' : SOwn (He.ga K "State") H0 _ p r f u d dx ps' { st with facts := put (put st.facts n []) n [rw0] } := h'
            rw [put_put] at h''
            rw [er]
            exact h''
theorem eraseR_split {r : Row} : ∀ {l : List (Addr × Row)}, r ∈ l.map (·.2) → ∃ pre m post, l = pre ++ m :: post ∧ m.2 = r ∧ (∀ p ∈ pre, p.2 ≠ r) ∧ eraseR r (l.map (·.2)) = (pre ++ post).map (·.2)
  | [], h => by cases h
  | x :: l, h => by
    by_cases e : x.2 = r
    · refine ⟨[], x, l, rfl, e, (fun p hp => (by cases hp)), ?_⟩
      show (if x.2 = r then l.map (·.2) else _) = _
      rw [if_pos e]
      rfl
    · have h' : r ∈ l.map (·.2) := by
        rw [List.map_cons] at h
        rcases List.mem_cons.mp h with h | h
        · exact absurd h.symm e
        · exact h
      obtain ⟨pre, m, post, h1, h2, h3, h4⟩ := eraseR_split h'
      refine ⟨x :: pre, m, post, by rw [h1]; rfl, h2, fun p hp => ?_, ?_⟩
      · rcases List.mem_cons.mp hp with rfl | hp
        · exact e
        · exact h3 p hp
      · show (if x.2 = r then _ else x.2 :: eraseR r (l.map (·.2))) = _
        rw [if_neg e, h4]
        rfl
def spTake (K : PySem.W.Frag) : Sp := fun vs H Q _ => ∃ (H0 : Hp) (p k a : Addr) (n : Str) (r : Row) (st : St), vs = [.ref p, .ref k] ∧ OwnAt K H0 H p st ∧ H k = some (.tup [.int 1, .str n, .ref a]) ∧ RowH H a r ∧ ∀ H', OwnAt K H0 H' p (takeM st n r) → Q .non H'
theorem sc_take : FnScope ["self", "key", "sort", "name", "row"] ["self", "key"] (defScope (inClass (topS 42) 2)) := ⟨rfl, rfl, rfl, by decide +kernel, rfl, by decide +kernel, by decide +kernel⟩
theorem ok_take (T : Tx P K mg) : Met P w K mg base CX0 2 "take" (spTake K) := by
  have C1 := ok_has (w := w) (base := base) T
  refine met_of T 58 2 rfl sc_take (fun vs H Q E h => ?_) (fun _ _ _ _ _ _ us hl => match us, hl with | [_, _], _ => rfl) (fun cdv A outer s H vs Q E hr h => ?_)
  · obtain ⟨H0, p, k, a, n, r, st, rfl, _⟩ := h
    rfl
  · obtain ⟨H0, p, k, a, n, rr, st, rfl, ⟨r, f, u, d, dx, ps, hO⟩, hk, hra, q⟩ := h
    refine ⟨_, PSs.nox (pss_cons (ps_asg (pv 1) (pg_tup rfl (pgs_cons (pg_name (i := 2) sc_take.nd rfl (Or.inl rfl)) (pgs_cons (pg_name (i := 3) sc_take.nd rfl (Or.inl rfl)) (pgs_cons (pg_name (i := 4) sc_take.nd rfl (Or.inl rfl)) pgs_nil)))))
    (pss_one (ps_if (pt_cmpR op_eq (pv 2) pe_int (nomark _)) (pss_one ps_never) (pss_one (ps_if (pt_cmpR op_eq (pv 2) pe_int (nomark _)) (pss_one ps_never) (pss_one (ps_if (pt_cmpR op_eq (pv 2) pe_int (nomark _)) (pss_one ps_never) (pss_one (ps_if (pt_val (pe_mt T C1 hr (pv 0) (pa_cons (pv 3) (pa_cons (pv 4) pa_nil)))) (pss_one (ps_expr (pe_bm PySem.F.plainAttrs_list PySem.F.slot_list_remove PySem.F.type_list_remove (mt_removeT tells_row (hu3 hr)) (pe_dget (hu_of hr) (pe_fld (pv 0) rfl) (pv 3) (fun _ _ => rfl)) (pa_cons (pv 4) pa_nil)))) pss_nil))))))))), ?_⟩
    refine ⟨_, rfl, k, _, rfl, SqT.of_H hk, rfl, _, _, rfl, _, _, rfl, _, _, rfl, rfl, ?_⟩
    refine ⟨_, rfl, rfl, false, rfl, ?_⟩
    refine iteF ⟨_, rfl, rfl, false, rfl, ?_⟩
    refine iteF ⟨_, rfl, rfl, false, rfl, ?_⟩
    refine iteF ⟨_, rfl, p, dx, _, rfl, hO.ins, rfl, _, rfl, _, rfl, p, a, n, rr, st, rfl, ⟨r, f, u, d, hO.parts⟩, hra, fun H2 s2 => ?_⟩
    have hO2 := hO.same s2
    have hra2 : RowH H2 a rr := s2 _ _ hra
    refine ⟨_, rfl, ?_⟩
    by_cases hin : rr ∈ rowsOf st.facts n
    · rw [decide_eq_true hin]
      have eput : takeM st n rr = { st with facts := put st.facts n (eraseR rr (rowsOf st.facts n)) } := if_pos hin
      rw [eput] at q
      obtain ⟨rows, m1, m2, m3⟩ := rowsOf_mem hin
      rw [← hO2.fm] at m1
      obtain ⟨⟨nn, la, rows'⟩, hm, em⟩ := List.mem_map.mp m1
      injection em with em1 em2
      subst em1
      subst em2
      obtain ⟨ws, w1, w2, w3⟩ := hO2.fl _ hm
      have w2' : ws.map (·.2) = rows' := w2
      have nk : (ps.map fun q => (q.1, q.2.1)).map (·.1) = st.facts.map (·.1) := by rw [← hO2.fm, List.map_map, List.map_map]; rfl
      have hl : look (ps.map fun q => (q.1, q.2.1)) nn = some la := nodup_look (by rw [nk]; exact hO2.kn) (q := (nn, la)) (List.mem_map_of_mem (f := fun q : Str × Addr × List Row => (q.1, q.2.1)) hm)
      obtain ⟨pre, m, post, e1, e2, e3, e4⟩ := eraseR_split (r := rr) (l := ws) (by rw [w2']; exact m2)
      refine iteT ⟨_, rfl, p, _, dx, _, _, rfl, hO2.ins, T.cl, T.na "facts", stF_f r f u d, _, rfl, f, _, rfl, dgetS (.inl hO2.facts) hl, .inl ⟨rfl, _, SqL.of_H w1⟩, _, rfl, la, a, rr, pre, m, post, rfl, rfl, hra2, by rw [← e1]; exact w1, fun x hx => w3 x (by rw [e1]; exact hx), e2, e3, ?_⟩
      obtain ⟨ps', h'⟩ := hO2.setL hm (qs := pre ++ post) (fun x hx => w3 x (by
        rw [e1]
        rcases List.mem_append.mp hx with hx | hx
        · exact List.mem_append_left _ hx
        · exact List.mem_append_right _ (List.mem_cons_of_mem _ hx)))
      refine q _ ⟨r, f, u, d, dx, ps', ?_⟩
      rw [m3, ← w2', e4]
      exact h'
    · rw [decide_eq_false hin]
      refine iteF (q _ ?_)
      rw [show takeM st n rr = st from if_neg hin]
      exact ⟨r, f, u, d, dx, ps, hO2⟩
end
end Rs


set_option Elab.async false
set_option linter.all false
set_option maxRecDepth 100000
set_option maxHeartbeats 2000000
/-! # S3: tidy -/
namespace Rs
open PySem PySem.Spec PyProof.Rows L2
def RowsS (st : St) : Prop := ∀ q ∈ st.facts, q.2.length ≤ 1000 ∧ ∀ r ∈ q.2, r ≠ [] ∧ r.length ≤ 1000
def spTidy (K : PySem.W.Frag) : Sp := fun vs H Q _ => ∃ (H0 : Hp) (p : Addr) (st : St), vs = [.ref p] ∧ OwnAt K H0 H p st ∧ st.rels.length + st.facts.length < 64 ∧ RowsS st ∧ ∀ H', OwnAt K H0 H' p (tidyM st) → Q .non H'
theorem put_addr {κ α : Type} [DecidableEq κ] {a : Addr} {n : κ} {x : α} : ∀ {l : List (κ × Addr × α)}, (l.map (·.1)).Nodup → (l.map (·.2.1)).Nodup → a ∉ l.map (·.2.1) → ((put l n (a, x)).map (·.2.1)).Nodup := by
  intro l hk ha hn
  unfold put
  split
  · have key : ∀ l : List (κ × Addr × α), (l.map (·.1)).Nodup → (l.map (·.2.1)).Nodup → a ∉ l.map (·.2.1) → ((l.map fun p => if p.1 = n then (p.1, (a, x)) else p).map (·.2.1)).Nodup ∧ (n ∉ l.map (·.1) → (l.map fun p => if p.1 = n then (p.1, (a, x)) else p) = l) ∧ (∀ b ∈ (l.map fun p => if p.1 = n then (p.1, (a, x)) else p).map (·.2.1), b = a ∨ b ∈ l.map (·.2.1)) := by
      intro l
      induction l with
      | nil => intro _ _ _; exact ⟨List.nodup_nil, fun _ => rfl, fun b hb => .inr hb⟩
      | cons q l ih =>
        intro hk ha hn
        rw [List.map_cons, List.nodup_cons] at hk ha
        rw [List.map_cons] at hn
        obtain ⟨i1, i2, i3⟩ := ih hk.2 ha.2 (fun z => hn (List.mem_cons_of_mem _ z))
        by_cases e : q.1 = n
        · have e2 := i2 (by rw [← e]; exact hk.1)
          refine ⟨?_, fun z => absurd (by rw [← e]; exact List.mem_cons_self ..) z, ?_⟩
          · rw [List.map_cons, if_pos e, e2, List.map_cons, List.nodup_cons]
            exact ⟨fun z => hn (List.mem_cons_of_mem _ z), ha.2⟩
          · rw [List.map_cons, if_pos e, e2, List.map_cons]
            intro b hb
            rcases List.mem_cons.mp hb with rfl | hb
            · exact .inl rfl
            · exact .inr (List.mem_cons_of_mem _ hb)
        · refine ⟨?_, fun z => ?_, ?_⟩
          · rw [List.map_cons, if_neg e, List.map_cons, List.nodup_cons]
            refine ⟨fun z => ?_, i1⟩
            rcases i3 _ z with z | z
            · exact hn (by rw [← z]; exact List.mem_cons_self ..)
            · exact ha.1 z
          · rw [List.map_cons, if_neg e, i2 (fun y => z (List.mem_cons_of_mem _ y))]
          · rw [List.map_cons, if_neg e, List.map_cons]
            intro b hb
            rcases List.mem_cons.mp hb with rfl | hb
            · exact .inr (List.mem_cons_self ..)
            · rcases i3 b hb with h | h
              · exact .inl h
              · exact .inr (List.mem_cons_of_mem _ h)
    exact (key l hk ha hn).1
  · rw [List.map_append, List.nodup_append]
    refine ⟨ha, by simp, fun b hb c hc => ?_⟩
    rw [List.map_singleton, List.mem_singleton] at hc
    intro z
    have hc' : c = a := hc
    exact hn (by rw [← hc', ← z]; exact hb)
theorem cr_sortLK {X : Cx} {K : PySem.W.Frag} {f : Addr} {fd : FuncData} {k : Nat} (h : X.K = K) (hc : X.calm = true) (F : FnOk X.prog X.w X.K X.mg X.base CX0 k f fd ["row"] spRK) (hr : Room (k + 2) X.A) (hb : Binds X.K fd ["row"] []) : CallRK X (.builtin "sorted") [Str.ofString "key"] (rSortL K f) := by
  subst h
  exact cr_sortL hc F hr hb
theorem call_lenK {X : Cx} {K : PySem.W.Frag} (h : X.K = K) : CallR X (.builtin "len") (fun xs H Q => ∃ x n, xs = [x] ∧ LenV K x H n ∧ Q (V.int ↑n) H) := by
  subst h
  exact call_len
section
variable {P : Program} {w : World} {K : PySem.W.Frag} {mg : Str → Option Value} {base : Heap}
theorem sc_tidy : FnScope ["self", "names", "name"] ["self"] (defScope (inClass (topS 42) 3)) := ⟨rfl, rfl, rfl, by decide +kernel, rfl, by decide +kernel, by decide +kernel⟩
theorem ok_tidy (T : Tx P K mg) : Met P w K mg base CX0 5 "tidy" (spTidy K) := by
  obtain ⟨fdk, FK, gk, kk, bk⟩ := okF_row_key (w := w) (base := base) T
  refine met_of T 59 3 rfl sc_tidy (fun vs H Q E h => ?_) (fun _ _ _ _ _ _ us hl => match us, hl with | [_], _ => rfl) (fun cdv A outer s H vs Q E hr h => ?_)
  · obtain ⟨H0, p, st, rfl, _⟩ := h
    rfl
  · obtain ⟨H0, p, st, rfl, ⟨r, f, u, d, dx, ps, hO⟩, hlt, hrw, q⟩ := h
    refine ⟨_, PSs.nox (pss_cons (ps_set (i := 1) sc_tidy.nd rfl (Or.inl rfl) (pe_callB cr_sortedS (by rfl) (T.fr "sorted") (by decide +kernel) (pa_cons (pe_op op_cat (pe_callTy (call_listD rfl) (by rfl) (T.fr "list") (by decide +kernel) (pa_cons (pe_fld (pv 0) rfl) pa_nil))
      (pe_lock (pe_lc (own := [("name", 2)]) (g := gName 2) (tt := _) rfl sc_tidy.nd (pi_keys (pe_fld (pv 0) rfl)) (blkOk_by (own := [("name", 2)]) (N := ["self", "names", "name"]) (sc := defScope (inClass (topS 42) 3)) (by decide +kernel)) (fun _ _ _ _ _ => (pg_name (i := 2) sc_tidy.nd rfl (Or.inl rfl)))
        (fun _ _ _ _ _ => (pts_one (pt_cmpR op_gt (pe_callB (call_lenK rfl) (by rfl) (T.fr "len") PySem.boot_len (pa_cons (pe_dget (hu_of hr) (pe_fldK rfl (pv 0)) (pv 2) (fun _ _ => rfl)) pa_nil)) pe_int (nomark _)))) (fun _ _ _ _ _ => (pv 2))))) pa_nil)))
    (pss_one (ps_fld (pv 0) (pe_dg (rows := false) (own := [("name", 2)]) (g := gName 2) (tt := tYes) (hu_of hr) rfl sc_tidy.nd (pi_list (pv 1)) (blkOk_by (own := [("name", 2)]) (N := ["self", "names", "name"]) (sc := defScope (inClass (topS 42) 3)) (by decide +kernel)) (fun _ _ _ _ _ => (pg_name (i := 2) sc_tidy.nd rfl (Or.inl rfl))) (fun _ _ _ _ _ => pts_nil) (fun _ _ _ _ _ => pv 2)
      (fun _ _ _ _ _ => pe_callBK (cr_sortLK rfl rfl FK hr bk) (by rfl) (T.fr "sorted") (by decide +kernel) (pa_cons (pe_dget2 (hu_of hr) (pe_fldK rfl (pv 0)) (pv 2) (pe_lst pa_nil) ⟨rfl, rfl, rfl, rfl⟩) pa_nil) (pk_cons (pe_glob (v := .ref (He.ga K "row_key")) (by rfl) gk rfl) pk_nil))) rfl))), ?_⟩
    have lps : ps.length = st.facts.length := by
      have := congrArg List.length hO.fm
      rw [List.length_map] at this
      exact this
    have nk : (ps.map (·.1)) = st.facts.map (·.1) := by rw [← hO.fm, List.map_map]; rfl
    have ndk : ((ps.map fun q => (q.1, q.2.1)).map (·.1)).Nodup := by
      rw [List.map_map]
      show (ps.map (·.1)).Nodup
      rw [nk]
      exact hO.kn
    have rl : ∀ {n : Str} {a : Addr} {rows : List Row}, (n, a, rows) ∈ ps → rowsOf st.facts n = rows := fun {n a rows} hm => by
      unfold rowsOf
      rw [nodup_look hO.kn (q := (n, rows)) (by rw [← hO.fm]; exact List.mem_map_of_mem (f := fun q : Str × Addr × List Row => (q.1, q.2.2)) hm)]
      rfl
    refine ⟨_, rfl, p, _, dx, _, _, rfl, hO.ins, T.cl, T.na "relations", stF_r r f u d, r, _, rfl, .inl hO.rels, fun l0 n0 => ?_⟩
    have s0 := same_new (o := .lst ((encS V.int st.rels).map fun kv => kV kv.1)) n0
    have hO1 := hO.same s0
    refine ⟨f, _, hO1.facts, trivial, fun od => ?_⟩
    have hinsL : upd (upd H l0 (.lst ((encS V.int st.rels).map fun kv => kV kv.1))) f (.frz od (.dK (encS V.ref (ps.map fun q => (q.1, q.2.1))))) p = some (.ins (He.ga K "State") dx (stF r f u d)) := lock_same hO1.facts hO1.ins (by intro z; cases z)
    refine ⟨_, rfl, p, _, dx, _, _, rfl, hinsL, T.cl, T.na "facts", stF_f r f u d, f, od, rfl, .inl ⟨_, upd_same, fun D nD => lc_W (walks_keys (l := ps.map fun q => (q.1, q.2.1)) (h := V.ref) (d := f) (o := od)) nD (fun H' s => s _ _ upd_same) (by rw [List.length_map]; omega)
      (fun H' acc pre => acc = (((pre.map (·.1)).filter fun n => decide (0 < (rowsOf st.facts n).length))).map V.str) rfl ?_ ?_⟩⟩
    · rintro pre ⟨n, la⟩ post acc H' Nx No el s1 eD rfl hN hNo
      have hm0 : (n, la) ∈ ps.map fun q => (q.1, q.2.1) := by rw [el]; simp
      obtain ⟨⟨n', la', rows⟩, hm, e0⟩ := List.mem_map.mp hm0
      obtain ⟨rfl, rfl⟩ := Prod.mk.inj e0
      obtain ⟨ws, w1, w2, w3⟩ := hO1.fl _ hm
      have w1' := s1 _ _ (lock_same (od := od) hO1.facts w1 (by intro z; cases z))
      have lr : ws.length = rows.length := by
        have := congrArg List.length w2
        rw [List.length_map] at this
        exact this
      refine ⟨rfl, _, rfl, p, _, dx, _, _, rfl, s1 _ _ hinsL, T.cl, T.na "facts", stF_f r f u d, _, rfl, f, _, rfl, dgetS (.inr ⟨od, s1 _ _ upd_same⟩) (nodup_look ndk hm0), _, _, rfl, .inl ⟨_, SqL.of_H w1', rfl⟩, _, _, rfl, rfl, _, rfl, ?_⟩
      have ec : decide ((0 : Int) < (((ws.map fun q => V.ref q.1).length : Nat) : Int)) = decide (0 < (rowsOf st.facts n').length) := by
        rw [rl hm, List.length_map, lr]
        by_cases z : 0 < rows.length
        · rw [decide_eq_true z, decide_eq_true (by omega)]
        · rw [decide_eq_false z, decide_eq_false (by omega)]
      show if decide ((0 : Int) < (((ws.map fun q => V.ref q.1).length : Nat) : Int)) = true then _ else _
      rw [ec]
      cases hd : decide (0 < (rowsOf st.facts n').length) with
      | true =>
        refine iteT ⟨_, rfl, hN _ _ (Same.refl _) ?_⟩
        rw [List.map_append, List.filter_append, List.map_append]
        simp only [List.map_cons, List.map_nil, List.filter_cons, hd, List.filter_nil]
        rfl
      | false =>
        refine iteF (hNo _ (Same.refl _) ?_)
        rw [List.map_append, List.filter_append, List.map_append]
        simp only [List.map_cons, List.map_nil, List.filter_cons, hd, List.filter_nil]
        simp
    · rintro H3 acc s3 eD rfl
      obtain ⟨hf, sB⟩ := lock_back hO1.facts s3
      refine ⟨hf, ?_⟩
      have nDf : D ≠ f := fun z => by
        rw [z, upd_same] at nD
        cases nD
      have enames : ((ps.map fun q => (q.1, q.2.1)).map (·.1)).filter (fun n => decide (0 < (rowsOf st.facts n).length)) = (st.facts.filter fun q => decide (0 < q.2.length)).map (·.1) := by
        rw [List.map_map, show ps.map ((fun x : Str × Addr => x.1) ∘ fun q : Str × Addr × List Row => (q.1, q.2.1)) = st.facts.map (·.1) from nk, List.filter_map]
        refine congrArg (List.map fun q : Str × List Row => q.1) (List.filter_congr fun q hq => ?_)
        show decide (0 < (rowsOf st.facts q.1).length) = decide (0 < q.2.length)
        unfold rowsOf
        rw [nodup_look hO.kn hq]
        rfl
      rw [enames] at eD
      refine ⟨l0, D, _, _, rfl, rfl, sB _ _ upd_same, by rw [upd_ne nDf]; exact eD, ?_, fun pp npp => ?_⟩
      · have := List.length_filter_le (fun q : Str × List Row => decide (0 < q.2.length)) st.facts
        rw [List.length_map, List.length_map, List.length_map, encS_len, sizeLine_eq]
        omega
      refine ⟨pp, st.rels.map (·.1) ++ (st.facts.filter fun q => decide (0 < q.2.length)).map (·.1), rfl, SqL.of_H ?_, ?_, fun ys lq perm srt nl => ?_⟩
      · rw [upd_same, List.map_append]
        have e1 : (encS V.int st.rels).map (fun kv => kV kv.1) = (st.rels.map (·.1)).map V.str := by
          unfold encS
          rw [List.map_map, List.map_map]
          rfl
        rw [e1]
      · have := List.length_filter_le (fun q : Str × List Row => decide (0 < q.2.length)) st.facts
        rw [List.length_append, List.length_map, List.length_map]
        omega
      have en : ys = tidyNames st := sorted_is perm srt
      subst en
      have spp := same_new (o := .lst (((encS V.int st.rels).map fun kv => kV kv.1) ++ ((st.facts.filter fun q => decide (0 < q.2.length)).map (·.1)).map V.str)) npp
      have slq := same_new (o := .lst ((tidyNames st).map V.str)) nl
      have hO2 := ((hO1.same sB).same spp).same slq
      have ltn : (tidyNames st).length < 64 := by
        unfold tidyNames
        have := List.length_filter_le (fun q : Str × List Row => decide (0 < q.2.length)) st.facts
        rw [sortS_len, List.length_append, List.length_map, List.length_map]
        omega
      have sH := ((s0.trans sB).trans spp).trans slq
      refine ⟨_, rfl, lq, rfl, ⟨_, SqL.of_H upd_same⟩, fun D2 nD2 => dg_W (walks_list (K := K) (l := tidyNames st) (f := V.str)) nD2 (fun H' s => SqL.of_H (s _ _ upd_same)) (by omega)
        (fun H' kvs pre => ∃ qs : List (Str × Addr × List Row), kvs = encS V.ref (qs.map fun q => (q.1, q.2.1)) ∧ qs.map (fun q => (q.1, q.2.2)) = pre.foldl (fun d n => put d n (sortRows (rowsOf st.facts n))) [] ∧ (∀ q ∈ qs, LstOf RowH H' q.2.1 q.2.2 ∧ H0 q.2.1 = none) ∧ (qs.map (·.2.1)).Nodup ∧ (qs.map (·.1)).Nodup)
        ⟨[], rfl, rfl, (fun q hq => (by cases hq)), List.nodup_nil, List.nodup_nil⟩ ?_ ?_⟩
      · rintro pre n post kvs H8 Nx No el8 s8 eD8 ⟨qs, rfl, eqs, hqs, nda, ndn⟩ hN _
        have hO8 := hO2.same s8
        refine ⟨rfl, _, rfl, _, rfl, p, _, dx, _, _, rfl, hO8.ins, T.cl, T.na "facts", stF_f r f u d, f, rfl, rows_isD hO8.parts.facts, _, rfl, Nat.zero_le _, fun L nL => ?_⟩
        have sL := same_new (o := .lst []) nL
        obtain ⟨o, gg, la, zs, e1, e2, e3, e4, e5⟩ := get_rows2 hO8.parts.facts n sL upd_same
        have hzr : ∀ z ∈ zs, z.2 ∈ rowsOf st.facts n := fun z hz => by
          rw [← e4]
          exact List.mem_map_of_mem hz
        have hrow : ∀ r' ∈ rowsOf st.facts n, r' ≠ [] ∧ r'.length ≤ 1000 := fun r' hr' => by
          obtain ⟨rows, h1, h2, _⟩ := rowsOf_mem hr'
          exact (hrw _ h1).2 r' h2
        refine ⟨o, gg, la, zs, by rw [e1], rfl, SqL.of_H e3, fun z hz => ⟨e5 z hz, (hrow _ (hzr z hz)).2⟩, fun _ z hz => (hrow _ (hzr z hz)).1, fun H9 lr s9 nlr hlr => ?_⟩
        have nlr8 : H8 lr = none := sL.free nlr
        have hrows : LstOf RowH H9 lr (sortRows (rowsOf st.facts n)) := ⟨sortP zs, hlr, by rw [sortP_rows, e4], fun x hx => stays_row.go s9.t (e5 x ((sortP_perm zs).mem_iff.mp hx))⟩
        refine hN (.inr n) _ _ (sL.trans s9) ⟨put qs n (lr, sortRows (rowsOf st.facts n)), ?_, ?_, ?_, ?_, put_nodup ndn⟩
        · rw [map_put (fun q : Addr × List Row => q.1), encS_put]
        · rw [map_put (fun q : Addr × List Row => q.2), eqs, List.foldl_append]
          rfl
        · have eD9 := s9 _ _ (sL _ _ eD8)
          have tD := sameT_dK (o := .dK (putK (encS V.ref (qs.map fun q => (q.1, q.2.1))) (.inr n) (V.ref lr))) eD9
          intro x hx
          rcases put_mem hx with rfl | hx
          · exact ⟨hrows.keep stays_row tD (upd_ne (ne_of hlr eD9 (by intro z; cases z))), by
              cases e0 : H0 lr with
              | none => rfl
              | some o => exact absurd (hO8.sm _ _ e0) (by rw [nlr8]; intro z; cases z)⟩
          · obtain ⟨y1, y2⟩ := hqs x hx
            have y3 := (y1.same stays_row sL).same stays_row s9
            obtain ⟨ws, w1, _⟩ := id y3
            exact ⟨y3.keep stays_row tD (upd_ne (ne_of w1 eD9 (by intro z; cases z))), y2⟩
        · refine put_addr ndn nda (fun hm => ?_)
          obtain ⟨x, hx, e⟩ := List.mem_map.mp hm
          obtain ⟨⟨ws, w1, _⟩, _⟩ := hqs x hx
          rw [e] at w1
          rw [nlr8] at w1
          cases w1
      · rintro H8 kvs s8 eD8 ⟨qs, rfl, eqs, hqs, nda, ndn⟩
        have hO8 := hO2.same s8
        refine ⟨_, rfl, p, _, dx, _, rfl, hO8.ins, T.cl, T.na "facts", (by show 4 < 1000; decide), ?_⟩
        refine q _ ⟨r, D2, u, d, dx, qs, ?_⟩
        have hins : H8 p = some (.ins (He.ga K "State") dx (stF r f u d)) := hO8.ins
        have np : ∀ {b : Addr} {o : HO}, H8 b = some o → (∀ C dx fs, o ≠ .ins C dx fs) → b ≠ p := fun e n z => by
          rw [z, hins] at e
          exact n _ _ _ (Option.some.inj e).symm
        have ho : ∀ {b : Addr} {o : HO}, H8 b = some o → (∀ C dx fs, o ≠ .ins C dx fs) → upd H8 p (.ins (He.ga K "State") dx (stF r D2 u d)) b = some o := fun e n => by
          rw [upd_ne (np e n)]
          exact e
        have t8 : SameT H8 (upd H8 p (.ins (He.ga K "State") dx (stF r D2 u d))) := sameT_upd fun xs z => by rw [hins] at z; cases z
        obtain ⟨kvu, hku, _⟩ := hO8.isU
        obtain ⟨kvd, hkd, _⟩ := hO8.isD
        have nD2x : ∀ {b : Addr} {o : HO}, (upd (upd (upd H3 f (.dK (encS V.ref (ps.map fun q => (q.1, q.2.1))))) pp (.lst (((encS V.int st.rels).map fun kv => kV kv.1) ++ ((st.facts.filter fun q => decide (0 < q.2.length)).map (·.1)).map V.str))) lq (.lst ((tidyNames st).map V.str))) b = some o → b ≠ D2 := fun e => ne_of_none e nD2
        obtain ⟨kvu2, hku2, _⟩ := hO2.isU
        obtain ⟨kvd2, hkd2, _⟩ := hO2.isD
        obtain ⟨n1, n2, n3, n4, n5, n6⟩ := hO.ne
        refine ⟨upd_same, ho hO8.rels (fun _ _ _ z => nomatch z), ho eD8 (fun _ _ _ z => nomatch z), eqs, fun x hx => ?_, nda, ?_, ?_, ?_, ⟨nD2x hO2.rels, n2, n3, Ne.symm (nD2x hku2), Ne.symm (nD2x hkd2), n6⟩, ?_, same0_upd hO8.sm hO8.new.1⟩
        · obtain ⟨y1, _⟩ := hqs x hx
          obtain ⟨ws, w1, _⟩ := id y1
          exact y1.keep stays_row t8 (upd_ne (np w1 (fun _ _ _ z => nomatch z)))
        · exact tidyF_nodup _ _
        · exact hO8.rules.other stays_rule t8 (np hku (fun _ _ _ z => nomatch z))
        · exact hO8.dens.other stays_body t8 (np hkd (fun _ _ _ z => nomatch z))
        · obtain ⟨m1, m2, m3, m4, m5, m6⟩ := hO8.new
          refine ⟨m1, m2, ?_, m4, m5, fun x hx => (hqs x hx).2⟩
          cases e0 : H0 D2 with
          | none => rfl
          | some o => exact absurd (hO2.sm _ _ e0) (by rw [nD2]; intro z; cases z)
end
end Rs


set_option Elab.async false
set_option linter.all false
set_option maxRecDepth 100000
set_option maxHeartbeats 2000000
/-! # S4: all_items -/
namespace Rs
open PySem PySem.Spec PyProof.Rows L2
theorem op_catAK {X : Cx} {K : PySem.W.Frag} (h : X.K = K) : OpR X (binaryOp .Add) (rCatA K) := by
  subst h
  exact op_catA
theorem push_item {α : Type} {R : Hp → Addr → α → Prop} (S : Stays R) {H' H4 : Hp} {D TP : Addr} {ps : List (Addr × α)} {it : α} {acc : List V} {o : HO} (s : Same H' H4) (hps : ∀ q ∈ ps, R H' q.1 q.2) (hD : H4 D = some (.lst acc)) (hit : R H4 TP it) : ∀ q ∈ ps ++ [(TP, it)], R (upd H4 D o) q.1 q.2 := fun q hq => by
  have t := sameT_lst (o := o) hD
  rcases List.mem_append.mp hq with hq | hq
  · exact S.go (s.t.trans t) (hps q hq)
  · rw [List.mem_singleton.mp hq]
    exact S.go t hit
theorem ext_items {α : Type} {R : Hp → Addr → α → Prop} (S : Stays R) {H' : Hp} {A : Addr} {ps zs : List (Addr × α)} (hA : H' A = some (.lst (ps.map fun q => V.ref q.1))) (hp : ∀ q ∈ ps, R H' q.1 q.2) (hz : ∀ q ∈ zs, R H' q.1 q.2) :
    LstOf R (upd H' A (.lst ((ps.map fun q => V.ref q.1) ++ zs.map fun q => V.ref q.1))) A (ps.map (·.2) ++ zs.map (·.2)) := by
  have t := sameT_lst (o := .lst ((ps.map fun q => V.ref q.1) ++ zs.map fun q => V.ref q.1)) hA
  refine ⟨ps ++ zs, by rw [upd_same, List.map_append], by rw [List.map_append], fun q hq => S.go t ?_⟩
  rcases List.mem_append.mp hq with hq | hq
  · exact hp q hq
  · exact hz q hq
structure Small (st : St) : Prop where
  rels : st.rels.length < 64
  facts : st.facts.length < 64
  rules : st.rules.length < 64
  dens : st.dens.length < 64
  rows : ∀ q ∈ st.facts, q.2.length ≤ 1000
def spItems (K : PySem.W.Frag) : Sp := fun vs H Q _ => ∃ (p : Addr) (st : St), vs = [.ref p] ∧ StAt K H p st ∧ Small st ∧ ∀ (H' : Hp) (q : Addr), Same H H' → H q = none → LstOf ItemAt H' q (allItems st) → Q (.ref q) H'
theorem rowsOf_len {st : St} (h : Small st) (n : Str) : (rowsOf st.facts n).length ≤ 1000 := by
  unfold rowsOf
  cases e : look st.facts n with
  | none => exact Nat.zero_le _
  | some rows => exact h.rows _ (look_mem e)
theorem flatMap_len {α β : Type} {f : α → List β} {b : Nat} : ∀ {l : List α}, (∀ x ∈ l, (f x).length ≤ b) → (l.flatMap f).length ≤ b * l.length
  | [], _ => by simp
  | x :: l, h => by
    have h1 := h x (List.mem_cons_self ..)
    have h2 := flatMap_len (l := l) fun y hy => h y (List.mem_cons_of_mem _ hy)
    rw [List.flatMap_cons, List.length_append, List.length_cons, Nat.mul_succ]
    omega
section
variable {P : Program} {w : World} {K : PySem.W.Frag} {mg : Str → Option Value} {base : Heap}
theorem sc_items : FnScope ["self", "items", "name", "row"] ["self"] (defScope (inClass (topS 42) 4)) := ⟨rfl, rfl, rfl, by decide +kernel, rfl, by decide +kernel, by decide +kernel⟩
theorem ok_items (T : Tx P K mg) : Met P w K mg base CX0 1 "all_items" (spItems K) := by
  refine met_of T 60 4 rfl sc_items (fun vs H Q E h => ?_) (fun _ _ _ _ _ _ us hl => match us, hl with | [_], _ => rfl) (fun cdv A outer s H vs Q E hr h => ?_)
  · obtain ⟨p, st, rfl, _⟩ := h
    rfl
  · obtain ⟨p, st, rfl, ⟨r, f, u, d, ⟨⟨dx, hi⟩, hr0, hf0, hu0, hd0⟩⟩, hsm, q⟩ := h
    refine ⟨_, PSs.nox (pss_cons (ps_setLc (i := 1) (own := [("name", 2)]) (g := gName 2) (tt := tYes) rfl sc_items.nd rfl rfl (sw_true rfl rfl rfl (by decide +kernel)) (pi_list (pe_callB (call_sortedD rfl) (by rfl) (T.fr "sorted") (by decide +kernel) (pa_cons (pe_fld (pv 0) rfl) pa_nil))) (blkOk_by (own := [("name", 2)]) (N := ["self", "items", "name", "row"]) (sc := defScope (inClass (topS 42) 4)) (by decide +kernel)) (fun _ _ _ _ _ => (pg_name (i := 2) sc_items.nd rfl (Or.inl rfl))) (fun _ _ _ _ _ => pts_nil) (fun _ _ _ _ _ => (pe_tup (pa_cons pe_str (pa_cons (pv 2) (pa_cons (pe_dget (hu_of hr) (pe_fldK rfl (pv 0)) (pv 2) (fun _ _ => rfl)) pa_nil))))))
    (pss_cons (ps_for PassesOwn.never rfl (pi_list (pe_callB (call_sortedD rfl) (by rfl) (T.fr "sorted") (by decide +kernel) (pa_cons (pe_fld (pv 0) rfl) pa_nil))) (pg_name (i := 2) sc_items.nd rfl (Or.inr rfl))
    (pss_one (ps_expr (pe_bm PySem.F.plainAttrs_list PySem.F.slot_list_extend PySem.F.type_list_extend mt_extend (pv 1) (pa_cons (pe_lc (own := [("row", 3)]) (g := gName 3) (tt := tYes) rfl sc_items.nd (pi_list (pe_dget (hu_of hr) (pe_fld (pv 0) rfl) (pv 2) (fun _ _ => rfl))) (blkOk_by (own := [("row", 3)]) (N := ["self", "items", "name", "row"]) (sc := defScope (inClass (topS 42) 4)) (by decide +kernel)) (fun _ _ _ _ _ => (pg_name (i := 3) sc_items.nd rfl (Or.inl rfl))) (fun _ _ _ _ _ => pts_nil) (fun _ _ _ _ _ => (pe_tup (pa_cons pe_str (pa_cons (pv 2) (pa_cons (pv 3) pa_nil)))))) pa_nil)))))
    (pss_cons (ps_expr (pe_bm PySem.F.plainAttrs_list PySem.F.slot_list_extend PySem.F.type_list_extend mt_extend (pv 1) (pa_cons (pe_lc (own := [("name", 2)]) (g := gName 2) (tt := tYes) rfl sc_items.nd (pi_list (pe_callB (call_sortedD rfl) (by rfl) (T.fr "sorted") (by decide +kernel) (pa_cons (pe_fld (pv 0) rfl) pa_nil))) (blkOk_by (own := [("name", 2)]) (N := ["self", "items", "name", "row"]) (sc := defScope (inClass (topS 42) 4)) (by decide +kernel)) (fun _ _ _ _ _ => (pg_name (i := 2) sc_items.nd rfl (Or.inl rfl))) (fun _ _ _ _ _ => pts_nil) (fun _ _ _ _ _ => (pe_op (op_catAK rfl) (pe_tup (pa_cons pe_str (pa_cons (pv 2) pa_nil))) (pe_dget (hu_of hr) (pe_fldK rfl (pv 0)) (pv 2) (fun _ _ => rfl))))) pa_nil)))
    (pss_cons (ps_expr (pe_bm PySem.F.plainAttrs_list PySem.F.slot_list_extend PySem.F.type_list_extend mt_extend (pv 1) (pa_cons (pe_lc (own := [("name", 2)]) (g := gName 2) (tt := tYes) rfl sc_items.nd (pi_list (pe_callB (call_sortedD rfl) (by rfl) (T.fr "sorted") (by decide +kernel) (pa_cons (pe_fld (pv 0) rfl) pa_nil))) (blkOk_by (own := [("name", 2)]) (N := ["self", "items", "name", "row"]) (sc := defScope (inClass (topS 42) 4)) (by decide +kernel)) (fun _ _ _ _ _ => (pg_name (i := 2) sc_items.nd rfl (Or.inl rfl))) (fun _ _ _ _ _ => pts_nil) (fun _ _ _ _ _ => (pe_tup (pa_cons pe_str (pa_cons (pv 2) (pa_cons (pe_dget (hu_of hr) (pe_fldK rfl (pv 0)) (pv 2) (fun _ _ => rfl)) pa_nil)))))) pa_nil)))
    (pss_one (ps_ret (pv 1))))))), ?_⟩
    refine ⟨_, rfl, p, _, dx, _, _, rfl, hi, T.cl, T.na "relations", stF_r r f u d, r, _, st.rels.map (·.1), rfl, .inl hr0, encS_keys _ _, by rw [List.length_map]; exact hsm.rels, fun ys l perm srt nl => ?_⟩
    have e := sorted_is perm srt
    subst e
    have sl := same_new (o := .lst ((sortS (st.rels.map (·.1))).map V.str)) nl
    refine ⟨l, rfl, ⟨_, SqL.of_H upd_same⟩, fun A nA => lc_W (walks_list (K := K) (l := sortS (st.rels.map (·.1))) (f := V.str)) nA (fun H' s => SqL.of_H (s _ _ upd_same)) (by rw [sortS_len, List.length_map]; have := hsm.rels; omega)
      (fun H' acc pre => ∃ ps : List (Addr × Item), acc = ps.map (fun q => V.ref q.1) ∧ ps.map (·.2) = pre.map (fun n => Item.rel n ((look st.rels n).getD 0)) ∧ ∀ q ∈ ps, ItemAt H' q.1 q.2) ⟨[], rfl, rfl, fun q hq => by cases hq⟩ ?_ ?_⟩
    · rintro pre n post acc H5 Nx No el s5 eD5 ⟨ps, rfl, eps, hps⟩ hN _
      obtain ⟨v, hv⟩ : ∃ v, look st.rels n = some v := by
        have hm : n ∈ st.rels.map (·.1) := mem_sortS.mp (by rw [el]; simp)
        cases hh : look st.rels n with
        | none => exact absurd hm (look_none.mp hh)
        | some ru => exact ⟨ru, rfl⟩
      refine ⟨rfl, _, rfl, _, rfl, p, _, dx, _, _, rfl, s5 _ _ (sl _ _ hi), T.cl, T.na "relations", stF_r r f u d, _, rfl, r, _, rfl, dgetS (.inl (s5 _ _ (sl _ _ hr0))) hv, by show 3 ≤ sizeLine; decide, fun TP nTP => ?_⟩
      have sT := same_new (o := .tup [V.str "relation", V.str n, V.int v]) nTP
      refine hN _ _ sT ⟨ps ++ [(TP, .rel n ((look st.rels n).getD 0))], by rw [List.map_append]; rfl, by rw [List.map_append, List.map_append, eps]; rfl, push_item stays_item sT hps (sT _ _ eD5) ?_⟩
      rw [hv]
      exact upd_same
    · rintro H3 acc s3 eA ⟨ps, rfl, eps, hps⟩
      have s03 := sl.trans s3
      have nA0 : H A = none := sl.free nA
      obtain ⟨fps, hfp, efp, hfl⟩ := hf0
      have hfp3 := s03 _ _ hfp
      have ekf : (fps.map fun q => (q.1, q.2.1)).map (·.1) = st.facts.map (·.1) := by rw [← efp, List.map_map, List.map_map]; rfl
      refine ⟨_, rfl, p, _, dx, _, _, rfl, s03 _ _ hi, T.cl, T.na "facts", stF_f r f u d, f, _, st.facts.map (·.1), rfl, .inl hfp3, by rw [encS_keys, ekf], by rw [List.length_map]; exact hsm.facts, fun ys l2 perm srt nl2 => ?_⟩
      have e := sorted_is perm srt
      subst e
      have sl2 := same_new (o := .lst ((sortS (st.facts.map (·.1))).map V.str)) nl2
      have s04 := s03.trans sl2
      have lrel : (ps.map fun q => V.ref q.1).length < 64 := by
        have := congrArg List.length eps
        rw [List.length_map, List.length_map, sortS_len, List.length_map] at this
        rw [List.length_map, this]
        exact hsm.rels
      have bndf : ∀ pre post : List Str, sortS (st.facts.map (·.1)) = pre ++ post → (pre.flatMap fun n => (rowsOf st.facts n).map fun r => Item.fact n r).length ≤ 64000 := fun pre post e => by
        have h1 := flatMap_len (f := fun n => (rowsOf st.facts n).map fun r => Item.fact n r) (b := 1000) (l := pre) fun x _ => by rw [List.length_map]; exact rowsOf_len hsm x
        have h2 := congrArg List.length e
        rw [sortS_len, List.length_map, List.length_append] at h2
        have := hsm.facts
        have h3 : 1000 * pre.length ≤ 1000 * 64 := Nat.mul_le_mul_left _ (by omega)
        omega
      refine ⟨l2, rfl, ⟨_, SqL.of_H upd_same⟩, for_W (walks_list (K := K) (l := sortS (st.facts.map (·.1))) (f := V.str)) (fun pre σ H' => ∃ v2 v3 : Option V, σ = [some (.ref p), some (.ref A), v2, v3] ∧ Same H H' ∧ H' l2 = some (.lst ((sortS (st.facts.map (·.1))).map V.str)) ∧
          LstOf ItemAt H' A (ps.map (·.2) ++ pre.flatMap fun n => (rowsOf st.facts n).map fun r => Item.fact n r)) ⟨_, _, rfl, s04, upd_same, ?_⟩ (fun pre σ H' ⟨_, _, _, _, hl, _⟩ => SqL.of_H hl) ?_ ?_⟩
      · rw [List.flatMap_nil, List.append_nil]
        exact ⟨ps, sl2 _ _ eA, rfl, fun q hq => stays_item.go sl2.t (hps q hq)⟩
      · rintro pre n post σ H4 el ⟨v2, v3, rfl, s4, hl4, ac, hA4, eac, hac⟩
        have hm : n ∈ st.facts.map (·.1) := mem_sortS.mp (by rw [el]; simp)
        obtain ⟨la, hla⟩ : ∃ v, look (fps.map fun q => (q.1, q.2.1)) n = some v := by
          cases hh : look (fps.map fun q => (q.1, q.2.1)) n with
          | none => exact absurd (by rw [ekf]; exact hm) (look_none.mp hh)
          | some v => exact ⟨v, rfl⟩
        have hla2 := hla
        rw [look_map (fun q : Addr × List Row => q.1)] at hla2
        cases hlk : look fps n with
        | none =>
          rw [hlk] at hla2
          cases hla2
        | some qq =>
          obtain ⟨la', rows⟩ := qq
          rw [hlk] at hla2
          obtain rfl : la' = la := Option.some.inj hla2
          obtain ⟨zs, z1, z2, z3⟩ := hfl _ (look_mem hlk)
          have z2' : zs.map (·.2) = rows := z2
          have er : rowsOf st.facts n = rows := by
            unfold rowsOf
            rw [← efp, look_map (fun q : Addr × List Row => q.2), hlk]
            rfl
          have lz : zs.length ≤ 1000 := by
            have := rowsOf_len hsm n
            rw [er, ← z2', List.length_map] at this
            exact this
          refine ⟨_, rfl, .inl ⟨rfl, _, SqL.of_H hA4⟩, _, rfl, p, _, dx, _, _, rfl, s4 _ _ hi, T.cl, T.na "facts", stF_f r f u d, _, rfl, f, _, rfl, dgetS (.inl (s4 _ _ hfp)) hla, la', rfl, ⟨_, SqL.of_H (s4 _ _ z1)⟩, fun B nB => lc_W (walks_list (K := K) (l := zs) (f := fun q : Addr × Row => V.ref q.1)) nB (fun H' s => SqL.of_H (s _ _ (s4 _ _ z1))) (by omega)
            (fun H' acc pre => ∃ ps : List (Addr × Item), acc = ps.map (fun q => V.ref q.1) ∧ ps.map (·.2) = pre.map (fun q => Item.fact n q.2) ∧ ∀ q ∈ ps, ItemAt H' q.1 q.2) ⟨[], rfl, rfl, fun q hq => by cases hq⟩ ?_ ?_⟩
          · rintro pre2 ⟨ra, row⟩ post2 acc H5 Nx No el5 s5 eD5 ⟨ps5, rfl, eps5, hps5⟩ hN _
            have hmr : (ra, row) ∈ zs := by rw [el5]; simp
            have hrow : RowH H5 ra row := stays_row.go (s4.trans s5).t (z3 _ hmr)
            refine ⟨rfl, _, rfl, _, rfl, by show 3 ≤ sizeLine; decide, fun TP nTP => ?_⟩
            have sT := same_new (o := .tup [V.str "fact", V.str n, V.ref ra]) nTP
            exact hN _ _ sT ⟨ps5 ++ [(TP, .fact n row)], by rw [List.map_append]; rfl, by rw [List.map_append, List.map_append, eps5]; rfl, push_item stays_item (it := .fact n row) sT hps5 (sT _ _ eD5) ⟨ra, upd_same, sT _ _ hrow⟩⟩
          · rintro H5 acc s5 eB ⟨ps5, rfl, eps5, hps5⟩
            have nBA : B ≠ A := fun z => by
              rw [z, hA4] at nB
              cases nB
            have hA5 := s5 _ _ hA4
            have hac5 : ∀ q ∈ ac, ItemAt H5 q.1 q.2 := fun q hq => stays_item.go s5.t (hac q hq)
            have lac : ac.length ≤ 64 + 64000 := by
              have h1 := congrArg List.length eac
              rw [List.length_append, List.length_map, List.length_map] at h1
              have h2 := bndf pre (n :: post) el
              rw [List.length_map] at lrel
              omega
            refine ⟨A, B, _, _, rfl, rfl, hA5, eB, ?_, ?_⟩
            · have h1 := congrArg List.length eps5
              rw [List.length_map, List.length_map] at h1
              rw [List.length_map, List.length_map, sizeLine_eq]
              omega
            · refine ⟨_, _, rfl, same0_upd (s4.trans s5) nA0, ?_, ?_⟩
              · have nl2A : l2 ≠ A := fun z => by
                  have := sl2 _ _ eA
                  rw [← z, upd_same] at this
                  rw [← z] at eA
                  rw [nl2] at eA
                  cases eA
                rw [upd_ne nl2A]
                exact s5 _ _ hl4
              · have hx := ext_items stays_item hA5 hac5 hps5
                rw [eac, eps5] at hx
                have e1 : (ps.map (·.2) ++ (pre ++ [n]).flatMap fun n => (rowsOf st.facts n).map fun r => Item.fact n r) = (ps.map (·.2) ++ pre.flatMap fun n => (rowsOf st.facts n).map fun r => Item.fact n r) ++ zs.map fun q => Item.fact n q.2 := by
                  rw [List.flatMap_append, List.append_assoc]
                  congr 2
                  rw [List.flatMap_cons, List.flatMap_nil, List.append_nil, er, ← z2', List.map_map]
                  rfl
                rw [e1]
                exact hx
      · rintro σ H4 ⟨v2, v3, rfl, s4, hl4, ac, hA4, eac, hac⟩
        have lfact : ac.length ≤ 64 + 64000 := by
          have h1 := congrArg List.length eac
          rw [List.length_append, List.length_map, List.length_map] at h1
          have h2 := bndf (sortS (st.facts.map (·.1))) [] (by rw [List.append_nil])
          rw [List.length_map] at lrel
          omega
        obtain ⟨ups, hup, eup, hul⟩ := hu0
        have eku : (ups.map fun q => (q.1, q.2.1)).map (·.1) = st.rules.map (·.1) := by rw [← eup, List.map_map, List.map_map]; rfl
        refine ⟨_, rfl, .inl ⟨rfl, _, SqL.of_H hA4⟩, _, rfl, p, _, dx, _, _, rfl, s4 _ _ hi, T.cl, T.na "rules", stF_u r f u d, u, _, st.rules.map (·.1), rfl, .inl (s4 _ _ hup), by rw [encS_keys, eku], by rw [List.length_map]; exact hsm.rules, fun ys l3 perm srt nl3 => ?_⟩
        have e := sorted_is perm srt
        subst e
        have sl3 := same_new (o := .lst ((sortS (st.rules.map (·.1))).map V.str)) nl3
        have s5 := s4.trans sl3
        refine ⟨l3, rfl, ⟨_, SqL.of_H upd_same⟩, fun B nB => lc_W (walks_list (K := K) (l := sortS (st.rules.map (·.1))) (f := V.str)) nB (fun H' s => SqL.of_H (s _ _ upd_same)) (by rw [sortS_len, List.length_map]; have := hsm.rules; omega)
          (fun H' acc pre => ∃ ps : List (Addr × Item), acc = ps.map (fun q => V.ref q.1) ∧ ps.map (·.2) = pre.map (fun n => Item.rule n ((look st.rules n).getD ⟨"", [], []⟩)) ∧ ∀ q ∈ ps, ItemAt H' q.1 q.2) ⟨[], rfl, rfl, fun q hq => by cases hq⟩ ?_ ?_⟩
        · rintro pre n post acc H6 Nx No el s6 eD6 ⟨ps6, rfl, eps6, hps6⟩ hN _
          have hm : n ∈ st.rules.map (·.1) := mem_sortS.mp (by rw [el]; simp)
          cases hlk : look ups n with
          | none =>
            refine absurd hm (look_none.mp ?_)
            rw [← eup, look_map (fun q : Addr × Rule => q.2), hlk]
            rfl
          | some qq =>
            obtain ⟨ra, ru⟩ := qq
            have hlu : look (ups.map fun q => (q.1, q.2.1)) n = some ra := by rw [look_map (fun q : Addr × Rule => q.1), hlk]; rfl
            have hlr : look st.rules n = some ru := by rw [← eup, look_map (fun q : Addr × Rule => q.2), hlk]; rfl
            obtain ⟨a, b, h1, h2, h3⟩ := stays_rule.go (s5.trans s6).t (hul _ (look_mem hlk))
            have h1' : H6 ra = some (.tup [.str ru.rel, .ref a, .ref b]) := h1
            refine ⟨rfl, _, rfl, by show 2 ≤ sizeLine; decide, fun T1 nT1 => ?_⟩
            have sT1 := same_new (o := .tup [V.str "rule", V.str n]) nT1
            refine ⟨_, rfl, p, _, dx, _, _, rfl, sT1 _ _ (s6 _ _ (s5 _ _ hi)), T.cl, T.na "rules", stF_u r f u d, _, rfl, u, _, rfl, dgetS (.inl (sT1 _ _ (s6 _ _ (s5 _ _ hup)))) hlu, T1, ra, _, _, rfl, rfl, SqT.of_H upd_same, SqT.of_H (sT1 _ _ h1'), by show 5 ≤ sizeLine; decide, fun z => (by cases z), fun _ z => (by cases z), fun _ _ TP nTP => ?_⟩
            have sT := same_new (o := .tup ([V.str "rule", V.str n] ++ [V.str ru.rel, V.ref a, V.ref b])) nTP
            refine hN _ _ (sT1.trans sT) ⟨ps6 ++ [(TP, .rule n ((look st.rules n).getD ⟨"", [], []⟩))], by rw [List.map_append]; rfl, by rw [List.map_append, List.map_append, eps6]; rfl, push_item stays_item (it := .rule n ((look st.rules n).getD ⟨"", [], []⟩)) (sT1.trans sT) hps6 (sT _ _ (sT1 _ _ eD6)) ?_⟩
            rw [hlr]
            exact ⟨a, b, upd_same, stays_tms.go (sT1.trans sT).t h2, stays_body.go (sT1.trans sT).t h3⟩
        · rintro H6 acc s6 eB ⟨ps6, rfl, eps6, hps6⟩
          have hA5 := sl3 _ _ hA4
          have nBA : B ≠ A := fun z => by
            rw [z, hA5] at nB
            cases nB
          have hA6 := s6 _ _ hA5
          have hac6 : ∀ q ∈ ac, ItemAt H6 q.1 q.2 := fun q hq => stays_item.go (sl3.trans s6).t (hac q hq)
          have lr6 : ps6.length < 64 := by
            have h1 := congrArg List.length eps6
            rw [List.length_map, List.length_map, sortS_len, List.length_map] at h1
            have := hsm.rules
            omega
          refine ⟨A, B, _, _, rfl, rfl, hA6, eB, by rw [List.length_map, List.length_map, sizeLine_eq]; omega, ?_⟩
          have hx := ext_items stays_item hA6 hac6 hps6
          have s7 : Same H (upd H6 A (.lst ((ac.map fun q => V.ref q.1) ++ ps6.map fun q => V.ref q.1))) := same0_upd (s5.trans s6) nA0
          obtain ⟨bc, hA7, ebc, hbc⟩ := hx
          have lbc : bc.length ≤ 65000 := by
            have h1 := congrArg List.length ebc
            rw [List.length_append, List.length_map, List.length_map, List.length_map] at h1
            omega
          obtain ⟨dps, hdp, edp, hdl⟩ := hd0
          have ekd : (dps.map fun q => (q.1, q.2.1)).map (·.1) = st.dens.map (·.1) := by rw [← edp, List.map_map, List.map_map]; rfl
          refine ⟨_, rfl, .inl ⟨rfl, _, SqL.of_H hA7⟩, _, rfl, p, _, dx, _, _, rfl, s7 _ _ hi, T.cl, T.na "denials", stF_d r f u d, d, _, st.dens.map (·.1), rfl, .inl (s7 _ _ hdp), by rw [encS_keys, ekd], by rw [List.length_map]; exact hsm.dens, fun ys l4 perm srt nl4 => ?_⟩
          have e := sorted_is perm srt
          subst e
          have sl4 := same_new (o := .lst ((sortS (st.dens.map (·.1))).map V.str)) nl4
          have s8 := s7.trans sl4
          refine ⟨l4, rfl, ⟨_, SqL.of_H upd_same⟩, fun B2 nB2 => lc_W (walks_list (K := K) (l := sortS (st.dens.map (·.1))) (f := V.str)) nB2 (fun H' s => SqL.of_H (s _ _ upd_same)) (by rw [sortS_len, List.length_map]; have := hsm.dens; omega)
            (fun H' acc pre => ∃ ps : List (Addr × Item), acc = ps.map (fun q => V.ref q.1) ∧ ps.map (·.2) = pre.map (fun n => Item.den n ((look st.dens n).getD [])) ∧ ∀ q ∈ ps, ItemAt H' q.1 q.2) ⟨[], rfl, rfl, fun q hq => by cases hq⟩ ?_ ?_⟩
          · rintro pre n post acc H9 Nx No el s9 eD9 ⟨ps9, rfl, eps9, hps9⟩ hN _
            have hm : n ∈ st.dens.map (·.1) := mem_sortS.mp (by rw [el]; simp)
            cases hlk : look dps n with
            | none =>
              refine absurd hm (look_none.mp ?_)
              rw [← edp, look_map (fun q : Addr × Body => q.2), hlk]
              rfl
            | some qq =>
              obtain ⟨ra, b⟩ := qq
              have hlu : look (dps.map fun q => (q.1, q.2.1)) n = some ra := by rw [look_map (fun q : Addr × Body => q.1), hlk]; rfl
              have hlr : look st.dens n = some b := by rw [← edp, look_map (fun q : Addr × Body => q.2), hlk]; rfl
              have hb9 : BodyAt H9 ra b := stays_body.go (s8.trans s9).t (hdl _ (look_mem hlk))
              refine ⟨rfl, _, rfl, _, rfl, p, _, dx, _, _, rfl, s9 _ _ (s8 _ _ hi), T.cl, T.na "denials", stF_d r f u d, _, rfl, d, _, rfl, dgetS (.inl (s9 _ _ (s8 _ _ hdp))) hlu, by show 3 ≤ sizeLine; decide, fun TP nTP => ?_⟩
              have sT := same_new (o := .tup [V.str "denial", V.str n, V.ref ra]) nTP
              refine hN _ _ sT ⟨ps9 ++ [(TP, .den n ((look st.dens n).getD []))], by rw [List.map_append]; rfl, by rw [List.map_append, List.map_append, eps9]; rfl, push_item stays_item (it := .den n ((look st.dens n).getD [])) sT hps9 (sT _ _ eD9) ?_⟩
              rw [hlr]
              exact ⟨ra, upd_same, stays_body.go sT.t hb9⟩
          · rintro H9 acc s9 eB2 ⟨ps9, rfl, eps9, hps9⟩
            have hA8 := sl4 _ _ hA7
            have hA9 := s9 _ _ hA8
            have hbc9 : ∀ q ∈ bc, ItemAt H9 q.1 q.2 := fun q hq => stays_item.go (sl4.trans s9).t (hbc q hq)
            have lr9 : ps9.length < 64 := by
              have h1 := congrArg List.length eps9
              rw [List.length_map, List.length_map, sortS_len, List.length_map] at h1
              have := hsm.dens
              omega
            refine ⟨A, B2, _, _, rfl, rfl, hA9, eB2, by rw [List.length_map, List.length_map, sizeLine_eq]; omega, ?_⟩
            have hx := ext_items stays_item hA9 hbc9 hps9
            rw [ebc, eac, eps, eps6, eps9] at hx
            exact ⟨_, rfl, q _ A (same0_upd (s8.trans s9) nA0) nA0 hx⟩
end
end Rs


set_option Elab.async false
set_option linter.all false
set_option maxRecDepth 100000
set_option maxHeartbeats 2000000
/-! # S5: __init__, copy, change -/
namespace Rs
open PySem PySem.Spec PyProof.Rows L2
theorem GoodS.smallS {st : St} (h : GoodS st) : SmallS st := ⟨by have := h.lrels; omega, by have := h.lfacts; omega, by have := h.lrules; omega, by have := h.ldens; omega, fun q hq => by
  have e : rowsOf st.facts q.1 = q.2 := by
    unfold rowsOf
    rw [nodup_look h.factN hq]
    rfl
  have := h.lrows q.1
  rw [e] at this
  omega⟩
theorem GoodS.small {st : St} (h : GoodS st) : Small st := ⟨by have := h.lrels; omega, by have := h.lfacts; omega, by have := h.lrules; omega, by have := h.ldens; omega, h.smallS.rows⟩
theorem GoodS.rowsS {st : St} (h : GoodS st) : RowsS st := fun q hq => ⟨h.smallS.rows q hq, fun r hr => by
  have := good_row ((h.facts q hq).2 r hr)
  exact ⟨this.2, by omega⟩⟩
theorem SOwn.base {C : Addr} {H0 H1 H : Hp} {p r f u d dx : Addr} {ps : List (Str × Addr × List Row)} {st : St} (h : SOwn C H1 H p r f u d dx ps st) (s : Same H0 H1) : SOwn C H0 H p r f u d dx ps st :=
  ⟨h.ins, h.rels, h.facts, h.fm, h.fl, h.nd, h.kn, h.rules, h.dens, h.ne, ⟨s.free h.new.1, s.free h.new.2.1, s.free h.new.2.2.1, s.free h.new.2.2.2.1, s.free h.new.2.2.2.2.1, fun q hq => s.free (h.new.2.2.2.2.2 q hq)⟩, s.trans h.sm⟩
theorem OwnAt.base {K : PySem.W.Frag} {H0 H1 H : Hp} {p : Addr} {st : St} (h : OwnAt K H1 H p st) (s : Same H0 H1) : OwnAt K H0 H p st := by
  obtain ⟨r, f, u, d, dx, ps, h⟩ := h
  exact ⟨r, f, u, d, dx, ps, h.base s⟩
/-- a new dict, and a field that holds it -/
theorem fld_step {H0 H : Hp} {C p dx d : Addr} {fs fs' : List (Str × V)} (s : Same H0 H) (hp : H p = some (.ins C dx fs)) (n0 : H0 p = none) (nd : H d = none) :
    Same H0 (upd (upd H d (.dK [])) p (.ins C dx fs')) ∧ upd (upd H d (.dK [])) p (.ins C dx fs') p = some (.ins C dx fs') ∧ upd (upd H d (.dK [])) p (.ins C dx fs') d = some (.dK []) ∧ H0 d = none ∧ ∀ b kvs, H b = some (.dK kvs) → upd (upd H d (.dK [])) p (.ins C dx fs') b = some (.dK kvs) ∧ b ≠ d := by
  have ndp : d ≠ p := fun z => by
    rw [z, hp] at nd
    cases nd
  refine ⟨same0_upd (s.trans (same_new nd)) n0, upd_same, by rw [upd_ne ndp, upd_same], s.free nd, fun b kvs e => ?_⟩
  have h1 : b ≠ d := ne_of_none e nd
  have h2 : b ≠ p := ne_of e hp (by intro z; cases z)
  exact ⟨by rw [upd_ne h2, upd_ne h1]; exact e, h1⟩
def spInit (K : PySem.W.Frag) : Sp := fun vs H Q _ => ∃ (H0 : Hp) (p dx it : Addr) (l : List Item), vs = [.ref p, .ref it] ∧ H0 p = none ∧ Same H0 H ∧ H p = some (.ins (He.ga K "State") dx []) ∧ LstOf ItemAt H0 it l ∧ (∀ i ∈ l, GoodI i) ∧ l.length ≤ 1000000 ∧
  ∀ H', OwnAt K H0 H' p (tidyM (l.foldl putM emptySt)) → Q .non H'
structure Ini (P : Program) (w : World) (K : PySem.W.Frag) (mg : Str → Option Value) (base : Heap) (CX : CXT) (k : Nat) (sp : Sp) : Prop where
  ex : ∃ (fd : FuncData) (ps : List Str), FnOk P w K mg base CX k (He.ma K (He.ga K "State") "__init__") fd ps sp ∧ Binds K fd ps []
section
variable {P : Program} {w : World} {K : PySem.W.Frag} {mg : Str → Option Value} {base : Heap}
theorem sc_init : FnScope ["self", "items", "item"] ["self", "items"] (defScope (inClass (topS 42) 0)) := ⟨rfl, rfl, rfl, by decide +kernel, rfl, by decide +kernel, by decide +kernel⟩
theorem ok_init (T : Tx P K mg) : Ini P w K mg base CX0 6 (spInit K) := by
  have C1 := ok_put (w := w) (base := base) T
  have C2 := ok_tidy (w := w) (base := base) T
  obtain ⟨fd, F⟩ := T.fd 56 (d := mdef 0 "__init__" "State.__init__" [.adr (He.dflAt ("State", some "__init__") 0)]) rfl
  have F : FunD K "__init__" "State.__init__" (defArgs (inClass (topS 42) 0)) (defBody (inClass (topS 42) 0)) (defScope (inClass (topS 42) 0)) (He.DefD.dvs K (mdef 0 "__init__" "State.__init__" [.adr (He.dflAt ("State", some "__init__") 0)])) (He.DefD.kws K (mdef 0 "__init__" "State.__init__" [.adr (He.dflAt ("State", some "__init__") 0)])) (He.ma K (He.ga K "State") "__init__") fd := F
  obtain ⟨ds, hds, hb⟩ := FunD.binds1 (ps := ["self", "items"]) F 2 1 (by intro z; cases z) rfl (fun T kV doc pm an cdv ct us its h1 h2 => match us, h1, its, h2 with
    | [a, b], _, [c], _ => ⟨_, rfl, rfl⟩)
  have ed : ds = [] := by
    cases hds
    rfl
  subst ed
  refine ⟨fd, _, FunD.ok F sc_init (fun vs H Q E h => ?_) (fun cdv A outer s H vs Q E hr h => ?_), hb⟩
  · obtain ⟨H0, p, dx, it, l, rfl, _⟩ := h
    rfl
  · obtain ⟨H0, p, dx, it, l, rfl, n0, s0, hins, hl, hg, hlen, q⟩ := h
    refine ⟨_, PSs.nox (pss_cons (ps_fld (pv 0) pe_dnewK rfl)
    (pss_cons (ps_fld (pv 0) pe_dnewK rfl)
    (pss_cons (ps_fld (pv 0) pe_dnewK rfl)
    (pss_cons (ps_fld (pv 0) pe_dnewK rfl)
    (pss_cons (ps_for PassesOwn.never rfl (pi_list (pv 1)) (pg_name (i := 2) sc_init.nd rfl (Or.inl rfl))
    (pss_one (ps_expr (pe_mt T C1 hr (pv 0) (pa_cons (pv 2) pa_nil)))))
    (pss_one (ps_expr (pe_mt0 T C2 hr (pv 0))))))))), ?_⟩
    refine fun r nr => ⟨_, rfl, p, _, dx, _, rfl, (same_new nr) _ _ hins, T.cl, T.na "relations", by decide, ?_⟩
    obtain ⟨a1, a2, a3, a4, a5⟩ := fld_step (fs' := [("relations", .ref r)]) s0 hins n0 nr
    refine fun f nf => ⟨_, rfl, p, _, dx, _, rfl, (same_new nf) _ _ a2, T.cl, T.na "facts", (by show (1 : Nat) < 1000; decide), ?_⟩
    obtain ⟨b1, b2, b3, b4, b5⟩ := fld_step (fs' := [("relations", .ref r), ("facts", .ref f)]) a1 a2 n0 nf
    refine fun u nu => ⟨_, rfl, p, _, dx, _, rfl, (same_new nu) _ _ b2, T.cl, T.na "rules", (by show (2 : Nat) < 1000; decide), ?_⟩
    obtain ⟨c1, c2, c3, c4, c5⟩ := fld_step (fs' := [("relations", .ref r), ("facts", .ref f), ("rules", .ref u)]) b1 b2 n0 nu
    refine fun d nd => ⟨_, rfl, p, _, dx, _, rfl, (same_new nd) _ _ c2, T.cl, T.na "denials", (by show (3 : Nat) < 1000; decide), ?_⟩
    obtain ⟨d1, d2, d3, d4, d5⟩ := fld_step (fs' := stF r f u d) c1 c2 n0 nd
    have hr1 := b5 _ _ a3
    have hr2 := c5 _ _ hr1.1
    have hr3 := d5 _ _ hr2.1
    have hf2 := c5 _ _ b3
    have hf3 := d5 _ _ hf2.1
    have hu3 := d5 _ _ c3
    have own : SOwn (He.ga K "State") H0 _ p r f u d dx [] emptySt := ⟨d2, hr3.1, hf3.1, rfl, (fun q hq => (by cases hq)), List.nodup_nil, List.nodup_nil, ⟨[], hu3.1, rfl, fun q hq => (by cases hq)⟩, ⟨[], d3, rfl, fun q hq => (by cases hq)⟩,
      ⟨hr1.2, hr2.2, hr3.2, hf2.2, hf3.2, hu3.2⟩, ⟨n0, a4, b4, c4, d4, fun q hq => (by cases hq)⟩, d1⟩
    obtain ⟨ls, hls, els, hli⟩ := hl
    have hlen' : ls.length ≤ 1000000 := by rw [← els, List.length_map] at hlen; exact hlen
    refine ⟨_, rfl, it, rfl, ⟨_, SqL.of_H (own.sm _ _ hls)⟩, for_W (walks_list (K := K) (l := ls) (f := fun q : Addr × Item => V.ref q.1)) (fun pre σ H' => ∃ v2, σ = [some (.ref p), some (.ref it), v2] ∧ OwnAt K H0 H' p ((pre.map (·.2)).foldl putM emptySt)) ⟨none, rfl, r, f, u, d, dx, [], own⟩
      (fun pre σ H' ⟨_, _, ho⟩ => SqL.of_H (ho.same0 _ _ hls)) ?_ ?_⟩
    · rintro pre ⟨ia, i⟩ post σ H' el ⟨v2, rfl, ho⟩
      have hpre : ∀ j ∈ pre.map (·.2), GoodI j := fun j hj => hg j (by
        rw [← els, el, List.map_append]
        exact List.mem_append_left _ hj)
      have hgood := GoodS.fold GoodS.empty hpre
      obtain ⟨r', f', u', d', dx', ps', ho'⟩ := id ho
      refine ⟨_, rfl, p, dx', _, rfl, ho'.ins, rfl, _, rfl, H0, p, ia, _, i, rfl, ho, stays_item.go ho.same0.t (hli (ia, i) (by rw [el]; simp)), hgood.smallS, fun H2 ho2 => ⟨_, rfl, ?_⟩⟩
      rw [List.map_append, List.foldl_append]
      exact ho2
    · rintro σ H' ⟨v2, rfl, ho⟩
      rw [els] at ho
      have hgood := GoodS.fold GoodS.empty hg
      obtain ⟨r', f', u', d', dx', ps', ho'⟩ := id ho
      exact ⟨_, rfl, p, dx', _, rfl, ho'.ins, rfl, H0, p, _, rfl, ho, by have := hgood.lrels; have := hgood.lfacts; omega, hgood.rowsS, fun H2 ho2 => q H2 ho2⟩
def spCopy (K : PySem.W.Frag) : Sp := fun vs H Q _ => ∃ (p : Addr) (st : St), vs = [.ref p] ∧ StAt K H p st ∧ GoodS st ∧ ∀ (H' : Hp) (q : Addr), OwnAt K H H' q (copyM st) → Q (.ref q) H'
theorem sc_copy : FnScope ["self"] ["self"] (defScope (inClass (topS 42) 6)) := ⟨rfl, rfl, rfl, by decide +kernel, rfl, by decide +kernel, by decide +kernel⟩
theorem items_len {st : St} (h : GoodS st) : (allItems st).length ≤ 1000000 := by
  unfold allItems
  have h1 := flatMap_len (f := fun n => (rowsOf st.facts n).map fun r => Item.fact n r) (b := 1000) (l := sortS (st.facts.map (·.1))) fun x _ => by rw [List.length_map]; exact rowsOf_len h.small x
  rw [sortS_len, List.length_map] at h1
  have := h.small.rels
  have := h.small.facts
  have := h.small.rules
  have := h.small.dens
  have h3 : 1000 * st.facts.length ≤ 1000 * 64 := Nat.mul_le_mul_left _ (by omega)
  rw [List.length_append, List.length_append, List.length_append, List.length_map, List.length_map, List.length_map, sortS_len, sortS_len, sortS_len, List.length_map, List.length_map, List.length_map]
  omega
theorem ok_copy (T : Tx P K mg) : Met P w K mg base CX0 8 "copy" (spCopy K) := by
  have C1 := ok_items (w := w) (base := base) T
  obtain ⟨fdi, psi, FI, bI⟩ := (ok_init (w := w) (base := base) T).ex
  refine met_of T 62 6 rfl sc_copy (fun vs H Q E h => ?_) (fun _ _ _ _ _ _ us hl => match us, hl with | [_], _ => rfl) (fun cdv A outer s H vs Q E hr h => ?_)
  · obtain ⟨p, st, rfl, _⟩ := h
    rfl
  · obtain ⟨p, st, rfl, hst, hg, q⟩ := h
    refine ⟨_, PSs.nox (pss_one (ps_ret (pe_make T.mkS FI hr (by rfl) (T.glo "State") bI .nil pass0 (pa_cons (pe_mt0 T C1 hr (pv 0)) pa_nil)))), ?_⟩
    obtain ⟨r, f, u, d, ⟨⟨dx, hi⟩, hrest⟩⟩ := id hst
    refine ⟨_, rfl, p, dx, _, rfl, hi, rfl, p, st, rfl, hst, hg.small, fun H1 it s1 nit hit => ?_⟩
    refine fun x dx2 nx ndx ne => ?_
    refine ⟨H1, x, dx2, it, allItems st, rfl, nx, fun b o e => ?_, upd_same, hit, hg.items, items_len hg, fun H2 ho => ⟨rfl, q H2 x (ho.base s1)⟩⟩
    rw [upd_ne (ne_of_none e nx), upd_ne (ne_of_none e ndx)]
    exact e
def ChgAt (H : Hp) (q : Addr) : Chg → Prop
  | .comes i => ∃ a, H q = some (.tup [.str "comes", .ref a]) ∧ ItemAt H a i
  | .goes n r => ∃ k a, H q = some (.tup [.str "goes", .ref k]) ∧ H k = some (.tup [.int 1, .str n, .ref a]) ∧ RowH H a r
theorem stays_chg : Stays ChgAt := by
  refine ⟨fun {H H' p x} s h => ?_⟩
  cases x with
  | comes i =>
    obtain ⟨a, h1, h2⟩ := h
    exact ⟨a, s _ _ h1, stays_item.go s h2⟩
  | goes n r =>
    obtain ⟨k, a, h1, h2, h3⟩ := h
    exact ⟨k, a, s _ _ h1, s _ _ h2, s _ _ h3⟩
def spChange (K : PySem.W.Frag) : Sp := fun vs H Q _ => ∃ (p c : Addr) (st : St) (l : List Chg), vs = [.ref p, .ref c] ∧ StAt K H p st ∧ GoodS st ∧ LstOf ChgAt H c l ∧ (∀ x ∈ l, GoodC x) ∧ l.length ≤ 1000000 ∧ ∀ (H' : Hp) (q : Addr), OwnAt K H H' q (changeM st l) → Q (.ref q) H'
theorem sc_change : FnScope ["self", "changes", "result", "word", "what"] ["self", "changes"] (defScope (inClass (topS 42) 7)) := ⟨rfl, rfl, rfl, by decide +kernel, rfl, by decide +kernel, by decide +kernel⟩
theorem ok_change (T : Tx P K mg) : Met P w K mg base CX0 9 "change" (spChange K) := by
  have C1 := ok_copy (w := w) (base := base) T
  have C2 := ok_put (w := w) (base := base) T
  have C3 := ok_take (w := w) (base := base) T
  have C4 := ok_tidy (w := w) (base := base) T
  refine met_of T 63 7 rfl sc_change (fun vs H Q E h => ?_) (fun _ _ _ _ _ _ us hl => match us, hl with | [_, _], _ => rfl) (fun cdv A outer s H vs Q E hr h => ?_)
  · obtain ⟨p, c, st, l, rfl, _⟩ := h
    rfl
  · obtain ⟨p, c, st, l, rfl, hst, hg, ⟨cs, hc, ec, hcs⟩, hgc, hlen, q⟩ := h
    refine ⟨_, PSs.nox (pss_cons (ps_set (i := 2) sc_change.nd rfl (Or.inl rfl) (pe_mt0 T C1 hr (pv 0)))
    (pss_cons (ps_for PassesOwn.never rfl (pi_list (pv 1)) (pg_tup rfl (pgs_cons (pg_name (i := 3) sc_change.nd rfl (Or.inl rfl)) (pgs_cons (pg_name (i := 4) sc_change.nd rfl (Or.inl rfl)) pgs_nil)))
    (pss_one (ps_if (pt_cmpR op_eq (pv 3) pe_str (nomark _)) (pss_one (ps_expr (pe_mt T C2 hr (pv 2) (pa_cons (pv 4) pa_nil)))) (pss_one (ps_expr (pe_mt T C3 hr (pv 2) (pa_cons (pv 4) pa_nil)))))))
    (pss_cons (ps_expr (pe_mt0 T C4 hr (pv 2)))
    (pss_one (ps_ret (pv 2)))))), ?_⟩
    obtain ⟨r, f, u, d, ⟨⟨dx, hi⟩, hrest⟩⟩ := id hst
    refine ⟨_, rfl, p, dx, _, rfl, hi, rfl, p, st, rfl, hst, hg, fun H1 x hx => ?_⟩
    have hlen' : cs.length ≤ 1000000 := by rw [← ec, List.length_map] at hlen; exact hlen
    refine ⟨_, rfl, c, rfl, ⟨_, SqL.of_H (hx.same0 _ _ hc)⟩, for_W (walks_list (K := K) (l := cs) (f := fun q : Addr × Chg => V.ref q.1)) (fun pre σ H' => ∃ v3 v4, σ = [some (.ref p), some (.ref c), some (.ref x), v3, v4] ∧ OwnAt K H H' x ((pre.map (·.2)).foldl chgM (copyM st))) ⟨none, none, rfl, hx⟩
      (fun pre σ H' ⟨_, _, _, ho⟩ => SqL.of_H (ho.same0 _ _ hc)) ?_ ?_⟩
    · rintro pre ⟨ca, ch⟩ post σ H' el ⟨v3, v4, rfl, ho⟩
      have hpre : ∀ j ∈ pre.map (·.2), GoodC j := fun j hj => hgc j (by
        rw [← ec, el, List.map_append]
        exact List.mem_append_left _ hj)
      have hgood := GoodS.chgs hg.copy hpre
      have hch : ChgAt H' ca ch := stays_chg.go ho.same0.t (hcs (ca, ch) (by rw [el]; simp))
      obtain ⟨r', f', u', d', dx', ps', ho'⟩ := id ho
      have efold : ((pre ++ [(ca, ch)]).map (·.2)).foldl chgM (copyM st) = chgM ((pre.map (·.2)).foldl chgM (copyM st)) ch := by
        rw [List.map_append, List.foldl_append]
        rfl
      cases ch with
      | comes i =>
        obtain ⟨a, h1, h2⟩ := hch
        refine ⟨ca, _, rfl, SqT.of_H h1, rfl, _, _, rfl, _, _, rfl, rfl, ?_⟩
        refine ⟨_, rfl, rfl, true, congrArg V.bl (decide_eq_true rfl), ?_⟩
        refine iteT ⟨_, rfl, x, dx', _, rfl, ho'.ins, rfl, _, rfl, H, x, a, _, i, rfl, ho, h2, hgood.smallS, fun H2 ho2 => ⟨_, _, rfl, ?_⟩⟩
        rw [efold]
        exact ho2
      | goes n rw0 =>
        obtain ⟨k, a, h1, h2, h3⟩ := hch
        refine ⟨ca, _, rfl, SqT.of_H h1, rfl, _, _, rfl, _, _, rfl, rfl, ?_⟩
        refine ⟨_, rfl, rfl, false, congrArg V.bl (dec_str_ne (by decide +kernel)), ?_⟩
        refine iteF ⟨_, rfl, x, dx', _, rfl, ho'.ins, rfl, _, rfl, H, x, k, a, n, rw0, _, rfl, ho, h2, h3, fun H2 ho2 => ⟨_, _, rfl, ?_⟩⟩
        rw [efold]
        exact ho2
    · rintro σ H' ⟨v3, v4, rfl, ho⟩
      rw [ec] at ho
      have hgood := GoodS.chgs hg.copy hgc
      obtain ⟨r', f', u', d', dx', ps', ho'⟩ := id ho
      exact ⟨_, rfl, x, dx', _, rfl, ho'.ins, rfl, H, x, _, rfl, ho, by have := hgood.lrels; have := hgood.lfacts; omega, hgood.rowsS, fun H2 ho2 => ⟨_, rfl, q H2 x ho2⟩⟩
end
end Rs


set_option Elab.async false
set_option linter.all false
set_option maxRecDepth 100000
set_option maxHeartbeats 2000000
/-! # S6: edges, reached -/
namespace Rs
open PySem PySem.Spec PyProof.Rows L2
/-- a dict of lists by name -/
structure DL {α : Type} (R : Hp → Addr → α → Prop) (H : Hp) (F : Addr) (ps : List (Str × Addr × List α)) : Prop where
  d : H F = some (.dK (encS V.ref (ps.map fun q => (q.1, q.2.1))))
  l : ∀ q ∈ ps, LstOf R H q.2.1 q.2.2
  nd : (ps.map (·.2.1)).Nodup
  kn : (ps.map (·.1)).Nodup
def valsL {α : Type} (ps : List (Str × Addr × List α)) : List (Str × List α) := ps.map fun q => (q.1, q.2.2)
theorem valsL_look {α : Type} (ps : List (Str × Addr × List α)) (n : Str) : look (valsL ps) n = (look ps n).map (·.2) := look_map (fun q : Addr × List α => q.2) n ps
theorem DL.same {α : Type} {R : Hp → Addr → α → Prop} (S : Stays R) {H H' : Hp} {F : Addr} {ps : List (Str × Addr × List α)} (h : DL R H F ps) (s : Same H H') : DL R H' F ps := ⟨s _ _ h.d, fun q hq => (h.l q hq).same S s, h.nd, h.kn⟩
theorem DL.set {α : Type} {R : Hp → Addr → α → Prop} (S : Stays R) {H : Hp} {F a : Addr} {ps : List (Str × Addr × List α)} (h : DL R H F ps) {n : Str} {xs : List α} (hm : (n, a, xs) ∈ ps) {qs : List (Addr × α)} (hq : ∀ q ∈ qs, R H q.1 q.2) :
    ∃ ps', DL R (upd H a (.lst (qs.map fun q => V.ref q.1))) F ps' ∧ valsL ps' = put (valsL ps) n (qs.map (·.2)) ∧ ps'.map (·.2.1) = ps.map (·.2.1) := by
  obtain ⟨ws, hw, _⟩ := h.l _ hm
  have hw' : H a = some (.lst (ws.map fun q => V.ref q.1)) := hw
  have t := sameT_lst (o := .lst (qs.map fun q => V.ref q.1)) hw'
  have hn : ∀ q ∈ ps, q.1 = n ↔ q.2.1 = a := fun q hq => by
    constructor
    · intro e
      have := nodup_key h.kn hq hm e
      rw [this]
    · intro e
      have := nodup_key (l := ps.map fun q => (q.2.1, q)) (by rw [List.map_map]; exact h.nd) (List.mem_map_of_mem (f := fun q : Str × Addr × List α => (q.2.1, q)) hq) (List.mem_map_of_mem (f := fun q : Str × Addr × List α => (q.2.1, q)) hm) e
      rw [(Prod.mk.inj this).2]
  have e1 : (ps.map fun q => if q.1 = n then (q.1, q.2.1, qs.map (·.2)) else q).map (fun q => (q.1, q.2.1)) = ps.map fun q => (q.1, q.2.1) := by
    rw [List.map_map]
    refine List.map_congr_left fun q _ => ?_
    show (fun q : Str × Addr × List α => (q.1, q.2.1)) (if q.1 = n then (q.1, q.2.1, qs.map (·.2)) else q) = _
    split <;> rfl
  have e2 : (ps.map fun q => if q.1 = n then (q.1, q.2.1, qs.map (·.2)) else q).map (fun q => q.1) = ps.map (·.1) := by
    rw [List.map_map]
    refine List.map_congr_left fun q _ => ?_
    show (fun q : Str × Addr × List α => q.1) (if q.1 = n then (q.1, q.2.1, qs.map (·.2)) else q) = _
    split <;> rfl
  have e3 : (ps.map fun q => if q.1 = n then (q.1, q.2.1, qs.map (·.2)) else q).map (fun q => q.2.1) = ps.map (·.2.1) := by
    rw [List.map_map]
    refine List.map_congr_left fun q _ => ?_
    show (fun q : Str × Addr × List α => q.2.1) (if q.1 = n then (q.1, q.2.1, qs.map (·.2)) else q) = _
    split <;> rfl
  have hany : ((valsL ps).any fun p => decide (p.1 = n)) = true := by
    rw [List.any_eq_true]
    exact ⟨(n, xs), List.mem_map_of_mem (f := fun q : Str × Addr × List α => (q.1, q.2.2)) hm, decide_eq_true rfl⟩
  refine ⟨ps.map fun q => if q.1 = n then (q.1, q.2.1, qs.map (·.2)) else q, ⟨by rw [e1, upd_ne (ne_of h.d hw' (by intro z; cases z))]; exact h.d, ?_, by rw [e3]; exact h.nd, by rw [e2]; exact h.kn⟩, ?_, e3⟩
  · intro q hq'
    obtain ⟨q0, hq0, rfl⟩ := List.mem_map.mp hq'
    by_cases e : q0.1 = n
    · rw [if_pos e]
      refine ⟨qs, ?_, rfl, fun x hx => S.go t (hq x hx)⟩
      show upd H a _ q0.2.1 = _
      rw [(hn q0 hq0).mp e, upd_same]
    · rw [if_neg e]
      exact (h.l q0 hq0).keep S t (upd_ne fun z => e ((hn q0 hq0).mpr z))
  · unfold put
    rw [if_pos hany]
    unfold valsL
    rw [List.map_map, List.map_map]
    refine List.map_congr_left fun q _ => ?_
    show (fun q : Str × Addr × List α => (q.1, q.2.2)) (if q.1 = n then (q.1, q.2.1, qs.map (·.2)) else q) = if q.1 = n then (q.1, qs.map (·.2)) else (q.1, q.2.2)
    split <;> rfl
theorem DL.new {α : Type} {R : Hp → Addr → α → Prop} (S : Stays R) {H : Hp} {F L : Addr} {ps : List (Str × Addr × List α)} (h : DL R H F ps) {n : Str} (hn : look ps n = none) (nL : H L = none) {kvs : List (L2.Key × V)} (e : H F = some (.dK kvs)) :
    DL R (upd (upd H L (.lst [])) F (.dK (putK kvs (.inr n) (.ref L)))) F (ps ++ [(n, L, [])]) := by
  have h1 := h.same S (same_new (o := .lst []) nL)
  have e1 : upd H L (.lst []) F = some (.dK kvs) := same_new nL _ _ e
  have t := sameT_dK (o := .dK (putK kvs (.inr n) (.ref L))) e1
  have ek : kvs = encS V.ref (ps.map fun q => (q.1, q.2.1)) := by
    have := e.symm.trans h.d
    injection this with this
    injection this
  have nLf : L ≠ F := fun z => by
    rw [z, e] at nL
    cases nL
  have hn2 : look (ps.map fun q => (q.1, q.2.1)) n = none := by
    rw [look_map (fun q : Addr × List α => q.1), hn]
    rfl
  refine ⟨?_, ?_, ?_, ?_⟩
  · rw [upd_same, ek, encS_put, put_new _ hn2, List.map_append]
    rfl
  · intro q hq
    rcases List.mem_append.mp hq with hq | hq
    · have hl := h1.l q hq
      obtain ⟨ws, w1, _⟩ := id hl
      exact hl.keep S t (upd_ne (ne_of w1 e1 (by intro z; cases z)))
    · rw [List.mem_singleton.mp hq]
      exact ⟨[], by rw [upd_ne nLf, upd_same]; rfl, rfl, fun q hq => by cases hq⟩
  · rw [List.map_append, List.nodup_append]
    refine ⟨h.nd, by simp, fun a ha b hb => ?_⟩
    rw [List.map_singleton, List.mem_singleton] at hb
    obtain ⟨q, hq, rfl⟩ := List.mem_map.mp ha
    obtain ⟨ws, hw, _⟩ := h.l q hq
    rw [hb]
    exact ne_of_none hw nL
  · rw [List.map_append, List.nodup_append]
    refine ⟨h.kn, by simp, fun a ha b hb => ?_⟩
    rw [List.map_singleton, List.mem_singleton] at hb
    rintro rfl
    rw [hb] at ha
    exact look_none.mp hn ha
abbrev Graph : Type := List (Str × List (Str × Bool))
def edgesM (st : St) : Graph := st.rules.foldl (fun g q => put g q.2.rel ((look g q.2.rel).getD [] ++ relsM q.2.body)) []
def GraphAt (H : Hp) (p : Addr) (g : Graph) : Prop := ∃ ps, DL PairB H p ps ∧ valsL ps = g
def spEdges (K : PySem.W.Frag) : Sp := fun vs H Q _ => ∃ (p : Addr) (st : St), vs = [.ref p] ∧ StAt K H p st ∧ st.rules.length < 64 ∧ (∀ q ∈ st.rules, q.2.body.length ≤ 100) ∧ ∀ (H' : Hp) (q : Addr), Same H H' → GraphAt H' q (edgesM st) → Q (.ref q) H'
theorem edges_len (l : List (Str × Rule)) (hb : ∀ q ∈ l, q.2.body.length ≤ 100) : ∀ q ∈ l.foldl (fun g q => put g q.2.rel ((look g q.2.rel).getD [] ++ relsM q.2.body)) ([] : Graph), q.2.length ≤ 100 * l.length := by
  have key : ∀ (l : List (Str × Rule)) (g : Graph) (b : Nat), (∀ q ∈ l, q.2.body.length ≤ 100) → (∀ q ∈ g, q.2.length ≤ b) → ∀ q ∈ l.foldl (fun g q => put g q.2.rel ((look g q.2.rel).getD [] ++ relsM q.2.body)) g, q.2.length ≤ b + 100 * l.length := by
    intro l
    induction l with
    | nil => intro g b _ h q hq; have := h q hq; simpa using this
    | cons x l ih =>
      intro g b hb h q hq
      have h1 : (relsM x.2.body).length ≤ 100 := Nat.le_trans (List.length_filterMap_le _ _) (hb x (List.mem_cons_self ..))
      have := ih (put g x.2.rel ((look g x.2.rel).getD [] ++ relsM x.2.body)) (b + 100) (fun y hy => hb y (List.mem_cons_of_mem _ hy)) (fun y hy => by
        rcases put_mem hy with rfl | hy
        · show ((look g x.2.rel).getD [] ++ relsM x.2.body).length ≤ _
          rw [List.length_append]
          cases e : look g x.2.rel with
          | none =>
            show ([] : List (Str × Bool)).length + _ ≤ _
            simp only [List.length_nil]
            omega
          | some l0 =>
            have := h _ (look_mem e)
            show l0.length + _ ≤ _
            have h2 : l0.length ≤ b := this
            omega
        · have := h y hy
          omega) q hq
      rw [List.length_cons]
      omega
  intro q hq
  have := key l [] 0 hb (fun q hq => by cases hq) q hq
  omega
section
variable {P : Program} {w : World} {K : PySem.W.Frag} {mg : Str → Option Value} {base : Heap}
theorem sc_edges : FnScope ["state", "found", "relation", "_", "body"] ["state"] (defScope (topS 27)) := ⟨rfl, rfl, rfl, by decide +kernel, rfl, by decide +kernel, by decide +kernel⟩
theorem ok_edges (T : Tx P K mg) : Cal P w K mg base CX0 2 "edges" (spEdges K) := by
  have C1 := ok_relations_of (w := w) (base := base) T
  refine cal_of T 20 27 rfl (by decide +kernel) sc_edges (fun vs H Q E h => ?_) (fun _ _ _ _ _ _ us hl => match us, hl with | [_], _ => rfl) (fun cdv A outer s H vs Q E hr h => ?_)
  · obtain ⟨p, st, rfl, _⟩ := h
    rfl
  · obtain ⟨p, st, rfl, ⟨ra, fa, ua, da, ⟨⟨dx, hi⟩, hrel, hfac, ⟨us, hu, eu, hus⟩, hden⟩⟩, h64, hbl, q⟩ := h
    refine ⟨_, PSs.nox (pss_cons (ps_set (i := 1) sc_edges.nd rfl (Or.inl rfl) pe_dnewK)
    (pss_cons (ps_lock (ps_for PassesOwn.never rfl (pi_values (pe_fld (pv 0) rfl)) (pg_tup rfl (pgs_cons (pg_name (i := 2) sc_edges.nd rfl (Or.inl rfl)) (pgs_cons (pg_name (i := 3) sc_edges.nd rfl (Or.inl rfl)) (pgs_cons (pg_name (i := 4) sc_edges.nd rfl (Or.inl rfl)) pgs_nil))))
    (pss_one (ps_expr (pe_bm PySem.F.plainAttrs_list PySem.F.slot_list_extend PySem.F.type_list_extend mt_extend (pe_dsetd (pv 1) (pv 2) (pe_lst pa_nil) ⟨rfl, rfl, rfl, rfl⟩) (pa_cons (pe_c C1 hr (pa_cons (pv 4) pa_nil)) pa_nil))))))
    (pss_one (ps_ret (pv 1))))), ?_⟩
    refine fun D nD => ?_
    have s1 := same_new (o := .dK []) nD
    have hu1 := s1 _ _ hu
    have npu : p ≠ ua := ne_of hi hu (by intro z; cases z)
    refine ⟨ua, _, hu1, trivial, fun od => ?_⟩
    have nDu : D ≠ ua := fun z => by
      rw [z, hu] at nD
      cases nD
    refine ⟨_, rfl, p, _, dx, _, _, rfl, (by rw [upd_ne npu]; exact s1 _ _ hi), T.cl, T.na "rules", stF_u ra fa ua da, ua, od, _, rfl, upd_same, ?_⟩
    refine for_W (walks_vals (l := us.map fun q => (q.1, q.2.1)) (h := V.ref) (d := ua) (o := od)) (fun pre σ H' => ∃ v2 v3 v4 ps, σ = [some (.ref p), some (.ref D), v2, v3, v4] ∧ (∀ b o, b ≠ ua → H b = some o → H' b = some o) ∧ H' ua = some (.frz od (.dK (encS V.ref (us.map fun q => (q.1, q.2.1))))) ∧ DL PairB H' D ps ∧ (∀ x ∈ ps, H x.2.1 = none) ∧
          ∀ rpre rpost, us = rpre ++ rpost → pre = rpre.map (fun q => (q.1, q.2.1)) → valsL ps = (rpre.map fun q => (q.1, q.2.2)).foldl (fun g q => put g q.2.rel ((look g q.2.rel).getD [] ++ relsM q.2.body)) [])
        ⟨_, _, _, [], rfl, fun b o hb e => (by rw [upd_ne hb]; exact s1 _ _ e), upd_same, ⟨by rw [upd_ne nDu, upd_same]; rfl, (fun q hq => (by cases hq)), List.nodup_nil, List.nodup_nil⟩, (fun q hq => (by cases hq)), fun rpre rpost e1 e2 => ?_⟩ (fun pre σ H' ⟨_, _, _, _, _, _, h, _⟩ => h) ?_ ?_
    · have : rpre = [] := by
        cases rpre with
        | nil => rfl
        | cons a b => cases e2
      rw [this]
      rfl
    · rintro pre ⟨n, rp⟩ post σ H' el ⟨v2, v3, v4, ps, rfl, sm, hfz, hD, hnew, hks⟩
      obtain ⟨rpre, rrest, e1, e2, e3⟩ := List.map_eq_append_iff.mp el
      obtain ⟨⟨n', rp', ru⟩, rpost, e4, e5, e6⟩ := List.map_eq_cons_iff.mp e3
      obtain ⟨rfl, rfl⟩ := Prod.mk.inj e5
      have hm : (n', rp', ru) ∈ us := by rw [e1, e4]; simp
      obtain ⟨a, b, h1, h2, h3⟩ := hus _ hm
      have tH : SameT H H' := fun b xs e => sm _ _ (ne_of e hu (by intro z; cases z)) e
      have h1' : H' rp' = some (.tup [.str ru.rel, .ref a, .ref b]) := sm _ _ (ne_of h1 hu (by intro z; cases z)) h1
      have eks := hks rpre rrest e1 e2.symm
      have hru : (n', ru) ∈ st.rules := by rw [← eu]; exact List.mem_map_of_mem (f := fun q : Str × Addr × Rule => (q.1, q.2.2)) hm
      have hb100 := hbl _ hru
      have lpre : rpre.length < 64 := by
        have q3 := congrArg List.length e1
        rw [List.length_append] at q3
        have q4 := congrArg List.length eu
        rw [List.length_map] at q4
        omega
      have hlens : ∀ x ∈ valsL ps, x.2.length ≤ 6400 := fun x hx => by
        rw [eks] at hx
        have := edges_len (rpre.map fun q => (q.1, q.2.2)) (fun y hy => by
          obtain ⟨z, hz, rfl⟩ := List.mem_map.mp hy
          refine hbl (z.1, z.2.2) ?_
          rw [← eu, e1]
          exact List.mem_map_of_mem (f := fun q : Str × Addr × Rule => (q.1, q.2.2)) (List.mem_append_left _ hz)) x hx
        rw [List.length_map] at this
        omega
      have lps : ps.length ≤ 64 := by
        have : ∀ (l : List (Str × Rule)) (g : Graph), (l.foldl (fun g q => put g q.2.rel ((look g q.2.rel).getD [] ++ relsM q.2.body)) g).length ≤ g.length + l.length := by
          intro l
          induction l with
          | nil => intro g; exact Nat.le_refl _
          | cons x l ih =>
            intro g
            rw [List.foldl_cons]
            have i1 := ih (put g x.2.rel ((look g x.2.rel).getD [] ++ relsM x.2.body))
            have i2 := put_length g x.2.rel ((look g x.2.rel).getD [] ++ relsM x.2.body)
            rw [List.length_cons]
            omega
        have h4 := this (rpre.map fun q => (q.1, q.2.2)) []
        rw [← eks] at h4
        unfold valsL at h4
        rw [List.length_map, List.length_map] at h4
        simp only [List.length_nil] at h4
        omega
      have next : ∀ (rpre2 rpost2 : List (Str × Addr × Rule)), us = rpre2 ++ rpost2 → pre ++ [(n', rp')] = rpre2.map (fun q => (q.1, q.2.1)) → rpre2 = rpre ++ [(n', rp', ru)] := fun rpre2 rpost2 q1 q2 => by
        have l1 : rpre2.length = rpre.length + 1 := by
          have z := congrArg List.length q2
          rw [List.length_append, List.length_map, ← e2, List.length_map, List.length_singleton] at z
          omega
        have z1 : us.take (rpre.length + 1) = rpre2 := by rw [q1, ← l1, List.take_left]
        have z2 : us.take (rpre.length + 1) = rpre ++ [(n', rp', ru)] := by
          rw [e1, e4, List.take_append, List.take_of_length_le (by omega)]
          simp
        rw [← z1, z2]
      refine ⟨rp', _, rfl, SqT.of_H h1', rfl, _, _, rfl, _, _, rfl, _, _, rfl, rfl, ?_⟩
      refine ⟨_, rfl, D, rfl, .inl ⟨_, .inl hD.d⟩, _, rfl, Nat.zero_le _, fun L nL => ?_⟩
      have sL := same_new (o := .lst []) nL
      have hDL := hD.same stays_pairB sL
      have nDua : D ≠ ua := nDu
      -- the extend, the list at la, filled as ws
      have fin : ∀ (Hx : Hp) (la : Addr) (px : List (Str × Addr × List (Str × Bool))) (ws : List (Addr × (Str × Bool))), (∀ b o, b ≠ ua → b ≠ D → H b = some o → Hx b = some o) → SameT H' Hx → H D = none → Hx ua = some (.frz od (.dK (encS V.ref (us.map fun q => (q.1, q.2.1))))) → DL PairB Hx D px → (∀ x ∈ px, H x.2.1 = none) → (ru.rel, la, ws.map (·.2)) ∈ px → Hx la = some (.lst (ws.map fun q => V.ref q.1)) → (∀ q ∈ ws, PairB Hx q.1 q.2) → ws.length ≤ 6400 →
          put (valsL px) ru.rel (ws.map (·.2) ++ relsM ru.body) = put (valsL ps) ru.rel ((look (valsL ps) ru.rel).getD [] ++ relsM ru.body) → ∀ (x3 : Option V),
          tyV K "list" (.ref la) Hx ∧ (tCons (tCall spRels [] E0 (tCons (tVar 4) tNil)) tNil) [some (.ref p), some (.ref D), some (.str ru.rel), x3, some (.ref b)] Hx (fun xs H2 => rExtend (.ref la) xs H2 fun _ H3 => ∃ v2 v3 v4 ps, ([some (.ref p), some (.ref D), some (.str ru.rel), x3, some (.ref b)] : L2.St) = [some (.ref p), some (.ref D), v2, v3, v4] ∧ (∀ b o, b ≠ ua → H b = some o → H3 b = some o) ∧ H3 ua = some (.frz od (.dK (encS V.ref (us.map fun q => (q.1, q.2.1))))) ∧ DL PairB H3 D ps ∧ (∀ x ∈ ps, H x.2.1 = none) ∧
            ∀ rpre2 rpost2, us = rpre2 ++ rpost2 → pre ++ [(n', rp')] = rpre2.map (fun q => (q.1, q.2.1)) → valsL ps = (rpre2.map fun q => (q.1, q.2.2)).foldl (fun g q => put g q.2.rel ((look g q.2.rel).getD [] ++ relsM q.2.body)) []) := by
        intro Hx la px ws sx tx nDH hua hDx hnx hmx hla hws lws eput x3
        refine ⟨.inl ⟨rfl, _, SqL.of_H hla⟩, _, rfl, b, ru.body, rfl, stays_body.go (tH.trans tx) h3, hb100, fun H2 B s2 nB hB => ?_⟩
        obtain ⟨zs, hzB, ezs, hzs⟩ := hB
        have hla2 := s2 _ _ hla
        have lzs : zs.length ≤ 100 := by
          have := congrArg List.length ezs
          rw [List.length_map] at this
          rw [this]
          exact Nat.le_trans (List.length_filterMap_le _ _) hb100
        have hD2 := hDx.same stays_pairB s2
        obtain ⟨px', hD3, ev, ea⟩ := hD2.set stays_pairB hmx (qs := ws ++ zs) (fun x hx => by
          rcases List.mem_append.mp hx with hx | hx
          · exact s2 _ _ (hws x hx)
          · exact hzs x hx)
        rw [List.map_append] at hD3 ev
        refine ⟨la, B, _, _, rfl, rfl, hla2, hzB, by rw [List.length_map, List.length_map, sizeLine_eq]; omega, ?_⟩
        have nla : la ≠ ua := ne_of hla hua (by intro z; cases z)
        have nlaH : H la = none := hnx _ hmx
        refine ⟨_, _, _, px', rfl, fun b o hb e => ?_, by rw [upd_ne (Ne.symm nla)]; exact s2 _ _ hua, hD3, fun x hx => ?_, fun rpre2 rpost2 q1 q2 => ?_⟩
        · rw [upd_ne (ne_of_none e nlaH)]
          exact s2 _ _ (sx _ _ hb (ne_of_none e nDH) e)
        · have hx2 : x.2.1 ∈ px.map (·.2.1) := by rw [← ea]; exact List.mem_map_of_mem (f := fun q : Str × Addr × List (Str × Bool) => q.2.1) hx
          obtain ⟨y, hy, e⟩ := List.mem_map.mp hx2
          rw [← e]
          exact hnx y hy
        · rw [next rpre2 rpost2 q1 q2, List.map_append, List.foldl_append, ← eks, ev, ezs, eput]
          rfl
      refine ⟨_, .inr ru.rel, sL _ _ hD.d, rfl, by rw [encS_len, List.length_map]; exact small1 (by omega), fun v hv => ?_, fun hv => ?_⟩
      · rw [encS_val, look_map (fun q : Addr × List (Str × Bool) => q.1)] at hv
        cases hl : look ps ru.rel with
        | none =>
          rw [hl] at hv
          cases hv
        | some qq =>
          obtain ⟨la, xs⟩ := qq
          rw [hl] at hv
          have hv' : V.ref la = v := Option.some.inj hv
          subst hv'
          have hmx := look_mem hl
          obtain ⟨ws, w1, w2, w3⟩ := hDL.l _ hmx
          have w2' : ws.map (·.2) = xs := w2
          refine fin _ la ps ws (fun b o hb hd e => sL _ _ (sm _ _ hb e)) sL.t nD (sL _ _ hfz) hDL hnew (by rw [w2']; exact hmx) w1 w3 ?_ ?_ _
          · have := hlens (ru.rel, xs) (List.mem_map_of_mem (f := fun q : Str × Addr × List (Str × Bool) => (q.1, q.2.2)) hmx)
            rw [← w2', List.length_map] at this
            exact this
          · rw [valsL_look, hl, w2']
            rfl
      · rw [encS_val, look_map (fun q : Addr × List (Str × Bool) => q.1)] at hv
        cases hl : look ps ru.rel with
        | some qq =>
          rw [hl] at hv
          cases hv
        | none =>
          have hN := hD.new stays_pairB hl nL hD.d
          have nLD : L ≠ D := fun z => by
            rw [z, hD.d] at nL
            cases nL
          have nLu : L ≠ ua := fun z => by
            rw [z, hfz] at nL
            cases nL
          have tD := sameT_dK (o := .dK (putK (encS V.ref (ps.map fun q => (q.1, q.2.1))) (.inr ru.rel) (V.ref L))) (sL _ _ hD.d)
          have nLH : H L = none := by
            cases e0 : H L with
            | none => rfl
            | some o => exact absurd (sm _ _ nLu e0) (by rw [nL]; intro z; cases z)
          refine fin _ L _ [] (fun b o hb hd e => by rw [upd_ne hd]; exact sL _ _ (sm _ _ hb e)) (sL.t.trans tD) nD (by rw [upd_ne (Ne.symm nDu)]; exact sL _ _ hfz) hN (fun x hx => ?_) (by simp) (by rw [upd_ne nLD, upd_same]; rfl) (fun q hq => by cases hq) (Nat.zero_le _) ?_ _
          · rcases List.mem_append.mp hx with hx | hx
            · exact hnew x hx
            · rw [List.mem_singleton.mp hx]
              exact nLH
          · rw [valsL_look, hl]
            have hln : look (valsL ps) ru.rel = none := by rw [valsL_look, hl]; rfl
            have e9 : valsL (ps ++ [(ru.rel, L, [])]) = put (valsL ps) ru.rel [] := by
              rw [put_new _ hln]
              unfold valsL
              rw [List.map_append]
              rfl
            rw [e9, put_put]
            rfl
    · rintro σ H2 ⟨v2, v3, v4, ps, rfl, sm, hfz, hD, hnew, hks⟩
      refine ⟨hfz, ?_⟩
      have eks := hks us [] (by rw [List.append_nil]) rfl
      have sF : Same H (upd H2 ua (.dK (encS V.ref (us.map fun q => (q.1, q.2.1))))) := fun b o e => by
        by_cases hb : b = ua
        · rw [hb, upd_same, ← hu, ← hb]
          exact e
        · rw [upd_ne hb]
          exact sm _ _ hb e
      have tU : SameT H2 (upd H2 ua (.dK (encS V.ref (us.map fun q => (q.1, q.2.1))))) := sameT_upd fun xs z => by rw [hfz] at z; cases z
      refine ⟨_, rfl, q _ D sF ⟨ps, ⟨by rw [upd_ne nDu]; exact hD.d, fun x hx => ?_, hD.nd, hD.kn⟩, ?_⟩⟩
      · have hl := hD.l x hx
        obtain ⟨ws, w1, _⟩ := id hl
        exact hl.keep stays_pairB tU (upd_ne (ne_of w1 hfz (by intro z; cases z)))
      · rw [eks, eu]
        rfl
end
end Rs


set_option Elab.async false
set_option linter.all false
set_option maxRecDepth 100000
set_option maxHeartbeats 2000000
/-! # S7: reached -/
namespace Rs
open PySem PySem.Spec PyProof.Rows L2
def othersM (g : Graph) : List Str := g.flatMap fun q => q.2.map (·.1)
def nbrs (g : Graph) (n : Str) : List (Str × Bool) := (look g n).getD []
theorem nbrs_others {g : Graph} {n : Str} {o : Str × Bool} (h : o ∈ nbrs g n) : o.1 ∈ othersM g := by
  unfold nbrs at h
  cases e : look g n with
  | none =>
    rw [e] at h
    cases h
  | some l =>
    rw [e] at h
    exact List.mem_flatMap.mpr ⟨(n, l), look_mem e, List.mem_map_of_mem (f := fun q : Str × Bool => q.1) h⟩
/-- a graph that is read (it may be walked over) -/
def GraphR (H : Hp) (p : Addr) (g : Graph) : Prop := ∃ ps : List (Str × Addr × List (Str × Bool)), Rd H p (.dK (encS V.ref (ps.map fun q => (q.1, q.2.1)))) ∧ (∀ q ∈ ps, LstOf PairB H q.2.1 q.2.2) ∧ valsL ps = g
theorem GraphAt.r {H : Hp} {p : Addr} {g : Graph} (h : GraphAt H p g) : GraphR H p g := by
  obtain ⟨ps, h1, h2⟩ := h
  exact ⟨ps, .inl h1.d, h1.l, h2⟩
theorem rd_same {H H' : Hp} {p : Addr} {o : HO} (s : Same H H') (h : Rd H p o) : Rd H' p o := by
  rcases h with h | ⟨u, h⟩
  · exact .inl (s _ _ h)
  · exact .inr ⟨u, s _ _ h⟩
theorem GraphR.same {H H' : Hp} {p : Addr} {g : Graph} (s : Same H H') (h : GraphR H p g) : GraphR H' p g := by
  obtain ⟨ps, h1, h2, h3⟩ := h
  exact ⟨ps, rd_same s h1, fun q hq => (h2 q hq).same stays_pairB s, h3⟩
theorem get_dl {H H2 : Hp} {p l : Addr} {g : Graph} (h : GraphR H p g) (n : Str) (s : Same H H2) (hl : H2 l = some (.lst [])) : ∃ o, DGet H2 p (.str n) o ∧ ∃ (a : Addr) (ps : List (Addr × (Str × Bool))), o.getD (.ref l) = .ref a ∧ (a = l ∨ ∃ u, H a = some u) ∧ H2 a = some (.lst (ps.map fun q => V.ref q.1)) ∧ ps.map (·.2) = nbrs g n ∧ ∀ q ∈ ps, PairB H2 q.1 q.2 := by
  obtain ⟨qs, hq, hl2, rfl⟩ := h
  refine ⟨_, dgetS' n (rd_same s hq), ?_⟩
  unfold nbrs
  rw [look_map (fun q : Addr × List (Str × Bool) => q.1), valsL_look]
  cases e : look qs n with
  | none => exact ⟨l, [], rfl, .inl rfl, hl, rfl, fun q hq => by cases hq⟩
  | some q =>
    obtain ⟨ps, h1, h2, h3⟩ := hl2 _ (look_mem e)
    exact ⟨q.1, ps, rfl, .inr ⟨_, h1⟩, s _ _ h1, h2, fun x hx => s _ _ (h3 x hx)⟩
def spReached : Sp := fun vs H Q _ => ∃ (pg : Addr) (g : Graph) (rel : Str), vs = [.ref pg, .str rel] ∧ GraphR H pg g ∧ (othersM g).length ≤ 1000000 ∧ (∀ n, (nbrs g n).length ≤ 100000) ∧ ∀ (H' : Hp) (q : Addr) (l : List Str), Same H H' → StrL H' q l → (∀ o ∈ nbrs g rel, o.1 ∈ l) → Q (.ref q) H'
section
variable {P : Program} {w : World} {K : PySem.W.Frag} {mg : Str → Option Value} {base : Heap}
theorem sc_reached : FnScope ["graph", "relation", "found", "todo", "other", "_"] ["graph", "relation"] (defScope (topS 28)) := ⟨rfl, rfl, rfl, by decide +kernel, rfl, by decide +kernel, by decide +kernel⟩
theorem ok_reached (T : Tx P K mg) : Cal P w K mg base CX0 1 "reached" spReached := by
  refine cal_of T 21 28 rfl (by decide +kernel) sc_reached (fun vs H Q E h => ?_) (fun _ _ _ _ _ _ us hl => match us, hl with | [_, _], _ => rfl) (fun cdv A outer s H vs Q E hr h => ?_)
  · obtain ⟨pg, g, rel, rfl, _⟩ := h
    rfl
  · obtain ⟨pg, g, rel, rfl, hg, hU, hnb, q⟩ := h
    refine ⟨_, PSs.nox (pss_cons (ps_set (i := 2) sc_reached.nd rfl (Or.inl rfl) (pe_lst pa_nil))
    (pss_cons (ps_set (i := 3) sc_reached.nd rfl (Or.inl rfl) (pe_lst (pa_cons (pv 1) pa_nil)))
    (pss_cons (ps_while PassesOwn.never (pt_truth (pv 3) (by intro _; rfl)) (pss_one (ps_for PassesOwn.never rfl (pi_list (pe_dget2 (hu_of hr) (pv 0) (pe_bm0 PySem.F.plainAttrs_list PySem.F.slot_list_pop PySem.F.type_list_pop mt_pop (pv 3)) (pe_lst pa_nil) ⟨rfl, rfl, rfl, rfl⟩)) (pg_tup rfl (pgs_cons (pg_name (i := 4) sc_reached.nd rfl (Or.inl rfl)) (pgs_cons (pg_name (i := 5) sc_reached.nd rfl (Or.inl rfl)) pgs_nil)))
    (pss_one (ps_if (pt_cmpR op_notIn_seq (pv 4) (pv 2) (by rfl)) (pss_cons (ps_expr (pe_bm PySem.F.plainAttrs_list PySem.F.slot_list_append PySem.F.type_list_append mt_append (pv 2) (pa_cons (pv 4) pa_nil)))
    (pss_one (ps_expr (pe_bm PySem.F.plainAttrs_list PySem.F.slot_list_append PySem.F.type_list_append mt_append (pv 3) (pa_cons (pv 4) pa_nil))))) pss_nil)))))
    (pss_one (ps_ret (pv 2)))))), ?_⟩
    refine ⟨Nat.zero_le _, fun Fo nF => ⟨_, rfl, by show 1 ≤ sizeLine; decide, fun To nT => ?_⟩⟩
    have s1 := same_new (o := .lst []) nF
    have s2 := same_new (o := .lst [V.str rel]) nT
    have nTH : H To = none := s1.free nT
    have nFT : Fo ≠ To := fun z => by
      rw [← z, upd_same] at nT
      cases nT
    refine ⟨fun m σ H' => ∃ v4 v5 fl tl, σ = [some (.ref pg), some (.str rel), some (.ref Fo), some (.ref To), v4, v5] ∧ Same H H' ∧ H' Fo = some (.lst (fl.map V.str)) ∧ H' To = some (.lst (tl.map V.str)) ∧ fl.Nodup ∧ (∀ x ∈ fl, x ∈ othersM g) ∧ m + fl.length = tl.length + (othersM g).length ∧ m ≤ (othersM g).length + 1 ∧
        ((tl = [rel] ∧ fl = []) ∨ ∀ o ∈ nbrs g rel, o.1 ∈ fl), ⟨(othersM g).length + 1, none, none, [], [rel], rfl, s1.trans s2, by rw [upd_ne nFT, upd_same]; rfl, by rw [upd_same]; rfl, List.nodup_nil, (fun x hx => (by cases hx)), by simp only [List.length_nil, List.length_singleton]; omega, Nat.le_refl _, .inl ⟨rfl, rfl⟩⟩, ?_⟩
    rintro m σ H' ⟨v4, v5, fl, tl, rfl, sm, hF, hT, ndf, hsub, hm, hm2, hpr⟩
    have lfl := pigeon ndf hsub
    refine ⟨_, rfl, !(tl.map V.str).isEmpty, .inl ⟨_, SqL.of_H hT, rfl⟩, ?_⟩
    by_cases htl : tl = []
    · subst htl
      refine iteF ⟨_, rfl, q H' Fo fl sm hF ?_⟩
      rcases hpr with hpr | hpr
      · cases hpr.1
      · exact hpr
    · obtain ⟨tl0, y, rfl⟩ : ∃ tl0 y, tl = tl0 ++ [y] := ⟨tl.dropLast, tl.getLast htl, (List.dropLast_concat_getLast htl).symm⟩
      rw [show (!((tl0 ++ [y]).map V.str).isEmpty) = true by simp]
      rw [List.length_append, List.length_singleton] at hm
      refine iteT ⟨fun σ' H'' => ∃ v4 v5 fl tl, σ' = [some (.ref pg), some (.str rel), some (.ref Fo), some (.ref To), v4, v5] ∧ Same H H'' ∧ H'' Fo = some (.lst (fl.map V.str)) ∧ H'' To = some (.lst (tl.map V.str)) ∧ fl.Nodup ∧ (∀ x ∈ fl, x ∈ othersM g) ∧ (m - 1) + fl.length = tl.length + (othersM g).length ∧ m - 1 ≤ (othersM g).length + 1 ∧
        ((tl = [rel] ∧ fl = []) ∨ ∀ o ∈ nbrs g rel, o.1 ∈ fl), fun σ' H'' hw => ⟨m - 1, by omega, hw⟩, ?_⟩
      have hg1 := hg.same sm
      refine ⟨_, rfl, pg, rfl, (by obtain ⟨ps, h1, _⟩ := hg1; exact .inl ⟨_, h1⟩), _, rfl, .inl ⟨rfl, _, SqL.of_H hT⟩, To, _, .str y, rfl, rfl, hT, by simp, Nat.zero_le _, fun L nL => ?_⟩
      have s3 : Same H (upd H' To (.lst ((tl0 ++ [y]).map V.str).dropLast)) := same0_upd sm nTH
      have sL := same_new (o := .lst []) nL
      have s4 := s3.trans sL
      have nLT : L ≠ To := fun z => by
        rw [z, upd_same] at nL
        cases nL
      have nLF : L ≠ Fo := fun z => by
        rw [z, upd_ne nFT, hF] at nL
        cases nL
      obtain ⟨o, gg, la, ps, e1, e2, e3, e4, e5⟩ := get_dl hg y s4 upd_same
      have nlaF : la ≠ Fo := by
        rcases e2 with e2 | ⟨u, e2⟩
        · rw [e2]; exact nLF
        · exact ne_of_none e2 nF
      have nlaT : la ≠ To := by
        rcases e2 with e2 | ⟨u, e2⟩
        · rw [e2]; exact nLT
        · exact ne_of_none e2 nTH
      have edl : ((tl0 ++ [y]).map V.str).dropLast = tl0.map V.str := by simp
      have lps : ps.length ≤ 100000 := by
        have := hnb y
        rw [← e4, List.length_map] at this
        exact this
      refine ⟨o, gg, la, e1, ⟨_, SqL.of_H e3⟩, for_W (walks_list (K := K) (a := la) (l := ps) (f := fun q : Addr × (Str × Bool) => V.ref q.1)) (fun pre σ H3 => ∃ v4 v5 fl' tl', σ = [some (.ref pg), some (.str rel), some (.ref Fo), some (.ref To), v4, v5] ∧ Same H H3 ∧ SameT (upd (upd H' To (.lst ((tl0 ++ [y]).map V.str).dropLast)) L (.lst [])) H3 ∧ H3 la = some (.lst (ps.map fun q => V.ref q.1)) ∧ H3 Fo = some (.lst (fl'.map V.str)) ∧ H3 To = some (.lst (tl'.map V.str)) ∧ fl'.Nodup ∧ (∀ x ∈ fl', x ∈ othersM g) ∧
          fl'.length + tl0.length = tl'.length + fl.length ∧ (∀ x ∈ fl, x ∈ fl') ∧ ∀ p ∈ pre, p.2.1 ∈ fl')
        ⟨v4, v5, fl, tl0, rfl, s4, SameT.refl _, e3, by rw [upd_ne (Ne.symm nLF), upd_ne nFT]; exact hF, by rw [upd_ne (Ne.symm nLT), upd_same, edl], ndf, hsub, by omega, fun x hx => hx, fun p hp => by cases hp⟩
        (fun pre σ H3 ⟨_, _, _, _, _, _, _, h, _⟩ => SqL.of_H h) ?_ ?_⟩
      · rintro pre ⟨pa, on, ob⟩ post σ H3 el ⟨w4, w5, fl', tl', rfl, s5, t5, hla, hF3, hT3, nd3, sub3, cnt3, inc3, pre3⟩
        have hp3 : H3 pa = some (.tup [.str on, .bl ob]) := t5 _ _ (e5 (pa, on, ob) (by rw [el]; simp))
        have hmem : (on, ob) ∈ nbrs g y := by rw [← e4]; exact List.mem_map_of_mem (f := fun q : Addr × (Str × Bool) => q.2) (a := (pa, on, ob)) (by rw [el]; simp)
        have lfl3 := pigeon nd3 sub3
        refine ⟨pa, _, rfl, SqT.of_H hp3, rfl, _, _, rfl, _, _, rfl, rfl, ?_⟩
        refine ⟨_, rfl, _, rfl, Fo, _, rfl, .inl (SqL.of_H hF3), rfl, flat_str _, _, rfl, ?_⟩
        show if (if true = true then !inV (V.str on) (fl'.map V.str) else inV (V.str on) (fl'.map V.str)) = true then _ else _
        rw [if_pos rfl, inV_str]
        by_cases hin : on ∈ fl'
        · rw [decide_eq_true hin]
          refine iteF ⟨_, _, fl', tl', rfl, s5, t5, hla, hF3, hT3, nd3, sub3, cnt3, inc3, fun p hp => ?_⟩
          rcases List.mem_append.mp hp with hp | hp
          · exact pre3 p hp
          · rw [List.mem_singleton.mp hp]
            exact hin
        · rw [decide_eq_false hin]
          have lF3 : (fl'.map V.str).length < sizeLine := by
            rw [List.length_map, sizeLine_eq]
            omega
          have lT3 : (tl'.map V.str).length < sizeLine := by
            rw [List.length_map, sizeLine_eq]
            omega
          have hT4 : upd H3 Fo (.lst (fl'.map V.str ++ [V.str on])) To = some (.lst (tl'.map V.str)) := by rw [upd_ne (Ne.symm nFT)]; exact hT3
          refine iteT ⟨_, rfl, .inl ⟨rfl, _, SqL.of_H hF3⟩, _, rfl, Fo, _, _, rfl, rfl, hF3, lF3, ?_⟩
          refine ⟨_, rfl, .inl ⟨rfl, _, SqL.of_H hT4⟩, _, rfl, To, _, _, rfl, rfl, hT4, lT3, ?_⟩
          refine ⟨_, _, fl' ++ [on], tl' ++ [on], rfl, same0_upd (same0_upd s5 nF) nTH, (t5.trans (sameT_lst hF3)).trans (sameT_lst hT4), by rw [upd_ne nlaT, upd_ne nlaF]; exact hla, by rw [upd_ne nFT, upd_same, List.map_append]; rfl, by rw [upd_same, List.map_append]; rfl, ?_, ?_, ?_, fun x hx => List.mem_append_left _ (inc3 x hx), fun p hp => ?_⟩
          · rw [List.nodup_append]
            refine ⟨nd3, by simp, fun a ha b hb => ?_⟩
            rw [List.mem_singleton.mp hb]
            rintro rfl
            exact hin ha
          · intro x hx
            rcases List.mem_append.mp hx with hx | hx
            · exact sub3 x hx
            · rw [List.mem_singleton.mp hx]
              exact nbrs_others hmem
          · rw [List.length_append, List.length_append, List.length_singleton]
            omega
          · rcases List.mem_append.mp hp with hp | hp
            · exact List.mem_append_left _ (pre3 p hp)
            · rw [List.mem_singleton.mp hp]
              simp
      · rintro σ H3 ⟨w4, w5, fl', tl', rfl, s5, t5, hla, hF3, hT3, nd3, sub3, cnt3, inc3, pre3⟩
        refine ⟨_, _, fl', tl', rfl, s5, hF3, hT3, nd3, sub3, by omega, by omega, .inr fun x hx => ?_⟩
        rcases hpr with ⟨hp1, hp2⟩ | hpr
        · have ey : y = rel := by
            cases tl0 with
            | nil => exact (List.cons.inj hp1).1
            | cons a b =>
              exfalso
              have := congrArg List.length hp1
              simp at this
          subst ey
          rw [← e4] at hx
          obtain ⟨p, hp, rfl⟩ := List.mem_map.mp hx
          exact pre3 p hp
        · exact inc3 _ (hpr x hx)
end
end Rs


set_option Elab.async false
set_option linter.all false
set_option maxRecDepth 100000
set_option maxHeartbeats 2000000
/-! # S8: has_ring, growing (what is told where they find nothing) -/
namespace Rs
open PySem PySem.Spec PyProof.Rows L2
def NoRing (st : St) : Prop := ∀ q ∈ st.rules, ∀ o, (o, true) ∈ relsM q.2.body → ∀ q2 ∈ st.rules, q2.2.rel = o → ∀ b, (q.2.rel, b) ∉ relsM q2.2.body
def NoGrow (st : St) : Prop := ∀ q ∈ st.rules, makesM q.2.body = true → ∀ o b, (o, b) ∈ relsM q.2.body → ∀ q2 ∈ st.rules, q2.2.rel = o → ∀ b, (q.2.rel, b) ∉ relsM q2.2.body
theorem edges_mem {st : St} {q : Str × Rule} (hq : q ∈ st.rules) {o : Str × Bool} (ho : o ∈ relsM q.2.body) : o ∈ nbrs (edgesM st) q.2.rel := by
  have mono : ∀ (l : List (Str × Rule)) (g : Graph) (n : Str) (o : Str × Bool), o ∈ nbrs g n → o ∈ nbrs (l.foldl (fun g q => put g q.2.rel ((look g q.2.rel).getD [] ++ relsM q.2.body)) g) n := by
    intro l
    induction l with
    | nil => intro g n o h; exact h
    | cons x l ih =>
      intro g n o h
      refine ih _ n o ?_
      unfold nbrs
      rw [look_put]
      by_cases e : n = x.2.rel
      · rw [if_pos e, ← e]
        exact List.mem_append_left _ h
      · rw [if_neg e]
        exact h
  have key : ∀ (l : List (Str × Rule)) (g : Graph), q ∈ l → o ∈ nbrs (l.foldl (fun g q => put g q.2.rel ((look g q.2.rel).getD [] ++ relsM q.2.body)) g) q.2.rel := by
    intro l
    induction l with
    | nil => intro g h; cases h
    | cons x l ih =>
      intro g h
      rcases List.mem_cons.mp h with h | h
      · refine mono l _ _ _ ?_
        unfold nbrs
        rw [h, look_put, if_pos rfl]
        exact List.mem_append_right _ (by rw [← h]; exact ho)
      · exact ih _ h
  exact key st.rules [] hq
theorem edges_keys_len (l : List (Str × Rule)) : (l.foldl (fun g q => put g q.2.rel ((look g q.2.rel).getD [] ++ relsM q.2.body)) ([] : Graph)).length ≤ l.length := by
  have : ∀ (l : List (Str × Rule)) (g : Graph), (l.foldl (fun g q => put g q.2.rel ((look g q.2.rel).getD [] ++ relsM q.2.body)) g).length ≤ g.length + l.length := by
    intro l
    induction l with
    | nil => intro g; exact Nat.le_refl _
    | cons x l ih =>
      intro g
      rw [List.foldl_cons]
      have i1 := ih (put g x.2.rel ((look g x.2.rel).getD [] ++ relsM x.2.body))
      have i2 := put_length g x.2.rel ((look g x.2.rel).getD [] ++ relsM x.2.body)
      rw [List.length_cons]
      omega
  have h := this l []
  simpa using h
theorem edges_sizes {st : St} (h64 : st.rules.length < 64) (hb : ∀ q ∈ st.rules, q.2.body.length ≤ 100) : (edgesM st).length < 64 ∧ (othersM (edgesM st)).length ≤ 1000000 ∧ (∀ n, (nbrs (edgesM st) n).length ≤ 100000) := by
  have h1 := edges_keys_len st.rules
  have h2 : ∀ q ∈ edgesM st, q.2.length ≤ 6400 := fun q hq => by
    have := edges_len st.rules hb q hq
    omega
  have h1' : (edgesM st).length ≤ st.rules.length := h1
  refine ⟨by omega, ?_, fun n => ?_⟩
  · unfold othersM
    have := flatMap_len (f := fun q : Str × List (Str × Bool) => q.2.map (·.1)) (b := 6400) (l := edgesM st) fun x hx => by rw [List.length_map]; exact h2 x hx
    have h3 : 6400 * (edgesM st).length ≤ 6400 * 64 := Nat.mul_le_mul_left _ (by omega)
    omega
  · unfold nbrs
    cases e : look (edgesM st) n with
    | none => exact Nat.zero_le _
    | some l =>
      have := h2 _ (look_mem e)
      show l.length ≤ _
      have h4 : l.length ≤ 6400 := this
      omega
theorem inV_str' (x : Str) (l : List Str) : inV (.str x) (l.map V.str) = decide (x ∈ l) := inV_str x l
def spRing (K : PySem.W.Frag) : Sp := fun vs H Q _ => ∃ (p : Addr) (st : St), vs = [.ref p] ∧ StAt K H p st ∧ st.rules.length < 64 ∧ (∀ q ∈ st.rules, q.2.body.length ≤ 100) ∧ ∀ (H' : Hp) (b : Bool), Same H H' → (b = false → NoRing st) → Q (.bl b) H'
section
variable {P : Program} {w : World} {K : PySem.W.Frag} {mg : Str → Option Value} {base : Heap}
theorem sc_has_ring : FnScope ["state", "graph", "relation", "other", "below"] ["state"] (defScope (topS 29)) := ⟨rfl, rfl, rfl, by decide +kernel, rfl, by decide +kernel, by decide +kernel⟩
theorem ok_has_ring (T : Tx P K mg) : Cal P w K mg base CX0 3 "has_ring" (spRing K) := by
  have C1 := ok_edges (w := w) (base := base) T
  have C2 := ok_reached (w := w) (base := base) T
  refine cal_of T 22 29 rfl (by decide +kernel) sc_has_ring (fun vs H Q E h => ?_) (fun _ _ _ _ _ _ us hl => match us, hl with | [_], _ => rfl) (fun cdv A outer s H vs Q E hr h => ?_)
  · obtain ⟨p, st, rfl, _⟩ := h
    rfl
  · obtain ⟨p, st, rfl, hst, h64, hbl, q⟩ := h
    refine ⟨_, PSs.nox (pss_cons (ps_set (i := 1) sc_has_ring.nd rfl (Or.inl rfl) (pe_c C1 hr (pa_cons (pv 0) pa_nil)))
    (pss_cons (ps_lock (ps_for PassesOwn.never rfl (pi_keys (pv 1)) (pg_name (i := 2) sc_has_ring.nd rfl (Or.inl rfl))
    (pss_one (ps_for PassesOwn.never rfl (pi_list (pe_dget (hu_of hr) (pv 1) (pv 2) (fun _ _ => rfl))) (pg_tup rfl (pgs_cons (pg_name (i := 3) sc_has_ring.nd rfl (Or.inl rfl)) (pgs_cons (pg_name (i := 4) sc_has_ring.nd rfl (Or.inl rfl)) pgs_nil)))
    (pss_one (ps_if (PW.pt (pw_and (pt_truth (pv 4) (by intro _; rfl)) (pw_and1 (PW.pt (pw_or (pt_cmpR op_eq (pv 3) (pv 2) (nomark _)) (pw_or1 (pt_cmpR op_in_seq (pv 2) (pe_c C2 hr (pa_cons (pv 1) (pa_cons (pv 3) pa_nil))) (by rfl)))))))) (pss_one (ps_ret pe_bl)) pss_nil))))))
    (pss_one (ps_ret pe_bl)))), ?_⟩
    obtain ⟨z1, z2, z3⟩ := edges_sizes h64 hbl
    refine ⟨_, rfl, p, st, rfl, hst, h64, hbl, fun H1 G s1 hG => ?_⟩
    obtain ⟨ps, hd, eg⟩ := hG
    refine ⟨G, _, hd.d, trivial, fun od => ?_⟩
    have sR : ∀ b o, b ≠ G → H1 b = some o → upd H1 G (.frz od (.dK (encS V.ref (ps.map fun q => (q.1, q.2.1))))) b = some o := fun b o hb e => by rw [upd_ne hb]; exact e
    have hGR : GraphR (upd H1 G (.frz od (.dK (encS V.ref (ps.map fun q => (q.1, q.2.1)))))) G (edgesM st) := ⟨ps, .inr ⟨od, upd_same⟩, fun q hq => by
      obtain ⟨ws, w1, w2, w3⟩ := hd.l q hq
      exact ⟨ws, sR _ _ (ne_of w1 hd.d (by intro z; cases z)) w1, w2, fun x hx => sR _ _ (ne_of (w3 x hx) hd.d (by intro z; cases z)) (w3 x hx)⟩, eg⟩
    have back : ∀ {H' : Hp}, Same (upd H1 G (.frz od (.dK (encS V.ref (ps.map fun q => (q.1, q.2.1)))))) H' → H' G = some (.frz od (.dK (encS V.ref (ps.map fun q => (q.1, q.2.1))))) ∧ Same H (upd H' G (.dK (encS V.ref (ps.map fun q => (q.1, q.2.1))))) := fun s => by
      obtain ⟨b1, b2⟩ := lock_back hd.d s
      exact ⟨b1, s1.trans b2⟩
    refine ⟨_, rfl, G, od, rfl, .inl ⟨_, upd_same, for_W (walks_keys (l := ps.map fun q => (q.1, q.2.1)) (h := V.ref) (d := G) (o := od)) (fun pre σ H' => ∃ v2 v3 v4, σ = [some (.ref p), some (.ref G), v2, v3, v4] ∧ Same (upd H1 G (.frz od (.dK (encS V.ref (ps.map fun q => (q.1, q.2.1)))))) H' ∧
        ∀ x ∈ pre, ∀ o, (o, true) ∈ nbrs (edgesM st) x.1 → o ≠ x.1 ∧ ∀ b, (x.1, b) ∉ nbrs (edgesM st) o) ⟨none, none, none, rfl, Same.refl _, fun x hx => by cases hx⟩ (fun pre σ H' ⟨_, _, _, _, s, _⟩ => s _ _ upd_same) ?_ ?_⟩⟩
    · rintro pre ⟨n, la⟩ post σ H' el ⟨v2, v3, v4, rfl, sm, hpre⟩
      have hm0 : (n, la) ∈ ps.map fun q => (q.1, q.2.1) := by rw [el]; simp
      obtain ⟨⟨n', la', prs⟩, hm, e0⟩ := List.mem_map.mp hm0
      obtain ⟨rfl, rfl⟩ := Prod.mk.inj e0
      have ndk : ((ps.map fun q => (q.1, q.2.1)).map (·.1)).Nodup := by rw [List.map_map]; exact hd.kn
      obtain ⟨ws, w1, w2, w3⟩ := hd.l _ hm
      have w2' : ws.map (·.2) = prs := w2
      have w1' := sm _ _ (sR _ _ (ne_of w1 hd.d (by intro z; cases z)) w1)
      have enb : nbrs (edgesM st) n' = prs := by
        unfold nbrs
        rw [← eg, valsL_look, nodup_look hd.kn hm]
        rfl
      refine ⟨_, rfl, _, rfl, G, _, rfl, dgetS (.inr ⟨od, sm _ _ upd_same⟩) (nodup_look ndk hm0), la', rfl, ⟨_, SqL.of_H w1'⟩, for_W (walks_list (K := K) (a := la') (l := ws) (f := fun q : Addr × (Str × Bool) => V.ref q.1)) (fun pre2 σ H2 => ∃ v3 v4, σ = [some (.ref p), some (.ref G), some (.str n'), v3, v4] ∧ Same H' H2 ∧
          ∀ x ∈ pre2, x.2.2 = true → x.2.1 ≠ n' ∧ ∀ b, (n', b) ∉ nbrs (edgesM st) x.2.1) ⟨_, _, rfl, Same.refl _, fun x hx => by cases hx⟩ (fun pre2 σ H2 ⟨_, _, _, s2, _⟩ => SqL.of_H (s2 _ _ w1')) ?_ ?_⟩
      · rintro pre2 ⟨pa, on, ob⟩ post2 σ H2 el2 ⟨w5, w6, rfl, s2, hpre2⟩
        have hpa := w3 (pa, on, ob) (by rw [el2]; simp)
        have hp2 : H2 pa = some (.tup [.str on, .bl ob]) := s2 _ _ (sm _ _ (sR _ _ (ne_of hpa hd.d (by intro z; cases z)) hpa))
        refine ⟨pa, _, rfl, SqT.of_H hp2, rfl, _, _, rfl, _, _, rfl, rfl, ?_⟩
        have snoc : ∀ (x0 : ob = true → on ≠ n' ∧ ∀ b, (n', b) ∉ nbrs (edgesM st) on) (x : Addr × (Str × Bool)), x ∈ pre2 ++ [(pa, on, ob)] → x.2.2 = true → x.2.1 ≠ n' ∧ ∀ b, (n', b) ∉ nbrs (edgesM st) x.2.1 := fun x0 x hx hb => by
          rcases List.mem_append.mp hx with hx | hx
          · exact hpre2 x hx hb
          · rw [List.mem_singleton.mp hx] at hb ⊢
            exact x0 hb
        refine ⟨_, rfl, ob, rfl, ?_⟩
        cases ob with
        | false =>
          refine iteF (iteF ⟨_, _, rfl, s2, snoc fun z => by cases z⟩)
        | true =>
          refine iteT ⟨_, rfl, _, rfl, rfl, decide (on = n'), congrArg V.bl (str_dec on n'), ?_⟩
          by_cases e : on = n'
          · rw [decide_eq_true e]
            refine iteT (iteT ?_)
            obtain ⟨b1, b2⟩ := back (sm.trans s2)
            exact ⟨b1, q _ true b2 (fun z => by cases z)⟩
          · rw [decide_eq_false e]
            refine iteF ⟨_, rfl, _, rfl, _, rfl, G, _, on, rfl, hGR.same (sm.trans s2), z2, z3, fun H3 ql l s3 hl hin => ?_⟩
            refine ⟨ql, _, rfl, .inl (SqL.of_H hl), rfl, flat_str _, _, rfl, ?_⟩
            show if (if false = true then !inV (V.str n') (l.map V.str) else inV (V.str n') (l.map V.str)) = true then _ else _
            rw [if_neg Bool.false_ne_true, inV_str]
            by_cases hinl : n' ∈ l
            · rw [decide_eq_true hinl]
              refine iteT ?_
              obtain ⟨b1, b2⟩ := back ((sm.trans s2).trans s3)
              exact ⟨b1, q _ true b2 (fun z => by cases z)⟩
            · rw [decide_eq_false hinl]
              exact iteF ⟨_, _, rfl, s2.trans s3, snoc fun _ => ⟨e, fun b hb => hinl (hin _ hb)⟩⟩
      · rintro σ H2 ⟨w5, w6, rfl, s2, hpre2⟩
        refine ⟨_, _, _, rfl, sm.trans s2, fun x hx o ho => ?_⟩
        rcases List.mem_append.mp hx with hx | hx
        · exact hpre x hx o ho
        · rw [List.mem_singleton.mp hx] at ho ⊢
          have ho' : (o, true) ∈ nbrs (edgesM st) n' := ho
          rw [enb, ← w2'] at ho'
          obtain ⟨y, hy, ey⟩ := List.mem_map.mp ho'
          have := hpre2 y hy (by rw [ey])
          rw [ey] at this
          exact this
    · rintro σ H' ⟨v2, v3, v4, rfl, sm, hpre⟩
      obtain ⟨b1, b2⟩ := back sm
      refine ⟨b1, q _ false b2 fun _ x hx o ho x2 hx2 e2 b hb => ?_⟩
      have h1 := edges_mem hx ho
      obtain ⟨⟨k, ka, kp⟩, hk, ek⟩ : ∃ y ∈ ps, y.1 = x.2.rel := by
        unfold nbrs at h1
        cases e : look (edgesM st) x.2.rel with
        | none =>
          rw [e] at h1
          cases h1
        | some l =>
          have h3 := look_mem e
          rw [← eg] at h3
          obtain ⟨y, hy, ey⟩ := List.mem_map.mp h3
          exact ⟨y, hy, congrArg Prod.fst ey⟩
      have h4 := hpre (k, ka) (List.mem_map_of_mem (f := fun q : Str × Addr × List (Str × Bool) => (q.1, q.2.1)) hk) o (by
        show (o, true) ∈ nbrs (edgesM st) k
        rw [show k = x.2.rel from ek]
        exact h1)
      have h5 := edges_mem hx2 hb
      rw [e2] at h5
      refine h4.2 b ?_
      show (k, b) ∈ _
      rw [show k = x.2.rel from ek]
      exact h5
end
end Rs


set_option Elab.async false
set_option linter.all false
set_option maxRecDepth 100000
set_option maxHeartbeats 2000000
/-! # S9: growing -/
namespace Rs
open PySem PySem.Spec PyProof.Rows L2
def spGrow (K : PySem.W.Frag) : Sp := fun vs H Q _ => ∃ (p : Addr) (st : St), vs = [.ref p] ∧ StAt K H p st ∧ st.rules.length < 64 ∧ RulesOk st ∧ (st.rules.map (·.1)).Nodup ∧ ∀ (H' : Hp) (v : V), Same H H' → (v = .non → NoGrow st) → (v = .non ∨ ∃ n, v = .str n) → Q v H'
section
variable {P : Program} {w : World} {K : PySem.W.Frag} {mg : Str → Option Value} {base : Heap}
theorem sc_growing : FnScope ["state", "graph", "name", "relation", "_", "body", "other"] ["state"] (defScope (topS 30)) := ⟨rfl, rfl, rfl, by decide +kernel, rfl, by decide +kernel, by decide +kernel⟩
theorem ok_growing (T : Tx P K mg) : Cal P w K mg base CX0 3 "growing" (spGrow K) := by
  have C1 := ok_edges (w := w) (base := base) T
  have C2 := ok_reached (w := w) (base := base) T
  have C3 := ok_makes (w := w) (base := base) T
  have C4 := ok_relations_of (w := w) (base := base) T
  refine cal_of T 23 30 rfl (by decide +kernel) sc_growing (fun vs H Q E h => ?_) (fun _ _ _ _ _ _ us hl => match us, hl with | [_], _ => rfl) (fun cdv A outer s H vs Q E hr h => ?_)
  · obtain ⟨p, st, rfl, _⟩ := h
    rfl
  · obtain ⟨p, st, rfl, hst, h64, hro, hnd, q⟩ := h
    have hbl : ∀ q ∈ st.rules, q.2.body.length ≤ 100 := fun q hq => (hro q hq).1
    refine ⟨_, PSs.nox (pss_cons (ps_set (i := 1) sc_growing.nd rfl (Or.inl rfl) (pe_c C1 hr (pa_cons (pv 0) pa_nil)))
    (pss_cons (ps_for PassesOwn.never rfl (pi_list (pe_callB (call_sortedD rfl) (by rfl) (T.fr "sorted") (by decide +kernel) (pa_cons (pe_fld (pv 0) rfl) pa_nil))) (pg_name (i := 2) sc_growing.nd rfl (Or.inl rfl))
    (pss_cons (ps_asg (pe_dget (hu_of hr) (pe_fld (pv 0) rfl) (pv 2) (fun _ _ => rfl)) (pg_tup rfl (pgs_cons (pg_name (i := 3) sc_growing.nd rfl (Or.inl rfl)) (pgs_cons (pg_name (i := 4) sc_growing.nd rfl (Or.inl rfl)) (pgs_cons (pg_name (i := 5) sc_growing.nd rfl (Or.inl rfl)) pgs_nil)))))
    (pss_one (ps_if (pt_val (pe_c C3 hr (pa_cons (pv 5) pa_nil))) (pss_one (ps_for PassesOwn.never rfl (pi_list (pe_c C4 hr (pa_cons (pv 5) pa_nil))) (pg_tup rfl (pgs_cons (pg_name (i := 6) sc_growing.nd rfl (Or.inl rfl)) (pgs_cons (pg_name (i := 4) sc_growing.nd rfl (Or.inl rfl)) pgs_nil)))
    (pss_one (ps_if (PW.pt (pw_or (pt_cmpR op_eq (pv 6) (pv 3) (nomark _)) (pw_or1 (pt_cmpR op_in_seq (pv 3) (pe_c C2 hr (pa_cons (pv 1) (pa_cons (pv 6) pa_nil))) (by rfl))))) (pss_one (ps_ret (pv 2))) pss_nil)))) pss_nil))))
    (pss_one (ps_ret pe_non)))), ?_⟩
    obtain ⟨z1, z2, z3⟩ := edges_sizes h64 hbl
    refine ⟨_, rfl, p, st, rfl, hst, h64, hbl, fun H1 G s1 hG => ?_⟩
    have hGR := hG.r
    obtain ⟨ra, fa, ua, da, ⟨dx, hi⟩, hrel, hfac, ⟨us, hu, eu, hus⟩, hden⟩ := hst.same s1
    have ek : (us.map fun q => (q.1, q.2.1)).map (·.1) = st.rules.map (·.1) := by rw [← eu, List.map_map, List.map_map]; rfl
    refine ⟨_, rfl, p, _, dx, _, _, rfl, hi, T.cl, T.na "rules", stF_u ra fa ua da, ua, _, st.rules.map (·.1), rfl, .inl hu, by rw [encS_keys, ek], by rw [List.length_map]; exact h64, fun ys l perm srt nl => ?_⟩
    have e := sorted_is perm srt
    subst e
    have sl := same_new (o := .lst ((sortS (st.rules.map (·.1))).map V.str)) nl
    refine ⟨l, rfl, ⟨_, SqL.of_H upd_same⟩, for_W (walks_list (K := K) (a := l) (l := sortS (st.rules.map (·.1))) (f := V.str)) (fun pre σ H' => ∃ v2 v3 v4 v5 v6, σ = [some (.ref p), some (.ref G), v2, v3, v4, v5, v6] ∧ Same (upd H1 l (.lst ((sortS (st.rules.map (·.1))).map V.str))) H' ∧
        ∀ n ∈ pre, ∀ ru, (n, ru) ∈ st.rules → look st.rules n = some ru → makesM ru.body = true → ∀ o b, (o, b) ∈ relsM ru.body → o ≠ ru.rel ∧ ∀ b, (ru.rel, b) ∉ nbrs (edgesM st) o) ⟨none, none, none, none, none, rfl, Same.refl _, fun x hx => by cases hx⟩
      (fun pre σ H' ⟨_, _, _, _, _, _, s, _⟩ => SqL.of_H (s _ _ upd_same)) ?_ ?_⟩
    · rintro pre n post σ H' el ⟨v2, v3, v4, v5, v6, rfl, sm, hpre⟩
      have hm : n ∈ st.rules.map (·.1) := mem_sortS.mp (by rw [el]; simp)
      have s1' := sl.trans sm
      cases hlk : look us n with
      | none =>
        refine absurd hm (look_none.mp ?_)
        rw [← eu, look_map (fun q : Addr × Rule => q.2), hlk]
        rfl
      | some qq =>
        obtain ⟨rp, ru⟩ := qq
        have hlu : look (us.map fun q => (q.1, q.2.1)) n = some rp := by rw [look_map (fun q : Addr × Rule => q.1), hlk]; rfl
        have hlr : look st.rules n = some ru := by rw [← eu, look_map (fun q : Addr × Rule => q.2), hlk]; rfl
        obtain ⟨a, b, h1, h2, h3⟩ := stays_rule.go s1'.t (hus _ (look_mem hlk))
        have h1' : H' rp = some (.tup [.str ru.rel, .ref a, .ref b]) := h1
        have h3' : BodyAt H' b ru.body := h3
        have hb100 : ru.body.length ≤ 100 := hbl (n, ru) (look_mem hlr)
        refine ⟨_, rfl, p, _, dx, _, _, rfl, s1' _ _ hi, T.cl, T.na "rules", stF_u ra fa ua da, _, rfl, ua, _, rfl, dgetS (.inl (s1' _ _ hu)) hlu, rp, _, rfl, SqT.of_H h1', rfl, _, _, rfl, _, _, rfl, _, _, rfl, rfl, ?_⟩
        have snoc : ∀ {H2 : Hp}, (makesM ru.body = true → ∀ o b, (o, b) ∈ relsM ru.body → o ≠ ru.rel ∧ ∀ b, (ru.rel, b) ∉ nbrs (edgesM st) o) → ∀ m ∈ pre ++ [n], ∀ r2, (m, r2) ∈ st.rules → look st.rules m = some r2 → makesM r2.body = true → ∀ o b, (o, b) ∈ relsM r2.body → o ≠ r2.rel ∧ ∀ b, (r2.rel, b) ∉ nbrs (edgesM st) o := fun {H2} hx m hmm r2 hr2 hl2 => by
          rcases List.mem_append.mp hmm with hmm | hmm
          · exact hpre m hmm r2 hr2 hl2
          · rw [List.mem_singleton.mp hmm] at hl2
            rw [hlr] at hl2
            rw [← Option.some.inj hl2]
            exact hx
        refine ⟨_, rfl, b, ru.body, rfl, h3', hro (n, ru) (look_mem hlr), fun H2 s2 => ⟨makesM ru.body, rfl, ?_⟩⟩
        cases hmk : makesM ru.body with
        | false => exact iteF ⟨_, _, _, _, _, rfl, sm.trans s2, snoc (H2 := H2) (fun z => by rw [hmk] at z; cases z)⟩
        | true =>
          refine iteT ⟨_, rfl, b, ru.body, rfl, stays_body.go s2.t h3', hb100, fun H3 B s3 nB hB => ?_⟩
          obtain ⟨zs, hzB, ezs, hzs⟩ := hB
          refine ⟨B, rfl, ⟨_, SqL.of_H hzB⟩, for_W (walks_list (K := K) (a := B) (l := zs) (f := fun q : Addr × (Str × Bool) => V.ref q.1)) (fun pre2 σ H4 => ∃ v4 v6, σ = [some (.ref p), some (.ref G), some (.str n), some (.str ru.rel), v4, some (.ref b), v6] ∧ Same H3 H4 ∧
              ∀ x ∈ pre2, x.2.1 ≠ ru.rel ∧ ∀ b, (ru.rel, b) ∉ nbrs (edgesM st) x.2.1) ⟨_, _, rfl, Same.refl _, fun x hx => by cases hx⟩ (fun pre2 σ H4 ⟨_, _, _, s4, _⟩ => SqL.of_H (s4 _ _ hzB)) ?_ ?_⟩
          · rintro pre2 ⟨pa, on, ob⟩ post2 σ H4 el2 ⟨w4, w6, rfl, s4, hpre2⟩
            have hp2 : H4 pa = some (.tup [.str on, .bl ob]) := s4 _ _ (hzs (pa, on, ob) (by rw [el2]; simp))
            refine ⟨pa, _, rfl, SqT.of_H hp2, rfl, _, _, rfl, _, _, rfl, rfl, ?_⟩
            have s14 : Same H1 H4 := ((s1'.trans s2).trans s3).trans s4
            refine ⟨_, rfl, _, rfl, rfl, decide (on = ru.rel), congrArg V.bl (str_dec on ru.rel), ?_⟩
            by_cases e : on = ru.rel
            · rw [decide_eq_true e]
              exact iteT (iteT ⟨_, rfl, q _ _ (s1.trans s14) (fun z => by cases z) (.inr ⟨n, rfl⟩)⟩)
            · rw [decide_eq_false e]
              refine iteF ⟨_, rfl, _, rfl, _, rfl, G, _, on, rfl, hGR.same s14, z2, z3, fun H5 ql l5 s5 hl5 hin => ?_⟩
              refine ⟨ql, _, rfl, .inl (SqL.of_H hl5), rfl, flat_str _, _, rfl, ?_⟩
              show if (if false = true then !inV (V.str ru.rel) (l5.map V.str) else inV (V.str ru.rel) (l5.map V.str)) = true then _ else _
              rw [if_neg Bool.false_ne_true, inV_str]
              by_cases hinl : ru.rel ∈ l5
              · rw [decide_eq_true hinl]
                exact iteT ⟨_, rfl, q _ _ ((s1.trans s14).trans s5) (fun z => by cases z) (.inr ⟨n, rfl⟩)⟩
              · rw [decide_eq_false hinl]
                refine iteF ⟨_, _, rfl, s4.trans s5, fun x hx => ?_⟩
                rcases List.mem_append.mp hx with hx | hx
                · exact hpre2 x hx
                · rw [List.mem_singleton.mp hx]
                  exact ⟨e, fun b hb => hinl (hin _ hb)⟩
          · rintro σ H4 ⟨w4, w6, rfl, s4, hpre2⟩
            refine ⟨_, _, _, _, _, rfl, ((sm.trans s2).trans s3).trans s4, snoc (H2 := H4) fun _ o b hb => ?_⟩
            rw [← ezs] at hb
            obtain ⟨y, hy, ey⟩ := List.mem_map.mp hb
            have := hpre2 y hy
            rw [ey] at this
            exact this
    · rintro σ H' ⟨v2, v3, v4, v5, v6, rfl, sm, hpre⟩
      refine q H' .non ((s1.trans sl).trans sm) (fun _ => ?_) (.inl rfl)
      intro x hx hmk o b hb x2 hx2 e2 b2 hb2
      have h1 := hpre x.1 (mem_sortS.mpr (List.mem_map_of_mem (f := fun q : Str × Rule => q.1) hx)) x.2 hx (nodup_look hnd hx) hmk o b hb
      have h5 := edges_mem hx2 hb2
      rw [e2] at h5
      exact h1.2 b2 h5
end
end Rs


set_option Elab.async false
set_option linter.all false
set_option maxRecDepth 100000
set_option maxHeartbeats 2000000
/-! # M6: what a copy and a change keep -/
namespace Rs
open PySem PySem.Spec PyProof.Rows L2
def stepU (acc : List (Str × Rule)) : Item → List (Str × Rule)
  | .rule n ru => put acc n ru
  | _ => acc
def stepR (acc : List (Str × Int)) : Item → List (Str × Int)
  | .rel n w => put acc n w
  | _ => acc
def stepD (acc : List (Str × Body)) : Item → List (Str × Body)
  | .den n b => put acc n b
  | _ => acc
theorem putM_rules (s : St) (i : Item) : (putM s i).rules = stepU s.rules i := by
  cases i with
  | fact n r =>
    show (if r ∈ rowsOf s.facts n then s else { s with facts := put s.facts n (rowsOf s.facts n ++ [r]) }).rules = s.rules
    split <;> rfl
  | _ => rfl
theorem putM_rels (s : St) (i : Item) : (putM s i).rels = stepR s.rels i := by
  cases i with
  | fact n r =>
    show (if r ∈ rowsOf s.facts n then s else { s with facts := put s.facts n (rowsOf s.facts n ++ [r]) }).rels = s.rels
    split <;> rfl
  | _ => rfl
theorem putM_dens (s : St) (i : Item) : (putM s i).dens = stepD s.dens i := by
  cases i with
  | fact n r =>
    show (if r ∈ rowsOf s.facts n then s else { s with facts := put s.facts n (rowsOf s.facts n ++ [r]) }).dens = s.dens
    split <;> rfl
  | _ => rfl
theorem fold_rules (l : List Item) : ∀ s : St, (l.foldl putM s).rules = l.foldl stepU s.rules := by
  induction l with
  | nil => intro s; rfl
  | cons i l ih => intro s; rw [List.foldl_cons, ih, putM_rules]; rfl
theorem fold_rels (l : List Item) : ∀ s : St, (l.foldl putM s).rels = l.foldl stepR s.rels := by
  induction l with
  | nil => intro s; rfl
  | cons i l ih => intro s; rw [List.foldl_cons, ih, putM_rels]; rfl
theorem fold_dens (l : List Item) : ∀ s : St, (l.foldl putM s).dens = l.foldl stepD s.dens := by
  induction l with
  | nil => intro s; rfl
  | cons i l ih => intro s; rw [List.foldl_cons, ih, putM_dens]; rfl
theorem fold_skip {α : Type} {f : α → Item → α} {l : List Item} (h : ∀ a, ∀ i ∈ l, f a i = a) (a : α) : l.foldl f a = a := by
  induction l with
  | nil => rfl
  | cons i l ih =>
    rw [List.foldl_cons, h a i (List.mem_cons_self ..)]
    exact ih fun a j hj => h a j (List.mem_cons_of_mem _ hj)
theorem look_puts {β : Type} (f : Str → β) (x : Str) : ∀ (names : List Str) (acc : List (Str × β)), look (names.foldl (fun acc n => put acc n (f n)) acc) x = if x ∈ names then some (f x) else look acc x := by
  intro names
  induction names with
  | nil => intro acc; rfl
  | cons n names ih =>
    intro acc
    rw [List.foldl_cons, ih, look_put]
    by_cases h1 : x ∈ names
    · rw [if_pos h1, if_pos (List.mem_cons_of_mem _ h1)]
    · rw [if_neg h1]
      by_cases h2 : x = n
      · rw [if_pos h2, if_pos (by rw [h2]; exact List.mem_cons_self ..), h2]
      · rw [if_neg h2, if_neg (by
          intro z
          rcases List.mem_cons.mp z with z | z
          · exact h2 z
          · exact h1 z)]
theorem fold_mapR {α : Type} {f : α → Item → α} (g : Str → Item) (h : α → Str → α) (e : ∀ a n, f a (g n) = h a n) : ∀ (names : List Str) (a : α), (names.map g).foldl f a = names.foldl h a := by
  intro names
  induction names with
  | nil => intro a; rfl
  | cons n names ih => intro a; rw [List.map_cons, List.foldl_cons, e, ih]; rfl
theorem look_getD {β : Type} {l : List (Str × β)} {x : Str} (d : β) : (if x ∈ sortS (l.map (·.1)) then some ((look l x).getD d) else none) = look l x := by
  cases e : look l x with
  | none =>
    have := look_none.mp e
    rw [if_neg (by rw [mem_sortS]; exact this)]
  | some v =>
    rw [if_pos (by rw [mem_sortS]; exact List.mem_map_of_mem (f := fun q : Str × β => q.1) (look_mem e))]
    rfl
theorem facts_skip {α : Type} {f : α → Item → α} {st : St} (h : ∀ a n r, f a (.fact n r) = a) (a : α) : ((sortS (st.facts.map (·.1))).flatMap (fun n => (rowsOf st.facts n).map fun r => Item.fact n r)).foldl f a = a := fold_skip (fun a i hi => by
  obtain ⟨n, _, hi⟩ := List.mem_flatMap.mp hi
  obtain ⟨r, _, rfl⟩ := List.mem_map.mp hi
  exact h a n r) a
theorem map_skip {α : Type} {f : α → Item → α} {g : Str → Item} {names : List Str} (h : ∀ a n, f a (g n) = a) (a : α) : (names.map g).foldl f a = a := fold_skip (fun a i hi => by
  obtain ⟨n, _, rfl⟩ := List.mem_map.mp hi
  exact h a n) a
theorem copy_rules (st : St) (x : Str) : look (copyM st).rules x = look st.rules x := by
  have e : (copyM st).rules = (sortS (st.rules.map (·.1))).foldl (fun acc n => put acc n ((look st.rules n).getD ⟨"", [], []⟩)) [] := by
    show ((allItems st).foldl putM emptySt).rules = _
    rw [fold_rules]
    unfold allItems
    rw [List.foldl_append, List.foldl_append, List.foldl_append, map_skip (f := stepU) (g := fun n => .den n ((look st.dens n).getD [])) (fun _ _ => rfl), facts_skip (fun _ _ _ => rfl), map_skip (f := stepU) (g := fun n => .rel n ((look st.rels n).getD 0)) (fun _ _ => rfl)]
    exact fold_mapR _ _ (fun _ _ => rfl) _ _
  rw [e, look_puts]
  exact look_getD _
theorem copy_rels (st : St) (x : Str) : look (copyM st).rels x = look st.rels x := by
  have e : (copyM st).rels = (sortS (st.rels.map (·.1))).foldl (fun acc n => put acc n ((look st.rels n).getD 0)) [] := by
    show ((allItems st).foldl putM emptySt).rels = _
    rw [fold_rels]
    unfold allItems
    rw [List.foldl_append, List.foldl_append, List.foldl_append, map_skip (f := stepR) (g := fun n => .den n ((look st.dens n).getD [])) (fun _ _ => rfl), map_skip (f := stepR) (g := fun n => .rule n ((look st.rules n).getD ⟨"", [], []⟩)) (fun _ _ => rfl), facts_skip (fun _ _ _ => rfl)]
    exact fold_mapR _ _ (fun _ _ => rfl) _ _
  rw [e, look_puts]
  exact look_getD _
theorem copy_dens (st : St) (x : Str) : look (copyM st).dens x = look st.dens x := by
  have e : (copyM st).dens = (sortS (st.dens.map (·.1))).foldl (fun acc n => put acc n ((look st.dens n).getD [])) [] := by
    show ((allItems st).foldl putM emptySt).dens = _
    rw [fold_dens]
    unfold allItems
    rw [List.foldl_append, List.foldl_append, List.foldl_append, map_skip (f := stepD) (g := fun n => .rel n ((look st.rels n).getD 0)) (fun _ _ => rfl), facts_skip (fun _ _ _ => rfl), map_skip (f := stepD) (g := fun n => .rule n ((look st.rules n).getD ⟨"", [], []⟩)) (fun _ _ => rfl)]
    exact fold_mapR _ _ (fun _ _ => rfl) _ _
  rw [e, look_puts]
  exact look_getD _
/-- the same relations, rules and denials, by name -/
structure Same3 (a b : St) : Prop where
  rels : ∀ x, look a.rels x = look b.rels x
  rules : ∀ x, look a.rules x = look b.rules x
  dens : ∀ x, look a.dens x = look b.dens x
theorem Same3.refl (a : St) : Same3 a a := ⟨fun _ => rfl, fun _ => rfl, fun _ => rfl⟩
theorem Same3.trans {a b c : St} (h : Same3 a b) (k : Same3 b c) : Same3 a c := ⟨fun x => (h.rels x).trans (k.rels x), fun x => (h.rules x).trans (k.rules x), fun x => (h.dens x).trans (k.dens x)⟩
theorem Same3.symm {a b : St} (h : Same3 a b) : Same3 b a := ⟨fun x => (h.rels x).symm, fun x => (h.rules x).symm, fun x => (h.dens x).symm⟩
theorem copy_same3 (st : St) : Same3 (copyM st) st := ⟨copy_rels st, copy_rules st, copy_dens st⟩
theorem tidy_same3 (st : St) : Same3 (tidyM st) st := ⟨fun _ => rfl, fun _ => rfl, fun _ => rfl⟩
def isFactC : Chg → Prop
  | .comes (.fact _ _) => True
  | .goes _ _ => True
  | _ => False
theorem chg_same3 {st : St} {c : Chg} (h : isFactC c) : Same3 (chgM st c) st := by
  cases c with
  | goes n r =>
    show Same3 (if r ∈ rowsOf st.facts n then { st with facts := put st.facts n (eraseR r (rowsOf st.facts n)) } else st) st
    split
    · exact ⟨fun _ => rfl, fun _ => rfl, fun _ => rfl⟩
    · exact Same3.refl st
  | comes i =>
    cases i with
    | fact n r =>
      show Same3 (if r ∈ rowsOf st.facts n then st else { st with facts := put st.facts n (rowsOf st.facts n ++ [r]) }) st
      split
      · exact Same3.refl st
      · exact ⟨fun _ => rfl, fun _ => rfl, fun _ => rfl⟩
    | rel n w => exact absurd h (by intro z; exact z)
    | rule n w => exact absurd h (by intro z; exact z)
    | den n w => exact absurd h (by intro z; exact z)
theorem change_same3 {st : St} {l : List Chg} (h : ∀ c ∈ l, isFactC c) : Same3 (changeM st l) st := by
  have key : ∀ (l : List Chg) (s : St), (∀ c ∈ l, isFactC c) → Same3 (l.foldl chgM s) s := by
    intro l
    induction l with
    | nil => intro s _; exact Same3.refl s
    | cons c l ih =>
      intro s h
      exact (ih _ fun x hx => h x (List.mem_cons_of_mem _ hx)).trans (chg_same3 (h c (List.mem_cons_self ..)))
  exact (tidy_same3 _).trans ((key l _ h).trans (copy_same3 st))
theorem look_ext_names {β : Type} {a b : List (Str × β)} (h : ∀ x, look a x = look b x) (x : Str) : x ∈ a.map (·.1) ↔ x ∈ b.map (·.1) := by
  have h1 : x ∉ a.map (·.1) ↔ x ∉ b.map (·.1) := by rw [← look_none, ← look_none, h]
  constructor
  · intro z
    exact Classical.byContradiction fun w => (h1.mpr w) z
  · intro z
    exact Classical.byContradiction fun w => (h1.mp w) z
theorem nodup_perm {α : Type} [DecidableEq α] : ∀ {a b : List α}, a.Nodup → b.Nodup → (∀ x, x ∈ a ↔ x ∈ b) → a.Perm b
  | [], b, _, _, h => by
    cases b with
    | nil => exact List.Perm.refl _
    | cons y b => exact absurd ((h y).mpr (List.mem_cons_self ..)) (by intro z; cases z)
  | x :: a, b, ha, hb, h => by
    rw [List.nodup_cons] at ha
    have hx : x ∈ b := (h x).mp (List.mem_cons_self ..)
    have p1 := List.perm_cons_erase hx
    have hb2 := p1.nodup_iff.mp hb
    rw [List.nodup_cons] at hb2
    refine (List.Perm.cons x (nodup_perm ha.2 hb2.2 fun y => ?_)).trans p1.symm
    by_cases e : y = x
    · rw [e]
      exact ⟨fun z => absurd z ha.1, fun z => absurd z hb2.1⟩
    · rw [List.mem_erase_of_ne e, ← h y]
      constructor
      · intro z
        exact List.mem_cons_of_mem _ z
      · intro z
        rcases List.mem_cons.mp z with z | z
        · exact absurd z e
        · exact z
theorem sort_ext {β : Type} {a b : List (Str × β)} (ha : (a.map (·.1)).Nodup) (hb : (b.map (·.1)).Nodup) (h : ∀ x, look a x = look b x) : sortS (a.map (·.1)) = sortS (b.map (·.1)) := sortS_of_perm (nodup_perm ha hb (look_ext_names h))
theorem colsGo_ext {a b : List (Str × Rule)} (h : ∀ x, look a x = look b x) (r : Str) : ∀ ns, colsGo a r ns = colsGo b r ns
  | [] => rfl
  | n :: ns => by
    unfold colsGo
    rw [h, colsGo_ext h r ns]
theorem cols_ext {a b : St} (ha : GoodS a) (hb : GoodS b) (h : Same3 a b) (r : Str) : colsM a r = colsM b r := by
  unfold colsM
  rw [h.rels, sort_ext ha.ruleN hb.ruleN h.rules, colsGo_ext h.rules]
theorem lit_ext {a b : St} (h : ∀ r, colsM a r = colsM b r) (kn : List Str) (l : Lit) : litChk a kn l = litChk b kn l := by
  have ha : ∀ r ts, atomM a r ts = atomM b r ts := fun r ts => by
    unfold atomM
    rw [h]
  cases l <;> simp only [litChk, ha]
theorem chkGo_ext {a b : St} (h : ∀ r, colsM a r = colsM b r) : ∀ (bd : Body) (kn : List Str), chkGo a bd kn = chkGo b bd kn
  | [], kn => rfl
  | l :: ls, kn => by
    unfold chkGo
    rw [lit_ext h]
    cases litChk b kn l with
    | none => rfl
    | some vs => exact chkGo_ext h ls _
theorem chk_ext {a b : St} (ha : GoodS a) (hb : GoodS b) (h : Same3 a b) (bd : Body) : chkM a bd = chkM b bd := chkGo_ext (cols_ext ha hb h) bd []
theorem mem_rules {st : St} (h : GoodS st) (n : Str) (ru : Rule) : (n, ru) ∈ st.rules ↔ look st.rules n = some ru := ⟨fun hm => nodup_look h.ruleN hm, look_mem⟩
theorem mem_dens {st : St} (h : GoodS st) (n : Str) (b : Body) : (n, b) ∈ st.dens ↔ look st.dens n = some b := ⟨fun hm => nodup_look h.denN hm, look_mem⟩
theorem rules_ext {a b : St} (ha : GoodS a) (hb : GoodS b) (h : ∀ x, look a.rules x = look b.rules x) (q : Str × Rule) : q ∈ a.rules ↔ q ∈ b.rules := by
  obtain ⟨n, ru⟩ := q
  rw [mem_rules ha, mem_rules hb, h]
theorem ring_ext {a b : St} (h : ∀ q, q ∈ a.rules ↔ q ∈ b.rules) (k : NoRing b) : NoRing a := fun q hq o ho q2 hq2 e => k q ((h q).mp hq) o ho q2 ((h q2).mp hq2) e
theorem grow_ext {a b : St} (h : ∀ q, q ∈ a.rules ↔ q ∈ b.rules) (k : NoGrow b) : NoGrow a := fun q hq mk o b ho q2 hq2 e => k q ((h q).mp hq) mk o b ho q2 ((h q2).mp hq2) e
/-- what the law's states keep -/
structure LInv (st : St) : Prop where
  good : GoodS st
  ring : NoRing st
  grow : NoGrow st
  dens : ∀ q ∈ st.dens, ∃ vs, chkM st q.2 = some vs
theorem LInv.same3 {a b : St} (h : LInv b) (ha : GoodS a) (s : Same3 a b) : LInv a := by
  have hr := rules_ext ha h.good s.rules
  refine ⟨ha, ring_ext hr h.ring, grow_ext hr h.grow, fun q hq => ?_⟩
  obtain ⟨n, b'⟩ := q
  rw [chk_ext ha h.good s]
  exact h.dens (n, b') ((mem_dens h.good n b').mpr (by rw [← s.dens]; exact (mem_dens ha n b').mp hq))
theorem LInv.copy {st : St} (h : LInv st) : LInv (copyM st) := h.same3 h.good.copy (copy_same3 st)
theorem LInv.facts {st : St} (h : LInv st) {l : List Chg} (hl : ∀ c ∈ l, GoodC c) (hf : ∀ c ∈ l, isFactC c) : LInv (changeM st l) := h.same3 (h.good.change hl) (change_same3 hf)
theorem dens_nil {a b : St} (h : ∀ x, look a.dens x = look b.dens x) (e : b.dens = []) : a.dens = [] := by
  cases h2 : a.dens with
  | nil => rfl
  | cons q l =>
    have := h q.1
    rw [h2, look_pos rfl, e] at this
    cases this
theorem change_one (st : St) (i : Item) : changeM st [.comes i] = tidyM (putM (copyM st) i) := rfl
theorem LInv.empty : LInv emptySt := ⟨GoodS.empty, fun q hq => (by cases hq), fun q hq => (by cases hq), fun q hq => (by cases hq)⟩
theorem tidy_empty : tidyM emptySt = emptySt := by
  have : tidyNames emptySt = [] := List.eq_nil_of_length_eq_zero (by unfold tidyNames; rw [sortS_len]; rfl)
  unfold tidyM
  rw [this]
  rfl
theorem LInv.rel {st : St} (h : LInv st) (e : st.dens = []) {n : Str} {w : Int} (hi : GoodI (.rel n w)) : LInv (changeM st [.comes (.rel n w)]) ∧ (changeM st [.comes (.rel n w)]).dens = [] := by
  have hg := h.good.change (l := [.comes (.rel n w)]) (fun c hc => by rw [List.mem_singleton.mp hc]; exact hi)
  have ed : (changeM st [.comes (.rel n w)]).dens = [] := dens_nil (copy_dens st) e
  have hr := rules_ext hg h.good (copy_rules st)
  refine ⟨⟨hg, ring_ext hr h.ring, grow_ext hr h.grow, fun q hq => ?_⟩, ed⟩
  rw [ed] at hq
  cases hq
theorem LInv.rule {st : St} (h : LInv st) (e : st.dens = []) {n : Str} {ru : Rule} (hi : GoodI (.rule n ru)) (h1 : NoRing (changeM st [.comes (.rule n ru)])) (h2 : NoGrow (changeM st [.comes (.rule n ru)])) : LInv (changeM st [.comes (.rule n ru)]) ∧ (changeM st [.comes (.rule n ru)]).dens = [] := by
  have hg := h.good.change (l := [.comes (.rule n ru)]) (fun c hc => by rw [List.mem_singleton.mp hc]; exact hi)
  have ed : (changeM st [.comes (.rule n ru)]).dens = [] := dens_nil (copy_dens st) e
  refine ⟨⟨hg, h1, h2, fun q hq => ?_⟩, ed⟩
  rw [ed] at hq
  cases hq
theorem LInv.den {st : St} (h : LInv st) {n : Str} {b : Body} (hi : GoodI (.den n b)) (hb : ∃ vs, chkM st b = some vs) : LInv (changeM st [.comes (.den n b)]) := by
  have hg := h.good.change (l := [.comes (.den n b)]) (fun c hc => by rw [List.mem_singleton.mp hc]; exact hi)
  have hr := rules_ext hg h.good (copy_rules st)
  have hc : ∀ bd, chkM (changeM st [.comes (.den n b)]) bd = chkM st bd := fun bd => by
    refine chkGo_ext (fun r => ?_) bd []
    unfold colsM
    rw [show look (changeM st [.comes (.den n b)]).rels r = look st.rels r from copy_rels st r, sort_ext hg.ruleN h.good.ruleN (copy_rules st), colsGo_ext (a := (changeM st [.comes (.den n b)]).rules) (copy_rules st)]
  refine ⟨hg, ring_ext hr h.ring, grow_ext hr h.grow, fun q hq => ?_⟩
  rw [hc]
  have hq' : q ∈ put (copyM st).dens n b := hq
  rcases put_mem hq' with rfl | hq'
  · exact hb
  · obtain ⟨n', b'⟩ := q
    exact h.dens (n', b') ((mem_dens h.good n' b').mpr (by rw [← copy_dens]; exact (mem_dens h.good.copy n' b').mp hq'))
end Rs


set_option Elab.async false
set_option linter.all false
set_option maxRecDepth 100000
set_option maxHeartbeats 2000000
/-! # S10: check_fact, check_denial, check_rule -/
namespace Rs
open PySem PySem.Spec PyProof.Rows L2
def spCkF (K : PySem.W.Frag) : Sp := fun vs H Q E => ∃ (p pr : Addr) (st : St) (n : Str) (r : Row), vs = [.ref p, .str n, .ref pr] ∧ StAt K H p st ∧ st.rules.length < 64 ∧ RowH H pr r ∧ Refuses K E H ∧ ∀ H', Same H H' → Q .non H'
def spCkD (K : PySem.W.Frag) : Sp := fun vs H Q E => ∃ (p pb : Addr) (st : St) (n : Str) (b : Body), vs = [.ref p, .str n, .ref pb] ∧ StAt K H p st ∧ st.rules.length < 64 ∧ BodyAt H pb b ∧ BodyOk b ∧ Refuses K E H ∧ ∀ H', Same H H' → (∃ vs, chkM st b = some vs) → Q .non H'
def spCkR (K : PySem.W.Frag) : Sp := fun vs H Q E => ∃ (p pt pb : Addr) (st : St) (n : Str) (ru : Rule), vs = [.ref p, .str n, .str ru.rel, .ref pt, .ref pb] ∧ StAt K H p st ∧ GoodS st ∧ GoodI (.rule n ru) ∧ TmsAt H pt ru.ts ∧ BodyAt H pb ru.body ∧ Refuses K E H ∧
  ∀ H', Same H H' → NoRing (changeM st [.comes (.rule n ru)]) → NoGrow (changeM st [.comes (.rule n ru)]) → Q .non H'
theorem refuses_of {K : PySem.W.Frag} {E : XK} {H H' : Hp} (h : Refuses K E H) (s : Same H H') : Refuses K E H' := fun H2 d s2 => h H2 d (s.trans s2)
theorem goodRule {n : Str} {ru : Rule} (h : GoodI (.rule n ru)) : BodyOk ru.body ∧ ru.ts.length ≤ 4 := by
  obtain ⟨_, k, c, hk, hc, e⟩ := h
  obtain ⟨h1, h2, h3⟩ := tmpl_len k hk c hc
  rw [e]
  exact ⟨⟨by omega, fun l hl => by have := h3 l hl; omega⟩, h1⟩
theorem chk_len {st : St} {b : Body} {vs : List Str} (h : chkM st b = some vs) : True := trivial
section
variable {P : Program} {w : World} {K : PySem.W.Frag} {mg : Str → Option Value} {base : Heap}
theorem sc_check_fact : FnScope ["state", "relation", "row", "width"] ["state", "relation", "row"] (defScope (topS 59)) := ⟨rfl, rfl, rfl, by decide +kernel, rfl, by decide +kernel, by decide +kernel⟩
theorem ok_check_fact (T : Tx P K mg) : Cal P w K mg base (L2.CX P w) 2 "check_fact" (spCkF K) := by
  have C1 := ok_columns (w := w) (base := base) T
  refine cal_of T 39 59 rfl (by decide +kernel) sc_check_fact (fun vs H Q E h => ?_) (fun _ _ _ _ _ _ us hl => match us, hl with | [_, _, _], _ => rfl) (fun cdv A outer s H vs Q E hr h => ?_)
  · obtain ⟨p, pr, st, n, r, rfl, _⟩ := h
    rfl
  · obtain ⟨p, pr, st, n, r, rfl, hst, h64, hrw, qe, qn⟩ := h
    refine ⟨_, (pss_cons (ps_set (i := 3) sc_check_fact.nd rfl (Or.inl rfl) (pe_c C1 hr (pa_cons (pv 0) (pa_cons (pv 1) pa_nil))))
    (pss_cons (ps_if (PW.pt (pw_and (pt_cmpR op_notN (pv 3) pe_non (nomark _)) (pw_and1 (pt_cmp (pc_dnotin (hu_of hr) (pv 1) (pe_fld (pv 0) rfl)))))) (pss_one (ps_raiseR rfl T.rf hr (takes_of rfl rfl rfl rfl) (by exact (pa_cons (pe_tup (pa_cons pe_str (pa_cons (pv 1) pa_nil))) pa_nil)))) pss_nil)
    (pss_cons (ps_if (pt_cmpR op_isN (pv 3) pe_non (nomark _)) (pss_one (ps_raiseR rfl T.rf hr (takes_of rfl rfl rfl rfl) (by exact (pa_cons (pe_tup (pa_cons pe_str (pa_cons (pv 1) pa_nil))) pa_nil)))) pss_nil)
    (pss_one (ps_if (pt_cmpR op_ne (pv 3) (pe_callB call_len (by rfl) (T.fr "len") PySem.boot_len (pa_cons (pv 2) pa_nil)) (nomark _)) (pss_one (ps_raiseR rfl T.rf hr (takes_of rfl rfl rfl rfl) (by exact (pa_cons (pe_tup (pa_cons pe_str (pa_cons (pv 1) pa_nil))) pa_nil)))) pss_nil))))), ?_⟩
    refine ⟨_, rfl, _, rfl, p, st, n, rfl, hst, h64, fun H1 s1 => ?_⟩
    obtain ⟨ra, fa, ua, da, ⟨dx, hi⟩, hrel, hfac, hrul, hden⟩ := hst.same s1
    have rs : ∀ t d, H1 t = none → ∀ o, upd H1 t o d = none → ∀ o2, E (.ref (He.ga K "Refused")) (some d) (upd (upd H1 t o) d o2) := fun t d nt o nd o2 => qe _ d (s1.trans ((same_new nt).trans (same_new nd)))
    cases hc : colsM st n with
    | none =>
      refine ⟨_, rfl, rfl, false, rfl, ?_⟩
      refine iteF (iteF ⟨_, rfl, rfl, true, rfl, ?_⟩)
      exact iteT ⟨_, rfl, by show 2 ≤ sizeLine; decide, fun t nt => ⟨_, rfl, fun d hd => rs t d nt _ hd _⟩⟩
    | some i =>
      refine ⟨_, rfl, rfl, true, rfl, ?_⟩
      refine iteT ⟨_, rfl, _, rfl, p, _, dx, _, _, rfl, hi, T.cl, T.na "relations", stF_r ra fa ua da, ra, _, rfl, dgetS' n (.inl hrel), _, rfl, ?_⟩
      cases hb : !((look st.rels n).map V.int).isSome with
      | true => exact iteT ⟨_, rfl, by show 2 ≤ sizeLine; decide, fun t nt => ⟨_, rfl, fun d hd => rs t d nt _ hd _⟩⟩
      | false =>
        refine iteF ⟨_, rfl, rfl, false, rfl, ?_⟩
        refine iteF ⟨_, rfl, _, rfl, _, _, rfl, .inr ⟨_, SqT.of_H (s1 _ _ hrw), rfl⟩, rfl, _, rfl, ?_⟩
        cases hz : !decide (oI (some i) = V.int (((r.map kV).length : Nat) : Int)) with
        | false => exact iteF (qn H1 s1)
        | true => exact iteT ⟨_, rfl, by show 2 ≤ sizeLine; decide, fun t nt => ⟨_, rfl, fun d hd => rs t d nt _ hd _⟩⟩
theorem sc_check_denial : FnScope ["state", "name", "body"] ["state", "name", "body"] (defScope (topS 32)) := ⟨rfl, rfl, rfl, by decide +kernel, rfl, by decide +kernel, by decide +kernel⟩
theorem ok_check_denial (T : Tx P K mg) : Cal P w K mg base (L2.CX P w) 5 "check_denial" (spCkD K) := by
  have C1 := ok_check_body (w := w) (base := base) T
  refine cal_of T 25 32 rfl (by decide +kernel) sc_check_denial (fun vs H Q E h => ?_) (fun _ _ _ _ _ _ us hl => match us, hl with | [_, _, _], _ => rfl) (fun cdv A outer s H vs Q E hr h => ?_)
  · obtain ⟨p, pb, st, n, b, rfl, _⟩ := h
    rfl
  · obtain ⟨p, pb, st, n, b, rfl, hst, h64, hb, hbo, qe, qn⟩ := h
    refine ⟨_, (pss_cons (ps_if (pt_cmp (pc_din (hu_of hr) (pv 1) (pe_fld (pv 0) rfl))) (pss_one (ps_raiseR rfl T.rf hr (takes_of rfl rfl rfl rfl) (by exact (pa_cons (pe_tup (pa_cons pe_str (pa_cons pe_str (pa_cons (pv 1) pa_nil)))) pa_nil)))) pss_nil)
    (pss_one (ps_expr (pe_cS C1 hr (takes_of rfl rfl rfl rfl) (pa_cons (pv 0) (pa_cons (pv 2) pa_nil)))))), ?_⟩
    obtain ⟨ra, fa, ua, da, ⟨dx, hi⟩, hrel, hfac, hrul, ⟨ds, hd, ed, hds⟩⟩ := id hst
    refine ⟨_, rfl, _, rfl, p, _, dx, _, _, rfl, hi, T.cl, T.na "denials", stF_d ra fa ua da, da, _, rfl, dgetS' n (.inl hd), _, rfl, ?_⟩
    cases hz : ((look (ds.map fun q => (q.1, q.2.1)) n).map V.ref).isSome with
    | true => exact iteT ⟨_, rfl, by show 3 ≤ sizeLine; decide, fun t nt => ⟨_, rfl, fun d hd => qe _ d ((same_new nt).trans (same_new hd))⟩⟩
    | false =>
      refine iteF ⟨_, rfl, _, rfl, p, pb, st, b, rfl, hst, h64, hb, hbo, fun _ => qe, fun l' hl H1 q1 s1 _ => ?_⟩
      exact qn H1 s1 ⟨l', hl⟩
end
end Rs


set_option Elab.async false
set_option linter.all false
set_option maxRecDepth 100000
set_option maxHeartbeats 2000000
/-! # S11: check_rule -/
namespace Rs
open PySem PySem.Spec PyProof.Rows L2
theorem iteB {b : Bool} {P Q : Prop} (h1 : b = true → P) (h2 : b = false → Q) : if b = true then P else Q := by
  cases b with
  | true => exact iteT (h1 rfl)
  | false => exact iteF (h2 rfl)
theorem cut' {X Y : Prop} (f : X → Y) (x : X) : Y := f x
/-- a list of one change that comes -/
theorem one_chg {H : Hp} {T1 T2 L : Addr} {i : Item} {vs : List V} (n1 : H T1 = none) (hi : ItemAt (upd H T1 (.tup vs)) T1 i) (n2 : upd H T1 (.tup vs) T2 = none) (nL : upd (upd H T1 (.tup vs)) T2 (.tup [.str "comes", .ref T1]) L = none) :
    LstOf ChgAt (upd (upd (upd H T1 (.tup vs)) T2 (.tup [.str "comes", .ref T1])) L (.lst [.ref T2])) L [.comes i] ∧ Same H (upd (upd (upd H T1 (.tup vs)) T2 (.tup [.str "comes", .ref T1])) L (.lst [.ref T2])) := by
  have s1 := same_new (o := .tup vs) n1
  have s2 := same_new (o := .tup [V.str "comes", V.ref T1]) n2
  have s3 := same_new (o := .lst [V.ref T2]) nL
  refine ⟨⟨[(T2, .comes i)], upd_same, rfl, fun q hq => ?_⟩, (s1.trans s2).trans s3⟩
  rw [List.mem_singleton.mp hq]
  exact ⟨T1, s3 _ _ upd_same, stays_item.go (s2.trans s3).t hi⟩
section
variable {P : Program} {w : World} {K : PySem.W.Frag} {mg : Str → Option Value} {base : Heap}
theorem sc_check_rule : FnScope ["state", "name", "relation", "terms", "body", "width", "after", "first"] ["state", "name", "relation", "terms", "body"] (defScope (topS 31)) := ⟨rfl, rfl, rfl, by decide +kernel, rfl, by decide +kernel, by decide +kernel⟩
theorem ok_check_rule (T : Tx P K mg) : Cal P w K mg base (L2.CX P w) 10 "check_rule" (spCkR K) := by
  have C1 := ok_columns (w := w) (base := base) T
  have C2 := ok_change (w := w) (base := base) T
  have C3 := ok_check_body (w := w) (base := base) T
  have C4 := ok_check_terms (w := w) (base := base) T
  have C5 := ok_has_ring (w := w) (base := base) T
  have C6 := ok_growing (w := w) (base := base) T
  obtain ⟨tk, hmc⟩ := T.mc
  refine cal_of T 24 31 rfl (by decide +kernel) sc_check_rule (fun vs H Q E h => ?_) (fun _ _ _ _ _ _ us hl => match us, hl with | [_, _, _, _, _], _ => rfl) (fun cdv A outer s H vs Q E hr h => ?_)
  · obtain ⟨p, pt, pb, st, n, ru, rfl, _⟩ := h
    rfl
  · obtain ⟨p, pt, pb, st, n, ru, rfl, hst, hg, hgi, hts, hb, qe, qn⟩ := h
    obtain ⟨hbo, lts⟩ := goodRule hgi
    have h64 := hg.small.rules
    refine ⟨_, (pss_cons (ps_if (pt_cmp (pc_din (hu_of hr) (pv 1) (pe_fld (pv 0) rfl))) (pss_one (ps_raiseR rfl T.rf hr (takes_of rfl rfl rfl rfl) (by exact (pa_cons (pe_tup (pa_cons pe_str (pa_cons pe_str (pa_cons (pv 1) pa_nil)))) pa_nil)))) pss_nil)
    (pss_cons (ps_if (pt_cmp (pc_din (hu_of hr) (pv 2) (pe_fld (pv 0) rfl))) (pss_one (ps_raiseR rfl T.rf hr (takes_of rfl rfl rfl rfl) (by exact (pa_cons (pe_tup (pa_cons pe_str (pa_cons (pv 2) pa_nil))) pa_nil)))) pss_nil)
    (pss_cons (ps_set (i := 5) sc_check_rule.nd rfl (Or.inl rfl) (pe_c C1 hr (pa_cons (pv 0) (pa_cons (pv 2) pa_nil))))
    (pss_cons (ps_if (PW.pt (pw_or (PW.pt (pw_and (pt_cmpR op_notN (pv 5) pe_non (nomark _)) (pw_and1 (pt_cmpR op_ne (pv 5) (pe_callB call_len (by rfl) (T.fr "len") PySem.boot_len (pa_cons (pv 3) pa_nil)) (nomark _))))) (pw_or1 (pt_not (pt_chain op_le op_le pe_int (pe_callB call_len (by rfl) (T.fr "len") PySem.boot_len (pa_cons (pv 3) pa_nil)) (pe_glob (v := .int 4) (by rfl) hmc ⟨_, rfl⟩)))))) (pss_one (ps_raiseR rfl T.rf hr (takes_of rfl rfl rfl rfl) (by exact (pa_cons (pe_tup (pa_cons pe_str (pa_cons (pv 2) pa_nil))) pa_nil)))) pss_nil)
    (pss_cons (ps_set (i := 6) sc_check_rule.nd rfl (Or.inl rfl) (pe_mt T C2 hr (pv 0) (pa_cons (pe_lst (pa_cons (pe_tup (pa_cons pe_str (pa_cons (pe_tup (pa_cons pe_str (pa_cons (pv 1) (pa_cons (pv 2) (pa_cons (pv 3) (pa_cons (pv 4) pa_nil)))))) pa_nil))) pa_nil)) pa_nil)))
    (pss_cons (ps_expr (pe_cS C4 hr (takes_of rfl rfl rfl rfl) (pa_cons (pv 3) (pa_cons (pe_cS C3 hr (takes_of rfl rfl rfl rfl) (pa_cons (pv 6) (pa_cons (pv 4) pa_nil))) (pa_cons pe_bl pa_nil)))))
    (pss_cons (ps_if (pt_val (pe_c C5 hr (pa_cons (pv 6) pa_nil))) (pss_one (ps_raiseR rfl T.rf hr (takes_of rfl rfl rfl rfl) (by exact (pa_cons (pe_tup (pa_cons pe_str pa_nil)) pa_nil)))) pss_nil)
    (pss_cons (ps_set (i := 7) sc_check_rule.nd rfl (Or.inl rfl) (pe_c C6 hr (pa_cons (pv 6) pa_nil)))
    (pss_one (ps_if (pt_cmpR op_notN (pv 7) pe_non (nomark _)) (pss_one (ps_raiseR rfl T.rf hr (takes_of rfl rfl rfl rfl) (by exact (pa_cons (pe_tup (pa_cons pe_str (pa_cons (pv 7) pa_nil))) pa_nil)))) pss_nil)))))))))), ?_⟩
    obtain ⟨ra, fa, ua, da, ⟨dx, hi⟩, hrel, hfac, ⟨us, hu, eu, hus⟩, hden⟩ := id hst
    have rs : ∀ H1, Same H H1 → ∀ t d, H1 t = none → ∀ o, upd H1 t o d = none → ∀ o2, E (.ref (He.ga K "Refused")) (some d) (upd (upd H1 t o) d o2) := fun H1 s1 t d nt o nd o2 => qe _ d (s1.trans ((same_new nt).trans (same_new nd)))
    refine ⟨_, rfl, _, rfl, p, _, dx, _, _, rfl, hi, T.cl, T.na "rules", stF_u ra fa ua da, ua, _, rfl, dgetS' n (.inl hu), _, rfl, ?_⟩
    refine iteB (fun _ => ⟨_, rfl, by show 3 ≤ sizeLine; decide, fun t nt => ⟨_, rfl, fun d hd => rs _ (Same.refl H) t d nt _ hd _⟩⟩) (fun _ => ?_)
    refine ⟨_, rfl, _, rfl, p, _, dx, _, _, rfl, hi, T.cl, T.na "relations", stF_r ra fa ua da, ra, _, rfl, dgetS' ru.rel (.inl hrel), _, rfl, ?_⟩
    refine iteB (fun _ => ⟨_, rfl, by show 2 ≤ sizeLine; decide, fun t nt => ⟨_, rfl, fun d hd => rs _ (Same.refl H) t d nt _ hd _⟩⟩) (fun _ => ?_)
    refine ⟨_, rfl, _, rfl, p, st, ru.rel, rfl, hst, h64, fun H1 s1 => ?_⟩
    obtain ⟨tps, htp, etp, htps⟩ := id hts
    have htp1 := s1 _ _ htp
    have scl : ∀ j : Int, scal (oI (colsM st ru.rel)) (.int j) = true := fun j => by cases colsM st ru.rel <;> rfl
    refine cut' (fun hc => ⟨_, rfl, (by cases colsM st ru.rel <;> rfl), _, rfl, iteB (fun _ => ⟨_, rfl, _, rfl, _, _, rfl, .inr ⟨_, SqT.of_H htp1, rfl⟩, scl _, _, rfl, iteB (fun _ => iteT ⟨_, rfl, by show 2 ≤ sizeLine; decide, fun t nt => ⟨_, rfl, fun d hd => rs _ s1 t d nt _ hd _⟩⟩) (fun _ => hc)⟩) (fun _ => iteF hc)⟩) ?_
    refine ⟨_, rfl, _, _, rfl, .inr ⟨_, SqT.of_H htp1, rfl⟩, _, _, rfl, rfl, _, rfl, iteB (fun _ => ⟨_, _, rfl, rfl, _, rfl, iteB (fun _ => ⟨_, rfl, by show 2 ≤ sizeLine; decide, fun t nt => ⟨_, rfl, fun d hd => rs _ s1 t d nt _ hd _⟩⟩) (fun _ => ?_)⟩) (fun _ => ⟨_, rfl, iteT ⟨_, rfl, by show 2 ≤ sizeLine; decide, fun t nt => ⟨_, rfl, fun d hd => rs _ s1 t d nt _ hd _⟩⟩⟩)⟩
    have hts1 : TmsAt H1 pt ru.ts := stays_tms.go s1.t hts
    have hb1 : BodyAt H1 pb ru.body := stays_body.go s1.t hb
    refine ⟨_, rfl, p, dx, _, rfl, s1 _ _ hi, rfl, _, rfl, _, rfl, _, rfl, _, rfl, by show 5 ≤ sizeLine; decide, fun T1 n1 => ⟨by show 2 ≤ sizeLine; decide, fun T2 n2 => ⟨by show 1 ≤ sizeLine; decide, fun L nL => ?_⟩⟩⟩
    have sT1 := same_new (o := .tup [V.str "rule", V.str n, V.str ru.rel, V.ref pt, V.ref pb]) n1
    obtain ⟨hL, sL⟩ := one_chg (i := .rule n ru) n1 ⟨pt, pb, upd_same, stays_tms.go sT1.t hts1, stays_body.go sT1.t hb1⟩ n2 nL
    have hgc : ∀ x ∈ [Chg.comes (.rule n ru)], GoodC x := fun x hx => by rw [List.mem_singleton.mp hx]; exact hgi
    have hgA := hg.change hgc
    refine ⟨p, L, st, [.comes (.rule n ru)], rfl, (hst.same s1).same sL, hg, hL, hgc, by show 1 ≤ 1000000; decide, fun H2 q6 hq => ?_⟩
    have s2 : Same H H2 := (s1.trans sL).trans hq.same0
    have hA := hq.at
    refine ⟨_, rfl, _, rfl, _, rfl, q6, pb, _, ru.body, rfl, hA, hgA.small.rules, stays_body.go s2.t hb, hbo, fun _ => refuses_of qe s2, fun l' hl H3 qt s3 ht => ?_⟩
    have s23 := s2.trans s3
    refine ⟨pt, qt, ru.ts, l', false, rfl, stays_tms.go s23.t hts, .inr ht, fun _ => refuses_of qe s23, fun _ H4 s4 => ?_⟩
    have s34 := s23.trans s4
    have hA4 := (hA.same s3).same s4
    refine ⟨_, rfl, q6, _, rfl, hA4, hgA.small.rules, fun x hx => (hgA.rulesOk x hx).1, fun H5 b s5 hring => ⟨b, rfl, iteB (fun _ => ?_) (fun eb => ?_)⟩⟩
    · exact ⟨by show 1 ≤ sizeLine; decide, fun t nt => ⟨_, rfl, fun d hd => rs _ (s34.trans s5) t d nt _ hd _⟩⟩
    · refine ⟨_, rfl, q6, _, rfl, hA4.same s5, hgA.small.rules, hgA.rulesOk, hgA.ruleN, fun H6 v s6 hv hv2 => ?_⟩
      have s56 := (s34.trans s5).trans s6
      rcases hv2 with hv2 | ⟨nm, hv2⟩
      · rw [hv2]
        refine ⟨_, rfl, rfl, false, rfl, ?_⟩
        exact iteF (qn H6 s56 (hring eb) (hv hv2))
      · rw [hv2]
        refine ⟨_, rfl, rfl, true, rfl, ?_⟩
        exact iteT ⟨_, rfl, by show 2 ≤ sizeLine; decide, fun t nt => ⟨_, rfl, fun d hd => rs _ s56 t d nt _ hd _⟩⟩
end
end Rs


set_option Elab.async false
set_option linter.all false
set_option maxRecDepth 100000
set_option maxHeartbeats 2000000
/-! # S12: what is said -/
namespace Rs
open PySem PySem.Spec PyProof.Rows L2
inductive Sm where
  | rel (n : Str) (w : Int)
  | add (n : Str) (r : Row)
  | rule (n : Str) (ru : Rule)
  | deny (n : Str) (b : Body)
def SmAt (H : Hp) (q : Addr) : Sm → Prop
  | .rel n w => H q = some (.tup [.str "relation", .str n, .int w])
  | .add n r => ∃ a, H q = some (.tup [.str "add", .str n, .ref a]) ∧ RowH H a r
  | .rule n ru => ∃ a b, H q = some (.tup [.str "rule", .str n, .str ru.rel, .ref a, .ref b]) ∧ TmsAt H a ru.ts ∧ BodyAt H b ru.body
  | .deny n b => ∃ a, H q = some (.tup [.str "deny", .str n, .ref a]) ∧ BodyAt H a b
theorem stays_sm : Stays SmAt := by
  refine ⟨fun {H H' p x} s h => ?_⟩
  cases x with
  | rel n w => exact s _ _ h
  | add n r =>
    obtain ⟨a, h1, h2⟩ := h
    exact ⟨a, s _ _ h1, s _ _ h2⟩
  | rule n ru =>
    obtain ⟨a, b, h1, h2, h3⟩ := h
    exact ⟨a, b, s _ _ h1, stays_tms.go s h2, stays_body.go s h3⟩
  | deny n b =>
    obtain ⟨a, h1, h2⟩ := h
    exact ⟨a, s _ _ h1, stays_body.go s h2⟩
def isDeny : Sm → Bool
  | .deny _ _ => true
  | _ => false
def GoodSm : Sm → Prop
  | .rel n w => GoodI (.rel n w)
  | .add n r => GoodI (.fact n r)
  | .rule n ru => GoodI (.rule n ru)
  | .deny n b => GoodI (.den n b)
def isRel : Sm → Bool
  | .rel _ _ => true
  | _ => false
/-- a relation of the base is there -/
def HasRel (st : St) : Prop := ∃ x, (look st.rels x).isSome = true
theorem HasRel.of {a b : St} (h : ∀ x, look a.rels x = look b.rels x) (k : HasRel b) : HasRel a := by
  obtain ⟨x, hx⟩ := k
  exact ⟨x, by rw [h]; exact hx⟩
theorem tmpl_rel : ∀ k, k < 16 → ∀ c, c < 5 → (tmpl k c).rel ≠ "p" ∧ (tmpl k c).rel ≠ "q" := by decide +kernel
theorem cols_rel {st : St} (h : GoodS st) {n : Str} (hn : n = "p" ∨ n = "q") (e : colsM st n ≠ none) : HasRel st := by
  cases hl : look st.rels n with
  | some w => exact ⟨n, by rw [hl]; rfl⟩
  | none =>
    have key : ∀ ns, colsGo st.rules n ns = none := by
      intro ns
      induction ns with
      | nil => rfl
      | cons m ns ih =>
        unfold colsGo
        cases hm : look st.rules m with
        | none => exact ih
        | some ru =>
          obtain ⟨_, k, c, hk, hc, e2⟩ := h.rules _ (look_mem hm)
          have h3 := tmpl_rel k hk c hc
          have e3 : ru = tmpl k c := e2
          rw [← e3] at h3
          have : ru.rel ≠ n := fun z => by
            rcases hn with rfl | rfl
            · exact h3.1 z
            · exact h3.2 z
          dsimp only
          rw [if_neg this]
          exact ih
    unfold colsM at e
    rw [hl] at e
    exact absurd (key _) e
def Stage (d : Bool) (st : St) : Prop := LInv st ∧ (d = false → st.dens = [])
def spSay (K : PySem.W.Frag) (kind : Sm → Prop) : Sp := fun vs H Q E => ∃ (p q : Addr) (st : St) (sm : Sm), vs = [.ref p, .ref q] ∧ StAt K H p st ∧ Stage (isDeny sm) st ∧ SmAt H q sm ∧ GoodSm sm ∧ kind sm ∧ ((isRel sm = true → HasRel st) → Refuses K E H) ∧
  ∀ (H' : Hp) (t : Addr) (ans : V) (q' : Addr) (st' : St), Same H H' → H' t = some (.tup [ans, .ref q']) → StAt K H' q' st' → Stage (isDeny sm) st' → (HasRel st ∨ isRel sm = true → HasRel st') → Q (.ref t) H'
section
variable {P : Program} {w : World} {K : PySem.W.Frag} {mg : Str → Option Value} {base : Heap}
theorem sc_say_relation : FnScope ["state", "statement", "_", "name", "width"] ["state", "statement"] (defScope (topS 60)) := ⟨rfl, rfl, rfl, by decide +kernel, rfl, by decide +kernel, by decide +kernel⟩
theorem ok_say_relation (T : Tx P K mg) : Cal P w K mg base (L2.CX P w) 11 "say_relation" (spSay K fun sm => ∃ n w, sm = .rel n w) := by
  have C1 := ok_columns (w := w) (base := base) T
  have C2 := ok_change (w := w) (base := base) T
  obtain ⟨tk, hmc⟩ := T.ms
  refine cal_of T 40 60 rfl (by decide +kernel) sc_say_relation (fun vs H Q E h => ?_) (fun _ _ _ _ _ _ us hl => match us, hl with | [_, _], _ => rfl) (fun cdv A outer s H vs Q E hr h => ?_)
  · obtain ⟨p, q, st, sm, rfl, _⟩ := h
    rfl
  · obtain ⟨p, q0, st, sm, rfl, hst, ⟨hl, hd⟩, hsm, hgs, ⟨n, wd, rfl⟩, qe, q⟩ := h
    have hg := hl.good
    refine ⟨_, (pss_cons (ps_asg (pv 1) (pg_tup rfl (pgs_cons (pg_name (i := 2) sc_say_relation.nd rfl (Or.inl rfl)) (pgs_cons (pg_name (i := 3) sc_say_relation.nd rfl (Or.inl rfl)) (pgs_cons (pg_name (i := 4) sc_say_relation.nd rfl (Or.inl rfl)) pgs_nil)))))
    (pss_cons (ps_if (pt_cmpR op_notN (pe_c C1 hr (pa_cons (pv 0) (pa_cons (pv 3) pa_nil))) pe_non (nomark _)) (pss_one (ps_raiseR rfl T.rf hr (takes_of rfl rfl rfl rfl) (by exact (pa_cons (pe_tup (pa_cons pe_str (pa_cons pe_str (pa_cons (pv 3) pa_nil)))) pa_nil)))) pss_nil)
    (pss_cons (ps_if (pt_not (pt_chain op_le op_le pe_int (pv 4) (pe_glob (v := .int 4) (by rfl) hmc ⟨_, rfl⟩))) (pss_one (ps_raiseR rfl T.rf hr (takes_of rfl rfl rfl rfl) (by exact (pa_cons (pe_tup (pa_cons pe_str pa_nil)) pa_nil)))) pss_nil)
    (pss_one (ps_ret (pe_tup (pa_cons pe_non (pa_cons (pe_mt T C2 hr (pv 0) (pa_cons (pe_lst (pa_cons (pe_tup (pa_cons pe_str (pa_cons (pe_tup (pa_cons pe_str (pa_cons (pv 3) (pa_cons (pv 4) pa_nil)))) pa_nil))) pa_nil)) pa_nil)) pa_nil)))))))), ?_⟩
    have rs : HasRel st → ∀ H1, Same H H1 → ∀ t d, H1 t = none → ∀ o, upd H1 t o d = none → ∀ o2, E (.ref (He.ga K "Refused")) (some d) (upd (upd H1 t o) d o2) := fun hh H1 s1 t d nt o nd o2 => qe (fun _ => hh) _ d (s1.trans ((same_new nt).trans (same_new nd)))
    have hpq : n = "p" ∨ n = "q" := by
      rcases hgs with z | z
      · exact .inl z.1
      · exact .inr z.1
    have hw : wd = 2 ∨ wd = 1 := by
      rcases hgs with z | z
      · exact .inl z.2
      · exact .inr z.2
    have hq0 : H q0 = some (.tup [.str "relation", .str n, .int wd]) := hsm
    refine ⟨_, rfl, q0, _, rfl, SqT.of_H hq0, rfl, _, _, rfl, _, _, rfl, _, _, rfl, rfl, ?_⟩
    refine ⟨_, rfl, _, rfl, p, st, n, rfl, hst, hg.small.rules, fun H1 s1 => ?_⟩
    refine ⟨(by cases colsM st n <;> rfl), _, rfl, iteB (fun cc => ⟨_, rfl, by show 3 ≤ sizeLine; decide, fun t nt => ⟨_, rfl, fun d hd => rs (cols_rel hg hpq (fun z => by rw [z] at cc; revert cc; decide)) _ s1 t d nt _ hd _⟩⟩) (fun _ => ?_)⟩
    refine ⟨_, rfl, _, _, rfl, rfl, _, rfl, iteB (fun _ => ⟨_, _, rfl, rfl, _, rfl, iteB (fun c2 => False.elim (by rcases hw with rfl | rfl <;> revert c2 <;> decide)) (fun _ => ?_)⟩) (fun c1 => False.elim (by rcases hw with rfl | rfl <;> revert c1 <;> decide))⟩
    obtain ⟨ra, fa, ua, da, ⟨dx, hi⟩, _⟩ := hst.same s1
    refine ⟨_, rfl, p, dx, _, rfl, hi, rfl, _, rfl, _, rfl, by show 3 ≤ sizeLine; decide, fun T1 n1 => ⟨by show 2 ≤ sizeLine; decide, fun T2 n2 => ⟨by show 1 ≤ sizeLine; decide, fun L nL => ?_⟩⟩⟩
    obtain ⟨hL, sL⟩ := one_chg (i := .rel n wd) n1 upd_same n2 nL
    have hgc : ∀ x ∈ [Chg.comes (.rel n wd)], GoodC x := fun x hx => by rw [List.mem_singleton.mp hx]; exact hgs
    refine ⟨p, L, st, [.comes (.rel n wd)], rfl, (hst.same s1).same sL, hg, hL, hgc, by show 1 ≤ 1000000; decide, fun H2 q6 hq => ⟨by show 2 ≤ sizeLine; decide, fun t nt => ?_⟩⟩
    obtain ⟨i1, i2⟩ := hl.rel (hd rfl) hgs
    exact q _ t .non q6 _ (((s1.trans sL).trans hq.same0).trans (same_new nt)) upd_same (hq.at.same (same_new nt)) ⟨i1, fun _ => i2⟩ fun _ => ⟨n, by show (look (put (copyM st).rels n wd) n).isSome = true; rw [look_put, if_pos rfl]; rfl⟩
theorem sc_say_fact : FnScope ["state", "statement", "word", "name", "row", "is_there"] ["state", "statement"] (defScope (topS 62)) := ⟨rfl, rfl, rfl, by decide +kernel, rfl, by decide +kernel, by decide +kernel⟩
theorem ok_say_fact (T : Tx P K mg) : Cal P w K mg base (L2.CX P w) 11 "say_fact" (spSay K fun sm => ∃ n r, sm = .add n r) := by
  have C1 := ok_check_fact (w := w) (base := base) T
  have C2 := ok_change (w := w) (base := base) T
  have C3 := ok_has (w := w) (base := base) T
  have C4 := ok_copy (w := w) (base := base) T
  refine cal_of T 41 62 rfl (by decide +kernel) sc_say_fact (fun vs H Q E h => ?_) (fun _ _ _ _ _ _ us hl => match us, hl with | [_, _], _ => rfl) (fun cdv A outer s H vs Q E hr h => ?_)
  · obtain ⟨p, q, st, sm, rfl, _⟩ := h
    rfl
  · obtain ⟨p, q0, st, sm, rfl, hst, ⟨hl, hd⟩, hsm, hgs, ⟨n, rw0, rfl⟩, qe, q⟩ := h
    have hg := hl.good
    refine ⟨_, (pss_cons (ps_asg (pv 1) (pg_tup rfl (pgs_cons (pg_name (i := 2) sc_say_fact.nd rfl (Or.inl rfl)) (pgs_cons (pg_name (i := 3) sc_say_fact.nd rfl (Or.inl rfl)) (pgs_cons (pg_name (i := 4) sc_say_fact.nd rfl (Or.inl rfl)) pgs_nil)))))
    (pss_cons (ps_expr (pe_cS C1 hr (takes_of rfl rfl rfl rfl) (pa_cons (pv 0) (pa_cons (pv 3) (pa_cons (pv 4) pa_nil)))))
    (pss_cons (ps_set (i := 5) sc_say_fact.nd rfl (Or.inl rfl) (pe_mt T C3 hr (pv 0) (pa_cons (pv 3) (pa_cons (pv 4) pa_nil))))
    (pss_cons (ps_if (pt_cmpR op_eq (pe_cmpR op_eq (pv 2) pe_str (nomark _)) (pv 5) (nomark _)) (pss_one (ps_ret (pe_tup (pa_cons pe_bl (pa_cons (pe_mt0 T C4 hr (pv 0)) pa_nil))))) pss_nil)
    (pss_cons (ps_if (pt_cmpR op_eq (pv 2) pe_str (nomark _)) (pss_one (ps_ret (pe_tup (pa_cons pe_bl (pa_cons (pe_mt T C2 hr (pv 0) (pa_cons (pe_lst (pa_cons (pe_tup (pa_cons pe_str (pa_cons (pe_tup (pa_cons pe_str (pa_cons (pv 3) (pa_cons (pv 4) pa_nil)))) pa_nil))) pa_nil)) pa_nil)) pa_nil))))) pss_nil)
    (pss_one ps_never)))))), ?_⟩
    obtain ⟨ra0, hq0, hra⟩ := hsm
    refine ⟨_, rfl, q0, _, rfl, SqT.of_H hq0, rfl, _, _, rfl, _, _, rfl, _, _, rfl, rfl, ?_⟩
    refine ⟨_, rfl, _, rfl, _, rfl, p, ra0, st, n, rw0, rfl, hst, hg.small.rules, hra, qe (fun z => by cases z), fun H1 s1 => ?_⟩
    obtain ⟨ra, fa, ua, da, ⟨dx, hi⟩, _⟩ := hst.same s1
    refine ⟨_, rfl, p, dx, _, rfl, hi, rfl, _, rfl, _, rfl, p, ra0, n, rw0, st, rfl, hst.same s1, s1 _ _ hra, fun H2 s2 => ?_⟩
    have s12 := s1.trans s2
    refine ⟨_, rfl, rfl, _, rfl, rfl, _, rfl, ?_⟩
    refine iteB (fun _ => ?_) (fun _ => ?_)
    · refine ⟨_, rfl, p, dx, _, rfl, s2 _ _ hi, rfl, p, st, rfl, hst.same s12, hg, fun H3 q6 hq => ⟨by show 2 ≤ sizeLine; decide, fun t nt => ?_⟩⟩
      exact q _ t _ q6 _ ((s12.trans hq.same0).trans (same_new nt)) upd_same (hq.at.same (same_new nt)) ⟨hl.copy, fun _ => dens_nil (copy_dens st) (hd rfl)⟩ fun z => (z.elim (fun k => k) (fun k => by cases k)).of (copy_rels st)
    · refine ⟨_, rfl, rfl, true, congrArg V.bl (decide_eq_true rfl), ?_⟩
      refine iteT ⟨_, rfl, p, dx, _, rfl, s2 _ _ hi, rfl, _, rfl, _, rfl, by show 3 ≤ sizeLine; decide, fun T1 n1 => ⟨by show 2 ≤ sizeLine; decide, fun T2 n2 => ⟨by show 1 ≤ sizeLine; decide, fun L nL => ?_⟩⟩⟩
      have sT1 := same_new (o := .tup [V.str "fact", V.str n, V.ref ra0]) n1
      have hra2 : RowH H2 ra0 rw0 := s12 _ _ hra
      obtain ⟨hL, sL⟩ := one_chg (i := .fact n rw0) n1 ⟨ra0, upd_same, sT1 _ _ hra2⟩ n2 nL
      have hgc : ∀ x ∈ [Chg.comes (.fact n rw0)], GoodC x := fun x hx => by rw [List.mem_singleton.mp hx]; exact hgs
      have hfc : ∀ x ∈ [Chg.comes (.fact n rw0)], isFactC x := fun x hx => by rw [List.mem_singleton.mp hx]; exact True.intro
      refine ⟨p, L, st, [.comes (.fact n rw0)], rfl, (hst.same s12).same sL, hg, hL, hgc, by show 1 ≤ 1000000; decide, fun H3 q6 hq => ⟨by show 2 ≤ sizeLine; decide, fun t nt => ?_⟩⟩
      exact q _ t _ q6 _ (((s12.trans sL).trans hq.same0).trans (same_new nt)) upd_same (hq.at.same (same_new nt)) ⟨hl.facts hgc hfc, fun _ => dens_nil (change_same3 hfc).dens (hd rfl)⟩ fun z => (z.elim (fun k => k) (fun k => by cases k)).of (change_same3 hfc).rels
theorem sc_say_rule : FnScope ["state", "statement", "_", "name", "relation", "terms", "body"] ["state", "statement"] (defScope (topS 63)) := ⟨rfl, rfl, rfl, by decide +kernel, rfl, by decide +kernel, by decide +kernel⟩
theorem ok_say_rule (T : Tx P K mg) : Cal P w K mg base (L2.CX P w) 11 "say_rule" (spSay K fun sm => ∃ n ru, sm = .rule n ru) := by
  have C1 := ok_check_rule (w := w) (base := base) T
  have C2 := ok_change (w := w) (base := base) T
  refine cal_of T 42 63 rfl (by decide +kernel) sc_say_rule (fun vs H Q E h => ?_) (fun _ _ _ _ _ _ us hl => match us, hl with | [_, _], _ => rfl) (fun cdv A outer s H vs Q E hr h => ?_)
  · obtain ⟨p, q, st, sm, rfl, _⟩ := h
    rfl
  · obtain ⟨p, q0, st, sm, rfl, hst, ⟨hl, hd⟩, hsm, hgs, ⟨n, ru, rfl⟩, qe, q⟩ := h
    have hg := hl.good
    refine ⟨_, (pss_cons (ps_asg (pv 1) (pg_tup rfl (pgs_cons (pg_name (i := 2) sc_say_rule.nd rfl (Or.inl rfl)) (pgs_cons (pg_name (i := 3) sc_say_rule.nd rfl (Or.inl rfl)) (pgs_cons (pg_name (i := 4) sc_say_rule.nd rfl (Or.inl rfl)) (pgs_cons (pg_name (i := 5) sc_say_rule.nd rfl (Or.inl rfl)) (pgs_cons (pg_name (i := 6) sc_say_rule.nd rfl (Or.inl rfl)) pgs_nil)))))))
    (pss_cons (ps_expr (pe_cS C1 hr (takes_of rfl rfl rfl rfl) (pa_cons (pv 0) (pa_cons (pv 3) (pa_cons (pv 4) (pa_cons (pv 5) (pa_cons (pv 6) pa_nil)))))))
    (pss_one (ps_ret (pe_tup (pa_cons pe_non (pa_cons (pe_mt T C2 hr (pv 0) (pa_cons (pe_lst (pa_cons (pe_tup (pa_cons pe_str (pa_cons (pe_tup (pa_cons pe_str (pa_cons (pv 3) (pa_cons (pv 4) (pa_cons (pv 5) (pa_cons (pv 6) pa_nil)))))) pa_nil))) pa_nil)) pa_nil)) pa_nil))))))), ?_⟩
    obtain ⟨a, b, hq0, hta, hbo⟩ := hsm
    refine ⟨_, rfl, q0, _, rfl, SqT.of_H hq0, rfl, _, _, rfl, _, _, rfl, _, _, rfl, _, _, rfl, _, _, rfl, rfl, ?_⟩
    refine ⟨_, rfl, _, rfl, _, rfl, _, rfl, _, rfl, p, a, b, st, n, ru, rfl, hst, hg, hgs, hta, hbo, qe (fun z => by cases z), fun H1 s1 hring hgrow => ?_⟩
    obtain ⟨ra, fa, ua, da, ⟨dx, hi⟩, _⟩ := hst.same s1
    refine ⟨_, rfl, p, dx, _, rfl, hi, rfl, _, rfl, _, rfl, _, rfl, _, rfl, by show 5 ≤ sizeLine; decide, fun T1 n1 => ⟨by show 2 ≤ sizeLine; decide, fun T2 n2 => ⟨by show 1 ≤ sizeLine; decide, fun L nL => ?_⟩⟩⟩
    have sT1 := same_new (o := .tup [V.str "rule", V.str n, V.str ru.rel, V.ref a, V.ref b]) n1
    obtain ⟨hL, sL⟩ := one_chg (i := .rule n ru) n1 ⟨a, b, upd_same, stays_tms.go (s1.trans sT1).t hta, stays_body.go (s1.trans sT1).t hbo⟩ n2 nL
    have hgc : ∀ x ∈ [Chg.comes (.rule n ru)], GoodC x := fun x hx => by rw [List.mem_singleton.mp hx]; exact hgs
    refine ⟨p, L, st, [.comes (.rule n ru)], rfl, (hst.same s1).same sL, hg, hL, hgc, by show 1 ≤ 1000000; decide, fun H2 q6 hq => ⟨by show 2 ≤ sizeLine; decide, fun t nt => ?_⟩⟩
    obtain ⟨i1, i2⟩ := hl.rule (hd rfl) hgs hring hgrow
    exact q _ t .non q6 _ (((s1.trans sL).trans hq.same0).trans (same_new nt)) upd_same (hq.at.same (same_new nt)) ⟨i1, fun _ => i2⟩ fun z => HasRel.of (a := changeM st [.comes (.rule n ru)]) (copy_rels st) (z.elim (fun k => k) (fun k => by cases k))
theorem sc_say_denial : FnScope ["state", "statement", "_", "name", "body"] ["state", "statement"] (defScope (topS 65)) := ⟨rfl, rfl, rfl, by decide +kernel, rfl, by decide +kernel, by decide +kernel⟩
theorem ok_say_denial (T : Tx P K mg) : Cal P w K mg base (L2.CX P w) 11 "say_denial" (spSay K fun sm => ∃ n b, sm = .deny n b) := by
  have C1 := ok_check_denial (w := w) (base := base) T
  have C2 := ok_change (w := w) (base := base) T
  refine cal_of T 43 65 rfl (by decide +kernel) sc_say_denial (fun vs H Q E h => ?_) (fun _ _ _ _ _ _ us hl => match us, hl with | [_, _], _ => rfl) (fun cdv A outer s H vs Q E hr h => ?_)
  · obtain ⟨p, q, st, sm, rfl, _⟩ := h
    rfl
  · obtain ⟨p, q0, st, sm, rfl, hst, ⟨hl, hd⟩, hsm, hgs, ⟨n, b, rfl⟩, qe, q⟩ := h
    have hg := hl.good
    refine ⟨_, (pss_cons (ps_if (pt_cmpR op_eq (pe_ix ix_tup (pv 1) pe_int (fun _ _ => rfl)) pe_str (nomark _)) (pss_cons (ps_asg (pv 1) (pg_tup rfl (pgs_cons (pg_name (i := 2) sc_say_denial.nd rfl (Or.inl rfl)) (pgs_cons (pg_name (i := 3) sc_say_denial.nd rfl (Or.inl rfl)) (pgs_cons (pg_name (i := 4) sc_say_denial.nd rfl (Or.inl rfl)) pgs_nil)))))
    (pss_cons (ps_expr (pe_cS C1 hr (takes_of rfl rfl rfl rfl) (pa_cons (pv 0) (pa_cons (pv 3) (pa_cons (pv 4) pa_nil)))))
    (pss_one (ps_ret (pe_tup (pa_cons pe_non (pa_cons (pe_mt T C2 hr (pv 0) (pa_cons (pe_lst (pa_cons (pe_tup (pa_cons pe_str (pa_cons (pe_tup (pa_cons pe_str (pa_cons (pv 3) (pa_cons (pv 4) pa_nil)))) pa_nil))) pa_nil)) pa_nil)) pa_nil))))))) pss_nil)
    (pss_cons ps_never (pss_cons ps_never (pss_one ps_never)))), ?_⟩
    obtain ⟨a, hq0, hbo⟩ := hsm
    refine ⟨_, rfl, q0, _, 0, _, rfl, rfl, SqT.of_H hq0, atI_nat rfl, rfl, true, congrArg V.bl (decide_eq_true rfl), ?_⟩
    refine iteT ⟨_, rfl, q0, _, rfl, SqT.of_H hq0, rfl, _, _, rfl, _, _, rfl, _, _, rfl, rfl, ?_⟩
    have hok : BodyOk b := by
      obtain ⟨_, k, c, hk, hc, e⟩ := hgs
      obtain ⟨h2, h3⟩ := dtmpl_len k hk c hc
      rw [e]
      exact ⟨by omega, fun l hl => by have := h3 l hl; omega⟩
    refine ⟨_, rfl, _, rfl, _, rfl, p, a, st, n, b, rfl, hst, hg.small.rules, hbo, hok, qe (fun z => by cases z), fun H1 s1 hchk => ?_⟩
    obtain ⟨ra, fa, ua, da, ⟨dx, hi⟩, _⟩ := hst.same s1
    refine ⟨_, rfl, p, dx, _, rfl, hi, rfl, _, rfl, _, rfl, by show 3 ≤ sizeLine; decide, fun T1 n1 => ⟨by show 2 ≤ sizeLine; decide, fun T2 n2 => ⟨by show 1 ≤ sizeLine; decide, fun L nL => ?_⟩⟩⟩
    have sT1 := same_new (o := .tup [V.str "denial", V.str n, V.ref a]) n1
    obtain ⟨hL, sL⟩ := one_chg (i := .den n b) n1 ⟨a, upd_same, stays_body.go (s1.trans sT1).t hbo⟩ n2 nL
    have hgc : ∀ x ∈ [Chg.comes (.den n b)], GoodC x := fun x hx => by rw [List.mem_singleton.mp hx]; exact hgs
    refine ⟨p, L, st, [.comes (.den n b)], rfl, (hst.same s1).same sL, hg, hL, hgc, by show 1 ≤ 1000000; decide, fun H2 q6 hq => ⟨by show 2 ≤ sizeLine; decide, fun t nt => ?_⟩⟩
    exact q _ t .non q6 _ (((s1.trans sL).trans hq.same0).trans (same_new nt)) upd_same (hq.at.same (same_new nt)) ⟨hl.den hgs hchk, fun z => by cases z⟩ fun z => HasRel.of (a := changeM st [.comes (.den n b)]) (copy_rels st) (z.elim (fun k => k) (fun k => by cases k))
end
end Rs


set_option Elab.async false
set_option linter.all false
set_option maxRecDepth 100000
set_option maxHeartbeats 2000000
/-! # S13: say -/
namespace Rs
open PySem PySem.Spec PyProof.Rows L2
section
variable {P : Program} {w : World} {K : PySem.W.Frag} {mg : Str → Option Value} {base : Heap}
theorem sc_say : FnScope ["state", "statement", "word"] ["state", "statement"] (defScope (topS 67)) := ⟨rfl, rfl, rfl, by decide +kernel, rfl, by decide +kernel, by decide +kernel⟩
theorem ok_say (T : Tx P K mg) : Cal P w K mg base (L2.CX P w) 12 "say" (spSay K fun _ => True) := by
  have C1 := ok_say_relation (w := w) (base := base) T
  have C2 := ok_say_fact (w := w) (base := base) T
  have C3 := ok_say_rule (w := w) (base := base) T
  have C4 := ok_say_denial (w := w) (base := base) T
  refine cal_of T 44 67 rfl (by decide +kernel) sc_say (fun vs H Q E h => ?_) (fun _ _ _ _ _ _ us hl => match us, hl with | [_, _], _ => rfl) (fun cdv A outer s H vs Q E hr h => ?_)
  · obtain ⟨p, q, st, sm, rfl, _⟩ := h
    rfl
  · obtain ⟨p, q0, st, sm, rfl, hst, hsg, hsm, hgs, _, qe, q⟩ := h
    refine ⟨_, (pss_cons (ps_set (i := 2) sc_say.nd rfl (Or.inl rfl) (pe_ix ix_tup (pv 1) pe_int (fun _ _ => rfl)))
    (pss_cons (ps_if (pt_cmpR op_eq (pv 2) pe_str (nomark _)) (pss_one (ps_ret (pe_cS C1 hr (takes_of rfl rfl rfl rfl) (pa_cons (pv 0) (pa_cons (pv 1) pa_nil))))) pss_nil)
    (pss_cons (ps_if (pt_cmpR op_eq (pv 2) pe_str (nomark _)) (pss_one ps_never) pss_nil)
    (pss_cons (ps_if (pt_cmpR op_in_seq (pv 2) (pe_tup (pa_cons pe_str (pa_cons pe_str pa_nil))) (by rfl)) (pss_one (ps_ret (pe_cS C2 hr (takes_of rfl rfl rfl rfl) (pa_cons (pv 0) (pa_cons (pv 1) pa_nil))))) pss_nil)
    (pss_cons (ps_if (pt_cmpR op_eq (pv 2) pe_str (nomark _)) (pss_one (ps_ret (pe_cS C3 hr (takes_of rfl rfl rfl rfl) (pa_cons (pv 0) (pa_cons (pv 1) pa_nil))))) pss_nil)
    (pss_cons (ps_if (pt_cmpR op_eq (pv 2) pe_str (nomark _)) (pss_one ps_never) pss_nil)
    (pss_cons (ps_if (pt_cmpR op_in_seq (pv 2) (pe_tup (pa_cons pe_str (pa_cons pe_str pa_nil))) (by rfl)) (pss_one (ps_ret (pe_cS C4 hr (takes_of rfl rfl rfl rfl) (pa_cons (pv 0) (pa_cons (pv 1) pa_nil))))) pss_nil)
    (pss_one ps_never)))))))), ?_⟩
    have nx : ∀ {a b : String}, ¬ (PySem.Str.ofString a = PySem.Str.ofString b) → V.bl (decide (V.str a = V.str b)) = V.bl false := fun h => congrArg V.bl (dec_str_ne h)
    cases sm with
    | rel n wd =>
      have hq0 : H q0 = some (.tup [.str "relation", .str n, .int wd]) := hsm
      refine ⟨_, rfl, q0, _, 0, _, rfl, rfl, SqT.of_H hq0, atI_nat rfl, _, rfl, rfl, true, congrArg V.bl (decide_eq_true rfl), ?_⟩
      exact iteT ⟨_, rfl, _, rfl, p, q0, st, .rel n wd, rfl, hst, hsg, hsm, hgs, ⟨n, wd, rfl⟩, qe, q⟩
    | add n r =>
      obtain ⟨a, hq0, _⟩ := id hsm
      refine ⟨_, rfl, q0, _, 0, _, rfl, rfl, SqT.of_H hq0, atI_nat rfl, _, rfl, rfl, false, nx (by decide +kernel), ?_⟩
      refine iteF ⟨_, rfl, rfl, false, nx (by decide +kernel), ?_⟩
      refine iteF ⟨_, rfl, by show 2 ≤ sizeLine; decide, fun T1 n1 => ?_⟩
      have s1 := same_new (o := .tup [V.str "add", V.str "remove"]) n1
      refine ⟨T1, _, rfl, .inr (SqT.of_H upd_same), rfl, by decide +kernel, true, congrArg V.bl (by decide +kernel), ?_⟩
      exact iteT ⟨_, rfl, _, rfl, p, q0, st, .add n r, rfl, hst.same s1, hsg, stays_sm.go s1.t hsm, hgs, ⟨n, r, rfl⟩, (fun hh => refuses_of (qe hh) s1), fun H' t ans q' st' s => q H' t ans q' st' (s1.trans s)⟩
    | rule n ru =>
      obtain ⟨a, b, hq0, _⟩ := id hsm
      refine ⟨_, rfl, q0, _, 0, _, rfl, rfl, SqT.of_H hq0, atI_nat rfl, _, rfl, rfl, false, nx (by decide +kernel), ?_⟩
      refine iteF ⟨_, rfl, rfl, false, nx (by decide +kernel), ?_⟩
      refine iteF ⟨_, rfl, by show 2 ≤ sizeLine; decide, fun T1 n1 => ?_⟩
      have s1 := same_new (o := .tup [V.str "add", V.str "remove"]) n1
      refine ⟨T1, _, rfl, .inr (SqT.of_H upd_same), rfl, by decide +kernel, false, congrArg V.bl (by decide +kernel), ?_⟩
      refine iteF ⟨_, rfl, rfl, true, congrArg V.bl (decide_eq_true rfl), ?_⟩
      exact iteT ⟨_, rfl, _, rfl, p, q0, st, .rule n ru, rfl, hst.same s1, hsg, stays_sm.go s1.t hsm, hgs, ⟨n, ru, rfl⟩, (fun hh => refuses_of (qe hh) s1), fun H' t ans q' st' s => q H' t ans q' st' (s1.trans s)⟩
    | deny n b =>
      obtain ⟨a, hq0, _⟩ := id hsm
      refine ⟨_, rfl, q0, _, 0, _, rfl, rfl, SqT.of_H hq0, atI_nat rfl, _, rfl, rfl, false, nx (by decide +kernel), ?_⟩
      refine iteF ⟨_, rfl, rfl, false, nx (by decide +kernel), ?_⟩
      refine iteF ⟨_, rfl, by show 2 ≤ sizeLine; decide, fun T1 n1 => ?_⟩
      have s1 := same_new (o := .tup [V.str "add", V.str "remove"]) n1
      refine ⟨T1, _, rfl, .inr (SqT.of_H upd_same), rfl, by decide +kernel, false, congrArg V.bl (by decide +kernel), ?_⟩
      refine iteF ⟨_, rfl, rfl, false, nx (by decide +kernel), ?_⟩
      refine iteF ⟨_, rfl, rfl, false, nx (by decide +kernel), ?_⟩
      refine iteF ⟨_, rfl, by show 2 ≤ sizeLine; decide, fun T2 n2 => ?_⟩
      have s2 := same_new (o := .tup [V.str "deny", V.str "allow"]) n2
      refine ⟨T2, _, rfl, .inr (SqT.of_H upd_same), rfl, by decide +kernel, true, congrArg V.bl (by decide +kernel), ?_⟩
      exact iteT ⟨_, rfl, _, rfl, p, q0, st, .deny n b, rfl, (hst.same s1).same s2, hsg, stays_sm.go (s1.trans s2).t hsm, hgs, ⟨n, b, rfl⟩, (fun hh => refuses_of (qe hh) (s1.trans s2)), fun H' t ans q' st' s => q H' t ans q' st' ((s1.trans s2).trans s)⟩
end
end Rs


set_option Elab.async false
set_option linter.all false
set_option maxRecDepth 100000
set_option maxHeartbeats 2000000
/-! # S14: _law_v, _law_draw, _law_row, _law_power -/
namespace Rs
open PySem PySem.Spec PyProof.Rows L2
theorem ix_listK {X : Cx} {K : PySem.W.Frag} (h : X.K = K) : IxR X (rIxL K) := by
  subst h
  exact ix_list
def spV : Sp := fun vs H Q _ => ∃ x : Str, vs = [.str x] ∧ ∀ (H' : Hp) (p : Addr), Same H H' → H p = none → TmAt H' p (.var x) → Q (.ref p) H'
def spDraw (K : PySem.W.Frag) : Sp := fun vs H Q _ => ∃ (sc : Addr) (ns : List Int) (k : Nat), vs = [.ref sc, .int (k : Int)] ∧ SqL K H sc (ns.map V.int) ∧ ns.length ≤ 1000 ∧ k ≤ 1000 ∧ ∀ n : Nat, n < 2147483648 → Q (.int (n : Int)) H
def spRow : Sp := fun vs H Q _ => ∃ (n w : Nat), vs = [.int (n : Int), .int (w : Int)] ∧ w ≤ 2 ∧ ∀ (H' : Hp) (p : Addr) (r : Row), Same H H' → r.length = w → (∀ x ∈ r, x ∈ baseK) → RowH H' p r → Q (.ref p) H'
def spPow : Sp := fun vs H Q _ => ∃ k : Nat, vs = [.int (k : Int)] ∧ k ≤ 10 ∧ Q (.int ((2 ^ k : Nat) : Int)) H
theorem modQ {Q : V → Prop} {x m : Int} (hm : 0 < m) (hb : m ≤ 2147483648) (h : ∀ n : Nat, n < 2147483648 → Q (.int (n : Int))) : Q (.int (x % m)) := by
  have h1 := Int.emod_nonneg x (by omega : m ≠ 0)
  have h2 := Int.emod_lt_of_pos x hm
  have := h (x % m).toNat (by omega)
  rw [Int.toNat_of_nonneg h1] at this
  exact this
section
variable {P : Program} {w : World} {K : PySem.W.Frag} {mg : Str → Option Value} {base : Heap}
theorem sc_v : FnScope ["_law_name"] ["_law_name"] (defScope (topS 70)) := ⟨rfl, rfl, rfl, by decide +kernel, rfl, by decide +kernel, by decide +kernel⟩
theorem ok_v (T : Tx P K mg) : Cal P w K mg base CX0 1 "_law_v" spV := by
  refine cal_of T 46 70 rfl (by decide +kernel) sc_v (fun vs H Q E h => ?_) (fun _ _ _ _ _ _ us hl => match us, hl with | [_], _ => rfl) (fun cdv A outer s H vs Q E hr h => ?_)
  · obtain ⟨x, rfl, _⟩ := h
    rfl
  · obtain ⟨x, rfl, q⟩ := h
    refine ⟨_, PSs.nox (pss_one (ps_ret (pe_tup (pa_cons pe_str (pa_cons (pv 0) pa_nil))))), ?_⟩
    exact ⟨_, rfl, by show 2 ≤ sizeLine; decide, fun p np => q _ p (same_new np) np upd_same⟩
theorem sc_draw : FnScope ["_law_script", "_law_k", "_law_cell", "_law_turn", "_law_step"] ["_law_script", "_law_k"] (defScope (topS 69)) := ⟨rfl, rfl, rfl, by decide +kernel, rfl, by decide +kernel, by decide +kernel⟩
theorem ok_draw (T : Tx P K mg) : Cal P w K mg base CX0 1 "_law_draw" (spDraw K) := by
  refine cal_of T 45 69 rfl (by decide +kernel) sc_draw (fun vs H Q E h => ?_) (fun _ _ _ _ _ _ us hl => match us, hl with | [_, _], _ => rfl) (fun cdv A outer s H vs Q E hr h => ?_)
  · obtain ⟨sc, ns, k, rfl, _⟩ := h
    rfl
  · obtain ⟨sc, ns, k, rfl, hsc, hn, hk, q⟩ := h
    refine ⟨_, PSs.nox (pss_cons (ps_if (pt_not (pt_truth (pv 0) (by intro _; rfl))) (pss_one (ps_ret (pe_op op_mod (pe_op op_mul (pv 1) pe_int) pe_int))) pss_nil)
    (pss_cons (ps_set (i := 2) sc_draw.nd rfl (Or.inl rfl) (pe_callTy call_int1 (by rfl) (T.fr "int") (by decide +kernel) (pa_cons (pe_ix ix_list (pv 0) (pe_op op_mod (pv 1) (pe_callB call_len (by rfl) (T.fr "len") PySem.boot_len (pa_cons (pv 0) pa_nil))) (fun _ _ => rfl)) pa_nil)))
    (pss_cons (ps_set (i := 3) sc_draw.nd rfl (Or.inl rfl) (pe_op op_fdiv (pv 1) (pe_callB call_len (by rfl) (T.fr "len") PySem.boot_len (pa_cons (pv 0) pa_nil))))
    (pss_cons (ps_if (pt_cmpR op_ge (pv 2) pe_int (nomark _)) (pss_cons (ps_for PassesOwn.never rfl (pi_range1 (by rfl) (T.fr "range") (pa_cons (pe_callB (call_min2 rfl) (by rfl) (T.fr "min") (by decide +kernel) (pa_cons (pv 3) (pa_cons pe_int pa_nil))) pa_nil)) (pg_name (i := 4) sc_draw.nd rfl (Or.inl rfl))
    (pss_one (ps_set (i := 2) sc_draw.nd rfl (Or.inl rfl) (pe_op op_fdiv (pv 2) pe_int))))
    (pss_one (ps_ret (pe_op op_mod (pv 2) pe_int)))) pss_nil)
    (pss_one (ps_ret (pe_op op_mod (pe_op op_mul (pe_op op_mod (pe_op op_add (pe_op op_add (pe_op op_mul (pv 2) pe_int) (pe_op op_mul (pv 1) pe_int)) pe_int) pe_int) pe_int) pe_int))))))), ?_⟩
    refine ⟨_, rfl, !(ns.map V.int).isEmpty, .inl ⟨_, hsc, rfl⟩, ?_⟩
    by_cases hns : ns = []
    · subst hns
      refine iteT ⟨_, rfl, _, _, rfl, rfl, .inr ⟨by decide, by decide⟩, _, _, rfl, rfl, (by show (0 : Int) < 7; decide), modQ (Q := fun v => Q v H) (by decide) (by decide) q⟩
    · have hpos : 0 < ns.length := List.length_pos_iff.mpr hns
      have hne : (!(ns.map V.int).isEmpty) = true := by
        cases ns with
        | nil => exact absurd rfl hns
        | cons a b => rfl
      rw [hne]
      refine iteF ⟨_, rfl, _, rfl, _, rfl, _, _, rfl, .inl ⟨_, hsc, rfl⟩, _, _, rfl, rfl, ?_, ?_⟩
      · rw [List.length_map]
        omega
      have hmod : ((k : Int) % (ns.length : Int)).toNat < ns.length ∧ ((((k : Int) % (ns.length : Int)).toNat : Nat) : Int) = (k : Int) % (ns.length : Int) := by
        have h1 := Int.emod_nonneg (k : Int) (by omega : (ns.length : Int) ≠ 0)
        have h2 := Int.emod_lt_of_pos (k : Int) (by omega : (0 : Int) < (ns.length : Int))
        omega
      have hat : atI (ns.map V.int) ((k : Int) % (((ns.map V.int).length : Nat) : Int)) = some (V.int (ns.getD ((k : Int) % (ns.length : Int)).toNat 0)) := by
        rw [List.length_map, ← hmod.2]
        refine atI_nat (j := ((k : Int) % (ns.length : Int)).toNat) ?_
        simp only [Int.toNat_natCast]
        rw [List.getElem?_map, List.getElem?_eq_getElem hmod.1, List.getD_eq_getElem?_getD, List.getElem?_eq_getElem hmod.1]
        rfl
      refine ⟨sc, _, _, _, rfl, rfl, hsc, hat, .inl ⟨_, rfl, ?_⟩⟩
      refine ⟨_, rfl, _, rfl, _, _, rfl, .inl ⟨_, hsc, rfl⟩, _, _, rfl, rfl, ⟨?_, ?_⟩, ?_⟩
      · rw [List.length_map]
        omega
      · rw [List.length_map]
        omega
      rw [List.length_map]
      generalize ns.getD ((k : Int) % (ns.length : Int)).toNat 0 = c0
      have hdk : 0 ≤ (k : Int) / (ns.length : Int) := Int.ediv_nonneg (by omega) (by omega)
      refine ⟨_, rfl, _, _, rfl, rfl, _, rfl, iteB (fun _ => ?_) (fun _ => ?_)⟩
      · refine ⟨_, rfl, _, _, rfl, _, rfl, ?_, ?_, ?_⟩
        · split <;> omega
        · split <;> omega
        refine for_range (lo := 0) (n := (if (60 : Int) < (k : Int) / (ns.length : Int) then (60 : Int) else (k : Int) / (ns.length : Int)).toNat) (fun i σ H' => ∃ c v4, σ = [some (.ref sc), some (.int (k : Int)), some (.int c), some (.int ((k : Int) / (ns.length : Int))), v4] ∧ H' = H) ⟨_, _, rfl, rfl⟩ ?_ ?_
        · rintro i σ H' hi ⟨c, v4, rfl, rfl⟩
          exact ⟨_, rfl, _, _, rfl, rfl, ⟨by decide, by decide⟩, _, _, rfl, rfl⟩
        · rintro σ H' ⟨c, v4, rfl, rfl⟩
          exact ⟨_, rfl, _, _, rfl, rfl, (by show (0 : Int) < 100003; decide), modQ (Q := fun v => Q v H') (by decide) (by decide) q⟩
      · refine ⟨_, rfl, _, _, rfl, rfl, .inr ⟨by decide, by decide⟩, ?_⟩
        refine ⟨_, rfl, _, _, rfl, rfl, .inr ⟨by decide, by decide⟩, ?_⟩
        refine ⟨_, _, rfl, rfl, _, _, rfl, rfl, _, _, rfl, rfl, (by show (0 : Int) < 2147483647; decide), ?_⟩
        exact ⟨_, _, rfl, rfl, .inr ⟨by decide, by decide⟩, _, _, rfl, rfl, (by show (0 : Int) < 2147483629; decide), modQ (Q := fun v => Q v H) (by decide) (by decide) q⟩
end
end Rs


set_option Elab.async false
set_option linter.all false
set_option maxRecDepth 100000
set_option maxHeartbeats 2000000
/-! # S15: _law_row, _law_power -/
namespace Rs
open PySem PySem.Spec PyProof.Rows L2
theorem at6 (j : Int) (h0 : 0 ≤ j) (h6 : j < 6) : ∃ k ∈ baseK, atI [V.int 0, V.int 1, V.int 2, V.int 3, V.int 4, V.str "a"] j = some (kV k) := by
  have : j = 0 ∨ j = 1 ∨ j = 2 ∨ j = 3 ∨ j = 4 ∨ j = 5 := by omega
  rcases this with rfl | rfl | rfl | rfl | rfl | rfl
  · exact ⟨.inl 0, by simp [baseK], rfl⟩
  · exact ⟨.inl 1, by simp [baseK], rfl⟩
  · exact ⟨.inl 2, by simp [baseK], rfl⟩
  · exact ⟨.inl 3, by simp [baseK], rfl⟩
  · exact ⟨.inl 4, by simp [baseK], rfl⟩
  · exact ⟨.inr "a", by simp [baseK], rfl⟩
section
variable {P : Program} {w : World} {K : PySem.W.Frag} {mg : Str → Option Value} {base : Heap}
theorem sc_row : FnScope ["_law_number", "_law_width", "_law_values", "_law_k"] ["_law_number", "_law_width"] (defScope (topS 72)) := ⟨rfl, rfl, rfl, by decide +kernel, rfl, by decide +kernel, by decide +kernel⟩
theorem ok_row (T : Tx P K mg) : Cal P w K mg base CX0 1 "_law_row" spRow := by
  refine cal_of T 48 72 rfl (by decide +kernel) sc_row (fun vs H Q E h => ?_) (fun _ _ _ _ _ _ us hl => match us, hl with | [_, _], _ => rfl) (fun cdv A outer s H vs Q E hr h => ?_)
  · obtain ⟨n, wd, rfl, _⟩ := h
    rfl
  · obtain ⟨n, wd, rfl, hw, q⟩ := h
    refine ⟨_, PSs.nox (pss_cons (ps_set (i := 2) sc_row.nd rfl (Or.inr rfl) (pe_lst (pa_cons pe_int (pa_cons pe_int (pa_cons pe_int (pa_cons pe_int (pa_cons pe_int (pa_cons pe_str pa_nil))))))))
    (pss_one (ps_ret (pe_callTy call_tuple_of (by rfl) (T.fr "tuple") (by decide +kernel) (pa_cons (pe_lc (own := [("_law_k", 3)]) (g := gName 3) (tt := tYes) rfl sc_row.nd (pi_range1 (by rfl) (T.fr "range") (pa_cons (pv 1) pa_nil)) (blkOk_by (own := [("_law_k", 3)]) (N := ["_law_number", "_law_width", "_law_values", "_law_k"]) (sc := defScope (topS 72)) (by decide +kernel)) (fun _ _ _ _ _ => (pg_name (i := 3) sc_row.nd rfl (Or.inl rfl))) (fun _ _ _ _ _ => pts_nil) (fun _ _ _ _ _ => (pe_ix (ix_listK rfl) (pv 2) (pe_op op_mod (pe_op op_fdiv (pv 0) (pe_op op_add (pe_op op_add pe_int (pe_op op_mul pe_int (pv 3))) (pe_op op_mul (pv 3) (pv 3)))) pe_int) (fun _ _ => rfl)))) pa_nil))))), ?_⟩
    refine ⟨by show 6 ≤ sizeLine; decide, fun L nL => ?_⟩
    have sL := same_new (o := .lst [V.int 0, V.int 1, V.int 2, V.int 3, V.int 4, V.str "a"]) nL
    refine ⟨_, rfl, _, rfl, by omega, by omega, fun D hD => lc_rangeG (n := wd) hD (by omega) (fun H' acc i => ∃ r : Row, acc = r.map kV ∧ r.length = i ∧ ∀ x ∈ r, x ∈ baseK) ⟨[], rfl, rfl, fun x hx => by cases hx⟩ ?_ ?_⟩
    · rintro i acc H' Nx No hi s eD ⟨r, rfl, hl, hr'⟩ hN _
      have hd : (0 : Int) < 1 + 5 * (0 + (i : Int)) + (0 + (i : Int)) * (0 + (i : Int)) ∧ 1 + 5 * (0 + (i : Int)) + (0 + (i : Int)) * (0 + (i : Int)) < 1073741824 := by
        have : i = 0 ∨ i = 1 := by omega
        rcases this with rfl | rfl <;> decide
      have hj0 := Int.emod_nonneg ((n : Int) / (1 + 5 * (0 + (i : Int)) + (0 + (i : Int)) * (0 + (i : Int)))) (by decide : (6 : Int) ≠ 0)
      have hj6 := Int.emod_lt_of_pos ((n : Int) / (1 + 5 * (0 + (i : Int)) + (0 + (i : Int)) * (0 + (i : Int)))) (by decide : (0 : Int) < 6)
      obtain ⟨k, hk, hat⟩ := at6 _ hj0 hj6
      refine ⟨rfl, _, rfl, _, rfl, _, rfl, _, _, rfl, rfl, .inl ⟨by decide, by decide⟩, _, _, rfl, rfl, _, rfl, _, rfl, _, _, rfl, rfl, .inl ⟨?_, ?_⟩, _, _, rfl, rfl, _, _, rfl, rfl, hd, _, _, rfl, rfl, (by show (0 : Int) < 6; decide), L, _, _, _, rfl, rfl, SqL.of_H (s _ _ upd_same), hat, ?_⟩
      · omega
      · omega
      · refine hN _ _ (Same.refl _) ⟨r ++ [k], by rw [List.map_append]; rfl, by rw [List.length_append, List.length_singleton, hl], fun x hx => ?_⟩
        rcases List.mem_append.mp hx with hx | hx
        · exact hr' x hx
        · rw [List.mem_singleton.mp hx]
          exact hk
    · rintro H' acc s eD ⟨r, rfl, hl, hr'⟩
      refine ⟨D, _, rfl, .inl ⟨SqL.of_H eD, fun l nl => ?_⟩⟩
      exact q _ l r ((sL.trans s).trans (same_new nl)) hl hr' upd_same
theorem sc_power : FnScope ["_law_k", "_law_total", "_law_step"] ["_law_k"] (defScope (topS 77)) := ⟨rfl, rfl, rfl, by decide +kernel, rfl, by decide +kernel, by decide +kernel⟩
theorem ok_power (T : Tx P K mg) : Cal P w K mg base CX0 1 "_law_power" spPow := by
  refine cal_of T 53 77 rfl (by decide +kernel) sc_power (fun vs H Q E h => ?_) (fun _ _ _ _ _ _ us hl => match us, hl with | [_], _ => rfl) (fun cdv A outer s H vs Q E hr h => ?_)
  · obtain ⟨k, rfl, _⟩ := h
    rfl
  · obtain ⟨k, rfl, hk, q⟩ := h
    refine ⟨_, PSs.nox (pss_cons (ps_set (i := 1) sc_power.nd rfl (Or.inl rfl) pe_int)
    (pss_cons (ps_for PassesOwn.never rfl (pi_range1 (by rfl) (T.fr "range") (pa_cons (pv 0) pa_nil)) (pg_name (i := 2) sc_power.nd rfl (Or.inl rfl))
    (pss_one (ps_set (i := 1) sc_power.nd rfl (Or.inl rfl) (pe_op op_mul (pv 1) pe_int))))
    (pss_one (ps_ret (pv 1))))), ?_⟩
    refine ⟨_, rfl, _, rfl, by omega, by omega, for_range (lo := 0) (n := k) (fun i σ H' => ∃ v2, σ = [some (.int (k : Int)), some (.int ((2 ^ i : Nat) : Int)), v2] ∧ H' = H) ⟨_, rfl, rfl⟩ ?_ ?_⟩
    · rintro i σ H' hi ⟨v2, rfl, rfl⟩
      refine ⟨_, rfl, _, _, rfl, rfl, .inr ⟨by decide, by decide⟩, ?_⟩
      refine ⟨some (V.int (0 + (i : Int))), ?_, rfl⟩
      show ([some (V.int (k : Int)), some (V.int (((2 ^ i : Nat) : Int) * 2)), some (V.int (0 + (i : Int)))] : L2.St) = _
      rw [Nat.pow_succ, Int.natCast_mul]
      rfl
    · rintro σ H' ⟨v2, rfl, rfl⟩
      exact ⟨_, rfl, q⟩
end
end Rs


set_option Elab.async false
set_option linter.all false
set_option maxRecDepth 100000
set_option maxHeartbeats 2000000
/-! # S16: what builds terms, literals, bodies, rules -/
namespace Rs
open PySem PySem.Spec PyProof.Rows L2
def Bld (σ : L2.St) (H0 : Hp) (t : TE) (R : Hp → V → Prop) : Prop := ∀ (H1 : Hp) (Q : VK), Same H0 H1 → (∀ v H', Same H1 H' → R H' v → Q v H') → t σ H1 Q
def BldL (σ : L2.St) (H0 : Hp) (t : TA) (R : Hp → List V → Prop) : Prop := ∀ (H1 : Hp) (Q : List V → Hp → Prop), Same H0 H1 → (∀ v H', Same H1 H' → R H' v → Q v H') → t σ H1 Q
def Is {α : Type} (R : Hp → Addr → α → Prop) (x : α) : Hp → V → Prop := fun H v => ∃ p, v = .ref p ∧ R H p x
def IsAll {α : Type} (R : Hp → Addr → α → Prop) (xs : List α) : Hp → List V → Prop := fun H vs => ∃ ps : List (Addr × α), vs = ps.map (fun q => V.ref q.1) ∧ ps.map (·.2) = xs ∧ ∀ q ∈ ps, R H q.1 q.2
section
variable {α : Type} {R : Hp → Addr → α → Prop} {σ : L2.St} {H0 : Hp}
theorem bl_nil : BldL σ H0 tNil (IsAll R []) := fun H1 Q s q => q [] H1 (Same.refl _) ⟨[], rfl, rfl, fun q hq => by cases hq⟩
theorem bl_cons (S : Stays R) {t : TE} {ts : TA} {x : α} {xs : List α} (h : Bld σ H0 t (Is R x)) (hs : BldL σ H0 ts (IsAll R xs)) : BldL σ H0 (tCons t ts) (IsAll R (x :: xs)) := fun H1 Q s q => by
  refine h H1 _ s fun v H2 s2 ⟨p, e, hp⟩ => ?_
  refine hs H2 _ (s.trans s2) fun vs H3 s3 ⟨ps, e2, e3, hps⟩ => ?_
  refine q _ H3 (s2.trans s3) ⟨(p, x) :: ps, by rw [e, e2]; rfl, by rw [← e3]; rfl, fun y hy => ?_⟩
  rcases List.mem_cons.mp hy with rfl | hy
  · exact S.go s3.t hp
  · exact hps y hy
theorem b_tup (S : Stays R) {ts : TA} {xs : List α} (hl : xs.length ≤ 100) (hs : BldL σ H0 ts (IsAll R xs)) : Bld σ H0 (tTup ts) (Is (TupOf R) xs) := fun H1 Q s q => by
  refine hs H1 _ s fun vs H2 s2 ⟨ps, e2, e3, hps⟩ => ⟨?_, fun p np => ?_⟩
  · rw [e2, List.length_map, sizeLine_eq]
    rw [← e3, List.length_map] at hl
    omega
  · have sp := same_new (o := .tup vs) np
    refine q _ _ (s2.trans sp) ⟨p, rfl, ps, by rw [upd_same, e2], e3, fun y hy => S.go sp.t (hps y hy)⟩
theorem b_var {i : Nat} {p : Addr} {x : α} (S : Stays R) (e : σ[i]? = some (some (.ref p))) (h : R H0 p x) : Bld σ H0 (tVar i) (Is R x) := fun H1 Q s q => ⟨_, e, q _ H1 (Same.refl _) ⟨p, rfl, S.go s.t h⟩⟩
theorem b_any : Bld σ H0 (tTup (tCons (tC (.str "any")) tNil)) (Is TmAt .any) := fun H1 Q s q => ⟨by show 1 ≤ sizeLine; decide, fun p np => q _ _ (same_new np) ⟨p, rfl, upd_same⟩⟩
theorem b_fact {t : TE} {r : Str} {ts : List Tm} (h : Bld σ H0 t (Is TmsAt ts)) : Bld σ H0 (tTup (tCons (tC (.str "fact")) (tCons (tC (.str r)) (tCons t tNil)))) (Is LitAt (.fact r ts)) := fun H1 Q s q => by
  refine h H1 _ s fun v H2 s2 ⟨a, e, ha⟩ => ⟨by show 3 ≤ sizeLine; decide, fun p np => ?_⟩
  have sp := same_new (o := .tup [V.str "fact", V.str r, v]) np
  exact q _ _ (s2.trans sp) ⟨p, rfl, a, by rw [← e]; exact upd_same, stays_tms.go sp.t ha⟩
theorem b_not {t : TE} {r : Str} {ts : List Tm} (h : Bld σ H0 t (Is TmsAt ts)) : Bld σ H0 (tTup (tCons (tC (.str "not")) (tCons (tC (.str r)) (tCons t tNil)))) (Is LitAt (.not_ r ts)) := fun H1 Q s q => by
  refine h H1 _ s fun v H2 s2 ⟨a, e, ha⟩ => ⟨by show 3 ≤ sizeLine; decide, fun p np => ?_⟩
  have sp := same_new (o := .tup [V.str "not", V.str r, v]) np
  exact q _ _ (s2.trans sp) ⟨p, rfl, a, by rw [← e]; exact upd_same, stays_tms.go sp.t ha⟩
theorem b_cnt {t : TE} {v r : Str} {ts : List Tm} (h : Bld σ H0 t (Is TmsAt ts)) : Bld σ H0 (tTup (tCons (tC (.str "count")) (tCons (tC (.str v)) (tCons (tC (.str r)) (tCons t tNil))))) (Is LitAt (.cnt v r ts)) := fun H1 Q s q => by
  refine h H1 _ s fun v' H2 s2 ⟨a, e, ha⟩ => ⟨by show 4 ≤ sizeLine; decide, fun p np => ?_⟩
  have sp := same_new (o := .tup [V.str "count", V.str v, V.str r, v']) np
  exact q _ _ (s2.trans sp) ⟨p, rfl, a, by rw [← e]; exact upd_same, stays_tms.go sp.t ha⟩
theorem b_cmp {ta tb : TE} {op : Str} {a b : Tm} (ha : Bld σ H0 ta (Is TmAt a)) (hb : Bld σ H0 tb (Is TmAt b)) : Bld σ H0 (tTup (tCons (tC (.str "compare")) (tCons (tC (.str op)) (tCons ta (tCons tb tNil))))) (Is LitAt (.cmp op a b)) := fun H1 Q s q => by
  refine ha H1 _ s fun v H2 s2 ⟨x, e, hx⟩ => ?_
  refine hb H2 _ (s.trans s2) fun v' H3 s3 ⟨y, e', hy⟩ => ⟨by show 4 ≤ sizeLine; decide, fun p np => ?_⟩
  have sp := same_new (o := .tup [V.str "compare", V.str op, v, v']) np
  exact q _ _ ((s2.trans s3).trans sp) ⟨p, rfl, x, y, by rw [← e, ← e']; exact upd_same, stays_tm.go (s3.trans sp).t hx, stays_tm.go sp.t hy⟩
theorem b_is {ta tb : TE} {vr op : Str} {a b : Tm} (ha : Bld σ H0 ta (Is TmAt a)) (hb : Bld σ H0 tb (Is TmAt b)) : Bld σ H0 (tTup (tCons (tC (.str "is")) (tCons (tC (.str vr)) (tCons (tC (.str op)) (tCons ta (tCons tb tNil)))))) (Is LitAt (.is_ vr op a b)) := fun H1 Q s q => by
  refine ha H1 _ s fun v H2 s2 ⟨x, e, hx⟩ => ?_
  refine hb H2 _ (s.trans s2) fun v' H3 s3 ⟨y, e', hy⟩ => ⟨by show 5 ≤ sizeLine; decide, fun p np => ?_⟩
  have sp := same_new (o := .tup [V.str "is", V.str vr, V.str op, v, v']) np
  exact q _ _ ((s2.trans s3).trans sp) ⟨p, rfl, x, y, by rw [← e, ← e']; exact upd_same, stays_tm.go (s3.trans sp).t hx, stays_tm.go sp.t hy⟩
theorem b_rule {ta tb : TE} {rel : Str} {ts : List Tm} {b : Body} (ha : Bld σ H0 ta (Is TmsAt ts)) (hb : Bld σ H0 tb (Is BodyAt b)) : Bld σ H0 (tTup (tCons (tC (.str rel)) (tCons ta (tCons tb tNil)))) (Is RuleAt ⟨rel, ts, b⟩) := fun H1 Q s q => by
  refine ha H1 _ s fun v H2 s2 ⟨x, e, hx⟩ => ?_
  refine hb H2 _ (s.trans s2) fun v' H3 s3 ⟨y, e', hy⟩ => ⟨by show 3 ≤ sizeLine; decide, fun p np => ?_⟩
  have sp := same_new (o := .tup [V.str rel, v, v']) np
  exact q _ _ ((s2.trans s3).trans sp) ⟨p, rfl, x, y, by rw [← e, ← e']; exact upd_same, stays_tms.go (s3.trans sp).t hx, stays_body.go sp.t hy⟩
/-- choices that grow -/
def Ch (R : Hp → Addr → α → Prop) (H0 H : Hp) (L : Addr) (rs : List α) : Prop := Same H0 H ∧ H0 L = none ∧ LstOf R H L rs
theorem ch_first (S : Stays R) {ts : TA} {xs : List α} {Q : VK} (hl : xs.length ≤ 100) (hs : BldL σ H0 ts (IsAll R xs)) (q : ∀ H' L, Ch R H0 H' L xs → Q (.ref L) H') : (tLst ts) σ H0 Q := by
  refine hs H0 _ (Same.refl _) fun vs H2 s2 ⟨ps, e2, e3, hps⟩ => ⟨?_, fun p np => ?_⟩
  · rw [e2, List.length_map, sizeLine_eq]
    rw [← e3, List.length_map] at hl
    omega
  · have sp := same_new (o := .lst vs) np
    exact q _ p ⟨s2.trans sp, s2.free np, ps, by rw [upd_same, e2], e3, fun y hy => S.go sp.t (hps y hy)⟩
theorem ch_app (S : Stays R) {K : PySem.W.Frag} {D : Ends} {H : Hp} {L : Addr} {rs : List α} {t : TE} {x : α} {i : Nat} (h : Ch R H0 H L rs) (hl : rs.length ≤ 100) (e : σ[i]? = some (some (.ref L))) (hb : Bld σ H0 t (Is R x)) (q : ∀ H', Ch R H0 H' L (rs ++ [x]) → D.nx σ H') :
    (tDrop (tBM K "list" rAppend (tVar i) (tCons t tNil))) D σ H := by
  obtain ⟨s, nL, ps, hL, eps, hps⟩ := h
  refine ⟨_, e, .inl ⟨rfl, _, SqL.of_H hL⟩, ?_⟩
  refine hb H _ s fun v H2 s2 ⟨p, ep, hp⟩ => ?_
  subst ep
  have hL2 := s2 _ _ hL
  refine ⟨L, _, _, rfl, rfl, hL2, ?_, q _ ⟨same0_upd (s.trans s2) nL, nL, ps ++ [(p, x)], by rw [upd_same, List.map_append]; rfl, by rw [List.map_append, eps]; rfl, push_item S s2 hps hL2 hp⟩⟩
  rw [List.length_map, sizeLine_eq]
  rw [← eps, List.length_map] at hl
  omega
theorem ch_firstS (S : Stays R) {ts : TA} {xs : List α} {u : TS} {D : Ends} {i : Nat} (hs : BldL σ H0 ts (IsAll R xs)) (hl : xs.length ≤ 100) (q : ∀ H' L, Ch R H0 H' L xs → u D (σ.set i (some (.ref L))) H') : (tSeq (tAsg (tLst ts) (gName i)) u) D σ H0 := ch_first (Q := fun x H1 => u D (σ.set i (some x)) H1) S hl hs q
theorem ch_appS (S : Stays R) {K : PySem.W.Frag} {D : Ends} {H : Hp} {L : Addr} {rs : List α} {t : TE} {x : α} {i : Nat} {u : TS} (h : Ch R H0 H L rs) (hb : Bld σ H0 t (Is R x)) (e : σ[i]? = some (some (.ref L))) (hl : rs.length ≤ 100) (q : ∀ H', Ch R H0 H' L (rs ++ [x]) → u D σ H') :
    (tSeq (tDrop (tBM K "list" rAppend (tVar i) (tCons t tNil))) u) D σ H := ch_app (D := { D with nx := u D }) S h hl e hb q
end
end Rs


set_option Elab.async false
set_option linter.all false
set_option maxRecDepth 100000
set_option maxHeartbeats 2000000
/-! # S17: _law_rule, _law_denial (printed by genb.py) -/
namespace Rs
open PySem PySem.Spec PyProof.Rows L2
theorem pick {α : Type} {R : Hp → Addr → α → Prop} {H : Hp} {L : Addr} {rs : List α} {n m : Nat} {g : Nat → α} (h : LstOf R H L rs) (e : rs = (List.range m).map g) (hm : 0 < m) : ∃ xs p, H L = some (.lst xs) ∧ atI xs ((n : Int) % (m : Int)) = some (V.ref p) ∧ R H p (g (n % m)) := by
  obtain ⟨ps, h1, h2, h3⟩ := h
  have hl : n % m < ps.length := by
    have := congrArg List.length h2
    rw [e, List.length_map, List.length_map, List.length_range] at this
    rw [this]
    exact Nat.mod_lt _ hm
  refine ⟨_, ps[n % m].1, h1, ?_, ?_⟩
  · rw [show (n : Int) % (m : Int) = ((n % m : Nat) : Int) by omega]
    refine atI_nat ?_
    rw [List.getElem?_map, List.getElem?_eq_getElem hl]
    rfl
  · have h4 := h3 _ (List.getElem_mem hl)
    have h5 : ps[n % m].2 = g (n % m) := by
      have h6 : (ps.map (·.2))[n % m]? = some ps[n % m].2 := by rw [List.getElem?_map, List.getElem?_eq_getElem hl]; rfl
      rw [h2, e, List.getElem?_map, List.getElem?_range (Nat.mod_lt _ hm)] at h6
      exact (Option.some.inj h6).symm
    rw [← h5]
    exact h4
def spRule : Sp := fun vs H Q _ => ∃ n : Nat, vs = [.int (n : Int)] ∧ ∀ (H' : Hp) (p : Addr) (k c : Nat), Same H H' → k < 16 → c < 5 → RuleAt H' p (tmpl k c) → Q (.ref p) H'
def spDen : Sp := fun vs H Q _ => ∃ n : Nat, vs = [.int (n : Int)] ∧ ∀ (H' : Hp) (p : Addr) (k c : Nat), Same H H' → k < 8 → c < 5 → BodyAt H' p (dtmpl k c) → Q (.ref p) H'
section
variable {P : Program} {w : World} {K : PySem.W.Frag} {mg : Str → Option Value} {base : Heap}
theorem sc_rule : FnScope ["_law_number", "_law_c", "_law_x", "_law_y", "_law_z", "_law_choices"] ["_law_number"] (defScope (topS 71)) := ⟨rfl, rfl, rfl, by decide +kernel, rfl, by decide +kernel, by decide +kernel⟩
theorem ok_rule (T : Tx P K mg) : Cal P w K mg base CX0 2 "_law_rule" spRule := by
  have C1 := ok_v (w := w) (base := base) T
  refine cal_of T 47 71 rfl (by decide +kernel) sc_rule (fun vs H Q E h => ?_) (fun _ _ _ _ _ _ us hl => match us, hl with | [_], _ => rfl) (fun cdv A outer s H vs Q E hr h => ?_)
  · obtain ⟨n, rfl, _⟩ := h
    rfl
  · obtain ⟨n, rfl, q⟩ := h
    refine ⟨_, PSs.nox (pss_cons (ps_set (i := 1) sc_rule.nd rfl (Or.inl rfl) (pe_tup (pa_cons pe_str (pa_cons (pe_op op_mod (pe_op op_fdiv (pv 0) pe_int) pe_int) pa_nil))))
    (pss_cons (ps_set (i := 2) sc_rule.nd rfl (Or.inl rfl) (pe_c C1 hr (pa_cons pe_str pa_nil)))
    (pss_cons (ps_set (i := 3) sc_rule.nd rfl (Or.inl rfl) (pe_c C1 hr (pa_cons pe_str pa_nil)))
    (pss_cons (ps_set (i := 4) sc_rule.nd rfl (Or.inl rfl) (pe_c C1 hr (pa_cons pe_str pa_nil)))
    (pss_cons (ps_set (i := 5) sc_rule.nd rfl (Or.inl rfl) (pe_lst (pa_cons (pe_tup (pa_cons pe_str (pa_cons (pe_tup (pa_cons (pv 2) (pa_cons (pv 3) pa_nil))) (pa_cons (pe_tup (pa_cons (pe_tup (pa_cons pe_str (pa_cons pe_str (pa_cons (pe_tup (pa_cons (pv 2) (pa_cons (pv 3) pa_nil))) pa_nil)))) pa_nil)) pa_nil)))) (pa_cons (pe_tup (pa_cons pe_str (pa_cons (pe_tup (pa_cons (pv 2) (pa_cons (pv 4) pa_nil))) (pa_cons (pe_tup (pa_cons (pe_tup (pa_cons pe_str (pa_cons pe_str (pa_cons (pe_tup (pa_cons (pv 2) (pa_cons (pv 3) pa_nil))) pa_nil)))) (pa_cons (pe_tup (pa_cons pe_str (pa_cons pe_str (pa_cons (pe_tup (pa_cons (pv 3) (pa_cons (pv 4) pa_nil))) pa_nil)))) pa_nil))) pa_nil)))) pa_nil))))
    (pss_cons (ps_expr (pe_bm PySem.F.plainAttrs_list PySem.F.slot_list_append PySem.F.type_list_append mt_append (pv 5) (pa_cons (pe_tup (pa_cons pe_str (pa_cons (pe_tup (pa_cons (pv 2) pa_nil)) (pa_cons (pe_tup (pa_cons (pe_tup (pa_cons pe_str (pa_cons pe_str (pa_cons (pe_tup (pa_cons (pv 2) pa_nil)) pa_nil)))) (pa_cons (pe_tup (pa_cons pe_str (pa_cons pe_str (pa_cons (pe_tup (pa_cons (pv 2) (pa_cons (pv 2) pa_nil))) pa_nil)))) pa_nil))) pa_nil)))) pa_nil)))
    (pss_cons (ps_expr (pe_bm PySem.F.plainAttrs_list PySem.F.slot_list_append PySem.F.type_list_append mt_append (pv 5) (pa_cons (pe_tup (pa_cons pe_str (pa_cons (pe_tup (pa_cons (pv 2) pa_nil)) (pa_cons (pe_tup (pa_cons (pe_tup (pa_cons pe_str (pa_cons pe_str (pa_cons (pe_tup (pa_cons (pv 2) (pa_cons (pe_tup (pa_cons pe_str pa_nil)) pa_nil))) pa_nil)))) (pa_cons (pe_tup (pa_cons pe_str (pa_cons pe_str (pa_cons (pv 2) (pa_cons (pv 1) pa_nil))))) pa_nil))) pa_nil)))) pa_nil)))
    (pss_cons (ps_expr (pe_bm PySem.F.plainAttrs_list PySem.F.slot_list_append PySem.F.type_list_append mt_append (pv 5) (pa_cons (pe_tup (pa_cons pe_str (pa_cons (pe_tup (pa_cons (pv 2) (pa_cons (pv 3) pa_nil))) (pa_cons (pe_tup (pa_cons (pe_tup (pa_cons pe_str (pa_cons pe_str (pa_cons (pe_tup (pa_cons (pv 2) pa_nil)) pa_nil)))) (pa_cons (pe_tup (pa_cons pe_str (pa_cons pe_str (pa_cons pe_str (pa_cons (pe_tup (pa_cons (pv 2) (pa_cons (pe_tup (pa_cons pe_str pa_nil)) pa_nil))) pa_nil))))) pa_nil))) pa_nil)))) pa_nil)))
    (pss_cons (ps_expr (pe_bm PySem.F.plainAttrs_list PySem.F.slot_list_append PySem.F.type_list_append mt_append (pv 5) (pa_cons (pe_tup (pa_cons pe_str (pa_cons (pe_tup (pa_cons (pv 2) (pa_cons (pv 3) pa_nil))) (pa_cons (pe_tup (pa_cons (pe_tup (pa_cons pe_str (pa_cons pe_str (pa_cons (pe_tup (pa_cons (pv 2) pa_nil)) pa_nil)))) (pa_cons (pe_tup (pa_cons pe_str (pa_cons pe_str (pa_cons pe_str (pa_cons (pv 2) (pa_cons (pv 1) pa_nil)))))) pa_nil))) pa_nil)))) pa_nil)))
    (pss_cons (ps_expr (pe_bm PySem.F.plainAttrs_list PySem.F.slot_list_append PySem.F.type_list_append mt_append (pv 5) (pa_cons (pe_tup (pa_cons pe_str (pa_cons (pe_tup (pa_cons (pv 2) pa_nil)) (pa_cons (pe_tup (pa_cons (pe_tup (pa_cons pe_str (pa_cons pe_str (pa_cons (pe_tup (pa_cons (pv 2) (pa_cons (pv 3) pa_nil))) pa_nil)))) (pa_cons (pe_tup (pa_cons pe_str (pa_cons pe_str (pa_cons (pe_tup (pa_cons (pv 3) pa_nil)) pa_nil)))) pa_nil))) pa_nil)))) pa_nil)))
    (pss_cons (ps_expr (pe_bm PySem.F.plainAttrs_list PySem.F.slot_list_append PySem.F.type_list_append mt_append (pv 5) (pa_cons (pe_tup (pa_cons pe_str (pa_cons (pe_tup (pa_cons (pv 1) pa_nil)) (pa_cons (pe_tup pa_nil) pa_nil)))) pa_nil)))
    (pss_cons (ps_expr (pe_bm PySem.F.plainAttrs_list PySem.F.slot_list_append PySem.F.type_list_append mt_append (pv 5) (pa_cons (pe_tup (pa_cons pe_str (pa_cons (pe_tup (pa_cons (pv 3) (pa_cons (pv 2) pa_nil))) (pa_cons (pe_tup (pa_cons (pe_tup (pa_cons pe_str (pa_cons pe_str (pa_cons (pe_tup (pa_cons (pv 2) (pa_cons (pv 3) pa_nil))) pa_nil)))) pa_nil)) pa_nil)))) pa_nil)))
    (pss_cons (ps_expr (pe_bm PySem.F.plainAttrs_list PySem.F.slot_list_append PySem.F.type_list_append mt_append (pv 5) (pa_cons (pe_tup (pa_cons pe_str (pa_cons (pe_tup (pa_cons (pv 3) pa_nil)) (pa_cons (pe_tup (pa_cons (pe_tup (pa_cons pe_str (pa_cons pe_str (pa_cons (pe_tup (pa_cons (pv 2) pa_nil)) pa_nil)))) (pa_cons (pe_tup (pa_cons pe_str (pa_cons pe_str (pa_cons pe_str (pa_cons (pv 2) (pa_cons (pv 1) pa_nil)))))) pa_nil))) pa_nil)))) pa_nil)))
    (pss_cons (ps_expr (pe_bm PySem.F.plainAttrs_list PySem.F.slot_list_append PySem.F.type_list_append mt_append (pv 5) (pa_cons (pe_tup (pa_cons pe_str (pa_cons (pe_tup (pa_cons (pv 2) pa_nil)) (pa_cons (pe_tup (pa_cons (pe_tup (pa_cons pe_str (pa_cons pe_str (pa_cons (pe_tup (pa_cons (pv 2) pa_nil)) pa_nil)))) (pa_cons (pe_tup (pa_cons pe_str (pa_cons pe_str (pa_cons (pe_tup (pa_cons (pv 2) (pa_cons (pv 2) pa_nil))) pa_nil)))) pa_nil))) pa_nil)))) pa_nil)))
    (pss_cons (ps_expr (pe_bm PySem.F.plainAttrs_list PySem.F.slot_list_append PySem.F.type_list_append mt_append (pv 5) (pa_cons (pe_tup (pa_cons pe_str (pa_cons (pe_tup (pa_cons (pv 2) pa_nil)) (pa_cons (pe_tup (pa_cons (pe_tup (pa_cons pe_str (pa_cons pe_str (pa_cons (pe_tup (pa_cons (pv 2) (pa_cons (pv 1) pa_nil))) pa_nil)))) (pa_cons (pe_tup (pa_cons pe_str (pa_cons pe_str (pa_cons (pv 2) (pa_cons (pv 1) pa_nil))))) pa_nil))) pa_nil)))) pa_nil)))
    (pss_cons (ps_expr (pe_bm PySem.F.plainAttrs_list PySem.F.slot_list_append PySem.F.type_list_append mt_append (pv 5) (pa_cons (pe_tup (pa_cons pe_str (pa_cons (pe_tup (pa_cons (pv 2) (pa_cons (pv 3) pa_nil))) (pa_cons (pe_tup (pa_cons (pe_tup (pa_cons pe_str (pa_cons pe_str (pa_cons (pe_tup (pa_cons (pv 2) (pa_cons (pv 3) pa_nil))) pa_nil)))) (pa_cons (pe_tup (pa_cons pe_str (pa_cons pe_str (pa_cons (pe_tup (pa_cons (pv 3) (pa_cons (pv 2) pa_nil))) pa_nil)))) (pa_cons (pe_tup (pa_cons pe_str (pa_cons pe_str (pa_cons (pe_tup (pa_cons (pv 3) pa_nil)) pa_nil)))) pa_nil)))) pa_nil)))) pa_nil)))
    (pss_cons (ps_expr (pe_bm PySem.F.plainAttrs_list PySem.F.slot_list_append PySem.F.type_list_append mt_append (pv 5) (pa_cons (pe_tup (pa_cons pe_str (pa_cons (pe_tup (pa_cons (pv 2) (pa_cons (pv 3) pa_nil))) (pa_cons (pe_tup (pa_cons (pe_tup (pa_cons pe_str (pa_cons pe_str (pa_cons (pe_tup (pa_cons (pv 2) (pa_cons (pv 4) pa_nil))) pa_nil)))) (pa_cons (pe_tup (pa_cons pe_str (pa_cons pe_str (pa_cons (pe_tup (pa_cons (pv 4) (pa_cons (pv 3) pa_nil))) pa_nil)))) pa_nil))) pa_nil)))) pa_nil)))
    (pss_cons (ps_expr (pe_bm PySem.F.plainAttrs_list PySem.F.slot_list_append PySem.F.type_list_append mt_append (pv 5) (pa_cons (pe_tup (pa_cons pe_str (pa_cons (pe_tup (pa_cons (pv 2) (pa_cons (pv 2) pa_nil))) (pa_cons (pe_tup (pa_cons (pe_tup (pa_cons pe_str (pa_cons pe_str (pa_cons (pe_tup (pa_cons (pv 2) (pa_cons (pv 3) pa_nil))) pa_nil)))) (pa_cons (pe_tup (pa_cons pe_str (pa_cons pe_str (pa_cons pe_str (pa_cons (pe_tup (pa_cons (pv 3) (pa_cons (pe_tup (pa_cons pe_str pa_nil)) pa_nil))) pa_nil))))) pa_nil))) pa_nil)))) pa_nil)))
    (pss_cons (ps_expr (pe_bm PySem.F.plainAttrs_list PySem.F.slot_list_append PySem.F.type_list_append mt_append (pv 5) (pa_cons (pe_tup (pa_cons pe_str (pa_cons (pe_tup (pa_cons (pv 2) pa_nil)) (pa_cons (pe_tup (pa_cons (pe_tup (pa_cons pe_str (pa_cons pe_str (pa_cons (pe_tup (pa_cons (pv 2) pa_nil)) pa_nil)))) (pa_cons (pe_tup (pa_cons pe_str (pa_cons pe_str (pa_cons (pe_tup (pa_cons (pv 2) (pa_cons (pv 3) pa_nil))) pa_nil)))) (pa_cons (pe_tup (pa_cons pe_str (pa_cons pe_str (pa_cons (pv 3) (pa_cons (pv 2) pa_nil))))) pa_nil)))) pa_nil)))) pa_nil)))
    (pss_one (ps_ret (pe_ix ix_list (pv 5) (pe_op op_mod (pv 0) pe_int) (fun _ _ => rfl))))))))))))))))))))))), ?_⟩
    have ec : ((n : Int) / 16 % 5) = ((n / 16 % 5 : Nat) : Int) := by omega
    refine ⟨_, rfl, _, _, rfl, rfl, ⟨by decide, by decide⟩, _, _, rfl, rfl, (by show (0 : Int) < 5; decide), by show 2 ≤ sizeLine; decide, fun pc npc => ?_⟩
    have sc1 := same_new (o := .tup [V.str "value", V.int ((n : Int) / 16 % 5)]) npc
    have hc0 : TmAt (upd H pc (.tup [V.str "value", V.int ((n : Int) / 16 % 5)])) pc (cT (n / 16 % 5)) := by
      show _ = some (HO.tup [V.str "value", V.int ((n / 16 % 5 : Nat) : Int)])
      rw [upd_same, ec]
    have sA1 := (Same.refl H).trans sc1
    refine ⟨"x", rfl, fun H2 px s2 _ hx => ?_⟩
    replace hc0 := stays_tm.go s2.t hc0
    have sA2 := (sA1).trans s2
    refine ⟨"y", rfl, fun H3 py s3 _ hy => ?_⟩
    replace hc0 := stays_tm.go s3.t hc0
    replace hx := stays_tm.go s3.t hx
    have sA3 := (sA2).trans s3
    refine ⟨"z", rfl, fun H4 pz s4 _ hz => ?_⟩
    replace hc0 := stays_tm.go s4.t hc0
    replace hx := stays_tm.go s4.t hx
    replace hy := stays_tm.go s4.t hy
    have sA4 := (sA3).trans s4
    have hc5 : n / 16 % 5 < 5 := Nat.mod_lt _ (by decide)
    generalize n / 16 % 5 = c at hc0 hc5
    refine ch_firstS stays_rule (bl_cons stays_rule (b_rule (b_tup stays_tm (by show 2 ≤ 100; decide) (bl_cons stays_tm (b_var stays_tm rfl hx) (bl_cons stays_tm (b_var stays_tm rfl hy) bl_nil))) (b_tup stays_lit (by show 1 ≤ 100; decide) (bl_cons stays_lit (b_fact (b_tup stays_tm (by show 2 ≤ 100; decide) (bl_cons stays_tm (b_var stays_tm rfl hx) (bl_cons stays_tm (b_var stays_tm rfl hy) bl_nil)))) bl_nil))) (bl_cons stays_rule (b_rule (b_tup stays_tm (by show 2 ≤ 100; decide) (bl_cons stays_tm (b_var stays_tm rfl hx) (bl_cons stays_tm (b_var stays_tm rfl hz) bl_nil))) (b_tup stays_lit (by show 2 ≤ 100; decide) (bl_cons stays_lit (b_fact (b_tup stays_tm (by show 2 ≤ 100; decide) (bl_cons stays_tm (b_var stays_tm rfl hx) (bl_cons stays_tm (b_var stays_tm rfl hy) bl_nil)))) (bl_cons stays_lit (b_fact (b_tup stays_tm (by show 2 ≤ 100; decide) (bl_cons stays_tm (b_var stays_tm rfl hy) (bl_cons stays_tm (b_var stays_tm rfl hz) bl_nil)))) bl_nil)))) bl_nil)) (by show 2 ≤ 100; decide) (fun G2 L ch => ?_)
    refine ch_appS stays_rule ch (b_rule (b_tup stays_tm (by show 1 ≤ 100; decide) (bl_cons stays_tm (b_var stays_tm rfl hx) bl_nil)) (b_tup stays_lit (by show 2 ≤ 100; decide) (bl_cons stays_lit (b_fact (b_tup stays_tm (by show 1 ≤ 100; decide) (bl_cons stays_tm (b_var stays_tm rfl hx) bl_nil))) (bl_cons stays_lit (b_not (b_tup stays_tm (by show 2 ≤ 100; decide) (bl_cons stays_tm (b_var stays_tm rfl hx) (bl_cons stays_tm (b_var stays_tm rfl hx) bl_nil)))) bl_nil)))) rfl (by show 2 ≤ 100; decide) (fun G3 ch => ?_)
    refine ch_appS stays_rule ch (b_rule (b_tup stays_tm (by show 1 ≤ 100; decide) (bl_cons stays_tm (b_var stays_tm rfl hx) bl_nil)) (b_tup stays_lit (by show 2 ≤ 100; decide) (bl_cons stays_lit (b_fact (b_tup stays_tm (by show 2 ≤ 100; decide) (bl_cons stays_tm (b_var stays_tm rfl hx) (bl_cons stays_tm b_any bl_nil)))) (bl_cons stays_lit (b_cmp (b_var stays_tm rfl hx) (b_var stays_tm rfl hc0)) bl_nil)))) rfl (by show 3 ≤ 100; decide) (fun G4 ch => ?_)
    refine ch_appS stays_rule ch (b_rule (b_tup stays_tm (by show 2 ≤ 100; decide) (bl_cons stays_tm (b_var stays_tm rfl hx) (bl_cons stays_tm (b_var stays_tm rfl hy) bl_nil))) (b_tup stays_lit (by show 2 ≤ 100; decide) (bl_cons stays_lit (b_fact (b_tup stays_tm (by show 1 ≤ 100; decide) (bl_cons stays_tm (b_var stays_tm rfl hx) bl_nil))) (bl_cons stays_lit (b_cnt (b_tup stays_tm (by show 2 ≤ 100; decide) (bl_cons stays_tm (b_var stays_tm rfl hx) (bl_cons stays_tm b_any bl_nil)))) bl_nil)))) rfl (by show 4 ≤ 100; decide) (fun G5 ch => ?_)
    refine ch_appS stays_rule ch (b_rule (b_tup stays_tm (by show 2 ≤ 100; decide) (bl_cons stays_tm (b_var stays_tm rfl hx) (bl_cons stays_tm (b_var stays_tm rfl hy) bl_nil))) (b_tup stays_lit (by show 2 ≤ 100; decide) (bl_cons stays_lit (b_fact (b_tup stays_tm (by show 1 ≤ 100; decide) (bl_cons stays_tm (b_var stays_tm rfl hx) bl_nil))) (bl_cons stays_lit (b_is (b_var stays_tm rfl hx) (b_var stays_tm rfl hc0)) bl_nil)))) rfl (by show 5 ≤ 100; decide) (fun G6 ch => ?_)
    refine ch_appS stays_rule ch (b_rule (b_tup stays_tm (by show 1 ≤ 100; decide) (bl_cons stays_tm (b_var stays_tm rfl hx) bl_nil)) (b_tup stays_lit (by show 2 ≤ 100; decide) (bl_cons stays_lit (b_fact (b_tup stays_tm (by show 2 ≤ 100; decide) (bl_cons stays_tm (b_var stays_tm rfl hx) (bl_cons stays_tm (b_var stays_tm rfl hy) bl_nil)))) (bl_cons stays_lit (b_not (b_tup stays_tm (by show 1 ≤ 100; decide) (bl_cons stays_tm (b_var stays_tm rfl hy) bl_nil))) bl_nil)))) rfl (by show 6 ≤ 100; decide) (fun G7 ch => ?_)
    refine ch_appS stays_rule ch (b_rule (b_tup stays_tm (by show 1 ≤ 100; decide) (bl_cons stays_tm (b_var stays_tm rfl hc0) bl_nil)) (b_tup stays_lit (by show 0 ≤ 100; decide) bl_nil)) rfl (by show 7 ≤ 100; decide) (fun G8 ch => ?_)
    refine ch_appS stays_rule ch (b_rule (b_tup stays_tm (by show 2 ≤ 100; decide) (bl_cons stays_tm (b_var stays_tm rfl hy) (bl_cons stays_tm (b_var stays_tm rfl hx) bl_nil))) (b_tup stays_lit (by show 1 ≤ 100; decide) (bl_cons stays_lit (b_fact (b_tup stays_tm (by show 2 ≤ 100; decide) (bl_cons stays_tm (b_var stays_tm rfl hx) (bl_cons stays_tm (b_var stays_tm rfl hy) bl_nil)))) bl_nil))) rfl (by show 8 ≤ 100; decide) (fun G9 ch => ?_)
    refine ch_appS stays_rule ch (b_rule (b_tup stays_tm (by show 1 ≤ 100; decide) (bl_cons stays_tm (b_var stays_tm rfl hy) bl_nil)) (b_tup stays_lit (by show 2 ≤ 100; decide) (bl_cons stays_lit (b_fact (b_tup stays_tm (by show 1 ≤ 100; decide) (bl_cons stays_tm (b_var stays_tm rfl hx) bl_nil))) (bl_cons stays_lit (b_is (b_var stays_tm rfl hx) (b_var stays_tm rfl hc0)) bl_nil)))) rfl (by show 9 ≤ 100; decide) (fun G10 ch => ?_)
    refine ch_appS stays_rule ch (b_rule (b_tup stays_tm (by show 1 ≤ 100; decide) (bl_cons stays_tm (b_var stays_tm rfl hx) bl_nil)) (b_tup stays_lit (by show 2 ≤ 100; decide) (bl_cons stays_lit (b_fact (b_tup stays_tm (by show 1 ≤ 100; decide) (bl_cons stays_tm (b_var stays_tm rfl hx) bl_nil))) (bl_cons stays_lit (b_fact (b_tup stays_tm (by show 2 ≤ 100; decide) (bl_cons stays_tm (b_var stays_tm rfl hx) (bl_cons stays_tm (b_var stays_tm rfl hx) bl_nil)))) bl_nil)))) rfl (by show 10 ≤ 100; decide) (fun G11 ch => ?_)
    refine ch_appS stays_rule ch (b_rule (b_tup stays_tm (by show 1 ≤ 100; decide) (bl_cons stays_tm (b_var stays_tm rfl hx) bl_nil)) (b_tup stays_lit (by show 2 ≤ 100; decide) (bl_cons stays_lit (b_fact (b_tup stays_tm (by show 2 ≤ 100; decide) (bl_cons stays_tm (b_var stays_tm rfl hx) (bl_cons stays_tm (b_var stays_tm rfl hc0) bl_nil)))) (bl_cons stays_lit (b_cmp (b_var stays_tm rfl hx) (b_var stays_tm rfl hc0)) bl_nil)))) rfl (by show 11 ≤ 100; decide) (fun G12 ch => ?_)
    refine ch_appS stays_rule ch (b_rule (b_tup stays_tm (by show 2 ≤ 100; decide) (bl_cons stays_tm (b_var stays_tm rfl hx) (bl_cons stays_tm (b_var stays_tm rfl hy) bl_nil))) (b_tup stays_lit (by show 3 ≤ 100; decide) (bl_cons stays_lit (b_fact (b_tup stays_tm (by show 2 ≤ 100; decide) (bl_cons stays_tm (b_var stays_tm rfl hx) (bl_cons stays_tm (b_var stays_tm rfl hy) bl_nil)))) (bl_cons stays_lit (b_not (b_tup stays_tm (by show 2 ≤ 100; decide) (bl_cons stays_tm (b_var stays_tm rfl hy) (bl_cons stays_tm (b_var stays_tm rfl hx) bl_nil)))) (bl_cons stays_lit (b_fact (b_tup stays_tm (by show 1 ≤ 100; decide) (bl_cons stays_tm (b_var stays_tm rfl hy) bl_nil))) bl_nil))))) rfl (by show 12 ≤ 100; decide) (fun G13 ch => ?_)
    refine ch_appS stays_rule ch (b_rule (b_tup stays_tm (by show 2 ≤ 100; decide) (bl_cons stays_tm (b_var stays_tm rfl hx) (bl_cons stays_tm (b_var stays_tm rfl hy) bl_nil))) (b_tup stays_lit (by show 2 ≤ 100; decide) (bl_cons stays_lit (b_fact (b_tup stays_tm (by show 2 ≤ 100; decide) (bl_cons stays_tm (b_var stays_tm rfl hx) (bl_cons stays_tm (b_var stays_tm rfl hz) bl_nil)))) (bl_cons stays_lit (b_fact (b_tup stays_tm (by show 2 ≤ 100; decide) (bl_cons stays_tm (b_var stays_tm rfl hz) (bl_cons stays_tm (b_var stays_tm rfl hy) bl_nil)))) bl_nil)))) rfl (by show 13 ≤ 100; decide) (fun G14 ch => ?_)
    refine ch_appS stays_rule ch (b_rule (b_tup stays_tm (by show 2 ≤ 100; decide) (bl_cons stays_tm (b_var stays_tm rfl hx) (bl_cons stays_tm (b_var stays_tm rfl hx) bl_nil))) (b_tup stays_lit (by show 2 ≤ 100; decide) (bl_cons stays_lit (b_fact (b_tup stays_tm (by show 2 ≤ 100; decide) (bl_cons stays_tm (b_var stays_tm rfl hx) (bl_cons stays_tm (b_var stays_tm rfl hy) bl_nil)))) (bl_cons stays_lit (b_cnt (b_tup stays_tm (by show 2 ≤ 100; decide) (bl_cons stays_tm (b_var stays_tm rfl hy) (bl_cons stays_tm b_any bl_nil)))) bl_nil)))) rfl (by show 14 ≤ 100; decide) (fun G15 ch => ?_)
    refine ch_appS stays_rule ch (b_rule (b_tup stays_tm (by show 1 ≤ 100; decide) (bl_cons stays_tm (b_var stays_tm rfl hx) bl_nil)) (b_tup stays_lit (by show 3 ≤ 100; decide) (bl_cons stays_lit (b_fact (b_tup stays_tm (by show 1 ≤ 100; decide) (bl_cons stays_tm (b_var stays_tm rfl hx) bl_nil))) (bl_cons stays_lit (b_fact (b_tup stays_tm (by show 2 ≤ 100; decide) (bl_cons stays_tm (b_var stays_tm rfl hx) (bl_cons stays_tm (b_var stays_tm rfl hy) bl_nil)))) (bl_cons stays_lit (b_cmp (b_var stays_tm rfl hy) (b_var stays_tm rfl hx)) bl_nil))))) rfl (by show 15 ≤ 100; decide) (fun G16 ch => ?_)
    obtain ⟨s9, n9, h9⟩ := ch
    obtain ⟨xs, p, hL, hat, hp⟩ := pick (m := 16) (g := fun k => tmpl k c) (n := n) h9 rfl (by decide)
    exact ⟨_, rfl, _, rfl, _, _, rfl, rfl, (by show (0 : Int) < 16; decide), L, _, _, _, rfl, rfl, SqL.of_H hL, hat, q _ p _ _ ((sA4).trans s9) (Nat.mod_lt _ (by decide)) hc5 hp⟩
theorem sc_denial : FnScope ["_law_number", "_law_x", "_law_y", "_law_c", "_law_choices"] ["_law_number"] (defScope (topS 75)) := ⟨rfl, rfl, rfl, by decide +kernel, rfl, by decide +kernel, by decide +kernel⟩
theorem ok_denial (T : Tx P K mg) : Cal P w K mg base CX0 2 "_law_denial" spDen := by
  have C1 := ok_v (w := w) (base := base) T
  refine cal_of T 51 75 rfl (by decide +kernel) sc_denial (fun vs H Q E h => ?_) (fun _ _ _ _ _ _ us hl => match us, hl with | [_], _ => rfl) (fun cdv A outer s H vs Q E hr h => ?_)
  · obtain ⟨n, rfl, _⟩ := h
    rfl
  · obtain ⟨n, rfl, q⟩ := h
    refine ⟨_, PSs.nox (pss_cons (ps_set (i := 1) sc_denial.nd rfl (Or.inl rfl) (pe_c C1 hr (pa_cons pe_str pa_nil)))
    (pss_cons (ps_set (i := 2) sc_denial.nd rfl (Or.inl rfl) (pe_c C1 hr (pa_cons pe_str pa_nil)))
    (pss_cons (ps_set (i := 3) sc_denial.nd rfl (Or.inl rfl) (pe_tup (pa_cons pe_str (pa_cons (pe_op op_mod (pe_op op_fdiv (pv 0) pe_int) pe_int) pa_nil))))
    (pss_cons (ps_set (i := 4) sc_denial.nd rfl (Or.inl rfl) (pe_lst (pa_cons (pe_tup (pa_cons (pe_tup (pa_cons pe_str (pa_cons pe_str (pa_cons (pe_tup (pa_cons (pv 1) (pa_cons (pv 2) pa_nil))) pa_nil)))) (pa_cons (pe_tup (pa_cons pe_str (pa_cons pe_str (pa_cons (pe_tup (pa_cons (pv 2) (pa_cons (pv 1) pa_nil))) pa_nil)))) (pa_cons (pe_tup (pa_cons pe_str (pa_cons pe_str (pa_cons (pv 1) (pa_cons (pv 2) pa_nil))))) pa_nil)))) (pa_cons (pe_tup (pa_cons (pe_tup (pa_cons pe_str (pa_cons pe_str (pa_cons (pe_tup (pa_cons (pv 3) pa_nil)) pa_nil)))) pa_nil)) pa_nil))))
    (pss_cons (ps_expr (pe_bm PySem.F.plainAttrs_list PySem.F.slot_list_append PySem.F.type_list_append mt_append (pv 4) (pa_cons (pe_tup (pa_cons (pe_tup (pa_cons pe_str (pa_cons pe_str (pa_cons (pe_tup (pa_cons (pv 1) (pa_cons (pv 1) pa_nil))) pa_nil)))) (pa_cons (pe_tup (pa_cons pe_str (pa_cons pe_str (pa_cons (pe_tup (pa_cons (pv 1) pa_nil)) pa_nil)))) pa_nil))) pa_nil)))
    (pss_cons (ps_expr (pe_bm PySem.F.plainAttrs_list PySem.F.slot_list_append PySem.F.type_list_append mt_append (pv 4) (pa_cons (pe_tup (pa_cons (pe_tup (pa_cons pe_str (pa_cons pe_str (pa_cons pe_str (pa_cons (pe_tup (pa_cons (pe_tup (pa_cons pe_str pa_nil)) pa_nil)) pa_nil))))) (pa_cons (pe_tup (pa_cons pe_str (pa_cons pe_str (pa_cons (pv 1) (pa_cons (pv 3) pa_nil))))) pa_nil))) pa_nil)))
    (pss_cons (ps_expr (pe_bm PySem.F.plainAttrs_list PySem.F.slot_list_append PySem.F.type_list_append mt_append (pv 4) (pa_cons (pe_tup (pa_cons (pe_tup (pa_cons pe_str (pa_cons pe_str (pa_cons (pe_tup (pa_cons (pv 1) (pa_cons (pv 3) pa_nil))) pa_nil)))) (pa_cons (pe_tup (pa_cons pe_str (pa_cons pe_str (pa_cons (pe_tup (pa_cons (pv 1) pa_nil)) pa_nil)))) pa_nil))) pa_nil)))
    (pss_cons (ps_expr (pe_bm PySem.F.plainAttrs_list PySem.F.slot_list_append PySem.F.type_list_append mt_append (pv 4) (pa_cons (pe_tup (pa_cons (pe_tup (pa_cons pe_str (pa_cons pe_str (pa_cons (pe_tup (pa_cons (pv 1) (pa_cons (pv 1) pa_nil))) pa_nil)))) pa_nil)) pa_nil)))
    (pss_cons (ps_expr (pe_bm PySem.F.plainAttrs_list PySem.F.slot_list_append PySem.F.type_list_append mt_append (pv 4) (pa_cons (pe_tup (pa_cons (pe_tup (pa_cons pe_str (pa_cons pe_str (pa_cons (pe_tup (pa_cons (pv 3) pa_nil)) pa_nil)))) (pa_cons (pe_tup (pa_cons pe_str (pa_cons pe_str (pa_cons (pe_tup (pa_cons (pv 1) (pa_cons (pv 2) pa_nil))) pa_nil)))) (pa_cons (pe_tup (pa_cons pe_str (pa_cons pe_str (pa_cons (pv 1) (pa_cons (pv 3) pa_nil))))) pa_nil)))) pa_nil)))
    (pss_cons (ps_expr (pe_bm PySem.F.plainAttrs_list PySem.F.slot_list_append PySem.F.type_list_append mt_append (pv 4) (pa_cons (pe_tup (pa_cons (pe_tup (pa_cons pe_str (pa_cons pe_str (pa_cons (pe_tup (pa_cons (pv 1) pa_nil)) pa_nil)))) (pa_cons (pe_tup (pa_cons pe_str (pa_cons pe_str (pa_cons (pe_tup (pa_cons (pv 1) (pa_cons (pv 2) pa_nil))) pa_nil)))) pa_nil))) pa_nil)))
    (pss_one (ps_ret (pe_ix ix_list (pv 4) (pe_op op_mod (pv 0) pe_int) (fun _ _ => rfl)))))))))))))), ?_⟩
    refine ⟨"x", rfl, fun H1 px s1 _ hx => ?_⟩
    have sA1 := (Same.refl H).trans s1
    refine ⟨"y", rfl, fun H2 py s2 _ hy => ?_⟩
    replace hx := stays_tm.go s2.t hx
    have sA2 := (sA1).trans s2
    have ec : ((n : Int) / 8 % 5) = ((n / 8 % 5 : Nat) : Int) := by omega
    refine ⟨_, rfl, _, _, rfl, rfl, ⟨by decide, by decide⟩, _, _, rfl, rfl, (by show (0 : Int) < 5; decide), by show 2 ≤ sizeLine; decide, fun pc npc => ?_⟩
    have sc3 := same_new (o := .tup [V.str "value", V.int ((n : Int) / 8 % 5)]) npc
    have hc0 : TmAt (upd H2 pc (.tup [V.str "value", V.int ((n : Int) / 8 % 5)])) pc (cT (n / 8 % 5)) := by
      show _ = some (HO.tup [V.str "value", V.int ((n / 8 % 5 : Nat) : Int)])
      rw [upd_same, ec]
    replace hx := stays_tm.go sc3.t hx
    replace hy := stays_tm.go sc3.t hy
    have sA3 := (sA2).trans sc3
    have hc5 : n / 8 % 5 < 5 := Nat.mod_lt _ (by decide)
    generalize n / 8 % 5 = c at hc0 hc5
    refine ch_firstS stays_body (bl_cons stays_body (b_tup stays_lit (by show 3 ≤ 100; decide) (bl_cons stays_lit (b_fact (b_tup stays_tm (by show 2 ≤ 100; decide) (bl_cons stays_tm (b_var stays_tm rfl hx) (bl_cons stays_tm (b_var stays_tm rfl hy) bl_nil)))) (bl_cons stays_lit (b_fact (b_tup stays_tm (by show 2 ≤ 100; decide) (bl_cons stays_tm (b_var stays_tm rfl hy) (bl_cons stays_tm (b_var stays_tm rfl hx) bl_nil)))) (bl_cons stays_lit (b_cmp (b_var stays_tm rfl hx) (b_var stays_tm rfl hy)) bl_nil)))) (bl_cons stays_body (b_tup stays_lit (by show 1 ≤ 100; decide) (bl_cons stays_lit (b_fact (b_tup stays_tm (by show 1 ≤ 100; decide) (bl_cons stays_tm (b_var stays_tm rfl hc0) bl_nil))) bl_nil)) bl_nil)) (by show 2 ≤ 100; decide) (fun G2 L ch => ?_)
    refine ch_appS stays_body ch (b_tup stays_lit (by show 2 ≤ 100; decide) (bl_cons stays_lit (b_fact (b_tup stays_tm (by show 2 ≤ 100; decide) (bl_cons stays_tm (b_var stays_tm rfl hx) (bl_cons stays_tm (b_var stays_tm rfl hx) bl_nil)))) (bl_cons stays_lit (b_not (b_tup stays_tm (by show 1 ≤ 100; decide) (bl_cons stays_tm (b_var stays_tm rfl hx) bl_nil))) bl_nil))) rfl (by show 2 ≤ 100; decide) (fun G3 ch => ?_)
    refine ch_appS stays_body ch (b_tup stays_lit (by show 2 ≤ 100; decide) (bl_cons stays_lit (b_cnt (b_tup stays_tm (by show 1 ≤ 100; decide) (bl_cons stays_tm b_any bl_nil))) (bl_cons stays_lit (b_cmp (b_var stays_tm rfl hx) (b_var stays_tm rfl hc0)) bl_nil))) rfl (by show 3 ≤ 100; decide) (fun G4 ch => ?_)
    refine ch_appS stays_body ch (b_tup stays_lit (by show 2 ≤ 100; decide) (bl_cons stays_lit (b_fact (b_tup stays_tm (by show 2 ≤ 100; decide) (bl_cons stays_tm (b_var stays_tm rfl hx) (bl_cons stays_tm (b_var stays_tm rfl hc0) bl_nil)))) (bl_cons stays_lit (b_fact (b_tup stays_tm (by show 1 ≤ 100; decide) (bl_cons stays_tm (b_var stays_tm rfl hx) bl_nil))) bl_nil))) rfl (by show 4 ≤ 100; decide) (fun G5 ch => ?_)
    refine ch_appS stays_body ch (b_tup stays_lit (by show 1 ≤ 100; decide) (bl_cons stays_lit (b_fact (b_tup stays_tm (by show 2 ≤ 100; decide) (bl_cons stays_tm (b_var stays_tm rfl hx) (bl_cons stays_tm (b_var stays_tm rfl hx) bl_nil)))) bl_nil)) rfl (by show 5 ≤ 100; decide) (fun G6 ch => ?_)
    refine ch_appS stays_body ch (b_tup stays_lit (by show 3 ≤ 100; decide) (bl_cons stays_lit (b_not (b_tup stays_tm (by show 1 ≤ 100; decide) (bl_cons stays_tm (b_var stays_tm rfl hc0) bl_nil))) (bl_cons stays_lit (b_fact (b_tup stays_tm (by show 2 ≤ 100; decide) (bl_cons stays_tm (b_var stays_tm rfl hx) (bl_cons stays_tm (b_var stays_tm rfl hy) bl_nil)))) (bl_cons stays_lit (b_cmp (b_var stays_tm rfl hx) (b_var stays_tm rfl hc0)) bl_nil)))) rfl (by show 6 ≤ 100; decide) (fun G7 ch => ?_)
    refine ch_appS stays_body ch (b_tup stays_lit (by show 2 ≤ 100; decide) (bl_cons stays_lit (b_fact (b_tup stays_tm (by show 1 ≤ 100; decide) (bl_cons stays_tm (b_var stays_tm rfl hx) bl_nil))) (bl_cons stays_lit (b_fact (b_tup stays_tm (by show 2 ≤ 100; decide) (bl_cons stays_tm (b_var stays_tm rfl hx) (bl_cons stays_tm (b_var stays_tm rfl hy) bl_nil)))) bl_nil))) rfl (by show 7 ≤ 100; decide) (fun G8 ch => ?_)
    obtain ⟨s9, n9, h9⟩ := ch
    obtain ⟨xs, p, hL, hat, hp⟩ := pick (m := 8) (g := fun k => dtmpl k c) (n := n) h9 rfl (by decide)
    exact ⟨_, rfl, _, rfl, _, _, rfl, rfl, (by show (0 : Int) < 8; decide), L, _, _, _, rfl, rfl, SqL.of_H hL, hat, q _ p _ _ ((sA3).trans s9) (Nat.mod_lt _ (by decide)) hc5 hp⟩
end
end Rs


set_option Elab.async false
set_option linter.all false
set_option maxRecDepth 100000
set_option maxHeartbeats 2000000
/-! # S18: _law_statements -/
namespace Rs
open PySem PySem.Spec PyProof.Rows L2
def spStm (K : PySem.W.Frag) : Sp := fun vs H Q _ => ∃ (sc : Addr) (ns : List Int) (st ct : Nat), vs = [.ref sc, .int (st : Int), .int (ct : Int)] ∧ SqL K H sc (ns.map V.int) ∧ ns.length ≤ 1000 ∧ st + ct ≤ 1000 ∧
  ∀ (H' : Hp) (q : Addr) (l : List Sm), Same H H' → LstOf SmAt H' q l → (∀ x ∈ l, GoodSm x ∧ isDeny x = false) → l.length ≤ 1002 → (∃ l', l = .rel "p" 2 :: l') → Q (.ref q) H'
theorem rowP_mem {r : Row} (h : ∀ x ∈ r, x ∈ baseK) (hl : r.length = 2) : r ∈ rowsP := by
  match r, hl with
  | [a, b], _ => exact List.mem_flatMap.mpr ⟨a, h a (by simp), List.mem_map_of_mem (h b (by simp))⟩
theorem rowQ_mem {r : Row} (h : ∀ x ∈ r, x ∈ baseK) (hl : r.length = 1) : r ∈ rowsQ := by
  match r, hl with
  | [a], _ => exact List.mem_map_of_mem (f := fun a => [a]) (h a (by simp))
theorem name_mem {m : Nat} (h : m < 20) : ("n" : Str) ++ Str.ofString (toString (m : Int)) ∈ ruleNames := by
  have e : toString (m : Int) = toString m := rfl
  rw [e]
  exact List.mem_map_of_mem (f := fun k : Nat => ("n" : Str) ++ Str.ofString (toString k)) (List.mem_range.mpr h)
theorem name_len : ∀ m : Nat, m < 20 → ("n" : Str).length + (Str.ofString (toString (m : Int))).length ≤ 100 := by decide +kernel
theorem push_sm {H H2 : Hp} {L TP : Addr} {ps : List (Addr × Sm)} {sm : Sm} {o : HO} (hL : H L = some (.lst (ps.map fun q => V.ref q.1))) (hps : ∀ q ∈ ps, SmAt H q.1 q.2) (s : Same H H2) (nT : H2 TP = none) (hs : SmAt (upd H2 TP o) TP sm) :
    LstOf SmAt (upd (upd H2 TP o) L (.lst ((ps.map fun q => V.ref q.1) ++ [V.ref TP]))) L (ps.map (·.2) ++ [sm]) := by
  have sT := same_new (o := o) nT
  have hL2 := sT _ _ (s _ _ hL)
  exact ⟨ps ++ [(TP, sm)], by rw [upd_same, List.map_append]; rfl, by rw [List.map_append]; rfl, push_item stays_sm (s.trans sT) hps hL2 hs⟩
section
variable {P : Program} {w : World} {K : PySem.W.Frag} {mg : Str → Option Value} {base : Heap}
theorem sc_stm : FnScope ["_law_script", "_law_start", "_law_count", "_law_statements_here", "_law_k", "_law_number", "_law_relation", "_law_terms", "_law_body"] ["_law_script", "_law_start", "_law_count"] (defScope (topS 73)) := ⟨rfl, rfl, rfl, by decide +kernel, rfl, by decide +kernel, by decide +kernel⟩
theorem ok_stm (T : Tx P K mg) : Cal P w K mg base CX0 3 "_law_statements" (spStm K) := by
  have C1 := ok_draw (w := w) (base := base) T
  have C2 := ok_rule (w := w) (base := base) T
  have C3 := ok_row (w := w) (base := base) T
  refine cal_of T 49 73 rfl (by decide +kernel) sc_stm (fun vs H Q E h => ?_) (fun _ _ _ _ _ _ us hl => match us, hl with | [_, _, _], _ => rfl) (fun cdv A outer s H vs Q E hr h => ?_)
  · obtain ⟨sc, ns, st, ct, rfl, _⟩ := h
    rfl
  · obtain ⟨sc, ns, st, ct, rfl, hsc, hns, hct, q⟩ := h
    refine ⟨_, PSs.nox (pss_cons (ps_set (i := 3) sc_stm.nd rfl (Or.inl rfl) (pe_lst (pa_cons (pe_tup (pa_cons pe_str (pa_cons pe_str (pa_cons pe_int pa_nil)))) (pa_cons (pe_tup (pa_cons pe_str (pa_cons pe_str (pa_cons pe_int pa_nil)))) pa_nil))))
    (pss_cons (ps_for PassesOwn.never rfl (pi_range1 (by rfl) (T.fr "range") (pa_cons (pv 2) pa_nil)) (pg_name (i := 4) sc_stm.nd rfl (Or.inl rfl))
    (pss_cons (ps_set (i := 5) sc_stm.nd rfl (Or.inl rfl) (pe_c C1 hr (pa_cons (pv 0) (pa_cons (pe_op op_add (pv 1) (pv 4)) pa_nil))))
    (pss_one (ps_if (pt_cmpR op_eq (pe_op op_mod (pv 5) pe_int) pe_int (nomark _)) (pss_cons (ps_asg (pe_c C2 hr (pa_cons (pe_op op_fdiv (pv 5) pe_int) pa_nil)) (pg_tup rfl (pgs_cons (pg_name (i := 6) sc_stm.nd rfl (Or.inl rfl)) (pgs_cons (pg_name (i := 7) sc_stm.nd rfl (Or.inl rfl)) (pgs_cons (pg_name (i := 8) sc_stm.nd rfl (Or.inl rfl)) pgs_nil)))))
    (pss_one (ps_expr (pe_bm PySem.F.plainAttrs_list PySem.F.slot_list_append PySem.F.type_list_append mt_append (pv 3) (pa_cons (pe_tup (pa_cons pe_str (pa_cons (pe_op op_add_str pe_str (pe_callTy call_str_int (by rfl) (T.fr "str") (by decide +kernel) (pa_cons (pe_op op_mod (pv 4) pe_int) pa_nil))) (pa_cons (pv 6) (pa_cons (pv 7) (pa_cons (pv 8) pa_nil)))))) pa_nil))))) (pss_one (ps_if (pt_cmpR op_eq (pe_op op_mod (pv 5) pe_int) pe_int (nomark _)) (pss_one (ps_expr (pe_bm PySem.F.plainAttrs_list PySem.F.slot_list_append PySem.F.type_list_append mt_append (pv 3) (pa_cons (pe_tup (pa_cons pe_str (pa_cons pe_str (pa_cons (pe_c C3 hr (pa_cons (pe_op op_fdiv (pv 5) pe_int) (pa_cons pe_int pa_nil))) pa_nil)))) pa_nil)))) (pss_one (ps_expr (pe_bm PySem.F.plainAttrs_list PySem.F.slot_list_append PySem.F.type_list_append mt_append (pv 3) (pa_cons (pe_tup (pa_cons pe_str (pa_cons pe_str (pa_cons (pe_c C3 hr (pa_cons (pe_op op_fdiv (pv 5) pe_int) (pa_cons pe_int pa_nil))) pa_nil)))) pa_nil))))))))))
    (pss_one (ps_ret (pv 3))))), ?_⟩
    refine ⟨by show 3 ≤ sizeLine; decide, fun T1 n1 => ⟨by show 3 ≤ sizeLine; decide, fun T2 n2 => ⟨by show 2 ≤ sizeLine; decide, fun L nL => ?_⟩⟩⟩
    have s1 := same_new (o := .tup [V.str "relation", V.str "p", V.int 2]) n1
    have s2 := same_new (o := .tup [V.str "relation", V.str "q", V.int 1]) n2
    have s3 := same_new (o := .lst [V.ref T1, V.ref T2]) nL
    have s03 := (s1.trans s2).trans s3
    have nL0 : H L = none := (s1.trans s2).free nL
    refine ⟨_, rfl, _, rfl, by omega, by omega, for_range (lo := 0) (n := ct) (fun i σ H' => ∃ v4 v5 v6 v7 v8 l, σ = [some (.ref sc), some (.int (st : Int)), some (.int (ct : Int)), some (.ref L), v4, v5, v6, v7, v8] ∧ Same H H' ∧ LstOf SmAt H' L l ∧ (∀ x ∈ l, GoodSm x ∧ isDeny x = false) ∧ l.length = i + 2 ∧ ∃ l', l = .rel "p" 2 :: l')
      ⟨none, none, none, none, none, [.rel "p" 2, .rel "q" 1], rfl, s03, ⟨[(T1, .rel "p" 2), (T2, .rel "q" 1)], upd_same, rfl, fun x hx => ?_⟩, fun x hx => ?_, rfl, _, rfl⟩ ?_ ?_⟩
    · rcases List.mem_cons.mp hx with rfl | hx
      · exact s3 _ _ (s2 _ _ upd_same)
      · rw [List.mem_singleton.mp hx]
        exact s3 _ _ upd_same
    · rcases List.mem_cons.mp hx with rfl | hx
      · exact ⟨.inl ⟨rfl, rfl⟩, rfl⟩
      · rw [List.mem_singleton.mp hx]
        exact ⟨.inr ⟨rfl, rfl⟩, rfl⟩
    · rintro i σ H' hi ⟨v4, v5, v6, v7, v8, l, rfl, sm, ⟨ps, hL, eps, hps⟩, hgl, hll, l', el'⟩
      have hl1000 : (ps.map fun q => V.ref q.1).length < sizeLine := by
        rw [← eps, List.length_map] at hll
        rw [List.length_map, sizeLine_eq]
        omega
      refine ⟨_, rfl, _, rfl, _, rfl, _, _, rfl, rfl, sc, ns, st + i, congrArg (fun z => [V.ref sc, V.int z]) (by omega), sm.seq hsc, hns, by omega, fun n hn => ?_⟩
      have fin : ∀ (H2 : Hp) (TP : Addr) (o : HO) (x : Sm) (σ' : L2.St) (v4 v5 v6 v7 v8 : Option V), σ' = [some (.ref sc), some (.int (st : Int)), some (.int (ct : Int)), some (.ref L), v4, v5, v6, v7, v8] → Same H' H2 → H2 TP = none → SmAt (upd H2 TP o) TP x → GoodSm x → isDeny x = false →
          ∃ v4 v5 v6 v7 v8 l, σ' = [some (.ref sc), some (.int (st : Int)), some (.int (ct : Int)), some (.ref L), v4, v5, v6, v7, v8] ∧ Same H (upd (upd H2 TP o) L (.lst ((ps.map fun q => V.ref q.1) ++ [V.ref TP]))) ∧ LstOf SmAt (upd (upd H2 TP o) L (.lst ((ps.map fun q => V.ref q.1) ++ [V.ref TP]))) L l ∧ (∀ x ∈ l, GoodSm x ∧ isDeny x = false) ∧ l.length = i + 1 + 2 ∧ ∃ l', l = .rel "p" 2 :: l' := by
        intro H2 TP o x σ' w4 w5 w6 w7 w8 e s2 nT hx hg hd
        refine ⟨w4, w5, w6, w7, w8, ps.map (·.2) ++ [x], e, same0_upd ((sm.trans s2).trans (same_new nT)) nL0, push_sm hL hps s2 nT hx, fun y hy => ?_, by rw [eps, List.length_append, List.length_singleton, hll], l' ++ [x], by rw [eps, el']; rfl⟩
        rcases List.mem_append.mp hy with hy | hy
        · rw [eps] at hy
          exact hgl y hy
        · rw [List.mem_singleton.mp hy]
          exact ⟨hg, hd⟩
      refine ⟨_, rfl, _, _, rfl, rfl, (by show (0 : Int) < 3; decide), rfl, _, rfl, iteB (fun _ => ?_) (fun _ => ?_)⟩
      · refine ⟨_, rfl, _, _, rfl, rfl, ⟨by decide, by decide⟩, n / 3, congrArg (fun z => [V.int z]) (by omega), fun H2 p k c s2 hk hc hrule => ?_⟩
        obtain ⟨a, b, h1, h2, h3⟩ := hrule
        have hi20 : ((0 : Int) + (i : Int)) % 20 = ((i % 20 : Nat) : Int) := by omega
        have hm20 : i % 20 < 20 := Nat.mod_lt _ (by decide)
        refine ⟨p, _, rfl, SqT.of_H h1, rfl, _, _, rfl, _, _, rfl, _, _, rfl, rfl, ?_⟩
        refine ⟨_, rfl, .inl ⟨rfl, _, SqL.of_H (s2 _ _ hL)⟩, _, rfl, _, _, rfl, rfl, (by show (0 : Int) < 20; decide), _, rfl, ?_, _, _, rfl, rfl, ?_, _, rfl, _, rfl, _, rfl, by show 5 ≤ sizeLine; decide, fun TP nTP => ?_⟩
        · rw [hi20]
          refine Nat.lt_of_le_of_lt (Nat.log2_le_self _) ?_
          omega
        · rw [hi20, sizeLine_eq]
          have := name_len _ hm20
          omega
        · refine ⟨L, _, _, rfl, rfl, (same_new nTP) _ _ (s2 _ _ hL), hl1000, ?_⟩
          have sT := same_new (o := .tup [V.str "rule", V.str (("n" : Str) ++ Str.ofString (toString ((0 + (i : Int)) % 20))), V.str (tmpl k c).rel, V.ref a, V.ref b]) nTP
          refine fin H2 TP _ (.rule (("n" : Str) ++ Str.ofString (toString ((0 + (i : Int)) % 20))) (tmpl k c)) _ _ _ _ _ _ rfl s2 nTP ⟨a, b, upd_same, stays_tms.go sT.t h2, stays_body.go sT.t h3⟩ ?_ rfl
          refine ⟨?_, k, c, hk, hc, rfl⟩
          rw [hi20]
          exact name_mem hm20
      · refine ⟨_, rfl, _, _, rfl, rfl, (by show (0 : Int) < 3; decide), rfl, _, rfl, iteB (fun _ => ?_) (fun _ => ?_)⟩
        · refine ⟨_, rfl, .inl ⟨rfl, _, SqL.of_H hL⟩, _, rfl, _, _, rfl, rfl, ⟨by decide, by decide⟩, n / 3, 2, congrArg (fun z => [V.int z, V.int 2]) (by omega), by decide, fun H2 p r s2 hlr hbr hr2 => ⟨by show 3 ≤ sizeLine; decide, fun TP nTP => ?_⟩⟩
          refine ⟨L, _, _, rfl, rfl, (same_new nTP) _ _ (s2 _ _ hL), hl1000, ?_⟩
          exact fin H2 TP _ (.add "p" r) _ _ _ _ _ _ rfl s2 nTP ⟨p, upd_same, (same_new nTP) _ _ hr2⟩ (.inl ⟨rfl, rowP_mem hbr hlr⟩) rfl
        · refine ⟨_, rfl, .inl ⟨rfl, _, SqL.of_H hL⟩, _, rfl, _, _, rfl, rfl, ⟨by decide, by decide⟩, n / 3, 1, congrArg (fun z => [V.int z, V.int 1]) (by omega), by decide, fun H2 p r s2 hlr hbr hr2 => ⟨by show 3 ≤ sizeLine; decide, fun TP nTP => ?_⟩⟩
          refine ⟨L, _, _, rfl, rfl, (same_new nTP) _ _ (s2 _ _ hL), hl1000, ?_⟩
          exact fin H2 TP _ (.add "q" r) _ _ _ _ _ _ rfl s2 nTP ⟨p, upd_same, (same_new nTP) _ _ hr2⟩ (.inr ⟨rfl, rowQ_mem hbr hlr⟩) rfl
    · rintro σ H' ⟨v4, v5, v6, v7, v8, l, rfl, sm, hl, hgl, hll, hl'⟩
      exact ⟨_, rfl, q H' L l sm hl hgl (by omega) hl'⟩
end
end Rs


set_option Elab.async false
set_option linter.all false
set_option maxRecDepth 100000
set_option maxHeartbeats 2000000
/-! # S19: _law_state -/
namespace Rs
open PySem PySem.Spec PyProof.Rows L2
def spState (K : PySem.W.Frag) : Sp := fun vs H Q _ => ∃ (sc : Addr) (ns : List Int) (st ct : Nat), vs = [.ref sc, .int (st : Int), .int (ct : Int)] ∧ SqL K H sc (ns.map V.int) ∧ ns.length ≤ 1000 ∧ st + ct ≤ 1000 ∧
  ∀ (H' : Hp) (q : Addr) (s' : St), Same H H' → StAt K H' q s' → LInv s' → s'.dens = [] → HasRel s' → Q (.ref q) H'
def sayT (K : PySem.W.Frag) (a b : Nat) : TS := fun D σ H => tAsg (tOp (rIxT K) (tCallS (spSay K fun _ => True) (WE (wOnly K (.ref (He.ga K "Refused")) (fun _ _ _ => tNext) (fun _ _ _ _ => False) D)) (tCons (tVar a) (tCons (tVar b) tNil))) (tC (.int 1))) (gName a) D σ H
section
variable {P : Program} {w : World} {K : PySem.W.Frag} {mg : Str → Option Value} {base : Heap}
theorem sc_state : FnScope ["_law_script", "_law_start", "_law_count", "_law_state_here", "_law_statement"] ["_law_script", "_law_start", "_law_count"] (defScope (topS 74)) := ⟨rfl, rfl, rfl, by decide +kernel, rfl, by decide +kernel, by decide +kernel⟩
theorem ok_state (T : Tx P K mg) : Cal P w K mg base CX0 13 "_law_state" (spState K) := by
  have C1 := ok_stm (w := w) (base := base) T
  have C2 := ok_say (w := w) (base := base) T
  obtain ⟨fdi, psi, FI, bI⟩ := (ok_init (w := w) (base := base) T).ex
  refine cal_of T 50 74 rfl (by decide +kernel) sc_state (fun vs H Q E h => ?_) (fun _ _ _ _ _ _ us hl => match us, hl with | [_, _, _], _ => rfl) (fun cdv A outer s H vs Q E hr h => ?_)
  · obtain ⟨sc, ns, st, ct, rfl, _⟩ := h
    rfl
  · obtain ⟨sc, ns, st, ct, rfl, hsc, hns, hct, q⟩ := h
    refine ⟨_, PSs.nox (pss_cons (ps_set (i := 3) sc_state.nd rfl (Or.inl rfl) (pe_make T.mkS FI (hr.mono (by decide)) (by rfl) (T.glo "State") bI .nil pass0 (pa_cons (pe_lst pa_nil) pa_nil)))
    (pss_cons (ps_for PassesOwn.never rfl (pi_list (pe_c C1 hr (pa_cons (pv 0) (pa_cons (pv 1) (pa_cons (pv 2) pa_nil))))) (pg_name (i := 4) sc_state.nd rfl (Or.inl rfl))
    (pss_one (ps_try_only (tb := fun W => tAsg (tOp (rIxT K) (tCallS (spSay K fun _ => True) (WE W) (tCons (tVar 3) (tCons (tVar 4) tNil))) (tC (.int 1))) (gName 3)) (ts := fun _ _ _ => tNext) (Wout := fun _ _ _ _ => False) rfl rfl ⟨rfl, by decide, Or.inl T.rf.gC⟩ takes0
      (fun W pn xe tk _ => pss_one (ps_set (i := 3) sc_state.nd rfl (Or.inl rfl) (pe_ix (ix_tupK rfl) (pe_cS C2 hr tk (pa_cons (pv 3) (pa_cons (pv 4) pa_nil))) pe_int (fun _ _ => rfl)))) (fun a oe cls d pn _ _ => pss_one ps_pass))))
    (pss_one (ps_ret (pv 3))))), ?_⟩
    refine ⟨Nat.zero_le _, fun L nL => fun x dx nx ndx ne => ?_⟩
    have sL := same_new (o := .lst []) nL
    refine ⟨_, x, dx, L, [], rfl, nx, fun b o e => ?_, upd_same, ⟨[], upd_same, rfl, fun q hq => (by cases hq)⟩, fun i hi => (by cases hi), Nat.zero_le _, fun H2 ho => ⟨rfl, ?_⟩⟩
    · rw [upd_ne (ne_of_none e nx), upd_ne (ne_of_none e ndx)]
      exact e
    have s2 : Same H H2 := sL.trans ho.same0
    have hst0 := ho.at
    rw [show tidyM (([] : List Item).foldl putM emptySt) = emptySt from tidy_empty] at hst0
    refine ⟨_, rfl, _, rfl, _, rfl, sc, ns, st, ct, rfl, s2.seq hsc, hns, hct, fun H3 q3 l s3 ⟨ps, hL3, eps, hps⟩ hgl hll ⟨l', el'⟩ => ?_⟩
    have lps : ps.length ≤ 1002 := by rw [← eps, List.length_map] at hll; exact hll
    refine ⟨q3, rfl, ⟨_, SqL.of_H hL3⟩, for_W (walks_list (K := K) (a := q3) (l := ps) (f := fun q : Addr × Sm => V.ref q.1)) (tb := sayT K 3 4) (fun pre σ H' => ∃ v4 xa s', σ = [some (.ref sc), some (.int (st : Int)), some (.int (ct : Int)), some (.ref xa), v4] ∧ Same H3 H' ∧ StAt K H' xa s' ∧ LInv s' ∧ s'.dens = [] ∧ (pre ≠ [] → HasRel s')) ⟨none, x, emptySt, rfl, Same.refl _, hst0.same s3, LInv.empty, rfl, fun z => absurd rfl z⟩ (fun pre σ H' ⟨_, _, _, _, s, _⟩ => SqL.of_H (s _ _ hL3)) ?_ ?_⟩
    · rintro pre ⟨qa, sm⟩ post σ H' el ⟨v4, xa, s', rfl, sm4, hst, hli, hde, hre⟩
      have hfirst : pre = [] → isRel sm = true := fun z => by
        rw [z] at el
        rw [← eps, el] at el'
        have e1 := (List.cons.inj el').1
        have e2 : sm = .rel "p" 2 := e1
        rw [e2]
        rfl
      have hm : (qa, sm) ∈ ps := by rw [el]; simp
      obtain ⟨hg, hnd⟩ := hgl sm (by rw [← eps]; exact List.mem_map_of_mem (f := fun q : Addr × Sm => q.2) hm)
      refine ⟨_, rfl, _, rfl, xa, qa, s', sm, rfl, hst, ⟨hli, fun _ => hde⟩, stays_sm.go sm4.t (hps _ hm), hg, trivial, fun hh H4 d s4 => ?_, fun H4 t ans q4 s4' s4 ht hst4 hstage hrl => ?_⟩
      · exact ⟨true, T.rf.te, fun _ a ha => ⟨_, xa, s', rfl, sm4.trans s4, hst.same s4, hli, hde, fun _ => by
          by_cases z : pre = []
          · exact hh (hfirst z)
          · exact hre z⟩, fun z => (by cases z)⟩
      · refine ⟨t, _, 1, _, rfl, rfl, SqT.of_H ht, atI_nat rfl, ?_⟩
        exact ⟨_, q4, s4', rfl, sm4.trans s4, hst4, hstage.1, hstage.2 hnd, fun _ => hrl (by
          by_cases z : pre = []
          · exact .inr (hfirst z)
          · exact .inl (hre z))⟩
    · rintro σ H' ⟨v4, xa, s', rfl, sm4, hst, hli, hde, hre⟩
      refine ⟨_, rfl, q H' xa s' ((s2.trans s3).trans sm4) hst hli hde (hre fun z => ?_)⟩
      rw [← eps, z] at el'
      cases el'
end
end Rs


set_option Elab.async false
set_option linter.all false
set_option maxRecDepth 100000
set_option maxHeartbeats 2000000
/-! # S20: turned, _law_turned -/
namespace Rs
open PySem PySem.Spec PyProof.Rows L2
def chgsM (st : St) (l : List (Str × Row)) : List Chg := l.map fun x => if x.2 ∈ rowsOf st.facts x.1 then .goes x.1 x.2 else .comes (.fact x.1 x.2)
def turnM (st : St) (l : List (Str × Row)) : St := changeM st (chgsM st l)
def GoodF (x : Str × Row) : Prop := GoodI (.fact x.1 x.2)
theorem chgs_good {st : St} {l : List (Str × Row)} (h : ∀ x ∈ l, GoodF x) : ∀ c ∈ chgsM st l, GoodC c := fun c hc => by
  obtain ⟨x, hx, rfl⟩ := List.mem_map.mp hc
  have hg := h x hx
  by_cases e : x.2 ∈ rowsOf st.facts x.1
  · rw [if_pos e]
    rcases hg with hg | hg
    · exact .inl hg.1
    · exact .inr hg.1
  · rw [if_neg e]
    exact hg
theorem chgs_fact {st : St} {l : List (Str × Row)} : ∀ c ∈ chgsM st l, isFactC c := fun c hc => by
  obtain ⟨x, hx, rfl⟩ := List.mem_map.mp hc
  by_cases e : x.2 ∈ rowsOf st.facts x.1
  · rw [if_pos e]
    trivial
  · rw [if_neg e]
    trivial
def spTurned (K : PySem.W.Frag) : Sp := fun vs H Q _ => ∃ (p c : Addr) (st : St) (l : List (Str × Row)), vs = [.ref p, .ref c] ∧ StAt K H p st ∧ GoodS st ∧ LstOf PairR H c l ∧ (∀ x ∈ l, GoodF x) ∧ l.length ≤ 1000 ∧ ∀ (H' : Hp) (q : Addr), Same H H' → StAt K H' q (turnM st l) → Q (.ref q) H'
section
variable {P : Program} {w : World} {K : PySem.W.Frag} {mg : Str → Option Value} {base : Heap}
theorem sc_turned : FnScope ["state", "facts", "changes", "relation", "row"] ["state", "facts"] (defScope (topS 49)) := ⟨rfl, rfl, rfl, by decide +kernel, rfl, by decide +kernel, by decide +kernel⟩
theorem ok_turned (T : Tx P K mg) : Cal P w K mg base CX0 10 "turned" (spTurned K) := by
  have C1 := ok_has (w := w) (base := base) T
  have C2 := ok_change (w := w) (base := base) T
  refine cal_of T 36 49 rfl (by decide +kernel) sc_turned (fun vs H Q E h => ?_) (fun _ _ _ _ _ _ us hl => match us, hl with | [_, _], _ => rfl) (fun cdv A outer s H vs Q E hr h => ?_)
  · obtain ⟨p, c, st, l, rfl, _⟩ := h
    rfl
  · obtain ⟨p, c, st, l, rfl, hst, hg, ⟨cs, hc, ec, hcs⟩, hgl, hll, q⟩ := h
    refine ⟨_, PSs.nox (pss_cons (ps_set (i := 2) sc_turned.nd rfl (Or.inl rfl) (pe_lst pa_nil))
    (pss_cons (ps_for PassesOwn.never rfl (pi_list (pv 1)) (pg_tup rfl (pgs_cons (pg_name (i := 3) sc_turned.nd rfl (Or.inl rfl)) (pgs_cons (pg_name (i := 4) sc_turned.nd rfl (Or.inl rfl)) pgs_nil)))
    (pss_one (ps_if (pt_val (pe_mt T C1 hr (pv 0) (pa_cons (pv 3) (pa_cons (pv 4) pa_nil)))) (pss_one (ps_expr (pe_bm PySem.F.plainAttrs_list PySem.F.slot_list_append PySem.F.type_list_append mt_append (pv 2) (pa_cons (pe_tup (pa_cons pe_str (pa_cons (pe_tup (pa_cons pe_int (pa_cons (pv 3) (pa_cons (pv 4) pa_nil)))) pa_nil))) pa_nil)))) (pss_one (ps_expr (pe_bm PySem.F.plainAttrs_list PySem.F.slot_list_append PySem.F.type_list_append mt_append (pv 2) (pa_cons (pe_tup (pa_cons pe_str (pa_cons (pe_tup (pa_cons pe_str (pa_cons (pv 3) (pa_cons (pv 4) pa_nil)))) pa_nil))) pa_nil)))))))
    (pss_one (ps_ret (pe_mt T C2 hr (pv 0) (pa_cons (pv 2) pa_nil)))))), ?_⟩
    refine ⟨Nat.zero_le _, fun L nL => ?_⟩
    have sL := same_new (o := .lst []) nL
    have lcs : cs.length ≤ 1000 := by rw [← ec, List.length_map] at hll; exact hll
    obtain ⟨ra, fa, ua, da, ⟨dx, hi⟩, hrest⟩ := id hst
    refine ⟨_, rfl, c, rfl, ⟨_, SqL.of_H (sL _ _ hc)⟩, for_W (walks_list (K := K) (a := c) (l := cs) (f := fun q : Addr × (Str × Row) => V.ref q.1)) (fun pre σ H' => ∃ v3 v4, σ = [some (.ref p), some (.ref c), some (.ref L), v3, v4] ∧ Same H H' ∧ LstOf ChgAt H' L (chgsM st (pre.map (·.2)))) ⟨none, none, rfl, sL, [], upd_same, rfl, fun q hq => by cases hq⟩
      (fun pre σ H' ⟨_, _, _, s, _⟩ => SqL.of_H (s _ _ hc)) ?_ ?_⟩
    · rintro pre ⟨ca, n, r⟩ post σ H' el ⟨v3, v4, rfl, sm, ps, hL, eps, hps⟩
      have hm : (ca, n, r) ∈ cs := by rw [el]; simp
      obtain ⟨a, h1, h2⟩ := stays_pairR.go sm.t (hcs _ hm)
      have lps : (ps.map fun q => V.ref q.1).length < sizeLine := by
        have h3 := congrArg List.length eps
        have h4 := congrArg List.length el
        unfold chgsM at h3
        rw [List.length_map, List.length_map, List.length_map] at h3
        rw [List.length_append, List.length_cons] at h4
        rw [List.length_map, sizeLine_eq]
        omega
      have esn : ∀ ch, (if r ∈ rowsOf st.facts n then Chg.goes n r else .comes (.fact n r)) = ch → chgsM st ((pre ++ [(ca, n, r)]).map (·.2)) = ps.map (·.2) ++ [ch] := fun ch e => by
        rw [eps]
        unfold chgsM
        rw [List.map_append, List.map_append, ← e]
        rfl
      refine ⟨ca, _, rfl, SqT.of_H h1, rfl, _, _, rfl, _, _, rfl, rfl, ?_⟩
      refine ⟨_, rfl, p, dx, _, rfl, sm _ _ hi, rfl, _, rfl, _, rfl, p, a, n, r, st, rfl, hst.same sm, h2, fun H2 s2 => ⟨_, rfl, ?_⟩⟩
      have hL2 := s2 _ _ hL
      by_cases hin : r ∈ rowsOf st.facts n
      · rw [decide_eq_true hin]
        refine iteT ⟨_, rfl, .inl ⟨rfl, _, SqL.of_H hL2⟩, _, rfl, _, rfl, by show 3 ≤ sizeLine; decide, fun T1 n1 => ⟨by show 2 ≤ sizeLine; decide, fun T2 n2 => ?_⟩⟩
        have s1 := same_new (o := .tup [V.int 1, V.str n, V.ref a]) n1
        have s22 := same_new (o := .tup [V.str "goes", V.ref T1]) n2
        refine ⟨L, _, _, rfl, rfl, s22 _ _ (s1 _ _ hL2), lps, _, _, rfl, same0_upd (((sm.trans s2).trans s1).trans s22) nL, ?_⟩
        rw [esn _ (if_pos hin)]
        exact ⟨ps ++ [(T2, .goes n r)], by rw [upd_same, List.map_append]; rfl, by rw [List.map_append]; rfl, push_item stays_chg (it := .goes n r) ((s2.trans s1).trans s22) hps (s22 _ _ (s1 _ _ hL2)) ⟨T1, a, upd_same, s22 _ _ upd_same, s22 _ _ (s1 _ _ (s2 _ _ h2))⟩⟩
      · rw [decide_eq_false hin]
        refine iteF ⟨_, rfl, .inl ⟨rfl, _, SqL.of_H hL2⟩, _, rfl, _, rfl, by show 3 ≤ sizeLine; decide, fun T1 n1 => ⟨by show 2 ≤ sizeLine; decide, fun T2 n2 => ?_⟩⟩
        have s1 := same_new (o := .tup [V.str "fact", V.str n, V.ref a]) n1
        have s22 := same_new (o := .tup [V.str "comes", V.ref T1]) n2
        refine ⟨L, _, _, rfl, rfl, s22 _ _ (s1 _ _ hL2), lps, _, _, rfl, same0_upd (((sm.trans s2).trans s1).trans s22) nL, ?_⟩
        rw [esn _ (if_neg hin)]
        exact ⟨ps ++ [(T2, .comes (.fact n r))], by rw [upd_same, List.map_append]; rfl, by rw [List.map_append]; rfl, push_item stays_chg (it := .comes (.fact n r)) ((s2.trans s1).trans s22) hps (s22 _ _ (s1 _ _ hL2)) ⟨T1, upd_same, a, s22 _ _ upd_same, s22 _ _ (s1 _ _ (s2 _ _ h2))⟩⟩
    · rintro σ H' ⟨v3, v4, rfl, sm, hL⟩
      rw [ec] at hL
      refine ⟨_, rfl, p, dx, _, rfl, sm _ _ hi, rfl, _, rfl, p, L, st, chgsM st l, rfl, hst.same sm, hg, hL, chgs_good hgl, by unfold chgsM; rw [List.length_map]; omega, fun H2 x hx => ?_⟩
      exact q H2 x (sm.trans hx.same0) hx.at
end
end Rs


set_option Elab.async false
set_option linter.all false
set_option maxRecDepth 100000
set_option maxHeartbeats 2000000
/-! # S21: _law_turned -/
namespace Rs
open PySem PySem.Spec PyProof.Rows L2
section
variable {P : Program} {w : World} {K : PySem.W.Frag} {mg : Str → Option Value} {base : Heap}
theorem sc_lturned : FnScope ["_law_state_here", "_law_facts", "_law_changes", "_law_relation", "_law_row_here"] ["_law_state_here", "_law_facts"] (defScope (topS 76)) := ⟨rfl, rfl, rfl, by decide +kernel, rfl, by decide +kernel, by decide +kernel⟩
theorem ok_lturned (T : Tx P K mg) : Cal P w K mg base CX0 10 "_law_turned" (spTurned K) := by
  have C2 := ok_change (w := w) (base := base) T
  refine cal_of T 52 76 rfl (by decide +kernel) sc_lturned (fun vs H Q E h => ?_) (fun _ _ _ _ _ _ us hl => match us, hl with | [_, _], _ => rfl) (fun cdv A outer s H vs Q E hr h => ?_)
  · obtain ⟨p, c, st, l, rfl, _⟩ := h
    rfl
  · obtain ⟨p, c, st, l, rfl, hst, hg, ⟨cs, hc, ec, hcs⟩, hgl, hll, q⟩ := h
    refine ⟨_, PSs.nox (pss_cons (ps_set (i := 2) sc_lturned.nd rfl (Or.inl rfl) (pe_lst pa_nil))
    (pss_cons (ps_for PassesOwn.never rfl (pi_list (pv 1)) (pg_tup rfl (pgs_cons (pg_name (i := 3) sc_lturned.nd rfl (Or.inl rfl)) (pgs_cons (pg_name (i := 4) sc_lturned.nd rfl (Or.inl rfl)) pgs_nil)))
    (pss_one (ps_if (pt_cmpR (op_inT tells_row (hu3 hr)) (pv 4) (pe_dget2 (hu_of hr) (pe_fld (pv 0) rfl) (pv 3) (pe_lst pa_nil) ⟨rfl, rfl, rfl, rfl⟩) (by rfl)) (pss_one (ps_expr (pe_bm PySem.F.plainAttrs_list PySem.F.slot_list_append PySem.F.type_list_append mt_append (pv 2) (pa_cons (pe_tup (pa_cons pe_str (pa_cons (pe_tup (pa_cons pe_int (pa_cons (pv 3) (pa_cons (pv 4) pa_nil)))) pa_nil))) pa_nil)))) (pss_one (ps_expr (pe_bm PySem.F.plainAttrs_list PySem.F.slot_list_append PySem.F.type_list_append mt_append (pv 2) (pa_cons (pe_tup (pa_cons pe_str (pa_cons (pe_tup (pa_cons pe_str (pa_cons (pv 3) (pa_cons (pv 4) pa_nil)))) pa_nil))) pa_nil)))))))
    (pss_one (ps_ret (pe_mt T C2 hr (pv 0) (pa_cons (pv 2) pa_nil)))))), ?_⟩
    refine ⟨Nat.zero_le _, fun L nL => ?_⟩
    have sL := same_new (o := .lst []) nL
    have lcs : cs.length ≤ 1000 := by rw [← ec, List.length_map] at hll; exact hll
    obtain ⟨ra, fa, ua, da, hst0⟩ := id hst
    obtain ⟨dx, hi⟩ := hst0.ins
    refine ⟨_, rfl, c, rfl, ⟨_, SqL.of_H (sL _ _ hc)⟩, for_W (walks_list (K := K) (a := c) (l := cs) (f := fun q : Addr × (Str × Row) => V.ref q.1)) (fun pre σ H' => ∃ v3 v4, σ = [some (.ref p), some (.ref c), some (.ref L), v3, v4] ∧ Same H H' ∧ LstOf ChgAt H' L (chgsM st (pre.map (·.2)))) ⟨none, none, rfl, sL, [], upd_same, rfl, fun q hq => by cases hq⟩
      (fun pre σ H' ⟨_, _, _, s, _⟩ => SqL.of_H (s _ _ hc)) ?_ ?_⟩
    · rintro pre ⟨ca, n, r⟩ post σ H' el ⟨v3, v4, rfl, sm, ps, hL, eps, hps⟩
      have hm : (ca, n, r) ∈ cs := by rw [el]; simp
      obtain ⟨a, h1, h2⟩ := stays_pairR.go sm.t (hcs _ hm)
      have lps : (ps.map fun q => V.ref q.1).length < sizeLine := by
        have h3 := congrArg List.length eps
        have h4 := congrArg List.length el
        unfold chgsM at h3
        rw [List.length_map, List.length_map, List.length_map] at h3
        rw [List.length_append, List.length_cons] at h4
        rw [List.length_map, sizeLine_eq]
        omega
      have esn : ∀ ch, (if r ∈ rowsOf st.facts n then Chg.goes n r else .comes (.fact n r)) = ch → chgsM st ((pre ++ [(ca, n, r)]).map (·.2)) = ps.map (·.2) ++ [ch] := fun ch e => by
        rw [eps]
        unfold chgsM
        rw [List.map_append, List.map_append, ← e]
        rfl
      refine ⟨ca, _, rfl, SqT.of_H h1, rfl, _, _, rfl, _, _, rfl, rfl, ?_⟩
      have hfac := (hst0.facts).same sm
      refine ⟨_, rfl, _, rfl, p, _, dx, _, _, rfl, sm _ _ hi, T.cl, T.na "facts", stF_f ra fa ua da, fa, rfl, rows_isD hfac, _, rfl, Nat.zero_le _, fun l9 nl9 => ?_⟩
      have s2 := same_new (o := .lst []) nl9
      obtain ⟨o9, gg9, la9, qs9, e91, e92, e93, e94, e95⟩ := get_rows2 hfac n s2 upd_same
      refine ⟨o9, gg9, a, la9, r, qs9, rfl, e91, s2 _ _ h2, SqL.of_H e93, e95, _, rfl, ?_⟩
      rw [if_neg Bool.false_ne_true, e94]
      have hL2 := s2 _ _ hL
      by_cases hin : r ∈ rowsOf st.facts n
      · rw [decide_eq_true hin]
        refine iteT ⟨_, rfl, .inl ⟨rfl, _, SqL.of_H hL2⟩, _, rfl, _, rfl, by show 3 ≤ sizeLine; decide, fun T1 n1 => ⟨by show 2 ≤ sizeLine; decide, fun T2 n2 => ?_⟩⟩
        have s1 := same_new (o := .tup [V.int 1, V.str n, V.ref a]) n1
        have s22 := same_new (o := .tup [V.str "goes", V.ref T1]) n2
        refine ⟨L, _, _, rfl, rfl, s22 _ _ (s1 _ _ hL2), lps, _, _, rfl, same0_upd (((sm.trans s2).trans s1).trans s22) nL, ?_⟩
        rw [esn _ (if_pos hin)]
        exact ⟨ps ++ [(T2, .goes n r)], by rw [upd_same, List.map_append]; rfl, by rw [List.map_append]; rfl, push_item stays_chg (it := .goes n r) ((s2.trans s1).trans s22) hps (s22 _ _ (s1 _ _ hL2)) ⟨T1, a, upd_same, s22 _ _ upd_same, s22 _ _ (s1 _ _ (s2 _ _ h2))⟩⟩
      · rw [decide_eq_false hin]
        refine iteF ⟨_, rfl, .inl ⟨rfl, _, SqL.of_H hL2⟩, _, rfl, _, rfl, by show 3 ≤ sizeLine; decide, fun T1 n1 => ⟨by show 2 ≤ sizeLine; decide, fun T2 n2 => ?_⟩⟩
        have s1 := same_new (o := .tup [V.str "fact", V.str n, V.ref a]) n1
        have s22 := same_new (o := .tup [V.str "comes", V.ref T1]) n2
        refine ⟨L, _, _, rfl, rfl, s22 _ _ (s1 _ _ hL2), lps, _, _, rfl, same0_upd (((sm.trans s2).trans s1).trans s22) nL, ?_⟩
        rw [esn _ (if_neg hin)]
        exact ⟨ps ++ [(T2, .comes (.fact n r))], by rw [upd_same, List.map_append]; rfl, by rw [List.map_append]; rfl, push_item stays_chg (it := .comes (.fact n r)) ((s2.trans s1).trans s22) hps (s22 _ _ (s1 _ _ hL2)) ⟨T1, upd_same, a, s22 _ _ upd_same, s22 _ _ (s1 _ _ (s2 _ _ h2))⟩⟩
    · rintro σ H' ⟨v3, v4, rfl, sm, hL⟩
      rw [ec] at hL
      refine ⟨_, rfl, p, dx, _, rfl, sm _ _ hi, rfl, _, rfl, p, L, st, chgsM st l, rfl, hst.same sm, hg, hL, chgs_good hgl, by unfold chgsM; rw [List.length_map]; omega, fun H2 x hx => ?_⟩
      exact q H2 x (sm.trans hx.same0) hx.at
end
end Rs


set_option Elab.async false
set_option linter.all false
set_option maxRecDepth 100000
set_option maxHeartbeats 2000000
/-! # S22: has_part -/
namespace Rs
open PySem PySem.Spec PyProof.Rows L2
theorem hu64 {A : Around} {k : Nat} (hr : Room k A) : A.units + 64 < cLine := by have := hr.un; omega
def IxL (H : Hp) (p : Addr) (l : List Nat) : Prop := H p = some (.lst (l.map fun i : Nat => V.int (i : Int)))
theorem inV_int (i : Nat) (l : List Nat) : inV (.int (i : Int)) (l.map fun j : Nat => V.int (j : Int)) = decide (i ∈ l) := by
  unfold inV
  rw [List.any_map]
  by_cases h : i ∈ l
  · rw [decide_eq_true h, List.any_eq_true]
    exact ⟨i, h, by show eqV (.int (i : Int)) (.int (i : Int)) = true; simp [eqV]⟩
  · rw [decide_eq_false h, List.any_eq_false]
    intro j hj z
    have z' : eqV (.int (j : Int)) (.int (i : Int)) = true := z
    have : (j : Int) = (i : Int) := by simpa [eqV] using z'
    exact h (by rw [← Int.ofNat.inj this]; exact hj)
theorem flat_int (l : List Nat) : (l.map fun j : Nat => V.int (j : Int)).all flatV = true := by
  rw [List.all_map, List.all_eq_true]
  intro j _
  rfl
theorem shaped_ix (l : List Nat) : SeqAt.shaped (.list (l.map fun i : Nat => PyData.int (i : Int))) = true := by
  have h1 : ∀ l : List Nat, PyData.canLayAll0 (l.map fun i : Nat => PyData.int (i : Int)) = true ∧ PyData.depthAll (l.map fun i : Nat => PyData.int (i : Int)) = 0 := fun l => by
    induction l with
    | nil => exact ⟨rfl, rfl⟩
    | cons a l ih =>
      refine ⟨by rw [List.map_cons]; unfold PyData.canLayAll0; rw [ih.1]; rfl, ?_⟩
      rw [List.map_cons]
      unfold PyData.depthAll
      rw [ih.2]
      rfl
  obtain ⟨a, b⟩ := h1 l
  unfold SeqAt.shaped PyData.canLay0 PyData.depth
  rw [a, b]
  rfl
theorem eqv_nil (l : List Nat) : PyData.eqv (.list (l.map fun i : Nat => PyData.int (i : Int))) (.list []) = l.isEmpty := by
  cases l with
  | nil => rfl
  | cons a l => rfl
def hasPartM (found : List (List Nat)) (idx : List Nat) : Bool := found.any fun o => (o.filter fun i => !decide (i ∈ idx)).isEmpty
def IxsL (H : Hp) (p : Addr) (l : List (List Nat)) : Prop := ∃ ps : List (Addr × List Nat), H p = some (.lst (ps.map fun q => V.ref q.1)) ∧ ps.map (·.2) = l ∧ ∀ q ∈ ps, IxL H q.1 q.2
def spPart : Sp := fun vs H Q _ => ∃ (pf pi : Addr) (found : List (List Nat)) (idx : List Nat), vs = [.ref pf, .ref pi] ∧ IxsL H pf found ∧ IxL H pi idx ∧ found.length ≤ 1000 ∧ (∀ o ∈ found, o.length ≤ 1000) ∧ ∀ H', Same H H' → Q (.bl (hasPartM found idx)) H'
section
variable {P : Program} {w : World} {K : PySem.W.Frag} {mg : Str → Option Value} {base : Heap}
theorem sc_has_part : FnScope ["found", "indices", "other", "index"] ["found", "indices"] (defScope (topS 47)) := ⟨rfl, rfl, rfl, by decide +kernel, rfl, by decide +kernel, by decide +kernel⟩
theorem op_notIn_seqK {X : Cx} {K : PySem.W.Frag} (h : X.K = K) : OpR X (compareOp .NotIn) (rIn K true) := by
  subst h
  exact op_notIn_seq
theorem ok_has_part (T : Tx P K mg) : Cal P w K mg base CX0 1 "has_part" spPart := by
  refine cal_of T 35 47 rfl (by decide +kernel) sc_has_part (fun vs H Q E h => ?_) (fun _ _ _ _ _ _ us hl => match us, hl with | [_, _], _ => rfl) (fun cdv A outer s H vs Q E hr h => ?_)
  · obtain ⟨pf, pi, found, idx, rfl, _⟩ := h
    rfl
  · obtain ⟨pf, pi, found, idx, rfl, ⟨ps, hf, ef, hps⟩, hi, hl1, hl2, q⟩ := h
    refine ⟨_, PSs.nox (pss_cons (ps_for PassesOwn.never rfl (pi_list (pv 0)) (pg_name (i := 2) sc_has_part.nd rfl (Or.inl rfl))
    (pss_one (ps_if (pt_cmpR (op_eqD (hu64 hr)) (pe_lc (own := [("index", 3)]) (g := gName 3) (tt := _) rfl sc_has_part.nd (pi_list (pv 2)) (blkOk_by (own := [("index", 3)]) (N := ["found", "indices", "other", "index"]) (sc := defScope (topS 47)) (by decide +kernel)) (fun _ _ _ _ _ => (pg_name (i := 3) sc_has_part.nd rfl (Or.inl rfl))) (fun _ _ _ _ _ => (pts_one (pt_cmpR (op_notIn_seqK rfl) (pv 3) (pv 1) (by rfl)))) (fun _ _ _ _ _ => (pv 3))) (pe_lst pa_nil) (nomark _)) (pss_one (ps_ret pe_bl)) pss_nil)))
    (pss_one (ps_ret pe_bl))), ?_⟩
    have lps : ps.length ≤ 1000 := by rw [← ef, List.length_map] at hl1; exact hl1
    refine ⟨_, rfl, pf, rfl, ⟨_, SqL.of_H hf⟩, for_W (walks_list (K := K) (a := pf) (l := ps) (f := fun q : Addr × List Nat => V.ref q.1)) (fun pre σ H' => ∃ v2 v3, σ = [some (.ref pf), some (.ref pi), v2, v3] ∧ Same H H' ∧ hasPartM (pre.map (·.2)) idx = false) ⟨none, none, rfl, Same.refl _, rfl⟩ (fun pre σ H' ⟨_, _, _, s, _⟩ => SqL.of_H (s _ _ hf)) ?_ ?_⟩
    · rintro pre ⟨oa, o⟩ post σ H' el ⟨v2, v3, rfl, sm, hno⟩
      have ho : H' oa = some (.lst (o.map fun i : Nat => V.int (i : Int))) := sm _ _ (hps (oa, o) (by rw [el]; simp))
      have hol : o.length ≤ 1000 := hl2 o (by rw [← ef]; exact List.mem_map_of_mem (f := fun q : Addr × List Nat => q.2) (a := (oa, o)) (by rw [el]; simp))
      refine ⟨_, rfl, oa, rfl, ⟨_, SqL.of_H ho⟩, fun D nD => lc_W (walks_list (K := K) (a := oa) (l := o) (f := fun i : Nat => V.int (i : Int))) nD (fun H' s => SqL.of_H (s _ _ ho)) (by omega) (fun H' acc pre => acc = (pre.filter fun i => !decide (i ∈ idx)).map fun i : Nat => V.int (i : Int)) rfl ?_ ?_⟩
      · rintro pre2 i post2 acc H2 Nx No el2 s2 eD rfl hN hNo
        refine ⟨rfl, _, rfl, _, rfl, pi, _, rfl, .inl (SqL.of_H (s2 _ _ (sm _ _ hi))), rfl, flat_int _, _, rfl, ?_⟩
        rw [if_pos rfl, inV_int]
        cases hd : (!decide (i ∈ idx)) with
        | true =>
          refine iteT ⟨_, rfl, hN _ _ (Same.refl _) ?_⟩
          rw [List.filter_append, List.map_append]
          simp only [List.filter_cons, hd, List.filter_nil]
          rfl
        | false =>
          refine iteF (hNo _ (Same.refl _) ?_)
          rw [List.filter_append, List.map_append]
          simp only [List.filter_cons, hd, List.filter_nil]
          simp
      · rintro H3 acc s3 eD rfl
        refine ⟨Nat.zero_le _, fun L nL => ?_⟩
        have sL := same_new (o := .lst []) nL
        have dall : ∀ l : List Nat, DpAll K (upd H3 L (.lst [])) (l.map fun i : Nat => V.int (i : Int)) (l.map fun i : Nat => PyData.int (i : Int)) := fun l => by
          induction l with
          | nil => exact .nil
          | cons a l ih => exact .cons (.int _) ih
        refine ⟨_, _, .lst (SqL.of_H (sL _ _ eD)) (dall _), .lst (SqL.of_H upd_same) .nil, shaped_ix _, shaped_ix [], _, rfl, ?_⟩
        rw [eqv_nil]
        refine iteB (fun e => ?_) (fun e => ?_)
        · have h1 : hasPartM found idx = true := by
            unfold hasPartM
            rw [← ef, el, List.any_map, List.any_append, List.any_cons]
            show (_ || (List.isEmpty _ || _)) = true
            rw [show ((o.filter fun i => !decide (i ∈ idx)).isEmpty) = true from e]
            simp
          have h2 := q (upd H3 L (.lst [])) ((sm.trans s3).trans sL)
          rw [h1] at h2
          exact h2
        · refine ⟨_, _, rfl, (sm.trans s3).trans sL, ?_⟩
          unfold hasPartM at hno ⊢
          rw [List.map_append, List.any_append, hno, Bool.false_or, List.map_cons, List.any_cons]
          show (_ || false) = false
          rw [Bool.or_false]
          exact e
    · rintro σ H' ⟨v2, v3, rfl, sm, hno⟩
      rw [ef] at hno
      have := q H' sm
      rw [hno] at this
      exact this
end
end Rs


set_option Elab.async false
set_option linter.all false
set_option maxRecDepth 100000
set_option maxHeartbeats 2000000
/-! # S23: subsets -/
namespace Rs
open PySem PySem.Spec PyProof.Rows L2
def nxt (ix : List Nat) : Nat := match ix.getLast? with
  | some j => j + 1
  | none => 0
def subExt (count : Nat) (ix : List Nat) : List (List Nat) := (List.range (count - nxt ix)).map fun i => ix ++ [nxt ix + i]
def subStep (count : Nat) (found : List (List Nat)) : List (List Nat) := found.flatMap (subExt count)
def subsM (count : Nat) : Nat → List (List Nat)
  | 0 => [[]]
  | n + 1 => subStep count (subsM count n)
/-- new lists (not of H0) that stand in the new list at A, none of them A -/
def IxsN (H0 H : Hp) (A : Addr) (l : List (List Nat)) : Prop := H0 A = none ∧ ∃ ps : List (Addr × List Nat), H A = some (.lst (ps.map fun q => V.ref q.1)) ∧ ps.map (·.2) = l ∧ ∀ q ∈ ps, H0 q.1 = none ∧ q.1 ≠ A ∧ IxL H q.1 q.2
theorem IxsN.ixs {H0 H : Hp} {A : Addr} {l : List (List Nat)} (h : IxsN H0 H A l) : IxsL H A l := by
  obtain ⟨_, ps, h1, h2, h3⟩ := h
  exact ⟨ps, h1, h2, fun q hq => (h3 q hq).2.2⟩
def spSubs : Sp := fun vs H Q _ => ∃ (count size : Nat), vs = [.int (count : Int), .int (size : Int)] ∧ count ≤ 4 ∧ size ≤ 4 ∧ ∀ (H' : Hp) (q : Addr), Same H H' → IxsN H H' q (subsM count size) → Q (.ref q) H'
theorem subs_small : ∀ c, c ≤ 4 → ∀ n, n ≤ 4 → (subsM c n).length ≤ 1000 ∧ ∀ o ∈ subsM c n, o.length ≤ 4 ∧ ∀ i ∈ o, i < c := by decide +kernel
theorem subExt_len (count : Nat) (ix : List Nat) : (subExt count ix).length = count - nxt ix := by
  unfold subExt
  rw [List.length_map, List.length_range]
theorem subExt_take (count : Nat) (ix : List Nat) : subExt count ix = (List.range (count - nxt ix)).map fun i => ix ++ [nxt ix + i] := rfl
section
variable {P : Program} {w : World} {K : PySem.W.Frag} {mg : Str → Option Value} {base : Heap}
theorem sc_subsets : FnScope ["count", "size", "found", "_", "after", "indices", "first", "index"] ["count", "size"] (defScope (topS 46)) := ⟨rfl, rfl, rfl, by decide +kernel, rfl, by decide +kernel, by decide +kernel⟩
theorem ok_subsets (T : Tx P K mg) : Cal P w K mg base CX0 1 "subsets" spSubs := by
  refine cal_of T 34 46 rfl (by decide +kernel) sc_subsets (fun vs H Q E h => ?_) (fun _ _ _ _ _ _ us hl => match us, hl with | [_, _], _ => rfl) (fun cdv A outer s H vs Q E hr h => ?_)
  · obtain ⟨count, size, rfl, _⟩ := h
    rfl
  · obtain ⟨count, size, rfl, hc, hs, q⟩ := h
    refine ⟨_, PSs.nox (pss_cons (ps_set (i := 2) sc_subsets.nd rfl (Or.inl rfl) (pe_lst (pa_cons (pe_lst pa_nil) pa_nil)))
    (pss_cons (ps_for PassesOwn.never rfl (pi_range1 (by rfl) (T.fr "range") (pa_cons (pv 1) pa_nil)) (pg_name (i := 3) sc_subsets.nd rfl (Or.inl rfl))
    (pss_cons (ps_set (i := 4) sc_subsets.nd rfl (Or.inl rfl) (pe_lst pa_nil))
    (pss_cons (ps_for PassesOwn.never rfl (pi_list (pv 2)) (pg_name (i := 5) sc_subsets.nd rfl (Or.inl rfl))
    (pss_cons (ps_set (i := 6) sc_subsets.nd rfl (Or.inl rfl) pe_int)
    (pss_cons (ps_if (pt_truth (pv 5) (by intro _; rfl)) (pss_one (ps_set (i := 6) sc_subsets.nd rfl (Or.inl rfl) (pe_op op_add (pe_ix ix_list (pv 5) (pe_un un_neg pe_int) (fun _ _ => rfl)) pe_int))) pss_nil)
    (pss_one (ps_for PassesOwn.never rfl (pi_range2 (by rfl) (T.fr "range") (pa_cons (pv 6) (pa_cons (pv 0) pa_nil))) (pg_name (i := 7) sc_subsets.nd rfl (Or.inl rfl))
    (pss_one (ps_expr (pe_bm PySem.F.plainAttrs_list PySem.F.slot_list_append PySem.F.type_list_append mt_append (pv 4) (pa_cons (pe_op op_cat (pv 5) (pe_lst (pa_cons (pv 7) pa_nil))) pa_nil)))))))))
    (pss_one (ps_set (i := 2) sc_subsets.nd rfl (Or.inl rfl) (pv 4))))))
    (pss_one (ps_ret (pv 2))))), ?_⟩
    refine ⟨Nat.zero_le _, fun L0 nL0 => ⟨by show 1 ≤ sizeLine; decide, fun F0 nF0 => ?_⟩⟩
    have s1 := same_new (o := .lst []) nL0
    have s2 := same_new (o := .lst [V.ref L0]) nF0
    refine ⟨_, rfl, _, rfl, by omega, by omega, for_range (lo := 0) (n := (size : Int).toNat) (fun i σ H' => ∃ F v3 v4 v5 v6 v7, σ = [some (.int (count : Int)), some (.int (size : Int)), some (.ref F), v3, v4, v5, v6, v7] ∧ Same H H' ∧ IxsN H H' F (subsM count i))
      ⟨F0, none, none, none, none, none, rfl, s1.trans s2, s1.free nF0, [(L0, [])], upd_same, rfl, fun q hq => by
        rw [List.mem_singleton.mp hq]
        exact ⟨nL0, (fun z => by
          have z' : L0 = F0 := z
          rw [← z', upd_same] at nF0
          cases nF0), s2 _ _ upd_same⟩⟩ ?_ ?_⟩
    · rintro i σ H' hi ⟨F, v3, v4, v5, v6, v7, rfl, sm, nF, ps, hF, eps, hps⟩
      have hi4 : i < 4 := by omega
      obtain ⟨hl1, hl2⟩ := subs_small count hc i (by omega)
      have lps : ps.length ≤ 1000 := by rw [← eps, List.length_map] at hl1; exact hl1
      refine ⟨Nat.zero_le _, fun A nA => ?_⟩
      have sA := same_new (o := .lst []) nA
      refine ⟨_, rfl, F, rfl, ⟨_, SqL.of_H (sA _ _ hF)⟩, for_W (walks_list (K := K) (a := F) (l := ps) (f := fun q : Addr × List Nat => V.ref q.1)) (fun pre σ H2 => ∃ v5 v6 v7, σ = [some (.int (count : Int)), some (.int (size : Int)), some (.ref F), some (.int (0 + (i : Nat))), some (.ref A), v5, v6, v7] ∧ Same H' H2 ∧ IxsN H H2 A ((pre.map (·.2)).flatMap (subExt count)))
        ⟨v5, v6, v7, rfl, sA, sm.free nA, [], upd_same, rfl, fun q hq => by cases hq⟩ (fun pre σ H2 ⟨_, _, _, _, s, _⟩ => SqL.of_H (s _ _ hF)) ?_ ?_⟩
      · rintro pre ⟨ia, ix⟩ post σ H2 el ⟨v5, v6, v7, rfl, sm2, hA0⟩
        have hm : (ia, ix) ∈ ps := by rw [el]; simp
        have hia : IxL H' ia ix := (hps _ hm).2.2
        have hix : ix ∈ subsM count i := by rw [← eps]; exact List.mem_map_of_mem (f := fun q : Addr × List Nat => q.2) hm
        obtain ⟨lix, bix⟩ := hl2 ix hix
        have nia : ia ≠ A := fun z => by
          have hia' : H' ia = some (.lst (ix.map fun i : Nat => V.int (i : Int))) := hia
          rw [z, nA] at hia'
          cases hia'
        have hl3 : ((pre.map (·.2)).flatMap (subExt count)).length + (subExt count ix).length ≤ 1000 := by
          have e1 := (subs_small count hc (i + 1) (by omega)).1
          have e2 : subsM count (i + 1) = (ps.map (·.2)).flatMap (subExt count) := by rw [eps]; rfl
          rw [e2] at e1
          have e3 := flatMap_le (subExt count) (l := ps.map (·.2)) (pre := pre.map (·.2)) (x := ix) (post := post.map (·.2)) (by rw [el]; simp)
          omega
        refine ⟨_, rfl, !(ix.map fun i : Nat => V.int (i : Int)).isEmpty, .inl ⟨_, SqL.of_H (sm2 _ _ hia), rfl⟩, ?_⟩
        have goalL : (ix = [] → nxt ix = 0) ∧ ∀ l j, ix = l ++ [j] → nxt ix = j + 1 := ⟨fun e => by rw [e]; rfl, fun l j e => by rw [e]; unfold nxt; rw [List.getLast?_append]; rfl⟩
        refine iteB (fun e => ?_) (fun e => ?_)
        · obtain ⟨l, j, rfl⟩ : ∃ l j, ix = l ++ [j] := by
            rcases List.eq_nil_or_concat ix with h | ⟨l, j, h⟩
            · rw [h] at e
              cases e
            · exact ⟨l, j, by rw [h, List.concat_eq_append]⟩
          refine ⟨_, rfl, _, rfl, ia, _, _, _, rfl, rfl, SqL.of_H (sm2 _ _ hia), (by rw [List.map_append]; exact atI_last _ _), _, _, rfl, rfl, ?_⟩
          refine ⟨_, rfl, _, rfl, _, _, rfl, ?_⟩
          have hjc : j < count := bix j (by simp)
          have hnx : ((nxt (l ++ [j]) : Nat) : Int) = ((j : Nat) : Int) + 1 := by rw [goalL.2 l j rfl]; rfl
          refine ⟨⟨by omega, by omega, by omega, by omega⟩, for_range (lo := (((j : Nat) : Int) + 1)) (n := ((count : Int) - (((j : Nat) : Int) + 1)).toNat) (fun k σ H3 => ∃ v6 v7, σ = [some (.int (count : Int)), some (.int (size : Int)), some (.ref F), some (.int (0 + (i : Nat))), some (.ref A), some (.ref ia), v6, v7] ∧ Same H' H3 ∧ IxsN H H3 A ((pre.map (·.2)).flatMap (subExt count) ++ (List.range k).map fun i => (l ++ [j]) ++ [nxt (l ++ [j]) + i])) ⟨_, _, rfl, sm2, by rw [List.range_zero, List.map_nil, List.append_nil]; exact hA0⟩ ?_ ?_⟩
          · rintro k σ H3 hk ⟨v6, v7, rfl, sm3, nA0, qs, hA, eqs, hqs⟩
            have lqs : qs.length < sizeLine := by
              have h3 := congrArg List.length eqs
              rw [List.length_map, List.length_append, List.length_map, List.length_range] at h3
              rw [subExt_len] at hl3
              rw [sizeLine_eq]
              omega
            have hia3 : H3 ia = some (.lst (((l ++ [j])).map fun i : Nat => V.int (i : Int))) := sm3 _ _ hia
            refine ⟨_, rfl, .inl ⟨rfl, _, SqL.of_H hA⟩, _, rfl, _, rfl, by show 1 ≤ sizeLine; decide, fun T1 n1 => ?_⟩
            have t1 := same_new (o := .lst [V.int (((j : Nat) : Int) + 1 + (k : Nat))]) n1
            refine ⟨ia, T1, _, _, rfl, rfl, t1 _ _ hia3, upd_same, ?_, fun T2 n2 => ?_⟩
            · rw [List.length_map, List.length_singleton]
              show _ ≤ sizeLine
              rw [sizeLine_eq]
              omega
            have t2 := same_new (o := .lst ((((l ++ [j])).map fun i : Nat => V.int (i : Int)) ++ [V.int (((j : Nat) : Int) + 1 + (k : Nat))])) n2
            have hAT := t2 _ _ (t1 _ _ hA)
            have nT2 : T2 ≠ A := (ne_of_none (t1 _ _ hA) n2).symm
            refine ⟨A, _, _, rfl, rfl, hAT, by rw [List.length_map]; exact lqs, _, _, rfl, same0_upd ((sm3.trans t1).trans t2) nA, nA0, qs ++ [(T2, (l ++ [j]) ++ [nxt (l ++ [j]) + k])], by rw [upd_same, List.map_append]; rfl, ?_, fun q hq => ?_⟩
            · rw [List.map_append, eqs, List.range_succ, List.map_append, List.append_assoc]
              rfl
            · rcases List.mem_append.mp hq with hq | hq
              · refine ⟨(hqs q hq).1, (hqs q hq).2.1, ?_⟩
                show upd _ _ _ _ = _
                rw [upd_ne (hqs q hq).2.1]
                exact t2 _ _ (t1 _ _ (hqs q hq).2.2)
              · rw [List.mem_singleton.mp hq]
                refine ⟨((sm.trans sm3).trans t1).free n2, nT2, ?_⟩
                show upd _ _ _ T2 = _
                rw [upd_ne nT2, upd_same]
                have h9 : (((nxt ((l ++ [j])) + k : Nat)) : Int) = ((j : Nat) : Int) + 1 + (k : Nat) := by omega
                show _ = some (HO.lst (((l ++ [j]) ++ [nxt ((l ++ [j])) + k]).map fun i : Nat => V.int (i : Int)))
                rw [List.map_append (l₁ := (l ++ [j])), List.map_singleton, h9]
          · rintro σ H3 ⟨v6, v7, rfl, sm3, hA⟩
            refine ⟨_, _, _, rfl, sm3, ?_⟩
            rw [List.map_append, List.map_singleton, flatMap_snoc]
            have e9 : ((count : Int) - (((j : Nat) : Int) + 1)).toNat = count - nxt ((l ++ [j])) := by omega
            rw [e9] at hA
            exact hA
        · refine ⟨_, rfl, _, rfl, _, _, rfl, ?_⟩
          have hnx : ((nxt ix : Nat) : Int) = (0 : Int) := by rw [goalL.1 (by cases ix with | nil => rfl | cons a b => cases e)]; rfl
          refine ⟨⟨by omega, by omega, by omega, by omega⟩, for_range (lo := (0 : Int)) (n := ((count : Int) - (0 : Int)).toNat) (fun k σ H3 => ∃ v6 v7, σ = [some (.int (count : Int)), some (.int (size : Int)), some (.ref F), some (.int (0 + (i : Nat))), some (.ref A), some (.ref ia), v6, v7] ∧ Same H' H3 ∧ IxsN H H3 A ((pre.map (·.2)).flatMap (subExt count) ++ (List.range k).map fun i => ix ++ [nxt ix + i])) ⟨_, _, rfl, sm2, by rw [List.range_zero, List.map_nil, List.append_nil]; exact hA0⟩ ?_ ?_⟩
          · rintro k σ H3 hk ⟨v6, v7, rfl, sm3, nA0, qs, hA, eqs, hqs⟩
            have lqs : qs.length < sizeLine := by
              have h3 := congrArg List.length eqs
              rw [List.length_map, List.length_append, List.length_map, List.length_range] at h3
              rw [subExt_len] at hl3
              rw [sizeLine_eq]
              omega
            have hia3 : H3 ia = some (.lst ((ix).map fun i : Nat => V.int (i : Int))) := sm3 _ _ hia
            refine ⟨_, rfl, .inl ⟨rfl, _, SqL.of_H hA⟩, _, rfl, _, rfl, by show 1 ≤ sizeLine; decide, fun T1 n1 => ?_⟩
            have t1 := same_new (o := .lst [V.int ((0 : Int) + (k : Nat))]) n1
            refine ⟨ia, T1, _, _, rfl, rfl, t1 _ _ hia3, upd_same, ?_, fun T2 n2 => ?_⟩
            · rw [List.length_map, List.length_singleton]
              show _ ≤ sizeLine
              rw [sizeLine_eq]
              omega
            have t2 := same_new (o := .lst (((ix).map fun i : Nat => V.int (i : Int)) ++ [V.int ((0 : Int) + (k : Nat))])) n2
            have hAT := t2 _ _ (t1 _ _ hA)
            have nT2 : T2 ≠ A := (ne_of_none (t1 _ _ hA) n2).symm
            refine ⟨A, _, _, rfl, rfl, hAT, by rw [List.length_map]; exact lqs, _, _, rfl, same0_upd ((sm3.trans t1).trans t2) nA, nA0, qs ++ [(T2, ix ++ [nxt ix + k])], by rw [upd_same, List.map_append]; rfl, ?_, fun q hq => ?_⟩
            · rw [List.map_append, eqs, List.range_succ, List.map_append, List.append_assoc]
              rfl
            · rcases List.mem_append.mp hq with hq | hq
              · refine ⟨(hqs q hq).1, (hqs q hq).2.1, ?_⟩
                show upd _ _ _ _ = _
                rw [upd_ne (hqs q hq).2.1]
                exact t2 _ _ (t1 _ _ (hqs q hq).2.2)
              · rw [List.mem_singleton.mp hq]
                refine ⟨((sm.trans sm3).trans t1).free n2, nT2, ?_⟩
                show upd _ _ _ T2 = _
                rw [upd_ne nT2, upd_same]
                have h9 : (((nxt (ix) + k : Nat)) : Int) = (0 : Int) + (k : Nat) := by omega
                show _ = some (HO.lst ((ix ++ [nxt (ix) + k]).map fun i : Nat => V.int (i : Int)))
                rw [List.map_append (l₁ := ix), List.map_singleton, h9]
          · rintro σ H3 ⟨v6, v7, rfl, sm3, hA⟩
            refine ⟨_, _, _, rfl, sm3, ?_⟩
            rw [List.map_append, List.map_singleton, flatMap_snoc]
            have e9 : ((count : Int) - (0 : Int)).toNat = count - nxt (ix) := by omega
            rw [e9] at hA
            exact hA
      · rintro σ H2 ⟨v5, v6, v7, rfl, sm2, hA0⟩
        refine ⟨_, rfl, A, _, _, _, _, _, rfl, sm.trans sm2, ?_⟩
        rw [eps] at hA0
        exact hA0
    · rintro σ H' ⟨F, v3, v4, v5, v6, v7, rfl, sm, hF⟩
      have e : (size : Int).toNat = size := by omega
      rw [e] at hF
      exact ⟨_, rfl, q H' F sm hF⟩
end
end Rs


set_option Elab.async false
set_option linter.all false
set_option maxRecDepth 100000
set_option maxHeartbeats 2000000
/-! # M7: domains of the templates' variables: a check of bodies and rules, and what it promises -/
namespace Rs
open PySem PySem.Spec PyProof.Rows L2
abbrev Dom : Type := List L2.Key
abbrev Ctx : Type := List (Str × Dom)
def upTo (n : Nat) : Dom := (List.range n).map fun i : Nat => (Sum.inl ((i : Nat) : Int) : L2.Key)
instance decMemKey (k : L2.Key) (D : List L2.Key) : Decidable (k ∈ D) := @List.instDecidableMemOfLawfulBEq L2.Key instBEqOfDecidableEq inferInstance k D
def domS (f : Bool) : Dom := if f = true then upTo 17 ++ [.inr "a"] else baseK
def domT : Dom := upTo 41 ++ [.inr "a"]
def cols (f : Bool) (n : Str) : Option (List Dom) :=
  if n = "p" ∨ n = "r" ∨ n = "w" then some [baseK, baseK] else if n = "q" ∨ n = "u" then some [baseK] else if n = "s" then some [domS f] else if n = "t" then some [domS f, domT] else none
def inCols : List Dom → Row → Prop
  | [], [] => True
  | D :: Ds, k :: r => k ∈ D ∧ inCols Ds r
  | _, _ => False
def prodRows : List Dom → List Row
  | [] => [[]]
  | D :: Ds => D.flatMap fun k => (prodRows Ds).map (k :: ·)
def sizeD : List Dom → Nat
  | [] => 1
  | D :: Ds => D.length * sizeD Ds
theorem prodRows_len : ∀ Ds, (prodRows Ds).length = sizeD Ds
  | [] => rfl
  | D :: Ds => by
    unfold prodRows sizeD
    rw [List.length_flatMap]
    have : (fun k : L2.Key => ((prodRows Ds).map (k :: ·)).length) = fun _ => sizeD Ds := funext fun k => by rw [List.length_map, prodRows_len Ds]
    rw [this, List.map_const', List.sum_replicate_nat]
theorem mem_prodRows : ∀ {Ds : List Dom} {r : Row}, inCols Ds r → r ∈ prodRows Ds
  | [], [], _ => List.mem_singleton.mpr rfl
  | [], _ :: _, h => absurd h (by intro z; exact z)
  | _ :: _, [], h => absurd h (by intro z; exact z)
  | D :: Ds, k :: r, h => by
    unfold prodRows
    exact List.mem_flatMap.mpr ⟨k, h.1, List.mem_map.mpr ⟨r, mem_prodRows h.2, rfl⟩⟩
theorem inCols_len : ∀ {Ds : List Dom} {r : Row}, inCols Ds r → r.length = Ds.length
  | [], [], _ => rfl
  | [], _ :: _, h => absurd h (by intro z; exact z)
  | _ :: _, [], h => absurd h (by intro z; exact z)
  | D :: Ds, k :: r, h => by rw [List.length_cons, List.length_cons, inCols_len h.2]
def RowT (f : Bool) (n : Str) (r : Row) : Prop := ∃ Ds, cols f n = some Ds ∧ inCols Ds r
structure RowsT (f : Bool) (kn : Kn) : Prop where
  dom : ∀ x ∈ kn, ∀ r ∈ x.2, RowT f x.1 r
  nd : ∀ x ∈ kn, x.2.Nodup
theorem cols_len {f : Bool} {n : Str} {Ds : List Dom} (h : cols f n = some Ds) : (Ds.length = 1 ∨ Ds.length = 2) ∧ sizeD Ds ≤ 756 := by
  unfold cols at h
  cases f <;> (split at h; · cases h; exact ⟨.inr rfl, by decide +kernel⟩) <;> (split at h; · cases h; exact ⟨.inl rfl, by decide +kernel⟩) <;> (split at h; · cases h; exact ⟨.inl rfl, by decide +kernel⟩) <;> (split at h; · cases h; exact ⟨.inr rfl, by decide +kernel⟩) <;> cases h
theorem RowT.len {f : Bool} {n : Str} {r : Row} (h : RowT f n r) : r.length ≤ 2 ∧ r ≠ [] := by
  obtain ⟨Ds, e, hc⟩ := h
  have h1 := inCols_len hc
  have h2 := (cols_len e).1
  refine ⟨by omega, fun z => ?_⟩
  rw [z] at h1
  simp only [List.length_nil] at h1
  omega
theorem RowsT.of {f : Bool} {kn : Kn} (h : RowsT f kn) {n : Str} {r : Row} (hr : r ∈ rowsOf kn n) : RowT f n r := by
  obtain ⟨rows, h1, h2, _⟩ := rowsOf_mem hr
  exact h.dom _ h1 r h2
theorem RowsT.nodup {f : Bool} {kn : Kn} (h : RowsT f kn) (n : Str) : (rowsOf kn n).Nodup := by
  unfold rowsOf
  cases e : look kn n with
  | none => exact List.nodup_nil
  | some rows => exact h.nd _ (look_mem e)
theorem RowsT.size {f : Bool} {kn : Kn} (h : RowsT f kn) {n : Str} {Ds : List Dom} (e : cols f n = some Ds) : (rowsOf kn n).length ≤ sizeD Ds := by
  rw [← prodRows_len]
  refine pigeon (h.nodup n) fun r hr => ?_
  obtain ⟨Ds', e', hc⟩ := h.of hr
  rw [e] at e'
  cases e'
  exact mem_prodRows hc
theorem RowsT.size0 {f : Bool} {kn : Kn} (h : RowsT f kn) {n : Str} (e : cols f n = none) : rowsOf kn n = [] := by
  cases hl : rowsOf kn n with
  | nil => rfl
  | cons r l =>
    obtain ⟨Ds', e', hc⟩ := h.of (n := n) (r := r) (by rw [hl]; exact List.mem_cons_self ..)
    rw [e] at e'
    cases e'
/-! ### environments -/
def EnvT (Γ : Ctx) (e : Envr) : Prop := e.map (·.1) = Γ.map (·.1) ∧ ∀ x D, look Γ x = some D → ∃ k, k ∈ D ∧ look e x = some k
theorem EnvT.nil : EnvT [] [] := ⟨rfl, fun x D h => by cases h⟩
theorem EnvT.len {Γ : Ctx} {e : Envr} (h : EnvT Γ e) : e.length = Γ.length := by
  have := congrArg List.length h.1
  rwa [List.length_map, List.length_map] at this
theorem EnvT.none {Γ : Ctx} {e : Envr} (h : EnvT Γ e) {x : Str} (n : look Γ x = none) : look e x = none := by
  rw [look_none] at n ⊢
  rw [h.1]
  exact n
def tmD (Γ : Ctx) : Tm → Option Dom
  | .var x => look Γ x
  | .val k => some [k]
  | .any => none
theorem tmD_ok {Γ : Ctx} {e : Envr} (h : EnvT Γ e) {t : Tm} {D : Dom} (ht : tmD Γ t = some D) : ∃ k, k ∈ D ∧ vof t e = some k := by
  cases t with
  | var x => exact h.2 x D ht
  | val k =>
    have : some [k] = some D := ht
    cases this
    exact ⟨k, List.mem_singleton.mpr rfl, rfl⟩
  | any => cases ht
def bindT (Γ : Ctx) (x : Str) (D : Dom) : Ctx := match look Γ x with
  | some _ => Γ
  | none => Rs.put Γ x D
theorem bind_ok {Γ : Ctx} {e e' : Envr} {x : Str} {D : Dom} {v : L2.Key} (h : EnvT Γ e) (hv : v ∈ D) (hb : boundM x v e = some e') : EnvT (bindT Γ x D) e' := by
  unfold boundM at hb
  cases hl : look Γ x with
  | some D0 =>
    obtain ⟨k, hk, ek⟩ := h.2 x D0 hl
    rw [ek] at hb
    dsimp only at hb
    have e1 : bindT Γ x D = Γ := by unfold bindT; rw [hl]
    rw [e1]
    split at hb
    · rename_i hkv
      cases hb
      refine ⟨by rw [put_keys, ek]; exact (if_pos rfl).trans h.1, fun y D' hy => ?_⟩
      obtain ⟨k', h1, h2⟩ := h.2 y D' hy
      refine ⟨k', h1, ?_⟩
      rw [look_put]
      by_cases hyx : y = x
      · rw [if_pos hyx, ← h2, hyx, ek, hkv]
      · rw [if_neg hyx]
        exact h2
    · cases hb
  | none =>
    have en := h.none hl
    rw [en] at hb
    dsimp only at hb
    cases hb
    have e1 : bindT Γ x D = Rs.put Γ x D := by unfold bindT; rw [hl]
    rw [e1]
    refine ⟨?_, fun y D' hy => ?_⟩
    · rw [put_new _ en, put_new _ hl, List.map_append, List.map_append, h.1]
      rfl
    · rw [look_put] at hy ⊢
      by_cases hyx : y = x
      · rw [if_pos hyx] at hy ⊢
        cases hy
        exact ⟨v, hv, rfl⟩
      · rw [if_neg hyx] at hy ⊢
        exact h.2 y D' hy
def metT : List Tm → List Dom → Ctx → Option Ctx
  | [], [], Γ => some Γ
  | .var x :: ts, D :: Ds, Γ => metT ts Ds (bindT Γ x D)
  | .val _ :: ts, _ :: Ds, Γ => metT ts Ds Γ
  | .any :: ts, _ :: Ds, Γ => metT ts Ds Γ
  | _, _, _ => none
theorem metT_ok : ∀ {ts : List Tm} {Ds : List Dom} {r : Row} {Γ Γ' : Ctx} {e e' : Envr}, EnvT Γ e → inCols Ds r → metT ts Ds Γ = some Γ' → metGo ts r e = some e' → EnvT Γ' e'
  | [], [], [], Γ, Γ', e, e', h, _, ht, hm => by
    have h1 : some Γ = some Γ' := ht
    have h2 : some e = some e' := hm
    cases h1
    cases h2
    exact h
  | [], [], _ :: _, _, _, _, _, _, hc, _, _ => absurd hc (by intro z; exact z)
  | [], _ :: _, _, _, _, _, _, _, _, ht, _ => by cases ht
  | t :: ts, [], _, _, _, _, _, _, _, ht, _ => by cases t <;> cases ht
  | _ :: _, _ :: _, [], _, _, _, _, _, hc, _, _ => absurd hc (by intro z; exact z)
  | .var x :: ts, D :: Ds, v :: r, Γ, Γ', e, e', h, hc, ht, hm => by
    have hm' : (boundM x v e).bind (fun e' => metGo ts r e') = some e' := hm
    cases hb : boundM x v e with
    | none => rw [hb] at hm'; cases hm'
    | some e1 =>
      rw [hb] at hm'
      exact metT_ok (bind_ok h hc.1 hb) hc.2 ht hm'
  | .val k :: ts, D :: Ds, v :: r, Γ, Γ', e, e', h, hc, ht, hm => by
    have hm' : (if k = v then some e else none).bind (fun e' => metGo ts r e') = some e' := hm
    split at hm'
    · exact metT_ok h hc.2 ht hm'
    · cases hm'
  | .any :: ts, D :: Ds, v :: r, Γ, Γ', e, e', h, hc, ht, hm => metT_ok h hc.2 ht hm
def okB : L2.Key → Bool
  | .inl i => decide (-1000000 ≤ i ∧ i ≤ 1000000)
  | .inr x => decide (x = "a")
theorem okB_ok {k : L2.Key} (h : okB k = true) : okK k := by
  cases k with
  | inl i =>
    have h' : decide (-1000000 ≤ i ∧ i ≤ 1000000) = true := h
    have h2 := of_decide_eq_true h'
    exact h2
  | inr x =>
    have h' : decide (x = "a") = true := h
    have h2 := of_decide_eq_true h'
    exact h2
def litT (f : Bool) (Γ : Ctx) : Lit → Option Ctx
  | .fact r ts => match cols f r with
    | some Ds => metT ts Ds Γ
    | none => none
  | .not_ _ _ => some Γ
  | .cmp op a b => match tmD Γ a, tmD Γ b with
    | some A, some B => if (A.all okB && B.all okB && !decide (op = "<=")) = true then some Γ else none
    | _, _ => none
  | .is_ v op a b => match tmD Γ a, tmD Γ b with
    | some A, some B => if A.all okB = true then some (bindT Γ v (A.flatMap fun x => B.filterMap fun y => reckM op x y)) else none
    | _, _ => none
  | .cnt v r _ => match cols f r with
    | some Ds => some (bindT Γ v (upTo (sizeD Ds + 1)))
    | none => none
theorem litT_ok {f : Bool} {kn : Kn} {Γ Γ' : Ctx} {e : Envr} {l : Lit} (hT : RowsT f kn) (he : EnvT Γ e) (h : litT f Γ l = some Γ') : (isFact l = true ∨ LitOk e l) ∧ ∀ e' ∈ litWays kn l e, EnvT Γ' e' := by
  cases l with
  | fact r ts =>
    refine ⟨.inl rfl, fun e' h' => ?_⟩
    have h'' : e' ∈ (rowsOf kn r).filterMap fun row => metM ts row e := h'
    obtain ⟨row, hr, hm⟩ := List.mem_filterMap.mp h''
    obtain ⟨Ds, e1, hc⟩ := hT.of hr
    simp only [litT, e1] at h
    unfold metM at hm
    split at hm
    · exact metT_ok he hc h hm
    · cases hm
  | not_ r ts =>
    refine ⟨.inr trivial, fun e' h' => ?_⟩
    have h'' : e' ∈ (if (cntM ts (rowsOf kn r) e : Nat) > 0 then none else some e).toList := h'
    have h1 : some Γ = some Γ' := h
    cases h1
    split at h''
    · cases h''
    · rw [List.mem_singleton.mp h'']
      exact he
  | cmp op a b =>
    simp only [litT] at h
    cases ha : tmD Γ a with
    | none => rw [ha] at h; cases h
    | some A =>
      cases hb : tmD Γ b with
      | none => rw [ha, hb] at h; cases h
      | some B =>
        rw [ha, hb] at h
        dsimp only at h
        split at h
        · rename_i hc
          simp only [Bool.and_eq_true, List.all_eq_true, Bool.not_eq_true', decide_eq_false_iff_not] at hc
          cases h
          obtain ⟨x, hx, ex⟩ := tmD_ok he ha
          obtain ⟨y, hy, ey⟩ := tmD_ok he hb
          refine ⟨.inr ⟨x, y, ex, ey, okB_ok (hc.1.1 x hx), okB_ok (hc.1.2 y hy), hc.2⟩, fun e' h' => ?_⟩
          have h'' : e' ∈ (testM kn e (.cmp op a b)).toList := h'
          simp only [testM, ex, ey] at h''
          split at h''
          · rw [List.mem_singleton.mp h'']
            exact he
          · cases h''
        · cases h
  | is_ v op a b =>
    simp only [litT] at h
    cases ha : tmD Γ a with
    | none => rw [ha] at h; cases h
    | some A =>
      cases hb : tmD Γ b with
      | none => rw [ha, hb] at h; cases h
      | some B =>
        rw [ha, hb] at h
        dsimp only at h
        split at h
        · rename_i hc
          rw [List.all_eq_true] at hc
          cases h
          obtain ⟨x, hx, ex⟩ := tmD_ok he ha
          obtain ⟨y, hy, ey⟩ := tmD_ok he hb
          refine ⟨.inr ⟨x, y, ex, ey, okB_ok (hc x hx)⟩, fun e' h' => ?_⟩
          have h'' : e' ∈ (testM kn e (.is_ v op a b)).toList := h'
          simp only [testM, ex, ey] at h''
          cases hr : reckM op x y with
          | none => rw [hr] at h''; cases h''
          | some k =>
            rw [hr] at h''
            have h3 : boundM v k e = some e' := Option.mem_toList.mp h''
            exact bind_ok he (List.mem_flatMap.mpr ⟨x, hx, List.mem_filterMap.mpr ⟨y, hy, hr⟩⟩) h3
        · cases h
  | cnt v r ts =>
    simp only [litT] at h
    cases hc : cols f r with
    | none => rw [hc] at h; cases h
    | some Ds =>
      rw [hc] at h
      cases h
      refine ⟨.inr trivial, fun e' h' => ?_⟩
      have h'' : e' ∈ (boundM v (.inl (cntM ts (rowsOf kn r) e : Nat)) e).toList := h'
      refine bind_ok he (List.mem_map.mpr ⟨cntM ts (rowsOf kn r) e, ?_, rfl⟩) (Option.mem_toList.mp h'')
      rw [List.mem_range]
      have h1 : cntM ts (rowsOf kn r) e ≤ (rowsOf kn r).length := List.length_filter_le _ _
      have h2 := hT.size hc
      omega
def bodyT (f : Bool) : Body → Ctx → Option Ctx
  | [], Γ => some Γ
  | l :: ls, Γ => if Γ.length ≤ 800 then (litT f Γ l).bind (bodyT f ls) else none
def facL (f : Bool) : Lit → Nat
  | .fact r _ => match cols f r with
    | some Ds => sizeD Ds
    | none => 1
  | _ => 1
def facN (f : Bool) : Body → Nat
  | [] => 1
  | l :: ls => facL f l * facN f ls
theorem sizeD_pos : ∀ {Ds : List Dom}, (∀ D ∈ Ds, D ≠ []) → 1 ≤ sizeD Ds
  | [], _ => Nat.le_refl _
  | D :: Ds, h => by
    unfold sizeD
    have h1 : 1 ≤ D.length := List.length_pos_iff.mpr (h D (List.mem_cons_self ..))
    have h2 := sizeD_pos fun D' hD => h D' (List.mem_cons_of_mem _ hD)
    exact Nat.mul_le_mul h1 h2
theorem facL_pos (f : Bool) (l : Lit) : 1 ≤ facL f l := by
  cases l with
  | fact r ts =>
    simp only [facL]
    cases hc : cols f r with
    | none => exact Nat.le_refl _
    | some Ds =>
      unfold cols at hc
      cases f <;> (split at hc; · cases hc; decide +kernel) <;> (split at hc; · cases hc; decide +kernel) <;> (split at hc; · cases hc; decide +kernel) <;> (split at hc; · cases hc; decide +kernel) <;> cases hc
  | _ => exact Nat.le_refl _
theorem facN_pos (f : Bool) : ∀ b : Body, 1 ≤ facN f b
  | [] => Nat.le_refl _
  | l :: ls => Nat.mul_le_mul (facL_pos f l) (facN_pos f ls)
theorem litWays_len {f : Bool} {kn : Kn} (hT : RowsT f kn) (l : Lit) (e : Envr) : (litWays kn l e).length ≤ facL f l := by
  have one : ∀ o : Option Envr, o.toList.length ≤ 1 := fun o => by cases o <;> simp
  cases l with
  | fact r ts =>
    show ((rowsOf kn r).filterMap fun row => metM ts row e).length ≤ _
    refine Nat.le_trans (List.length_filterMap_le _ _) ?_
    simp only [facL]
    cases hc : cols f r with
    | none => rw [hT.size0 hc]; exact Nat.zero_le _
    | some Ds => exact hT.size hc
  | not_ r ts => exact one _
  | cmp op a b => exact one _
  | is_ v op a b => exact one _
  | cnt v r ts => exact one _
theorem body_ok {f : Bool} {kn : Kn} (hT : RowsT f kn) : ∀ {b : Body} {es : List Envr} {Γ Γ' : Ctx} {n : Nat}, (∀ e ∈ es, EnvT Γ e) → es.length ≤ n → bodyT f b Γ = some Γ' → n * facN f b ≤ 1000000 → WaysOk kn b es ∧ (∀ e ∈ waysGo kn b es, EnvT Γ' e) ∧ (waysGo kn b es).length ≤ n * facN f b
  | [], es, Γ, Γ', n, he, hl, hb, hn => by
    have : some Γ = some Γ' := hb
    cases this
    have h1 : n * facN f [] = n := Nat.mul_one n
    rw [h1] at hn ⊢
    exact ⟨Nat.le_trans hl hn, he, hl⟩
  | l :: ls, es, Γ, Γ', n, he, hl, hb, hn => by
    have hb' : (if Γ.length ≤ 800 then (litT f Γ l).bind (bodyT f ls) else none) = some Γ' := hb
    split at hb'
    · rename_i h8
      cases hlt : litT f Γ l with
      | none => rw [hlt] at hb'; cases hb'
      | some Γ1 =>
        rw [hlt] at hb'
        have hn' : n * facL f l * facN f ls ≤ 1000000 := by
          rw [Nat.mul_assoc]
          exact hn
        have h1 : ∀ e ∈ es.flatMap (litWays kn l), EnvT Γ1 e := fun e hm => by
          obtain ⟨e0, h0, h1⟩ := List.mem_flatMap.mp hm
          exact (litT_ok hT (he e0 h0) hlt).2 e h1
        have h2 : (es.flatMap (litWays kn l)).length ≤ n * facL f l := Nat.le_trans (flatMap_len fun x _ => litWays_len hT l x) (by rw [Nat.mul_comm n]; exact Nat.mul_le_mul_left _ hl)
        obtain ⟨q1, q2, q3⟩ := body_ok hT h1 h2 hb' hn'
        have hnn : n ≤ 1000000 := by
          have p1 := facN_pos f (l :: ls)
          have : n * 1 ≤ n * facN f (l :: ls) := Nat.mul_le_mul_left _ p1
          omega
        refine ⟨⟨Nat.le_trans hl hnn, fun e hm => ⟨by rw [(he e hm).len]; exact h8, (litT_ok hT (he e hm) hlt).1⟩, q1⟩, q2, ?_⟩
        have e3 : n * facN f (l :: ls) = n * facL f l * facN f ls := (Nat.mul_assoc _ _ _).symm
        rw [e3]
        exact q3
    · cases hb'
def headT (Γ : Ctx) : List Tm → List Dom → Bool
  | [], [] => true
  | t :: ts, D :: Ds => (match tmD Γ t with
    | some A => A.all fun k => decide (k ∈ D)
    | none => false) && headT Γ ts Ds
  | _, _ => false
theorem headT_ok {Γ : Ctx} {e : Envr} (he : EnvT Γ e) : ∀ {ts : List Tm} {Ds : List Dom}, headT Γ ts Ds = true → inCols Ds (headM ts e) ∧ ∀ t ∈ ts, ∃ k, vof t e = some k
  | [], [], _ => ⟨trivial, fun t h => by cases h⟩
  | [], _ :: _, h => by cases h
  | _ :: _, [], h => by cases h
  | t :: ts, D :: Ds, h => by
    have h' : ((match tmD Γ t with
      | some A => A.all fun k => decide (k ∈ D)
      | none => false) && headT Γ ts Ds) = true := h
    rw [Bool.and_eq_true] at h'
    obtain ⟨q1, q2⟩ := headT_ok he h'.2
    cases ht : tmD Γ t with
    | none => rw [ht] at h'; cases h'.1
    | some A =>
      rw [ht] at h'
      obtain ⟨k, hk, ek⟩ := tmD_ok he ht
      have hkD : k ∈ D := of_decide_eq_true (List.all_eq_true.mp h'.1 k hk)
      refine ⟨⟨?_, q1⟩, fun t' ht' => ?_⟩
      · show (vof t e).getD (.inl 0) ∈ D
        rw [ek]
        exact hkD
      · rcases List.mem_cons.mp ht' with rfl | ht'
        · exact ⟨k, ek⟩
        · exact q2 t' ht'
def checkRule (f : Bool) (ru : Rule) : Bool := match bodyT f ru.body [], cols f ru.rel with
  | some Γ, some Ds => decide (facN f ru.body ≤ 2000) && decide (ru.body.length ≤ 100) && decide (ru.ts.length ≤ 100) && headT Γ ru.ts Ds
  | _, _ => false
theorem rule_ok {f : Bool} {kn : Kn} {ru : Rule} (hT : RowsT f kn) (h : checkRule f ru = true) : RuleOk kn ru ∧ (∀ p ∈ ruleM kn ru, p.1 = ru.rel ∧ RowT f p.1 p.2) ∧ (ruleM kn ru).length ≤ 2000 := by
  unfold checkRule at h
  cases hb : bodyT f ru.body [] with
  | none => rw [hb] at h; cases h
  | some Γ =>
    cases hc : cols f ru.rel with
    | none => rw [hb, hc] at h; cases h
    | some Ds =>
      rw [hb, hc] at h
      simp only [Bool.and_eq_true, decide_eq_true_eq] at h
      obtain ⟨⟨⟨h1, h2⟩, h3⟩, h4⟩ := h
      obtain ⟨q1, q2, q3⟩ := body_ok hT (es := [[]]) (Γ := []) (n := 1) (fun e he => by rw [List.mem_singleton.mp he]; exact EnvT.nil) (Nat.le_refl _) hb (by omega)
      have q3' : (waysM kn ru.body).length ≤ 2000 := by
        have : (waysM kn ru.body).length ≤ 1 * facN f ru.body := q3
        omega
      refine ⟨⟨h2, h3, q1, fun e he => (headT_ok (q2 e he) h4).2⟩, fun p hp => ?_, ?_⟩
      · obtain ⟨e, he, rfl⟩ := List.mem_map.mp hp
        exact ⟨rfl, Ds, hc, (headT_ok (q2 e he) h4).1⟩
      · unfold ruleM
        rw [List.length_map]
        exact q3'
theorem tmpl_check : (∀ k, k < 16 → ∀ c, c < 5 → k ≠ 9 → checkRule false (tmpl k c) = true) ∧ (∀ k, k < 16 → ∀ c, c < 5 → k ≠ 6 → k ≠ 15 → checkRule true (tmpl k c) = true) := by decide +kernel
end Rs


set_option Elab.async false
set_option linter.all false
set_option maxRecDepth 100000
set_option maxHeartbeats 2000000
/-! # M8: the model of a state that the law makes: it ends, its rows have their types; its denials can be asked -/
namespace Rs
open PySem PySem.Spec PyProof.Rows L2
def domSize (f : Bool) (n : Str) : Nat := match cols f n with
  | some Ds => sizeD Ds
  | none => 0
theorem domSize_le (f : Bool) (n : Str) : domSize f n ≤ 756 := by
  unfold domSize
  cases h : cols f n with
  | none => exact Nat.zero_le _
  | some Ds => exact (cols_len h).2
structure KInv (f : Bool) (st : St) (kn : Kn) : Prop where
  keys : kn.map (·.1) = allRels st
  ty : RowsT f kn
def mu (f : Bool) (kn : Kn) : Nat := (kn.map fun x => domSize f x.1 - x.2.length).sum
theorem addRow_mem {rs : List Row} {r x : Row} (h : x ∈ addRow rs r) : x ∈ rs ∨ x = r := by
  unfold addRow at h
  split at h
  · exact .inl h
  · rcases List.mem_append.mp h with h | h
    · exact .inl h
    · exact .inr (List.mem_singleton.mp h)
theorem addRow_nodup {rs : List Row} {r : Row} (h : rs.Nodup) : (addRow rs r).Nodup := by
  unfold addRow
  split
  · exact h
  · rename_i hr
    rw [List.nodup_append]
    refine ⟨h, by simp, fun a ha b hb => ?_⟩
    rw [List.mem_singleton.mp hb]
    rintro rfl
    exact hr ha
theorem addRow_grow (rs : List Row) (r : Row) : rs.length ≤ (addRow rs r).length := by
  unfold addRow
  split
  · exact Nat.le_refl _
  · rw [List.length_append]
    omega
theorem KInv.add {f : Bool} {st : St} {kn : Kn} (h : KInv f st kn) {n : Str} {r : Row} (hr : RowT f n r) : KInv f st (addOne kn n r) := by
  refine ⟨(addOne_keys _ _ _).trans h.keys, ⟨fun x hx => ?_, fun x hx => ?_⟩⟩
  · obtain ⟨q, hq, rfl⟩ := List.mem_map.mp hx
    intro r' hr'
    by_cases e : q.1 = n
    · rw [if_pos e] at hr' ⊢
      rcases addRow_mem hr' with h1 | h1
      · exact h.ty.dom q hq r' h1
      · rw [h1]
        show RowT f q.1 r
        rw [e]
        exact hr
    · rw [if_neg e] at hr' ⊢
      exact h.ty.dom q hq r' hr'
  · obtain ⟨q, hq, rfl⟩ := List.mem_map.mp hx
    by_cases e : q.1 = n
    · rw [if_pos e]
      exact addRow_nodup (h.ty.nd q hq)
    · rw [if_neg e]
      exact h.ty.nd q hq
theorem sum_le' {α : Type} {f g : α → Nat} : ∀ {l : List α}, (∀ x ∈ l, g x ≤ f x) → (l.map g).sum ≤ (l.map f).sum
  | [], _ => Nat.le_refl _
  | a :: l, h => by
    rw [List.map_cons, List.map_cons, List.sum_cons, List.sum_cons]
    have h1 := h a (List.mem_cons_self ..)
    have h2 := sum_le' (l := l) fun x hx => h x (List.mem_cons_of_mem _ hx)
    omega
theorem sum_lt' {α : Type} {f g : α → Nat} : ∀ {l : List α}, (∀ x ∈ l, g x ≤ f x) → (∃ x ∈ l, g x < f x) → (l.map g).sum < (l.map f).sum
  | [], _, ⟨x, hx, _⟩ => by cases hx
  | a :: l, h, ⟨x, hx, hlt⟩ => by
    rw [List.map_cons, List.map_cons, List.sum_cons, List.sum_cons]
    have h1 := h a (List.mem_cons_self ..)
    have h2 := sum_le' (l := l) fun x hx => h x (List.mem_cons_of_mem _ hx)
    rcases List.mem_cons.mp hx with e | hx
    · rw [e] at hlt
      omega
    · have h3 := sum_lt' (l := l) (fun x hx => h x (List.mem_cons_of_mem _ hx)) ⟨x, hx, hlt⟩
      omega
theorem mu_one (f : Bool) (kn : Kn) (n : Str) (r : Row) : mu f (addOne kn n r) = (kn.map fun q => domSize f q.1 - (if q.1 = n then addRow q.2 r else q.2).length).sum := by
  unfold mu addOne
  rw [List.map_map]
  congr 1
  refine List.map_congr_left fun q _ => ?_
  show domSize f (if q.1 = n then (q.1, addRow q.2 r) else q).1 - (if q.1 = n then (q.1, addRow q.2 r) else q).2.length = _
  split <;> rfl
theorem mu_add_le (f : Bool) (kn : Kn) (n : Str) (r : Row) : mu f (addOne kn n r) ≤ mu f kn := by
  rw [mu_one]
  refine sum_le' fun q _ => ?_
  have := addRow_grow q.2 r
  split <;> omega
theorem mu_add_lt {f : Bool} {st : St} {kn : Kn} (h : KInv f st kn) {n : Str} {r : Row} (hr : RowT f n r) (hn : n ∈ allRels st) (hno : r ∉ rowsOf kn n) : mu f (addOne kn n r) < mu f kn := by
  rw [mu_one]
  refine sum_lt' (fun q _ => ?_) ?_
  · have := addRow_grow q.2 r
    split <;> omega
  · rw [← h.keys] at hn
    obtain ⟨q, hq, rfl⟩ := List.mem_map.mp hn
    refine ⟨q, hq, ?_⟩
    have hl : look kn q.1 = some q.2 := nodup_look (by rw [h.keys]; exact allRels_nodup st) hq
    have e1 : rowsOf kn q.1 = q.2 := by
      show (look kn q.1).getD [] = _
      rw [hl]
      rfl
    rw [e1] at hno
    rw [if_pos rfl]
    obtain ⟨Ds, e2, hc⟩ := hr
    have e3 : domSize f q.1 = sizeD Ds := by
      unfold domSize
      rw [e2]
    have e4 : (addRow q.2 r).length = q.2.length + 1 := by
      unfold addRow
      rw [if_neg hno, List.length_append, List.length_singleton]
    have hk := h.add (n := q.1) (r := r) ⟨Ds, e2, hc⟩
    have hm : (q.1, addRow q.2 r) ∈ addOne kn q.1 r := List.mem_map.mpr ⟨q, hq, by rw [if_pos rfl]⟩
    have e5 : (addRow q.2 r).length ≤ sizeD Ds := by
      rw [← prodRows_len]
      refine pigeon (hk.ty.nd _ hm) fun r' hr' => ?_
      obtain ⟨Ds', e', hc'⟩ := hk.ty.dom _ hm r' hr'
      have e' : cols f q.1 = some Ds' := e'
      rw [e2] at e'
      cases e'
      exact mem_prodRows hc'
    omega
theorem addAll_inv {f : Bool} {st : St} {kn : Kn} {prs : List (Str × Row)} (h : KInv f st kn) (hp : ∀ p ∈ prs, RowT f p.1 p.2 ∧ p.1 ∈ allRels st) : KInv f st (addAll kn prs).1 ∧ ((addAll kn prs).2 = true → mu f (addAll kn prs).1 < mu f kn) := by
  have key : ∀ (prs : List (Str × Row)) (s : Kn × Bool) (m : Nat), (∀ p ∈ prs, RowT f p.1 p.2 ∧ p.1 ∈ allRels st) → KInv f st s.1 → mu f s.1 ≤ m → (s.2 = true → mu f s.1 < m) → KInv f st (prs.foldl addStep s).1 ∧ ((prs.foldl addStep s).2 = true → mu f (prs.foldl addStep s).1 < m) := by
    intro prs
    induction prs with
    | nil => intro s m _ h1 _ h3; exact ⟨h1, h3⟩
    | cons p prs ih =>
      intro s m hp h1 h2 h3
      have hpp := hp p (List.mem_cons_self ..)
      rw [List.foldl_cons]
      refine ih _ m (fun x hx => hp x (List.mem_cons_of_mem _ hx)) ?_ ?_ ?_
      · unfold addStep
        split
        · exact h1
        · exact h1.add hpp.1
      · unfold addStep
        split
        · exact h2
        · exact Nat.le_trans (mu_add_le _ _ _ _) h2
      · unfold addStep
        split
        · exact h3
        · rename_i hno
          intro _
          exact Nat.lt_of_lt_of_le (mu_add_lt h1 hpp.1 hpp.2 hno) h2
  exact key prs (kn, false) _ hp h (Nat.le_refl _) (fun z => by cases z)
/-! ### which rules stand together -/
theorem t9_makes : ∀ c, c < 5 → makesM (tmpl 9 c).body = true ∧ (("u" : Str), false) ∈ relsM (tmpl 9 c).body := by decide +kernel
theorem t6_rels : ∀ c, c < 5 → (("s" : Str), true) ∈ relsM (tmpl 6 c).body := by decide +kernel
theorem t15_rels : ∀ c, c < 5 → (("s" : Str), false) ∈ relsM (tmpl 15 c).body := by decide +kernel
theorem rules_check {st : St} (h : GoodS st) (hg : NoGrow st) : ∃ f : Bool, ∀ q ∈ st.rules, checkRule f q.2 = true := by
  by_cases h9 : ∃ q ∈ st.rules, ∃ c, c < 5 ∧ q.2 = tmpl 9 c
  · obtain ⟨q9, hq9, c9, hc9, e9⟩ := h9
    refine ⟨true, fun q hq => ?_⟩
    obtain ⟨_, k, c, hk, hc, e⟩ := h.rules q hq
    have no : ∀ b, (("s" : Str), b) ∉ relsM q.2.body ∨ q.2.rel ≠ "u" := fun b => by
      by_cases hu : q.2.rel = "u"
      · refine .inl ?_
        have := hg q9 hq9 (by rw [e9]; exact (t9_makes c9 hc9).1) "u" false (by rw [e9]; exact (t9_makes c9 hc9).2) q hq hu b
        rw [e9] at this
        exact this
      · exact .inr hu
    rw [e]
    refine tmpl_check.2 k hk c hc (fun z => ?_) (fun z => ?_)
    · subst z
      rcases no true with h1 | h1
      · rw [e] at h1
        exact h1 (t6_rels c hc)
      · rw [e] at h1
        exact h1 rfl
    · subst z
      rcases no false with h1 | h1
      · rw [e] at h1
        exact h1 (t15_rels c hc)
      · rw [e] at h1
        exact h1 rfl
  · refine ⟨false, fun q hq => ?_⟩
    obtain ⟨_, k, c, hk, hc, e⟩ := h.rules q hq
    rw [e]
    refine tmpl_check.1 k hk c hc fun z => ?_
    subst z
    exact h9 ⟨q, hq, c, hc, e⟩
/-! ### the model -/
theorem rowsP_in : ∀ r ∈ rowsP, r ∈ prodRows [baseK, baseK] := by decide +kernel
theorem in_of_prod : ∀ {Ds : List Dom} {r : Row}, r ∈ prodRows Ds → inCols Ds r
  | [], r, h => by
    have : r ∈ [([] : Row)] := h
    rw [List.mem_singleton.mp this]
    trivial
  | D :: Ds, r, h => by
    have h' : r ∈ D.flatMap fun k => (prodRows Ds).map (k :: ·) := h
    obtain ⟨k, hk, h2⟩ := List.mem_flatMap.mp h'
    obtain ⟨r', hr', rfl⟩ := List.mem_map.mp h2
    exact ⟨hk, in_of_prod hr'⟩
theorem good_rowT {f : Bool} {n : Str} {r : Row} (h : GoodI (.fact n r)) : RowT f n r := by
  rcases h with ⟨rfl, h⟩ | ⟨rfl, h⟩
  · exact ⟨[baseK, baseK], rfl, in_of_prod (rowsP_in r h)⟩
  · refine ⟨[baseK], rfl, ?_⟩
    obtain ⟨k, hk, rfl⟩ := List.mem_map.mp h
    exact ⟨hk, trivial⟩
theorem dedup_facts (rs : List Row) : (dedup rs).Nodup ∧ ∀ r ∈ dedup rs, r ∈ rs := by
  have key : ∀ (rs acc : List Row), acc.Nodup → (rs.foldl addRow acc).Nodup ∧ ∀ r ∈ rs.foldl addRow acc, r ∈ acc ∨ r ∈ rs := by
    intro rs
    induction rs with
    | nil => intro acc h; exact ⟨h, fun r hr => .inl hr⟩
    | cons a rs ih =>
      intro acc h
      obtain ⟨h1, h2⟩ := ih (addRow acc a) (addRow_nodup h)
      refine ⟨h1, fun r hr => ?_⟩
      rcases h2 r hr with h3 | h3
      · rcases addRow_mem h3 with h4 | h4
        · exact .inl h4
        · rw [h4]
          exact .inr (List.mem_cons_self ..)
      · exact .inr (List.mem_cons_of_mem _ h3)
  obtain ⟨h1, h2⟩ := key rs [] List.nodup_nil
  refine ⟨h1, fun r hr => ?_⟩
  rcases h2 r hr with h3 | h3
  · cases h3
  · exact h3
theorem start_inv {f : Bool} {st : St} (h : GoodS st) : KInv f st (startM st) := by
  refine ⟨startM_keys st, ⟨fun x hx r hr => ?_, fun x hx => ?_⟩⟩
  · obtain ⟨n, _, rfl⟩ := List.mem_map.mp hx
    exact good_rowT (h.rowsOf_good ((dedup_facts _).2 r hr))
  · obtain ⟨n, _, rfl⟩ := List.mem_map.mp hx
    exact (dedup_facts _).1
theorem allRels_len (st : St) : (allRels st).length ≤ st.rels.length + st.rules.length := by
  unfold allRels
  rw [sortS_len]
  have q1 := addNew_len (st.rules.map (·.2.rel)) (addNew [] (st.rels.map (·.1)))
  have q2 := addNew_len (st.rels.map (·.1)) []
  rw [List.length_map] at q1 q2
  simp only [List.length_nil] at q2
  omega
theorem sum_bound {α : Type} {f : α → Nat} {b : Nat} : ∀ {l : List α}, (∀ x ∈ l, f x ≤ b) → (l.map f).sum ≤ b * l.length
  | [], _ => by simp
  | a :: l, h => by
    rw [List.map_cons, List.sum_cons, List.length_cons, Nat.mul_succ]
    have h1 := h a (List.mem_cons_self ..)
    have h2 := sum_bound (l := l) fun x hx => h x (List.mem_cons_of_mem _ hx)
    omega
theorem KInv.mu_bound {f : Bool} {st : St} {kn : Kn} (h : KInv f st kn) (hg : GoodS st) : mu f kn < 1000000 := by
  have h1 : mu f kn ≤ 756 * kn.length := sum_bound fun x _ => by
    have := domSize_le f x.1
    omega
  have h2 : kn.length = (allRels st).length := by rw [← h.keys, List.length_map]
  have h3 := allRels_len st
  have h4 := hg.lrels
  have h5 := hg.lrules
  omega
theorem KInv.rows_len {f : Bool} {st : St} {kn : Kn} (h : KInv f st kn) : ∀ x ∈ kn, x.2.length ≤ 756 := fun x hx => by
  have hl : look kn x.1 = some x.2 := nodup_look (by rw [h.keys]; exact allRels_nodup st) hx
  have e1 : rowsOf kn x.1 = x.2 := by
    show (look kn x.1).getD [] = _
    rw [hl]
    rfl
  rw [← e1]
  cases hc : cols f x.1 with
  | none => rw [h.ty.size0 hc]; exact Nat.zero_le _
  | some Ds => exact Nat.le_trans (h.ty.size hc) (cols_len hc).2
theorem KInv.rowsOk {f : Bool} {st : St} {kn : Kn} (h : KInv f st kn) : RowsOk kn ∧ ∀ x ∈ kn, ∀ r ∈ x.2, r ≠ [] :=
  ⟨fun x hx => ⟨by have := h.rows_len x hx; omega, fun r hr => by have := (h.ty.dom x hx r hr).len.1; omega⟩, fun x hx r hr => (h.ty.dom x hx r hr).len.2⟩
theorem lvRules_len (st : St) (i : Int) : (lvRules st i).length ≤ st.rules.length := by
  unfold lvRules
  refine Nat.le_trans (List.length_filterMap_le _ _) ?_
  rw [sortS_len, List.length_map]
  exact Nat.le_refl _
section
variable {f : Bool} {st : St} (hg : GoodS st) (hc : ∀ q ∈ st.rules, checkRule f q.2 = true)
theorem lv_check {i : Int} (hc : ∀ q ∈ st.rules, checkRule f q.2 = true) : ∀ ru ∈ lvRules st i, checkRule f ru = true := fun ru h => by
  obtain ⟨n, hn⟩ := lvRules_mem h
  exact hc _ hn
theorem rules_prs {kn : Kn} {i : Int} (hc : ∀ q ∈ st.rules, checkRule f q.2 = true) (h : KInv f st kn) : ∀ p ∈ rulesM kn (lvRules st i), RowT f p.1 p.2 ∧ p.1 ∈ allRels st := fun p hp => by
  unfold rulesM at hp
  obtain ⟨ru, hr, hp⟩ := List.mem_flatMap.mp hp
  obtain ⟨h1, h2⟩ := (rule_ok h.ty (lv_check hc ru hr)).2.1 p hp
  exact ⟨h2, by rw [h1]; exact lvRules_rel hr⟩
theorem rules_len {kn : Kn} {i : Int} (hg : GoodS st) (hc : ∀ q ∈ st.rules, checkRule f q.2 = true) (h : KInv f st kn) : (rulesM kn (lvRules st i)).length ≤ 40000 := by
  have h1 : (rulesM kn (lvRules st i)).length ≤ 2000 * (lvRules st i).length := flatMap_len fun ru hr => (rule_ok h.ty (lv_check hc ru hr)).2.2
  have h2 := lvRules_len st i
  have h3 := hg.lrules
  omega
theorem step_inv {kn : Kn} {i : Int} (hc : ∀ q ∈ st.rules, checkRule f q.2 = true) (h : KInv f st kn) : KInv f st (stepM (lvRules st i) kn).1 ∧ ((stepM (lvRules st i) kn).2 = true → mu f (stepM (lvRules st i) kn).1 < mu f kn) := addAll_inv h (rules_prs hc h)
theorem model_ok (h : LInv st) : ModelOk st := by
  obtain ⟨f, hc⟩ := rules_check h.good h.grow
  refine ⟨KInv f st, mu f, start_inv h.good, fun kn hk => ⟨hk.mu_bound h.good, hk.rowsOk.1, hk.rowsOk.2⟩, fun kn i hk => ?_⟩
  have hl := rules_len (i := i) h.good hc hk
  refine ⟨fun ru hr => (rule_ok hk.ty (lv_check hc ru hr)).1, by omega, fun x hx => ?_, (step_inv hc hk).1, (step_inv hc hk).2⟩
  have := hk.rows_len x hx
  omega
theorem fix_inv (hc : ∀ q ∈ st.rules, checkRule f q.2 = true) (i : Int) : ∀ (n : Nat) (kn : Kn), KInv f st kn → KInv f st (fixGo (lvRules st i) n kn)
  | 0, _, h => h
  | n + 1, kn, h => by
    unfold fixGo
    split
    · exact fix_inv hc i n _ (step_inv hc h).1
    · exact (step_inv hc h).1
theorem full_inv (hg : GoodS st) (hc : ∀ q ∈ st.rules, checkRule f q.2 = true) (n : Nat) : KInv f st (fullM st n) := by
  induction n with
  | zero => exact start_inv hg
  | succ n ih =>
    rw [fullM_succ]
    exact fix_inv hc _ _ _ ih
theorem model_inv (hg : GoodS st) (hc : ∀ q ∈ st.rules, checkRule f q.2 = true) : KInv f st (modelM st) := by
  have h := full_inv hg hc ((maxLev st).toNat + 1)
  refine ⟨?_, ⟨fun x hx r hr => ?_, fun x hx => ?_⟩⟩
  · rw [← h.keys]
    unfold modelM
    rw [List.map_map]
    rfl
  · obtain ⟨q, hq, rfl⟩ := List.mem_map.mp hx
    exact h.ty.dom q hq r (sortRows_mem.mp hr)
  · obtain ⟨q, hq, rfl⟩ := List.mem_map.mp hx
    exact (List.mergeSort_perm _ _).nodup_iff.mpr (h.ty.nd q hq)
end
theorem model_typed {st : St} (h : LInv st) : ∃ f, KInv f st (modelM st) := by
  obtain ⟨f, hc⟩ := rules_check h.good h.grow
  exact ⟨f, model_inv h.good hc⟩
/-! ### denials -/
def litVars : Lit → List Str
  | .fact _ ts => varsM ts
  | .is_ v _ _ _ => [v]
  | .cnt v _ _ => [v]
  | _ => []
def bvars (b : Body) : List Str := b.flatMap litVars
theorem litChk_vars {st : St} {kn vs : List Str} {l : Lit} (h : litChk st kn l = some vs) : ∀ v ∈ vs, v ∈ litVars l := by
  cases l with
  | fact r ts =>
    simp only [litChk] at h
    split at h
    · cases h; exact fun v hv => hv
    · cases h
  | not_ r ts =>
    simp only [litChk] at h
    split at h
    · split at h
      · cases h; exact fun v hv => by cases hv
      · cases h
    · cases h
  | cmp op a b =>
    simp only [litChk] at h
    split at h
    · cases h; exact fun v hv => by cases hv
    · cases h
  | is_ x op a b =>
    simp only [litChk] at h
    split at h
    · cases h; exact fun v hv => hv
    · cases h
  | cnt x r ts =>
    simp only [litChk] at h
    split at h
    · split at h
      · cases h
      · cases h; exact fun v hv => hv
    · cases h
theorem chkGo_vars {st : St} : ∀ {b : Body} {kn vs : List Str}, chkGo st b kn = some vs → ∀ v ∈ vs, v ∈ kn ∨ v ∈ bvars b
  | [], kn, vs, h => by
    have : some kn = some vs := h
    cases this
    exact fun v hv => .inl hv
  | l :: ls, kn, vs, h => by
    unfold chkGo at h
    cases hl : litChk st kn l with
    | none => rw [hl] at h; cases h
    | some ws =>
      rw [hl] at h
      intro v hv
      rcases chkGo_vars h v hv with h1 | h1
      · rcases (addNew_mem _ _ _).mp h1 with h2 | h2
        · exact .inl h2
        · refine .inr ?_
          unfold bvars
          rw [List.flatMap_cons]
          exact List.mem_append_left _ (litChk_vars hl v h2)
      · refine .inr ?_
        unfold bvars
        rw [List.flatMap_cons]
        exact List.mem_append_right _ h1
def checkDen (f : Bool) (b : Body) : Bool := match bodyT f b [] with
  | some Γ => decide (facN f b ≤ 2000) && (bvars b).all fun v => (look Γ v).isSome
  | none => false
theorem dtmpl_check : ∀ f : Bool, ∀ k, k < 8 → ∀ c, c < 5 → checkDen f (dtmpl k c) = true := by decide +kernel
theorem den_ok {f : Bool} {kn : Kn} {b : Body} (hT : RowsT f kn) (h : checkDen f b = true) : WaysOk kn b [[]] ∧ (waysM kn b).length ≤ 2000 ∧ ∀ e ∈ waysM kn b, ∀ v ∈ bvars b, ∃ k, look e v = some k := by
  unfold checkDen at h
  cases hb : bodyT f b [] with
  | none => rw [hb] at h; cases h
  | some Γ =>
    rw [hb] at h
    simp only [Bool.and_eq_true, decide_eq_true_eq, List.all_eq_true] at h
    obtain ⟨q1, q2, q3⟩ := body_ok hT (es := [[]]) (Γ := []) (n := 1) (fun e he => by rw [List.mem_singleton.mp he]; exact EnvT.nil) (Nat.le_refl _) hb (by omega)
    refine ⟨q1, ?_, fun e he v hv => ?_⟩
    · have : (waysM kn b).length ≤ 1 * facN f b := q3
      omega
    · have h1 := h.2 v hv
      cases hl : look Γ v with
      | none => rw [hl] at h1; cases h1
      | some D =>
        obtain ⟨k, _, ek⟩ := (q2 e he).2 v D hl
        exact ⟨k, ek⟩
theorem litChk_vlen {st : St} {kn vs : List Str} {l : Lit} (h : litChk st kn l = some vs) : vs.length ≤ (litVars l).length := by
  cases l with
  | fact r ts =>
    simp only [litChk] at h
    split at h
    · cases h; exact Nat.le_refl _
    · cases h
  | not_ r ts =>
    simp only [litChk] at h
    split at h
    · split at h
      · cases h; exact Nat.le_refl _
      · cases h
    · cases h
  | cmp op a b =>
    simp only [litChk] at h
    split at h
    · cases h; exact Nat.le_refl _
    · cases h
  | is_ x op a b =>
    simp only [litChk] at h
    split at h
    · cases h; exact Nat.le_refl _
    · cases h
  | cnt x r ts =>
    simp only [litChk] at h
    split at h
    · split at h
      · cases h
      · cases h; exact Nat.le_refl _
    · cases h
theorem chkGo_vlen {st : St} : ∀ {b : Body} {kn vs : List Str}, chkGo st b kn = some vs → vs.length ≤ kn.length + (bvars b).length
  | [], kn, vs, h => by
    have : some kn = some vs := h
    cases this
    exact Nat.le_add_right _ _
  | l :: ls, kn, vs, h => by
    unfold chkGo at h
    cases hl : litChk st kn l with
    | none => rw [hl] at h; cases h
    | some ws =>
      rw [hl] at h
      have h1 := chkGo_vlen h
      have h2 := addNew_len ws kn
      have h3 := litChk_vlen hl
      have h4 : (bvars (l :: ls)).length = (litVars l).length + (bvars ls).length := by
        unfold bvars
        rw [List.flatMap_cons, List.length_append]
      omega
theorem dtmpl_vlen : ∀ k, k < 8 → ∀ c, c < 5 → (bvars (dtmpl k c)).length ≤ 8 := by decide +kernel
/-- what an answer of a denial leans on -/
structure AnsOk (st : St) (b : Body) (rows : Kn) : Prop where
  body : BodyOk b
  chk : ∃ vs, chkM st b = some vs ∧ vs.length ≤ 100 ∧ ∀ e ∈ waysM rows b, ∀ v ∈ vs, ∃ k, look e v = some k
  rok : RowsOk rows
  ways : WaysOk rows b [[]]
  len : (waysM rows b).length ≤ 2000
theorem ans_ok {st : St} (h : LInv st) {q : Str × Body} (hq : q ∈ st.dens) : AnsOk st q.2 (modelM st) := by
  obtain ⟨f, hk⟩ := model_typed h
  obtain ⟨_, k, c, hk8, hc5, e⟩ := h.good.dens q hq
  have hd := den_ok (b := q.2) hk.ty (by rw [e]; exact dtmpl_check f k hk8 c hc5)
  obtain ⟨vs, hv⟩ := h.dens q hq
  refine ⟨dens_ok h.good q hq, ⟨vs, hv, ?_, fun e he v hvv => ?_⟩, hk.rowsOk.1, hd.1, hd.2.1⟩
  · have h1 := chkGo_vlen hv
    have h2 := dtmpl_vlen k hk8 c hc5
    rw [← e] at h2
    simp only [List.length_nil] at h1
    omega
  rcases chkGo_vars hv v hvv with h1 | h1
  · cases h1
  · exact hd.2.2 e he v h1
/-! ### turned states -/
theorem turn_linv {st : St} (h : LInv st) {l : List (Str × Row)} (hl : ∀ x ∈ l, GoodF x) : LInv (turnM st l) := h.facts (chgs_good hl) chgs_fact
theorem turn_rels {st : St} (h : LInv st) {l : List (Str × Row)} (hl : ∀ x ∈ l, GoodF x) : allRels (turnM st l) = allRels st := by
  have hs : Same3 (turnM st l) st := change_same3 chgs_fact
  have ht := turn_linv h hl
  have e1 := allRels_nodup (turnM st l)
  have e2 := allRels_nodup st
  have key : ∀ x, x ∈ allRels (turnM st l) ↔ x ∈ allRels st := fun x => by
    rw [allRels_mem, allRels_mem, look_ext_names hs.rels]
    refine or_congr Iff.rfl ?_
    have hr := rules_ext ht.good h.good hs.rules
    constructor
    · intro hx
      obtain ⟨q, hq, rfl⟩ := List.mem_map.mp hx
      exact List.mem_map_of_mem (f := fun q : Str × Rule => q.2.rel) ((hr q).mp hq)
    · intro hx
      obtain ⟨q, hq, rfl⟩ := List.mem_map.mp hx
      exact List.mem_map_of_mem (f := fun q : Str × Rule => q.2.rel) ((hr q).mpr hq)
  have hp := nodup_perm e1 e2 key
  exact List.Perm.eq_of_pairwise (fun a b _ _ h1 h2 => leS_anti h1 h2) (sortS_pw _) (sortS_pw _) hp
end Rs


set_option Elab.async false
set_option linter.all false
set_option maxRecDepth 100000
set_option maxHeartbeats 2000000
/-! # S24: answer_rows, clash -/
namespace Rs
open PySem PySem.Spec PyProof.Rows L2
theorem putK_mem {kvs : List (Row × V)} {k : Row} {v : V} {p : Row × V} (h : p ∈ putK kvs k v) : p.1 = k ∨ p ∈ kvs := by
  unfold putK at h
  split at h
  · obtain ⟨q, hq, e⟩ := List.mem_map.mp h
    split at e
    · rename_i ek
      rw [← e]
      exact .inl ek
    · rw [← e]
      exact .inr hq
  · rcases List.mem_append.mp h with h | h
    · exact .inr h
    · rw [List.mem_singleton.mp h]
      exact .inl rfl
theorem putK_ne {kvs : List (Row × V)} {k : Row} {v : V} : putK kvs k v ≠ [] := by
  unfold putK
  split
  · rename_i h
    intro z
    have := List.map_eq_nil_iff.mp z
    rw [this] at h
    cases h
  · simp
theorem putK_nil1 {kvs : List (Row × V)} {v : V} (h : kvs = [] ∨ ∃ u, kvs = [(([] : Row), u)]) : putK kvs ([] : Row) v = [(([] : Row), v)] := by
  rcases h with h | ⟨u, h⟩ <;> rw [h] <;> rfl
def spAns (K : PySem.W.Frag) : Sp := fun vs H Q _ => ∃ (p pb pr : Addr) (st : St) (b : Body) (rows : Kn), vs = [.ref p, .ref pb, .ref pr] ∧ StAt K H p st ∧ st.rules.length < 64 ∧ BodyAt H pb b ∧ RowsAt H pr rows ∧ AnsOk st b rows ∧
  ∀ (H' : Hp) (t v l : Addr) (ps : List (Addr × Row)), Same H H' → H' t = some (.tup [.ref v, .ref l]) → H' l = some (.lst (ps.map fun q => V.ref q.1)) → (ps = [] ↔ waysM rows b = []) → Q (.ref t) H'
section
variable {P : Program} {w : World} {K : PySem.W.Frag} {mg : Str → Option Value} {base : Heap}
theorem sc_answer_rows : FnScope ["state", "body", "rows", "variables", "found", "values", "_", "variable"] ["state", "body", "rows"] (defScope (topS 44)) := ⟨rfl, rfl, rfl, by decide +kernel, rfl, by decide +kernel, by decide +kernel⟩
theorem ok_answer_rows (T : Tx P K mg) : Cal P w K mg base CX0 5 "answer_rows" (spAns K) := by
  have C1 := ok_check_body (w := w) (base := base) T
  have C2 := ok_ways (w := w) (base := base) T
  obtain ⟨fdk, FK, gk, kk, bk⟩ := okF_row_key (w := w) (base := base) T
  refine cal_of T 32 44 rfl (by decide +kernel) sc_answer_rows (fun vs H Q E h => ?_) (fun _ _ _ _ _ _ us hl => match us, hl with | [_, _, _], _ => rfl) (fun cdv A outer s H vs Q E hr h => ?_)
  · obtain ⟨p, pb, pr, st, b, rows, rfl, _⟩ := h
    rfl
  · obtain ⟨p, pb, pr, st, b, rows, rfl, hst, h64, hpb, hpr, ⟨hbo, ⟨vs, hvs, hvl, hvb⟩, hrk, hwo, hwl⟩, q⟩ := h
    have hr4 : Room 4 _ := hr.mono (by decide)
    refine ⟨_, PSs.nox (pss_cons (ps_set (i := 3) sc_answer_rows.nd rfl (Or.inl rfl) (pe_cL C1 hr (pa_cons (pv 0) (pa_cons (pv 1) pa_nil))))
    (pss_cons (ps_set (i := 4) sc_answer_rows.nd rfl (Or.inl rfl) pe_dnewT)
    (pss_cons (ps_for PassesOwn.never rfl (pi_list (pe_c C2 hr (pa_cons (pv 1) (pa_cons (pv 2) (pa_cons (pv 2) pa_nil))))) (pg_tup rfl (pgs_cons (pg_name (i := 5) sc_answer_rows.nd rfl (Or.inr rfl)) (pgs_cons (pg_name (i := 6) sc_answer_rows.nd rfl (Or.inl rfl)) pgs_nil)))
    (pss_one (ps_dput (hu_of hr) (pv 4) (pe_callTy call_tuple_of (by rfl) (T.fr "tuple") (by decide +kernel) (pa_cons (pe_lc (own := [("variable", 7)]) (g := gName 7) (tt := tYes) rfl sc_answer_rows.nd (pi_tup (pv 3)) (blkOk_by (own := [("variable", 7)]) (N := ["state", "body", "rows", "variables", "found", "values", "_", "variable"]) (sc := defScope (topS 44)) (by decide +kernel)) (fun _ _ _ _ _ => (pg_name (i := 7) sc_answer_rows.nd rfl (Or.inl rfl))) (fun _ _ _ _ _ => pts_nil) (fun _ _ _ _ _ => (pe_dget (hu_of hr) (pv 5) (pv 7) (fun _ _ => rfl)))) pa_nil)) pe_bl rfl)))
    (pss_one (ps_ret (pe_tup (pa_cons (pv 3) (pa_cons (pe_callBK (cr_sortD rfl FK hr4 bk) (by rfl) (T.fr "sorted") (by decide +kernel) (pa_cons (pv 4) pa_nil) (pk_cons (pe_glob (v := .ref (He.ga K "row_key")) (by rfl) gk rfl) pk_nil)) pa_nil)))))))), ?_⟩
    refine ⟨_, rfl, _, rfl, p, pb, st, b, rfl, hst, h64, hpb, hbo, (fun e => by rw [hvs] at e; cases e), fun l' hl' H1 v s1 hv => ?_⟩
    rw [hvs] at hl'
    cases hl'
    refine fun D nD => ?_
    have sD := same_new (o := .dT []) nD
    have s2 := s1.trans sD
    refine ⟨_, rfl, _, rfl, _, rfl, pb, pr, b, rows, rfl, stays_body.go s2.t hpb, hbo.1, hpr.same s2, hrk, hwo, fun H3 wa s3 nw ⟨ws, hW, ews, hws⟩ => ?_⟩
    have lws : ws.length ≤ 2000 := by rw [← ews, List.length_map] at hwl; exact hwl
    have nD3 : H3 D = some (.dT []) := s3 _ _ upd_same
    refine ⟨wa, rfl, ⟨_, SqL.of_H hW⟩, for_W (walks_list (K := K) (a := wa) (l := ws) (f := fun q : Addr × Envr => V.ref q.1)) (fun pre σ H' => ∃ v5 v6 v7 kvs, σ = [some (.ref p), some (.ref pb), some (.ref pr), some (.ref v), some (.ref D), v5, v6, v7] ∧ Same H1 H' ∧ (∀ q ∈ ws, WayAt 100 H' q.1 q.2) ∧ H' wa = some (.lst (ws.map fun q => V.ref q.1)) ∧ H' D = some (.dT kvs) ∧ kvs.length ≤ pre.length ∧ (kvs = [] ↔ pre = []) ∧ (∀ q ∈ kvs, q.1.length = vs.length) ∧ (vs = [] → kvs = [] ∨ ∃ u, kvs = [(([] : Row), u)]))
      ⟨none, none, none, [], rfl, sD.trans s3, hws, hW, nD3, Nat.zero_le _, ⟨fun _ => rfl, fun _ => rfl⟩, (fun q hq => by cases hq), fun _ => .inl rfl⟩ (fun pre σ H' ⟨_, _, _, _, _, _, _, h, _⟩ => SqL.of_H h) ?_ ?_⟩
    · rintro pre ⟨qa, e⟩ post σ H' el ⟨v5, v6, v7, kvs, rfl, sm, hws', hW', hD, hkl, hke, hkv, hk0⟩
      have hm : (qa, e) ∈ ws := by rw [el]; simp
      obtain ⟨d, t, xs, h1, h2, h3, _⟩ := hws' _ hm
      have hme : e ∈ waysM rows b := by rw [← ews]; exact List.mem_map_of_mem (f := fun q : Addr × Envr => q.2) hm
      refine ⟨qa, _, rfl, SqT.of_H h1, rfl, _, _, rfl, _, _, rfl, rfl, ?_⟩
      have hvv : H' v = some (.tup (vs.map V.str)) := sm _ _ hv
      refine ⟨_, rfl, _, rfl, v, rfl, ⟨_, SqT.of_H hvv⟩, fun D2 nD2 => lc_W (walks_tup (K := K) (a := v) (l := vs) (f := V.str)) nD2 (fun H'' s => SqT.of_H (s _ _ hvv)) (by omega) (fun _ acc pre => acc = (pre.map fun x => (look e x).getD (.inl 0)).map kV) rfl ?_ ?_⟩
      · rintro pre2 x post2 acc H'' Nx No el2 s'' eD2 rfl hN _
        obtain ⟨k, hk⟩ := hvb e hme x (by rw [el2]; simp)
        have h2' : H'' d = some (.dK (encS kV e)) := s'' _ _ h2
        refine ⟨rfl, _, rfl, _, rfl, d, _, rfl, dgetS (.inl h2') hk, hN _ _ (Same.refl _) ?_⟩
        rw [List.map_append, List.map_append, List.map_singleton, List.map_singleton, hk]
        rfl
      · rintro H'' acc s'' eD2 rfl
        refine ⟨D2, _, rfl, .inl ⟨SqL.of_H eD2, fun l nl => ?_⟩⟩
        have sl := same_new (o := .tup ((vs.map fun x => (look e x).getD (.inl 0)).map kV)) nl
        have s5 := s''.trans sl
        have hD5 := s5 _ _ hD
        have lpre : pre.length < ws.length := by
          have := congrArg List.length el
          rw [List.length_append, List.length_cons] at this
          omega
        have hpr : (putK kvs (vs.map fun x => (look e x).getD (.inl 0)) (.bl true)).length ≤ kvs.length + 1 := length_putK _ _ _
        refine ⟨D, _, rfl, DPut.t (k := vs.map fun x => (look e x).getD (.inl 0)) hD5 upd_same (by rw [sizeLine_eq]; omega), _, _, _, _, rfl, same0_upd (sm.trans s5) nD, fun q hq => ?_, ?_, upd_same, ?_, ?_, fun q hq => ?_, fun hvn => ?_⟩
        · obtain ⟨d', t', xs', w1, w2, w3, w4⟩ := hws' q hq
          have w2' : H' d' = some (.dK (encS kV q.2)) := w2
          refine ⟨d', t', xs', ?_, ?_, ?_, w4⟩
          · rw [upd_ne (ne_of (s5 _ _ w1) hD5 (by intro z; cases z))]
            exact s5 _ _ w1
          · show upd _ _ _ _ = _
            rw [upd_ne (ne_of (s5 _ _ w2') hD5 (by intro z; cases z))]
            exact s5 _ _ w2'
          · rw [upd_ne (ne_of (s5 _ _ w3) hD5 (by intro z; cases z))]
            exact s5 _ _ w3
        · rw [upd_ne (ne_of (s5 _ _ hW') hD5 (by intro z; cases z))]
          exact s5 _ _ hW'
        · rw [List.length_append, List.length_singleton]
          omega
        · exact ⟨fun z => absurd z putK_ne, fun z => by simp at z⟩
        · rcases putK_mem hq with h | h
          · rw [h, List.length_map]
          · exact hkv q h
        · refine .inr ⟨.bl true, ?_⟩
          have h0 := hk0 hvn
          rw [hvn]
          exact putK_nil1 h0
    · rintro σ H' ⟨v5, v6, v7, kvs, rfl, sm, hws', hW', hD, hkl, hke, hkv, hk0⟩
      refine ⟨_, rfl, _, rfl, D, kvs, rfl, rfl, .inl hD, fun x hx => ?_, fun h2 x hx => ?_, fun ps H4 l eps hps s4 nl hl => ⟨by show 2 ≤ sizeLine; decide, fun t nt => ?_⟩⟩
      · rw [hkv x hx]
        omega
      · intro z
        have h3 := hkv x hx
        rw [z] at h3
        have h4 : vs = [] := List.eq_nil_of_length_eq_zero h3.symm
        rcases hk0 h4 with h5 | ⟨u, h5⟩
        · rw [h5] at h2
          simp at h2
        · rw [h5] at h2
          simp at h2
      · have st := same_new (o := .tup [V.ref v, V.ref l]) nt
        refine q _ t v l (sortP ps) ((s1.trans sm).trans (s4.trans st)) upd_same (st _ _ hl) ?_
        have e1 : sortP ps = [] ↔ kvs = [] := by
          have h3 := (sortP_perm ps).length_eq
          have h4 := congrArg List.length eps
          rw [List.length_map, List.length_map] at h4
          rw [← List.length_eq_zero_iff, ← List.length_eq_zero_iff]
          omega
        have e2 : ws = [] ↔ waysM rows b = [] := by
          rw [← ews]
          exact List.map_eq_nil_iff.symm
        exact e1.trans (hke.trans e2)
end
end Rs


set_option Elab.async false
set_option linter.all false
set_option maxRecDepth 100000
set_option maxHeartbeats 2000000
/-! # S25: clash, grants -/
namespace Rs
open PySem PySem.Spec PyProof.Rows L2
def clashOne (st : St) (n : Str) : Bool := !(waysM (modelM st) ((look st.dens n).getD [])).isEmpty
def clashM (st : St) : Bool := (sortS (st.dens.map (·.1))).any (clashOne st)
def grantM (st : St) (rel : Str) (row : Row) (want : Bool) : Bool := (decide (row ∈ rowsOf (modelM st) rel) == want) && !clashM st
def spClash (K : PySem.W.Frag) : Sp := fun vs H Q _ => ∃ (p : Addr) (st : St), vs = [.ref p] ∧ StAt K H p st ∧ LInv st ∧ (clashM st = false → ∀ H', Same H H' → Q .non H') ∧ ∀ (H' : Hp) (t : Addr), clashM st = true → Same H H' → Q (.ref t) H'
def spGrants (K : PySem.W.Frag) : Sp := fun vs H Q _ => ∃ (p pr : Addr) (st : St) (rel : Str) (row : Row) (want : Bool), vs = [.ref p, .str rel, .ref pr, .bl want] ∧ StAt K H p st ∧ LInv st ∧ RowH H pr row ∧ ∀ H', Same H H' → Q (.bl (grantM st rel row want)) H'
theorem LInv.h64 {st : St} (h : LInv st) : st.rels.length + st.rules.length < 64 := by
  have := h.good.lrels
  have := h.good.lrules
  omega
section
variable {P : Program} {w : World} {K : PySem.W.Frag} {mg : Str → Option Value} {base : Heap}
theorem sc_clash : FnScope ["state", "rows", "name", "_", "found"] ["state"] (defScope (topS 45)) := ⟨rfl, rfl, rfl, by decide +kernel, rfl, by decide +kernel, by decide +kernel⟩
theorem ok_clash (T : Tx P K mg) : Cal P w K mg base CX0 7 "clash" (spClash K) := by
  have C1 := ok_model (w := w) (base := base) T
  have C2 := ok_answer_rows (w := w) (base := base) T
  refine cal_of T 33 45 rfl (by decide +kernel) sc_clash (fun vs H Q E h => ?_) (fun _ _ _ _ _ _ us hl => match us, hl with | [_], _ => rfl) (fun cdv A outer s H vs Q E hr h => ?_)
  · obtain ⟨p, st, rfl, _⟩ := h
    rfl
  · obtain ⟨p, st, rfl, hst, hl, qn, qy⟩ := h
    refine ⟨_, PSs.nox (pss_cons (ps_set (i := 1) sc_clash.nd rfl (Or.inl rfl) (pe_c C1 hr (pa_cons (pv 0) pa_nil)))
    (pss_cons (ps_for PassesOwn.never rfl (pi_list (pe_callB (call_sortedD rfl) (by rfl) (T.fr "sorted") (by decide +kernel) (pa_cons (pe_fld (pv 0) rfl) pa_nil))) (pg_name (i := 2) sc_clash.nd rfl (Or.inl rfl))
    (pss_cons (ps_asg (pe_c C2 hr (pa_cons (pv 0) (pa_cons (pe_dget (hu_of hr) (pe_fld (pv 0) rfl) (pv 2) (fun _ _ => rfl)) (pa_cons (pv 1) pa_nil)))) (pg_tup rfl (pgs_cons (pg_name (i := 3) sc_clash.nd rfl (Or.inl rfl)) (pgs_cons (pg_name (i := 4) sc_clash.nd rfl (Or.inl rfl)) pgs_nil))))
    (pss_one (ps_if (pt_truth (pv 4) (by intro _; rfl)) (pss_one (ps_ret (pe_tup (pa_cons (pv 2) (pa_cons (pe_ix ix_list (pv 4) pe_int (fun _ _ => rfl)) pa_nil))))) pss_nil))))
    (pss_one (ps_ret pe_non)))), ?_⟩
    have h64 := hl.h64
    refine ⟨_, rfl, p, st, rfl, hst, h64, hl.good.rulesOk, hl.good.rowsOk, model_ok hl, fun H1 m s1 hm => ?_⟩
    obtain ⟨ra, fa, ua, da, ⟨dx, hi'⟩, hrel, hfac, hrul, ⟨us, hu, eu, hus⟩⟩ := hst.same s1
    rw [encS_map] at hu
    refine ⟨_, rfl, p, _, dx, _, _, rfl, hi', T.cl, T.na "denials", stF_d ra fa ua da, da, _, us.map (·.1), rfl, .inl hu, encS_keys _ _, ?_, fun ys l perm srt nl => ?_⟩
    · have h1 := congrArg List.length eu
      rw [List.length_map] at h1
      have h2 := hl.good.ldens
      rw [List.length_map]
      omega
    have ek : us.map (·.1) = st.dens.map (·.1) := by
      rw [← eu, List.map_map]
      rfl
    have e := sorted_is perm srt
    rw [ek] at e
    subst e
    have sl := same_new (o := .lst ((sortS (st.dens.map (·.1))).map V.str)) nl
    refine ⟨l, rfl, ⟨_, SqL.of_H upd_same⟩, for_W (walks_list (K := K) (a := l) (l := sortS (st.dens.map (·.1))) (f := V.str)) (fun pre σ H' => ∃ v2 v3 v4, σ = [some (.ref p), some (.ref m), v2, v3, v4] ∧ Same H1 H' ∧ H' l = some (.lst ((sortS (st.dens.map (·.1))).map V.str)) ∧ pre.any (clashOne st) = false)
      ⟨none, none, none, rfl, sl, upd_same, rfl⟩ (fun pre σ H' ⟨_, _, _, _, _, h, _⟩ => SqL.of_H h) ?_ ?_⟩
    · rintro pre n post σ H' el ⟨v2, v3, v4, rfl, sm, hL, hno⟩
      have hmem : n ∈ st.dens.map (·.1) := mem_sortS.mp (by rw [el]; simp)
      obtain ⟨b, hb⟩ : ∃ b, look st.dens n = some b := by
        cases hh : look st.dens n with
        | none => exact absurd hmem (look_none.mp hh)
        | some b => exact ⟨b, rfl⟩
      have e2 : look (us.map fun q => (q.1, q.2.2)) n = (look us n).map (·.2) := look_map (fun q : Addr × Body => q.2) n us
      rw [eu, hb] at e2
      cases hl2 : look us n with
      | none =>
        rw [hl2] at e2
        cases e2
      | some qq =>
        rw [hl2] at e2
        have e3 : qq.2 = b := (Option.some.inj e2).symm
        have hbat : BodyAt H' qq.1 b := stays_body.go sm.t (by rw [← e3]; exact hus _ (look_mem hl2))
        have dg : DGet H' da (.str n) (some (.ref qq.1)) := dgetS (f := fun x : Addr × Body => V.ref x.1) (.inl (sm _ _ hu)) hl2
        have hans := ans_ok hl (look_mem hb)
        have h64' : st.rules.length < 64 := by omega
        refine ⟨_, rfl, _, rfl, p, _, dx, _, _, rfl, sm _ _ hi', T.cl, T.na "denials", stF_d ra fa ua da, _, rfl, da, _, rfl, dg, _, rfl, p, qq.1, m, st, b, modelM st, rfl, (hst.same s1).same sm, h64', hbat, hm.same sm, hans, fun H2 t v l2 ps s2 ht hl2' hiff => ?_⟩
        have eone : clashOne st n = !ps.isEmpty := by
          unfold clashOne
          rw [hb]
          show (!(waysM (modelM st) b).isEmpty) = _
          congr 1
          rw [Bool.eq_iff_iff, List.isEmpty_iff, List.isEmpty_iff]
          exact hiff.symm
        refine ⟨t, _, rfl, SqT.of_H ht, rfl, _, _, rfl, _, _, rfl, rfl, ?_⟩
        refine ⟨_, rfl, !(ps.map fun q => V.ref q.1).isEmpty, .inl ⟨_, SqL.of_H hl2', rfl⟩, ?_⟩
        have eme : (ps.map fun q => V.ref q.1).isEmpty = ps.isEmpty := by cases ps <;> rfl
        rw [eme]
        refine iteB (fun c => ?_) (fun c => ?_)
        · obtain ⟨q1, ps', rfl⟩ : ∃ q1 ps', ps = q1 :: ps' := by
            cases ps with
            | nil => cases c
            | cons a b => exact ⟨a, b, rfl⟩
          refine ⟨_, rfl, _, rfl, l2, _, 0, _, rfl, rfl, SqL.of_H hl2', atI_nat (j := 0) rfl, by show 2 ≤ sizeLine; decide, fun T1 nT => ?_⟩
          refine qy _ T1 ?_ (((s1.trans sm).trans s2).trans (same_new nT))
          unfold clashM
          rw [List.any_eq_true]
          exact ⟨n, by rw [el]; simp, eone⟩
        · refine ⟨_, _, _, rfl, sm.trans s2, s2 _ _ hL, ?_⟩
          rw [List.any_append, hno, Bool.false_or, List.any_cons, List.any_nil, Bool.or_false, eone]
          exact c
    · rintro σ H' ⟨v2, v3, v4, rfl, sm, hL, hno⟩
      exact qn hno H' (s1.trans sm)
theorem sc_grants : FnScope ["state", "relation", "row", "wanted"] ["state", "relation", "row", "wanted"] (defScope (topS 50)) := ⟨rfl, rfl, rfl, by decide +kernel, rfl, by decide +kernel, by decide +kernel⟩
theorem ok_grants (T : Tx P K mg) : Cal P w K mg base CX0 8 "grants" (spGrants K) := by
  have C1 := ok_model (w := w) (base := base) T
  have C2 := ok_clash (w := w) (base := base) T
  refine cal_of T 37 50 rfl (by decide +kernel) sc_grants (fun vs H Q E h => ?_) (fun _ _ _ _ _ _ us hl => match us, hl with | [_, _, _, _], _ => rfl) (fun cdv A outer s H vs Q E hr h => ?_)
  · obtain ⟨p, pr, st, rel, row, want, rfl, _⟩ := h
    rfl
  · obtain ⟨p, pr, st, rel, row, want, rfl, hst, hl, hrow, q⟩ := h
    refine ⟨_, PSs.nox (pss_one (ps_ret (pe_and (pe_cmpR op_eq (pe_cmpR (op_inT tells_row (hu3 hr)) (pv 2) (pe_dget2 (hu_of hr) (pe_c C1 hr (pa_cons (pv 0) pa_nil)) (pv 1) (pe_lst pa_nil) ⟨rfl, rfl, rfl, rfl⟩) (by rfl)) (pv 3) (nomark _)) (pe_one (pe_cmpR op_isN (pe_c C2 hr (pa_cons (pv 0) pa_nil)) pe_non (nomark _)))))), ?_⟩
    refine ⟨_, rfl, _, rfl, p, st, rfl, hst, hl.h64, hl.good.rulesOk, hl.good.rowsOk, model_ok hl, fun H1 m s1 hm => ⟨m, rfl, rows_isD hm, _, rfl, Nat.zero_le _, fun l9 nl9 => ?_⟩⟩
    have s2 := same_new (o := .lst []) nl9
    obtain ⟨o9, gg9, la9, qs9, e91, e92, e93, e94, e95⟩ := get_rows2 hm rel s2 upd_same
    refine ⟨o9, gg9, pr, la9, row, qs9, rfl, e91, s2 _ _ (s1 _ _ hrow), SqL.of_H e93, e95, ?_⟩
    rw [if_neg Bool.false_ne_true, e94]
    have s12 := s1.trans s2
    refine ⟨_, rfl, rfl, ?_⟩
    have eg : grantM st rel row want = (decide (row ∈ rowsOf (modelM st) rel) == want && !clashM st) := rfl
    have ebl : decide (V.bl (decide (row ∈ rowsOf (modelM st) rel)) = V.bl want) = (decide (row ∈ rowsOf (modelM st) rel) == want) := by
      generalize decide (row ∈ rowsOf (modelM st) rel) = b
      cases b <;> cases want <;> rfl
    rw [ebl]
    refine ⟨_, rfl, iteB (fun c => ?_) (fun c => ?_)⟩
    · rw [c, Bool.true_and] at eg
      refine ⟨_, rfl, p, st, rfl, hst.same s12, hl, fun hc H3 s3 => ⟨rfl, ?_⟩, fun H3 t hc s3 => ⟨rfl, ?_⟩⟩
      · have q' := q H3 (s12.trans s3)
        rw [eg, hc] at q'
        exact q'
      · have q' := q H3 (s12.trans s3)
        rw [eg, hc] at q'
        exact q'
    · rw [c, Bool.false_and] at eg
      have q' := q _ s12
      rw [eg] at q'
      exact q'
end
end Rs


set_option Elab.async false
set_option linter.all false
set_option maxRecDepth 100000
set_option maxHeartbeats 2000000
/-! # M9: the plain law of the least sets: found size by size, or among all by a sort -/
namespace Rs
open PySem PySem.Spec PyProof.Rows L2
def partM (o idx : List Nat) : Bool := (o.filter fun i => !decide (i ∈ idx)).isEmpty
theorem partM_iff {o idx : List Nat} : partM o idx = true ↔ ∀ i ∈ o, i ∈ idx := by
  unfold partM
  rw [List.isEmpty_iff, List.filter_eq_nil_iff]
  constructor
  · intro h i hi
    simpa using h i hi
  · intro h i hi
    simpa using h i hi
theorem partM_trans {a b c : List Nat} (h : partM a b = true) (k : partM b c = true) : partM a c = true := by
  rw [partM_iff] at *
  exact fun i hi => k i (h i hi)
theorem partM_refl (a : List Nat) : partM a a = true := partM_iff.mpr fun _ h => h
def wishStep (G : List Nat → Bool) (found : List (List Nat)) (idx : List Nat) : List (List Nat) := if hasPartM found idx = true then found else if G idx = true then found ++ [idx] else found
def allSubs (n : Nat) : List (List Nat) := (List.range (n + 1)).flatMap (subsM n)
def wishIx (n : Nat) (G : List Nat → Bool) : List (List Nat) := (List.range (n + 1)).foldl (fun f s => (subsM n s).foldl (wishStep G) f) []
theorem wishIx_all (n : Nat) (G : List Nat → Bool) : wishIx n G = (allSubs n).foldl (wishStep G) [] := by
  unfold wishIx allSubs
  rw [List.foldl_flatMap]
/-- no other that grants is a part -/
def leastIn (gr : List (List Nat)) (one : List Nat) : Bool := (gr.filter fun o => !decide (o = one) && partM o one).isEmpty
def isMin (E : List (List Nat)) (G : List Nat → Bool) (x : List Nat) : Bool := G x && leastIn (E.filter G) x
theorem isMin_iff {E : List (List Nat)} {G : List Nat → Bool} {x : List Nat} : isMin E G x = true ↔ G x = true ∧ ∀ o ∈ E, G o = true → o ≠ x → partM o x = false := by
  unfold isMin leastIn
  rw [Bool.and_eq_true, List.isEmpty_iff, List.filter_eq_nil_iff]
  refine and_congr Iff.rfl ⟨fun h o ho go ne => ?_, fun h o ho => ?_⟩
  · have := h o (List.mem_filter.mpr ⟨ho, go⟩)
    simp only [Bool.and_eq_true, Bool.not_eq_true', decide_eq_false_iff_not] at this
    cases hp : partM o x with
    | false => rfl
    | true => exact absurd ⟨ne, hp⟩ this
  · obtain ⟨h1, h2⟩ := List.mem_filter.mp ho
    simp only [Bool.and_eq_true, Bool.not_eq_true', decide_eq_false_iff_not]
    rintro ⟨a, b⟩
    rw [h o h1 h2 a] at b
    cases b
theorem wish_filter {E : List (List Nat)} {G : List Nat → Bool} (hn : E.Nodup) (hp : E.Pairwise fun a b => partM b a = false) :
    ∀ (post pre found : List (List Nat)), E = pre ++ post → found = pre.filter (isMin E G) → (∀ o ∈ pre, G o = true → ∃ m ∈ found, partM m o = true) → post.foldl (wishStep G) found = E.filter (isMin E G)
  | [], pre, found, e, hf, _ => by
    rw [List.append_nil] at e
    rw [hf, e]
    rfl
  | x :: post, pre, found, e, hf, hm => by
    have hn' := hn
    rw [e, List.nodup_append] at hn'
    have hp' := hp
    rw [e, List.pairwise_append] at hp'
    have hxpost : ∀ o ∈ post, partM o x = false := fun o ho => (List.pairwise_cons.mp hp'.2.1).1 o ho
    have key : wishStep G found x = (pre ++ [x]).filter (isMin E G) := by
      rw [List.filter_append, ← hf]
      unfold wishStep
      by_cases hmin : isMin E G x = true
      · obtain ⟨g, hno⟩ := isMin_iff.mp hmin
        have hh : hasPartM found x = false := by
          unfold hasPartM
          rw [List.any_eq_false]
          intro o ho
          rw [hf] at ho
          obtain ⟨h1, h2⟩ := List.mem_filter.mp ho
          have : partM o x = false := hno o (by rw [e]; exact List.mem_append_left _ h1) (isMin_iff.mp h2).1 (hn'.2.2 o h1 x (List.mem_cons_self ..))
          intro z
          have z' : partM o x = true := z
          rw [this] at z'
          cases z'
        rw [hh, if_neg (by simp), if_pos g, List.filter_cons, if_pos hmin]
        rfl
      · rw [List.filter_cons, if_neg hmin, List.filter_nil, List.append_nil]
        split
        · rfl
        · rename_i hh
          split
          · rename_i g
            exfalso
            refine hmin (isMin_iff.mpr ⟨g, fun o ho go ne => ?_⟩)
            rw [e] at ho
            rcases List.mem_append.mp ho with ho | ho
            · cases hpo : partM o x with
              | false => rfl
              | true =>
                obtain ⟨m, hm1, hm2⟩ := hm o ho go
                exfalso
                apply hh
                unfold hasPartM
                rw [List.any_eq_true]
                exact ⟨m, hm1, partM_trans hm2 hpo⟩
            · rcases List.mem_cons.mp ho with ho | ho
              · exact absurd ho ne
              · exact hxpost o ho
          · rfl
    rw [List.foldl_cons, key]
    refine wish_filter hn hp post (pre ++ [x]) _ (by rw [e]; simp) rfl (fun o ho go => ?_)
    rw [← key]
    have mono : ∀ m ∈ found, m ∈ wishStep G found x := fun m hm' => by
      unfold wishStep
      split
      · exact hm'
      · split
        · exact List.mem_append_left _ hm'
        · exact hm'
    rcases List.mem_append.mp ho with ho | ho
    · obtain ⟨m, h1, h2⟩ := hm o ho go
      exact ⟨m, mono m h1, h2⟩
    · rw [List.mem_singleton.mp ho] at go ⊢
      by_cases hh : hasPartM found x = true
      · have hh' := hh
        unfold hasPartM at hh'
        rw [List.any_eq_true] at hh'
        obtain ⟨m, h1, h2⟩ := hh'
        exact ⟨m, mono m h1, h2⟩
      · refine ⟨x, ?_, partM_refl x⟩
        unfold wishStep
        rw [if_neg hh, if_pos go]
        simp
/-- the indices of a mask -/
def maskIx (n m : Nat) : List Nat := (List.range n).filter fun k => decide (m / 2 ^ k % 2 = 1)
def grantIx (n : Nat) (G : List Nat → Bool) : List (List Nat) := ((List.range (2 ^ n)).map (maskIx n)).filter G
def leastIx (n : Nat) (G : List Nat → Bool) : List (List Nat) := (grantIx n G).filter (leastIn (grantIx n G))
theorem subs_facts : ∀ n, n ≤ 4 → (allSubs n).Nodup ∧ (allSubs n).Pairwise (fun a b => partM b a = false) ∧ (allSubs n).Perm ((List.range (2 ^ n)).map (maskIx n)) := by
  intro n hn
  have h : n = 0 ∨ n = 1 ∨ n = 2 ∨ n = 3 ∨ n = 4 := by omega
  rcases h with rfl | rfl | rfl | rfl | rfl <;> refine ⟨by decide +kernel, by decide +kernel, ?_⟩ <;> exact List.isPerm_iff.mp (by decide +kernel)
theorem leastIn_perm {a b : List (List Nat)} (h : a.Perm b) (x : List Nat) : leastIn a x = leastIn b x := by
  unfold leastIn
  have := h.filter fun o => !decide (o = x) && partM o x
  rw [Bool.eq_iff_iff, List.isEmpty_iff, List.isEmpty_iff]
  constructor
  · intro e; rw [e] at this; exact this.symm.eq_nil
  · intro e; rw [e] at this; exact this.eq_nil
theorem least_perm {n : Nat} (hn : n ≤ 4) (G : List Nat → Bool) : (leastIx n G).Perm (wishIx n G) := by
  obtain ⟨h1, h2, h3⟩ := subs_facts n hn
  have e1 : wishIx n G = (allSubs n).filter (isMin (allSubs n) G) := by
    rw [wishIx_all]
    exact wish_filter h1 h2 (allSubs n) [] [] rfl rfl fun o ho => by cases ho
  have p2 : (grantIx n G).Perm ((allSubs n).filter G) := (h3.symm.filter G)
  have e2 : (allSubs n).filter (isMin (allSubs n) G) = ((allSubs n).filter G).filter (leastIn ((allSubs n).filter G)) := by
    rw [List.filter_filter]
    refine List.filter_congr fun x _ => ?_
    unfold isMin
    rw [Bool.and_comm]
  rw [e1, e2]
  unfold leastIx
  have e3 : leastIn (grantIx n G) = leastIn ((allSubs n).filter G) := funext fun x => leastIn_perm p2 x
  rw [e3]
  exact p2.filter _
theorem wishIx_sub {n : Nat} (hn : n ≤ 4) (G : List Nat → Bool) : (wishIx n G).Sublist (allSubs n) := by
  obtain ⟨h1, h2, h3⟩ := subs_facts n hn
  rw [wishIx_all, wish_filter h1 h2 (allSubs n) [] [] rfl rfl fun o ho => by cases ho]
  exact List.filter_sublist
end Rs


set_option Elab.async false
set_option linter.all false
set_option maxRecDepth 100000
set_option maxHeartbeats 2000000
/-! # S26: wish -/
namespace Rs
open PySem PySem.Spec PyProof.Rows L2
def pickM (l : List (Str × Row)) (ix : List Nat) : List (Str × Row) := ix.map fun i => l.getD i ("", [])
def grantIxM (st : St) (rel : Str) (row : Row) (want : Bool) (l : List (Str × Row)) (ix : List Nat) : Bool := grantM (turnM st (pickM l ix)) rel row want
/-- a list of tuples of pairs -/
abbrev ResL : Hp → Addr → List (List (Str × Row)) → Prop := LstOf (TupOf PairR)
def spWish (K : PySem.W.Frag) : Sp := fun vs H Q _ => ∃ (p pr c : Addr) (st : St) (rel : Str) (row : Row) (want : Bool) (l : List (Str × Row)), vs = [.ref p, .str rel, .ref pr, .bl want, .ref c] ∧ StAt K H p st ∧ LInv st ∧ RowH H pr row ∧ LstOf PairR H c l ∧ (∀ x ∈ l, GoodF x) ∧ l.length ≤ 4 ∧
  ∀ (H' : Hp) (q : Addr), Same H H' → ResL H' q ((wishIx l.length (grantIxM st rel row want l)).map (pickM l)) → Q (.ref q) H'
theorem subs_six : ∀ c, c ≤ 4 → ∀ n, n ≤ 4 → (subsM c n).length ≤ 6 := by decide +kernel
theorem pick_good {l : List (Str × Row)} (hl : ∀ x ∈ l, GoodF x) {ix : List Nat} (hi : ∀ i ∈ ix, i < l.length) : ∀ x ∈ pickM l ix, GoodF x := fun x hx => by
  obtain ⟨i, hi', rfl⟩ := List.mem_map.mp hx
  have h := hi i hi'
  rw [List.getD_eq_getElem?_getD, List.getElem?_eq_getElem h]
  exact hl _ (List.getElem_mem h)
/-- the lists that stand in the list at A, none of them A -/
def IxsA (H : Hp) (A : Addr) (l : List (List Nat)) : Prop := ∃ ps : List (Addr × List Nat), H A = some (.lst (ps.map fun q => V.ref q.1)) ∧ ps.map (·.2) = l ∧ ∀ q ∈ ps, q.1 ≠ A ∧ IxL H q.1 q.2
theorem IxsA.ixs {H : Hp} {A : Addr} {l : List (List Nat)} (h : IxsA H A l) : IxsL H A l := by
  obtain ⟨ps, h1, h2, h3⟩ := h
  exact ⟨ps, h1, h2, fun q hq => (h3 q hq).2⟩
theorem IxsA.same {H H' : Hp} {A : Addr} {l : List (List Nat)} (s : Same H H') (h : IxsA H A l) : IxsA H' A l := by
  obtain ⟨ps, h1, h2, h3⟩ := h
  exact ⟨ps, s _ _ h1, h2, fun q hq => ⟨(h3 q hq).1, s _ _ (h3 q hq).2⟩⟩
def SmallF (n b : Nat) (l : List (List Nat)) : Prop := l.length ≤ b ∧ ∀ o ∈ l, o.length ≤ 4 ∧ ∀ i ∈ o, i < n
section
variable {P : Program} {w : World} {K : PySem.W.Frag} {mg : Str → Option Value} {base : Heap}
theorem call_tuple_ofK {X : Cx} {K : PySem.W.Frag} (h : X.K = K) : CallR X (.type "tuple") (fun xs H Q => ∃ p ys, xs = [.ref p] ∧ ((SqL K H p ys ∧ ∀ l, H l = none → Q (.ref l) (upd H l (.tup ys))) ∨ (SqT K H p ys ∧ Q (.ref p) H))) := by
  subst h
  exact call_tuple_of
theorem pi_listK {X : Cx} {K : PySem.W.Frag} {tg l : Expr} {tl : TE} (h : X.K = K) (hl : PE X l tl) : PI X tg l (iList K tl) := by
  subst h
  exact pi_list hl
abbrev scW : Scope := { kind := .function, names := [(".0", .local), ("indices", .local), ("tuple", .globalImplicit), ("candidates", .cell)], isGenerator := false, isCoroutine := false, more := [] }
theorem sc_wish : FnScope ["state", "relation", "row", "wanted", "candidates", "found", "size", "indices", "facts", "index"] ["state", "relation", "row", "wanted", "candidates"] (defScope (topS 51)) := ⟨rfl, rfl, rfl, by decide +kernel, rfl, by decide +kernel, by decide +kernel⟩
theorem ok_wish (T : Tx P K mg) : Cal P w K mg base CX0 11 "wish" (spWish K) := by
  have C1 := ok_subsets (w := w) (base := base) T
  have C2 := ok_has_part (w := w) (base := base) T
  have C3 := ok_turned (w := w) (base := base) T
  have C4 := ok_grants (w := w) (base := base) T
  refine cal_of T 38 51 rfl (by decide +kernel) sc_wish (fun vs H Q E h => ?_) (fun _ _ _ _ _ _ us hl => match us, hl with | [_, _, _, _, _], _ => rfl) (fun cdv A outer s H vs Q E hr h => ?_)
  · obtain ⟨p, pr, c, st, rel, row, want, l, rfl, _⟩ := h
    rfl
  · obtain ⟨p, pr, c, st, rel, row, want, l, rfl, hst, hli, hrow, ⟨cs, hc, ec, hcs⟩, hgl, hll, q⟩ := h
    refine ⟨_, PSs.nox (pss_cons (ps_set (i := 4) sc_wish.nd rfl (Or.inr rfl) (pe_callTy call_list_of (by rfl) (T.fr "list") (by decide +kernel) (pa_cons (pv 4) pa_nil)))
    (pss_cons (ps_set (i := 5) sc_wish.nd rfl (Or.inl rfl) (pe_lst pa_nil))
    (pss_cons (ps_for PassesOwn.never rfl (pi_range1 (by rfl) (T.fr "range") (pa_cons (pe_op op_add (pe_callB call_len (by rfl) (T.fr "len") PySem.boot_len (pa_cons (pv 4) pa_nil)) pe_int) pa_nil)) (pg_name (i := 6) sc_wish.nd rfl (Or.inl rfl))
    (pss_one (ps_for PassesOwn.never rfl (pi_list (pe_c C1 hr (pa_cons (pe_callB call_len (by rfl) (T.fr "len") PySem.boot_len (pa_cons (pv 4) pa_nil)) (pa_cons (pv 6) pa_nil)))) (pg_name (i := 7) sc_wish.nd rfl (Or.inl rfl))
    (pss_one (ps_if (pt_not (pt_val (pe_c C2 hr (pa_cons (pv 5) (pa_cons (pv 7) pa_nil))))) (pss_cons (ps_setLc (i := 8) (own := [("index", 9)]) (g := gName 9) (tt := tYes) rfl sc_wish.nd rfl rfl (sw_true rfl rfl rfl (by decide +kernel)) (pi_list (pv 7)) (blkOk_by (own := [("index", 9)]) (N := ["state", "relation", "row", "wanted", "candidates", "found", "size", "indices", "facts", "index"]) (sc := defScope (topS 51)) (by decide +kernel)) (fun _ _ _ _ _ => (pg_name (i := 9) sc_wish.nd rfl (Or.inl rfl))) (fun _ _ _ _ _ => pts_nil) (fun _ _ _ _ _ => (pe_ix (ix_listK rfl) (pv 4) (pv 9) (fun _ _ => rfl))))
    (pss_one (ps_if (pt_val (pe_c C4 hr (pa_cons (pe_c C3 hr (pa_cons (pv 0) (pa_cons (pv 8) pa_nil))) (pa_cons (pv 1) (pa_cons (pv 2) (pa_cons (pv 3) pa_nil)))))) (pss_one (ps_expr (pe_bm PySem.F.plainAttrs_list PySem.F.slot_list_append PySem.F.type_list_append mt_append (pv 5) (pa_cons (pv 7) pa_nil)))) pss_nil))) pss_nil)))))
    (pss_one (ps_ret (pe_lc (own := [("indices", 7)]) (g := gName 7) (tt := tYes) rfl sc_wish.nd (pi_list (pv 5)) (blkOk_by (own := [("indices", 7)]) (N := ["state", "relation", "row", "wanted", "candidates", "found", "size", "indices", "facts", "index"]) (sc := defScope (topS 51)) (by decide +kernel)) (fun _ _ _ _ _ => (pg_name (i := 7) sc_wish.nd rfl (Or.inl rfl))) (fun _ _ _ _ _ => pts_nil) (fun _ _ _ _ _ => (pe_callTy (call_tuple_ofK rfl) (by rfl) (T.fr "tuple") (by decide +kernel) (pa_cons (pe_lc (own := [("index", 9)]) (g := gName 9) (tt := tYes) rfl sc_wish.nd (pi_listK rfl (pv 7)) (blkOk_by (own := [("index", 9)]) (N := ["state", "relation", "row", "wanted", "candidates", "found", "size", "indices", "facts", "index"]) (sc := scW) (by decide +kernel)) (fun _ _ _ _ _ => (pg_name (i := 9) sc_wish.nd rfl (Or.inl rfl))) (fun _ _ _ _ _ => pts_nil) (fun _ _ _ _ _ => (pe_ix (ix_listK rfl) (pv 4) (pv 9) (fun _ _ => rfl)))) pa_nil))))))))), ?_⟩
    subst ec
    have hn : (cs.map (·.2)).length = cs.length := List.length_map _
    rw [hn] at hll q
    refine ⟨_, rfl, c, _, rfl, .inl (SqL.of_H hc), fun C nC => ⟨Nat.zero_le _, fun F nF => ?_⟩⟩
    have sC := same_new (o := .lst (cs.map fun q => V.ref q.1)) nC
    have sF := same_new (o := .lst []) nF
    have hC2 : upd (upd H C (.lst (cs.map fun q => V.ref q.1))) F (.lst []) C = some (.lst (cs.map fun q => V.ref q.1)) := sF _ _ upd_same
    generalize hH2 : upd H C (.lst (cs.map fun q => V.ref q.1)) = H2 at sC sF nF hC2 ⊢
    have hC0 : H2 C = some (.lst (cs.map fun q => V.ref q.1)) := by rw [← hH2]; exact upd_same
    have hpick : ∀ {i : Nat}, i < cs.length → ∃ x, cs[i]? = some x ∧ x ∈ cs ∧ (cs.map (·.2)).getD i (("" : Str), ([] : Row)) = x.2 := fun {i} hi => by
      refine ⟨cs[i], List.getElem?_eq_getElem hi, List.getElem_mem hi, ?_⟩
      rw [List.getD_eq_getElem?_getD, List.getElem?_map, List.getElem?_eq_getElem hi]
      rfl
    let G := grantIxM st rel row want (cs.map (·.2))
    have en : ((((cs.map fun q => V.ref q.1).length : Nat) : Int) + 1).toNat = cs.length + 1 := by
      rw [List.length_map]
      omega
    refine ⟨_, rfl, _, _, rfl, .inl ⟨_, SqL.of_H hC2, rfl⟩, _, _, rfl, rfl, _, rfl, ?_, ?_, ?_⟩
    · rw [List.length_map]
      omega
    · rw [List.length_map]
      omega
    rw [en]
    refine for_range (lo := 0) (n := cs.length + 1) (fun i σ H' => ∃ v6 v7 v8 v9, σ = [some (.ref p), some (.str rel), some (.ref pr), some (.bl want), some (.ref C), some (.ref F), v6, v7, v8, v9] ∧ Same H2 H' ∧ IxsA H' F ((List.range i).foldl (fun f s => (subsM cs.length s).foldl (wishStep G) f) []) ∧ SmallF cs.length (6 * i) ((List.range i).foldl (fun f s => (subsM cs.length s).foldl (wishStep G) f) []))
      ⟨none, none, none, none, rfl, sF, ⟨[], upd_same, rfl, fun q hq => by cases hq⟩, Nat.zero_le _, fun o ho => by cases ho⟩ ?_ ?_
    · rintro i σ H' hi ⟨v6, v7, v8, v9, rfl, sm, hF, hsm⟩
      have hC' := sm _ _ hC0
      have hi4 : i ≤ 4 := by omega
      obtain ⟨hl1, hl2⟩ := subs_small cs.length hll i hi4
      have hl6 := subs_six cs.length hll i hi4
      have hFs : ∃ u, H' F = some u := by
        obtain ⟨ps, h, _⟩ := hF
        exact ⟨_, h⟩
      refine ⟨_, rfl, _, _, rfl, .inl ⟨_, SqL.of_H hC', rfl⟩, _, rfl, cs.length, i, (by rw [List.length_map, Int.zero_add]; rfl), hll, hi4, fun H3 sq s3 ⟨nsq, zs, hz, ez, hzs⟩ => ?_⟩
      have lzs : zs.length ≤ 6 := by rw [← ez, List.length_map] at hl6; exact hl6
      have nsF : sq ≠ F := fun z => by
        obtain ⟨u, hu⟩ := hFs
        rw [z, hu] at nsq
        cases nsq
      have nzF : ∀ q ∈ zs, q.1 ≠ F := fun q hq z => by
        obtain ⟨u, hu⟩ := hFs
        have := (hzs q hq).1
        rw [z, hu] at this
        cases this
      refine ⟨sq, rfl, ⟨_, SqL.of_H hz⟩, for_W (walks_list (K := K) (a := sq) (l := zs) (f := fun q : Addr × List Nat => V.ref q.1)) (fun pre σ H4 => ∃ v7 v8 v9, σ = [some (.ref p), some (.str rel), some (.ref pr), some (.bl want), some (.ref C), some (.ref F), some (.int (0 + (i : Nat))), v7, v8, v9] ∧ Same H2 H4 ∧ H4 sq = some (.lst (zs.map fun q => V.ref q.1)) ∧ (∀ q ∈ zs, IxL H4 q.1 q.2) ∧
          IxsA H4 F ((pre.map (·.2)).foldl (wishStep G) ((List.range i).foldl (fun f s => (subsM cs.length s).foldl (wishStep G) f) [])) ∧ SmallF cs.length (6 * i + pre.length) ((pre.map (·.2)).foldl (wishStep G) ((List.range i).foldl (fun f s => (subsM cs.length s).foldl (wishStep G) f) [])))
        ⟨v7, v8, v9, rfl, sm.trans s3, hz, (fun q hq => (hzs q hq).2.2), hF.same s3, hsm⟩ (fun pre σ H4 ⟨_, _, _, _, _, h, _⟩ => SqL.of_H h) ?_ ?_⟩
      · rintro pre ⟨za, ix⟩ post σ H4 el ⟨v7, v8, v9, rfl, sm4, hsq4, hzs4, hF4, hsm4⟩
        have hm : (za, ix) ∈ zs := by rw [el]; simp
        have hza : IxL H4 za ix := hzs4 _ hm
        obtain ⟨lix, bix⟩ := hl2 ix (by rw [← ez]; exact List.mem_map_of_mem (f := fun q : Addr × List Nat => q.2) hm)
        have lpre : pre.length < zs.length := by
          have := congrArg List.length el
          rw [List.length_append, List.length_cons] at this
          omega
        have estep : ((pre ++ [(za, ix)]).map (·.2)).foldl (wishStep G) ((List.range i).foldl (fun f s => (subsM cs.length s).foldl (wishStep G) f) []) = wishStep G ((pre.map (·.2)).foldl (wishStep G) ((List.range i).foldl (fun f s => (subsM cs.length s).foldl (wishStep G) f) [])) ix := by
          rw [List.map_append, List.foldl_append]
          rfl
        rw [estep]
        generalize hfo : (pre.map (·.2)).foldl (wishStep G) ((List.range i).foldl (fun f s => (subsM cs.length s).foldl (wishStep G) f) []) = fo at hF4 hsm4 ⊢
        obtain ⟨hs1, hs2⟩ := hsm4
        have lpa : (pre ++ [(za, ix)]).length = pre.length + 1 := by rw [List.length_append, List.length_singleton]
        rw [lpa]
        refine ⟨_, rfl, _, rfl, F, za, fo, ix, rfl, hF4.ixs, hza, by omega, (fun o ho => by have := (hs2 o ho).1; omega), fun H5 s5 => ⟨_, rfl, ?_⟩⟩
        have hsq5 := s5 _ _ hsq4
        have hzs5 : ∀ q ∈ zs, IxL H5 q.1 q.2 := fun q hq => s5 _ _ (hzs4 q hq)
        have hF5 := hF4.same s5
        have sm5 := sm4.trans s5
        cases hp : hasPartM fo ix with
        | true =>
          have ew : wishStep G fo ix = fo := by
            unfold wishStep
            rw [hp, if_pos rfl]
          rw [ew]
          exact iteF ⟨_, _, _, rfl, sm5, hsq5, hzs5, hF5, by omega, hs2⟩
        | false =>
          have hza5 : H5 za = some (.lst (ix.map fun i : Nat => V.int (i : Int))) := hzs5 _ hm
          have hC5 := sm5 _ _ hC0
          have hcs5 : ∀ q ∈ cs, PairR H5 q.1 q.2 := fun q hq => stays_pairR.go ((same_new nC).t.trans (by rw [hH2]; exact sm5.t)) (hcs q hq)
          refine iteT ⟨_, rfl, za, rfl, ⟨_, SqL.of_H hza5⟩, fun D nD => lc_W (walks_list (K := K) (a := za) (l := ix) (f := fun i : Nat => V.int (i : Int))) nD (fun H' s => SqL.of_H (s _ _ hza5)) (by omega) (fun H' acc pre => ∃ ps : List (Addr × (Str × Row)), acc = ps.map (fun q => V.ref q.1) ∧ ps.map (·.2) = pickM (cs.map (·.2)) pre ∧ ∀ q ∈ ps, q ∈ cs) ⟨[], rfl, rfl, fun q hq => by cases hq⟩ ?_ ?_⟩
          · rintro pre2 j post2 acc H6 Nx No el2 s6 eD6 ⟨ps, rfl, eps, hps⟩ hN _
            obtain ⟨x, hx1, hx2, hx3⟩ := hpick (bix j (by rw [el2]; simp))
            refine ⟨rfl, _, rfl, _, rfl, C, _, _, V.ref x.1, rfl, rfl, SqL.of_H (s6 _ _ hC5), atI_nat (by rw [List.getElem?_map, hx1]; rfl), hN _ _ (Same.refl _) ⟨ps ++ [x], by rw [List.map_append]; rfl, ?_, fun q hq => ?_⟩⟩
            · rw [List.map_append, eps]
              unfold pickM
              rw [List.map_append, List.map_singleton, List.map_singleton, hx3]
            · rcases List.mem_append.mp hq with hq | hq
              · exact hps q hq
              · rw [List.mem_singleton.mp hq]
                exact hx2
          · rintro H6 acc s6 eD6 ⟨ps, rfl, eps, hps⟩
            have hfl : LstOf PairR H6 D (pickM (cs.map (·.2)) ix) := ⟨ps, eD6, eps, fun q hq => stays_pairR.go s6.t (hcs5 q (hps q hq))⟩
            have hpg := pick_good hgl (ix := ix) (fun i hi => by rw [hn]; exact bix i hi)
            have s06 : Same H H6 := ((same_new nC).trans (by rw [hH2]; exact sm5)).trans s6
            refine ⟨_, rfl, _, rfl, p, D, st, _, rfl, hst.same s06, hli.good, hfl, hpg, ?_, fun H7 q7 s7 hst7 => ?_⟩
            · unfold pickM
              rw [List.length_map]
              omega
            refine ⟨_, rfl, _, rfl, _, rfl, q7, pr, turnM st (pickM (cs.map (·.2)) ix), rel, row, want, rfl, hst7, turn_linv hli hpg, s7 _ _ (s06 _ _ hrow), fun H8 s8 => ⟨_, rfl, ?_⟩⟩
            have s58 : Same H5 H8 := (s6.trans s7).trans s8
            have eG : grantM (turnM st (pickM (cs.map (·.2)) ix)) rel row want = G ix := rfl
            rw [eG]
            cases hg : G ix with
            | false =>
              have ew : wishStep G fo ix = fo := by
                unfold wishStep
                rw [hp, hg]
                rfl
              rw [ew]
              exact iteF ⟨_, _, _, rfl, sm5.trans s58, s58 _ _ hsq5, (fun q hq => s58 _ _ (hzs5 q hq)), hF5.same s58, by omega, hs2⟩
            | true =>
              have ew : wishStep G fo ix = fo ++ [ix] := by
                unfold wishStep
                rw [hp, hg]
                rfl
              rw [ew]
              obtain ⟨fs, hF8, efs, hfs⟩ := hF5.same s58
              have lfs : fs.length = fo.length := by rw [← efs, List.length_map]
              refine iteT ⟨_, rfl, .inl ⟨rfl, _, SqL.of_H hF8⟩, _, rfl, F, _, _, rfl, rfl, hF8, by rw [List.length_map, sizeLine_eq]; omega, _, _, _, rfl, same0_upd (sm5.trans s58) nF, ?_, fun q hq => ?_, ⟨fs ++ [(za, ix)], by rw [upd_same, List.map_append]; rfl, by rw [List.map_append, efs]; rfl, fun q hq => ?_⟩, ?_, fun o ho => ?_⟩
              · rw [upd_ne nsF]
                exact s58 _ _ hsq5
              · show upd _ _ _ _ = _
                rw [upd_ne (nzF q hq)]
                exact s58 _ _ (hzs5 q hq)
              · rcases List.mem_append.mp hq with hq | hq
                · refine ⟨(hfs q hq).1, ?_⟩
                  show upd _ _ _ _ = _
                  rw [upd_ne (hfs q hq).1]
                  exact (hfs q hq).2
                · rw [List.mem_singleton.mp hq]
                  refine ⟨nzF _ hm, ?_⟩
                  show upd _ _ _ _ = _
                  rw [upd_ne (nzF _ hm)]
                  exact s58 _ _ hza5
              · rw [List.length_append, List.length_singleton]
                omega
              · rcases List.mem_append.mp ho with ho | ho
                · exact hs2 o ho
                · rw [List.mem_singleton.mp ho]
                  exact ⟨lix, bix⟩
      · rintro σ H4 ⟨v7, v8, v9, rfl, sm4, hsq4, hzs4, hF4, hsm4⟩
        have e9 : (List.range (i + 1)).foldl (fun f s => (subsM cs.length s).foldl (wishStep G) f) [] = (zs.map (·.2)).foldl (wishStep G) ((List.range i).foldl (fun f s => (subsM cs.length s).foldl (wishStep G) f) []) := by
          rw [List.range_succ, List.foldl_append, ez]
          rfl
        rw [e9]
        exact ⟨_, _, _, _, rfl, sm4, hF4, Nat.le_trans hsm4.1 (by omega), hsm4.2⟩
    · rintro σ H' ⟨v6, v7, v8, v9, rfl, sm, ⟨fs, hF, efs, hfs⟩, hs1, hs2⟩
      have ewi : (List.range (cs.length + 1)).foldl (fun f s => (subsM cs.length s).foldl (wishStep G) f) [] = wishIx cs.length G := rfl
      rw [ewi] at efs hs1 hs2
      have lfs : fs.length ≤ 30 := by
        have := congrArg List.length efs
        rw [List.length_map] at this
        omega
      have hC' := sm _ _ hC0
      have s0 : Same H H' := (same_new nC).trans (by rw [hH2]; exact sm)
      have hcs' : ∀ q ∈ cs, PairR H' q.1 q.2 := fun q hq => stays_pairR.go s0.t (hcs q hq)
      refine ⟨_, rfl, F, rfl, ⟨_, SqL.of_H hF⟩, fun D nD => lc_W (walks_list (K := K) (a := F) (l := fs) (f := fun q : Addr × List Nat => V.ref q.1)) nD (fun H' s => SqL.of_H (s _ _ hF)) (by omega) (fun H4 acc pre => ∃ rs : List (Addr × List (Str × Row)), acc = rs.map (fun q => V.ref q.1) ∧ rs.map (·.2) = (pre.map (·.2)).map (pickM (cs.map (·.2))) ∧ ∀ q ∈ rs, TupOf PairR H4 q.1 q.2) ⟨[], rfl, rfl, fun q hq => by cases hq⟩ ?_ ?_⟩
      · rintro pre ⟨za, ix⟩ post acc H4 Nx No el s4 eD4 ⟨rs, rfl, ers, hrs⟩ hN _
        have hm : (za, ix) ∈ fs := by rw [el]; simp
        have hza : H4 za = some (.lst (ix.map fun i : Nat => V.int (i : Int))) := s4 _ _ (hfs _ hm).2
        obtain ⟨lix, bix⟩ := hs2 ix (by rw [← efs]; exact List.mem_map_of_mem (f := fun q : Addr × List Nat => q.2) hm)
        refine ⟨rfl, _, rfl, za, rfl, ⟨_, SqL.of_H hza⟩, fun D2 nD2 => lc_W (walks_list (K := K) (a := za) (l := ix) (f := fun i : Nat => V.int (i : Int))) nD2 (fun H' s => SqL.of_H (s _ _ hza)) (by omega) (fun H' acc pre => ∃ ps : List (Addr × (Str × Row)), acc = ps.map (fun q => V.ref q.1) ∧ ps.map (·.2) = pickM (cs.map (·.2)) pre ∧ ∀ q ∈ ps, q ∈ cs) ⟨[], rfl, rfl, fun q hq => by cases hq⟩ ?_ ?_⟩
        · rintro pre2 j post2 acc H6 Nx No el2 s6 eD6 ⟨ps, rfl, eps, hps⟩ hN _
          obtain ⟨x, hx1, hx2, hx3⟩ := hpick (bix j (by rw [el2]; simp))
          refine ⟨rfl, _, rfl, _, rfl, C, _, _, V.ref x.1, rfl, rfl, SqL.of_H (s6 _ _ (s4 _ _ hC')), atI_nat (by rw [List.getElem?_map, hx1]; rfl), hN _ _ (Same.refl _) ⟨ps ++ [x], by rw [List.map_append]; rfl, ?_, fun q hq => ?_⟩⟩
          · rw [List.map_append, eps]
            unfold pickM
            rw [List.map_append, List.map_singleton, List.map_singleton, hx3]
          · rcases List.mem_append.mp hq with hq | hq
            · exact hps q hq
            · rw [List.mem_singleton.mp hq]
              exact hx2
        · rintro H6 acc s6 eD6 ⟨ps, rfl, eps, hps⟩
          refine ⟨D2, _, rfl, .inl ⟨SqL.of_H eD6, fun lt nlt => ?_⟩⟩
          have st := same_new (o := .tup (ps.map fun q => V.ref q.1)) nlt
          have s46 : Same H4 _ := s6.trans st
          refine hN _ _ s46 ⟨rs ++ [(lt, pickM (cs.map (·.2)) ix)], by rw [List.map_append]; rfl, ?_, ?_⟩
          · rw [List.map_append, ers, List.map_append, List.map_append]
            rfl
          · have tD := sameT_lst (o := .lst (rs.map (fun q => V.ref q.1) ++ [V.ref lt])) (s46 _ _ eD4)
            intro q hq
            rcases List.mem_append.mp hq with hq | hq
            · exact (stays_tup stays_pairR).go (s46.t.trans tD) (hrs q hq)
            · rw [List.mem_singleton.mp hq]
              refine (stays_tup stays_pairR).go tD ⟨ps, upd_same, eps, fun x hx => stays_pairR.go ((s4.trans s46).t) (hcs' x (hps x hx))⟩
      · rintro H4 acc s4 eD4 ⟨rs, rfl, ers, hrs⟩
        refine q H4 D (s0.trans s4) ⟨rs, eD4, ?_, hrs⟩
        rw [ers, efs]
end
end Rs


set_option Elab.async false
set_option linter.all false
set_option maxRecDepth 100000
set_option maxHeartbeats 2000000
/-! # S27: sorted on pairs of a length and a list of indices; the least sets in that order -/
namespace Rs
open PySem PySem.Spec PyProof.Rows L2 PySem.W
def intsL (ix : List Nat) : List Int := ix.map fun i : Nat => (i : Int)
def ixD (ix : List Nat) : PyData := .tuple [.int (ix.length : Int), .list ((intsL ix).map .int)]
def LenIx (H : Hp) (q : Addr) (ix : List Nat) : Prop := ∃ b, H q = some (.tup [.int (ix.length : Int), .ref b]) ∧ IxL H b ix
theorem dpAll_ix {K : PySem.W.Frag} {H : Hp} : ∀ ix : List Nat, DpAll K H (ix.map fun i : Nat => V.int (i : Int)) ((intsL ix).map .int)
  | [] => .nil
  | i :: ix => .cons (.int _) (dpAll_ix ix)
theorem ixL_dp {K : PySem.W.Frag} {H : Hp} {b : Addr} {ix : List Nat} (h : IxL H b ix) : Dp K H (.ref b) (.list ((intsL ix).map .int)) := .lst (SqL.of_H h) (dpAll_ix ix)
theorem lenIx_dp {K : PySem.W.Frag} {H : Hp} {q : Addr} {ix : List Nat} (h : LenIx H q ix) : Dp K H (.ref q) (ixD ix) := by
  obtain ⟨b, h1, h2⟩ := h
  exact .tup (SqT.of_H h1) (.cons (.int _) (.cons (ixL_dp h2) .nil))
theorem ix_alike (a b : List Nat) : alike (.list ((intsL a).map .int)) (.list ((intsL b).map .int)) = true := by
  show alikeAll _ _ = true
  exact alike_ints _ _
theorem ixD_alike (a b : List Nat) : alike (ixD a) (ixD b) = true := by
  unfold ixD
  simp only [alike, alikeAll, alike_ints, Bool.and_self, Bool.and_true]
theorem ixD_depth (a : List Nat) : (ixD a).depth ≤ 2 := by
  unfold ixD
  simp only [PyData.depth, PyData.depthAll, depth_ints]
  omega
def sortIx (ps : List (Addr × List Nat)) : List (Addr × List Nat) := ps.mergeSort (dataLe false fun q => ixD q.2)
def rSortIx : List V → Hp → VK → Prop := fun vs H Q => ∃ (a : Addr) (ps : List (Addr × List Nat)), vs = [V.ref a] ∧ H a = some (.lst (ps.map fun q => V.ref q.1)) ∧ (∀ q ∈ ps, LenIx H q.1 q.2) ∧
  ∀ p : Addr, H p = none → Q (.ref p) (upd H p (.lst ((sortIx ps).map fun q => V.ref q.1)))
theorem each_refsA {α : Type} : ∀ ps : List (Addr × α), EachIs (fun (v : Value) (p : Addr × α) => v = .ref p.1) (ps.map fun p => Value.ref p.1) ps
  | [] => .nil
  | _ :: ps => .cons rfl (each_refsA ps)
theorem of_eachA {α : Type} : ∀ {vs : List Value} {ps : List (Addr × α)}, EachIs (fun (v : Value) (p : Addr × α) => v = .ref p.1) vs ps → vs = ps.map fun p => Value.ref p.1
  | _, _, .nil => rfl
  | _, _, .cons h t => by rw [h, of_eachA t]; rfl
theorem each_imp {α : Type} {R S : Value → Addr × α → Prop} : ∀ {vs : List Value} {ps : List (Addr × α)}, EachIs R vs ps → (∀ v p, p ∈ ps → R v p → S v p) → EachIs S vs ps
  | _, _, .nil, _ => .nil
  | _, _, .cons h t, k => .cons (k _ _ (List.mem_cons_self ..) h) (each_imp t fun v p hp => k v p (List.mem_cons_of_mem _ hp))
section
variable {X : Cx}
theorem cr_sortIx (hu : X.A.units + 64 < cLine) : CallR X (.builtin "sorted") rSortIx := by
  intro pins s σ H vs us Q I r h
  obtain ⟨a, ps, rfl, hs, hp, q⟩ := h
  obtain ⟨its, rv, hl, hz⟩ := I.list (SqL.of_H hs)
  rw [Vals.ref1 r]
  have ei : its = ps.map fun p => Value.ref p.1 := by
    have e : (ps.map fun p => V.ref p.1) = (ps.map fun p => p.1).map V.ref := by rw [List.map_map]; rfl
    rw [e] at rv
    rw [vals_refs rv, List.map_map]
    rfl
  subst ei
  rw [List.length_map] at hz
  refine sorted_data (enc := fun q : Addr × List Nat => ixD q.2) (R := fun v p => v = Value.ref p.1) hl.isList (each_refsA ps) (each_imp (each_refsA ps) fun v p hm e => ?_) (AllAlike.of fun b b' => ixD_alike _ _) (Sortable.tuples fun b => ⟨_, _, rfl⟩) hz (fun b _ => ?_) fun out hlen ho => ?_
  · exact Dp.reads I _ (.ref p.1) v (lenIx_dp (hp p hm)) e
  · have := ixD_depth b.2
    show X.A.units + 2 + (ixD b.2).depth < cLine
    omega
  · have eo := of_eachA ho
    subst eo
    obtain ⟨ep, he'⟩ := PyProof.Rows.sortedAll_at s.heap (ps.map fun p => Value.ref p.1) ((sortIx ps).map fun p => Value.ref p.1).toArray
    have hlen2 : ((sortIx ps).map fun q => V.ref q.1).length ≤ sizeLine := by
      have e5 : (sortIx ps).length = ps.length := (List.mergeSort_perm _ _).length_eq
      rw [List.length_map, e5]
      exact hz
    have hv : Vals ((sortIx ps).map fun q => V.ref q.1) ((sortIx ps).map fun p => Value.ref p.1) := by
      have e3 := refs_vals ((sortIx ps).map fun p => p.1)
      rw [List.map_map, List.map_map] at e3
      exact e3
    exact ⟨.ref _, upd H (s.heap.objs.size + 1) (.lst ((sortIx ps).map fun q => V.ref q.1)), I.laid (t' := s.toks) (fun _ _ => PyProof.Rows.sortedAll_old) (Nat.le_succ _) ⟨hlen2, _, ep, hv, he'⟩, rfl, q _ (I.hok.fresh (Nat.le_succ _))⟩
end
/-! ### the order -/
def ltIx (a b : List Nat) : Bool := if a.length = b.length then (if a = b then false else decide (intsL a < intsL b)) else decide (a.length < b.length)
theorem eqv_nat (x y : Nat) : PyData.eqv (.int (x : Int)) (.int (y : Int)) = decide (x = y) := by
  simp only [PyData.eqv]
  by_cases h : x = y
  · rw [h, decide_eq_true rfl]
    simp
  · rw [decide_eq_false h]
    exact beq_eq_false_iff_ne.mpr (fun z => h (Int.ofNat.inj z))
theorem eqv_ints : ∀ a b : List Nat, PyData.eqvAll ((intsL a).map .int) ((intsL b).map .int) = decide (a = b)
  | [], [] => by simp [intsL, PyData.eqvAll]
  | [], _ :: _ => by simp [intsL, PyData.eqvAll]
  | _ :: _, [] => by simp [intsL, PyData.eqvAll]
  | x :: a, y :: b => by
    have ih := eqv_ints a b
    show PyData.eqvAll (.int (x : Int) :: (intsL a).map .int) (.int (y : Int) :: (intsL b).map .int) = _
    rw [PyData.eqvAll, ih]
    have e : PyData.eqv (.int (x : Int)) (.int (y : Int)) = decide (x = y) := eqv_nat x y
    rw [e]
    by_cases h1 : x = y <;> by_cases h2 : a = b <;> simp [h1, h2]
theorem eqv_ixs (a b : List Nat) : PyData.eqv (.list ((intsL a).map .int)) (.list ((intsL b).map .int)) = decide (a = b) := by
  rw [← eqv_ints]
  simp only [PyData.eqv]
theorem dataLt_ix (a b : List Nat) : dataLt (ixD a) (ixD b) = ltIx a b := by
  unfold ixD ltIx
  rw [dataLt_pair (by simp [alike]) (ix_alike a b), eqv_ixs, dataLt_int, dataLt_list]
  have e1 : PyData.eqv (.int (a.length : Int)) (.int (b.length : Int)) = decide (a.length = b.length) := eqv_nat _ _
  rw [e1]
  have e2 : PyProof.Rows.lexLt itemOrd (keyToksAll ((intsL a).map .int)) (keyToksAll ((intsL b).map .int)) = decide (intsL a < intsL b) := dataLt_ints _ _
  rw [e2]
  by_cases h1 : a.length = b.length
  · by_cases h2 : a = b
    · simp [h1, h2]
    · simp [h1, h2]
  · simp [h1]
def leIx (a b : List Nat) : Bool := !ltIx b a
theorem intsL_inj {a b : List Nat} (h : intsL a = intsL b) : a = b := by
  unfold intsL at h
  exact List.map_inj_right (fun x y e => Int.ofNat.inj e) |>.mp h
theorem leIx_anti {a b : List Nat} (h1 : leIx a b = true) (h2 : leIx b a = true) : a = b := by
  unfold leIx ltIx at h1 h2
  by_cases hl : a.length = b.length
  · by_cases he : a = b
    · exact he
    · rw [if_pos hl.symm, if_neg (fun z => he z.symm)] at h1
      rw [if_pos hl, if_neg he] at h2
      have g1 : ¬ (intsL b < intsL a) := by simpa using h1
      have g2 : ¬ (intsL a < intsL b) := by simpa using h2
      exact intsL_inj (List.le_antisymm (show intsL a ≤ intsL b from g1) (show intsL b ≤ intsL a from g2))
  · rw [if_neg (fun z => hl z.symm)] at h1
    rw [if_neg hl] at h2
    simp only [Bool.not_eq_true', decide_eq_false_iff_not] at h1 h2
    omega
theorem leIx_data (a b : List Nat) : leIx a b = dataLe false ixD a b := by
  unfold leIx
  rw [dataLe_eq]
  show _ = !dataLt (ixD b) (ixD a)
  rw [dataLt_ix]
theorem leIx_trans (a b c : List Nat) (h1 : leIx a b = true) (h2 : leIx b c = true) : leIx a c = true := by
  unfold leIx at *
  rw [← dataLt_ix, Bool.not_eq_true'] at *
  exact KeyOrd.kle_trans (O := listOrd itemOrd) (a := keyToks (ixD a)) (b := keyToks (ixD b)) (c := keyToks (ixD c)) h1 h2
theorem leIx_total (a b : List Nat) : (leIx a b || leIx b a) = true := by
  unfold leIx
  cases h : ltIx b a with
  | false => rfl
  | true =>
    rw [← dataLt_ix] at h ⊢
    have h2 : dataLt (ixD a) (ixD b) = false := KeyOrd.klt_asymm (O := listOrd itemOrd) (a := keyToks (ixD b)) (b := keyToks (ixD a)) h
    rw [h2]
    rfl
theorem subs_sorted : ∀ n, n ≤ 4 → (allSubs n).Pairwise (fun a b => leIx a b = true) := by
  intro n hn
  have h : n = 0 ∨ n = 1 ∨ n = 2 ∨ n = 3 ∨ n = 4 := by omega
  rcases h with rfl | rfl | rfl | rfl | rfl <;> decide +kernel
theorem sortIx_map (ps : List (Addr × List Nat)) : (sortIx ps).map (·.2) = (ps.map (·.2)).mergeSort leIx := by
  unfold sortIx
  refine List.map_mergeSort (f := fun p : Addr × List Nat => p.2) fun a _ b _ => ?_
  rw [leIx_data]
  rfl
theorem sort_least {n : Nat} (hn : n ≤ 4) {G : List Nat → Bool} {ps : List (Addr × List Nat)} (hp : ps.map (·.2) = leastIx n G) : (sortIx ps).map (·.2) = wishIx n G := by
  rw [sortIx_map, hp]
  refine List.Perm.eq_of_pairwise (fun a b _ _ h1 h2 => leIx_anti h1 h2) (List.pairwise_mergeSort leIx_trans leIx_total _) ((subs_sorted n hn).sublist (wishIx_sub hn G)) ?_
  exact (List.mergeSort_perm _ _).trans (least_perm hn G)
end Rs


set_option Elab.async false
set_option linter.all false
set_option maxRecDepth 100000
set_option maxHeartbeats 2000000
/-! # S28: _law_due -/
namespace Rs
open PySem PySem.Spec PyProof.Rows L2
def spDue (K : PySem.W.Frag) : Sp := fun vs H Q _ => ∃ (p pr c : Addr) (st : St) (rel : Str) (row : Row) (want : Bool) (l : List (Str × Row)), vs = [.ref p, .str rel, .ref pr, .bl want, .ref c] ∧ StAt K H p st ∧ LInv st ∧ rel ∈ allRels st ∧ RowH H pr row ∧ LstOf PairR H c l ∧ (∀ x ∈ l, GoodF x) ∧ l.length ≤ 4 ∧
  ∀ (H' : Hp) (q : Addr), Same H H' → ResL H' q ((wishIx l.length (grantIxM st rel row want l)).map (pickM l)) → Q (.ref q) H'
theorem op_neDK {X : Cx} {K : PySem.W.Frag} (h : X.K = K) (hu : X.A.units + 64 < cLine) : OpR X (compareOp .NotEq) (rNeD K) := by
  subst h
  exact op_neD hu
def tTruK (K : PySem.W.Frag) (ta : TE) : TT := fun σ H Q => ta σ H fun x H' => ∃ k, TruV K x H' k ∧ Q k H'
theorem pt_truthK {X : Cx} {K : PySem.W.Frag} {a : Expr} {ta : TE} (h : X.K = K) (ha : PE X a ta) (he : ∀ whole, isTrue a X.env whole = (do let v ← whole; standAt a.pos; holding [v] (truthy v)) := by intro _; rfl) : PT X a (tTruK K ta) := by
  subst h
  exact pt_truth ha he
theorem pg_tupK {X : Cx} {K : PySem.W.Frag} {es : List Expr} {k n : Nat} {t : TGs} {pos : Pos} (hK : X.K = K) (hc : X.calm = true) (h : PGs X es t)
    (hn : (assignEach es X.env).length = n := by rfl) (hst : (assignEach es X.env).findIdx? (·.1) = none := by rfl) : PG X (.Tuple es k pos) (gTup K n t) := by
  subst hK
  exact pg_tup hc h hn hst
abbrev scD1 : Scope := { kind := .function, names := [(".0", .local), ("_law_other", .local), ("_law_one", .cell)], isGenerator := false, isCoroutine := false, more := [] }
abbrev scD2 : Scope := { kind := .function, names := [(".0", .local), ("_law_size", .local), ("_law_one", .local), ("tuple", .globalImplicit), ("_law_candidates", .cell)], isGenerator := false, isCoroutine := false, more := [] }
abbrev nDue : List Str := ["_law_state_here", "_law_relation", "_law_row_here", "_law_wanted", "_law_candidates", "_law_granting", "_law_mask", "_law_indices", "_law_k", "_law_made", "_law_least", "_law_one", "_law_other", "_law_index", "_law_size"]
theorem mask_small (n m : Nat) : (maskIx n m).length ≤ n ∧ ∀ i ∈ maskIx n m, i < n := by
  unfold maskIx
  refine ⟨Nat.le_trans (List.length_filter_le _ _) (by rw [List.length_range]; exact Nat.le_refl _), fun i hi => ?_⟩
  exact List.mem_range.mp (List.mem_filter.mp hi).1
theorem shaped_ixI (l : List Nat) : SeqAt.shaped (.list ((intsL l).map .int)) = true := by
  have h := shaped_ix l
  unfold intsL
  rw [List.map_map]
  exact h
/-- rows[name], name a key -/
theorem get_row1 {H : Hp} {p : Addr} {rows : Kn} {n : Str} (h : RowsAt H p rows) (hn : n ∈ rows.map (·.1)) : ∃ (a : Addr) (ps : List (Addr × Row)), DGet H p (.str n) (some (.ref a)) ∧ H a = some (.lst (ps.map fun q => V.ref q.1)) ∧ ps.map (·.2) = rowsOf rows n ∧ ∀ q ∈ ps, RowH H q.1 q.2 := by
  obtain ⟨qs, hp, rfl, hq⟩ := h
  have e1 : look (qs.map fun q => (q.1, q.2.1)) n = (look qs n).map (·.1) := look_map (fun q : Addr × List Row => q.1) n qs
  have e2 : look (qs.map fun q => (q.1, q.2.2)) n = (look qs n).map (·.2) := look_map (fun q : Addr × List Row => q.2) n qs
  unfold rowsOf
  rw [e2]
  cases e : look qs n with
  | none =>
    rw [List.map_map] at hn
    exact absurd hn (look_none.mp e)
  | some q =>
    obtain ⟨ps, h1, h2, h3⟩ := hq _ (look_mem e)
    have dg : DGet H p (.str n) ((look (qs.map fun q => (q.1, q.2.1)) n).map V.ref) := dgetS' n (.inl hp)
    rw [e1, e] at dg
    exact ⟨q.1, ps, dg, h1, h2, h3⟩
section
variable {P : Program} {w : World} {K : PySem.W.Frag} {mg : Str → Option Value} {base : Heap}
theorem sc_due : FnScope nDue ["_law_state_here", "_law_relation", "_law_row_here", "_law_wanted", "_law_candidates"] (defScope (topS 78)) := ⟨rfl, rfl, rfl, by decide +kernel, rfl, by decide +kernel, by decide +kernel⟩
theorem ok_due (T : Tx P K mg) : Cal P w K mg base CX0 11 "_law_due" (spDue K) := by
  have C1 := ok_power (w := w) (base := base) T
  have C2 := ok_lturned (w := w) (base := base) T
  have C3 := ok_model (w := w) (base := base) T
  have C4 := ok_clash (w := w) (base := base) T
  refine cal_of T 54 78 rfl (by decide +kernel) sc_due (fun vs H Q E h => ?_) (fun _ _ _ _ _ _ us hl => match us, hl with | [_, _, _, _, _], _ => rfl) (fun cdv A outer s H vs Q E hr h => ?_)
  · obtain ⟨p, pr, c, st, rel, row, want, l, rfl, _⟩ := h
    rfl
  · obtain ⟨p, pr, c, st, rel, row, want, l, rfl, hst, hli, hrel, hrow, ⟨cs, hc, ec, hcs⟩, hgl, hll, q⟩ := h
    refine ⟨_, PSs.nox (pss_cons (ps_set (i := 5) sc_due.nd rfl (Or.inl rfl) (pe_lst pa_nil))
    (pss_cons (ps_for PassesOwn.never rfl (pi_range1 (by rfl) (T.fr "range") (pa_cons (pe_c C1 hr (pa_cons (pe_callB call_len (by rfl) (T.fr "len") PySem.boot_len (pa_cons (pv 4) pa_nil)) pa_nil)) pa_nil)) (pg_name (i := 6) sc_due.nd rfl (Or.inr rfl))
    (pss_cons (ps_setLc (i := 7) (own := [("_law_k", 8)]) (g := gName 8) (tt := _) rfl sc_due.nd rfl rfl (sw_true rfl rfl rfl (by decide +kernel)) (pi_range1 (by rfl) (T.fr "range") (pa_cons (pe_callB call_len (by rfl) (T.fr "len") PySem.boot_len (pa_cons (pv 4) pa_nil)) pa_nil)) (blkOk_by (own := [("_law_k", 8)]) (N := nDue) (sc := defScope (topS 78)) (by decide +kernel)) (fun _ _ _ _ _ => (pg_name (i := 8) sc_due.nd rfl (Or.inl rfl)))
      (fun _ _ _ _ _ => (pts_one (pt_cmpR op_eq (pe_op op_mod (pe_op op_fdiv (pv 6) (pe_c C1 hr (pa_cons (pv 8) pa_nil))) pe_int) pe_int (nomark _)))) (fun _ _ _ _ _ => (pv 8)))
    (pss_cons (ps_set (i := 9) sc_due.nd rfl (Or.inl rfl) (pe_c C2 hr (pa_cons (pv 0) (pa_cons (pe_lc (own := [("_law_k", 8)]) (g := gName 8) (tt := tYes) rfl sc_due.nd (pi_list (pv 7)) (blkOk_by (own := [("_law_k", 8)]) (N := nDue) (sc := defScope (topS 78)) (by decide +kernel)) (fun _ _ _ _ _ => (pg_name (i := 8) sc_due.nd rfl (Or.inl rfl))) (fun _ _ _ _ _ => pts_nil) (fun _ _ _ _ _ => (pe_ix (ix_listK rfl) (pv 4) (pv 8) (fun _ _ => rfl)))) pa_nil))))
    (pss_one (ps_if (PW.pt (pw_and (pt_cmpR op_eq (pe_cmpR (op_inT tells_row (hu3 hr)) (pv 2) (pe_dget (hu_of hr) (pe_c C3 hr (pa_cons (pv 9) pa_nil)) (pv 1) (fun _ _ => rfl)) (by rfl)) (pv 3) (nomark _)) (pw_and1 (pt_cmpR op_isN (pe_c C4 hr (pa_cons (pv 9) pa_nil)) pe_non (nomark _))))) (pss_one (ps_expr (pe_bm PySem.F.plainAttrs_list PySem.F.slot_list_append PySem.F.type_list_append mt_append (pv 5) (pa_cons (pv 7) pa_nil)))) pss_nil)))))
    (pss_cons (ps_set (i := 10) sc_due.nd rfl (Or.inl rfl) (pe_lst pa_nil))
    (pss_cons (ps_for PassesOwn.never rfl (pi_list (pv 5)) (pg_name (i := 11) sc_due.nd rfl (Or.inr rfl))
    (pss_one (ps_if (pt_not (pt_truth (pe_lc (own := [("_law_other", 12)]) (g := gName 12) (tt := _) rfl sc_due.nd (pi_list (pv 5)) (blkOk_by (own := [("_law_other", 12)]) (N := nDue) (sc := defScope (topS 78)) (by decide +kernel)) (fun _ _ _ _ _ => (pg_name (i := 12) sc_due.nd rfl (Or.inl rfl)))
      (fun _ _ _ _ _ => (pts_one (PW.pt (pw_and (pt_cmpR (op_neDK rfl (hu64 hr)) (pv 12) (pv 11) (nomark _)) (pw_and1 (pt_not (pt_truthK rfl (pe_lc (own := [("_law_index", 13)]) (g := gName 13) (tt := _) rfl sc_due.nd (pi_listK rfl (pv 12)) (blkOk_by (own := [("_law_index", 13)]) (N := nDue) (sc := scD1) (by decide +kernel)) (fun _ _ _ _ _ => (pg_name (i := 13) sc_due.nd rfl (Or.inl rfl))) (fun _ _ _ _ _ => (pts_one (pt_cmpR (op_notIn_seqK rfl) (pv 13) (pv 11) (by rfl)))) (fun _ _ _ _ _ => (pv 13)))))))))) (fun _ _ _ _ _ => (pv 12))) (by intro _; rfl)))
      (pss_one (ps_expr (pe_bm PySem.F.plainAttrs_list PySem.F.slot_list_append PySem.F.type_list_append mt_append (pv 10) (pa_cons (pe_tup (pa_cons (pe_callB call_len (by rfl) (T.fr "len") PySem.boot_len (pa_cons (pv 11) pa_nil)) (pa_cons (pv 11) pa_nil))) pa_nil)))) pss_nil)))
    (pss_one (ps_ret (pe_lc (own := [("_law_size", 14), ("_law_one", 11)]) (g := gTup K 2 (gCons (gName 14) (gCons (gName 11) gNil))) (tt := tYes) rfl sc_due.nd (pi_list (pe_callB (cr_sortIx (hu64 hr)) (by rfl) (T.fr "sorted") (by decide +kernel) (pa_cons (pv 10) pa_nil))) (blkOk_by (own := [("_law_size", 14), ("_law_one", 11)]) (N := nDue) (sc := defScope (topS 78)) (by decide +kernel)) (fun _ _ _ _ _ => (pg_tupK rfl rfl (pgs_cons (pg_name (i := 14) sc_due.nd rfl (Or.inl rfl)) (pgs_cons (pg_name (i := 11) sc_due.nd rfl (Or.inl rfl)) pgs_nil)))) (fun _ _ _ _ _ => pts_nil)
      (fun _ _ _ _ _ => (pe_callTy (call_tuple_ofK rfl) (by rfl) (T.fr "tuple") (by decide +kernel) (pa_cons (pe_lc (own := [("_law_index", 13)]) (g := gName 13) (tt := tYes) rfl sc_due.nd (pi_listK rfl (pv 11)) (blkOk_by (own := [("_law_index", 13)]) (N := nDue) (sc := scD2) (by decide +kernel)) (fun _ _ _ _ _ => (pg_name (i := 13) sc_due.nd rfl (Or.inl rfl))) (fun _ _ _ _ _ => pts_nil) (fun _ _ _ _ _ => (pe_ix (ix_listK rfl) (pv 4) (pv 13) (fun _ _ => rfl)))) pa_nil)))))))))), ?_⟩
    subst ec
    have hn : (cs.map (·.2)).length = cs.length := List.length_map _
    rw [hn] at hll q
    refine ⟨Nat.zero_le _, fun F nF => ?_⟩
    have sF := same_new (o := .lst []) nF
    have hpick : ∀ {i : Nat}, i < cs.length → ∃ x, cs[i]? = some x ∧ x ∈ cs ∧ (cs.map (·.2)).getD i (("" : Str), ([] : Row)) = x.2 := fun {i} hi => by
      refine ⟨cs[i], List.getElem?_eq_getElem hi, List.getElem_mem hi, ?_⟩
      rw [List.getD_eq_getElem?_getD, List.getElem?_map, List.getElem?_eq_getElem hi]
      rfl
    let G := grantIxM st rel row want (cs.map (·.2))
    have hpow : 2 ^ cs.length ≤ 16 := Nat.pow_le_pow_right (n := 2) (by decide) hll
    have en : (((2 ^ cs.length : Nat) : Int)).toNat = 2 ^ cs.length := Int.toNat_natCast _
    have enc : ((((cs.map fun q => V.ref q.1).length : Nat) : Int)).toNat = cs.length := by
      rw [List.length_map]
      exact Int.toNat_natCast _
    refine ⟨_, rfl, _, _, rfl, .inl ⟨_, SqL.of_H (sF _ _ hc), rfl⟩, cs.length, (by rw [List.length_map]; rfl), by omega, _, rfl, by omega, by omega, ?_⟩
    rw [en]
    refine for_range (lo := 0) (n := 2 ^ cs.length) (fun m σ H' => ∃ v6 v7 v8 v9 v10 v11 v12 v13 v14, σ = [some (.ref p), some (.str rel), some (.ref pr), some (.bl want), some (.ref c), some (.ref F), v6, v7, v8, v9, v10, v11, v12, v13, v14] ∧ Same H H' ∧ IxsA H' F (((List.range m).map (maskIx cs.length)).filter G))
      ⟨none, none, none, none, none, none, none, none, none, rfl, sF, [], upd_same, rfl, fun q hq => by cases hq⟩ ?_ ?_
    · rintro m σ H' hm ⟨v6, v7, v8, v9, v10, v11, v12, v13, v14, rfl, sm, hF⟩
      have hc' := sm _ _ hc
      obtain ⟨hk1, hk2⟩ := mask_small cs.length m
      have lF : (((List.range m).map (maskIx cs.length)).filter G).length ≤ m := Nat.le_trans (List.length_filter_le _ _) (by rw [List.length_map, List.length_range]; exact Nat.le_refl _)
      have estep : ((List.range (m + 1)).map (maskIx cs.length)).filter G = ((List.range m).map (maskIx cs.length)).filter G ++ if G (maskIx cs.length m) = true then [maskIx cs.length m] else [] := by
        rw [List.range_succ, List.map_append, List.filter_append, List.map_singleton, List.filter_cons]
        rfl
      rw [estep]
      refine ⟨_, rfl, _, _, rfl, .inl ⟨_, SqL.of_H hc', rfl⟩, _, rfl, by rw [List.length_map]; omega, by rw [List.length_map]; omega, ?_⟩
      rw [enc]
      refine fun D nD => lc_rangeG nD (by omega) (fun H' acc j => acc = ((List.range j).filter fun k => decide (m / 2 ^ k % 2 = 1)).map fun i : Nat => V.int (i : Int)) rfl ?_ ?_
      · rintro j acc H6 Nx No hj s6 eD6 rfl hN hNo
        have hj4 : j < 4 := by omega
        have hp16 : 2 ^ j ≤ 16 := Nat.pow_le_pow_right (n := 2) (by decide) (by omega : j ≤ 4)
        have hp0 : 0 < 2 ^ j := Nat.pow_pos (by decide)
        refine ⟨rfl, _, rfl, _, rfl, j, (by rw [Int.zero_add]; rfl), by omega, _, _, rfl, rfl, ⟨by omega, by omega⟩, _, _, rfl, rfl, (by show (0 : Int) < 2; decide), rfl, _, rfl, ?_⟩
        have e1 : decide (V.int ((0 + (m : Int)) / ((2 ^ j : Nat) : Int) % 2) = V.int 1) = decide (m / 2 ^ j % 2 = 1) := by
          rw [Int.zero_add]
          have e2 : ((m : Int) / ((2 ^ j : Nat) : Int) % 2) = ((m / 2 ^ j % 2 : Nat) : Int) := by omega
          rw [e2]
          by_cases h : m / 2 ^ j % 2 = 1
          · rw [h, decide_eq_true rfl]
            rfl
          · rw [decide_eq_false h, decide_eq_false (fun z => h (by have := V.int.inj z; omega))]
        show if (decide (V.int ((0 + (m : Int)) / ((2 ^ j : Nat) : Int) % 2) = V.int 1)) = true then _ else _
        rw [e1]
        have er : (List.range (j + 1)).filter (fun k => decide (m / 2 ^ k % 2 = 1)) = (List.range j).filter (fun k => decide (m / 2 ^ k % 2 = 1)) ++ if decide (m / 2 ^ j % 2 = 1) = true then [j] else [] := by
          rw [List.range_succ, List.filter_append, List.filter_cons]
          rfl
        refine iteB (fun cc => ?_) (fun cc => ?_)
        · refine ⟨_, rfl, hN _ _ (Same.refl _) ?_⟩
          rw [er, cc, if_pos rfl, List.map_append, List.map_singleton, Int.zero_add]
        · refine hNo _ (Same.refl _) ?_
          rw [er, cc, if_neg Bool.false_ne_true, List.append_nil]
      · rintro H6 acc s6 eD6 rfl
        have hD6 : IxL H6 D (maskIx cs.length m) := eD6
        have hFD : D ≠ F := fun z => by
          obtain ⟨ps, h, _⟩ := hF
          rw [z, h] at nD
          cases nD
        have sm6 := sm.trans s6
        have hcs6 : ∀ q ∈ cs, PairR H6 q.1 q.2 := fun q hq => stays_pairR.go sm6.t (hcs q hq)
        refine ⟨_, rfl, _, rfl, D, rfl, ⟨_, SqL.of_H hD6⟩, fun D2 nD2 => lc_W (walks_list (K := K) (a := D) (l := maskIx cs.length m) (f := fun i : Nat => V.int (i : Int))) nD2 (fun H' s => SqL.of_H (s _ _ hD6)) (by omega) (fun H' acc pre => ∃ ps : List (Addr × (Str × Row)), acc = ps.map (fun q => V.ref q.1) ∧ ps.map (·.2) = pickM (cs.map (·.2)) pre ∧ ∀ q ∈ ps, q ∈ cs) ⟨[], rfl, rfl, fun q hq => by cases hq⟩ ?_ ?_⟩
        · rintro pre2 j post2 acc H7 Nx No el2 s7 eD7 ⟨ps, rfl, eps, hps⟩ hN _
          obtain ⟨x, hx1, hx2, hx3⟩ := hpick (hk2 j (by rw [el2]; simp))
          refine ⟨rfl, _, rfl, _, rfl, c, _, _, V.ref x.1, rfl, rfl, SqL.of_H (s7 _ _ (sm6 _ _ hc)), atI_nat (by rw [List.getElem?_map, hx1]; rfl), hN _ _ (Same.refl _) ⟨ps ++ [x], by rw [List.map_append]; rfl, ?_, fun q hq => ?_⟩⟩
          · rw [List.map_append, eps]
            unfold pickM
            rw [List.map_append, List.map_singleton, List.map_singleton, hx3]
          · rcases List.mem_append.mp hq with hq | hq
            · exact hps q hq
            · rw [List.mem_singleton.mp hq]
              exact hx2
        · rintro H7 acc s7 eD7 ⟨ps, rfl, eps, hps⟩
          have hfl : LstOf PairR H7 D2 (pickM (cs.map (·.2)) (maskIx cs.length m)) := ⟨ps, eD7, eps, fun q hq => stays_pairR.go s7.t (hcs6 q (hps q hq))⟩
          have hpg := pick_good hgl (ix := maskIx cs.length m) (fun i hi => by rw [hn]; exact hk2 i hi)
          have s07 : Same H H7 := sm6.trans s7
          refine ⟨p, D2, st, _, rfl, hst.same s07, hli.good, hfl, hpg, ?_, fun H8 q8 s8 hst8 => ?_⟩
          · unfold pickM
            rw [List.length_map]
            omega
          have hli8 := turn_linv hli hpg
          have eG : G (maskIx cs.length m) = (decide (row ∈ rowsOf (modelM (turnM st (pickM (cs.map (·.2)) (maskIx cs.length m)))) rel) == want && !clashM (turnM st (pickM (cs.map (·.2)) (maskIx cs.length m)))) := rfl
          have hrel8 : rel ∈ (modelM (turnM st (pickM (cs.map (·.2)) (maskIx cs.length m)))).map (·.1) := by
            obtain ⟨f, hk⟩ := model_typed hli8
            rw [hk.keys, turn_rels hli hpg]
            exact hrel
          generalize hst9 : turnM st (pickM (cs.map (·.2)) (maskIx cs.length m)) = st9 at hst8 hli8 eG hrel8
          refine ⟨_, rfl, _, rfl, q8, st9, rfl, hst8, hli8.h64, hli8.good.rulesOk, hli8.good.rowsOk, model_ok hli8, fun H9 m9 s9 hm9 => ?_⟩
          obtain ⟨la, qs, dg, hla, eqs, hqs⟩ := get_row1 hm9 hrel8
          have s09 : Same H H9 := (s07.trans s8).trans s9
          refine ⟨_, rfl, m9, _, rfl, dg, pr, la, row, qs, rfl, rfl, s09 _ _ hrow, SqL.of_H hla, hqs, ?_⟩
          rw [if_neg Bool.false_ne_true, eqs]
          have ebl : decide (V.bl (decide (row ∈ rowsOf (modelM st9) rel)) = V.bl want) = (decide (row ∈ rowsOf (modelM st9) rel) == want) := by
            generalize decide (row ∈ rowsOf (modelM st9) rel) = b
            cases b <;> cases want <;> rfl
          refine ⟨_, rfl, rfl, _, rfl, ?_⟩
          show if (decide (V.bl (decide (row ∈ rowsOf (modelM st9) rel)) = V.bl want)) = true then _ else _
          rw [ebl]
          have no : ∀ Hx, Same H6 Hx → G (maskIx cs.length m) = false → IxsA Hx F (((List.range m).map (maskIx cs.length)).filter G ++ if G (maskIx cs.length m) = true then [maskIx cs.length m] else []) := fun Hx sx hg => by
            rw [hg, if_neg Bool.false_ne_true, List.append_nil]
            exact (hF.same s6).same sx
          refine iteB (fun c1 => ?_) (fun c1 => ?_)
          · rw [c1, Bool.true_and] at eG
            refine ⟨_, rfl, q8, st9, rfl, hst8.same s9, hli8, fun hcl Hx sx => ⟨rfl, _, rfl, ?_⟩, fun Hx t hcl sx => ⟨rfl, _, rfl, ?_⟩⟩
            · rw [hcl] at eG
              obtain ⟨fs, hFx, efs, hfs⟩ := (hF.same s6).same (((s7.trans s8).trans s9).trans sx)
              have lfs : fs.length ≤ m := by
                have := congrArg List.length efs
                rw [List.length_map] at this
                omega
              have s6x := ((s7.trans s8).trans s9).trans sx
              refine iteT ⟨_, rfl, .inl ⟨rfl, _, SqL.of_H hFx⟩, _, rfl, F, _, _, rfl, rfl, hFx, by rw [List.length_map, sizeLine_eq]; omega, _, _, _, _, _, _, _, _, _, rfl, same0_upd (s09.trans sx) nF, fs ++ [(D, maskIx cs.length m)], by rw [upd_same, List.map_append]; rfl, ?_, fun q hq => ?_⟩
              · rw [List.map_append, efs, eG]
                rfl
              · rcases List.mem_append.mp hq with hq | hq
                · refine ⟨(hfs q hq).1, ?_⟩
                  show upd _ _ _ _ = _
                  rw [upd_ne (hfs q hq).1]
                  exact (hfs q hq).2
                · rw [List.mem_singleton.mp hq]
                  refine ⟨hFD, ?_⟩
                  show upd _ _ _ _ = _
                  rw [upd_ne hFD]
                  exact s6x _ _ hD6
            · rw [hcl] at eG
              exact iteF ⟨_, _, _, _, _, _, _, _, _, rfl, s09.trans sx, no _ (((s7.trans s8).trans s9).trans sx) eG⟩
          · rw [c1, Bool.false_and] at eG
            exact iteF ⟨_, _, _, _, _, _, _, _, _, rfl, s09, no _ ((s7.trans s8).trans s9) eG⟩
    · rintro σ H' ⟨v6, v7, v8, v9, v10, v11, v12, v13, v14, rfl, sm, gs, hF, egs, hgs⟩
      have egr : gs.map (·.2) = grantIx cs.length G := egs
      have hgs4 : ∀ q ∈ gs, q.2.length ≤ cs.length ∧ ∀ i ∈ q.2, i < cs.length := fun q hq => by
        have h1 : q.2 ∈ grantIx cs.length G := by rw [← egr]; exact List.mem_map_of_mem (f := fun q : Addr × List Nat => q.2) hq
        unfold grantIx at h1
        obtain ⟨m, _, e⟩ := List.mem_map.mp (List.mem_filter.mp h1).1
        rw [← e]
        exact mask_small _ _
      have lgs : gs.length ≤ 16 := by
        have h1 := congrArg List.length egr
        rw [List.length_map] at h1
        have h2 : (grantIx cs.length G).length ≤ 2 ^ cs.length := Nat.le_trans (List.length_filter_le _ _) (by rw [List.length_map, List.length_range]; exact Nat.le_refl _)
        omega
      refine ⟨Nat.zero_le _, fun L nL => ?_⟩
      have sL := same_new (o := .lst []) nL
      have hgL : ∀ q ∈ gs, q.1 ≠ L := fun q hq z => by
        have h1 : H' q.1 = some (.lst (q.2.map fun i : Nat => V.int (i : Int))) := (hgs q hq).2
        rw [z, nL] at h1
        cases h1
      refine ⟨_, rfl, F, rfl, ⟨_, SqL.of_H (sL _ _ hF)⟩, for_W (walks_list (K := K) (a := F) (l := gs) (f := fun q : Addr × List Nat => V.ref q.1)) (fun pre σ H2 => ∃ v11 v12 v13 v14, σ = [some (.ref p), some (.str rel), some (.ref pr), some (.bl want), some (.ref c), some (.ref F), v6, v7, v8, v9, some (.ref L), v11, v12, v13, v14] ∧ Same H' H2 ∧
          ∃ ps : List (Addr × List Nat), H2 L = some (.lst (ps.map fun q => V.ref q.1)) ∧ ps.map (·.2) = (pre.map (·.2)).filter (leastIn (gs.map (·.2))) ∧ ∀ q ∈ ps, ∃ b, H2 q.1 = some (.tup [.int (q.2.length : Int), .ref b]) ∧ (b, q.2) ∈ gs)
        ⟨v11, v12, v13, v14, rfl, sL, [], upd_same, rfl, fun q hq => by cases hq⟩ (fun pre σ H2 ⟨_, _, _, _, _, s, _⟩ => SqL.of_H (s _ _ hF)) ?_ ?_⟩
      · rintro pre ⟨oa, one⟩ post σ H2 el ⟨v11, v12, v13, v14, rfl, sm2, ps, hL, eps, hps⟩
        have hm : (oa, one) ∈ gs := by rw [el]; simp
        have hoa : IxL H2 oa one := sm2 _ _ (hgs _ hm).2
        have hF2 := sm2 _ _ hF
        have hgs2 : ∀ q ∈ gs, IxL H2 q.1 q.2 := fun q hq => sm2 _ _ (hgs q hq).2
        have hone := hgs4 _ hm
        have lps : ps.length ≤ 16 := by
          have h1 := congrArg List.length eps
          rw [List.length_map] at h1
          have h2 : ((pre.map (·.2)).filter (leastIn (gs.map (·.2)))).length ≤ pre.length := Nat.le_trans (List.length_filter_le _ _) (by rw [List.length_map]; exact Nat.le_refl _)
          have h3 := congrArg List.length el
          rw [List.length_append, List.length_cons] at h3
          omega
        refine ⟨_, rfl, F, rfl, ⟨_, SqL.of_H hF2⟩, fun D nD => lc_W (walks_list (K := K) (a := F) (l := gs) (f := fun q : Addr × List Nat => V.ref q.1)) nD (fun Hx s => SqL.of_H (s _ _ hF2)) (by omega) (fun Hx acc pre => acc.isEmpty = ((pre.map (·.2)).filter fun o => !decide (o = one) && partM o one).isEmpty) rfl ?_ ?_⟩
        · rintro pre2 ⟨xa, oth⟩ post2 acc H3 Nx No el2 s3 eD3 hacc hN hNo
          have hm2 : (xa, oth) ∈ gs := by rw [el2]; simp
          have hxa : IxL H3 xa oth := s3 _ _ (hgs2 _ hm2)
          have hoa3 : IxL H3 oa one := s3 _ _ hoa
          have hoth : oth.length ≤ cs.length := (hgs4 _ hm2).1
          have eF : ((pre2 ++ [(xa, oth)]).map (·.2)).filter (fun o => !decide (o = one) && partM o one) = (pre2.map (·.2)).filter (fun o => !decide (o = one) && partM o one) ++ if (!decide (oth = one) && partM oth one) = true then [oth] else [] := by
            rw [List.map_append, List.filter_append, List.map_singleton, List.filter_cons]
            rfl
          refine ⟨rfl, _, rfl, _, rfl, _, _, ixL_dp hxa, ixL_dp hoa3, shaped_ixI _, shaped_ixI _, ?_⟩
          rw [eqv_ixs]
          refine ⟨_, rfl, iteB (fun c1 => ?_) (fun c1 => ?_)⟩
          · refine ⟨_, rfl, xa, rfl, ⟨_, SqL.of_H hxa⟩, fun D2 nD2 => lc_W (walks_list (K := K) (a := xa) (l := oth) (f := fun i : Nat => V.int (i : Int))) nD2 (fun Hx s => SqL.of_H (s _ _ hxa)) (by omega) (fun Hx acc pre => acc = (pre.filter fun i => !decide (i ∈ one)).map fun i : Nat => V.int (i : Int)) rfl ?_ ?_⟩
            · rintro pre3 i post3 acc3 H4 Nx3 No3 el3 s4 eD4 rfl hN3 hNo3
              refine ⟨rfl, _, rfl, _, rfl, oa, _, rfl, .inl (SqL.of_H (s4 _ _ hoa3)), rfl, flat_int _, _, rfl, ?_⟩
              rw [if_pos rfl, inV_int]
              cases hd : (!decide (i ∈ one)) with
              | true =>
                refine iteT ⟨_, rfl, hN3 _ _ (Same.refl _) ?_⟩
                rw [List.filter_append, List.map_append]
                simp only [List.filter_cons, hd, List.filter_nil]
                rfl
              | false =>
                refine iteF (hNo3 _ (Same.refl _) ?_)
                rw [List.filter_append, List.map_append]
                simp only [List.filter_cons, hd, List.filter_nil]
                simp
            · rintro H4 acc3 s4 eD4 rfl
              refine ⟨_, .inl ⟨_, SqL.of_H eD4, rfl⟩, ?_⟩
              have ep : ((oth.filter fun i => !decide (i ∈ one)).map fun i : Nat => V.int (i : Int)).isEmpty = partM oth one := by
                unfold partM
                cases (oth.filter fun i => !decide (i ∈ one)) <;> rfl
              rw [ep]
              have c2 : (!decide (oth = one)) = true := c1
              refine iteB (fun c3 => ?_) (fun c3 => ?_)
              · have c4 : partM oth one = true := by
                  revert c3
                  cases partM oth one <;> simp
                refine ⟨_, rfl, hN _ _ s4 ?_⟩
                rw [eF, c2, c4]
                have n1 : ∀ {α : Type} (l : List α) (x : α), (l ++ [x]).isEmpty = false := fun l x => by cases l <;> rfl
                rw [n1]
                exact (n1 _ _).symm
              · have c4 : partM oth one = false := by
                  revert c3
                  cases partM oth one <;> simp
                refine hNo _ s4 ?_
                rw [eF, c2, c4, if_neg (by simp), List.append_nil]
                exact hacc
          · have c2 : (!decide (oth = one)) = false := c1
            refine iteF (hNo _ (Same.refl _) ?_)
            rw [eF, c2, if_neg (by simp), List.append_nil]
            exact hacc
        · rintro H3 acc s3 eD3 hacc
          refine ⟨_, .inl ⟨_, SqL.of_H eD3, rfl⟩, ?_⟩
          have el1 : leastIn (gs.map (·.2)) one = acc.isEmpty := hacc.symm
          have estep : ((pre ++ [(oa, one)]).map (·.2)).filter (leastIn (gs.map (·.2))) = (pre.map (·.2)).filter (leastIn (gs.map (·.2))) ++ if acc.isEmpty = true then [one] else [] := by
            rw [List.map_append, List.filter_append, List.map_singleton, List.filter_cons, el1]
            rfl
          rw [estep]
          have hL3 := s3 _ _ hL
          refine iteB (fun c1 => ?_) (fun c1 => ?_)
          · have c2 : acc.isEmpty = true := by simpa using c1
            rw [c2, if_pos rfl]
            have hoa3 : H3 oa = some (.lst (one.map fun i : Nat => V.int (i : Int))) := s3 _ _ hoa
            refine ⟨_, rfl, .inl ⟨rfl, _, SqL.of_H hL3⟩, _, rfl, _, _, rfl, .inl ⟨_, SqL.of_H hoa3, rfl⟩, _, rfl, by show 2 ≤ sizeLine; decide, fun T1 n1 => ?_⟩
            have t1 := same_new (o := .tup [V.int ((one.map fun i : Nat => V.int (i : Int)).length : Nat), V.ref oa]) n1
            have nTL : T1 ≠ L := (ne_of_none hL3 n1).symm
            refine ⟨L, _, _, rfl, rfl, t1 _ _ hL3, by rw [List.length_map, sizeLine_eq]; omega, _, _, _, _, rfl, same0_upd ((sm2.trans s3).trans t1) nL, ps ++ [(T1, one)], by rw [upd_same, List.map_append]; rfl, by rw [List.map_append, eps]; rfl, fun q hq => ?_⟩
            rcases List.mem_append.mp hq with hq | hq
            · obtain ⟨b, h1, h2⟩ := hps q hq
              have nq : q.1 ≠ L := fun z => by
                rw [z, hL] at h1
                cases h1
              exact ⟨b, by rw [upd_ne nq]; exact t1 _ _ (s3 _ _ h1), h2⟩
            · rw [List.mem_singleton.mp hq]
              refine ⟨oa, ?_, hm⟩
              rw [upd_ne nTL, upd_same, List.length_map]
          · have c2 : acc.isEmpty = false := by simpa using c1
            rw [c2, if_neg Bool.false_ne_true, List.append_nil]
            exact ⟨_, _, _, _, rfl, sm2.trans s3, ps, hL3, eps, fun q hq => by
              obtain ⟨b, h1, h2⟩ := hps q hq
              exact ⟨b, s3 _ _ h1, h2⟩⟩
      · rintro σ H2 ⟨v11, v12, v13, v14, rfl, sm2, ps, hL, eps, hps⟩
        have hls : ∀ q ∈ ps, LenIx H2 q.1 q.2 := fun q hq => by
          obtain ⟨b, h1, h2⟩ := hps q hq
          exact ⟨b, h1, sm2 _ _ (hgs _ h2).2⟩
        have els : ps.map (·.2) = leastIx cs.length G := by
          rw [eps, egr]
          rfl
        have ews := sort_least hll els
        refine ⟨_, rfl, L, ps, rfl, hL, hls, fun S nS => ?_⟩
        have sS := same_new (o := .lst ((sortIx ps).map fun q => V.ref q.1)) nS
        have hperm : (sortIx ps).Perm ps := List.mergeSort_perm _ _
        have lss : (sortIx ps).length ≤ 16 := by
          have h1 := congrArg List.length eps
          rw [List.length_map] at h1
          have h2 : ((gs.map (·.2)).filter (leastIn (gs.map (·.2)))).length ≤ gs.length := Nat.le_trans (List.length_filter_le _ _) (by rw [List.length_map]; exact Nat.le_refl _)
          rw [hperm.length_eq]
          omega
        have s0 : Same H (upd H2 S (.lst ((sortIx ps).map fun q => V.ref q.1))) := (sm.trans sm2).trans sS
        have hcs' : ∀ q ∈ cs, PairR (upd H2 S (.lst ((sortIx ps).map fun q => V.ref q.1))) q.1 q.2 := fun q hq => stays_pairR.go s0.t (hcs q hq)
        refine ⟨S, rfl, ⟨_, SqL.of_H upd_same⟩, fun D nD => lc_W (walks_list (K := K) (a := S) (l := sortIx ps) (f := fun q : Addr × List Nat => V.ref q.1)) nD (fun Hx s => SqL.of_H (s _ _ upd_same)) (by omega) (fun H4 acc pre => ∃ rs : List (Addr × List (Str × Row)), acc = rs.map (fun q => V.ref q.1) ∧ rs.map (·.2) = (pre.map (·.2)).map (pickM (cs.map (·.2))) ∧ ∀ q ∈ rs, TupOf PairR H4 q.1 q.2) ⟨[], rfl, rfl, fun q hq => by cases hq⟩ ?_ ?_⟩
        · rintro pre ⟨za, ix⟩ post acc H4 Nx No el s4 eD4 ⟨rs, rfl, ers, hrs⟩ hN _
          have hm : (za, ix) ∈ ps := hperm.mem_iff.mp (by rw [el]; simp)
          obtain ⟨b, hb1, hb2⟩ := hps _ hm
          have bix := (hgs4 _ hb2)
          have lix : ix.length ≤ cs.length := bix.1
          have hb1' := s4 _ _ (sS _ _ hb1)
          have hza : H4 b = some (.lst (ix.map fun i : Nat => V.int (i : Int))) := s4 _ _ (sS _ _ (sm2 _ _ (hgs _ hb2).2))
          refine ⟨za, _, rfl, SqT.of_H hb1', rfl, _, _, rfl, _, _, rfl, rfl, rfl, ?_⟩
          refine ⟨_, rfl, b, rfl, ⟨_, SqL.of_H hza⟩, fun D2 nD2 => lc_W (walks_list (K := K) (a := b) (l := ix) (f := fun i : Nat => V.int (i : Int))) nD2 (fun H' s => SqL.of_H (s _ _ hza)) (by omega) (fun H' acc pre => ∃ ps : List (Addr × (Str × Row)), acc = ps.map (fun q => V.ref q.1) ∧ ps.map (·.2) = pickM (cs.map (·.2)) pre ∧ ∀ q ∈ ps, q ∈ cs) ⟨[], rfl, rfl, fun q hq => by cases hq⟩ ?_ ?_⟩
          · rintro pre2 j post2 acc H6 Nx No el2 s6 eD6 ⟨ps2, rfl, eps2, hps2⟩ hN _
            obtain ⟨x, hx1, hx2, hx3⟩ := hpick (bix.2 j (by show j ∈ ix; rw [el2]; simp))
            refine ⟨rfl, _, rfl, _, rfl, c, _, _, V.ref x.1, rfl, rfl, SqL.of_H (s6 _ _ (s4 _ _ (s0 _ _ hc))), atI_nat (by rw [List.getElem?_map, hx1]; rfl), hN _ _ (Same.refl _) ⟨ps2 ++ [x], by rw [List.map_append]; rfl, ?_, fun q hq => ?_⟩⟩
            · rw [List.map_append, eps2]
              unfold pickM
              rw [List.map_append, List.map_singleton, List.map_singleton, hx3]
            · rcases List.mem_append.mp hq with hq | hq
              · exact hps2 q hq
              · rw [List.mem_singleton.mp hq]
                exact hx2
          · rintro H6 acc s6 eD6 ⟨ps2, rfl, eps2, hps2⟩
            refine ⟨D2, _, rfl, .inl ⟨SqL.of_H eD6, fun lt nlt => ?_⟩⟩
            have st := same_new (o := .tup (ps2.map fun q => V.ref q.1)) nlt
            have s46 : Same H4 _ := s6.trans st
            refine hN _ _ s46 ⟨rs ++ [(lt, pickM (cs.map (·.2)) ix)], by rw [List.map_append]; rfl, ?_, ?_⟩
            · rw [List.map_append, ers, List.map_append, List.map_append]
              rfl
            · have tD := sameT_lst (o := .lst (rs.map (fun q => V.ref q.1) ++ [V.ref lt])) (s46 _ _ eD4)
              intro q hq
              rcases List.mem_append.mp hq with hq | hq
              · exact (stays_tup stays_pairR).go (s46.t.trans tD) (hrs q hq)
              · rw [List.mem_singleton.mp hq]
                refine (stays_tup stays_pairR).go tD ⟨ps2, upd_same, eps2, fun x hx => stays_pairR.go ((s4.trans s46).t) (hcs' x (hps2 x hx))⟩
        · rintro H4 acc s4 eD4 ⟨rs, rfl, ers, hrs⟩
          refine q H4 D (s0.trans s4) ⟨rs, eD4, ?_, hrs⟩
          rw [ers, ews]
end
end Rs


set_option Elab.async false
set_option linter.all false
set_option maxRecDepth 100000
set_option maxHeartbeats 2000000
/-! # S29: items, results as data; repr of them -/
namespace Rs
open PySem PySem.Spec PyProof.Rows L2 PySem.W
def keyD : L2.Key → PyData
  | .inl i => .int i
  | .inr x => .str x
def rowD (r : Row) : PyData := .tuple (r.map keyD)
def tmsD (ts : List Tm) : PyData := .tuple (ts.map fun t => rowD t.enc)
def litD : Lit → PyData
  | .fact r ts => .tuple [.str "fact", .str r, tmsD ts]
  | .not_ r ts => .tuple [.str "not", .str r, tmsD ts]
  | .cmp op a b => .tuple [.str "compare", .str op, rowD a.enc, rowD b.enc]
  | .is_ v op a b => .tuple [.str "is", .str v, .str op, rowD a.enc, rowD b.enc]
  | .cnt v r ts => .tuple [.str "count", .str v, .str r, tmsD ts]
def bodyD (b : Body) : PyData := .tuple (b.map litD)
def itemD : Item → PyData
  | .rel n w => .tuple [.str "relation", .str n, .int w]
  | .fact n r => .tuple [.str "fact", .str n, rowD r]
  | .rule n ru => .tuple [.str "rule", .str n, .str ru.rel, tmsD ru.ts, bodyD ru.body]
  | .den n b => .tuple [.str "denial", .str n, bodyD b]
def itemsD (l : List Item) : PyData := .list (l.map itemD)
def pairD (x : Str × Row) : PyData := .tuple [.str x.1, rowD x.2]
def resD (ll : List (List (Str × Row))) : PyData := .list (ll.map fun l => .tuple (l.map pairD))
section
variable {K : PySem.W.Frag} {H : Hp}
theorem key_dp (k : L2.Key) : Dp K H (kV k) (keyD k) := by
  cases k with
  | inl i => exact .int i
  | inr x => exact .str x
theorem keys_dp : ∀ r : Row, DpAll K H (r.map kV) (r.map keyD)
  | [] => .nil
  | k :: r => .cons (key_dp k) (keys_dp r)
theorem row_dp {p : Addr} {r : Row} (h : RowH H p r) : Dp K H (.ref p) (rowD r) := .tup (SqT.of_H h) (keys_dp r)
theorem refs_dp {α : Type} {R : Hp → Addr → α → Prop} {enc : α → PyData} (hR : ∀ a x, R H a x → Dp K H (.ref a) (enc x)) : ∀ {ps : List (Addr × α)}, (∀ q ∈ ps, R H q.1 q.2) → DpAll K H (ps.map fun q => V.ref q.1) ((ps.map (·.2)).map enc)
  | [], _ => .nil
  | q :: ps, h => .cons (hR _ _ (h q (List.mem_cons_self ..))) (refs_dp hR fun x hx => h x (List.mem_cons_of_mem _ hx))
theorem tup_dp {α : Type} {R : Hp → Addr → α → Prop} {enc : α → PyData} (hR : ∀ a x, R H a x → Dp K H (.ref a) (enc x)) {p : Addr} {l : List α} (h : TupOf R H p l) : Dp K H (.ref p) (.tuple (l.map enc)) := by
  obtain ⟨ps, h1, rfl, h3⟩ := h
  exact .tup (SqT.of_H h1) (refs_dp hR h3)
theorem lst_dp {α : Type} {R : Hp → Addr → α → Prop} {enc : α → PyData} (hR : ∀ a x, R H a x → Dp K H (.ref a) (enc x)) {p : Addr} {l : List α} (h : LstOf R H p l) : Dp K H (.ref p) (.list (l.map enc)) := by
  obtain ⟨ps, h1, rfl, h3⟩ := h
  exact .lst (SqL.of_H h1) (refs_dp hR h3)
theorem tms_dp {p : Addr} {ts : List Tm} (h : TmsAt H p ts) : Dp K H (.ref p) (tmsD ts) := tup_dp (R := TmAt) (enc := fun t => rowD t.enc) (fun a x hx => row_dp hx) h
theorem lit_dp (p : Addr) (l : Lit) (h : LitAt H p l) : Dp K H (.ref p) (litD l) := by
  cases l with
  | fact r ts =>
    obtain ⟨a, h1, h2⟩ := h
    exact .tup (SqT.of_H h1) (.cons (.str _) (.cons (.str _) (.cons (tms_dp h2) .nil)))
  | not_ r ts =>
    obtain ⟨a, h1, h2⟩ := h
    exact .tup (SqT.of_H h1) (.cons (.str _) (.cons (.str _) (.cons (tms_dp h2) .nil)))
  | cmp op t u =>
    obtain ⟨a, b, h1, h2, h3⟩ := h
    exact .tup (SqT.of_H h1) (.cons (.str _) (.cons (.str _) (.cons (row_dp h2) (.cons (row_dp h3) .nil))))
  | is_ v op t u =>
    obtain ⟨a, b, h1, h2, h3⟩ := h
    exact .tup (SqT.of_H h1) (.cons (.str _) (.cons (.str _) (.cons (.str _) (.cons (row_dp h2) (.cons (row_dp h3) .nil)))))
  | cnt v r ts =>
    obtain ⟨a, h1, h2⟩ := h
    exact .tup (SqT.of_H h1) (.cons (.str _) (.cons (.str _) (.cons (.str _) (.cons (tms_dp h2) .nil))))
theorem body_dp {p : Addr} {b : Body} (h : BodyAt H p b) : Dp K H (.ref p) (bodyD b) := tup_dp lit_dp h
theorem item_dp (p : Addr) (i : Item) (h : ItemAt H p i) : Dp K H (.ref p) (itemD i) := by
  cases i with
  | rel n w => exact .tup (SqT.of_H (show H p = _ from h)) (.cons (.str _) (.cons (.str _) (.cons (.int _) .nil)))
  | fact n r =>
    obtain ⟨a, h1, h2⟩ := h
    exact .tup (SqT.of_H h1) (.cons (.str _) (.cons (.str _) (.cons (row_dp h2) .nil)))
  | rule n ru =>
    obtain ⟨a, b, h1, h2, h3⟩ := h
    exact .tup (SqT.of_H h1) (.cons (.str _) (.cons (.str _) (.cons (.str _) (.cons (tms_dp h2) (.cons (body_dp h3) .nil)))))
  | den n b =>
    obtain ⟨a, h1, h2⟩ := h
    exact .tup (SqT.of_H h1) (.cons (.str _) (.cons (.str _) (.cons (body_dp h2) .nil)))
theorem items_dp {p : Addr} {l : List Item} (h : LstOf ItemAt H p l) : Dp K H (.ref p) (itemsD l) := lst_dp item_dp h
theorem pair_dp (p : Addr) (x : Str × Row) (h : PairR H p x) : Dp K H (.ref p) (pairD x) := by
  obtain ⟨a, h1, h2⟩ := h
  exact .tup (SqT.of_H h1) (.cons (.str _) (.cons (row_dp h2) .nil))
theorem res_dp {p : Addr} {ll : List (List (Str × Row))} (h : ResL H p ll) : Dp K H (.ref p) (resD ll) := lst_dp (fun a x hx => tup_dp pair_dp hx) h
end
/-! ### sizes -/
structure Fine (n w : Nat) (d : PyData) : Prop where
  lay : d.canLay0 = true
  dep : d.depth ≤ n
  wt : d.weight ≤ w
  short : d.intsShort 13 = true
  shows : d.showable = true
theorem Fine.up {n m w v : Nat} {d : PyData} (h : Fine n w d) (a : n ≤ m) (b : w ≤ v) : Fine m v d := ⟨h.lay, Nat.le_trans h.dep a, Nat.le_trans h.wt b, h.short, h.shows⟩
theorem fine_all {n w : Nat} : ∀ {xs : List PyData}, (∀ x ∈ xs, Fine n w x) → PyData.canLayAll0 xs = true ∧ PyData.depthAll xs ≤ n ∧ PyData.weightAll xs ≤ (w + 1) * xs.length ∧ PyData.intsShortAll 13 xs = true ∧ PyData.showableAll xs = true
  | [], _ => by simp [PyData.canLayAll0, PyData.depthAll, PyData.weightAll, PyData.intsShortAll, PyData.showableAll]
  | x :: xs, h => by
    obtain ⟨h1, h2, h3, h4, h5⟩ := fine_all fun y hy => h y (List.mem_cons_of_mem _ hy)
    have hx := h x (List.mem_cons_self ..)
    simp only [PyData.canLayAll0, PyData.depthAll, PyData.weightAll, PyData.intsShortAll, PyData.showableAll, hx.lay, hx.short, hx.shows, h1, h4, h5, Bool.and_self, List.length_cons, Nat.mul_succ]
    have := hx.dep
    have := hx.wt
    refine ⟨trivial, ?_, ?_, trivial, trivial⟩ <;> omega
theorem fine_tup {n w : Nat} {xs : List PyData} (h : ∀ x ∈ xs, Fine n w x) : Fine (n + 1) ((w + 1) * xs.length) (.tuple xs) := by
  obtain ⟨h1, h2, h3, h4, h5⟩ := fine_all h
  refine ⟨?_, ?_, ?_, ?_, ?_⟩
  · simpa only [PyData.canLay0] using h1
  · simp only [PyData.depth]; omega
  · simpa only [PyData.weight] using h3
  · simpa only [PyData.intsShort] using h4
  · simpa only [PyData.showable] using h5
theorem fine_lst {n w : Nat} {xs : List PyData} (h : ∀ x ∈ xs, Fine n w x) : Fine (n + 1) ((w + 1) * xs.length) (.list xs) := by
  obtain ⟨h1, h2, h3, h4, h5⟩ := fine_all h
  refine ⟨?_, ?_, ?_, ?_, ?_⟩
  · simpa only [PyData.canLay0] using h1
  · simp only [PyData.depth]; omega
  · simpa only [PyData.weight] using h3
  · simpa only [PyData.intsShort] using h4
  · simpa only [PyData.showable] using h5
theorem Fine.shown_len {n w : Nat} {d : PyData} (h : Fine n w d) (hn : n ≤ 60) (hw : w ≤ 1000000) : d.shown.length ≤ sizeLine := by
  have hl : PyData.layable0 d = true := by
    have h1 := h.dep
    have h2 := h.wt
    show (PyData.canLay0 d && decide (PyData.depth d ≤ 64) && decide (PyData.weight d ≤ 2 ^ 20)) = true
    have h3 : (2 : Nat) ^ 20 = 1048576 := by decide
    rw [h.lay, decide_eq_true (show d.depth ≤ 64 by omega), decide_eq_true (show d.weight ≤ 2 ^ 20 by omega)]
    rfl
  have := shown_le13 hl h.short
  rw [sizeLine_eq]
  omega
def fineB (d : PyData) : Bool := d.canLay0 && decide (d.depth ≤ 6) && decide (d.weight ≤ 300) && d.intsShort 13 && d.showable
theorem fineB_ok {d : PyData} (h : fineB d = true) : Fine 6 300 d := by
  unfold fineB at h
  simp only [Bool.and_eq_true, decide_eq_true_eq] at h
  exact ⟨h.1.1.1.1, h.1.1.1.2, h.1.1.2, h.1.2, h.2⟩
theorem tmpl_fine : ∀ k, k < 16 → ∀ c, c < 5 → (fineB (tmsD (tmpl k c).ts) && fineB (bodyD (tmpl k c).body) && fineB (.str (tmpl k c).rel)) = true := by decide +kernel
theorem dtmpl_fine : ∀ k, k < 8 → ∀ c, c < 5 → fineB (bodyD (dtmpl k c)) = true := by decide +kernel
def someNames : List Str := ["p", "q", "relation", "fact", "rule", "denial"]
theorem names_fine : ∀ n ∈ ruleNames ++ denNames ++ someNames, fineB (.str n) = true := by decide +kernel
theorem rows_fine : ∀ r ∈ rowsP ++ rowsQ, fineB (rowD r) = true := by decide +kernel
theorem name_fine {n : Str} (h : n ∈ ruleNames ++ denNames ++ someNames) : Fine 6 300 (.str n) := fineB_ok (names_fine n h)
theorem fact_fine {n : Str} {r : Row} (h : GoodI (.fact n r)) : Fine 6 300 (.str n) ∧ Fine 6 300 (rowD r) := by
  rcases h with ⟨rfl, h⟩ | ⟨rfl, h⟩
  · exact ⟨name_fine (List.mem_append_right _ (by unfold someNames; simp)), fineB_ok (rows_fine r (List.mem_append_left _ h))⟩
  · exact ⟨name_fine (List.mem_append_right _ (by unfold someNames; simp)), fineB_ok (rows_fine r (List.mem_append_right _ h))⟩
theorem item_fine {i : Item} (h : GoodI i) : Fine 7 1505 (itemD i) := by
  cases i with
  | rel n w =>
    have hw : fineB (.int w) = true ∧ Fine 6 300 (.str n) := by
      rcases h with ⟨rfl, rfl⟩ | ⟨rfl, rfl⟩
      · exact ⟨by decide +kernel, name_fine (List.mem_append_right _ (by unfold someNames; simp))⟩
      · exact ⟨by decide +kernel, name_fine (List.mem_append_right _ (by unfold someNames; simp))⟩
    refine (fine_tup (n := 6) (w := 300) fun x hx => ?_).up (Nat.le_refl _) (by simp)
    rcases List.mem_cons.mp hx with rfl | hx
    · exact name_fine (List.mem_append_right _ (by unfold someNames; simp))
    rcases List.mem_cons.mp hx with rfl | hx
    · exact hw.2
    rw [List.mem_singleton.mp hx]
    exact fineB_ok hw.1
  | fact n r =>
    obtain ⟨h1, h2⟩ := fact_fine h
    refine (fine_tup (n := 6) (w := 300) fun x hx => ?_).up (Nat.le_refl _) (by simp)
    rcases List.mem_cons.mp hx with rfl | hx
    · exact name_fine (List.mem_append_right _ (by unfold someNames; simp))
    rcases List.mem_cons.mp hx with rfl | hx
    · exact h1
    rw [List.mem_singleton.mp hx]
    exact h2
  | rule n ru =>
    obtain ⟨hn, k, c, hk, hc, rfl⟩ := h
    have ht := tmpl_fine k hk c hc
    rw [Bool.and_eq_true, Bool.and_eq_true] at ht
    refine (fine_tup (n := 6) (w := 300) fun x hx => ?_).up (Nat.le_refl _) (by simp)
    rcases List.mem_cons.mp hx with rfl | hx
    · exact name_fine (List.mem_append_right _ (by unfold someNames; simp))
    rcases List.mem_cons.mp hx with rfl | hx
    · exact name_fine (List.mem_append_left _ (List.mem_append_left _ hn))
    rcases List.mem_cons.mp hx with rfl | hx
    · exact fineB_ok ht.2
    rcases List.mem_cons.mp hx with rfl | hx
    · exact fineB_ok ht.1.1
    rw [List.mem_singleton.mp hx]
    exact fineB_ok ht.1.2
  | den n b =>
    obtain ⟨hn, k, c, hk, hc, rfl⟩ := h
    refine (fine_tup (n := 6) (w := 300) fun x hx => ?_).up (Nat.le_refl _) (by simp)
    rcases List.mem_cons.mp hx with rfl | hx
    · exact name_fine (List.mem_append_right _ (by unfold someNames; simp))
    rcases List.mem_cons.mp hx with rfl | hx
    · exact name_fine (List.mem_append_left _ (List.mem_append_right _ hn))
    rw [List.mem_singleton.mp hx]
    exact fineB_ok (dtmpl_fine k hk c hc)
theorem itemsLen {st : St} (h : GoodS st) : (allItems st).length ≤ 200 := by
  have h1 := h.lrels
  have h2 := h.lfacts
  have h3 := h.lrules
  have h4 := h.ldens
  have h5 : ((sortS (st.facts.map (·.1))).flatMap (fun n => (rowsOf st.facts n).map fun r => Item.fact n r)).length ≤ 42 * (sortS (st.facts.map (·.1))).length := flatMap_len fun n _ => by
    rw [List.length_map]
    exact h.lrows n
  rw [sortS_len, List.length_map] at h5
  unfold allItems
  rw [List.length_append, List.length_append, List.length_append, List.length_map, List.length_map, List.length_map, sortS_len, sortS_len, sortS_len, List.length_map, List.length_map, List.length_map]
  omega
theorem items_fine {st : St} (h : GoodS st) : Fine 8 400000 (itemsD (allItems st)) := by
  have h1 : Fine 8 (1506 * ((allItems st).map itemD).length) (itemsD (allItems st)) := fine_lst fun x hx => by
    obtain ⟨i, hi, rfl⟩ := List.mem_map.mp hx
    exact item_fine (h.items i hi)
  refine h1.up (Nat.le_refl _) ?_
  rw [List.length_map]
  have := itemsLen h
  omega
theorem res_fine {ll : List (List (Str × Row))} (hl : ll.length ≤ 30) (h : ∀ l ∈ ll, l.length ≤ 4 ∧ ∀ x ∈ l, GoodF x) : Fine 9 400000 (resD ll) := by
  have h1 : Fine 9 ((2413) * (ll.map fun l => PyData.tuple (l.map pairD)).length) (resD ll) := fine_lst (n := 8) (w := 2412) fun x hx => by
    obtain ⟨l, hm, rfl⟩ := List.mem_map.mp hx
    obtain ⟨q1, q2⟩ := h l hm
    have h2 : Fine 8 (603 * (l.map pairD).length) (.tuple (l.map pairD)) := fine_tup (n := 7) (w := 602) fun y hy => by
      obtain ⟨z, hz, rfl⟩ := List.mem_map.mp hy
      obtain ⟨g1, g2⟩ := fact_fine (q2 z hz)
      refine (fine_tup (n := 6) (w := 300) fun u hu => ?_).up (Nat.le_refl _) (by simp)
      rcases List.mem_cons.mp hu with rfl | hu
      · exact g1
      rw [List.mem_singleton.mp hu]
      exact g2
    refine h2.up (Nat.le_refl _) ?_
    rw [List.length_map]
    omega
  refine h1.up (Nat.le_refl _) ?_
  rw [List.length_map]
  omega
/-! ### the rule -/
section
variable {X : Cx}
def rRepr (K : PySem.W.Frag) : List V → Hp → VK → Prop := fun vs H Q => ∃ (a : Addr) (d : PyData) (n w : Nat), vs = [.ref a] ∧ Dp K H (.ref a) d ∧ Fine n w d ∧ n ≤ 60 ∧ w ≤ 1000000 ∧ Q (.str d.shown) H
theorem call_repr (hg : X.A.guards = some []) (hu : X.A.units + 64 < cLine) : CallR X (.builtin "repr") (rRepr X.K) := by
  intro pins s σ H vs us Q I r h
  obtain ⟨a, d, n, w, rfl, hd, hf, hn, hw, q⟩ := h
  rw [Vals.ref1 r]
  obtain ⟨as, hr⟩ := Dp.reads I d (.ref a) (.ref a) hd rfl
  have h1 := hf.dep
  refine repr_of_reads' hr hf.shows (PyData.noDict_hsm (PyData.hasDict_of_canLay d hf.lay)) hg (by omega) (fun _ _ e => e) (fun h' u tk k => ?_) (hf.shown_len hn hw)
  exact ⟨.str _, H, I.kept k, ⟨_, rfl⟩, q⟩
end
end Rs


set_option Elab.async false
set_option linter.all false
set_option maxRecDepth 100000
set_option maxHeartbeats 2000000
/-! # G1: a def that shows data keeps its promise where nothing is being shown; the law's call of such a def -/
namespace Rs
open PySem PySem.Spec PyProof.Rows L2
/-- the promise, where no guard is held -/
def RunG (P : Program) (w : World) (K : PySem.W.Frag) (mg : Str → Option Value) (base : Heap) (CX : CXT) (k : Nat) (f : Addr) (fd : FuncData) (ps : List Str) (sp : Sp) : Prop :=
  ∀ (A : Around) (stk : List Env) (s : Shared) (H : Hp) (ar : Args) (us : List Value) (vs : List V) (Q : VK) (E : XK), A.guards = some [] → Room k A → Env0 P w K mg base A stk s H → BindsTo s fd ar (ps.zip us) → Vals vs us → sp vs H Q E → codeAny (model P w) A (.call (.ref f) ar) (CR CX stk P w H s Q E) s
section
variable {P : Program} {w : World} {K : PySem.W.Frag} {mg : Str → Option Value} {base : Heap} {x qual : Str} {pms : Arguments} {bd : List Stmt} {sc : Scope} {dvs : List V} {kws : List (Str × V)} {f : Addr} {fd : FuncData}
theorem runG_of {CX : CXT} {N ps : List Str} {k : Nat} {sp : Sp} (F : FunD K x qual pms bd sc dvs kws f fd) (S : FnScope N ps sc) (len : ∀ vs H Q E, sp vs H Q E → vs.length = ps.length)
    (go : ∀ (cdv : Value) (A : Around) (stk : List Env) (s : Shared) (H : Hp) (vs : List V) (Q : VK) (E : XK), A.guards = some [] → Room k (A.deeper (envOfC qual sc s.heap.objs.size f cdv)) → sp vs H Q E →
      ∃ t, PSs (cxOf CX P w K mg base N qual sc f cdv A stk s H E) bd t ∧ t { nx := fun _ H' => Q .non H', rt := Q } (start N vs) H) : RunG P w K mg base CX (k + 1) f fd ps sp := by
  obtain ⟨oc, od, dV, kV, doc, pm, an, cdv, ct, osl, rfl, lk, hcd, _, _⟩ := F.ex
  intro A stk s H ar us vs Q E hg hr e0 hb rv hsp
  have hlen := len _ _ _ _ hsp
  have old : ∀ b o, base.get? b = some o → s.heap.get? b = some o := fun b o e => (e0.bs b o e).1
  have hK : K.In s.heap := e0.mod.kin.keeps old
  have par : ∀ y ∈ ps.zip us, sc.names.lookup y.1 = some .local ∨ (sc.names.lookup y.1 = some .cell ∧ ((cellsFrom (s.heap.objs.size + 1) sc.names []).lookup y.1).isSome = true) := by
    rintro ⟨n, v⟩ hy
    exact (S.par n (List.of_mem_zip hy).1).imp id fun q => ⟨q, PySem.W.cellsFrom_some _ _ _ (.inl q)⟩
  refine codeAny_call_function hr.depth (hK _ _ lk) rfl S.co S.gen rfl (PySem.W.codeRec_of hK hcd) (hb _ _ _ _ ?_)
  refine wpAny_newFunctionEnv_cells S.kind par fun env he s1 ic => ?_
  subst he
  refine ⟨(e0.mod.nolimit.keeps old).keeps ic.toInCall.keep, codeAny_func ?_⟩
  obtain ⟨t, ht, hq⟩ := go cdv A stk s H vs Q E hg (hr.deeper _) hsp
  have I0 : Inv (cxOf CX P w K mg base N qual sc f cdv A stk s H E) [] (start N vs) H s1 := inv_start S hr.hd e0 hlen rv ic
  refine wpAny_mono (ht.run [] s1 (start N vs) H _ I0 hq) (fun fl s' hs => ?_) fun e s' hs => hs
  have done : ∀ {σ' : L2.St} {H' : Hp} {v : V} {u : Value}, Inv (cxOf CX P w K mg base N qual sc f cdv A stk s H E) [] σ' H' s' → RelV v u → Q v H' → CE stk P w H s Q u s' :=
    fun {σ' H' v u} J r q => ⟨v, H', J.os, J.bare, J.base, J.hok, r, q⟩
  match fl, hs with
  | .ret u, ⟨v, σ', H', J, r, q⟩ => exact done J r q
  | .next, ⟨σ', H', J, q⟩ => exact done (v := V.non) (u := Value.none) J rfl q
  | .brk, ⟨_, _, _, q⟩ => exact q.elim
  | .cont, ⟨_, _, _, q⟩ => exact q.elim
end
section
variable {P : Program} {w : World} {K : PySem.W.Frag} {mg mb : Str → Option Value} {CX : CXT} {k : Nat} {fa a : Addr} {fd : FuncData} {x : Str} {sp : Sp} {s1 : Shared} {its : List Value} {ns : List Int}
/-- what the end of a law wants of the call of its def -/
abbrev LawEnds (P : Program) (w : World) (fa a : Addr) (s1 : Shared) : Prop :=
  codeAny (model P w) callerA (.call (.ref fa) ⟨[.ref a], []⟩) (fun r s' => r = .ok (.ret (.bool true)) ∧ OldK s1.heap s'.heap ∧ s'.os = s1.os ∧ AllBare s'.gens) s1
/-- from an abstract heap in which at most the script (at a) is tracked, locked -/
theorem lawG_from (KX : K.In s1.heap) (gl : s1.heap.Ns mainGlobals mg) (bl : s1.heap.Ns builtinsNs mb) (bb : ∀ y : Str, y ≠ "__name__" → mb y = bootBuiltins y) (lim : s1.heap.NoLimit) (gn : s1.gens = #[])
    (ob : s1.heap.get? a = some { cls := .type "list", data := .seq its.toArray }) (hr : Room k callerA) (F : ∀ base : Heap, K.In base → base.Ns mainGlobals mg → RunG P w K mg base CX k fa fd [x] sp)
    (bind : ∀ (s : Shared) (u : Value), BindsTo s fd ⟨[u], []⟩ [(x, u)]) (noX : ∀ H e s', CX [] H s1 (fun _ _ _ => False) e s' → False) {H : Hp} (hO : Only H) (hs : sp [.ref a] H (fun v _ => v = .bl true) fun _ _ _ => False)
    (hok : HOk P w H s1.heap) (hA : ∀ b, b ≠ a → H b = none) (hK : H a ≠ none → K.lookup a = none) : LawEnds P w fa a s1 := by
  have free : ∀ {b : Addr} {o : Obj} {es : Array DictEntry} {ep : Nat}, s1.heap.get? b = some o → o.data = .dict es ep → H b = none := fun {b o es ep} e d => by
    by_cases hb : b = a
    · rw [hb, ob] at e
      cases e
      cases d
    · exact hA b hb
  have nsH : ∀ {b : Addr} {m : Str → Option Value}, s1.heap.Ns b m → (hidT s1.heap H).Ns b m := fun {b m} ⟨o, es, ep, e, d, r⟩ => ⟨o, es, ep, hidT_get e (free e d), d, r⟩
  have inH : K.In (hidT s1.heap H) := fun b o e => by
    refine hidT_get (KX b o e) ?_
    by_cases hb : b = a
    · cases q : H a with
      | none => rw [hb]; exact q
      | some u =>
        have := hK (by rw [q]; simp)
        rw [← hb, e] at this
        cases this
    · exact hA b hb
  obtain ⟨mc, l1, l2⟩ := lim
  have md : Mod K mg (hidT s1.heap H) := ⟨inH, nsH gl, ⟨mb, nsH bl, bb⟩, ⟨mc, nsH l1, l2⟩⟩
  have ev : Env0 P w K mg (hidT s1.heap H) callerA [] s1 H := ⟨rfl, md, fun b o e => of_hidT e, Nat.le_of_eq (hidT_size _ _), trivial, (fun b hb => by cases hb), hok, .of_eq gn⟩
  have run := F _ inH (nsH gl) callerA [] s1 H ⟨[.ref a], []⟩ [.ref a] [.ref a] _ _ rfl hr ev (bind s1 (.ref a)) (.cons rfl .nil) hs
  refine codeAny_mono run fun r s' h => ?_
  match r, h with
  | .error e, h => exact (noX H e s' h).elim
  | .ok (.ret u), ⟨v, H', os, bare, un, hok', rv, q⟩ =>
    have qv : v = .bl true := q
    rw [qv] at rv
    have eu : u = Value.bool true := rv
    rw [eu]
    refine ⟨rfl, OldK.of_keep fun b o e => ?_, os, bare⟩
    rcases hO b with z | ⟨o2, xs, z⟩
    · exact un.keep b o e z (fun y => by cases y) (by simp)
    · have z2 := un.frzs b o2 _ z
      have e1 := (hok b _ z).1
      have e2 := (hok' b _ z2).1
      rw [e] at e1
      cases e1
      exact e2
theorem lawG_call (KX : K.In s1.heap) (gl : s1.heap.Ns mainGlobals mg) (bl : s1.heap.Ns builtinsNs mb) (bb : ∀ y : Str, y ≠ "__name__" → mb y = bootBuiltins y) (lim : s1.heap.NoLimit) (gn : s1.gens = #[])
    (ob : s1.heap.get? a = some { cls := .type "list", data := .seq its.toArray }) (hi : IntsAre its ns) (hl : ns.length ≤ sizeLine) (hr : Room k callerA) (F : ∀ base : Heap, K.In base → base.Ns mainGlobals mg → RunG P w K mg base CX k fa fd [x] sp)
    (bind : ∀ (s : Shared) (u : Value), BindsTo s fd ⟨[u], []⟩ [(x, u)]) (hsp : ∀ H : Hp, Only H → SqL K H a (ns.map V.int) → sp [.ref a] H (fun v _ => v = .bl true) fun _ _ _ => False) (noX : ∀ H e s', CX [] H s1 (fun _ _ _ => False) e s' → False) : LawEnds P w fa a s1 := by
  have rv := vals_ints hi
  have li := hi.length
  by_cases hk : K.lookup a = none
  · have only : Only (fun b => if b = a then some (.frz { cls := .type "list", data := .seq its.toArray } (.lst (ns.map V.int))) else none) := fun b => by
      by_cases hb : b = a
      · exact .inr ⟨_, _, if_pos hb⟩
      · exact .inl (if_neg hb)
    refine lawG_from KX gl bl bb lim gn ob hr F bind noX only (hsp _ only (.inl (.inr ⟨_, if_pos rfl⟩))) (fun b u z => ?_) (fun b hb => if_neg hb) fun _ => hk
    by_cases hb : b = a
    · rw [if_pos hb] at z
      cases z
      rw [hb]
      exact ⟨ob, by rw [List.length_map]; exact hl, its, _, rv, ob⟩
    · rw [if_neg hb] at z
      cases z
  · obtain ⟨o, ho⟩ := Option.ne_none_iff_exists'.mp hk
    have e := KX a o ho
    rw [ob] at e
    cases e
    have none' : Only (fun _ => none) := fun _ => .inl rfl
    refine lawG_from KX gl bl bb lim gn ob hr F bind noX none' (hsp _ none' (.inr ⟨_, its.toArray, _, ho, rfl, rfl, rfl, ?_, by simpa using rv⟩)) (fun b u z => by cases z) (fun _ _ => rfl) fun z => absurd rfl z
    rw [List.size_toArray, li]
    exact hl
end
/-- the end of a law over facts of its head -/
theorem walk_ofG {l : PySem.W.OpenLaw} {n k : Nat} {q : Program} {loose : List Str} {XP : (Str → Option Value) → Heap → Prop} {YP : World → Heap → Prop} {d : DefRec} {CX : CXT} {x : Str} (hn : l.most = some n) (hz : n ≤ sizeLine) (hdf : d.params.defaults = []) (hr : Room k callerA)
    (F : ∀ (w : World) (mg : Str → Option Value) (fa : Addr) (h : Heap), YP w h → h.Ns mainGlobals mg → mg d.name = some (.ref fa) → ∃ (K : PySem.W.Frag) (fd : FuncData) (sp : Sp), K.In h ∧ (∀ (s : Shared) (u : Value), BindsTo s fd ⟨[u], []⟩ [(x, u)]) ∧
      (∀ (H : Hp) (a : Addr) (ns : List Int), ns.length ≤ n → Only H → SqL K H a (ns.map V.int) → sp [.ref a] H (fun v _ => v = .bl true) fun _ _ _ => False) ∧ ∀ base : Heap, K.In base → base.Ns mainGlobals mg → RunG l.prog w K mg base CX k fa fd [x] sp)
    (noX : ∀ (H : Hp) (s : Shared) (e : Value) (s' : Shared), CX [] H s (fun _ _ _ => False) e s' → False) : PySem.W.WalkO q loose XP YP l.row.toRowW d [] (fun f vs => PySem.call f vs) := by
  refine Att.attach_call hn hdf fun w s0 s1 mg mb fa o pm cd doc a vs ns G Y ho hd hcd hmg hobj hints hlen hgen => ?_
  obtain ⟨K, fd, sp, KX, bind, hsp, hF⟩ := F w mg fa _ Y G.T.g hmg
  exact lawG_call KX G.T.g G.T.b G.T.builtins G.T.nolimit hgen hobj hints (Nat.le_trans hlen hz) hr hF bind (fun H hO hS => hsp H a ns hlen hO hS) fun H e s' => noX H s1 e s'
end Rs


set_option Elab.async false
set_option linter.all false
set_option maxRecDepth 100000
set_option maxHeartbeats 2000000
/-! # S30: law -/
namespace Rs
open PySem PySem.Spec PyProof.Rows L2
def spLaw (K : PySem.W.Frag) : Sp := fun vs H Q _ => ∃ (sc : Addr) (ns : List Int), vs = [.ref sc] ∧ SqL K H sc (ns.map V.int) ∧ ns.length ≤ 63 ∧ ∀ H', Q (.bl true) H'
theorem hu65 {A : Around} {k : Nat} (hr : Room k A) : A.units + 65 < cLine := by have := hr.un; omega
abbrev nLaw : List Str := ["_law_script", "_law_state_here", "_law_k", "_law_number", "_law_candidates", "_law_candidate", "_law_facts", "_law_rows", "_law_name", "_law_row_here", "_law_wanted", "_law_before", "_law_told", "_law_due_here"]
def rAddS : R2 := fun x y H Q => ∃ i j, x = .str i ∧ y = .str j ∧ i.length + j.length ≤ sizeLine ∧ Q (.str (i ++ j)) H
def rStrI : List V → Hp → VK → Prop := fun xs H Q => ∃ i, xs = [V.int i] ∧ i.natAbs.log2 < 1920 ∧ Q (.str (toString i)) H
def denyTb (K : PySem.W.Frag) (W : WX) : TS := tAsg (tOp (rIxT K) (tCallS (spSay K fun _ => True) (WE W) (tCons (tVar 1) (tCons (tTup (tCons (tC (.str "deny")) (tCons (tOp rAddS (tC (.str "d")) (tCB rStrI (tCons (tVar 2) tNil))) (tCons (tCall spDen [] E0 (tCons (tVar 3) tNil)) tNil)))) tNil))) (tC (.int 1))) (gName 1)
theorem pickAt {α : Type} {xs : List α} {f : α → V} (n : Nat) {m : Int} (hm : m = (xs.length : Int)) (h : 0 < xs.length) : ∃ y ∈ xs, atI (xs.map f) ((n : Int) % m) = some (f y) := by
  have hl : n % xs.length < xs.length := Nat.mod_lt _ h
  refine ⟨xs[n % xs.length], List.getElem_mem hl, ?_⟩
  rw [hm, show (n : Int) % (xs.length : Int) = ((n % xs.length : Nat) : Int) by omega]
  refine atI_nat ?_
  rw [List.getElem?_map, List.getElem?_eq_getElem hl]
  rfl
theorem pickAt2 {α : Type} {xs : List α} {f : α → V} (n d : Nat) {m : Int} (hm : m = (xs.length : Int)) (h : 0 < xs.length) : ∃ y ∈ xs, atI (xs.map f) ((n : Int) / (d : Int) % m) = some (f y) := by
  have := pickAt (f := f) (n / d) hm h
  rw [show ((n / d : Nat) : Int) = (n : Int) / (d : Int) by omega] at this
  exact this
theorem den_mem {i : Nat} (h : i < 2) : ("d" : Str) ++ Str.ofString (toString ((0 : Int) + (i : Nat))) ∈ denNames ∧ ("d" : Str).length + (Str.ofString (toString ((0 : Int) + (i : Nat)))).length ≤ 100 := by
  have e : i = 0 ∨ i = 1 := by omega
  rcases e with rfl | rfl
  · exact ⟨by decide +kernel, by decide +kernel⟩
  · exact ⟨by decide +kernel, by decide +kernel⟩
theorem pair_fine {x : Str × Row} (h : GoodF x) : Fine 7 602 (pairD x) := by
  obtain ⟨g1, g2⟩ := fact_fine h
  refine (fine_tup (n := 6) (w := 300) fun u hu => ?_).up (Nat.le_refl _) (by simp)
  rcases List.mem_cons.mp hu with rfl | hu
  · exact g1
  rw [List.mem_singleton.mp hu]
  exact g2
theorem Fine.shaped {n w : Nat} {d : PyData} (h : Fine n w d) (hn : n ≤ 60) : SeqAt.shaped d = true := by
  have h1 := h.dep
  show (d.canLay0 && decide (d.depth ≤ 64)) = true
  rw [h.lay, decide_eq_true (show d.depth ≤ 64 by omega)]
  rfl
theorem wish_small {n : Nat} (hn : n ≤ 4) (G : List Nat → Bool) : (wishIx n G).length ≤ 16 ∧ ∀ ix ∈ wishIx n G, ix.length ≤ 4 ∧ ∀ i ∈ ix, i < n := by
  have h := wishIx_sub hn G
  have h2 : (allSubs n).length ≤ 16 ∧ ∀ ix ∈ allSubs n, ix.length ≤ 4 ∧ ∀ i ∈ ix, i < n := by
    have e : n = 0 ∨ n = 1 ∨ n = 2 ∨ n = 3 ∨ n = 4 := by omega
    rcases e with rfl | rfl | rfl | rfl | rfl <;> decide +kernel
  exact ⟨Nat.le_trans h.length_le h2.1, fun ix hx => h2.2 ix (h.subset hx)⟩
theorem wish_fine {l : List (Str × Row)} (hl : l.length ≤ 4) (hg : ∀ x ∈ l, GoodF x) (G : List Nat → Bool) : Fine 9 400000 (resD ((wishIx l.length G).map (pickM l))) := by
  obtain ⟨h1, h2⟩ := wish_small hl G
  refine res_fine (by rw [List.length_map]; omega) fun k hk => ?_
  obtain ⟨ix, hx, rfl⟩ := List.mem_map.mp hk
  obtain ⟨h3, h4⟩ := h2 ix hx
  exact ⟨by unfold pickM; rw [List.length_map]; exact h3, pick_good hg h4⟩
section
variable {P : Program} {w : World} {K : PySem.W.Frag} {mg : Str → Option Value} {base : Heap}
theorem sc_law : FnScope nLaw ["_law_script"] (defScope (topS 79)) := ⟨rfl, rfl, rfl, by decide +kernel, rfl, by decide +kernel, by decide +kernel⟩
theorem ok_law (T : Tx P K mg) : ∃ fd, (∀ base : Heap, RunG P w K mg base CX0 14 (He.ga K "law") fd ["_law_script"] (spLaw K)) ∧ ∀ (s : Shared) (u : Value), BindsTo s fd ⟨[u], []⟩ [("_law_script", u)] := by
  obtain ⟨fd, F⟩ := T.fd 55 (d := fdef 79 "law") rfl
  refine ⟨fd, fun base => ?_, fun s u => FunD.bindsA F (ps := ["_law_script"]) (fun _ _ _ _ _ _ us hl => match us, hl with | [_], _ => rfl) s [u] rfl⟩
  have C1 := ok_state (w := w) (base := base) T
  have C2 := ok_draw (w := w) (base := base) T
  have C3 := ok_say (w := w) (base := base) T
  have C4 := ok_denial (w := w) (base := base) T
  have C5 := ok_row (w := w) (base := base) T
  have C6 := ok_model (w := w) (base := base) T
  have C7 := ok_items (w := w) (base := base) T
  have C8 := ok_wish (w := w) (base := base) T
  have C9 := ok_due (w := w) (base := base) T
  refine runG_of F sc_law (fun vs H Q E h => ?_) (fun cdv A outer s H vs Q E hg0 hr h => ?_)
  · obtain ⟨sc, ns, rfl, _⟩ := h
    rfl
  · obtain ⟨sc, ns, rfl, hsc, hns, q⟩ := h
    have hgd : (A.deeper (envOfC "law" (defScope (topS 79)) s.heap.objs.size (He.ga K "law") cdv)).guards = some [] := hg0
    refine ⟨_, PSs.nox (pss_cons (ps_set (i := 1) sc_law.nd rfl (Or.inl rfl) (pe_c C1 hr (pa_cons (pv 0) (pa_cons pe_int (pa_cons (pe_op op_add pe_int (pe_callB (call_min2 rfl) (by rfl) (T.fr "min") (by decide +kernel) (pa_cons pe_int (pa_cons (pe_callB call_len (by rfl) (T.fr "len") PySem.boot_len (pa_cons (pv 0) pa_nil)) pa_nil)))) pa_nil)))))
    (pss_cons (ps_for PassesOwn.never rfl (pi_range1 (by rfl) (T.fr "range") (pa_cons (pe_op op_mod (pe_c C2 hr (pa_cons (pv 0) (pa_cons pe_int pa_nil))) pe_int) pa_nil)) (pg_name (i := 2) sc_law.nd rfl (Or.inl rfl))
    (pss_cons (ps_set (i := 3) sc_law.nd rfl (Or.inl rfl) (pe_c C2 hr (pa_cons (pv 0) (pa_cons (pe_op op_add pe_int (pv 2)) pa_nil))))
    (pss_one (ps_try_only (tb := denyTb K) (ts := fun _ _ _ => tNext) (Wout := fun _ _ _ _ => False) rfl rfl ⟨rfl, by decide, Or.inl T.rf.gC⟩ takes0
      (fun W pn xe tk _ => pss_one (ps_set (i := 1) sc_law.nd rfl (Or.inl rfl) (pe_ix (ix_tupK rfl) (pe_cS C3 hr tk (pa_cons (pv 1) (pa_cons (pe_tup (pa_cons pe_str (pa_cons (pe_op op_add_str pe_str (pe_callTy call_str_int (by rfl) (T.fr "str") (by decide +kernel) (pa_cons (pv 2) pa_nil))) (pa_cons (pe_c C4 hr (pa_cons (pv 3) pa_nil)) pa_nil)))) pa_nil))) pe_int (fun _ _ => rfl)))) (fun a oe cls d pn _ _ => pss_one ps_pass)))))
    (pss_cons (ps_set (i := 4) sc_law.nd rfl (Or.inl rfl) (pe_lst pa_nil))
    (pss_cons (ps_for PassesOwn.never rfl (pi_range1 (by rfl) (T.fr "range") (pa_cons (pe_op op_mod (pe_c C2 hr (pa_cons (pv 0) (pa_cons pe_int pa_nil))) pe_int) pa_nil)) (pg_name (i := 2) sc_law.nd rfl (Or.inl rfl))
    (pss_cons (ps_set (i := 3) sc_law.nd rfl (Or.inl rfl) (pe_c C2 hr (pa_cons (pv 0) (pa_cons (pe_op op_add pe_int (pv 2)) pa_nil))))
    (pss_cons (ps_set (i := 5) sc_law.nd rfl (Or.inl rfl) (pe_ix ix_list (pe_lst (pa_cons (pe_tup (pa_cons pe_str (pa_cons (pe_c C5 hr (pa_cons (pe_op op_fdiv (pv 3) pe_int) (pa_cons pe_int pa_nil))) pa_nil))) (pa_cons (pe_tup (pa_cons pe_str (pa_cons (pe_c C5 hr (pa_cons (pe_op op_fdiv (pv 3) pe_int) (pa_cons pe_int pa_nil))) pa_nil))) pa_nil))) (pe_op op_mod (pv 3) pe_int) (fun _ _ => rfl)))
    (pss_cons (ps_set (i := 6) sc_law.nd rfl (Or.inl rfl) (pe_dget2 (hu_of hr) (pe_fld (pv 1) rfl) (pe_ix ix_tup (pv 5) pe_int (fun _ _ => rfl)) (pe_lst pa_nil) ⟨rfl, rfl, rfl, rfl⟩))
    (pss_cons (ps_if (PW.pt (pw_and (pt_truth (pv 6) (by intro _; rfl)) (pw_and1 (pt_cmpR op_eq (pe_op op_mod (pe_op op_fdiv (pv 3) pe_int) pe_int) pe_int (nomark _))))) (pss_one (ps_set (i := 5) sc_law.nd rfl (Or.inl rfl) (pe_tup (pa_cons (pe_ix ix_tup (pv 5) pe_int (fun _ _ => rfl)) (pa_cons (pe_ix ix_list (pv 6) (pe_op op_mod (pe_op op_fdiv (pv 3) pe_int) (pe_callB call_len (by rfl) (T.fr "len") PySem.boot_len (pa_cons (pv 6) pa_nil))) (fun _ _ => rfl)) pa_nil))))) pss_nil)
    (pss_one (ps_if (pt_cmpR (op_notInD (hu65 hr)) (pv 5) (pv 4) (by rfl)) (pss_one (ps_expr (pe_bm PySem.F.plainAttrs_list PySem.F.slot_list_append PySem.F.type_list_append mt_append (pv 4) (pa_cons (pv 5) pa_nil)))) pss_nil)))))))
    (pss_cons (ps_set (i := 7) sc_law.nd rfl (Or.inl rfl) (pe_c C6 hr (pa_cons (pv 1) pa_nil)))
    (pss_cons (ps_set (i := 8) sc_law.nd rfl (Or.inl rfl) (pe_ix ix_list (pe_callB (call_sortedD rfl) (by rfl) (T.fr "sorted") (by decide +kernel) (pa_cons (pv 7) pa_nil)) (pe_op op_mod (pe_c C2 hr (pa_cons (pv 0) (pa_cons pe_int pa_nil))) (pe_callB call_lenD (by rfl) (T.fr "len") PySem.boot_len (pa_cons (pv 7) pa_nil))) (fun _ _ => rfl)))
    (pss_cons (ps_set (i := 9) sc_law.nd rfl (Or.inl rfl) (pe_c C5 hr (pa_cons (pe_c C2 hr (pa_cons (pv 0) (pa_cons pe_int pa_nil))) (pa_cons (pe_op op_add pe_int (pe_callTy call_int1 (by rfl) (T.fr "int") (by decide +kernel) (pa_cons (pe_cmpR op_in_seq (pv 8) (pe_lst (pa_cons pe_str (pa_cons pe_str (pa_cons pe_str (pa_cons pe_str pa_nil))))) (by rfl)) pa_nil))) pa_nil))))
    (pss_cons (ps_if (PW.pt (pw_and (pt_truth (pe_dget (hu_of hr) (pv 7) (pv 8) (fun _ _ => rfl)) (by intro _; rfl)) (pw_and1 (pt_cmpR op_eq (pe_op op_mod (pe_c C2 hr (pa_cons (pv 0) (pa_cons pe_int pa_nil))) pe_int) pe_int (nomark _))))) (pss_one (ps_set (i := 9) sc_law.nd rfl (Or.inl rfl) (pe_ix ix_list (pe_dget (hu_of hr) (pv 7) (pv 8) (fun _ _ => rfl)) (pe_op op_mod (pe_c C2 hr (pa_cons (pv 0) (pa_cons pe_int pa_nil))) (pe_callB call_len (by rfl) (T.fr "len") PySem.boot_len (pa_cons (pe_dget (hu_of hr) (pv 7) (pv 8) (fun _ _ => rfl)) pa_nil))) (fun _ _ => rfl)))) pss_nil)
    (pss_cons (ps_set (i := 10) sc_law.nd rfl (Or.inl rfl) (pe_cmpR op_eq (pe_op op_mod (pe_c C2 hr (pa_cons (pv 0) (pa_cons pe_int pa_nil))) pe_int) pe_int (nomark _)))
    (pss_cons (ps_set (i := 11) sc_law.nd rfl (Or.inl rfl) (pe_callB (call_repr hgd (hu64 hr)) (by rfl) (T.fr "repr") (by decide +kernel) (pa_cons (pe_mt0 T C7 hr (pv 1)) pa_nil)))
    (pss_cons (ps_set (i := 12) sc_law.nd rfl (Or.inl rfl) (pe_c C8 hr (pa_cons (pv 1) (pa_cons (pv 8) (pa_cons (pv 9) (pa_cons (pv 10) (pa_cons (pe_callTy call_list_of (by rfl) (T.fr "list") (by decide +kernel) (pa_cons (pv 4) pa_nil)) pa_nil)))))))
    (pss_cons (ps_set (i := 13) sc_law.nd rfl (Or.inl rfl) (pe_c C9 hr (pa_cons (pv 1) (pa_cons (pv 8) (pa_cons (pv 9) (pa_cons (pv 10) (pa_cons (pv 4) pa_nil)))))))
    (pss_one (ps_ret (pe_and (pe_cmpR op_eq (pe_callB (call_repr hgd (hu64 hr)) (by rfl) (T.fr "repr") (by decide +kernel) (pa_cons (pe_callTy call_list_of (by rfl) (T.fr "list") (by decide +kernel) (pa_cons (pv 12) pa_nil)) pa_nil)) (pe_callB (call_repr hgd (hu64 hr)) (by rfl) (T.fr "repr") (by decide +kernel) (pa_cons (pv 13) pa_nil)) (nomark _)) (pe_one (pe_cmpR op_eq (pe_callB (call_repr hgd (hu64 hr)) (by rfl) (T.fr "repr") (by decide +kernel) (pa_cons (pe_mt0 T C7 hr (pv 1)) pa_nil)) (pv 11) (nomark _)))))))))))))))))), ?_⟩
    have h1000 : ns.length ≤ 1000 := by omega
    have ect : (4 + (if (((ns.map V.int).length : Nat) : Int) < 14 then (((ns.map V.int).length : Nat) : Int) else 14)) = ((4 + (if ns.length < 14 then ns.length else 14) : Nat) : Int) := by
      rw [List.length_map]
      split <;> split <;> omega
    refine ⟨_, rfl, _, rfl, _, _, rfl, .inl ⟨_, hsc, rfl⟩, _, _, rfl, _, _, rfl, rfl, sc, ns, 0, 4 + (if ns.length < 14 then ns.length else 14), congrArg (fun z => [V.ref sc, V.int 0, V.int z]) ect, hsc, h1000, by split <;> omega, fun H1 xa0 st0 s1 hst0 hli0 _ hre0 => ?_⟩
    refine ⟨_, rfl, sc, ns, 30, rfl, s1.seq hsc, h1000, by decide, fun n1 hn1 => ⟨_, _, rfl, rfl, (by show (0 : Int) < 3; decide), _, rfl, by omega, by omega, ?_⟩⟩
    have hm3 : ((n1 : Int) % 3).toNat ≤ 2 := by omega
    generalize ((n1 : Int) % 3).toNat = m3 at hm3
    refine for_range (lo := 0) (n := m3) (tb := tSeq _ fun D σ H => denyTb K (wOnly K (.ref (He.ga K "Refused")) (fun _ _ _ => tNext) (fun _ _ _ _ => False) D) D σ H) (fun i σ H' => ∃ v2 v3 xa st, σ = [some (.ref sc), some (.ref xa), v2, v3, none, none, none, none, none, none, none, none, none, none] ∧ Same H H' ∧ StAt K H' xa st ∧ LInv st ∧ HasRel st)
      ⟨none, none, xa0, st0, rfl, s1, hst0, hli0, hre0⟩ ?_ ?_
    · rintro i σ H' hi ⟨v2, v3, xa, st, rfl, sm, hst, hli, hre⟩
      have hi2 : i < 2 := by omega
      obtain ⟨hdn, hdl⟩ := den_mem hi2
      refine ⟨_, rfl, _, rfl, _, _, rfl, rfl, sc, ns, 31 + i, congrArg (fun z => [V.ref sc, V.int z]) (by omega), sm.seq hsc, h1000, by omega, fun n2 hn2 => ?_⟩
      refine ⟨_, rfl, _, rfl, _, rfl, ?_, _, _, rfl, rfl, ?_, _, rfl, n2, rfl, fun H2 pb kk cc s2 hk hc hb => ⟨by show 3 ≤ sizeLine; decide, fun T1 nT1 => ?_⟩⟩
      · refine Nat.lt_of_le_of_lt (Nat.log2_le_self _) ?_
        omega
      · rw [sizeLine_eq]
        omega
      have sT := same_new (o := .tup [V.str "deny", V.str (("d" : Str) ++ Str.ofString (toString ((0 : Int) + (i : Nat)))), V.ref pb]) nT1
      refine ⟨xa, T1, st, .deny (("d" : Str) ++ Str.ofString (toString ((0 : Int) + (i : Nat)))) (dtmpl kk cc), rfl, (hst.same s2).same sT, ⟨hli, fun z => by cases z⟩, ⟨pb, upd_same, stays_body.go sT.t hb⟩, ⟨hdn, kk, cc, hk, hc, rfl⟩, trivial, fun hh H4 d s4 => ?_, fun H4 t ans q4 s4' s4 ht hst4 hstage hrl => ?_⟩
      · exact ⟨true, T.rf.te, fun _ a ha => ⟨_, _, xa, st, rfl, ((sm.trans s2).trans sT).trans s4, ((hst.same s2).same sT).same s4, hli, hre⟩, fun z => by cases z⟩
      · exact ⟨t, _, 1, _, rfl, rfl, SqT.of_H ht, atI_nat rfl, _, _, q4, s4', rfl, ((sm.trans s2).trans sT).trans s4, hst4, hstage.1, hrl (.inl hre)⟩
    rintro σ H2 ⟨v2, v3, xa, st, rfl, s02, hst, hli, hre⟩
    refine ⟨Nat.zero_le _, fun L nL => ?_⟩
    have sL := same_new (o := .lst []) nL
    refine ⟨_, rfl, sc, ns, 35, rfl, (s02.trans sL).seq hsc, h1000, by decide, fun n3 hn3 => ⟨_, _, rfl, rfl, (by show (0 : Int) < 5; decide), _, rfl, by omega, by omega, ?_⟩⟩
    have hm5 : ((n3 : Int) % 5).toNat ≤ 4 := by omega
    generalize ((n3 : Int) % 5).toNat = m5 at hm5
    obtain ⟨ra, fa, ua, da, hst1⟩ := id hst
    obtain ⟨dx, hi0⟩ := hst1.ins
    refine for_range (lo := 0) (n := m5) (fun i σ H' => ∃ v2 v3 v5 v6 l, σ = [some (.ref sc), some (.ref xa), v2, v3, some (.ref L), v5, v6, none, none, none, none, none, none, none] ∧ Same H2 H' ∧ LstOf PairR H' L l ∧ (∀ x ∈ l, GoodF x) ∧ l.length ≤ i)
      ⟨v2, v3, none, none, [], rfl, sL, ⟨[], upd_same, rfl, fun q hq => by cases hq⟩, (fun x hx => by cases hx), Nat.le_refl _⟩ ?_ ?_
    · rintro i σ H' hi ⟨v2, v3, v5, v6, l, rfl, sm, ⟨ps, hL, rfl, hps⟩, hgl, hll⟩
      have lps : ps.length ≤ i := by rw [List.length_map] at hll; exact hll
      have s0m := s02.trans sm
      refine ⟨_, rfl, _, rfl, _, _, rfl, rfl, sc, ns, 36 + i, congrArg (fun z => [V.ref sc, V.int z]) (by omega), s0m.seq hsc, h1000, by omega, fun n4 hn4 => ?_⟩
      refine ⟨_, rfl, _, _, rfl, rfl, ⟨by decide, by decide⟩, n4 / 2, 2, congrArg (fun z => [V.int z, V.int 2]) (by omega), by decide, fun H3 p3 r3 s3 hl3 hb3 hr3 => ⟨by show 2 ≤ sizeLine; decide, fun T1 nT1 => ?_⟩⟩
      have t1 := same_new (o := .tup [V.str "p", V.ref p3]) nT1
      refine ⟨_, rfl, _, _, rfl, rfl, ⟨by decide, by decide⟩, n4 / 2, 1, congrArg (fun z => [V.int z, V.int 1]) (by omega), by decide, fun H4 p4 r4 s4 hl4 hb4 hr4 => ⟨by show 2 ≤ sizeLine; decide, fun T2 nT2 => ?_⟩⟩
      have t2 := same_new (o := .tup [V.str "q", V.ref p4]) nT2
      refine ⟨by show 2 ≤ sizeLine; decide, fun TL nTL => ?_⟩
      have tL := same_new (o := .lst [V.ref T1, V.ref T2]) nTL
      have hP1 := tL _ _ (t2 _ _ (s4 _ _ upd_same))
      have hP2 := tL _ _ (upd_same (H := H4) (a := T2) (o := .tup [V.str "q", V.ref p4]))
      have hR1 : RowH _ p3 r3 := tL _ _ (t2 _ _ (s4 _ _ (t1 _ _ hr3)))
      have hR2 : RowH _ p4 r4 := tL _ _ (t2 _ _ hr4)
      have hTL : upd (upd H4 T2 (.tup [V.str "q", V.ref p4])) TL (.lst [V.ref T1, V.ref T2]) TL = some (.lst [V.ref T1, V.ref T2]) := upd_same
      have sH5 : Same H' (upd (upd H4 T2 (.tup [V.str "q", V.ref p4])) TL (.lst [V.ref T1, V.ref T2])) := (((s3.trans t1).trans s4).trans t2).trans tL
      generalize hH5 : upd (upd H4 T2 (.tup [V.str "q", V.ref p4])) TL (.lst [V.ref T1, V.ref T2]) = H5 at hP1 hP2 hR1 hR2 hTL sH5 ⊢
      obtain ⟨Tc, nm, ca, r, hat, hTc, hRc, hGc⟩ : ∃ (Tc : Addr) (nm : Str) (ca : Addr) (r : Row), atI [V.ref T1, V.ref T2] ((n4 : Int) % 2) = some (V.ref Tc) ∧ H5 Tc = some (.tup [V.str nm, V.ref ca]) ∧ RowH H5 ca r ∧ GoodF (nm, r) := by
        rcases Nat.mod_two_eq_zero_or_one n4 with h | h
        · refine ⟨T1, "p", p3, r3, ?_, hP1, hR1, .inl ⟨rfl, rowP_mem hb3 hl3⟩⟩
          rw [show (n4 : Int) % 2 = ((0 : Nat) : Int) by omega]
          exact atI_nat rfl
        · refine ⟨T2, "q", p4, r4, ?_, hP2, hR2, .inr ⟨rfl, rowQ_mem hb4 hl4⟩⟩
          rw [show (n4 : Int) % 2 = ((1 : Nat) : Int) by omega]
          exact atI_nat rfl
      refine ⟨_, rfl, _, _, rfl, rfl, (by show (0 : Int) < 2; decide), TL, _, _, _, rfl, rfl, SqL.of_H hTL, hat, ?_⟩
      have hfac := (hst1.facts).same (sm.trans sH5)
      refine ⟨_, rfl, xa, _, dx, _, _, rfl, (sm.trans sH5) _ _ hi0, T.cl, T.na "facts", stF_f ra fa ua da, fa, rfl, rows_isD hfac, _, rfl, Tc, _, 0, _, rfl, rfl, SqT.of_H hTc, atI_nat rfl, Nat.zero_le _, fun l9 nl9 => ?_⟩
      have s9 := same_new (o := .lst []) nl9
      obtain ⟨o9, gg9, la9, qs9, e91, e92, e93, e94, e95⟩ := get_rows2 hfac nm s9 upd_same
      refine ⟨o9, gg9, ?_⟩
      rw [e91]
      have hTc9 := s9 _ _ hTc
      have sH9 := sH5.trans s9
      generalize hH9 : upd H5 l9 (.lst []) = H9 at s9 e93 e95 hTc9 sH9 ⊢
      have eq9 : (qs9.map fun q => V.ref q.1).length = qs9.length := List.length_map _
      refine ⟨_, rfl, !(qs9.map fun q => V.ref q.1).isEmpty, .inl ⟨_, SqL.of_H e93, rfl⟩, iteB (fun c1 => ?_) (fun c1 => ?_)⟩
      · refine ⟨_, rfl, _, _, rfl, rfl, ⟨by decide, by decide⟩, _, _, rfl, rfl, (by show (0 : Int) < 3; decide), rfl, _, rfl, iteB (fun c2 => ?_) (fun c2 => ?_)⟩
        · have hpos : 0 < qs9.length := by
            cases qs9 with
            | nil => cases c1
            | cons a b => exact Nat.succ_pos _
          obtain ⟨y, hy, hay⟩ := pickAt2 (xs := qs9) (f := fun q : Addr × Row => V.ref q.1) n4 15 (m := (((qs9.map fun q => V.ref q.1).length : Nat) : Int)) (by rw [eq9]) hpos
          refine ⟨_, rfl, Tc, _, 0, _, rfl, rfl, SqT.of_H hTc9, atI_nat rfl, _, rfl, _, rfl, _, _, rfl, rfl, ⟨by decide, by decide⟩, _, rfl, _, _, rfl, .inl ⟨_, SqL.of_H e93, rfl⟩, _, _, rfl, rfl, ?_, la9, _, _, _, rfl, rfl, SqL.of_H e93, hay, by show 2 ≤ sizeLine; decide, fun T3 nT3 => ?_⟩
          · show (0 : Int) < (((qs9.map fun q => V.ref q.1).length : Nat) : Int)
            rw [eq9]
            omega
          have t3 := same_new (o := .tup [V.str nm, V.ref y.1]) nT3
          have hgy : GoodF (nm, y.2) := hli.good.rowsOf_good (by rw [← e94]; exact List.mem_map_of_mem (f := fun q : Addr × Row => q.2) hy)
          have hpy : PairR (upd H9 T3 (.tup [V.str nm, V.ref y.1])) T3 (nm, y.2) := ⟨y.1, upd_same, t3 _ _ (e95 y hy)⟩
          have hLx := ((sH9.trans t3)) _ _ hL
          have hpx : ∀ q ∈ ps, PairR ((upd H9 T3 (.tup [V.str nm, V.ref y.1]))) q.1 q.2 := fun q hq => stays_pairR.go ((sH9.trans t3)).t (hps q hq)
          have hds : Dp K ((upd H9 T3 (.tup [V.str nm, V.ref y.1]))) (.ref L) (.list ((ps.map (·.2)).map pairD)) := lst_dp pair_dp ⟨ps, hLx, rfl, hpx⟩
          have hfl : Fine 8 (603 * ((ps.map (·.2)).map pairD).length) (.list ((ps.map (·.2)).map pairD)) := fine_lst (n := 7) (w := 602) fun u hu => by
            obtain ⟨z, hz, rfl⟩ := List.mem_map.mp hu
            exact pair_fine (hgl z hz)
          refine ⟨_, rfl, _, rfl, pairD (nm, y.2), _, pair_dp _ _ hpy, hds, (pair_fine hgy).shaped (by decide), hfl.shaped (by decide), _, rfl, iteB (fun c3 => ?_) (fun c3 => ?_)⟩
          · refine ⟨_, rfl, .inl ⟨rfl, _, SqL.of_H hLx⟩, _, rfl, L, _, _, rfl, rfl, hLx, by rw [List.length_map, sizeLine_eq]; omega, _, _, _, _, ps.map (·.2) ++ [(nm, y.2)], rfl, same0_upd (sm.trans ((sH9.trans t3))) nL, ⟨ps ++ [(T3, (nm, y.2))], by rw [upd_same, List.map_append]; rfl, by rw [List.map_append]; rfl, push_item stays_pairR (it := (nm, y.2)) ((sH9.trans t3)) hps hLx hpy⟩, fun x hx => ?_, ?_⟩
            · rcases List.mem_append.mp hx with hx | hx
              · exact hgl x hx
              · rw [List.mem_singleton.mp hx]
                exact hgy
            · rw [List.length_append, List.length_map, List.length_singleton]
              omega
          · exact ⟨_, _, _, _, ps.map (·.2), rfl, sm.trans ((sH9.trans t3)), ⟨ps, hLx, rfl, hpx⟩, hgl, Nat.le_succ_of_le hll⟩
        · have hpy : PairR H9 Tc (nm, r) := ⟨ca, hTc9, s9 _ _ hRc⟩
          have hLx := (sH9) _ _ hL
          have hpx : ∀ q ∈ ps, PairR (H9) q.1 q.2 := fun q hq => stays_pairR.go (sH9).t (hps q hq)
          have hds : Dp K (H9) (.ref L) (.list ((ps.map (·.2)).map pairD)) := lst_dp pair_dp ⟨ps, hLx, rfl, hpx⟩
          have hfl : Fine 8 (603 * ((ps.map (·.2)).map pairD).length) (.list ((ps.map (·.2)).map pairD)) := fine_lst (n := 7) (w := 602) fun u hu => by
            obtain ⟨z, hz, rfl⟩ := List.mem_map.mp hu
            exact pair_fine (hgl z hz)
          refine ⟨_, rfl, _, rfl, pairD (nm, r), _, pair_dp _ _ hpy, hds, (pair_fine hGc).shaped (by decide), hfl.shaped (by decide), _, rfl, iteB (fun c3 => ?_) (fun c3 => ?_)⟩
          · refine ⟨_, rfl, .inl ⟨rfl, _, SqL.of_H hLx⟩, _, rfl, L, _, _, rfl, rfl, hLx, by rw [List.length_map, sizeLine_eq]; omega, _, _, _, _, ps.map (·.2) ++ [(nm, r)], rfl, same0_upd (sm.trans (sH9)) nL, ⟨ps ++ [(Tc, (nm, r))], by rw [upd_same, List.map_append]; rfl, by rw [List.map_append]; rfl, push_item stays_pairR (it := (nm, r)) (sH9) hps hLx hpy⟩, fun x hx => ?_, ?_⟩
            · rcases List.mem_append.mp hx with hx | hx
              · exact hgl x hx
              · rw [List.mem_singleton.mp hx]
                exact hGc
            · rw [List.length_append, List.length_map, List.length_singleton]
              omega
          · exact ⟨_, _, _, _, ps.map (·.2), rfl, sm.trans (sH9), ⟨ps, hLx, rfl, hpx⟩, hgl, Nat.le_succ_of_le hll⟩
      · have hpy : PairR H9 Tc (nm, r) := ⟨ca, hTc9, s9 _ _ hRc⟩
        have hLx := (sH9) _ _ hL
        have hpx : ∀ q ∈ ps, PairR (H9) q.1 q.2 := fun q hq => stays_pairR.go (sH9).t (hps q hq)
        have hds : Dp K (H9) (.ref L) (.list ((ps.map (·.2)).map pairD)) := lst_dp pair_dp ⟨ps, hLx, rfl, hpx⟩
        have hfl : Fine 8 (603 * ((ps.map (·.2)).map pairD).length) (.list ((ps.map (·.2)).map pairD)) := fine_lst (n := 7) (w := 602) fun u hu => by
          obtain ⟨z, hz, rfl⟩ := List.mem_map.mp hu
          exact pair_fine (hgl z hz)
        refine ⟨_, rfl, _, rfl, pairD (nm, r), _, pair_dp _ _ hpy, hds, (pair_fine hGc).shaped (by decide), hfl.shaped (by decide), _, rfl, iteB (fun c3 => ?_) (fun c3 => ?_)⟩
        · refine ⟨_, rfl, .inl ⟨rfl, _, SqL.of_H hLx⟩, _, rfl, L, _, _, rfl, rfl, hLx, by rw [List.length_map, sizeLine_eq]; omega, _, _, _, _, ps.map (·.2) ++ [(nm, r)], rfl, same0_upd (sm.trans (sH9)) nL, ⟨ps ++ [(Tc, (nm, r))], by rw [upd_same, List.map_append]; rfl, by rw [List.map_append]; rfl, push_item stays_pairR (it := (nm, r)) (sH9) hps hLx hpy⟩, fun x hx => ?_, ?_⟩
          · rcases List.mem_append.mp hx with hx | hx
            · exact hgl x hx
            · rw [List.mem_singleton.mp hx]
              exact hGc
          · rw [List.length_append, List.length_map, List.length_singleton]
            omega
        · exact ⟨_, _, _, _, ps.map (·.2), rfl, sm.trans (sH9), ⟨ps, hLx, rfl, hpx⟩, hgl, Nat.le_succ_of_le hll⟩
    rintro σ H3 ⟨v2, v3, v5, v6, l, rfl, s23, hl3, hgl, hll⟩
    have hll4 : l.length ≤ 4 := Nat.le_trans hll hm5
    have s03 := s02.trans s23
    have hst3 := hst.same s23
    refine ⟨_, rfl, xa, st, rfl, hst3, hli.h64, hli.good.rulesOk, hli.good.rowsOk, model_ok hli, fun H4 m s4 hm4 => ?_⟩
    obtain ⟨fl, hki⟩ := model_typed hli
    obtain ⟨ms, hm1, hm2, hm3'⟩ := id hm4
    have ekeys : (ms.map fun q => (q.1, q.2.1)).map (·.1) = allRels st := by
      rw [← hki.keys, ← hm2, List.map_map, List.map_map]
      rfl
    have lkeys : (ms.map fun q => (q.1, q.2.1)).length = (allRels st).length := by
      have h1 := congrArg List.length ekeys
      rw [List.length_map] at h1
      exact h1
    have lall : (allRels st).length < 64 := by
      have h1 := allRels_len st
      have h2 := hli.h64
      omega
    have pall : 0 < (allRels st).length := by
      obtain ⟨x, hx⟩ := hre
      have h1 : x ∈ st.rels.map (·.1) := by
        cases h2 : look st.rels x with
        | none => rw [h2] at hx; cases hx
        | some v => exact List.mem_map_of_mem (f := fun q : Str × Int => q.1) (look_mem h2)
      exact List.length_pos_of_mem ((allRels_mem st x).mpr (.inl h1))
    have s04 := s03.trans s4
    refine ⟨_, rfl, m, _, (ms.map fun q => (q.1, q.2.1)).map (·.1), rfl, .inl hm1, encS_keys _ _, by rw [ekeys]; exact lall, fun ys ly perm srt nly => ?_⟩
    have sly := same_new (o := .lst (ys.map V.str)) nly
    rw [ekeys] at perm
    have lys : ys.length = (allRels st).length := perm.length_eq
    refine ⟨_, rfl, sc, ns, 42, rfl, (s04.trans sly).seq hsc, h1000, by decide, fun n5 hn5 => ?_⟩
    have hm5' := sly _ _ hm1
    have ekv : ((encS V.ref (ms.map fun q => (q.1, q.2.1))).length : Int) = (ys.length : Int) := by
      rw [encS_len, lkeys, lys]
    obtain ⟨nm, hnm, hanm⟩ := pickAt (xs := ys) (f := V.str) n5 ekv (by omega)
    have hnm' : nm ∈ allRels st := perm.mem_iff.mp hnm
    refine ⟨_, rfl, m, _, rfl, hm5', _, _, rfl, rfl, by rw [ekv]; omega, ly, _, _, _, rfl, rfl, SqL.of_H upd_same, hanm, ?_⟩
    have s05 := s04.trans sly
    have s35 : Same H3 (upd H4 ly (.lst (ys.map V.str))) := s4.trans sly
    have hmm := hm4.same sly
    generalize hH5 : upd H4 ly (.lst (ys.map V.str)) = H5 at s05 s35 hmm ⊢
    refine ⟨_, rfl, sc, ns, 43, rfl, s05.seq hsc, h1000, by decide, fun n6 hn6 => ?_⟩
    refine ⟨_, rfl, by show 4 ≤ sizeLine; decide, fun T4 nT4 => ?_⟩
    have t4 := same_new (o := .lst [V.str "p", V.str "r", V.str "t", V.str "w"]) nT4
    refine ⟨T4, _, rfl, .inl (SqL.of_H upd_same), rfl, by decide +kernel, .inr ⟨_, rfl, ?_⟩⟩
    rw [if_neg Bool.false_ne_true]
    generalize inV (V.str nm) [V.str "p", V.str "r", V.str "t", V.str "w"] = bb
    refine ⟨_, _, rfl, rfl, n6, 1 + (if bb = true then 1 else 0), (by cases bb <;> rfl), (by cases bb <;> decide), fun H6 pr row s6 _ _ hrow => ?_⟩
    have s36 := (s35.trans t4).trans s6
    have hm6 := (hmm.same t4).same s6
    have s06 := (s05.trans t4).trans s6
    have hkm : nm ∈ (modelM st).map (·.1) := by rw [hki.keys]; exact hnm'
    obtain ⟨la, qs, dg, hla, eqs, hqs⟩ := get_row1 hm6 hkm
    have eql : (qs.map fun q => V.ref q.1).length = qs.length := List.length_map _
    refine ⟨_, rfl, _, rfl, m, _, rfl, dg, !(qs.map fun q => V.ref q.1).isEmpty, .inl ⟨_, SqL.of_H hla, rfl⟩, iteB (fun c1 => ?_) (fun c1 => ?_)⟩
    · refine ⟨_, rfl, sc, ns, 44, rfl, s06.seq hsc, h1000, by decide, fun n7 hn7 => ⟨_, _, rfl, rfl, (by show (0 : Int) < 2; decide), rfl, _, rfl, iteB (fun c2 => ?_) (fun c2 => ?_)⟩⟩
      · have hpos : 0 < qs.length := by
          cases qs with
          | nil => cases c1
          | cons a b => exact Nat.succ_pos _
        refine ⟨_, rfl, _, rfl, m, _, rfl, dg, _, rfl, sc, ns, 45, rfl, s06.seq hsc, h1000, by decide, fun n8 hn8 => ?_⟩
        obtain ⟨y, hy, hay⟩ := pickAt (xs := qs) (f := fun q : Addr × Row => V.ref q.1) n8 (m := (((qs.map fun q => V.ref q.1).length : Nat) : Int)) (by rw [eql]) hpos
        refine ⟨_, rfl, _, rfl, m, _, rfl, dg, _, _, rfl, .inl ⟨_, SqL.of_H hla, rfl⟩, _, _, rfl, rfl, ?_, la, _, _, _, rfl, rfl, SqL.of_H hla, hay, ?_⟩
        · show (0 : Int) < (((qs.map fun q => V.ref q.1).length : Nat) : Int)
          rw [eql]
          omega
        have hrow' := hqs y hy
        refine ⟨_, rfl, sc, ns, 46, rfl, s06.seq hsc, h1000, by decide, fun n9 hn9 => ⟨_, _, rfl, rfl, (by show (0 : Int) < 2; decide), rfl, ?_⟩⟩
        generalize decide (V.int ((n9 : Int) % 2) = V.int 0) = want
        have hi6 := s36 _ _ (s23 _ _ hi0)
        have hst6 := hst3.same s36
        refine ⟨_, rfl, xa, dx, _, rfl, hi6, rfl, xa, st, rfl, hst6, hli.good.small, fun H7 qi s7 nqi hit => ⟨qi, itemsD (allItems st), 8, 400000, rfl, items_dp hit, items_fine hli.good, by decide, by decide, ?_⟩⟩
        have s37 := s36.trans s7
        have hl7 := hl3.same stays_pairR s37
        obtain ⟨ps, hL7, eps, hps7⟩ := id hl7
        refine ⟨_, rfl, _, rfl, _, rfl, _, rfl, _, rfl, L, _, rfl, .inl (SqL.of_H hL7), fun C nC => ?_⟩
        have sC := same_new (o := .lst (ps.map fun q => V.ref q.1)) nC
        have hCl : LstOf PairR (upd H7 C (.lst (ps.map fun q => V.ref q.1))) C l := ⟨ps, upd_same, eps, fun q hq => stays_pairR.go sC.t (hps7 q hq)⟩
        refine ⟨xa, y.1, C, st, nm, y.2, want, l, rfl, (hst6.same s7).same sC, hli, sC _ _ (s7 _ _ hrow'), hCl, hgl, hll4, fun H8 qt s8 hres => ?_⟩
        have s78 := sC.trans s8
        refine ⟨_, rfl, _, rfl, _, rfl, _, rfl, _, rfl, xa, y.1, L, st, nm, y.2, want, l, rfl, (hst6.same s7).same s78, hli, hnm', s78 _ _ (s7 _ _ hrow'), hl7.same stays_pairR s78, hgl, hll4, fun H9 qd s9 hdue => ?_⟩
        obtain ⟨rs, hr1, hr2, hr3⟩ := hres
        refine ⟨_, rfl, qt, _, rfl, .inl (SqL.of_H (s9 _ _ hr1)), fun C2 nC2 => ?_⟩
        have sC2 := same_new (o := .lst (rs.map fun q => V.ref q.1)) nC2
        have hres2 : ResL (upd H9 C2 (.lst (rs.map fun q => V.ref q.1))) C2 ((wishIx l.length (grantIxM st nm y.2 want l)).map (pickM l)) := ⟨rs, upd_same, hr2, fun q hq => (stays_tup stays_pairR).go (s9.trans sC2).t (hr3 q hq)⟩
        have hdue2 := hdue.same (stays_tup stays_pairR) sC2
        have hfin := wish_fine hll4 hgl (grantIxM st nm y.2 want l)
        refine ⟨C2, _, 9, 400000, rfl, res_dp hres2, hfin, by decide, by decide, _, rfl, qd, _, 9, 400000, rfl, res_dp hdue2, hfin, by decide, by decide, rfl, _, rfl, ?_⟩
        rw [decide_eq_true rfl]
        have s9' := (s78.trans s9).trans sC2
        refine iteT ⟨_, rfl, xa, dx, _, rfl, s9' _ _ (s7 _ _ hi6), rfl, xa, st, rfl, ((hst6.same s7).same s9'), hli.good.small, fun H10 qi2 s10 nqi2 hit2 => ⟨qi2, itemsD (allItems st), 8, 400000, rfl, items_dp hit2, items_fine hli.good, by decide, by decide, _, rfl, rfl, ?_⟩⟩
        have qq := q H10
        rw [show V.bl true = V.bl (decide (V.str (itemsD (allItems st)).shown = V.str (itemsD (allItems st)).shown)) from by rw [decide_eq_true rfl]] at qq
        exact qq
      · refine ⟨_, rfl, sc, ns, 46, rfl, s06.seq hsc, h1000, by decide, fun n9 hn9 => ⟨_, _, rfl, rfl, (by show (0 : Int) < 2; decide), rfl, ?_⟩⟩
        generalize decide (V.int ((n9 : Int) % 2) = V.int 0) = want
        have hi6 := s36 _ _ (s23 _ _ hi0)
        have hst6 := hst3.same s36
        refine ⟨_, rfl, xa, dx, _, rfl, hi6, rfl, xa, st, rfl, hst6, hli.good.small, fun H7 qi s7 nqi hit => ⟨qi, itemsD (allItems st), 8, 400000, rfl, items_dp hit, items_fine hli.good, by decide, by decide, ?_⟩⟩
        have s37 := s36.trans s7
        have hl7 := hl3.same stays_pairR s37
        obtain ⟨ps, hL7, eps, hps7⟩ := id hl7
        refine ⟨_, rfl, _, rfl, _, rfl, _, rfl, _, rfl, L, _, rfl, .inl (SqL.of_H hL7), fun C nC => ?_⟩
        have sC := same_new (o := .lst (ps.map fun q => V.ref q.1)) nC
        have hCl : LstOf PairR (upd H7 C (.lst (ps.map fun q => V.ref q.1))) C l := ⟨ps, upd_same, eps, fun q hq => stays_pairR.go sC.t (hps7 q hq)⟩
        refine ⟨xa, pr, C, st, nm, row, want, l, rfl, (hst6.same s7).same sC, hli, sC _ _ (s7 _ _ hrow), hCl, hgl, hll4, fun H8 qt s8 hres => ?_⟩
        have s78 := sC.trans s8
        refine ⟨_, rfl, _, rfl, _, rfl, _, rfl, _, rfl, xa, pr, L, st, nm, row, want, l, rfl, (hst6.same s7).same s78, hli, hnm', s78 _ _ (s7 _ _ hrow), hl7.same stays_pairR s78, hgl, hll4, fun H9 qd s9 hdue => ?_⟩
        obtain ⟨rs, hr1, hr2, hr3⟩ := hres
        refine ⟨_, rfl, qt, _, rfl, .inl (SqL.of_H (s9 _ _ hr1)), fun C2 nC2 => ?_⟩
        have sC2 := same_new (o := .lst (rs.map fun q => V.ref q.1)) nC2
        have hres2 : ResL (upd H9 C2 (.lst (rs.map fun q => V.ref q.1))) C2 ((wishIx l.length (grantIxM st nm row want l)).map (pickM l)) := ⟨rs, upd_same, hr2, fun q hq => (stays_tup stays_pairR).go (s9.trans sC2).t (hr3 q hq)⟩
        have hdue2 := hdue.same (stays_tup stays_pairR) sC2
        have hfin := wish_fine hll4 hgl (grantIxM st nm row want l)
        refine ⟨C2, _, 9, 400000, rfl, res_dp hres2, hfin, by decide, by decide, _, rfl, qd, _, 9, 400000, rfl, res_dp hdue2, hfin, by decide, by decide, rfl, _, rfl, ?_⟩
        rw [decide_eq_true rfl]
        have s9' := (s78.trans s9).trans sC2
        refine iteT ⟨_, rfl, xa, dx, _, rfl, s9' _ _ (s7 _ _ hi6), rfl, xa, st, rfl, ((hst6.same s7).same s9'), hli.good.small, fun H10 qi2 s10 nqi2 hit2 => ⟨qi2, itemsD (allItems st), 8, 400000, rfl, items_dp hit2, items_fine hli.good, by decide, by decide, _, rfl, rfl, ?_⟩⟩
        have qq := q H10
        rw [show V.bl true = V.bl (decide (V.str (itemsD (allItems st)).shown = V.str (itemsD (allItems st)).shown)) from by rw [decide_eq_true rfl]] at qq
        exact qq
    · refine ⟨_, rfl, sc, ns, 46, rfl, s06.seq hsc, h1000, by decide, fun n9 hn9 => ⟨_, _, rfl, rfl, (by show (0 : Int) < 2; decide), rfl, ?_⟩⟩
      generalize decide (V.int ((n9 : Int) % 2) = V.int 0) = want
      have hi6 := s36 _ _ (s23 _ _ hi0)
      have hst6 := hst3.same s36
      refine ⟨_, rfl, xa, dx, _, rfl, hi6, rfl, xa, st, rfl, hst6, hli.good.small, fun H7 qi s7 nqi hit => ⟨qi, itemsD (allItems st), 8, 400000, rfl, items_dp hit, items_fine hli.good, by decide, by decide, ?_⟩⟩
      have s37 := s36.trans s7
      have hl7 := hl3.same stays_pairR s37
      obtain ⟨ps, hL7, eps, hps7⟩ := id hl7
      refine ⟨_, rfl, _, rfl, _, rfl, _, rfl, _, rfl, L, _, rfl, .inl (SqL.of_H hL7), fun C nC => ?_⟩
      have sC := same_new (o := .lst (ps.map fun q => V.ref q.1)) nC
      have hCl : LstOf PairR (upd H7 C (.lst (ps.map fun q => V.ref q.1))) C l := ⟨ps, upd_same, eps, fun q hq => stays_pairR.go sC.t (hps7 q hq)⟩
      refine ⟨xa, pr, C, st, nm, row, want, l, rfl, (hst6.same s7).same sC, hli, sC _ _ (s7 _ _ hrow), hCl, hgl, hll4, fun H8 qt s8 hres => ?_⟩
      have s78 := sC.trans s8
      refine ⟨_, rfl, _, rfl, _, rfl, _, rfl, _, rfl, xa, pr, L, st, nm, row, want, l, rfl, (hst6.same s7).same s78, hli, hnm', s78 _ _ (s7 _ _ hrow), hl7.same stays_pairR s78, hgl, hll4, fun H9 qd s9 hdue => ?_⟩
      obtain ⟨rs, hr1, hr2, hr3⟩ := hres
      refine ⟨_, rfl, qt, _, rfl, .inl (SqL.of_H (s9 _ _ hr1)), fun C2 nC2 => ?_⟩
      have sC2 := same_new (o := .lst (rs.map fun q => V.ref q.1)) nC2
      have hres2 : ResL (upd H9 C2 (.lst (rs.map fun q => V.ref q.1))) C2 ((wishIx l.length (grantIxM st nm row want l)).map (pickM l)) := ⟨rs, upd_same, hr2, fun q hq => (stays_tup stays_pairR).go (s9.trans sC2).t (hr3 q hq)⟩
      have hdue2 := hdue.same (stays_tup stays_pairR) sC2
      have hfin := wish_fine hll4 hgl (grantIxM st nm row want l)
      refine ⟨C2, _, 9, 400000, rfl, res_dp hres2, hfin, by decide, by decide, _, rfl, qd, _, 9, 400000, rfl, res_dp hdue2, hfin, by decide, by decide, rfl, _, rfl, ?_⟩
      rw [decide_eq_true rfl]
      have s9' := (s78.trans s9).trans sC2
      refine iteT ⟨_, rfl, xa, dx, _, rfl, s9' _ _ (s7 _ _ hi6), rfl, xa, st, rfl, ((hst6.same s7).same s9'), hli.good.small, fun H10 qi2 s10 nqi2 hit2 => ⟨qi2, itemsD (allItems st), 8, 400000, rfl, items_dp hit2, items_fine hli.good, by decide, by decide, _, rfl, rfl, ?_⟩⟩
      have qq := q H10
      rw [show V.bl true = V.bl (decide (V.str (itemsD (allItems st)).shown = V.str (itemsD (allItems st)).shown)) from by rw [decide_eq_true rfl]] at qq
      exact qq
end
end Rs


set_option Elab.async false
set_option linter.all false
set_option maxRecDepth 100000
set_option maxHeartbeats 0
/-! # H3: the law holds -/
open PySem PySem.W PySem.Calls PyProof.Rows
theorem PySem.Challenge.cw_rulestead_k30_wishes_holds : PySem.Challenge.rw_rulestead_k30_wishes.Holds := by
  w_on; o_law
  refine HandSHeadRun.head_any (r := OpenLaw.row PySem.Challenge.rw_rulestead_k30_wishes) (q := view (OpenLaw.row PySem.Challenge.rw_rulestead_k30_wishes).prog [79]) (H := Rs.hookR) (ob := Rs.obR) (M := 4000) (loose := Rs.looseN) (d := HandSHeadRun.topDef (OpenLaw.row PySem.Challenge.rw_rulestead_k30_wishes).prog 79) (kwd := []) Rs.obR_eq
    (by kernel_rfl) (fun s => by kernel_rfl) Rs.top_run (by kernel_rfl) (by kernel_rfl) (by kernel_rfl) (by rfl) (by first | assumption | decide +kernel) (by decide +kernel) ⟨rfl, rfl, rfl, rfl, rfl, by decide +kernel⟩ ?hw ?hc
  case hw => w_witness2
  case hc =>
    refine Rs.walk_ofG (l := PySem.Challenge.rw_rulestead_k30_wishes) (n := 63) (k := 14) (x := "_law_script") (CX := L2.CX0) rfl (by decide) (by kernel_rfl) ⟨rfl, by decide, by decide⟩ ?F (fun _ _ _ _ z => z)
    intro w mg fa h Y G hmg0
    obtain ⟨K, KX, e⟩ := Y
    have T := Rs.tx_of KX G e
    have hmg : mg ("law" : PySem.Str) = some (.ref fa) := by
      have e2 : (HandSHeadRun.topDef (OpenLaw.row PySem.Challenge.rw_rulestead_k30_wishes).prog 79).name = ("law" : PySem.Str) := by kernel_rfl
      rw [← e2]
      exact hmg0
    have efa : He.ga K "law" = fa := Value.ref.inj (Option.some.inj ((T.glo "law").symm.trans hmg))
    rw [← efa]
    obtain ⟨fd, hrun, hbind⟩ := Rs.ok_law (w := w) T
    exact ⟨K, fd, Rs.spLaw K, KX, hbind, fun H a ns hl _ hS => ⟨a, ns, rfl, hS, hl, fun _ => rfl⟩, fun base _ _ => hrun base⟩

