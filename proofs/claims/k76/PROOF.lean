import PyProof.Rows.All
import Wide.All
import OpenK.AllK
import Wide.FinOn
import HandS.ForMost
import HandS.IsInst
import HandS.CallLocal
import HandS.Wide
import HandS.Codes
import HandS.Walk
import PyProof.EqAt
import PyProof.EqKinds
import PyProof.TupleCall
import PyProof.P3Eq
import KE.LtSeq
import KE.KSortAsk
import HandS.TupLe
import HandS.SortRule
import KE.DataFind
import HandS.Deep
import HandS.Remove
import HandS.Property
import HandS.Style
import PySem.Challenge.RW_stylobate_k76_changes_of_bags
set_option Elab.async false
set_option maxRecDepth 100000
set_option maxHeartbeats 4000000
/-! Own words over the hand layer: calls bundled, texts as lists of codes, drawing from a one-item list. -/
namespace Sb
open PySem PySem.Spec PyProof.Rows L2 SX

/-! ### a def that may be called by its name -/
structure Cal (P : Program) (w : World) (K : PySem.W.Frag) (mg : Str → Option Value) (base : Heap) (CX : CXT) (k : Nat) (x : Str) (sp : Sp) : Prop where
  ex : ∃ (f : Addr) (fd : FuncData) (ps : List Str), FnOk P w K mg base CX k f fd ps sp ∧ mg x = some (.ref f) ∧ PySem.W.keepIn K (.ref f) = true ∧ Binds K fd ps []
theorem pe_k {X : Cx} {CX : CXT} {k j : Nat} {x : Str} {sp : Sp} {E : XK} {p pos : Pos} {e : Expr} {es : List Expr} {t : TA} (c : Cal X.prog X.w X.K X.mg X.base CX k x sp) (hr : Room j X.A) (hk : k ≤ j) (hg : Gl X x) (hx : Passes CX X E) (ha : PA X (e :: es) t)
    (hdb : (x == ("__debug__" : Str)) = false := by decide) (he : starEach (e :: es) X.env = (false, eval e X.env) :: starEach es X.env := by rfl) (hpl : (backTo pos (starEach es X.env)).any (·.1) = false := by rfl) :
    PE X (.Call (.Name x p) (e :: es) [] pos) (tCall sp [] E t) := by
  obtain ⟨f, fd, ps, F, hm, kp, b⟩ := c.ex
  exact pe_call F (hr.mono hk) hg hm kp b .nil hx ha hdb he hpl

/-! ### texts as lists of codes -/
theorem S_eq (a b : List Nat) : decide (V.str (S a) = V.str (S b)) = decide (a = b) := by
  by_cases h : a = b
  · subst h; simp
  · rw [decide_eq_false h, decide_eq_false]
    intro q
    injection q with q
    exact h (S_inj q)
theorem S_of (x : Str) : ∃ t, x = S t := ⟨x.cps.toList, (S_tl x).symm⟩
theorem cutS_nat (t : List Nat) (i j : Int) (a b : Nat) (hi : i = (a : Int)) (hj : j = (b : Int)) : cutS (S t) (some i) (some j) = S ((t.drop a).take (b - a)) := by
  subst hi hj
  unfold cutS
  rw [S_len, HT.sIx_nat, HT.sIx_nat]
  show S ((t.drop (min a t.length)).take (min b t.length - min a t.length)) = S ((t.drop a).take (b - a))
  congr 1
  rcases Nat.le_total a t.length with h | h
  · rw [Nat.min_eq_left h]
    rcases Nat.le_total b t.length with h2 | h2
    · rw [Nat.min_eq_left h2]
    · rw [Nat.min_eq_right h2, List.take_of_length_le (by simp), List.take_of_length_le (by simp; omega)]
  · rw [Nat.min_eq_right h, List.drop_eq_nil_of_le h, List.drop_eq_nil_of_le (Nat.le_refl _)]
    simp
/-- one sign -/
theorem cut1 (t : List Nat) (i j : Int) (a : Nat) (hi : i = (a : Int)) (hj : j = (a : Int) + 1) : cutS (S t) (some i) (some j) = S ((t.drop a).take 1) := by
  rw [cutS_nat t i j a (a + 1) hi (by omega)]
  simp
theorem cutS_from (t : List Nat) (i : Int) (a : Nat) (hi : i = (a : Int)) : cutS (S t) (some i) none = S (t.drop a) := by
  subst hi
  unfold cutS
  rw [S_len, HT.sIx_nat, HT.sIx_none]
  show S ((t.drop (min a t.length)).take (t.length - min a t.length)) = S (t.drop a)
  congr 1
  rcases Nat.le_total a t.length with h | h
  · rw [Nat.min_eq_left h, List.take_of_length_le (by simp)]
  · rw [Nat.min_eq_right h, List.drop_eq_nil_of_le h, List.drop_eq_nil_of_le (Nat.le_refl _)]
    simp
theorem drop_take1 (t : List Nat) (a c : Nat) : (t.drop a).take 1 = [c] ↔ t[a]? = some c := by
  rw [← List.head?_drop]
  cases t.drop a <;> simp
theorem joinL_nil : ∀ cs : List Nat, TL.joinL [] (cs.map fun c => [c]) = cs
  | [] => rfl
  | [c] => rfl
  | c :: d :: r => by
    show [c] ++ ([] ++ TL.joinL [] ((d :: r).map fun c => [c])) = c :: d :: r
    rw [joinL_nil (d :: r)]
    rfl
theorem joinL_flat : ∀ ls : List (List Nat), TL.joinL [] ls = ls.flatten
  | [] => rfl
  | [c] => by simp [TL.joinL]
  | c :: d :: r => by
    show c ++ ([] ++ TL.joinL [] (d :: r)) = (c :: d :: r).flatten
    rw [joinL_flat (d :: r)]
    simp
theorem join_flat (ls : List (List Nat)) : Txt.join (S []) (ls.map S) = S ls.flatten := by rw [join_S, joinL_flat]
theorem atS {t : List Nat} {a c : Nat} (h : t[a]? = some c) : atI (S t).cps.toList (a : Int) = some c := atI_nat h

theorem sum_ones : ∀ cs : List Nat, (cs.map fun _ => 1).sum = cs.length
  | [] => rfl
  | c :: cs => by simp [sum_ones cs]; omega
/-! ### heaps -/
/-- what was there stands, but for the list at p, which holds one int -/
def Kp (p : Addr) (H H' : Hp) : Prop := (∀ b o, b ≠ p → H b = some o → H' b = some o) ∧ ∃ z, H' p = some (.lst [.int z])
def Dr (H : Hp) (p : Addr) : Prop := ∃ z, H p = some (.lst [.int z])
theorem Kp.dr {p : Addr} {H H' : Hp} (k : Kp p H H') : Dr H' p := k.2
theorem Kp.refl {p : Addr} {H : Hp} (d : Dr H p) : Kp p H H := ⟨fun _ _ _ h => h, d⟩
theorem Kp.trans {p : Addr} {H H1 H2 : Hp} (a : Kp p H H1) (b : Kp p H1 H2) : Kp p H H2 := ⟨fun c o hc h => b.1 c o hc (a.1 c o hc h), b.2⟩
theorem same_new {H : Hp} {p : Addr} {o : HO} (h : H p = none) : Same H (upd H p o) := fun b u e => by
  rw [upd_ne (ne_of_none e h)]
  exact e
theorem Kp.new {p q : Addr} {H H1 : Hp} {o : HO} (k : Kp p H H1) (h : H1 q = none) : Kp p H (upd H1 q o) := by
  obtain ⟨k1, z, hz⟩ := k
  exact ⟨fun b u hb e => same_new h b u (k1 b u hb e), z, same_new h p _ hz⟩
theorem Kp.same {p : Addr} {H H1 H2 : Hp} (k : Kp p H H1) (s : Same H1 H2) : Kp p H H2 := by
  obtain ⟨k1, z, hz⟩ := k
  exact ⟨fun b u hb e => s b u (k1 b u hb e), z, s p _ hz⟩
/-- a list that H does not know may change -/
theorem same_mut {H H1 : Hp} {p : Addr} {o : HO} (s : Same H H1) (h : H p = none) : Same H (upd H1 p o) := fun b u e => by
  rw [upd_ne (ne_of_none e h)]
  exact s b u e
theorem Kp.mut {p q : Addr} {H H1 : Hp} {o : HO} (k : Kp p H H1) (h : H q = none) (d : Dr H p) : Kp p H (upd H1 q o) := by
  obtain ⟨k1, z, hz⟩ := k
  obtain ⟨y, hy⟩ := d
  exact ⟨fun b u hb e => by rw [upd_ne (ne_of_none e h)]; exact k1 b u hb e, z, by rw [upd_ne (ne_of_none hy h)]; exact hz⟩
theorem seqL {K : PySem.W.Frag} {H : Hp} {a : Addr} {xs : List V} (h : H a = some (.lst xs)) : SqL K H a xs := .inl (.inl h)
theorem seqT {K : PySem.W.Frag} {H : Hp} {a : Addr} {xs : List V} (h : H a = some (.tup xs)) : SqT K H a xs := .inl (.inl h)
theorem tup_same {K : PySem.W.Frag} {H H' : Hp} {a : Addr} {xs : List V} (e : Same H H') (h : SqT K H a xs) : SqT K H' a xs := by
  rcases h with (h | ⟨o, h⟩) | h
  · exact .inl (.inl (e _ _ h))
  · exact .inl (.inr ⟨o, e _ _ h⟩)
  · exact .inr h
end Sb
set_option Elab.async false
set_option maxRecDepth 100000
set_option maxHeartbeats 4000000
/-! Own rules: a dict whose keys are tuples of tuples of ints and texts. -/
namespace Sb
open PySem PySem.Spec PyProof.Rows L2 SX
open Sem (wp)

section
variable {prog : Program} {w : World} {K : Type} [DecidableEq K] (knd : KeyKind prog w K)
/-- each item is a tuple of keys -/
inductive NItems (h : Heap) : List (List K) → List Value → Prop
  | nil : NItems h [] []
  | cons {k : List K} {b : Addr} {ks : List (List K)} {vs : List Value} : IsTupleKey knd h k b → NItems h ks vs → NItems h (k :: ks) (.ref b :: vs)
def IsNest (h : Heap) (ks : List (List K)) (a : Addr) : Prop := ∃ o items n, h.get? a = some o ∧ o.cls = .type "tuple" ∧ o.data = .seq items n ∧ NItems knd h ks items.toList
variable {knd}
theorem NItems.inj {h : Heap} {x y : List (List K)} {vs : List Value} (hx : NItems knd h x vs) : NItems knd h y vs → x = y := by
  induction hx generalizing y with
  | nil => intro hy; cases hy; rfl
  | cons h1 _ ih =>
    intro hy
    cases hy with
    | cons h2 t2 => rw [h1.inj h2, ih t2]
theorem IsNest.inj {h : Heap} {a : Addr} {x y : List (List K)} (hx : IsNest knd h x a) (hy : IsNest knd h y a) : x = y := by
  obtain ⟨o, items, n, ho, _, hd, hi⟩ := hx
  obtain ⟨o', items', n', ho', _, hd', hi'⟩ := hy
  obtain rfl : o = o' := Option.some.inj (ho.symm.trans ho')
  rw [hd] at hd'
  injection hd' with h1 _
  subst h1
  exact hi.inj hi'
theorem NItems.keeps {h h' : Heap} {ks : List (List K)} {vs : List Value} {d : Addr} {o : Obj} {es ep} (ho : h.get? d = some o) (hd : o.data = .dict es ep) (hs : Heap.SameBut d h h') (x : NItems knd h ks vs) : NItems knd h' ks vs := by
  induction x with
  | nil => exact .nil
  | cons h1 _ ih => exact .cons (h1.keeps ho hd hs) ih
theorem IsNest.keeps {h h' : Heap} {ks : List (List K)} {a d : Addr} {o : Obj} {es ep} (x : IsNest knd h ks a) (ho : h.get? d = some o) (hd : o.data = .dict es ep) (hs : Heap.SameBut d h h') : IsNest knd h' ks a := by
  obtain ⟨o', items, n, ho', hc, hd', hi⟩ := x
  have hne : a ≠ d := by
    rintro rfl
    obtain rfl : o' = o := Option.some.inj (ho'.symm.trans ho)
    rw [hd] at hd'; exact nomatch hd'
  exact ⟨o', items, n, (hs.2 a hne).trans ho', hc, hd', hi.keeps ho hd hs⟩
theorem IsNest.typeIs {s : Shared} {ks : List (List K)} {a : Addr} (x : IsNest knd s.heap ks a) : s.TypeIs (.ref a) "tuple" := let ⟨o, _, _, ho, hc, _⟩ := x; ⟨o, ho, hc⟩
def nestHash (knd : KeyKind prog w K) (ks : List (List K)) : Int := reduceHash (Builtin.Tuple.tupleHashOf (ks.map (tupleKeyHash knd)))
def nestDraws : List (List K) → Nat
  | [] => 1
  | k :: ks => (k.length + 1) + nestDraws ks
variable {A : Around} {E : Value → Shared → Prop} {s : Shared}
theorem nest_pyHash {ks : List (List K)} {a : Addr} {Q : Int → Shared → Prop} (hu : A.units + 1 < cLine) (hk : IsNest knd s.heap ks a) (h : Q (nestHash knd ks) { s with toks := s.toks + nestDraws ks }) :
    wpAny (model prog w) A (pyHash (.ref a)) Q E s := by
  have hT := hk.typeIs
  have hu1 : A.in1.units < cLine := hu
  obtain ⟨o, items, n, ho, _, hd, hi⟩ := hk
  unfold pyHash
  first | unfold pyHashByItsType | skip
  first | refine wpAny_bind (wpAny_cRoomFor_or (.inr (by omega)) ?_) | skip
  refine wpAny_bind (wpAny_specialOf hT F.slot_tuple_hash.lookup ?_)
  show wpAny _ _ (if (some (Value.builtin "tuple.__hash__") == some Value.none) = true then _ else _) Q E s
  rw [if_neg (by rw [beq_builtin_none]; exact Bool.false_ne_true)]
  refine wpAny_bind (wpAny_specialOf hT F.slot_tuple_hash.lookup ?_)
  show wpAny _ _ (callSpecialIfBoundUnlessNone? (.ref a) "__hash__" _ >>= _) Q E s
  refine wpAny_bind (wpAny_callSpecialIfBoundUnlessNone?_slot hT F.slot_tuple_hash (wpAny_call_entry F.slot_tuple_hash hT F.entry_tuple_hash ?_ (F.args_tuple_hash_1 _)))
  show wpAny _ _ (Builtin.Tuple.tupleItemsOf (.ref a) >>= _) _ _ s
  refine wpAny_bind (wpAny_tupleItemsOf ho hd ?_)
  refine wpAny_bind ?_
  rw [← Array.forIn_toList]
  refine wpAny_forIn_list _
    (fun rest (b : Array Int) s' => ∃ done left, ks = done ++ left ∧ NItems knd s.heap left rest ∧ b.toList = done.map (tupleKeyHash knd) ∧ s' = { s with toks := s.toks + (done.map fun k => k.length + 1).sum })
    _ ?_ ?_ _ _ ⟨[], ks, rfl, hi, rfl, rfl⟩
  · rintro x rest b s' ⟨done, left, rfl, hl, hb, rfl⟩
    cases hl with
    | @cons k _ ks' _ h1 hl' =>
      refine wpAny_bind (wpAny_pyHash_tuple hu1 h1 ?_)
      first
        | exact wpAny_pure ⟨done ++ [k], ks', by simp, hl', by simp [hb], by simp [Nat.add_assoc]⟩
        | exact wpAny_bind (wpAny_pure (wpAny_pure ⟨done ++ [k], ks', by simp, hl', by simp [hb], by simp [Nat.add_assoc]⟩))
  · rintro b s' ⟨done, left, rfl, hl, hb, rfl⟩
    cases hl
    rw [List.append_nil] at h
    have ed : ∀ l : List (List K), nestDraws l = (l.map fun k => k.length + 1).sum + 1 := by
      intro l
      induction l with
      | nil => rfl
      | cons k l ih => simp [nestDraws, ih, Nat.add_assoc]
    rw [ed] at h
    show wpAny _ _ (retInt (Builtin.Tuple.tupleHashOf b.toList)) _ _ _
    rw [hb]
    refine wpAny_ret_mkInt ?_
    show wpAny _ _ (if (decide (-(2 : Int) ^ 63 ≤ Builtin.Tuple.tupleHashOf (done.map (tupleKeyHash knd))) && decide (Builtin.Tuple.tupleHashOf (done.map (tupleKeyHash knd)) < 2 ^ 63)) = true then _ else _) Q E _
    unfold nestHash reduceHash at h
    by_cases hr : (decide (-(2 : Int) ^ 63 ≤ Builtin.Tuple.tupleHashOf (done.map (tupleKeyHash knd))) && decide (Builtin.Tuple.tupleHashOf (done.map (tupleKeyHash knd)) < 2 ^ 63)) = true
    · rw [if_pos hr]
      rw [if_pos hr] at h
      exact wpAny_pure (by simpa [Nat.add_assoc] using h)
    · rw [if_neg hr]
      rw [if_neg hr] at h
      exact wpAny_bind (wpAny_rule (wpAny_pure (by simpa [Nat.add_assoc] using h)))
theorem NItems.length {h : Heap} {x : List (List K)} {vs : List Value} (hx : NItems knd h x vs) : x.length = vs.length := by
  induction hx with
  | nil => rfl
  | cons _ _ ih => simp [ih]
theorem nest_eq_tree {x y : List (List K)} {a b : Addr} {P : PySem.Fin → Shared → Prop} (hu : A.units < cLine) (hx : IsNest knd s.heap x a) (hy : IsNest knd s.heap y b) (h : P (.done (.ret (.bool (decide (x = y))))) s) :
    wpAny (model prog w) A (Builtin.«tuple.__eq__» ⟨[.ref a, .ref b], []⟩) P E s := by
  have hTb := hy.typeIs
  obtain ⟨oa, xs, na, hoa, _, hda, hia⟩ := hx
  obtain ⟨ob, ys, nb, hob, _, hdb, hib⟩ := hy
  show wpAny _ _ (isInstance (.ref b) (.type "tuple") >>= _) _ _ s
  refine wpAny_bind (wpAny_isInstance hTb isSubtype_tuple_tuple ?_)
  simp only [Bool.not_true, Bool.false_eq_true, if_false]
  refine wpAny_bind (wpAny_tupleItemsOf hoa hda ?_)
  refine wpAny_bind (wpAny_tupleItemsOf hob hdb ?_)
  refine wpAny_bind ?_
  refine wpAny_forIn_list _
    (fun rest r s' => r.1 = none ∧ s' = s ∧ ∃ x' y' xs' ys', rest = List.zip xs' ys' ∧ NItems knd s.heap x' xs' ∧ NItems knd s.heap y' ys' ∧ decide (x' = y') = decide (x = y) ∧ (xs'.length == ys'.length) = (xs.size == ys.size))
    _ ?_ ?_ _ _ ⟨rfl, rfl, x, y, xs.toList, ys.toList, rfl, hia, hib, rfl, by simp⟩
  · rintro ⟨u, v⟩ rest r s' ⟨hr, rfl, x', y', xs', ys', hz, hx', hy', hdec, hlen⟩
    cases hx' with
    | nil => simp at hz
    | @cons k1 u' x'' xs'' h1 hx'' =>
      cases hy' with
      | nil => simp at hz
      | @cons k2 v' y'' ys'' h2 hy'' =>
        simp only [List.zip_cons_cons, List.cons.injEq, Prod.mk.injEq] at hz
        obtain ⟨⟨rfl, rfl⟩, rfl⟩ := hz
        refine wpAny_bind (wpAny_eqBool_tuple (x := k1) (y := k2) hu h1 h2 ?_)
        by_cases hk : k1 = k2
        · subst hk
          rw [decide_eq_true rfl]
          simp only [Bool.not_true, Bool.false_eq_true, if_false]
          refine wpAny_pure ⟨rfl, rfl, x'', y'', xs'', ys'', rfl, hx'', hy'', ?_, by simpa using hlen⟩
          rw [← hdec]
          by_cases hxy : x'' = y''
          · simp [hxy]
          · simp [hxy]
        · rw [decide_eq_false hk]
          simp only [Bool.not_false, if_true]
          have hf : decide (x = y) = false := by rw [← hdec]; simp [hk]
          rw [hf] at h
          exact wpAny_bind (wpAny_pure (wpAny_pure (wpAny_pure h)))
  · rintro ⟨r1, r2⟩ s' ⟨hr, rfl, x', y', xs', ys', hz, hx', hy', hdec, hlen⟩
    simp only at hr
    subst hr
    refine wpAny_pure ?_
    have hfin : (xs.size == ys.size) = decide (x = y) := by
      rw [← hdec, ← hlen]
      cases hx' with
      | nil =>
        cases hy' with
        | nil => simp
        | cons _ _ => simp
      | cons _ _ =>
        cases hy' with
        | nil => simp
        | cons _ _ => simp at hz
    show P (.done (.ret (.bool (xs.size == ys.size)))) s'
    rw [hfin]; exact h
theorem nest_eqBool {x y : List (List K)} {a b : Addr} {Q : Bool → Shared → Prop} (hu : A.units + 1 < cLine) (hx : IsNest knd s.heap x a) (hy : IsNest knd s.heap y b) (h : Q (decide (x = y)) s) :
    wpAny (model prog w) A (eqBool (.ref a) (.ref b)) Q E s := by
  have hu1 : A.in1.units < cLine := hu
  unfold eqBool
  try with_reducible refine wpAny_holding ?_
  show wpAny _ _ (if (Value.ref a == Value.ref b) = true then _ else _) Q E s
  by_cases hab : (Value.ref a == Value.ref b) = true
  · rw [if_pos hab]
    have e : a = b := by have := eq_of_beq hab; injection this
    subst e
    obtain rfl := hx.inj hy
    exact wpAny_bind (wpAny_rule (wpAny_pure (by simpa using h)))
  · rw [if_neg hab]
    exact wpAny_bind (wpAny_richCompare_same_room (op := .Eq) hx.typeIs hy.typeIs F.slot_tuple_eq
      (wpAny_call_entry F.slot_tuple_eq hx.typeIs F.entry_tuple_eq (nest_eq_tree hu1 hx hy ⟨_, rfl, (fun e => nomatch e), wpAny_truthy_bool h⟩) (F.args_tuple_eq_2 _ _)) (by omega))
theorem quiet_inner {n : Nat} {ks : List K} {a : Addr} {Q : Bool → Shared → Prop} (hk : IsTupleKey knd s.heap ks a) (h : Q true s) : wpAny (model prog w) A (eqIsQuiet (n + 1) (.ref a)) Q E s := by
  have hT := hk.typeIs
  obtain ⟨o, items, m, ho, _, hd, hi⟩ := hk
  unfold eqIsQuiet
  refine wpAny_bind (wpAny_specialOf hT F.slot_tuple_eq.lookup ?_)
  show wpAny _ _ (isInstance (.ref a) (.type "tuple") >>= _) _ _ s
  refine wpAny_bind (wpAny_isInstance hT isSubtype_tuple_tuple ?_)
  simp only [Bool.not_true, Bool.false_eq_true, if_false]
  refine wpAny_bind (wpAny_seqItems ho hd ?_)
  refine wpAny_bind ?_
  show wpAny _ _ (forIn items _ _) _ _ s
  rw [← Array.forIn_toList]
  refine wpAny_forIn_list _ (fun rest r s' => r.1 = none ∧ s' = s ∧ ∀ v ∈ rest, carriedByValue v = true) _ ?_ ?_ _ _ ⟨rfl, rfl, hi.byValue⟩
  · rintro v rest r s' ⟨hr, rfl, hall⟩
    rw [eqIsQuiet_byValue _ (hall v List.mem_cons_self)]
    refine wpAny_bind (wpAny_pure ?_)
    simp only [Bool.not_true, Bool.false_eq_true, if_false]
    exact wpAny_pure ⟨rfl, rfl, fun u hu' => hall u (List.mem_cons_of_mem _ hu')⟩
  · rintro ⟨r1, r2⟩ s' ⟨hr, rfl, _⟩
    simp only at hr
    subst hr
    exact wpAny_pure h
theorem nest_quiet {ks : List (List K)} {a : Addr} {Q : Bool → Shared → Prop} (hk : IsNest knd s.heap ks a) (h : Q true s) : wpAny (model prog w) A (eqIsQuiet 8 (.ref a)) Q E s := by
  have hT := hk.typeIs
  obtain ⟨o, items, n, ho, _, hd, hi⟩ := hk
  unfold eqIsQuiet
  refine wpAny_bind (wpAny_specialOf hT F.slot_tuple_eq.lookup ?_)
  show wpAny _ _ (isInstance (.ref a) (.type "tuple") >>= _) _ _ s
  refine wpAny_bind (wpAny_isInstance hT isSubtype_tuple_tuple ?_)
  simp only [Bool.not_true, Bool.false_eq_true, if_false]
  refine wpAny_bind (wpAny_seqItems ho hd ?_)
  refine wpAny_bind ?_
  show wpAny _ _ (forIn items _ _) _ _ s
  rw [← Array.forIn_toList]
  refine wpAny_forIn_list _ (fun rest r s' => r.1 = none ∧ s' = s ∧ ∃ left, NItems knd s.heap left rest) _ ?_ ?_ _ _ ⟨rfl, rfl, ks, hi⟩
  · rintro v rest r s' ⟨hr, rfl, left, hl⟩
    cases hl with
    | cons h1 h2 =>
      refine wpAny_bind (quiet_inner h1 ?_)
      simp only [Bool.not_true, Bool.false_eq_true, if_false]
      exact wpAny_pure ⟨rfl, rfl, _, h2⟩
  · rintro ⟨r1, r2⟩ s' ⟨hr, rfl, _⟩
    simp only at hr
    subst hr
    exact wpAny_pure h
end
/-- tuples of tuples of keys, as a kind of keys -/
def nestKind {prog : Program} {w : World} {K : Type} [DecidableEq K] (knd : KeyKind prog w K) : HeapKind prog w (List (List K)) where
  is := IsNest knd
  hash := nestHash knd
  draws := nestDraws
  room := fun A => A.units + 1 < cLine
  inj := fun hx hy => hx.inj hy
  keeps := fun x ho hd hs => x.keeps ho hd hs
  pyHash := fun hu hk h => nest_pyHash hu hk h
  eqBool := fun hu hx hy h => nest_eqBool hu hx hy h
  quiet := fun hk h => nest_quiet hk h
end Sb
set_option Elab.async false
set_option maxRecDepth 100000
set_option maxHeartbeats 4000000
/-! Own rules: a tracked dict whose keys are tuples of tuples and whose values are ints. -/
namespace Sb
open PySem PySem.Spec PyProof.Rows L2 SX
abbrev NK := List (List Key)
abbrev NE := NK × Addr × Int
def valN (xs : List NE) (k : NK) : Option Int := (xs.find? fun x => decide (x.1 = k)).map (·.2.2)
def setN (k : NK) (v : Int) (x : NE) : NE := if x.1 = k then (x.1, x.2.1, v) else x
def putN (xs : List NE) (k : NK) (b : Addr) (v : Int) : List NE := if (valN xs k).isSome = true then xs.map (setN k v) else xs ++ [(k, b, v)]
theorem valN_cons (x : NE) (xs : List NE) (k : NK) : valN (x :: xs) k = if x.1 = k then some x.2.2 else valN xs k := by
  unfold valN
  rw [List.find?_cons]
  by_cases h : x.1 = k
  · simp [h]
  · simp [h]
theorem valN_app (xs : List NE) (k q : NK) (b : Addr) (v : Int) (h : valN xs k = none) : valN (xs ++ [(k, b, v)]) q = if q = k then some v else valN xs q := by
  induction xs with
  | nil =>
    rw [List.nil_append, valN_cons]
    by_cases e : q = k
    · rw [if_pos e, if_pos e.symm]
    · rw [if_neg e, if_neg (fun z => e z.symm)]
  | cons x xs ih =>
    rw [valN_cons] at h
    by_cases hx : x.1 = k
    · rw [if_pos hx] at h
      cases h
    · rw [if_neg hx] at h
      rw [List.cons_append, valN_cons, valN_cons, ih h]
      by_cases e : q = k
      · subst e
        rw [if_neg hx, if_pos rfl, if_pos rfl]
      · rw [if_neg e, if_neg e]
theorem valN_map (xs : List NE) (k q : NK) (v : Int) : valN (xs.map (setN k v)) q = if q = k then (valN xs k).map (fun _ => v) else valN xs q := by
  induction xs with
  | nil =>
    by_cases e : q = k
    · rw [if_pos e]; rfl
    · rw [if_neg e]; rfl
  | cons x xs ih =>
    rw [List.map_cons, valN_cons, valN_cons, valN_cons, ih]
    unfold setN
    by_cases hx : x.1 = k
    · rw [if_pos hx]
      by_cases e : q = k
      · subst e
        simp [hx]
      · have : ¬ x.1 = q := fun z => e (z.symm.trans hx)
        simp [e, this]
    · rw [if_neg hx]
      by_cases e : q = k
      · subst e
        simp [hx]
      · simp [e]
theorem valN_put (xs : List NE) (k q : NK) (b : Addr) (v : Int) : valN (putN xs k b v) q = if q = k then some v else valN xs q := by
  unfold putN
  by_cases h : (valN xs k).isSome = true
  · rw [if_pos h, valN_map]
    obtain ⟨z, hz⟩ := Option.isSome_iff_exists.mp h
    rw [hz]
    rfl
  · rw [if_neg h]
    exact valN_app xs k q b v (by simpa using h)
theorem putN_len (xs : List NE) (k : NK) (b : Addr) (v : Int) : (putN xs k b v).length ≤ xs.length + 1 := by
  unfold putN
  split
  · rw [List.length_map]; omega
  · rw [List.length_append]; exact Nat.le_refl _
def NR : List NE → List (NK × Addr × Value) → Prop := Paired fun p q => p.1 = q.1 ∧ p.2.1 = q.2.1 ∧ RelV (.int p.2.2) q.2.2
theorem NR.val {xs : List NE} {us : List (NK × Addr × Value)} (r : NR xs us) (k : NK) : RelO ((valN xs k).map V.int) ((atKey us k).map (·.2)) := by
  unfold NR at r
  induction r with
  | nil => exact True.intro
  | @cons p q ps qs h t ih =>
    obtain ⟨h1, _, h2⟩ := h
    rw [valN_cons]
    by_cases e : p.1 = k
    · have e' : q.1 = k := h1.symm.trans e
      have b : atKey (q :: qs) k = some q.2 := by simp [atKey, e']
      rw [if_pos e, b]; exact h2
    · have e' : ¬ q.1 = k := fun z => e (h1.trans z)
      have b : atKey (q :: qs) k = atKey qs k := by simp [atKey, e']
      rw [if_neg e, b]; exact ih
theorem NR.repl {xs : List NE} {us : List (NK × Addr × Value)} (r : NR xs us) (k : NK) {v : Int} {u : Value} (ry : RelV (.int v) u) : NR (xs.map (setN k v)) (us.map (putAt k u)) := by
  unfold NR at r ⊢
  induction r with
  | nil => exact .nil
  | @cons p q ps qs h t ih =>
    rw [List.map_cons, List.map_cons]
    refine .cons ?_ ih
    obtain ⟨h1, h2, h3⟩ := h
    unfold putAt setN
    by_cases e : p.1 = k
    · rw [if_pos e, if_pos (h1.symm.trans e)]; exact ⟨h1, h2, ry⟩
    · rw [if_neg e, if_neg (fun z => e (h1.trans z))]; exact ⟨h1, h2, h3⟩
theorem NR.put {xs : List NE} {us : List (NK × Addr × Value)} (r : NR xs us) (k : NK) (b : Addr) {v : Int} {u : Value} (ry : RelV (.int v) u) : NR (putN xs k b v) (storedH us k b u) := by
  have e : (valN xs k).isSome = (atKey us k).isSome := by
    have := (r.val k).isSome_eq
    rw [Option.isSome_map, Option.isSome_map] at this
    exact this
  unfold putN storedH
  rw [e]
  by_cases q : (atKey us k).isSome = true
  · rw [if_pos q, if_pos q]; exact r.repl k ry
  · rw [if_neg q, if_neg q]; exact Paired.snoc r ⟨rfl, rfl, ry⟩
/-- the tracked dict at a, its entries -/
def DN (P : Program) (w : World) (a : Addr) (xs : List NE) : HO := .ext fun h => xs.length ≤ sizeLine ∧ (a == sysModules) = false ∧ ∃ us, NR xs us ∧
  ∃ o es ep, h.get? a = some o ∧ o.ExactDict ∧ o.data = .dict es ep ∧ es.toList = us.map (entryOfKey (nestKind (mixKind P w))) ∧ (us.map (·.1)).Nodup
/-- the tuple of tuples at b -/
def NestAt (H : Hp) (k : NK) (b : Addr) : Prop := ∃ bs : List Addr, H b = some (.tup (bs.map V.ref)) ∧ Paired (fun (k : List Key) (c : Addr) => H c = some (.tup (k.map kV))) k bs
theorem NestAt.keep {H H' : Hp} {k : NK} {b : Addr} (x : NestAt H k b) (ht : ∀ c xs, H c = some (.tup xs) → H' c = some (.tup xs)) : NestAt H' k b := by
  obtain ⟨bs, h1, h2⟩ := x
  exact ⟨bs, ht _ _ h1, Paired.mapP h2 fun _ _ z => ht _ _ z⟩
section
variable {P : Program} {w : World} {H : Hp} {h : Heap} {a : Addr}
theorem nest_items (ok : HOk P w H h) {k : NK} {bs : List Addr} (r : Paired (fun (k : List Key) (c : Addr) => H c = some (.tup (k.map kV))) k bs) : ∀ {its : List Value}, Vals (bs.map V.ref) its → NItems (mixKind P w) h k its := by
  induction r with
  | nil => intro its v; cases v; exact .nil
  | @cons k b ks bs h1 _ ih =>
    intro its v
    rw [List.map_cons] at v
    cases v with
    | cons e t =>
      cases e
      exact .cons (key_of ok h1) (ih t)
theorem nest_of (ok : HOk P w H h) {k : NK} {b : Addr} (x : NestAt H k b) : (nestKind (mixKind P w)).is h k b := by
  obtain ⟨bs, e, r⟩ := x
  obtain ⟨_, its, rv, o, h1, h2, n, h3⟩ := (show ObjOk P w H h b (.tup (bs.map V.ref)) from ok b _ e)
  exact ⟨o, its.toArray, n, h1, h2, h3, by simpa using nest_items ok r rv⟩
theorem dn_of {xs : List NE} (ok : HOk P w H h) (e : H a = some (DN P w a xs)) (hk : ∀ x ∈ xs, NestAt H x.1 x.2.1) : xs.length ≤ sizeLine ∧ (a == sysModules) = false ∧ ∃ us, NR xs us ∧ h.DictOfH (nestKind (mixKind P w)) a us := by
  obtain ⟨⟨z, y, us, r, o, es, ep, h1, h2, h3, h4, h5⟩, _, _⟩ := ok a _ e
  refine ⟨z, y, us, r, o, es, ep, h1, h2, h3, h4, ?_, h5⟩
  have all : ∀ {l : List NE} {m : List (NK × Addr × Value)}, NR l m → (∀ x ∈ l, NestAt H x.1 x.2.1) → ∀ x ∈ m, (nestKind (mixKind P w)).is h x.1 x.2.1 := by
    intro l m q
    unfold NR at q
    induction q with
    | nil => intro _ x hx; exact nomatch hx
    | @cons p q ps qs hq t ih =>
      intro hl x hx
      rcases List.mem_cons.mp hx with e | hx
      · subst e
        have := hl p List.mem_cons_self
        rw [hq.1, hq.2.1] at this
        exact nest_of ok this
      · exact ih (fun x hx => hl x (List.mem_cons_of_mem _ hx)) x hx
  exact all r hk
theorem dn_new {H' : Hp} {h' : Heap} {xs : List NE} {us : List (NK × Addr × Value)} (z : xs.length ≤ sizeLine) (hd : (a == sysModules) = false) (rel : NR xs us) (dd : h'.DictOfH (nestKind (mixKind P w)) a us) : ObjOk P w H' h' a (DN P w a xs) := by
  obtain ⟨o, es, ep, h1, h2, h3, h4, _, h5⟩ := dd
  refine ⟨⟨z, hd, us, rel, o, es, ep, h1, h2, h3, h4, h5⟩, ⟨o, h1⟩, ?_⟩
  rintro g1 g2 ⟨z, hd, us, rel, o, es, ep, h1, h2, h3, h4, h5⟩ k
  exact ⟨z, hd, us, rel, o, es, ep, k _ h1, h2, h3, h4, h5⟩
end
/-- the dict at a: f says what it holds; at most n entries -/
def NDict (P : Program) (w : World) (H : Hp) (a : Addr) (n : Nat) (f : NK → Option Int) : Prop := ∃ xs, H a = some (DN P w a xs) ∧ xs.length ≤ n ∧ (∀ x ∈ xs, NestAt H x.1 x.2.1) ∧ ∀ k, valN xs k = f k
theorem NDict.keep {P : Program} {w : World} {H H' : Hp} {a : Addr} {n : Nat} {f : NK → Option Int} (d : NDict P w H a n f) (h1 : H' a = H a) (ht : ∀ c xs, H c = some (.tup xs) → H' c = some (.tup xs)) : NDict P w H' a n f := by
  obtain ⟨xs, e, l, hk, hv⟩ := d
  exact ⟨xs, h1.trans e, l, fun x hx => (hk x hx).keep ht, hv⟩
def putF (f : NK → Option Int) (k : NK) (v : Int) : NK → Option Int := fun q => if q = k then some v else f q
theorem NDict.put {P : Program} {w : World} {H : Hp} {a b : Addr} {n : Nat} {f : NK → Option Int} {k : NK} {xs : List NE} {v : Int} (e : H a = some (DN P w a xs)) (l : xs.length ≤ n) (hk : ∀ x ∈ xs, NestAt H x.1 x.2.1) (hv : ∀ k, valN xs k = f k) (hb : NestAt H k b) :
    NDict P w (upd H a (DN P w a (putN xs k b v))) a (n + 1) (putF f k v) := by
  have ht : ∀ c ys, H c = some (.tup ys) → upd H a (DN P w a (putN xs k b v)) c = some (.tup ys) := fun c ys ec => by
    rw [upd_ne (ne_of ec e (fun z => by unfold DN at z; cases z))]
    exact ec
  refine ⟨_, upd_same, Nat.le_trans (putN_len xs k b v) (by omega), fun x hx => ?_, fun q => ?_⟩
  · refine NestAt.keep ?_ ht
    unfold putN at hx
    split at hx
    · obtain ⟨y, hy, rfl⟩ := List.mem_map.mp hx
      unfold setN
      split
      · exact hk y hy
      · exact hk y hy
    · rcases List.mem_append.mp hx with hx | hx
      · exact hk x hx
      · have : x = (k, b, v) := by simpa using hx
        subst this
        exact hb
  · rw [valN_put, hv]
    rfl

/-! ### readings -/
def tNGet (P : Program) (w : World) (td ty : TE) : TE := fun σ H Q => td σ H fun x H1 => ty σ H1 fun y H2 => ∃ a b n f k v, x = .ref a ∧ y = .ref b ∧ NDict P w H2 a n f ∧ NestAt H2 k b ∧ f k = some v ∧ Q (.int v) H2
def tNGetD (P : Program) (w : World) (td ty tx : TE) : TE := fun σ H Q => td σ H fun x H1 => ∃ a n f, x = .ref a ∧ NDict P w H1 a n f ∧ ty σ H1 fun y H2 => tx σ H2 fun z H3 => ∃ n b f k i, y = .ref b ∧ z = .int i ∧ NDict P w H3 a n f ∧ NestAt H3 k b ∧ Q (.int ((f k).getD i)) H3
def sNPut (P : Program) (w : World) (td ty tv : TE) : TS := fun D σ H => tv σ H fun v H1 => td σ H1 fun x H2 => ty σ H2 fun y H3 => ∃ a b n f k i, x = .ref a ∧ y = .ref b ∧ v = .int i ∧ NDict P w H3 a n f ∧ NestAt H3 k b ∧ n < sizeLine ∧
  ∀ H4, NDict P w H4 a (n + 1) (putF f k i) → (∀ c, c ≠ a → H4 c = H3 c) → D.nx σ H4
def tNNew (P : Program) (w : World) : TE := fun _ H Q => ∀ p H', H p = none → NDict P w H' p 0 (fun _ => none) → (∀ c, c ≠ p → H' c = H c) → Q (.ref p) H'
section
variable {X : Cx} {o i e f value : Expr} {pos pos' tpos apos cpos : Pos} {td ty tv tx : TE}
theorem ndict_typeIs {pins : List (Addr × Obj)} {σ : L2.St} {H : Hp} {s : Shared} {a : Addr} {n : Nat} {f : NK → Option Int} (I : Inv X pins σ H s) (d : NDict X.prog X.w H a n f) : s.TypeIs (.ref a) "dict" := by
  obtain ⟨xs, e, _, hk, _⟩ := d
  obtain ⟨_, _, us, _, dd⟩ := dn_of I.hok e hk
  exact dd.typeIs
theorem ndict_noDict {pins : List (Addr × Obj)} {σ : L2.St} {H : Hp} {s : Shared} {a : Addr} {n : Nat} {f : NK → Option Int} (I : Inv X pins σ H s) (d : NDict X.prog X.w H a n f) : ∀ b, Value.ref a = .ref b → ∃ ob, s.heap.get? b = some ob ∧ ob.dict = none := fun b q => by
  cases q
  obtain ⟨xs, e, _, hk, _⟩ := d
  obtain ⟨_, _, us, _, ob, _, _, h1, h2, _⟩ := dn_of I.hok e hk
  exact ⟨ob, h1, h2.2.1⟩
theorem pe_nnew : PE X (.Dict [] [] pos) (tNNew X.prog X.w) := ⟨fun pins s σ H Q I h => by
  have hb : sysModules < s.heap.objs.size := I.big
  refine wpAny_Dict_empty ⟨.ref s.heap.objs.size, _, I.laid (a := s.heap.objs.size) (o := DN X.prog X.w s.heap.objs.size []) (t' := s.toks) (fun _ _ q => Heap.get?_push_of_some _ q) (Nat.le_refl _)
    (dn_new (Nat.zero_le _) (beq_eq_false_iff_ne.mpr (Ne.symm (Nat.ne_of_lt hb))) .nil (Heap.DictOfH.new s.heap)), rfl, h _ _ (I.hok.fresh (Nat.le_refl _)) ⟨[], upd_same, Nat.le_refl _, (fun _ hx => nomatch hx), fun _ => rfl⟩ fun c hc => upd_ne hc⟩⟩
theorem pe_nget (hu : X.A.units + 2 < cLine) (ho : PE X o td) (hi : PE X i ty) (hs : NoSl i) : PE X (.Subscript o i pos) (tNGet X.prog X.w td ty) := by
  refine ⟨fun pins s σ H Q I h => ?_⟩
  refine subD_of PySem.F.slot_dict_getitem.lookup hs (thn (ho.run pins s σ H _ I h) fun u s1 ⟨x, H1, I1, rx, q1⟩ => thn (hi.run pins s1 σ H1 _ I1 q1) fun iv s2 ⟨y, H2, I2, ry, a, b, n, f, k, v, ex, ey, d, nk, hf, q2⟩ => ?_)
  subst ex ey
  obtain rfl : u = Value.ref a := rx
  obtain rfl : iv = Value.ref b := ry
  refine ⟨ndict_typeIs I2 d, ?_⟩
  obtain ⟨xs, e, l, hk, hv⟩ := d
  obtain ⟨z, hd, us, rel, dd⟩ := dn_of I2.hok e hk
  have rv := rel.val k
  rw [hv, hf] at rv
  obtain ⟨w', hw, rw'⟩ := RelO.some_of (v := V.int v) rv
  obtain ⟨p, hp, hp2⟩ := Option.map_eq_some_iff.mp hw
  refine wpAny_getItem_heap (knd := nestKind (mixKind X.prog X.w)) (show X.A.in1.units + 1 < cLine from hu) (nest_of I2.hok nk) dd hp ?_
  rw [hp2]
  exact ⟨.int v, H2, I2.tok _, rw', q2⟩
theorem pe_ngetD (hu : X.A.units + 2 < cLine) (ho : PE X o td) (he : PE X e ty) (hf : PE X f tx) (m : M2 X o "get" apos e f cpos) : PE X (.Call (.Attribute o "get" apos) [e, f] [] cpos) (tNGetD X.prog X.w td ty tx) := by
  refine ⟨fun pins s σ H Q I h => ?_⟩
  refine wpAny_Call_method m.base m.few m.line PySem.F.plainAttrs_dict PySem.F.slot_dict_get PySem.F.type_dict_get (thn (ho.run pins s σ H _ I h) fun u s1 ⟨x, H1, I1, rx, a, n0, f0, ex, d0, q1⟩ => ?_)
  subst ex
  obtain rfl : u = Value.ref a := rx
  refine ⟨ndict_typeIs I1 d0, ndict_noDict I1 d0, ?_⟩
  rw [m.trees]
  refine Calls.callWith_builtin rfl (Calls.evalArgs_plain (Calls.spliced_cons (thn (he.run pins s1 σ H1 _ I1 q1) fun iv s2 ⟨y, H2, I2, ry, q2⟩ =>
    Calls.spliced_cons (thn (hf.run pins s2 σ H2 _ I2 q2) fun fv s3 ⟨z, H3, I3, rz, n, b, g, k, i, ey, ez, d, nk, q3⟩ => Calls.spliced_nil ?_))))
  subst ey ez
  obtain rfl : iv = Value.ref b := ry
  obtain ⟨xs, e, l, hk, hv⟩ := id d
  obtain ⟨z, hd, us, rel, dd⟩ := dn_of I3.hok e hk
  have rv := rel.val k
  rw [hv] at rv
  refine call_meetsIn PySem.F.slot_dict_get dd.typeIs PySem.F.entry_dict_get (PySem.F.args_dict_get_3 _ _ _) (meetsH_dict_get_default (nestKind (mixKind X.prog X.w)) a b hd fv) ⟨show X.A.in1.units + 1 < cLine from hu, k, us, nest_of I3.hok nk, dd, ?_⟩
  refine ⟨.int ((g k).getD i), H3, I3.tok _, ?_, q3⟩
  have := rv.getD (d := V.int i) rz
  rw [Option.getD_map] at this
  exact this
theorem ps_nput (hu : X.A.units + 2 < cLine) (ho : PE X o td) (hi : PE X i ty) (hv : PE X value tv) (hs : swapsWith value (some (.Subscript o i pos')) pos.line X.env = pure false) :
    PS X (.Assign [.Subscript o i pos'] value pos) (sNPut X.prog X.w td ty tv) := by
  refine ⟨fun pins s σ H D I h => ?_⟩
  refine wpAny_Assign_Subscript (thn (hv.run pins s σ H _ I h) fun r s1 ⟨v, H1, I1, rv, q1⟩ => thn (ho.run pins s1 σ H1 _ I1 q1) fun u s2 ⟨x, H2, I2, rx, q2⟩ => thn (hi.run pins s2 σ H2 _ I2 q2) fun iv s3 ⟨y, H3, I3, ry, a, b, n, f, k, j, ex, ey, ev, d, nk, hn, q3⟩ => ?_) hs
  subst ex ey ev
  obtain rfl : u = Value.ref a := rx
  obtain rfl : iv = Value.ref b := ry
  obtain ⟨xs, e, l, hk, hf⟩ := d
  obtain ⟨z, hd, us, rel, dd⟩ := dn_of I3.hok e hk
  have hz : us.length ≤ sizeLine := by rw [← Paired.length rel]; exact z
  have hl : (putN xs k b j).length ≤ sizeLine := by have := putN_len xs k b j; omega
  refine wpAny_setItem_heap (knd := nestKind (mixKind X.prog X.w)) (hsz := hz) (show X.A.in1.units + 1 < cLine from hu) (nest_of I3.hok nk) dd fun h' dd' hs => ?_
  obtain ⟨q, hq⟩ : ∃ q, h'.get? a = some q := let ⟨q, _, _, hq, _⟩ := dd'; ⟨q, hq⟩
  refine ⟨σ, _, d_write I3 (by rw [e]; exact True.intro) hs ⟨q, hq⟩ (dn_new hl hd (rel.put k b rv) dd'), q3 _ (NDict.put e l hk hf nk) fun c hc => upd_ne hc⟩
end
end Sb
set_option Elab.async false
set_option maxRecDepth 100000
set_option maxHeartbeats 4000000
/-! Own rules: sorted of lists of two pairs, the first item of a pair an int; pairs compared by the first place that differs. -/
namespace SbT
open PySem PySem.SeqAt
open PySem.AutoSeq1 (wpAny_loadPart')
open PySem.MeetsSeq PySem.MeetsSeq2 PySem.MeetsSeq3
open Ob (RcOp lexAt lexAt_succ lexAt_zero)
/-- t < u: only the first place that differs must be comparable -/
theorem tuple_lt1 (l b : Addr) (items items2 : Array Value) (n n2 : Nat) (dd dd2 : Option Addr) (sl sl2 : Array (Option Value)) (e r : Nat → Bool) :
    Meets (Builtin.«tuple.__lt__» ⟨[.ref l, .ref b], []⟩)
      (fun A R s => s.heap.get? l = some { cls := .type "tuple", dict := dd, data := .seq items n, slots := sl } ∧ s.heap.get? b = some { cls := .type "tuple", dict := dd2, data := .seq items2 n2, slots := sl2 } ∧
        (∀ j (h1 : j < items.size) (h2 : j < items2.size), EqAt A.in1 s items[j] items2[j] (e j)) ∧
        (∀ j (h1 : j < items.size) (h2 : j < items2.size), (∀ i, i < j → e i = true) → e j = false → RcOp .Lt A.in1 s items[j] items2[j] (r j)) ∧
        R (.ok (.ret (.bool (lexAt e r (decide (items.size < items2.size)) 0 (min items.size items2.size))))) s) :=
  .of_wp fun prog w A R s h => by
    obtain ⟨hp, g, d, tk, os⟩ := s; obtain ⟨hl, hb, he, hr, h⟩ := h
    have f2 := AutoSeq1.sub_tuple_tuple
    have hZ : (items.toList.zip items2.toList).length = min items.size items2.size := by simp
    wp_walk using wpAny_loadPart' hl, wpAny_loadPart' hb, wpAny_forIn_list _ (fun rest b s' => b.1 = none ∧ s' = ⟨hp, g, d, tk, os⟩ ∧ ∃ i, (∀ i', i' < i → e i' = true) ∧ rest = (items.toList.zip items2.toList).drop i ∧
      R (.ok (.ret (.bool (lexAt e r (decide (items.size < items2.size)) i (min items.size items2.size - i))))) ⟨hp, g, d, tk, os⟩) _
    case turn =>
      rintro ⟨y, x⟩ rest b s' ⟨hb', rfl, i, hall, hz, hR⟩
      have hlt : i < (items.toList.zip items2.toList).length := by
        rcases Nat.lt_or_ge i (items.toList.zip items2.toList).length with h' | h'
        · exact h'
        · rw [List.drop_of_length_le h'] at hz; cases hz
      have hm : i < min items.size items2.size := hZ ▸ hlt
      have h1 : i < items.size := Nat.lt_of_lt_of_le hm (Nat.min_le_left _ _)
      have h2 : i < items2.size := Nat.lt_of_lt_of_le hm (Nat.min_le_right _ _)
      rw [List.drop_eq_getElem_cons hlt] at hz
      injection hz with hyx hrest
      have hy : y = items[i] := by have := congrArg Prod.fst hyx; simpa using this
      have hx : x = items2[i] := by have := congrArg Prod.snd hyx; simpa using this
      subst hy hx
      rw [show min items.size items2.size - i = (min items.size items2.size - (i + 1)) + 1 by omega, lexAt_succ] at hR
      refine wpAny_bind (he i h1 h2 prog w _ _ ?_)
      cases hei : e i with
      | true =>
        rw [hei, if_pos rfl] at hR
        wp_walk
        refine ⟨rfl, rfl, i + 1, fun i' hi' => ?_, hrest, hR⟩
        rcases Nat.lt_succ_iff_lt_or_eq.mp hi' with q | q
        · exact hall i' q
        · rw [q]; exact hei
      | false =>
        rw [hei, if_neg Bool.false_ne_true] at hR
        have hri := hr i h1 h2 hall hei prog w
        wp_walk using hri
        exact ⟨_, rfl, by simpa using hR⟩
    case fin =>
      rintro ⟨b1, b2⟩ s' ⟨hb', rfl, i, hall, hz, hR⟩
      simp only at hb'
      subst hb'
      have hge : min items.size items2.size ≤ i := by
        rcases Nat.lt_or_ge i (items.toList.zip items2.toList).length with h' | h'
        · rw [List.drop_eq_getElem_cons h'] at hz; cases hz
        · exact hZ ▸ h'
      rw [Nat.sub_eq_zero_of_le hge, lexAt_zero] at hR
      wp_walk
      exact ⟨_, rfl, by simpa [Builtin.Tuple.tupleCompareSizes] using hR⟩
    case h =>
      exact ⟨rfl, rfl, 0, (fun i' hi' => absurd hi' (Nat.not_lt_zero _)), rfl, by simpa using h⟩
theorem tuples_lt1 {A : Around} {s : Shared} {l b : Addr} {items items2 : Array Value} {e r : Nat → Bool} (hl : s.heap.IsTuple l items) (hb : s.heap.IsTuple b items2) (hu : A.units < cLine)
    (he : ∀ j (h1 : j < items.size) (h2 : j < items2.size), EqAt A.in1 s items[j] items2[j] (e j))
    (hr : ∀ j (h1 : j < items.size) (h2 : j < items2.size), (∀ i, i < j → e i = true) → e j = false → RcOp .Lt A.in1 s items[j] items2[j] (r j)) :
    RcOp .Lt A s (.ref l) (.ref b) (lexAt e r (decide (items.size < items2.size)) 0 (min items.size items2.size)) := fun prog w E Q h => by
  obtain ⟨⟨cls, dd, data, sl⟩, ho, hc, n, hd⟩ := id hl
  obtain ⟨⟨cls2, dd2, data2, sl2⟩, ho2, hc2, n2, hd2⟩ := id hb
  simp only at hc hd hc2 hd2
  subst hc hd hc2 hd2
  exact richCompare_meets_room (op := .Lt) ⟨_, ho, rfl⟩ ⟨_, ho2, rfl⟩ F.slot_tuple_lt F.entry_tuple_lt (F.args_tuple_lt_2 _ _) (tuple_lt1 l b items items2 n n2 dd dd2 sl sl2 e r)
    ⟨ho, ho2, he, hr, ⟨(fun x => nomatch x), h⟩⟩ hu
end SbT

namespace Sb
open PySem PySem.Spec PyProof.Rows L2 SX
open PySem.SeqAt (EqAt)
theorem reads_pair {h : Heap} {v : Value} {d e : PyData} {as : List Addr} (r : Reads h v (.tuple [d, e]) as) : ∃ a u x us xs, v = .ref a ∧ h.IsTuple a #[u, x] ∧ Reads h u d us ∧ Reads h x e xs := by
  cases r with
  | @tuple a o vs n _ as h1 h2 h3 h4 =>
    obtain ⟨l⟩ := vs
    simp only at h4
    cases h4 with
    | cons r1 t1 =>
      cases t1 with
      | cons r2 t2 =>
        cases t2
        exact ⟨a, _, _, _, _, rfl, ⟨o, h1, h2, n, h3⟩, r1, r2⟩
theorem reads_lst2 {h : Heap} {v : Value} {d e : PyData} {as : List Addr} (r : Reads h v (.list [d, e]) as) : ∃ a u x us xs, v = .ref a ∧ h.IsList a #[u, x] ∧ Reads h u d us ∧ Reads h x e xs := by
  cases r with
  | @list a o vs n _ as h1 h2 h3 h4 =>
    obtain ⟨l⟩ := vs
    simp only at h4
    cases h4 with
    | cons r1 t1 =>
      cases t1 with
      | cons r2 t2 =>
        cases t2
        exact ⟨a, _, _, _, _, rfl, ⟨o, h1, h2, n, h3⟩, r1, r2⟩
/-- (i, d) < (j, d') -/
theorem pair_lt {A : Around} {s : Shared} {v u : Value} {as bs : List Addr} {i j : Int} {d d' : PyData} {r : Bool} (hu : A.units + 1 < cLine) (ra : Reads s.heap v (.tuple [.int i, d]) as) (rb : Reads s.heap u (.tuple [.int j, d']) bs)
    (h1 : d.canLay0 = true) (h2 : d'.canLay0 = true) (dp : d.depth = 0) (hr : i = j → PyData.eqv d d' = false → ∀ A' x y xs ys, Reads s.heap x d xs → Reads s.heap y d' ys → Ob.RcOp .Lt A' s x y r) :
    Ob.RcOp .Lt A s v u (if i = j then (if PyData.eqv d d' = true then false else r) else decide (i < j)) := by
  obtain ⟨a, x1, x2, q1, q2, rfl, ta, rx1, rx2⟩ := reads_pair ra
  obtain ⟨b, y1, y2, p1, p2, rfl, tb, ry1, ry2⟩ := reads_pair rb
  cases rx1 with
  | int _ t =>
    cases ry1 with
    | int _ t' =>
      have hu1 : A.in1.units < cLine := hu
      have m := SbT.tuples_lt1 (e := fun k => if k = 0 then decide (i = j) else PyData.eqv d d') (r := fun k => if k = 0 then decide (i < j) else r) ta tb (Nat.lt_of_succ_lt hu) (fun k h1' h2' => ?_) (fun k h1' h2' hall hf => ?_)
      · have e : Ob.lexAt (fun k => if k = 0 then decide (i = j) else PyData.eqv d d') (fun k => if k = 0 then decide (i < j) else r) (decide ((#[Value.int i t, x2] : Array Value).size < (#[Value.int j t', y2] : Array Value).size)) 0 (min (#[Value.int i t, x2] : Array Value).size (#[Value.int j t', y2] : Array Value).size) = (if i = j then (if PyData.eqv d d' = true then false else r) else decide (i < j)) := by
          show Ob.lexAt _ _ false 0 2 = _
          rw [Ob.lexAt_succ, Ob.lexAt_succ, Ob.lexAt_zero]
          by_cases hij : i = j
          · simp [hij]
          · simp [hij]
        rw [e] at m
        exact m
      · have hk : k = 0 ∨ k = 1 := by
          have : k < 2 := h1'
          omega
        rcases hk with rfl | rfl
        · have := EqAt.int_int (A := A.in1) (s := s) i t j t'
          have e : (i == j) = decide (i = j) := rfl
          rw [e] at this
          exact this
        · exact PySem.SeqAt.eqAt_reads d d' A.in1 s x2 y2 _ _ rx2 ry2 h1 h2 (by rw [dp, Nat.zero_min]; exact hu1)
      · have hk : k = 0 ∨ k = 1 := by
          have : k < 2 := h1'
          omega
        rcases hk with rfl | rfl
        · exact Ob.RcOp.lt_int i j t t'
        · have h0 := hall 0 (by omega)
          have hij : i = j := by simpa using h0
          exact hr hij (by simpa using hf) _ _ _ _ _ rx2 ry2
/-- the second item of a rank -/
def rkB (j : Int) : PyData := if j = 3 then .str "a" else if j = 2 then .int 1 else .int j
/-- the ranks of a row -/
def rkR (c : Int × Int) : PyData := .list [.tuple [.int 2, .int c.1], .tuple [.int c.2, rkB c.2]]
theorem rkB_lay (j : Int) : (rkB j).canLay0 = true := by
  unfold rkB
  split
  · decide +kernel
  · split <;> rfl
theorem rkB_depth (j : Int) : (rkB j).depth = 0 := by
  unfold rkB
  split
  · simp [PyData.depth]
  · split <;> simp [PyData.depth]
theorem rkB_eqv (j : Int) : PyData.eqv (rkB j) (rkB j) = true := by
  unfold rkB
  split
  · simp [PyData.eqv]
  · split <;> simp [PyData.eqv]
theorem rk1_eqv (x y : Int) : PyData.eqv (.tuple [.int 2, .int x]) (.tuple [.int 2, .int y]) = decide (x = y) := by
  show ((2 : Int) == 2 && ((x == y) && true)) = _
  simp
  rfl
theorem rk2_eqv (x y : Int) : PyData.eqv (.tuple [.int x, rkB x]) (.tuple [.int y, rkB y]) = decide (x = y) := by
  show ((x == y) && (PyData.eqv (rkB x) (rkB y) && true)) = _
  by_cases h : x = y
  · subst h
    rw [rkB_eqv]
    simp
  · simp [h]
theorem pr_lay {i : Int} {d : PyData} (h : d.canLay0 = true) : PyData.canLay0 (.tuple [.int i, d]) = true := by simp [PyData.canLay0, PyData.canLayAll0, h]
theorem pr_depth {i : Int} {d : PyData} (h : d.depth = 0) : PyData.depth (.tuple [.int i, d]) = 1 := by simp [PyData.depth, PyData.depthAll, h]
/-- < of two rows of ranks, as sorting asks -/
theorem rows_lt {prog : Program} {w : World} {A : Around} {E : Value → Shared → Prop} {s : Shared} {v u : Value} {c c' : Int × Int} {as bs : List Addr} {Q : Bool → Shared → Prop} (hu : A.units + 8 < cLine) (ra : Reads s.heap v (rkR c) as) (rb : Reads s.heap u (rkR c') bs) (h : Q (SrtO.lexB c c') s) :
    wpAny (model prog w) A (keyLt' oneType' v u) Q E s := by
  obtain ⟨a, x1, x2, q1, q2, rfl, ta, rx1, rx2⟩ := reads_lst2 ra
  obtain ⟨b, y1, y2, p1, p2, rfl, tb, ry1, ry2⟩ := reads_lst2 rb
  have hu0 : A.units < cLine := by omega
  have hu2 : A.in1.in1.units + 1 < cLine := by show A.units + 1 + 1 + 1 < cLine; omega
  have hTa : s.TypeIs (.ref a) "list" := let ⟨o, ho, hc, _⟩ := ta; ⟨o, ho, hc⟩
  rw [keyLt'_oneType, oneLt'_eq]
  simp only [if_true]
  refine wpAny_bind (wpAny_cRoomFor hu0 ?_)
  refine wpAny_bind (wpAny_callSpecialIfBound?_slot hTa PySem.F.slot_list_lt (PySem.SeqAt.call_list_lt (e := fun k => if k = 0 then decide (c.1 = c'.1) else decide (c.2 = c'.2)) (r := fun k => if k = 0 then decide (c.1 < c'.1) else decide (c.2 < c'.2)) ta tb (fun k h1 h2 => ?_) (fun k h1 h2 hf => ?_) ?_))
  · have hk : k = 0 ∨ k = 1 := by
      have : k < 2 := h1
      omega
    rcases hk with rfl | rfl
    · have := PySem.SeqAt.eqAt_reads _ _ A.in1 s x1 y1 _ _ rx1 ry1 (pr_lay rfl) (pr_lay rfl) (by rw [pr_depth (by simp [PyData.depth]), pr_depth (by simp [PyData.depth])]; show A.units + 1 + 1 < cLine; omega)
      rw [rk1_eqv] at this
      exact this
    · have := PySem.SeqAt.eqAt_reads _ _ A.in1 s x2 y2 _ _ rx2 ry2 (pr_lay (rkB_lay _)) (pr_lay (rkB_lay _)) (by rw [pr_depth (rkB_depth _), pr_depth (rkB_depth _)]; show A.units + 1 + 1 < cLine; omega)
      rw [rk2_eqv] at this
      exact this
  · have hk : k = 0 ∨ k = 1 := by
      have : k < 2 := h1
      omega
    have hu1 : A.in1.units + 1 < cLine := by show A.units + 1 + 1 < cLine; omega
    rcases hk with rfl | rfl
    · have hne : ¬ c.1 = c'.1 := by simpa using hf
      have m := pair_lt (r := decide (c.1 < c'.1)) hu1 rx1 ry1 rfl rfl (by simp [PyData.depth]) fun _ _ A' x y xs ys hx hy => by
        cases hx
        cases hy
        exact Ob.RcOp.lt_int _ _ _ _
      have e : PyData.eqv (.int c.1) (.int c'.1) = false := by simp [PyData.eqv, hne]
      rw [if_pos rfl, e] at m
      exact m
    · have hne : ¬ c.2 = c'.2 := by simpa using hf
      have m := pair_lt (r := false) hu1 rx2 ry2 (rkB_lay _) (rkB_lay _) (rkB_depth _) fun q _ => absurd q hne
      rw [if_neg hne] at m
      exact m
  · refine wpAny_truthy_bool ?_
    have e : PySem.SeqAt.firstLt (fun k => if k = 0 then decide (c.1 = c'.1) else decide (c.2 = c'.2)) (fun k => if k = 0 then decide (c.1 < c'.1) else decide (c.2 < c'.2)) (decide ((#[x1, x2] : Array Value).size < (#[y1, y2] : Array Value).size)) (List.range (min (#[x1, x2] : Array Value).size (#[y1, y2] : Array Value).size)) = SrtO.lexB c c' := by
      show PySem.SeqAt.firstLt _ _ false [0, 1] = _
      unfold SrtO.lexB
      simp only [PySem.SeqAt.firstLt]
      by_cases h1 : c.1 = c'.1
      · by_cases h2 : c.2 = c'.2
        · simp [h1, h2]
        · simp [h1, h2]
      · simp [h1]
    rw [e]
    exact h
section
variable {prog : Program} {w : World} {A : Around} {E : Value → Shared → Prop} {s : Shared}
theorem rk_cmp {vs : List Value} {k : Value → Int × Int} (hu : A.units + 8 < cLine) (hv : ∀ v ∈ vs, ∃ as, Reads s.heap v (rkR (k v)) as) : SrtO.Cmp prog w A s oneType' (fun p => p.1 ∈ vs) (SrtO.lt2 fun v u => SrtO.lexB (k v) (k u)) := by
  intro p q hp hq
  obtain ⟨as, r1⟩ := hv p.1 hp
  obtain ⟨bs, r2⟩ := hv q.1 hq
  exact rows_lt (Q := fun r s' => s' = s ∧ r = SrtO.lexB (k p.1) (k q.1)) (E := fun _ _ => False) hu r1 r2 ⟨rfl, rfl⟩
theorem rk_type {h : Heap} {v : Value} {c : Int × Int} {as : List Addr} {M : Model} (r : Reads h v (rkR c) as) : PySem.W.Looks M h (typeOf v) (.type "list") := by
  obtain ⟨a, x1, x2, q1, q2, rfl, ⟨o, ho, hc, _⟩, _, _⟩ := reads_lst2 r
  have l : PySem.W.Looks M h (typeOf (.ref a)) o.cls := (PySem.W.Looks.ld ho).andThen .now
  rw [hc] at l
  exact l
theorem sorted_ranks {l : Addr} {vs : List Value} {k : Value → Int × Int} {Q : Value → Shared → Prop} (hu : A.units + 16 < cLine) (hl : s.heap.IsList l vs.toArray) (hz : vs.length ≤ sizeLine) (hp : ∀ v ∈ vs, ∃ as, Reads s.heap v (rkR (k v)) as)
    (h : ∀ (h' : Heap) (d : Addr) (out : List Value), SrtO.Srtd (fun v u => SrtO.lexB (k v) (k u)) out → SrtO.Stb (fun v u => SrtO.lexB (k v) (k u)) out vs → (∀ b o, s.heap.get? b = some o → h'.get? b = some o) → s.heap.objs.size ≤ d → (∃ n, h'.get? d = some (seqObj "list" out.toArray n)) → Q (.ref d) { s with heap := h' }) :
    wpAny (model prog w) A (call (.builtin "sorted") [.ref l]) Q E s := by
  refine SrtO.sorted_ord (SrtO.swo_lex k) hl hz (fun h2 h₁ a ha kk h' keep => ?_) fun out hs hb => ?_
  · have hall : ∀ v ∈ vs, ∃ as, Reads h' v (rkR (k v)) as := fun v hm => by
      obtain ⟨as, r⟩ := hp v hm
      exact ⟨as, PyProof.Rows.Reads.keeps (fun b o e => keep b o (kk b o e).1 (kk b o e).2) r⟩
    refine ⟨oneType', fun Q E hq => ?_, rk_cmp (s := { s with heap := h' }) (show A.in1.in1.units + 8 < cLine by show A.units + 1 + 1 + 8 < cLine; omega) hall⟩
    refine PySem.W.kas_kind (s := { s with heap := h' }) (T := .type "list") h2 (fun v hm => ?_) (by rfl) (by simp) hq
    obtain ⟨as, r⟩ := hall v hm
    exact rk_type r
  · exact h _ _ out hs hb (fun b o e => sortedAll_old e) (Nat.le_succ _) (sortedAll_at s.heap vs out.toArray)
end
/-- the second item of a rank, as a value -/
def rkV (j : Int) : V := if j = 3 then .str "a" else if j = 2 then .int 1 else .int j
/-- the ranks of a row, at p -/
def RkAt (H : Hp) (c : Int × Int) (p : Addr) : Prop := ∃ a b, H p = some (.lst [.ref a, .ref b]) ∧ H a = some (.tup [.int 2, .int c.1]) ∧ H b = some (.tup [.int c.2, rkV c.2])
theorem RkAt.keep {H H' : Hp} {c : Int × Int} {p : Addr} (r : RkAt H c p) (s : ∀ b o, H b = some o → H' b = some o) : RkAt H' c p := by
  obtain ⟨a, b, h1, h2, h3⟩ := r
  exact ⟨a, b, s _ _ h1, s _ _ h2, s _ _ h3⟩
theorem rkV_dp {K : PySem.W.Frag} {H : Hp} (j : Int) : Dp K H (rkV j) (rkB j) := by
  unfold rkV rkB
  split
  · exact .str _
  · split
    · exact .int _
    · exact .int _
theorem RkAt.dp {K : PySem.W.Frag} {H : Hp} {c : Int × Int} {p : Addr} (r : RkAt H c p) : Dp K H (.ref p) (rkR c) := by
  obtain ⟨a, b, h1, h2, h3⟩ := r
  exact .lst (.inl (.inl h1)) (.cons (.tup (.inl (.inl h2)) (.cons (.int _) (.cons (.int _) .nil))) (.cons (.tup (.inl (.inl h3)) (.cons (.int _) (.cons (rkV_dp _) .nil))) .nil))
/-- the code of the row of ranks at v -/
def rkK (H : Hp) : V → Int × Int
  | .ref p => match H p with
    | some (.lst [.ref a, .ref b]) => ((match H a with | some (.tup [_, .int i]) => i | _ => 0), (match H b with | some (.tup [.int j, _]) => j | _ => 0))
    | _ => (0, 0)
  | _ => (0, 0)
theorem rkK_of {H : Hp} {c : Int × Int} {p : Addr} (r : RkAt H c p) : rkK H (.ref p) = c := by
  obtain ⟨a, b, h1, h2, h3⟩ := r
  unfold rkK
  simp only [h1, h2, h3]
abbrev RksAt (H : Hp) (cs : List (Int × Int)) (ps : List Addr) : Prop := Paired (RkAt H) cs ps
theorem rks_map {H : Hp} {cs : List (Int × Int)} {ps : List Addr} (r : RksAt H cs ps) : (ps.map V.ref).map (rkK H) = cs ∧ ∀ x ∈ ps.map V.ref, ∃ p, x = .ref p ∧ RkAt H (rkK H x) p := by
  induction r with
  | nil => exact ⟨rfl, fun x hx => nomatch hx⟩
  | @cons c p cs ps h t ih =>
    obtain ⟨h1, h2⟩ := ih
    refine ⟨by rw [List.map_cons, List.map_cons, h1, rkK_of h], fun x hx => ?_⟩
    rw [List.map_cons] at hx
    rcases List.mem_cons.mp hx with rfl | hx
    · exact ⟨p, rfl, by rw [rkK_of h]; exact h⟩
    · exact h2 x hx
theorem rks_of {H : Hp} : ∀ {ys : List V}, (∀ x ∈ ys, ∃ p, x = V.ref p ∧ RkAt H (rkK H x) p) → ∃ ps, ys = ps.map V.ref ∧ RksAt H (ys.map (rkK H)) ps
  | [], _ => ⟨[], rfl, .nil⟩
  | y :: ys, h => by
    obtain ⟨p, rfl, r⟩ := h _ List.mem_cons_self
    obtain ⟨ps, rfl, rs⟩ := rks_of fun x hx => h x (List.mem_cons_of_mem _ hx)
    exact ⟨p :: ps, rfl, .cons r rs⟩
/-- sorted(xs), xs rows of ranks -/
def rSortedR (K : PySem.W.Frag) : List V → Hp → VK → Prop := fun vs H Q => ∃ (a : Addr) (ps : List Addr) (cs : List (Int × Int)), vs = [V.ref a] ∧ SqL K H a (ps.map V.ref) ∧ RksAt H cs ps ∧
  ∀ qs ds p, RksAt H ds qs → ds.Perm cs → SrtO.Srtd SrtO.lexB ds → H p = none → Q (.ref p) (upd H p (.lst (qs.map V.ref)))
theorem cr_sortedR {X : Cx} (hu : X.A.units + 16 < cLine) : CallR X (.builtin "sorted") (rSortedR X.K) := by
  intro pins s σ H vs us Q I r h
  obtain ⟨a, ps, cs, rfl, hs, hr, q⟩ := h
  obtain ⟨its, rv, hl, hz⟩ := I.list hs
  obtain ⟨u, rfl, ru⟩ := vals1 r
  obtain rfl : u = Value.ref a := ru
  obtain ⟨e1, e2⟩ := refs_back rv fun x m => by
    obtain ⟨p, _, rfl⟩ := List.mem_map.mp m
    exact ⟨p, rfl⟩
  obtain ⟨k1, k2⟩ := rks_map hr
  refine sorted_ranks (k := fun u => rkK H (backV u)) hu hl.isList (by rw [← rv.length]; exact hz) (fun v hv => ?_) fun h' d out h1 h2 kp hd hn => ?_
  · obtain ⟨t, rfl⟩ := e2 v hv
    have hm : V.ref t ∈ ps.map V.ref := by rw [e1]; exact List.mem_map.mpr ⟨_, hv, rfl⟩
    obtain ⟨p, e, rk⟩ := k2 _ hm
    cases e
    exact Dp.reads I _ _ _ (RkAt.dp rk) rfl
  · have h3 : ∀ u ∈ out, ∃ a, u = Value.ref a := fun u hu => e2 u (h2.perm.mem_iff.mp hu)
    obtain ⟨n, hn⟩ := hn
    have hb : (out.map backV).Perm (ps.map V.ref) := by
      rw [e1]
      exact h2.perm.map backV
    obtain ⟨qs, eq, rq⟩ := rks_of (H := H) (ys := out.map backV) fun x hx => k2 x (hb.mem_iff.mp hx)
    have hp : ((out.map backV).map (rkK H)).Perm cs := by
      rw [← k1]
      exact hb.map _
    have hsd : SrtO.Srtd SrtO.lexB ((out.map backV).map (rkK H)) := by
      rw [List.map_map]
      exact List.pairwise_map.mpr h1
    refine ⟨.ref d, upd H d (.lst (out.map backV)), I.laid (t' := s.toks) kp hd ⟨?_, out, n, vals_back h3, hn⟩, rfl, ?_⟩
    · rw [hb.length_eq]
      exact hz
    · rw [eq]
      exact q qs _ d rq hp hsd (I.hok.fresh hd)
/-- two sorted rearrangements are one -/
theorem lexB_anti {x y : Int × Int} (h1 : SrtO.lexB y x = false) (h2 : SrtO.lexB x y = false) : x = y := by
  rw [SrtO.lexB_no] at h1 h2
  obtain ⟨a, b⟩ := x
  obtain ⟨c, d⟩ := y
  simp only at h1 h2
  have e1 : a = c := by omega
  have e2 : b = d := by omega
  rw [e1, e2]
theorem srt_uniq {l m : List (Int × Int)} (hl : SrtO.Srtd SrtO.lexB l) (hm : SrtO.Srtd SrtO.lexB m) (p : l.Perm m) : l = m :=
  List.Perm.eq_of_pairwise (le := fun x y => SrtO.lexB y x = false) (fun _ _ _ _ h h' => lexB_anti h h') hl hm p
end Sb
set_option Elab.async false
set_option maxRecDepth 100000
set_option maxHeartbeats 4000000
/-! Own rule: l.remove(x), items data of any depth, an equal one there. -/
namespace Sb
open PySem PySem.Spec PyProof.Rows L2 SX
def rRemoveD (K : PySem.W.Frag) : V → List V → Hp → VK → Prop := fun x xs H Q => ∃ (a : Addr) (vs : List V) (y : V) (d : PyData) (ds : List PyData) (j : Nat) (z : PyData), x = V.ref a ∧ xs = [y] ∧ H a = some (.lst vs) ∧ DpAll K H vs ds ∧ Dp K H y d ∧
  SeqAt.shaped (.list ds) = true ∧ SeqAt.shaped d = true ∧ ds[j]? = some z ∧ PyData.eqv z d = true ∧ (∀ (m : Nat) (z' : PyData), m < j → ds[m]? = some z' → PyData.eqv z' d = false) ∧ Q .non (upd H a (.lst (vs.eraseIdx j)))
theorem mt_removeD {X : Cx} (hu : X.A.units + 65 < cLine) : MtR X "list.remove" (rRemoveD X.K) := by
  intro pins s σ H x xs v us Q I rx rxs h
  obtain ⟨a, vs, y, d, ds, j, z, rfl, rfl, hH, ha, hy, sl, sd, hz, hzj, hno, q⟩ := h
  cases rx
  cases rxs with
  | cons ry rt =>
    rename_i uy ut
    cases rt
    obtain ⟨bs, r1⟩ := Dp.reads I d y uy hy ry
    have hxs : PyData.canLayAll0 ds = true := SeqAt.canLay_of_shaped sl
    have hroom : X.A.units + 1 + min (PyData.depthAll ds) d.depth < cLine := room_in_shaped sd hu
    obtain ⟨z0, its, n, r, hl, e0⟩ := I.lstM hH
    obtain ⟨as, h4⟩ := Dp.readsAll I ds _ its ha r
    have hn : its.length = ds.length := SeqAt.ReadsAll.length ds its as h4
    have hmap : its.map (SeqAt.readOf s.heap) = ds := SeqAt.readsAll_map ds its as hxs h4
    obtain ⟨hjd, _⟩ := List.getElem?_eq_some_iff.mp hz
    have hjl : j < its.length := by omega
    have hj : j < its.toArray.size := by simpa using hjl
    have hsz : its.toArray.size ≤ sizeLine := by rw [List.size_toArray, ← hl]; exact z0
    have at_ : ∀ (m : Nat) (hm : m < its.toArray.size) (z' : PyData), ds[m]? = some z' → SeqAt.readOf s.heap its.toArray[m] = z' := by
      intro m hm z' hz'
      have hml : m < its.length := by simpa using hm
      rw [← hmap, List.getElem?_map, List.getElem?_eq_getElem hml] at hz'
      have e1 : SeqAt.readOf s.heap its[m] = z' := Option.some.inj (show some (SeqAt.readOf s.heap its[m]) = some z' from hz')
      simpa using e1
    refine call_meets PySem.F.slot_list_remove ⟨_, e0, rfl⟩ PySem.F.entry_list_remove (PySem.F.args_list_remove_2 _ _)
      (SeqAt.list_removeAt a its.toArray n none #[] uy (fun u => PyData.eqv (SeqAt.readOf s.heap u) d) j hj ?_ ?_ hsz) ⟨e0, SeqAt.items_eqAt (vs := its.toArray) (show ReadsAll s.heap its.toArray.toList ds as from h4) r1 hxs (SeqAt.canLay_of_shaped sd) hroom, ?_⟩
    · show PyData.eqv (SeqAt.readOf s.heap its.toArray[j]) d = true
      rw [at_ j hj z hz]
      exact hzj
    · intro m hm hmj
      have hmd : m < ds.length := by omega
      have hz' : ds[m]? = some ds[m] := List.getElem?_eq_getElem hmd
      show PyData.eqv (SeqAt.readOf s.heap its.toArray[m]) d = false
      rw [at_ m hm _ hz']
      exact hno m _ hmj hz'
    · refine ⟨.non, _, I.lset (its' := its.eraseIdx j) hH e0 ?_ (r.eraseIdx j) ?_, rfl, q⟩
      · show its.toArray.eraseIdxIfInBounds j = (its.eraseIdx j).toArray
        rw [List.eraseIdxIfInBounds_toArray]
      · have := List.length_eraseIdx_le vs j
        omega
end Sb
set_option Elab.async false
set_option maxRecDepth 100000
set_option maxHeartbeats 4000000
/-! Own words: paired lists, places, heaps. -/
namespace Sb
open PySem PySem.Spec PyProof.Rows L2 SX
theorem paired_mono {α β : Type} {F G : α → β → Prop} (h : ∀ a b, F a b → G a b) : ∀ {l : List α} {m : List β}, Paired F l m → Paired G l m
  | _, _, .nil => .nil
  | _, _, .cons r t => .cons (h _ _ r) (paired_mono h t)
theorem paired_len {α β : Type} {F : α → β → Prop} : ∀ {l : List α} {m : List β}, Paired F l m → l.length = m.length
  | _, _, .nil => rfl
  | _, _, .cons _ t => by simp [paired_len t]
theorem paired_get {α β : Type} {F : α → β → Prop} : ∀ {l : List α} {m : List β} {i : Nat} {a : α}, Paired F l m → l[i]? = some a → ∃ b, m[i]? = some b ∧ F a b
  | _, _, i, _, .nil, h => by simp at h
  | _, _, 0, _, .cons r _, h => by simp at h; subst h; exact ⟨_, rfl, r⟩
  | _, _, i + 1, _, .cons _ t, h => by
    obtain ⟨b, h1, h2⟩ := paired_get (i := i) t (by simpa using h)
    exact ⟨b, by simpa using h1, h2⟩
theorem paired_get2 {α β : Type} {F : α → β → Prop} : ∀ {l : List α} {m : List β} {i : Nat} {b : β}, Paired F l m → m[i]? = some b → ∃ a, l[i]? = some a ∧ F a b
  | _, _, i, _, .nil, h => by simp at h
  | _, _, 0, _, .cons r _, h => by simp at h; subst h; exact ⟨_, rfl, r⟩
  | _, _, i + 1, _, .cons _ t, h => by
    obtain ⟨b, h1, h2⟩ := paired_get2 (i := i) t (by simpa using h)
    exact ⟨b, by simpa using h1, h2⟩
theorem paired_app {α β : Type} {F : α → β → Prop} : ∀ {l l' : List α} {m m' : List β}, Paired F l m → Paired F l' m' → Paired F (l ++ l') (m ++ m')
  | _, _, _, _, .nil, h => h
  | _, _, _, _, .cons a t, h => .cons a (paired_app t h)
theorem paired_take {α β : Type} {F : α → β → Prop} : ∀ {l : List α} {m : List β} (n : Nat), Paired F l m → Paired F (l.take n) (m.take n)
  | _, _, 0, _ => .nil
  | _, _, _ + 1, .nil => .nil
  | _, _, n + 1, .cons a t => .cons a (paired_take n t)
theorem lt_sz {n : Nat} (h : n ≤ 200000) : n ≤ sizeLine := Nat.le_trans h (by decide)
theorem lt_sz' {n : Nat} (h : n ≤ 200000) : n < sizeLine := Nat.lt_of_le_of_lt h (by decide)
theorem at0 {α : Type} {x : α} {l : List α} : atI (x :: l) 0 = some x := atI_nat (j := 0) rfl
theorem at1 {α : Type} {x y : α} {l : List α} : atI (x :: y :: l) 1 = some y := atI_nat (j := 1) rfl
theorem at2 {α : Type} {x y z : α} {l : List α} : atI (x :: y :: z :: l) 2 = some z := atI_nat (j := 2) rfl
theorem at3 {α : Type} {x y z u : α} {l : List α} : atI (x :: y :: z :: u :: l) 3 = some u := atI_nat (j := 3) rfl
theorem atI2 {α : Type} {x : α} {l : List α} {i : Int} {j : Nat} (hi : i = (j : Int)) (h : l[j]? = some x) : atI l i = some x := by
  subst hi
  exact atI_nat h
theorem take_next {α : Type} {l : List α} {i : Nat} {x : α} (h : l[i]? = some x) : l.take (i + 1) = l.take i ++ [x] := by rw [List.take_add_one, h]; rfl
theorem kp_same {p : Addr} {H0 H H' : Hp} (s : Same H0 H) (h0 : H0 p = none) (k : Kp p H H') : Same H0 H' := fun b o e => k.1 b o (ne_of_none e h0) (s b o e)
theorem Dr.ext {p : Addr} {H H' : Hp} (d : Dr H p) (s : Same H H') : Dr H' p := by
  obtain ⟨z, h⟩ := d
  exact ⟨z, s _ _ h⟩
theorem new_ne {p t : Addr} {H : Hp} (d : Dr H p) (h : H t = none) : t ≠ p := fun z => by
  obtain ⟨y, hy⟩ := d
  rw [z, hy] at h
  cases h
/-- all stands but the object at L -/
def KpL (L : Addr) (H H' : Hp) : Prop := ∀ b o, b ≠ L → H b = some o → H' b = some o
theorem KpL.refl {L : Addr} {H : Hp} : KpL L H H := fun _ _ _ h => h
theorem KpL.trans {L : Addr} {H H1 H2 : Hp} (a : KpL L H H1) (b : KpL L H1 H2) : KpL L H H2 := fun x o hx h => b x o hx (a x o hx h)
theorem KpL.of_same {L : Addr} {H H1 : Hp} (s : Same H H1) : KpL L H H1 := fun x o _ h => s x o h
theorem KpL.upd {L : Addr} {H : Hp} {o : HO} : KpL L H (upd H L o) := fun x u hx h => by rw [upd_ne hx]; exact h
/-- a heap that does not know L keeps everything -/
theorem KpL.same {L : Addr} {H0 H H' : Hp} (k : KpL L H H') (s : Same H0 H) (h : H0 L = none) : Same H0 H' := fun b o e => k b o (ne_of_none e h) (s b o e)
theorem same_refl {H : Hp} : Same H H := fun _ _ h => h
theorem same_trans {H H1 H2 : Hp} (a : Same H H1) (b : Same H1 H2) : Same H H2 := fun x o h => b x o (a x o h)
end Sb
set_option Elab.async false
set_option maxRecDepth 100000
set_option maxHeartbeats 4000000
namespace Sb
open PySem PySem.Spec PyProof.Rows L2 SX
def top (i : Nat) : Stmt := PySem.Challenge.pw_stylobate_k76_changes_of_bags.main.body.getD i (.Pass ⟨0, 0, 0, 0⟩)
abbrev s__law_cell : Stmt := top 9
abbrev sc__law_cell_N : List Str := ["_law_script", "_law_k"]
theorem sc__law_cell : FnScope sc__law_cell_N ["_law_script", "_law_k"] (defScope s__law_cell) := ⟨rfl, rfl, rfl, by decide +kernel, rfl, by decide +kernel, by decide +kernel⟩
abbrev s__law_state : Stmt := top 10
abbrev sc__law_state_N : List Str := ["_law_cell_here", "_law_k", "_law_prime", "_law_first", "_law_second", "_law_third", "_law_fourth"]
theorem sc__law_state : FnScope sc__law_state_N ["_law_cell_here", "_law_k"] (defScope s__law_state) := ⟨rfl, rfl, rfl, by decide +kernel, rfl, by decide +kernel, by decide +kernel⟩
abbrev s__law_digit : Stmt := top 11
abbrev sc__law_digit_N : List Str := ["_law_state_here", "_law_many", "_law_digit_here"]
theorem sc__law_digit : FnScope sc__law_digit_N ["_law_state_here", "_law_many"] (defScope s__law_digit) := ⟨rfl, rfl, rfl, by decide +kernel, rfl, by decide +kernel, by decide +kernel⟩

structure Txt (K : PySem.W.Frag) (mg : Str → Option Value) (C fS pN fN : Addr) : Prop where
  n_len : mg "len" = none
  n_int : mg "int" = none
  n_range : mg "range" = none
  n_min : mg "min" = none
  n_max : mg "max" = none
  n_isinstance : mg "isinstance" = none
  n_list : mg "list" = none
  n_tuple : mg "tuple" = none
  n_bool : mg "bool" = none
  n_sorted : mg "sorted" = none
  cls : Cls K C
  n_gone : NoAttr K C "gone"
  n_come : NoAttr K C "come"
  m_small : Meth K C "small" fS
  p_nothing : PropOf K C "nothing" pN fN
  g_Change : mg "Change" = some (.ref C)

theorem _root_.L2.Room.u2 {k : Nat} {A : Around} (r : Room k A) : A.units + 2 < cLine := by have := r.un; omega
theorem _root_.L2.Room.u16 {k : Nat} {A : Around} (r : Room k A) : A.units + 16 < cLine := by have := r.un; omega
theorem _root_.L2.Room.u65 {k : Nat} {A : Around} (r : Room k A) : A.units + 65 < cLine := by have := r.un; omega
theorem big_log {m : Int} (h : m < 10000000000000) (h0 : 0 < m) : m.natAbs.log2 < 9000 := by
  have h1 : m.natAbs < 2 ^ 44 := by omega
  have h2 : m.natAbs ≠ 0 := by omega
  exact Nat.lt_of_lt_of_le ((Nat.log2_lt h2).mpr h1) (by decide)
def spCell (K : PySem.W.Frag) : Sp := fun vs H Q _ => ∃ (a : Addr) (ns : List Int) (j : Nat), vs = [.ref a, .int (j : Int)] ∧ SqL K H a (ns.map V.int) ∧ ∀ z : Int, Q (.int z) H
def spState : Sp := fun vs H Q _ => ∃ (c k : Int), vs = [.int c, .int k] ∧ ∀ (p : Addr) (z : Int), H p = none → Q (.ref p) (upd H p (.lst [.int z]))
def spDigit : Sp := fun vs H Q _ => ∃ (p : Addr) (m : Int), vs = [.ref p, .int m] ∧ Dr H p ∧ 0 < m ∧ m < 10000000000000 ∧ ∀ (d : Int) (H' : Hp), 0 ≤ d → d < m → Kp p H H' → Q (.int d) H'


section
variable {P : Program} {w : World} {K : PySem.W.Frag} {mg : Str → Option Value} {base : Heap} {C fS pN fN : Addr}
theorem ok__law_cell {f : Addr} {fd : FuncData} (F : Fun K "_law_cell" "_law_cell" s__law_cell f fd) (T : Txt K mg C fS pN fN) : FnOk P w K mg base CX0 1 f fd ["_law_script", "_law_k"] (spCell K) := by
  refine F.ok sc__law_cell (fun vs H Q E h => ?_) (fun cdv A outer s H vs Q E hr h => ?_)
  · obtain ⟨a, ns, j, rfl, _⟩ := h
    rfl
  · obtain ⟨a, ns, j, rfl, hS, k⟩ := h
    refine ⟨_, pss_cons (ps_if (pt_cmpR op_lt (pv 1) (pe_callB call_len_seq (by rfl) T.n_len PySem.boot_len (pa_cons (pv 0) pa_nil)) (nomark _)) (pss_one (ps_ret (pe_ix ix_list (pv 0) (pv 1) (fun _ _ => rfl)))) pss_nil)
  (pss_one (ps_ret pe_int)), ?_⟩
    refine ⟨_, rfl, _, rfl, a, _, rfl, .inl hS, _, _, rfl, rfl, _, rfl, ?_⟩
    refine ite2 (fun hlt => ?_) (fun _ => ?_)
    · have hj : j < ns.length := by
        have := of_decide_eq_true hlt
        rw [List.length_map] at this
        omega
      have e : (ns.map V.int)[j]? = some (V.int ns[j]) := by rw [List.getElem?_map, List.getElem?_eq_getElem hj]; rfl
      exact ⟨_, rfl, _, rfl, a, _, _, _, rfl, rfl, hS, atI_nat e, k _⟩
    · exact k _
theorem ok__law_state {f : Addr} {fd : FuncData} (F : Fun K "_law_state" "_law_state" s__law_state f fd) (T : Txt K mg C fS pN fN) : FnOk P w K mg base CX0 1 f fd ["_law_cell_here", "_law_k"] spState := by
  refine F.ok sc__law_state (fun vs H Q E h => ?_) (fun cdv A outer s H vs Q E hr h => ?_)
  · obtain ⟨c, i, rfl, _⟩ := h
    rfl
  · obtain ⟨c, i, rfl, k⟩ := h
    refine ⟨_, (pss_cons (ps_if (pt_cmpR op_ge (pv 0) pe_int (nomark _)) (pss_one (ps_ret (pe_lst (pa_cons (pv 0) pa_nil)))) pss_nil)
  (pss_cons (ps_set (i := 2) sc__law_state.nd rfl (Or.inl rfl) pe_int)
  (pss_cons (ps_set (i := 3) sc__law_state.nd rfl (Or.inl rfl) (pe_op op_mod (pe_callTy call_int1 (by rfl) T.n_int (by decide +kernel) (pa_cons (pe_op op_add (pe_op op_add (pe_op op_mul (pv 0) pe_int) (pe_op op_mul (pe_op op_add (pv 1) pe_int) pe_int)) pe_int) pa_nil)) (pv 2)))
  (pss_cons (ps_set (i := 4) sc__law_state.nd rfl (Or.inl rfl) (pe_op op_mod (pe_callTy call_int1 (by rfl) T.n_int (by decide +kernel) (pa_cons (pe_op op_add (pe_op op_add (pe_op op_mul (pv 3) (pv 3)) (pe_op op_mul pe_int (pv 3))) (pv 1)) pa_nil)) (pv 2)))
  (pss_cons (ps_set (i := 5) sc__law_state.nd rfl (Or.inl rfl) (pe_op op_mod (pe_callTy call_int1 (by rfl) T.n_int (by decide +kernel) (pa_cons (pe_op op_add (pe_op op_add (pe_op op_mul (pv 4) pe_int) (pe_op op_mul (pv 3) pe_int)) pe_int) pa_nil)) (pv 2)))
  (pss_cons (ps_set (i := 6) sc__law_state.nd rfl (Or.inl rfl) (pe_op op_mod (pe_callTy call_int1 (by rfl) T.n_int (by decide +kernel) (pa_cons (pe_op op_add (pe_op op_mul (pv 5) (pv 5)) (pv 4)) pa_nil)) (pv 2)))
  (pss_one (ps_ret (pe_lst (pa_cons (pe_op op_add (pe_op op_mul (pe_op op_add (pe_op op_mul (pe_op op_add (pe_op op_mul (pv 6) (pv 2)) (pv 5)) (pv 2)) (pv 4)) (pv 2)) (pv 3)) pa_nil)))))))))), ?_⟩
    refine ⟨_, rfl, _, _, rfl, rfl, _, rfl, ?_⟩
    refine ite2 (fun _ => ?_) (fun _ => ?_)
    · exact ⟨_, rfl, by show 1 ≤ sizeLine; decide, fun p hp => k p _ hp⟩
    have pr : (0 : Int) < 2305843009213693951 := by decide
    have md : ∀ x : Int, -(2 ^ 64) < x % 2305843009213693951 ∧ x % 2305843009213693951 < 2 ^ 64 := fun x => by
      have h1 := Int.emod_nonneg x (b := 2305843009213693951) (by decide)
      have h2 := Int.emod_lt_of_pos x pr
      omega
    have c1 : -(2 ^ 64) < (6364136223 : Int) ∧ (6364136223 : Int) < 2 ^ 64 := by decide
    refine ⟨_, rfl, _, _, rfl, rfl, .inr (by decide), _, rfl, _, _, rfl, rfl, _, _, rfl, rfl, .inr (by decide), _, _, rfl, rfl, _, _, rfl, rfl, .inl ⟨_, rfl, ?_⟩⟩
    refine ⟨_, rfl, _, _, rfl, rfl, pr, ?_⟩
    refine ⟨_, rfl, _, rfl, _, _, rfl, rfl, .inl (md _), _, rfl, _, _, rfl, rfl, .inl (by decide), _, _, rfl, rfl, _, rfl, _, _, rfl, rfl, .inl ⟨_, rfl, ?_⟩⟩
    refine ⟨_, rfl, _, _, rfl, rfl, pr, ?_⟩
    refine ⟨_, rfl, _, _, rfl, rfl, .inr (by decide), _, rfl, _, _, rfl, rfl, .inr (by decide), _, _, rfl, rfl, _, _, rfl, rfl, .inl ⟨_, rfl, ?_⟩⟩
    refine ⟨_, rfl, _, _, rfl, rfl, pr, ?_⟩
    refine ⟨_, rfl, _, rfl, _, _, rfl, rfl, .inl (md _), _, rfl, _, _, rfl, rfl, .inl ⟨_, rfl, ?_⟩⟩
    refine ⟨_, rfl, _, _, rfl, rfl, pr, ?_⟩
    refine ⟨_, rfl, _, rfl, _, _, rfl, rfl, .inr (by decide), _, rfl, _, _, rfl, rfl, _, rfl, _, _, rfl, rfl, .inr (by decide), _, rfl, _, _, rfl, rfl, _, rfl, _, _, rfl, rfl, .inr (by decide), _, rfl, _, _, rfl, rfl, by show 1 ≤ sizeLine; decide, fun p hp => k p _ hp⟩
theorem ok__law_digit {f : Addr} {fd : FuncData} (F : Fun K "_law_digit" "_law_digit" s__law_digit f fd) (T : Txt K mg C fS pN fN) : FnOk P w K mg base CX0 1 f fd ["_law_state_here", "_law_many"] spDigit := by
  refine F.ok sc__law_digit (fun vs H Q E h => ?_) (fun cdv A outer s H vs Q E hr h => ?_)
  · obtain ⟨p, m, rfl, _⟩ := h
    rfl
  · obtain ⟨p, m, rfl, ⟨z, hz⟩, m0, m1, k⟩ := h
    refine ⟨_, (pss_cons (ps_set (i := 2) sc__law_digit.nd rfl (Or.inl rfl) (pe_op op_mod (pe_callTy call_int1 (by rfl) T.n_int (by decide +kernel) (pa_cons (pe_ix ix_list (pv 0) pe_int (fun _ _ => rfl)) pa_nil)) (pv 1)))
  (pss_cons (ps_asg (pe_op op_fdivW (pe_ix ix_list (pv 0) pe_int (fun _ _ => rfl)) (pv 1)) (pg_sub (pv 0) pe_int set_list))
  (pss_one (ps_ret (pv 2))))), ?_⟩
    refine ⟨_, rfl, p, _, _, _, rfl, rfl, seqL hz, rfl, .inl ⟨_, rfl, _, rfl, _, _, rfl, rfl, m0, ?_⟩⟩
    refine ⟨_, rfl, p, _, _, _, rfl, rfl, seqL hz, rfl, _, rfl, _, _, rfl, rfl, ⟨m0, big_log m1 m0⟩, _, rfl, p, _, _, 0, rfl, rfl, hz, rfl, _, rfl, ?_⟩
    refine k _ _ (Int.emod_nonneg _ (by omega)) (Int.emod_lt_of_pos _ m0) ⟨fun b o hb e => by rw [upd_ne hb]; exact e, _, upd_same⟩
end
end Sb
set_option Elab.async false
set_option maxRecDepth 100000
set_option maxHeartbeats 4000000
namespace Sb
open PySem PySem.Spec PyProof.Rows L2 SX
abbrev s_rank : Stmt := top 1
abbrev sc_rank_N : List Str := ["value"]
theorem sc_rank : FnScope sc_rank_N ["value"] (defScope s_rank) := ⟨rfl, rfl, rfl, by decide +kernel, rfl, by decide +kernel, by decide +kernel⟩
abbrev s_row_rank : Stmt := top 2
abbrev sc_row_rank_N : List Str := ["row", "value"]
theorem sc_row_rank : FnScope sc_row_rank_N ["row"] (defScope s_row_rank) := ⟨rfl, rfl, rfl, by decide +kernel, rfl, by decide +kernel, by decide +kernel⟩
abbrev s__law_rank : Stmt := top 13
abbrev sc__law_rank_N : List Str := ["_law_value_here"]
theorem sc__law_rank : FnScope sc__law_rank_N ["_law_value_here"] (defScope s__law_rank) := ⟨rfl, rfl, rfl, by decide +kernel, rfl, by decide +kernel, by decide +kernel⟩
abbrev s__law_ranks : Stmt := top 14
abbrev sc__law_ranks_N : List Str := ["_law_row", "_law_value_here"]
theorem sc__law_ranks : FnScope sc__law_ranks_N ["_law_row"] (defScope s__law_ranks) := ⟨rfl, rfl, rfl, by decide +kernel, rfl, by decide +kernel, by decide +kernel⟩
/-- the rank of a value -/
def rkOf : V → Option (Int × V)
  | .non => some (0, .int 0)
  | .bl b => some (1, .int (if b then 1 else 0))
  | .int i => some (2, .int i)
  | .str x => some (3, .str x)
  | _ => none
def spRank : Sp := fun vs H Q _ => ∃ (v : V) (i : Int) (u : V), vs = [v] ∧ rkOf v = some (i, u) ∧ ∀ p, H p = none → Q (.ref p) (upd H p (.tup [.int i, u]))
/-- the second cell of a row -/
def cellV (j : Int) : V := if j = 0 then .non else if j = 1 then .bl true else if j = 2 then .int 1 else .str "a"
def Okc (c : Int × Int) : Prop := 0 ≤ c.2 ∧ c.2 ≤ 3
theorem cellV_rk {j : Int} (h : 0 ≤ j ∧ j ≤ 3) : rkOf (cellV j) = some (j, rkV j) := by
  have : j = 0 ∨ j = 1 ∨ j = 2 ∨ j = 3 := by omega
  rcases this with rfl | rfl | rfl | rfl <;> rfl
/-- the row at p -/
def RowAt (H : Hp) (c : Int × Int) (p : Addr) : Prop := H p = some (.lst [.int c.1, cellV c.2])
def rkN (j : Int) : List Key := [.inl j, if j = 3 then .inr "a" else if j = 2 then .inl 1 else .inl j]
/-- the key of a row -/
def nkOf (c : Int × Int) : NK := [[.inl 2, .inl c.1], rkN c.2]
theorem rkN_V (j : Int) : (rkN j).map kV = [.int j, rkV j] := by
  unfold rkN rkV
  by_cases h3 : j = 3
  · rw [if_pos h3, if_pos h3]; rfl
  · rw [if_neg h3, if_neg h3]
    by_cases h2 : j = 2
    · rw [if_pos h2, if_pos h2]; rfl
    · rw [if_neg h2, if_neg h2]; rfl
theorem nkOf_inj {c d : Int × Int} (h : nkOf c = nkOf d) : c = d := by
  obtain ⟨a, b⟩ := c
  obtain ⟨a', b'⟩ := d
  unfold nkOf rkN at h
  simp only [List.cons.injEq, Sum.inl.injEq] at h
  rw [h.1.2.1, h.2.1.1]
def spRowRank : Sp := fun vs H Q _ => ∃ (p : Addr) (c : Int × Int), vs = [.ref p] ∧ RowAt H c p ∧ Okc c ∧ ∀ (H' : Hp) (q : Addr), Same H H' → NestAt H' (nkOf c) q → Q (.ref q) H'
def spRanks : Sp := fun vs H Q _ => ∃ (p : Addr) (c : Int × Int), vs = [.ref p] ∧ RowAt H c p ∧ Okc c ∧ ∀ (H' : Hp) (q : Addr), Same H H' → H q = none → RkAt H' c q → Q (.ref q) H'
section
variable {P : Program} {w : World} {K : PySem.W.Frag} {mg : Str → Option Value} {base : Heap} {C fS pN fN : Addr}
theorem ok_rank {f : Addr} {fd : FuncData} (F : Fun K "rank" "rank" s_rank f fd) (T : Txt K mg C fS pN fN) : FnOk P w K mg base CX0 1 f fd ["value"] spRank := by
  refine F.ok sc_rank (fun vs H Q E h => ?_) (fun cdv A outer s H vs Q E hr h => ?_)
  · obtain ⟨_, _, _, rfl, _⟩ := h
    rfl
  · obtain ⟨v, i, u, rfl, hv, k⟩ := h
    refine ⟨_, (pss_cons (ps_if (pt_cmpR op_isN (pv 0) pe_non (nomark _)) (pss_one (ps_ret (pe_tup (pa_cons pe_int (pa_cons pe_int pa_nil))))) pss_nil)
  (pss_cons (ps_if (pt_val (pe_callB call_isi (by rfl) T.n_isinstance (by decide +kernel) (pa_cons (pv 0) (pa_cons (pe_bltn (by rfl) T.n_bool (by decide +kernel) (show RelV (.ty "bool") (.type "bool") from rfl)) pa_nil)))) (pss_one (ps_ret (pe_tup (pa_cons pe_int (pa_cons (pe_callTy call_int1 (by rfl) T.n_int (by decide +kernel) (pa_cons (pv 0) pa_nil)) pa_nil))))) pss_nil)
  (pss_cons (ps_if (pt_val (pe_callB call_isi (by rfl) T.n_isinstance (by decide +kernel) (pa_cons (pv 0) (pa_cons (pe_bltn (by rfl) T.n_int (by decide +kernel) (show RelV (.ty "int") (.type "int") from rfl)) pa_nil)))) (pss_one (ps_ret (pe_tup (pa_cons pe_int (pa_cons (pv 0) pa_nil))))) pss_nil)
  (pss_one (ps_ret (pe_tup (pa_cons pe_int (pa_cons (pv 0) pa_nil)))))))), ?_⟩
    cases v with
    | non =>
      cases hv
      refine ⟨_, rfl, rfl, true, rfl, ?_⟩
      exact iteT ⟨lt_sz (show 2 ≤ 200000 by decide), k⟩
    | bl b =>
      cases hv
      refine ⟨_, rfl, rfl, false, rfl, ?_⟩
      refine iteF ⟨_, rfl, _, _, _, _, true, rfl, .ty _, .base (.bl _), kit_ty (by decide +kernel), true, rfl, iteT ?_⟩
      exact ⟨_, rfl, .inr ⟨_, rfl, lt_sz (show 2 ≤ 200000 by decide), k⟩⟩
    | int j =>
      cases hv
      refine ⟨_, rfl, rfl, false, rfl, ?_⟩
      refine iteF ⟨_, rfl, _, _, _, _, false, rfl, .ty _, .base (.int _), kit_ty (by decide +kernel), false, rfl, iteF ?_⟩
      refine ⟨_, rfl, _, _, _, _, true, rfl, .ty _, .base (.int _), kit_ty (by decide +kernel), true, rfl, iteT ?_⟩
      exact ⟨_, rfl, lt_sz (show 2 ≤ 200000 by decide), k⟩
    | str x =>
      cases hv
      refine ⟨_, rfl, rfl, false, rfl, ?_⟩
      refine iteF ⟨_, rfl, _, _, _, _, false, rfl, .ty _, .base (.str _), kit_ty (by decide +kernel), false, rfl, iteF ?_⟩
      refine ⟨_, rfl, _, _, _, _, false, rfl, .ty _, .base (.str _), kit_ty (by decide +kernel), false, rfl, iteF ?_⟩
      exact ⟨_, rfl, lt_sz (show 2 ≤ 200000 by decide), k⟩
    | _ => cases hv
theorem ok__law_rank {f : Addr} {fd : FuncData} (F : Fun K "_law_rank" "_law_rank" s__law_rank f fd) (T : Txt K mg C fS pN fN) : FnOk P w K mg base CX0 1 f fd ["_law_value_here"] spRank := by
  refine F.ok sc__law_rank (fun vs H Q E h => ?_) (fun cdv A outer s H vs Q E hr h => ?_)
  · obtain ⟨_, _, _, rfl, _⟩ := h
    rfl
  · obtain ⟨v, i, u, rfl, hv, k⟩ := h
    refine ⟨_, (pss_cons (ps_if (pt_cmpR op_isN (pv 0) pe_non (nomark _)) (pss_one (ps_ret (pe_tup (pa_cons pe_int (pa_cons pe_int pa_nil))))) pss_nil)
  (pss_cons (ps_if (pt_val (pe_callB call_isi (by rfl) T.n_isinstance (by decide +kernel) (pa_cons (pv 0) (pa_cons (pe_bltn (by rfl) T.n_bool (by decide +kernel) (show RelV (.ty "bool") (.type "bool") from rfl)) pa_nil)))) (pss_one (ps_ret (pe_tup (pa_cons pe_int (pa_cons (pe_callTy call_int1 (by rfl) T.n_int (by decide +kernel) (pa_cons (pv 0) pa_nil)) pa_nil))))) pss_nil)
  (pss_cons (ps_if (pt_val (pe_callB call_isi (by rfl) T.n_isinstance (by decide +kernel) (pa_cons (pv 0) (pa_cons (pe_bltn (by rfl) T.n_int (by decide +kernel) (show RelV (.ty "int") (.type "int") from rfl)) pa_nil)))) (pss_one (ps_ret (pe_tup (pa_cons pe_int (pa_cons (pv 0) pa_nil))))) pss_nil)
  (pss_one (ps_ret (pe_tup (pa_cons pe_int (pa_cons (pv 0) pa_nil)))))))), ?_⟩
    cases v with
    | non =>
      cases hv
      refine ⟨_, rfl, rfl, true, rfl, ?_⟩
      exact iteT ⟨lt_sz (show 2 ≤ 200000 by decide), k⟩
    | bl b =>
      cases hv
      refine ⟨_, rfl, rfl, false, rfl, ?_⟩
      refine iteF ⟨_, rfl, _, _, _, _, true, rfl, .ty _, .base (.bl _), kit_ty (by decide +kernel), true, rfl, iteT ?_⟩
      exact ⟨_, rfl, .inr ⟨_, rfl, lt_sz (show 2 ≤ 200000 by decide), k⟩⟩
    | int j =>
      cases hv
      refine ⟨_, rfl, rfl, false, rfl, ?_⟩
      refine iteF ⟨_, rfl, _, _, _, _, false, rfl, .ty _, .base (.int _), kit_ty (by decide +kernel), false, rfl, iteF ?_⟩
      refine ⟨_, rfl, _, _, _, _, true, rfl, .ty _, .base (.int _), kit_ty (by decide +kernel), true, rfl, iteT ?_⟩
      exact ⟨_, rfl, lt_sz (show 2 ≤ 200000 by decide), k⟩
    | str x =>
      cases hv
      refine ⟨_, rfl, rfl, false, rfl, ?_⟩
      refine iteF ⟨_, rfl, _, _, _, _, false, rfl, .ty _, .base (.str _), kit_ty (by decide +kernel), false, rfl, iteF ?_⟩
      refine ⟨_, rfl, _, _, _, _, false, rfl, .ty _, .base (.str _), kit_ty (by decide +kernel), false, rfl, iteF ?_⟩
      exact ⟨_, rfl, lt_sz (show 2 ≤ 200000 by decide), k⟩
    | _ => cases hv
theorem ok_row_rank {f : Addr} {fd : FuncData} (F : Fun K "row_rank" "row_rank" s_row_rank f fd) (T : Txt K mg C fS pN fN) (C_rank : Cal P w K mg base CX0 1 "rank" spRank) : FnOk P w K mg base CX0 2 f fd ["row"] spRowRank := by
  refine F.ok sc_row_rank (fun vs H Q E h => ?_) (fun cdv A outer s H vs Q E hr h => ?_)
  · obtain ⟨_, _, rfl, _⟩ := h
    rfl
  · obtain ⟨p, c, rfl, hp, hc, k⟩ := h
    refine ⟨_, (pss_one (ps_ret (pe_callTy call_tuple_of (by rfl) T.n_tuple (by decide +kernel) (pa_cons (pe_lc (own := [("value", 1)]) (g := gName 1) rfl sc_row_rank.nd (pi_list (pv 0)) (blkOk_by (own := [("value", 1)]) (N := sc_row_rank_N) (sc := defScope s_row_rank) (by decide +kernel)) (fun _ _ _ _ _ => pg_name (i := 1) sc_row_rank.nd rfl (Or.inl rfl)) (fun _ _ _ _ _ => pts_nil) (fun _ _ _ _ _ => (pe_k C_rank hr (by decide) (by rfl) pass0 (pa_cons (pv 1) pa_nil)))) pa_nil)))), ?_⟩
    have hb := cellV_rk hc
    refine ⟨_, rfl, p, rfl, ⟨_, seqL hp⟩, fun D hD => ?_⟩
    have hxs : ∀ (i : Nat) (x : V), [V.int c.1, cellV c.2][i]? = some x → ∃ r : Int × V, [((2 : Int), V.int c.1), (c.2, rkV c.2)][i]? = some r ∧ rkOf x = some r := fun i x e => by
      match i, e with
      | 0, e => cases e; exact ⟨_, rfl, rfl⟩
      | 1, e => cases e; exact ⟨_, rfl, hb⟩
      | i + 2, e => simp at e
    refine lc_list (xs := [.int c.1, cellV c.2]) (fun i H' => Same H H' ∧ ∃ ps : List Addr, H' D = some (.lst (ps.map V.ref)) ∧ ps.length ≤ i ∧ Paired (fun (r : Int × V) q => H' q = some (.tup [.int r.1, r.2])) ([((2 : Int), V.int c.1), (c.2, rkV c.2)].take i) ps)
      ⟨same_new hD, [], upd_same, Nat.le_refl _, .nil⟩ (fun i H' _ ⟨h, _⟩ => seqL (h _ _ hp)) ?_ ?_
    · rintro i x H1 hx ⟨s1, ps, hL, hl, hr⟩
      obtain ⟨r, hri, hro⟩ := hxs i x hx
      refine ⟨rfl, _, rfl, x, r.1, r.2, rfl, hro, fun q hq => ?_⟩
      have hi : i < 2 := by simpa using (List.getElem?_eq_some_iff.mp hx).1
      have s2 := same_new (o := .tup [.int r.1, r.2]) hq
      have hDH : H D = none := hD
      refine ⟨_, s2 _ _ hL, lt_sz' (by rw [List.length_map]; omega), fun b o z => by rw [upd_ne (ne_of_none z hDH)]; exact s2 _ _ (s1 _ _ z), ps ++ [q], ?_, by rw [List.length_append, List.length_singleton]; omega, ?_⟩
      · rw [upd_same, List.map_append]
        rfl
      · rw [take_next hri]
        have kept : ∀ (t : Addr) (ys : List V), H1 t = some (.tup ys) → upd (upd H1 q (.tup [.int r.1, r.2])) D (.lst (ps.map V.ref ++ [.ref q])) t = some (.tup ys) := fun t ys e => by
          rw [upd_ne (ne_of e hL (by intro z; cases z))]
          exact s2 _ _ e
        refine paired_app (paired_mono (fun r' q' e => kept _ _ e) hr) (.cons ?_ .nil)
        rw [upd_ne (ne_of upd_same (s2 _ _ hL) (by intro z; cases z))]
        exact upd_same
    · rintro H1 ⟨s1, ps, hL, hl, hr⟩
      cases hr with
      | cons h1 t1 =>
        rename_i a ps1
        cases t1 with
        | cons h2 t2 =>
          rename_i b ps2
          cases t2
          refine ⟨_, _, rfl, .inl ⟨seqL hL, fun l hl => ?_⟩⟩
          have s2 := same_new (o := .tup ([a, b].map V.ref)) hl
          refine k _ l (same_trans s1 s2) ⟨[a, b], upd_same, .cons (s2 _ _ h1) (.cons ?_ .nil)⟩
          show _ = some (HO.tup ((rkN c.2).map kV))
          rw [rkN_V]
          exact s2 _ _ h2
theorem ok__law_ranks {f : Addr} {fd : FuncData} (F : Fun K "_law_ranks" "_law_ranks" s__law_ranks f fd) (T : Txt K mg C fS pN fN) (C__law_rank : Cal P w K mg base CX0 1 "_law_rank" spRank) : FnOk P w K mg base CX0 2 f fd ["_law_row"] spRanks := by
  refine F.ok sc__law_ranks (fun vs H Q E h => ?_) (fun cdv A outer s H vs Q E hr h => ?_)
  · obtain ⟨_, _, rfl, _⟩ := h
    rfl
  · obtain ⟨p, c, rfl, hp, hc, k⟩ := h
    refine ⟨_, (pss_one (ps_ret (pe_lc (own := [("_law_value_here", 1)]) (g := gName 1) rfl sc__law_ranks.nd (pi_list (pv 0)) (blkOk_by (own := [("_law_value_here", 1)]) (N := sc__law_ranks_N) (sc := defScope s__law_ranks) (by decide +kernel)) (fun _ _ _ _ _ => pg_name (i := 1) sc__law_ranks.nd rfl (Or.inl rfl)) (fun _ _ _ _ _ => pts_nil) (fun _ _ _ _ _ => (pe_k C__law_rank hr (by decide) (by rfl) pass0 (pa_cons (pv 1) pa_nil)))))), ?_⟩
    have hb := cellV_rk hc
    refine ⟨_, rfl, p, rfl, ⟨_, seqL hp⟩, fun D hD => ?_⟩
    have hxs : ∀ (i : Nat) (x : V), [V.int c.1, cellV c.2][i]? = some x → ∃ r : Int × V, [((2 : Int), V.int c.1), (c.2, rkV c.2)][i]? = some r ∧ rkOf x = some r := fun i x e => by
      match i, e with
      | 0, e => cases e; exact ⟨_, rfl, rfl⟩
      | 1, e => cases e; exact ⟨_, rfl, hb⟩
      | i + 2, e => simp at e
    refine lc_list (xs := [.int c.1, cellV c.2]) (fun i H' => Same H H' ∧ ∃ ps : List Addr, H' D = some (.lst (ps.map V.ref)) ∧ ps.length ≤ i ∧ Paired (fun (r : Int × V) q => H' q = some (.tup [.int r.1, r.2])) ([((2 : Int), V.int c.1), (c.2, rkV c.2)].take i) ps)
      ⟨same_new hD, [], upd_same, Nat.le_refl _, .nil⟩ (fun i H' _ ⟨h, _⟩ => seqL (h _ _ hp)) ?_ ?_
    · rintro i x H1 hx ⟨s1, ps, hL, hl, hr⟩
      obtain ⟨r, hri, hro⟩ := hxs i x hx
      refine ⟨rfl, _, rfl, x, r.1, r.2, rfl, hro, fun q hq => ?_⟩
      have hi : i < 2 := by simpa using (List.getElem?_eq_some_iff.mp hx).1
      have s2 := same_new (o := .tup [.int r.1, r.2]) hq
      have hDH : H D = none := hD
      refine ⟨_, s2 _ _ hL, lt_sz' (by rw [List.length_map]; omega), fun b o z => by rw [upd_ne (ne_of_none z hDH)]; exact s2 _ _ (s1 _ _ z), ps ++ [q], ?_, by rw [List.length_append, List.length_singleton]; omega, ?_⟩
      · rw [upd_same, List.map_append]
        rfl
      · rw [take_next hri]
        have kept : ∀ (t : Addr) (ys : List V), H1 t = some (.tup ys) → upd (upd H1 q (.tup [.int r.1, r.2])) D (.lst (ps.map V.ref ++ [.ref q])) t = some (.tup ys) := fun t ys e => by
          rw [upd_ne (ne_of e hL (by intro z; cases z))]
          exact s2 _ _ e
        refine paired_app (paired_mono (fun r' q' e => kept _ _ e) hr) (.cons ?_ .nil)
        rw [upd_ne (ne_of upd_same (s2 _ _ hL) (by intro z; cases z))]
        exact upd_same
    · rintro H1 ⟨s1, ps, hL, hl, hr⟩
      cases hr with
      | cons h1 t1 =>
        rename_i a ps1
        cases t1 with
        | cons h2 t2 =>
          rename_i b ps2
          cases t2
          exact k _ D s1 hD ⟨a, b, hL, h1, h2⟩
end
end Sb
/-! The plain law of changes of bags (no program in sight). -/
namespace Bg
abbrev C := Int × Int
def cnt (l : List C) (c : C) : Int := (l.count c : Int)
def dec (m : C → Int) (c : C) : C → Int := fun q => if q = c then m c - 1 else m q
def stepR (st : List C × (C → Int)) (c : C) : List C × (C → Int) := if st.2 c > 0 then (st.1 ++ [c], dec st.2 c) else st
def stepW (st : List C × (C → Int)) (c : C) : List C × (C → Int) := if st.2 c > 0 then (st.1, dec st.2 c) else (st.1 ++ [c], st.2)
def foldR (m : C → Int) (l : List C) : List C × (C → Int) := l.foldl stepR ([], m)
def foldW (m : C → Int) (l : List C) : List C × (C → Int) := l.foldl stepW ([], m)
/-- as often as there are more of them than among others, the first ones -/
def rem (rows others : List C) : List C := (foldR (fun c => cnt rows c - cnt others c) rows).1
/-- rows without gone, of a repeated one the first ones -/
def wout (rows gone : List C) : List C := (foldW (cnt gone) rows).1
theorem foldR_snoc (m : C → Int) (l : List C) (c : C) : foldR m (l ++ [c]) = stepR (foldR m l) c := by simp [foldR]
theorem foldW_snoc (m : C → Int) (l : List C) (c : C) : foldW m (l ++ [c]) = stepW (foldW m l) c := by simp [foldW]
theorem cnt_nil (c : C) : cnt [] c = 0 := rfl
theorem cnt_snoc (l : List C) (c q : C) : cnt (l ++ [c]) q = cnt l q + (if q = c then 1 else 0) := by
  unfold cnt
  rw [List.count_append, List.count_singleton]
  by_cases h : q = c
  · subst h; simp
  · have h' : ¬ c = q := fun z => h z.symm
    simp [h, h']
theorem cnt_app (l m : List C) (q : C) : cnt (l ++ m) q = cnt l q + cnt m q := by
  unfold cnt
  rw [List.count_append]
  omega
theorem cnt_nonneg (l : List C) (q : C) : 0 ≤ cnt l q := Int.natCast_nonneg _
/-- snoc induction -/
theorem snoc_ind {P : List C → Prop} (h0 : P []) (hs : ∀ l c, P l → P (l ++ [c])) (l : List C) : P l := by
  have : ∀ n : Nat, ∀ l : List C, l.length = n → P l := by
    intro n
    induction n with
    | zero => intro l h; rw [List.eq_nil_of_length_eq_zero h]; exact h0
    | succ n ih =>
      intro l h
      have hne : l ≠ [] := by intro e; rw [e] at h; simp at h
      have e := List.dropLast_concat_getLast hne
      rw [← e]
      exact hs _ _ (ih _ (by rw [List.length_dropLast, h]; rfl))
  exact this _ l rfl
theorem foldR_m (m : C → Int) (l : List C) (q : C) : (foldR m l).2 q = m q - cnt (foldR m l).1 q := by
  induction l using snoc_ind with
  | h0 => show m q = m q - 0; omega
  | hs l c ih =>
    rw [foldR_snoc]
    unfold stepR
    by_cases h : (foldR m l).2 c > 0
    · rw [if_pos h]
      show dec (foldR m l).2 c q = m q - cnt ((foldR m l).1 ++ [c]) q
      rw [cnt_snoc]
      unfold dec
      by_cases e : q = c
      · subst e
        rw [if_pos rfl, if_pos rfl, ih]
        omega
      · rw [if_neg e, if_neg e, ih]
        omega
    · rw [if_neg h]
      exact ih
theorem foldR_cnt (m : C → Int) (l : List C) (q : C) : cnt (foldR m l).1 q = min (max 0 (m q)) (cnt l q) := by
  induction l using snoc_ind with
  | h0 => show (0 : Int) = min (max 0 (m q)) 0; omega
  | hs l c ih =>
    have hm := foldR_m m l c
    rw [foldR_snoc, cnt_snoc]
    unfold stepR
    by_cases e : q = c
    · subst e
      rw [if_pos rfl]
      by_cases h : (foldR m l).2 q > 0
      · rw [if_pos h]
        show cnt ((foldR m l).1 ++ [q]) q = _
        rw [cnt_snoc, if_pos rfl, ih]
        rw [hm, ih] at h
        have := cnt_nonneg l q
        omega
      · rw [if_neg h, ih]
        rw [hm, ih] at h
        have := cnt_nonneg l q
        omega
    · rw [if_neg e]
      split
      · show cnt ((foldR m l).1 ++ [c]) q = _
        rw [cnt_snoc, if_neg e, ih]
        omega
      · rw [ih]
        omega
theorem foldW_both (m : C → Int) (l : List C) (q : C) (h0 : 0 ≤ m q) : (foldW m l).2 q = max 0 (m q - cnt l q) ∧ cnt (foldW m l).1 q = max 0 (cnt l q - m q) := by
  induction l using snoc_ind with
  | h0 =>
    constructor
    · show m q = max 0 (m q - 0); omega
    · show (0 : Int) = max 0 (0 - m q); omega
  | hs l c ih =>
    obtain ⟨i1, i2⟩ := ih
    rw [foldW_snoc, cnt_snoc]
    unfold stepW
    by_cases e : q = c
    · subst e
      rw [if_pos rfl]
      by_cases h : (foldW m l).2 q > 0
      · rw [if_pos h]
        constructor
        · show dec (foldW m l).2 q q = _
          unfold dec
          rw [if_pos rfl, i1]
          rw [i1] at h
          omega
        · show cnt (foldW m l).1 q = _
          rw [i2]
          rw [i1] at h
          omega
      · rw [if_neg h]
        constructor
        · show (foldW m l).2 q = _
          rw [i1]
          rw [i1] at h
          omega
        · show cnt ((foldW m l).1 ++ [q]) q = _
          rw [cnt_snoc, if_pos rfl, i2]
          rw [i1] at h
          omega
    · rw [if_neg e]
      split
      · constructor
        · show dec (foldW m l).2 c q = _
          unfold dec
          rw [if_neg e, i1]
          omega
        · show cnt (foldW m l).1 q = _
          rw [i2]
          omega
      · constructor
        · show (foldW m l).2 q = _
          rw [i1]
          omega
        · show cnt ((foldW m l).1 ++ [c]) q = _
          rw [cnt_snoc, if_neg e, i2]
          omega
theorem rem_cnt (rows others : List C) (q : C) : cnt (rem rows others) q = max 0 (cnt rows q - cnt others q) := by
  unfold rem
  rw [foldR_cnt]
  have := cnt_nonneg others q
  have := cnt_nonneg rows q
  omega
theorem wout_cnt (rows gone : List C) (q : C) : cnt (wout rows gone) q = max 0 (cnt rows q - cnt gone q) := (foldW_both _ _ _ (cnt_nonneg _ _)).2
theorem perm_of_cnt {l m : List C} (h : ∀ q, cnt l q = cnt m q) : l.Perm m := List.perm_iff_count.mpr fun q => by
  have := h q
  unfold cnt at this
  exact Int.ofNat.inj this
/-- a change and its small one lead to the same bag -/
theorem small_same {rows gone come : List C} (h : ∀ q, cnt gone q ≤ cnt rows q) : (wout rows (rem gone come) ++ rem come gone).Perm (wout rows gone ++ come) := perm_of_cnt fun q => by
  rw [cnt_app, cnt_app, wout_cnt, wout_cnt, rem_cnt, rem_cnt]
  have := h q
  have := cnt_nonneg come q
  have := cnt_nonneg gone q
  omega
theorem sub_cnt {l m : List C} (h : l.Sublist m) (q : C) : cnt l q ≤ cnt m q := Int.ofNat_le.mpr (h.count_le q)
theorem stepR_sub (st : List C × (C → Int)) (c : C) : ∀ x ∈ (stepR st c).1, x ∈ st.1 ∨ x = c := by
  intro x hx
  unfold stepR at hx
  split at hx
  · rcases List.mem_append.mp hx with h | h
    · exact .inl h
    · exact .inr (by simpa using h)
  · exact .inl hx
theorem foldR_sub (m : C → Int) (l : List C) : ∀ x ∈ (foldR m l).1, x ∈ l := by
  induction l using snoc_ind with
  | h0 => intro x hx; exact nomatch hx
  | hs l c ih =>
    intro x hx
    rw [foldR_snoc] at hx
    rcases stepR_sub _ _ x hx with h | h
    · exact List.mem_append_left _ (ih x h)
    · exact List.mem_append_right _ (by simp [h])
theorem foldW_sub (m : C → Int) (l : List C) : ∀ x ∈ (foldW m l).1, x ∈ l := by
  induction l using snoc_ind with
  | h0 => intro x hx; exact nomatch hx
  | hs l c ih =>
    intro x hx
    rw [foldW_snoc] at hx
    unfold stepW at hx
    split at hx
    · exact List.mem_append_left _ (ih x hx)
    · rcases List.mem_append.mp hx with h | h
      · exact List.mem_append_left _ (ih x h)
      · exact List.mem_append_right _ h
theorem foldR_len (m : C → Int) (l : List C) : (foldR m l).1.length ≤ l.length := by
  induction l using snoc_ind with
  | h0 => exact Nat.le_refl _
  | hs l c ih =>
    rw [foldR_snoc, List.length_append, List.length_singleton]
    unfold stepR
    split
    · show ((foldR m l).1 ++ [c]).length ≤ _
      rw [List.length_append, List.length_singleton]
      omega
    · omega
theorem foldW_len (m : C → Int) (l : List C) : (foldW m l).1.length ≤ l.length := by
  induction l using snoc_ind with
  | h0 => exact Nat.le_refl _
  | hs l c ih =>
    rw [foldW_snoc, List.length_append, List.length_singleton]
    unfold stepW
    split
    · show (foldW m l).1.length ≤ _
      omega
    · show ((foldW m l).1 ++ [c]).length ≤ _
      rw [List.length_append, List.length_singleton]
      omega
theorem rem_sub (rows others : List C) : ∀ x ∈ rem rows others, x ∈ rows := foldR_sub _ _
theorem wout_sub (rows gone : List C) : ∀ x ∈ wout rows gone, x ∈ rows := foldW_sub _ _
theorem rem_len (rows others : List C) : (rem rows others).length ≤ rows.length := foldR_len _ _
theorem wout_len (rows gone : List C) : (wout rows gone).length ≤ rows.length := foldW_len _ _
end Bg
set_option Elab.async false
set_option maxRecDepth 100000
set_option maxHeartbeats 4000000
namespace Sb
open PySem PySem.Spec PyProof.Rows L2 SX
abbrev s_without : Stmt := top 4
abbrev sc_without_N : List Str := ["rows", "gone", "left", "row", "key", "found"]
theorem sc_without : FnScope sc_without_N ["rows", "gone"] (defScope s_without) := ⟨rfl, rfl, rfl, by decide +kernel, rfl, by decide +kernel, by decide +kernel⟩
abbrev s_remaining : Stmt := top 5
abbrev sc_remaining_N : List Str := ["rows", "others", "more", "row", "found"]
theorem sc_remaining : FnScope sc_remaining_N ["rows", "others"] (defScope s_remaining) := ⟨rfl, rfl, rfl, by decide +kernel, rfl, by decide +kernel, by decide +kernel⟩
abbrev RowsAt (H : Hp) (cs : List (Int × Int)) (ps : List Addr) : Prop := Paired (RowAt H) cs ps
theorem rows_same {H H' : Hp} (s : Same H H') {cs : List (Int × Int)} {ps : List Addr} (h : RowsAt H cs ps) : RowsAt H' cs ps := paired_mono (fun _ _ e => s _ _ e) h
theorem row_ne {H : Hp} {L p : Addr} {qs : List Addr} {c : Int × Int} (hL : H L = some (.lst (qs.map V.ref))) (h : RowAt H c p) : p ≠ L := ne_of h hL (by
  intro z
  injection z with z
  cases qs <;> simp at z)
theorem rows_mut {H : Hp} {L : Addr} {qs : List Addr} {o : HO} (hL : H L = some (.lst (qs.map V.ref))) {cs : List (Int × Int)} {ps : List Addr} (h : RowsAt H cs ps) : RowsAt (upd H L o) cs ps := paired_mono (fun _ _ e => by
  show upd H L o _ = _
  rw [upd_ne (row_ne hL e)]
  exact e) h
theorem ndict_same {P : Program} {w : World} {H H' : Hp} {a : Addr} {n : Nat} {f : NK → Option Int} (s : Same H H') (d : NDict P w H a n f) : NDict P w H' a n f := by
  refine d.keep ?_ fun c xs h => s _ _ h
  obtain ⟨xs, e, _⟩ := d
  rw [e, s _ _ e]
theorem ndict_ne {P : Program} {w : World} {H : Hp} {a L : Addr} {n : Nat} {f : NK → Option Int} {xs : List V} (d : NDict P w H a n f) (h : H L = some (.lst xs)) : L ≠ a := by
  obtain ⟨ys, e, _⟩ := d
  exact ne_of h e (by unfold DN; intro z; cases z)
theorem ndict_mut {P : Program} {w : World} {H : Hp} {a L : Addr} {n : Nat} {f : NK → Option Int} {xs : List V} {ys : List V} (d : NDict P w H a n f) (h : H L = some (.lst xs)) : NDict P w (upd H L (.lst ys)) a n f := by
  refine d.keep (upd_ne (ndict_ne d h).symm) fun c zs hc => ?_
  rw [upd_ne (ne_of hc h (by intro z; cases z))]
  exact hc
theorem rows_put {H H' : Hp} {a : Addr} {P : Program} {w : World} {n : Nat} {f : NK → Option Int} (d : NDict P w H a n f) (k : ∀ c, c ≠ a → H' c = H c) {cs : List (Int × Int)} {ps : List Addr} (h : RowsAt H cs ps) : RowsAt H' cs ps :=
  paired_mono (fun _ p e => (k p (ndict_ne d e)).trans e) h
theorem put_same {H H1 H2 : Hp} {a : Addr} (s : Same H H1) (h : H a = none) (k : ∀ c, c ≠ a → H2 c = H1 c) : Same H H2 := fun b o e => (k b (ne_of_none e h)).trans (s b o e)
/-- the dict tells these numbers -/
def Rep (f : NK → Option Int) (m : Int × Int → Int) : Prop := ∀ c, (f (nkOf c)).getD 0 = m c
theorem Rep.put {f : NK → Option Int} {m : Int × Int → Int} (r : Rep f m) (c : Int × Int) (v : Int) : Rep (putF f (nkOf c) v) (fun q => if q = c then v else m q) := fun q => by
  unfold putF
  by_cases h : q = c
  · subst h
    rw [if_pos rfl]
    show (some v).getD 0 = if q = q then v else m q
    rw [if_pos rfl]
    rfl
  · rw [if_neg (fun z => h (nkOf_inj z))]
    show _ = if q = c then v else m q
    rw [if_neg h]
    exact r q
theorem Rep.some {f : NK → Option Int} {m : Int × Int → Int} (r : Rep f m) {c : Int × Int} (h : m c ≠ 0) : f (nkOf c) = Option.some (m c) := by
  have e := r c
  cases z : f (nkOf c) with
  | none => rw [z] at e; exact absurd e.symm h
  | some v => rw [z] at e; exact congrArg Option.some e
theorem putF_some {f : NK → Option Int} {k q : NK} {v : Int} (h : (f k).isSome = true) : (putF f q v k).isSome = true := by
  unfold putF
  split
  · rfl
  · exact h
theorem putF_self {f : NK → Option Int} {q : NK} {v : Int} : (putF f q v q).isSome = true := by
  unfold putF
  rw [if_pos rfl]
  rfl
theorem cnt_next {l : List (Int × Int)} {i : Nat} {c : Int × Int} (h : l[i]? = some c) : Bg.cnt (l.take (i + 1)) = fun q => if q = c then Bg.cnt (l.take i) c + 1 else Bg.cnt (l.take i) q := by
  funext q
  rw [take_next h, Bg.cnt_snoc]
  by_cases e : q = c
  · subst e; rw [if_pos rfl, if_pos rfl]
  · rw [if_neg e, if_neg e]; omega
def spWithout (K : PySem.W.Frag) : Sp := fun vs H Q _ => ∃ (L G : Addr) (ps qs : List Addr) (rs gs : List (Int × Int)), vs = [.ref L, .ref G] ∧ SqL K H L (ps.map V.ref) ∧ RowsAt H rs ps ∧ SqL K H G (qs.map V.ref) ∧ RowsAt H gs qs ∧ (∀ c ∈ rs, Okc c) ∧ (∀ c ∈ gs, Okc c) ∧ rs.length ≤ 100 ∧ gs.length ≤ 100 ∧
  ∀ (H' : Hp) (R : Addr) (ts : List Addr), Same H H' → H R = none → H' R = some (.lst (ts.map V.ref)) → RowsAt H' (Bg.wout rs gs) ts → Q (.ref R) H'
def spRemaining (K : PySem.W.Frag) : Sp := fun vs H Q _ => ∃ (L G : Addr) (ps qs : List Addr) (rs gs : List (Int × Int)), vs = [.ref L, .ref G] ∧ SqL K H L (ps.map V.ref) ∧ RowsAt H rs ps ∧ SqL K H G (qs.map V.ref) ∧ RowsAt H gs qs ∧ (∀ c ∈ rs, Okc c) ∧ (∀ c ∈ gs, Okc c) ∧ rs.length ≤ 100 ∧ gs.length ≤ 100 ∧
  ∀ (H' : Hp) (R : Addr) (ts : List Addr), Same H H' → H R = none → H' R = some (.lst (ts.map V.ref)) → RowsAt H' (Bg.rem rs gs) ts → Q (.ref R) H'
section
variable {P : Program} {w : World} {K : PySem.W.Frag} {mg : Str → Option Value} {base : Heap} {C fS pN fN : Addr}
theorem ok_without {f : Addr} {fd : FuncData} (F : Fun K "without" "without" s_without f fd) (T : Txt K mg C fS pN fN) (C_row_rank : Cal P w K mg base CX0 2 "row_rank" spRowRank) : FnOk P w K mg base CX0 3 f fd ["rows", "gone"] (spWithout K) := by
  refine F.ok sc_without (fun vs H Q E h => ?_) (fun cdv A outer s H vs Q E hr h => ?_)
  · obtain ⟨_, _, _, _, _, _, rfl, _⟩ := h
    rfl
  · obtain ⟨L, G, ps, qs, rs, gs, rfl, hL, hps, hG, hqs, ok1, ok2, l1, l2, kk⟩ := h
    refine ⟨_, (pss_cons (ps_set (i := 2) sc_without.nd rfl (Or.inl rfl) pe_nnew)
  (pss_cons (ps_for PassesOwn.never rfl (pi_list (pv 1)) (pg_name (i := 3) sc_without.nd rfl (Or.inl rfl)) (pss_cons (ps_set (i := 4) sc_without.nd rfl (Or.inl rfl) (pe_k C_row_rank hr (by decide) (by rfl) pass0 (pa_cons (pv 3) pa_nil)))
  (pss_one (ps_nput hr.u2 (pv 2) (pv 4) (pe_op op_add (pe_ngetD hr.u2 (pv 2) (pv 4) pe_int ⟨by rfl, by rfl, by rfl, by rfl⟩) pe_int) (by rfl)))))
  (pss_cons (ps_set (i := 5) sc_without.nd rfl (Or.inl rfl) (pe_lst pa_nil))
  (pss_cons (ps_for PassesOwn.never rfl (pi_list (pv 0)) (pg_name (i := 3) sc_without.nd rfl (Or.inl rfl)) (pss_cons (ps_set (i := 4) sc_without.nd rfl (Or.inl rfl) (pe_k C_row_rank hr (by decide) (by rfl) pass0 (pa_cons (pv 3) pa_nil)))
  (pss_one (ps_if (pt_cmpR op_gt (pe_ngetD hr.u2 (pv 2) (pv 4) pe_int ⟨by rfl, by rfl, by rfl, by rfl⟩) pe_int (nomark _)) (pss_one (ps_nput hr.u2 (pv 2) (pv 4) (pe_op op_sub (pe_nget hr.u2 (pv 2) (pv 4) (fun _ _ => rfl)) pe_int) (by rfl))) (pss_one (ps_expr (pe_bm PySem.F.plainAttrs_list PySem.F.slot_list_append PySem.F.type_list_append mt_append (pv 5) (pa_cons (pe_callTy call_list_of (by rfl) T.n_list (by decide +kernel) (pa_cons (pv 3) pa_nil)) pa_nil))))))))
  (pss_one (ps_ret (pv 5))))))), ?_⟩
    have lps := paired_len hps
    have lqs := paired_len hqs
    refine fun a H1 ha hd hk1 => ?_
    have s1 : Same H H1 := put_same same_refl ha hk1
    refine ⟨_, rfl, G, rfl, ⟨_, s1.seq hG⟩, for_list (xs := qs.map V.ref) (fun i σ H' => ∃ (x3 x4 x5 : Option V) (f : NK → Option Int), σ = [some (.ref L), some (.ref G), some (.ref a), x3, x4, x5] ∧ Same H H' ∧ NDict P w H' a i f ∧ Rep f (Bg.cnt (gs.take i)))
      ⟨none, none, none, _, rfl, s1, hd, fun c => rfl⟩ (fun i σ H' _ ⟨_, _, _, _, _, h, _⟩ => h.seq hG) ?_ ?_⟩
    · rintro i x σ H2 hx ⟨x3, x4, x5, f, rfl, s2, hd2, hrep⟩
      obtain ⟨q, hq, rfl⟩ : ∃ q, qs[i]? = some q ∧ V.ref q = x := by
        rw [List.getElem?_map] at hx
        exact Option.map_eq_some_iff.mp hx
      obtain ⟨c, hc, hrow⟩ := paired_get2 hqs hq
      have hi : i < 100 := by have := (List.getElem?_eq_some_iff.mp hq).1; omega
      refine ⟨_, rfl, q, c, rfl, s2 _ _ hrow, ok2 c (List.mem_of_getElem? hc), fun H3 t s3 nk => ?_⟩
      have hd3 := ndict_same s3 hd2
      refine ⟨_, rfl, a, i, f, rfl, hd3, _, rfl, i, t, f, nkOf c, 0, rfl, rfl, hd3, nk, _, _, rfl, rfl, _, rfl, _, rfl, a, t, i, f, nkOf c, _, rfl, rfl, rfl, hd3, nk, lt_sz' (by omega), fun H4 hd4 hk4 => ?_⟩
      refine ⟨_, _, _, _, rfl, put_same (same_trans s2 s3) ha hk4, hd4, ?_⟩
      rw [cnt_next hc, hrep c]
      exact hrep.put c _
    · rintro σ H2 ⟨x3, x4, x5, f, rfl, s2, hd2, hrep⟩
      rw [List.length_map, ← lqs, List.take_length] at hrep
      rw [List.length_map] at hd2
      refine ⟨Nat.zero_le _, fun R hR => ?_⟩
      have s3 := same_new (o := .lst []) hR
      have hRH : H R = none := s2.free hR
      refine ⟨_, rfl, L, rfl, ⟨_, s3.seq (s2.seq hL)⟩, for_list (xs := ps.map V.ref) (fun i σ H' => ∃ (x3 x4 : Option V) (n : Nat) (f : NK → Option Int) (ts : List Addr), σ = [some (.ref L), some (.ref G), some (.ref a), x3, x4, some (.ref R)] ∧ Same H H' ∧ NDict P w H' a n f ∧ n ≤ 100 + i ∧
          Rep f (Bg.foldW (Bg.cnt gs) (rs.take i)).2 ∧ H' R = some (.lst (ts.map V.ref)) ∧ RowsAt H' (Bg.foldW (Bg.cnt gs) (rs.take i)).1 ts)
        ⟨x3, x4, _, f, [], rfl, same_trans s2 s3, ndict_same s3 hd2, by omega, hrep, upd_same, .nil⟩ (fun i σ H' _ ⟨_, _, _, _, _, _, h, _⟩ => h.seq hL) ?_ ?_⟩
      · rintro i x σ H4 hx ⟨y3, y4, n, g, ts, rfl, s4, hd4, hn, hrep4, hR4, hts⟩
        obtain ⟨q, hq, rfl⟩ : ∃ q, ps[i]? = some q ∧ V.ref q = x := by
          rw [List.getElem?_map] at hx
          exact Option.map_eq_some_iff.mp hx
        obtain ⟨c, hc, hrow⟩ := paired_get2 hps hq
        have hi : i < 100 := by have := (List.getElem?_eq_some_iff.mp hq).1; omega
        have hlt : ts.length ≤ 100 := by
          have h1 := paired_len hts
          have h2 := Bg.foldW_len (Bg.cnt gs) (rs.take i)
          have h3 : (rs.take i).length ≤ i := by rw [List.length_take]; omega
          omega
        refine ⟨_, rfl, q, c, rfl, s4 _ _ hrow, ok1 c (List.mem_of_getElem? hc), fun H5 t s5 nk => ?_⟩
        have hd5 := ndict_same s5 hd4
        have e := hrep4 c
        refine ⟨_, rfl, a, n, g, rfl, hd5, _, rfl, n, t, g, nkOf c, 0, rfl, rfl, hd5, nk, _, _, rfl, rfl, _, rfl, ?_⟩
        rw [e, take_next hc, Bg.foldW_snoc]
        refine ite2 (fun h => ?_) (fun h => ?_)
        · have hpos : (Bg.foldW (Bg.cnt gs) (rs.take i)).2 c > 0 := of_decide_eq_true h
          have hsome := hrep4.some (c := c) (by omega)
          unfold Bg.stepW
          rw [if_pos hpos]
          refine ⟨_, rfl, _, rfl, a, t, n, g, nkOf c, _, rfl, rfl, hd5, nk, hsome, _, _, rfl, rfl, _, rfl, _, rfl, a, t, n, g, nkOf c, _, rfl, rfl, rfl, hd5, nk, lt_sz' (by omega), fun H6 hd6 hk6 => ?_⟩
          exact ⟨_, _, _, _, ts, rfl, put_same (same_trans s4 s5) ha hk6, hd6, by omega, hrep4.put c _, (hk6 R (ndict_ne hd5 (s5 _ _ hR4))).trans (s5 _ _ hR4), rows_put hd5 hk6 (rows_same s5 hts)⟩
        · have hpos : ¬ (Bg.foldW (Bg.cnt gs) (rs.take i)).2 c > 0 := fun z => h (decide_eq_true z)
          unfold Bg.stepW
          rw [if_neg hpos]
          refine ⟨_, rfl, .inl ⟨rfl, _, seqL (s5 _ _ hR4)⟩, _, rfl, q, _, rfl, .inl (seqL (s5 _ _ (s4 _ _ hrow))), fun l hl => ?_⟩
          have s6 := same_new (o := .lst [.int c.1, cellV c.2]) hl
          have hR6 := s6 _ _ (s5 _ _ hR4)
          refine ⟨R, _, _, rfl, rfl, hR6, lt_sz' (by rw [List.length_map]; omega), ?_⟩
          have s7 : Same H _ := same_trans (same_trans s4 s5) s6
          have hlR : l ≠ R := fun z => by rw [z] at hl; rw [s5 _ _ hR4] at hl; cases hl
          refine ⟨_, _, n, g, ts ++ [l], rfl, same_mut s7 hRH, ndict_mut (ndict_same s6 hd5) hR6, by omega, hrep4, by rw [upd_same, List.map_append]; rfl, ?_⟩
          exact paired_app (rows_mut hR6 (rows_same s6 (rows_same s5 hts))) (.cons (by show upd _ R _ l = _; rw [upd_ne hlR]; exact upd_same) .nil)
      · rintro σ H4 ⟨y3, y4, n, g, ts, rfl, s4, hd4, hn, hrep4, hR4, hts⟩
        rw [List.length_map, ← lps, List.take_length] at hts
        exact ⟨_, rfl, kk _ R ts s4 hRH hR4 hts⟩
theorem ok_remaining {f : Addr} {fd : FuncData} (F : Fun K "remaining" "remaining" s_remaining f fd) (T : Txt K mg C fS pN fN) (C_row_rank : Cal P w K mg base CX0 2 "row_rank" spRowRank) : FnOk P w K mg base CX0 3 f fd ["rows", "others"] (spRemaining K) := by
  refine F.ok sc_remaining (fun vs H Q E h => ?_) (fun cdv A outer s H vs Q E hr h => ?_)
  · obtain ⟨_, _, _, _, _, _, rfl, _⟩ := h
    rfl
  · obtain ⟨L, G, ps, qs, rs, gs, rfl, hL, hps, hG, hqs, ok1, ok2, l1, l2, kk⟩ := h
    refine ⟨_, (pss_cons (ps_set (i := 2) sc_remaining.nd rfl (Or.inl rfl) pe_nnew)
  (pss_cons (ps_for PassesOwn.never rfl (pi_list (pv 0)) (pg_name (i := 3) sc_remaining.nd rfl (Or.inl rfl)) (pss_one (ps_nput hr.u2 (pv 2) (pe_k C_row_rank hr (by decide) (by rfl) pass0 (pa_cons (pv 3) pa_nil)) (pe_op op_add (pe_ngetD hr.u2 (pv 2) (pe_k C_row_rank hr (by decide) (by rfl) pass0 (pa_cons (pv 3) pa_nil)) pe_int ⟨by rfl, by rfl, by rfl, by rfl⟩) pe_int) (by rfl))))
  (pss_cons (ps_for PassesOwn.never rfl (pi_list (pv 1)) (pg_name (i := 3) sc_remaining.nd rfl (Or.inl rfl)) (pss_one (ps_nput hr.u2 (pv 2) (pe_k C_row_rank hr (by decide) (by rfl) pass0 (pa_cons (pv 3) pa_nil)) (pe_op op_sub (pe_ngetD hr.u2 (pv 2) (pe_k C_row_rank hr (by decide) (by rfl) pass0 (pa_cons (pv 3) pa_nil)) pe_int ⟨by rfl, by rfl, by rfl, by rfl⟩) pe_int) (by rfl))))
  (pss_cons (ps_set (i := 4) sc_remaining.nd rfl (Or.inl rfl) (pe_lst pa_nil))
  (pss_cons (ps_for PassesOwn.never rfl (pi_list (pv 0)) (pg_name (i := 3) sc_remaining.nd rfl (Or.inl rfl)) (pss_one (ps_if (pt_cmpR op_gt (pe_nget hr.u2 (pv 2) (pe_k C_row_rank hr (by decide) (by rfl) pass0 (pa_cons (pv 3) pa_nil)) (fun _ _ => rfl)) pe_int (nomark _)) (pss_cons (ps_nput hr.u2 (pv 2) (pe_k C_row_rank hr (by decide) (by rfl) pass0 (pa_cons (pv 3) pa_nil)) (pe_op op_sub (pe_nget hr.u2 (pv 2) (pe_k C_row_rank hr (by decide) (by rfl) pass0 (pa_cons (pv 3) pa_nil)) (fun _ _ => rfl)) pe_int) (by rfl))
  (pss_one (ps_expr (pe_bm PySem.F.plainAttrs_list PySem.F.slot_list_append PySem.F.type_list_append mt_append (pv 4) (pa_cons (pe_callTy call_list_of (by rfl) T.n_list (by decide +kernel) (pa_cons (pv 3) pa_nil)) pa_nil))))) pss_nil)))
  (pss_one (ps_ret (pv 4)))))))), ?_⟩
    have lps := paired_len hps
    have lqs := paired_len hqs
    refine fun a H1 ha hd hk1 => ?_
    have s1 : Same H H1 := put_same same_refl ha hk1
    refine ⟨_, rfl, L, rfl, ⟨_, s1.seq hL⟩, for_list (xs := ps.map V.ref) (fun i σ H' => ∃ (x3 x4 : Option V) (f : NK → Option Int), σ = [some (.ref L), some (.ref G), some (.ref a), x3, x4] ∧ Same H H' ∧ NDict P w H' a i f ∧ Rep f (Bg.cnt (rs.take i)) ∧ ∀ c ∈ rs.take i, (f (nkOf c)).isSome = true)
      ⟨none, none, _, rfl, s1, hd, (fun c => rfl), fun c hc => nomatch hc⟩ (fun i σ H' _ ⟨_, _, _, _, h, _⟩ => h.seq hL) ?_ ?_⟩
    · rintro i x σ H2 hx ⟨x3, x4, f, rfl, s2, hd2, hrep, hdom⟩
      obtain ⟨q, hq, rfl⟩ : ∃ q, ps[i]? = some q ∧ V.ref q = x := by
        rw [List.getElem?_map] at hx
        exact Option.map_eq_some_iff.mp hx
      obtain ⟨c, hc, hrow⟩ := paired_get2 hps hq
      have hi : i < 100 := by have := (List.getElem?_eq_some_iff.mp hq).1; omega
      have hokc := ok1 c (List.mem_of_getElem? hc)
      refine ⟨_, rfl, a, i, f, rfl, hd2, _, rfl, q, c, rfl, s2 _ _ hrow, hokc, fun H3 t s3 nk => ?_⟩
      have hd3 := ndict_same s3 hd2
      refine ⟨i, t, f, nkOf c, 0, rfl, rfl, hd3, nk, _, _, rfl, rfl, _, rfl, _, rfl, q, c, rfl, s3 _ _ (s2 _ _ hrow), hokc, fun H4 t4 s4 nk4 => ?_⟩
      have hd4 := ndict_same s4 hd3
      refine ⟨a, t4, i, f, nkOf c, _, rfl, rfl, rfl, hd4, nk4, lt_sz' (by omega), fun H5 hd5 hk5 => ?_⟩
      refine ⟨_, _, _, rfl, put_same (same_trans s2 (same_trans s3 s4)) ha hk5, hd5, ?_, ?_⟩
      · rw [cnt_next hc, hrep c]
        exact hrep.put c _
      · rw [take_next hc]
        intro d hmem
        rcases List.mem_append.mp hmem with h | h
        · exact putF_some (hdom d h)
        · have : d = c := by simpa using h
          subst this
          exact putF_self
    · rintro σ H2 ⟨x3, x4, f, rfl, s2, hd2, hrep, hdom⟩
      rw [List.length_map, ← lps, List.take_length] at hrep hdom
      rw [List.length_map] at hd2
      refine ⟨_, rfl, G, rfl, ⟨_, s2.seq hG⟩, for_list (xs := qs.map V.ref) (fun i σ H' => ∃ (x3 x4 : Option V) (n : Nat) (f : NK → Option Int), σ = [some (.ref L), some (.ref G), some (.ref a), x3, x4] ∧ Same H H' ∧ NDict P w H' a n f ∧ n ≤ 100 + i ∧ Rep f (fun c => Bg.cnt rs c - Bg.cnt (gs.take i) c) ∧ ∀ c ∈ rs, (f (nkOf c)).isSome = true)
        ⟨x3, x4, _, f, rfl, s2, hd2, by omega, fun c => by rw [hrep c]; show _ = _ - (0 : Int); omega, hdom⟩ (fun i σ H' _ ⟨_, _, _, _, _, h, _⟩ => h.seq hG) ?_ ?_⟩
      · rintro i x σ H3 hx ⟨y3, y4, n, g, rfl, s3, hd3, hn, hrep3, hdom3⟩
        obtain ⟨q, hq, rfl⟩ : ∃ q, qs[i]? = some q ∧ V.ref q = x := by
          rw [List.getElem?_map] at hx
          exact Option.map_eq_some_iff.mp hx
        obtain ⟨c, hc, hrow⟩ := paired_get2 hqs hq
        have hi : i < 100 := by have := (List.getElem?_eq_some_iff.mp hq).1; omega
        have hokc := ok2 c (List.mem_of_getElem? hc)
        refine ⟨_, rfl, a, n, g, rfl, hd3, _, rfl, q, c, rfl, s3 _ _ hrow, hokc, fun H4 t s4 nk => ?_⟩
        have hd4 := ndict_same s4 hd3
        refine ⟨n, t, g, nkOf c, 0, rfl, rfl, hd4, nk, _, _, rfl, rfl, _, rfl, _, rfl, q, c, rfl, s4 _ _ (s3 _ _ hrow), hokc, fun H5 t5 s5 nk5 => ?_⟩
        have hd5 := ndict_same s5 hd4
        refine ⟨a, t5, n, g, nkOf c, _, rfl, rfl, rfl, hd5, nk5, lt_sz' (by omega), fun H6 hd6 hk6 => ?_⟩
        refine ⟨_, _, _, _, rfl, put_same (same_trans s3 (same_trans s4 s5)) ha hk6, hd6, by omega, ?_, fun d hd => putF_some (hdom3 d hd)⟩
        have e : (fun q => Bg.cnt rs q - Bg.cnt (gs.take (i + 1)) q) = fun q => if q = c then (g (nkOf c)).getD 0 - 1 else Bg.cnt rs q - Bg.cnt (gs.take i) q := by
          funext q
          rw [cnt_next hc]
          by_cases hqc : q = c
          · subst hqc
            rw [if_pos rfl]
            show Bg.cnt rs q - (if q = q then _ else _) = _
            have e3 : (g (nkOf q)).getD 0 = Bg.cnt rs q - Bg.cnt (gs.take i) q := hrep3 q
            rw [if_pos rfl, e3]
            omega
          · rw [if_neg hqc]
            show Bg.cnt rs q - (if q = c then _ else _) = _
            rw [if_neg hqc]
        rw [e]
        exact hrep3.put c _
      · rintro σ H3 ⟨y3, y4, n0, g, rfl, s3, hd3, hn0, hrep3, hdom3⟩
        rw [List.length_map, ← lqs, List.take_length] at hrep3
        rw [List.length_map] at hn0
        refine ⟨Nat.zero_le _, fun R hR => ?_⟩
        have s4 := same_new (o := .lst []) hR
        have hRH : H R = none := s3.free hR
        refine ⟨_, rfl, L, rfl, ⟨_, s4.seq (s3.seq hL)⟩, for_list (xs := ps.map V.ref) (fun i σ H' => ∃ (x3 : Option V) (n : Nat) (f : NK → Option Int) (ts : List Addr), σ = [some (.ref L), some (.ref G), some (.ref a), x3, some (.ref R)] ∧ Same H H' ∧ NDict P w H' a n f ∧ n ≤ 200 + i ∧
            Rep f (Bg.foldR (fun c => Bg.cnt rs c - Bg.cnt gs c) (rs.take i)).2 ∧ (∀ c ∈ rs, (f (nkOf c)).isSome = true) ∧ H' R = some (.lst (ts.map V.ref)) ∧ RowsAt H' (Bg.foldR (fun c => Bg.cnt rs c - Bg.cnt gs c) (rs.take i)).1 ts)
          ⟨y3, _, g, [], rfl, same_trans s3 s4, ndict_same s4 hd3, by omega, hrep3, hdom3, upd_same, .nil⟩ (fun i σ H' _ ⟨_, _, _, _, _, h, _⟩ => h.seq hL) ?_ ?_⟩
        · rintro i x σ H5 hx ⟨z3, n, g, ts, rfl, s5, hd5, hn, hrep5, hdom5, hR5, hts⟩
          obtain ⟨q, hq, rfl⟩ : ∃ q, ps[i]? = some q ∧ V.ref q = x := by
            rw [List.getElem?_map] at hx
            exact Option.map_eq_some_iff.mp hx
          obtain ⟨c, hc, hrow⟩ := paired_get2 hps hq
          have hi : i < 100 := by have := (List.getElem?_eq_some_iff.mp hq).1; omega
          have hmem := List.mem_of_getElem? hc
          have hokc := ok1 c hmem
          have hlt : ts.length ≤ 100 := by
            have h1 := paired_len hts
            have h2 := Bg.foldR_len (fun c => Bg.cnt rs c - Bg.cnt gs c) (rs.take i)
            have h3 : (rs.take i).length ≤ i := by rw [List.length_take]; omega
            omega
          have hval : g (nkOf c) = some ((Bg.foldR (fun c => Bg.cnt rs c - Bg.cnt gs c) (rs.take i)).2 c) := by
            have e := hrep5 c
            obtain ⟨v, hv⟩ := Option.isSome_iff_exists.mp (hdom5 c hmem)
            rw [hv] at e ⊢
            exact congrArg some e
          refine ⟨_, rfl, _, rfl, q, c, rfl, s5 _ _ hrow, hokc, fun H6 t6 s6 nk6 => ?_⟩
          have hd6 := ndict_same s6 hd5
          refine ⟨a, t6, n, g, nkOf c, _, rfl, rfl, hd6, nk6, hval, _, _, rfl, rfl, _, rfl, ?_⟩
          rw [take_next hc, Bg.foldR_snoc]
          refine ite2 (fun h => ?_) (fun h => ?_)
          · have hpos : (Bg.foldR (fun c => Bg.cnt rs c - Bg.cnt gs c) (rs.take i)).2 c > 0 := of_decide_eq_true h
            unfold Bg.stepR
            rw [if_pos hpos]
            refine ⟨_, rfl, _, rfl, q, c, rfl, s6 _ _ (s5 _ _ hrow), hokc, fun H7 t7 s7 nk7 => ?_⟩
            have hd7 := ndict_same s7 hd6
            refine ⟨a, t7, n, g, nkOf c, _, rfl, rfl, hd7, nk7, hval, _, _, rfl, rfl, _, rfl, _, rfl, q, c, rfl, s7 _ _ (s6 _ _ (s5 _ _ hrow)), hokc, fun H8 t8 s8 nk8 => ?_⟩
            have hd8 := ndict_same s8 hd7
            refine ⟨a, t8, n, g, nkOf c, _, rfl, rfl, rfl, hd8, nk8, lt_sz' (by omega), fun H9 hd9 hk9 => ?_⟩
            have s58 := same_trans s6 (same_trans s7 s8)
            have s9 : Same H H9 := put_same (same_trans s5 s58) ha hk9
            have hR9 : H9 R = some (.lst (ts.map V.ref)) := (hk9 R (ndict_ne hd8 (s58 _ _ hR5))).trans (s58 _ _ hR5)
            refine ⟨_, rfl, .inl ⟨rfl, _, seqL hR9⟩, _, rfl, q, _, rfl, .inl (seqL (s9 _ _ hrow)), fun l hl => ?_⟩
            have sA := same_new (o := .lst [.int c.1, cellV c.2]) hl
            have hRA := sA _ _ hR9
            refine ⟨R, _, _, rfl, rfl, hRA, lt_sz' (by rw [List.length_map]; omega), ?_⟩
            have hlR : l ≠ R := fun z => by rw [z] at hl; rw [hR9] at hl; cases hl
            refine ⟨_, _, _, ts ++ [l], rfl, same_mut (same_trans s9 sA) hRH, ndict_mut (ndict_same sA hd9) hRA, by omega, hrep5.put c _, fun d hd => putF_some (hdom5 d hd), by rw [upd_same, List.map_append]; rfl, ?_⟩
            exact paired_app (rows_mut hRA (rows_same sA (rows_put hd8 hk9 (rows_same s58 hts)))) (.cons (by show upd _ R _ l = _; rw [upd_ne hlR]; exact upd_same) .nil)
          · have hpos : ¬ (Bg.foldR (fun c => Bg.cnt rs c - Bg.cnt gs c) (rs.take i)).2 c > 0 := fun z => h (decide_eq_true z)
            unfold Bg.stepR
            rw [if_neg hpos]
            exact ⟨_, n, g, ts, rfl, same_trans s5 s6, hd6, by omega, hrep5, hdom5, s6 _ _ hR5, rows_same s6 hts⟩
        · rintro σ H5 ⟨z3, n, g, ts, rfl, s5, hd5, hn, hrep5, hdom5, hR5, hts⟩
          rw [List.length_map, ← lps, List.take_length] at hts
          exact ⟨_, rfl, kk _ R ts s5 hRH hR5 hts⟩
end
end Sb
set_option Elab.async false
set_option maxRecDepth 100000
set_option maxHeartbeats 4000000
namespace Sb
open PySem PySem.Spec PyProof.Rows L2 SX
abbrev s_Change___init__ : Stmt := inClass (top 6) 0
abbrev sc_Change___init___N : List Str := ["self", "gone", "come", "row"]
theorem sc_Change___init__ : FnScope sc_Change___init___N ["self", "gone", "come"] (defScope s_Change___init__) := ⟨rfl, rfl, rfl, by decide +kernel, rfl, by decide +kernel, by decide +kernel⟩
abbrev s_Change_nothing : Stmt := inClass (top 6) 1
abbrev sc_Change_nothing_N : List Str := ["self"]
theorem sc_Change_nothing : FnScope sc_Change_nothing_N ["self"] (defScope s_Change_nothing) := ⟨rfl, rfl, rfl, by decide +kernel, rfl, by decide +kernel, by decide +kernel⟩
abbrev s_Change_small : Stmt := inClass (top 6) 2
abbrev sc_Change_small_N : List Str := ["self"]
theorem sc_Change_small : FnScope sc_Change_small_N ["self"] (defScope s_Change_small) := ⟨rfl, rfl, rfl, by decide +kernel, rfl, by decide +kernel, by decide +kernel⟩
abbrev s_changed_rows : Stmt := top 7
abbrev sc_changed_rows_N : List Str := ["rows", "change", "row"]
theorem sc_changed_rows : FnScope sc_changed_rows_N ["rows", "change"] (defScope s_changed_rows) := ⟨rfl, rfl, rfl, by decide +kernel, rfl, by decide +kernel, by decide +kernel⟩
def rListK (K : PySem.W.Frag) : List V → Hp → VK → Prop := fun xs H Q => ∃ p ys, xs = [.ref p] ∧ (SqL K H p ys ∨ SqT K H p ys) ∧ ∀ l, H l = none → Q (.ref l) (upd H l (.lst ys))
theorem ref_of {qs : List Addr} {i : Nat} {x : V} (h : (qs.map V.ref)[i]? = some x) : ∃ q, qs[i]? = some q ∧ V.ref q = x := by
  rw [List.getElem?_map] at h
  exact Option.map_eq_some_iff.mp h
/-- a copied row is put behind -/
theorem copy_step {H H1 : Hp} {D l : Addr} {ts : List Addr} {cs : List (Int × Int)} {i : Nat} {c : Int × Int} (hD : H D = none) (s1 : Same H H1) (hT : H1 D = some (.lst (ts.map V.ref))) (hr : RowsAt H1 (cs.take i) ts) (hc : cs[i]? = some c) (hl : H1 l = none) (hz : cs.length ≤ 200) :
    ∃ acc, upd H1 l (.lst [.int c.1, cellV c.2]) D = some (.lst acc) ∧ acc.length < sizeLine ∧ ∃ ts' : List Addr, Same H (upd (upd H1 l (.lst [.int c.1, cellV c.2])) D (.lst (acc ++ [.ref l]))) ∧
      upd (upd H1 l (.lst [.int c.1, cellV c.2])) D (.lst (acc ++ [.ref l])) D = some (.lst (ts'.map V.ref)) ∧ RowsAt (upd (upd H1 l (.lst [.int c.1, cellV c.2])) D (.lst (acc ++ [.ref l]))) (cs.take (i + 1)) ts' := by
  have s2 := same_new (o := .lst [.int c.1, cellV c.2]) hl
  have hlD : l ≠ D := fun z => by rw [z, hT] at hl; cases hl
  have h1 := paired_len hr
  have h3 : (cs.take i).length ≤ cs.length := by rw [List.length_take]; omega
  refine ⟨_, s2 _ _ hT, lt_sz' (by rw [List.length_map]; omega), ts ++ [l], same_mut (same_trans s1 s2) hD, by rw [upd_same, List.map_append]; rfl, ?_⟩
  rw [take_next hc]
  exact paired_app (rows_mut (s2 _ _ hT) (rows_same s2 hr)) (.cons (by show upd _ D _ l = _; rw [upd_ne hlD]; exact upd_same) .nil)
/-- the change at a -/
def ChAt (H : Hp) (C a g m : Addr) (gs cs : List (Int × Int)) : Prop := ∃ (dx : Addr) (ps qs : List Addr), H a = some (.ins C dx [("gone", .ref g), ("come", .ref m)]) ∧ H g = some (.lst (ps.map V.ref)) ∧ RowsAt H gs ps ∧ H m = some (.lst (qs.map V.ref)) ∧ RowsAt H cs qs
theorem ChAt.same {H H' : Hp} {C a g m : Addr} {gs cs : List (Int × Int)} (h : ChAt H C a g m gs cs) (s : Same H H') : ChAt H' C a g m gs cs := by
  obtain ⟨dx, ps, qs, h1, h2, h3, h4, h5⟩ := h
  exact ⟨dx, ps, qs, s _ _ h1, s _ _ h2, rows_same s h3, s _ _ h4, rows_same s h5⟩
def spCh (C : Addr) : Sp := fun vs H Q _ => ∃ (x dx G M : Addr) (ps qs : List Addr) (gs cs : List (Int × Int)), vs = [.ref x, .ref G, .ref M] ∧ H x = some (.ins C dx []) ∧ H G = some (.lst (ps.map V.ref)) ∧ RowsAt H gs ps ∧ H M = some (.lst (qs.map V.ref)) ∧ RowsAt H cs qs ∧ gs.length ≤ 200 ∧ cs.length ≤ 200 ∧
  ∀ (H' : Hp) (g m : Addr), (∀ b o, b ≠ x → H b = some o → H' b = some o) → H g = none → H m = none → ChAt H' C x g m gs cs → Q .non H'
def spNothing (C : Addr) : Sp := fun vs H Q _ => ∃ (a g m : Addr) (gs cs : List (Int × Int)), vs = [.ref a] ∧ ChAt H C a g m gs cs ∧ gs.length ≤ 200 ∧ cs.length ≤ 200 ∧ Q (.bl (decide (gs.length + cs.length = 0))) H
def spSmall (C : Addr) : Sp := fun vs H Q _ => ∃ (a g m : Addr) (gs cs : List (Int × Int)), vs = [.ref a] ∧ ChAt H C a g m gs cs ∧ (∀ c ∈ gs, Okc c) ∧ (∀ c ∈ cs, Okc c) ∧ gs.length ≤ 100 ∧ cs.length ≤ 100 ∧
  ∀ (H' : Hp) (b g' m' : Addr), Same H H' → H b = none → ChAt H' C b g' m' (Bg.rem gs cs) (Bg.rem cs gs) → Q (.ref b) H'
def spChanged (K : PySem.W.Frag) (C : Addr) : Sp := fun vs H Q _ => ∃ (L a g m : Addr) (ps : List Addr) (rs gs cs : List (Int × Int)), vs = [.ref L, .ref a] ∧ SqL K H L (ps.map V.ref) ∧ RowsAt H rs ps ∧ ChAt H C a g m gs cs ∧ (∀ c ∈ rs, Okc c) ∧ (∀ c ∈ gs, Okc c) ∧ rs.length ≤ 100 ∧ gs.length ≤ 100 ∧ cs.length ≤ 100 ∧
  ∀ (H' : Hp) (R : Addr) (ts : List Addr), Same H H' → H R = none → H' R = some (.lst (ts.map V.ref)) → RowsAt H' (Bg.wout rs gs ++ cs) ts → Q (.ref R) H'
section
variable {P : Program} {w : World} {K : PySem.W.Frag} {mg : Str → Option Value} {base : Heap} {C fS pN fN fI : Addr}
theorem ok_Change {f : Addr} {fd : FuncData} (F : Fun K "__init__" "Change.__init__" s_Change___init__ f fd) (T : Txt K mg C fS pN fN) : FnOk P w K mg base CX0 1 f fd ["self", "gone", "come"] (spCh C) := by
  refine F.ok sc_Change___init__ (fun vs H Q E h => ?_) (fun cdv A outer s H vs Q E hr h => ?_)
  · obtain ⟨_, _, _, _, _, _, _, _, rfl, _⟩ := h
    rfl
  · obtain ⟨x, dx, G, M, ps, qs, gs, cs, rfl, hx, hG, hps, hM, hqs, l1, l2, kk⟩ := h
    refine ⟨_, (pss_cons (ps_fld (pv 0) (pe_lc (own := [("row", 3)]) (g := gName 3) rfl sc_Change___init__.nd (pi_list (pv 1)) (blkOk_by (own := [("row", 3)]) (N := sc_Change___init___N) (sc := defScope s_Change___init__) (by decide +kernel)) (fun _ _ _ _ _ => pg_name (i := 3) sc_Change___init__.nd rfl (Or.inl rfl)) (fun _ _ _ _ _ => pts_nil) (fun _ _ _ _ _ => (pe_callTy (show CallR _ (.type "list") (rListK K) from call_list_of) (by rfl) T.n_list (by decide +kernel) (pa_cons (pv 3) pa_nil)))) rfl)
  (pss_one (ps_fld (pv 0) (pe_lc (own := [("row", 3)]) (g := gName 3) rfl sc_Change___init__.nd (pi_list (pv 2)) (blkOk_by (own := [("row", 3)]) (N := sc_Change___init___N) (sc := defScope s_Change___init__) (by decide +kernel)) (fun _ _ _ _ _ => pg_name (i := 3) sc_Change___init__.nd rfl (Or.inl rfl)) (fun _ _ _ _ _ => pts_nil) (fun _ _ _ _ _ => (pe_callTy (show CallR _ (.type "list") (rListK K) from call_list_of) (by rfl) T.n_list (by decide +kernel) (pa_cons (pv 3) pa_nil)))) rfl))), ?_⟩
    have lps := paired_len hps
    have lqs := paired_len hqs
    refine ⟨_, rfl, G, rfl, ⟨_, seqL hG⟩, fun D hD => ?_⟩
    refine lc_list (xs := ps.map V.ref) (fun i H' => ∃ ts : List Addr, Same H H' ∧ H' D = some (.lst (ts.map V.ref)) ∧ RowsAt H' (gs.take i) ts) ⟨[], same_new hD, upd_same, .nil⟩ (fun i H' _ ⟨_, h, _⟩ => seqL (h _ _ hG)) ?_ ?_
    · rintro i z H1 hz ⟨ts, s1, hT, hr⟩
      obtain ⟨q, hq, rfl⟩ := ref_of hz
      obtain ⟨c, hc, hrow⟩ := paired_get2 hps hq
      exact ⟨rfl, _, rfl, q, _, rfl, .inl (seqL (s1 _ _ hrow)), fun l hl => copy_step hD s1 hT hr hc hl l1⟩
    rintro H1 ⟨ts, s1, hT, hr⟩
    rw [List.length_map, ← lps, List.take_length] at hr
    refine ⟨_, rfl, x, C, dx, [], rfl, s1 _ _ hx, T.cls, T.n_gone, by decide, ?_⟩
    have hDx : D ≠ x := (ne_of_none hx hD).symm
    show tNext _ _ (upd H1 x (.ins C dx [("gone", .ref D)])) 
    -- the second
    have nx : ∀ {p : Addr} {zs : List V}, H1 p = some (.lst zs) → p ≠ x := fun h => ne_of h (s1 _ _ hx) (by intro z; cases z)
    have keep2 : ∀ {p : Addr} {zs : List V}, H1 p = some (.lst zs) → upd H1 x (.ins C dx [("gone", .ref D)]) p = some (.lst zs) := fun h => by rw [upd_ne (nx h)]; exact h
    have hM2 := keep2 (s1 _ _ hM)
    have hqs2 : RowsAt (upd H1 x (.ins C dx [("gone", .ref D)])) cs qs := paired_mono (fun _ _ e => keep2 (s1 _ _ e)) hqs
    have hr2 : RowsAt (upd H1 x (.ins C dx [("gone", .ref D)])) gs ts := paired_mono (fun _ _ e => keep2 e) hr
    have hT2 := keep2 hT
    refine ⟨_, rfl, M, rfl, ⟨_, seqL hM2⟩, fun D2 hD2 => ?_⟩
    refine lc_list (xs := qs.map V.ref) (fun i H' => ∃ ts : List Addr, Same (upd H1 x (.ins C dx [("gone", .ref D)])) H' ∧ H' D2 = some (.lst (ts.map V.ref)) ∧ RowsAt H' (cs.take i) ts) ⟨[], same_new hD2, upd_same, .nil⟩ (fun i H' _ ⟨_, h, _⟩ => seqL (h _ _ hM2)) ?_ ?_
    · rintro i z H3 hz ⟨us, s3, hU, hv⟩
      obtain ⟨q, hq, rfl⟩ := ref_of hz
      obtain ⟨c, hc, hrow⟩ := paired_get2 hqs2 hq
      exact ⟨rfl, _, rfl, q, _, rfl, .inl (seqL (s3 _ _ hrow)), fun l hl => copy_step hD2 s3 hU hv hc hl l2⟩
    rintro H3 ⟨us, s3, hU, hv⟩
    rw [List.length_map, ← lqs, List.take_length] at hv
    refine ⟨_, rfl, x, C, dx, [("gone", .ref D)], rfl, s3 _ _ upd_same, T.cls, T.n_come, (show 1 < 1000 by decide), ?_⟩
    have nx3 : ∀ {p : Addr} {zs : List V}, H3 p = some (.lst zs) → p ≠ x := fun h => ne_of h (s3 _ _ upd_same) (by intro z; cases z)
    have keep4 : ∀ {p : Addr} {zs : List V} {o : HO}, H3 p = some (.lst zs) → upd H3 x o p = some (.lst zs) := fun h => by rw [upd_ne (nx3 h)]; exact h
    have hD2H : H D2 = none := by
      cases e : H D2 with
      | none => rfl
      | some o =>
        by_cases hb : D2 = x
        · rw [hb, upd_same] at hD2; cases hD2
        · rw [upd_ne hb, s1 _ _ e] at hD2; cases hD2
    refine kk _ D D2 (fun b o hb e => ?_) hD hD2H ⟨dx, ts, us, upd_same, keep4 (s3 _ _ hT2), paired_mono (fun _ _ e => keep4 e) (rows_same s3 hr2), keep4 hU, paired_mono (fun _ _ e => keep4 e) hv⟩
    rw [upd_ne hb]
    exact s3 _ _ (by rw [upd_ne hb]; exact s1 _ _ e)
theorem ok_nothing {f : Addr} {fd : FuncData} (F : Fun K "nothing" "Change.nothing" s_Change_nothing f fd) (T : Txt K mg C fS pN fN) : FnOk P w K mg base CX0 1 f fd ["self"] (spNothing C) := by
  refine F.ok sc_Change_nothing (fun vs H Q E h => ?_) (fun cdv A outer s H vs Q E hr h => ?_)
  · obtain ⟨_, _, _, _, _, rfl, _⟩ := h
    rfl
  · obtain ⟨a, g, m, gs, cs, rfl, ⟨dx, ps, qs, h1, h2, h3, h4, h5⟩, l1, l2, kk⟩ := h
    refine ⟨_, (pss_one (ps_ret (pe_and (pe_cmpR op_eq (pe_callB call_len_seq (by rfl) T.n_len PySem.boot_len (pa_cons (pe_fld (pv 0) rfl) pa_nil)) pe_int (nomark _)) (pe_one (pe_cmpR op_eq (pe_callB call_len_seq (by rfl) T.n_len PySem.boot_len (pa_cons (pe_fld (pv 0) rfl) pa_nil)) pe_int (nomark _)))))), ?_⟩
    have lps := paired_len h3
    have lqs := paired_len h5
    refine ⟨_, rfl, a, C, dx, _, _, rfl, h1, T.cls, T.n_gone, rfl, g, _, rfl, .inl (seqL h2), rfl, _, rfl, ?_⟩
    have e1 : decide (V.int (((ps.map V.ref).length : Nat) : Int) = V.int 0) = decide (gs.length = 0) := by
      rw [List.length_map, ← lps]
      by_cases h : gs.length = 0
      · rw [h]; rfl
      · rw [decide_eq_false h]
        exact decide_eq_false fun z => by
          injection z with z
          omega
    have e2 : decide (V.int (((qs.map V.ref).length : Nat) : Int) = V.int 0) = decide (cs.length = 0) := by
      rw [List.length_map, ← lqs]
      by_cases h : cs.length = 0
      · rw [h]; rfl
      · rw [decide_eq_false h]
        exact decide_eq_false fun z => by
          injection z with z
          omega
    rw [e1]
    refine ite2 (fun hb => ?_) (fun hb => ?_)
    · have hz : gs.length = 0 := of_decide_eq_true hb
      refine ⟨_, rfl, a, C, dx, _, _, rfl, h1, T.cls, T.n_come, rfl, m, _, rfl, .inl (seqL h4), rfl, ?_⟩
      rw [e2]
      rw [hz, Nat.zero_add] at kk
      exact kk
    · have hz : ¬ gs.length = 0 := fun z => hb (decide_eq_true z)
      rw [decide_eq_false (by omega)] at kk
      exact kk
theorem ok_small {f : Addr} {fd fdI : FuncData} (F : Fun K "small" "Change.small" s_Change_small f fd) (T : Txt K mg C fS pN fN) (MC : Mk K C fI) (GC : FnOk P w K mg base CX0 1 fI fdI ["self", "gone", "come"] (spCh C)) (bC : Binds K fdI ["self", "gone", "come"] [])
    (C_remaining : Cal P w K mg base CX0 3 "remaining" (spRemaining K)) : FnOk P w K mg base CX0 4 f fd ["self"] (spSmall C) := by
  refine F.ok sc_Change_small (fun vs H Q E h => ?_) (fun cdv A outer s H vs Q E hr h => ?_)
  · obtain ⟨_, _, _, _, _, rfl, _⟩ := h
    rfl
  · obtain ⟨a, g, m, gs, cs, rfl, ⟨dx, ps, qs, h1, h2, h3, h4, h5⟩, o1, o2, l1, l2, kk⟩ := h
    refine ⟨_, (pss_one (ps_ret (pe_make MC GC (hr.mono (by decide)) (by rfl) T.g_Change bC .nil pass0 (pa_cons (pe_k C_remaining hr (by decide) (by rfl) pass0 (pa_cons (pe_fld (pv 0) rfl) (pa_cons (pe_fld (pv 0) rfl) pa_nil))) (pa_cons (pe_k C_remaining hr (by decide) (by rfl) pass0 (pa_cons (pe_fld (pv 0) rfl) (pa_cons (pe_fld (pv 0) rfl) pa_nil))) pa_nil))))), ?_⟩
    refine ⟨_, rfl, a, C, dx, _, _, rfl, h1, T.cls, T.n_gone, rfl, _, rfl, a, C, dx, _, _, rfl, h1, T.cls, T.n_come, rfl, g, m, ps, qs, gs, cs, rfl, seqL h2, h3, seqL h4, h5, o1, o2, l1, l2, fun H1 R1 ts1 s1 hR1 hR1' hr1 => ?_⟩
    refine ⟨_, rfl, a, C, dx, _, _, rfl, s1 _ _ h1, T.cls, T.n_come, rfl, _, rfl, a, C, dx, _, _, rfl, s1 _ _ h1, T.cls, T.n_gone, rfl, m, g, qs, ps, cs, gs, rfl, seqL (s1 _ _ h4), rows_same s1 h5, seqL (s1 _ _ h2), rows_same s1 h3, o2, o1, l2, l1, fun H2 R2 ts2 s2 hR2 hR2' hr2 => ?_⟩
    refine fun x dx' hx hdx hne => ?_
    have s3 : Same H2 (upd (upd H2 dx' (.own x)) x (.ins C dx' [])) := fun b o e => by
      rw [upd_ne (ne_of_none e hx), upd_ne (ne_of_none e hdx)]
      exact e
    have h01 : (Bg.rem gs cs).length ≤ 200 := Nat.le_trans (Bg.rem_len _ _) (by omega)
    have h02 : (Bg.rem cs gs).length ≤ 200 := Nat.le_trans (Bg.rem_len _ _) (by omega)
    refine ⟨x, dx', R1, R2, ts1, ts2, _, _, rfl, upd_same, s3 _ _ (s2 _ _ hR1'), rows_same s3 (rows_same s2 hr1), s3 _ _ hR2', rows_same s3 hr2, h01, h02, fun H4 g' m' hk _ _ hch => ⟨rfl, ?_⟩⟩
    have sall : Same H H4 := fun b o e => by
      have e2 := s2 _ _ (s1 _ _ e)
      exact hk b o (ne_of_none e2 hx) (s3 _ _ e2)
    have hxH : H x = none := Same.free (same_trans s1 s2) hx
    exact kk H4 x g' m' sall hxH hch
theorem ok_changed_rows {f : Addr} {fd : FuncData} (F : Fun K "changed_rows" "changed_rows" s_changed_rows f fd) (T : Txt K mg C fS pN fN) (C_without : Cal P w K mg base CX0 3 "without" (spWithout K)) : FnOk P w K mg base CX0 4 f fd ["rows", "change"] (spChanged K C) := by
  refine F.ok sc_changed_rows (fun vs H Q E h => ?_) (fun cdv A outer s H vs Q E hr h => ?_)
  · obtain ⟨_, _, _, _, _, _, _, _, rfl, _⟩ := h
    rfl
  · obtain ⟨L, a, g, m, ps, rs, gs, cs, rfl, hL, hps, ⟨dx, us, qs, h1, h2, h3, h4, h5⟩, o1, o2, l1, l2, l3, kk⟩ := h
    refine ⟨_, (pss_one (ps_ret (pe_op op_cat (pe_k C_without hr (by decide) (by rfl) pass0 (pa_cons (pv 0) (pa_cons (pe_fld (pv 1) rfl) pa_nil))) (pe_lc (own := [("row", 2)]) (g := gName 2) rfl sc_changed_rows.nd (pi_list (pe_fld (pv 1) rfl)) (blkOk_by (own := [("row", 2)]) (N := sc_changed_rows_N) (sc := defScope s_changed_rows) (by decide +kernel)) (fun _ _ _ _ _ => pg_name (i := 2) sc_changed_rows.nd rfl (Or.inl rfl)) (fun _ _ _ _ _ => pts_nil) (fun _ _ _ _ _ => (pe_callTy (show CallR _ (.type "list") (rListK K) from call_list_of) (by rfl) T.n_list (by decide +kernel) (pa_cons (pv 2) pa_nil))))))), ?_⟩
    have lqs := paired_len h5
    refine ⟨_, rfl, _, rfl, a, C, dx, _, _, rfl, h1, T.cls, T.n_gone, rfl, L, g, ps, us, rs, gs, rfl, hL, hps, seqL h2, h3, o1, o2, l1, l2, fun H1 R1 ts1 s1 hR1 hR1' hr1 => ?_⟩
    refine ⟨_, rfl, a, C, dx, _, _, rfl, s1 _ _ h1, T.cls, T.n_come, rfl, m, rfl, ⟨_, seqL (s1 _ _ h4)⟩, fun D hD => ?_⟩
    refine lc_list (xs := qs.map V.ref) (fun i H' => ∃ ts : List Addr, Same H1 H' ∧ H' D = some (.lst (ts.map V.ref)) ∧ RowsAt H' (cs.take i) ts) ⟨[], same_new hD, upd_same, .nil⟩ (fun i H' _ ⟨_, h, _⟩ => seqL (h _ _ (s1 _ _ h4))) ?_ ?_
    · rintro i z H2 hz ⟨ts, s2, hT, hr⟩
      obtain ⟨q, hq, rfl⟩ := ref_of hz
      obtain ⟨c, hc, hrow⟩ := paired_get2 (rows_same s1 h5) hq
      exact ⟨rfl, _, rfl, q, _, rfl, .inl (seqL (s2 _ _ hrow)), fun l hl => copy_step hD s2 hT hr hc hl (by omega)⟩
    rintro H2 ⟨ts, s2, hT, hr⟩
    rw [List.length_map, ← lqs, List.take_length] at hr
    have w1 := paired_len hr1
    have w2 := paired_len hr
    have w3 := Bg.wout_len rs gs
    refine ⟨R1, D, _, _, rfl, rfl, s2 _ _ hR1', hT, lt_sz (by rw [List.length_map, List.length_map]; omega), fun p hp => ?_⟩
    have s3 := same_new (o := .lst (ts1.map V.ref ++ ts.map V.ref)) hp
    have hpH : H p = none := Same.free (same_trans s1 s2) hp
    exact kk _ p (ts1 ++ ts) (same_trans s1 (same_trans s2 s3)) hpH (by rw [upd_same, List.map_append]) (paired_app (rows_same s3 (rows_same s2 hr1)) (rows_same s3 hr))
end
end Sb
set_option Elab.async false
set_option maxRecDepth 100000
set_option maxHeartbeats 4000000
namespace Sb
open PySem PySem.Spec PyProof.Rows L2 SX
abbrev s__law_same_rows : Stmt := top 16
abbrev sc__law_same_rows_N : List Str := ["_law_told", "_law_due", "_law_k"]
theorem sc__law_same_rows : FnScope sc__law_same_rows_N ["_law_told", "_law_due"] (defScope s__law_same_rows) := ⟨rfl, rfl, rfl, by decide +kernel, rfl, by decide +kernel, by decide +kernel⟩
abbrev s__law_bag : Stmt := top 15
abbrev sc__law_bag_N : List Str := ["_law_rows", "_law_row"]
theorem sc__law_bag : FnScope sc__law_bag_N ["_law_rows"] (defScope s__law_bag) := ⟨rfl, rfl, rfl, by decide +kernel, rfl, by decide +kernel, by decide +kernel⟩
abbrev s__law_same_bag : Stmt := top 17
abbrev sc__law_same_bag_N : List Str := ["_law_told", "_law_due", "_law_row"]
theorem sc__law_same_bag : FnScope sc__law_same_bag_N ["_law_told", "_law_due"] (defScope s__law_same_bag) := ⟨rfl, rfl, rfl, by decide +kernel, rfl, by decide +kernel, by decide +kernel⟩
abbrev s__law_some_rows : Stmt := top 22
abbrev sc__law_some_rows_N : List Str := ["_law_state_here", "_law_many", "_law_k"]
theorem sc__law_some_rows : FnScope sc__law_some_rows_N ["_law_state_here", "_law_many"] (defScope s__law_some_rows) := ⟨rfl, rfl, rfl, by decide +kernel, rfl, by decide +kernel, by decide +kernel⟩
theorem rkR_eqv (x y : Int × Int) : PyData.eqv (rkR x) (rkR y) = decide (x = y) := by
  show (PyData.eqv (.tuple [.int 2, .int x.1]) (.tuple [.int 2, .int y.1]) && (PyData.eqv (.tuple [.int x.2, rkB x.2]) (.tuple [.int y.2, rkB y.2]) && true)) = _
  rw [rk1_eqv, rk2_eqv]
  obtain ⟨a, b⟩ := x
  obtain ⟨c, d⟩ := y
  by_cases h1 : a = c
  · by_cases h2 : b = d
    · simp [h1, h2]
    · simp [h2]
  · simp [h1]
theorem rkR_lay (c : Int × Int) : (rkR c).canLay0 = true := by
  have h1 := pr_lay (i := 2) (d := .int c.1) rfl
  have h2 := pr_lay (i := c.2) (rkB_lay c.2)
  unfold rkR
  rw [PyData.canLay0, PyData.canLayAll0, PyData.canLayAll0, PyData.canLayAll0, h1, h2]
  rfl
theorem rkR_depth (c : Int × Int) : (rkR c).depth = 2 := by
  have h1 := pr_depth (i := 2) (d := .int c.1) (by simp [PyData.depth])
  have h2 := pr_depth (i := c.2) (rkB_depth c.2)
  unfold rkR
  rw [PyData.depth, PyData.depthAll, PyData.depthAll, PyData.depthAll, h1, h2]
  rfl
theorem rkR_shaped (c : Int × Int) : SeqAt.shaped (rkR c) = true := by
  unfold SeqAt.shaped
  rw [Bool.and_eq_true]
  exact ⟨rkR_lay c, decide_eq_true (by rw [rkR_depth]; decide)⟩
theorem rks_lay : ∀ cs : List (Int × Int), PyData.canLayAll0 (cs.map rkR) = true
  | [] => by simp [PyData.canLayAll0]
  | c :: cs => by
    rw [List.map_cons, PyData.canLayAll0, Bool.and_eq_true]
    exact ⟨rkR_lay c, rks_lay cs⟩
theorem rks_depth : ∀ cs : List (Int × Int), PyData.depthAll (cs.map rkR) ≤ 2
  | [] => by simp [PyData.depthAll]
  | c :: cs => by
    have h1 := rks_depth cs
    rw [List.map_cons, PyData.depthAll, rkR_depth]
    omega
theorem rks_shaped (cs : List (Int × Int)) : SeqAt.shaped (.list (cs.map rkR)) = true := by
  unfold SeqAt.shaped
  rw [Bool.and_eq_true]
  refine ⟨by rw [PyData.canLay0]; exact rks_lay cs, decide_eq_true ?_⟩
  have := rks_depth cs
  rw [PyData.depth]
  omega
theorem rks_eqv : ∀ cs : List (Int × Int), PyData.eqvAll (cs.map rkR) (cs.map rkR) = true
  | [] => by simp [PyData.eqvAll]
  | c :: cs => by
    rw [List.map_cons, PyData.eqvAll, rkR_eqv, rks_eqv cs]
    simp
theorem rks_dp {K : PySem.W.Frag} {H : Hp} {cs : List (Int × Int)} {ps : List Addr} (h : RksAt H cs ps) : DpAll K H (ps.map V.ref) (cs.map rkR) := by
  induction h with
  | nil => exact .nil
  | cons h _ ih => exact .cons h.dp ih
theorem rks_same {H H' : Hp} (s : Same H H') {cs : List (Int × Int)} {ps : List Addr} (h : RksAt H cs ps) : RksAt H' cs ps := paired_mono (fun _ _ e => e.keep s) h
theorem paired_monoR {α β : Type} {F G : α → β → Prop} : ∀ {l : List α} {m : List β}, Paired F l m → (∀ a b, b ∈ m → F a b → G a b) → Paired G l m
  | _, _, .nil, _ => .nil
  | _, _, .cons r t, h => .cons (h _ _ List.mem_cons_self r) (paired_monoR t fun a b hb => h a b (List.mem_cons_of_mem _ hb))
theorem rk_mut {H : Hp} {D p : Addr} {zs ys : List V} {c : Int × Int} (hT : H D = some (.lst zs)) (hp : p ≠ D) (h : RkAt H c p) : RkAt (upd H D (.lst ys)) c p := by
  obtain ⟨a, b, e1, e2, e3⟩ := h
  exact ⟨a, b, by rw [upd_ne hp]; exact e1, by rw [upd_ne (ne_of e2 hT (by intro z; cases z))]; exact e2, by rw [upd_ne (ne_of e3 hT (by intro z; cases z))]; exact e3⟩
theorem rks_mut {H : Hp} {D : Addr} {zs ys : List V} {cs : List (Int × Int)} {ts : List Addr} (hT : H D = some (.lst zs)) (hne : ∀ p ∈ ts, p ≠ D) (h : RksAt H cs ts) : RksAt (upd H D (.lst ys)) cs ts := paired_monoR h fun _ p hp e => rk_mut hT (hne p hp) e
theorem rk_step {H H1 H2 : Hp} {D l : Addr} {ts : List Addr} {cs : List (Int × Int)} {i : Nat} {c : Int × Int} (hD : H D = none) (s1 : Same H H1) (s2 : Same H1 H2) (hT : H1 D = some (.lst (ts.map V.ref))) (hr : RksAt H1 (cs.take i) ts) (hne : ∀ p ∈ ts, p ≠ D) (hc : cs[i]? = some c) (hl : H1 l = none) (hk : RkAt H2 c l) (hz : cs.length ≤ 200) :
    ∃ acc, H2 D = some (.lst acc) ∧ acc.length < sizeLine ∧ ∃ ts' : List Addr, Same H (upd H2 D (.lst (acc ++ [.ref l]))) ∧ upd H2 D (.lst (acc ++ [.ref l])) D = some (.lst (ts'.map V.ref)) ∧ RksAt (upd H2 D (.lst (acc ++ [.ref l]))) (cs.take (i + 1)) ts' ∧ ∀ p ∈ ts', p ≠ D := by
  have h1 := paired_len hr
  have h3 : (cs.take i).length ≤ cs.length := by rw [List.length_take]; omega
  have hlD : l ≠ D := fun z => by rw [z, hT] at hl; cases hl
  have hT2 := s2 _ _ hT
  refine ⟨_, hT2, lt_sz' (by rw [List.length_map]; omega), ts ++ [l], same_mut (same_trans s1 s2) hD, by rw [upd_same, List.map_append]; rfl, ?_, fun p hp => ?_⟩
  · rw [take_next hc]
    exact paired_app (rks_mut hT2 hne (rks_same s2 hr)) (.cons (rk_mut hT2 hlD hk) .nil)
  · rcases List.mem_append.mp hp with h | h
    · exact hne p h
    · have : p = l := by simpa using h
      rw [this]
      exact hlD
def spSameRows : Sp := fun vs H Q _ => ∃ (a b : Addr) (ps qs : List Addr) (cs : List (Int × Int)), vs = [.ref a, .ref b] ∧ H a = some (.lst (ps.map V.ref)) ∧ RowsAt H cs ps ∧ H b = some (.lst (qs.map V.ref)) ∧ RowsAt H cs qs ∧ (∀ c ∈ cs, Okc c) ∧ cs.length ≤ 200 ∧ ∀ H', Same H H' → Q (.bl true) H'
def spBag : Sp := fun vs H Q _ => ∃ (a : Addr) (ps : List Addr) (cs : List (Int × Int)), vs = [.ref a] ∧ H a = some (.lst (ps.map V.ref)) ∧ RowsAt H cs ps ∧ (∀ c ∈ cs, Okc c) ∧ cs.length ≤ 200 ∧
  ∀ (H' : Hp) (D : Addr) (rs : List Addr) (ds : List (Int × Int)), Same H H' → H' D = some (.lst (rs.map V.ref)) → RksAt H' ds rs → ds.Perm cs → SrtO.Srtd SrtO.lexB ds → Q (.ref D) H'
def spSameBag : Sp := fun vs H Q _ => ∃ (a b : Addr) (ps qs : List Addr) (cs ds : List (Int × Int)), vs = [.ref a, .ref b] ∧ H a = some (.lst (ps.map V.ref)) ∧ RowsAt H cs ps ∧ H b = some (.lst (qs.map V.ref)) ∧ RowsAt H ds qs ∧ (∀ c ∈ cs, Okc c) ∧ (∀ c ∈ ds, Okc c) ∧ cs.length ≤ 200 ∧ cs.Perm ds ∧ ∀ H', Same H H' → Q (.bl true) H'
def spSome : Sp := fun vs H Q _ => ∃ (st : Addr) (m : Int), vs = [.ref st, .int m] ∧ Dr H st ∧ 0 ≤ m ∧ m ≤ 100 ∧
  ∀ (H' : Hp) (R : Addr) (ps : List Addr) (cs : List (Int × Int)), Kp st H H' → H R = none → H' R = some (.lst (ps.map V.ref)) → RowsAt H' cs ps → (cs.length : Int) = m → (∀ c ∈ cs, Okc c) → Q (.ref R) H'
section
variable {P : Program} {w : World} {K : PySem.W.Frag} {mg : Str → Option Value} {base : Heap} {C fS pN fN fI : Addr}
theorem ok__law_same_rows {f : Addr} {fd : FuncData} (F : Fun K "_law_same_rows" "_law_same_rows" s__law_same_rows f fd) (T : Txt K mg C fS pN fN) (C__law_ranks : Cal P w K mg base CX0 2 "_law_ranks" spRanks) : FnOk P w K mg base CX0 3 f fd ["_law_told", "_law_due"] spSameRows := by
  refine F.ok sc__law_same_rows (fun vs H Q E h => ?_) (fun cdv A outer s H vs Q E hr h => ?_)
  · obtain ⟨_, _, _, _, _, rfl, _⟩ := h
    rfl
  · obtain ⟨a, b, ps, qs, cs, rfl, ha, hps, hb, hqs, ok, hl, kk⟩ := h
    refine ⟨_, (pss_cons (ps_if (PW.pt (pw_or (pt_not (pt_val (pe_callB call_isi (by rfl) T.n_isinstance (by decide +kernel) (pa_cons (pv 0) (pa_cons (pe_bltn (by rfl) T.n_list (by decide +kernel) (show RelV (.ty "list") (.type "list") from rfl)) pa_nil))))) (pw_or1 (pt_cmpR op_ne (pe_callB call_len_seq (by rfl) T.n_len PySem.boot_len (pa_cons (pv 0) pa_nil)) (pe_callB call_len_seq (by rfl) T.n_len PySem.boot_len (pa_cons (pv 1) pa_nil)) (nomark _))))) (pss_one (ps_ret pe_bl)) pss_nil)
  (pss_cons (ps_for PassesOwn.never rfl (pi_range1 rfl T.n_range (pa_cons (pe_callB call_len_seq (by rfl) T.n_len PySem.boot_len (pa_cons (pv 1) pa_nil)) pa_nil)) (pg_name (i := 2) sc__law_same_rows.nd rfl (Or.inl rfl)) (pss_one (ps_if (PW.pt (pw_or (pt_not (pt_val (pe_callB call_isi (by rfl) T.n_isinstance (by decide +kernel) (pa_cons (pe_ix ix_list (pv 0) (pv 2) (fun _ _ => rfl)) (pa_cons (pe_bltn (by rfl) T.n_list (by decide +kernel) (show RelV (.ty "list") (.type "list") from rfl)) pa_nil))))) (pw_or1 (pt_cmpR (op_neD hr.units) (pe_k C__law_ranks hr (by decide) (by rfl) pass0 (pa_cons (pe_ix ix_list (pv 0) (pv 2) (fun _ _ => rfl)) pa_nil)) (pe_k C__law_ranks hr (by decide) (by rfl) pass0 (pa_cons (pe_ix ix_list (pv 1) (pv 2) (fun _ _ => rfl)) pa_nil)) (nomark _))))) (pss_one (ps_ret pe_bl)) pss_nil)))
  (pss_one (ps_ret pe_bl)))), ?_⟩
    have lps := paired_len hps
    have lqs := paired_len hqs
    refine ⟨_, rfl, _, _, _, _, true, rfl, .ty _, .base (.lst ha), kit_ty (by decide +kernel), true, rfl, iteF ?_⟩
    refine ⟨_, rfl, a, _, rfl, .inl (seqL ha), _, rfl, b, _, rfl, .inl (seqL hb), rfl, _, rfl, ?_⟩
    rw [List.length_map, List.length_map, ← lps, ← lqs, decide_eq_true rfl]
    refine iteF ?_
    refine ⟨_, rfl, b, _, rfl, .inl (seqL hb), _, rfl, by omega, by rw [List.length_map]; omega, for_range (lo := 0) (n := (qs.map V.ref).length) (fun _ σ H' => ∃ x2, σ = [some (.ref a), some (.ref b), x2] ∧ Same H H') ⟨_, rfl, same_refl⟩ ?_ ?_⟩
    · rintro i σ H1 hi ⟨x2, rfl, s1⟩
      rw [List.length_map] at hi
      obtain ⟨q, hq⟩ : ∃ q, qs[i]? = some q := ⟨_, List.getElem?_eq_getElem hi⟩
      obtain ⟨c, hc, hrow⟩ := paired_get2 hqs hq
      obtain ⟨p, hp, hrow2⟩ := paired_get hps hc
      have hokc := ok c (List.mem_of_getElem? hc)
      have e0 : (0 : Int) + (i : Int) = (i : Int) := Int.zero_add _
      have hpa : atI (ps.map V.ref) ((0 : Int) + (i : Int)) = some (.ref p) := atI2 e0 (by rw [List.getElem?_map, hp]; rfl)
      have hqa : atI (qs.map V.ref) ((0 : Int) + (i : Int)) = some (.ref q) := atI2 e0 (by rw [List.getElem?_map, hq]; rfl)
      refine ⟨_, rfl, _, rfl, a, _, _, _, rfl, rfl, seqL (s1 _ _ ha), hpa, ?_⟩
      refine ⟨_, _, _, _, true, rfl, .ty _, .base (.lst (s1 _ _ hrow2)), kit_ty (by decide +kernel), true, rfl, iteF ?_⟩
      refine ⟨_, rfl, _, rfl, a, _, _, _, rfl, rfl, seqL (s1 _ _ ha), hpa, p, c, rfl, s1 _ _ hrow2, hokc, fun H2 r2 s2 _ k2 => ?_⟩
      refine ⟨_, rfl, _, rfl, b, _, _, _, rfl, rfl, seqL (s2 _ _ (s1 _ _ hb)), hqa, q, c, rfl, s2 _ _ (s1 _ _ hrow), hokc, fun H3 r3 s3 _ k3 => ?_⟩
      refine ⟨rkR c, rkR c, (k2.keep s3).dp, k3.dp, rkR_shaped c, rkR_shaped c, _, rfl, ?_⟩
      rw [rkR_eqv, decide_eq_true rfl]
      refine iteF ?_
      exact ⟨_, rfl, same_trans s1 (same_trans s2 s3)⟩
    · rintro σ H1 ⟨x2, rfl, s1⟩
      exact kk _ s1
theorem ok__law_bag {f : Addr} {fd : FuncData} (F : Fun K "_law_bag" "_law_bag" s__law_bag f fd) (T : Txt K mg C fS pN fN) (C__law_ranks : Cal P w K mg base CX0 2 "_law_ranks" spRanks) : FnOk P w K mg base CX0 3 f fd ["_law_rows"] spBag := by
  refine F.ok sc__law_bag (fun vs H Q E h => ?_) (fun cdv A outer s H vs Q E hr h => ?_)
  · obtain ⟨_, _, _, rfl, _⟩ := h
    rfl
  · obtain ⟨a, ps, cs, rfl, ha, hps, ok, hl, kk⟩ := h
    refine ⟨_, (pss_one (ps_ret (pe_callB (cr_sortedR hr.u16) (by rfl) T.n_sorted (by decide +kernel) (pa_cons (pe_lc (own := [("_law_row", 1)]) (g := gName 1) rfl sc__law_bag.nd (pi_list (pv 0)) (blkOk_by (own := [("_law_row", 1)]) (N := sc__law_bag_N) (sc := defScope s__law_bag) (by decide +kernel)) (fun _ _ _ _ _ => pg_name (i := 1) sc__law_bag.nd rfl (Or.inl rfl)) (fun _ _ _ _ _ => pts_nil) (fun _ _ _ _ _ => (pe_k C__law_ranks hr (by decide) (by rfl) pass0 (pa_cons (pv 1) pa_nil)))) pa_nil)))), ?_⟩
    have lps := paired_len hps
    refine ⟨_, rfl, a, rfl, ⟨_, seqL ha⟩, fun D hD => ?_⟩
    refine lc_list (xs := ps.map V.ref) (fun i H' => ∃ ts : List Addr, Same H H' ∧ H' D = some (.lst (ts.map V.ref)) ∧ RksAt H' (cs.take i) ts ∧ ∀ p ∈ ts, p ≠ D) ⟨[], same_new hD, upd_same, .nil, fun p hp => nomatch hp⟩ (fun i H' _ ⟨_, h, _⟩ => seqL (h _ _ ha)) ?_ ?_
    · rintro i z H1 hz ⟨ts, s1, hT, hr, hne⟩
      obtain ⟨q, hq, rfl⟩ := ref_of hz
      obtain ⟨c, hc, hrow⟩ := paired_get2 hps hq
      refine ⟨rfl, _, rfl, q, c, rfl, s1 _ _ hrow, ok c (List.mem_of_getElem? hc), fun H2 l s2 hln hk => ?_⟩
      exact rk_step hD s1 s2 hT hr hne hc hln hk hl
    rintro H1 ⟨ts, s1, hT, hr, hne⟩
    rw [List.length_map, ← lps, List.take_length] at hr
    refine ⟨D, ts, cs, rfl, seqL hT, hr, fun qs ds p hq hperm hs hp => ?_⟩
    have s2 := same_new (o := .lst (qs.map V.ref)) hp
    exact kk _ p qs ds (same_trans s1 s2) upd_same (rks_same s2 hq) hperm hs
theorem ok__law_same_bag {f : Addr} {fd : FuncData} (F : Fun K "_law_same_bag" "_law_same_bag" s__law_same_bag f fd) (T : Txt K mg C fS pN fN) (C__law_bag : Cal P w K mg base CX0 3 "_law_bag" spBag) : FnOk P w K mg base CX0 4 f fd ["_law_told", "_law_due"] spSameBag := by
  refine F.ok sc__law_same_bag (fun vs H Q E h => ?_) (fun cdv A outer s H vs Q E hr h => ?_)
  · obtain ⟨_, _, _, _, _, _, rfl, _⟩ := h
    rfl
  · obtain ⟨a, b, ps, qs, cs, ds, rfl, ha, hps, hb, hqs, ok1, ok2, hl, hperm, kk⟩ := h
    refine ⟨_, (pss_cons (ps_if (PW.pt (pw_or (pt_not (pt_val (pe_callB call_isi (by rfl) T.n_isinstance (by decide +kernel) (pa_cons (pv 0) (pa_cons (pe_bltn (by rfl) T.n_list (by decide +kernel) (show RelV (.ty "list") (.type "list") from rfl)) pa_nil))))) (pw_or1 (pt_cmpR op_ne (pe_callB call_len_seq (by rfl) T.n_len PySem.boot_len (pa_cons (pv 0) pa_nil)) (pe_callB call_len_seq (by rfl) T.n_len PySem.boot_len (pa_cons (pv 1) pa_nil)) (nomark _))))) (pss_one (ps_ret pe_bl)) pss_nil)
  (pss_cons (ps_for PassesOwn.never rfl (pi_list (pv 0)) (pg_name (i := 2) sc__law_same_bag.nd rfl (Or.inl rfl)) (pss_one (ps_if (pt_not (pt_val (pe_callB call_isi (by rfl) T.n_isinstance (by decide +kernel) (pa_cons (pv 2) (pa_cons (pe_bltn (by rfl) T.n_list (by decide +kernel) (show RelV (.ty "list") (.type "list") from rfl)) pa_nil))))) (pss_one (ps_ret pe_bl)) pss_nil)))
  (pss_one (ps_ret (pe_cmpR (op_eqD hr.units) (pe_k C__law_bag hr (by decide) (by rfl) pass0 (pa_cons (pv 0) pa_nil)) (pe_k C__law_bag hr (by decide) (by rfl) pass0 (pa_cons (pv 1) pa_nil)) (nomark _)))))), ?_⟩
    have lps := paired_len hps
    have lqs := paired_len hqs
    have lcd := hperm.length_eq
    refine ⟨_, rfl, _, _, _, _, true, rfl, .ty _, .base (.lst ha), kit_ty (by decide +kernel), true, rfl, iteF ?_⟩
    refine ⟨_, rfl, a, _, rfl, .inl (seqL ha), _, rfl, b, _, rfl, .inl (seqL hb), rfl, _, rfl, ?_⟩
    rw [List.length_map, List.length_map, ← lps, ← lqs, lcd, decide_eq_true rfl]
    refine iteF ?_
    refine ⟨_, rfl, a, rfl, ⟨_, seqL ha⟩, for_list (xs := ps.map V.ref) (fun _ σ H' => ∃ x2, σ = [some (.ref a), some (.ref b), x2] ∧ H' = H) ⟨_, rfl, rfl⟩ (fun i σ H' _ ⟨_, _, h⟩ => by rw [h]; exact seqL ha) ?_ ?_⟩
    · rintro i x σ H1 hx ⟨x2, rfl, rfl⟩
      obtain ⟨p, hp, rfl⟩ := ref_of hx
      obtain ⟨c, hc, hrow⟩ := paired_get2 hps hp
      refine ⟨_, rfl, _, _, _, _, true, rfl, .ty _, .base (.lst hrow), kit_ty (by decide +kernel), true, rfl, iteF ?_⟩
      exact ⟨_, rfl, rfl⟩
    · rintro σ H1 ⟨x2, rfl, rfl⟩
      refine ⟨_, rfl, a, ps, cs, rfl, ha, hps, ok1, hl, fun H2 D1 r1 e1 s1 hD1 hr1 p1 q1 => ?_⟩
      refine ⟨_, rfl, b, qs, ds, rfl, s1 _ _ hb, rows_same s1 hqs, ok2, by omega, fun H3 D2 r2 e2 s2 hD2 hr2 p2 q2 => ?_⟩
      have ee : e1 = e2 := srt_uniq q1 q2 (p1.trans (hperm.trans p2.symm))
      subst ee
      refine ⟨.list (e1.map rkR), .list (e1.map rkR), .lst (seqL (s2 _ _ hD1)) (rks_dp (rks_same s2 hr1)), .lst (seqL hD2) (rks_dp hr2), rks_shaped _, rks_shaped _, ?_⟩
      have e : PyData.eqv (.list (e1.map rkR)) (.list (e1.map rkR)) = true := rks_eqv e1
      rw [e]
      exact kk _ (same_trans s1 s2)
theorem ok__law_some_rows {f : Addr} {fd : FuncData} (F : Fun K "_law_some_rows" "_law_some_rows" s__law_some_rows f fd) (T : Txt K mg C fS pN fN) (C__law_digit : Cal P w K mg base CX0 1 "_law_digit" spDigit) : FnOk P w K mg base CX0 2 f fd ["_law_state_here", "_law_many"] spSome := by
  refine F.ok sc__law_some_rows (fun vs H Q E h => ?_) (fun cdv A outer s H vs Q E hr h => ?_)
  · obtain ⟨_, _, rfl, _⟩ := h
    rfl
  · obtain ⟨st, m, rfl, dr, m0, m1, kk⟩ := h
    refine ⟨_, (pss_one (ps_ret (pe_lc (own := [("_law_k", 2)]) (g := gName 2) rfl sc__law_some_rows.nd (pi_range1 rfl T.n_range (pa_cons (pv 1) pa_nil)) (blkOk_by (own := [("_law_k", 2)]) (N := sc__law_some_rows_N) (sc := defScope s__law_some_rows) (by decide +kernel)) (fun _ _ _ _ _ => pg_name (i := 2) sc__law_some_rows.nd rfl (Or.inl rfl)) (fun _ _ _ _ _ => pts_nil) (fun _ _ _ _ _ => (pe_lst (pa_cons (pe_k C__law_digit hr (by decide) (by rfl) pass0 (pa_cons (pv 0) (pa_cons pe_int pa_nil))) (pa_cons (pe_ix (show IxR _ (rIxT K) from ix_tup) (pe_tup (pa_cons pe_non (pa_cons pe_bl (pa_cons pe_int (pa_cons pe_str pa_nil))))) (pe_k C__law_digit hr (by decide) (by rfl) pass0 (pa_cons (pv 0) (pa_cons pe_int pa_nil))) (fun _ _ => rfl)) pa_nil))))))), ?_⟩
    refine ⟨_, rfl, m, rfl, by omega, by omega, fun D hD => ?_⟩
    refine lc_range (lo := 0) (n := m.toNat) (fun i H' => ∃ (ts : List Addr) (cs : List (Int × Int)), Kp st H H' ∧ H' D = some (.lst (ts.map V.ref)) ∧ RowsAt H' cs ts ∧ cs.length = i ∧ ∀ c ∈ cs, Okc c)
      ⟨[], [], (Kp.refl dr).new hD, upd_same, .nil, rfl, fun c hc => nomatch hc⟩ (fun i H1 hi ⟨ts, cs, k1, hT, hr, hlen, ok⟩ => ?_) (fun H1 ⟨ts, cs, k1, hT, hr, hlen, ok⟩ => ?_)
    · refine ⟨rfl, _, rfl, st, 3, rfl, k1.dr, by decide, by decide, fun d H2 d0 d1 k2 => ?_⟩
      refine ⟨lt_sz (show 4 ≤ 200000 by decide), fun t ht => ?_⟩
      have s3 := same_new (o := .tup [.non, .bl true, .int 1, .str "a"]) ht
      have k23 := k2.same s3
      refine ⟨_, rfl, st, 4, rfl, k23.dr, by decide, by decide, fun e H3 e0 e1 k3 => ?_⟩
      have htup : H3 t = some (.tup [.non, .bl true, .int 1, .str "a"]) := k3.1 _ _ (new_ne k2.dr ht) upd_same
      have hat : atI [V.non, .bl true, .int 1, .str "a"] e = some (cellV e) := by
        have : e = 0 ∨ e = 1 ∨ e = 2 ∨ e = 3 := by omega
        rcases this with rfl | rfl | rfl | rfl
        · exact at0
        · exact at1
        · exact at2
        · exact at3
      refine ⟨t, _, _, _, rfl, rfl, seqT htup, hat, lt_sz (show 2 ≤ 200000 by decide), fun l hl => ?_⟩
      have k13 := (k1.trans k23).trans k3
      have s4 := same_new (o := .lst [.int d, cellV e]) hl
      have nst : ∀ {b : Addr} {zs : List V}, H1 b = some (.lst zs) → (∀ z : Int, zs ≠ [.int z]) → b ≠ st := fun {b zs} h hz => by
        obtain ⟨y, hy⟩ := k1.dr
        exact ne_of h hy (by intro q; injection q with q; exact hz y q)
      have kept : ∀ {b : Addr} {zs : List V}, H1 b = some (.lst zs) → (∀ z : Int, zs ≠ [.int z]) → H3 b = some (.lst zs) := fun h hz => (k23.trans k3).1 _ _ (nst h hz) h
      have hT3 := kept hT (fun z q => by cases ts <;> simp at q)
      have hr3 : RowsAt H3 cs ts := paired_mono (fun c p hc => kept hc (fun z q => by simp at q)) hr
      have hDH : H D = none := hD
      have hlD : l ≠ D := fun z => by rw [z, hT3] at hl; cases hl
      have ltn := paired_len hr
      refine ⟨_, s4 _ _ hT3, lt_sz' (by rw [List.length_map]; omega), ts ++ [l], cs ++ [(d, e)], (k13.same s4).mut hDH dr, by rw [upd_same, List.map_append]; rfl, ?_, by rw [List.length_append, hlen]; rfl, ?_⟩
      · exact paired_app (rows_mut (s4 _ _ hT3) (rows_same s4 hr3)) (.cons (by show upd _ D _ l = _; rw [upd_ne hlD]; exact upd_same) .nil)
      · intro c hc
        rcases List.mem_append.mp hc with h | h
        · exact ok c h
        · have : c = (d, e) := by simpa using h
          subst this
          exact ⟨e0, by show e ≤ 3; omega⟩
    · exact kk _ D ts cs k1 hD hT hr (by omega) ok
end
end Sb
set_option Elab.async false
set_option maxRecDepth 100000
set_option maxHeartbeats 4000000
namespace Sb
open PySem PySem.Spec PyProof.Rows L2 SX
abbrev s__law_without : Stmt := top 20
abbrev sc__law_without_N : List Str := ["_law_rows", "_law_others", "_law_left", "_law_found", "_law_row"]
theorem sc__law_without : FnScope sc__law_without_N ["_law_rows", "_law_others"] (defScope s__law_without) := ⟨rfl, rfl, rfl, by decide +kernel, rfl, by decide +kernel, by decide +kernel⟩
abbrev s__law_more : Stmt := top 21
abbrev sc__law_more_N : List Str := ["_law_rows", "_law_others", "_law_found", "_law_row", "_law_ranks_here", "_law_more_here", "_law_r"]
theorem sc__law_more : FnScope sc__law_more_N ["_law_rows", "_law_others"] (defScope s__law_more) := ⟨rfl, rfl, rfl, by decide +kernel, rfl, by decide +kernel, by decide +kernel⟩
def spLWithout : Sp := fun vs H Q _ => ∃ (L G : Addr) (ps qs : List Addr) (rs gs : List (Int × Int)), vs = [.ref L, .ref G] ∧ H L = some (.lst (ps.map V.ref)) ∧ RowsAt H rs ps ∧ H G = some (.lst (qs.map V.ref)) ∧ RowsAt H gs qs ∧ (∀ c ∈ rs, Okc c) ∧ (∀ c ∈ gs, Okc c) ∧ rs.length ≤ 100 ∧ gs.length ≤ 100 ∧
  ∀ (H' : Hp) (R : Addr) (ts : List Addr), Same H H' → H R = none → H' R = some (.lst (ts.map V.ref)) → RowsAt H' (Bg.wout rs gs) ts → Q (.ref R) H'
def spLMore : Sp := fun vs H Q _ => ∃ (L G : Addr) (ps qs : List Addr) (rs gs : List (Int × Int)), vs = [.ref L, .ref G] ∧ H L = some (.lst (ps.map V.ref)) ∧ RowsAt H rs ps ∧ H G = some (.lst (qs.map V.ref)) ∧ RowsAt H gs qs ∧ (∀ c ∈ rs, Okc c) ∧ (∀ c ∈ gs, Okc c) ∧ rs.length ≤ 100 ∧ gs.length ≤ 100 ∧
  ∀ (H' : Hp) (R : Addr) (ts : List Addr), Same H H' → H R = none → H' R = some (.lst (ts.map V.ref)) → RowsAt H' (Bg.rem rs gs) ts → Q (.ref R) H'
theorem any_rk (ls : List (Int × Int)) (c : Int × Int) : (ls.map rkR).any (fun z => PyData.eqv z (rkR c)) = decide (Bg.cnt ls c > 0) := by
  induction ls with
  | nil => rfl
  | cons d ls ih =>
    rw [List.map_cons, List.any_cons, ih, rkR_eqv]
    unfold Bg.cnt
    by_cases h : d = c
    · subst h
      simp
    · simp [h]
theorem first_at : ∀ (ls : List (Int × Int)) (c : Int × Int), Bg.cnt ls c > 0 → ∃ j, ls[j]? = some c ∧ (∀ m d, m < j → ls[m]? = some d → d ≠ c) ∧ Bg.cnt (ls.eraseIdx j) = Bg.dec (Bg.cnt ls) c
  | [], c, h => by exact absurd h (by show ¬ (0 : Int) > 0; omega)
  | d :: ls, c, h => by
    by_cases e : d = c
    · subst e
      refine ⟨0, rfl, fun m d hm _ => by omega, ?_⟩
      funext q
      show Bg.cnt ls q = Bg.dec (Bg.cnt (d :: ls)) d q
      unfold Bg.dec Bg.cnt
      by_cases h : q = d
      · subst h; simp
      · have h' : ¬ d = q := fun z => h z.symm
        simp [h, h']
    · have hc : Bg.cnt ls c > 0 := by
        unfold Bg.cnt at h ⊢
        rw [List.count_cons_of_ne e] at h
        exact h
      obtain ⟨j, h1, h2, h3⟩ := first_at ls c hc
      refine ⟨j + 1, by simpa using h1, fun m x hm hx => ?_, ?_⟩
      · match m, hm, hx with
        | 0, _, hx => simp at hx; subst hx; exact e
        | m + 1, hm, hx => exact h2 m x (by omega) (by simpa using hx)
      · funext q
        have h3q : Bg.cnt (ls.eraseIdx j) q = _ := congrFun h3 q
        show Bg.cnt (d :: ls.eraseIdx j) q = Bg.dec (Bg.cnt (d :: ls)) c q
        unfold Bg.dec Bg.cnt at *
        by_cases h : q = c
        · subst h
          rw [if_pos rfl] at h3q ⊢
          rw [List.count_cons_of_ne e, List.count_cons_of_ne e]
          exact h3q
        · rw [if_neg h] at h3q ⊢
          rw [List.count_cons, List.count_cons]
          omega
theorem rks_erase {H : Hp} : ∀ {cs : List (Int × Int)} {ts : List Addr} (j : Nat), RksAt H cs ts → RksAt H (cs.eraseIdx j) (ts.eraseIdx j)
  | _, _, _, .nil => .nil
  | _, _, 0, .cons _ t => t
  | _, _, j + 1, .cons a t => .cons a (rks_erase j t)
theorem map_erase {α β : Type} (f : α → β) : ∀ (l : List α) (j : Nat), (l.map f).eraseIdx j = (l.eraseIdx j).map f
  | [], _ => rfl
  | _ :: _, 0 => rfl
  | a :: l, j + 1 => congrArg (f a :: ·) (map_erase f l j)
theorem cnt_le_len (l : List (Int × Int)) (c : Int × Int) : Bg.cnt l c ≤ (l.length : Int) := Int.ofNat_le.mpr List.count_le_length
theorem paired_mem2 {α β : Type} {F : α → β → Prop} : ∀ {l : List α} {m : List β} {b : β}, Paired F l m → b ∈ m → ∃ a, a ∈ l ∧ F a b
  | _, _, _, .nil, h => nomatch h
  | _, _, _, .cons r t, h => by
    rcases List.mem_cons.mp h with e | h
    · subst e
      exact ⟨_, List.mem_cons_self, r⟩
    · obtain ⟨a, h1, h2⟩ := paired_mem2 t h
      exact ⟨a, List.mem_cons_of_mem _ h1, h2⟩
section
variable {P : Program} {w : World} {K : PySem.W.Frag} {mg : Str → Option Value} {base : Heap} {C fS pN fN fI : Addr}
theorem ok__law_without {f : Addr} {fd : FuncData} (F : Fun K "_law_without" "_law_without" s__law_without f fd) (T : Txt K mg C fS pN fN) (C__law_ranks : Cal P w K mg base CX0 2 "_law_ranks" spRanks) : FnOk P w K mg base CX0 3 f fd ["_law_rows", "_law_others"] spLWithout := by
  refine F.ok sc__law_without (fun vs H Q E h => ?_) (fun cdv A outer s H vs Q E hr h => ?_)
  · obtain ⟨_, _, _, _, _, _, rfl, _⟩ := h
    rfl
  · obtain ⟨L, G, ps, qs, rs, gs, rfl, hL, hps, hG, hqs, ok1, ok2, l1, l2, kk⟩ := h
    refine ⟨_, (pss_cons (ps_setLc (i := 2) (own := [("_law_row", 4)]) (g := gName 4) rfl sc__law_without.nd rfl rfl (sw_true rfl rfl rfl (by decide +kernel)) (pi_list (pv 1)) (blkOk_by (own := [("_law_row", 4)]) (N := sc__law_without_N) (sc := defScope s__law_without) (by decide +kernel)) (fun _ _ _ _ _ => pg_name (i := 4) sc__law_without.nd rfl (Or.inl rfl)) (fun _ _ _ _ _ => pts_nil) (fun _ _ _ _ _ => (pe_k C__law_ranks hr (by decide) (by rfl) pass0 (pa_cons (pv 4) pa_nil))))
  (pss_cons (ps_set (i := 3) sc__law_without.nd rfl (Or.inl rfl) (pe_lst pa_nil))
  (pss_cons (ps_for PassesOwn.never rfl (pi_list (pv 0)) (pg_name (i := 4) sc__law_without.nd rfl (Or.inl rfl)) (pss_one (ps_if (pt_cmpR (op_inD hr.u65) (pe_k C__law_ranks hr (by decide) (by rfl) pass0 (pa_cons (pv 4) pa_nil)) (pv 2) (by rfl)) (pss_one (ps_expr (pe_bm PySem.F.plainAttrs_list PySem.F.slot_list_remove PySem.F.type_list_remove (mt_removeD hr.u65) (pv 2) (pa_cons (pe_k C__law_ranks hr (by decide) (by rfl) pass0 (pa_cons (pv 4) pa_nil)) pa_nil)))) (pss_one (ps_expr (pe_bm PySem.F.plainAttrs_list PySem.F.slot_list_append PySem.F.type_list_append mt_append (pv 3) (pa_cons (pv 4) pa_nil)))))))
  (pss_one (ps_ret (pv 3)))))), ?_⟩
    have lps := paired_len hps
    have lqs := paired_len hqs
    refine ⟨_, rfl, G, rfl, ⟨_, seqL hG⟩, fun D hD => ?_⟩
    refine lc_list (xs := qs.map V.ref) (fun i H' => ∃ ts : List Addr, Same H H' ∧ H' D = some (.lst (ts.map V.ref)) ∧ RksAt H' (gs.take i) ts ∧ ∀ p ∈ ts, p ≠ D) ⟨[], same_new hD, upd_same, .nil, fun p hp => nomatch hp⟩ (fun i H' _ ⟨_, h, _⟩ => seqL (h _ _ hG)) ?_ ?_
    · rintro i z H1 hz ⟨ts, s1, hT, hr, hne⟩
      obtain ⟨q, hq, rfl⟩ := ref_of hz
      obtain ⟨c, hc, hrow⟩ := paired_get2 hqs hq
      refine ⟨rfl, _, rfl, q, c, rfl, s1 _ _ hrow, ok2 c (List.mem_of_getElem? hc), fun H2 l s2 hln hk => ?_⟩
      exact rk_step hD s1 s2 hT hr hne hc hln hk (by omega)
    rintro H1 ⟨ts, s1, hT, hr1, hne⟩
    rw [List.length_map, ← lqs, List.take_length] at hr1
    refine ⟨Nat.zero_le _, fun R hR => ?_⟩
    have s2 := same_new (o := .lst []) hR
    have hRH : H R = none := s1.free hR
    have hRD : R ≠ D := fun z => by rw [z, hT] at hR; cases hR
    refine ⟨_, rfl, L, rfl, ⟨_, seqL (s2 _ _ (s1 _ _ hL))⟩, for_list (xs := ps.map V.ref) (fun i σ H' => ∃ (x4 : Option V) (ls : List (Int × Int)) (us ts : List Addr), σ = [some (.ref L), some (.ref G), some (.ref D), some (.ref R), x4] ∧ Same H H' ∧
          H' D = some (.lst (us.map V.ref)) ∧ RksAt H' ls us ∧ (∀ p ∈ us, p ≠ D ∧ p ≠ R) ∧ ls.length ≤ 100 ∧ Bg.cnt ls = (Bg.foldW (Bg.cnt gs) (rs.take i)).2 ∧ H' R = some (.lst (ts.map V.ref)) ∧ RowsAt H' (Bg.foldW (Bg.cnt gs) (rs.take i)).1 ts)
        ⟨none, gs, ts, [], rfl, same_trans s1 s2, s2 _ _ hT, rks_same s2 hr1, fun p hp => ⟨hne p hp, ?_⟩, l2, rfl, upd_same, .nil⟩ (fun i σ H' _ ⟨_, _, _, _, _, h, _⟩ => seqL (h _ _ hL)) ?_ ?_⟩
    · intro z
      obtain ⟨c, _, hk⟩ := paired_mem2 hr1 hp
      obtain ⟨a, b, e, _⟩ := hk
      rw [z, hR] at e
      cases e
    · rintro i x σ H4 hx ⟨y4, ls, us, ts, rfl, s4, hD4, hus, hnu, hll, hcnt, hR4, hts⟩
      obtain ⟨q, hq, rfl⟩ := ref_of hx
      obtain ⟨c, hc, hrow⟩ := paired_get2 hps hq
      have hokc := ok1 c (List.mem_of_getElem? hc)
      have hi : i < 100 := by have := (List.getElem?_eq_some_iff.mp hq).1; omega
      have hlt : ts.length ≤ 100 := by
        have h1 := paired_len hts
        have h2 := Bg.foldW_len (Bg.cnt gs) (rs.take i)
        have h3 : (rs.take i).length ≤ i := by rw [List.length_take]; omega
        omega
      refine ⟨_, rfl, q, c, rfl, s4 _ _ hrow, hokc, fun H5 r5 s5 hn5 k5 => ?_⟩
      refine ⟨_, rfl, rkR c, ls.map rkR, k5.dp, .lst (seqL (s5 _ _ hD4)) (rks_dp (rks_same s5 hus)), rkR_shaped c, rks_shaped ls, _, rfl, ?_⟩
      rw [any_rk, hcnt, take_next hc, Bg.foldW_snoc]
      refine ite2 (fun h => ?_) (fun h => ?_)
      · have hpos : (Bg.foldW (Bg.cnt gs) (rs.take i)).2 c > 0 := of_decide_eq_true h
        unfold Bg.stepW
        rw [if_pos hpos]
        obtain ⟨j, hj1, hj2, hj3⟩ := first_at ls c (by rw [hcnt]; exact hpos)
        refine ⟨_, rfl, .inl ⟨rfl, _, seqL (s5 _ _ hD4)⟩, _, rfl, q, c, rfl, s5 _ _ (s4 _ _ hrow), hokc, fun H6 r6 s6 hn6 k6 => ?_⟩
        have hD6 := s6 _ _ (s5 _ _ hD4)
        have hR6 := s6 _ _ (s5 _ _ hR4)
        have hus6 := rks_same s6 (rks_same s5 hus)
        refine ⟨D, _, _, rkR c, ls.map rkR, j, rkR c, rfl, rfl, hD6, rks_dp hus6, k6.dp, rks_shaped ls, rkR_shaped c, by rw [List.getElem?_map, hj1]; rfl, by rw [rkR_eqv]; exact decide_eq_true rfl, fun m z hm hz => ?_, ?_⟩
        · rw [List.getElem?_map] at hz
          obtain ⟨d, hd, rfl⟩ := Option.map_eq_some_iff.mp hz
          rw [rkR_eqv]
          exact decide_eq_false (hj2 m d hm hd)
        · refine ⟨_, ls.eraseIdx j, us.eraseIdx j, ts, rfl, same_mut (same_trans s4 (same_trans s5 s6)) hD, by rw [upd_same, map_erase], ?_, fun p hp => hnu p (List.mem_of_mem_eraseIdx hp), Nat.le_trans (List.length_eraseIdx_le ls j) hll, ?_, ?_, ?_⟩
          · exact rks_mut hD6 (fun p hp => (hnu p (List.mem_of_mem_eraseIdx hp)).1) (rks_erase j hus6)
          · rw [hj3, hcnt]
          · rw [upd_ne hRD]
            exact hR6
          · exact rows_mut hD6 (rows_same s6 (rows_same s5 hts))
      · have hpos : ¬ (Bg.foldW (Bg.cnt gs) (rs.take i)).2 c > 0 := fun z => h (decide_eq_true z)
        unfold Bg.stepW
        rw [if_neg hpos]
        refine ⟨_, rfl, .inl ⟨rfl, _, seqL (s5 _ _ hR4)⟩, _, rfl, R, _, _, rfl, rfl, s5 _ _ hR4, lt_sz' (by rw [List.length_map]; omega), ?_⟩
        have hR5 := s5 _ _ hR4
        refine ⟨_, ls, us, ts ++ [q], rfl, same_mut (same_trans s4 s5) hRH, by rw [upd_ne hRD.symm]; exact s5 _ _ hD4, rks_mut hR5 (fun p hp => (hnu p hp).2) (rks_same s5 hus), hnu, hll, hcnt, by rw [upd_same, List.map_append]; rfl, ?_⟩
        exact paired_app (rows_mut hR5 (rows_same s5 hts)) (.cons (by show upd _ R _ q = _; rw [upd_ne (row_ne hR5 (s5 _ _ (s4 _ _ hrow)))]; exact s5 _ _ (s4 _ _ hrow)) .nil)
    · rintro σ H4 ⟨y4, ls, us, ts, rfl, s4, hD4, hus, hnu, hll, hcnt, hR4, hts⟩
      rw [List.length_map, ← lps, List.take_length] at hts
      exact ⟨_, rfl, kk _ R ts s4 hRH hR4 hts⟩
theorem ok__law_more {f : Addr} {fd : FuncData} (F : Fun K "_law_more" "_law_more" s__law_more f fd) (T : Txt K mg C fS pN fN) (C__law_ranks : Cal P w K mg base CX0 2 "_law_ranks" spRanks) : FnOk P w K mg base CX0 3 f fd ["_law_rows", "_law_others"] spLMore := by
  refine F.ok sc__law_more (fun vs H Q E h => ?_) (fun cdv A outer s H vs Q E hr h => ?_)
  · obtain ⟨_, _, _, _, _, _, rfl, _⟩ := h
    rfl
  · obtain ⟨L, G, ps, qs, rs, gs, rfl, hL, hps, hG, hqs, ok1, ok2, l1, l2, kk⟩ := h
    refine ⟨_, (pss_cons (ps_set (i := 2) sc__law_more.nd rfl (Or.inl rfl) (pe_lst pa_nil))
  (pss_cons (ps_for PassesOwn.never rfl (pi_list (pv 0)) (pg_name (i := 3) sc__law_more.nd rfl (Or.inl rfl)) (pss_cons (ps_set (i := 4) sc__law_more.nd rfl (Or.inr rfl) (pe_k C__law_ranks hr (by decide) (by rfl) pass0 (pa_cons (pv 3) pa_nil)))
  (pss_cons (ps_set (i := 5) sc__law_more.nd rfl (Or.inl rfl) (pe_op op_sub (pe_callB call_len_seq (by rfl) T.n_len PySem.boot_len (pa_cons (pe_lc (own := [("_law_r", 6)]) (g := gName 6) rfl sc__law_more.nd (pi_list (pv 0)) (blkOk_by (own := [("_law_r", 6)]) (N := sc__law_more_N) (sc := defScope s__law_more) (by decide +kernel)) (fun _ _ _ _ _ => pg_name (i := 6) sc__law_more.nd rfl (Or.inl rfl)) (fun _ _ _ _ _ => (pts_one (pt_cmpR (show OpR _ (compareOp .Eq) (rEqD K) from op_eqD hr.units) (pe_k C__law_ranks hr (by decide) (by rfl) pass0 (pa_cons (pv 6) pa_nil)) (pv 4) (nomark _)))) (fun _ _ _ _ _ => (pv 6))) pa_nil)) (pe_callB call_len_seq (by rfl) T.n_len PySem.boot_len (pa_cons (pe_lc (own := [("_law_r", 6)]) (g := gName 6) rfl sc__law_more.nd (pi_list (pv 1)) (blkOk_by (own := [("_law_r", 6)]) (N := sc__law_more_N) (sc := defScope s__law_more) (by decide +kernel)) (fun _ _ _ _ _ => pg_name (i := 6) sc__law_more.nd rfl (Or.inl rfl)) (fun _ _ _ _ _ => (pts_one (pt_cmpR (show OpR _ (compareOp .Eq) (rEqD K) from op_eqD hr.units) (pe_k C__law_ranks hr (by decide) (by rfl) pass0 (pa_cons (pv 6) pa_nil)) (pv 4) (nomark _)))) (fun _ _ _ _ _ => (pv 6))) pa_nil))))
  (pss_one (ps_if (pt_cmpR op_lt (pe_callB call_len_seq (by rfl) T.n_len PySem.boot_len (pa_cons (pe_lc (own := [("_law_r", 6)]) (g := gName 6) rfl sc__law_more.nd (pi_list (pv 2)) (blkOk_by (own := [("_law_r", 6)]) (N := sc__law_more_N) (sc := defScope s__law_more) (by decide +kernel)) (fun _ _ _ _ _ => pg_name (i := 6) sc__law_more.nd rfl (Or.inl rfl)) (fun _ _ _ _ _ => (pts_one (pt_cmpR (show OpR _ (compareOp .Eq) (rEqD K) from op_eqD hr.units) (pe_k C__law_ranks hr (by decide) (by rfl) pass0 (pa_cons (pv 6) pa_nil)) (pv 4) (nomark _)))) (fun _ _ _ _ _ => (pv 6))) pa_nil)) (pv 5) (nomark _)) (pss_one (ps_expr (pe_bm PySem.F.plainAttrs_list PySem.F.slot_list_append PySem.F.type_list_append mt_append (pv 2) (pa_cons (pv 3) pa_nil)))) pss_nil)))))
  (pss_one (ps_ret (pv 2))))), ?_⟩
    have lps := paired_len hps
    have lqs := paired_len hqs
    refine ⟨Nat.zero_le _, fun R hR => ?_⟩
    have s2 := same_new (o := .lst []) hR
    have hRH : H R = none := hR
    refine ⟨_, rfl, L, rfl, ⟨_, seqL (s2 _ _ hL)⟩, for_list (xs := ps.map V.ref) (fun i σ H' => ∃ (x3 x4 x5 : Option V) (ts : List Addr), σ = [some (.ref L), some (.ref G), some (.ref R), x3, x4, x5, none] ∧ Same H H' ∧
          H' R = some (.lst (ts.map V.ref)) ∧ RowsAt H' (Bg.foldR (fun c => Bg.cnt rs c - Bg.cnt gs c) (rs.take i)).1 ts)
        ⟨none, none, none, [], rfl, s2, upd_same, .nil⟩ (fun i σ H' _ ⟨_, _, _, _, _, h, _⟩ => seqL (h _ _ hL)) ?_ ?_⟩
    · rintro i x σ H4 hx ⟨y3, y4, y5, ts, rfl, s4, hR4, hts⟩
      obtain ⟨q, hq, rfl⟩ := ref_of hx
      obtain ⟨c, hc, hrow⟩ := paired_get2 hps hq
      have hokc := ok1 c (List.mem_of_getElem? hc)
      have hi : i < 100 := by have := (List.getElem?_eq_some_iff.mp hq).1; omega
      have hfok : ∀ d ∈ (Bg.foldR (fun c => Bg.cnt rs c - Bg.cnt gs c) (rs.take i)).1, Okc d := fun d hd => ok1 d (List.mem_of_mem_take (Bg.foldR_sub _ _ d hd))
      have hlt : ts.length ≤ 100 := by
        have h1 := paired_len hts
        have h2 := Bg.foldR_len (fun c => Bg.cnt rs c - Bg.cnt gs c) (rs.take i)
        have h3 : (rs.take i).length ≤ i := by rw [List.length_take]; omega
        omega
      have ltt := paired_len hts
      refine ⟨_, rfl, q, c, rfl, s4 _ _ hrow, hokc, fun H5 r5 s5 hn5 k5 => ?_⟩
      refine ⟨_, rfl, L, rfl, ⟨_, seqL (s5 _ _ (s4 _ _ hL))⟩, fun D6 hD6 => ?_⟩
      refine lc_list (xs := ps.map V.ref) (fun u H' => ∃ us : List Addr, Same H5 H' ∧ H' D6 = some (.lst (us.map V.ref)) ∧ us.length = ((rs).take u).count c) ⟨[], same_new hD6, upd_same, rfl⟩ (fun i H' _ ⟨_, h, _⟩ => seqL (h _ _ (s5 _ _ (s4 _ _ hL)))) ?_ ?_
      · rintro m z H1 hz ⟨us, s1, hT, hlen⟩
        obtain ⟨p, hp, rfl⟩ := ref_of hz
        obtain ⟨d, hd, hrowd⟩ := paired_get2 (rows_same s5 (rows_same s4 hps)) hp
        have hm : m < (rs).length := (List.getElem?_eq_some_iff.mp hd).1
        have hle : ((rs).take m).count c ≤ m := Nat.le_trans List.count_le_length (by rw [List.length_take]; omega)
        have hcl : (rs).length ≤ 200 := by omega
        refine ⟨rfl, _, rfl, p, d, rfl, s1 _ _ hrowd, ok1 d (List.mem_of_getElem? hd), fun H2 r2 t2 _ k2 => ?_⟩
        refine ⟨_, rfl, rkR d, rkR c, k2.dp, (k5.keep (same_trans s1 t2)).dp, rkR_shaped d, rkR_shaped c, _, rfl, ?_⟩
        rw [rkR_eqv, take_next hd, List.count_append, List.count_singleton]
        refine ite2 (fun h => ?_) (fun h => ?_)
        · have e : d = c := of_decide_eq_true h
          refine ⟨_, rfl, _, t2 _ _ hT, lt_sz' (by rw [List.length_map]; omega), us ++ [p], same_mut (same_trans s1 t2) hD6, by rw [upd_same, List.map_append]; rfl, ?_⟩
          rw [List.length_append, hlen, e]
          simp
        · have e : ¬ d = c := fun z => h (decide_eq_true z)
          refine ⟨us, same_trans s1 t2, t2 _ _ hT, ?_⟩
          rw [hlen]
          simp [e]
      rintro H6 ⟨us6, s6, hT6, hlen6⟩
      rw [List.length_map, ← lps, List.take_length] at hlen6
      have k6 := k5.keep s6
      refine ⟨D6, _, rfl, .inl (seqL hT6), ?_⟩
      refine ⟨_, rfl, G, rfl, ⟨_, seqL (s6 _ _ (s5 _ _ (s4 _ _ hG)))⟩, fun D7 hD7 => ?_⟩
      refine lc_list (xs := qs.map V.ref) (fun u H' => ∃ us : List Addr, Same H6 H' ∧ H' D7 = some (.lst (us.map V.ref)) ∧ us.length = ((gs).take u).count c) ⟨[], same_new hD7, upd_same, rfl⟩ (fun i H' _ ⟨_, h, _⟩ => seqL (h _ _ (s6 _ _ (s5 _ _ (s4 _ _ hG))))) ?_ ?_
      · rintro m z H1 hz ⟨us, s1, hT, hlen⟩
        obtain ⟨p, hp, rfl⟩ := ref_of hz
        obtain ⟨d, hd, hrowd⟩ := paired_get2 (rows_same s6 (rows_same s5 (rows_same s4 hqs))) hp
        have hm : m < (gs).length := (List.getElem?_eq_some_iff.mp hd).1
        have hle : ((gs).take m).count c ≤ m := Nat.le_trans List.count_le_length (by rw [List.length_take]; omega)
        have hcl : (gs).length ≤ 200 := by omega
        refine ⟨rfl, _, rfl, p, d, rfl, s1 _ _ hrowd, ok2 d (List.mem_of_getElem? hd), fun H2 r2 t2 _ k2 => ?_⟩
        refine ⟨_, rfl, rkR d, rkR c, k2.dp, (k6.keep (same_trans s1 t2)).dp, rkR_shaped d, rkR_shaped c, _, rfl, ?_⟩
        rw [rkR_eqv, take_next hd, List.count_append, List.count_singleton]
        refine ite2 (fun h => ?_) (fun h => ?_)
        · have e : d = c := of_decide_eq_true h
          refine ⟨_, rfl, _, t2 _ _ hT, lt_sz' (by rw [List.length_map]; omega), us ++ [p], same_mut (same_trans s1 t2) hD7, by rw [upd_same, List.map_append]; rfl, ?_⟩
          rw [List.length_append, hlen, e]
          simp
        · have e : ¬ d = c := fun z => h (decide_eq_true z)
          refine ⟨us, same_trans s1 t2, t2 _ _ hT, ?_⟩
          rw [hlen]
          simp [e]
      rintro H7 ⟨us7, s7, hT7, hlen7⟩
      rw [List.length_map, ← lqs, List.take_length] at hlen7
      have k7 := k6.keep s7
      refine ⟨D7, _, rfl, .inl (seqL hT7), ?_⟩
      refine ⟨_, _, rfl, rfl, ?_⟩
      refine ⟨_, rfl, R, rfl, ⟨_, seqL (s7 _ _ (s6 _ _ (s5 _ _ hR4)))⟩, fun D8 hD8 => ?_⟩
      refine lc_list (xs := ts.map V.ref) (fun u H' => ∃ us : List Addr, Same H7 H' ∧ H' D8 = some (.lst (us.map V.ref)) ∧ us.length = (((Bg.foldR (fun c => Bg.cnt rs c - Bg.cnt gs c) (rs.take i)).1).take u).count c) ⟨[], same_new hD8, upd_same, rfl⟩ (fun i H' _ ⟨_, h, _⟩ => seqL (h _ _ (s7 _ _ (s6 _ _ (s5 _ _ hR4))))) ?_ ?_
      · rintro m z H1 hz ⟨us, s1, hT, hlen⟩
        obtain ⟨p, hp, rfl⟩ := ref_of hz
        obtain ⟨d, hd, hrowd⟩ := paired_get2 (rows_same s7 (rows_same s6 (rows_same s5 hts))) hp
        have hm : m < ((Bg.foldR (fun c => Bg.cnt rs c - Bg.cnt gs c) (rs.take i)).1).length := (List.getElem?_eq_some_iff.mp hd).1
        have hle : (((Bg.foldR (fun c => Bg.cnt rs c - Bg.cnt gs c) (rs.take i)).1).take m).count c ≤ m := Nat.le_trans List.count_le_length (by rw [List.length_take]; omega)
        have hcl : ((Bg.foldR (fun c => Bg.cnt rs c - Bg.cnt gs c) (rs.take i)).1).length ≤ 200 := by omega
        refine ⟨rfl, _, rfl, p, d, rfl, s1 _ _ hrowd, hfok d (List.mem_of_getElem? hd), fun H2 r2 t2 _ k2 => ?_⟩
        refine ⟨_, rfl, rkR d, rkR c, k2.dp, (k7.keep (same_trans s1 t2)).dp, rkR_shaped d, rkR_shaped c, _, rfl, ?_⟩
        rw [rkR_eqv, take_next hd, List.count_append, List.count_singleton]
        refine ite2 (fun h => ?_) (fun h => ?_)
        · have e : d = c := of_decide_eq_true h
          refine ⟨_, rfl, _, t2 _ _ hT, lt_sz' (by rw [List.length_map]; omega), us ++ [p], same_mut (same_trans s1 t2) hD8, by rw [upd_same, List.map_append]; rfl, ?_⟩
          rw [List.length_append, hlen, e]
          simp
        · have e : ¬ d = c := fun z => h (decide_eq_true z)
          refine ⟨us, same_trans s1 t2, t2 _ _ hT, ?_⟩
          rw [hlen]
          simp [e]
      rintro H8 ⟨us8, s8, hT8, hlen8⟩
      rw [List.length_map, ← ltt, List.take_length] at hlen8
      have k8 := k7.keep s8
      refine ⟨D8, _, rfl, .inl (seqL hT8), ?_⟩
      refine ⟨_, rfl, _, _, rfl, rfl, _, rfl, ?_⟩
      rw [List.length_map, hlen6, List.length_map, hlen7, List.length_map, hlen8, take_next hc, Bg.foldR_snoc]
      have hm := Bg.foldR_m (fun c => Bg.cnt rs c - Bg.cnt gs c) (rs.take i) c
      have e1 : ((rs.count c : Nat) : Int) = Bg.cnt rs c := rfl
      have e2 : ((gs.count c : Nat) : Int) = Bg.cnt gs c := rfl
      have e3 : (((Bg.foldR (fun c => Bg.cnt rs c - Bg.cnt gs c) (rs.take i)).1.count c : Nat) : Int) = Bg.cnt (Bg.foldR (fun c => Bg.cnt rs c - Bg.cnt gs c) (rs.take i)).1 c := rfl
      rw [e1, e2, e3]
      have s48 := same_trans s4 (same_trans s5 (same_trans s6 (same_trans s7 s8)))
      have s58 := same_trans s5 (same_trans s6 (same_trans s7 s8))
      have hR8 := s58 _ _ hR4
      refine ite2 (fun h => ?_) (fun h => ?_)
      · have hlt' := of_decide_eq_true h
        have hpos : (Bg.foldR (fun c => Bg.cnt rs c - Bg.cnt gs c) (rs.take i)).2 c > 0 := by rw [hm]; show Bg.cnt rs c - Bg.cnt gs c - _ > 0; omega
        unfold Bg.stepR
        rw [if_pos hpos]
        refine ⟨_, rfl, .inl ⟨rfl, _, seqL hR8⟩, _, rfl, R, _, _, rfl, rfl, hR8, lt_sz' (by rw [List.length_map]; omega), ?_⟩
        refine ⟨_, _, _, ts ++ [q], rfl, same_mut s48 hRH, by rw [upd_same, List.map_append]; rfl, ?_⟩
        exact paired_app (rows_mut hR8 (rows_same s58 hts)) (.cons (by show upd _ R _ q = _; rw [upd_ne (row_ne hR8 (s48 _ _ hrow))]; exact s48 _ _ hrow) .nil)
      · have hge : ¬ Bg.cnt (Bg.foldR (fun c => Bg.cnt rs c - Bg.cnt gs c) (rs.take i)).1 c < Bg.cnt rs c - Bg.cnt gs c := fun z => h (decide_eq_true z)
        have hpos : ¬ (Bg.foldR (fun c => Bg.cnt rs c - Bg.cnt gs c) (rs.take i)).2 c > 0 := by rw [hm]; show ¬ Bg.cnt rs c - Bg.cnt gs c - _ > 0; omega
        unfold Bg.stepR
        rw [if_neg hpos]
        exact ⟨_, _, _, ts, rfl, s48, hR8, rows_same s58 hts⟩
    · rintro σ H4 ⟨y3, y4, y5, ts, rfl, s4, hR4, hts⟩
      rw [List.length_map, ← lps, List.take_length] at hts
      exact ⟨_, rfl, kk _ R ts s4 hRH hR4 hts⟩
end
end Sb
set_option Elab.async false
set_option maxRecDepth 100000
set_option maxHeartbeats 4000000
namespace Sb
open PySem PySem.Spec PyProof.Rows L2 SX
abbrev s_law : Stmt := top 23
abbrev sc_law_N : List Str := ["_law_script", "_law_state_here", "_law_rows", "_law_k", "_law_gone", "_law_j", "_law_come", "_law_given", "_law_change", "_law_small", "_law_kept", "_law_told", "_law_due", "_law_row"]
theorem sc_law : FnScope sc_law_N ["_law_script"] (defScope s_law) := ⟨rfl, rfl, rfl, by decide +kernel, rfl, by decide +kernel, by decide +kernel⟩
def spLaw (K : PySem.W.Frag) : Sp := fun vs H Q _ => ∃ (a : Addr) (ns : List Int), vs = [.ref a] ∧ SqL K H a (ns.map V.int) ∧ ns.length ≤ 63 ∧ ∀ H', Q (.bl true) H'
theorem cut_to (xs : List V) (h : Nat) : cutV xs none (some (h : Int)) = xs.take h := by
  unfold cutV
  rw [HT.sIx_none, HT.sIx_nat]
  simp only [List.drop_zero, Nat.sub_zero]
  rcases Nat.le_total h xs.length with q | q
  · rw [Nat.min_eq_left q]
  · rw [Nat.min_eq_right q, List.take_length, List.take_of_length_le q]
theorem with_rest {R G : Prop} (f : R → G) (r : R) : G := f r
theorem ite_notBl {nb : Bool} {X Y : Prop} (hx : nb = false → X) (hy : Y) : if (!decide (nb = true)) = true then X else Y := by
  cases nb
  · exact iteT (hx rfl)
  · exact iteF hy
theorem row_st {H : Hp} {st p : Addr} {c : Int × Int} (d : Dr H st) (h : RowAt H c p) : p ≠ st := by
  obtain ⟨y, hy⟩ := d
  exact ne_of h hy (by intro q; injection q with q; simp at q)
theorem rows_kp {H H' : Hp} {st : Addr} (k : Kp st H H') (d : Dr H st) {cs : List (Int × Int)} {ps : List Addr} (h : RowsAt H cs ps) : RowsAt H' cs ps := paired_mono (fun _ _ e => k.1 _ _ (row_st d e) e) h
theorem ChAt.mut {H : Hp} {C a g m D : Addr} {gs cs : List (Int × Int)} {ts : List Addr} {ys : List V} (h : ChAt H C a g m gs cs) (hD : H D = some (.lst (ts.map V.ref))) (hg : g ≠ D) (hm : m ≠ D) : ChAt (upd H D (.lst ys)) C a g m gs cs := by
  obtain ⟨dx, ps, qs, h1, h2, h3, h4, h5⟩ := h
  exact ⟨dx, ps, qs, by rw [upd_ne (ne_of h1 hD (by intro z; cases z))]; exact h1, by rw [upd_ne hg]; exact h2, rows_mut hD h3, by rw [upd_ne hm]; exact h4, rows_mut hD h5⟩
section
variable {P : Program} {w : World} {K : PySem.W.Frag} {mg : Str → Option Value} {base : Heap} {C fS pN fN fI : Addr}
theorem ok_law {f : Addr} {fd fdI fdS fdN : FuncData} (F : Fun K "law" "law" s_law f fd) (T : Txt K mg C fS pN fN) (MC : Mk K C fI) (GC : FnOk P w K mg base CX0 1 fI fdI ["self", "gone", "come"] (spCh C)) (bC : Binds K fdI ["self", "gone", "come"] [])
    (G_small : FnOk P w K mg base CX0 4 fS fdS ["self"] (spSmall C)) (b_small : Binds K fdS ["self"] []) (G_nothing : FnOk P w K mg base CX0 1 fN fdN ["self"] (spNothing C)) (b_nothing : Binds K fdN ["self"] [])
    (C__law_cell : Cal P w K mg base CX0 1 "_law_cell" (spCell K)) (C__law_state : Cal P w K mg base CX0 1 "_law_state" spState) (C__law_digit : Cal P w K mg base CX0 1 "_law_digit" spDigit)
    (C__law_some_rows : Cal P w K mg base CX0 2 "_law_some_rows" spSome) (C__law_same_rows : Cal P w K mg base CX0 3 "_law_same_rows" spSameRows) (C__law_same_bag : Cal P w K mg base CX0 4 "_law_same_bag" spSameBag)
    (C__law_without : Cal P w K mg base CX0 3 "_law_without" spLWithout) (C__law_more : Cal P w K mg base CX0 3 "_law_more" spLMore) (C_changed_rows : Cal P w K mg base CX0 4 "changed_rows" (spChanged K C)) :
    FnOk P w K mg base CX0 6 f fd ["_law_script"] (spLaw K) := by
  refine F.ok sc_law (fun vs H Q E h => ?_) (fun cdv A outer s H vs Q E hr h => ?_)
  · obtain ⟨_, _, rfl, _⟩ := h
    rfl
  · obtain ⟨a, ns, rfl, hS, hns, kk⟩ := h
    refine ⟨_, (pss_cons (ps_set (i := 1) sc_law.nd rfl (Or.inr rfl) (pe_k C__law_state hr (by decide) (by rfl) pass0 (pa_cons (pe_k C__law_cell hr (by decide) (by rfl) pass0 (pa_cons (pv 0) (pa_cons pe_int pa_nil))) (pa_cons pe_int pa_nil))))
  (pss_cons (ps_set (i := 2) sc_law.nd rfl (Or.inl rfl) (pe_k C__law_some_rows hr (by decide) (by rfl) pass0 (pa_cons (pv 1) (pa_cons (pe_k C__law_digit hr (by decide) (by rfl) pass0 (pa_cons (pv 1) (pa_cons pe_int pa_nil))) pa_nil))))
  (pss_cons (ps_for PassesOwn.never rfl (pi_range1 rfl T.n_range (pa_cons (pe_callB (call_min2 rfl) (by rfl) T.n_min (by decide +kernel) (pa_cons pe_int (pa_cons (pe_callB (call_max2 rfl) (by rfl) T.n_max (by decide +kernel) (pa_cons pe_int (pa_cons (pe_callB call_len_seq (by rfl) T.n_len PySem.boot_len (pa_cons (pv 0) pa_nil)) pa_nil))) pa_nil))) pa_nil)) (pg_name (i := 3) sc_law.nd rfl (Or.inl rfl)) (pss_cons (ps_set (i := 1) sc_law.nd rfl (Or.inr rfl) (pe_k C__law_state hr (by decide) (by rfl) pass0 (pa_cons (pe_k C__law_cell hr (by decide) (by rfl) pass0 (pa_cons (pv 0) (pa_cons (pv 3) pa_nil))) (pa_cons (pe_op op_add pe_int (pv 3)) pa_nil))))
  (pss_cons (ps_set (i := 4) sc_law.nd rfl (Or.inl rfl) (pe_lst pa_nil))
  (pss_cons (ps_for PassesOwn.never rfl (pi_range1 rfl T.n_range (pa_cons (pe_callB call_len_seq (by rfl) T.n_len PySem.boot_len (pa_cons (pv 2) pa_nil)) pa_nil)) (pg_name (i := 5) sc_law.nd rfl (Or.inl rfl)) (pss_one (ps_if (pt_cmpR op_eq (pe_k C__law_digit hr (by decide) (by rfl) pass0 (pa_cons (pv 1) (pa_cons pe_int pa_nil))) pe_int (nomark _)) (pss_one (ps_expr (pe_bm PySem.F.plainAttrs_list PySem.F.slot_list_append PySem.F.type_list_append mt_append (pv 4) (pa_cons (pe_ix ix_list (pv 2) (pv 5) (fun _ _ => rfl)) pa_nil)))) pss_nil)))
  (pss_cons (ps_set (i := 6) sc_law.nd rfl (Or.inl rfl) (pe_op op_cat (pe_k C__law_some_rows hr (by decide) (by rfl) pass0 (pa_cons (pv 1) (pa_cons (pe_k C__law_digit hr (by decide) (by rfl) pass0 (pa_cons (pv 1) (pa_cons pe_int pa_nil))) pa_nil))) (pe_lc (own := [("_law_row", 13)]) (g := gName 13) rfl sc_law.nd (pi_list (pv 4)) (blkOk_by (own := [("_law_row", 13)]) (N := sc_law_N) (sc := defScope s_law) (by decide +kernel)) (fun _ _ _ _ _ => pg_name (i := 13) sc_law.nd rfl (Or.inl rfl)) (fun _ _ _ _ _ => (pts_one (pt_cmpR op_eq (pe_k C__law_digit hr (by decide) (by rfl) pass0 (pa_cons (pv 1) (pa_cons pe_int pa_nil))) pe_int (nomark _)))) (fun _ _ _ _ _ => (pv 13)))))
  (pss_cons (ps_set (i := 7) sc_law.nd rfl (Or.inl rfl) (pe_tup (pa_cons (pe_lc (own := [("_law_row", 13)]) (g := gName 13) rfl sc_law.nd (pi_list (pv 4)) (blkOk_by (own := [("_law_row", 13)]) (N := sc_law_N) (sc := defScope s_law) (by decide +kernel)) (fun _ _ _ _ _ => pg_name (i := 13) sc_law.nd rfl (Or.inl rfl)) (fun _ _ _ _ _ => pts_nil) (fun _ _ _ _ _ => (pe_callTy (show CallR _ (.type "list") (rListK K) from call_list_of) (by rfl) T.n_list (by decide +kernel) (pa_cons (pv 13) pa_nil)))) (pa_cons (pe_lc (own := [("_law_row", 13)]) (g := gName 13) rfl sc_law.nd (pi_list (pv 6)) (blkOk_by (own := [("_law_row", 13)]) (N := sc_law_N) (sc := defScope s_law) (by decide +kernel)) (fun _ _ _ _ _ => pg_name (i := 13) sc_law.nd rfl (Or.inl rfl)) (fun _ _ _ _ _ => pts_nil) (fun _ _ _ _ _ => (pe_callTy (show CallR _ (.type "list") (rListK K) from call_list_of) (by rfl) T.n_list (by decide +kernel) (pa_cons (pv 13) pa_nil)))) pa_nil))))
  (pss_cons (ps_set (i := 8) sc_law.nd rfl (Or.inl rfl) (pe_make MC GC (hr.mono (by decide)) (by rfl) T.g_Change bC .nil pass0 (pa_cons (pe_ix ix_tup (pv 7) pe_int (fun _ _ => rfl)) (pa_cons (pe_ix ix_tup (pv 7) pe_int (fun _ _ => rfl)) pa_nil))))
  (pss_cons (ps_expr (pe_bm PySem.F.plainAttrs_list PySem.F.slot_list_append PySem.F.type_list_append mt_append (pe_ix ix_tup (pv 7) pe_int (fun _ _ => rfl)) (pa_cons (pe_lst (pa_cons pe_int pa_nil)) pa_nil)))
  (pss_cons (ps_set (i := 9) sc_law.nd rfl (Or.inl rfl) (pe_meth0 (pv 8) T.cls T.m_small G_small (hr.mono (by decide)) b_small .nil pass0))
  (pss_cons (ps_if (pt_not (pt_val (pe_k C__law_same_rows hr (by decide) (by rfl) pass0 (pa_cons (pe_fld (pv 9) rfl) (pa_cons (pe_k C__law_more hr (by decide) (by rfl) pass0 (pa_cons (pv 4) (pa_cons (pv 6) pa_nil))) pa_nil))))) (pss_one (ps_ret pe_bl)) pss_nil)
  (pss_cons (ps_if (pt_not (pt_val (pe_k C__law_same_rows hr (by decide) (by rfl) pass0 (pa_cons (pe_fld (pv 9) rfl) (pa_cons (pe_k C__law_more hr (by decide) (by rfl) pass0 (pa_cons (pv 6) (pa_cons (pv 4) pa_nil))) pa_nil))))) (pss_one (ps_ret pe_bl)) pss_nil)
  (pss_cons (ps_if (PW.pt (pw_or (pt_not (pt_val (pe_k C__law_same_rows hr (by decide) (by rfl) pass0 (pa_cons (pe_fld (pv 8) rfl) (pa_cons (pv 4) pa_nil))))) (pw_or1 (pt_not (pt_val (pe_k C__law_same_rows hr (by decide) (by rfl) pass0 (pa_cons (pe_fld (pv 8) rfl) (pa_cons (pv 6) pa_nil)))))))) (pss_one (ps_ret pe_bl)) pss_nil)
  (pss_cons (ps_if (PW.pt (pw_and (pt_cmpR op_notBl (pe_prop (pv 8) T.cls T.p_nothing G_nothing (hr.mono (by decide)) b_nothing .nil pass0 (by rfl)) pe_bl (nomark _)) (pw_and1 (pt_cmpR op_notBl (pe_prop (pv 8) T.cls T.p_nothing G_nothing (hr.mono (by decide)) b_nothing .nil pass0 (by rfl)) pe_bl (nomark _))))) (pss_one (ps_ret pe_bl)) pss_nil)
  (pss_cons (ps_if (PW.pt (pw_or (pt_cmpR op_ne (pe_prop (pv 8) T.cls T.p_nothing G_nothing (hr.mono (by decide)) b_nothing .nil pass0 (by rfl)) (pe_cmpR op_eq (pe_op op_add (pe_callB call_len_seq (by rfl) T.n_len PySem.boot_len (pa_cons (pv 4) pa_nil)) (pe_callB call_len_seq (by rfl) T.n_len PySem.boot_len (pa_cons (pv 6) pa_nil))) pe_int (nomark _)) (nomark _)) (pw_or1 (pt_cmpR op_notBl (pe_prop (pe_make MC GC (hr.mono (by decide)) (by rfl) T.g_Change bC .nil pass0 (pa_cons (pe_lst pa_nil) (pa_cons (pe_lst pa_nil) pa_nil))) T.cls T.p_nothing G_nothing (hr.mono (by decide)) b_nothing .nil pass0 (by rfl)) pe_bl (nomark _))))) (pss_one (ps_ret pe_bl)) pss_nil)
  (pss_cons (ps_setLc (i := 10) (own := [("_law_row", 13)]) (g := gName 13) rfl sc_law.nd rfl rfl (sw_true rfl rfl rfl (by decide +kernel)) (pi_list (pv 2)) (blkOk_by (own := [("_law_row", 13)]) (N := sc_law_N) (sc := defScope s_law) (by decide +kernel)) (fun _ _ _ _ _ => pg_name (i := 13) sc_law.nd rfl (Or.inl rfl)) (fun _ _ _ _ _ => pts_nil) (fun _ _ _ _ _ => (pe_callTy (show CallR _ (.type "list") (rListK K) from call_list_of) (by rfl) T.n_list (by decide +kernel) (pa_cons (pv 13) pa_nil))))
  (pss_cons (ps_set (i := 11) sc_law.nd rfl (Or.inl rfl) (pe_k C_changed_rows hr (by decide) (by rfl) pass0 (pa_cons (pv 10) (pa_cons (pv 8) pa_nil))))
  (pss_cons (ps_set (i := 12) sc_law.nd rfl (Or.inl rfl) (pe_op op_cat (pe_k C__law_without hr (by decide) (by rfl) pass0 (pa_cons (pv 2) (pa_cons (pv 4) pa_nil))) (pv 6)))
  (pss_cons (ps_if (PW.pt (pw_or (pt_not (pt_val (pe_k C__law_same_rows hr (by decide) (by rfl) pass0 (pa_cons (pv 11) (pa_cons (pv 12) pa_nil))))) (pw_or1 (pt_not (pt_val (pe_k C__law_same_rows hr (by decide) (by rfl) pass0 (pa_cons (pv 10) (pa_cons (pv 2) pa_nil)))))))) (pss_one (ps_ret pe_bl)) pss_nil)
  (pss_cons (ps_if (pt_not (pt_val (pe_k C__law_same_bag hr (by decide) (by rfl) pass0 (pa_cons (pe_k C_changed_rows hr (by decide) (by rfl) pass0 (pa_cons (pv 10) (pa_cons (pv 9) pa_nil))) (pa_cons (pv 12) pa_nil))))) (pss_one (ps_ret pe_bl)) pss_nil)
  (pss_one (ps_set (i := 2) sc_law.nd rfl (Or.inl rfl) (pe_slice sl_list (pv 12) po_none (po_some pe_int)))))))))))))))))))))))
  (pss_one (ps_ret pe_bl))))), ?_⟩
    refine ⟨_, rfl, a, ns, 0, rfl, hS, fun z0 => ⟨z0, _, rfl, fun st0 y0 hst0 => ?_⟩⟩
    have d0 : Dr (upd H st0 (.lst [.int y0])) st0 := ⟨_, upd_same⟩
    have s0 : Same H (upd H st0 (.lst [.int y0])) := same_new hst0
    refine ⟨_, rfl, _, rfl, st0, 21, rfl, d0, by decide, by decide, fun m0 H3 m00 m01 k3 => ⟨st0, m0, rfl, k3.dr, m00, by omega, fun H4 L0 ps0 rs0 k4 _ hL0 hps0 hlen0 ok0 => ?_⟩⟩
    have s4 : Same H H4 := kp_same s0 hst0 (k3.trans k4)
    refine ⟨_, rfl, a, _, rfl, .inl (s4.seq hS), _, _, rfl, _, _, rfl, ?_⟩
    rw [List.length_map]
    obtain ⟨many, hmany, emany⟩ : ∃ many : Nat, many ≤ 8 ∧ (if (if ((ns.length : Nat) : Int) > 2 then ((ns.length : Nat) : Int) else 2) < 8 then (if ((ns.length : Nat) : Int) > 2 then ((ns.length : Nat) : Int) else 2) else 8) = (many : Int) := by
      by_cases h : ((ns.length : Nat) : Int) > 2
      · rw [if_pos h]
        by_cases h2 : ((ns.length : Nat) : Int) < 8
        · exact ⟨ns.length, by omega, if_pos h2⟩
        · exact ⟨8, by omega, if_neg h2⟩
      · rw [if_neg h]
        exact ⟨2, by omega, rfl⟩
    rw [emany]
    refine ⟨_, rfl, by omega, by omega, for_range (lo := 0) (n := many) (fun i σ H' => ∃ (x1 x3 x4 x5 x6 x7 x8 x9 x10 x11 x12 x13 : Option V) (L : Addr) (ps : List Addr) (rs : List (Int × Int)), σ = [some (.ref a), x1, some (.ref L), x3, x4, x5, x6, x7, x8, x9, x10, x11, x12, x13] ∧ Same H H' ∧
        H' L = some (.lst (ps.map V.ref)) ∧ RowsAt H' rs ps ∧ (∀ c ∈ rs, Okc c) ∧ rs.length ≤ 20)
      ⟨_, _, _, _, _, _, _, _, _, _, _, _, L0, ps0, rs0, rfl, s4, hL0, hps0, ok0, by omega⟩ ?_ ?_⟩
    · rintro i σ H1 hi ⟨x1, x3, x4, x5, x6, x7, x8, x9, x10, x11, x12, x13, L, ps, rs, rfl, s1, hL, hps, okr, hrl⟩
      have e0 : (0 : Int) + (i : Int) = (i : Int) := Int.zero_add _
      show tSeq _ _ _ [some (.ref a), x1, some (.ref L), some (.int ((0 : Int) + (i : Int))), x4, x5, x6, x7, x8, x9, x10, x11, x12, x13] H1
      rw [e0]
      have lps := paired_len hps
      refine ⟨_, rfl, _, rfl, a, ns, i, rfl, s1.seq hS, fun z1 => ⟨_, rfl, _, _, rfl, rfl, z1, _, rfl, fun st y hst => ?_⟩⟩
      have dA : Dr (upd H1 st (.lst [.int y])) st := ⟨_, upd_same⟩
      have sA : Same H1 (upd H1 st (.lst [.int y])) := same_new hst
      refine ⟨Nat.zero_le _, fun G hG => ?_⟩
      have sB := same_new (o := .lst []) hG
      have hG1 : H1 G = none := sA.free hG
      have hGst : G ≠ st := new_ne dA hG
      refine ⟨_, rfl, L, _, rfl, .inl (seqL (sB _ _ (sA _ _ hL))), _, rfl, by omega, by rw [List.length_map]; omega, for_range (lo := 0) (n := (ps.map V.ref).length) (fun j σ H' => ∃ (x5 : Option V) (gs : List (Int × Int)) (ts : List Addr), σ = [some (.ref a), some (.ref st), some (.ref L), some (.int (i : Int)), some (.ref G), x5, x6, x7, x8, x9, x10, x11, x12, x13] ∧ Same H1 H' ∧ Dr H' st ∧
          H' G = some (.lst (ts.map V.ref)) ∧ RowsAt H' gs ts ∧ gs.Sublist (rs.take j))
        ⟨x5, [], [], rfl, same_trans sA sB, dA.ext sB, upd_same, .nil, by simp⟩ ?_ ?_⟩
      · rintro j σ H2 hj ⟨y5, gs, ts, rfl, s2, d2, hG2, hts, hsub⟩
        rw [List.length_map] at hj
        have e1 : (0 : Int) + (j : Int) = (j : Int) := Int.zero_add _
        obtain ⟨q, hq⟩ : ∃ q, ps[j]? = some q := ⟨_, List.getElem?_eq_getElem hj⟩
        obtain ⟨c, hc, hrow⟩ := paired_get2 hps hq
        have hqa : atI (ps.map V.ref) ((0 : Int) + (j : Int)) = some (.ref q) := atI2 e1 (by rw [List.getElem?_map, hq]; rfl)
        refine ⟨_, rfl, st, 3, rfl, d2, by decide, by decide, fun d H3 _ _ k3 => ⟨rfl, _, rfl, ?_⟩⟩
        have s3 : Same H1 H3 := kp_same s2 hst k3
        have hG3 := k3.1 _ _ hGst hG2
        have hts3 := rows_kp k3 d2 hts
        have hlt : ts.length ≤ 100 := by
          have h1 := paired_len hts
          have h2 := hsub.length_le
          have h3 : (rs.take j).length ≤ rs.length := by rw [List.length_take]; omega
          omega
        refine ite2 (fun _ => ?_) (fun _ => ?_)
        · refine ⟨_, rfl, .inl ⟨rfl, _, seqL hG3⟩, _, rfl, _, rfl, L, _, _, _, rfl, rfl, seqL (s3 _ _ hL), hqa, G, _, _, rfl, rfl, hG3, lt_sz' (by rw [List.length_map]; omega), ?_⟩
          refine ⟨_, gs ++ [c], ts ++ [q], rfl, same_mut s3 hG1, ?_, by rw [upd_same, List.map_append]; rfl, ?_, ?_⟩
          · obtain ⟨y', hy'⟩ := k3.dr
            exact ⟨y', by rw [upd_ne hGst.symm]; exact hy'⟩
          · exact paired_app (rows_mut hG3 hts3) (.cons (by show upd _ G _ q = _; rw [upd_ne (row_ne hG3 (s3 _ _ hrow))]; exact s3 _ _ hrow) .nil)
          · rw [take_next hc]
            exact hsub.append (List.Sublist.refl _)
        · refine ⟨_, gs, ts, rfl, s3, k3.dr, hG3, hts3, ?_⟩
          rw [take_next hc]
          exact hsub.trans (List.sublist_append_left _ _)
      · rintro σ H2 ⟨y5, gs, ts, rfl, s2, d2, hG2, hts, hsub⟩
        rw [List.length_map, ← lps, List.take_length] at hsub
        have hgl : gs.length ≤ 20 := Nat.le_trans hsub.length_le hrl
        have okg : ∀ c ∈ gs, Okc c := fun c hc => okr c (hsub.subset hc)
        have lts := paired_len hts
        -- come
        refine ⟨_, rfl, _, rfl, st, 7, rfl, d2, by decide, by decide, fun m H3 m0 m1 k3 => ⟨st, m, rfl, k3.dr, m0, by omega, fun H4 R us cs1 k4 _ hR hus hl1 ok1 => ?_⟩⟩
        have k34 := k3.trans k4
        have hG4 := k34.1 _ _ hGst hG2
        have hts4 := rows_kp k34 d2 hts
        have s4 : Same H1 H4 := kp_same s2 hst k34
        have hRst : R ≠ st := by
          obtain ⟨y', hy'⟩ := k34.dr
          exact ne_of hR hy' (by intro q; injection q with q; cases us <;> simp at q)
        refine ⟨_, rfl, G, rfl, ⟨_, seqL hG4⟩, fun D hD => ?_⟩
        have hDst : D ≠ st := new_ne k34.dr hD
        refine lc_list (xs := ts.map V.ref) (fun u H' => ∃ (vs : List Addr) (ws : List (Int × Int)), Kp st H4 H' ∧ H' D = some (.lst (vs.map V.ref)) ∧ RowsAt H' ws vs ∧ ws.Sublist (gs.take u))
          ⟨[], [], (Kp.refl k34.dr).new hD, upd_same, .nil, by simp⟩ (fun u H' _ ⟨_, _, h, _⟩ => seqL (h.1 _ _ hGst hG4)) ?_ ?_
        · rintro u z H5 hz ⟨vs, ws, k5, hT, hws, hsw⟩
          obtain ⟨p, hp, rfl⟩ := ref_of hz
          obtain ⟨c, hc, hrow⟩ := paired_get2 hts4 hp
          refine ⟨rfl, _, rfl, st, 2, rfl, k5.dr, by decide, by decide, fun d H6 _ _ k6 => ⟨rfl, _, rfl, ?_⟩⟩
          have hT6 := k6.1 _ _ hDst hT
          have k56 := k5.trans k6
          have hrow6 := k56.1 _ _ (row_st k34.dr hrow) hrow
          have hlt : vs.length ≤ 100 := by
            have h1 := paired_len hws
            have h2 := hsw.length_le
            have h3 : (gs.take u).length ≤ gs.length := by rw [List.length_take]; omega
            omega
          refine ite2 (fun _ => ?_) (fun _ => ?_)
          · refine ⟨_, rfl, _, hT6, lt_sz' (by rw [List.length_map]; omega), vs ++ [p], ws ++ [c], k56.mut hD k34.dr, by rw [upd_same, List.map_append]; rfl, ?_, ?_⟩
            · exact paired_app (rows_mut hT6 (rows_kp k6 k5.dr hws)) (.cons (by show upd _ D _ p = _; rw [upd_ne (row_ne hT6 hrow6)]; exact hrow6) .nil)
            · rw [take_next hc]
              exact hsw.append (List.Sublist.refl _)
          · refine ⟨vs, ws, k56, hT6, rows_kp k6 k5.dr hws, ?_⟩
            rw [take_next hc]
            exact hsw.trans (List.sublist_append_left _ _)
        rintro H5 ⟨vs, ws, k5, hT, hws, hsw⟩
        rw [List.length_map, ← lts, List.take_length] at hsw
        have hwl : ws.length ≤ 20 := Nat.le_trans hsw.length_le hgl
        have s5 : Same H1 H5 := kp_same s4 hst k5
        have hR5 := k5.1 _ _ hRst hR
        have hus5 := rows_kp k5 k34.dr hus
        have lus := paired_len hus5
        have lvs := paired_len hws
        refine ⟨R, D, _, _, rfl, rfl, hR5, hT, lt_sz (by rw [List.length_map, List.length_map]; omega), fun M hM => ?_⟩
        have s6 := same_new (o := .lst (us.map V.ref ++ vs.map V.ref)) hM
        obtain ⟨HC, eHC⟩ : ∃ HC, HC = upd H5 M (.lst (us.map V.ref ++ vs.map V.ref)) := ⟨_, rfl⟩
        rw [← eHC]
        have sC : Same H1 HC := by rw [eHC]; exact same_trans s5 s6
        obtain ⟨cs, ecs⟩ : ∃ cs, cs = cs1 ++ ws := ⟨_, rfl⟩
        obtain ⟨qs, eqs⟩ : ∃ qs, qs = us ++ vs := ⟨_, rfl⟩
        have hMC : HC M = some (.lst (qs.map V.ref)) := by rw [eHC, upd_same, eqs, List.map_append]
        have hqs : RowsAt HC cs qs := by rw [eHC, ecs, eqs]; exact paired_app (rows_same s6 hus5) (rows_same s6 hws)
        have hGC : HC G = some (.lst (ts.map V.ref)) := by rw [eHC]; exact s6 _ _ (k5.1 _ _ hGst hG4)
        have htsC : RowsAt HC gs ts := by rw [eHC]; exact rows_same s6 (rows_kp k5 k34.dr hts4)
        have okc : ∀ c ∈ cs, Okc c := fun c hc => by
          rw [ecs] at hc
          rcases List.mem_append.mp hc with h | h
          · exact ok1 c h
          · exact okg c (hsw.subset h)
        have hcl : cs.length ≤ 30 := by rw [ecs, List.length_append]; omega
        have lqs := paired_len hqs
        -- given
        refine ⟨_, rfl, G, rfl, ⟨_, seqL hGC⟩, fun D1 hD1 => ?_⟩
        refine lc_list (xs := ts.map V.ref) (fun i H' => ∃ us : List Addr, Same HC H' ∧ H' D1 = some (.lst (us.map V.ref)) ∧ RowsAt H' (gs.take i) us) ⟨[], same_new hD1, upd_same, .nil⟩ (fun i H' _ ⟨_, h, _⟩ => seqL (h _ _ hGC)) ?_ ?_
        · rintro i z H6 hz ⟨us, s6, hT, hr⟩
          obtain ⟨q, hq, rfl⟩ := ref_of hz
          obtain ⟨c, hc, hrow⟩ := paired_get2 htsC hq
          exact ⟨rfl, _, rfl, q, _, rfl, .inl (seqL (s6 _ _ hrow)), fun l hl => copy_step hD1 s6 hT hr hc hl (by omega)⟩
        rintro H6 ⟨t1, s6, hT1, hr1⟩
        rw [List.length_map, ← lts, List.take_length] at hr1
        refine ⟨_, rfl, M, rfl, ⟨_, seqL (s6 _ _ hMC)⟩, fun D2 hD2 => ?_⟩
        refine lc_list (xs := qs.map V.ref) (fun i H' => ∃ us : List Addr, Same H6 H' ∧ H' D2 = some (.lst (us.map V.ref)) ∧ RowsAt H' (cs.take i) us) ⟨[], same_new hD2, upd_same, .nil⟩ (fun i H' _ ⟨_, h, _⟩ => seqL (h _ _ (s6 _ _ hMC))) ?_ ?_
        · rintro i z H7 hz ⟨us, s7, hT, hr⟩
          obtain ⟨q, hq, rfl⟩ := ref_of hz
          obtain ⟨c, hc, hrow⟩ := paired_get2 (rows_same s6 hqs) hq
          exact ⟨rfl, _, rfl, q, _, rfl, .inl (seqL (s7 _ _ hrow)), fun l hl => copy_step hD2 s7 hT hr hc hl (by omega)⟩
        rintro H7 ⟨t2, s7, hT2, hr2⟩
        rw [List.length_map, ← lqs, List.take_length] at hr2
        refine ⟨lt_sz (show 2 ≤ 200000 by decide), fun t ht => ?_⟩
        have s8 := same_new (o := .tup [.ref D1, .ref D2]) ht
        have s78 := same_trans s7 s8
        have s68 := same_trans s6 s78
        have hT18 := s78 _ _ hT1
        have hT28 := s8 _ _ hT2
        have hr18 := rows_same s78 hr1
        have hr28 := rows_same s8 hr2
        -- the change
        refine ⟨_, rfl, t, _, _, _, rfl, rfl, seqT upd_same, at0, _, rfl, t, _, _, _, rfl, rfl, seqT upd_same, at1, fun x dx hx hdx hne => ?_⟩
        obtain ⟨H8, e8⟩ : ∃ H8, H8 = upd H7 t (.tup [.ref D1, .ref D2]) := ⟨_, rfl⟩
        have ht8 : H8 t = some (.tup [.ref D1, .ref D2]) := by rw [e8]; exact upd_same
        rw [← e8] at s8 s78 s68 hT18 hT28 hr18 hr28 hx hdx ⊢
        have s9 : Same H8 (upd (upd H8 dx (.own x)) x (.ins C dx [])) := fun b o e => by
          rw [upd_ne (ne_of_none e hx), upd_ne (ne_of_none e hdx)]
          exact e
        refine ⟨x, dx, D1, D2, t1, t2, gs, cs, rfl, upd_same, s9 _ _ hT18, rows_same s9 hr18, s9 _ _ hT28, rows_same s9 hr28, by omega, by omega, fun H9 g m hk hg hm hch => ⟨rfl, ?_⟩⟩
        have s89 : Same H8 H9 := fun b o e => hk b o (ne_of_none e hx) (s9 _ _ e)
        have hgD : g ≠ D1 := (ne_of_none (s9 _ _ hT18) hg).symm
        have hmD : m ≠ D1 := (ne_of_none (s9 _ _ hT18) hm).symm
        have hT19 := s89 _ _ hT18
        refine ⟨_, rfl, t, _, _, _, rfl, rfl, seqT (s89 _ _ ht8), at0, .inl ⟨rfl, _, seqL hT19⟩, lt_sz (show 1 ≤ 200000 by decide), fun n hn => ?_⟩
        have sA := same_new (o := .lst [.int 9]) hn
        have lt1 := paired_len hr1
        refine ⟨D1, _, _, rfl, rfl, sA _ _ hT19, lt_sz' (by rw [List.length_map]; omega), ?_⟩
        obtain ⟨HE, eHE⟩ : ∃ HE, HE = upd (upd H9 n (.lst [.int 9])) D1 (.lst (t1.map V.ref ++ [.ref n])) := ⟨_, rfl⟩
        have sE : Same HC HE := by rw [eHE]; exact same_mut (same_trans s68 (same_trans s89 sA)) hD1
        have hchE : ChAt HE C x g m gs cs := by rw [eHE]; exact (hch.same sA).mut (sA _ _ hT19) hgD hmD
        rw [← eHE]
        have hxE := hchE
        obtain ⟨dx', ps', qs', hx1, hx2, hx3, hx4, hx5⟩ := hxE
        -- small
        refine ⟨_, rfl, x, dx', _, rfl, hx1, rfl, x, g, m, gs, cs, rfl, hchE, okg, okc, by omega, by omega, fun H10 b g' m' s10 _ hch2 => ?_⟩
        have hyE := hch2
        obtain ⟨dy, ps2, qs2, hy1, hy2, hy3, hy4, hy5⟩ := hyE
        have sC10 := same_trans sE s10
        have hrm1 : (Bg.rem gs cs).length ≤ 200 := Nat.le_trans (Bg.rem_len _ _) (by omega)
        have hrm2 : (Bg.rem cs gs).length ≤ 200 := Nat.le_trans (Bg.rem_len _ _) (by omega)
        have okr1 : ∀ c ∈ Bg.rem gs cs, Okc c := fun c hc => okg c (Bg.rem_sub _ _ c hc)
        have okr2 : ∀ c ∈ Bg.rem cs gs, Okc c := fun c hc => okc c (Bg.rem_sub _ _ c hc)
        refine ⟨_, rfl, b, C, _, _, _, rfl, hy1, T.cls, T.n_gone, rfl, _, rfl, _, rfl, G, M, ts, qs, gs, cs, rfl, sC10 _ _ hGC, rows_same sC10 htsC, sC10 _ _ hMC, rows_same sC10 hqs, okg, okc, by omega, by omega, fun H11 R1 u1 s11 _ hR1 hu1 => ?_⟩
        refine ⟨g', R1, ps2, u1, _, rfl, s11 _ _ hy2, rows_same s11 hy3, hR1, hu1, okr1, hrm1, fun H12 s12 => ⟨true, rfl, iteF ?_⟩⟩
        have sb12 := same_trans s11 s12
        have sC12 := same_trans sC10 sb12
        refine ⟨_, rfl, b, C, _, _, _, rfl, sb12 _ _ hy1, T.cls, T.n_come, rfl, _, rfl, _, rfl, M, G, qs, ts, cs, gs, rfl, sC12 _ _ hMC, rows_same sC12 hqs, sC12 _ _ hGC, rows_same sC12 htsC, okc, okg, by omega, by omega, fun H13 R2 u2 s13 _ hR2 hu2 => ?_⟩
        refine ⟨m', R2, qs2, u2, _, rfl, s13 _ _ (sb12 _ _ hy4), rows_same s13 (rows_same sb12 hy5), hR2, hu2, okr2, hrm2, fun H14 s14 => ⟨true, rfl, iteF ?_⟩⟩
        have sE14 := same_trans s10 (same_trans sb12 (same_trans s13 s14))
        have sC14 := same_trans sE sE14
        -- the change as it was given
        refine ⟨_, rfl, x, C, _, _, _, rfl, sE14 _ _ hx1, T.cls, T.n_gone, rfl, _, rfl, g, G, ps', ts, gs, rfl, sE14 _ _ hx2, rows_same sE14 hx3, sC14 _ _ hGC, rows_same sC14 htsC, okg, by omega, fun H15 s15 => ⟨true, rfl, iteF ?_⟩⟩
        have sE15 := same_trans sE14 s15
        have sC15 := same_trans sC14 s15
        refine ⟨_, rfl, x, C, _, _, _, rfl, sE15 _ _ hx1, T.cls, T.n_come, rfl, _, rfl, m, M, qs', qs, cs, rfl, sE15 _ _ hx4, rows_same sE15 hx5, sC15 _ _ hMC, rows_same sC15 hqs, okc, by omega, fun H16 s16 => ⟨true, rfl, iteF ?_⟩⟩
        have sE16 := same_trans sE15 s16
        have sC16 := same_trans sC15 s16
        have hch16 := hchE.same sE16
        -- nothing
        refine ⟨_, rfl, x, dx', _, rfl, sE16 _ _ hx1, x, g, m, gs, cs, rfl, hch16, by omega, by omega, _, _, rfl, rfl, _, rfl, ?_⟩
        refine with_rest (fun rest => ite_notBl (fun e => ⟨_, rfl, x, dx', _, rfl, sE16 _ _ hx1, x, g, m, gs, cs, rfl, hch16, by omega, by omega, _, _, rfl, rfl, _, rfl, by rw [e]; exact iteF rest⟩) (iteF rest)) ?_
        refine ⟨_, rfl, x, dx', _, rfl, sE16 _ _ hx1, x, g, m, gs, cs, rfl, hch16, by omega, by omega, _, rfl, G, _, rfl, .inl (seqL (sC16 _ _ hGC)), _, rfl, M, _, rfl, .inl (seqL (sC16 _ _ hMC)), _, _, rfl, rfl, rfl, rfl, _, rfl, ?_⟩
        rw [List.length_map, List.length_map, ← lts, ← lqs]
        have en : decide (V.int (((gs.length : Nat) : Int) + ((cs.length : Nat) : Int)) = V.int 0) = decide (gs.length + cs.length = 0) := by
          by_cases h : gs.length + cs.length = 0
          · rw [decide_eq_true h]
            exact decide_eq_true (congrArg V.int (by omega))
          · rw [decide_eq_false h]
            exact decide_eq_false fun z => by
              injection z with z
              omega
        rw [en, decide_eq_true rfl]
        refine iteF ?_
        refine ⟨Nat.zero_le _, fun l1 hl1 => ⟨Nat.zero_le _, fun l2 hl2 => fun x2 dx2 hx2 hdx2 hne2 => ?_⟩⟩
        have q1 := same_new (o := .lst []) hl1
        have q2 := same_new (o := .lst []) hl2
        obtain ⟨HF, eHF⟩ : ∃ HF, HF = upd (upd H16 l1 (.lst [])) l2 (.lst []) := ⟨_, rfl⟩
        have hl1F : HF l1 = some (.lst ([].map V.ref)) := by rw [eHF]; exact q2 _ _ upd_same
        have hl2F : HF l2 = some (.lst ([].map V.ref)) := by rw [eHF]; exact upd_same
        have sF : Same H16 HF := by rw [eHF]; exact same_trans q1 q2
        rw [← eHF] at hx2 hdx2 ⊢
        have s17 : Same HF (upd (upd HF dx2 (.own x2)) x2 (.ins C dx2 [])) := fun b o e => by
          rw [upd_ne (ne_of_none e hx2), upd_ne (ne_of_none e hdx2)]
          exact e
        refine ⟨x2, dx2, l1, l2, [], [], [], [], rfl, upd_same, s17 _ _ hl1F, .nil, s17 _ _ hl2F, .nil, by decide, by decide, fun H17 g2 m2 hk2 _ _ hch3 => ⟨rfl, ?_⟩⟩
        have hz := hch3
        obtain ⟨dz, _, _, hz1, _⟩ := hz
        have sF17 : Same H16 H17 := fun b o e => hk2 b o (ne_of_none (sF _ _ e) hx2) (s17 _ _ (sF _ _ e))
        refine ⟨x2, dz, _, rfl, hz1, x2, g2, m2, [], [], rfl, hch3, by decide, by decide, _, _, rfl, rfl, _, rfl, iteF ?_⟩
        have sE17 := same_trans sE16 sF17
        have sC17 := same_trans sC16 sF17
        have s117 := same_trans sC sC17
        have hL17 := s117 _ _ hL
        have hps17 := rows_same s117 hps
        -- kept
        refine ⟨_, rfl, L, rfl, ⟨_, seqL hL17⟩, fun D3 hD3 => ?_⟩
        refine lc_list (xs := ps.map V.ref) (fun i H' => ∃ us : List Addr, Same H17 H' ∧ H' D3 = some (.lst (us.map V.ref)) ∧ RowsAt H' (rs.take i) us) ⟨[], same_new hD3, upd_same, .nil⟩ (fun i H' _ ⟨_, h, _⟩ => seqL (h _ _ hL17)) ?_ ?_
        · rintro i z H7 hz ⟨us, s7, hT, hr⟩
          obtain ⟨q, hq, rfl⟩ := ref_of hz
          obtain ⟨c, hc, hrow⟩ := paired_get2 hps17 hq
          exact ⟨rfl, _, rfl, q, _, rfl, .inl (seqL (s7 _ _ hrow)), fun l hl => copy_step hD3 s7 hT hr hc hl (by omega)⟩
        rintro H18 ⟨t3, s18, hT3, hr3⟩
        rw [List.length_map, ← lps, List.take_length] at hr3
        have sE18 := same_trans sE17 s18
        refine ⟨_, rfl, _, rfl, D3, x, g, m, t3, rs, gs, cs, rfl, seqL hT3, hr3, hchE.same sE18, okr, okg, by omega, by omega, by omega, fun H19 R3 u3 s19 _ hR3 hu3 => ?_⟩
        have s1719 := same_trans s18 s19
        have sC19 := same_trans sC17 s1719
        have s119 := same_trans sC sC19
        refine ⟨_, rfl, _, rfl, L, G, ps, ts, rs, gs, rfl, s119 _ _ hL, rows_same s119 hps, sC19 _ _ hGC, rows_same sC19 htsC, okr, okg, by omega, by omega, fun H20 R4 u4 s20 _ hR4 hu4 => ?_⟩
        have hw := Bg.wout_len rs gs
        have lu4 := paired_len hu4
        refine ⟨_, rfl, R4, M, _, _, rfl, rfl, hR4, s20 _ _ (sC19 _ _ hMC), lt_sz (by rw [List.length_map, List.length_map]; omega), fun Z hZ => ?_⟩
        have s21 := same_new (o := .lst (u4.map V.ref ++ qs.map V.ref)) hZ
        obtain ⟨H21, e21⟩ : ∃ H21, H21 = upd H20 Z (.lst (u4.map V.ref ++ qs.map V.ref)) := ⟨_, rfl⟩
        have hZ21 : H21 Z = some (.lst ((u4 ++ qs).map V.ref)) := by rw [e21, upd_same, List.map_append]
        rw [← e21] at s21 ⊢
        have s2021 := same_trans s20 s21
        have hdue : RowsAt H21 (Bg.wout rs gs ++ cs) (u4 ++ qs) := paired_app (rows_same s21 hu4) (rows_same s2021 (rows_same sC19 hqs))
        have okdue : ∀ c ∈ Bg.wout rs gs ++ cs, Okc c := fun c hc => by
          rcases List.mem_append.mp hc with h | h
          · exact okr c (Bg.wout_sub _ _ c h)
          · exact okc c h
        have ldue : (Bg.wout rs gs ++ cs).length ≤ 200 := by rw [List.length_append]; omega
        refine ⟨_, rfl, _, rfl, R3, Z, u3, _, _, rfl, s2021 _ _ hR3, rows_same s2021 hu3, hZ21, hdue, okdue, ldue, fun H22 s22 => ⟨true, rfl, iteF ?_⟩⟩
        have s1922 := same_trans s2021 s22
        have s1722 := same_trans s1719 s1922
        have s122 := same_trans s117 s1722
        refine ⟨_, rfl, _, rfl, D3, L, t3, ps, rs, rfl, s1922 _ _ (s19 _ _ hT3), rows_same s1922 (rows_same s19 hr3), s122 _ _ hL, rows_same s122 hps, okr, by omega, fun H23 s23 => ⟨true, rfl, iteF ?_⟩⟩
        have s1923 := same_trans s1922 s23
        have s1023 : Same H10 H23 := same_trans sb12 (same_trans s13 (same_trans s14 (same_trans s15 (same_trans s16 (same_trans sF17 (same_trans s1719 s1923))))))
        refine ⟨_, rfl, _, rfl, D3, b, g', m', t3, rs, _, _, rfl, seqL (s1923 _ _ (s19 _ _ hT3)), rows_same s1923 (rows_same s19 hr3), hch2.same s1023, okr, okr1, by omega, Nat.le_trans (Bg.rem_len _ _) (by omega), Nat.le_trans (Bg.rem_len _ _) (by omega), fun H24 R5 u5 s24 _ hR5 hu5 => ?_⟩
        have s2124 := same_trans s22 (same_trans s23 s24)
        have hperm := Bg.small_same (rows := rs) (gone := gs) (come := cs) fun q => Bg.sub_cnt hsub q
        have hw2 := Bg.wout_len rs (Bg.rem gs cs)
        have hr5 := Bg.rem_len cs gs
        refine ⟨_, rfl, R5, Z, u5, _, _, _, rfl, hR5, hu5, s2124 _ _ hZ21, rows_same s2124 hdue, fun c hc => ?_, okdue, by rw [List.length_append]; omega, hperm, fun H25 s25 => ⟨true, rfl, iteF ?_⟩⟩
        · rcases List.mem_append.mp hc with h | h
          · exact okr c (Bg.wout_sub _ _ c h)
          · exact okr2 c h
        have s2125 := same_trans s2124 s25
        refine ⟨_, rfl, _, rfl, Z, _, rfl, seqL (s2125 _ _ hZ21), fun Y hY => ?_⟩
        have s26 := same_new (o := .lst (cutV ((u4 ++ qs).map V.ref) none (some 20))) hY
        have ecut : cutV ((u4 ++ qs).map V.ref) none (some 20) = ((u4 ++ qs).take 20).map V.ref := by
          rw [List.map_take]
          exact cut_to _ 20
        refine ⟨_, _, _, _, _, _, _, _, _, _, _, _, Y, (u4 ++ qs).take 20, (Bg.wout rs gs ++ cs).take 20, rfl, ?_, by rw [upd_same, ecut], paired_take 20 (rows_same s26 (rows_same s2125 hdue)), fun c hc => okdue c (List.mem_of_mem_take hc), by rw [List.length_take]; omega⟩
        exact same_trans s1 (same_trans s122 (same_trans s23 (same_trans s24 (same_trans s25 s26))))
    · rintro σ H1 ⟨x1, x3, x4, x5, x6, x7, x8, x9, x10, x11, x12, x13, L, ps, rs, rfl, s1, _⟩
      exact kk _
end
end Sb
set_option Elab.async false
set_option maxRecDepth 100000
set_option maxHeartbeats 4000000
namespace Sb
open PySem PySem.Spec PyProof.Rows L2 SX
theorem all_mk {l : PySem.W.OpenLaw} {w : World} {K : PySem.W.Frag} {h : Heap} {mg : Str → Option Value} {fa f__law_cell f__law_state f__law_digit f__law_rank f__law_ranks f__law_bag f__law_same_rows f__law_same_bag f__law_without f__law_more f__law_some_rows f_rank f_row_rank f_without f_remaining f_changed_rows f_law C f_Change_init f_Change_small : Addr} (X : K.In h) (G : h.Ns mainGlobals mg) (hfa : mg "law" = some (.ref fa))
    {od__law_cell an__law_cell : Option Addr} {sl__law_cell : Array (Option Value)} {oc__law_cell kV__law_cell dc__law_cell pm__law_cell cd__law_cell ct__law_cell : Value}
    {od__law_state an__law_state : Option Addr} {sl__law_state : Array (Option Value)} {oc__law_state kV__law_state dc__law_state pm__law_state cd__law_state ct__law_state : Value}
    {od__law_digit an__law_digit : Option Addr} {sl__law_digit : Array (Option Value)} {oc__law_digit kV__law_digit dc__law_digit pm__law_digit cd__law_digit ct__law_digit : Value}
    {od__law_rank an__law_rank : Option Addr} {sl__law_rank : Array (Option Value)} {oc__law_rank kV__law_rank dc__law_rank pm__law_rank cd__law_rank ct__law_rank : Value}
    {od__law_ranks an__law_ranks : Option Addr} {sl__law_ranks : Array (Option Value)} {oc__law_ranks kV__law_ranks dc__law_ranks pm__law_ranks cd__law_ranks ct__law_ranks : Value}
    {od__law_bag an__law_bag : Option Addr} {sl__law_bag : Array (Option Value)} {oc__law_bag kV__law_bag dc__law_bag pm__law_bag cd__law_bag ct__law_bag : Value}
    {od__law_same_rows an__law_same_rows : Option Addr} {sl__law_same_rows : Array (Option Value)} {oc__law_same_rows kV__law_same_rows dc__law_same_rows pm__law_same_rows cd__law_same_rows ct__law_same_rows : Value}
    {od__law_same_bag an__law_same_bag : Option Addr} {sl__law_same_bag : Array (Option Value)} {oc__law_same_bag kV__law_same_bag dc__law_same_bag pm__law_same_bag cd__law_same_bag ct__law_same_bag : Value}
    {od__law_without an__law_without : Option Addr} {sl__law_without : Array (Option Value)} {oc__law_without kV__law_without dc__law_without pm__law_without cd__law_without ct__law_without : Value}
    {od__law_more an__law_more : Option Addr} {sl__law_more : Array (Option Value)} {oc__law_more kV__law_more dc__law_more pm__law_more cd__law_more ct__law_more : Value}
    {od__law_some_rows an__law_some_rows : Option Addr} {sl__law_some_rows : Array (Option Value)} {oc__law_some_rows kV__law_some_rows dc__law_some_rows pm__law_some_rows cd__law_some_rows ct__law_some_rows : Value}
    {od_rank an_rank : Option Addr} {sl_rank : Array (Option Value)} {oc_rank kV_rank dc_rank pm_rank cd_rank ct_rank : Value}
    {od_row_rank an_row_rank : Option Addr} {sl_row_rank : Array (Option Value)} {oc_row_rank kV_row_rank dc_row_rank pm_row_rank cd_row_rank ct_row_rank : Value}
    {od_without an_without : Option Addr} {sl_without : Array (Option Value)} {oc_without kV_without dc_without pm_without cd_without ct_without : Value}
    {od_remaining an_remaining : Option Addr} {sl_remaining : Array (Option Value)} {oc_remaining kV_remaining dc_remaining pm_remaining cd_remaining ct_remaining : Value}
    {od_changed_rows an_changed_rows : Option Addr} {sl_changed_rows : Array (Option Value)} {oc_changed_rows kV_changed_rows dc_changed_rows pm_changed_rows cd_changed_rows ct_changed_rows : Value}
    {od_law an_law : Option Addr} {sl_law : Array (Option Value)} {oc_law kV_law dc_law pm_law cd_law ct_law : Value}
    {od_Change_init an_Change_init : Option Addr} {sl_Change_init : Array (Option Value)} {oc_Change_init kV_Change_init dc_Change_init pm_Change_init cd_Change_init ct_Change_init : Value}
    {od_Change_small an_Change_small : Option Addr} {sl_Change_small : Array (Option Value)} {oc_Change_small kV_Change_small dc_Change_small pm_Change_small cd_Change_small ct_Change_small : Value}
    {f_nothing p_nothing : Addr} {rest_n : List Value} {od_n an_n : Option Addr} {sl_n : Array (Option Value)} {oc_n kV_n dc_n pm_n cd_n ct_n : Value}
    (a__law_cell : PySem.W.nsIn K mainGlobals "_law_cell" = some (some (.ref f__law_cell)))
    (l__law_cell : K.lookup f__law_cell = some ⟨oc__law_cell, od__law_cell, .func (PySem.W.fnOf "_law_cell" "_law_cell" (defArgs s__law_cell) (defBody s__law_cell) (defScope s__law_cell) .none kV__law_cell dc__law_cell pm__law_cell an__law_cell cd__law_cell ct__law_cell), sl__law_cell⟩)
    (c__law_cell : PySem.W.codeIn K cd__law_cell "_law_cell" = true)
    (k__law_cell : PySem.W.keepIn K (.ref f__law_cell) = true)
    (a__law_state : PySem.W.nsIn K mainGlobals "_law_state" = some (some (.ref f__law_state)))
    (l__law_state : K.lookup f__law_state = some ⟨oc__law_state, od__law_state, .func (PySem.W.fnOf "_law_state" "_law_state" (defArgs s__law_state) (defBody s__law_state) (defScope s__law_state) .none kV__law_state dc__law_state pm__law_state an__law_state cd__law_state ct__law_state), sl__law_state⟩)
    (c__law_state : PySem.W.codeIn K cd__law_state "_law_state" = true)
    (k__law_state : PySem.W.keepIn K (.ref f__law_state) = true)
    (a__law_digit : PySem.W.nsIn K mainGlobals "_law_digit" = some (some (.ref f__law_digit)))
    (l__law_digit : K.lookup f__law_digit = some ⟨oc__law_digit, od__law_digit, .func (PySem.W.fnOf "_law_digit" "_law_digit" (defArgs s__law_digit) (defBody s__law_digit) (defScope s__law_digit) .none kV__law_digit dc__law_digit pm__law_digit an__law_digit cd__law_digit ct__law_digit), sl__law_digit⟩)
    (c__law_digit : PySem.W.codeIn K cd__law_digit "_law_digit" = true)
    (k__law_digit : PySem.W.keepIn K (.ref f__law_digit) = true)
    (a__law_rank : PySem.W.nsIn K mainGlobals "_law_rank" = some (some (.ref f__law_rank)))
    (l__law_rank : K.lookup f__law_rank = some ⟨oc__law_rank, od__law_rank, .func (PySem.W.fnOf "_law_rank" "_law_rank" (defArgs s__law_rank) (defBody s__law_rank) (defScope s__law_rank) .none kV__law_rank dc__law_rank pm__law_rank an__law_rank cd__law_rank ct__law_rank), sl__law_rank⟩)
    (c__law_rank : PySem.W.codeIn K cd__law_rank "_law_rank" = true)
    (k__law_rank : PySem.W.keepIn K (.ref f__law_rank) = true)
    (a__law_ranks : PySem.W.nsIn K mainGlobals "_law_ranks" = some (some (.ref f__law_ranks)))
    (l__law_ranks : K.lookup f__law_ranks = some ⟨oc__law_ranks, od__law_ranks, .func (PySem.W.fnOf "_law_ranks" "_law_ranks" (defArgs s__law_ranks) (defBody s__law_ranks) (defScope s__law_ranks) .none kV__law_ranks dc__law_ranks pm__law_ranks an__law_ranks cd__law_ranks ct__law_ranks), sl__law_ranks⟩)
    (c__law_ranks : PySem.W.codeIn K cd__law_ranks "_law_ranks" = true)
    (k__law_ranks : PySem.W.keepIn K (.ref f__law_ranks) = true)
    (a__law_bag : PySem.W.nsIn K mainGlobals "_law_bag" = some (some (.ref f__law_bag)))
    (l__law_bag : K.lookup f__law_bag = some ⟨oc__law_bag, od__law_bag, .func (PySem.W.fnOf "_law_bag" "_law_bag" (defArgs s__law_bag) (defBody s__law_bag) (defScope s__law_bag) .none kV__law_bag dc__law_bag pm__law_bag an__law_bag cd__law_bag ct__law_bag), sl__law_bag⟩)
    (c__law_bag : PySem.W.codeIn K cd__law_bag "_law_bag" = true)
    (k__law_bag : PySem.W.keepIn K (.ref f__law_bag) = true)
    (a__law_same_rows : PySem.W.nsIn K mainGlobals "_law_same_rows" = some (some (.ref f__law_same_rows)))
    (l__law_same_rows : K.lookup f__law_same_rows = some ⟨oc__law_same_rows, od__law_same_rows, .func (PySem.W.fnOf "_law_same_rows" "_law_same_rows" (defArgs s__law_same_rows) (defBody s__law_same_rows) (defScope s__law_same_rows) .none kV__law_same_rows dc__law_same_rows pm__law_same_rows an__law_same_rows cd__law_same_rows ct__law_same_rows), sl__law_same_rows⟩)
    (c__law_same_rows : PySem.W.codeIn K cd__law_same_rows "_law_same_rows" = true)
    (k__law_same_rows : PySem.W.keepIn K (.ref f__law_same_rows) = true)
    (a__law_same_bag : PySem.W.nsIn K mainGlobals "_law_same_bag" = some (some (.ref f__law_same_bag)))
    (l__law_same_bag : K.lookup f__law_same_bag = some ⟨oc__law_same_bag, od__law_same_bag, .func (PySem.W.fnOf "_law_same_bag" "_law_same_bag" (defArgs s__law_same_bag) (defBody s__law_same_bag) (defScope s__law_same_bag) .none kV__law_same_bag dc__law_same_bag pm__law_same_bag an__law_same_bag cd__law_same_bag ct__law_same_bag), sl__law_same_bag⟩)
    (c__law_same_bag : PySem.W.codeIn K cd__law_same_bag "_law_same_bag" = true)
    (k__law_same_bag : PySem.W.keepIn K (.ref f__law_same_bag) = true)
    (a__law_without : PySem.W.nsIn K mainGlobals "_law_without" = some (some (.ref f__law_without)))
    (l__law_without : K.lookup f__law_without = some ⟨oc__law_without, od__law_without, .func (PySem.W.fnOf "_law_without" "_law_without" (defArgs s__law_without) (defBody s__law_without) (defScope s__law_without) .none kV__law_without dc__law_without pm__law_without an__law_without cd__law_without ct__law_without), sl__law_without⟩)
    (c__law_without : PySem.W.codeIn K cd__law_without "_law_without" = true)
    (k__law_without : PySem.W.keepIn K (.ref f__law_without) = true)
    (a__law_more : PySem.W.nsIn K mainGlobals "_law_more" = some (some (.ref f__law_more)))
    (l__law_more : K.lookup f__law_more = some ⟨oc__law_more, od__law_more, .func (PySem.W.fnOf "_law_more" "_law_more" (defArgs s__law_more) (defBody s__law_more) (defScope s__law_more) .none kV__law_more dc__law_more pm__law_more an__law_more cd__law_more ct__law_more), sl__law_more⟩)
    (c__law_more : PySem.W.codeIn K cd__law_more "_law_more" = true)
    (k__law_more : PySem.W.keepIn K (.ref f__law_more) = true)
    (a__law_some_rows : PySem.W.nsIn K mainGlobals "_law_some_rows" = some (some (.ref f__law_some_rows)))
    (l__law_some_rows : K.lookup f__law_some_rows = some ⟨oc__law_some_rows, od__law_some_rows, .func (PySem.W.fnOf "_law_some_rows" "_law_some_rows" (defArgs s__law_some_rows) (defBody s__law_some_rows) (defScope s__law_some_rows) .none kV__law_some_rows dc__law_some_rows pm__law_some_rows an__law_some_rows cd__law_some_rows ct__law_some_rows), sl__law_some_rows⟩)
    (c__law_some_rows : PySem.W.codeIn K cd__law_some_rows "_law_some_rows" = true)
    (k__law_some_rows : PySem.W.keepIn K (.ref f__law_some_rows) = true)
    (a_rank : PySem.W.nsIn K mainGlobals "rank" = some (some (.ref f_rank)))
    (l_rank : K.lookup f_rank = some ⟨oc_rank, od_rank, .func (PySem.W.fnOf "rank" "rank" (defArgs s_rank) (defBody s_rank) (defScope s_rank) .none kV_rank dc_rank pm_rank an_rank cd_rank ct_rank), sl_rank⟩)
    (c_rank : PySem.W.codeIn K cd_rank "rank" = true)
    (k_rank : PySem.W.keepIn K (.ref f_rank) = true)
    (a_row_rank : PySem.W.nsIn K mainGlobals "row_rank" = some (some (.ref f_row_rank)))
    (l_row_rank : K.lookup f_row_rank = some ⟨oc_row_rank, od_row_rank, .func (PySem.W.fnOf "row_rank" "row_rank" (defArgs s_row_rank) (defBody s_row_rank) (defScope s_row_rank) .none kV_row_rank dc_row_rank pm_row_rank an_row_rank cd_row_rank ct_row_rank), sl_row_rank⟩)
    (c_row_rank : PySem.W.codeIn K cd_row_rank "row_rank" = true)
    (k_row_rank : PySem.W.keepIn K (.ref f_row_rank) = true)
    (a_without : PySem.W.nsIn K mainGlobals "without" = some (some (.ref f_without)))
    (l_without : K.lookup f_without = some ⟨oc_without, od_without, .func (PySem.W.fnOf "without" "without" (defArgs s_without) (defBody s_without) (defScope s_without) .none kV_without dc_without pm_without an_without cd_without ct_without), sl_without⟩)
    (c_without : PySem.W.codeIn K cd_without "without" = true)
    (k_without : PySem.W.keepIn K (.ref f_without) = true)
    (a_remaining : PySem.W.nsIn K mainGlobals "remaining" = some (some (.ref f_remaining)))
    (l_remaining : K.lookup f_remaining = some ⟨oc_remaining, od_remaining, .func (PySem.W.fnOf "remaining" "remaining" (defArgs s_remaining) (defBody s_remaining) (defScope s_remaining) .none kV_remaining dc_remaining pm_remaining an_remaining cd_remaining ct_remaining), sl_remaining⟩)
    (c_remaining : PySem.W.codeIn K cd_remaining "remaining" = true)
    (k_remaining : PySem.W.keepIn K (.ref f_remaining) = true)
    (a_changed_rows : PySem.W.nsIn K mainGlobals "changed_rows" = some (some (.ref f_changed_rows)))
    (l_changed_rows : K.lookup f_changed_rows = some ⟨oc_changed_rows, od_changed_rows, .func (PySem.W.fnOf "changed_rows" "changed_rows" (defArgs s_changed_rows) (defBody s_changed_rows) (defScope s_changed_rows) .none kV_changed_rows dc_changed_rows pm_changed_rows an_changed_rows cd_changed_rows ct_changed_rows), sl_changed_rows⟩)
    (c_changed_rows : PySem.W.codeIn K cd_changed_rows "changed_rows" = true)
    (k_changed_rows : PySem.W.keepIn K (.ref f_changed_rows) = true)
    (a_law : PySem.W.nsIn K mainGlobals "law" = some (some (.ref f_law)))
    (l_law : K.lookup f_law = some ⟨oc_law, od_law, .func (PySem.W.fnOf "law" "law" (defArgs s_law) (defBody s_law) (defScope s_law) .none kV_law dc_law pm_law an_law cd_law ct_law), sl_law⟩)
    (c_law : PySem.W.codeIn K cd_law "law" = true)
    (k_law : PySem.W.keepIn K (.ref f_law) = true)
    (a_Change : PySem.W.nsIn K mainGlobals "Change" = some (some (.ref C)))
    (a_Change_init : PySem.W.findIn K (.ref C) "__init__" = some (some (.ref f_Change_init)))
    (i_Change_init : PySem.W.isFn K (.ref f_Change_init) = true)
    (l_Change_init : K.lookup f_Change_init = some ⟨oc_Change_init, od_Change_init, .func (PySem.W.fnOf "__init__" "Change.__init__" (defArgs s_Change___init__) (defBody s_Change___init__) (defScope s_Change___init__) .none kV_Change_init dc_Change_init pm_Change_init an_Change_init cd_Change_init ct_Change_init), sl_Change_init⟩)
    (c_Change_init : PySem.W.codeIn K cd_Change_init "Change.__init__" = true)
    (k_Change_init : PySem.W.keepIn K (.ref f_Change_init) = true)
    (a_Change_small : PySem.W.findIn K (.ref C) "small" = some (some (.ref f_Change_small)))
    (i_Change_small : PySem.W.isFn K (.ref f_Change_small) = true)
    (l_Change_small : K.lookup f_Change_small = some ⟨oc_Change_small, od_Change_small, .func (PySem.W.fnOf "small" "Change.small" (defArgs s_Change_small) (defBody s_Change_small) (defScope s_Change_small) .none kV_Change_small dc_Change_small pm_Change_small an_Change_small cd_Change_small ct_Change_small), sl_Change_small⟩)
    (c_Change_small : PySem.W.codeIn K cd_Change_small "Change.small" = true)
    (k_Change_small : PySem.W.keepIn K (.ref f_Change_small) = true)
    (pg_Change : PySem.W.plainGet K C Str.empty = true)
    (hd_Change : PySem.W.hasDictIn K C = true)
    (po_Change : PySem.W.plainOver K C = true)
    (sa_Change : PySem.W.findIn K (.ref C) "__setattr__" = some (some (.builtin "object.__setattr__")))
    (mk_Change : PySem.W.makesIn K C = true)
    (kc_Change : PySem.W.keepIn K (.ref C) = true)
    (n_Change_gone : PySem.W.findIn K (.ref C) "gone" = some none)
    (n_Change_come : PySem.W.findIn K (.ref C) "come" = some none)
    (z_len : PySem.W.nsIn K mainGlobals "len" = some none)
    (z_int : PySem.W.nsIn K mainGlobals "int" = some none)
    (z_range : PySem.W.nsIn K mainGlobals "range" = some none)
    (z_min : PySem.W.nsIn K mainGlobals "min" = some none)
    (z_max : PySem.W.nsIn K mainGlobals "max" = some none)
    (z_isinstance : PySem.W.nsIn K mainGlobals "isinstance" = some none)
    (z_list : PySem.W.nsIn K mainGlobals "list" = some none)
    (z_tuple : PySem.W.nsIn K mainGlobals "tuple" = some none)
    (z_bool : PySem.W.nsIn K mainGlobals "bool" = some none)
    (z_sorted : PySem.W.nsIn K mainGlobals "sorted" = some none)
    (x_at : PySem.W.findIn K (.ref C) "nothing" = some (some (.ref p_nothing)))
    (x_rec : PySem.W.recIn K p_nothing "property" = some (.ref f_nothing :: rest_n))
    (x_get : PySem.W.specialIn K (.ref p_nothing) "__get__" = some (some (.builtin "property.__get__")))
    (x_tak : PySem.W.takesIn K (.ref p_nothing) = some true)
    (l_n : K.lookup f_nothing = some ⟨oc_n, od_n, .func (PySem.W.fnOf "nothing" "Change.nothing" (defArgs s_Change_nothing) (defBody s_Change_nothing) (defScope s_Change_nothing) .none kV_n dc_n pm_n an_n cd_n ct_n), sl_n⟩)
    (c_n : PySem.W.codeIn K cd_n "Change.nothing" = true)
    (k_n : PySem.W.keepIn K (.ref f_nothing) = true) :
    ∃ fd : FuncData, (∀ (s : Shared) (v : Value), BindsTo s fd ⟨[v], []⟩ [("_law_script", v)]) ∧ ∀ base : Heap, K.In base → base.Ns mainGlobals mg → FnOk l.prog w K mg base CX0 6 fa fd ["_law_script"] (spLaw K) := by
  have e := hfa.symm.trans (PySem.W.mg_of X G a_law)
  cases e
  have T : Txt K mg C f_Change_small p_nothing f_nothing := ⟨PySem.W.mg_none_of X G z_len, PySem.W.mg_none_of X G z_int, PySem.W.mg_none_of X G z_range, PySem.W.mg_none_of X G z_min, PySem.W.mg_none_of X G z_max, PySem.W.mg_none_of X G z_isinstance, PySem.W.mg_none_of X G z_list, PySem.W.mg_none_of X G z_tuple, PySem.W.mg_none_of X G z_bool, PySem.W.mg_none_of X G z_sorted,
    ⟨pg_Change, hd_Change, po_Change, sa_Change⟩, n_Change_gone, n_Change_come, ⟨a_Change_small, i_Change_small, k_Change_small⟩, ⟨x_at, x_get, x_tak, _, x_rec⟩, PySem.W.mg_of X G a_Change⟩
  have F__law_cell := fun_mk (st := s__law_cell) l__law_cell c__law_cell k__law_cell
  have b__law_cell := F__law_cell.binds (ps := ["_law_script", "_law_k"]) fun _ _ _ _ _ _ us hl => match us, hl with | [_, _], _ => rfl
  have F__law_state := fun_mk (st := s__law_state) l__law_state c__law_state k__law_state
  have b__law_state := F__law_state.binds (ps := ["_law_cell_here", "_law_k"]) fun _ _ _ _ _ _ us hl => match us, hl with | [_, _], _ => rfl
  have F__law_digit := fun_mk (st := s__law_digit) l__law_digit c__law_digit k__law_digit
  have b__law_digit := F__law_digit.binds (ps := ["_law_state_here", "_law_many"]) fun _ _ _ _ _ _ us hl => match us, hl with | [_, _], _ => rfl
  have F__law_rank := fun_mk (st := s__law_rank) l__law_rank c__law_rank k__law_rank
  have b__law_rank := F__law_rank.binds (ps := ["_law_value_here"]) fun _ _ _ _ _ _ us hl => match us, hl with | [_], _ => rfl
  have F__law_ranks := fun_mk (st := s__law_ranks) l__law_ranks c__law_ranks k__law_ranks
  have b__law_ranks := F__law_ranks.binds (ps := ["_law_row"]) fun _ _ _ _ _ _ us hl => match us, hl with | [_], _ => rfl
  have F__law_bag := fun_mk (st := s__law_bag) l__law_bag c__law_bag k__law_bag
  have b__law_bag := F__law_bag.binds (ps := ["_law_rows"]) fun _ _ _ _ _ _ us hl => match us, hl with | [_], _ => rfl
  have F__law_same_rows := fun_mk (st := s__law_same_rows) l__law_same_rows c__law_same_rows k__law_same_rows
  have b__law_same_rows := F__law_same_rows.binds (ps := ["_law_told", "_law_due"]) fun _ _ _ _ _ _ us hl => match us, hl with | [_, _], _ => rfl
  have F__law_same_bag := fun_mk (st := s__law_same_bag) l__law_same_bag c__law_same_bag k__law_same_bag
  have b__law_same_bag := F__law_same_bag.binds (ps := ["_law_told", "_law_due"]) fun _ _ _ _ _ _ us hl => match us, hl with | [_, _], _ => rfl
  have F__law_without := fun_mk (st := s__law_without) l__law_without c__law_without k__law_without
  have b__law_without := F__law_without.binds (ps := ["_law_rows", "_law_others"]) fun _ _ _ _ _ _ us hl => match us, hl with | [_, _], _ => rfl
  have F__law_more := fun_mk (st := s__law_more) l__law_more c__law_more k__law_more
  have b__law_more := F__law_more.binds (ps := ["_law_rows", "_law_others"]) fun _ _ _ _ _ _ us hl => match us, hl with | [_, _], _ => rfl
  have F__law_some_rows := fun_mk (st := s__law_some_rows) l__law_some_rows c__law_some_rows k__law_some_rows
  have b__law_some_rows := F__law_some_rows.binds (ps := ["_law_state_here", "_law_many"]) fun _ _ _ _ _ _ us hl => match us, hl with | [_, _], _ => rfl
  have F_rank := fun_mk (st := s_rank) l_rank c_rank k_rank
  have b_rank := F_rank.binds (ps := ["value"]) fun _ _ _ _ _ _ us hl => match us, hl with | [_], _ => rfl
  have F_row_rank := fun_mk (st := s_row_rank) l_row_rank c_row_rank k_row_rank
  have b_row_rank := F_row_rank.binds (ps := ["row"]) fun _ _ _ _ _ _ us hl => match us, hl with | [_], _ => rfl
  have F_without := fun_mk (st := s_without) l_without c_without k_without
  have b_without := F_without.binds (ps := ["rows", "gone"]) fun _ _ _ _ _ _ us hl => match us, hl with | [_, _], _ => rfl
  have F_remaining := fun_mk (st := s_remaining) l_remaining c_remaining k_remaining
  have b_remaining := F_remaining.binds (ps := ["rows", "others"]) fun _ _ _ _ _ _ us hl => match us, hl with | [_, _], _ => rfl
  have F_changed_rows := fun_mk (st := s_changed_rows) l_changed_rows c_changed_rows k_changed_rows
  have b_changed_rows := F_changed_rows.binds (ps := ["rows", "change"]) fun _ _ _ _ _ _ us hl => match us, hl with | [_, _], _ => rfl
  have F_Ch := fun_mk (st := s_Change___init__) l_Change_init c_Change_init k_Change_init
  have b_Ch := F_Ch.binds (ps := ["self", "gone", "come"]) fun _ _ _ _ _ _ us hl => match us, hl with | [_, _, _], _ => rfl
  have F_Sm := fun_mk (st := s_Change_small) l_Change_small c_Change_small k_Change_small
  have b_Sm := F_Sm.binds (ps := ["self"]) fun _ _ _ _ _ _ us hl => match us, hl with | [_], _ => rfl
  have F_No := fun_mk (st := s_Change_nothing) l_n c_n k_n
  have b_No := F_No.binds (ps := ["self"]) fun _ _ _ _ _ _ us hl => match us, hl with | [_], _ => rfl
  refine ⟨PySem.W.fnOf "law" "law" (defArgs s_law) (defBody s_law) (defScope s_law) .none kV_law dc_law pm_law an_law cd_law ct_law, fun s v => .of_eq rfl, fun base _ _ => ?_⟩
  have MC : Mk K C f_Change_init := ⟨mk_Change, a_Change_init, i_Change_init, kc_Change⟩
  have GC : FnOk l.prog w K mg base CX0 1 f_Change_init _ _ (spCh C) := ok_Change F_Ch T
  have GN : FnOk l.prog w K mg base CX0 1 f_nothing _ _ (spNothing C) := ok_nothing F_No T
  have C__law_cell : Cal l.prog w K mg base CX0 1 "_law_cell" (spCell K) := ⟨_, _, _, ok__law_cell F__law_cell T, PySem.W.mg_of X G a__law_cell, k__law_cell, b__law_cell⟩
  have C__law_state : Cal l.prog w K mg base CX0 1 "_law_state" spState := ⟨_, _, _, ok__law_state F__law_state T, PySem.W.mg_of X G a__law_state, k__law_state, b__law_state⟩
  have C__law_digit : Cal l.prog w K mg base CX0 1 "_law_digit" spDigit := ⟨_, _, _, ok__law_digit F__law_digit T, PySem.W.mg_of X G a__law_digit, k__law_digit, b__law_digit⟩
  have C_rank : Cal l.prog w K mg base CX0 1 "rank" spRank := ⟨_, _, _, ok_rank F_rank T, PySem.W.mg_of X G a_rank, k_rank, b_rank⟩
  have C__law_rank : Cal l.prog w K mg base CX0 1 "_law_rank" spRank := ⟨_, _, _, ok__law_rank F__law_rank T, PySem.W.mg_of X G a__law_rank, k__law_rank, b__law_rank⟩
  have C_row_rank : Cal l.prog w K mg base CX0 2 "row_rank" spRowRank := ⟨_, _, _, ok_row_rank F_row_rank T C_rank, PySem.W.mg_of X G a_row_rank, k_row_rank, b_row_rank⟩
  have C__law_ranks : Cal l.prog w K mg base CX0 2 "_law_ranks" spRanks := ⟨_, _, _, ok__law_ranks F__law_ranks T C__law_rank, PySem.W.mg_of X G a__law_ranks, k__law_ranks, b__law_ranks⟩
  have C_without : Cal l.prog w K mg base CX0 3 "without" (spWithout K) := ⟨_, _, _, ok_without F_without T C_row_rank, PySem.W.mg_of X G a_without, k_without, b_without⟩
  have C_remaining : Cal l.prog w K mg base CX0 3 "remaining" (spRemaining K) := ⟨_, _, _, ok_remaining F_remaining T C_row_rank, PySem.W.mg_of X G a_remaining, k_remaining, b_remaining⟩
  have C_changed_rows : Cal l.prog w K mg base CX0 4 "changed_rows" (spChanged K C) := ⟨_, _, _, ok_changed_rows F_changed_rows T C_without, PySem.W.mg_of X G a_changed_rows, k_changed_rows, b_changed_rows⟩
  have C__law_same_rows : Cal l.prog w K mg base CX0 3 "_law_same_rows" spSameRows := ⟨_, _, _, ok__law_same_rows F__law_same_rows T C__law_ranks, PySem.W.mg_of X G a__law_same_rows, k__law_same_rows, b__law_same_rows⟩
  have C__law_bag : Cal l.prog w K mg base CX0 3 "_law_bag" spBag := ⟨_, _, _, ok__law_bag F__law_bag T C__law_ranks, PySem.W.mg_of X G a__law_bag, k__law_bag, b__law_bag⟩
  have C__law_same_bag : Cal l.prog w K mg base CX0 4 "_law_same_bag" spSameBag := ⟨_, _, _, ok__law_same_bag F__law_same_bag T C__law_bag, PySem.W.mg_of X G a__law_same_bag, k__law_same_bag, b__law_same_bag⟩
  have C__law_some_rows : Cal l.prog w K mg base CX0 2 "_law_some_rows" spSome := ⟨_, _, _, ok__law_some_rows F__law_some_rows T C__law_digit, PySem.W.mg_of X G a__law_some_rows, k__law_some_rows, b__law_some_rows⟩
  have C__law_without : Cal l.prog w K mg base CX0 3 "_law_without" spLWithout := ⟨_, _, _, ok__law_without F__law_without T C__law_ranks, PySem.W.mg_of X G a__law_without, k__law_without, b__law_without⟩
  have C__law_more : Cal l.prog w K mg base CX0 3 "_law_more" spLMore := ⟨_, _, _, ok__law_more F__law_more T C__law_ranks, PySem.W.mg_of X G a__law_more, k__law_more, b__law_more⟩
  have GS : FnOk l.prog w K mg base CX0 4 f_Change_small _ _ (spSmall C) := ok_small F_Sm T MC GC b_Ch C_remaining
  exact ok_law (fun_mk (st := s_law) l_law c_law k_law) T MC GC b_Ch GS b_Sm GN b_No C__law_cell C__law_state C__law_digit C__law_some_rows C__law_same_rows C__law_same_bag C__law_without C__law_more C_changed_rows
theorem walk {l : PySem.W.OpenLaw} {q : Program} {loose : List Str} {XP : (Str → Option Value) → Heap → Prop} {YP : World → Heap → Prop} {d : DefRec} {K : Params → PySem.W.Frag} (hn : l.most = some 63) (hdf : d.params.defaults = [])
    (hY : ∀ (w : World) (h : Heap), YP w h → (K w.params).In h)
    (F : ∀ (w : World) (mg : Str → Option Value) (fa : Addr) (h : Heap), (K w.params).In h → h.Ns mainGlobals mg → mg d.name = some (.ref fa) →
      ∃ fd : FuncData, (∀ (s : Shared) (u : Value), BindsTo s fd ⟨[u], []⟩ [("_law_script", u)]) ∧ ∀ base : Heap, (K w.params).In base → base.Ns mainGlobals mg → FnOk l.prog w (K w.params) mg base CX0 6 fa fd ["_law_script"] (spLaw (K w.params))) :
    PySem.W.WalkO q loose XP YP l.row.toRowW d [] (fun f vs => PySem.call f vs) :=
  L2.walk_of (n := 63) (k := 6) (x := "_law_script") (CX := fun _ => CX0) (sp := fun w => spLaw (K w.params)) hn (by decide) hdf ⟨rfl, by decide, by decide⟩ hY F (fun _ _ a ns hl _ hS => ⟨a, ns, rfl, hS, hl, fun _ => rfl⟩) fun _ _ _ _ _ z => z

end Sb

open PySem PySem.W PyProof.Rows in
set_option maxRecDepth 100000 in
set_option maxHeartbeats 0 in
theorem PySem.Challenge.cw_stylobate_k76_changes_of_bags_holds : PySem.Challenge.rw_stylobate_k76_changes_of_bags.Holds := by
  w_on; o_law; k_head; (case hw => w_witness2)
  k_fill
  refine Sb.walk (l := PySem.Challenge.rw_stylobate_k76_changes_of_bags) rfl rfl (fun w h Y => PySem.W.kIn_of Y) ?F
  case F =>
    intro w mg fa h KX G hmg
    refine' Sb.all_mk KX G hmg ?a__law_cell ?l__law_cell ?c__law_cell ?k__law_cell ?a__law_state ?l__law_state ?c__law_state ?k__law_state ?a__law_digit ?l__law_digit ?c__law_digit ?k__law_digit ?a__law_rank ?l__law_rank ?c__law_rank ?k__law_rank ?a__law_ranks ?l__law_ranks ?c__law_ranks ?k__law_ranks ?a__law_bag ?l__law_bag ?c__law_bag ?k__law_bag ?a__law_same_rows ?l__law_same_rows ?c__law_same_rows ?k__law_same_rows ?a__law_same_bag ?l__law_same_bag ?c__law_same_bag ?k__law_same_bag ?a__law_without ?l__law_without ?c__law_without ?k__law_without ?a__law_more ?l__law_more ?c__law_more ?k__law_more ?a__law_some_rows ?l__law_some_rows ?c__law_some_rows ?k__law_some_rows ?a_rank ?l_rank ?c_rank ?k_rank ?a_row_rank ?l_row_rank ?c_row_rank ?k_row_rank ?a_without ?l_without ?c_without ?k_without ?a_remaining ?l_remaining ?c_remaining ?k_remaining ?a_changed_rows ?l_changed_rows ?c_changed_rows ?k_changed_rows ?a_law ?l_law ?c_law ?k_law ?a_Change ?a_Change_init ?i_Change_init ?l_Change_init ?c_Change_init ?k_Change_init ?a_Change_small ?i_Change_small ?l_Change_small ?c_Change_small ?k_Change_small ?pg_Change ?hd_Change ?po_Change ?sa_Change ?mk_Change ?kc_Change ?n_Change_gone ?n_Change_come ?z_len ?z_int ?z_range ?z_min ?z_max ?z_isinstance ?z_list ?z_tuple ?z_bool ?z_sorted ?x_at ?x_rec ?x_get ?x_tak ?l_n ?c_n ?k_n
    (case a__law_cell => k_is)
    (case l__law_cell => k_is)
    (case c__law_cell => k_is)
    (case k__law_cell => k_is)
    (case a__law_state => k_is)
    (case l__law_state => k_is)
    (case c__law_state => k_is)
    (case k__law_state => k_is)
    (case a__law_digit => k_is)
    (case l__law_digit => k_is)
    (case c__law_digit => k_is)
    (case k__law_digit => k_is)
    (case a__law_rank => k_is)
    (case l__law_rank => k_is)
    (case c__law_rank => k_is)
    (case k__law_rank => k_is)
    (case a__law_ranks => k_is)
    (case l__law_ranks => k_is)
    (case c__law_ranks => k_is)
    (case k__law_ranks => k_is)
    (case a__law_bag => k_is)
    (case l__law_bag => k_is)
    (case c__law_bag => k_is)
    (case k__law_bag => k_is)
    (case a__law_same_rows => k_is)
    (case l__law_same_rows => k_is)
    (case c__law_same_rows => k_is)
    (case k__law_same_rows => k_is)
    (case a__law_same_bag => k_is)
    (case l__law_same_bag => k_is)
    (case c__law_same_bag => k_is)
    (case k__law_same_bag => k_is)
    (case a__law_without => k_is)
    (case l__law_without => k_is)
    (case c__law_without => k_is)
    (case k__law_without => k_is)
    (case a__law_more => k_is)
    (case l__law_more => k_is)
    (case c__law_more => k_is)
    (case k__law_more => k_is)
    (case a__law_some_rows => k_is)
    (case l__law_some_rows => k_is)
    (case c__law_some_rows => k_is)
    (case k__law_some_rows => k_is)
    (case a_rank => k_is)
    (case l_rank => k_is)
    (case c_rank => k_is)
    (case k_rank => k_is)
    (case a_row_rank => k_is)
    (case l_row_rank => k_is)
    (case c_row_rank => k_is)
    (case k_row_rank => k_is)
    (case a_without => k_is)
    (case l_without => k_is)
    (case c_without => k_is)
    (case k_without => k_is)
    (case a_remaining => k_is)
    (case l_remaining => k_is)
    (case c_remaining => k_is)
    (case k_remaining => k_is)
    (case a_changed_rows => k_is)
    (case l_changed_rows => k_is)
    (case c_changed_rows => k_is)
    (case k_changed_rows => k_is)
    (case a_law => k_is)
    (case l_law => k_is)
    (case c_law => k_is)
    (case k_law => k_is)
    (case a_Change => k_is)
    (case a_Change_init => k_is)
    (case i_Change_init => k_is)
    (case l_Change_init => k_is)
    (case c_Change_init => k_is)
    (case k_Change_init => k_is)
    (case a_Change_small => k_is)
    (case i_Change_small => k_is)
    (case l_Change_small => k_is)
    (case c_Change_small => k_is)
    (case k_Change_small => k_is)
    (case pg_Change => k_is)
    (case hd_Change => k_is)
    (case po_Change => k_is)
    (case sa_Change => k_is)
    (case mk_Change => k_is)
    (case kc_Change => k_is)
    (case n_Change_gone => k_is)
    (case n_Change_come => k_is)
    (case z_len => k_is)
    (case z_int => k_is)
    (case z_range => k_is)
    (case z_min => k_is)
    (case z_max => k_is)
    (case z_isinstance => k_is)
    (case z_list => k_is)
    (case z_tuple => k_is)
    (case z_bool => k_is)
    (case z_sorted => k_is)
    (case x_at => k_is)
    (case x_rec => k_is)
    (case x_get => k_is)
    (case x_tak => k_is)
    (case l_n => k_is)
    (case c_n => k_is)
    (case k_n => k_is)
#print axioms PySem.Challenge.cw_stylobate_k76_changes_of_bags_holds
