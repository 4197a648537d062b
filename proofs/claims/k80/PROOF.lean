import PyProof.Rows.All
import Wide.All
import OpenK.AllK
import Wide.FinOn
import HandS.ForMost
import HandS.IsInst
import HandS.CallLocal
import HandS.Wide
import HandS.Codes
import HandS.Walk
import PySem.Challenge.RW_stylobate_k80_records_and_fields
set_option Elab.async false
set_option maxRecDepth 100000
set_option maxHeartbeats 4000000
/-! Own words over the hand layer: calls bundled, texts as lists of codes, drawing from a one-item list. -/
namespace Sb
open PySem PySem.Spec PyProof.Rows L2 SX

/-! ### a def that may be called by its name -/
structure Cal (P : Program) (w : World) (K : PySem.W.Frag) (mg : Str → Option Value) (base : Heap) (CX : CXT) (k : Nat) (x : Str) (sp : Sp) : Prop where
  ex : ∃ (f : Addr) (fd : FuncData) (ps : List Str), FnOk P w K mg base CX k f fd ps sp ∧ mg x = some (.ref f) ∧ PySem.W.keepIn K (.ref f) = true ∧ Binds K fd ps []
theorem pe_k {X : Cx} {CX : CXT} {k j : Nat} {x : Str} {sp : Sp} {E : XK} {p pos : Pos} {e : Expr} {es : List Expr} {t : TA} (c : Cal X.prog X.w X.K X.mg X.base CX k x sp) (hr : Room j X.A) (hk : k ≤ j) (hg : Gl X x) (hx : Passes CX X E) (ha : PA X (e :: es) t)
    (hdb : (x == ("__debug__" : Str)) = false := by decide) (he : starEach (e :: es) X.env = (false, eval e X.env) :: starEach es X.env := by rfl) (hpl : (backTo pos (starEach es X.env)).any (·.1) = false := by rfl) :
    PE X (.Call (.Name x p) (e :: es) [] pos) (tCall sp [] E t) := by
  obtain ⟨f, fd, ps, F, hm, kp, b⟩ := c.ex
  exact pe_call F (hr.mono hk) hg hm kp b .nil hx ha hdb he hpl

/-! ### texts as lists of codes -/
theorem S_eq (a b : List Nat) : decide (V.str (S a) = V.str (S b)) = decide (a = b) := by
  by_cases h : a = b
  · subst h; simp
  · rw [decide_eq_false h, decide_eq_false]
    intro q
    injection q with q
    exact h (S_inj q)
theorem S_of (x : Str) : ∃ t, x = S t := ⟨x.cps.toList, (S_tl x).symm⟩
theorem cutS_nat (t : List Nat) (i j : Int) (a b : Nat) (hi : i = (a : Int)) (hj : j = (b : Int)) : cutS (S t) (some i) (some j) = S ((t.drop a).take (b - a)) := by
  subst hi hj
  unfold cutS
  rw [S_len, HT.sIx_nat, HT.sIx_nat]
  show S ((t.drop (min a t.length)).take (min b t.length - min a t.length)) = S ((t.drop a).take (b - a))
  congr 1
  rcases Nat.le_total a t.length with h | h
  · rw [Nat.min_eq_left h]
    rcases Nat.le_total b t.length with h2 | h2
    · rw [Nat.min_eq_left h2]
    · rw [Nat.min_eq_right h2, List.take_of_length_le (by simp), List.take_of_length_le (by simp; omega)]
  · rw [Nat.min_eq_right h, List.drop_eq_nil_of_le h, List.drop_eq_nil_of_le (Nat.le_refl _)]
    simp
/-- one sign -/
theorem cut1 (t : List Nat) (i j : Int) (a : Nat) (hi : i = (a : Int)) (hj : j = (a : Int) + 1) : cutS (S t) (some i) (some j) = S ((t.drop a).take 1) := by
  rw [cutS_nat t i j a (a + 1) hi (by omega)]
  simp
theorem cutS_from (t : List Nat) (i : Int) (a : Nat) (hi : i = (a : Int)) : cutS (S t) (some i) none = S (t.drop a) := by
  subst hi
  unfold cutS
  rw [S_len, HT.sIx_nat, HT.sIx_none]
  show S ((t.drop (min a t.length)).take (t.length - min a t.length)) = S (t.drop a)
  congr 1
  rcases Nat.le_total a t.length with h | h
  · rw [Nat.min_eq_left h, List.take_of_length_le (by simp)]
  · rw [Nat.min_eq_right h, List.drop_eq_nil_of_le h, List.drop_eq_nil_of_le (Nat.le_refl _)]
    simp
theorem drop_take1 (t : List Nat) (a c : Nat) : (t.drop a).take 1 = [c] ↔ t[a]? = some c := by
  rw [← List.head?_drop]
  cases t.drop a <;> simp
theorem joinL_nil : ∀ cs : List Nat, TL.joinL [] (cs.map fun c => [c]) = cs
  | [] => rfl
  | [c] => rfl
  | c :: d :: r => by
    show [c] ++ ([] ++ TL.joinL [] ((d :: r).map fun c => [c])) = c :: d :: r
    rw [joinL_nil (d :: r)]
    rfl
theorem joinL_flat : ∀ ls : List (List Nat), TL.joinL [] ls = ls.flatten
  | [] => rfl
  | [c] => by simp [TL.joinL]
  | c :: d :: r => by
    show c ++ ([] ++ TL.joinL [] (d :: r)) = (c :: d :: r).flatten
    rw [joinL_flat (d :: r)]
    simp
theorem join_flat (ls : List (List Nat)) : Txt.join (S []) (ls.map S) = S ls.flatten := by rw [join_S, joinL_flat]
theorem atS {t : List Nat} {a c : Nat} (h : t[a]? = some c) : atI (S t).cps.toList (a : Int) = some c := atI_nat h

theorem sum_ones : ∀ cs : List Nat, (cs.map fun _ => 1).sum = cs.length
  | [] => rfl
  | c :: cs => by simp [sum_ones cs]; omega
/-! ### heaps -/
/-- what was there stands, but for the list at p, which holds one int -/
def Kp (p : Addr) (H H' : Hp) : Prop := (∀ b o, b ≠ p → H b = some o → H' b = some o) ∧ ∃ z, H' p = some (.lst [.int z])
def Dr (H : Hp) (p : Addr) : Prop := ∃ z, H p = some (.lst [.int z])
theorem Kp.dr {p : Addr} {H H' : Hp} (k : Kp p H H') : Dr H' p := k.2
theorem Kp.refl {p : Addr} {H : Hp} (d : Dr H p) : Kp p H H := ⟨fun _ _ _ h => h, d⟩
theorem Kp.trans {p : Addr} {H H1 H2 : Hp} (a : Kp p H H1) (b : Kp p H1 H2) : Kp p H H2 := ⟨fun c o hc h => b.1 c o hc (a.1 c o hc h), b.2⟩
theorem same_new {H : Hp} {p : Addr} {o : HO} (h : H p = none) : Same H (upd H p o) := fun b u e => by
  rw [upd_ne (ne_of_none e h)]
  exact e
theorem Kp.new {p q : Addr} {H H1 : Hp} {o : HO} (k : Kp p H H1) (h : H1 q = none) : Kp p H (upd H1 q o) := by
  obtain ⟨k1, z, hz⟩ := k
  exact ⟨fun b u hb e => same_new h b u (k1 b u hb e), z, same_new h p _ hz⟩
theorem Kp.same {p : Addr} {H H1 H2 : Hp} (k : Kp p H H1) (s : Same H1 H2) : Kp p H H2 := by
  obtain ⟨k1, z, hz⟩ := k
  exact ⟨fun b u hb e => s b u (k1 b u hb e), z, s p _ hz⟩
/-- a list that H does not know may change -/
theorem same_mut {H H1 : Hp} {p : Addr} {o : HO} (s : Same H H1) (h : H p = none) : Same H (upd H1 p o) := fun b u e => by
  rw [upd_ne (ne_of_none e h)]
  exact s b u e
theorem Kp.mut {p q : Addr} {H H1 : Hp} {o : HO} (k : Kp p H H1) (h : H q = none) (d : Dr H p) : Kp p H (upd H1 q o) := by
  obtain ⟨k1, z, hz⟩ := k
  obtain ⟨y, hy⟩ := d
  exact ⟨fun b u hb e => by rw [upd_ne (ne_of_none e h)]; exact k1 b u hb e, z, by rw [upd_ne (ne_of_none hy h)]; exact hz⟩
theorem seqL {K : PySem.W.Frag} {H : Hp} {a : Addr} {xs : List V} (h : H a = some (.lst xs)) : SqL K H a xs := .inl (.inl h)
theorem seqT {K : PySem.W.Frag} {H : Hp} {a : Addr} {xs : List V} (h : H a = some (.tup xs)) : SqT K H a xs := .inl (.inl h)
theorem tup_same {K : PySem.W.Frag} {H H' : Hp} {a : Addr} {xs : List V} (e : Same H H') (h : SqT K H a xs) : SqT K H' a xs := by
  rcases h with (h | ⟨o, h⟩) | h
  · exact .inl (.inl (e _ _ h))
  · exact .inl (.inr ⟨o, e _ _ h⟩)
  · exact .inr h
end Sb
/-! Plain law of records and fields: texts are lists of codes. Own work. -/
namespace Sep
structure Fld where
  text : List Nat
  off : Nat
  mkd : Bool
deriving DecidableEq

/-- the rest behind an opening mark; k: the offset of the rest's first sign -/
def rm (sep at0 : Nat) : List Nat → List Nat → Nat → Except (Nat × Nat) (List Nat × Nat)
  | [], _, _ => .error (at0, 2)
  | c :: r, acc, k =>
    if c ≠ 34 then rm sep at0 r (acc ++ [c]) (k + 1)
    else match r with
      | [] => .ok (acc, k + 1)
      | d :: r' => if d = 34 then rm sep at0 r' (acc ++ [34]) (k + 2) else if d = sep ∨ d = 10 then .ok (acc, k + 1) else .error (k + 1, 1)
def rp (sep : Nat) : List Nat → List Nat → Nat → Except (Nat × Nat) (List Nat × Nat)
  | [], acc, k => .ok (acc, k)
  | c :: r, acc, k => if c = sep ∨ c = 10 then .ok (acc, k) else if c = 34 then .error (k, 0) else rp sep r (acc ++ [c]) (k + 1)
def fin (at0 : Nat) (m : Bool) : Except (Nat × Nat) (List Nat × Nat) → Except (Nat × Nat) (Fld × Nat)
  | .ok (t, k) => .ok (⟨t, at0, m⟩, k)
  | .error e => .error e
def rd (sep : Nat) (rest : List Nat) (at0 : Nat) : Except (Nat × Nat) (Fld × Nat) :=
  match rest with
  | [] => fin at0 false (rp sep [] [] at0)
  | c :: r => if c = 34 then fin at0 true (rm sep at0 r [] (at0 + 1)) else fin at0 false (rp sep (c :: r) [] at0)
/-- one record from at0 on: its fields and the offset behind -/
def recd (sep : Nat) (text : List Nat) : Nat → Nat → List Fld → Except (Nat × Nat) (List Fld × Nat)
  | 0, at0, acc => .ok (acc, at0)
  | f + 1, at0, acc => match rd sep (text.drop at0) at0 with
    | .error e => .error e
    | .ok (fl, k) => if text[k]? = some sep then recd sep text f (k + 1) (acc ++ [fl]) else .ok (acc ++ [fl], k)
def spl (sep : Nat) (text : List Nat) : Nat → Nat → List (List Fld) → Except (Nat × Nat) (List (List Fld))
  | 0, _, acc => .ok acc
  | f + 1, at0, acc => if at0 < text.length then
      match recd sep text (text.length + 1) at0 [] with
      | .error e => .error e
      | .ok (r, k) => spl sep text f (k + 1) (acc ++ [r])
    else .ok acc
def split (sep : Nat) (text : List Nat) : Except (Nat × Nat) (List (List Fld)) := spl sep text (text.length + 1) 0 []

theorem rm_cons (sep at0 c : Nat) (r acc : List Nat) (k : Nat) : rm sep at0 (c :: r) acc k = if c ≠ 34 then rm sep at0 r (acc ++ [c]) (k + 1)
    else match r with
      | [] => .ok (acc, k + 1)
      | d :: r' => if d = 34 then rm sep at0 r' (acc ++ [34]) (k + 2) else if d = sep ∨ d = 10 then .ok (acc, k + 1) else .error (k + 1, 1) := by
  rw [rm.eq_def]
theorem spl_step {sep : Nat} {text : List Nat} {f at0 k : Nat} {acc : List (List Fld)} {r : List Fld} (h : at0 < text.length) (e : recd sep text (text.length + 1) at0 [] = .ok (r, k)) : spl sep text (f + 1) at0 acc = spl sep text f (k + 1) (acc ++ [r]) := by
  rw [spl, if_pos h, e]
theorem spl_end {sep : Nat} {text : List Nat} {f at0 : Nat} {acc : List (List Fld)} (h : ¬ at0 < text.length) : spl sep text (f + 1) at0 acc = .ok acc := by
  rw [spl, if_neg h]
/-! ### written fields -/
def dbl : List Nat → List Nat
  | [] => []
  | c :: r => (if c = 34 then [34, 34] else [c]) ++ dbl r
def enc (t : List Nat) (m : Bool) : List Nat := if m then 34 :: (dbl t ++ [34]) else t
def plainT (sep : Nat) (t : List Nat) : Prop := ∀ c ∈ t, c ≠ sep ∧ c ≠ 10 ∧ c ≠ 34
def Ends (sep : Nat) (post : List Nat) : Prop := post = [] ∨ ∃ d r, post = d :: r ∧ (d = sep ∨ d = 10)
def Okf (sep : Nat) (p : List Nat × Bool) : Prop := p.2 = false → plainT sep p.1

theorem rm_enc (sep at0 : Nat) (hs : sep ≠ 34) : ∀ (t acc post : List Nat) (k : Nat), Ends sep post → rm sep at0 (dbl t ++ 34 :: post) acc k = .ok (acc ++ t, k + (dbl t).length + 1)
  | [], acc, post, k, h => by
    show rm sep at0 (34 :: post) acc k = _
    rcases h with rfl | ⟨d, r, rfl, h⟩
    · simp [rm_cons, dbl]
    · have h34 : d ≠ 34 := by rcases h with h | h <;> omega
      simp [rm_cons, dbl, h34, h]
  | c :: t, acc, post, k, h => by
    by_cases hc : c = 34
    · subst hc
      have ih := rm_enc sep at0 hs t (acc ++ [34]) post (k + 2) h
      simp only [dbl, if_pos, List.cons_append, List.nil_append]
      rw [rm_cons, if_neg (by decide)]
      simp only [if_pos]
      rw [ih]
      simp; omega
    · have ih := rm_enc sep at0 hs t (acc ++ [c]) post (k + 1) h
      simp only [dbl, if_neg hc, List.cons_append, List.nil_append]
      rw [rm_cons, if_pos hc, ih]
      simp; omega
theorem rp_enc (sep : Nat) : ∀ (t acc post : List Nat) (k : Nat), plainT sep t → Ends sep post → rp sep (t ++ post) acc k = .ok (acc ++ t, k + t.length)
  | [], acc, post, k, _, h => by
    rcases h with rfl | ⟨d, r, rfl, h⟩
    · simp [rp]
    · simp [rp, h]
  | c :: t, acc, post, k, hp, h => by
    have hc := hp c (by simp)
    have ih := rp_enc sep t (acc ++ [c]) post (k + 1) (fun x hx => hp x (by simp [hx])) h
    simp only [List.cons_append, rp]
    rw [if_neg (by omega), if_neg (by omega), ih]
    simp; omega
theorem rd_enc (sep at0 : Nat) (hs : sep ≠ 34) (t : List Nat) (m : Bool) (post : List Nat) (ho : Okf sep (t, m)) (h : Ends sep post) : rd sep (enc t m ++ post) at0 = .ok (⟨t, at0, m⟩, at0 + (enc t m).length) := by
  cases m with
  | true =>
    have e := rm_enc sep at0 hs t [] post (at0 + 1) h
    simp only [enc, if_true, List.cons_append, List.append_assoc, List.nil_append, rd]
    rw [e]
    simp [fin]; omega
  | false =>
    have e := rp_enc sep t [] post at0 (ho rfl) h
    simp only [enc, Bool.false_eq_true, if_false]
    cases t with
    | nil =>
      rcases h with rfl | ⟨d, r, rfl, h⟩
      · simp [rd, rp, fin]
      · have h34 : d ≠ 34 := by rcases h with h | h <;> omega
        simp only [List.nil_append] at e ⊢
        simp only [rd, if_neg h34]
        rw [e]; simp [fin]
    | cons c t =>
      have hc : c ≠ 34 := (ho rfl c (by simp)).2.2
      simp only [List.cons_append] at e ⊢
      simp only [rd, if_neg hc]
      rw [e]; simp [fin]

/-! ### records -/
/-- the text of a record -/
def encR (sep : Nat) : List (List Nat × Bool) → List Nat
  | [] => []
  | [p] => enc p.1 p.2
  | p :: q :: r => enc p.1 p.2 ++ sep :: encR sep (q :: r)
/-- its fields, from an offset on -/
def offs (sep : Nat) : Nat → List (List Nat × Bool) → List Fld
  | _, [] => []
  | o, p :: r => ⟨p.1, o, p.2⟩ :: offs sep (o + (enc p.1 p.2).length + 1) r
theorem drop_at (pre rest : List Nat) : (pre ++ rest).drop pre.length = rest := by simp
theorem get_at (pre rest : List Nat) : (pre ++ rest)[pre.length]? = rest.head? := by
  cases rest <;> simp
theorem recd_enc (sep : Nat) (hs : sep ≠ 34) (hs2 : sep ≠ 10) : ∀ (fs : List (List Nat × Bool)) (pre post : List Nat) (acc : List Fld) (f : Nat), fs ≠ [] → (∀ p ∈ fs, Okf sep p) → (post = [] ∨ ∃ r, post = 10 :: r) → fs.length ≤ f →
    recd sep (pre ++ encR sep fs ++ post) f pre.length acc = .ok (acc ++ offs sep pre.length fs, pre.length + (encR sep fs).length)
  | [], _, _, _, _, h, _, _, _ => absurd rfl h
  | [p], pre, post, acc, f, _, ho, hp, hf => by
    obtain ⟨f, rfl⟩ : ∃ g, f = g + 1 := ⟨f - 1, by simp at hf; omega⟩
    have hE : Ends sep post := by rcases hp with h | ⟨r, h⟩; exact .inl h; exact .inr ⟨10, r, h, .inr rfl⟩
    have e := rd_enc sep pre.length hs p.1 p.2 post (ho p (by simp)) hE
    simp only [recd, encR, List.append_assoc, drop_at]
    rw [e]
    have g : (pre ++ (enc p.1 p.2 ++ post))[pre.length + (enc p.1 p.2).length]? = post.head? := by
      have := get_at (pre ++ enc p.1 p.2) post
      simpa using this
    have hne : ¬ post.head? = some sep := by rcases hp with rfl | ⟨r, rfl⟩ <;> simp; omega
    simp only [g, if_neg hne, offs]
  | p :: q :: r, pre, post, acc, f, _, ho, hp, hf => by
    obtain ⟨f, rfl⟩ : ∃ g, f = g + 1 := ⟨f - 1, by simp at hf; omega⟩
    have hE : Ends sep (sep :: (encR sep (q :: r) ++ post)) := .inr ⟨sep, _, rfl, .inl rfl⟩
    have e := rd_enc sep pre.length hs p.1 p.2 _ (ho p (by simp)) hE
    have ih := recd_enc sep hs hs2 (q :: r) (pre ++ enc p.1 p.2 ++ [sep]) post (acc ++ [⟨p.1, pre.length, p.2⟩]) f (by simp) (fun x hx => ho x (by simp at hx ⊢; right; exact hx)) hp (by simp at hf ⊢; omega)
    simp only [recd, encR, List.append_assoc, List.cons_append, drop_at]
    rw [e]
    have g : (pre ++ (enc p.1 p.2 ++ sep :: (encR sep (q :: r) ++ post)))[pre.length + (enc p.1 p.2).length]? = some sep := by
      have := get_at (pre ++ enc p.1 p.2) (sep :: (encR sep (q :: r) ++ post))
      simp
    simp only [g, if_true]
    simp only [List.append_assoc, List.length_append, List.length_cons, List.length_nil, List.cons_append, List.nil_append] at ih
    have e2 : pre.length + ((enc p.1 p.2).length + (0 + 1)) = pre.length + (enc p.1 p.2).length + 1 := by omega
    rw [e2] at ih
    rw [ih]
    simp [offs]; omega
/-- a text of records, each with its line feed -/
def encT (sep : Nat) : List (List (List Nat × Bool)) → List Nat
  | [] => []
  | r :: rs => encR sep r ++ 10 :: encT sep rs
def offsT (sep : Nat) : Nat → List (List (List Nat × Bool)) → List (List Fld)
  | _, [] => []
  | o, r :: rs => offs sep o r :: offsT sep (o + (encR sep r).length + 1) rs
def Okr (sep : Nat) (r : List (List Nat × Bool)) : Prop := r ≠ [] ∧ ∀ p ∈ r, Okf sep p
theorem encR_len (sep : Nat) : ∀ fs : List (List Nat × Bool), fs.length ≤ (encR sep fs).length + 1
  | [] => by simp
  | [p] => by simp
  | p :: q :: r => by have := encR_len sep (q :: r); simp [encR] at this ⊢; omega
theorem spl_enc (sep : Nat) (hs : sep ≠ 34) (hs2 : sep ≠ 10) : ∀ (rs : List (List (List Nat × Bool))) (pre : List Nat) (acc : List (List Fld)) (f : Nat), (∀ r ∈ rs, Okr sep r) → rs.length < f →
    spl sep (pre ++ encT sep rs) f pre.length acc = .ok (acc ++ offsT sep pre.length rs)
  | [], pre, acc, f, _, hf => by
    obtain ⟨f, rfl⟩ : ∃ g, f = g + 1 := ⟨f - 1, by simp at hf; omega⟩
    rw [spl_end (by simp [encT])]
    simp [offsT]
  | r :: rs, pre, acc, f, ho, hf => by
    obtain ⟨f, rfl⟩ : ∃ g, f = g + 1 := ⟨f - 1, by simp at hf; omega⟩
    have hr := ho r (by simp)
    have e := recd_enc sep hs hs2 r pre (10 :: encT sep rs) [] ((pre ++ encT sep (r :: rs)).length + 1) hr.1 hr.2 (.inr ⟨_, rfl⟩) (by have := encR_len sep r; simp [encT]; omega)
    have ih := spl_enc sep hs hs2 rs (pre ++ encR sep r ++ [10]) (acc ++ [offs sep pre.length r]) f (fun x hx => ho x (by simp [hx])) (by simp at hf; omega)
    have e4 : pre ++ encR sep r ++ 10 :: encT sep rs = pre ++ encT sep (r :: rs) := by simp [encT]
    rw [e4] at e
    rw [spl_step (by simp [encT]; omega) e]
    have e2 : pre.length + (encR sep r).length + 1 = (pre ++ encR sep r ++ [10]).length := by simp; omega
    have e3 : pre ++ encT sep (r :: rs) = pre ++ encR sep r ++ [10] ++ encT sep rs := by simp [encT]
    rw [e2, e3, List.nil_append, ih]
    simp [offsT, Nat.add_assoc]
theorem encT_len (sep : Nat) : ∀ rs : List (List (List Nat × Bool)), rs.length ≤ (encT sep rs).length
  | [] => by simp
  | r :: rs => by have := encT_len sep rs; simp [encT]; omega
/-- the text whose last record has its line feed -/
theorem split_enc (sep : Nat) (hs : sep ≠ 34) (hs2 : sep ≠ 10) (rs : List (List (List Nat × Bool))) (ho : ∀ r ∈ rs, Okr sep r) : split sep (encT sep rs) = .ok (offsT sep 0 rs) := by
  have e := spl_enc sep hs hs2 rs [] [] ((encT sep rs).length + 1) ho (by have := encT_len sep rs; omega)
  simpa [split] using e
theorem spl_enc2 (sep : Nat) (hs : sep ≠ 34) (hs2 : sep ≠ 10) (r : List (List Nat × Bool)) (hr : Okr sep r) (hne : encR sep r ≠ []) : ∀ (rs : List (List (List Nat × Bool))) (pre : List Nat) (acc : List (List Fld)) (f : Nat), (∀ r ∈ rs, Okr sep r) → rs.length + 1 < f →
    spl sep (pre ++ (encT sep rs ++ encR sep r)) f pre.length acc = .ok (acc ++ offsT sep pre.length (rs ++ [r]))
  | [], pre, acc, f, _, hf => by
    obtain ⟨f, rfl⟩ : ∃ g, f = g + 2 := ⟨f - 2, by simp at hf; omega⟩
    have hl : 0 < (encR sep r).length := List.length_pos_iff.mpr hne
    have e := recd_enc sep hs hs2 r pre [] [] ((pre ++ encR sep r).length + 1) hr.1 hr.2 (.inl rfl) (by have := encR_len sep r; simp; omega)
    rw [List.append_nil] at e
    rw [encT, List.nil_append, spl_step (by simp; omega) e, spl_end (by simp)]
    simp [offsT]
  | r' :: rs, pre, acc, f, ho, hf => by
    obtain ⟨f, rfl⟩ : ∃ g, f = g + 1 := ⟨f - 1, by simp at hf; omega⟩
    have hr' := ho r' (by simp)
    have e := recd_enc sep hs hs2 r' pre (10 :: (encT sep rs ++ encR sep r)) [] ((pre ++ (encT sep (r' :: rs) ++ encR sep r)).length + 1) hr'.1 hr'.2 (.inr ⟨_, rfl⟩) (by have := encR_len sep r'; simp [encT]; omega)
    have ih := spl_enc2 sep hs hs2 r hr hne rs (pre ++ encR sep r' ++ [10]) (acc ++ [offs sep pre.length r']) f (fun x hx => ho x (by simp [hx])) (by simp at hf; omega)
    have e3 : pre ++ (encT sep (r' :: rs) ++ encR sep r) = pre ++ encR sep r' ++ [10] ++ (encT sep rs ++ encR sep r) := by simp [encT]
    have e4 : pre ++ encR sep r' ++ 10 :: (encT sep rs ++ encR sep r) = pre ++ (encT sep (r' :: rs) ++ encR sep r) := by simp [encT]
    rw [e4] at e
    rw [spl_step (by simp [encT]; omega) e]
    have e2 : pre.length + (encR sep r').length + 1 = (pre ++ encR sep r' ++ [10]).length := by simp; omega
    rw [e2, e3, List.nil_append, ih]
    simp [offsT, Nat.add_assoc]
/-- the text whose last record has none -/
theorem split_enc2 (sep : Nat) (hs : sep ≠ 34) (hs2 : sep ≠ 10) (rs : List (List (List Nat × Bool))) (r : List (List Nat × Bool)) (ho : ∀ r ∈ rs, Okr sep r) (hr : Okr sep r) (hne : encR sep r ≠ []) : split sep (encT sep rs ++ encR sep r) = .ok (offsT sep 0 (rs ++ [r])) := by
  have hl : 0 < (encR sep r).length := List.length_pos_iff.mpr hne
  have e := spl_enc2 sep hs hs2 r hr hne rs [] [] ((encT sep rs ++ encR sep r).length + 1) ho (by have := encT_len sep rs; simp; omega)
  simpa [split] using e
theorem offsT_len (sep : Nat) : ∀ (rs : List (List (List Nat × Bool))) (o : Nat), (offsT sep o rs).length = rs.length
  | [], _ => rfl
  | r :: rs, o => by simp [offsT, offsT_len sep rs]
theorem encT_snoc (sep : Nat) : ∀ (rs : List (List (List Nat × Bool))) (r : List (List Nat × Bool)), encT sep (rs ++ [r]) = encT sep rs ++ (encR sep r ++ [10])
  | [], r => by simp [encT]
  | r' :: rs, r => by simp [encT, encT_snoc sep rs r]
theorem offsT_snoc (sep : Nat) : ∀ (rs : List (List (List Nat × Bool))) (r : List (List Nat × Bool)) (o : Nat), offsT sep o (rs ++ [r]) = offsT sep o rs ++ [offs sep (o + (encT sep rs).length) r]
  | [], r, o => by simp [offsT, encT]
  | r' :: rs, r, o => by
    have e : o + (encR sep r').length + 1 + (encT sep rs).length = o + ((encR sep r').length + ((encT sep rs).length + 1)) := by omega
    simp [offsT, encT, offsT_snoc sep rs r, e]
theorem encR_snoc (sep : Nat) : ∀ (fs : List (List Nat × Bool)) (p : List Nat × Bool), fs ≠ [] → encR sep (fs ++ [p]) = encR sep fs ++ sep :: enc p.1 p.2
  | [], _, h => absurd rfl h
  | [q], p, _ => by simp [encR]
  | q :: q' :: r, p, _ => by
    have := encR_snoc sep (q' :: r) p (by simp)
    simp [encR] at this ⊢
    exact this
theorem offs_snoc (sep : Nat) : ∀ (fs : List (List Nat × Bool)) (p : List Nat × Bool) (o : Nat), fs ≠ [] → offs sep o (fs ++ [p]) = offs sep o fs ++ [⟨p.1, o + (encR sep fs).length + 1, p.2⟩]
  | [], _, _, h => absurd rfl h
  | [q], p, o, _ => by simp [offs, encR]
  | q :: q' :: r, p, o, _ => by
    have := offs_snoc sep (q' :: r) p (o + (enc q.1 q.2).length + 1) (by simp)
    have e : o + (enc q.1 q.2).length + 1 + (encR sep (q' :: r)).length + 1 = o + ((enc q.1 q.2).length + ((encR sep (q' :: r)).length + 1)) + 1 := by omega
    simp only [List.cons_append, offs, encR, List.length_append, List.length_cons] at this ⊢
    rw [this, e]
/-- the last sign of a record that is not one empty field -/
theorem encR_last (sep : Nat) (hs2 : sep ≠ 10) : ∀ fs : List (List Nat × Bool), fs ≠ [] → (∀ p ∈ fs, Okf sep p) → fs ≠ [([], false)] → ∃ x c, encR sep fs = x ++ [c] ∧ c ≠ 10
  | [], h, _, _ => absurd rfl h
  | [(t, m)], _, ho, hn => by
    cases m with
    | true => exact ⟨34 :: dbl t, 34, by simp [encR, enc], by decide⟩
    | false =>
      have hp := ho (t, false) (by simp) rfl
      rcases List.eq_nil_or_concat t with rfl | ⟨x, c, rfl⟩
      · exact absurd rfl hn
      · exact ⟨x, c, by simp [encR, enc], (hp c (by simp)).2.1⟩
  | p :: q :: r, _, ho, _ => by
    by_cases hq : q :: r = [([], false)]
    · refine ⟨enc p.1 p.2, sep, ?_, hs2⟩
      rw [encR, hq]
      simp [encR, enc]
    · obtain ⟨x, c, e, h⟩ := encR_last sep hs2 (q :: r) (by simp) (fun x hx => ho x (by simp at hx ⊢; right; exact hx)) hq
      exact ⟨enc p.1 p.2 ++ sep :: x, c, by rw [encR, e]; simp, h⟩
/-! ### for the walk -/
theorem rm_ge (sep at0 : Nat) : ∀ (n : Nat) (r acc : List Nat) (k : Nat) (t : List Nat) (k' : Nat), r.length ≤ n → rm sep at0 r acc k = .ok (t, k') → k ≤ k'
  | _, [], _, _, _, _, _, h => by simp [rm] at h
  | n + 1, c :: r, acc, k, t, k', hn, h => by
    rw [rm_cons] at h
    by_cases hc : c = 34
    · rw [if_neg (by simp [hc])] at h
      cases r with
      | nil => simp at h; omega
      | cons d r' =>
        simp only at h
        by_cases hd : d = 34
        · rw [if_pos hd] at h
          have := rm_ge sep at0 n r' _ _ _ _ (by simp at hn; omega) h
          omega
        · rw [if_neg hd] at h
          by_cases he : d = sep ∨ d = 10
          · rw [if_pos he] at h; simp at h; omega
          · rw [if_neg he] at h; simp at h
    · rw [if_pos hc] at h
      have := rm_ge sep at0 n r _ _ _ _ (by simp at hn; omega) h
      omega
theorem rp_ge (sep : Nat) : ∀ (r acc : List Nat) (k : Nat) (t : List Nat) (k' : Nat), rp sep r acc k = .ok (t, k') → k ≤ k'
  | [], _, _, _, _, h => by simp [rp] at h; omega
  | c :: r, acc, k, t, k', h => by
    rw [rp] at h
    by_cases h1 : c = sep ∨ c = 10
    · rw [if_pos h1] at h; simp at h; omega
    · rw [if_neg h1] at h
      by_cases h2 : c = 34
      · rw [if_pos h2] at h; simp at h
      · rw [if_neg h2] at h
        have := rp_ge sep r _ _ _ _ h
        omega
theorem rd_mark (sep : Nat) (text : List Nat) (a : Nat) (h : text[a]? = some 34) : rd sep (text.drop a) a = fin a true (rm sep a (text.drop (a + 1)) [] (a + 1)) := by
  have hl := (List.getElem?_eq_some_iff.mp h).1
  have e : text.drop a = 34 :: text.drop (a + 1) := by
    rw [List.drop_eq_getElem_cons hl, (List.getElem?_eq_some_iff.mp h).2]
  rw [e, rd, if_pos rfl]
theorem rd_plain (sep : Nat) (text : List Nat) (a : Nat) (h : ¬ text[a]? = some 34) : rd sep (text.drop a) a = fin a false (rp sep (text.drop a) [] a) := by
  by_cases hl : a < text.length
  · have e : text.drop a = text[a] :: text.drop (a + 1) := List.drop_eq_getElem_cons hl
    have hc : ¬ text[a] = 34 := fun q => h (by rw [List.getElem?_eq_getElem hl, q])
    rw [e, rd, if_neg hc]
  · rw [List.drop_eq_nil_of_le (by omega), rd]
theorem fin_ok {at0 : Nat} {m : Bool} {x : Except (Nat × Nat) (List Nat × Nat)} {fl : Fld} {k : Nat} (h : fin at0 m x = .ok (fl, k)) : ∃ t, x = .ok (t, k) ∧ fl = ⟨t, at0, m⟩ := by
  cases x with
  | error e => simp [fin] at h
  | ok p => obtain ⟨t, j⟩ := p; simp [fin] at h; exact ⟨t, by rw [h.2], h.1.symm⟩
theorem rd_ge {sep : Nat} {text : List Nat} {a : Nat} {fl : Fld} {k : Nat} (h : rd sep (text.drop a) a = .ok (fl, k)) : a ≤ k := by
  by_cases hm : text[a]? = some 34
  · rw [rd_mark sep text a hm] at h
    obtain ⟨t, e, _⟩ := fin_ok h
    have := rm_ge sep a _ _ _ _ _ _ (Nat.le_refl _) e
    omega
  · rw [rd_plain sep text a hm] at h
    obtain ⟨t, e, _⟩ := fin_ok h
    exact rp_ge sep _ _ _ _ _ e
theorem recd_ge {sep : Nat} {text : List Nat} : ∀ {f a : Nat} {acc r : List Fld} {k : Nat}, recd sep text f a acc = .ok (r, k) → a ≤ k
  | 0, _, _, _, _, h => by simp [recd] at h; omega
  | f + 1, a, acc, r, k, h => by
    rw [recd] at h
    cases e : rd sep (text.drop a) a with
    | error x => rw [e] at h; simp at h
    | ok p =>
      obtain ⟨fl, j⟩ := p
      rw [e] at h
      simp only at h
      have := rd_ge e
      by_cases hs : text[j]? = some sep
      · rw [if_pos hs] at h
        have := recd_ge h
        omega
      · rw [if_neg hs] at h
        simp at h
        omega
theorem recd_ok {sep : Nat} {text : List Nat} {f a : Nat} {acc r : List Fld} {k : Nat} (h : recd sep text (f + 1) a acc = .ok (r, k)) : ∃ fl j, rd sep (text.drop a) a = .ok (fl, j) ∧ (if text[j]? = some sep then recd sep text f (j + 1) (acc ++ [fl]) else .ok (acc ++ [fl], j)) = .ok (r, k) := by
  rw [recd] at h
  cases e : rd sep (text.drop a) a with
  | error x => rw [e] at h; simp at h
  | ok p => obtain ⟨fl, j⟩ := p; rw [e] at h; exact ⟨fl, j, rfl, h⟩
theorem spl_ok {sep : Nat} {text : List Nat} {f a : Nat} {acc ans : List (List Fld)} (hl : a < text.length) (h : spl sep text (f + 1) a acc = .ok ans) : ∃ r k, recd sep text (text.length + 1) a [] = .ok (r, k) ∧ spl sep text f (k + 1) (acc ++ [r]) = .ok ans := by
  rw [spl, if_pos hl] at h
  cases e : recd sep text (text.length + 1) a [] with
  | error x => rw [e] at h; simp at h
  | ok p => obtain ⟨r, k⟩ := p; rw [e] at h; exact ⟨r, k, rfl, h⟩
theorem rm_le (sep at0 : Nat) : ∀ (n : Nat) (r acc : List Nat) (k : Nat) (t : List Nat) (k' : Nat), r.length ≤ n → rm sep at0 r acc k = .ok (t, k') → k' ≤ k + r.length
  | _, [], _, _, _, _, _, h => by simp [rm] at h
  | n + 1, c :: r, acc, k, t, k', hn, h => by
    rw [rm_cons] at h
    by_cases hc : c = 34
    · rw [if_neg (by simp [hc])] at h
      cases r with
      | nil => simp at h; simp; omega
      | cons d r' =>
        simp only at h
        by_cases hd : d = 34
        · rw [if_pos hd] at h
          have := rm_le sep at0 n r' _ _ _ _ (by simp at hn; omega) h
          simp; omega
        · rw [if_neg hd] at h
          by_cases he : d = sep ∨ d = 10
          · rw [if_pos he] at h; simp at h; simp; omega
          · rw [if_neg he] at h; simp at h
    · rw [if_pos hc] at h
      have := rm_le sep at0 n r _ _ _ _ (by simp at hn; omega) h
      simp; omega
theorem rp_le (sep : Nat) : ∀ (r acc : List Nat) (k : Nat) (t : List Nat) (k' : Nat), rp sep r acc k = .ok (t, k') → k' ≤ k + r.length
  | [], _, _, _, _, h => by simp [rp] at h; omega
  | c :: r, acc, k, t, k', h => by
    rw [rp] at h
    by_cases h1 : c = sep ∨ c = 10
    · rw [if_pos h1] at h; simp at h; omega
    · rw [if_neg h1] at h
      by_cases h2 : c = 34
      · rw [if_pos h2] at h; simp at h
      · rw [if_neg h2] at h
        have := rp_le sep r _ _ _ _ h
        simp; omega
theorem rd_le {sep : Nat} {text : List Nat} {a : Nat} {fl : Fld} {k : Nat} (h : rd sep (text.drop a) a = .ok (fl, k)) (ha : a ≤ text.length) : k ≤ text.length := by
  by_cases hm : text[a]? = some 34
  · rw [rd_mark sep text a hm] at h
    obtain ⟨t, e, _⟩ := fin_ok h
    have := rm_le sep a _ _ _ _ _ _ (Nat.le_refl _) e
    have := (List.getElem?_eq_some_iff.mp hm).1
    simp at *; omega
  · rw [rd_plain sep text a hm] at h
    obtain ⟨t, e, _⟩ := fin_ok h
    have := rp_le sep _ _ _ _ _ e
    simp at *; omega
end Sep
set_option Elab.async false
set_option maxRecDepth 100000
set_option maxHeartbeats 4000000
namespace Sb
open PySem PySem.Spec PyProof.Rows L2 SX
def top (i : Nat) : Stmt := PySem.Challenge.pw_stylobate_k80_records_and_fields.main.body.getD i (.Pass ⟨0, 0, 0, 0⟩)
abbrev s__law_cell : Stmt := top 11
abbrev sc__law_cell_N : List Str := ["_law_script", "_law_k"]
theorem sc__law_cell : FnScope sc__law_cell_N ["_law_script", "_law_k"] (defScope s__law_cell) := ⟨rfl, rfl, rfl, by decide +kernel, rfl, by decide +kernel, by decide +kernel⟩
abbrev s__law_state : Stmt := top 12
abbrev sc__law_state_N : List Str := ["_law_cell_here", "_law_k", "_law_prime", "_law_first", "_law_second", "_law_third", "_law_fourth"]
theorem sc__law_state : FnScope sc__law_state_N ["_law_cell_here", "_law_k"] (defScope s__law_state) := ⟨rfl, rfl, rfl, by decide +kernel, rfl, by decide +kernel, by decide +kernel⟩
abbrev s__law_digit : Stmt := top 13
abbrev sc__law_digit_N : List Str := ["_law_state_here", "_law_many", "_law_digit_here"]
theorem sc__law_digit : FnScope sc__law_digit_N ["_law_state_here", "_law_many"] (defScope s__law_digit) := ⟨rfl, rfl, rfl, by decide +kernel, rfl, by decide +kernel, by decide +kernel⟩

structure Txt (K : PySem.W.Frag) (mg : Str → Option Value) (C fM fP : Addr) : Prop where
  n_len : mg "len" = none
  n_int : mg "int" = none
  n_range : mg "range" = none
  n_min : mg "min" = none
  n_isinstance : mg "isinstance" = none
  n_list : mg "list" = none
  n_bool : mg "bool" = none
  cl : Cls K C
  nT : NoAttr K C "text"
  nO : NoAttr K C "offset"
  nM : NoAttr K C "marked"
  g_Field : mg "Field" = some (.ref C)
  g_MARK : ∃ u, mg "MARK" = some u ∧ RelV (.str (S [34])) u
  g_END : ∃ u, mg "END" = some u ∧ RelV (.str (S [10])) u
  g_read_marked : mg "read_marked" = some (.ref fM)
  g_read_plain : mg "read_plain" = some (.ref fP)
  isC : C8.InsC K C

def spCell (K : PySem.W.Frag) : Sp := fun vs H Q _ => ∃ (a : Addr) (ns : List Int) (j : Nat), vs = [.ref a, .int (j : Int)] ∧ SqL K H a (ns.map V.int) ∧ ∀ z : Int, Q (.int z) H
def spState : Sp := fun vs H Q _ => ∃ (c k : Int), vs = [.int c, .int k] ∧ ∀ (p : Addr) (z : Int), H p = none → Q (.ref p) (upd H p (.lst [.int z]))
def spDigit : Sp := fun vs H Q _ => ∃ (p : Addr) (m : Int), vs = [.ref p, .int m] ∧ Dr H p ∧ 0 < m ∧ m < 1073741824 ∧ ∀ (d : Int) (H' : Hp), 0 ≤ d → d < m → Kp p H H' → Q (.int d) H'


section
variable {P : Program} {w : World} {K : PySem.W.Frag} {mg : Str → Option Value} {base : Heap} {C fM fP : Addr}
theorem ok__law_cell {f : Addr} {fd : FuncData} (F : Fun K "_law_cell" "_law_cell" s__law_cell f fd) (T : Txt K mg C fM fP) : FnOk P w K mg base CX0 1 f fd ["_law_script", "_law_k"] (spCell K) := by
  refine F.ok sc__law_cell (fun vs H Q E h => ?_) (fun cdv A outer s H vs Q E hr h => ?_)
  · obtain ⟨a, ns, j, rfl, _⟩ := h
    rfl
  · obtain ⟨a, ns, j, rfl, hS, k⟩ := h
    refine ⟨_, pss_cons (ps_if (pt_cmpR op_lt (pv 1) (pe_callB call_len_seq (by rfl) T.n_len PySem.boot_len (pa_cons (pv 0) pa_nil)) (nomark _)) (pss_one (ps_ret (pe_ix ix_list (pv 0) (pv 1) (fun _ _ => rfl)))) pss_nil)
  (pss_one (ps_ret pe_int)), ?_⟩
    refine ⟨_, rfl, _, rfl, a, _, rfl, .inl hS, _, _, rfl, rfl, _, rfl, ?_⟩
    refine ite2 (fun hlt => ?_) (fun _ => ?_)
    · have hj : j < ns.length := by
        have := of_decide_eq_true hlt
        rw [List.length_map] at this
        omega
      have e : (ns.map V.int)[j]? = some (V.int ns[j]) := by rw [List.getElem?_map, List.getElem?_eq_getElem hj]; rfl
      exact ⟨_, rfl, _, rfl, a, _, _, _, rfl, rfl, hS, atI_nat e, k _⟩
    · exact k _
theorem ok__law_state {f : Addr} {fd : FuncData} (F : Fun K "_law_state" "_law_state" s__law_state f fd) (T : Txt K mg C fM fP) : FnOk P w K mg base CX0 1 f fd ["_law_cell_here", "_law_k"] spState := by
  refine F.ok sc__law_state (fun vs H Q E h => ?_) (fun cdv A outer s H vs Q E hr h => ?_)
  · obtain ⟨c, i, rfl, _⟩ := h
    rfl
  · obtain ⟨c, i, rfl, k⟩ := h
    refine ⟨_, (pss_cons (ps_if (pt_cmpR op_ge (pv 0) pe_int (nomark _)) (pss_one (ps_ret (pe_lst (pa_cons (pv 0) pa_nil)))) pss_nil)
  (pss_cons (ps_set (i := 2) sc__law_state.nd rfl (Or.inl rfl) pe_int)
  (pss_cons (ps_set (i := 3) sc__law_state.nd rfl (Or.inl rfl) (pe_op op_mod (pe_callTy call_int1 (by rfl) T.n_int (by decide +kernel) (pa_cons (pe_op op_add (pe_op op_add (pe_op op_mul (pv 0) pe_int) (pe_op op_mul (pe_op op_add (pv 1) pe_int) pe_int)) pe_int) pa_nil)) (pv 2)))
  (pss_cons (ps_set (i := 4) sc__law_state.nd rfl (Or.inl rfl) (pe_op op_mod (pe_callTy call_int1 (by rfl) T.n_int (by decide +kernel) (pa_cons (pe_op op_add (pe_op op_add (pe_op op_mul (pv 3) (pv 3)) (pe_op op_mul pe_int (pv 3))) (pv 1)) pa_nil)) (pv 2)))
  (pss_cons (ps_set (i := 5) sc__law_state.nd rfl (Or.inl rfl) (pe_op op_mod (pe_callTy call_int1 (by rfl) T.n_int (by decide +kernel) (pa_cons (pe_op op_add (pe_op op_add (pe_op op_mul (pv 4) pe_int) (pe_op op_mul (pv 3) pe_int)) pe_int) pa_nil)) (pv 2)))
  (pss_cons (ps_set (i := 6) sc__law_state.nd rfl (Or.inl rfl) (pe_op op_mod (pe_callTy call_int1 (by rfl) T.n_int (by decide +kernel) (pa_cons (pe_op op_add (pe_op op_mul (pv 5) (pv 5)) (pv 4)) pa_nil)) (pv 2)))
  (pss_one (ps_ret (pe_lst (pa_cons (pe_op op_add (pe_op op_mul (pe_op op_add (pe_op op_mul (pe_op op_add (pe_op op_mul (pv 6) (pv 2)) (pv 5)) (pv 2)) (pv 4)) (pv 2)) (pv 3)) pa_nil)))))))))), ?_⟩
    refine ⟨_, rfl, _, _, rfl, rfl, _, rfl, ?_⟩
    refine ite2 (fun _ => ?_) (fun _ => ?_)
    · exact ⟨_, rfl, by show 1 ≤ sizeLine; decide, fun p hp => k p _ hp⟩
    have pr : (0 : Int) < 2305843009213693951 := by decide
    have md : ∀ x : Int, -(2 ^ 64) < x % 2305843009213693951 ∧ x % 2305843009213693951 < 2 ^ 64 := fun x => by
      have h1 := Int.emod_nonneg x (b := 2305843009213693951) (by decide)
      have h2 := Int.emod_lt_of_pos x pr
      omega
    have c1 : -(2 ^ 64) < (6364136223 : Int) ∧ (6364136223 : Int) < 2 ^ 64 := by decide
    refine ⟨_, rfl, _, _, rfl, rfl, .inr (by decide), _, rfl, _, _, rfl, rfl, _, _, rfl, rfl, .inr (by decide), _, _, rfl, rfl, _, _, rfl, rfl, .inl ⟨_, rfl, ?_⟩⟩
    refine ⟨_, rfl, _, _, rfl, rfl, pr, ?_⟩
    refine ⟨_, rfl, _, rfl, _, _, rfl, rfl, .inl (md _), _, rfl, _, _, rfl, rfl, .inl (by decide), _, _, rfl, rfl, _, rfl, _, _, rfl, rfl, .inl ⟨_, rfl, ?_⟩⟩
    refine ⟨_, rfl, _, _, rfl, rfl, pr, ?_⟩
    refine ⟨_, rfl, _, _, rfl, rfl, .inr (by decide), _, rfl, _, _, rfl, rfl, .inr (by decide), _, _, rfl, rfl, _, _, rfl, rfl, .inl ⟨_, rfl, ?_⟩⟩
    refine ⟨_, rfl, _, _, rfl, rfl, pr, ?_⟩
    refine ⟨_, rfl, _, rfl, _, _, rfl, rfl, .inl (md _), _, rfl, _, _, rfl, rfl, .inl ⟨_, rfl, ?_⟩⟩
    refine ⟨_, rfl, _, _, rfl, rfl, pr, ?_⟩
    refine ⟨_, rfl, _, rfl, _, _, rfl, rfl, .inr (by decide), _, rfl, _, _, rfl, rfl, _, rfl, _, _, rfl, rfl, .inr (by decide), _, rfl, _, _, rfl, rfl, _, rfl, _, _, rfl, rfl, .inr (by decide), _, rfl, _, _, rfl, rfl, by show 1 ≤ sizeLine; decide, fun p hp => k p _ hp⟩
theorem ok__law_digit {f : Addr} {fd : FuncData} (F : Fun K "_law_digit" "_law_digit" s__law_digit f fd) (T : Txt K mg C fM fP) : FnOk P w K mg base CX0 1 f fd ["_law_state_here", "_law_many"] spDigit := by
  refine F.ok sc__law_digit (fun vs H Q E h => ?_) (fun cdv A outer s H vs Q E hr h => ?_)
  · obtain ⟨p, m, rfl, _⟩ := h
    rfl
  · obtain ⟨p, m, rfl, ⟨z, hz⟩, m0, m1, k⟩ := h
    refine ⟨_, (pss_cons (ps_set (i := 2) sc__law_digit.nd rfl (Or.inl rfl) (pe_op op_mod (pe_callTy call_int1 (by rfl) T.n_int (by decide +kernel) (pa_cons (pe_ix ix_list (pv 0) pe_int (fun _ _ => rfl)) pa_nil)) (pv 1)))
  (pss_cons (ps_asg (pe_op op_fdiv (pe_ix ix_list (pv 0) pe_int (fun _ _ => rfl)) (pv 1)) (pg_sub (pv 0) pe_int set_list))
  (pss_one (ps_ret (pv 2))))), ?_⟩
    refine ⟨_, rfl, p, _, _, _, rfl, rfl, seqL hz, rfl, .inl ⟨_, rfl, _, rfl, _, _, rfl, rfl, m0, ?_⟩⟩
    refine ⟨_, rfl, p, _, _, _, rfl, rfl, seqL hz, rfl, _, rfl, _, _, rfl, rfl, ⟨m0, m1⟩, _, rfl, p, _, _, 0, rfl, rfl, hz, rfl, _, rfl, ?_⟩
    refine k _ _ (Int.emod_nonneg _ (by omega)) (Int.emod_lt_of_pos _ m0) ⟨fun b o hb e => by rw [upd_ne hb]; exact e, _, upd_same⟩
end
end Sb
set_option Elab.async false
set_option maxRecDepth 100000
set_option maxHeartbeats 4000000
namespace Sb
open PySem PySem.Spec PyProof.Rows L2 SX
abbrev s__law_is_integer : Stmt := top 14
abbrev sc__law_is_integer_N : List Str := ["_law_told"]
theorem sc__law_is_integer : FnScope sc__law_is_integer_N ["_law_told"] (defScope s__law_is_integer) := ⟨rfl, rfl, rfl, by decide +kernel, rfl, by decide +kernel, by decide +kernel⟩
abbrev s__law_field_text : Stmt := top 15
abbrev sc__law_field_text_N : List Str := ["_law_state_here", "_law_signs", "_law_k"]
theorem sc__law_field_text : FnScope sc__law_field_text_N ["_law_state_here"] (defScope s__law_field_text) := ⟨rfl, rfl, rfl, by decide +kernel, rfl, by decide +kernel, by decide +kernel⟩
abbrev s__law_written : Stmt := top 16
abbrev sc__law_written_N : List Str := ["_law_text", "_law_separator", "_law_marked", "_law_sign"]
theorem sc__law_written : FnScope sc__law_written_N ["_law_text", "_law_separator", "_law_marked"] (defScope s__law_written) := ⟨rfl, rfl, rfl, by decide +kernel, rfl, by decide +kernel, by decide +kernel⟩
abbrev s__law_must_mark : Stmt := top 17
abbrev sc__law_must_mark_N : List Str := ["_law_text", "_law_separator"]
theorem sc__law_must_mark : FnScope sc__law_must_mark_N ["_law_text", "_law_separator"] (defScope s__law_must_mark) := ⟨rfl, rfl, rfl, by decide +kernel, rfl, by decide +kernel, by decide +kernel⟩

theorem c_quote : (Str.ofString "\"") = S [34] := by decide +kernel
theorem c_quote2 : (Str.ofString "\"\"") = S [34, 34] := by decide +kernel
theorem c_nl : (Str.ofString "\n") = S [10] := by decide +kernel
theorem c_nil : (Str.ofString "") = S [] := by decide +kernel
def signs : List Nat := [97, 98, 49, 44, 59, 32, 39, 34, 10, 45, 120]
theorem c_signs : (Str.ofString "ab1,; '\"\n-x") = S signs := by decide +kernel

def spIsInt : Sp := fun vs H Q _ => ∃ i : Int, vs = [.int i] ∧ Q (.bl true) H
def spField : Sp := fun vs H Q _ => ∃ p : Addr, vs = [.ref p] ∧ Dr H p ∧ ∀ (t : List Nat) (H' : Hp), t.length ≤ 5 → (∀ c ∈ t, c < 128) → Kp p H H' → Q (.str (S t)) H'
def spWritten : Sp := fun vs H Q _ => ∃ (t : List Nat) (z : Str) (m : Bool), vs = [.str (S t), .str z, .bl m] ∧ t.length ≤ 1000 ∧ ∀ H' : Hp, Same H H' → Q (.str (S (Sep.enc t m))) H'
def mustM (sep : Nat) (t : List Nat) : Bool := decide (sep ∈ t) || decide (34 ∈ t) || decide (10 ∈ t)
def spMust : Sp := fun vs H Q _ => ∃ (t : List Nat) (sep : Nat), vs = [.str (S t), .str (S [sep])] ∧ Q (.bl (mustM sep t)) H

section
variable {P : Program} {w : World} {K : PySem.W.Frag} {mg : Str → Option Value} {base : Heap} {C fM fP : Addr}
theorem ok__law_is_integer {f : Addr} {fd : FuncData} (F : Fun K "_law_is_integer" "_law_is_integer" s__law_is_integer f fd) (T : Txt K mg C fM fP) : FnOk P w K mg base CX0 1 f fd ["_law_told"] spIsInt := by
  refine F.ok sc__law_is_integer (fun vs H Q E h => ?_) (fun cdv A outer s H vs Q E hr h => ?_)
  · obtain ⟨i, rfl, _⟩ := h
    rfl
  · obtain ⟨i, rfl, k⟩ := h
    refine ⟨_, (pss_one (ps_ret (pe_and (pe_callB call_isi (by rfl) T.n_isinstance (by decide +kernel) (pa_cons (pv 0) (pa_cons (pe_bltn (by rfl) T.n_int (by decide +kernel) (show RelV (.ty "int") (.type "int") from rfl)) pa_nil))) (pe_one (pe_not (pe_callB call_isi (by rfl) T.n_isinstance (by decide +kernel) (pa_cons (pv 0) (pa_cons (pe_bltn (by rfl) T.n_bool (by decide +kernel) (show RelV (.ty "bool") (.type "bool") from rfl)) pa_nil)))))))), ?_⟩
    refine ⟨_, rfl, _, _, _, _, true, rfl, .ty _, .base (.int _), kit_ty (by decide +kernel), true, rfl, iteT ?_⟩
    exact ⟨_, rfl, _, _, _, _, false, rfl, .ty _, .base (.int _), kit_ty (by decide +kernel), false, rfl, k⟩
theorem ok__law_field_text {f : Addr} {fd : FuncData} (F : Fun K "_law_field_text" "_law_field_text" s__law_field_text f fd) (T : Txt K mg C fM fP) (C__law_digit : Cal P w K mg base CX0 1 "_law_digit" spDigit) : FnOk P w K mg base CX0 2 f fd ["_law_state_here"] spField := by
  refine F.ok sc__law_field_text (fun vs H Q E h => ?_) (fun cdv A outer s H vs Q E hr h => ?_)
  · obtain ⟨i, rfl, _⟩ := h
    rfl
  · obtain ⟨p, rfl, dr, k⟩ := h
    refine ⟨_, (pss_cons (ps_set (i := 1) sc__law_field_text.nd rfl (Or.inr rfl) pe_str)
  (pss_one (ps_ret (pe_join pe_str (pe_lc (own := [("_law_k", 2)]) (g := gName 2) rfl sc__law_field_text.nd (pi_range1 rfl T.n_range (pa_cons (pe_k C__law_digit hr (by decide) (by rfl) pass0 (pa_cons (pv 0) (pa_cons pe_int pa_nil))) pa_nil)) (blkOk_by (own := [("_law_k", 2)]) (N := sc__law_field_text_N) (sc := defScope s__law_field_text) (by decide +kernel)) (fun _ _ _ _ _ => pg_name (i := 2) sc__law_field_text.nd rfl (Or.inl rfl)) (fun _ _ _ _ _ => pts_nil) (fun _ _ _ _ _ => (pe_ix ix_str (pv 1) (pe_k C__law_digit hr (by decide) (by rfl) pass0 (pa_cons (pv 0) (pa_cons pe_int pa_nil))) (fun _ _ => rfl)))))))), ?_⟩
    refine ⟨⟨_, rfl⟩, _, rfl, p, _, rfl, dr, by decide, by decide, fun d H1 d0 d1 k1 => ?_⟩
    refine ⟨d, rfl, by omega, by omega, fun D hD => ?_⟩
    have hDH : H D = none := by
      obtain ⟨z, hz⟩ := dr
      cases e : H D with
      | none => rfl
      | some o =>
        by_cases hp : D = p
        · subst hp
          obtain ⟨_, y, hy⟩ := k1
          rw [hD] at hy; cases hy
        · rw [k1.1 D o hp e] at hD; cases hD
    refine lc_range (lo := 0) (n := d.toNat) (fun i H' => ∃ cs : List Nat, cs.length = i ∧ (∀ c ∈ cs, c < 128) ∧ Kp p H H' ∧ H' D = some (.lst (cs.map fun c => V.str (S [c]))))
      ⟨[], rfl, by simp, k1.new hD, upd_same⟩ (fun i H' hi ⟨cs, hl, hs, k2, hL⟩ => ?_) (fun H' ⟨cs, hl, hs, k2, hL⟩ => ?_)
    · refine ⟨rfl, _, rfl, _, rfl, p, _, rfl, k2.dr, by decide, by decide, fun e H2 e0 e1 k3 => ?_⟩
      obtain ⟨j, rfl⟩ : ∃ j : Nat, e = (j : Int) := ⟨e.toNat, by omega⟩
      have hj : j < signs.length := by show j < 11; omega
      have e4 : H2 D = some (.lst (cs.map fun c => V.str (S [c]))) := k3.1 D _ (by
        obtain ⟨z, hz⟩ := k2.dr
        exact ne_of hL hz (by intro q; injection q with q; cases cs <;> simp at q)) hL
      refine ⟨_, _, signs[j], rfl, rfl, by rw [c_signs, S_len]; decide, by rw [c_signs]; exact atS (List.getElem?_eq_getElem hj), _, e4, ?_, cs ++ [signs[j]], by rw [List.length_append, hl]; rfl, ?_, ?_, ?_⟩
      · rw [List.length_map]
        exact Nat.lt_of_lt_of_le (show cs.length < 100 by omega) (by decide)
      · intro c hc
        rcases List.mem_append.mp hc with h | h
        · exact hs c h
        · have e : c = signs[j] := by simpa using h
          rw [e]
          exact (by decide : ∀ c ∈ signs, c < 128) _ (List.getElem_mem hj)
      · exact (k2.trans k3).mut hDH dr
      · rw [upd_same, List.map_append]
        rfl
    · refine ⟨_, _, cs.map (fun c => S [c]), rfl, rfl, .inl (seqL ?_), ?_, ?_⟩
      · rw [List.map_map]; exact hL
      · rw [c_nil, List.map_map]
        have : ((fun x : Str => x.length) ∘ fun c => S [c]) = fun _ => 1 := by funext c; show (S [c]).length = 1; rw [S_len]; rfl
        rw [this, S_len, sum_ones]
        simp
        omega
      · have e5 : Txt.join (Str.ofString "") (cs.map fun c => S [c]) = S cs := by
          have := join_flat (cs.map fun c => [c])
          rw [List.map_map] at this
          rw [c_nil]
          refine this.trans ?_
          congr 2
          rw [← joinL_flat, joinL_nil]
        rw [e5]
        exact k _ _ (by omega) hs k2
theorem dbl_len : ∀ t : List Nat, (Sep.dbl t).length ≤ 2 * t.length
  | [] => by simp [Sep.dbl]
  | c :: t => by
    have := dbl_len t
    by_cases h : c = 34 <;> simp [Sep.dbl, h] <;> omega
theorem dbl_snoc (t : List Nat) (c : Nat) : Sep.dbl (t ++ [c]) = Sep.dbl t ++ (if c = 34 then [34, 34] else [c]) := by
  induction t with
  | nil => simp [Sep.dbl]
  | cons d t ih => simp [Sep.dbl, ih]
theorem ok__law_written {f : Addr} {fd : FuncData} (F : Fun K "_law_written" "_law_written" s__law_written f fd) (T : Txt K mg C fM fP) : FnOk P w K mg base CX0 1 f fd ["_law_text", "_law_separator", "_law_marked"] spWritten := by
  refine F.ok sc__law_written (fun vs H Q E h => ?_) (fun cdv A outer s H vs Q E hr h => ?_)
  · obtain ⟨_, _, _, rfl, _⟩ := h
    rfl
  · obtain ⟨t, z, m, rfl, hl, k⟩ := h
    refine ⟨_, (pss_cons (ps_if (pt_not (pt_val (pv 2))) (pss_one (ps_ret (pv 0))) pss_nil)
  (pss_one (ps_ret (pe_op op_add_str (pe_op op_add_str pe_str (pe_join pe_str (pe_lc (own := [("_law_sign", 3)]) (g := gName 3) rfl sc__law_written.nd (pi_str (pv 0)) (blkOk_by (own := [("_law_sign", 3)]) (N := sc__law_written_N) (sc := defScope s__law_written) (by decide +kernel)) (fun _ _ _ _ _ => pg_name (i := 3) sc__law_written.nd rfl (Or.inl rfl)) (fun _ _ _ _ _ => pts_nil) (fun _ _ _ _ _ => (pe_ifExp (pt_cmpR op_eq (pv 3) pe_str (nomark _)) pe_str (pv 3)))))) pe_str)))), ?_⟩
    refine ⟨_, rfl, m, rfl, ?_⟩
    cases m with
    | false => exact iteT ⟨_, rfl, k H (Same.refl H)⟩
    | true =>
      refine iteF ?_
      refine ⟨⟨_, rfl⟩, _, rfl, _, rfl, fun D hD => ?_⟩
      refine lc_it (walk_str (z := S t)) (fun i H' => ∃ ls : List (List Nat), ls.length = i ∧ ls.flatten = Sep.dbl (t.take i) ∧ Same H H' ∧ H' D = some (.lst (ls.map fun c => V.str (S c))) ∧ (ls.map fun x => x.length).sum ≤ 2 * i)
        ⟨[], rfl, rfl, same_new hD, upd_same, by simp⟩ (fun _ _ _ _ => trivial) (fun i x H' H2 hi ⟨ls, hl2, hf, s2, hL, hs⟩ ⟨e2, c, hc, ex⟩ => ?_) (fun H' ⟨ls, hl2, hf, s2, hL, hs⟩ => ?_)
      · subst e2 ex
        have hc2 : t[i]? = some c := by simpa using hc
        refine ⟨rfl, _, rfl, rfl, _, rfl, ?_⟩
        have hz : ls.length < sizeLine := by
          have : i < t.length := (List.getElem?_eq_some_iff.mp hc2).1
          exact Nat.lt_of_lt_of_le (show ls.length < 2000 by omega) (by decide)
        have ht : t.take (i + 1) = t.take i ++ [c] := by rw [List.take_add_one, hc2]; rfl
        rw [c_quote, S_eq]
        refine ite2 (fun h => ?_) (fun h => ?_)
        · have h34 : c = 34 := by simpa using of_decide_eq_true h
          refine ⟨_, hL, by rw [List.length_map]; exact hz, ls ++ [[34, 34]], by simp [hl2], by rw [ht, dbl_snoc, if_pos h34]; simp [hf], same_mut s2 hD, ?_, by simp; omega⟩
          rw [upd_same, List.map_append, c_quote2]
          rfl
        · have h34 : ¬ c = 34 := fun q => h (by rw [q]; rfl)
          refine ⟨_, rfl, _, hL, by rw [List.length_map]; exact hz, ls ++ [[c]], by simp [hl2], by rw [ht, dbl_snoc, if_neg h34]; simp [hf], same_mut s2 hD, ?_, by simp; omega⟩
          rw [upd_same, List.map_append]
          rfl
      · have hsz : (S t).cps.size = t.length := by simp
        rw [hsz] at hl2 hf hs
        rw [List.take_length] at hf
        have hb : (Sep.dbl t).length ≤ 2000 := by have := dbl_len t; omega
        refine ⟨_, _, ls.map S, rfl, rfl, .inl (seqL ?_), ?_, ?_⟩
        · rw [List.map_map]; exact hL
        · rw [lens, c_nil, S_len]
          simp
          omega
        · have e5 : Txt.join (Str.ofString "") (ls.map S) = S (Sep.dbl t) := by rw [c_nil, join_flat, hf]
          rw [e5, c_quote]
          refine ⟨_, _, rfl, rfl, ?_, _, _, rfl, rfl, ?_, ?_⟩
          · rw [S_len, S_len]
            exact Nat.le_trans (show [34].length + (Sep.dbl t).length ≤ 10000 by simp; omega) (by decide)
          · rw [S_cat, S_len, S_len]
            exact Nat.le_trans (show ([34] ++ Sep.dbl t).length + [34].length ≤ 10000 by simp; omega) (by decide)
          · rw [S_cat, S_cat]
            have e6 : [34] ++ Sep.dbl t ++ [34] = Sep.enc t true := by simp [Sep.enc]
            rw [e6]
            exact k _ s2
theorem ok__law_must_mark {f : Addr} {fd : FuncData} (F : Fun K "_law_must_mark" "_law_must_mark" s__law_must_mark f fd) : FnOk P w K mg base CX0 1 f fd ["_law_text", "_law_separator"] spMust := by
  refine F.ok sc__law_must_mark (fun vs H Q E h => ?_) (fun cdv A outer s H vs Q E hr h => ?_)
  · obtain ⟨_, _, rfl, _⟩ := h
    rfl
  · obtain ⟨t, sep, rfl, k⟩ := h
    refine ⟨_, (pss_one (ps_ret (pe_or (pe_cmpR op_in_sign (pv 1) (pv 0) (by rfl)) (pe_or (pe_cmpR op_in_sign pe_str (pv 0) (by rfl)) (pe_one (pe_cmpR op_in_sign pe_str (pv 0) (by rfl))))))), ?_⟩
    have e1 : (S t).cps.toList = t := rfl
    refine ⟨_, rfl, _, rfl, sep, _, rfl, rfl, _, rfl, ?_⟩
    rw [e1]
    unfold mustM at k
    refine ite2 (fun h => ?_) (fun h => ?_)
    · rw [h] at k
      exact k
    · rw [Bool.not_eq_true _ |>.mp h, Bool.false_or] at k
      refine ⟨_, rfl, 34, _, congrArg V.str c_quote, rfl, _, rfl, ?_⟩
      rw [e1]
      refine ite2 (fun h => ?_) (fun h => ?_)
      · rw [h] at k
        exact k
      · rw [Bool.not_eq_true _ |>.mp h, Bool.false_or] at k
        exact ⟨_, rfl, 10, _, congrArg V.str c_nl, rfl, k⟩
end
end Sb
set_option Elab.async false
set_option maxRecDepth 100000
set_option maxHeartbeats 4000000
namespace Sb
open PySem PySem.Spec PyProof.Rows L2 SX
abbrev s_Field___init__ : Stmt := inClass (top 6) 0
abbrev sc_Field___init___N : List Str := ["self", "text", "offset", "marked"]
theorem sc_Field___init__ : FnScope sc_Field___init___N ["self", "text", "offset", "marked"] (defScope s_Field___init__) := ⟨rfl, rfl, rfl, by decide +kernel, rfl, by decide +kernel, by decide +kernel⟩
abbrev s_read_marked : Stmt := top 7
abbrev sc_read_marked_N : List Str := ["text", "at", "separator", "signs", "k", "behind"]
theorem sc_read_marked : FnScope sc_read_marked_N ["text", "at", "separator"] (defScope s_read_marked) := ⟨rfl, rfl, rfl, by decide +kernel, rfl, by decide +kernel, by decide +kernel⟩
abbrev s_read_plain : Stmt := top 8
abbrev sc_read_plain_N : List Str := ["text", "at", "separator", "k"]
theorem sc_read_plain : FnScope sc_read_plain_N ["text", "at", "separator"] (defScope s_read_plain) := ⟨rfl, rfl, rfl, by decide +kernel, rfl, by decide +kernel, by decide +kernel⟩

/-! ### fields in the heap -/
def fF (fl : Sep.Fld) : List (Str × V) := [("text", .str (S fl.text)), ("offset", .int (fl.off : Int)), ("marked", .bl fl.mkd)]
def FieldAt (C : Addr) (H : Hp) (p : Addr) (fl : Sep.Fld) : Prop := ∃ dx, H p = some (.ins C dx (fF fl))
theorem lk_here {k : Str} {v : V} {r : List (Str × V)} : List.lookup k ((k, v) :: r) = some v := by
  have e : (k == k) = true := beq_self_eq_true k
  simp only [List.lookup, e]
theorem lk_past {k g : Str} {v : V} {r : List (Str × V)} (h : (k == g) = false) : List.lookup k ((g, v) :: r) = List.lookup k r := by
  simp only [List.lookup, h]
theorem put_past {f g : Str} {v x : V} {r : List (Str × V)} (h : ¬ g = f) : putF f v ((g, x) :: r) = (g, x) :: putF f v r := if_neg h
theorem fF_text (fl : Sep.Fld) : (fF fl).lookup ("text" : Str) = some (.str (S fl.text)) := lk_here
theorem fF_offset (fl : Sep.Fld) : (fF fl).lookup ("offset" : Str) = some (.int (fl.off : Int)) := (lk_past (by decide +kernel)).trans lk_here
theorem fF_marked (fl : Sep.Fld) : (fF fl).lookup ("marked" : Str) = some (.bl fl.mkd) := (lk_past (by decide +kernel)).trans ((lk_past (by decide +kernel)).trans lk_here)
theorem fF_new (t : List Nat) (o : Nat) (m : Bool) : putF "marked" (.bl m) (putF "offset" (.int (o : Int)) (putF "text" (.str (S t)) [])) = fF ⟨t, o, m⟩ := by
  show putF "marked" (.bl m) (putF "offset" (.int (o : Int)) [("text", .str (S t))]) = _
  rw [put_past (by decide +kernel)]
  show putF "marked" (.bl m) [("text", .str (S t)), ("offset", .int (o : Int))] = _
  rw [put_past (by decide +kernel), put_past (by decide +kernel)]
  rfl
def spFld (C : Addr) : Sp := fun vs H Q _ => ∃ (p dx : Addr) (t : List Nat) (o : Nat) (m : Bool), vs = [.ref p, .str (S t), .int (o : Int), .bl m] ∧ H p = some (.ins C dx []) ∧
  ∀ H' : Hp, FieldAt C H' p ⟨t, o, m⟩ → (∀ b u, H b = some u → b ≠ p → H' b = some u) → Q .non H'
def spRead (C : Addr) (m : Bool) : Sp := fun vs H Q _ => ∃ (text : List Nat) (a sep : Nat) (fl : Sep.Fld) (k : Nat), vs = [.str (S text), .int (a : Int), .str (S [sep])] ∧ text.length ≤ 100000 ∧ a ≤ text.length ∧ (text[a]? = some 34 ↔ m = true) ∧ Sep.rd sep (text.drop a) a = .ok (fl, k) ∧
  ∀ (H' : Hp) (q p : Addr), H' q = some (.tup [.ref p, .int (k : Int)]) → FieldAt C H' p fl → Same H H' → H p = none → Q (.ref q) H'
theorem putF_len (f : Str) (v : V) : ∀ l : List (Str × V), (putF f v l).length ≤ l.length + 1
  | [] => Nat.le_refl 1
  | (g, x) :: r => by
    show (if g = f then (g, v) :: r else (g, x) :: putF f v r).length ≤ _
    have := putF_len f v r
    split <;> simp <;> omega
theorem lt_sz {n : Nat} (h : n ≤ 200000) : n ≤ sizeLine := Nat.le_trans h (by decide)
theorem lt_sz' {n : Nat} (h : n ≤ 200000) : n < sizeLine := Nat.lt_of_le_of_lt h (by decide)
theorem inV2 (c a b : Nat) : inV (.str (S [c])) [.str (S [a]), .str (S [b])] = decide (c = a ∨ c = b) := by
  show (S [a] == S [c] || (S [b] == S [c] || false)) = decide (c = a ∨ c = b)
  rw [S_beq_eq, S_beq_eq, Bool.or_false]
  by_cases h1 : c = a
  · subst h1; simp
  · by_cases h2 : c = b
    · subst h2; simp
    · have h3 : ¬ [a] = [c] := fun q => h1 (by simpa using q.symm)
      have h4 : ¬ [b] = [c] := fun q => h2 (by simpa using q.symm)
      rw [decide_eq_false h3, decide_eq_false h4, decide_eq_false (by omega)]
      rfl
theorem drop_cons {t : List Nat} {a : Nat} (h : a < t.length) : t.drop a = t[a] :: t.drop (a + 1) := List.drop_eq_getElem_cons h

section
variable {P : Program} {w : World} {K : PySem.W.Frag} {mg : Str → Option Value} {base : Heap} {C fM fP : Addr}
theorem ok_Field {f : Addr} {fd : FuncData} (F : Fun K "__init__" "Field.__init__" s_Field___init__ f fd) (T : Txt K mg C fM fP) : FnOk P w K mg base CX0 1 f fd ["self", "text", "offset", "marked"] (spFld C) := by
  refine F.ok sc_Field___init__ (fun vs H Q E h => ?_) (fun cdv A outer s H vs Q E hr h => ?_)
  · obtain ⟨_, _, _, _, _, rfl, _⟩ := h
    rfl
  · obtain ⟨p, dx, t, o, m, rfl, hp, k⟩ := h
    refine ⟨_, (pss_cons (ps_fld (pv 0) (pv 1) rfl)
  (pss_cons (ps_fld (pv 0) (pv 2) rfl)
  (pss_one (ps_fld (pv 0) (pv 3) rfl)))), ?_⟩
    refine ⟨_, rfl, _, rfl, p, C, dx, _, rfl, hp, T.cl, T.nT, by decide, ?_⟩
    refine ⟨_, rfl, _, rfl, p, C, dx, _, rfl, upd_same, T.cl, T.nO, by show 1 < 1000; decide, ?_⟩
    refine ⟨_, rfl, _, rfl, p, C, dx, _, rfl, upd_same, T.cl, T.nM, Nat.lt_of_le_of_lt (putF_len _ _ _) (show 1 + 1 < 1000 by decide), ?_⟩
    refine k _ ⟨dx, ?_⟩ (fun b u e ne => ?_)
    · rw [upd_same, fF_new]
    · rw [upd_ne ne, upd_ne ne, upd_ne ne]
      exact e
/-- what a new field leaves as it was -/
theorem made_same {H H1 : Hp} {x dx : Addr} (nx : H x = none) (nd : H dx = none) (h : ∀ b u, upd (upd H dx (.own x)) x (.ins C dx []) b = some u → b ≠ x → H1 b = some u) : Same H H1 := fun b o e =>
  h b o (by rw [upd_ne (ne_of_none e nx), upd_ne (ne_of_none e nd)]; exact e) (ne_of_none e nx)
theorem ok_read_plain {f : Addr} {fd : FuncData} (F : Fun K "read_plain" "read_plain" s_read_plain f fd) (T : Txt K mg C fM fP) {fI : Addr} {fdI : FuncData} (M : Mk K C fI) (G : FnOk P w K mg base CX0 1 fI fdI ["self", "text", "offset", "marked"] (spFld C)) (b : Binds K fdI ["self", "text", "offset", "marked"] []) : FnOk P w K mg base CX0 3 f fd ["text", "at", "separator"] (spRead C false) := by
  refine F.ok sc_read_plain (fun vs H Q E h => ?_) (fun cdv A outer s H vs Q E hr h => ?_)
  · obtain ⟨_, _, _, _, _, rfl, _⟩ := h
    rfl
  · obtain ⟨text, a, sep, fl, k, rfl, hl, ha, hm, hrd, kk⟩ := h
    have hm2 : ¬ text[a]? = some 34 := fun q => by simpa using hm.mp q
    rw [Sep.rd_plain sep text a hm2] at hrd
    obtain ⟨t, hrp, rfl⟩ := Sep.fin_ok hrd
    refine ⟨_, (pss_cons (ps_set (i := 3) sc_read_plain.nd rfl (Or.inl rfl) (pv 1))
  (pss_cons (ps_while PassesOwn.never (PW.pt (pw_and (pt_cmpR op_lt (pv 3) (pe_callB call_len_str (by rfl) T.n_len PySem.boot_len (pa_cons (pv 0) pa_nil)) (nomark _)) (pw_and1 (pt_cmpR op_notIn_seq (pe_ix ix_str (pv 0) (pv 3) (fun _ _ => rfl)) (pe_tup (pa_cons (pv 2) (pa_cons (C8.pe_gc (by rfl) T.g_END) pa_nil))) (by rfl))))) (pss_cons (ps_if (pt_cmpR op_eq (pe_ix ix_str (pv 0) (pv 3) (fun _ _ => rfl)) (C8.pe_gc (by rfl) T.g_MARK) (nomark _)) (pss_one ps_never) pss_nil)
  (pss_one (ps_set (i := 3) sc_read_plain.nd rfl (Or.inl rfl) (pe_op op_add (pv 3) pe_int)))))
  (pss_one (ps_ret (pe_tup (pa_cons (pe_make M G hr (by rfl) T.g_Field b .nil pass0 (pa_cons (pe_slice sl_str (pv 0) (po_some (pv 1)) (po_some (pv 3))) (pa_cons (pv 1) (pa_cons pe_bl pa_nil)))) (pa_cons (pv 3) pa_nil))))))), ?_⟩
    refine ⟨_, rfl, ?_⟩
    -- the end, from any turn
    have hend : ∀ (j : Nat) (H1 : Hp), a ≤ j → j ≤ text.length → Same H H1 → t = (text.drop a).take (j - a) → k = j →
        (tRet (tTup (tCons (tMake C (spFld C) [] E0 (tCons (tSl rSlS (tVar 0) (tPart (tVar 1)) (tPart (tVar 3))) (tCons (tVar 1) (tCons (tC (.bl false)) tNil)))) (tCons (tVar 3) tNil)))) { nx := fun _ H' => Q .non H', rt := Q } [some (.str (S text)), some (.int (a : Int)), some (.str (S [sep])), some (.int (j : Int))] H1 := by
      intro j H1 hj1 hj2 s1 et ek
      subst ek
      refine ⟨_, rfl, _, rfl, _, rfl, _, rfl, _, rfl, _, rfl, by rw [S_len]; exact lt_sz (by omega), ?_⟩
      rw [cutS_nat text _ _ a k rfl rfl]
      refine ⟨_, rfl, fun x dx nx ndx ne => ?_⟩
      refine ⟨x, dx, _, _, _, rfl, upd_same, fun H2 hF hS => ⟨rfl, _, rfl, lt_sz (show 2 ≤ 200000 by decide), fun q hq => ?_⟩⟩
      have s2 := made_same nx ndx hS
      have nxq : x ≠ q := fun z => by obtain ⟨_, hF⟩ := hF; rw [z, hq] at hF; cases hF
      refine kk _ q x upd_same ?_ (fun b o e => ?_) ?_
      · obtain ⟨d, hF⟩ := hF
        refine ⟨d, ?_⟩
        rw [upd_ne nxq, et]
        exact hF
      · exact same_new hq b o (s2 b o (s1 b o e))
      · cases e : H x with
        | none => rfl
        | some o => rw [s1 x o e] at nx; cases nx
    refine ⟨fun m σ H1 => ∃ j : Nat, σ = [some (.str (S text)), some (.int (a : Int)), some (.str (S [sep])), some (.int (j : Int))] ∧ m = text.length - j ∧ a ≤ j ∧ j ≤ text.length ∧ Same H H1 ∧ Sep.rp sep (text.drop j) ((text.drop a).take (j - a)) j = .ok (t, k), ⟨_, a, rfl, rfl, Nat.le_refl _, ha, Same.refl H, by simpa using hrp⟩, ?_⟩
    rintro m σ H1 ⟨j, rfl, rfl, haj, hj, s1, hrp⟩
    refine ⟨_, rfl, _, rfl, _, rfl, by rw [S_len]; exact lt_sz (by omega), _, _, rfl, rfl, _, rfl, ?_⟩
    rw [S_len]
    refine ite2 (fun hlt => ?_) (fun hge => ?_)
    · have hjl : j < text.length := by have := of_decide_eq_true hlt; omega
      have hg : text[j]? = some text[j] := List.getElem?_eq_getElem hjl
      rw [drop_cons hjl, Sep.rp] at hrp
      refine ⟨_, rfl, _, rfl, _, _, _, rfl, rfl, by rw [S_len]; exact lt_sz (by omega), atS hg, ?_⟩
      refine ⟨_, rfl, lt_sz (show 2 ≤ 200000 by decide), fun q hq => ?_⟩
      refine ⟨q, _, rfl, .inr (seqT upd_same), rfl, rfl, _, rfl, ?_⟩
      show if (if true = true then !inV (.str (S [text[j]])) [.str (S [sep]), .str (S [10])] else inV (.str (S [text[j]])) [.str (S [sep]), .str (S [10])]) = true then _ else _
      rw [if_pos rfl, inV2]
      by_cases hc : text[j] = sep ∨ text[j] = 10
      · rw [if_pos hc] at hrp
        rw [decide_eq_true hc]
        refine iteF ?_
        simp only [Except.ok.injEq, Prod.mk.injEq] at hrp
        exact hend j _ haj hj (fun b o e => same_new hq b o (s1 b o e)) hrp.1.symm hrp.2.symm
      · rw [if_neg hc] at hrp
        rw [decide_eq_false hc]
        refine iteT ?_
        by_cases h34 : text[j] = 34
        · rw [if_pos h34] at hrp; cases hrp
        · rw [if_neg h34] at hrp
          refine ⟨fun σ' H' => ∃ m', m' < text.length - j ∧ ∃ j : Nat, σ' = [some (.str (S text)), some (.int (a : Int)), some (.str (S [sep])), some (.int (j : Int))] ∧ m' = text.length - j ∧ a ≤ j ∧ j ≤ text.length ∧ Same H H' ∧ Sep.rp sep (text.drop j) ((text.drop a).take (j - a)) j = .ok (t, k), fun _ _ h => h, ?_⟩
          refine ⟨_, rfl, _, rfl, _, _, _, rfl, rfl, by rw [S_len]; exact lt_sz (by omega), atS hg, ?_⟩
          refine ⟨rfl, _, rfl, ?_⟩
          rw [S_eq, decide_eq_false (by simpa using h34)]
          refine iteF ?_
          refine ⟨_, rfl, _, _, rfl, rfl, ?_⟩
          refine ⟨text.length - (j + 1), by omega, j + 1, rfl, rfl, by omega, by omega, fun b o e => same_new hq b o (s1 b o e), ?_⟩
          have e1 : (text.drop a).take (j + 1 - a) = (text.drop a).take (j - a) ++ [text[j]] := by
            rw [show j + 1 - a = (j - a) + 1 by omega, List.take_add_one]
            rw [List.getElem?_drop, show a + (j - a) = j by omega, hg]
            rfl
          rw [e1]
          exact hrp
    · have hjl : ¬ j < text.length := fun q => hge (decide_eq_true (by omega))
      rw [List.drop_eq_nil_of_le (by omega), Sep.rp] at hrp
      simp only [Except.ok.injEq, Prod.mk.injEq] at hrp
      refine iteF ?_
      exact hend j _ haj hj s1 hrp.1.symm hrp.2.symm
end
end Sb
set_option Elab.async false
set_option maxRecDepth 100000
set_option maxHeartbeats 4000000
namespace Sb
open PySem PySem.Spec PyProof.Rows L2 SX
section
variable {P : Program} {w : World} {K : PySem.W.Frag} {mg : Str → Option Value} {base : Heap} {C fM fP : Addr}
theorem ok_read_marked {f : Addr} {fd : FuncData} (F : Fun K "read_marked" "read_marked" s_read_marked f fd) (T : Txt K mg C fM fP) {fI : Addr} {fdI : FuncData} (M : Mk K C fI) (G : FnOk P w K mg base CX0 1 fI fdI ["self", "text", "offset", "marked"] (spFld C)) (b : Binds K fdI ["self", "text", "offset", "marked"] []) : FnOk P w K mg base CX0 3 f fd ["text", "at", "separator"] (spRead C true) := by
  refine F.ok sc_read_marked (fun vs H Q E h => ?_) (fun cdv A outer s H vs Q E hr h => ?_)
  · obtain ⟨_, _, _, _, _, rfl, _⟩ := h
    rfl
  · obtain ⟨text, a, sep, fl, k, rfl, hl, ha, hm, hrd, kk⟩ := h
    have hm2 : text[a]? = some 34 := hm.mpr rfl
    have hal := (List.getElem?_eq_some_iff.mp hm2).1
    rw [Sep.rd_mark sep text a hm2] at hrd
    obtain ⟨t, hrp, rfl⟩ := Sep.fin_ok hrd
    refine ⟨_, (pss_cons (ps_set (i := 3) sc_read_marked.nd rfl (Or.inl rfl) (pe_lst pa_nil))
  (pss_cons (ps_set (i := 4) sc_read_marked.nd rfl (Or.inl rfl) (pe_op op_add (pv 1) pe_int))
  (pss_cons (ps_while PassesOwn.never (pt_cmpR op_lt (pv 4) (pe_callB call_len_str (by rfl) T.n_len PySem.boot_len (pa_cons (pv 0) pa_nil)) (nomark _)) (pss_one (ps_if (pt_cmpR op_ne (pe_ix ix_str (pv 0) (pv 4) (fun _ _ => rfl)) (C8.pe_gc (by rfl) T.g_MARK) (nomark _)) (pss_cons (ps_expr (pe_bm PySem.F.plainAttrs_list PySem.F.slot_list_append PySem.F.type_list_append mt_append (pv 3) (pa_cons (pe_ix ix_str (pv 0) (pv 4) (fun _ _ => rfl)) pa_nil)))
  (pss_one (ps_set (i := 4) sc_read_marked.nd rfl (Or.inl rfl) (pe_op op_add (pv 4) pe_int)))) (pss_one (ps_if (pt_cmpR op_eq (pe_slice sl_str (pv 0) (po_some (pe_op op_add (pv 4) pe_int)) (po_some (pe_op op_add (pv 4) pe_int))) (C8.pe_gc (by rfl) T.g_MARK) (nomark _)) (pss_cons (ps_expr (pe_bm PySem.F.plainAttrs_list PySem.F.slot_list_append PySem.F.type_list_append mt_append (pv 3) (pa_cons (C8.pe_gc (by rfl) T.g_MARK) pa_nil)))
  (pss_one (ps_set (i := 4) sc_read_marked.nd rfl (Or.inl rfl) (pe_op op_add (pv 4) pe_int)))) (pss_cons (ps_set (i := 5) sc_read_marked.nd rfl (Or.inl rfl) (pe_op op_add (pv 4) pe_int))
  (pss_cons (ps_if (PW.pt (pw_and (pt_cmpR op_lt (pv 5) (pe_callB call_len_str (by rfl) T.n_len PySem.boot_len (pa_cons (pv 0) pa_nil)) (nomark _)) (pw_and1 (pt_cmpR op_notIn_seq (pe_ix ix_str (pv 0) (pv 5) (fun _ _ => rfl)) (pe_tup (pa_cons (pv 2) (pa_cons (C8.pe_gc (by rfl) T.g_END) pa_nil))) (by rfl))))) (pss_one ps_never) pss_nil)
  (pss_one (ps_ret (pe_tup (pa_cons (pe_make M G hr (by rfl) T.g_Field b .nil pass0 (pa_cons (pe_join pe_str (pv 3)) (pa_cons (pv 1) (pa_cons pe_bl pa_nil)))) (pa_cons (pv 5) pa_nil))))))))))))
  (pss_one ps_never)))), ?_⟩
    refine ⟨Nat.zero_le _, fun L hL => ?_⟩
    refine ⟨_, rfl, _, _, rfl, rfl, ?_⟩
    have hend : ∀ (j : Nat) (acc : List Nat) (H1 : Hp), j ≤ text.length → acc.length ≤ j → Same H H1 → H1 L = some (.lst (acc.map fun c => V.str (S [c]))) → t = acc → k = j + 1 →
        (tRet (tTup (tCons (tMake C (spFld C) [] E0 (tCons (tM1 (fun x xs H Q => ∃ a p, ∃ ys : List Str, x = .str a ∧ xs = [.ref p] ∧ (SqL K H p (ys.map V.str) ∨ SqT K H p (ys.map V.str)) ∧ (ys.map (·.length)).sum + ys.length * a.length ≤ 16777216 ∧ Q (.str (Txt.join a ys)) H) (tC (.str (Str.ofString ""))) (tVar 3)) (tCons (tVar 1) (tCons (tC (.bl true)) tNil)))) (tCons (tVar 5) tNil)))) { nx := fun _ H' => Q .non H', rt := Q } [some (.str (S text)), some (.int (a : Int)), some (.str (S [sep])), some (.ref L), some (.int (j : Int)), some (.int ((j : Int) + 1))] H1 := by
      intro j acc H1 hj1 hj2 s1 hL1 et ek
      subst et ek
      refine ⟨⟨_, rfl⟩, _, rfl, _, _, t.map (fun c => S [c]), rfl, rfl, .inl (seqL (by rw [List.map_map]; exact hL1)), ?_, _, rfl, ?_⟩
      · rw [c_nil, List.map_map]
        have : ((fun x : Str => x.length) ∘ fun c => S [c]) = fun _ => 1 := by funext c; show (S [c]).length = 1; rw [S_len]; rfl
        rw [this, S_len, sum_ones]
        simp
        omega
      · have e5 : Txt.join (Str.ofString "") (t.map fun c => S [c]) = S t := by
          have := join_flat (t.map fun c => [c])
          rw [List.map_map] at this
          rw [c_nil]
          refine this.trans ?_
          congr 2
          rw [← joinL_flat, joinL_nil]
        rw [e5]
        intro x dx nx ndx ne
        refine ⟨x, dx, _, _, _, rfl, upd_same, fun H2 hF hS => ⟨rfl, _, rfl, lt_sz (show 2 ≤ 200000 by decide), fun q hq => ?_⟩⟩
        have s2 := made_same nx ndx hS
        have nxq : x ≠ q := fun z => by obtain ⟨_, hF⟩ := hF; rw [z, hq] at hF; cases hF
        refine kk _ q x (by rw [upd_same]; rfl) ?_ (fun b o e => ?_) ?_
        · obtain ⟨d, hF⟩ := hF
          refine ⟨d, ?_⟩
          rw [upd_ne nxq]
          exact hF
        · exact same_new hq b o (s2 b o (s1 b o e))
        · cases e : H x with
          | none => rfl
          | some o => rw [s1 x o e] at nx; cases nx
    refine ⟨fun m σ H1 => ∃ (j : Nat) (acc : List Nat) (y : Option V), σ = [some (.str (S text)), some (.int (a : Int)), some (.str (S [sep])), some (.ref L), some (.int (j : Int)), y] ∧ m = text.length - j ∧ j ≤ text.length ∧ acc.length ≤ j ∧ Same H H1 ∧ H1 L = some (.lst (acc.map fun c => V.str (S [c]))) ∧ Sep.rm sep a (text.drop j) acc j = .ok (t, k), ⟨_, a + 1, [], none, rfl, rfl, by omega, by simp, same_new hL, upd_same, hrp⟩, ?_⟩
    rintro m σ H1 ⟨j, acc, y, rfl, rfl, hj, hacc, s1, hL1, hrm⟩
    refine ⟨_, rfl, _, rfl, _, rfl, by rw [S_len]; exact lt_sz (by omega), _, _, rfl, rfl, _, rfl, ?_⟩
    rw [S_len]
    refine ite2 (fun hlt => ?_) (fun hge => ?_)
    · have hjl : j < text.length := by have := of_decide_eq_true hlt; omega
      have hg : text[j]? = some text[j] := List.getElem?_eq_getElem hjl
      rw [drop_cons hjl, Sep.rm_cons] at hrm
      refine ⟨fun σ' H' => ∃ m', m' < text.length - j ∧ ∃ (j : Nat) (acc : List Nat) (y : Option V), σ' = [some (.str (S text)), some (.int (a : Int)), some (.str (S [sep])), some (.ref L), some (.int (j : Int)), y] ∧ m' = text.length - j ∧ j ≤ text.length ∧ acc.length ≤ j ∧ Same H H' ∧ H' L = some (.lst (acc.map fun c => V.str (S [c]))) ∧ Sep.rm sep a (text.drop j) acc j = .ok (t, k), fun _ _ h => h, ?_⟩
      refine ⟨_, rfl, _, rfl, _, _, _, rfl, rfl, by rw [S_len]; exact lt_sz (by omega), atS hg, ?_⟩
      refine ⟨rfl, _, rfl, ?_⟩
      rw [S_eq]
      have eapp : ∀ c : Nat, (acc.map fun c => V.str (S [c])) ++ [V.str (S [c])] = (acc ++ [c]).map fun c => V.str (S [c]) := fun c => by rw [List.map_append]; rfl
      by_cases h34 : text[j] = 34
      · rw [decide_eq_true (by simpa using h34)]
        refine iteF ?_
        rw [if_neg (by simp [h34])] at hrm
        refine ⟨_, rfl, _, rfl, _, _, rfl, rfl, _, rfl, _, rfl, _, _, rfl, rfl, _, rfl, _, rfl, by rw [S_len]; exact lt_sz (by omega), ?_⟩
        rw [cut1 text _ _ (j + 1) (by omega) (by omega)]
        refine ⟨rfl, _, rfl, ?_⟩
        rw [S_eq]
        cases hd : text.drop (j + 1) with
        | nil =>
          rw [hd] at hrm
          simp only [Except.ok.injEq, Prod.mk.injEq] at hrm
          refine iteF ?_
          have hlj : text.length ≤ j + 1 := List.drop_eq_nil_iff.mp hd
          refine ⟨_, rfl, _, _, rfl, rfl, ?_⟩
          refine ⟨_, rfl, _, rfl, _, rfl, by rw [S_len]; exact lt_sz (by omega), _, _, rfl, rfl, _, rfl, ?_⟩
          rw [S_len, decide_eq_false (by omega)]
          refine iteF (iteF ?_)
          exact hend j acc H1 hj hacc s1 hL1 hrm.1.symm hrm.2.symm
        | cons d r =>
          rw [hd] at hrm
          simp only at hrm
          have hgd : text[j + 1]? = some d := by
            have := congrArg List.head? hd
            rwa [List.head?_drop] at this
          have hjl2 : j + 1 < text.length := (List.getElem?_eq_some_iff.mp hgd).1
          have hr2 : r = text.drop (j + 2) := by
            rw [drop_cons hjl2] at hd
            exact (List.cons.inj hd).2.symm
          show if decide ([d] = [34]) = true then _ else _
          by_cases hd34 : d = 34
          · rw [if_pos hd34] at hrm
            rw [decide_eq_true (by rw [hd34])]
            refine iteT ?_
            refine ⟨_, rfl, .inl ⟨rfl, _, seqL hL1⟩, L, _, _, rfl, rfl, hL1, by rw [List.length_map]; exact lt_sz' (by omega), ?_⟩
            refine ⟨_, rfl, _, _, rfl, rfl, ?_⟩
            exact ⟨text.length - (j + 2), by omega, j + 2, acc ++ [34], y, rfl, rfl, by omega, by simp; omega, same_mut s1 hL, by rw [upd_same, eapp], by rw [← hr2]; exact hrm⟩
          · rw [if_neg hd34] at hrm
            rw [decide_eq_false (by simpa using hd34)]
            refine iteF ?_
            refine ⟨_, rfl, _, _, rfl, rfl, ?_⟩
            refine ⟨_, rfl, _, rfl, _, rfl, by rw [S_len]; exact lt_sz (by omega), _, _, rfl, rfl, _, rfl, ?_⟩
            rw [S_len, decide_eq_true (by omega)]
            refine iteT ?_
            refine ⟨_, rfl, _, rfl, _, _, _, rfl, rfl, by rw [S_len]; exact lt_sz (by omega), atS hgd, ?_⟩
            refine ⟨_, rfl, lt_sz (show 2 ≤ 200000 by decide), fun q hq => ?_⟩
            refine ⟨q, _, rfl, .inr (seqT upd_same), rfl, rfl, _, rfl, ?_⟩
            show if (if true = true then !inV (.str (S [d])) [.str (S [sep]), .str (S [10])] else inV (.str (S [d])) [.str (S [sep]), .str (S [10])]) = true then _ else _
            rw [if_pos rfl, inV2]
            by_cases he : d = sep ∨ d = 10
            · rw [if_pos he] at hrm
              simp only [Except.ok.injEq, Prod.mk.injEq] at hrm
              rw [decide_eq_true he]
              refine iteF ?_
              have nLq : L ≠ q := ne_of_none hL1 hq
              exact hend j acc _ hj hacc (fun b o e => same_new hq b o (s1 b o e)) (by rw [upd_ne nLq]; exact hL1) hrm.1.symm hrm.2.symm
            · rw [if_neg he] at hrm
              cases hrm
      · rw [decide_eq_false (by simpa using h34)]
        refine iteT ?_
        rw [if_pos h34] at hrm
        refine ⟨_, rfl, .inl ⟨rfl, _, seqL hL1⟩, _, rfl, _, rfl, _, _, _, rfl, rfl, by rw [S_len]; exact lt_sz (by omega), atS hg, ?_⟩
        refine ⟨L, _, _, rfl, rfl, hL1, by rw [List.length_map]; exact lt_sz' (by omega), ?_⟩
        refine ⟨_, rfl, _, _, rfl, rfl, ?_⟩
        exact ⟨text.length - (j + 1), by omega, j + 1, acc ++ [text[j]], y, rfl, rfl, by omega, by simp; omega, same_mut s1 hL, by rw [upd_same, eapp], hrm⟩
    · have hjl : ¬ j < text.length := fun q => hge (decide_eq_true (by omega))
      rw [List.drop_eq_nil_of_le (by omega), Sep.rm] at hrm
      cases hrm
end
end Sb
set_option Elab.async false
set_option maxRecDepth 100000
set_option maxHeartbeats 4000000
namespace Sb
open PySem PySem.Spec PyProof.Rows L2 SX
abbrev s_split_records : Stmt := top 9
abbrev sc_split_records_N : List Str := ["text", "separator", "records", "at", "fields", "more", "read", "field"]
theorem sc_split_records : FnScope sc_split_records_N ["text", "separator"] (defScope s_split_records) := ⟨rfl, rfl, rfl, by decide +kernel, rfl, by decide +kernel, by decide +kernel⟩
/-- a list of fields, a list of such lists -/
def RecAt (C : Addr) (H : Hp) (a : Addr) (r : List Sep.Fld) : Prop := ∃ fas : List Addr, H a = some (.lst (fas.map V.ref)) ∧ Paired (FieldAt C H) fas r
def RecsAt (C : Addr) (H : Hp) (a : Addr) (rs : List (List Sep.Fld)) : Prop := ∃ ras : List Addr, H a = some (.lst (ras.map V.ref)) ∧ Paired (RecAt C H) ras rs
theorem paired_mono {α β : Type} {F G : α → β → Prop} (h : ∀ a b, F a b → G a b) : ∀ {l : List α} {m : List β}, Paired F l m → Paired G l m
  | _, _, .nil => .nil
  | _, _, .cons a b => .cons (h _ _ a) (paired_mono h b)
theorem paired_mem {α β : Type} {F G : α → β → Prop} : ∀ {l : List α} {m : List β}, (∀ a b, a ∈ l → F a b → G a b) → Paired F l m → Paired G l m
  | _, _, _, .nil => .nil
  | _, _, h, .cons a b => .cons (h _ _ (by simp) a) (paired_mem (fun x y hx => h x y (by simp [hx])) b)
theorem field_same {C : Addr} {H H' : Hp} (s : Same H H') (p : Addr) (f : Sep.Fld) (h : FieldAt C H p f) : FieldAt C H' p f := by
  obtain ⟨dx, h⟩ := h
  exact ⟨dx, s _ _ h⟩
theorem rec_same {C : Addr} {H H' : Hp} (s : Same H H') (a : Addr) (r : List Sep.Fld) (h : RecAt C H a r) : RecAt C H' a r := by
  obtain ⟨fas, h, p⟩ := h
  exact ⟨fas, s _ _ h, paired_mono (field_same s) p⟩
theorem recs_same {C : Addr} {H H' : Hp} (s : Same H H') (a : Addr) (r : List (List Sep.Fld)) (h : RecsAt C H a r) : RecsAt C H' a r := by
  obtain ⟨ras, h, p⟩ := h
  exact ⟨ras, s _ _ h, paired_mono (rec_same s) p⟩
/-- a list is written: the fields stand -/
theorem field_upd {C : Addr} {H : Hp} {L : Addr} {xs ys : List V} (hL : H L = some (.lst xs)) (p : Addr) (f : Sep.Fld) (h : FieldAt C H p f) : FieldAt C (upd H L (.lst ys)) p f := by
  obtain ⟨dx, h⟩ := h
  exact ⟨dx, by rw [upd_ne (ne_of h hL (by intro q; cases q))]; exact h⟩
theorem rec_upd {C : Addr} {H : Hp} {L : Addr} {xs ys : List V} (hL : H L = some (.lst xs)) (a : Addr) (r : List Sep.Fld) (ne : a ≠ L) (h : RecAt C H a r) : RecAt C (upd H L (.lst ys)) a r := by
  obtain ⟨fas, h, p⟩ := h
  exact ⟨fas, by rw [upd_ne ne]; exact h, paired_mono (field_upd hL) p⟩
def spSplit (C : Addr) : Sp := fun vs H Q _ => ∃ (text : List Nat) (sep : Nat) (ans : List (List Sep.Fld)), vs = [.str (S text), .str (S [sep])] ∧ text.length ≤ 100000 ∧ Sep.split sep text = .ok ans ∧
  ∀ (H' : Hp) (p : Addr), H p = none → RecsAt C H' p ans → Same H H' → Q (.ref p) H'

section
variable {P : Program} {w : World} {K : PySem.W.Frag} {mg : Str → Option Value} {base : Heap} {C fM fP : Addr}
theorem ok_split_records {f : Addr} {fd : FuncData} (F : Fun K "split_records" "split_records" s_split_records f fd) (T : Txt K mg C fM fP) (cM : C8.CalAt P w K mg base 3 fM (spRead C true)) (cP : C8.CalAt P w K mg base 3 fP (spRead C false)) : FnOk P w K mg base CX0 4 f fd ["text", "separator"] (spSplit C) := by
  refine F.ok sc_split_records (fun vs H Q E h => ?_) (fun cdv A outer s H vs Q E hr h => ?_)
  · obtain ⟨_, _, _, rfl, _⟩ := h
    rfl
  · obtain ⟨text, sep, ans, rfl, hl, hsp, kk⟩ := h
    refine ⟨_, (pss_cons (ps_set (i := 2) sc_split_records.nd rfl (Or.inl rfl) (pe_lst pa_nil))
  (pss_cons (ps_set (i := 3) sc_split_records.nd rfl (Or.inl rfl) pe_int)
  (pss_cons (ps_while PassesOwn.never (pt_cmpR op_lt (pv 3) (pe_callB call_len_str (by rfl) T.n_len PySem.boot_len (pa_cons (pv 0) pa_nil)) (nomark _)) (pss_cons (ps_set (i := 4) sc_split_records.nd rfl (Or.inl rfl) (pe_lst pa_nil))
  (pss_cons (ps_set (i := 5) sc_split_records.nd rfl (Or.inl rfl) pe_bl)
  (pss_cons (ps_while PassesOwn.never (pt_val (pv 5)) (pss_cons (ps_set (i := 6) sc_split_records.nd rfl (Or.inl rfl) (pe_ifExp (pt_cmpR op_eq (pe_slice sl_str (pv 0) (po_some (pv 3)) (po_some (pe_op op_add (pv 3) pe_int))) (C8.pe_gc (by rfl) T.g_MARK) (nomark _)) (pe_glob (v := .ref fM) (by rfl) T.g_read_marked rfl) (pe_glob (v := .ref fP) (by rfl) T.g_read_plain rfl)))
  (pss_cons (ps_asg (C8.pe_cv (i := 6) cM cP hr (by decide) (by decide) rfl (Or.inl rfl) (pa_cons (pv 0) (pa_cons (pv 3) (pa_cons (pv 1) pa_nil)))) (pg_tup (by rfl) (pgs_cons (pg_name (i := 7) sc_split_records.nd rfl (Or.inl rfl)) (pgs_cons (pg_name (i := 3) sc_split_records.nd rfl (Or.inl rfl)) pgs_nil))))
  (pss_cons (ps_expr (pe_bm PySem.F.plainAttrs_list PySem.F.slot_list_append PySem.F.type_list_append mt_append (pv 4) (pa_cons (pv 7) pa_nil)))
  (pss_cons (ps_set (i := 5) sc_split_records.nd rfl (Or.inl rfl) (pe_cmpR op_eq (pe_slice sl_str (pv 0) (po_some (pv 3)) (po_some (pe_op op_add (pv 3) pe_int))) (pv 1) (nomark _)))
  (pss_one (ps_if (pt_val (pv 5)) (pss_one (ps_set (i := 3) sc_split_records.nd rfl (Or.inl rfl) (pe_op op_add (pv 3) pe_int))) pss_nil)))))))
  (pss_cons (ps_expr (pe_bm PySem.F.plainAttrs_list PySem.F.slot_list_append PySem.F.type_list_append mt_append (pv 2) (pa_cons (pv 4) pa_nil)))
  (pss_one (ps_set (i := 3) sc_split_records.nd rfl (Or.inl rfl) (pe_op op_add (pv 3) pe_int))))))))
  (pss_one (ps_ret (pv 2)))))), ?_⟩
    refine ⟨Nat.zero_le _, fun R hR => ?_⟩
    let Wd : Nat → L2.St → Hp → Prop := fun m σ H1 => ∃ (a : Nat) (racc : List (List Sep.Fld)) (ras : List Addr) (g : Nat) (x4 x5 x6 x7 : Option V), σ = [some (.str (S text)), some (.str (S [sep])), some (.ref R), some (.int (a : Int)), x4, x5, x6, x7] ∧ m = text.length + 1 - a ∧ Same H H1 ∧ H1 R = some (.lst (ras.map V.ref)) ∧ Paired (RecAt C H1) ras racc ∧ (∀ b ∈ ras, b ≠ R) ∧ ras.length ≤ a ∧ Sep.spl sep text g a racc = .ok ans ∧ text.length < g + a
    refine ⟨Wd, ⟨_, 0, [], [], text.length + 1, none, none, none, none, rfl, rfl, same_new hR, upd_same, .nil, by simp, Nat.le_refl _, hsp, by omega⟩, ?_⟩
    rintro m σ H1 ⟨a, racc, ras, g, x4, x5, x6, x7, rfl, rfl, s1, hR1, hp1, hn1, hra, hspl, hg⟩
    refine ⟨_, rfl, _, rfl, _, rfl, by rw [S_len]; exact lt_sz (by omega), _, _, rfl, rfl, _, rfl, ?_⟩
    rw [S_len]
    refine ite2 (fun hlt => ?_) (fun hge => ?_)
    · have hal : a < text.length := by have := of_decide_eq_true hlt; omega
      obtain ⟨g, rfl⟩ : ∃ g', g = g' + 1 := by
        cases g with
        | zero => omega
        | succ g => exact ⟨g, rfl⟩
      obtain ⟨r, k, hrec, hspl2⟩ := Sep.spl_ok hal hspl
      have hge := Sep.recd_ge hrec
      refine ⟨fun σ' H' => ∃ m', m' < text.length + 1 - a ∧ Wd m' σ' H', fun _ _ h => h, ?_⟩
      refine ⟨Nat.zero_le _, fun L hL => ?_⟩
      have nLR : L ≠ R := (ne_of_none hR1 hL).symm
      -- the fields' loop
      refine ⟨fun m' σ' H2 => ∃ (a2 : Nat) (facc : List Sep.Fld) (fas : List Addr) (mo : Bool) (y6 y7 : Option V), σ' = [some (.str (S text)), some (.str (S [sep])), some (.ref R), some (.int (a2 : Int)), some (.ref L), some (.bl mo), y6, y7] ∧ Same H1 H2 ∧ H2 L = some (.lst (fas.map V.ref)) ∧ Paired (FieldAt C H2) fas facc ∧ fas.length ≤ a2 + 1 ∧ a2 ≤ text.length ∧
          ((mo = true ∧ m' = text.length + 1 - a2 + 1 ∧ fas.length ≤ a2 ∧ ∃ g2, Sep.recd sep text g2 a2 facc = .ok (r, k) ∧ text.length < g2 + a2) ∨ (mo = false ∧ m' = 0 ∧ facc = r ∧ a2 = k)),
        ⟨_, a, [], [], true, x6, x7, rfl, same_new hL, upd_same, .nil, by simp, by omega, .inl ⟨rfl, rfl, Nat.zero_le _, text.length + 1, hrec, by omega⟩⟩, ?_⟩
      rintro m' σ' H2 ⟨a2, facc, fas, mo, y6, y7, rfl, s2, hL2, hp2, hfa, ha2, hc⟩
      refine ⟨_, rfl, _, rfl, ?_⟩
      rcases hc with ⟨rfl, rfl, hfa2, g2, hrec2, hg2⟩ | ⟨rfl, rfl, rfl, rfl⟩
      · refine iteT ?_
        obtain ⟨g2, rfl⟩ : ∃ g', g2 = g' + 1 := by
          cases g2 with
          | zero => omega
          | succ g => exact ⟨g, rfl⟩
        obtain ⟨fl, j, hrd, hcont⟩ := Sep.recd_ok hrec2
        have hj := Sep.rd_ge hrd
        have hjl := Sep.rd_le hrd ha2
        refine ⟨fun σ' H' => ∃ m'', m'' < text.length + 1 - a2 + 1 ∧ ∃ (a2 : Nat) (facc : List Sep.Fld) (fas : List Addr) (mo : Bool) (y6 y7 : Option V), σ' = [some (.str (S text)), some (.str (S [sep])), some (.ref R), some (.int (a2 : Int)), some (.ref L), some (.bl mo), y6, y7] ∧ Same H1 H' ∧ H' L = some (.lst (fas.map V.ref)) ∧ Paired (FieldAt C H') fas facc ∧ fas.length ≤ a2 + 1 ∧ a2 ≤ text.length ∧
          ((mo = true ∧ m'' = text.length + 1 - a2 + 1 ∧ fas.length ≤ a2 ∧ ∃ g2, Sep.recd sep text g2 a2 facc = .ok (r, k) ∧ text.length < g2 + a2) ∨ (mo = false ∧ m'' = 0 ∧ facc = r ∧ a2 = k)), fun _ _ h => h, ?_⟩
        -- behind the call
        have hbeh : ∀ (y : Option V) (H' : Hp) (q p : Addr), H' q = some (.tup [.ref p, .int (j : Int)]) → FieldAt C H' p fl → Same H2 H' → H2 p = none →
            gTup K 2 (gCons (gName 7) (gCons (gName 3) gNil)) (.ref q) [some (.str (S text)), some (.str (S [sep])), some (.ref R), some (.int (a2 : Int)), some (.ref L), some (.bl true), y, y7] H' (fun σ1 H3 => (tSeq (tDrop (tBM K "list" rAppend (tVar 4) (tCons (tVar 7) tNil))) (tSeq (tAsg (tOp rEq (tSl rSlS (tVar 0) (tPart (tVar 3)) (tPart (tOp (rI0 fun i j => .int (i + j)) (tVar 3) (tC (.int 1))))) (tVar 1)) (gName 5)) (tIfS (tB (tVar 5)) (tAsg (tOp (rI0 fun i j => .int (i + j)) (tVar 3) (tC (.int 1))) (gName 3)) tNext)))
              { nx := fun σ' H' => ∃ m'', m'' < text.length + 1 - a2 + 1 ∧ ∃ (a2 : Nat) (facc : List Sep.Fld) (fas : List Addr) (mo : Bool) (y6 y7 : Option V), σ' = [some (.str (S text)), some (.str (S [sep])), some (.ref R), some (.int (a2 : Int)), some (.ref L), some (.bl mo), y6, y7] ∧ Same H1 H' ∧ H' L = some (.lst (fas.map V.ref)) ∧ Paired (FieldAt C H') fas facc ∧ fas.length ≤ a2 + 1 ∧ a2 ≤ text.length ∧
          ((mo = true ∧ m'' = text.length + 1 - a2 + 1 ∧ fas.length ≤ a2 ∧ ∃ g2, Sep.recd sep text g2 a2 facc = .ok (r, k) ∧ text.length < g2 + a2) ∨ (mo = false ∧ m'' = 0 ∧ facc = r ∧ a2 = k)), rt := Q } σ1 H3) := by
          intro y H' q p hq hF s3 hp
          refine ⟨q, _, rfl, seqT hq, rfl, _, _, rfl, _, _, rfl, rfl, ?_⟩
          have hL3 := s3 _ _ hL2
          refine ⟨_, rfl, .inl ⟨rfl, _, seqL hL3⟩, _, rfl, L, _, _, rfl, rfl, hL3, by rw [List.length_map]; exact lt_sz' (by omega), ?_⟩
          refine ⟨_, rfl, _, rfl, _, rfl, _, rfl, _, _, rfl, rfl, _, rfl, _, rfl, by rw [S_len]; exact lt_sz (by omega), _, rfl, rfl, ?_⟩
          rw [cut1 text _ _ j rfl rfl, S_eq]
          refine ⟨_, rfl, _, rfl, ?_⟩
          have hLn : H1 L = none := hL
          have sN : Same H1 (upd H' L (.lst (fas.map V.ref ++ [.ref p]))) := same_mut (fun b o e => s3 b o (s2 b o e)) hLn
          have pN : Paired (FieldAt C (upd H' L (.lst (fas.map V.ref ++ [.ref p])))) (fas ++ [p]) (facc ++ [fl]) := (paired_mono (fun a b h => field_upd hL3 a b (field_same s3 a b h)) hp2).snoc (field_upd hL3 p fl hF)
          by_cases hs : text[j]? = some sep
          · rw [if_pos hs] at hcont
            have hjl2 : j < text.length := (List.getElem?_eq_some_iff.mp hs).1
            rw [decide_eq_true ((drop_take1 text j sep).mpr hs)]
            refine iteT ⟨_, rfl, _, _, rfl, rfl, ?_⟩
            exact ⟨_, by omega, j + 1, facc ++ [fl], fas ++ [p], true, y, _, rfl, sN, by rw [upd_same, List.map_append]; rfl, pN, by simp; omega, by omega, .inl ⟨rfl, rfl, by simp; omega, g2, hcont, by omega⟩⟩
          · rw [if_neg hs] at hcont
            simp only [Except.ok.injEq, Prod.mk.injEq] at hcont
            rw [decide_eq_false (fun z => hs ((drop_take1 text j sep).mp z))]
            refine iteF ?_
            exact ⟨0, by omega, j, facc ++ [fl], fas ++ [p], false, y, _, rfl, sN, by rw [upd_same, List.map_append]; rfl, pN, by simp; omega, hjl, .inr ⟨rfl, rfl, hcont.1, hcont.2⟩⟩
        refine ⟨_, rfl, _, rfl, _, rfl, _, rfl, _, _, rfl, rfl, _, rfl, _, rfl, by rw [S_len]; exact lt_sz (by omega), rfl, _, rfl, ?_⟩
        rw [cut1 text _ _ a2 rfl rfl, S_eq]
        by_cases hm : text[a2]? = some 34
        · rw [decide_eq_true ((drop_take1 text a2 34).mpr hm)]
          refine iteT (.inl ⟨rfl, _, rfl, _, rfl, _, rfl, text, a2, sep, fl, j, rfl, hl, ha2, by simp [hm], hrd, fun H' q p h1 h2 h3 h4 => hbeh _ H' q p h1 h2 h3 h4⟩)
        · rw [decide_eq_false (fun z => hm ((drop_take1 text a2 34).mp z))]
          refine iteF (.inr ⟨rfl, _, rfl, _, rfl, _, rfl, text, a2, sep, fl, j, rfl, hl, ha2, by simp [hm], hrd, fun H' q p h1 h2 h3 h4 => hbeh _ H' q p h1 h2 h3 h4⟩)
      · refine iteF ?_
        have hR2 := s2 _ _ hR1
        refine ⟨_, rfl, .inl ⟨rfl, _, seqL hR2⟩, _, rfl, R, _, _, rfl, rfl, hR2, by rw [List.length_map]; exact lt_sz' (by omega), ?_⟩
        refine ⟨_, rfl, _, _, rfl, rfl, ?_⟩
        refine ⟨text.length + 1 - (a2 + 1), by omega, a2 + 1, racc ++ [facc], ras ++ [L], g, _, _, _, _, rfl, rfl, same_mut (fun b o e => s2 b o (s1 b o e)) hR, by rw [upd_same, List.map_append]; rfl, ?_, ?_, by simp; omega, hspl2, by omega⟩
        · refine Paired.snoc (paired_mem (fun b x hb h => rec_upd hR2 b x (hn1 b hb) (rec_same s2 b x h)) hp1) ?_
          exact rec_upd hR2 L facc nLR ⟨fas, hL2, hp2⟩
        · intro b hb
          rcases List.mem_append.mp hb with h | h
          · exact hn1 b h
          · have : b = L := by simpa using h
            rw [this]; exact nLR
    · have hal : ¬ a < text.length := fun q => hge (decide_eq_true (by omega))
      have e0 : Sep.spl sep text g a racc = .ok racc := by
        cases g with
        | zero => rfl
        | succ g => exact Sep.spl_end hal
      rw [e0] at hspl
      simp only [Except.ok.injEq] at hspl
      subst hspl
      exact ⟨_, rfl, kk H1 R hR ⟨ras, hR1, hp1⟩ s1⟩
end
end Sb
set_option Elab.async false
set_option maxRecDepth 100000
set_option maxHeartbeats 4000000
namespace Sb
open PySem PySem.Spec PyProof.Rows L2 SX
abbrev s__law_same : Stmt := top 18
abbrev sc__law_same_N : List Str := ["_law_told", "_law_due", "_law_k", "_law_j", "_law_field"]
theorem sc__law_same : FnScope sc__law_same_N ["_law_told", "_law_due"] (defScope s__law_same) := ⟨rfl, rfl, rfl, by decide +kernel, rfl, by decide +kernel, by decide +kernel⟩
/-! ### what is due: lists of lists of tuples -/
def TupAt (H : Hp) (t : Addr) (fl : Sep.Fld) : Prop := H t = some (.tup [.str (S fl.text), .int (fl.off : Int), .bl fl.mkd])
def DueAt (H : Hp) (a : Addr) (r : List Sep.Fld) : Prop := ∃ ts : List Addr, H a = some (.lst (ts.map V.ref)) ∧ Paired (TupAt H) ts r
def DuesAt (H : Hp) (a : Addr) (rs : List (List Sep.Fld)) : Prop := ∃ das : List Addr, H a = some (.lst (das.map V.ref)) ∧ Paired (DueAt H) das rs
theorem tupAt_same {H H' : Hp} (s : Same H H') (p : Addr) (f : Sep.Fld) (h : TupAt H p f) : TupAt H' p f := s _ _ h
theorem due_same {H H' : Hp} (s : Same H H') (a : Addr) (r : List Sep.Fld) (h : DueAt H a r) : DueAt H' a r := by
  obtain ⟨fas, h, p⟩ := h
  exact ⟨fas, s _ _ h, paired_mono (tupAt_same s) p⟩
theorem dues_same {H H' : Hp} (s : Same H H') (a : Addr) (r : List (List Sep.Fld)) (h : DuesAt H a r) : DuesAt H' a r := by
  obtain ⟨ras, h, p⟩ := h
  exact ⟨ras, s _ _ h, paired_mono (due_same s) p⟩
def dF (fl : Sep.Fld) : PyData := .tuple [.str (S fl.text), .int (fl.off : Int), .bool fl.mkd]
def Small (fl : Sep.Fld) : Prop := ∀ c ∈ fl.text, c < 0x110000
theorem dF_shaped {fl : Sep.Fld} (h : Small fl) : SeqAt.shaped (dF fl) = true := by
  have h1 : PyData.strOk (S fl.text) = true := by
    unfold PyData.strOk
    rw [← Array.all_toList]
    exact List.all_eq_true.mpr fun c hc => decide_eq_true (h c hc)
  unfold SeqAt.shaped dF
  rw [Bool.and_eq_true]
  refine ⟨?_, ?_⟩
  · simp [PyData.canLay0, PyData.canLayAll0, h1]
  · simp [PyData.depth, PyData.depthAll]
theorem dF_eqv (f g : Sep.Fld) : PyData.eqv (dF f) (dF g) = decide (f = g) := by
  obtain ⟨t, o, m⟩ := f
  obtain ⟨t', o', m'⟩ := g
  show ((S t == S t') && (((o : Int) == (o' : Int)) && ((m == m') && true))) = _
  rw [S_beq_eq]
  by_cases h1 : t = t'
  · by_cases h2 : o = o'
    · by_cases h3 : m = m'
      · subst h1 h2 h3; simp
      · simp [h3]
    · have : ¬ (o : Int) = (o' : Int) := fun q => h2 (by omega)
      simp [h2, this]
  · simp [h1]
theorem dF_dp {K : PySem.W.Frag} {H : Hp} {t : Addr} {fl : Sep.Fld} (h : TupAt H t fl) : Dp K H (.ref t) (dF fl) :=
  .tup (seqT h) (.cons (.str _) (.cons (.int _) (.cons (.bl _) .nil)))
theorem paired_get {α β : Type} {F : α → β → Prop} : ∀ {l : List α} {m : List β} {i : Nat} {b : β}, Paired F l m → m[i]? = some b → ∃ a, l[i]? = some a ∧ F a b
  | _, _, i, _, .nil, h => by simp at h
  | _, _, 0, _, .cons r _, h => by simp at h; subst h; exact ⟨_, rfl, r⟩
  | _, _, i + 1, _, .cons _ t, h => by
    obtain ⟨a, h1, h2⟩ := paired_get (i := i) t (by simpa using h)
    exact ⟨a, by simpa using h1, h2⟩
theorem paired_len {α β : Type} {F : α → β → Prop} : ∀ {l : List α} {m : List β}, Paired F l m → l.length = m.length
  | _, _, .nil => rfl
  | _, _, .cons _ t => by simp [paired_len t]
theorem getRef {l : List Addr} {i : Nat} {a : Addr} (h : l[i]? = some a) : (l.map V.ref)[i]? = some (V.ref a) := by rw [List.getElem?_map, h]; rfl
def spSame (C : Addr) : Sp := fun vs H Q _ => ∃ (a b : Addr) (R1 R2 : List (List Sep.Fld)), vs = [.ref a, .ref b] ∧ RecsAt C H a R1 ∧ DuesAt H b R2 ∧ R2.length ≤ 100000 ∧ (∀ r ∈ R2, r.length ≤ 100000) ∧ (∀ r ∈ R1, ∀ f ∈ r, Small f) ∧ (∀ r ∈ R2, ∀ f ∈ r, Small f) ∧
  ∀ H' : Hp, Same H H' → Q (.bl (decide (R1 = R2))) H'
theorem eq_by {α : Type} {l m : List α} (hl : l.length = m.length) (h : ∀ i, i < m.length → l[i]? = m[i]?) : l = m := by
  apply List.ext_getElem? 
  intro i
  by_cases hi : i < m.length
  · exact h i hi
  · rw [List.getElem?_eq_none (by omega), List.getElem?_eq_none (by omega)]

section
variable {P : Program} {w : World} {K : PySem.W.Frag} {mg : Str → Option Value} {base : Heap} {C fM fP : Addr}
theorem ok__law_same {f : Addr} {fd : FuncData} (F : Fun K "_law_same" "_law_same" s__law_same f fd) (T : Txt K mg C fM fP) (C__law_is_integer : Cal P w K mg base CX0 1 "_law_is_integer" spIsInt) : FnOk P w K mg base CX0 2 f fd ["_law_told", "_law_due"] (spSame C) := by
  refine F.ok sc__law_same (fun vs H Q E h => ?_) (fun cdv A outer s H vs Q E hr h => ?_)
  · obtain ⟨_, _, _, _, rfl, _⟩ := h
    rfl
  · obtain ⟨a, b, R1, R2, rfl, hA, hB, l2, l3, sm1, sm2, kk⟩ := h
    refine ⟨_, (pss_cons (ps_if (PW.pt (pw_or (pt_not (pt_val (pe_callB call_isi (by rfl) T.n_isinstance (by decide +kernel) (pa_cons (pv 0) (pa_cons (pe_bltn (by rfl) T.n_list (by decide +kernel) (show RelV (.ty "list") (.type "list") from rfl)) pa_nil))))) (pw_or1 (pt_cmpR op_ne (pe_callB call_len_seq (by rfl) T.n_len PySem.boot_len (pa_cons (pv 0) pa_nil)) (pe_callB call_len_seq (by rfl) T.n_len PySem.boot_len (pa_cons (pv 1) pa_nil)) (nomark _))))) (pss_one (ps_ret pe_bl)) pss_nil)
  (pss_cons (ps_for PassesOwn.never rfl (pi_range1 rfl T.n_range (pa_cons (pe_callB call_len_seq (by rfl) T.n_len PySem.boot_len (pa_cons (pv 1) pa_nil)) pa_nil)) (pg_name (i := 2) sc__law_same.nd rfl (Or.inl rfl)) (pss_cons (ps_if (PW.pt (pw_or (pt_not (pt_val (pe_callB call_isi (by rfl) T.n_isinstance (by decide +kernel) (pa_cons (pe_ix ix_list (pv 0) (pv 2) (fun _ _ => rfl)) (pa_cons (pe_bltn (by rfl) T.n_list (by decide +kernel) (show RelV (.ty "list") (.type "list") from rfl)) pa_nil))))) (pw_or1 (pt_cmpR op_ne (pe_callB call_len_seq (by rfl) T.n_len PySem.boot_len (pa_cons (pe_ix ix_list (pv 0) (pv 2) (fun _ _ => rfl)) pa_nil)) (pe_callB call_len_seq (by rfl) T.n_len PySem.boot_len (pa_cons (pe_ix ix_list (pv 1) (pv 2) (fun _ _ => rfl)) pa_nil)) (nomark _))))) (pss_one (ps_ret pe_bl)) pss_nil)
  (pss_one (ps_for PassesOwn.never rfl (pi_range1 rfl T.n_range (pa_cons (pe_callB call_len_seq (by rfl) T.n_len PySem.boot_len (pa_cons (pe_ix ix_list (pv 1) (pv 2) (fun _ _ => rfl)) pa_nil)) pa_nil)) (pg_name (i := 3) sc__law_same.nd rfl (Or.inl rfl)) (pss_cons (ps_set (i := 4) sc__law_same.nd rfl (Or.inl rfl) (pe_ix ix_list (pe_ix ix_list (pv 0) (pv 2) (fun _ _ => rfl)) (pv 3) (fun _ _ => rfl)))
  (pss_cons (ps_if (PW.pt (pw_or (pt_not (pt_val (pe_callB call_isi (by rfl) T.n_isinstance (by decide +kernel) (pa_cons (pv 4) (pa_cons (pe_glob (v := .ref C) (by rfl) T.g_Field rfl) pa_nil))))) (pw_or (pt_not (pt_val (pe_k C__law_is_integer hr (by decide) (by rfl) pass0 (pa_cons (pe_fld (pv 4) rfl) pa_nil)))) (pw_or1 (pt_not (pt_val (pe_callB call_isi (by rfl) T.n_isinstance (by decide +kernel) (pa_cons (pe_fld (pv 4) rfl) (pa_cons (pe_bltn (by rfl) T.n_bool (by decide +kernel) (show RelV (.ty "bool") (.type "bool") from rfl)) pa_nil))))))))) (pss_one (ps_ret pe_bl)) pss_nil)
  (pss_one (ps_if (pt_cmpR (op_neD hr.units) (pe_tup (pa_cons (pe_fld (pv 4) rfl) (pa_cons (pe_fld (pv 4) rfl) (pa_cons (pe_fld (pv 4) rfl) pa_nil)))) (pe_ix ix_list (pe_ix ix_list (pv 1) (pv 2) (fun _ _ => rfl)) (pv 3) (fun _ _ => rfl)) (nomark _)) (pss_one (ps_ret pe_bl)) pss_nil))))))))
  (pss_one (ps_ret pe_bl)))), ?_⟩
    obtain ⟨ras, hA1, pA⟩ := id hA
    obtain ⟨das, hB1, pB⟩ := id hB
    have lA := paired_len pA
    have lB := paired_len pB
    refine ⟨_, rfl, _, _, _, _, true, rfl, .ty _, .base (.lst hA1), kit_ty (by decide +kernel), true, rfl, iteF ?_⟩
    refine ⟨_, rfl, a, _, rfl, .inl (seqL hA1), _, rfl, b, _, rfl, .inl (seqL hB1), rfl, _, rfl, ?_⟩
    rw [List.length_map, List.length_map]
    by_cases hlen : R1.length = R2.length
    · have e0 : decide (V.int (ras.length : Int) = V.int (das.length : Int)) = true := decide_eq_true (by rw [lA, lB, hlen])
      rw [e0]
      refine iteF ?_
      refine ⟨_, rfl, b, _, rfl, .inl (seqL hB1), _, rfl, ?_, ?_, ?_⟩
      · rw [List.length_map]; omega
      · rw [List.length_map]; omega
      rw [List.length_map]
      refine for_range (lo := 0) (n := das.length) (fun i σ H' => ∃ x2 x3 x4 : Option V, σ = [some (.ref a), some (.ref b), x2, x3, x4] ∧ Same H H' ∧ ∀ j, j < i → R1[j]? = R2[j]?) ⟨_, _, _, rfl, Same.refl H, fun j hj => absurd hj (Nat.not_lt_zero _)⟩ ?_ ?_
      · rintro i σ H' hi ⟨x2, x3, x4, rfl, s1, heq⟩
        have hi1 : i < R1.length := by omega
        have hi2 : i < R2.length := by omega
        obtain ⟨r1, hr1⟩ : ∃ r, R1[i]? = some r := ⟨_, List.getElem?_eq_getElem hi1⟩
        obtain ⟨r2, hr2⟩ : ∃ r, R2[i]? = some r := ⟨_, List.getElem?_eq_getElem hi2⟩
        have m1 := List.mem_of_getElem? hr1
        have m2 := List.mem_of_getElem? hr2
        obtain ⟨ra, hra, fas, hra1, pF⟩ := paired_get pA hr1
        obtain ⟨da, hda, ts, hda1, pT⟩ := paired_get pB hr2
        have lF := paired_len pF
        have lT := paired_len pT
        have e0 : (0 : Int) + (i : Int) = (i : Int) := Int.zero_add _
        show tSeq _ _ _ [some (.ref a), some (.ref b), some (.int ((0 : Int) + (i : Int))), x3, x4] H'
        rw [e0]
        refine ⟨_, rfl, _, rfl, a, _, _, _, rfl, rfl, seqL (s1 _ _ hA1), atI_nat (getRef hra), ?_⟩
        refine ⟨_, _, _, _, true, rfl, .ty _, .base (.lst (s1 _ _ hra1)), kit_ty (by decide +kernel), true, rfl, iteF ?_⟩
        refine ⟨_, rfl, _, rfl, a, _, _, _, rfl, rfl, seqL (s1 _ _ hA1), atI_nat (getRef hra), ?_⟩
        refine ⟨ra, _, rfl, .inl (seqL (s1 _ _ hra1)), ?_⟩
        refine ⟨_, rfl, _, rfl, b, _, _, _, rfl, rfl, seqL (s1 _ _ hB1), atI_nat (getRef hda), ?_⟩
        refine ⟨da, _, rfl, .inl (seqL (s1 _ _ hda1)), rfl, _, rfl, ?_⟩
        rw [List.length_map, List.length_map]
        by_cases hlr : r1.length = r2.length
        · have e1 : decide (V.int (fas.length : Int) = V.int (ts.length : Int)) = true := decide_eq_true (by rw [lF, lT, hlr])
          rw [e1]
          refine iteF ?_
          refine ⟨_, rfl, _, rfl, b, _, _, _, rfl, rfl, seqL (s1 _ _ hB1), atI_nat (getRef hda), ?_⟩
          have hl3 := l3 _ m2
          refine ⟨da, _, rfl, .inl (seqL (s1 _ _ hda1)), _, rfl, ?_, ?_, ?_⟩
          · rw [List.length_map]; omega
          · rw [List.length_map]; omega
          rw [List.length_map]
          refine for_range (lo := 0) (n := ts.length) (fun j σ H' => ∃ x3 x4 : Option V, σ = [some (.ref a), some (.ref b), some (.int (i : Int)), x3, x4] ∧ Same H H' ∧ ∀ j', j' < j → r1[j']? = r2[j']?) ⟨_, _, rfl, s1, fun j hj => absurd hj (Nat.not_lt_zero _)⟩ ?_ ?_
          · rintro j σ H2 hj ⟨y3, y4, rfl, s2, heq2⟩
            obtain ⟨f1, hf1⟩ : ∃ r, r1[j]? = some r := ⟨_, List.getElem?_eq_getElem (by omega)⟩
            obtain ⟨f2, hf2⟩ : ∃ r, r2[j]? = some r := ⟨_, List.getElem?_eq_getElem (by omega)⟩
            obtain ⟨fa, hfa, dx, hfa1⟩ := paired_get pF hf1
            obtain ⟨ta, hta, hta1⟩ := paired_get pT hf2
            have n1 := sm1 _ m1 _ (List.mem_of_getElem? hf1)
            have n2 := sm2 _ m2 _ (List.mem_of_getElem? hf2)
            have hfa2 := s2 _ _ hfa1
            have e0 : (0 : Int) + (j : Int) = (j : Int) := Int.zero_add _
            show tSeq _ _ _ [some (.ref a), some (.ref b), some (.int (i : Int)), some (.int ((0 : Int) + (j : Int))), y4] H2
            rw [e0]
            refine ⟨_, rfl, _, rfl, a, _, _, _, rfl, rfl, seqL (s2 _ _ hA1), atI_nat (getRef hra), _, rfl, ra, _, _, _, rfl, rfl, seqL (s2 _ _ hra1), atI_nat (getRef hfa), ?_⟩
            refine ⟨_, rfl, _, _, _, _, true, rfl, .own C, .base (.ins hfa2 T.cl T.isC.ha T.isC.hn T.isC.htk T.isC.hm), T.isC.me, true, rfl, iteF ?_⟩
            refine ⟨_, rfl, fa, C, dx, _, _, rfl, hfa2, T.cl, T.nO, fF_offset f1, _, rfl, true, rfl, iteF ?_⟩
            refine ⟨_, rfl, fa, C, dx, _, _, rfl, hfa2, T.cl, T.nM, fF_marked f1, _, _, _, _, true, rfl, .ty _, .base (.bl _), kit_ty (by decide +kernel), true, rfl, iteF ?_⟩
            refine ⟨_, rfl, fa, C, dx, _, _, rfl, hfa2, T.cl, T.nT, fF_text f1, _, rfl, fa, C, dx, _, _, rfl, hfa2, T.cl, T.nO, fF_offset f1, _, rfl, fa, C, dx, _, _, rfl, hfa2, T.cl, T.nM, fF_marked f1, ?_⟩
            refine ⟨lt_sz (show 3 ≤ 200000 by decide), fun q hq => ?_⟩
            have s3 := same_new (o := .tup [.str (S f1.text), .int (f1.off : Int), .bl f1.mkd]) hq
            have s4 : Same H (upd H2 q (.tup [.str (S f1.text), .int (f1.off : Int), .bl f1.mkd])) := fun b o e => s3 b o (s2 b o e)
            refine ⟨_, rfl, _, rfl, b, _, _, _, rfl, rfl, seqL (s4 _ _ hB1), atI_nat (getRef hda), _, rfl, da, _, _, _, rfl, rfl, seqL (s4 _ _ hda1), atI_nat (getRef hta), ?_⟩
            refine ⟨dF f1, dF f2, dF_dp (show TupAt _ q f1 from upd_same), dF_dp (s4 _ _ hta1), dF_shaped n1, dF_shaped n2, _, rfl, ?_⟩
            rw [dF_eqv]
            by_cases hff : f1 = f2
            · rw [decide_eq_true hff]
              refine iteF ⟨_, _, rfl, s4, fun j' hj' => ?_⟩
              by_cases hjj : j' = j
              · subst hjj; rw [hf1, hf2, hff]
              · exact heq2 j' (by omega)
            · rw [decide_eq_false hff]
              refine iteT ?_
              have hne : ¬ R1 = R2 := fun q => hff (by
                rw [q] at hr1
                rw [hr1] at hr2
                have e := Option.some.inj hr2
                rw [e, hf2] at hf1
                exact (Option.some.inj hf1).symm)
              have := kk _ s4
              rw [decide_eq_false hne] at this
              exact this
          · rintro σ H2 ⟨y3, y4, rfl, s2, heq2⟩
            have er : r1 = r2 := eq_by hlr fun j hj => heq2 j (by omega)
            refine ⟨_, _, _, rfl, s2, fun j' hj' => ?_⟩
            by_cases hjj : j' = i
            · subst hjj; rw [hr1, hr2, er]
            · exact heq j' (by omega)
        · have e1 : decide (V.int (fas.length : Int) = V.int (ts.length : Int)) = false := decide_eq_false (fun q => hlr (by injection q with q; omega))
          rw [e1]
          refine iteT ?_
          have hne : ¬ R1 = R2 := fun q => hlr (by
            rw [q] at hr1
            rw [hr1] at hr2
            rw [Option.some.inj hr2])
          have := kk _ s1
          rw [decide_eq_false hne] at this
          exact this
      · rintro σ H2 ⟨y2, y3, y4, rfl, s2, heq2⟩
        have er : R1 = R2 := eq_by hlen fun j hj => heq2 j (by omega)
        have := kk _ s2
        rw [decide_eq_true er] at this
        exact this
    · have e0 : decide (V.int (ras.length : Int) = V.int (das.length : Int)) = false := decide_eq_false (fun q => hlen (by injection q with q; omega))
      rw [e0]
      refine iteT ?_
      have := kk H (Same.refl H)
      rw [decide_eq_false (fun q => hlen (by rw [q]))] at this
      exact this
end
end Sb
set_option Elab.async false
set_option maxRecDepth 100000
set_option maxHeartbeats 4000000
namespace Sb
open PySem PySem.Spec PyProof.Rows L2 SX
abbrev s_law : Stmt := top 19
abbrev sc_law_N : List Str := ["_law_script", "_law_state_here", "_law_separator", "_law_text", "_law_records", "_law_many", "_law_k", "_law_record", "_law_j", "_law_field", "_law_marked"]
theorem sc_law : FnScope sc_law_N ["_law_script"] (defScope s_law) := ⟨rfl, rfl, rfl, by decide +kernel, rfl, by decide +kernel, by decide +kernel⟩
/-! ### what stands while the law draws -/
theorem refs_int {l : List Addr} {z : Int} : (HO.lst (l.map V.ref)) ≠ HO.lst [V.int z] := fun q => by
  injection q with q
  cases l <;> simp at q
theorem due_kp {p : Addr} {H H' : Hp} (d : Dr H p) (k : Kp p H H') (a : Addr) (r : List Sep.Fld) (h : DueAt H a r) : DueAt H' a r := by
  obtain ⟨z, hz⟩ := d
  obtain ⟨ts, h, q⟩ := h
  exact ⟨ts, k.1 _ _ (ne_of h hz refs_int) h, paired_mono (fun t f ht => k.1 _ _ (ne_of ht hz (by intro q; cases q)) ht) q⟩
theorem due_upd {H : Hp} {L : Addr} {xs ys : List V} (hL : H L = some (.lst xs)) (a : Addr) (r : List Sep.Fld) (ne : a ≠ L) (h : DueAt H a r) : DueAt (upd H L (.lst ys)) a r := by
  obtain ⟨ts, h, q⟩ := h
  exact ⟨ts, by rw [upd_ne ne]; exact h, paired_mono (fun t f (ht : H t = _) => show upd H L (.lst ys) t = _ by rw [upd_ne (ne_of ht hL (by intro q; cases q))]; exact ht) q⟩
structure Out (H0 H : Hp) (R : Addr) (das : List Addr) (data : List (List Sep.Fld)) : Prop where
  same : Same H0 H
  r : H R = some (.lst (das.map V.ref))
  p : Paired (DueAt H) das data
  ne : ∀ d ∈ das, d ≠ R
  free : H0 R = none
theorem kp_same {p : Addr} {H0 H H' : Hp} (s : Same H0 H) (h0 : H0 p = none) (k : Kp p H H') : Same H0 H' := fun b o e => k.1 b o (ne_of_none e h0) (s b o e)
theorem Out.kp {H0 H H' : Hp} {R p : Addr} {das : List Addr} {data : List (List Sep.Fld)} (o : Out H0 H R das data) (d : Dr H p) (h0 : H0 p = none) (k : Kp p H H') : Out H0 H' R das data := by
  refine ⟨kp_same o.same h0 k, ?_, paired_mono (due_kp d k) o.p, o.ne, o.free⟩
  obtain ⟨z, hz⟩ := d
  exact k.1 _ _ (ne_of o.r hz refs_int) o.r
theorem Out.ext {H0 H H' : Hp} {R : Addr} {das : List Addr} {data : List (List Sep.Fld)} (o : Out H0 H R das data) (s : Same H H') : Out H0 H' R das data :=
  ⟨fun b u e => s b u (o.same b u e), s _ _ o.r, paired_mono (due_same s) o.p, o.ne, o.free⟩
theorem Out.mut {H0 H : Hp} {R L : Addr} {das : List Addr} {data : List (List Sep.Fld)} {xs ys : List V} (o : Out H0 H R das data) (hL : H L = some (.lst xs)) (h0 : H0 L = none) (hR : L ≠ R) (hd : ∀ d ∈ das, d ≠ L) : Out H0 (upd H L (.lst ys)) R das data :=
  ⟨same_mut o.same h0, by rw [upd_ne hR.symm]; exact o.r, paired_mem (fun d x hm h => due_upd hL d x (hd d hm) h) o.p, o.ne, o.free⟩
theorem paired_left {α β : Type} {F : α → β → Prop} : ∀ {l : List α} {m : List β} {a : α}, Paired F l m → a ∈ l → ∃ b, F a b
  | _, _, _, .nil, h => by simp at h
  | _, _, _, .cons r t, h => by
    rcases List.mem_cons.mp h with e | e
    · exact ⟨_, e ▸ r⟩
    · exact paired_left t e
theorem Out.live {H0 H : Hp} {R L : Addr} {das : List Addr} {data : List (List Sep.Fld)} (o : Out H0 H R das data) (hL : H L = none) : ∀ d ∈ das, d ≠ L := fun d hd => by
  obtain ⟨r, ts, h, _⟩ := paired_left o.p hd
  exact ne_of_none h hL
def DrRec (H : Hp) (L : Addr) (r : List Sep.Fld) (ts : List Addr) : Prop := H L = some (.lst (ts.map V.ref)) ∧ Paired (TupAt H) ts r
theorem DrRec.kp {p L : Addr} {H H' : Hp} {r : List Sep.Fld} {ts : List Addr} (h : DrRec H L r ts) (d : Dr H p) (k : Kp p H H') : DrRec H' L r ts := by
  obtain ⟨z, hz⟩ := d
  exact ⟨k.1 _ _ (ne_of h.1 hz refs_int) h.1, paired_mono (fun t f ht => k.1 _ _ (ne_of ht hz (by intro q; cases q)) ht) h.2⟩
theorem DrRec.ext {L : Addr} {H H' : Hp} {r : List Sep.Fld} {ts : List Addr} (h : DrRec H L r ts) (s : Same H H') : DrRec H' L r ts := ⟨s _ _ h.1, paired_mono (tupAt_same s) h.2⟩
theorem Dr.ext {p : Addr} {H H' : Hp} (d : Dr H p) (s : Same H H') : Dr H' p := by
  obtain ⟨z, h⟩ := d
  exact ⟨z, s _ _ h⟩
theorem mustM_ok {sep : Nat} {t : List Nat} {m : Bool} (h : m = true ∨ (m = mustM sep t)) : Sep.Okf sep (t, m) := by
  intro hm c hc
  have hm : m = false := hm
  rcases h with h | h
  · rw [hm] at h; cases h
  · rw [hm] at h
    have h2 : mustM sep t = false := h.symm
    unfold mustM at h2
    simp only [Bool.or_eq_false_iff, decide_eq_false_iff_not] at h2
    exact ⟨fun e => h2.1.1 (e ▸ hc), fun e => h2.2 (e ▸ hc), fun e => h2.1.2 (e ▸ hc)⟩
theorem enc_len {t : List Nat} {m : Bool} (h : t.length ≤ 5) : (Sep.enc t m).length ≤ 12 := by
  have := dbl_len t
  cases m <;> simp [Sep.enc] <;> omega
def spLaw (K : PySem.W.Frag) : Sp := fun vs H Q _ => ∃ (a : Addr) (ns : List Int), vs = [.ref a] ∧ SqL K H a (ns.map V.int) ∧ ns.length ≤ 63 ∧ ∀ H', Q (.bl true) H'
theorem eqvAll_dF : ∀ l m : List Sep.Fld, PyData.eqvAll (l.map dF) (m.map dF) = decide (l = m)
  | [], [] => by simp [PyData.eqvAll]
  | [], _ :: _ => by simp [PyData.eqvAll]
  | _ :: _, [] => by simp [PyData.eqvAll]
  | f :: l, g :: m => by
    simp only [List.map_cons, PyData.eqvAll, dF_eqv, eqvAll_dF l m]
    by_cases h1 : f = g <;> by_cases h2 : l = m <;> simp [h1, h2]
theorem dF_all {K : PySem.W.Frag} {H : Hp} : ∀ {ts : List Addr} {r : List Sep.Fld}, Paired (TupAt H) ts r → DpAll K H (ts.map V.ref) (r.map dF)
  | _, _, .nil => .nil
  | _, _, .cons h t => .cons (dF_dp h) (dF_all t)
theorem shaped_all {r : List Sep.Fld} (h : ∀ f ∈ r, Small f) : SeqAt.shaped (.list (r.map dF)) = true := by
  have h1 : ∀ r : List Sep.Fld, (∀ f ∈ r, Small f) → PyData.canLayAll0 (r.map dF) = true := fun r => by
    induction r with
    | nil => intro _; rfl
    | cons f r ih =>
      intro h
      have e := SeqAt.canLay_of_shaped (dF_shaped (h f (by simp)))
      rw [List.map_cons, PyData.canLayAll0, e, ih (fun x hx => h x (by simp [hx]))]
      rfl
  have h2 : ∀ r : List Sep.Fld, PyData.depthAll (r.map dF) ≤ 10 := fun r => by
    induction r with
    | nil => simp [PyData.depthAll]
    | cons f r ih => simp only [List.map_cons, PyData.depthAll]; simp [dF, PyData.depth, PyData.depthAll]; omega
  unfold SeqAt.shaped
  rw [Bool.and_eq_true]
  refine ⟨by rw [PyData.canLay0]; exact h1 r h, ?_⟩
  have := h2 r
  exact decide_eq_true (by simp only [PyData.depth]; omega)
end Sb
set_option Elab.async false
set_option maxRecDepth 100000
set_option maxHeartbeats 4000000
namespace Sb
open PySem PySem.Spec PyProof.Rows L2 SX
theorem offs_small {sep : Nat} : ∀ (fs : List (List Nat × Bool)) (o : Nat), (∀ p ∈ fs, ∀ c ∈ p.1, c < 128) → ∀ f ∈ Sep.offs sep o fs, Small f
  | [], _, _, f, h => by simp [Sep.offs] at h
  | p :: r, o, hs, f, h => by
    simp only [Sep.offs, List.mem_cons] at h
    rcases h with h | h
    · subst h
      exact fun c hc => Nat.lt_trans (hs p (by simp) c hc) (by decide)
    · exact offs_small r _ (fun q hq => hs q (by simp [hq])) f h
theorem offsT_small {sep : Nat} : ∀ (rs : List (List (List Nat × Bool))) (o : Nat), (∀ r ∈ rs, ∀ p ∈ r, ∀ c ∈ p.1, c < 128) → ∀ r ∈ Sep.offsT sep o rs, ∀ f ∈ r, Small f
  | [], _, _, r, h => by simp [Sep.offsT] at h
  | p :: r, o, hs, f, h => by
    simp only [Sep.offsT, List.mem_cons] at h
    rcases h with h | h
    · subst h
      exact offs_small p o (hs p (by simp))
    · exact offsT_small r _ (fun q hq => hs q (by simp [hq])) f h
theorem offs_len {sep : Nat} : ∀ (fs : List (List Nat × Bool)) (o : Nat), (Sep.offs sep o fs).length = fs.length
  | [], _ => rfl
  | p :: r, o => by simp [Sep.offs, offs_len r]
theorem offsT_lens {sep : Nat} {n : Nat} : ∀ (rs : List (List (List Nat × Bool))) (o : Nat), (∀ r ∈ rs, r.length ≤ n) → ∀ r ∈ Sep.offsT sep o rs, r.length ≤ n
  | [], _, _, r, h => by simp [Sep.offsT] at h
  | p :: r, o, hs, f, h => by
    simp only [Sep.offsT, List.mem_cons] at h
    rcases h with h | h
    · subst h; rw [offs_len]; exact hs p (by simp)
    · exact offsT_lens r _ (fun q hq => hs q (by simp [hq])) f h
/-- what holds ahead of the k-th record -/
structure Words (sep many k : Nat) (text : List Nat) (recs : List (List (List Nat × Bool))) : Prop where
  len : recs.length = k
  ok : ∀ r ∈ recs, Sep.Okr sep r
  small : ∀ r ∈ recs, ∀ p ∈ r, ∀ c ∈ p.1, c < 128
  lens : ∀ r ∈ recs, r.length ≤ 10
  size : text.length ≤ 200 * k
  shape : text = Sep.encT sep recs ∨ (k = many ∧ ∃ rs fs, recs = rs ++ [fs] ∧ fs ≠ [([], false)] ∧ text = Sep.encT sep rs ++ Sep.encR sep fs)

section
variable {P : Program} {w : World} {K : PySem.W.Frag} {mg : Str → Option Value} {base : Heap} {C fM fP : Addr}
theorem ok_law {f : Addr} {fd : FuncData} (F : Fun K "law" "law" s_law f fd) (T : Txt K mg C fM fP)
    (C__law_cell : Cal P w K mg base CX0 1 "_law_cell" (spCell K)) (C__law_state : Cal P w K mg base CX0 1 "_law_state" spState) (C__law_digit : Cal P w K mg base CX0 1 "_law_digit" spDigit)
    (C__law_field_text : Cal P w K mg base CX0 2 "_law_field_text" spField) (C__law_written : Cal P w K mg base CX0 1 "_law_written" spWritten) (C__law_must_mark : Cal P w K mg base CX0 1 "_law_must_mark" spMust)
    (C__law_same : Cal P w K mg base CX0 2 "_law_same" (spSame C)) (C_split_records : Cal P w K mg base CX0 4 "split_records" (spSplit C)) : FnOk P w K mg base CX0 5 f fd ["_law_script"] (spLaw K) := by
  refine F.ok sc_law (fun vs H Q E h => ?_) (fun cdv A outer s H vs Q E hr h => ?_)
  · obtain ⟨_, _, rfl, _⟩ := h
    rfl
  · obtain ⟨a, ns, rfl, hS, hns, kk⟩ := h
    refine ⟨_, (pss_cons (ps_set (i := 1) sc_law.nd rfl (Or.inl rfl) (pe_k C__law_state hr (by decide) (by rfl) pass0 (pa_cons (pe_k C__law_cell hr (by decide) (by rfl) pass0 (pa_cons (pv 0) (pa_cons pe_int pa_nil))) (pa_cons pe_int pa_nil))))
  (pss_cons (ps_set (i := 2) sc_law.nd rfl (Or.inl rfl) (pe_ix ix_tup (pe_tup (pa_cons pe_str (pa_cons pe_str (pa_cons pe_str pa_nil)))) (pe_k C__law_digit hr (by decide) (by rfl) pass0 (pa_cons (pv 1) (pa_cons pe_int pa_nil))) (fun _ _ => rfl)))
  (pss_cons (ps_set (i := 3) sc_law.nd rfl (Or.inl rfl) pe_str)
  (pss_cons (ps_set (i := 4) sc_law.nd rfl (Or.inl rfl) (pe_lst pa_nil))
  (pss_cons (ps_set (i := 5) sc_law.nd rfl (Or.inl rfl) (pe_callB (call_min2 rfl) (by rfl) T.n_min (by decide +kernel) (pa_cons pe_int (pa_cons (pe_callB call_len_seq (by rfl) T.n_len PySem.boot_len (pa_cons (pv 0) pa_nil)) pa_nil))))
  (pss_cons (ps_for PassesOwn.never rfl (pi_range1 rfl T.n_range (pa_cons (pv 5) pa_nil)) (pg_name (i := 6) sc_law.nd rfl (Or.inl rfl)) (pss_cons (ps_set (i := 1) sc_law.nd rfl (Or.inl rfl) (pe_k C__law_state hr (by decide) (by rfl) pass0 (pa_cons (pe_k C__law_cell hr (by decide) (by rfl) pass0 (pa_cons (pv 0) (pa_cons (pv 6) pa_nil))) (pa_cons (pe_op op_add pe_int (pv 6)) pa_nil))))
  (pss_cons (ps_set (i := 7) sc_law.nd rfl (Or.inl rfl) (pe_lst pa_nil))
  (pss_cons (ps_for PassesOwn.never rfl (pi_range1 rfl T.n_range (pa_cons (pe_op op_add pe_int (pe_k C__law_digit hr (by decide) (by rfl) pass0 (pa_cons (pv 1) (pa_cons pe_int pa_nil)))) pa_nil)) (pg_name (i := 8) sc_law.nd rfl (Or.inl rfl)) (C8.pss_cut (ps_if (pt_cmpR op_gt (pv 8) pe_int (nomark _)) (pss_one (ps_set (i := 3) sc_law.nd rfl (Or.inl rfl) (pe_op op_add_str (pv 3) (pv 2)))) pss_nil)
  (pss_cons (ps_set (i := 9) sc_law.nd rfl (Or.inl rfl) (pe_k C__law_field_text hr (by decide) (by rfl) pass0 (pa_cons (pv 1) pa_nil)))
  (C8.pss_cut (ps_set (i := 10) sc_law.nd rfl (Or.inl rfl) (pe_or (pe_k C__law_must_mark hr (by decide) (by rfl) pass0 (pa_cons (pv 9) (pa_cons (pv 2) pa_nil))) (pe_one (pe_cmpR op_eq (pe_k C__law_digit hr (by decide) (by rfl) pass0 (pa_cons (pv 1) (pa_cons pe_int pa_nil))) pe_int (nomark _)))))
  (pss_cons (ps_expr (pe_bm PySem.F.plainAttrs_list PySem.F.slot_list_append PySem.F.type_list_append mt_append (pv 7) (pa_cons (pe_tup (pa_cons (pv 9) (pa_cons (pe_callB call_len_str (by rfl) T.n_len PySem.boot_len (pa_cons (pv 3) pa_nil)) (pa_cons (pv 10) pa_nil)))) pa_nil)))
  (pss_one (ps_set (i := 3) sc_law.nd rfl (Or.inl rfl) (pe_op op_add_str (pv 3) (pe_k C__law_written hr (by decide) (by rfl) pass0 (pa_cons (pv 9) (pa_cons (pv 2) (pa_cons (pv 10) pa_nil))))))))))))
  (pss_cons (ps_expr (pe_bm PySem.F.plainAttrs_list PySem.F.slot_list_append PySem.F.type_list_append mt_append (pv 4) (pa_cons (pv 7) pa_nil)))
  (pss_one (ps_if (PW.pt (pw_or (pt_cmpR op_lt (pv 6) (pe_op op_sub (pv 5) pe_int) (nomark _)) (pw_or (pt_cmpR op_eq (pe_k C__law_digit hr (by decide) (by rfl) pass0 (pa_cons (pv 1) (pa_cons pe_int pa_nil))) pe_int (nomark _)) (pw_or1 (pt_cmpR (op_eqD hr.units) (pv 7) (pe_lst (pa_cons (pe_tup (pa_cons pe_str (pa_cons (pe_ix ix_tup (pe_ix ix_list (pv 7) pe_int (fun _ _ => rfl)) pe_int (fun _ _ => rfl)) (pa_cons pe_bl pa_nil)))) pa_nil)) (nomark _)))))) (pss_one (ps_set (i := 3) sc_law.nd rfl (Or.inl rfl) (pe_op op_add_str (pv 3) pe_str))) pss_nil)))))))
  (pss_cons (ps_if (pt_not (pt_val (pe_k C__law_same hr (by decide) (by rfl) pass0 (pa_cons (pe_k C_split_records hr (by decide) (by rfl) pass0 (pa_cons (pv 3) (pa_cons (pv 2) pa_nil))) (pa_cons (pv 4) pa_nil))))) (pss_one (ps_ret pe_bl)) pss_nil)
  (pss_cons (ps_if (pt_not (pt_val (pe_k C__law_same hr (by decide) (by rfl) pass0 (pa_cons (pe_k C_split_records hr (by decide) (by rfl) pass0 (pa_cons (pe_op op_add_str (pv 3) pe_str) (pa_cons (pv 2) pa_nil))) (pa_cons (pe_op op_cat (pv 4) (pe_lst (pa_cons (pe_lst (pa_cons (pe_tup (pa_cons pe_str (pa_cons (pe_callB call_len_str (by rfl) T.n_len PySem.boot_len (pa_cons (pv 3) pa_nil)) (pa_cons pe_bl pa_nil)))) pa_nil)) pa_nil))) pa_nil))))) (pss_one (ps_ret (pe_and (pe_cmpR op_ne (pe_slice sl_str (pv 3) (po_some (pe_op op_sub (pe_callB call_len_str (by rfl) T.n_len PySem.boot_len (pa_cons (pv 3) pa_nil)) pe_int)) po_none) pe_str (nomark _)) (pe_one (pe_cmpR op_gt (pe_callB call_len_str (by rfl) T.n_len PySem.boot_len (pa_cons (pv 3) pa_nil)) pe_int (nomark _)))))) pss_nil)
  (pss_one (ps_ret (pe_k C__law_same hr (by decide) (by rfl) pass0 (pa_cons (pe_k C_split_records hr (by decide) (by rfl) pass0 (pa_cons pe_str (pa_cons (pv 2) pa_nil))) (pa_cons (pe_lst pa_nil) pa_nil))))))))))))), ?_⟩
    -- the first state
    refine ⟨_, rfl, a, ns, 0, rfl, hS, fun z0 => ⟨z0, 0, rfl, fun p0 y0 hp0 => ?_⟩⟩
    have dr0 : Dr (upd H p0 (.lst [.int y0])) p0 := ⟨_, upd_same⟩
    -- the separator
    refine ⟨lt_sz (show 3 ≤ 200000 by decide), fun t0 ht0 => ?_⟩
    have s0 := same_new (o := .tup [.str (Str.ofString ","), .str (Str.ofString ";"), .str (Str.ofString " ")]) ht0
    refine ⟨_, rfl, p0, 3, rfl, dr0.ext s0, by decide, by decide, fun d H1 d0 d1 k1 => ?_⟩
    have np : t0 ≠ p0 := (ne_of_none (show (upd H p0 (.lst [.int y0])) p0 = some _ from upd_same) ht0).symm
    have hT1 : H1 t0 = some (.tup [.str (Str.ofString ","), .str (Str.ofString ";"), .str (Str.ofString " ")]) := k1.1 _ _ np upd_same
    obtain ⟨sep, hsep, hatI⟩ : ∃ sep : Nat, (sep ≠ 34 ∧ sep ≠ 10) ∧ atI [V.str (Str.ofString ","), V.str (Str.ofString ";"), V.str (Str.ofString " ")] d = some (V.str (S [sep])) := by
      have e1 : (Str.ofString ",") = S [44] := by decide +kernel
      have e2 : (Str.ofString ";") = S [59] := by decide +kernel
      have e3 : (Str.ofString " ") = S [32] := by decide +kernel
      rw [e1, e2, e3]
      have : d = 0 ∨ d = 1 ∨ d = 2 := by omega
      rcases this with rfl | rfl | rfl
      · exact ⟨44, by decide, rfl⟩
      · exact ⟨59, by decide, rfl⟩
      · exact ⟨32, by decide, rfl⟩
    refine ⟨t0, _, _, _, rfl, rfl, seqT hT1, hatI, ?_⟩
    have sH1 : Same H H1 := kp_same (fun b o e => s0 b o (same_new hp0 b o e)) hp0 k1
    -- text, records, many
    refine ⟨Nat.zero_le _, fun R hR => ?_⟩
    rw [c_nil]
    have hR0 : H R = none := Same.free sH1 hR
    have hS2 : SqL K (upd H1 R (.lst [])) a (ns.map V.int) := (same_mut sH1 hR0).seq hS
    refine ⟨_, rfl, a, _, rfl, .inl hS2, _, _, rfl, ?_⟩
    rw [List.length_map]
    obtain ⟨many, hmany, emany⟩ : ∃ many : Nat, many ≤ 8 ∧ (if ((ns.length : Nat) : Int) < 8 then ((ns.length : Nat) : Int) else 8) = (many : Int) := by
      by_cases h : ((ns.length : Nat) : Int) < 8
      · exact ⟨ns.length, by omega, if_pos h⟩
      · exact ⟨8, by omega, if_neg h⟩
    rw [emany]
    refine ⟨_, rfl, _, rfl, by omega, by omega, for_range (lo := 0) (n := many) (fun i σ H' => ∃ (text : List Nat) (recs : List (List (List Nat × Bool))) (das : List Addr) (x1 x6 x7 x8 x9 x10 : Option V), σ = [some (.ref a), x1, some (.str (S [sep])), some (.str (S text)), some (.ref R), some (.int (many : Int)), x6, x7, x8, x9, x10] ∧ Words sep many i text recs ∧ Out H H' R das (Sep.offsT sep 0 recs))
      ⟨[], [], [], _, _, _, _, _, _, rfl, ⟨rfl, by simp, by simp, by simp, by simp, .inl rfl⟩, ⟨same_mut sH1 hR0, upd_same, .nil, by simp, hR0⟩⟩ ?_ ?_⟩
    · rintro i σ H2 hi ⟨text, recs, das, x1, x6, x7, x8, x9, x10, rfl, W, O⟩
      have e0 : (0 : Int) + (i : Int) = (i : Int) := Int.zero_add _
      show tSeq _ _ _ [some (.ref a), x1, some (.str (S [sep])), some (.str (S text)), some (.ref R), some (.int (many : Int)), some (.int ((0 : Int) + (i : Int))), x7, x8, x9, x10] H2
      rw [e0]
      have hshape : text = Sep.encT sep recs := by
        rcases W.shape with h | ⟨h, _⟩
        · exact h
        · omega
      refine ⟨_, rfl, _, rfl, a, ns, i, rfl, O.same.seq hS, fun z1 => ⟨_, rfl, _, _, rfl, rfl, z1, _, rfl, fun st y1 hst => ?_⟩⟩
      have hst0 : H st = none := O.same.free hst
      have O2 := O.ext (same_new (o := .lst [.int y1]) hst)
      have drS : Dr (upd H2 st (.lst [.int y1])) st := ⟨_, upd_same⟩
      refine ⟨Nat.zero_le _, fun L hL => ?_⟩
      have hL0 : H L = none := O2.same.free hL
      have nLR : L ≠ R := (ne_of_none O2.r hL).symm
      have nLd := O2.live hL
      have O3 := O2.ext (same_new (o := .lst []) hL)
      have drS3 := drS.ext (same_new (o := .lst []) hL)
      refine ⟨_, rfl, st, 5, rfl, drS3, by decide, by decide, fun d5 H5 d50 d51 k5 => ?_⟩
      have O5 := O3.kp drS3 hst0 k5
      have R5 : DrRec H5 L [] [] := DrRec.kp (H := upd (upd H2 st (.lst [.int y1])) L (.lst [])) ⟨upd_same, .nil⟩ drS3 k5
      refine ⟨_, _, rfl, rfl, _, rfl, by omega, by omega, for_range (lo := 0) (n := (1 + d5).toNat) (fun j σ H' => ∃ (text2 : List Nat) (fs : List (List Nat × Bool)) (ts : List Addr) (x8 x9 x10 : Option V), σ = [some (.ref a), some (.ref st), some (.str (S [sep])), some (.str (S text2)), some (.ref R), some (.int (many : Int)), some (.int (i : Int)), some (.ref L), x8, x9, x10] ∧
          fs.length = j ∧ (∀ p ∈ fs, Sep.Okf sep p ∧ ∀ c ∈ p.1, c < 128) ∧ text2 = text ++ Sep.encR sep fs ∧ text2.length ≤ 200 * i + 20 * j ∧ Out H H' R das (Sep.offsT sep 0 recs) ∧ DrRec H' L (Sep.offs sep text.length fs) ts ∧ Dr H' st)
        ⟨text, [], [], x8, x9, x10, rfl, rfl, by simp, by simp [Sep.encR], by have := W.size; omega, O5, R5, k5.dr⟩ ?_ ?_⟩
      · rintro j σ H6 hj ⟨text2, fs, ts, y8, y9, y10, rfl, hfl, hfo, ht2, hts, O6, R6, D6⟩
        have e1 : (0 : Int) + (j : Int) = (j : Int) := Int.zero_add _
        show C8.tCut _ _ _ [some (.ref a), some (.ref st), some (.str (S [sep])), some (.str (S text2)), some (.ref R), some (.int (many : Int)), some (.int (i : Int)), some (.ref L), some (.int ((0 : Int) + (j : Int))), y9, y10] H6
        rw [e1]
        refine ⟨fun σ' H' => σ' = [some (.ref a), some (.ref st), some (.str (S [sep])), some (.str (S (if 0 < j then text2 ++ [sep] else text2))), some (.ref R), some (.int (many : Int)), some (.int (i : Int)), some (.ref L), some (.int (j : Int)), y9, y10] ∧ H' = H6, ?_, ?_⟩
        · refine ⟨_, rfl, _, _, rfl, rfl, _, rfl, ?_⟩
          refine ite2 (fun h => ?_) (fun h => ?_)
          · have hj0 : 0 < j := by have := of_decide_eq_true h; omega
            refine ⟨_, rfl, _, rfl, _, _, rfl, rfl, by rw [S_len, S_len]; exact lt_sz (by simp; omega), ?_⟩
            rw [S_cat]
            exact ⟨by rw [if_pos hj0]; rfl, rfl⟩
          · have hj0 : ¬ 0 < j := fun q => h (decide_eq_true (by omega))
            exact ⟨by rw [if_neg hj0], rfl⟩
        rintro _ _ ⟨rfl, rfl⟩
        obtain ⟨text3, ht3⟩ : ∃ t, t = (if 0 < j then text2 ++ [sep] else text2) := ⟨_, rfl⟩
        rw [← ht3]
        have hl3 : text3.length ≤ text2.length + 1 := by rw [ht3]; split <;> simp
        refine ⟨_, rfl, st, rfl, D6, fun fld H7 hfl5 hf128 k7 => ?_⟩
        refine ⟨fun σ' H' => ∃ m : Bool, σ' = [some (.ref a), some (.ref st), some (.str (S [sep])), some (.str (S text3)), some (.ref R), some (.int (many : Int)), some (.int (i : Int)), some (.ref L), some (.int (j : Int)), some (.str (S fld)), some (.bl m)] ∧ Kp st H7 H' ∧ (m = true ∨ m = mustM sep fld), ?_, ?_⟩
        · refine ⟨_, rfl, _, rfl, fld, sep, rfl, _, rfl, ?_⟩
          refine ite2 (fun h => ?_) (fun h => ?_)
          · exact ⟨true, rfl, .refl k7.dr, .inl rfl⟩
          · refine ⟨_, rfl, st, 4, rfl, k7.dr, by decide, by decide, fun d4 H8 d40 d41 k8 => ?_⟩
            refine ⟨rfl, _, rfl, k8, ?_⟩
            by_cases hd : d4 = 0
            · exact .inl (by rw [hd]; rfl)
            · refine .inr ?_
              rw [Bool.not_eq_true] at h
              rw [h]
              exact decide_eq_false (fun q => hd (by injection q))
        rintro _ H8 ⟨m, rfl, k8, hm⟩
        have k68 := k7.trans k8
        have O8 := O6.kp D6 hst0 k68
        have R8 := R6.kp D6 k68
        have hok := mustM_ok hm
        refine ⟨_, rfl, .inl ⟨rfl, _, seqL R8.1⟩, _, rfl, _, rfl, _, rfl, by rw [S_len]; exact lt_sz (by omega), _, rfl, lt_sz (show 3 ≤ 200000 by decide), fun tp htp => ?_⟩
        rw [S_len]
        have s9 := same_new (o := .tup [.str (S fld), .int (text3.length : Int), .bl m]) htp
        have O9 := O8.ext s9
        have R9 := R8.ext s9
        have D9 := k8.dr.ext s9
        have hLd : L ≠ st := by
          obtain ⟨z, hz⟩ := D9
          exact ne_of R9.1 hz refs_int
        refine ⟨L, _, _, rfl, rfl, R9.1, by rw [List.length_map, paired_len R9.2, offs_len]; exact lt_sz' (by omega), ?_⟩
        have O10 := O9.mut (ys := ts.map V.ref ++ [.ref tp]) R9.1 hL0 nLR nLd
        have tpL : tp ≠ L := (ne_of_none R8.1 htp).symm
        have R10 : DrRec (upd (upd H8 tp (.tup [.str (S fld), .int (text3.length : Int), .bl m])) L (.lst (ts.map V.ref ++ [.ref tp]))) L (Sep.offs sep text.length fs ++ [⟨fld, text3.length, m⟩]) (ts ++ [tp]) := by
          refine ⟨by rw [upd_same, List.map_append]; rfl, Paired.snoc ?_ ?_⟩
          · exact paired_mono (fun t f (ht : _ = _) => show upd _ L _ t = _ by rw [upd_ne (ne_of ht R9.1 (by intro q; cases q))]; exact ht) R9.2
          · show upd _ L _ tp = _
            rw [upd_ne tpL, upd_same]
        have D10 : Dr (upd (upd H8 tp (.tup [.str (S fld), .int (text3.length : Int), .bl m])) L (.lst (ts.map V.ref ++ [.ref tp]))) st := by
          obtain ⟨z, hz⟩ := D9
          exact ⟨z, by rw [upd_ne hLd.symm]; exact hz⟩
        refine ⟨_, rfl, _, rfl, _, rfl, _, rfl, fld, _, m, rfl, by omega, fun H11 s11 => ?_⟩
        have hel := enc_len (m := m) hfl5
        refine ⟨_, _, rfl, rfl, by rw [S_len, S_len]; exact lt_sz (by omega), ?_⟩
        rw [S_cat]
        have hoff : Sep.offs sep text.length (fs ++ [(fld, m)]) = Sep.offs sep text.length fs ++ [⟨fld, text3.length, m⟩] ∧ text3 ++ Sep.enc fld m = text ++ Sep.encR sep (fs ++ [(fld, m)]) := by
          by_cases hj0 : 0 < j
          · have hne : fs ≠ [] := fun q => by rw [q] at hfl; simp at hfl; omega
            rw [if_pos hj0] at ht3
            rw [Sep.offs_snoc sep fs _ _ hne, Sep.encR_snoc sep fs _ hne, ht3, ht2]
            refine ⟨by simp [Nat.add_assoc], by simp⟩
          · have hne : fs = [] := by cases fs with | nil => rfl | cons x y => simp at hfl; omega
            rw [if_neg hj0] at ht3
            rw [hne, ht3, ht2, hne]
            simp [Sep.offs, Sep.encR]
        refine ⟨text3 ++ Sep.enc fld m, fs ++ [(fld, m)], ts ++ [tp], _, _, _, rfl, by simp [hfl], ?_, hoff.2, by rw [List.length_append]; omega, O10.ext s11, by rw [hoff.1]; exact R10.ext s11, D10.ext s11⟩
        intro p hp
        rcases List.mem_append.mp hp with h | h
        · exact hfo p h
        · have : p = (fld, m) := by simpa using h
          rw [this]
          exact ⟨hok, hf128⟩
      · rintro σ H6 ⟨text2, fs, ts, y8, y9, y10, rfl, hfl, hfo, ht2, hts, O6, R6, D6⟩
        have hne : fs ≠ [] := fun q => by rw [q] at hfl; simp at hfl; omega
        have hfl10 : fs.length ≤ 10 := by omega
        -- records.append(record)
        refine ⟨_, rfl, .inl ⟨rfl, _, seqL O6.r⟩, _, rfl, R, _, _, rfl, rfl, O6.r, by rw [List.length_map, paired_len O6.p, Sep.offsT_len, W.len]; exact lt_sz' (by omega), ?_⟩
        have dataN : Sep.offsT sep 0 (recs ++ [fs]) = Sep.offsT sep 0 recs ++ [Sep.offs sep text.length fs] := by
          rw [Sep.offsT_snoc, Nat.zero_add, hshape]
        obtain ⟨H7, eH7⟩ : ∃ H7, H7 = upd H6 R (.lst (das.map V.ref ++ [.ref L])) := ⟨_, rfl⟩
        rw [← eH7]
        have hLR6 := R6.1
        have R7 : DrRec H7 L (Sep.offs sep text.length fs) ts := by
          rw [eH7]
          refine ⟨by rw [upd_ne nLR]; exact R6.1, paired_mono (fun t f (ht : _ = _) => show upd _ R _ t = _ by rw [upd_ne (ne_of ht O6.r (by intro q; cases q))]; exact ht) R6.2⟩
        have O7 : Out H H7 R (das ++ [L]) (Sep.offsT sep 0 (recs ++ [fs])) := by
          rw [dataN]
          refine ⟨by rw [eH7]; exact same_mut O6.same O6.free, by rw [eH7, upd_same, List.map_append]; rfl, Paired.snoc ?_ ⟨ts, R7⟩, ?_, O6.free⟩
          · rw [eH7]
            exact paired_mem (fun d x hm h => due_upd O6.r d x (O6.ne d hm) h) O6.p
          · intro d hd
            rcases List.mem_append.mp hd with h | h
            · exact O6.ne d h
            · have : d = L := by simpa using h
              rw [this]; exact nLR
        have D7 : Dr H7 st := by
          obtain ⟨z, hz⟩ := D6
          exact ⟨z, by rw [eH7, upd_ne (ne_of O6.r hz refs_int).symm]; exact hz⟩
        have okN : ∀ r ∈ recs ++ [fs], Sep.Okr sep r := by
          intro r hr
          rcases List.mem_append.mp hr with h | h
          · exact W.ok r h
          · have : r = fs := by simpa using h
            rw [this]; exact ⟨hne, fun p hp => (hfo p hp).1⟩
        have smN : ∀ r ∈ recs ++ [fs], ∀ p ∈ r, ∀ c ∈ p.1, c < 128 := by
          intro r hr
          rcases List.mem_append.mp hr with h | h
          · exact W.small r h
          · have : r = fs := by simpa using h
            rw [this]; exact fun p hp => (hfo p hp).2
        have lnN : ∀ r ∈ recs ++ [fs], r.length ≤ 10 := by
          intro r hr
          rcases List.mem_append.mp hr with h | h
          · exact W.lens r h
          · have : r = fs := by simpa using h
            rw [this]; exact hfl10
        have hsz2 : text2.length ≤ 200 * i + 120 := by omega
        -- with the line feed behind
        have hthen : ∀ H8, Out H H8 R (das ++ [L]) (Sep.offsT sep 0 (recs ++ [fs])) → tAsg (tOp (fun x y H Q => ∃ i j, x = .str i ∧ y = .str j ∧ i.length + j.length ≤ sizeLine ∧ Q (.str (i ++ j)) H) (tVar 3) (tC (.str (Str.ofString "\n")))) (gName 3) { nx := fun σ H' => ∃ (text : List Nat) (recs : List (List (List Nat × Bool))) (das : List Addr) (x1 x6 x7 x8 x9 x10 : Option V), σ = [some (.ref a), x1, some (.str (S [sep])), some (.str (S text)), some (.ref R), some (.int (many : Int)), x6, x7, x8, x9, x10] ∧ Words sep many (i + 1) text recs ∧ Out H H' R das (Sep.offsT sep 0 recs), rt := Q } [some (.ref a), some (.ref st), some (.str (S [sep])), some (.str (S text2)), some (.ref R), some (.int (many : Int)), some (.int (i : Int)), some (.ref L), y8, y9, y10] H8 := by
          intro H8 O8
          refine ⟨_, rfl, _, _, rfl, rfl, by rw [c_nl, S_len, S_len]; exact lt_sz (show text2.length + 1 ≤ 200000 by omega), ?_⟩
          rw [c_nl, S_cat]
          refine ⟨text2 ++ [10], recs ++ [fs], das ++ [L], _, _, _, _, _, _, rfl, ⟨by simp [W.len], okN, smN, lnN, by simp; omega, .inl ?_⟩, O8⟩
          rw [Sep.encT_snoc, ht2, hshape]
          simp
        refine ⟨_, rfl, _, rfl, _, _, rfl, rfl, _, _, rfl, rfl, _, rfl, ?_⟩
        refine ite2 (fun _ => ?_) (fun hlast => ?_)
        · exact iteT (hthen H7 O7)
        have hmany1 : i + 1 = many := by
          have : ¬ ((i : Int) < (many : Int) - 1) := fun q => hlast (decide_eq_true q)
          omega
        refine ⟨_, rfl, st, 2, rfl, D7, by decide, by decide, fun d2 H8 d20 d21 k8 => ?_⟩
        have O8 := O7.kp D7 hst0 k8
        have R8 := R7.kp D7 k8
        refine ⟨rfl, _, rfl, ?_⟩
        refine ite2 (fun _ => ?_) (fun _ => ?_)
        · exact iteT (hthen H8 O8)
        -- record == [("", record[0][1], False)]
        obtain ⟨p0', fs', hfs⟩ : ∃ p r, fs = p :: r := by cases fs with | nil => exact absurd rfl hne | cons p r => exact ⟨p, r, rfl⟩
        have hoffs : (Sep.offs sep text.length fs)[0]? = some ⟨p0'.1, text.length, p0'.2⟩ := by rw [hfs]; rfl
        obtain ⟨t1, ht1, ht1u⟩ := paired_get R8.2 hoffs
        refine ⟨_, rfl, _, rfl, L, _, _, _, rfl, rfl, seqL R8.1, (show atI _ ((0 : Nat) : Int) = _ from atI_nat (getRef ht1)), t1, _, _, _, rfl, rfl, seqT ht1u, rfl, ?_⟩
        refine ⟨lt_sz (show 3 ≤ 200000 by decide), fun q1 hq1 => ⟨lt_sz (show 1 ≤ 200000 by decide), fun q2 hq2 => ?_⟩⟩
        have s81 := same_new (o := .tup [.str (S []), .int (text.length : Int), .bl false]) hq1
        have s82 := same_new (o := .lst [.ref q1]) hq2
        have O10 := (O8.ext s81).ext s82
        have R10 := (R8.ext s81).ext s82
        have hq1' : TupAt (upd (upd H8 q1 (.tup [.str (S []), .int (text.length : Int), .bl false])) q2 (.lst [.ref q1])) q1 ⟨[], text.length, false⟩ := by
          show _ = _
          exact s82 _ _ upd_same
        refine ⟨.list ((Sep.offs sep text.length fs).map dF), .list ([⟨[], text.length, false⟩].map dF), .lst (seqL R10.1) (dF_all R10.2), .lst (seqL upd_same) (.cons (dF_dp hq1') .nil), shaped_all (offs_small fs _ fun p hp => (hfo p hp).2), shaped_all (by simp [Small]), _, rfl, ?_⟩
        rw [show PyData.eqv (.list ((Sep.offs sep text.length fs).map dF)) (.list ([⟨[], text.length, false⟩].map dF)) = PyData.eqvAll ((Sep.offs sep text.length fs).map dF) ([⟨[], text.length, false⟩].map dF) from by rw [PyData.eqv], eqvAll_dF]
        refine ite2 (fun _ => ?_) (fun hne2 => ?_)
        · exact hthen _ O10
        · refine ⟨text2, recs ++ [fs], das ++ [L], _, _, _, _, _, _, rfl, ⟨by simp [W.len], okN, smN, lnN, by omega, .inr ⟨hmany1, recs, fs, rfl, fun q => hne2 ?_, by rw [ht2, hshape]⟩⟩, O10⟩
          rw [q]
          exact decide_eq_true rfl
    · rintro σ H2 ⟨text, recs, das, x1, x6, x7, x8, x9, x10, rfl, W, O⟩
      have hsz := W.size
      have htl : text.length ≤ 2000 := by omega
      obtain ⟨ans1, hsp1, hdue⟩ : ∃ ans, Sep.split sep text = .ok ans ∧ ans = Sep.offsT sep 0 recs := by
        rcases W.shape with h | ⟨_, rs, fs, h1, h2, h3⟩
        · exact ⟨_, by rw [h]; exact Sep.split_enc sep hsep.1 hsep.2 recs W.ok, rfl⟩
        · have hr : Sep.Okr sep fs := W.ok fs (by rw [h1]; simp)
          obtain ⟨x, c, e, _⟩ := Sep.encR_last sep hsep.2 fs hr.1 hr.2 h2
          exact ⟨_, by rw [h3]; exact Sep.split_enc2 sep hsep.1 hsep.2 rs fs (fun r hr => W.ok r (by rw [h1]; simp [hr])) hr (by rw [e]; simp), by rw [h1]⟩
      subst hdue
      have sml := offsT_small (sep := sep) recs 0 W.small
      have lns := offsT_lens (sep := sep) recs 0 W.lens
      have lnr : (Sep.offsT sep 0 recs).length ≤ 8 := by rw [Sep.offsT_len, W.len]; exact hmany
      refine ⟨_, rfl, _, rfl, text, sep, _, rfl, by omega, hsp1, fun H3 p1 hp1 hR3 s3 => ?_⟩
      have O3 := O.ext s3
      refine ⟨_, rfl, p1, R, _, _, rfl, hR3, ⟨das, O3.r, O3.p⟩, by omega, fun r hr => Nat.le_trans (lns r hr) (by decide), sml, sml, fun H4 s4 => ?_⟩
      rw [decide_eq_true rfl]
      refine ⟨true, rfl, iteF ?_⟩
      have O4 := O3.ext s4
      have hthird : ∀ H6, Same H H6 → tRet (tCall (spSame C) [] E0 (tCons (tCall (spSplit C) [] E0 (tCons (tC (.str (S []))) (tCons (tVar 2) tNil))) (tCons (tLst tNil) tNil))) { nx := fun _ H' => Q .non H', rt := Q } [some (.ref a), x1, some (.str (S [sep])), some (.str (S text)), some (.ref R), some (.int (many : Int)), x6, x7, x8, x9, x10] H6 := by
        intro H6 s6
        refine ⟨_, rfl, [], sep, [], rfl, by decide, by simp [Sep.split, Sep.spl], fun H7 p7 hp7 hR7 s7 => ⟨Nat.zero_le _, fun q8 hq8 => ?_⟩⟩
        refine ⟨p7, q8, [], [], rfl, recs_same (same_new hq8) _ _ hR7, ⟨[], upd_same, .nil⟩, by decide, by simp, by simp, by simp, fun H9 s9 => ?_⟩
        exact kk _
      -- behind the text with one more line feed
      obtain ⟨recs2, sm2, hsp2, hcase⟩ : ∃ recs2 : List (List (List Nat × Bool)), (∀ r ∈ recs2, ∀ p ∈ r, ∀ c ∈ p.1, c < 128) ∧ Sep.split sep (text ++ [10]) = .ok (Sep.offsT sep 0 recs2) ∧
          ((Sep.offsT sep 0 recs2 = Sep.offsT sep 0 recs ++ [[⟨[], text.length, false⟩]]) ∨ (Sep.offsT sep 0 recs2 ≠ Sep.offsT sep 0 recs ++ [[⟨[], text.length, false⟩]] ∧ ∃ x c, text = x ++ [c] ∧ c ≠ 10)) := by
        rcases W.shape with h | ⟨_, rs, fs, h1, h2, h3⟩
        · refine ⟨recs ++ [[([], false)]], ?_, ?_, .inl ?_⟩
          · intro r hr
            rcases List.mem_append.mp hr with h | h
            · exact W.small r h
            · have : r = [([], false)] := by simpa using h
              rw [this]; simp
          · have e : text ++ [10] = Sep.encT sep (recs ++ [[([], false)]]) := by rw [Sep.encT_snoc, h]; simp [Sep.encR, Sep.enc]
            rw [e]
            refine Sep.split_enc sep hsep.1 hsep.2 _ ?_
            intro r hr
            rcases List.mem_append.mp hr with h | h
            · exact W.ok r h
            · have : r = [([], false)] := by simpa using h
              rw [this]
              exact ⟨by simp, fun p hp => by
                have : p = ([], false) := by simpa using hp
                rw [this]
                intro _ c hc
                simp at hc⟩
          · rw [Sep.offsT_snoc, h]
            simp [Sep.offs]
        · have hr : Sep.Okr sep fs := W.ok fs (by rw [h1]; simp)
          obtain ⟨x, c, e, hc⟩ := Sep.encR_last sep hsep.2 fs hr.1 hr.2 h2
          refine ⟨recs, W.small, ?_, .inr ⟨?_, Sep.encT sep rs ++ x, c, by rw [h3, e]; simp, hc⟩⟩
          · have e : text ++ [10] = Sep.encT sep recs := by rw [h1, Sep.encT_snoc, h3]; simp
            rw [e]
            exact Sep.split_enc sep hsep.1 hsep.2 _ W.ok
          · intro q
            have := congrArg List.length q
            simp at this
      refine ⟨_, rfl, _, _, rfl, rfl, by rw [c_nl, S_len, S_len]; exact lt_sz (show text.length + 1 ≤ 200000 by omega), ?_⟩
      rw [c_nl, S_cat]
      refine ⟨_, rfl, text ++ [10], sep, _, rfl, by simp; omega, hsp2, fun H5 p5 hp5 hR5 s5 => ?_⟩
      have O5 := O4.ext s5
      refine ⟨_, rfl, _, rfl, _, rfl, by rw [S_len]; exact lt_sz (by omega), lt_sz (show 3 ≤ 200000 by decide), fun q1 hq1 => ⟨lt_sz (show 1 ≤ 200000 by decide), fun q2 hq2 => ⟨lt_sz (show 1 ≤ 200000 by decide), fun q3 hq3 => ?_⟩⟩⟩
      rw [S_len] at hq2 hq3 ⊢
      have s51 := same_new (o := .tup [.str (S []), .int (text.length : Int), .bl false]) hq1
      have s52 := same_new (o := .lst [.ref q1]) hq2
      have s53 := same_new (o := .lst [.ref q2]) hq3
      have O6 := ((O5.ext s51).ext s52).ext s53
      refine ⟨R, q3, _, _, rfl, rfl, O6.r, upd_same, ?_, fun q4 hq4 => ?_⟩
      · rw [List.length_map, paired_len O6.p]
        exact lt_sz (show _ + 1 ≤ 200000 by omega)
      have s54 := same_new (o := .lst (das.map V.ref ++ [.ref q2])) hq4
      have O7 := O6.ext s54
      have hT1 : TupAt (upd (upd (upd (upd H5 q1 (.tup [.str (S []), .int (text.length : Int), .bl false])) q2 (.lst [.ref q1])) q3 (.lst [.ref q2])) q4 (.lst (das.map V.ref ++ [.ref q2]))) q1 ⟨[], text.length, false⟩ := s54 _ _ (s53 _ _ (s52 _ _ upd_same))
      have hT2 : DueAt (upd (upd (upd (upd H5 q1 (.tup [.str (S []), .int (text.length : Int), .bl false])) q2 (.lst [.ref q1])) q3 (.lst [.ref q2])) q4 (.lst (das.map V.ref ++ [.ref q2]))) q2 [⟨[], text.length, false⟩] := ⟨[q1], s54 _ _ (s53 _ _ upd_same), .cons hT1 .nil⟩
      refine ⟨p5, q4, _, Sep.offsT sep 0 recs ++ [[⟨[], text.length, false⟩]], rfl, recs_same (fun b o e => s54 b o (s53 b o (s52 b o (s51 b o e)))) _ _ hR5, ⟨das ++ [q2], by rw [upd_same, List.map_append]; rfl, Paired.snoc O7.p hT2⟩, by simp; omega, ?_, offsT_small recs2 0 sm2, ?_, fun H8 s8 => ?_⟩
      · intro r hr
        rcases List.mem_append.mp hr with h | h
        · exact Nat.le_trans (lns r h) (by decide)
        · have : r = [⟨[], text.length, false⟩] := by simpa using h
          rw [this]; exact (show 1 ≤ 100000 by decide)
      · intro r hr
        rcases List.mem_append.mp hr with h | h
        · exact sml r h
        · have : r = [⟨[], text.length, false⟩] := by simpa using h
          rw [this]; simp [Small]
      · rcases hcase with h | ⟨h, x, c, hx, hc⟩
        · rw [decide_eq_true h]
          refine ⟨true, rfl, iteF ?_⟩
          exact hthird _ ((O7.ext s8).same)
        · rw [decide_eq_false h]
          refine ⟨false, rfl, iteT ?_⟩
          have hlt : text.length = x.length + 1 := by rw [hx]; simp
          refine ⟨_, rfl, _, rfl, _, rfl, by rw [S_len]; exact lt_sz (by omega), _, _, rfl, rfl, _, rfl, _, rfl, by rw [S_len]; exact lt_sz (by omega), ?_⟩
          rw [S_len, cutS_from text _ x.length (by omega)]
          have e : text.drop x.length = [c] := by rw [hx]; simp
          rw [e]
          refine ⟨rfl, true, ?_, iteT ?_⟩
          · rw [S_eq, decide_eq_false (by simpa using hc)]
            rfl
          · refine ⟨_, rfl, _, rfl, by rw [S_len]; exact lt_sz (by omega), _, _, rfl, rfl, ?_⟩
            rw [S_len]
            have e9 : decide ((0 : Int) < (text.length : Int)) = true := decide_eq_true (by omega)
            show Q (.bl (decide ((0 : Int) < (text.length : Int)))) H8
            rw [e9]
            exact kk _
end
end Sb
set_option Elab.async false
set_option maxRecDepth 100000
set_option maxHeartbeats 4000000
namespace Sb
open PySem PySem.Spec PyProof.Rows L2 SX
theorem kit_self (K : PySem.W.Frag) (C : Addr) : PySem.W.kitOne K (.ref C) (.ref C) = some true := by
  unfold PySem.W.kitOne
  simp
theorem all_mk {l : PySem.W.OpenLaw} {w : World} {K : PySem.W.Frag} {h : Heap} {mg : Str → Option Value} {fa f__law_cell f__law_state f__law_digit f__law_is_integer f__law_field_text f__law_written f__law_must_mark f__law_same f_read_marked f_read_plain f_split_records f_law C f_Field_init : Addr} (X : K.In h) (G : h.Ns mainGlobals mg) (hfa : mg "law" = some (.ref fa))
    {od__law_cell an__law_cell : Option Addr} {sl__law_cell : Array (Option Value)} {oc__law_cell kV__law_cell dc__law_cell pm__law_cell cd__law_cell ct__law_cell : Value}
    {od__law_state an__law_state : Option Addr} {sl__law_state : Array (Option Value)} {oc__law_state kV__law_state dc__law_state pm__law_state cd__law_state ct__law_state : Value}
    {od__law_digit an__law_digit : Option Addr} {sl__law_digit : Array (Option Value)} {oc__law_digit kV__law_digit dc__law_digit pm__law_digit cd__law_digit ct__law_digit : Value}
    {od__law_is_integer an__law_is_integer : Option Addr} {sl__law_is_integer : Array (Option Value)} {oc__law_is_integer kV__law_is_integer dc__law_is_integer pm__law_is_integer cd__law_is_integer ct__law_is_integer : Value}
    {od__law_field_text an__law_field_text : Option Addr} {sl__law_field_text : Array (Option Value)} {oc__law_field_text kV__law_field_text dc__law_field_text pm__law_field_text cd__law_field_text ct__law_field_text : Value}
    {od__law_written an__law_written : Option Addr} {sl__law_written : Array (Option Value)} {oc__law_written kV__law_written dc__law_written pm__law_written cd__law_written ct__law_written : Value}
    {od__law_must_mark an__law_must_mark : Option Addr} {sl__law_must_mark : Array (Option Value)} {oc__law_must_mark kV__law_must_mark dc__law_must_mark pm__law_must_mark cd__law_must_mark ct__law_must_mark : Value}
    {od__law_same an__law_same : Option Addr} {sl__law_same : Array (Option Value)} {oc__law_same kV__law_same dc__law_same pm__law_same cd__law_same ct__law_same : Value}
    {od_read_marked an_read_marked : Option Addr} {sl_read_marked : Array (Option Value)} {oc_read_marked kV_read_marked dc_read_marked pm_read_marked cd_read_marked ct_read_marked : Value}
    {od_read_plain an_read_plain : Option Addr} {sl_read_plain : Array (Option Value)} {oc_read_plain kV_read_plain dc_read_plain pm_read_plain cd_read_plain ct_read_plain : Value}
    {od_split_records an_split_records : Option Addr} {sl_split_records : Array (Option Value)} {oc_split_records kV_split_records dc_split_records pm_split_records cd_split_records ct_split_records : Value}
    {od_law an_law : Option Addr} {sl_law : Array (Option Value)} {oc_law kV_law dc_law pm_law cd_law ct_law : Value}
    {od_Field_init an_Field_init : Option Addr} {sl_Field_init : Array (Option Value)} {oc_Field_init kV_Field_init dc_Field_init pm_Field_init cd_Field_init ct_Field_init : Value}
    {t_MARK : Tok}
    {t_END : Tok}
    (a__law_cell : PySem.W.nsIn K mainGlobals "_law_cell" = some (some (.ref f__law_cell)))
    (l__law_cell : K.lookup f__law_cell = some ⟨oc__law_cell, od__law_cell, .func (PySem.W.fnOf "_law_cell" "_law_cell" (defArgs s__law_cell) (defBody s__law_cell) (defScope s__law_cell) .none kV__law_cell dc__law_cell pm__law_cell an__law_cell cd__law_cell ct__law_cell), sl__law_cell⟩)
    (c__law_cell : PySem.W.codeIn K cd__law_cell "_law_cell" = true)
    (k__law_cell : PySem.W.keepIn K (.ref f__law_cell) = true)
    (a__law_state : PySem.W.nsIn K mainGlobals "_law_state" = some (some (.ref f__law_state)))
    (l__law_state : K.lookup f__law_state = some ⟨oc__law_state, od__law_state, .func (PySem.W.fnOf "_law_state" "_law_state" (defArgs s__law_state) (defBody s__law_state) (defScope s__law_state) .none kV__law_state dc__law_state pm__law_state an__law_state cd__law_state ct__law_state), sl__law_state⟩)
    (c__law_state : PySem.W.codeIn K cd__law_state "_law_state" = true)
    (k__law_state : PySem.W.keepIn K (.ref f__law_state) = true)
    (a__law_digit : PySem.W.nsIn K mainGlobals "_law_digit" = some (some (.ref f__law_digit)))
    (l__law_digit : K.lookup f__law_digit = some ⟨oc__law_digit, od__law_digit, .func (PySem.W.fnOf "_law_digit" "_law_digit" (defArgs s__law_digit) (defBody s__law_digit) (defScope s__law_digit) .none kV__law_digit dc__law_digit pm__law_digit an__law_digit cd__law_digit ct__law_digit), sl__law_digit⟩)
    (c__law_digit : PySem.W.codeIn K cd__law_digit "_law_digit" = true)
    (k__law_digit : PySem.W.keepIn K (.ref f__law_digit) = true)
    (a__law_is_integer : PySem.W.nsIn K mainGlobals "_law_is_integer" = some (some (.ref f__law_is_integer)))
    (l__law_is_integer : K.lookup f__law_is_integer = some ⟨oc__law_is_integer, od__law_is_integer, .func (PySem.W.fnOf "_law_is_integer" "_law_is_integer" (defArgs s__law_is_integer) (defBody s__law_is_integer) (defScope s__law_is_integer) .none kV__law_is_integer dc__law_is_integer pm__law_is_integer an__law_is_integer cd__law_is_integer ct__law_is_integer), sl__law_is_integer⟩)
    (c__law_is_integer : PySem.W.codeIn K cd__law_is_integer "_law_is_integer" = true)
    (k__law_is_integer : PySem.W.keepIn K (.ref f__law_is_integer) = true)
    (a__law_field_text : PySem.W.nsIn K mainGlobals "_law_field_text" = some (some (.ref f__law_field_text)))
    (l__law_field_text : K.lookup f__law_field_text = some ⟨oc__law_field_text, od__law_field_text, .func (PySem.W.fnOf "_law_field_text" "_law_field_text" (defArgs s__law_field_text) (defBody s__law_field_text) (defScope s__law_field_text) .none kV__law_field_text dc__law_field_text pm__law_field_text an__law_field_text cd__law_field_text ct__law_field_text), sl__law_field_text⟩)
    (c__law_field_text : PySem.W.codeIn K cd__law_field_text "_law_field_text" = true)
    (k__law_field_text : PySem.W.keepIn K (.ref f__law_field_text) = true)
    (a__law_written : PySem.W.nsIn K mainGlobals "_law_written" = some (some (.ref f__law_written)))
    (l__law_written : K.lookup f__law_written = some ⟨oc__law_written, od__law_written, .func (PySem.W.fnOf "_law_written" "_law_written" (defArgs s__law_written) (defBody s__law_written) (defScope s__law_written) .none kV__law_written dc__law_written pm__law_written an__law_written cd__law_written ct__law_written), sl__law_written⟩)
    (c__law_written : PySem.W.codeIn K cd__law_written "_law_written" = true)
    (k__law_written : PySem.W.keepIn K (.ref f__law_written) = true)
    (a__law_must_mark : PySem.W.nsIn K mainGlobals "_law_must_mark" = some (some (.ref f__law_must_mark)))
    (l__law_must_mark : K.lookup f__law_must_mark = some ⟨oc__law_must_mark, od__law_must_mark, .func (PySem.W.fnOf "_law_must_mark" "_law_must_mark" (defArgs s__law_must_mark) (defBody s__law_must_mark) (defScope s__law_must_mark) .none kV__law_must_mark dc__law_must_mark pm__law_must_mark an__law_must_mark cd__law_must_mark ct__law_must_mark), sl__law_must_mark⟩)
    (c__law_must_mark : PySem.W.codeIn K cd__law_must_mark "_law_must_mark" = true)
    (k__law_must_mark : PySem.W.keepIn K (.ref f__law_must_mark) = true)
    (a__law_same : PySem.W.nsIn K mainGlobals "_law_same" = some (some (.ref f__law_same)))
    (l__law_same : K.lookup f__law_same = some ⟨oc__law_same, od__law_same, .func (PySem.W.fnOf "_law_same" "_law_same" (defArgs s__law_same) (defBody s__law_same) (defScope s__law_same) .none kV__law_same dc__law_same pm__law_same an__law_same cd__law_same ct__law_same), sl__law_same⟩)
    (c__law_same : PySem.W.codeIn K cd__law_same "_law_same" = true)
    (k__law_same : PySem.W.keepIn K (.ref f__law_same) = true)
    (a_read_marked : PySem.W.nsIn K mainGlobals "read_marked" = some (some (.ref f_read_marked)))
    (l_read_marked : K.lookup f_read_marked = some ⟨oc_read_marked, od_read_marked, .func (PySem.W.fnOf "read_marked" "read_marked" (defArgs s_read_marked) (defBody s_read_marked) (defScope s_read_marked) .none kV_read_marked dc_read_marked pm_read_marked an_read_marked cd_read_marked ct_read_marked), sl_read_marked⟩)
    (c_read_marked : PySem.W.codeIn K cd_read_marked "read_marked" = true)
    (k_read_marked : PySem.W.keepIn K (.ref f_read_marked) = true)
    (a_read_plain : PySem.W.nsIn K mainGlobals "read_plain" = some (some (.ref f_read_plain)))
    (l_read_plain : K.lookup f_read_plain = some ⟨oc_read_plain, od_read_plain, .func (PySem.W.fnOf "read_plain" "read_plain" (defArgs s_read_plain) (defBody s_read_plain) (defScope s_read_plain) .none kV_read_plain dc_read_plain pm_read_plain an_read_plain cd_read_plain ct_read_plain), sl_read_plain⟩)
    (c_read_plain : PySem.W.codeIn K cd_read_plain "read_plain" = true)
    (k_read_plain : PySem.W.keepIn K (.ref f_read_plain) = true)
    (a_split_records : PySem.W.nsIn K mainGlobals "split_records" = some (some (.ref f_split_records)))
    (l_split_records : K.lookup f_split_records = some ⟨oc_split_records, od_split_records, .func (PySem.W.fnOf "split_records" "split_records" (defArgs s_split_records) (defBody s_split_records) (defScope s_split_records) .none kV_split_records dc_split_records pm_split_records an_split_records cd_split_records ct_split_records), sl_split_records⟩)
    (c_split_records : PySem.W.codeIn K cd_split_records "split_records" = true)
    (k_split_records : PySem.W.keepIn K (.ref f_split_records) = true)
    (a_law : PySem.W.nsIn K mainGlobals "law" = some (some (.ref f_law)))
    (l_law : K.lookup f_law = some ⟨oc_law, od_law, .func (PySem.W.fnOf "law" "law" (defArgs s_law) (defBody s_law) (defScope s_law) .none kV_law dc_law pm_law an_law cd_law ct_law), sl_law⟩)
    (c_law : PySem.W.codeIn K cd_law "law" = true)
    (k_law : PySem.W.keepIn K (.ref f_law) = true)
    (a_Field : PySem.W.nsIn K mainGlobals "Field" = some (some (.ref C)))
    (a_Field_init : PySem.W.findIn K (.ref C) "__init__" = some (some (.ref f_Field_init)))
    (i_Field_init : PySem.W.isFn K (.ref f_Field_init) = true)
    (l_Field_init : K.lookup f_Field_init = some ⟨oc_Field_init, od_Field_init, .func (PySem.W.fnOf "__init__" "Field.__init__" (defArgs s_Field___init__) (defBody s_Field___init__) (defScope s_Field___init__) .none kV_Field_init dc_Field_init pm_Field_init an_Field_init cd_Field_init ct_Field_init), sl_Field_init⟩)
    (c_Field_init : PySem.W.codeIn K cd_Field_init "Field.__init__" = true)
    (k_Field_init : PySem.W.keepIn K (.ref f_Field_init) = true)
    (pg_Field : PySem.W.plainGet K C Str.empty = true)
    (hd_Field : PySem.W.hasDictIn K C = true)
    (po_Field : PySem.W.plainOver K C = true)
    (sa_Field : PySem.W.findIn K (.ref C) "__setattr__" = some (some (.builtin "object.__setattr__")))
    (mk_Field : PySem.W.makesIn K C = true)
    (kc_Field : PySem.W.keepIn K (.ref C) = true)
    (n_Field_text : PySem.W.findIn K (.ref C) "text" = some none)
    (n_Field_offset : PySem.W.findIn K (.ref C) "offset" = some none)
    (n_Field_marked : PySem.W.findIn K (.ref C) "marked" = some none)
    (ha_Field : PySem.W.findIn K (.ref C) "__class__" = some (some (.builtin "object.__class__")))
    (hm_Field : PySem.W.mroIn K C (.type "object") = some true)
    (hn : PySem.W.specialIn K (.builtin "object.__class__") "__get__" = some (some (.builtin "getset_descriptor.__get__")))
    (htk : PySem.W.takesIn K (.builtin "object.__class__") = some true)
    (v_MARK : PySem.W.nsIn K mainGlobals "MARK" = some (some (.str "\"" t_MARK)))
    (v_END : PySem.W.nsIn K mainGlobals "END" = some (some (.str "\n" t_END)))
    (z_len : PySem.W.nsIn K mainGlobals "len" = some none)
    (z_int : PySem.W.nsIn K mainGlobals "int" = some none)
    (z_range : PySem.W.nsIn K mainGlobals "range" = some none)
    (z_min : PySem.W.nsIn K mainGlobals "min" = some none)
    (z_isinstance : PySem.W.nsIn K mainGlobals "isinstance" = some none)
    (z_list : PySem.W.nsIn K mainGlobals "list" = some none)
    (z_bool : PySem.W.nsIn K mainGlobals "bool" = some none) :
    ∃ fd : FuncData, (∀ (s : Shared) (v : Value), BindsTo s fd ⟨[v], []⟩ [("_law_script", v)]) ∧ ∀ base : Heap, K.In base → base.Ns mainGlobals mg → FnOk l.prog w K mg base CX0 5 fa fd ["_law_script"] (spLaw K) := by
  have e := hfa.symm.trans (PySem.W.mg_of X G a_law)
  cases e
  have T : Txt K mg C f_read_marked f_read_plain := ⟨PySem.W.mg_none_of X G z_len, PySem.W.mg_none_of X G z_int, PySem.W.mg_none_of X G z_range, PySem.W.mg_none_of X G z_min, PySem.W.mg_none_of X G z_isinstance, PySem.W.mg_none_of X G z_list, PySem.W.mg_none_of X G z_bool,
    ⟨pg_Field, hd_Field, po_Field, sa_Field⟩, n_Field_text, n_Field_offset, n_Field_marked, PySem.W.mg_of X G a_Field, ⟨_, PySem.W.mg_of X G v_MARK, _, congrArg (fun z => Value.str z t_MARK) c_quote⟩, ⟨_, PySem.W.mg_of X G v_END, _, congrArg (fun z => Value.str z t_END) c_nl⟩,
    PySem.W.mg_of X G a_read_marked, PySem.W.mg_of X G a_read_plain, ⟨⟨pg_Field, hd_Field, po_Field, sa_Field⟩, ha_Field, hn, htk, hm_Field, kit_self _ _⟩⟩
  have F_cell := fun_mk (st := s__law_cell) l__law_cell c__law_cell k__law_cell
  have F_state := fun_mk (st := s__law_state) l__law_state c__law_state k__law_state
  have F_digit := fun_mk (st := s__law_digit) l__law_digit c__law_digit k__law_digit
  have F_isint := fun_mk (st := s__law_is_integer) l__law_is_integer c__law_is_integer k__law_is_integer
  have F_ft := fun_mk (st := s__law_field_text) l__law_field_text c__law_field_text k__law_field_text
  have F_wr := fun_mk (st := s__law_written) l__law_written c__law_written k__law_written
  have F_mm := fun_mk (st := s__law_must_mark) l__law_must_mark c__law_must_mark k__law_must_mark
  have F_same := fun_mk (st := s__law_same) l__law_same c__law_same k__law_same
  have F_rm := fun_mk (st := s_read_marked) l_read_marked c_read_marked k_read_marked
  have F_rp := fun_mk (st := s_read_plain) l_read_plain c_read_plain k_read_plain
  have F_sp := fun_mk (st := s_split_records) l_split_records c_split_records k_split_records
  have F_fi := fun_mk (st := s_Field___init__) l_Field_init c_Field_init k_Field_init
  have b_cell := F_cell.binds (ps := ["_law_script", "_law_k"]) fun _ _ _ _ _ _ us hl => match us, hl with | [_, _], _ => rfl
  have b_state := F_state.binds (ps := ["_law_cell_here", "_law_k"]) fun _ _ _ _ _ _ us hl => match us, hl with | [_, _], _ => rfl
  have b_digit := F_digit.binds (ps := ["_law_state_here", "_law_many"]) fun _ _ _ _ _ _ us hl => match us, hl with | [_, _], _ => rfl
  have b_isint := F_isint.binds (ps := ["_law_told"]) fun _ _ _ _ _ _ us hl => match us, hl with | [_], _ => rfl
  have b_ft := F_ft.binds (ps := ["_law_state_here"]) fun _ _ _ _ _ _ us hl => match us, hl with | [_], _ => rfl
  have b_wr := F_wr.binds (ps := ["_law_text", "_law_separator", "_law_marked"]) fun _ _ _ _ _ _ us hl => match us, hl with | [_, _, _], _ => rfl
  have b_mm := F_mm.binds (ps := ["_law_text", "_law_separator"]) fun _ _ _ _ _ _ us hl => match us, hl with | [_, _], _ => rfl
  have b_same := F_same.binds (ps := ["_law_told", "_law_due"]) fun _ _ _ _ _ _ us hl => match us, hl with | [_, _], _ => rfl
  have b_rm := F_rm.binds (ps := ["text", "at", "separator"]) fun _ _ _ _ _ _ us hl => match us, hl with | [_, _, _], _ => rfl
  have b_rp := F_rp.binds (ps := ["text", "at", "separator"]) fun _ _ _ _ _ _ us hl => match us, hl with | [_, _, _], _ => rfl
  have b_sp := F_sp.binds (ps := ["text", "separator"]) fun _ _ _ _ _ _ us hl => match us, hl with | [_, _], _ => rfl
  have b_fi := F_fi.binds (ps := ["self", "text", "offset", "marked"]) fun _ _ _ _ _ _ us hl => match us, hl with | [_, _, _, _], _ => rfl
  refine ⟨PySem.W.fnOf "law" "law" (defArgs s_law) (defBody s_law) (defScope s_law) .none kV_law dc_law pm_law an_law cd_law ct_law, fun s v => .of_eq rfl, fun base _ _ => ?_⟩
  have M : Mk K C f_Field_init := ⟨mk_Field, a_Field_init, i_Field_init, kc_Field⟩
  have G_fi : FnOk l.prog w K mg base CX0 1 f_Field_init _ _ (spFld C) := ok_Field F_fi T
  have cM : C8.CalAt l.prog w K mg base 3 f_read_marked (spRead C true) := ⟨_, _, ok_read_marked F_rm T M G_fi b_fi, k_read_marked, b_rm⟩
  have cP : C8.CalAt l.prog w K mg base 3 f_read_plain (spRead C false) := ⟨_, _, ok_read_plain F_rp T M G_fi b_fi, k_read_plain, b_rp⟩
  have C_cell : Cal l.prog w K mg base CX0 1 "_law_cell" (spCell K) := ⟨_, _, _, ok__law_cell F_cell T, PySem.W.mg_of X G a__law_cell, k__law_cell, b_cell⟩
  have C_state : Cal l.prog w K mg base CX0 1 "_law_state" spState := ⟨_, _, _, ok__law_state F_state T, PySem.W.mg_of X G a__law_state, k__law_state, b_state⟩
  have C_digit : Cal l.prog w K mg base CX0 1 "_law_digit" spDigit := ⟨_, _, _, ok__law_digit F_digit T, PySem.W.mg_of X G a__law_digit, k__law_digit, b_digit⟩
  have C_isint : Cal l.prog w K mg base CX0 1 "_law_is_integer" spIsInt := ⟨_, _, _, ok__law_is_integer F_isint T, PySem.W.mg_of X G a__law_is_integer, k__law_is_integer, b_isint⟩
  have C_ft : Cal l.prog w K mg base CX0 2 "_law_field_text" spField := ⟨_, _, _, ok__law_field_text F_ft T C_digit, PySem.W.mg_of X G a__law_field_text, k__law_field_text, b_ft⟩
  have C_wr : Cal l.prog w K mg base CX0 1 "_law_written" spWritten := ⟨_, _, _, ok__law_written F_wr T, PySem.W.mg_of X G a__law_written, k__law_written, b_wr⟩
  have C_mm : Cal l.prog w K mg base CX0 1 "_law_must_mark" spMust := ⟨_, _, _, ok__law_must_mark F_mm, PySem.W.mg_of X G a__law_must_mark, k__law_must_mark, b_mm⟩
  have C_same : Cal l.prog w K mg base CX0 2 "_law_same" (spSame C) := ⟨_, _, _, ok__law_same F_same T C_isint, PySem.W.mg_of X G a__law_same, k__law_same, b_same⟩
  have C_sp : Cal l.prog w K mg base CX0 4 "split_records" (spSplit C) := ⟨_, _, _, ok_split_records F_sp T cM cP, PySem.W.mg_of X G a_split_records, k_split_records, b_sp⟩
  exact ok_law (fun_mk (st := s_law) l_law c_law k_law) T C_cell C_state C_digit C_ft C_wr C_mm C_same C_sp
theorem walk {l : PySem.W.OpenLaw} {q : Program} {loose : List Str} {XP : (Str → Option Value) → Heap → Prop} {YP : World → Heap → Prop} {d : DefRec} {K : Params → PySem.W.Frag} (hn : l.most = some 63) (hdf : d.params.defaults = [])
    (hY : ∀ (w : World) (h : Heap), YP w h → (K w.params).In h)
    (F : ∀ (w : World) (mg : Str → Option Value) (fa : Addr) (h : Heap), (K w.params).In h → h.Ns mainGlobals mg → mg d.name = some (.ref fa) →
      ∃ fd : FuncData, (∀ (s : Shared) (u : Value), BindsTo s fd ⟨[u], []⟩ [("_law_script", u)]) ∧ ∀ base : Heap, (K w.params).In base → base.Ns mainGlobals mg → FnOk l.prog w (K w.params) mg base CX0 5 fa fd ["_law_script"] (spLaw (K w.params))) :
    PySem.W.WalkO q loose XP YP l.row.toRowW d [] (fun f vs => PySem.call f vs) :=
  L2.walk_of (n := 63) (k := 5) (x := "_law_script") (CX := fun _ => CX0) (sp := fun w => spLaw (K w.params)) hn (by decide) hdf ⟨rfl, by decide, by decide⟩ hY F (fun _ _ a ns hl _ hS => ⟨a, ns, rfl, hS, hl, fun _ => rfl⟩) fun _ _ _ _ _ z => z
end Sb

open PySem PySem.W PyProof.Rows in
set_option maxRecDepth 100000 in
set_option maxHeartbeats 0 in
theorem PySem.Challenge.cw_stylobate_k80_records_and_fields_holds : PySem.Challenge.rw_stylobate_k80_records_and_fields.Holds := by
  w_on; o_law; k_head; (case hw => w_witness2)
  k_fill
  refine Sb.walk (l := PySem.Challenge.rw_stylobate_k80_records_and_fields) rfl rfl (fun w h Y => PySem.W.kIn_of Y) ?F
  case F =>
    intro w mg fa h KX G hmg
    refine' Sb.all_mk KX G hmg ?a__law_cell ?l__law_cell ?c__law_cell ?k__law_cell ?a__law_state ?l__law_state ?c__law_state ?k__law_state ?a__law_digit ?l__law_digit ?c__law_digit ?k__law_digit ?a__law_is_integer ?l__law_is_integer ?c__law_is_integer ?k__law_is_integer ?a__law_field_text ?l__law_field_text ?c__law_field_text ?k__law_field_text ?a__law_written ?l__law_written ?c__law_written ?k__law_written ?a__law_must_mark ?l__law_must_mark ?c__law_must_mark ?k__law_must_mark ?a__law_same ?l__law_same ?c__law_same ?k__law_same ?a_read_marked ?l_read_marked ?c_read_marked ?k_read_marked ?a_read_plain ?l_read_plain ?c_read_plain ?k_read_plain ?a_split_records ?l_split_records ?c_split_records ?k_split_records ?a_law ?l_law ?c_law ?k_law ?a_Field ?a_Field_init ?i_Field_init ?l_Field_init ?c_Field_init ?k_Field_init ?pg_Field ?hd_Field ?po_Field ?sa_Field ?mk_Field ?kc_Field ?n_Field_text ?n_Field_offset ?n_Field_marked ?ha_Field ?hm_Field ?hn ?htk ?v_MARK ?v_END ?z_len ?z_int ?z_range ?z_min ?z_isinstance ?z_list ?z_bool
    (case a__law_cell => k_is)
    (case l__law_cell => k_is)
    (case c__law_cell => k_is)
    (case k__law_cell => k_is)
    (case a__law_state => k_is)
    (case l__law_state => k_is)
    (case c__law_state => k_is)
    (case k__law_state => k_is)
    (case a__law_digit => k_is)
    (case l__law_digit => k_is)
    (case c__law_digit => k_is)
    (case k__law_digit => k_is)
    (case a__law_is_integer => k_is)
    (case l__law_is_integer => k_is)
    (case c__law_is_integer => k_is)
    (case k__law_is_integer => k_is)
    (case a__law_field_text => k_is)
    (case l__law_field_text => k_is)
    (case c__law_field_text => k_is)
    (case k__law_field_text => k_is)
    (case a__law_written => k_is)
    (case l__law_written => k_is)
    (case c__law_written => k_is)
    (case k__law_written => k_is)
    (case a__law_must_mark => k_is)
    (case l__law_must_mark => k_is)
    (case c__law_must_mark => k_is)
    (case k__law_must_mark => k_is)
    (case a__law_same => k_is)
    (case l__law_same => k_is)
    (case c__law_same => k_is)
    (case k__law_same => k_is)
    (case a_read_marked => k_is)
    (case l_read_marked => k_is)
    (case c_read_marked => k_is)
    (case k_read_marked => k_is)
    (case a_read_plain => k_is)
    (case l_read_plain => k_is)
    (case c_read_plain => k_is)
    (case k_read_plain => k_is)
    (case a_split_records => k_is)
    (case l_split_records => k_is)
    (case c_split_records => k_is)
    (case k_split_records => k_is)
    (case a_law => k_is)
    (case l_law => k_is)
    (case c_law => k_is)
    (case k_law => k_is)
    (case a_Field => k_is)
    (case a_Field_init => k_is)
    (case i_Field_init => k_is)
    (case l_Field_init => k_is)
    (case c_Field_init => k_is)
    (case k_Field_init => k_is)
    (case pg_Field => k_is)
    (case hd_Field => k_is)
    (case po_Field => k_is)
    (case sa_Field => k_is)
    (case mk_Field => k_is)
    (case kc_Field => k_is)
    (case n_Field_text => k_is)
    (case n_Field_offset => k_is)
    (case n_Field_marked => k_is)
    (case ha_Field => k_is)
    (case hm_Field => k_is)
    (case hn => k_is)
    (case htk => k_is)
    (case v_MARK => k_is)
    (case v_END => k_is)
    (case z_len => k_is)
    (case z_int => k_is)
    (case z_range => k_is)
    (case z_min => k_is)
    (case z_isinstance => k_is)
    (case z_list => k_is)
    (case z_bool => k_is)
#print axioms PySem.Challenge.cw_stylobate_k80_records_and_fields_holds
