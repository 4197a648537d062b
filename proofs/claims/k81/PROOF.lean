import PyProof.Rows.All
import Wide.All
import OpenK.AllK
import Wide.FinOn
import HandS.ForMost
import HandS.IsInst
import HandS.CallLocal
import HandS.Wide
import HandS.Codes
import HandS.Walk
import KE.KExcSuper
import HandS.ForExc
import HandS.ExcInit
import HandS.Nested
import HandS.ExcField
import HandS.ExcIs
import HandS.ExcOwn
import HandS.Defaults
import HandS.FStr
import PyProof.FitsInt
import PyProof.StrLaws
import HandS.TryMany
import HandS.TryOnly
import PySem.Challenge.RW_stylobate_k81_faults_of_texts
set_option Elab.async false
set_option maxRecDepth 100000
set_option maxHeartbeats 4000000
/-! Own words over the hand layer: calls bundled, texts as lists of codes, drawing from a one-item list. -/
namespace Sb
open PySem PySem.Spec PyProof.Rows L2 SX

/-! ### a def that may be called by its name -/
structure Cal (P : Program) (w : World) (K : PySem.W.Frag) (mg : Str → Option Value) (base : Heap) (CX : CXT) (k : Nat) (x : Str) (sp : Sp) : Prop where
  ex : ∃ (f : Addr) (fd : FuncData) (ps : List Str), FnOk P w K mg base CX k f fd ps sp ∧ mg x = some (.ref f) ∧ PySem.W.keepIn K (.ref f) = true ∧ Binds K fd ps []
theorem pe_k {X : Cx} {CX : CXT} {k j : Nat} {x : Str} {sp : Sp} {E : XK} {p pos : Pos} {e : Expr} {es : List Expr} {t : TA} (c : Cal X.prog X.w X.K X.mg X.base CX k x sp) (hr : Room j X.A) (hk : k ≤ j) (hg : Gl X x) (hx : Passes CX X E) (ha : PA X (e :: es) t)
    (hdb : (x == ("__debug__" : Str)) = false := by decide) (he : starEach (e :: es) X.env = (false, eval e X.env) :: starEach es X.env := by rfl) (hpl : (backTo pos (starEach es X.env)).any (·.1) = false := by rfl) :
    PE X (.Call (.Name x p) (e :: es) [] pos) (tCall sp [] E t) := by
  obtain ⟨f, fd, ps, F, hm, kp, b⟩ := c.ex
  exact pe_call F (hr.mono hk) hg hm kp b .nil hx ha hdb he hpl

/-! ### texts as lists of codes -/
theorem S_eq (a b : List Nat) : decide (V.str (S a) = V.str (S b)) = decide (a = b) := by
  by_cases h : a = b
  · subst h; simp
  · rw [decide_eq_false h, decide_eq_false]
    intro q
    injection q with q
    exact h (S_inj q)
theorem S_of (x : Str) : ∃ t, x = S t := ⟨x.cps.toList, (S_tl x).symm⟩
theorem cutS_nat (t : List Nat) (i j : Int) (a b : Nat) (hi : i = (a : Int)) (hj : j = (b : Int)) : cutS (S t) (some i) (some j) = S ((t.drop a).take (b - a)) := by
  subst hi hj
  unfold cutS
  rw [S_len, HT.sIx_nat, HT.sIx_nat]
  show S ((t.drop (min a t.length)).take (min b t.length - min a t.length)) = S ((t.drop a).take (b - a))
  congr 1
  rcases Nat.le_total a t.length with h | h
  · rw [Nat.min_eq_left h]
    rcases Nat.le_total b t.length with h2 | h2
    · rw [Nat.min_eq_left h2]
    · rw [Nat.min_eq_right h2, List.take_of_length_le (by simp), List.take_of_length_le (by simp; omega)]
  · rw [Nat.min_eq_right h, List.drop_eq_nil_of_le h, List.drop_eq_nil_of_le (Nat.le_refl _)]
    simp
/-- one sign -/
theorem cut1 (t : List Nat) (i j : Int) (a : Nat) (hi : i = (a : Int)) (hj : j = (a : Int) + 1) : cutS (S t) (some i) (some j) = S ((t.drop a).take 1) := by
  rw [cutS_nat t i j a (a + 1) hi (by omega)]
  simp
theorem cutS_from (t : List Nat) (i : Int) (a : Nat) (hi : i = (a : Int)) : cutS (S t) (some i) none = S (t.drop a) := by
  subst hi
  unfold cutS
  rw [S_len, HT.sIx_nat, HT.sIx_none]
  show S ((t.drop (min a t.length)).take (t.length - min a t.length)) = S (t.drop a)
  congr 1
  rcases Nat.le_total a t.length with h | h
  · rw [Nat.min_eq_left h, List.take_of_length_le (by simp)]
  · rw [Nat.min_eq_right h, List.drop_eq_nil_of_le h, List.drop_eq_nil_of_le (Nat.le_refl _)]
    simp
theorem drop_take1 (t : List Nat) (a c : Nat) : (t.drop a).take 1 = [c] ↔ t[a]? = some c := by
  rw [← List.head?_drop]
  cases t.drop a <;> simp
theorem joinL_nil : ∀ cs : List Nat, TL.joinL [] (cs.map fun c => [c]) = cs
  | [] => rfl
  | [c] => rfl
  | c :: d :: r => by
    show [c] ++ ([] ++ TL.joinL [] ((d :: r).map fun c => [c])) = c :: d :: r
    rw [joinL_nil (d :: r)]
    rfl
theorem joinL_flat : ∀ ls : List (List Nat), TL.joinL [] ls = ls.flatten
  | [] => rfl
  | [c] => by simp [TL.joinL]
  | c :: d :: r => by
    show c ++ ([] ++ TL.joinL [] (d :: r)) = (c :: d :: r).flatten
    rw [joinL_flat (d :: r)]
    simp
theorem join_flat (ls : List (List Nat)) : Txt.join (S []) (ls.map S) = S ls.flatten := by rw [join_S, joinL_flat]
theorem atS {t : List Nat} {a c : Nat} (h : t[a]? = some c) : atI (S t).cps.toList (a : Int) = some c := atI_nat h

theorem sum_ones : ∀ cs : List Nat, (cs.map fun _ => 1).sum = cs.length
  | [] => rfl
  | c :: cs => by simp [sum_ones cs]; omega
/-! ### heaps -/
/-- what was there stands, but for the list at p, which holds one int -/
def Kp (p : Addr) (H H' : Hp) : Prop := (∀ b o, b ≠ p → H b = some o → H' b = some o) ∧ ∃ z, H' p = some (.lst [.int z])
def Dr (H : Hp) (p : Addr) : Prop := ∃ z, H p = some (.lst [.int z])
theorem Kp.dr {p : Addr} {H H' : Hp} (k : Kp p H H') : Dr H' p := k.2
theorem Kp.refl {p : Addr} {H : Hp} (d : Dr H p) : Kp p H H := ⟨fun _ _ _ h => h, d⟩
theorem Kp.trans {p : Addr} {H H1 H2 : Hp} (a : Kp p H H1) (b : Kp p H1 H2) : Kp p H H2 := ⟨fun c o hc h => b.1 c o hc (a.1 c o hc h), b.2⟩
theorem same_new {H : Hp} {p : Addr} {o : HO} (h : H p = none) : Same H (upd H p o) := fun b u e => by
  rw [upd_ne (ne_of_none e h)]
  exact e
theorem Kp.new {p q : Addr} {H H1 : Hp} {o : HO} (k : Kp p H H1) (h : H1 q = none) : Kp p H (upd H1 q o) := by
  obtain ⟨k1, z, hz⟩ := k
  exact ⟨fun b u hb e => same_new h b u (k1 b u hb e), z, same_new h p _ hz⟩
theorem Kp.same {p : Addr} {H H1 H2 : Hp} (k : Kp p H H1) (s : Same H1 H2) : Kp p H H2 := by
  obtain ⟨k1, z, hz⟩ := k
  exact ⟨fun b u hb e => s b u (k1 b u hb e), z, s p _ hz⟩
/-- a list that H does not know may change -/
theorem same_mut {H H1 : Hp} {p : Addr} {o : HO} (s : Same H H1) (h : H p = none) : Same H (upd H1 p o) := fun b u e => by
  rw [upd_ne (ne_of_none e h)]
  exact s b u e
theorem Kp.mut {p q : Addr} {H H1 : Hp} {o : HO} (k : Kp p H H1) (h : H q = none) (d : Dr H p) : Kp p H (upd H1 q o) := by
  obtain ⟨k1, z, hz⟩ := k
  obtain ⟨y, hy⟩ := d
  exact ⟨fun b u hb e => by rw [upd_ne (ne_of_none e h)]; exact k1 b u hb e, z, by rw [upd_ne (ne_of_none hy h)]; exact hz⟩
theorem seqL {K : PySem.W.Frag} {H : Hp} {a : Addr} {xs : List V} (h : H a = some (.lst xs)) : SqL K H a xs := .inl (.inl h)
theorem seqT {K : PySem.W.Frag} {H : Hp} {a : Addr} {xs : List V} (h : H a = some (.tup xs)) : SqT K H a xs := .inl (.inl h)
theorem tup_same {K : PySem.W.Frag} {H H' : Hp} {a : Addr} {xs : List V} (e : Same H H') (h : SqT K H a xs) : SqT K H' a xs := by
  rcases h with (h | ⟨o, h⟩) | h
  · exact .inl (.inl (e _ _ h))
  · exact .inl (.inr ⟨o, e _ _ h⟩)
  · exact .inr h
end Sb
/-! Plain law of records and fields: texts are lists of codes. Own work. -/
namespace Sep
structure Fld where
  text : List Nat
  off : Nat
  mkd : Bool
deriving DecidableEq

/-- the rest behind an opening mark; k: the offset of the rest's first sign -/
def rm (sep at0 : Nat) : List Nat → List Nat → Nat → Except (Nat × Nat) (List Nat × Nat)
  | [], _, _ => .error (at0, 2)
  | c :: r, acc, k =>
    if c ≠ 34 then rm sep at0 r (acc ++ [c]) (k + 1)
    else match r with
      | [] => .ok (acc, k + 1)
      | d :: r' => if d = 34 then rm sep at0 r' (acc ++ [34]) (k + 2) else if d = sep ∨ d = 10 then .ok (acc, k + 1) else .error (k + 1, 1)
def rp (sep : Nat) : List Nat → List Nat → Nat → Except (Nat × Nat) (List Nat × Nat)
  | [], acc, k => .ok (acc, k)
  | c :: r, acc, k => if c = sep ∨ c = 10 then .ok (acc, k) else if c = 34 then .error (k, 0) else rp sep r (acc ++ [c]) (k + 1)
def fin (at0 : Nat) (m : Bool) : Except (Nat × Nat) (List Nat × Nat) → Except (Nat × Nat) (Fld × Nat)
  | .ok (t, k) => .ok (⟨t, at0, m⟩, k)
  | .error e => .error e
def rd (sep : Nat) (rest : List Nat) (at0 : Nat) : Except (Nat × Nat) (Fld × Nat) :=
  match rest with
  | [] => fin at0 false (rp sep [] [] at0)
  | c :: r => if c = 34 then fin at0 true (rm sep at0 r [] (at0 + 1)) else fin at0 false (rp sep (c :: r) [] at0)
/-- one record from at0 on: its fields and the offset behind -/
def recd (sep : Nat) (text : List Nat) : Nat → Nat → List Fld → Except (Nat × Nat) (List Fld × Nat)
  | 0, at0, acc => .ok (acc, at0)
  | f + 1, at0, acc => match rd sep (text.drop at0) at0 with
    | .error e => .error e
    | .ok (fl, k) => if text[k]? = some sep then recd sep text f (k + 1) (acc ++ [fl]) else .ok (acc ++ [fl], k)
def spl (sep : Nat) (text : List Nat) : Nat → Nat → List (List Fld) → Except (Nat × Nat) (List (List Fld))
  | 0, _, acc => .ok acc
  | f + 1, at0, acc => if at0 < text.length then
      match recd sep text (text.length + 1) at0 [] with
      | .error e => .error e
      | .ok (r, k) => spl sep text f (k + 1) (acc ++ [r])
    else .ok acc
def split (sep : Nat) (text : List Nat) : Except (Nat × Nat) (List (List Fld)) := spl sep text (text.length + 1) 0 []

theorem rm_cons (sep at0 c : Nat) (r acc : List Nat) (k : Nat) : rm sep at0 (c :: r) acc k = if c ≠ 34 then rm sep at0 r (acc ++ [c]) (k + 1)
    else match r with
      | [] => .ok (acc, k + 1)
      | d :: r' => if d = 34 then rm sep at0 r' (acc ++ [34]) (k + 2) else if d = sep ∨ d = 10 then .ok (acc, k + 1) else .error (k + 1, 1) := by
  rw [rm.eq_def]
theorem spl_step {sep : Nat} {text : List Nat} {f at0 k : Nat} {acc : List (List Fld)} {r : List Fld} (h : at0 < text.length) (e : recd sep text (text.length + 1) at0 [] = .ok (r, k)) : spl sep text (f + 1) at0 acc = spl sep text f (k + 1) (acc ++ [r]) := by
  rw [spl, if_pos h, e]
theorem spl_end {sep : Nat} {text : List Nat} {f at0 : Nat} {acc : List (List Fld)} (h : ¬ at0 < text.length) : spl sep text (f + 1) at0 acc = .ok acc := by
  rw [spl, if_neg h]
/-! ### written fields -/
def dbl : List Nat → List Nat
  | [] => []
  | c :: r => (if c = 34 then [34, 34] else [c]) ++ dbl r
def enc (t : List Nat) (m : Bool) : List Nat := if m then 34 :: (dbl t ++ [34]) else t
def plainT (sep : Nat) (t : List Nat) : Prop := ∀ c ∈ t, c ≠ sep ∧ c ≠ 10 ∧ c ≠ 34
def Ends (sep : Nat) (post : List Nat) : Prop := post = [] ∨ ∃ d r, post = d :: r ∧ (d = sep ∨ d = 10)
def Okf (sep : Nat) (p : List Nat × Bool) : Prop := p.2 = false → plainT sep p.1

theorem rm_enc (sep at0 : Nat) (hs : sep ≠ 34) : ∀ (t acc post : List Nat) (k : Nat), Ends sep post → rm sep at0 (dbl t ++ 34 :: post) acc k = .ok (acc ++ t, k + (dbl t).length + 1)
  | [], acc, post, k, h => by
    show rm sep at0 (34 :: post) acc k = _
    rcases h with rfl | ⟨d, r, rfl, h⟩
    · simp [rm_cons, dbl]
    · have h34 : d ≠ 34 := by rcases h with h | h <;> omega
      simp [rm_cons, dbl, h34, h]
  | c :: t, acc, post, k, h => by
    by_cases hc : c = 34
    · subst hc
      have ih := rm_enc sep at0 hs t (acc ++ [34]) post (k + 2) h
      simp only [dbl, if_pos, List.cons_append, List.nil_append]
      rw [rm_cons, if_neg (by decide)]
      simp only [if_pos]
      rw [ih]
      simp; omega
    · have ih := rm_enc sep at0 hs t (acc ++ [c]) post (k + 1) h
      simp only [dbl, if_neg hc, List.cons_append, List.nil_append]
      rw [rm_cons, if_pos hc, ih]
      simp; omega
theorem rp_enc (sep : Nat) : ∀ (t acc post : List Nat) (k : Nat), plainT sep t → Ends sep post → rp sep (t ++ post) acc k = .ok (acc ++ t, k + t.length)
  | [], acc, post, k, _, h => by
    rcases h with rfl | ⟨d, r, rfl, h⟩
    · simp [rp]
    · simp [rp, h]
  | c :: t, acc, post, k, hp, h => by
    have hc := hp c (by simp)
    have ih := rp_enc sep t (acc ++ [c]) post (k + 1) (fun x hx => hp x (by simp [hx])) h
    simp only [List.cons_append, rp]
    rw [if_neg (by omega), if_neg (by omega), ih]
    simp; omega
theorem rd_enc (sep at0 : Nat) (hs : sep ≠ 34) (t : List Nat) (m : Bool) (post : List Nat) (ho : Okf sep (t, m)) (h : Ends sep post) : rd sep (enc t m ++ post) at0 = .ok (⟨t, at0, m⟩, at0 + (enc t m).length) := by
  cases m with
  | true =>
    have e := rm_enc sep at0 hs t [] post (at0 + 1) h
    simp only [enc, if_true, List.cons_append, List.append_assoc, List.nil_append, rd]
    rw [e]
    simp [fin]; omega
  | false =>
    have e := rp_enc sep t [] post at0 (ho rfl) h
    simp only [enc, Bool.false_eq_true, if_false]
    cases t with
    | nil =>
      rcases h with rfl | ⟨d, r, rfl, h⟩
      · simp [rd, rp, fin]
      · have h34 : d ≠ 34 := by rcases h with h | h <;> omega
        simp only [List.nil_append] at e ⊢
        simp only [rd, if_neg h34]
        rw [e]; simp [fin]
    | cons c t =>
      have hc : c ≠ 34 := (ho rfl c (by simp)).2.2
      simp only [List.cons_append] at e ⊢
      simp only [rd, if_neg hc]
      rw [e]; simp [fin]

/-! ### records -/
/-- the text of a record -/
def encR (sep : Nat) : List (List Nat × Bool) → List Nat
  | [] => []
  | [p] => enc p.1 p.2
  | p :: q :: r => enc p.1 p.2 ++ sep :: encR sep (q :: r)
/-- its fields, from an offset on -/
def offs (sep : Nat) : Nat → List (List Nat × Bool) → List Fld
  | _, [] => []
  | o, p :: r => ⟨p.1, o, p.2⟩ :: offs sep (o + (enc p.1 p.2).length + 1) r
theorem drop_at (pre rest : List Nat) : (pre ++ rest).drop pre.length = rest := by simp
theorem get_at (pre rest : List Nat) : (pre ++ rest)[pre.length]? = rest.head? := by
  cases rest <;> simp
theorem recd_enc (sep : Nat) (hs : sep ≠ 34) (hs2 : sep ≠ 10) : ∀ (fs : List (List Nat × Bool)) (pre post : List Nat) (acc : List Fld) (f : Nat), fs ≠ [] → (∀ p ∈ fs, Okf sep p) → (post = [] ∨ ∃ r, post = 10 :: r) → fs.length ≤ f →
    recd sep (pre ++ encR sep fs ++ post) f pre.length acc = .ok (acc ++ offs sep pre.length fs, pre.length + (encR sep fs).length)
  | [], _, _, _, _, h, _, _, _ => absurd rfl h
  | [p], pre, post, acc, f, _, ho, hp, hf => by
    obtain ⟨f, rfl⟩ : ∃ g, f = g + 1 := ⟨f - 1, by simp at hf; omega⟩
    have hE : Ends sep post := by rcases hp with h | ⟨r, h⟩; exact .inl h; exact .inr ⟨10, r, h, .inr rfl⟩
    have e := rd_enc sep pre.length hs p.1 p.2 post (ho p (by simp)) hE
    simp only [recd, encR, List.append_assoc, drop_at]
    rw [e]
    have g : (pre ++ (enc p.1 p.2 ++ post))[pre.length + (enc p.1 p.2).length]? = post.head? := by
      have := get_at (pre ++ enc p.1 p.2) post
      simpa using this
    have hne : ¬ post.head? = some sep := by rcases hp with rfl | ⟨r, rfl⟩ <;> simp; omega
    simp only [g, if_neg hne, offs]
  | p :: q :: r, pre, post, acc, f, _, ho, hp, hf => by
    obtain ⟨f, rfl⟩ : ∃ g, f = g + 1 := ⟨f - 1, by simp at hf; omega⟩
    have hE : Ends sep (sep :: (encR sep (q :: r) ++ post)) := .inr ⟨sep, _, rfl, .inl rfl⟩
    have e := rd_enc sep pre.length hs p.1 p.2 _ (ho p (by simp)) hE
    have ih := recd_enc sep hs hs2 (q :: r) (pre ++ enc p.1 p.2 ++ [sep]) post (acc ++ [⟨p.1, pre.length, p.2⟩]) f (by simp) (fun x hx => ho x (by simp at hx ⊢; right; exact hx)) hp (by simp at hf ⊢; omega)
    simp only [recd, encR, List.append_assoc, List.cons_append, drop_at]
    rw [e]
    have g : (pre ++ (enc p.1 p.2 ++ sep :: (encR sep (q :: r) ++ post)))[pre.length + (enc p.1 p.2).length]? = some sep := by
      have := get_at (pre ++ enc p.1 p.2) (sep :: (encR sep (q :: r) ++ post))
      simp
    simp only [g, if_true]
    simp only [List.append_assoc, List.length_append, List.length_cons, List.length_nil, List.cons_append, List.nil_append] at ih
    have e2 : pre.length + ((enc p.1 p.2).length + (0 + 1)) = pre.length + (enc p.1 p.2).length + 1 := by omega
    rw [e2] at ih
    rw [ih]
    simp [offs]; omega
/-- a text of records, each with its line feed -/
def encT (sep : Nat) : List (List (List Nat × Bool)) → List Nat
  | [] => []
  | r :: rs => encR sep r ++ 10 :: encT sep rs
def offsT (sep : Nat) : Nat → List (List (List Nat × Bool)) → List (List Fld)
  | _, [] => []
  | o, r :: rs => offs sep o r :: offsT sep (o + (encR sep r).length + 1) rs
def Okr (sep : Nat) (r : List (List Nat × Bool)) : Prop := r ≠ [] ∧ ∀ p ∈ r, Okf sep p
theorem encR_len (sep : Nat) : ∀ fs : List (List Nat × Bool), fs.length ≤ (encR sep fs).length + 1
  | [] => by simp
  | [p] => by simp
  | p :: q :: r => by have := encR_len sep (q :: r); simp [encR] at this ⊢; omega
theorem spl_enc (sep : Nat) (hs : sep ≠ 34) (hs2 : sep ≠ 10) : ∀ (rs : List (List (List Nat × Bool))) (pre : List Nat) (acc : List (List Fld)) (f : Nat), (∀ r ∈ rs, Okr sep r) → rs.length < f →
    spl sep (pre ++ encT sep rs) f pre.length acc = .ok (acc ++ offsT sep pre.length rs)
  | [], pre, acc, f, _, hf => by
    obtain ⟨f, rfl⟩ : ∃ g, f = g + 1 := ⟨f - 1, by simp at hf; omega⟩
    rw [spl_end (by simp [encT])]
    simp [offsT]
  | r :: rs, pre, acc, f, ho, hf => by
    obtain ⟨f, rfl⟩ : ∃ g, f = g + 1 := ⟨f - 1, by simp at hf; omega⟩
    have hr := ho r (by simp)
    have e := recd_enc sep hs hs2 r pre (10 :: encT sep rs) [] ((pre ++ encT sep (r :: rs)).length + 1) hr.1 hr.2 (.inr ⟨_, rfl⟩) (by have := encR_len sep r; simp [encT]; omega)
    have ih := spl_enc sep hs hs2 rs (pre ++ encR sep r ++ [10]) (acc ++ [offs sep pre.length r]) f (fun x hx => ho x (by simp [hx])) (by simp at hf; omega)
    have e4 : pre ++ encR sep r ++ 10 :: encT sep rs = pre ++ encT sep (r :: rs) := by simp [encT]
    rw [e4] at e
    rw [spl_step (by simp [encT]; omega) e]
    have e2 : pre.length + (encR sep r).length + 1 = (pre ++ encR sep r ++ [10]).length := by simp; omega
    have e3 : pre ++ encT sep (r :: rs) = pre ++ encR sep r ++ [10] ++ encT sep rs := by simp [encT]
    rw [e2, e3, List.nil_append, ih]
    simp [offsT, Nat.add_assoc]
theorem encT_len (sep : Nat) : ∀ rs : List (List (List Nat × Bool)), rs.length ≤ (encT sep rs).length
  | [] => by simp
  | r :: rs => by have := encT_len sep rs; simp [encT]; omega
/-- the text whose last record has its line feed -/
theorem split_enc (sep : Nat) (hs : sep ≠ 34) (hs2 : sep ≠ 10) (rs : List (List (List Nat × Bool))) (ho : ∀ r ∈ rs, Okr sep r) : split sep (encT sep rs) = .ok (offsT sep 0 rs) := by
  have e := spl_enc sep hs hs2 rs [] [] ((encT sep rs).length + 1) ho (by have := encT_len sep rs; omega)
  simpa [split] using e
theorem spl_enc2 (sep : Nat) (hs : sep ≠ 34) (hs2 : sep ≠ 10) (r : List (List Nat × Bool)) (hr : Okr sep r) (hne : encR sep r ≠ []) : ∀ (rs : List (List (List Nat × Bool))) (pre : List Nat) (acc : List (List Fld)) (f : Nat), (∀ r ∈ rs, Okr sep r) → rs.length + 1 < f →
    spl sep (pre ++ (encT sep rs ++ encR sep r)) f pre.length acc = .ok (acc ++ offsT sep pre.length (rs ++ [r]))
  | [], pre, acc, f, _, hf => by
    obtain ⟨f, rfl⟩ : ∃ g, f = g + 2 := ⟨f - 2, by simp at hf; omega⟩
    have hl : 0 < (encR sep r).length := List.length_pos_iff.mpr hne
    have e := recd_enc sep hs hs2 r pre [] [] ((pre ++ encR sep r).length + 1) hr.1 hr.2 (.inl rfl) (by have := encR_len sep r; simp; omega)
    rw [List.append_nil] at e
    rw [encT, List.nil_append, spl_step (by simp; omega) e, spl_end (by simp)]
    simp [offsT]
  | r' :: rs, pre, acc, f, ho, hf => by
    obtain ⟨f, rfl⟩ : ∃ g, f = g + 1 := ⟨f - 1, by simp at hf; omega⟩
    have hr' := ho r' (by simp)
    have e := recd_enc sep hs hs2 r' pre (10 :: (encT sep rs ++ encR sep r)) [] ((pre ++ (encT sep (r' :: rs) ++ encR sep r)).length + 1) hr'.1 hr'.2 (.inr ⟨_, rfl⟩) (by have := encR_len sep r'; simp [encT]; omega)
    have ih := spl_enc2 sep hs hs2 r hr hne rs (pre ++ encR sep r' ++ [10]) (acc ++ [offs sep pre.length r']) f (fun x hx => ho x (by simp [hx])) (by simp at hf; omega)
    have e3 : pre ++ (encT sep (r' :: rs) ++ encR sep r) = pre ++ encR sep r' ++ [10] ++ (encT sep rs ++ encR sep r) := by simp [encT]
    have e4 : pre ++ encR sep r' ++ 10 :: (encT sep rs ++ encR sep r) = pre ++ (encT sep (r' :: rs) ++ encR sep r) := by simp [encT]
    rw [e4] at e
    rw [spl_step (by simp [encT]; omega) e]
    have e2 : pre.length + (encR sep r').length + 1 = (pre ++ encR sep r' ++ [10]).length := by simp; omega
    rw [e2, e3, List.nil_append, ih]
    simp [offsT, Nat.add_assoc]
/-- the text whose last record has none -/
theorem split_enc2 (sep : Nat) (hs : sep ≠ 34) (hs2 : sep ≠ 10) (rs : List (List (List Nat × Bool))) (r : List (List Nat × Bool)) (ho : ∀ r ∈ rs, Okr sep r) (hr : Okr sep r) (hne : encR sep r ≠ []) : split sep (encT sep rs ++ encR sep r) = .ok (offsT sep 0 (rs ++ [r])) := by
  have hl : 0 < (encR sep r).length := List.length_pos_iff.mpr hne
  have e := spl_enc2 sep hs hs2 r hr hne rs [] [] ((encT sep rs ++ encR sep r).length + 1) ho (by have := encT_len sep rs; simp; omega)
  simpa [split] using e
theorem offsT_len (sep : Nat) : ∀ (rs : List (List (List Nat × Bool))) (o : Nat), (offsT sep o rs).length = rs.length
  | [], _ => rfl
  | r :: rs, o => by simp [offsT, offsT_len sep rs]
theorem encT_snoc (sep : Nat) : ∀ (rs : List (List (List Nat × Bool))) (r : List (List Nat × Bool)), encT sep (rs ++ [r]) = encT sep rs ++ (encR sep r ++ [10])
  | [], r => by simp [encT]
  | r' :: rs, r => by simp [encT, encT_snoc sep rs r]
theorem offsT_snoc (sep : Nat) : ∀ (rs : List (List (List Nat × Bool))) (r : List (List Nat × Bool)) (o : Nat), offsT sep o (rs ++ [r]) = offsT sep o rs ++ [offs sep (o + (encT sep rs).length) r]
  | [], r, o => by simp [offsT, encT]
  | r' :: rs, r, o => by
    have e : o + (encR sep r').length + 1 + (encT sep rs).length = o + ((encR sep r').length + ((encT sep rs).length + 1)) := by omega
    simp [offsT, encT, offsT_snoc sep rs r, e]
theorem encR_snoc (sep : Nat) : ∀ (fs : List (List Nat × Bool)) (p : List Nat × Bool), fs ≠ [] → encR sep (fs ++ [p]) = encR sep fs ++ sep :: enc p.1 p.2
  | [], _, h => absurd rfl h
  | [q], p, _ => by simp [encR]
  | q :: q' :: r, p, _ => by
    have := encR_snoc sep (q' :: r) p (by simp)
    simp [encR] at this ⊢
    exact this
theorem offs_snoc (sep : Nat) : ∀ (fs : List (List Nat × Bool)) (p : List Nat × Bool) (o : Nat), fs ≠ [] → offs sep o (fs ++ [p]) = offs sep o fs ++ [⟨p.1, o + (encR sep fs).length + 1, p.2⟩]
  | [], _, _, h => absurd rfl h
  | [q], p, o, _ => by simp [offs, encR]
  | q :: q' :: r, p, o, _ => by
    have := offs_snoc sep (q' :: r) p (o + (enc q.1 q.2).length + 1) (by simp)
    have e : o + (enc q.1 q.2).length + 1 + (encR sep (q' :: r)).length + 1 = o + ((enc q.1 q.2).length + ((encR sep (q' :: r)).length + 1)) + 1 := by omega
    simp only [List.cons_append, offs, encR, List.length_append, List.length_cons] at this ⊢
    rw [this, e]
/-- the last sign of a record that is not one empty field -/
theorem encR_last (sep : Nat) (hs2 : sep ≠ 10) : ∀ fs : List (List Nat × Bool), fs ≠ [] → (∀ p ∈ fs, Okf sep p) → fs ≠ [([], false)] → ∃ x c, encR sep fs = x ++ [c] ∧ c ≠ 10
  | [], h, _, _ => absurd rfl h
  | [(t, m)], _, ho, hn => by
    cases m with
    | true => exact ⟨34 :: dbl t, 34, by simp [encR, enc], by decide⟩
    | false =>
      have hp := ho (t, false) (by simp) rfl
      rcases List.eq_nil_or_concat t with rfl | ⟨x, c, rfl⟩
      · exact absurd rfl hn
      · exact ⟨x, c, by simp [encR, enc], (hp c (by simp)).2.1⟩
  | p :: q :: r, _, ho, _ => by
    by_cases hq : q :: r = [([], false)]
    · refine ⟨enc p.1 p.2, sep, ?_, hs2⟩
      rw [encR, hq]
      simp [encR, enc]
    · obtain ⟨x, c, e, h⟩ := encR_last sep hs2 (q :: r) (by simp) (fun x hx => ho x (by simp at hx ⊢; right; exact hx)) hq
      exact ⟨enc p.1 p.2 ++ sep :: x, c, by rw [encR, e]; simp, h⟩
/-! ### for the walk -/
theorem rm_ge (sep at0 : Nat) : ∀ (n : Nat) (r acc : List Nat) (k : Nat) (t : List Nat) (k' : Nat), r.length ≤ n → rm sep at0 r acc k = .ok (t, k') → k ≤ k'
  | _, [], _, _, _, _, _, h => by simp [rm] at h
  | n + 1, c :: r, acc, k, t, k', hn, h => by
    rw [rm_cons] at h
    by_cases hc : c = 34
    · rw [if_neg (by simp [hc])] at h
      cases r with
      | nil => simp at h; omega
      | cons d r' =>
        simp only at h
        by_cases hd : d = 34
        · rw [if_pos hd] at h
          have := rm_ge sep at0 n r' _ _ _ _ (by simp at hn; omega) h
          omega
        · rw [if_neg hd] at h
          by_cases he : d = sep ∨ d = 10
          · rw [if_pos he] at h; simp at h; omega
          · rw [if_neg he] at h; simp at h
    · rw [if_pos hc] at h
      have := rm_ge sep at0 n r _ _ _ _ (by simp at hn; omega) h
      omega
theorem rp_ge (sep : Nat) : ∀ (r acc : List Nat) (k : Nat) (t : List Nat) (k' : Nat), rp sep r acc k = .ok (t, k') → k ≤ k'
  | [], _, _, _, _, h => by simp [rp] at h; omega
  | c :: r, acc, k, t, k', h => by
    rw [rp] at h
    by_cases h1 : c = sep ∨ c = 10
    · rw [if_pos h1] at h; simp at h; omega
    · rw [if_neg h1] at h
      by_cases h2 : c = 34
      · rw [if_pos h2] at h; simp at h
      · rw [if_neg h2] at h
        have := rp_ge sep r _ _ _ _ h
        omega
theorem rd_mark (sep : Nat) (text : List Nat) (a : Nat) (h : text[a]? = some 34) : rd sep (text.drop a) a = fin a true (rm sep a (text.drop (a + 1)) [] (a + 1)) := by
  have hl := (List.getElem?_eq_some_iff.mp h).1
  have e : text.drop a = 34 :: text.drop (a + 1) := by
    rw [List.drop_eq_getElem_cons hl, (List.getElem?_eq_some_iff.mp h).2]
  rw [e, rd, if_pos rfl]
theorem rd_plain (sep : Nat) (text : List Nat) (a : Nat) (h : ¬ text[a]? = some 34) : rd sep (text.drop a) a = fin a false (rp sep (text.drop a) [] a) := by
  by_cases hl : a < text.length
  · have e : text.drop a = text[a] :: text.drop (a + 1) := List.drop_eq_getElem_cons hl
    have hc : ¬ text[a] = 34 := fun q => h (by rw [List.getElem?_eq_getElem hl, q])
    rw [e, rd, if_neg hc]
  · rw [List.drop_eq_nil_of_le (by omega), rd]
theorem fin_ok {at0 : Nat} {m : Bool} {x : Except (Nat × Nat) (List Nat × Nat)} {fl : Fld} {k : Nat} (h : fin at0 m x = .ok (fl, k)) : ∃ t, x = .ok (t, k) ∧ fl = ⟨t, at0, m⟩ := by
  cases x with
  | error e => simp [fin] at h
  | ok p => obtain ⟨t, j⟩ := p; simp [fin] at h; exact ⟨t, by rw [h.2], h.1.symm⟩
theorem rd_ge {sep : Nat} {text : List Nat} {a : Nat} {fl : Fld} {k : Nat} (h : rd sep (text.drop a) a = .ok (fl, k)) : a ≤ k := by
  by_cases hm : text[a]? = some 34
  · rw [rd_mark sep text a hm] at h
    obtain ⟨t, e, _⟩ := fin_ok h
    have := rm_ge sep a _ _ _ _ _ _ (Nat.le_refl _) e
    omega
  · rw [rd_plain sep text a hm] at h
    obtain ⟨t, e, _⟩ := fin_ok h
    exact rp_ge sep _ _ _ _ _ e
theorem recd_ge {sep : Nat} {text : List Nat} : ∀ {f a : Nat} {acc r : List Fld} {k : Nat}, recd sep text f a acc = .ok (r, k) → a ≤ k
  | 0, _, _, _, _, h => by simp [recd] at h; omega
  | f + 1, a, acc, r, k, h => by
    rw [recd] at h
    cases e : rd sep (text.drop a) a with
    | error x => rw [e] at h; simp at h
    | ok p =>
      obtain ⟨fl, j⟩ := p
      rw [e] at h
      simp only at h
      have := rd_ge e
      by_cases hs : text[j]? = some sep
      · rw [if_pos hs] at h
        have := recd_ge h
        omega
      · rw [if_neg hs] at h
        simp at h
        omega
theorem recd_ok {sep : Nat} {text : List Nat} {f a : Nat} {acc r : List Fld} {k : Nat} (h : recd sep text (f + 1) a acc = .ok (r, k)) : ∃ fl j, rd sep (text.drop a) a = .ok (fl, j) ∧ (if text[j]? = some sep then recd sep text f (j + 1) (acc ++ [fl]) else .ok (acc ++ [fl], j)) = .ok (r, k) := by
  rw [recd] at h
  cases e : rd sep (text.drop a) a with
  | error x => rw [e] at h; simp at h
  | ok p => obtain ⟨fl, j⟩ := p; rw [e] at h; exact ⟨fl, j, rfl, h⟩
theorem spl_ok {sep : Nat} {text : List Nat} {f a : Nat} {acc ans : List (List Fld)} (hl : a < text.length) (h : spl sep text (f + 1) a acc = .ok ans) : ∃ r k, recd sep text (text.length + 1) a [] = .ok (r, k) ∧ spl sep text f (k + 1) (acc ++ [r]) = .ok ans := by
  rw [spl, if_pos hl] at h
  cases e : recd sep text (text.length + 1) a [] with
  | error x => rw [e] at h; simp at h
  | ok p => obtain ⟨r, k⟩ := p; rw [e] at h; exact ⟨r, k, rfl, h⟩
theorem rm_le (sep at0 : Nat) : ∀ (n : Nat) (r acc : List Nat) (k : Nat) (t : List Nat) (k' : Nat), r.length ≤ n → rm sep at0 r acc k = .ok (t, k') → k' ≤ k + r.length
  | _, [], _, _, _, _, _, h => by simp [rm] at h
  | n + 1, c :: r, acc, k, t, k', hn, h => by
    rw [rm_cons] at h
    by_cases hc : c = 34
    · rw [if_neg (by simp [hc])] at h
      cases r with
      | nil => simp at h; simp; omega
      | cons d r' =>
        simp only at h
        by_cases hd : d = 34
        · rw [if_pos hd] at h
          have := rm_le sep at0 n r' _ _ _ _ (by simp at hn; omega) h
          simp; omega
        · rw [if_neg hd] at h
          by_cases he : d = sep ∨ d = 10
          · rw [if_pos he] at h; simp at h; simp; omega
          · rw [if_neg he] at h; simp at h
    · rw [if_pos hc] at h
      have := rm_le sep at0 n r _ _ _ _ (by simp at hn; omega) h
      simp; omega
theorem rp_le (sep : Nat) : ∀ (r acc : List Nat) (k : Nat) (t : List Nat) (k' : Nat), rp sep r acc k = .ok (t, k') → k' ≤ k + r.length
  | [], _, _, _, _, h => by simp [rp] at h; omega
  | c :: r, acc, k, t, k', h => by
    rw [rp] at h
    by_cases h1 : c = sep ∨ c = 10
    · rw [if_pos h1] at h; simp at h; omega
    · rw [if_neg h1] at h
      by_cases h2 : c = 34
      · rw [if_pos h2] at h; simp at h
      · rw [if_neg h2] at h
        have := rp_le sep r _ _ _ _ h
        simp; omega
theorem rd_le {sep : Nat} {text : List Nat} {a : Nat} {fl : Fld} {k : Nat} (h : rd sep (text.drop a) a = .ok (fl, k)) (ha : a ≤ text.length) : k ≤ text.length := by
  by_cases hm : text[a]? = some 34
  · rw [rd_mark sep text a hm] at h
    obtain ⟨t, e, _⟩ := fin_ok h
    have := rm_le sep a _ _ _ _ _ _ (Nat.le_refl _) e
    have := (List.getElem?_eq_some_iff.mp hm).1
    simp at *; omega
  · rw [rd_plain sep text a hm] at h
    obtain ⟨t, e, _⟩ := fin_ok h
    have := rp_le sep _ _ _ _ _ e
    simp at *; omega
end Sep
/-! Plain law of the first fault. Own work. -/
namespace Sep
/-- good fields ahead of a fault, each with its separator -/
def encP (sep : Nat) : List (List Nat × Bool) → List Nat
  | [] => []
  | p :: r => enc p.1 p.2 ++ sep :: encP sep r
theorem encP_len (sep : Nat) : ∀ gs : List (List Nat × Bool), gs.length ≤ (encP sep gs).length
  | [] => by simp
  | p :: r => by have := encP_len sep r; simp [encP]; omega
theorem encP_snoc (sep : Nat) : ∀ (gs : List (List Nat × Bool)) (p : List Nat × Bool), encP sep (gs ++ [p]) = encP sep gs ++ (enc p.1 p.2 ++ [sep])
  | [], p => by simp [encP]
  | q :: r, p => by simp [encP, encP_snoc sep r p]
theorem encP_R (sep : Nat) : ∀ gs : List (List Nat × Bool), gs ≠ [] → encP sep gs = encR sep (gs ++ [([], false)])
  | [], h => absurd rfl h
  | [p], _ => by simp [encP, encR, enc]
  | p :: q :: r, _ => by
    have := encP_R sep (q :: r) (by simp)
    simp only [encP, List.cons_append, encR] at this ⊢
    rw [this]
theorem recd_err (sep : Nat) (hs : sep ≠ 34) : ∀ (gs : List (List Nat × Bool)) (pre rest : List Nat) (acc : List Fld) (f : Nat) (e : Nat × Nat), (∀ p ∈ gs, Okf sep p) → gs.length < f → rd sep rest (pre.length + (encP sep gs).length) = .error e →
    recd sep (pre ++ (encP sep gs ++ rest)) f pre.length acc = .error e
  | [], pre, rest, acc, f, e, _, hf, h => by
    obtain ⟨f, rfl⟩ : ∃ g, f = g + 1 := ⟨f - 1, by simp at hf; omega⟩
    have h : rd sep rest pre.length = .error e := h
    rw [recd, encP, List.nil_append, drop_at, h]
  | p :: gs, pre, rest, acc, f, e, ho, hf, h => by
    obtain ⟨f, rfl⟩ : ∃ g, f = g + 1 := ⟨f - 1, by simp at hf; omega⟩
    have hE : Ends sep (sep :: (encP sep gs ++ rest)) := .inr ⟨sep, _, rfl, .inl rfl⟩
    have e1 := rd_enc sep pre.length hs p.1 p.2 _ (ho p (by simp)) hE
    have ih := recd_err sep hs gs (pre ++ enc p.1 p.2 ++ [sep]) rest (acc ++ [⟨p.1, pre.length, p.2⟩]) f e (fun x hx => ho x (by simp [hx])) (by simp at hf; omega) (by
      rw [← h]
      congr 1
      simp [encP]; omega)
    have et : pre ++ (encP sep (p :: gs) ++ rest) = pre ++ (enc p.1 p.2 ++ (sep :: (encP sep gs ++ rest))) := by simp [encP]
    have g : (pre ++ (enc p.1 p.2 ++ sep :: (encP sep gs ++ rest)))[pre.length + (enc p.1 p.2).length]? = some sep := by
      have := get_at (pre ++ enc p.1 p.2) (sep :: (encP sep gs ++ rest))
      simp
    rw [et, recd, drop_at, e1]
    simp only [g, if_true]
    have e2 : pre.length + (enc p.1 p.2).length + 1 = (pre ++ enc p.1 p.2 ++ [sep]).length := by simp [Nat.add_assoc]
    have e3 : pre ++ (enc p.1 p.2 ++ sep :: (encP sep gs ++ rest)) = pre ++ enc p.1 p.2 ++ [sep] ++ (encP sep gs ++ rest) := by simp
    rw [e2, e3]
    exact ih
theorem spl_err (sep : Nat) (hs : sep ≠ 34) (hs2 : sep ≠ 10) (gs : List (List Nat × Bool)) (hg : ∀ p ∈ gs, Okf sep p) (rest : List Nat) (hr : rest ≠ []) (e : Nat × Nat) : ∀ (rs : List (List (List Nat × Bool))) (pre : List Nat) (acc : List (List Fld)) (f : Nat), (∀ r ∈ rs, Okr sep r) → rs.length < f →
    rd sep rest (pre.length + (encT sep rs).length + (encP sep gs).length) = .error e → spl sep (pre ++ (encT sep rs ++ (encP sep gs ++ rest))) f pre.length acc = .error e
  | [], pre, acc, f, _, hf, h => by
    obtain ⟨f, rfl⟩ : ∃ g, f = g + 1 := ⟨f - 1, by simp at hf; omega⟩
    have hl : 0 < rest.length := List.length_pos_iff.mpr hr
    have e1 := recd_err sep hs gs pre rest [] ((pre ++ (encP sep gs ++ rest)).length + 1) e hg (by have := encP_len sep gs; simp; omega) h
    rw [encT, List.nil_append, spl, if_pos (by simp; omega), e1]
  | r :: rs, pre, acc, f, ho, hf, h => by
    obtain ⟨f, rfl⟩ : ∃ g, f = g + 1 := ⟨f - 1, by simp at hf; omega⟩
    have hr' := ho r (by simp)
    have e1 := recd_enc sep hs hs2 r pre (10 :: (encT sep rs ++ (encP sep gs ++ rest))) [] ((pre ++ (encT sep (r :: rs) ++ (encP sep gs ++ rest))).length + 1) hr'.1 hr'.2 (.inr ⟨_, rfl⟩) (by have := encR_len sep r; simp [encT]; omega)
    have ih := spl_err sep hs hs2 gs hg rest hr e rs (pre ++ encR sep r ++ [10]) (acc ++ [offs sep pre.length r]) f (fun x hx => ho x (by simp [hx])) (by simp at hf; omega) (by
      rw [← h]
      congr 1
      simp [encT]; omega)
    have e4 : pre ++ encR sep r ++ 10 :: (encT sep rs ++ (encP sep gs ++ rest)) = pre ++ (encT sep (r :: rs) ++ (encP sep gs ++ rest)) := by simp [encT]
    rw [e4] at e1
    rw [spl_step (by simp [encT]; omega) e1]
    have e2 : pre.length + (encR sep r).length + 1 = (pre ++ encR sep r ++ [10]).length := by simp; omega
    have e3 : pre ++ (encT sep (r :: rs) ++ (encP sep gs ++ rest)) = pre ++ encR sep r ++ [10] ++ (encT sep rs ++ (encP sep gs ++ rest)) := by simp [encT]
    rw [e2, e3, List.nil_append]
    exact ih
/-- a good start: records with their line feeds, then fields with their separators -/
def Good (sep : Nat) (g : List Nat) : Prop := ∃ rs gs, g = encT sep rs ++ encP sep gs ∧ (∀ r ∈ rs, Okr sep r) ∧ ∀ p ∈ gs, Okf sep p
theorem split_err (sep : Nat) (hs : sep ≠ 34) (hs2 : sep ≠ 10) {g rest : List Nat} (G : Good sep g) (hr : rest ≠ []) {e : Nat × Nat} (h : rd sep rest g.length = .error e) : split sep (g ++ rest) = .error e := by
  obtain ⟨rs, gs, rfl, h1, h2⟩ := G
  have := spl_err sep hs hs2 gs h2 rest hr e rs [] [] ((encT sep rs ++ encP sep gs ++ rest).length + 1) h1 (by have := encT_len sep rs; simp; omega) (by
    rw [← h]
    congr 1
    simp)
  simp only [List.nil_append, List.length_nil] at this
  rw [split, List.append_assoc]
  rw [List.append_assoc] at this
  exact this
theorem split_good (sep : Nat) (hs : sep ≠ 34) (hs2 : sep ≠ 10) {g : List Nat} (G : Good sep g) : ∃ ans, split sep g = .ok ans := by
  obtain ⟨rs, gs, rfl, h1, h2⟩ := G
  by_cases hg : gs = []
  · subst hg
    exact ⟨_, by rw [encP, List.append_nil]; exact split_enc sep hs hs2 rs h1⟩
  · have hr : Okr sep (gs ++ [([], false)]) := ⟨by simp, fun p hp => by
      rcases List.mem_append.mp hp with h | h
      · exact h2 p h
      · have : p = ([], false) := by simpa using h
        subst this
        intro _ c hc
        simp at hc⟩
    have hne : encR sep (gs ++ [([], false)]) ≠ [] := by
      rw [← encP_R sep gs hg]
      intro q
      have := encP_len sep gs
      rw [q] at this
      exact hg (List.length_eq_zero_iff.mp (by simpa using this))
    have := split_enc2 sep hs hs2 rs (gs ++ [([], false)]) h1 hr hne
    rw [encP_R sep gs hg]
    exact ⟨_, this⟩
/-! ### the three faults -/
theorem rp_bad (sep : Nat) : ∀ (t acc more : List Nat) (k : Nat), plainT sep t → sep ≠ 34 → rp sep (t ++ 34 :: more) acc k = .error (k + t.length, 0)
  | [], acc, more, k, _, hs => by
    rw [List.nil_append, rp, if_neg (by omega), if_pos rfl]
    rfl
  | c :: t, acc, more, k, hp, hs => by
    have hc := hp c (by simp)
    have ih := rp_bad sep t (acc ++ [c]) more (k + 1) (fun x hx => hp x (by simp [hx])) hs
    rw [List.cons_append, rp, if_neg (by omega), if_neg (by omega), ih]
    simp; omega
theorem rd_bad0 (sep : Nat) (hs : sep ≠ 34) (t more : List Nat) (at0 : Nat) (hp : plainT sep t) (hn : t ≠ []) : rd sep (t ++ 34 :: more) at0 = .error (at0 + t.length, 0) := by
  cases t with
  | nil => exact absurd rfl hn
  | cons c t =>
    have hc := hp c (by simp)
    have e := rp_bad sep (c :: t) [] more at0 hp hs
    rw [List.cons_append] at e ⊢
    simp only [rd, if_neg hc.2.2]
    rw [e]; rfl
theorem rm_bad1 (sep at0 d : Nat) (h1 : d ≠ 34) (h2 : d ≠ sep) (h3 : d ≠ 10) : ∀ (t acc more : List Nat) (k : Nat), rm sep at0 (dbl t ++ 34 :: d :: more) acc k = .error (k + (dbl t).length + 1, 1)
  | [], acc, more, k => by
    show rm sep at0 (34 :: d :: more) acc k = _
    simp [rm_cons, dbl, h1, h2, h3]
  | c :: t, acc, more, k => by
    by_cases hc : c = 34
    · subst hc
      have ih := rm_bad1 sep at0 d h1 h2 h3 t (acc ++ [34]) more (k + 2)
      simp only [dbl, if_pos, List.cons_append, List.nil_append]
      rw [rm_cons, if_neg (by decide)]
      simp only [if_pos]
      rw [ih]
      simp; omega
    · have ih := rm_bad1 sep at0 d h1 h2 h3 t (acc ++ [c]) more (k + 1)
      simp only [dbl, if_neg hc, List.cons_append, List.nil_append]
      rw [rm_cons, if_pos hc, ih]
      simp; omega
theorem rd_bad1 (sep d : Nat) (h1 : d ≠ 34) (h2 : d ≠ sep) (h3 : d ≠ 10) (t more : List Nat) (at0 : Nat) : rd sep (enc t true ++ d :: more) at0 = .error (at0 + (enc t true).length, 1) := by
  have e := rm_bad1 sep at0 d h1 h2 h3 t [] more (at0 + 1)
  simp only [enc, if_true, List.cons_append, List.append_assoc, List.nil_append, rd]
  rw [e]
  simp [fin]; omega
theorem rm_bad2 (sep at0 : Nat) : ∀ (t acc : List Nat) (k : Nat), (∀ c ∈ t, c ≠ 34) → rm sep at0 t acc k = .error (at0, 2)
  | [], acc, k, _ => by rw [rm]
  | c :: t, acc, k, h => by
    rw [rm_cons, if_pos (h c (by simp))]
    exact rm_bad2 sep at0 t _ _ fun x hx => h x (by simp [hx])
theorem rd_bad2 (sep : Nat) (t : List Nat) (at0 : Nat) (h : ∀ c ∈ t, c ≠ 34) : rd sep (34 :: t) at0 = .error (at0, 2) := by
  simp only [rd, if_true]
  rw [rm_bad2 sep at0 t _ _ h]; rfl
/-- a text that starts by a fault, at its o-th sign, with the reason r -/
def Faulty (sep : Nat) (wt : List Nat) (o r : Nat) : Prop := wt ≠ [] ∧ r ≤ 2 ∧ ∀ (more : List Nat) (at0 : Nat), (r = 2 → more = []) → rd sep (wt ++ more) at0 = .error (at0 + o, r)
theorem split_faulty (sep : Nat) (hs : sep ≠ 34) (hs2 : sep ≠ 10) {g wt more : List Nat} {o r : Nat} (G : Good sep g) (F : Faulty sep wt o r) (hm : r = 2 → more = []) : split sep (g ++ wt ++ more) = .error (g.length + o, r) := by
  obtain ⟨h1, _, h⟩ := F
  rw [List.append_assoc]
  exact split_err sep hs hs2 G (by simp [h1]) (h more _ hm)
end Sep
set_option Elab.async false
set_option maxRecDepth 100000
set_option maxHeartbeats 4000000
/-! An own exception's __init__ that begins by super().__init__(e): its promise by its body. Own work over the layer. -/
namespace Sb
open PySem PySem.Spec PyProof.Rows L2 NdefX

/-- what the top must say of the class C, whose __init__ is asked -/
structure SupC (P : Program) (K : PySem.W.Frag) (mg : Str → Option Value) (C cc cda : Addr) : Prop where
  ox : OexC K C
  cell : ∃ cl cld csl, K.lookup cc = some ⟨cl, cld, .cell (some (.ref C)), csl⟩
  code : ∃ ccl cdd vs ccs file tf, K.lookup cda = some ⟨ccl, cdd, .fields vs, ccs⟩ ∧ vs[2]? = some (Value.str file tf) ∧ ((P.main.file : Str) == file) = true
  up : PySem.W.ks_superIn K C C "__init__" = some (some (.builtin "ValueError.__init__"))
  sub : PySem.W.subIn K (.ref C) (.type "ValueError") = some true
  mro : PySem.W.mroIn K C (.ref C) = some true
  any : PySem.W.nsIn K cStatics "thirdparty.any" = some none
  sup : mg "super" = none
  top : (P.main.scope.names.lookup ("super" : Str)).isSome = false

theorem mw_call {X : Cx} {pins : List (Addr × Obj)} {σ : L2.St} {H : Hp} {s : Shared} {u a C : Addr} {us : List Value} {Q : Value → Shared → Prop} {E : Value → Shared → Prop} (T : OexC X.K C) (I : Inv X pins σ H s)
    (hu : s.heap.get? u = some (PySem.W.kxs_mw "ValueError.__init__" a)) (ea : H a = some (exo a C none)) (hz : us.length ≤ sizeLine) (h : ∀ s', Inv X pins σ H s' → Q .none s') :
    wpAny (model X.prog X.w) X.A (call (.ref u) us) Q E s := by
  obtain ⟨nm, q, N, bs, bm, sn, sub, ab, col, dd, k0, k1, k2, k3, k5, hC, hbm⟩ := T.cls
  have KX := I.kIn
  obtain ⟨t1, ho⟩ := exo_at I.hok ea
  obtain ⟨hh, g, d, tk, os⟩ := s
  have FB := F.excBase_ValueError
  refine wpAny_call (codeAny_of_tree ?_)
  show wpAny _ X.A.in1 (callAny (.ref u) ⟨us, []⟩) _ _ _
  simp only [callAny]
  refine wpAny_bind (wpAny_load hu ?_)
  simp only [show (Value.type "method-wrapper" == Value.type "method" || Value.type "method-wrapper" == Value.type "builtin_function_or_method" || Value.type "method-wrapper" == Value.type "method-wrapper") = true by decide, if_true]
  refine PySem.W.KFB.if_so (by decide) ?_
  refine wpAny_bind (PySem.W.check_bound_init FB.toExcCallFacts (KX _ _ hC) ho rfl ?_)
  refine wpAny_bind (wpAny_pure (wpAny_pure ?_))
  refine ⟨plainId_quiet FB.init.plain _, codeAny_builtin FB.initEntry ?_⟩
  refine PySem.W.exc_init_tree (cls := .ref C) (t0 := t1) (dv := none) (c2 := .none) (c3 := .none) (b4 := .bool false) ho hz (fun h' k e' t' => ?_)
  have J := I.write (t' := tk) (x := a) (e := a) (o := exo a C none) (by rw [ea]; exact True.intro) (.inl rfl) k ⟨_, e'⟩ (exo_ok e')
  have eu : upd H a (exo a C none) = H := by
    funext b
    by_cases hb : b = a
    · rw [hb, upd_same, ea]
    · rw [upd_ne hb]
  rw [eu] at J
  exact h _ J

section
variable {CX : CXT} {P : Program} {w : World} {K : PySem.W.Frag} {mg : Str → Option Value} {base : Heap} {N : List Str} {F : NF} {f cc C a : Addr} {A : Around} {outer : List Env} {s0 s : Shared} {H0 H : Hp} {E : XK} {ar : Arg} {σ : L2.St} {pins : List (Addr × Obj)} {e : Expr} {te : TE} {p0 p1 p2 p3 p4 : Pos} {m : Str → Option Value} {fd : FuncData} {oc : Value} {od : Option Addr} {osl : Array (Option Value)} {rest : List Stmt} {Q : Flow → Shared → Prop} {n : Nat} {R : Hp → Prop}
abbrev supE (e : Expr) (p0 p1 p2 p3 : Pos) : Expr := .Call (.Attribute (.Call (.Name "super" p0) [] [] p1) "__init__" p2) [e] [] p3
theorem sup_stmt (U : SupC P K mg C cc F.c) (I : Inv (ncx CX P w K mg base N F f A outer s0 H0 E) pins σ H s) (hcl : F.cl = [(("__class__" : Str), cc)]) (hk : F.scope.kind = .function)
    (hks : F.scope.names.lookup ("super" : Str) = some .globalImplicit) (hkc : F.scope.names.lookup ("__class__" : Str) = some .free) (hp : (fd.params.posonlyargs ++ fd.params.args).head? = some ar)
    (har : F.scope.names.lookup ar.arg = some .local) (lk : K.lookup f = some ⟨oc, od, .func fd, osl⟩) (hi : N[n]? = some ar.arg) (hv : σ[n]? = some (some (.ref a))) (ea : H a = some (exo a C none))
    (hE : PE (ncx CX P w K mg base N F f A outer s0 H0 E) e te)
    (he : ∃ pl, eval (supE e p0 p1 p2 p3) (envF F f s0.heap.objs.size) = (do
      let ov ← attributeBase (.Call (.Name "super" p0) [] [] p1) "__init__" (envF F f s0.heap.objs.size) (eval (.Call (.Name "super" p0) [] [] p1) (envF F f s0.heap.objs.size))
      standAt p2.atName
      let (g, first) ← holding [ov] (getMethod ov "__init__" pl)
      callWith p3 g first (backTo p3 (starEach [e] (envF F f s0.heap.objs.size))) []))
    (hst : starEach [e] (envF F f s0.heap.objs.size) = (false, eval e (envF F f s0.heap.objs.size)) :: starEach [] (envF F f s0.heap.objs.size)) (body : List Stmt)
    (h : te σ H fun x H1 => ([x] : List V).length = 1 ∧ H1 a = some (exo a C none) ∧ R H1)
    (hR : ∀ H1 s', Inv (ncx CX P w K mg base N F f A outer s0 H0 E) pins σ H1 s' → R H1 → Q .next s') :
    PySem.wpAt (model P w) (A.deeper (envF F f s0.heap.objs.size)) (.func body (envF F f s0.heap.objs.size)) (exec (.Expr (supE e p0 p1 p2 p3) p4) (envF F f s0.heap.objs.size)) Q
      (ncx CX P w K mg base N F f A outer s0 H0 E).xe s := by
  obtain ⟨cl, cld, csl, hcell⟩ := U.cell
  obtain ⟨ccl, cdd, vs, ccs, file, tf, hcode, hvs, hfile⟩ := U.code
  obtain ⟨nm, q, N', bs, bm, sn, sub, ab, col, dd, k0, k1, k2, k3, k5, hC, hbm⟩ := U.ox.cls
  obtain ⟨pl, he⟩ := he
  have KX : K.In s.heap := I.kIn
  obtain ⟨t1, ho⟩ := exo_at I.hok ea
  obtain ⟨mm, hn, hlk⟩ := id I.loc
  have har' : Vis (envF F f s0.heap.objs.size).scope ar.arg := .inl har
  obtain ⟨u, ru, lu⟩ := hlk n _ _ hi hv har'
  obtain rfl : u = Value.ref a := ru
  have hm : mm ar.arg = some (.ref a) := by
    rcases lu with ⟨_, z⟩ | ⟨z, _⟩
    · exact z
    · rcases z with z | z
      · exact absurd (har.symm.trans z) (by simp)
      · exact absurd (har.symm.trans z) (by simp)
  have hac : a ≠ C := fun z => by
    have e1 := KX _ _ hC
    rw [← z, ho] at e1
    cases e1
  refine ks_wpAt_Expr_any (ks_wpAt_MethodCall (pl := pl) ?_ he) I.quiet rfl
  obtain ⟨mb, hb1, hb2⟩ := I.mod.blt
  refine ks_wpAt_super_base (f := f) (cc := F.c) (body := body) hks hkc (by decide) rfl (KX _ _ lk) rfl hp rfl (KX _ _ hcode) rfl hvs hfile U.top ?_
  refine PySem.W.ks_loadName_global hk hks (Calls.loadGlobal_builtin (I.mod.glob.keeps I.bk) U.sup (hb1.keeps I.bk) ((hb2 _ (by decide)).trans PyProof.Rows.Boot.«super») ⟨rfl, ?_⟩)
  refine wpAny_loadName_free hk hkc (by show F.cl.lookup _ = _; rw [hcl]; rfl) ⟨_, KX _ _ hcell, rfl⟩ ?_
  refine wpAny_loadName_local hk har hn hm ?_
  obtain ⟨hh, g, d, tk, os⟩ := s
  refine ks_wpAny_isType_cls (KX _ _ hC) rfl ⟨rfl, ?_⟩
  refine ks_wpAny_call_super (KX _ _ hC) rfl ho rfl (fun c z => by cases z) (PySem.W.looks_mroIn KX U.mro) (fun h' hso k => ?_)
  have I1 : Inv (ncx CX P w K mg base N F f A outer s0 H0 E) pins σ H ⟨h', g, d, tk, os⟩ := I.kept k
  have KX1 : K.In h' := I1.kIn
  obtain ⟨t2, ho1⟩ := exo_at I1.hok ea
  obtain ⟨cd, hcd, hmro⟩ : ∃ cd, PySem.W.clsIn K C = some cd ∧ cd.mro = .ref C :: bm := by
    refine ⟨_, by unfold PySem.W.clsIn; rw [hC] <;> rfl, rfl⟩
  have hup := U.up
  unfold PySem.W.ks_superIn at hup
  rw [hcd] at hup
  refine PySem.W.kxs_getMethod PySem.W.kxs_ValueError hso (PySem.W.looks_opaque KX1 U.any) (l₀ := cd.mro) (fun A Q E s k q => wpAny_bind ((PySem.W.looks_clsIn KX1 hcd) A _ E s k (wpAny_pure q))) rfl KX1 hup
    ((PySem.W.InstAt.type (od := none) ⟨ho1, rfl, rfl, trivial⟩).andThen (PySem.W.looks_subIn KX1 U.sub)) hac (by decide) ?_
  have hu : (h'.push (PySem.W.kxs_mw "ValueError.__init__" a)).get? h'.objs.size = some (PySem.W.kxs_mw "ValueError.__init__" a) := Heap.get?_push_at rfl rfl
  have I2 : Inv (ncx CX P w K mg base N F f A outer s0 H0 E) pins σ H ⟨h'.push (PySem.W.kxs_mw "ValueError.__init__" a), g, d, tk + 1, os⟩ := I1.kept fun b o z => Heap.get?_push_of_some _ z
  have I3 : Inv (ncx CX P w K mg base N F f A outer s0 H0 E) ((h'.objs.size, PySem.W.kxs_mw "ValueError.__init__" a) :: pins) σ H ⟨h'.push (PySem.W.kxs_mw "ValueError.__init__" a), g, d, tk + 1, os⟩ := by
    refine I2.pins_of fun p hp => ?_
    rcases List.mem_cons.mp hp with rfl | hp
    · refine ⟨hu, I1.hok.fresh (Nat.le_refl _), (Nat.ne_of_gt I1.lt), I1.nofs (Nat.le_refl _), fun v z => by cases z⟩
    · exact I2.pin p (List.mem_append_right _ hp)
  refine PySem.W.kxs_callWith (i := "ValueError.__init__") (x := a) (by rw [hst]; rfl) ?_
  have hpa : PA (ncx CX P w K mg base N F f A outer s0 H0 E) [e] (tCons te tNil) := pa_cons hE pa_nil hst
  have hpr := hpa.run p3 _ _ σ H (fun ws H1 => ws.length = 1 ∧ H1 a = some (exo a C none) ∧ R H1) I3 ?_
  · have hst' : starEach [e] (ncx CX P w K mg base N F f A outer s0 H0 E).env = (false, eval e (envF F f s0.heap.objs.size)) :: starEach [] (envF F f s0.heap.objs.size) := hst
    rw [hst'] at hpr
    rw [hst]
    refine Calls.evalArgs_plain (thn hpr fun us s2 ⟨ws, H2, I4, r, hl, ea2, q⟩ => ⟨?_, ?_⟩)
    · exact (I4.pin _ (List.mem_append_right _ (List.mem_cons_self ..))).1
    · refine mw_call U.ox I4 ((I4.pin _ (List.mem_append_right _ (List.mem_cons_self ..))).1) ea2 ?_ fun s' J => hR H2 s' (J.pins_of fun p hp => J.pin p (List.mem_append_right _ (List.mem_cons_of_mem _ hp))) q
      show us.length ≤ sizeLine
      rw [← Paired.length r, hl, sizeLine_eq]
      omega
  · exact h
end
section
variable {CX : CXT} {P : Program} {w : World} {K : PySem.W.Frag} {mg : Str → Option Value} {base : Heap} {k : Nat} {f cc cda C : Addr} {name qual : Str} {params : Arguments} {scope : Scope} {p0 p1 p2 p3 p4 : Pos} {e : Expr} {rest : List Stmt} {dV kV doc pm ct oc : Value} {an od : Option Addr} {osl : Array (Option Value)} {N ps : List Str} {sp : Sp} {ar : Arg}
abbrev supF (name qual : Str) (params : Arguments) (scope : Scope) (p0 p1 p2 p3 p4 : Pos) (e : Expr) (rest : List Stmt) (cc cda : Addr) : NF := ⟨name, qual, params, Stmt.Expr (supE e p0 p1 p2 p3) p4 :: rest, scope, [(("__class__" : Str), cc)], cda⟩
theorem fn_super (lk : K.lookup f = some ⟨oc, od, .func (PySem.W.ksFn name qual params (Stmt.Expr (supE e p0 p1 p2 p3) p4 :: rest) scope dV kV doc pm an (.ref cda) ct cc), osl⟩)
    (hcd : PySem.W.codeIn K (.ref cda) qual = true) (S : NScope N ps ["__class__"] scope) (U : SupC P K mg C cc cda) (hp : (params.posonlyargs ++ params.args).head? = some ar) (hN0 : N[0]? = some ar.arg)
    (har : scope.names.lookup ar.arg = some .local) (hks : scope.names.lookup ("super" : Str) = some .globalImplicit) (len : ∀ vs H Q E, sp vs H Q E → vs.length = ps.length)
    (hbody : ∀ (A : Around) (outer : List Env) (s : Shared) (H : Hp) (vs : List V) (Q : VK) (E : XK), Room k (A.deeper (envF (supF name qual params scope p0 p1 p2 p3 p4 e rest cc cda) f s.heap.objs.size)) → sp vs H Q E → ∃ te t a,
      PE (ncx CX P w K mg base N (supF name qual params scope p0 p1 p2 p3 p4 e rest cc cda) f A outer s H E) e te ∧
      PSs (ncx CX P w K mg base N (supF name qual params scope p0 p1 p2 p3 p4 e rest cc cda) f A outer s H E) rest t ∧
      vs[0]? = some (V.ref a) ∧ H a = some (exo a C none) ∧ te (startF N vs [none]) H fun x H1 => ([x] : List V).length = 1 ∧ H1 a = some (exo a C none) ∧ t { nx := fun _ H' => Q .non H', rt := Q } (startF N vs [none]) H1)
    (he : ∀ env, ∃ pl, eval (supE e p0 p1 p2 p3) env = (do
      let ov ← attributeBase (.Call (.Name "super" p0) [] [] p1) "__init__" env (eval (.Call (.Name "super" p0) [] [] p1) env)
      standAt p2.atName
      let (g, first) ← holding [ov] (getMethod ov "__init__" pl)
      callWith p3 g first (backTo p3 (starEach [e] env)) []))
    (hst : ∀ env, starEach [e] env = (false, eval e env) :: starEach [] env) :
    FnOk P w K mg base CX (k + 1) f (PySem.W.ksFn name qual params (Stmt.Expr (supE e p0 p1 p2 p3) p4 :: rest) scope dV kV doc pm an (.ref cda) ct cc) ps sp := by
  refine ⟨len, fun A outer s H args us vs Q E hr e0 hb r hsp => ?_⟩
  have hl := len _ _ _ _ hsp
  have KX : K.In s.heap := e0.mod.kin.keeps fun b o e => (e0.bs b o e).1
  have lim : s.heap.NoLimit := e0.mod.nolimit.keeps fun b o e => (e0.bs b o e).1
  obtain ⟨te, t, a, hE, hT, hv, ea, hq⟩ := hbody A outer s H vs Q E (hr.deeper _) hsp
  obtain ⟨cl, cld, csl, hcell⟩ := U.cell
  have hcc : s.heap.IsCell cc (some (.ref C)) := ⟨_, KX _ _ hcell, rfl⟩
  have CA : CellsAt (supF name qual params scope p0 p1 p2 p3 p4 e rest cc cda).cl ["__class__"] [none] s.heap H := by
    have one : ∀ y c, List.lookup y [(("__class__" : Str), cc)] = some c → y = ("__class__" : Str) ∧ c = cc := fun y c z => by
      by_cases hy : y = ("__class__" : Str)
      · subst hy
        have z2 : some cc = some c := z
        exact ⟨rfl, (Option.some.inj z2).symm⟩
      · have hy' : (y == ("__class__" : Str)) = false := by simpa using hy
        simp [List.lookup, hy'] at z
    refine ⟨rfl, fun y c z => ?_, fun x y c z1 z2 => (one x c z1).1.trans (one y c z2).1.symm, fun i y z => ?_⟩
    · obtain ⟨_, rfl⟩ := one y c z
      exact ⟨(e0.bs _ _ (e0.mod.kin _ _ hcell)).2, _, hcc⟩
    · have hi : i = 0 := by
        cases i with
        | zero => rfl
        | succ i => simp at z
      subst hi
      obtain rfl : ("__class__" : Str) = y := by simpa using z
      exact ⟨cc, rfl, fun v z2 => by simp at z2⟩
  refine ks_codeAny_call_defAt (body := Stmt.Expr (supE e p0 p1 p2 p3) p4 :: rest) (binds := ps.zip us) hr.depth (KX _ _ lk) rfl lim (PySem.W.codeRec_of KX hcd) rfl hb S.nocell (fun y hy => S.par y.1 (List.of_mem_zip hy).1) (fun h₁ hns kp => ?_) S.co S.gen S.kind
  have I : Inv (ncx CX P w K mg base N (supF name qual params scope p0 p1 p2 p3 p4 e rest cc cda) f A outer s H E) [] (startF N vs [none]) H { s with heap := h₁, toks := s.toks + (ps.zip us).length } := inv_startN S hr.hd e0 hl r CA hns kp
  have hs0 : (startF N vs [none])[0]? = some (some (.ref a)) := by
    unfold startF
    cases vs with
    | nil => simp at hv
    | cons v vs =>
      simp at hv
      simp [hv]
  refine ks_wpAt_execs_cons (sup_stmt (R := fun H1 => t { nx := fun _ H' => Q .non H', rt := Q } (startF N vs [none]) H1) U I rfl S.kind hks (S.frk _ (by simp)) (fd := PySem.W.ksFn name qual params (Stmt.Expr (supE e p0 p1 p2 p3) p4 :: rest) scope dV kV doc pm an (.ref cda) ct cc) hp har lk hN0 hs0 ea hE (he _) (hst _) _ hq (fun H1 s' J hR => ?_))
  refine wpAt_of_wpAny (wpAny_mono (hT.run [] s' _ H1 _ J hR) (fun fl s'' hs => ?_) fun _ _ z => z)
  have fin : ∀ {σ' : L2.St} {H' : Hp} {v : V} {u : Value}, Inv (ncx CX P w K mg base N (supF name qual params scope p0 p1 p2 p3 p4 e rest cc cda) f A outer s H E) [] σ' H' s'' → L2.RelV v u → Q v H' → CE outer P w H s Q u s'' :=
    fun {σ' H' v u} J rv q => ⟨v, H', J.os, J.bare, J.base, J.hok, rv, q⟩
  cases fl with
  | ret u =>
    obtain ⟨v, σ', H', J, rv, q⟩ := hs
    exact fin J rv q
  | next =>
    obtain ⟨σ', H', J, q⟩ := hs
    exact fin (v := V.non) (u := Value.none) J rfl q
  | brk =>
    obtain ⟨_, _, _, q⟩ := hs
    exact False.elim q
  | cont =>
    obtain ⟨_, _, _, q⟩ := hs
    exact False.elim q
end
end Sb
set_option Elab.async false
set_option maxRecDepth 100000
set_option maxHeartbeats 4000000
/-! More rules over the layer (own work): isinstance of a caught exception that has a dict; a local name that holds one of two defs that raise; keywords in a call that may raise, at the slots. -/
namespace Sb
open PySem PySem.Spec PyProof.Rows L2
section
open PySem.W
variable {prog : Program} {w : World} {A : Around} {E : Value → Shared → Prop} {s : Shared} {K : Frag} {x D : Addr} {ox : Obj} {od : Option Obj}
theorem findObj_dataD {C : Addr} {name : Str} {a g : Value} (hc : (clsIn K C).isSome = true) (ha : findIn K (.ref C) name = some (some a)) (hg : specialIn K a "__get__" = some (some g)) (ht : takesIn K a = some true) : findObj K C od name = some (.bind g a) := by
  obtain ⟨cd, hc⟩ := Option.isSome_iff_exists.mp hc
  unfold findObj
  rw [hc, Option.bind_some, ha, Option.bind_some]
  simp [hg, ht]
theorem kin_classD {Q : Option Value → Shared → Prop} (C : ExcC K D) (X : K.In s.heap) (I : InstAt s.heap x ox D od) (h : Q (some (.ref D)) { s with toks := s.toks + 1 }) : wpAny (model prog w) A (getAttr? (.ref x) "__class__") Q E s := by
  have hf : findObj K D od "__class__" = some (.bind (.builtin "getset_descriptor.__get__") (.builtin "object.__class__")) := findObj_dataD (by obtain ⟨cd, hc, _⟩ := any_some C.hd; rw [hc]; rfl) C.ha C.hn C.ht
  obtain ⟨hp, g, d, t, os⟩ := s
  have L0 := I.type (M := model prog w)
  have L1 := looks_findIn (M := model prog w) X C.hg
  have L2 := looks_findIn (M := model prog w) X C.hk
  have L3 := looks_find (M := model prog w) X I hf
  have sub : Looks (model prog w) hp (isInstance (.ref x) (.type "BaseException")) true := L0.andThen (looks_subIn X C.hs)
  have hx0 : (false && onTheHeap (Value.builtin "BaseException.__getattribute__")) = false := rfl
  have hx2 : (Value.builtin "BaseException.__getattribute__" == Value.builtin "object.__getattribute__") = false := by decide +kernel
  have hx1 : (onTheHeap (Value.ref D) && Value.builtin "BaseException.__getattribute__" == Value.builtin "object.__getattribute__") = false := by rw [hx2]; rfl
  unfold getAttr? getAttrBy? getAttrBy
  refine wpAny_bind (wpAny_mkText (wpAny_bind (wpAny_attempt (wpAny_holding (wpAny_bind (L0.at (wpAny_bind (L1.at ?_))))))))
  show wpAny _ _ (if (onTheHeap (Value.ref D) && Value.builtin "BaseException.__getattribute__" == Value.builtin "object.__getattribute__") = true then _ else _) _ _ _
  rw [hx1, if_neg Bool.false_ne_true]
  unfold getAttrByItsOwn hookBefore
  refine wpAny_bind ?_
  rw [if_pos (show onTheHeap (Value.ref D) = true from rfl)]
  refine L2.at ?_
  refine wpAny_bind (wpAny_attempt (wpAny_holding ?_))
  unfold callGetattribute
  rw [hx0, if_neg Bool.false_ne_true]
  unfold boundAndCalled
  rw [PySem.F.excAttr_ValueError.ga.bind (.ref x)]
  refine wpAny_bind (wpAny_pure ?_)
  show wpAny _ _ (call (.builtin "BaseException.__getattribute__") [.ref x, .str "__class__" t]) _ _ _
  refine wpAny_call (codeAny_call_builtin PySem.F.excAttr_ValueError.ga.plain PySem.F.entry_bexc_ga ?_)
  refine @check_slot (model prog w) _ _ ⟨hp, g, d, t + 1, os⟩ "BaseException.__getattribute__" "BaseException" "__getattribute__" (.ref x) [.str "__class__" t] [] _ (by decide +kernel) (by decide +kernel) sub (PySem.F.args_bexc_ga (.ref x) (.str "__class__" t)) ?_
  unfold Builtin.«object.__getattribute__»
  refine wpAny_bind (wpAny_of_eq (a := ((Value.ref x : Value), [Value.str "__class__" t])) (by first | rfl | (simp only [slotArgs]; rfl)) ?_)
  refine wpAny_bind (wpAny_pure (wpAny_bind (L0.at (wpAny_bind (L3.at ?_)))))
  show wpAny _ _ (holding [Value.builtin "object.__class__"] (call (.builtin "getset_descriptor.__get__") [.builtin "object.__class__", .ref x, .ref D]) >>= ret) _ _ _
  refine wpAny_bind (wpAny_holding (wpAny_call (class_get (s := ⟨hp, g, d, t + 1, os⟩) (ox := ox) (od := od) X I C.hm ?_)))
  refine wpAny_pure ?_
  show wpAny _ _ (handedOut (.ref D)) _ _ _
  rw [handedOut_of (v := .ref D) rfl]
  first
    | exact wpAny_pure (wpAny_pure h)
    | exact wpAny_pure h
    | exact wpAny_pure (wpAny_bind (wpAny_pure (wpAny_pure h)))
theorem kitx_excD (C : ExcC K D) : KitX K (.ref x) (.ref D) (fun h => InstAt h x ox D od) where
  ty := fun _ _ _ I => I.type
  it := fun _ _ X _ => by
    obtain ⟨cdD, hcD, _⟩ := any_some C.hd
    unfold clsIn at hcD
    split at hcD
    · rename_i c' d' cd' sl' ho
      intro A' Q' E' s' k q
      unfold isType loadHead
      exact wpAny_bind (wpAny_loadPart (k _ _ (X _ _ ho)) (wpAny_pure q))
    · cases hcD
  ne := fun h tp dd its n sl X htp => by
    obtain ⟨cdD, hcD, _⟩ := any_some C.hd
    refine Bool.eq_false_iff.mpr fun q => ?_
    have e : D = tp := Value.ref.inj (beq_iff_eq.mp q)
    subst e
    unfold clsIn at hcD
    split at hcD
    · rename_i c' d' cd' sl' ho
      have z := (X _ _ ho).symm.trans htp
      cases z
    · cases hcD
  ca := fun X I k => kin_classD C X I k
end
/-- an expression's answers in one: R says what is needed of them -/
def tCutE (t : TE) : TE := fun σ H Q => ∃ R : V → Hp → Prop, t σ H R ∧ ∀ v H', R v H' → Q v H'
theorem pe_cut {X : Cx} {e : Expr} {t : TE} (h : PE X e t) : PE X e (tCutE t) := by
  refine ⟨fun pins s σ H Q I hq => ?_⟩
  obtain ⟨R, h1, h2⟩ := hq
  exact thn (h.run pins s σ H R I h1) fun u s1 ⟨v, H1, I1, r1, q1⟩ => ⟨v, H1, I1, r1, h2 v H1 q1⟩
/-- isinstance(e, c), e the exception (with its dict) that the suite holds -/
def rIsD (K : PySem.W.Frag) (cls : Value) (d : Option Addr) (a : Addr) : List V → Hp → VK → Prop := fun xs H Q => ∃ (D dd : Addr) (c : V) (cv : Value) (b : Bool) (fs : List (Str × V)), cls = .ref D ∧ d = some dd ∧ ExcC K D ∧ xs = [.ref a, c] ∧ H dd = some (.xd fs) ∧ (∀ u, RelV c u → u = cv) ∧ PySem.W.kitOne K (.ref D) cv = some b ∧ Q (.bl b) H
theorem call_isD {X : Cx} {a : Addr} {cls : Value} {d : Option Addr} {oe : Obj} {pn : List (Addr × Obj)} (hz : Zc cls d oe) (hf : ∃ vs, oe.data = .fields vs) : CallR (X.suite a ((a, oe) :: pn)) (.builtin "isinstance") (rIsD X.K cls d a) := by
  intro pins s σ H xs us Q I r h
  obtain ⟨D, dd, c, cv, b, fs, rfl, rfl, C, rfl, hd, hcv, e, q⟩ := h
  cases r with
  | cons rx rr =>
    cases rr with
    | cons rt rr =>
      cases rr
      cases rx
      have ec := hcv _ rt
      subst ec
      obtain ⟨hget, _⟩ := I.pin (a, oe) (List.mem_append.mpr (.inl List.mem_cons_self))
      obtain ⟨vs, hv⟩ := hf
      have hx : ObjOk X.prog X.w H s.heap dd (.xd fs) := I.hok dd _ hd
      obtain ⟨mA, ⟨od, es, ep, ho, hrr⟩, hr⟩ := hx
      have J : PySem.W.InstAt s.heap a oe D (some od) := by
        obtain ⟨oc, od', oda, osl⟩ := oe
        obtain ⟨h1, h2⟩ := hz
        dsimp only at h1 h2 hv
        subst h1 h2 hv
        exact ⟨hget, rfl, rfl, ho⟩
      exact PySem.W.kia_one (kitx_excD C) I.kIn J e (fun z => nomatch z) fun tk => ⟨.bl b, H, I.kept (t' := tk) fun _ _ z => z, rfl, q⟩

/-! ### a local name that holds one of two defs, both may raise -/
structure CalX (P : Program) (w : World) (K : PySem.W.Frag) (mg : Str → Option Value) (base : Heap) (CX : CXT) (k : Nat) (f : Addr) (sp : Sp) : Prop where
  ex : ∃ (fd : FuncData) (ps : List Str), FnOk P w K mg base CX k f fd ps sp ∧ PySem.W.keepIn K (.ref f) = true ∧ Binds K fd ps []
def tCallVX (i : Nat) (f1 f2 : Addr) (sp1 sp2 : Sp) (E : XK) (t : TA) : TE := fun σ H Q => (σ[i]? = some (some (.ref f1)) ∧ t σ H fun vs H1 => sp1 vs H1 Q E) ∨ (σ[i]? = some (some (.ref f2)) ∧ t σ H fun vs H1 => sp2 vs H1 Q E)
section
variable {X : Cx} {CX : CXT} {j : Nat} {x : Str} {E : XK} {p pos : Pos} {e : Expr} {es : List Expr} {t : TA}
theorem pe_cvX {i k1 k2 : Nat} {f1 f2 : Addr} {sp1 sp2 : Sp} (c1 : CalX X.prog X.w X.K X.mg X.base CX k1 f1 sp1) (c2 : CalX X.prog X.w X.K X.mg X.base CX k2 f2 sp2) (hr : Room j X.A) (hk1 : k1 ≤ j) (hk2 : k2 ≤ j) (hx : Passes CX X E) (hN : X.N[i]? = some x) (hv : Vis X.env.scope x) (ha : PA X (e :: es) t)
    (hd : (x == ("__debug__" : Str)) = false := by decide) (hcd : (x == ("__classdict__" : Str)) = false := by decide)
    (he : starEach (e :: es) X.env = (false, eval e X.env) :: starEach es X.env := by rfl) (hpl : (backTo pos (starEach es X.env)).any (·.1) = false := by rfl) :
    PE X (.Call (.Name x p) (e :: es) [] pos) (tCallVX i f1 f2 sp1 sp2 E t) := by
  refine ⟨fun pins s σ H Q I h => ?_⟩
  have go : ∀ {k : Nat} {f : Addr} {sp : Sp}, CalX X.prog X.w X.K X.mg X.base CX k f sp → k ≤ j → σ[i]? = some (some (.ref f)) → (t σ H fun vs H1 => sp vs H1 Q E) → wpAny (model X.prog X.w) X.A (eval (.Call (.Name x p) (e :: es) [] pos) X.env) (EP X pins σ Q) X.xe s := fun {k f sp} c hk hs ht => by
    obtain ⟨fd, ps, F, kp, b⟩ := c.ex
    refine wpAny_Call_Name_kw (thn ((pe_var (pos := p) hN hv hd hcd).run pins s σ H (fun v H1 => v = .ref f ∧ H1 = H) I ⟨.ref f, hs, rfl, rfl⟩) fun u s1 ⟨v, H1, I1, r1, q1⟩ => ?_)
    obtain ⟨rfl, rfl⟩ := q1
    cases r1
    refine PySem.W.callWith_K (h₀ := X.base) I.ok.mod.kin kp (thn (ha.run pos pins s1 σ _ _ I1 ht) fun us s2 ⟨vs, H2, I2, r, q⟩ => ⟨I2.kIn, ?_⟩) he hpl
    exact run_fn F (hr.mono hk) b .nil hx I2 r (by rw [List.append_nil]; exact q)
  rcases h with ⟨h1, h2⟩ | ⟨h1, h2⟩
  · exact go c1 hk1 h1 h2
  · exact go c2 hk2 h1 h2
end

/-! ### f(e, .., k = v, ..), what it lets out told at the slots -/
def tCallNS (n m : Nat) (sp : Sp) (gV : List V → List V → List V) (E : L2.St → XK) (t tk : TA) : TE := fun σ H Q => t σ H fun vs H1 => tk σ H1 fun zs H2 => vs.length = n ∧ zs.length = m ∧ sp (gV vs zs) H2 Q (E σ)
section
variable {X : Cx} {CX : CXT} {k n : Nat} {f : Addr} {fd : FuncData} {ps ks : List Str} {sp : Sp} {E : L2.St → XK} {x : Str} {p pos : Pos} {e : Expr} {es : List Expr} {kws : List Keyword} {t tk : TA} {g : List Value → List Value → List Value} {gV : List V → List V → List V}
theorem run_fnNS {pins : List (Addr × Obj)} {σ : L2.St} {H : Hp} {s : Shared} {Q : VK} {us ws : List Value} {vs zs : List V} (F : FnOk X.prog X.w X.K X.mg X.base CX k f fd ps sp) (hr : Room k X.A) (hb : KBn X.K fd ps n ks g gV) (hx : PassesAt CX X σ (E σ))
    (I : Inv X pins σ H s) (r : Vals vs us) (rz : Vals zs ws) (l1 : vs.length = n) (l2 : zs.length = ks.length) (h : sp (gV vs zs) H Q (E σ)) : wpAny (model X.prog X.w) X.A (call (.ref f) us (ks.zip ws)) (EP X pins σ Q) X.xe s := by
  have r2 := hb.rel r rz
  refine wpAny_call (codeAny_mono (F.run X.A X.stack s H ⟨us, ks.zip ws⟩ (g us ws) (gV vs zs) Q (E σ) hr I.env0 (hb.to s us ws I.kIn (r.length.symm.trans l1) (rz.length.symm.trans l2)) r2 h) fun r s' hq => ?_)
  cases r with
  | error e => exact hx pins H s e s' I hq
  | ok fl =>
    cases fl with
    | ret u => exact I.after hq
    | next => exact False.elim hq
    | brk => exact False.elim hq
    | cont => exact False.elim hq
theorem pe_callNS (F : FnOk X.prog X.w X.K X.mg X.base CX k f fd ps sp) (hr : Room k X.A) (hg : Gl X x) (hm : X.mg x = some (.ref f)) (hk : PySem.W.keepIn X.K (.ref f) = true) (hb : KBn X.K fd ps n ks g gV) (hx : ∀ σ, PassesAt CX X σ (E σ))
    (ha : PA X (e :: es) t) (hkw : PK X kws tk) (hall : (backToKw pos (keywordEach kws X.env)).all (·.1.isSome) = true := by rfl) (hks : (backToKw pos (keywordEach kws X.env)).filterMap (·.1) = ks := by rfl)
    (hdb : (x == ("__debug__" : Str)) = false := by decide) (he : starEach (e :: es) X.env = (false, eval e X.env) :: starEach es X.env := by rfl)
    (hpl : ((backTo pos (starEach (e :: es) X.env)).any (·.1) || (backToKw pos (keywordEach kws X.env)).any (·.1.isNone)) = false := by rfl) :
    PE X (.Call (.Name x p) (e :: es) kws pos) (tCallNS n ks.length sp gV E t tk) := by
  refine ⟨fun pins s σ H Q I h => ?_⟩
  refine wpAny_Call_Name_kw (ld_glob I hg hm ?_ hdb)
  refine PySem.W.callWith_KW (h₀ := X.base) I.ok.mod.kin hk hall (thn (ha.run pos pins s σ H _ I h) fun us s1 ⟨vs, H1, I1, r, q⟩ => ?_) hpl he
  refine thn (hkw.run pos pins s1 σ H1 _ I1 q) fun ws s2 ⟨zs, H2, I2, rz, l1, l2, q2⟩ => ⟨I2.kIn, ?_⟩
  rw [hks]
  exact run_fnNS F hr hb (hx σ) I2 r rz l1 l2 q2
end
section
variable {K : PySem.W.Frag} {x qual : Str} {params : Arguments} {body : List Stmt} {scope : Scope} {kws : List (Str × V)} {f : Addr} {fd : FuncData} {ps : List Str}
/-- f(e, .., k = v, ..) where only keyword-only parameters have defaults; ms: those that lack -/
theorem kbinds0 (F : FunD K x qual params body scope [] kws f fd) (n : Nat) (ks : List Str) (ms : List (Str × V)) (g : {α : Type} → List α → List α → List α → List α) (hk : kws ≠ []) (hms : ∀ q ∈ ms, q ∈ kws)
    (hrel : ∀ {vs mz zs : List V} {us mv ws : List Value}, Vals vs us → Vals mz mv → Vals zs ws → Vals (g vs mz zs) (g us mv ws))
    (h : ∀ (D : Addr) (doc pm : Value) (an : Option Addr) (cdv ct : Value) (us mv ws : List Value), us.length = n → mv.length = ms.length → ws.length = ks.length →
      KwChain D ((ms.map (·.1)).zip mv) (bindArgs (PySem.W.fnOf x qual params body scope .none (.ref D) doc pm an cdv ct) ⟨us, ks.zip ws⟩) (ps.zip (g us mv ws))) :
    ∃ mv : List Value, KBn K fd ps n ks (fun us ws => g us mv ws) (fun vs zs => g vs (ms.map (·.2)) zs) := by
  obtain ⟨oc, od, dV, kV, doc, pm, an, cdv, ct, osl, rfl, lk, hcd, hD, hK⟩ := F.ex
  rcases hD with ⟨_, rfl⟩ | ⟨e, _⟩
  · rcases hK with e | ⟨D, rfl, hq⟩
    · exact absurd e hk
    · obtain ⟨mv, hl, rk, hks⟩ := kwd_vals (ms := ms) fun q hm => hq q (hms q hm)
      refine ⟨mv, ⟨fun s us ws X l1 l2 => ?_, fun r1 r2 => hrel r1 rk r2⟩⟩
      exact BindsTo.of_looks fun M => KwChain.looks X hks (h D doc pm an cdv ct us mv ws l1 hl l2)
  · exact absurd rfl e
end
end Sb
set_option Elab.async false
set_option maxRecDepth 100000
set_option maxHeartbeats 4000000
namespace Sb
open PySem PySem.Spec PyProof.Rows L2 SX
def top (i : Nat) : Stmt := PySem.Challenge.pw_stylobate_k81_faults_of_texts.main.body.getD i (.Pass ⟨0, 0, 0, 0⟩)
abbrev s__law_cell : Stmt := top 37
abbrev sc__law_cell_N : List Str := ["_law_script", "_law_k"]
theorem sc__law_cell : FnScope sc__law_cell_N ["_law_script", "_law_k"] (defScope s__law_cell) := ⟨rfl, rfl, rfl, by decide +kernel, rfl, by decide +kernel, by decide +kernel⟩
abbrev s__law_state : Stmt := top 38
abbrev sc__law_state_N : List Str := ["_law_cell_here", "_law_k", "_law_prime", "_law_first", "_law_second", "_law_third", "_law_fourth"]
theorem sc__law_state : FnScope sc__law_state_N ["_law_cell_here", "_law_k"] (defScope s__law_state) := ⟨rfl, rfl, rfl, by decide +kernel, rfl, by decide +kernel, by decide +kernel⟩
abbrev s__law_digit : Stmt := top 39
abbrev sc__law_digit_N : List Str := ["_law_state_here", "_law_many", "_law_digit_here"]
theorem sc__law_digit : FnScope sc__law_digit_N ["_law_state_here", "_law_many"] (defScope s__law_digit) := ⟨rfl, rfl, rfl, by decide +kernel, rfl, by decide +kernel, by decide +kernel⟩

structure Txt (K : PySem.W.Frag) (mg : Str → Option Value) (C fM fP : Addr) : Prop where
  n_len : mg "len" = none
  n_int : mg "int" = none
  n_range : mg "range" = none
  n_min : mg "min" = none
  n_isinstance : mg "isinstance" = none
  n_list : mg "list" = none
  n_bool : mg "bool" = none
  cl : Cls K C
  nT : NoAttr K C "text"
  nO : NoAttr K C "offset"
  nM : NoAttr K C "marked"
  g_Field : mg "Field" = some (.ref C)
  g_MARK : ∃ u, mg "MARK" = some u ∧ RelV (.str (S [34])) u
  g_END : ∃ u, mg "END" = some u ∧ RelV (.str (S [10])) u
  g_read_marked : mg "read_marked" = some (.ref fM)
  g_read_plain : mg "read_plain" = some (.ref fP)
  isC : C8.InsC K C

def spCell (K : PySem.W.Frag) : Sp := fun vs H Q _ => ∃ (a : Addr) (ns : List Int) (j : Nat), vs = [.ref a, .int (j : Int)] ∧ SqL K H a (ns.map V.int) ∧ ∀ z : Int, Q (.int z) H
def spState : Sp := fun vs H Q _ => ∃ (c k : Int), vs = [.int c, .int k] ∧ ∀ (p : Addr) (z : Int), H p = none → Q (.ref p) (upd H p (.lst [.int z]))
def spDigit : Sp := fun vs H Q _ => ∃ (p : Addr) (m : Int), vs = [.ref p, .int m] ∧ Dr H p ∧ 0 < m ∧ m < 1073741824 ∧ ∀ (d : Int) (H' : Hp), 0 ≤ d → d < m → Kp p H H' → Q (.int d) H'


section
variable {P : Program} {w : World} {K : PySem.W.Frag} {mg : Str → Option Value} {base : Heap} {C fM fP : Addr}
theorem ok__law_cell {f : Addr} {fd : FuncData} (F : Fun K "_law_cell" "_law_cell" s__law_cell f fd) (T : Txt K mg C fM fP) : FnOk P w K mg base CX0 1 f fd ["_law_script", "_law_k"] (spCell K) := by
  refine F.ok sc__law_cell (fun vs H Q E h => ?_) (fun cdv A outer s H vs Q E hr h => ?_)
  · obtain ⟨a, ns, j, rfl, _⟩ := h
    rfl
  · obtain ⟨a, ns, j, rfl, hS, k⟩ := h
    refine ⟨_, pss_cons (ps_if (pt_cmpR op_lt (pv 1) (pe_callB call_len_seq (by rfl) T.n_len PySem.boot_len (pa_cons (pv 0) pa_nil)) (nomark _)) (pss_one (ps_ret (pe_ix ix_list (pv 0) (pv 1) (fun _ _ => rfl)))) pss_nil)
  (pss_one (ps_ret pe_int)), ?_⟩
    refine ⟨_, rfl, _, rfl, a, _, rfl, .inl hS, _, _, rfl, rfl, _, rfl, ?_⟩
    refine ite2 (fun hlt => ?_) (fun _ => ?_)
    · have hj : j < ns.length := by
        have := of_decide_eq_true hlt
        rw [List.length_map] at this
        omega
      have e : (ns.map V.int)[j]? = some (V.int ns[j]) := by rw [List.getElem?_map, List.getElem?_eq_getElem hj]; rfl
      exact ⟨_, rfl, _, rfl, a, _, _, _, rfl, rfl, hS, atI_nat e, k _⟩
    · exact k _
theorem ok__law_state {f : Addr} {fd : FuncData} (F : Fun K "_law_state" "_law_state" s__law_state f fd) (T : Txt K mg C fM fP) : FnOk P w K mg base CX0 1 f fd ["_law_cell_here", "_law_k"] spState := by
  refine F.ok sc__law_state (fun vs H Q E h => ?_) (fun cdv A outer s H vs Q E hr h => ?_)
  · obtain ⟨c, i, rfl, _⟩ := h
    rfl
  · obtain ⟨c, i, rfl, k⟩ := h
    refine ⟨_, (pss_cons (ps_if (pt_cmpR op_ge (pv 0) pe_int (nomark _)) (pss_one (ps_ret (pe_lst (pa_cons (pv 0) pa_nil)))) pss_nil)
  (pss_cons (ps_set (i := 2) sc__law_state.nd rfl (Or.inl rfl) pe_int)
  (pss_cons (ps_set (i := 3) sc__law_state.nd rfl (Or.inl rfl) (pe_op op_mod (pe_callTy call_int1 (by rfl) T.n_int (by decide +kernel) (pa_cons (pe_op op_add (pe_op op_add (pe_op op_mul (pv 0) pe_int) (pe_op op_mul (pe_op op_add (pv 1) pe_int) pe_int)) pe_int) pa_nil)) (pv 2)))
  (pss_cons (ps_set (i := 4) sc__law_state.nd rfl (Or.inl rfl) (pe_op op_mod (pe_callTy call_int1 (by rfl) T.n_int (by decide +kernel) (pa_cons (pe_op op_add (pe_op op_add (pe_op op_mul (pv 3) (pv 3)) (pe_op op_mul pe_int (pv 3))) (pv 1)) pa_nil)) (pv 2)))
  (pss_cons (ps_set (i := 5) sc__law_state.nd rfl (Or.inl rfl) (pe_op op_mod (pe_callTy call_int1 (by rfl) T.n_int (by decide +kernel) (pa_cons (pe_op op_add (pe_op op_add (pe_op op_mul (pv 4) pe_int) (pe_op op_mul (pv 3) pe_int)) pe_int) pa_nil)) (pv 2)))
  (pss_cons (ps_set (i := 6) sc__law_state.nd rfl (Or.inl rfl) (pe_op op_mod (pe_callTy call_int1 (by rfl) T.n_int (by decide +kernel) (pa_cons (pe_op op_add (pe_op op_mul (pv 5) (pv 5)) (pv 4)) pa_nil)) (pv 2)))
  (pss_one (ps_ret (pe_lst (pa_cons (pe_op op_add (pe_op op_mul (pe_op op_add (pe_op op_mul (pe_op op_add (pe_op op_mul (pv 6) (pv 2)) (pv 5)) (pv 2)) (pv 4)) (pv 2)) (pv 3)) pa_nil)))))))))), ?_⟩
    refine ⟨_, rfl, _, _, rfl, rfl, _, rfl, ?_⟩
    refine ite2 (fun _ => ?_) (fun _ => ?_)
    · exact ⟨_, rfl, by show 1 ≤ sizeLine; decide, fun p hp => k p _ hp⟩
    have pr : (0 : Int) < 2305843009213693951 := by decide
    have md : ∀ x : Int, -(2 ^ 64) < x % 2305843009213693951 ∧ x % 2305843009213693951 < 2 ^ 64 := fun x => by
      have h1 := Int.emod_nonneg x (b := 2305843009213693951) (by decide)
      have h2 := Int.emod_lt_of_pos x pr
      omega
    have c1 : -(2 ^ 64) < (6364136223 : Int) ∧ (6364136223 : Int) < 2 ^ 64 := by decide
    refine ⟨_, rfl, _, _, rfl, rfl, .inr (by decide), _, rfl, _, _, rfl, rfl, _, _, rfl, rfl, .inr (by decide), _, _, rfl, rfl, _, _, rfl, rfl, .inl ⟨_, rfl, ?_⟩⟩
    refine ⟨_, rfl, _, _, rfl, rfl, pr, ?_⟩
    refine ⟨_, rfl, _, rfl, _, _, rfl, rfl, .inl (md _), _, rfl, _, _, rfl, rfl, .inl (by decide), _, _, rfl, rfl, _, rfl, _, _, rfl, rfl, .inl ⟨_, rfl, ?_⟩⟩
    refine ⟨_, rfl, _, _, rfl, rfl, pr, ?_⟩
    refine ⟨_, rfl, _, _, rfl, rfl, .inr (by decide), _, rfl, _, _, rfl, rfl, .inr (by decide), _, _, rfl, rfl, _, _, rfl, rfl, .inl ⟨_, rfl, ?_⟩⟩
    refine ⟨_, rfl, _, _, rfl, rfl, pr, ?_⟩
    refine ⟨_, rfl, _, rfl, _, _, rfl, rfl, .inl (md _), _, rfl, _, _, rfl, rfl, .inl ⟨_, rfl, ?_⟩⟩
    refine ⟨_, rfl, _, _, rfl, rfl, pr, ?_⟩
    refine ⟨_, rfl, _, rfl, _, _, rfl, rfl, .inr (by decide), _, rfl, _, _, rfl, rfl, _, rfl, _, _, rfl, rfl, .inr (by decide), _, rfl, _, _, rfl, rfl, _, rfl, _, _, rfl, rfl, .inr (by decide), _, rfl, _, _, rfl, rfl, by show 1 ≤ sizeLine; decide, fun p hp => k p _ hp⟩
theorem ok__law_digit {f : Addr} {fd : FuncData} (F : Fun K "_law_digit" "_law_digit" s__law_digit f fd) (T : Txt K mg C fM fP) : FnOk P w K mg base CX0 1 f fd ["_law_state_here", "_law_many"] spDigit := by
  refine F.ok sc__law_digit (fun vs H Q E h => ?_) (fun cdv A outer s H vs Q E hr h => ?_)
  · obtain ⟨p, m, rfl, _⟩ := h
    rfl
  · obtain ⟨p, m, rfl, ⟨z, hz⟩, m0, m1, k⟩ := h
    refine ⟨_, (pss_cons (ps_set (i := 2) sc__law_digit.nd rfl (Or.inl rfl) (pe_op op_mod (pe_callTy call_int1 (by rfl) T.n_int (by decide +kernel) (pa_cons (pe_ix ix_list (pv 0) pe_int (fun _ _ => rfl)) pa_nil)) (pv 1)))
  (pss_cons (ps_asg (pe_op op_fdiv (pe_ix ix_list (pv 0) pe_int (fun _ _ => rfl)) (pv 1)) (pg_sub (pv 0) pe_int set_list))
  (pss_one (ps_ret (pv 2))))), ?_⟩
    refine ⟨_, rfl, p, _, _, _, rfl, rfl, seqL hz, rfl, .inl ⟨_, rfl, _, rfl, _, _, rfl, rfl, m0, ?_⟩⟩
    refine ⟨_, rfl, p, _, _, _, rfl, rfl, seqL hz, rfl, _, rfl, _, _, rfl, rfl, ⟨m0, m1⟩, _, rfl, p, _, _, 0, rfl, rfl, hz, rfl, _, rfl, ?_⟩
    refine k _ _ (Int.emod_nonneg _ (by omega)) (Int.emod_lt_of_pos _ m0) ⟨fun b o hb e => by rw [upd_ne hb]; exact e, _, upd_same⟩
end
end Sb
set_option Elab.async false
set_option maxRecDepth 100000
set_option maxHeartbeats 4000000
namespace Sb
open PySem PySem.Spec PyProof.Rows L2 SX
abbrev s__law_is_integer : Stmt := top 40
abbrev sc__law_is_integer_N : List Str := ["_law_told_here"]
theorem sc__law_is_integer : FnScope sc__law_is_integer_N ["_law_told_here"] (defScope s__law_is_integer) := ⟨rfl, rfl, rfl, by decide +kernel, rfl, by decide +kernel, by decide +kernel⟩
abbrev s__law_field_text : Stmt := top 41
abbrev sc__law_field_text_N : List Str := ["_law_state_here", "_law_signs", "_law_k"]
theorem sc__law_field_text : FnScope sc__law_field_text_N ["_law_state_here"] (defScope s__law_field_text) := ⟨rfl, rfl, rfl, by decide +kernel, rfl, by decide +kernel, by decide +kernel⟩
abbrev s__law_written : Stmt := top 42
abbrev sc__law_written_N : List Str := ["_law_text", "_law_separator", "_law_marked", "_law_sign"]
theorem sc__law_written : FnScope sc__law_written_N ["_law_text", "_law_separator", "_law_marked"] (defScope s__law_written) := ⟨rfl, rfl, rfl, by decide +kernel, rfl, by decide +kernel, by decide +kernel⟩
abbrev s__law_must_mark : Stmt := top 43
abbrev sc__law_must_mark_N : List Str := ["_law_text", "_law_separator"]
theorem sc__law_must_mark : FnScope sc__law_must_mark_N ["_law_text", "_law_separator"] (defScope s__law_must_mark) := ⟨rfl, rfl, rfl, by decide +kernel, rfl, by decide +kernel, by decide +kernel⟩

theorem c_quote : (Str.ofString "\"") = S [34] := by decide +kernel
theorem c_quote2 : (Str.ofString "\"\"") = S [34, 34] := by decide +kernel
theorem c_nl : (Str.ofString "\n") = S [10] := by decide +kernel
theorem c_nil : (Str.ofString "") = S [] := by decide +kernel
def signs : List Nat := [97, 98, 49, 44, 59, 32, 39, 34, 10, 45, 120]
theorem c_signs : (Str.ofString "ab1,; '\"\n-x") = S signs := by decide +kernel

def spIsInt : Sp := fun vs H Q _ => ∃ i : Int, vs = [.int i] ∧ Q (.bl true) H
def spField : Sp := fun vs H Q _ => ∃ p : Addr, vs = [.ref p] ∧ Dr H p ∧ ∀ (t : List Nat) (H' : Hp), t.length ≤ 5 → (∀ c ∈ t, c < 128) → Kp p H H' → Q (.str (S t)) H'
def spWritten : Sp := fun vs H Q _ => ∃ (t : List Nat) (z : Str) (m : Bool), vs = [.str (S t), .str z, .bl m] ∧ t.length ≤ 1000 ∧ ∀ H' : Hp, Same H H' → Q (.str (S (Sep.enc t m))) H'
def mustM (sep : Nat) (t : List Nat) : Bool := decide (sep ∈ t) || decide (34 ∈ t) || decide (10 ∈ t)
def spMust : Sp := fun vs H Q _ => ∃ (t : List Nat) (sep : Nat), vs = [.str (S t), .str (S [sep])] ∧ Q (.bl (mustM sep t)) H

section
variable {P : Program} {w : World} {K : PySem.W.Frag} {mg : Str → Option Value} {base : Heap} {C fM fP : Addr}
theorem ok__law_is_integer {f : Addr} {fd : FuncData} (F : Fun K "_law_is_integer" "_law_is_integer" s__law_is_integer f fd) (T : Txt K mg C fM fP) : FnOk P w K mg base CX0 1 f fd ["_law_told_here"] spIsInt := by
  refine F.ok sc__law_is_integer (fun vs H Q E h => ?_) (fun cdv A outer s H vs Q E hr h => ?_)
  · obtain ⟨i, rfl, _⟩ := h
    rfl
  · obtain ⟨i, rfl, k⟩ := h
    refine ⟨_, (pss_one (ps_ret (pe_and (pe_callB call_isi (by rfl) T.n_isinstance (by decide +kernel) (pa_cons (pv 0) (pa_cons (pe_bltn (by rfl) T.n_int (by decide +kernel) (show RelV (.ty "int") (.type "int") from rfl)) pa_nil))) (pe_one (pe_not (pe_callB call_isi (by rfl) T.n_isinstance (by decide +kernel) (pa_cons (pv 0) (pa_cons (pe_bltn (by rfl) T.n_bool (by decide +kernel) (show RelV (.ty "bool") (.type "bool") from rfl)) pa_nil)))))))), ?_⟩
    refine ⟨_, rfl, _, _, _, _, true, rfl, .ty _, .base (.int _), kit_ty (by decide +kernel), true, rfl, iteT ?_⟩
    exact ⟨_, rfl, _, _, _, _, false, rfl, .ty _, .base (.int _), kit_ty (by decide +kernel), false, rfl, k⟩
theorem ok__law_field_text {f : Addr} {fd : FuncData} (F : Fun K "_law_field_text" "_law_field_text" s__law_field_text f fd) (T : Txt K mg C fM fP) (C__law_digit : Cal P w K mg base CX0 1 "_law_digit" spDigit) : FnOk P w K mg base CX0 2 f fd ["_law_state_here"] spField := by
  refine F.ok sc__law_field_text (fun vs H Q E h => ?_) (fun cdv A outer s H vs Q E hr h => ?_)
  · obtain ⟨i, rfl, _⟩ := h
    rfl
  · obtain ⟨p, rfl, dr, k⟩ := h
    refine ⟨_, (pss_cons (ps_set (i := 1) sc__law_field_text.nd rfl (Or.inr rfl) pe_str)
  (pss_one (ps_ret (pe_join pe_str (pe_lc (own := [("_law_k", 2)]) (g := gName 2) rfl sc__law_field_text.nd (pi_range1 rfl T.n_range (pa_cons (pe_k C__law_digit hr (by decide) (by rfl) pass0 (pa_cons (pv 0) (pa_cons pe_int pa_nil))) pa_nil)) (blkOk_by (own := [("_law_k", 2)]) (N := sc__law_field_text_N) (sc := defScope s__law_field_text) (by decide +kernel)) (fun _ _ _ _ _ => pg_name (i := 2) sc__law_field_text.nd rfl (Or.inl rfl)) (fun _ _ _ _ _ => pts_nil) (fun _ _ _ _ _ => (pe_ix ix_str (pv 1) (pe_k C__law_digit hr (by decide) (by rfl) pass0 (pa_cons (pv 0) (pa_cons pe_int pa_nil))) (fun _ _ => rfl)))))))), ?_⟩
    refine ⟨⟨_, rfl⟩, _, rfl, p, _, rfl, dr, by decide, by decide, fun d H1 d0 d1 k1 => ?_⟩
    refine ⟨d, rfl, by omega, by omega, fun D hD => ?_⟩
    have hDH : H D = none := by
      obtain ⟨z, hz⟩ := dr
      cases e : H D with
      | none => rfl
      | some o =>
        by_cases hp : D = p
        · subst hp
          obtain ⟨_, y, hy⟩ := k1
          rw [hD] at hy; cases hy
        · rw [k1.1 D o hp e] at hD; cases hD
    refine lc_range (lo := 0) (n := d.toNat) (fun i H' => ∃ cs : List Nat, cs.length = i ∧ (∀ c ∈ cs, c < 128) ∧ Kp p H H' ∧ H' D = some (.lst (cs.map fun c => V.str (S [c]))))
      ⟨[], rfl, by simp, k1.new hD, upd_same⟩ (fun i H' hi ⟨cs, hl, hs, k2, hL⟩ => ?_) (fun H' ⟨cs, hl, hs, k2, hL⟩ => ?_)
    · refine ⟨rfl, _, rfl, _, rfl, p, _, rfl, k2.dr, by decide, by decide, fun e H2 e0 e1 k3 => ?_⟩
      obtain ⟨j, rfl⟩ : ∃ j : Nat, e = (j : Int) := ⟨e.toNat, by omega⟩
      have hj : j < signs.length := by show j < 11; omega
      have e4 : H2 D = some (.lst (cs.map fun c => V.str (S [c]))) := k3.1 D _ (by
        obtain ⟨z, hz⟩ := k2.dr
        exact ne_of hL hz (by intro q; injection q with q; cases cs <;> simp at q)) hL
      refine ⟨_, _, signs[j], rfl, rfl, by rw [c_signs, S_len]; decide, by rw [c_signs]; exact atS (List.getElem?_eq_getElem hj), _, e4, ?_, cs ++ [signs[j]], by rw [List.length_append, hl]; rfl, ?_, ?_, ?_⟩
      · rw [List.length_map]
        exact Nat.lt_of_lt_of_le (show cs.length < 100 by omega) (by decide)
      · intro c hc
        rcases List.mem_append.mp hc with h | h
        · exact hs c h
        · have e : c = signs[j] := by simpa using h
          rw [e]
          exact (by decide : ∀ c ∈ signs, c < 128) _ (List.getElem_mem hj)
      · exact (k2.trans k3).mut hDH dr
      · rw [upd_same, List.map_append]
        rfl
    · refine ⟨_, _, cs.map (fun c => S [c]), rfl, rfl, .inl (seqL ?_), ?_, ?_⟩
      · rw [List.map_map]; exact hL
      · rw [c_nil, List.map_map]
        have : ((fun x : Str => x.length) ∘ fun c => S [c]) = fun _ => 1 := by funext c; show (S [c]).length = 1; rw [S_len]; rfl
        rw [this, S_len, sum_ones]
        simp
        omega
      · have e5 : Txt.join (Str.ofString "") (cs.map fun c => S [c]) = S cs := by
          have := join_flat (cs.map fun c => [c])
          rw [List.map_map] at this
          rw [c_nil]
          refine this.trans ?_
          congr 2
          rw [← joinL_flat, joinL_nil]
        rw [e5]
        exact k _ _ (by omega) hs k2
theorem dbl_len : ∀ t : List Nat, (Sep.dbl t).length ≤ 2 * t.length
  | [] => by simp [Sep.dbl]
  | c :: t => by
    have := dbl_len t
    by_cases h : c = 34 <;> simp [Sep.dbl, h] <;> omega
theorem dbl_snoc (t : List Nat) (c : Nat) : Sep.dbl (t ++ [c]) = Sep.dbl t ++ (if c = 34 then [34, 34] else [c]) := by
  induction t with
  | nil => simp [Sep.dbl]
  | cons d t ih => simp [Sep.dbl, ih]
theorem ok__law_written {f : Addr} {fd : FuncData} (F : Fun K "_law_written" "_law_written" s__law_written f fd) (T : Txt K mg C fM fP) : FnOk P w K mg base CX0 1 f fd ["_law_text", "_law_separator", "_law_marked"] spWritten := by
  refine F.ok sc__law_written (fun vs H Q E h => ?_) (fun cdv A outer s H vs Q E hr h => ?_)
  · obtain ⟨_, _, _, rfl, _⟩ := h
    rfl
  · obtain ⟨t, z, m, rfl, hl, k⟩ := h
    refine ⟨_, (pss_cons (ps_if (pt_not (pt_val (pv 2))) (pss_one (ps_ret (pv 0))) pss_nil)
  (pss_one (ps_ret (pe_op op_add_str (pe_op op_add_str pe_str (pe_join pe_str (pe_lc (own := [("_law_sign", 3)]) (g := gName 3) rfl sc__law_written.nd (pi_str (pv 0)) (blkOk_by (own := [("_law_sign", 3)]) (N := sc__law_written_N) (sc := defScope s__law_written) (by decide +kernel)) (fun _ _ _ _ _ => pg_name (i := 3) sc__law_written.nd rfl (Or.inl rfl)) (fun _ _ _ _ _ => pts_nil) (fun _ _ _ _ _ => (pe_ifExp (pt_cmpR op_eq (pv 3) pe_str (nomark _)) pe_str (pv 3)))))) pe_str)))), ?_⟩
    refine ⟨_, rfl, m, rfl, ?_⟩
    cases m with
    | false => exact iteT ⟨_, rfl, k H (Same.refl H)⟩
    | true =>
      refine iteF ?_
      refine ⟨⟨_, rfl⟩, _, rfl, _, rfl, fun D hD => ?_⟩
      refine lc_it (walk_str (z := S t)) (fun i H' => ∃ ls : List (List Nat), ls.length = i ∧ ls.flatten = Sep.dbl (t.take i) ∧ Same H H' ∧ H' D = some (.lst (ls.map fun c => V.str (S c))) ∧ (ls.map fun x => x.length).sum ≤ 2 * i)
        ⟨[], rfl, rfl, same_new hD, upd_same, by simp⟩ (fun _ _ _ _ => trivial) (fun i x H' H2 hi ⟨ls, hl2, hf, s2, hL, hs⟩ ⟨e2, c, hc, ex⟩ => ?_) (fun H' ⟨ls, hl2, hf, s2, hL, hs⟩ => ?_)
      · subst e2 ex
        have hc2 : t[i]? = some c := by simpa using hc
        refine ⟨rfl, _, rfl, rfl, _, rfl, ?_⟩
        have hz : ls.length < sizeLine := by
          have : i < t.length := (List.getElem?_eq_some_iff.mp hc2).1
          exact Nat.lt_of_lt_of_le (show ls.length < 2000 by omega) (by decide)
        have ht : t.take (i + 1) = t.take i ++ [c] := by rw [List.take_add_one, hc2]; rfl
        rw [c_quote, S_eq]
        refine ite2 (fun h => ?_) (fun h => ?_)
        · have h34 : c = 34 := by simpa using of_decide_eq_true h
          refine ⟨_, hL, by rw [List.length_map]; exact hz, ls ++ [[34, 34]], by simp [hl2], by rw [ht, dbl_snoc, if_pos h34]; simp [hf], same_mut s2 hD, ?_, by simp; omega⟩
          rw [upd_same, List.map_append, c_quote2]
          rfl
        · have h34 : ¬ c = 34 := fun q => h (by rw [q]; rfl)
          refine ⟨_, rfl, _, hL, by rw [List.length_map]; exact hz, ls ++ [[c]], by simp [hl2], by rw [ht, dbl_snoc, if_neg h34]; simp [hf], same_mut s2 hD, ?_, by simp; omega⟩
          rw [upd_same, List.map_append]
          rfl
      · have hsz : (S t).cps.size = t.length := by simp
        rw [hsz] at hl2 hf hs
        rw [List.take_length] at hf
        have hb : (Sep.dbl t).length ≤ 2000 := by have := dbl_len t; omega
        refine ⟨_, _, ls.map S, rfl, rfl, .inl (seqL ?_), ?_, ?_⟩
        · rw [List.map_map]; exact hL
        · rw [lens, c_nil, S_len]
          simp
          omega
        · have e5 : Txt.join (Str.ofString "") (ls.map S) = S (Sep.dbl t) := by rw [c_nil, join_flat, hf]
          rw [e5, c_quote]
          refine ⟨_, _, rfl, rfl, ?_, _, _, rfl, rfl, ?_, ?_⟩
          · rw [S_len, S_len]
            exact Nat.le_trans (show [34].length + (Sep.dbl t).length ≤ 10000 by simp; omega) (by decide)
          · rw [S_cat, S_len, S_len]
            exact Nat.le_trans (show ([34] ++ Sep.dbl t).length + [34].length ≤ 10000 by simp; omega) (by decide)
          · rw [S_cat, S_cat]
            have e6 : [34] ++ Sep.dbl t ++ [34] = Sep.enc t true := by simp [Sep.enc]
            rw [e6]
            exact k _ s2
theorem ok__law_must_mark {f : Addr} {fd : FuncData} (F : Fun K "_law_must_mark" "_law_must_mark" s__law_must_mark f fd) : FnOk P w K mg base CX0 1 f fd ["_law_text", "_law_separator"] spMust := by
  refine F.ok sc__law_must_mark (fun vs H Q E h => ?_) (fun cdv A outer s H vs Q E hr h => ?_)
  · obtain ⟨_, _, rfl, _⟩ := h
    rfl
  · obtain ⟨t, sep, rfl, k⟩ := h
    refine ⟨_, (pss_one (ps_ret (pe_or (pe_cmpR op_in_sign (pv 1) (pv 0) (by rfl)) (pe_or (pe_cmpR op_in_sign pe_str (pv 0) (by rfl)) (pe_one (pe_cmpR op_in_sign pe_str (pv 0) (by rfl))))))), ?_⟩
    have e1 : (S t).cps.toList = t := rfl
    refine ⟨_, rfl, _, rfl, sep, _, rfl, rfl, _, rfl, ?_⟩
    rw [e1]
    unfold mustM at k
    refine ite2 (fun h => ?_) (fun h => ?_)
    · rw [h] at k
      exact k
    · rw [Bool.not_eq_true _ |>.mp h, Bool.false_or] at k
      refine ⟨_, rfl, 34, _, congrArg V.str c_quote, rfl, _, rfl, ?_⟩
      rw [e1]
      refine ite2 (fun h => ?_) (fun h => ?_)
      · rw [h] at k
        exact k
      · rw [Bool.not_eq_true _ |>.mp h, Bool.false_or] at k
        exact ⟨_, rfl, 10, _, congrArg V.str c_nl, rfl, k⟩
end
end Sb
set_option Elab.async false
set_option maxRecDepth 100000
set_option maxHeartbeats 4000000
namespace Sb
open PySem PySem.Spec PyProof.Rows L2 SX
abbrev s_Field___init__ : Stmt := inClass (top 8) 0
abbrev sc_Field___init___N : List Str := ["self", "text", "offset", "marked"]
theorem sc_Field___init__ : FnScope sc_Field___init___N ["self", "text", "offset", "marked"] (defScope s_Field___init__) := ⟨rfl, rfl, rfl, by decide +kernel, rfl, by decide +kernel, by decide +kernel⟩
abbrev s_read_marked : Stmt := top 9
abbrev sc_read_marked_N : List Str := ["text", "at", "separator", "signs", "k", "behind"]
theorem sc_read_marked : FnScope sc_read_marked_N ["text", "at", "separator"] (defScope s_read_marked) := ⟨rfl, rfl, rfl, by decide +kernel, rfl, by decide +kernel, by decide +kernel⟩
abbrev s_read_plain : Stmt := top 10
abbrev sc_read_plain_N : List Str := ["text", "at", "separator", "k"]
theorem sc_read_plain : FnScope sc_read_plain_N ["text", "at", "separator"] (defScope s_read_plain) := ⟨rfl, rfl, rfl, by decide +kernel, rfl, by decide +kernel, by decide +kernel⟩

/-! ### fields in the heap -/
def fF (fl : Sep.Fld) : List (Str × V) := [("text", .str (S fl.text)), ("offset", .int (fl.off : Int)), ("marked", .bl fl.mkd)]
def FieldAt (C : Addr) (H : Hp) (p : Addr) (fl : Sep.Fld) : Prop := ∃ dx, H p = some (.ins C dx (fF fl))
theorem lk_here {k : Str} {v : V} {r : List (Str × V)} : List.lookup k ((k, v) :: r) = some v := by
  have e : (k == k) = true := beq_self_eq_true k
  simp only [List.lookup, e]
theorem lk_past {k g : Str} {v : V} {r : List (Str × V)} (h : (k == g) = false) : List.lookup k ((g, v) :: r) = List.lookup k r := by
  simp only [List.lookup, h]
theorem put_past {f g : Str} {v x : V} {r : List (Str × V)} (h : ¬ g = f) : putF f v ((g, x) :: r) = (g, x) :: putF f v r := if_neg h
theorem fF_text (fl : Sep.Fld) : (fF fl).lookup ("text" : Str) = some (.str (S fl.text)) := lk_here
theorem fF_offset (fl : Sep.Fld) : (fF fl).lookup ("offset" : Str) = some (.int (fl.off : Int)) := (lk_past (by decide +kernel)).trans lk_here
theorem fF_marked (fl : Sep.Fld) : (fF fl).lookup ("marked" : Str) = some (.bl fl.mkd) := (lk_past (by decide +kernel)).trans ((lk_past (by decide +kernel)).trans lk_here)
theorem fF_new (t : List Nat) (o : Nat) (m : Bool) : putF "marked" (.bl m) (putF "offset" (.int (o : Int)) (putF "text" (.str (S t)) [])) = fF ⟨t, o, m⟩ := by
  show putF "marked" (.bl m) (putF "offset" (.int (o : Int)) [("text", .str (S t))]) = _
  rw [put_past (by decide +kernel)]
  show putF "marked" (.bl m) [("text", .str (S t)), ("offset", .int (o : Int))] = _
  rw [put_past (by decide +kernel), put_past (by decide +kernel)]
  rfl
def spFld (C : Addr) : Sp := fun vs H Q _ => ∃ (p dx : Addr) (t : List Nat) (o : Nat) (m : Bool), vs = [.ref p, .str (S t), .int (o : Int), .bl m] ∧ H p = some (.ins C dx []) ∧
  ∀ H' : Hp, FieldAt C H' p ⟨t, o, m⟩ → (∀ b u, H b = some u → b ≠ p → H' b = some u) → Q .non H'
def spRead (C : Addr) (m : Bool) : Sp := fun vs H Q _ => ∃ (text : List Nat) (a sep : Nat) (fl : Sep.Fld) (k : Nat), vs = [.str (S text), .int (a : Int), .str (S [sep])] ∧ text.length ≤ 100000 ∧ a ≤ text.length ∧ (text[a]? = some 34 ↔ m = true) ∧ Sep.rd sep (text.drop a) a = .ok (fl, k) ∧
  ∀ (H' : Hp) (q p : Addr), H' q = some (.tup [.ref p, .int (k : Int)]) → FieldAt C H' p fl → Same H H' → H p = none → Q (.ref q) H'
theorem putF_len (f : Str) (v : V) : ∀ l : List (Str × V), (putF f v l).length ≤ l.length + 1
  | [] => Nat.le_refl 1
  | (g, x) :: r => by
    show (if g = f then (g, v) :: r else (g, x) :: putF f v r).length ≤ _
    have := putF_len f v r
    split <;> simp <;> omega
theorem lt_sz {n : Nat} (h : n ≤ 200000) : n ≤ sizeLine := Nat.le_trans h (by decide)
theorem lt_sz' {n : Nat} (h : n ≤ 200000) : n < sizeLine := Nat.lt_of_le_of_lt h (by decide)
theorem inV2 (c a b : Nat) : inV (.str (S [c])) [.str (S [a]), .str (S [b])] = decide (c = a ∨ c = b) := by
  show (S [a] == S [c] || (S [b] == S [c] || false)) = decide (c = a ∨ c = b)
  rw [S_beq_eq, S_beq_eq, Bool.or_false]
  by_cases h1 : c = a
  · subst h1; simp
  · by_cases h2 : c = b
    · subst h2; simp
    · have h3 : ¬ [a] = [c] := fun q => h1 (by simpa using q.symm)
      have h4 : ¬ [b] = [c] := fun q => h2 (by simpa using q.symm)
      rw [decide_eq_false h3, decide_eq_false h4, decide_eq_false (by omega)]
      rfl
theorem drop_cons {t : List Nat} {a : Nat} (h : a < t.length) : t.drop a = t[a] :: t.drop (a + 1) := List.drop_eq_getElem_cons h

section
variable {P : Program} {w : World} {K : PySem.W.Frag} {mg : Str → Option Value} {base : Heap} {C fM fP : Addr}
theorem ok_Field {f : Addr} {fd : FuncData} (F : Fun K "__init__" "Field.__init__" s_Field___init__ f fd) (T : Txt K mg C fM fP) : FnOk P w K mg base CX0 1 f fd ["self", "text", "offset", "marked"] (spFld C) := by
  refine F.ok sc_Field___init__ (fun vs H Q E h => ?_) (fun cdv A outer s H vs Q E hr h => ?_)
  · obtain ⟨_, _, _, _, _, rfl, _⟩ := h
    rfl
  · obtain ⟨p, dx, t, o, m, rfl, hp, k⟩ := h
    refine ⟨_, (pss_cons (ps_fld (pv 0) (pv 1) rfl)
  (pss_cons (ps_fld (pv 0) (pv 2) rfl)
  (pss_one (ps_fld (pv 0) (pv 3) rfl)))), ?_⟩
    refine ⟨_, rfl, _, rfl, p, C, dx, _, rfl, hp, T.cl, T.nT, by decide, ?_⟩
    refine ⟨_, rfl, _, rfl, p, C, dx, _, rfl, upd_same, T.cl, T.nO, by show 1 < 1000; decide, ?_⟩
    refine ⟨_, rfl, _, rfl, p, C, dx, _, rfl, upd_same, T.cl, T.nM, Nat.lt_of_le_of_lt (putF_len _ _ _) (show 1 + 1 < 1000 by decide), ?_⟩
    refine k _ ⟨dx, ?_⟩ (fun b u e ne => ?_)
    · rw [upd_same, fF_new]
    · rw [upd_ne ne, upd_ne ne, upd_ne ne]
      exact e
/-- what a new field leaves as it was -/
theorem made_same {H H1 : Hp} {x dx : Addr} (nx : H x = none) (nd : H dx = none) (h : ∀ b u, upd (upd H dx (.own x)) x (.ins C dx []) b = some u → b ≠ x → H1 b = some u) : Same H H1 := fun b o e =>
  h b o (by rw [upd_ne (ne_of_none e nx), upd_ne (ne_of_none e nd)]; exact e) (ne_of_none e nx)
end
/-! ### InvalidText -/
abbrev s_Inv_init : Stmt := inClass (top 4) 0
abbrev Inv_N : List Str := ["self", "offset", "reason", "__class__"]
theorem sc_Inv : NdefX.NScope Inv_N ["self", "offset", "reason"] ["__class__"] (defScope s_Inv_init) := NdefX.nscope_by (by decide +kernel)
def xF (o : Int) (r : Str) : List (Str × V) := [("reason", .str r), ("offset", .int o)]
/-- what InvalidText's __init__ does -/
def spInv (C : Addr) : Sp := fun vs H Q _ => ∃ (a : Addr) (o : Int) (r : Str), vs = [.ref a, .int o, .str r] ∧ H a = some (exo a C none) ∧ o.natAbs.log2 < 1900 ∧ r.length ≤ 10000 ∧
  ∀ d : Addr, H d = none → d ≠ a → Q .non (upd (upd (upd H d (exd d [("offset", .int o)])) a (exo a C (some d))) d (exd d (xF o r)))
/-- what the top says of an exception class with that __init__ -/
structure XcT (P : Program) (K : PySem.W.Frag) (mg : Str → Option Value) (C cc cda fI : Addr) : Prop where
  sup : SupC P K mg C cc cda
  nO : PySem.W.findIn K (.ref C) "offset" = some none
  nR : PySem.W.findIn K (.ref C) "reason" = some none
/-- at H the exception's dict is d -/
def XAt (H : Hp) (d : Addr) (o : Int) (r : Str) : Prop := H d = some (.xd (xF o r))
theorem ok_Inv {P : Program} {w : World} {K : PySem.W.Frag} {mg : Str → Option Value} {base : Heap} {CX : CXT} {f C cc cda : Addr} {oc dV kV doc pm ct : Value} {od an : Option Addr} {osl : Array (Option Value)}
    (lk : K.lookup f = some ⟨oc, od, .func (PySem.W.ksFn "__init__" "InvalidText.__init__" (defArgs s_Inv_init) (defBody s_Inv_init) (defScope s_Inv_init) dV kV doc pm an (.ref cda) ct cc), osl⟩)
    (hcd : PySem.W.codeIn K (.ref cda) "InvalidText.__init__" = true) (U : XcT P K mg C cc cda f) : FnOk P w K mg base CX 1 f (PySem.W.ksFn "__init__" "InvalidText.__init__" (defArgs s_Inv_init) (defBody s_Inv_init) (defScope s_Inv_init) dV kV doc pm an (.ref cda) ct cc) ["self", "offset", "reason"] (spInv C) := by
  refine fn_super (N := Inv_N) lk hcd sc_Inv U.sup rfl rfl rfl rfl (fun vs H Q E h => ?_) (fun A outer s H vs Q E hr h => ?_) (fun env => ⟨_, rfl⟩) (fun env => rfl)
  · obtain ⟨_, _, _, rfl, _⟩ := h
    rfl
  · obtain ⟨a, o, r, rfl, ha, ho, hl, k⟩ := h
    refine ⟨_, _, a, pe_joined (.cons pe_str (.cons (pe_fmt (pv 1)) (.cons pe_str (.cons (pe_fmt (pv 2)) .nil)))), pss_cons (ps_ost (pv 0) (pv 1)) (pss_one (ps_ost (pv 0) (pv 2))), rfl, ha, ?_⟩
    · have e0 : ∀ x : Str, (Str.empty ++ x).length = x.length := fun x => by rw [Str.length_append]; simp [Str.empty, Str.length]
      have e1 : (Str.ofString "at ").length = 3 := by decide +kernel
      have e2 : (Str.ofString ": ").length = 2 := by decide +kernel
      have e3 : (Str.ofString (toString o)).length ≤ 1920 + 2 := by
        have := int_text_length_le (k := 1920) (by decide) (show o.natAbs.log2 < 1920 by omega)
        rw [PySem.ofString_length]
        omega
      refine ⟨_, rfl, ?_, _, rfl, .inr ⟨o, rfl, by omega, _, rfl, ?_, _, rfl, ?_, _, rfl, .inl ⟨r, rfl, ?_, _, rfl, ?_, rfl, ha, ?_⟩⟩⟩
      · rw [e0, e1, sizeLine_eq]; decide
      · rw [Str.length_append, e0, e1, sizeLine_eq]; omega
      · rw [Str.length_append, Str.length_append, e0, e1, e2, sizeLine_eq]; omega
      · rw [sizeLine_eq]; omega
      · rw [Str.length_append, Str.length_append, Str.length_append, e0, e1, e2, sizeLine_eq]; omega
      · refine ⟨_, rfl, _, rfl, a, C, rfl, U.sup.ox, U.nO, .inl ⟨ha, fun d hd hne => ?_⟩⟩
        refine ⟨_, rfl, _, rfl, a, C, rfl, U.sup.ox, U.nR, .inr ⟨d, [("offset", .int o)], upd_same, ?_, Nat.le_of_ble_eq_true rfl, ?_⟩⟩
        · rw [upd_ne hne, upd_same]
        · exact k d hd hne
/-- InvalidText(o, r) made: what is left -/
theorem mk_Inv {C : Addr} {H : Hp} {o : Int} {r : Str} {ta : TA} {σ : L2.St} {Q : XK} (ho : o.natAbs.log2 < 1900) (hr : r.length ≤ 10000)
    (h : ∀ (H' : Hp) (d : Addr), Same H H' → XAt H' d o r → Q (.ref C) (some d) H')
    (ht : ∀ F : List V → Hp → Prop, F [.int o, .str r] H → ta σ H F) : tMkO C (spInv C) [] ta σ H Q := by
  refine ht _ ⟨by show 2 ≤ 1000; decide, fun a ha => ⟨a, o, r, rfl, upd_same, ho, hr, fun d hd hne => ?_⟩⟩
  have hd1 : H d = none := by rw [upd_ne hne] at hd; exact hd
  refine ⟨rfl, d, _, ?_, upd_same, hd1, h _ d (fun b u e => ?_) upd_same⟩
  · rw [upd_ne (Ne.symm hne), upd_same]
  · have n1 : b ≠ a := ne_of_none e ha
    have n2 : b ≠ d := ne_of_none e hd1
    rw [upd_ne n2, del_ne n1, upd_ne n2, upd_ne n1, upd_ne n2, upd_ne n1]
    exact e
end Sb
set_option Elab.async false
set_option maxRecDepth 100000
set_option maxHeartbeats 4000000
namespace Sb
open PySem PySem.Spec PyProof.Rows L2 SX
/-- the three reasons -/
def reason : Nat → Str
  | 0 => "a quotation mark stands in a field without quotation marks"
  | 1 => "a separator is expected"
  | _ => "the quotation mark is not closed"
theorem log_small {n : Nat} (h : n ≤ 200000) : ((n : Int)).natAbs.log2 < 1900 := by
  show n.log2 < 1900
  by_cases h0 : n = 0
  · subst h0; decide
  · exact Nat.lt_of_lt_of_le ((Nat.log2_lt h0).mpr (Nat.lt_of_le_of_lt h (show 200000 < 2 ^ 18 by decide))) (by decide)
theorem reason_len : ∀ r, (reason r).length ≤ 10000
  | 0 => by decide +kernel
  | 1 => by decide +kernel
  | _ + 2 => by show (Str.ofString "the quotation mark is not closed").length ≤ 10000; decide +kernel
def spReadX (C IT : Addr) (m : Bool) : Sp := fun vs H Q E => ∃ (text : List Nat) (a sep : Nat), vs = [.str (S text), .int (a : Int), .str (S [sep])] ∧ text.length ≤ 100000 ∧ a ≤ text.length ∧ (text[a]? = some 34 ↔ m = true) ∧
  (∀ (fl : Sep.Fld) (k : Nat), Sep.rd sep (text.drop a) a = .ok (fl, k) → ∀ (H' : Hp) (q p : Addr), H' q = some (.tup [.ref p, .int (k : Int)]) → FieldAt C H' p fl → Same H H' → H p = none → Q (.ref q) H') ∧
  (∀ (o r : Nat), Sep.rd sep (text.drop a) a = .error (o, r) → ∀ (H' : Hp) (d : Addr), Same H H' → XAt H' d (o : Int) (reason r) → E (.ref IT) (some d) H')
/-- what is needed to make an InvalidText -/
structure MkI (P : Program) (w : World) (K : PySem.W.Frag) (mg : Str → Option Value) (base : Heap) (IT : Addr) : Prop where
  ox : OexC K IT
  g : mg "InvalidText" = some (.ref IT)
  ex : ∃ (fI : Addr) (fdI : FuncData), PySem.W.findIn K (.ref IT) "__init__" = some (some (.ref fI)) ∧ PySem.W.typeIn K (.ref fI) = some (.type "function") ∧ FnOk P w K mg base (L2.CX P w) 1 fI fdI ["self", "offset", "reason"] (spInv IT) ∧ Binds K fdI ["self", "offset", "reason"] []
theorem pmk_Inv {X : Cx} {IT : Addr} {p pos : Pos} {e : Expr} {es : List Expr} {ta : TA} (M : MkI X.prog X.w X.K X.mg X.base IT) (hr : Room 2 X.A) (hg : Gl X "InvalidText") (ha : PA X (e :: es) ta)
    (he : starEach (e :: es) X.env = (false, eval e X.env) :: starEach es X.env := by rfl) (hpl : (backTo pos (starEach es X.env)).any (·.1) = false := by rfl) :
    PMk X (.Call (.Name "InvalidText" p) (e :: es) [] pos) (tMkO IT (spInv IT) [] ta) := by
  obtain ⟨fI, fdI, iC, tI, F, b⟩ := M.ex
  exact pmk_oex M.ox iC tI F hr b .nil passL hg M.g ha (by decide) he hpl

section
variable {P : Program} {w : World} {K : PySem.W.Frag} {mg : Str → Option Value} {base : Heap} {C fM fP IT : Addr}
theorem ok_read_plain {f : Addr} {fd : FuncData} (F : Fun K "read_plain" "read_plain" s_read_plain f fd) (T : Txt K mg C fM fP) {fI : Addr} {fdI : FuncData} (M : Mk K C fI) (G : FnOk P w K mg base CX0 1 fI fdI ["self", "text", "offset", "marked"] (spFld C)) (MI : MkI P w K mg base IT) (b : Binds K fdI ["self", "text", "offset", "marked"] []) : FnOk P w K mg base (L2.CX P w) 3 f fd ["text", "at", "separator"] (spReadX C IT false) := by
  refine F.okX sc_read_plain (fun vs H Q E h => ?_) (fun cdv A outer s H vs Q E hr h => ?_)
  · obtain ⟨_, _, _, rfl, _⟩ := h
    rfl
  · obtain ⟨text, a, sep, rfl, hl, ha, hm, kk, kx⟩ := h
    have hm2 : ¬ text[a]? = some 34 := fun q => by simpa using hm.mp q
    rw [Sep.rd_plain sep text a hm2] at kk kx
    obtain ⟨res, hrp⟩ : ∃ res, Sep.rp sep (text.drop a) [] a = res := ⟨_, rfl⟩
    rw [hrp] at kk kx
    refine ⟨_, (pss_cons (ps_set (i := 3) sc_read_plain.nd rfl (Or.inl rfl) (pv 1))
  (pss_cons (ps_while (passes_of rfl) (PW.pt (pw_and (pt_cmpR op_lt (pv 3) (pe_callB call_len_str (by rfl) T.n_len PySem.boot_len (pa_cons (pv 0) pa_nil)) (nomark _)) (pw_and1 (pt_cmpR op_notIn_seq (pe_ix ix_str (pv 0) (pv 3) (fun _ _ => rfl)) (pe_tup (pa_cons (pv 2) (pa_cons (C8.pe_gc (by rfl) T.g_END) pa_nil))) (by rfl))))) (pss_cons (ps_if (pt_cmpR op_eq (pe_ix ix_str (pv 0) (pv 3) (fun _ _ => rfl)) (C8.pe_gc (by rfl) T.g_MARK) (nomark _)) (pss_one (ps_raise rfl (takes_of rfl rfl rfl rfl) (pmk_Inv MI hr (by rfl) (pa_cons (pv 3) (pa_cons pe_str pa_nil))))) pss_nil)
  (pss_one (ps_set (i := 3) sc_read_plain.nd rfl (Or.inl rfl) (pe_op op_add (pv 3) pe_int)))))
  (pss_one (ps_ret (pe_tup (pa_cons (pe_make M G hr (by rfl) T.g_Field b .nil pass0 (pa_cons (pe_slice sl_str (pv 0) (po_some (pv 1)) (po_some (pv 3))) (pa_cons (pv 1) (pa_cons pe_bl pa_nil)))) (pa_cons (pv 3) pa_nil))))))), ?_⟩
    refine ⟨_, rfl, ?_⟩
    -- the end, from any turn
    have hend : ∀ (j : Nat) (H1 : Hp), a ≤ j → j ≤ text.length → Same H H1 → res = .ok ((text.drop a).take (j - a), j) →
        (tRet (tTup (tCons (tMake C (spFld C) [] E0 (tCons (tSl rSlS (tVar 0) (tPart (tVar 1)) (tPart (tVar 3))) (tCons (tVar 1) (tCons (tC (.bl false)) tNil)))) (tCons (tVar 3) tNil)))) { nx := fun _ H' => Q .non H', rt := Q } [some (.str (S text)), some (.int (a : Int)), some (.str (S [sep])), some (.int (j : Int))] H1 := by
      intro j H1 hj1 hj2 s1 et
      subst et
      refine ⟨_, rfl, _, rfl, _, rfl, _, rfl, _, rfl, _, rfl, by rw [S_len]; exact lt_sz (by omega), ?_⟩
      rw [cutS_nat text _ _ a j rfl rfl]
      refine ⟨_, rfl, fun x dx nx ndx ne => ?_⟩
      refine ⟨x, dx, _, _, _, rfl, upd_same, fun H2 hF hS => ⟨rfl, _, rfl, lt_sz (show 2 ≤ 200000 by decide), fun q hq => ?_⟩⟩
      have s2 := made_same nx ndx hS
      have nxq : x ≠ q := fun z => by obtain ⟨_, hF⟩ := hF; rw [z, hq] at hF; cases hF
      refine kk _ _ rfl _ q x upd_same ?_ (fun b o e => ?_) ?_
      · obtain ⟨d, hF⟩ := hF
        refine ⟨d, ?_⟩
        rw [upd_ne nxq]
        exact hF
      · exact same_new hq b o (s2 b o (s1 b o e))
      · cases e : H x with
        | none => rfl
        | some o => rw [s1 x o e] at nx; cases nx
    refine ⟨fun m σ H1 => ∃ j : Nat, σ = [some (.str (S text)), some (.int (a : Int)), some (.str (S [sep])), some (.int (j : Int))] ∧ m = text.length - j ∧ a ≤ j ∧ j ≤ text.length ∧ Same H H1 ∧ Sep.rp sep (text.drop j) ((text.drop a).take (j - a)) j = res, ⟨_, a, rfl, rfl, Nat.le_refl _, ha, Same.refl H, by simpa using hrp⟩, ?_⟩
    rintro m σ H1 ⟨j, rfl, rfl, haj, hj, s1, hrp⟩
    refine ⟨_, rfl, _, rfl, _, rfl, by rw [S_len]; exact lt_sz (by omega), _, _, rfl, rfl, _, rfl, ?_⟩
    rw [S_len]
    refine ite2 (fun hlt => ?_) (fun hge => ?_)
    · have hjl : j < text.length := by have := of_decide_eq_true hlt; omega
      have hg : text[j]? = some text[j] := List.getElem?_eq_getElem hjl
      rw [drop_cons hjl, Sep.rp] at hrp
      refine ⟨_, rfl, _, rfl, _, _, _, rfl, rfl, by rw [S_len]; exact lt_sz (by omega), atS hg, ?_⟩
      refine ⟨_, rfl, lt_sz (show 2 ≤ 200000 by decide), fun q hq => ?_⟩
      refine ⟨q, _, rfl, .inr (seqT upd_same), rfl, rfl, _, rfl, ?_⟩
      show if (if true = true then !inV (.str (S [text[j]])) [.str (S [sep]), .str (S [10])] else inV (.str (S [text[j]])) [.str (S [sep]), .str (S [10])]) = true then _ else _
      rw [if_pos rfl, inV2]
      by_cases hc : text[j] = sep ∨ text[j] = 10
      · rw [if_pos hc] at hrp
        rw [decide_eq_true hc]
        refine iteF ?_
        exact hend j _ haj hj (fun b o e => same_new hq b o (s1 b o e)) hrp.symm
      · rw [if_neg hc] at hrp
        rw [decide_eq_false hc]
        refine iteT ?_
        by_cases h34 : text[j] = 34
        · rw [if_pos h34] at hrp
          refine ⟨fun σ' H' => ∃ m', m' < text.length - j ∧ ∃ j : Nat, σ' = [some (.str (S text)), some (.int (a : Int)), some (.str (S [sep])), some (.int (j : Int))] ∧ m' = text.length - j ∧ a ≤ j ∧ j ≤ text.length ∧ Same H H' ∧ Sep.rp sep (text.drop j) ((text.drop a).take (j - a)) j = res, fun _ _ h => h, ?_⟩
          refine ⟨_, rfl, _, rfl, _, _, _, rfl, rfl, by rw [S_len]; exact lt_sz (by omega), atS hg, ?_⟩
          refine ⟨rfl, _, rfl, ?_⟩
          rw [S_eq, decide_eq_true (by simpa using h34)]
          refine iteT ?_
          exact mk_Inv (log_small (by omega)) (reason_len 0) (fun H' d s2 xa => kx j 0 (by rw [← hrp]; rfl) H' d (fun b o e => s2 b o (same_new hq b o (s1 b o e))) xa) fun F h => ⟨_, rfl, h⟩
        · rw [if_neg h34] at hrp
          refine ⟨fun σ' H' => ∃ m', m' < text.length - j ∧ ∃ j : Nat, σ' = [some (.str (S text)), some (.int (a : Int)), some (.str (S [sep])), some (.int (j : Int))] ∧ m' = text.length - j ∧ a ≤ j ∧ j ≤ text.length ∧ Same H H' ∧ Sep.rp sep (text.drop j) ((text.drop a).take (j - a)) j = res, fun _ _ h => h, ?_⟩
          refine ⟨_, rfl, _, rfl, _, _, _, rfl, rfl, by rw [S_len]; exact lt_sz (by omega), atS hg, ?_⟩
          refine ⟨rfl, _, rfl, ?_⟩
          rw [S_eq, decide_eq_false (by simpa using h34)]
          refine iteF ?_
          refine ⟨_, rfl, _, _, rfl, rfl, ?_⟩
          refine ⟨text.length - (j + 1), by omega, j + 1, rfl, rfl, by omega, by omega, fun b o e => same_new hq b o (s1 b o e), ?_⟩
          have e1 : (text.drop a).take (j + 1 - a) = (text.drop a).take (j - a) ++ [text[j]] := by
            rw [show j + 1 - a = (j - a) + 1 by omega, List.take_add_one]
            rw [List.getElem?_drop, show a + (j - a) = j by omega, hg]
            rfl
          rw [e1]
          exact hrp
    · have hjl : ¬ j < text.length := fun q => hge (decide_eq_true (by omega))
      rw [List.drop_eq_nil_of_le (by omega), Sep.rp] at hrp
      refine iteF ?_
      exact hend j _ haj hj s1 hrp.symm
end
end Sb
set_option Elab.async false
set_option maxRecDepth 100000
set_option maxHeartbeats 4000000
namespace Sb
open PySem PySem.Spec PyProof.Rows L2 SX
section
variable {P : Program} {w : World} {K : PySem.W.Frag} {mg : Str → Option Value} {base : Heap} {C fM fP IT : Addr}
theorem ok_read_marked {f : Addr} {fd : FuncData} (F : Fun K "read_marked" "read_marked" s_read_marked f fd) (T : Txt K mg C fM fP) {fI : Addr} {fdI : FuncData} (M : Mk K C fI) (G : FnOk P w K mg base CX0 1 fI fdI ["self", "text", "offset", "marked"] (spFld C)) (MI : MkI P w K mg base IT) (b : Binds K fdI ["self", "text", "offset", "marked"] []) : FnOk P w K mg base (L2.CX P w) 3 f fd ["text", "at", "separator"] (spReadX C IT true) := by
  refine F.okX sc_read_marked (fun vs H Q E h => ?_) (fun cdv A outer s H vs Q E hr h => ?_)
  · obtain ⟨_, _, _, rfl, _⟩ := h
    rfl
  · obtain ⟨text, a, sep, rfl, hl, ha, hm, kk, kx⟩ := h
    have hm2 : text[a]? = some 34 := hm.mpr rfl
    have hal := (List.getElem?_eq_some_iff.mp hm2).1
    rw [Sep.rd_mark sep text a hm2] at kk kx
    obtain ⟨res, hrp⟩ : ∃ res, Sep.rm sep a (text.drop (a + 1)) [] (a + 1) = res := ⟨_, rfl⟩
    rw [hrp] at kk kx
    refine ⟨_, (pss_cons (ps_set (i := 3) sc_read_marked.nd rfl (Or.inl rfl) (pe_lst pa_nil))
  (pss_cons (ps_set (i := 4) sc_read_marked.nd rfl (Or.inl rfl) (pe_op op_add (pv 1) pe_int))
  (pss_cons (ps_while (passes_of rfl) (pt_cmpR op_lt (pv 4) (pe_callB call_len_str (by rfl) T.n_len PySem.boot_len (pa_cons (pv 0) pa_nil)) (nomark _)) (pss_one (ps_if (pt_cmpR op_ne (pe_ix ix_str (pv 0) (pv 4) (fun _ _ => rfl)) (C8.pe_gc (by rfl) T.g_MARK) (nomark _)) (pss_cons (ps_expr (pe_bm PySem.F.plainAttrs_list PySem.F.slot_list_append PySem.F.type_list_append mt_append (pv 3) (pa_cons (pe_ix ix_str (pv 0) (pv 4) (fun _ _ => rfl)) pa_nil)))
  (pss_one (ps_set (i := 4) sc_read_marked.nd rfl (Or.inl rfl) (pe_op op_add (pv 4) pe_int)))) (pss_one (ps_if (pt_cmpR op_eq (pe_slice sl_str (pv 0) (po_some (pe_op op_add (pv 4) pe_int)) (po_some (pe_op op_add (pv 4) pe_int))) (C8.pe_gc (by rfl) T.g_MARK) (nomark _)) (pss_cons (ps_expr (pe_bm PySem.F.plainAttrs_list PySem.F.slot_list_append PySem.F.type_list_append mt_append (pv 3) (pa_cons (C8.pe_gc (by rfl) T.g_MARK) pa_nil)))
  (pss_one (ps_set (i := 4) sc_read_marked.nd rfl (Or.inl rfl) (pe_op op_add (pv 4) pe_int)))) (pss_cons (ps_set (i := 5) sc_read_marked.nd rfl (Or.inl rfl) (pe_op op_add (pv 4) pe_int))
  (pss_cons (ps_if (PW.pt (pw_and (pt_cmpR op_lt (pv 5) (pe_callB call_len_str (by rfl) T.n_len PySem.boot_len (pa_cons (pv 0) pa_nil)) (nomark _)) (pw_and1 (pt_cmpR op_notIn_seq (pe_ix ix_str (pv 0) (pv 5) (fun _ _ => rfl)) (pe_tup (pa_cons (pv 2) (pa_cons (C8.pe_gc (by rfl) T.g_END) pa_nil))) (by rfl))))) (pss_one (ps_raise rfl (takes_of rfl rfl rfl rfl) (pmk_Inv MI hr (by rfl) (pa_cons (pv 5) (pa_cons pe_str pa_nil))))) pss_nil)
  (pss_one (ps_ret (pe_tup (pa_cons (pe_make M G hr (by rfl) T.g_Field b .nil pass0 (pa_cons (pe_join pe_str (pv 3)) (pa_cons (pv 1) (pa_cons pe_bl pa_nil)))) (pa_cons (pv 5) pa_nil))))))))))))
  (pss_one (ps_raise rfl (takes_of rfl rfl rfl rfl) (pmk_Inv MI hr (by rfl) (pa_cons (pv 1) (pa_cons pe_str pa_nil)))))))), ?_⟩
    refine ⟨Nat.zero_le _, fun L hL => ?_⟩
    refine ⟨_, rfl, _, _, rfl, rfl, ?_⟩
    have hend : ∀ (j : Nat) (acc : List Nat) (H1 : Hp), j ≤ text.length → acc.length ≤ j → Same H H1 → H1 L = some (.lst (acc.map fun c => V.str (S [c]))) → res = .ok (acc, j + 1) →
        (tRet (tTup (tCons (tMake C (spFld C) [] E0 (tCons (tM1 (fun x xs H Q => ∃ a p, ∃ ys : List Str, x = .str a ∧ xs = [.ref p] ∧ (SqL K H p (ys.map V.str) ∨ SqT K H p (ys.map V.str)) ∧ (ys.map (·.length)).sum + ys.length * a.length ≤ 16777216 ∧ Q (.str (Txt.join a ys)) H) (tC (.str (Str.ofString ""))) (tVar 3)) (tCons (tVar 1) (tCons (tC (.bl true)) tNil)))) (tCons (tVar 5) tNil)))) { nx := fun _ H' => Q .non H', rt := Q } [some (.str (S text)), some (.int (a : Int)), some (.str (S [sep])), some (.ref L), some (.int (j : Int)), some (.int ((j : Int) + 1))] H1 := by
      intro j t H1 hj1 hj2 s1 hL1 et
      subst et
      refine ⟨⟨_, rfl⟩, _, rfl, _, _, t.map (fun c => S [c]), rfl, rfl, .inl (seqL (by rw [List.map_map]; exact hL1)), ?_, _, rfl, ?_⟩
      · rw [c_nil, List.map_map]
        have : ((fun x : Str => x.length) ∘ fun c => S [c]) = fun _ => 1 := by funext c; show (S [c]).length = 1; rw [S_len]; rfl
        rw [this, S_len, sum_ones]
        simp
        omega
      · have e5 : Txt.join (Str.ofString "") (t.map fun c => S [c]) = S t := by
          have := join_flat (t.map fun c => [c])
          rw [List.map_map] at this
          rw [c_nil]
          refine this.trans ?_
          congr 2
          rw [← joinL_flat, joinL_nil]
        rw [e5]
        intro x dx nx ndx ne
        refine ⟨x, dx, _, _, _, rfl, upd_same, fun H2 hF hS => ⟨rfl, _, rfl, lt_sz (show 2 ≤ 200000 by decide), fun q hq => ?_⟩⟩
        have s2 := made_same nx ndx hS
        have nxq : x ≠ q := fun z => by obtain ⟨_, hF⟩ := hF; rw [z, hq] at hF; cases hF
        refine kk _ _ rfl _ q x (by rw [upd_same]; rfl) ?_ (fun b o e => ?_) ?_
        · obtain ⟨d, hF⟩ := hF
          refine ⟨d, ?_⟩
          rw [upd_ne nxq]
          exact hF
        · exact same_new hq b o (s2 b o (s1 b o e))
        · cases e : H x with
          | none => rfl
          | some o => rw [s1 x o e] at nx; cases nx
    refine ⟨fun m σ H1 => ∃ (j : Nat) (acc : List Nat) (y : Option V), σ = [some (.str (S text)), some (.int (a : Int)), some (.str (S [sep])), some (.ref L), some (.int (j : Int)), y] ∧ m = text.length - j ∧ j ≤ text.length ∧ acc.length ≤ j ∧ Same H H1 ∧ H1 L = some (.lst (acc.map fun c => V.str (S [c]))) ∧ Sep.rm sep a (text.drop j) acc j = res, ⟨_, a + 1, [], none, rfl, rfl, by omega, by simp, same_new hL, upd_same, hrp⟩, ?_⟩
    rintro m σ H1 ⟨j, acc, y, rfl, rfl, hj, hacc, s1, hL1, hrm⟩
    refine ⟨_, rfl, _, rfl, _, rfl, by rw [S_len]; exact lt_sz (by omega), _, _, rfl, rfl, _, rfl, ?_⟩
    rw [S_len]
    refine ite2 (fun hlt => ?_) (fun hge => ?_)
    · have hjl : j < text.length := by have := of_decide_eq_true hlt; omega
      have hg : text[j]? = some text[j] := List.getElem?_eq_getElem hjl
      rw [drop_cons hjl, Sep.rm_cons] at hrm
      refine ⟨fun σ' H' => ∃ m', m' < text.length - j ∧ ∃ (j : Nat) (acc : List Nat) (y : Option V), σ' = [some (.str (S text)), some (.int (a : Int)), some (.str (S [sep])), some (.ref L), some (.int (j : Int)), y] ∧ m' = text.length - j ∧ j ≤ text.length ∧ acc.length ≤ j ∧ Same H H' ∧ H' L = some (.lst (acc.map fun c => V.str (S [c]))) ∧ Sep.rm sep a (text.drop j) acc j = res, fun _ _ h => h, ?_⟩
      refine ⟨_, rfl, _, rfl, _, _, _, rfl, rfl, by rw [S_len]; exact lt_sz (by omega), atS hg, ?_⟩
      refine ⟨rfl, _, rfl, ?_⟩
      rw [S_eq]
      have eapp : ∀ c : Nat, (acc.map fun c => V.str (S [c])) ++ [V.str (S [c])] = (acc ++ [c]).map fun c => V.str (S [c]) := fun c => by rw [List.map_append]; rfl
      by_cases h34 : text[j] = 34
      · rw [decide_eq_true (by simpa using h34)]
        refine iteF ?_
        rw [if_neg (by simp [h34])] at hrm
        refine ⟨_, rfl, _, rfl, _, _, rfl, rfl, _, rfl, _, rfl, _, _, rfl, rfl, _, rfl, _, rfl, by rw [S_len]; exact lt_sz (by omega), ?_⟩
        rw [cut1 text _ _ (j + 1) (by omega) (by omega)]
        refine ⟨rfl, _, rfl, ?_⟩
        rw [S_eq]
        cases hd : text.drop (j + 1) with
        | nil =>
          rw [hd] at hrm
          refine iteF ?_
          have hlj : text.length ≤ j + 1 := List.drop_eq_nil_iff.mp hd
          refine ⟨_, rfl, _, _, rfl, rfl, ?_⟩
          refine ⟨_, rfl, _, rfl, _, rfl, by rw [S_len]; exact lt_sz (by omega), _, _, rfl, rfl, _, rfl, ?_⟩
          rw [S_len, decide_eq_false (by omega)]
          refine iteF (iteF ?_)
          exact hend j acc H1 hj hacc s1 hL1 hrm.symm
        | cons d r =>
          rw [hd] at hrm
          simp only at hrm
          have hgd : text[j + 1]? = some d := by
            have := congrArg List.head? hd
            rwa [List.head?_drop] at this
          have hjl2 : j + 1 < text.length := (List.getElem?_eq_some_iff.mp hgd).1
          have hr2 : r = text.drop (j + 2) := by
            rw [drop_cons hjl2] at hd
            exact (List.cons.inj hd).2.symm
          show if decide ([d] = [34]) = true then _ else _
          by_cases hd34 : d = 34
          · rw [if_pos hd34] at hrm
            rw [decide_eq_true (by rw [hd34])]
            refine iteT ?_
            refine ⟨_, rfl, .inl ⟨rfl, _, seqL hL1⟩, L, _, _, rfl, rfl, hL1, by rw [List.length_map]; exact lt_sz' (by omega), ?_⟩
            refine ⟨_, rfl, _, _, rfl, rfl, ?_⟩
            exact ⟨text.length - (j + 2), by omega, j + 2, acc ++ [34], y, rfl, rfl, by omega, by simp; omega, same_mut s1 hL, by rw [upd_same, eapp], by rw [← hr2]; exact hrm⟩
          · rw [if_neg hd34] at hrm
            rw [decide_eq_false (by simpa using hd34)]
            refine iteF ?_
            refine ⟨_, rfl, _, _, rfl, rfl, ?_⟩
            refine ⟨_, rfl, _, rfl, _, rfl, by rw [S_len]; exact lt_sz (by omega), _, _, rfl, rfl, _, rfl, ?_⟩
            rw [S_len, decide_eq_true (by omega)]
            refine iteT ?_
            refine ⟨_, rfl, _, rfl, _, _, _, rfl, rfl, by rw [S_len]; exact lt_sz (by omega), atS hgd, ?_⟩
            refine ⟨_, rfl, lt_sz (show 2 ≤ 200000 by decide), fun q hq => ?_⟩
            refine ⟨q, _, rfl, .inr (seqT upd_same), rfl, rfl, _, rfl, ?_⟩
            show if (if true = true then !inV (.str (S [d])) [.str (S [sep]), .str (S [10])] else inV (.str (S [d])) [.str (S [sep]), .str (S [10])]) = true then _ else _
            rw [if_pos rfl, inV2]
            by_cases he : d = sep ∨ d = 10
            · rw [if_pos he] at hrm
              rw [decide_eq_true he]
              refine iteF ?_
              have nLq : L ≠ q := ne_of_none hL1 hq
              exact hend j acc _ hj hacc (fun b o e => same_new hq b o (s1 b o e)) (by rw [upd_ne nLq]; exact hL1) hrm.symm
            · rw [if_neg he] at hrm
              rw [decide_eq_false he]
              refine iteT ?_
              exact mk_Inv (log_small (by omega)) (reason_len 1) (fun H' d s2 xa => kx (j + 1) 1 (by rw [← hrm]; rfl) H' d (fun b o e => s2 b o (same_new hq b o (s1 b o e))) xa) fun F h => ⟨_, rfl, h⟩
      · rw [decide_eq_false (by simpa using h34)]
        refine iteT ?_
        rw [if_pos h34] at hrm
        refine ⟨_, rfl, .inl ⟨rfl, _, seqL hL1⟩, _, rfl, _, rfl, _, _, _, rfl, rfl, by rw [S_len]; exact lt_sz (by omega), atS hg, ?_⟩
        refine ⟨L, _, _, rfl, rfl, hL1, by rw [List.length_map]; exact lt_sz' (by omega), ?_⟩
        refine ⟨_, rfl, _, _, rfl, rfl, ?_⟩
        exact ⟨text.length - (j + 1), by omega, j + 1, acc ++ [text[j]], y, rfl, rfl, by omega, by simp; omega, same_mut s1 hL, by rw [upd_same, eapp], hrm⟩
    · have hjl : ¬ j < text.length := fun q => hge (decide_eq_true (by omega))
      rw [List.drop_eq_nil_of_le (by omega), Sep.rm] at hrm
      show tMkO IT (spInv IT) [] (tCons (tVar 1) (tCons (tC (.str (reason 2))) tNil)) _ H1 _
      exact mk_Inv (log_small (by omega)) (reason_len 2) (fun H' d s2 xa => kx a 2 (by rw [← hrm]; rfl) H' d (fun b o e => s2 b o (s1 b o e)) xa) fun F h => ⟨_, rfl, h⟩
end
end Sb
set_option Elab.async false
set_option maxRecDepth 100000
set_option maxHeartbeats 4000000
namespace Sb
open PySem PySem.Spec PyProof.Rows L2 SX
abbrev s_split_records : Stmt := top 11
abbrev sc_split_records_N : List Str := ["text", "separator", "records", "at", "fields", "more", "read", "field"]
theorem sc_split_records : FnScope sc_split_records_N ["text", "separator"] (defScope s_split_records) := ⟨rfl, rfl, rfl, by decide +kernel, rfl, by decide +kernel, by decide +kernel⟩
/-- a list of fields, a list of such lists -/
def RecAt (C : Addr) (H : Hp) (a : Addr) (r : List Sep.Fld) : Prop := ∃ fas : List Addr, H a = some (.lst (fas.map V.ref)) ∧ Paired (FieldAt C H) fas r
def RecsAt (C : Addr) (H : Hp) (a : Addr) (rs : List (List Sep.Fld)) : Prop := ∃ ras : List Addr, H a = some (.lst (ras.map V.ref)) ∧ Paired (RecAt C H) ras rs
theorem paired_mono {α β : Type} {F G : α → β → Prop} (h : ∀ a b, F a b → G a b) : ∀ {l : List α} {m : List β}, Paired F l m → Paired G l m
  | _, _, .nil => .nil
  | _, _, .cons a b => .cons (h _ _ a) (paired_mono h b)
theorem paired_mem {α β : Type} {F G : α → β → Prop} : ∀ {l : List α} {m : List β}, (∀ a b, a ∈ l → F a b → G a b) → Paired F l m → Paired G l m
  | _, _, _, .nil => .nil
  | _, _, h, .cons a b => .cons (h _ _ (by simp) a) (paired_mem (fun x y hx => h x y (by simp [hx])) b)
theorem field_same {C : Addr} {H H' : Hp} (s : Same H H') (p : Addr) (f : Sep.Fld) (h : FieldAt C H p f) : FieldAt C H' p f := by
  obtain ⟨dx, h⟩ := h
  exact ⟨dx, s _ _ h⟩
theorem rec_same {C : Addr} {H H' : Hp} (s : Same H H') (a : Addr) (r : List Sep.Fld) (h : RecAt C H a r) : RecAt C H' a r := by
  obtain ⟨fas, h, p⟩ := h
  exact ⟨fas, s _ _ h, paired_mono (field_same s) p⟩
theorem recs_same {C : Addr} {H H' : Hp} (s : Same H H') (a : Addr) (r : List (List Sep.Fld)) (h : RecsAt C H a r) : RecsAt C H' a r := by
  obtain ⟨ras, h, p⟩ := h
  exact ⟨ras, s _ _ h, paired_mono (rec_same s) p⟩
/-- a list is written: the fields stand -/
theorem field_upd {C : Addr} {H : Hp} {L : Addr} {xs ys : List V} (hL : H L = some (.lst xs)) (p : Addr) (f : Sep.Fld) (h : FieldAt C H p f) : FieldAt C (upd H L (.lst ys)) p f := by
  obtain ⟨dx, h⟩ := h
  exact ⟨dx, by rw [upd_ne (ne_of h hL (by intro q; cases q))]; exact h⟩
theorem rec_upd {C : Addr} {H : Hp} {L : Addr} {xs ys : List V} (hL : H L = some (.lst xs)) (a : Addr) (r : List Sep.Fld) (ne : a ≠ L) (h : RecAt C H a r) : RecAt C (upd H L (.lst ys)) a r := by
  obtain ⟨fas, h, p⟩ := h
  exact ⟨fas, by rw [upd_ne ne]; exact h, paired_mono (field_upd hL) p⟩
def spSplitX (C IT : Addr) : Sp := fun vs H Q E => ∃ (text : List Nat) (sep : Nat), vs = [.str (S text), .str (S [sep])] ∧ text.length ≤ 100000 ∧
  (∀ ans, Sep.split sep text = .ok ans → ∀ (H' : Hp) (p : Addr), H p = none → RecsAt C H' p ans → Same H H' → Q (.ref p) H') ∧
  (∀ (o r : Nat), Sep.split sep text = .error (o, r) → ∀ (H' : Hp) (d : Addr), Same H H' → XAt H' d (o : Int) (reason r) → E (.ref IT) (some d) H')
theorem passX {X : Cx} {E : XK} (tk : Takes X (fun cls d _ H => E cls d H)) : Passes (L2.CX X.prog X.w) X E := passes_call tk fun _ _ _ _ h => h

section
variable {P : Program} {w : World} {K : PySem.W.Frag} {mg : Str → Option Value} {base : Heap} {C fM fP IT : Addr}
theorem ok_split_records {f : Addr} {fd : FuncData} (F : Fun K "split_records" "split_records" s_split_records f fd) (T : Txt K mg C fM fP) (cM : CalX P w K mg base (L2.CX P w) 3 fM (spReadX C IT true)) (cP : CalX P w K mg base (L2.CX P w) 3 fP (spReadX C IT false)) : FnOk P w K mg base (L2.CX P w) 4 f fd ["text", "separator"] (spSplitX C IT) := by
  refine F.okX sc_split_records (fun vs H Q E h => ?_) (fun cdv A outer s H vs Q E hr h => ?_)
  · obtain ⟨_, _, rfl, _⟩ := h
    rfl
  · obtain ⟨text, sep, rfl, hl, kk, kx⟩ := h
    obtain ⟨res, hsp⟩ : ∃ res, Sep.split sep text = res := ⟨_, rfl⟩
    rw [hsp] at kk kx
    refine ⟨_, (pss_cons (ps_set (i := 2) sc_split_records.nd rfl (Or.inl rfl) (pe_lst pa_nil))
  (pss_cons (ps_set (i := 3) sc_split_records.nd rfl (Or.inl rfl) pe_int)
  (pss_cons (ps_while (passes_of rfl) (pt_cmpR op_lt (pv 3) (pe_callB call_len_str (by rfl) T.n_len PySem.boot_len (pa_cons (pv 0) pa_nil)) (nomark _)) (pss_cons (ps_set (i := 4) sc_split_records.nd rfl (Or.inl rfl) (pe_lst pa_nil))
  (pss_cons (ps_set (i := 5) sc_split_records.nd rfl (Or.inl rfl) pe_bl)
  (pss_cons (ps_while (passes_of rfl) (pt_val (pv 5)) (pss_cons (ps_set (i := 6) sc_split_records.nd rfl (Or.inl rfl) (pe_ifExp (pt_cmpR op_eq (pe_slice sl_str (pv 0) (po_some (pv 3)) (po_some (pe_op op_add (pv 3) pe_int))) (C8.pe_gc (by rfl) T.g_MARK) (nomark _)) (pe_glob (v := .ref fM) (by rfl) T.g_read_marked rfl) (pe_glob (v := .ref fP) (by rfl) T.g_read_plain rfl)))
  (pss_cons (ps_asg (pe_cvX (i := 6) cM cP hr (by decide) (by decide) (passX (takes_of rfl rfl rfl rfl)) rfl (Or.inl rfl) (pa_cons (pv 0) (pa_cons (pv 3) (pa_cons (pv 1) pa_nil)))) (pg_tup (by rfl) (pgs_cons (pg_name (i := 7) sc_split_records.nd rfl (Or.inl rfl)) (pgs_cons (pg_name (i := 3) sc_split_records.nd rfl (Or.inl rfl)) pgs_nil))))
  (pss_cons (ps_expr (pe_bm PySem.F.plainAttrs_list PySem.F.slot_list_append PySem.F.type_list_append mt_append (pv 4) (pa_cons (pv 7) pa_nil)))
  (pss_cons (ps_set (i := 5) sc_split_records.nd rfl (Or.inl rfl) (pe_cmpR op_eq (pe_slice sl_str (pv 0) (po_some (pv 3)) (po_some (pe_op op_add (pv 3) pe_int))) (pv 1) (nomark _)))
  (pss_one (ps_if (pt_val (pv 5)) (pss_one (ps_set (i := 3) sc_split_records.nd rfl (Or.inl rfl) (pe_op op_add (pv 3) pe_int))) pss_nil)))))))
  (pss_cons (ps_expr (pe_bm PySem.F.plainAttrs_list PySem.F.slot_list_append PySem.F.type_list_append mt_append (pv 2) (pa_cons (pv 4) pa_nil)))
  (pss_one (ps_set (i := 3) sc_split_records.nd rfl (Or.inl rfl) (pe_op op_add (pv 3) pe_int))))))))
  (pss_one (ps_ret (pv 2)))))), ?_⟩
    refine ⟨Nat.zero_le _, fun R hR => ?_⟩
    let Wd : Nat → L2.St → Hp → Prop := fun m σ H1 => ∃ (a : Nat) (racc : List (List Sep.Fld)) (ras : List Addr) (g : Nat) (x4 x5 x6 x7 : Option V), σ = [some (.str (S text)), some (.str (S [sep])), some (.ref R), some (.int (a : Int)), x4, x5, x6, x7] ∧ m = text.length + 1 - a ∧ Same H H1 ∧ H1 R = some (.lst (ras.map V.ref)) ∧ Paired (RecAt C H1) ras racc ∧ (∀ b ∈ ras, b ≠ R) ∧ ras.length ≤ a ∧ Sep.spl sep text g a racc = res ∧ text.length < g + a
    refine ⟨Wd, ⟨_, 0, [], [], text.length + 1, none, none, none, none, rfl, rfl, same_new hR, upd_same, .nil, by simp, Nat.le_refl _, hsp, by omega⟩, ?_⟩
    rintro m σ H1 ⟨a, racc, ras, g, x4, x5, x6, x7, rfl, rfl, s1, hR1, hp1, hn1, hra, hspl, hg⟩
    refine ⟨_, rfl, _, rfl, _, rfl, by rw [S_len]; exact lt_sz (by omega), _, _, rfl, rfl, _, rfl, ?_⟩
    rw [S_len]
    refine ite2 (fun hlt => ?_) (fun hge => ?_)
    · have hal : a < text.length := by have := of_decide_eq_true hlt; omega
      obtain ⟨g, rfl⟩ : ∃ g', g = g' + 1 := by
        cases g with
        | zero => omega
        | succ g => exact ⟨g, rfl⟩
      rw [Sep.spl, if_pos hal] at hspl
      obtain ⟨rr, hrec⟩ : ∃ rr, Sep.recd sep text (text.length + 1) a [] = rr := ⟨_, rfl⟩
      rw [hrec] at hspl
      refine ⟨fun σ' H' => ∃ m', m' < text.length + 1 - a ∧ Wd m' σ' H', fun _ _ h => h, ?_⟩
      refine ⟨Nat.zero_le _, fun L hL => ?_⟩
      have nLR : L ≠ R := (ne_of_none hR1 hL).symm
      -- the fields' loop
      let Wi : Nat → L2.St → Hp → Prop := fun m' σ' H2 => ∃ (a2 : Nat) (facc : List Sep.Fld) (fas : List Addr) (mo : Bool) (y6 y7 : Option V), σ' = [some (.str (S text)), some (.str (S [sep])), some (.ref R), some (.int (a2 : Int)), some (.ref L), some (.bl mo), y6, y7] ∧ Same H1 H2 ∧ H2 L = some (.lst (fas.map V.ref)) ∧ Paired (FieldAt C H2) fas facc ∧ fas.length ≤ a2 + 1 ∧ a2 ≤ text.length ∧
          ((mo = true ∧ m' = text.length + 1 - a2 + 1 ∧ fas.length ≤ a2 ∧ ∃ g2, Sep.recd sep text g2 a2 facc = rr ∧ text.length < g2 + a2) ∨ (mo = false ∧ m' = 0 ∧ rr = .ok (facc, a2)))
      refine ⟨Wi, ⟨_, a, [], [], true, x6, x7, rfl, same_new hL, upd_same, .nil, by simp, by omega, .inl ⟨rfl, rfl, Nat.zero_le _, text.length + 1, hrec, by omega⟩⟩, ?_⟩
      rintro m' σ' H2 ⟨a2, facc, fas, mo, y6, y7, rfl, s2, hL2, hp2, hfa, ha2, hc⟩
      refine ⟨_, rfl, _, rfl, ?_⟩
      rcases hc with ⟨rfl, rfl, hfa2, g2, hrec2, hg2⟩ | ⟨rfl, rfl, hrr⟩
      · refine iteT ?_
        obtain ⟨g2, rfl⟩ : ∃ g', g2 = g' + 1 := by
          cases g2 with
          | zero => omega
          | succ g => exact ⟨g, rfl⟩
        rw [Sep.recd] at hrec2
        refine ⟨fun σ' H' => ∃ m'', m'' < text.length + 1 - a2 + 1 ∧ Wi m'' σ' H', fun _ _ h => h, ?_⟩
        -- behind the call
        have hbeh : ∀ (fl : Sep.Fld) (j : Nat), Sep.rd sep (text.drop a2) a2 = .ok (fl, j) → ∀ (y : Option V) (H' : Hp) (q p : Addr), H' q = some (.tup [.ref p, .int (j : Int)]) → FieldAt C H' p fl → Same H2 H' → H2 p = none →
            gTup K 2 (gCons (gName 7) (gCons (gName 3) gNil)) (.ref q) [some (.str (S text)), some (.str (S [sep])), some (.ref R), some (.int (a2 : Int)), some (.ref L), some (.bl true), y, y7] H' (fun σ1 H3 => (tSeq (tDrop (tBM K "list" rAppend (tVar 4) (tCons (tVar 7) tNil))) (tSeq (tAsg (tOp rEq (tSl rSlS (tVar 0) (tPart (tVar 3)) (tPart (tOp (rI0 fun i j => .int (i + j)) (tVar 3) (tC (.int 1))))) (tVar 1)) (gName 5)) (tIfS (tB (tVar 5)) (tAsg (tOp (rI0 fun i j => .int (i + j)) (tVar 3) (tC (.int 1))) (gName 3)) tNext)))
              { nx := fun σ' H' => ∃ m'', m'' < text.length + 1 - a2 + 1 ∧ Wi m'' σ' H', rt := Q } σ1 H3) := by
          intro fl j hrd
          have hj := Sep.rd_ge hrd
          have hjl := Sep.rd_le hrd ha2
          have hcont : (if text[j]? = some sep then Sep.recd sep text g2 (j + 1) (facc ++ [fl]) else .ok (facc ++ [fl], j)) = rr := by
            rw [hrd] at hrec2
            exact hrec2
          intro y H' q p hq hF s3 hp
          refine ⟨q, _, rfl, seqT hq, rfl, _, _, rfl, _, _, rfl, rfl, ?_⟩
          have hL3 := s3 _ _ hL2
          refine ⟨_, rfl, .inl ⟨rfl, _, seqL hL3⟩, _, rfl, L, _, _, rfl, rfl, hL3, by rw [List.length_map]; exact lt_sz' (by omega), ?_⟩
          refine ⟨_, rfl, _, rfl, _, rfl, _, rfl, _, _, rfl, rfl, _, rfl, _, rfl, by rw [S_len]; exact lt_sz (by omega), _, rfl, rfl, ?_⟩
          rw [cut1 text _ _ j rfl rfl, S_eq]
          refine ⟨_, rfl, _, rfl, ?_⟩
          have hLn : H1 L = none := hL
          have sN : Same H1 (upd H' L (.lst (fas.map V.ref ++ [.ref p]))) := same_mut (fun b o e => s3 b o (s2 b o e)) hLn
          have pN : Paired (FieldAt C (upd H' L (.lst (fas.map V.ref ++ [.ref p])))) (fas ++ [p]) (facc ++ [fl]) := (paired_mono (fun a b h => field_upd hL3 a b (field_same s3 a b h)) hp2).snoc (field_upd hL3 p fl hF)
          by_cases hs : text[j]? = some sep
          · rw [if_pos hs] at hcont
            have hjl2 : j < text.length := (List.getElem?_eq_some_iff.mp hs).1
            rw [decide_eq_true ((drop_take1 text j sep).mpr hs)]
            refine iteT ⟨_, rfl, _, _, rfl, rfl, ?_⟩
            exact ⟨_, by omega, j + 1, facc ++ [fl], fas ++ [p], true, y, _, rfl, sN, by rw [upd_same, List.map_append]; rfl, pN, by simp; omega, by omega, .inl ⟨rfl, rfl, by simp; omega, g2, hcont, by omega⟩⟩
          · rw [if_neg hs] at hcont
            rw [decide_eq_false (fun z => hs ((drop_take1 text j sep).mp z))]
            refine iteF ?_
            exact ⟨0, by omega, j, facc ++ [fl], fas ++ [p], false, y, _, rfl, sN, by rw [upd_same, List.map_append]; rfl, pN, by simp; omega, hjl, .inr ⟨rfl, rfl, hcont.symm⟩⟩
        refine ⟨_, rfl, _, rfl, _, rfl, _, rfl, _, _, rfl, rfl, _, rfl, _, rfl, by rw [S_len]; exact lt_sz (by omega), rfl, _, rfl, ?_⟩
        rw [cut1 text _ _ a2 rfl rfl, S_eq]
        have herr : ∀ (o r : Nat), Sep.rd sep (text.drop a2) a2 = .error (o, r) → ∀ (H' : Hp) (d : Addr), Same H2 H' → XAt H' d (o : Int) (reason r) → E (.ref IT) (some d) H' := by
          intro o r hrd H' d s3 xa
          rw [hrd] at hrec2
          have hrr : rr = .error (o, r) := hrec2.symm
          rw [hrr] at hspl
          exact kx o r hspl.symm H' d (fun b u e => s3 b u (s2 b u (s1 b u e))) xa
        by_cases hm : text[a2]? = some 34
        · rw [decide_eq_true ((drop_take1 text a2 34).mpr hm)]
          refine iteT (.inl ⟨rfl, _, rfl, _, rfl, _, rfl, text, a2, sep, rfl, hl, ha2, by simp [hm], fun fl j hrd H' q p h1 h2 h3 h4 => hbeh fl j hrd _ H' q p h1 h2 h3 h4, herr⟩)
        · rw [decide_eq_false (fun z => hm ((drop_take1 text a2 34).mp z))]
          refine iteF (.inr ⟨rfl, _, rfl, _, rfl, _, rfl, text, a2, sep, rfl, hl, ha2, by simp [hm], fun fl j hrd H' q p h1 h2 h3 h4 => hbeh fl j hrd _ H' q p h1 h2 h3 h4, herr⟩)
      · refine iteF ?_
        subst hrr
        have hge := Sep.recd_ge hrec
        have hspl2 : Sep.spl sep text g (a2 + 1) (racc ++ [facc]) = res := hspl
        have hR2 := s2 _ _ hR1
        refine ⟨_, rfl, .inl ⟨rfl, _, seqL hR2⟩, _, rfl, R, _, _, rfl, rfl, hR2, by rw [List.length_map]; exact lt_sz' (by omega), ?_⟩
        refine ⟨_, rfl, _, _, rfl, rfl, ?_⟩
        refine ⟨text.length + 1 - (a2 + 1), by omega, a2 + 1, racc ++ [facc], ras ++ [L], g, _, _, _, _, rfl, rfl, same_mut (fun b o e => s2 b o (s1 b o e)) hR, by rw [upd_same, List.map_append]; rfl, ?_, ?_, by simp; omega, hspl2, by omega⟩
        · refine Paired.snoc (paired_mem (fun b x hb h => rec_upd hR2 b x (hn1 b hb) (rec_same s2 b x h)) hp1) ?_
          exact rec_upd hR2 L facc nLR ⟨fas, hL2, hp2⟩
        · intro b hb
          rcases List.mem_append.mp hb with h | h
          · exact hn1 b h
          · have : b = L := by simpa using h
            rw [this]; exact nLR
    · have hal : ¬ a < text.length := fun q => hge (decide_eq_true (by omega))
      have e0 : Sep.spl sep text g a racc = .ok racc := by
        cases g with
        | zero => rfl
        | succ g => exact Sep.spl_end hal
      rw [e0] at hspl
      exact ⟨_, rfl, kk _ hspl.symm H1 R hR ⟨ras, hR1, hp1⟩ s1⟩
end
end Sb
set_option Elab.async false
set_option maxRecDepth 100000
set_option maxHeartbeats 4000000
namespace Sb
open PySem PySem.Spec PyProof.Rows L2 SX
abbrev s_read_separated : Stmt := top 33
abbrev sc_read_separated_N : List Str := ["text", "columns", "separator", "head", "records", "numbers", "fields"]
theorem sc_read_separated : FnScope sc_read_separated_N ["text", "columns", "separator", "head"] (defScope s_read_separated) := ⟨rfl, rfl, rfl, by decide +kernel, rfl, by decide +kernel, by decide +kernel⟩
abbrev s__law_told : Stmt := top 46
abbrev sc__law_told_N : List Str := ["_law_text", "_law_separator", "_law_columns", "e", "_law_plain"]
theorem sc__law_told : FnScope sc__law_told_N ["_law_text", "_law_separator", "_law_columns"] (defScope s__law_told) := ⟨rfl, rfl, rfl, by decide +kernel, rfl, by decide +kernel, by decide +kernel⟩
/-- a call, what it lets out told at the slots -/
theorem pe_kS {X : Cx} {W : WX} {k j : Nat} {x : Str} {sp : Sp} {p pos : Pos} {e : Expr} {es : List Expr} {t : TA} (c : Cal X.prog X.w X.K X.mg X.base (L2.CX X.prog X.w) k x sp) (hr : Room j X.A) (hk : k ≤ j) (hg : Gl X x) (tk : Takes X W) (ha : PA X (e :: es) t)
    (hdb : (x == ("__debug__" : Str)) = false := by decide) (he : starEach (e :: es) X.env = (false, eval e X.env) :: starEach es X.env := by rfl) (hpl : (backTo pos (starEach es X.env)).any (·.1) = false := by rfl) :
    PE X (.Call (.Name x p) (e :: es) [] pos) (tCallS sp (WE W) t) := by
  obtain ⟨f, fd, ps, F, hm, kp, b⟩ := c.ex
  exact pe_callS F (hr.mono hk) hg hm kp b (fun σ => passAt tk σ) ha hdb he hpl
/-- read_separated of a text with a fault -/
def spSepX (IT : Addr) : Sp := fun vs H _ E => ∃ (text : List Nat) (cols : V) (sep : Nat) (o r : Nat), vs = [.str (S text), cols, .str (S [sep]), .bl true] ∧ text.length ≤ 100000 ∧ Sep.split sep text = .error (o, r) ∧
  ∀ (H' : Hp) (d : Addr), Same H H' → XAt H' d (o : Int) (reason r) → E (.ref IT) (some d) H'
def spTold : Sp := fun vs H Q _ => ∃ (text : List Nat) (sep : Nat) (cols : V), vs = [.str (S text), .str (S [sep]), cols] ∧ text.length ≤ 100000 ∧ (cols = .non ∨ ((∃ p, cols = .ref p) ∧ ∃ x, Sep.split sep text = .error x)) ∧
  (∀ ans, Sep.split sep text = .ok ans → ∀ H' : Hp, Same H H' → Q .non H') ∧
  ∀ (o r : Nat), Sep.split sep text = .error (o, r) → ∀ (H' : Hp) (q : Addr), Same H H' → H' q = some (.tup [.int (o : Int), .str (reason r), .bl true]) → Q (.ref q) H'
/-- the classes of errors -/
structure Err (K : PySem.W.Frag) (mg : Str → Option Value) (IT SE QE : Addr) : Prop where
  g_IT : mg "InvalidText" = some (.ref IT)
  g_SE : mg "StylobateError" = some (.ref SE)
  g_QE : mg "QueryError" = some (.ref QE)
  ex : PySem.W.exmOne K (.ref IT) (.ref IT) = some true
  k1 : PySem.W.kitOne K (.ref IT) (.ref SE) = some true
  k2 : PySem.W.kitOne K (.ref IT) (.ref QE) = some false
  xc : ExcC K IT
  xf : XfC K IT
  nO : PySem.W.findIn K (.ref IT) "offset" = some none
  nR : PySem.W.findIn K (.ref IT) "reason" = some none

section
variable {P : Program} {w : World} {K : PySem.W.Frag} {mg : Str → Option Value} {base : Heap} {C fM fP IT SE QE : Addr}
theorem ok_read_separated {f : Addr} {fd : FuncData} {kws : List (Str × V)} (F : FunD K "read_separated" "read_separated" (defArgs s_read_separated) (defBody s_read_separated) (defScope s_read_separated) [] kws f fd) (CS : Cal P w K mg base (L2.CX P w) 4 "split_records" (spSplitX C IT)) : FnOk P w K mg base (L2.CX P w) 5 f fd ["text", "columns", "separator", "head"] (spSepX IT) := by
  refine F.ok sc_read_separated (fun vs H Q E h => ?_) (fun cdv A outer s H vs Q E hr h => ?_)
  · obtain ⟨_, _, _, _, _, rfl, _⟩ := h
    rfl
  · obtain ⟨text, cols, sep, o, r, rfl, hl, hs, kx⟩ := h
    refine ⟨_, pss_cons (ps_set (i := 4) sc_read_separated.nd rfl (Or.inl rfl) (pe_k CS hr (by decide) (by rfl) (passX (takes_of rfl rfl rfl rfl)) (pa_cons (pv 0) (pa_cons (pv 2) pa_nil)))) pss_never, ?_⟩
    refine ⟨_, rfl, _, rfl, text, sep, rfl, hl, fun ans h => ?_, fun o' r' h => ?_⟩
    · rw [hs] at h; cases h
    · rw [hs] at h; cases h
      exact kx
theorem ok__law_told {f : Addr} {fd : FuncData} (F : Fun K "_law_told" "_law_told" s__law_told f fd) (T : Txt K mg C fM fP) (X : Err K mg IT SE QE) (CS : Cal P w K mg base (L2.CX P w) 4 "split_records" (spSplitX C IT))
    {fR : Addr} {fdR : FuncData} {g : List Value → List Value → List Value} (FR : FnOk P w K mg base (L2.CX P w) 5 fR fdR ["text", "columns", "separator", "head"] (spSepX IT)) (gR : mg "read_separated" = some (.ref fR)) (kR : PySem.W.keepIn K (.ref fR) = true)
    (bR : KBn K fdR ["text", "columns", "separator", "head"] 2 ["separator"] g (fun vs zs => vs ++ (zs ++ [.bl true]))) : FnOk P w K mg base CX0 6 f fd ["_law_text", "_law_separator", "_law_columns"] spTold := by
  refine F.ok sc__law_told (fun vs H Q E h => ?_) (fun cdv A outer s H vs Q E hr h => ?_)
  · obtain ⟨_, _, _, rfl, _⟩ := h
    rfl
  · obtain ⟨text, sep, cols, rfl, hl, hc, kk, kx⟩ := h
    refine ⟨_, pss_cons (ps_try_as (i := 3) (c := .ref IT) rfl rfl sc__law_told.nd rfl rfl ⟨by rfl, by decide, .inl X.g_IT⟩ takes0
      (fun W pn xe tk hp => pss_one (ps_if (pt_cmpR op_isN (pv 2) pe_non (nomark _)) (pss_one (ps_expr (pe_kS CS hr (by decide) (by rfl) tk (pa_cons (pv 0) (pa_cons (pv 1) pa_nil)))))
        (pss_one (ps_expr (pe_callNS FR (hr.mono (by decide)) (by rfl) gR kR bR (fun σ => passAt tk σ) (pa_cons (pv 0) (pa_cons (pv 2) pa_nil)) (pk_cons (pv 1) pk_nil))))))
      (fun a oe cls d pn hz hf => pss_cons (ps_set (i := 4) sc__law_told.nd rfl (Or.inl rfl) (pe_and (pe_callB (call_isD hz hf) (by rfl) T.n_isinstance (by decide +kernel) (pa_cons (pv 3) (pa_cons (pe_glob (v := .ref SE) (by rfl) X.g_SE rfl) pa_nil)))
          (pe_one (pe_not (pe_callB (call_isD hz hf) (by rfl) T.n_isinstance (by decide +kernel) (pa_cons (pv 3) (pa_cons (pe_glob (v := .ref QE) (by rfl) X.g_QE rfl) pa_nil)))))))
        (pss_one (ps_ret (pe_tup (pa_cons (pe_xf X.xf X.nO hz hf (pv 3)) (pa_cons (pe_xf X.xf X.nR hz hf (pv 3)) (pa_cons (pv 4) pa_nil))))))))
      (pss_one (ps_ret pe_non)), ?_⟩
    -- what the clause does
    have hcl : ∀ (o r : Nat), Sep.split sep text = .error (o, r) → ∀ (σ : L2.St) (H' : Hp) (d : Addr), σ = [some (.str (S text)), some (.str (S [sep])), some cols, none, none] → Same H H' → XAt H' d (o : Int) (reason r) →
        wAs K (.ref IT) 3 (fun a cls d => tSeq (tAsg (tAndV (tCB (rIsD K cls d a) (tCons (tVar 3) (tCons (tC (.ref SE)) tNil))) (tNotV (tCB (rIsD K cls d a) (tCons (tVar 3) (tCons (tC (.ref QE)) tNil))))) (gName 4)) (tRet (tTup (tCons (tXf a cls d IT "offset" (tVar 3)) (tCons (tXf a cls d IT "reason" (tVar 3)) (tCons (tVar 4) tNil)))))) (fun _ _ _ _ => False) { nx := tRet (tC .non) { nx := fun _ H' => Q .non H', rt := Q }, rt := Q } (.ref IT) (some d) σ H' := by
      rintro o r hs σ H' d rfl s1 xa
      refine ⟨true, X.ex, fun _ a ha => ?_, fun z => by cases z⟩
      refine ⟨_, rfl, IT, d, _, .ref SE, true, _, rfl, rfl, X.xc, rfl, xa, fun u h => h, X.k1, true, rfl, iteT ?_⟩
      refine ⟨_, rfl, IT, d, _, .ref QE, false, _, rfl, rfl, X.xc, rfl, xa, fun u h => h, X.k2, false, rfl, ?_⟩
      refine ⟨_, rfl, rfl, rfl, d, _, _, rfl, xa, (lk_past (by decide +kernel)).trans lk_here, ?_⟩
      refine ⟨_, rfl, rfl, rfl, d, _, _, rfl, xa, lk_here, ?_⟩
      refine ⟨_, rfl, lt_sz (show 3 ≤ 200000 by decide), fun q hq => ?_⟩
      exact kx o r hs _ q (fun b u e => same_new hq b u (s1 b u e)) upd_same
    refine ⟨_, rfl, rfl, _, rfl, ?_⟩
    rcases hc with rfl | ⟨⟨p, rfl⟩, ⟨o0, r0⟩, hx⟩
    · refine iteT ?_
      refine ⟨_, rfl, _, rfl, text, sep, rfl, hl, fun ans ha H' p hp hr s1 => kk ans ha H' s1, fun o r hs H' d s1 xa => hcl o r hs _ H' d rfl s1 xa⟩
    · refine iteF ?_
      refine ⟨_, rfl, _, rfl, _, rfl, rfl, rfl, text, _, sep, o0, r0, rfl, hl, hx, fun H' d s1 xa => hcl o0 r0 hx _ H' d rfl s1 xa⟩
end
end Sb
set_option Elab.async false
set_option maxRecDepth 100000
set_option maxHeartbeats 4000000
namespace Sb
open PySem PySem.Spec PyProof.Rows L2 SX
abbrev s__law_good : Stmt := top 44
abbrev sc__law_good_N : List Str := ["_law_state_here", "_law_separator", "_law_text", "_law_k", "_law_j", "_law_field"]
theorem sc__law_good : FnScope sc__law_good_N ["_law_state_here", "_law_separator"] (defScope s__law_good) := ⟨rfl, rfl, rfl, by decide +kernel, rfl, by decide +kernel, by decide +kernel⟩
theorem kp_same {p : Addr} {H0 H H' : Hp} (s : Same H0 H) (h0 : H0 p = none) (k : Kp p H H') : Same H0 H' := fun b o e => k.1 b o (ne_of_none e h0) (s b o e)
theorem Dr.ext {p : Addr} {H H' : Hp} (d : Dr H p) (s : Same H H') : Dr H' p := by
  obtain ⟨z, h⟩ := d
  exact ⟨z, s _ _ h⟩
theorem mustM_ok {sep : Nat} {t : List Nat} {m : Bool} (h : m = true ∨ (m = mustM sep t)) : Sep.Okf sep (t, m) := by
  intro hm c hc
  have hm : m = false := hm
  rcases h with h | h
  · rw [hm] at h; cases h
  · rw [hm] at h
    have h2 : mustM sep t = false := h.symm
    unfold mustM at h2
    simp only [Bool.or_eq_false_iff, decide_eq_false_iff_not] at h2
    exact ⟨fun e => h2.1.1 (e ▸ hc), fun e => h2.2 (e ▸ hc), fun e => h2.1.2 (e ▸ hc)⟩
theorem enc_len {t : List Nat} {m : Bool} (h : t.length ≤ 5) : (Sep.enc t m).length ≤ 12 := by
  have := dbl_len t
  cases m <;> simp [Sep.enc] <;> omega
def SepOk (sep : Nat) : Prop := sep = 44 ∨ sep = 59
def spGood : Sp := fun vs H Q _ => ∃ (p : Addr) (sep : Nat), vs = [.ref p, .str (S [sep])] ∧ Dr H p ∧ SepOk sep ∧ ∀ (g : List Nat) (H' : Hp), Sep.Good sep g → g.length ≤ 10000 → Kp p H H' → Q (.str (S g)) H'
section
variable {P : Program} {w : World} {K : PySem.W.Frag} {mg : Str → Option Value} {base : Heap} {C fM fP IT : Addr}
theorem ok__law_good {f : Addr} {fd : FuncData} (F : Fun K "_law_good" "_law_good" s__law_good f fd) (T : Txt K mg C fM fP) (C__law_digit : Cal P w K mg base CX0 1 "_law_digit" spDigit)
    (C__law_field_text : Cal P w K mg base CX0 2 "_law_field_text" spField) (C__law_written : Cal P w K mg base CX0 1 "_law_written" spWritten) (C__law_must_mark : Cal P w K mg base CX0 1 "_law_must_mark" spMust) : FnOk P w K mg base CX0 3 f fd ["_law_state_here", "_law_separator"] spGood := by
  refine F.ok sc__law_good (fun vs H Q E h => ?_) (fun cdv A outer s H vs Q E hr h => ?_)
  · obtain ⟨_, _, rfl, _⟩ := h
    rfl
  · obtain ⟨p, sep, rfl, dr, hsep, kk⟩ := h
    refine ⟨_, (pss_cons (ps_set (i := 2) sc__law_good.nd rfl (Or.inl rfl) pe_str)
  (pss_cons (ps_for PassesOwn.never rfl (pi_range1 rfl T.n_range (pa_cons (pe_k C__law_digit hr (by decide) (by rfl) pass0 (pa_cons (pv 0) (pa_cons pe_int pa_nil))) pa_nil)) (pg_name (i := 3) sc__law_good.nd rfl (Or.inl rfl)) (pss_cons (ps_for PassesOwn.never rfl (pi_range1 rfl T.n_range (pa_cons (pe_op op_add pe_int (pe_k C__law_digit hr (by decide) (by rfl) pass0 (pa_cons (pv 0) (pa_cons pe_int pa_nil)))) pa_nil)) (pg_name (i := 4) sc__law_good.nd rfl (Or.inl rfl)) (C8.pss_cut (ps_if (pt_cmpR op_gt (pv 4) pe_int (nomark _)) (pss_one (ps_set (i := 2) sc__law_good.nd rfl (Or.inl rfl) (pe_op op_add_str (pv 2) (pv 1)))) pss_nil)
  (pss_cons (ps_set (i := 5) sc__law_good.nd rfl (Or.inl rfl) (pe_k C__law_field_text hr (by decide) (by rfl) pass0 (pa_cons (pv 0) pa_nil)))
  (pss_one (ps_set (i := 2) sc__law_good.nd rfl (Or.inl rfl) (pe_op op_add_str (pv 2) (pe_k C__law_written hr (by decide) (by rfl) pass0 (pa_cons (pv 5) (pa_cons (pv 1) (pa_cons (pe_cut (pe_or (pe_k C__law_must_mark hr (by decide) (by rfl) pass0 (pa_cons (pv 5) (pa_cons (pv 1) pa_nil))) (pe_one (pe_cmpR op_eq (pe_k C__law_digit hr (by decide) (by rfl) pass0 (pa_cons (pv 0) (pa_cons pe_int pa_nil))) pe_int (nomark _))))) pa_nil))))))))))
  (pss_one (ps_set (i := 2) sc__law_good.nd rfl (Or.inl rfl) (pe_op op_add_str (pv 2) pe_str)))))
  (pss_cons (ps_for PassesOwn.never rfl (pi_range1 rfl T.n_range (pa_cons (pe_k C__law_digit hr (by decide) (by rfl) pass0 (pa_cons (pv 0) (pa_cons pe_int pa_nil))) pa_nil)) (pg_name (i := 4) sc__law_good.nd rfl (Or.inl rfl)) (pss_one (ps_set (i := 2) sc__law_good.nd rfl (Or.inl rfl) (pe_op op_add_str (pe_op op_add_str (pv 2) pe_str) (pv 1)))))
  (pss_one (ps_ret (pv 2)))))), ?_⟩
    rw [c_nil]
    refine ⟨_, rfl, p, 4, rfl, dr, by decide, by decide, fun d1 H1 d10 d11 k1 => ?_⟩
    refine ⟨_, rfl, by omega, by omega, for_range (lo := 0) (n := d1.toNat) (fun i σ H' => ∃ (rs : List (List (List Nat × Bool))) (x3 x4 x5 : Option V), σ = [some (.ref p), some (.str (S [sep])), some (.str (S (Sep.encT sep rs))), x3, x4, x5] ∧ rs.length = i ∧ (∀ r ∈ rs, Sep.Okr sep r) ∧ (Sep.encT sep rs).length ≤ 100 * i ∧ Kp p H H')
      ⟨[], _, _, _, rfl, rfl, by simp, by simp [Sep.encT], k1⟩ ?_ ?_⟩
    · rintro i σ H2 hi ⟨rs, x3, x4, x5, rfl, hrl, hro, hrs, k2⟩
      have e0 : (0 : Int) + (i : Int) = (i : Int) := Int.zero_add _
      show tSeq _ _ _ [some (.ref p), some (.str (S [sep])), some (.str (S (Sep.encT sep rs))), some (.int ((0 : Int) + (i : Int))), x4, x5] H2
      rw [e0]
      refine ⟨_, rfl, p, 3, rfl, k2.dr, by decide, by decide, fun d5 H5 d50 d51 k5 => ?_⟩
      refine ⟨_, _, rfl, rfl, _, rfl, by omega, by omega, for_range (lo := 0) (n := (1 + d5).toNat) (fun j σ H' => ∃ (fs : List (List Nat × Bool)) (x4 x5 : Option V), σ = [some (.ref p), some (.str (S [sep])), some (.str (S (Sep.encT sep rs ++ Sep.encR sep fs))), some (.int (i : Int)), x4, x5] ∧ fs.length = j ∧ (∀ p ∈ fs, Sep.Okf sep p) ∧ (Sep.encR sep fs).length ≤ 20 * j ∧ Kp p H H')
        ⟨[], x4, x5, by simp [Sep.encR], rfl, by simp, by simp [Sep.encR], k2.trans k5⟩ ?_ ?_⟩
      · rintro j σ H6 hj ⟨fs, y4, y5, rfl, hfl, hfo, hfs, k6⟩
        have e1 : (0 : Int) + (j : Int) = (j : Int) := Int.zero_add _
        show C8.tCut _ _ _ [some (.ref p), some (.str (S [sep])), some (.str (S (Sep.encT sep rs ++ Sep.encR sep fs))), some (.int (i : Int)), some (.int ((0 : Int) + (j : Int))), y5] H6
        rw [e1]
        refine ⟨fun σ' H' => σ' = [some (.ref p), some (.str (S [sep])), some (.str (S (if 0 < j then Sep.encT sep rs ++ Sep.encR sep fs ++ [sep] else Sep.encT sep rs ++ Sep.encR sep fs))), some (.int (i : Int)), some (.int (j : Int)), y5] ∧ H' = H6, ?_, ?_⟩
        · refine ⟨_, rfl, _, _, rfl, rfl, _, rfl, ?_⟩
          refine ite2 (fun h => ?_) (fun h => ?_)
          · have hj0 : 0 < j := by have := of_decide_eq_true h; omega
            refine ⟨_, rfl, _, rfl, _, _, rfl, rfl, by rw [S_len, S_len]; exact lt_sz (by simp; omega), ?_⟩
            rw [S_cat]
            exact ⟨by rw [if_pos hj0]; rfl, rfl⟩
          · have hj0 : ¬ 0 < j := fun q => h (decide_eq_true (by omega))
            exact ⟨by rw [if_neg hj0], rfl⟩
        rintro _ _ ⟨rfl, rfl⟩
        obtain ⟨text3, ht3⟩ : ∃ t, t = (if 0 < j then Sep.encT sep rs ++ Sep.encR sep fs ++ [sep] else Sep.encT sep rs ++ Sep.encR sep fs) := ⟨_, rfl⟩
        rw [← ht3]
        have hl3 : text3.length ≤ (Sep.encT sep rs ++ Sep.encR sep fs).length + 1 := by rw [ht3]; split <;> simp [Nat.add_assoc]
        rw [List.length_append] at hl3
        refine ⟨_, rfl, p, rfl, k6.dr, fun fld H7 hfl5 hf128 k7 => ?_⟩
        refine ⟨_, rfl, _, rfl, _, rfl, fun v H' => ∃ m : Bool, v = .bl m ∧ Kp p H7 H' ∧ (m = true ∨ m = mustM sep fld), ?_, ?_⟩
        · refine ⟨_, rfl, _, rfl, fld, sep, rfl, _, rfl, ?_⟩
          refine ite2 (fun h => ?_) (fun h => ?_)
          · exact ⟨true, rfl, .refl k7.dr, .inl rfl⟩
          · refine ⟨_, rfl, p, 3, rfl, k7.dr, by decide, by decide, fun d4 H8 d40 d41 k8 => ?_⟩
            refine ⟨rfl, _, rfl, k8, ?_⟩
            by_cases hd : d4 = 0
            · exact .inl (by rw [hd]; rfl)
            · refine .inr ?_
              rw [Bool.not_eq_true] at h
              rw [h]
              exact decide_eq_false (fun q => hd (by injection q))
        rintro _ H8 ⟨m, rfl, k8, hm⟩
        have hok := mustM_ok hm
        refine ⟨fld, _, m, rfl, by omega, fun H9 s9 => ?_⟩
        have hel := enc_len (m := m) hfl5
        refine ⟨_, _, rfl, rfl, by rw [S_len, S_len]; exact lt_sz (by omega), ?_⟩
        rw [S_cat]
        have hoff : text3 ++ Sep.enc fld m = Sep.encT sep rs ++ Sep.encR sep (fs ++ [(fld, m)]) ∧ (Sep.encR sep (fs ++ [(fld, m)])).length ≤ 20 * (j + 1) := by
          by_cases hj0 : 0 < j
          · have hne : fs ≠ [] := fun q => by rw [q] at hfl; simp at hfl; omega
            rw [if_pos hj0] at ht3
            rw [Sep.encR_snoc sep fs _ hne, ht3]
            exact ⟨by simp, by simp; omega⟩
          · have hne : fs = [] := by cases fs with | nil => rfl | cons x y => simp at hfl; omega
            rw [if_neg hj0] at ht3
            rw [hne] at ht3
            rw [hne, ht3]
            simp [Sep.encR]
            omega
        rw [hoff.1]
        refine ⟨fs ++ [(fld, m)], _, _, rfl, by simp [hfl], ?_, hoff.2, ((k6.trans k7).trans k8).same s9⟩
        intro q hq
        rcases List.mem_append.mp hq with h | h
        · exact hfo q h
        · have : q = (fld, m) := by simpa using h
          rw [this]
          exact hok
      · rintro σ H6 ⟨fs, y4, y5, rfl, hfl, hfo, hfs, k6⟩
        have hne : fs ≠ [] := fun q => by rw [q] at hfl; simp at hfl; omega
        refine ⟨_, rfl, _, _, rfl, rfl, ?_, ?_⟩
        · rw [S_len, List.length_append]
          have e : (Str.ofString "\n").length = 1 := by decide +kernel
          rw [e]
          exact lt_sz (by omega)
        · rw [c_nl, S_cat]
          have e : Sep.encT sep rs ++ Sep.encR sep fs ++ [10] = Sep.encT sep (rs ++ [fs]) := by rw [Sep.encT_snoc]; simp
          rw [e]
          refine ⟨rs ++ [fs], _, _, _, rfl, by simp [hrl], ?_, ?_, k6⟩
          · intro r hr
            rcases List.mem_append.mp hr with h | h
            · exact hro r h
            · have : r = fs := by simpa using h
              rw [this]
              exact ⟨hne, hfo⟩
          · rw [← e, List.length_append, List.length_append, List.length_singleton]
            omega
    · rintro σ H2 ⟨rs, x3, x4, x5, rfl, hrl, hro, hrs, k2⟩
      have hab : (Str.ofString "ab") = S [97, 98] := by decide +kernel
      have habok : Sep.Okf sep ([97, 98], false) := by
        intro _ c hc
        have : c = 97 ∨ c = 98 := by simpa using hc
        unfold SepOk at hsep
        omega
      refine ⟨_, rfl, p, 3, rfl, k2.dr, by decide, by decide, fun d5 H5 d50 d51 k5 => ?_⟩
      refine ⟨_, rfl, by omega, by omega, for_range (lo := 0) (n := d5.toNat) (fun j σ H' => ∃ (gs : List (List Nat × Bool)) (x4 : Option V), σ = [some (.ref p), some (.str (S [sep])), some (.str (S (Sep.encT sep rs ++ Sep.encP sep gs))), x3, x4, x5] ∧ (∀ p ∈ gs, Sep.Okf sep p) ∧ (Sep.encP sep gs).length ≤ 20 * j ∧ Kp p H H')
        ⟨[], x4, by simp [Sep.encP], by simp, by simp [Sep.encP], k2.trans k5⟩ ?_ ?_⟩
      · rintro j σ H6 hj ⟨gs, y4, rfl, hgo, hgs, k6⟩
        refine ⟨_, rfl, _, _, rfl, rfl, ?_, _, rfl, _, _, rfl, rfl, ?_, ?_⟩
        · rw [hab, S_len, S_len, List.length_append]
          exact lt_sz (by simp; omega)
        · rw [hab, S_cat, S_len, S_len, List.length_append, List.length_append]
          exact lt_sz (by simp; omega)
        · rw [hab, S_cat, S_cat]
          have e : Sep.encT sep rs ++ Sep.encP sep gs ++ [97, 98] ++ [sep] = Sep.encT sep rs ++ Sep.encP sep (gs ++ [([97, 98], false)]) := by rw [Sep.encP_snoc]; simp [Sep.enc]
          rw [e]
          refine ⟨gs ++ [([97, 98], false)], _, rfl, ?_, ?_, k6⟩
          · intro q hq
            rcases List.mem_append.mp hq with h | h
            · exact hgo q h
            · have : q = ([97, 98], false) := by simpa using h
              rw [this]
              exact habok
          · rw [Sep.encP_snoc]
            simp [Sep.enc]
            omega
      · rintro σ H6 ⟨gs, y4, rfl, hgo, hgs, k6⟩
        exact ⟨_, rfl, kk _ H6 ⟨rs, gs, rfl, hro, hgo⟩ (by rw [List.length_append]; omega) k6⟩
end
end Sb
set_option Elab.async false
set_option maxRecDepth 100000
set_option maxHeartbeats 4000000
namespace Sb
open PySem PySem.Spec PyProof.Rows L2 SX
abbrev s__law_wrong : Stmt := top 45
abbrev sc__law_wrong_N : List Str := ["_law_state_here", "_law_at", "_law_separator", "_law_kind", "_law_plain", "_law_marked", "_law_k"]
theorem sc__law_wrong : FnScope sc__law_wrong_N ["_law_state_here", "_law_at", "_law_separator"] (defScope s__law_wrong) := ⟨rfl, rfl, rfl, by decide +kernel, rfl, by decide +kernel, by decide +kernel⟩
/-- the pieces of a plain word -/
def pcs : List (List Nat) := [[97], [49], [120, 32], [121]]
def WordC (c : Nat) : Prop := c = 97 ∨ c = 49 ∨ c = 120 ∨ c = 32 ∨ c = 121
theorem word_ok {ls : List (List Nat)} (h : ∀ l ∈ ls, l ∈ pcs) : ∀ c ∈ ls.flatten, WordC c := fun c hc => by
  obtain ⟨l, hl, hcl⟩ := List.mem_flatten.mp hc
  have := h l hl
  unfold pcs at this
  unfold WordC
  simp only [List.mem_cons, List.not_mem_nil, or_false] at this
  rcases this with rfl | rfl | rfl | rfl <;> simp at hcl <;> omega
theorem word_head {ls : List (List Nat)} (h : ∀ l ∈ ls, l ∈ pcs) (hn : ls ≠ []) : ∃ d r, ls.flatten = d :: r := by
  cases ls with
  | nil => exact absurd rfl hn
  | cons l ls =>
    have := h l (by simp)
    unfold pcs at this
    simp only [List.mem_cons, List.not_mem_nil, or_false] at this
    rcases this with rfl | rfl | rfl | rfl <;> exact ⟨_, _, rfl⟩
theorem word_len {ls : List (List Nat)} (h : ∀ l ∈ ls, l ∈ pcs) : ls.flatten.length ≤ 2 * ls.length ∧ (ls.map List.length).sum ≤ 2 * ls.length := by
  induction ls with
  | nil => simp
  | cons l ls ih =>
    have i := ih fun x hx => h x (by simp [hx])
    have : l.length ≤ 2 := by
      have := h l (by simp)
      unfold pcs at this
      simp only [List.mem_cons, List.not_mem_nil, or_false] at this
      rcases this with rfl | rfl | rfl | rfl <;> decide
    constructor
    · rw [List.flatten_cons, List.length_append, List.length_cons]; omega
    · rw [List.map_cons, List.sum_cons, List.length_cons]; omega
def spWrong : Sp := fun vs H Q _ => ∃ (p : Addr) (a sep : Nat), vs = [.ref p, .int (a : Int), .str (S [sep])] ∧ Dr H p ∧ SepOk sep ∧ ∀ (wt : List Nat) (o r : Nat) (H' : Hp) (q : Addr), Sep.Faulty sep wt o r → wt.length ≤ 1000 → Kp p H H' → H' q = some (.tup [.str (S wt), .int ((a : Int) + (o : Int)), .str (reason r)]) → Q (.ref q) H'
section
variable {P : Program} {w : World} {K : PySem.W.Frag} {mg : Str → Option Value} {base : Heap} {C fM fP IT : Addr}
theorem ok__law_wrong {f : Addr} {fd : FuncData} (F : Fun K "_law_wrong" "_law_wrong" s__law_wrong f fd) (T : Txt K mg C fM fP) (C__law_digit : Cal P w K mg base CX0 1 "_law_digit" spDigit)
    (C__law_field_text : Cal P w K mg base CX0 2 "_law_field_text" spField) (C__law_written : Cal P w K mg base CX0 1 "_law_written" spWritten) : FnOk P w K mg base CX0 3 f fd ["_law_state_here", "_law_at", "_law_separator"] spWrong := by
  refine F.ok sc__law_wrong (fun vs H Q E h => ?_) (fun cdv A outer s H vs Q E hr h => ?_)
  · obtain ⟨_, _, _, rfl, _⟩ := h
    rfl
  · obtain ⟨p, a, sep, rfl, dr, hsep, kk⟩ := h
    refine ⟨_, (pss_cons (ps_set (i := 3) sc__law_wrong.nd rfl (Or.inl rfl) (pe_k C__law_digit hr (by decide) (by rfl) pass0 (pa_cons (pv 0) (pa_cons pe_int pa_nil))))
  (pss_cons (ps_set (i := 4) sc__law_wrong.nd rfl (Or.inl rfl) (pe_join pe_str (pe_lc (own := [("_law_k", 6)]) (g := gName 6) rfl sc__law_wrong.nd (pi_range1 rfl T.n_range (pa_cons (pe_op op_add pe_int (pe_k C__law_digit hr (by decide) (by rfl) pass0 (pa_cons (pv 0) (pa_cons pe_int pa_nil)))) pa_nil)) (blkOk_by (own := [("_law_k", 6)]) (N := sc__law_wrong_N) (sc := defScope s__law_wrong) (by decide +kernel)) (fun _ _ _ _ _ => pg_name (i := 6) sc__law_wrong.nd rfl (Or.inl rfl)) (fun _ _ _ _ _ => pts_nil) (fun _ _ _ _ _ => (pe_ix (show IxR _ (rIxT K) from ix_tup) (pe_tup (pa_cons pe_str (pa_cons pe_str (pa_cons pe_str (pa_cons pe_str pa_nil))))) (pe_k C__law_digit hr (by decide) (by rfl) pass0 (pa_cons (pv 0) (pa_cons pe_int pa_nil))) (fun _ _ => rfl))))))
  (pss_cons (ps_if (pt_cmpR op_eq (pv 3) pe_int (nomark _)) (pss_one (ps_ret (pe_tup (pa_cons (pe_op op_add_str (pe_op op_add_str (pv 4) pe_str) (pv 4)) (pa_cons (pe_op op_add (pv 1) (pe_callB call_len_str (by rfl) T.n_len PySem.boot_len (pa_cons (pv 4) pa_nil))) (pa_cons pe_str pa_nil)))))) pss_nil)
  (pss_cons (ps_set (i := 5) sc__law_wrong.nd rfl (Or.inl rfl) (pe_k C__law_written hr (by decide) (by rfl) pass0 (pa_cons (pe_k C__law_field_text hr (by decide) (by rfl) pass0 (pa_cons (pv 0) pa_nil)) (pa_cons (pv 2) (pa_cons pe_bl pa_nil)))))
  (pss_cons (ps_if (pt_cmpR op_eq (pv 3) pe_int (nomark _)) (pss_one (ps_ret (pe_tup (pa_cons (pe_op op_add_str (pv 5) (pv 4)) (pa_cons (pe_op op_add (pv 1) (pe_callB call_len_str (by rfl) T.n_len PySem.boot_len (pa_cons (pv 5) pa_nil))) (pa_cons pe_str pa_nil)))))) pss_nil)
  (pss_one (ps_ret (pe_tup (pa_cons (pe_op op_add_str (pe_op op_add_str (pe_op op_add_str (pe_op op_add_str pe_str (pv 4)) (pv 2)) pe_str) (pv 4)) (pa_cons (pv 1) (pa_cons pe_str pa_nil))))))))))), ?_⟩
    have cx : (Str.ofString "x ") = S [120, 32] := by decide +kernel
    have ca : (Str.ofString "a") = S [97] := by decide +kernel
    have c1 : (Str.ofString "1") = S [49] := by decide +kernel
    have cy : (Str.ofString "y") = S [121] := by decide +kernel
    refine ⟨_, rfl, p, 3, rfl, dr, by decide, by decide, fun kd H1 kd0 kd1 k1 => ?_⟩
    refine ⟨⟨_, rfl⟩, _, rfl, p, 3, rfl, k1.dr, by decide, by decide, fun d H2 d0 d1 k2 => ?_⟩
    refine ⟨_, _, rfl, rfl, (1 + d), rfl, by omega, by omega, fun D hD => ?_⟩
    have k12 := k1.trans k2
    have hDH : H D = none := by
      obtain ⟨z, hz⟩ := dr
      cases e : H D with
      | none => rfl
      | some o =>
        by_cases hp : D = p
        · subst hp
          obtain ⟨_, y, hy⟩ := k12
          rw [hD] at hy; cases hy
        · rw [k12.1 D o hp e] at hD; cases hD
    refine lc_range (lo := 0) (n := (1 + d).toNat) (fun i H' => ∃ ls : List (List Nat), ls.length = i ∧ (∀ l ∈ ls, l ∈ pcs) ∧ Kp p H H' ∧ H' D = some (.lst (ls.map fun l => V.str (S l))))
      ⟨[], rfl, by simp, k12.new hD, upd_same⟩ (fun i H' hi ⟨ls, hl, hs, k3, hL⟩ => ?_) (fun H' ⟨ls, hl, hs, k3, hL⟩ => ?_)
    · refine ⟨rfl, lt_sz (show 4 ≤ 200000 by decide), fun q hq => ?_⟩
      have hq3 : H' D = some (.lst (ls.map fun l => V.str (S l))) := hL
      have k4 := k3.same (same_new (o := .tup [.str (Str.ofString "a"), .str (Str.ofString "1"), .str (Str.ofString "x "), .str (Str.ofString "y")]) hq)
      refine ⟨_, rfl, p, 4, rfl, k4.dr, by decide, by decide, fun e H3 e0 e1 k5 => ?_⟩
      obtain ⟨piece, hpc, hat⟩ : ∃ l ∈ pcs, atI [V.str (Str.ofString "a"), .str (Str.ofString "1"), .str (Str.ofString "x "), .str (Str.ofString "y")] e = some (.str (S l)) := by
        rw [ca, c1, cx, cy]
        have : e = 0 ∨ e = 1 ∨ e = 2 ∨ e = 3 := by omega
        rcases this with rfl | rfl | rfl | rfl
        · exact ⟨[97], by decide, rfl⟩
        · exact ⟨[49], by decide, rfl⟩
        · exact ⟨[120, 32], by decide, rfl⟩
        · exact ⟨[121], by decide, rfl⟩
      have nq : q ≠ p := by
        obtain ⟨z, hz⟩ := k3.dr
        exact (ne_of_none hz hq).symm
      have hT : H3 q = some (.tup [.str (Str.ofString "a"), .str (Str.ofString "1"), .str (Str.ofString "x "), .str (Str.ofString "y")]) := k5.1 _ _ nq upd_same
      have nD : D ≠ p := by
        obtain ⟨z, hz⟩ := k3.dr
        exact ne_of hL hz (by intro q; injection q with q; cases ls <;> simp at q)
      have hL3 : H3 D = some (.lst (ls.map fun l => V.str (S l))) := k5.1 D _ nD (by rw [upd_ne (ne_of_none hL hq)]; exact hL)
      refine ⟨q, _, _, _, rfl, rfl, seqT hT, hat, _, hL3, ?_, ls ++ [piece], by rw [List.length_append, hl]; rfl, ?_, ?_, ?_⟩
      · rw [List.length_map]
        exact Nat.lt_of_lt_of_le (show ls.length < 100 by omega) (by decide)
      · intro l hl
        rcases List.mem_append.mp hl with h | h
        · exact hs l h
        · have e : l = piece := by simpa using h
          rw [e]
          exact hpc
      · exact (k4.trans k5).mut hDH dr
      · rw [upd_same, List.map_append]
        rfl
    · have hwl := word_len hs
      have hwc := word_ok hs
      have hln : ls ≠ [] := fun q => by rw [q] at hl; simp at hl; omega
      obtain ⟨hd, tl, htl⟩ := word_head hs hln
      have hl3 : ls.length ≤ 3 := by omega
      refine ⟨_, _, ls.map S, rfl, rfl, .inl (seqL ?_), ?_, ?_⟩
      · rw [List.map_map]; exact hL
      · rw [c_nil, List.map_map]
        have : ((fun x : Str => x.length) ∘ S) = List.length := by funext c; show (S c).length = c.length; rw [S_len]
        rw [this, S_len]
        simp
        omega
      · have e5 : Txt.join (Str.ofString "") (ls.map S) = S ls.flatten := by
          rw [c_nil]
          exact join_flat ls
        rw [e5]
        obtain ⟨pl, hpl⟩ : ∃ t, t = ls.flatten := ⟨_, rfl⟩
        rw [← hpl] at hwl hwc htl ⊢
        have hplT : Sep.plainT sep pl := fun c hc => by
          have := hwc c hc
          unfold WordC at this
          unfold SepOk at hsep
          omega
        have hpn : pl ≠ [] := by rw [htl]; simp
        have hp34 : sep ≠ 34 := by unfold SepOk at hsep; omega
        refine ⟨_, rfl, rfl, _, rfl, ?_⟩
        refine ite2 (fun h0 => ?_) (fun h0 => ?_)
        · -- a mark in a plain field
          refine ⟨_, rfl, _, _, rfl, rfl, by rw [S_len, c_quote, S_len]; exact lt_sz (by simp; omega), _, rfl, _, _, rfl, rfl, ?_, _, rfl, _, rfl, _, rfl, by rw [S_len]; exact lt_sz (by omega), _, _, rfl, rfl, ?_⟩
          · rw [c_quote, S_cat, S_len, S_len]
            exact lt_sz (by simp; omega)
          refine ⟨lt_sz (show 3 ≤ 200000 by decide), fun q hq => ?_⟩
          rw [c_quote, S_cat, S_cat, S_len]
          refine kk (pl ++ [34] ++ pl) pl.length 0 _ q ⟨by simp, by decide, fun more at0 _ => ?_⟩ (by simp; omega) (k3.same (same_new hq)) upd_same
          have := Sep.rd_bad0 sep hp34 pl (pl ++ more) at0 hplT hpn
          simpa using this
        · -- a marked field
          refine ⟨_, rfl, p, rfl, k3.dr, fun fld H4 hf5 hf128 k4 => ?_⟩
          refine ⟨_, rfl, fld, _, true, rfl, by omega, fun H5 s5 => ?_⟩
          have hel := enc_len (m := true) hf5
          have k45 := (k3.trans k4).same s5
          refine ⟨_, rfl, rfl, _, rfl, ?_⟩
          refine ite2 (fun h1 => ?_) (fun h1 => ?_)
          · refine ⟨_, rfl, _, rfl, _, _, rfl, rfl, by rw [S_len, S_len]; exact lt_sz (by omega), _, rfl, _, rfl, _, rfl, by rw [S_len]; exact lt_sz (by omega), _, _, rfl, rfl, ?_⟩
            refine ⟨lt_sz (show 3 ≤ 200000 by decide), fun q hq => ?_⟩
            rw [S_cat, S_len]
            refine kk (Sep.enc fld true ++ pl) (Sep.enc fld true).length 1 _ q ⟨by simp [hpn], by decide, fun more at0 _ => ?_⟩ (by simp; omega) (k45.same (same_new hq)) upd_same
            have hd0 := hplT hd (by rw [htl]; simp)
            have := Sep.rd_bad1 sep hd hd0.2.2 hd0.1 hd0.2.1 fld (tl ++ more) at0
            rw [htl]
            simpa using this
          · have hsp : (Str.ofString "\n") = S [10] := c_nl
            refine ⟨_, rfl, _, _, rfl, rfl, ?_, _, rfl, _, _, rfl, rfl, ?_, _, _, rfl, rfl, ?_, _, rfl, _, _, rfl, rfl, ?_, _, rfl, ?_⟩
            · rw [c_quote, S_len, S_len]; exact lt_sz (by simp; omega)
            · rw [c_quote, S_cat, S_len, S_len]; exact lt_sz (by simp; omega)
            · rw [c_quote, S_cat, S_cat, hsp, S_len, S_len]; exact lt_sz (by simp; omega)
            · rw [c_quote, S_cat, S_cat, hsp, S_cat, S_len, S_len]; exact lt_sz (by simp; omega)
            refine ⟨lt_sz (show 3 ≤ 200000 by decide), fun q hq => ?_⟩
            rw [c_quote, S_cat, S_cat, hsp, S_cat, S_cat]
            refine kk ([34] ++ pl ++ [sep] ++ [10] ++ pl) 0 2 _ q ⟨by simp, by decide, fun more at0 hm => ?_⟩ (by simp; omega) (k45.same (same_new hq)) (by rw [upd_same]; simp; rfl)
            rw [hm rfl]
            have := Sep.rd_bad2 sep (pl ++ [sep] ++ [10] ++ pl) at0 (fun c hc => by
              simp only [List.mem_append, List.mem_singleton] at hc
              rcases hc with ((h | h) | h) | h
              · exact (hplT c h).2.2
              · omega
              · omega
              · exact (hplT c h).2.2)
            simpa using this
end
end Sb
set_option Elab.async false
set_option maxRecDepth 100000
set_option maxHeartbeats 4000000
namespace Sb
open PySem PySem.Spec PyProof.Rows L2 SX
abbrev s_Column___init__ : Stmt := inClass (top 35) 0
abbrev sc_Column___init___N : List Str := ["self", "name", "kind", "nullable"]
theorem sc_Column___init__ : FnScope sc_Column___init___N ["self", "name", "kind", "nullable"] (defScope s_Column___init__) := ⟨rfl, rfl, rfl, by decide +kernel, rfl, by decide +kernel, by decide +kernel⟩
abbrev s_law : Stmt := top 47
abbrev sc_law_N : List Str := ["_law_script", "_law_k", "_law_state_here", "_law_separator", "_law_good_here", "_law_wrong_here", "_law_offset", "_law_reason", "_law_text", "_law_due"]
theorem sc_law : FnScope sc_law_N ["_law_script"] (defScope s_law) := ⟨rfl, rfl, rfl, by decide +kernel, rfl, by decide +kernel, by decide +kernel⟩
def spCol (C : Addr) : Sp := fun vs H Q _ => ∃ (p dx : Addr) (x y z : V), vs = [.ref p, x, y, z] ∧ H p = some (.ins C dx []) ∧
  ∀ H' : Hp, (∀ b u, H b = some u → b ≠ p → H' b = some u) → Q .non H'
def spLaw (K : PySem.W.Frag) : Sp := fun vs H Q _ => ∃ (a : Addr) (ns : List Int), vs = [.ref a] ∧ SqL K H a (ns.map V.int) ∧ ns.length ≤ 63 ∧ ∀ H', Q (.bl true) H'
theorem putF_len2 (f : Str) (v : V) : ∀ l : List (Str × V), (putF f v l).length ≤ l.length + 1 := putF_len f v
/-! ### what is due -/
def dT (o : Int) (r : Str) : PyData := .tuple [.int o, .str r, .bool true]
theorem dT_eqv (o : Int) (r : Str) : PyData.eqv (dT o r) (dT o r) = true := by
  show ((o == o) && ((r == r) && ((true == true) && true))) = true
  simp
theorem reason_ok : ∀ r, PyData.strOk (reason r) = true
  | 0 => by decide +kernel
  | 1 => by decide +kernel
  | _ + 2 => by show PyData.strOk (Str.ofString "the quotation mark is not closed") = true; decide +kernel
theorem dT_shaped (o : Int) (r : Nat) : SeqAt.shaped (dT o (reason r)) = true := by
  have h1 := reason_ok r
  unfold SeqAt.shaped dT
  rw [Bool.and_eq_true]
  refine ⟨?_, ?_⟩
  · simp [PyData.canLay0, PyData.canLayAll0, h1]
  · simp [PyData.depth, PyData.depthAll]
theorem dT_dp {K : PySem.W.Frag} {H : Hp} {t : Addr} {o : Int} {r : Str} (h : H t = some (.tup [.int o, .str r, .bl true])) : Dp K H (.ref t) (dT o r) :=
  .tup (seqT h) (.cons (.int _) (.cons (.str _) (.cons (.bl _) .nil)))
theorem reason_cut : ∀ r : Nat, r ≤ 2 → (cutS (reason r) none (some 1) = if r = 2 then S [116] else S [97])
  | 0, _ => by decide +kernel
  | 1, _ => by decide +kernel
  | 2, _ => by decide +kernel
  | r + 3, h => by omega
section
variable {P : Program} {w : World} {K : PySem.W.Frag} {mg : Str → Option Value} {base : Heap} {C fM fP IT : Addr}
theorem ok_Column {f CC : Addr} {fd : FuncData} (F : Fun K "__init__" "Column.__init__" s_Column___init__ f fd) (cl : Cls K CC) (n1 : NoAttr K CC "name") (n2 : NoAttr K CC "kind") (n3 : NoAttr K CC "nullable") : FnOk P w K mg base CX0 1 f fd ["self", "name", "kind", "nullable"] (spCol CC) := by
  refine F.ok sc_Column___init__ (fun vs H Q E h => ?_) (fun cdv A outer s H vs Q E hr h => ?_)
  · obtain ⟨_, _, _, _, _, rfl, _⟩ := h
    rfl
  · obtain ⟨p, dx, x, y, z, rfl, hp, k⟩ := h
    refine ⟨_, (pss_cons (ps_fld (pv 0) (pv 1) rfl)
  (pss_cons (ps_fld (pv 0) (pv 2) rfl)
  (pss_one (ps_fld (pv 0) (pv 3) rfl)))), ?_⟩
    refine ⟨_, rfl, _, rfl, p, CC, dx, _, rfl, hp, cl, n1, by decide, ?_⟩
    refine ⟨_, rfl, _, rfl, p, CC, dx, _, rfl, upd_same, cl, n2, by show 1 < 1000; decide, ?_⟩
    refine ⟨_, rfl, _, rfl, p, CC, dx, _, rfl, upd_same, cl, n3, Nat.lt_of_le_of_lt (putF_len _ _ _) (show 1 + 1 < 1000 by decide), ?_⟩
    refine k _ (fun b u e ne => ?_)
    rw [upd_ne ne, upd_ne ne, upd_ne ne]
    exact e
theorem ok_law {f CC fCI : Addr} {fd fdC : FuncData} (F : Fun K "law" "law" s_law f fd) (T : Txt K mg C fM fP) (n_max : mg "max" = none) (gC : mg "Column" = some (.ref CC)) (MC : Mk K CC fCI) (GC : FnOk P w K mg base CX0 1 fCI fdC ["self", "name", "kind", "nullable"] (spCol CC)) (bC : Binds K fdC ["self", "name", "kind", "nullable"] [])
    (C__law_cell : Cal P w K mg base CX0 1 "_law_cell" (spCell K)) (C__law_state : Cal P w K mg base CX0 1 "_law_state" spState) (C__law_digit : Cal P w K mg base CX0 1 "_law_digit" spDigit)
    (C__law_good : Cal P w K mg base CX0 3 "_law_good" spGood) (C__law_wrong : Cal P w K mg base CX0 3 "_law_wrong" spWrong) (C__law_told : Cal P w K mg base CX0 6 "_law_told" spTold) : FnOk P w K mg base CX0 7 f fd ["_law_script"] (spLaw K) := by
  refine F.ok sc_law (fun vs H Q E h => ?_) (fun cdv A outer s H vs Q E hr h => ?_)
  · obtain ⟨_, _, rfl, _⟩ := h
    rfl
  · obtain ⟨a, ns, rfl, hS, hns, kk⟩ := h
    refine ⟨_, (pss_cons (ps_for PassesOwn.never rfl (pi_range1 rfl T.n_range (pa_cons (pe_callB (call_min2 rfl) (by rfl) T.n_min (by decide +kernel) (pa_cons pe_int (pa_cons (pe_callB (call_max2 rfl) (by rfl) n_max (by decide +kernel) (pa_cons pe_int (pa_cons (pe_callB call_len_seq (by rfl) T.n_len PySem.boot_len (pa_cons (pv 0) pa_nil)) pa_nil))) pa_nil))) pa_nil)) (pg_name (i := 1) sc_law.nd rfl (Or.inl rfl)) (pss_cons (ps_set (i := 2) sc_law.nd rfl (Or.inl rfl) (pe_k C__law_state hr (by decide) (by rfl) pass0 (pa_cons (pe_k C__law_cell hr (by decide) (by rfl) pass0 (pa_cons (pv 0) (pa_cons (pv 1) pa_nil))) (pa_cons (pv 1) pa_nil))))
  (pss_cons (ps_set (i := 3) sc_law.nd rfl (Or.inl rfl) (pe_ix ix_tup (pe_tup (pa_cons pe_str (pa_cons pe_str (pa_cons pe_str pa_nil)))) (pe_k C__law_digit hr (by decide) (by rfl) pass0 (pa_cons (pv 2) (pa_cons pe_int pa_nil))) (fun _ _ => rfl)))
  (pss_cons (ps_set (i := 4) sc_law.nd rfl (Or.inl rfl) (pe_k C__law_good hr (by decide) (by rfl) pass0 (pa_cons (pv 2) (pa_cons (pv 3) pa_nil))))
  (pss_cons (ps_asg (pe_k C__law_wrong hr (by decide) (by rfl) pass0 (pa_cons (pv 2) (pa_cons (pe_callB call_len_str (by rfl) T.n_len PySem.boot_len (pa_cons (pv 4) pa_nil)) (pa_cons (pv 3) pa_nil)))) (pg_tup (by rfl) (pgs_cons (pg_name (i := 5) sc_law.nd rfl (Or.inl rfl)) (pgs_cons (pg_name (i := 6) sc_law.nd rfl (Or.inl rfl)) (pgs_cons (pg_name (i := 7) sc_law.nd rfl (Or.inl rfl)) pgs_nil)))))
  (pss_cons (ps_set (i := 8) sc_law.nd rfl (Or.inl rfl) (pe_op op_add_str (pv 4) (pv 5)))
  (C8.pss_cut (ps_if (PW.pt (pw_and (pt_cmpR op_ne (pe_slice sl_str (pv 7) po_none (po_some pe_int)) pe_str (nomark _)) (pw_and1 (pt_cmpR op_eq (pe_k C__law_digit hr (by decide) (by rfl) pass0 (pa_cons (pv 2) (pa_cons pe_int pa_nil))) pe_int (nomark _))))) (pss_one (ps_set (i := 8) sc_law.nd rfl (Or.inl rfl) (pe_op op_add_str (pe_op op_add_str (pe_op op_add_str (pe_op op_add_str (pv 8) (pv 3)) pe_str) pe_str) pe_str))) pss_nil)
  (pss_cons (ps_set (i := 9) sc_law.nd rfl (Or.inl rfl) (pe_tup (pa_cons (pv 6) (pa_cons (pv 7) (pa_cons pe_bl pa_nil)))))
  (pss_cons (ps_if (PW.pt (pw_or (pt_cmpR (op_neD hr.units) (pe_k C__law_told hr (by decide) (by rfl) pass0 (pa_cons (pv 8) (pa_cons (pv 3) (pa_cons pe_non pa_nil)))) (pv 9) (nomark _)) (pw_or1 (pt_cmpR (op_neD hr.units) (pe_k C__law_told hr (by decide) (by rfl) pass0 (pa_cons (pv 8) (pa_cons (pv 3) (pa_cons (pe_lst (pa_cons (pe_make MC GC (hr.mono (by decide)) (by rfl) gC bC .nil pass0 (pa_cons pe_str (pa_cons pe_str (pa_cons pe_bl pa_nil)))) pa_nil)) pa_nil)))) (pv 9) (nomark _))))) (pss_one (ps_ret pe_bl)) pss_nil)
  (pss_one (ps_if (pt_cmpR op_notN (pe_k C__law_told hr (by decide) (by rfl) pass0 (pa_cons (pv 4) (pa_cons (pv 3) (pa_cons pe_non pa_nil)))) pe_non (nomark _)) (pss_one (ps_ret pe_bl)) pss_nil)))))))))))
  (pss_one (ps_ret pe_bl))), ?_⟩
    refine ⟨_, rfl, a, _, rfl, .inl hS, _, _, rfl, _, _, rfl, ?_⟩
    rw [List.length_map]
    obtain ⟨many, hmany, emany⟩ : ∃ many : Nat, many ≤ 6 ∧ (if (if ((ns.length : Nat) : Int) > 2 then ((ns.length : Nat) : Int) else 2) < 6 then (if ((ns.length : Nat) : Int) > 2 then ((ns.length : Nat) : Int) else 2) else 6) = (many : Int) := by
      by_cases h : ((ns.length : Nat) : Int) > 2
      · rw [if_pos h]
        by_cases h2 : ((ns.length : Nat) : Int) < 6
        · exact ⟨ns.length, by omega, if_pos h2⟩
        · exact ⟨6, by omega, if_neg h2⟩
      · rw [if_neg h]
        exact ⟨2, by omega, rfl⟩
    rw [emany]
    refine ⟨_, rfl, by omega, by omega, for_range (lo := 0) (n := many) (fun i σ H' => ∃ x1 x2 x3 x4 x5 x6 x7 x8 x9 : Option V, σ = [some (.ref a), x1, x2, x3, x4, x5, x6, x7, x8, x9] ∧ Same H H')
      ⟨_, _, _, _, _, _, _, _, _, rfl, Same.refl H⟩ ?_ ?_⟩
    · rintro i σ H1 hi ⟨x1, x2, x3, x4, x5, x6, x7, x8, x9, rfl, s1⟩
      have e0 : (0 : Int) + (i : Int) = (i : Int) := Int.zero_add _
      show tSeq _ _ _ [some (.ref a), some (.int ((0 : Int) + (i : Int))), x2, x3, x4, x5, x6, x7, x8, x9] H1
      rw [e0]
      refine ⟨_, rfl, _, rfl, a, ns, i, rfl, s1.seq hS, fun z1 => ⟨_, rfl, z1, _, rfl, fun st y1 hst => ?_⟩⟩
      have hst0 : H st = none := s1.free hst
      have D2 : Dr (upd H1 st (.lst [.int y1])) st := ⟨_, upd_same⟩
      have s2 : Same H (upd H1 st (.lst [.int y1])) := fun b o e => same_new hst b o (s1 b o e)
      -- the separator
      refine ⟨lt_sz (show 3 ≤ 200000 by decide), fun t0 ht0 => ?_⟩
      have s3 := same_new (o := .tup [.str (Str.ofString ","), .str (Str.ofString ";"), .str (Str.ofString " ")]) ht0
      refine ⟨_, rfl, st, 2, rfl, D2.ext s3, by decide, by decide, fun d H4 d0 d1 k4 => ?_⟩
      have np : t0 ≠ st := (ne_of_none (show (upd H1 st (.lst [.int y1])) st = some _ from upd_same) ht0).symm
      have hT1 : H4 t0 = some (.tup [.str (Str.ofString ","), .str (Str.ofString ";"), .str (Str.ofString " ")]) := k4.1 _ _ np upd_same
      obtain ⟨sep, hsep, hatI⟩ : ∃ sep : Nat, SepOk sep ∧ atI [V.str (Str.ofString ","), V.str (Str.ofString ";"), V.str (Str.ofString " ")] d = some (V.str (S [sep])) := by
        have e1 : (Str.ofString ",") = S [44] := by decide +kernel
        have e2 : (Str.ofString ";") = S [59] := by decide +kernel
        rw [e1, e2]
        have : d = 0 ∨ d = 1 := by omega
        rcases this with rfl | rfl
        · exact ⟨44, .inl rfl, rfl⟩
        · exact ⟨59, .inr rfl, rfl⟩
      refine ⟨t0, _, _, _, rfl, rfl, seqT hT1, hatI, ?_⟩
      have s4 : Same H H4 := kp_same (fun b o e => s3 b o (s2 b o e)) hst0 k4
      have hs34 : sep ≠ 34 := by unfold SepOk at hsep; omega
      have hs10 : sep ≠ 10 := by unfold SepOk at hsep; omega
      -- the good start
      refine ⟨_, rfl, _, rfl, st, sep, rfl, k4.dr, hsep, fun g H5 hg hgl k5 => ?_⟩
      have s5 : Same H H5 := kp_same s4 hst0 k5
      -- the wrong rest
      refine ⟨_, rfl, _, rfl, _, rfl, by rw [S_len]; exact lt_sz (by omega), _, rfl, st, g.length, sep, by rw [S_len]; rfl, k5.dr, hsep, fun wt o r H6 q hF hwl k6 hq => ?_⟩
      have s6 : Same H H6 := kp_same s5 hst0 k6
      refine ⟨q, _, rfl, seqT hq, rfl, _, _, rfl, _, _, rfl, _, _, rfl, rfl, ?_⟩
      refine ⟨_, rfl, _, rfl, _, _, rfl, rfl, by rw [S_len, S_len]; exact lt_sz (by omega), ?_⟩
      rw [S_cat]
      -- more behind it
      obtain ⟨wn, hr2, hF2⟩ := id hF
      refine ⟨fun σ' H' => ∃ more : List Nat, (r = 2 → more = []) ∧ more.length ≤ 10 ∧ Kp st H6 H' ∧ σ' = [some (.ref a), some (.int (i : Int)), some (.ref st), some (.str (S [sep])), some (.str (S g)), some (.str (S wt)), some (.int ((g.length : Int) + (o : Int))), some (.str (reason r)), some (.str (S (g ++ wt ++ more))), x9], ?_, ?_⟩
      · refine ⟨_, rfl, _, rfl, _, rfl, Nat.le_trans (reason_len r) (show (10000 : Nat) ≤ sizeLine by decide), ?_⟩
        rw [reason_cut r hr2]
        by_cases hr : r = 2
        · rw [if_pos hr]
          refine ⟨rfl, _, rfl, ?_⟩
          have e : (Str.ofString "t") = S [116] := by decide +kernel
          rw [e]
          refine iteF (iteF ?_)
          exact ⟨[], fun _ => rfl, by simp, .refl k6.dr, by rw [List.append_nil]; rfl⟩
        · rw [if_neg hr]
          refine ⟨rfl, _, rfl, ?_⟩
          have e : (!decide (V.str (S [97]) = V.str (Str.ofString "t"))) = true := by decide +kernel
          rw [e]
          refine iteT ?_
          refine ⟨_, rfl, st, 2, rfl, k6.dr, by decide, by decide, fun d7 H7 d70 d71 k7 => ?_⟩
          refine ⟨rfl, _, rfl, ?_⟩
          refine ite2 (fun _ => ?_) (fun _ => ?_)
          · have ez : (Str.ofString "z\"z") = S [122, 34, 122] := by decide +kernel
            refine ⟨_, rfl, _, rfl, _, _, rfl, rfl, ?_, _, _, rfl, rfl, ?_, _, _, rfl, rfl, ?_, _, _, rfl, rfl, ?_, ?_⟩
            · rw [S_len, S_len]; exact lt_sz (by simp; omega)
            · rw [S_cat, ez, S_len, S_len]; exact lt_sz (by simp; omega)
            · rw [S_cat, ez, S_cat, c_nl, S_len, S_len]; exact lt_sz (by simp; omega)
            · rw [S_cat, ez, S_cat, c_nl, S_cat, c_quote, S_len, S_len]; exact lt_sz (by simp; omega)
            rw [S_cat, ez, S_cat, c_nl, S_cat, c_quote, S_cat]
            exact ⟨[sep, 122, 34, 122, 10, 34], fun h => absurd h hr, by simp, k7, by simp⟩
          · exact ⟨[], fun _ => rfl, by simp, k7, by rw [List.append_nil]; rfl⟩
      rintro _ H7 ⟨more, hmore, hml, k7, rfl⟩
      have s7 : Same H H7 := kp_same s6 hst0 k7
      have hsplit := Sep.split_faulty sep hs34 hs10 hg hF hmore
      have htl : (g ++ wt ++ more).length ≤ 100000 := by rw [List.length_append, List.length_append]; omega
      -- what is due
      refine ⟨_, rfl, _, rfl, lt_sz (show 3 ≤ 200000 by decide), fun qd hqd => ?_⟩
      have s8 : Same H7 _ := same_new (o := .tup [.int ((g.length : Int) + (o : Int)), .str (reason r), .bl true]) hqd
      -- the rest: three tellings
      have hno : ∀ ans, ¬ Sep.split sep (g ++ wt ++ more) = .ok ans := fun ans h => by rw [hsplit] at h; cases h
      refine ⟨_, rfl, _, rfl, g ++ wt ++ more, sep, .non, rfl, htl, .inl rfl, fun ans h => absurd h (hno ans), fun o' r' h H9 q1 s9 hq1 => ?_⟩
      rw [hsplit] at h
      cases h
      have s89 : Same H7 H9 := fun b u e => s9 b u (s8 b u e)
      have hqd9 : H9 qd = some (.tup [.int ((g.length : Int) + (o : Int)), .str (reason r), .bl true]) := s9 _ _ upd_same
      have ecast : (((g.length + o : Nat)) : Int) = (g.length : Int) + (o : Int) := by omega
      rw [ecast] at hq1
      refine ⟨_, rfl, dT ((g.length : Int) + (o : Int)) (reason r), dT ((g.length : Int) + (o : Int)) (reason r), dT_dp hq1, dT_dp hqd9, dT_shaped _ _, dT_shaped _ _, _, rfl, ?_⟩
      rw [dT_eqv]
      refine iteF ?_
      -- with a column
      refine ⟨_, rfl, _, rfl, fun x dx nx ndx ne => ?_⟩
      refine ⟨x, dx, _, _, _, rfl, upd_same, fun H10 hS10 => ?_⟩
      have s10 : Same H9 H10 := made_same nx ndx hS10
      refine ⟨rfl, lt_sz (show 1 ≤ 200000 by decide), fun L hL => ?_⟩
      have s11 : Same H10 _ := same_new (o := .lst [.ref x]) hL
      refine ⟨g ++ wt ++ more, sep, .ref L, rfl, htl, .inr ⟨⟨L, rfl⟩, ⟨_, hsplit⟩⟩, fun ans h => absurd h (hno ans), fun o' r' h H12 q2 s12 hq2 => ?_⟩
      rw [hsplit] at h
      cases h
      rw [ecast] at hq2
      have s912 : Same H9 H12 := fun b u e => s12 b u (s11 b u (s10 b u e))
      refine ⟨_, rfl, dT ((g.length : Int) + (o : Int)) (reason r), dT ((g.length : Int) + (o : Int)) (reason r), dT_dp hq2, dT_dp (s912 _ _ hqd9), dT_shaped _ _, dT_shaped _ _, _, rfl, ?_⟩
      rw [dT_eqv]
      refine iteF ?_
      -- the good start alone
      obtain ⟨ans, hans⟩ := Sep.split_good sep hs34 hs10 hg
      refine ⟨_, rfl, _, rfl, g, sep, .non, rfl, by omega, .inl rfl, fun ans' h H13 s13 => ?_, fun o' r' h => ?_⟩
      · refine ⟨rfl, _, rfl, ?_⟩
        refine iteF ?_
        exact ⟨_, _, _, _, _, _, _, _, _, rfl, fun b u e => s13 b u (s912 b u (s89 b u (s7 b u e)))⟩
      · rw [hans] at h
        cases h
    · rintro σ H1 ⟨x1, x2, x3, x4, x5, x6, x7, x8, x9, rfl, s1⟩
      exact kk _
end
end Sb
set_option Elab.async false
set_option maxRecDepth 100000
set_option maxHeartbeats 4000000
namespace Sb
open PySem PySem.Spec PyProof.Rows L2 SX
theorem kit_self (K : PySem.W.Frag) (C : Addr) : PySem.W.kitOne K (.ref C) (.ref C) = some true := by
  unfold PySem.W.kitOne
  simp
theorem kit_cls_of {K : PySem.W.Frag} {t : Value} {C : Addr} {b : Bool} (h2 : PySem.W.isClsIn K C = true) (h3 : PySem.W.typeIn K (.ref C) = some (.type "type")) (h4 : PySem.W.subIn K t (.ref C) = some b) : PySem.W.kitCls K t (.ref C) = some b := by
  have e2 : ((PySem.W.clsIn K C).isSome && PySem.W.typeIn K (.ref C) == some (.type "type")) = true := by
    have h2' : (PySem.W.clsIn K C).isSome = true := h2
    rw [h2', h3] <;> rfl
  show (if ((PySem.W.clsIn K C).isSome && PySem.W.typeIn K (.ref C) == some (.type "type")) = true then PySem.W.subIn K t (.ref C) else none) = some b
  rw [if_pos e2]
  exact h4
theorem kit_yes {K : PySem.W.Frag} {t : Value} {C : Addr} (h2 : PySem.W.isClsIn K C = true) (h3 : PySem.W.typeIn K (.ref C) = some (.type "type")) (h4 : PySem.W.subIn K t (.ref C) = some true) : PySem.W.kitOne K t (.ref C) = some true := by
  unfold PySem.W.kitOne
  split
  · rfl
  · exact kit_cls_of h2 h3 h4
theorem kit_no {K : PySem.W.Frag} {D C : Addr} (h2 : PySem.W.isClsIn K C = true) (h3 : PySem.W.typeIn K (.ref C) = some (.type "type")) (h4 : PySem.W.subIn K (.ref D) (.ref C) = some false) (h5 : PySem.W.subIn K (.ref D) (.ref D) = some true) : PySem.W.kitOne K (.ref D) (.ref C) = some false := by
  unfold PySem.W.kitOne
  split
  · rename_i q
    have e := beq_iff_eq.mp q
    rw [← e, h5] at h4
    cases h4
  · exact kit_cls_of h2 h3 h4
/-- super() of a class right under one that hands its base's __init__ on -/
theorem sup_up {K : PySem.W.Frag} {IT SE : Addr} {nm q nm' q' : Str} {N N' : Addr} {bs bs' : List Value} {bm : List Value} {sn sn' : List Str} {sub sub' : List Value} {ab ab' : Bool} {hd hd' : Bool} {col col' : Option Bool} {dd dd' : Option Addr} {m0 m1 m2 m3 m5 n0 n1 n2 n3 n5 : Option Value} {v : Value}
    (hI : K.lookup IT = some (excClassObj nm q IT N bs (.ref SE :: bm) hd sn sub ab col dd m0 m1 m2 m3 m5 "ValueError.__new__")) (hS : K.lookup SE = some (excClassObj nm' q' SE N' bs' bm hd' sn' sub' ab' col' dd' n0 n1 n2 n3 n5 "ValueError.__new__"))
    (h : PySem.W.findIn K (.ref SE) "__init__" = some (some v)) : PySem.W.ks_superIn K IT IT "__init__" = some (some v) := by
  have e1 : ∃ cd, PySem.W.clsIn K IT = some cd ∧ cd.mro = .ref IT :: .ref SE :: bm := ⟨_, by unfold PySem.W.clsIn; rw [hI] <;> rfl, rfl⟩
  obtain ⟨cd, e1, e2⟩ := e1
  have e3 : PySem.W.findIn K (.ref SE) "__init__" = PySem.W.alongIn K "__init__" (.ref SE :: bm) := by
    show (match K.lookup SE with
      | some ⟨_, _, .cls cd, _⟩ => PySem.W.alongIn K "__init__" cd.mro
      | _ => none) = _
    rw [hS] <;> rfl
  unfold PySem.W.ks_superIn
  rw [e1, Option.bind_some, e2]
  have e4 : ((Value.ref IT :: .ref SE :: bm).dropWhile (· != .ref IT)).drop 1 = .ref SE :: bm := by simp [List.dropWhile_cons]
  rw [e4, ← e3, h]
theorem all_mk {l : PySem.W.OpenLaw} {w : World} {K : PySem.W.Frag} {h : Heap} {mg : Str → Option Value} {fa f__law_cell f__law_state f__law_digit f__law_field_text f__law_written f__law_must_mark f__law_good f__law_wrong f__law_told f_read_marked f_read_plain f_split_records f_law C f_Field_init CC f_Column_init : Addr} (X : K.In h) (G : h.Ns mainGlobals mg) (hfa : mg "law" = some (.ref fa))
    {od__law_cell an__law_cell : Option Addr} {sl__law_cell : Array (Option Value)} {oc__law_cell kV__law_cell dc__law_cell pm__law_cell cd__law_cell ct__law_cell : Value}
    {od__law_state an__law_state : Option Addr} {sl__law_state : Array (Option Value)} {oc__law_state kV__law_state dc__law_state pm__law_state cd__law_state ct__law_state : Value}
    {od__law_digit an__law_digit : Option Addr} {sl__law_digit : Array (Option Value)} {oc__law_digit kV__law_digit dc__law_digit pm__law_digit cd__law_digit ct__law_digit : Value}
    {od__law_field_text an__law_field_text : Option Addr} {sl__law_field_text : Array (Option Value)} {oc__law_field_text kV__law_field_text dc__law_field_text pm__law_field_text cd__law_field_text ct__law_field_text : Value}
    {od__law_written an__law_written : Option Addr} {sl__law_written : Array (Option Value)} {oc__law_written kV__law_written dc__law_written pm__law_written cd__law_written ct__law_written : Value}
    {od__law_must_mark an__law_must_mark : Option Addr} {sl__law_must_mark : Array (Option Value)} {oc__law_must_mark kV__law_must_mark dc__law_must_mark pm__law_must_mark cd__law_must_mark ct__law_must_mark : Value}
    {od__law_good an__law_good : Option Addr} {sl__law_good : Array (Option Value)} {oc__law_good kV__law_good dc__law_good pm__law_good cd__law_good ct__law_good : Value}
    {od__law_wrong an__law_wrong : Option Addr} {sl__law_wrong : Array (Option Value)} {oc__law_wrong kV__law_wrong dc__law_wrong pm__law_wrong cd__law_wrong ct__law_wrong : Value}
    {od__law_told an__law_told : Option Addr} {sl__law_told : Array (Option Value)} {oc__law_told kV__law_told dc__law_told pm__law_told cd__law_told ct__law_told : Value}
    {od_read_marked an_read_marked : Option Addr} {sl_read_marked : Array (Option Value)} {oc_read_marked kV_read_marked dc_read_marked pm_read_marked cd_read_marked ct_read_marked : Value}
    {od_read_plain an_read_plain : Option Addr} {sl_read_plain : Array (Option Value)} {oc_read_plain kV_read_plain dc_read_plain pm_read_plain cd_read_plain ct_read_plain : Value}
    {od_split_records an_split_records : Option Addr} {sl_split_records : Array (Option Value)} {oc_split_records kV_split_records dc_split_records pm_split_records cd_split_records ct_split_records : Value}
    {od_law an_law : Option Addr} {sl_law : Array (Option Value)} {oc_law kV_law dc_law pm_law cd_law ct_law : Value}
    {od_Field_init an_Field_init : Option Addr} {sl_Field_init : Array (Option Value)} {oc_Field_init kV_Field_init dc_Field_init pm_Field_init cd_Field_init ct_Field_init : Value}
    {od_Column_init an_Column_init : Option Addr} {sl_Column_init : Array (Option Value)} {oc_Column_init kV_Column_init dc_Column_init pm_Column_init cd_Column_init ct_Column_init : Value}
    {t_MARK : Tok}
    {t_END : Tok}
    {IT SE QE fI cc cda f_read_separated Dsep : Addr}
    {nm_IT q_IT : Str} {N_IT : Addr} {bs_IT : List Value} {sn_IT : List Str} {sub_IT : List Value} {ab_IT : Bool} {col_IT : Option Bool} {dd_IT : Option Addr} {m0_IT m1_IT m2_IT m3_IT m5_IT : Option Value}
    {nm_SE q_SE : Str} {N_SE : Addr} {bs_SE : List Value} {sn_SE : List Str} {sub_SE : List Value} {ab_SE : Bool} {col_SE : Option Bool} {dd_SE : Option Addr} {m0_SE m1_SE m2_SE m3_SE m5_SE : Option Value}
    {od_I an_I odc cdd : Option Addr} {sl_I slc ccs : Array (Option Value)} {oc_I kV_I dc_I pm_I ct_I clc ccl : Value} {vs : Array Value} {file : Str} {tf t_sep : Tok}
    {od_rs an_rs : Option Addr} {sl_rs : Array (Option Value)} {oc_rs dc_rs pm_rs cd_rs ct_rs : Value}
    (a__law_cell : PySem.W.nsIn K mainGlobals "_law_cell" = some (some (.ref f__law_cell)))
    (l__law_cell : K.lookup f__law_cell = some ⟨oc__law_cell, od__law_cell, .func (PySem.W.fnOf "_law_cell" "_law_cell" (defArgs s__law_cell) (defBody s__law_cell) (defScope s__law_cell) .none kV__law_cell dc__law_cell pm__law_cell an__law_cell cd__law_cell ct__law_cell), sl__law_cell⟩)
    (c__law_cell : PySem.W.codeIn K cd__law_cell "_law_cell" = true)
    (k__law_cell : PySem.W.keepIn K (.ref f__law_cell) = true)
    (a__law_state : PySem.W.nsIn K mainGlobals "_law_state" = some (some (.ref f__law_state)))
    (l__law_state : K.lookup f__law_state = some ⟨oc__law_state, od__law_state, .func (PySem.W.fnOf "_law_state" "_law_state" (defArgs s__law_state) (defBody s__law_state) (defScope s__law_state) .none kV__law_state dc__law_state pm__law_state an__law_state cd__law_state ct__law_state), sl__law_state⟩)
    (c__law_state : PySem.W.codeIn K cd__law_state "_law_state" = true)
    (k__law_state : PySem.W.keepIn K (.ref f__law_state) = true)
    (a__law_digit : PySem.W.nsIn K mainGlobals "_law_digit" = some (some (.ref f__law_digit)))
    (l__law_digit : K.lookup f__law_digit = some ⟨oc__law_digit, od__law_digit, .func (PySem.W.fnOf "_law_digit" "_law_digit" (defArgs s__law_digit) (defBody s__law_digit) (defScope s__law_digit) .none kV__law_digit dc__law_digit pm__law_digit an__law_digit cd__law_digit ct__law_digit), sl__law_digit⟩)
    (c__law_digit : PySem.W.codeIn K cd__law_digit "_law_digit" = true)
    (k__law_digit : PySem.W.keepIn K (.ref f__law_digit) = true)
    (a__law_field_text : PySem.W.nsIn K mainGlobals "_law_field_text" = some (some (.ref f__law_field_text)))
    (l__law_field_text : K.lookup f__law_field_text = some ⟨oc__law_field_text, od__law_field_text, .func (PySem.W.fnOf "_law_field_text" "_law_field_text" (defArgs s__law_field_text) (defBody s__law_field_text) (defScope s__law_field_text) .none kV__law_field_text dc__law_field_text pm__law_field_text an__law_field_text cd__law_field_text ct__law_field_text), sl__law_field_text⟩)
    (c__law_field_text : PySem.W.codeIn K cd__law_field_text "_law_field_text" = true)
    (k__law_field_text : PySem.W.keepIn K (.ref f__law_field_text) = true)
    (a__law_written : PySem.W.nsIn K mainGlobals "_law_written" = some (some (.ref f__law_written)))
    (l__law_written : K.lookup f__law_written = some ⟨oc__law_written, od__law_written, .func (PySem.W.fnOf "_law_written" "_law_written" (defArgs s__law_written) (defBody s__law_written) (defScope s__law_written) .none kV__law_written dc__law_written pm__law_written an__law_written cd__law_written ct__law_written), sl__law_written⟩)
    (c__law_written : PySem.W.codeIn K cd__law_written "_law_written" = true)
    (k__law_written : PySem.W.keepIn K (.ref f__law_written) = true)
    (a__law_must_mark : PySem.W.nsIn K mainGlobals "_law_must_mark" = some (some (.ref f__law_must_mark)))
    (l__law_must_mark : K.lookup f__law_must_mark = some ⟨oc__law_must_mark, od__law_must_mark, .func (PySem.W.fnOf "_law_must_mark" "_law_must_mark" (defArgs s__law_must_mark) (defBody s__law_must_mark) (defScope s__law_must_mark) .none kV__law_must_mark dc__law_must_mark pm__law_must_mark an__law_must_mark cd__law_must_mark ct__law_must_mark), sl__law_must_mark⟩)
    (c__law_must_mark : PySem.W.codeIn K cd__law_must_mark "_law_must_mark" = true)
    (k__law_must_mark : PySem.W.keepIn K (.ref f__law_must_mark) = true)
    (a__law_good : PySem.W.nsIn K mainGlobals "_law_good" = some (some (.ref f__law_good)))
    (l__law_good : K.lookup f__law_good = some ⟨oc__law_good, od__law_good, .func (PySem.W.fnOf "_law_good" "_law_good" (defArgs s__law_good) (defBody s__law_good) (defScope s__law_good) .none kV__law_good dc__law_good pm__law_good an__law_good cd__law_good ct__law_good), sl__law_good⟩)
    (c__law_good : PySem.W.codeIn K cd__law_good "_law_good" = true)
    (k__law_good : PySem.W.keepIn K (.ref f__law_good) = true)
    (a__law_wrong : PySem.W.nsIn K mainGlobals "_law_wrong" = some (some (.ref f__law_wrong)))
    (l__law_wrong : K.lookup f__law_wrong = some ⟨oc__law_wrong, od__law_wrong, .func (PySem.W.fnOf "_law_wrong" "_law_wrong" (defArgs s__law_wrong) (defBody s__law_wrong) (defScope s__law_wrong) .none kV__law_wrong dc__law_wrong pm__law_wrong an__law_wrong cd__law_wrong ct__law_wrong), sl__law_wrong⟩)
    (c__law_wrong : PySem.W.codeIn K cd__law_wrong "_law_wrong" = true)
    (k__law_wrong : PySem.W.keepIn K (.ref f__law_wrong) = true)
    (a__law_told : PySem.W.nsIn K mainGlobals "_law_told" = some (some (.ref f__law_told)))
    (l__law_told : K.lookup f__law_told = some ⟨oc__law_told, od__law_told, .func (PySem.W.fnOf "_law_told" "_law_told" (defArgs s__law_told) (defBody s__law_told) (defScope s__law_told) .none kV__law_told dc__law_told pm__law_told an__law_told cd__law_told ct__law_told), sl__law_told⟩)
    (c__law_told : PySem.W.codeIn K cd__law_told "_law_told" = true)
    (k__law_told : PySem.W.keepIn K (.ref f__law_told) = true)
    (a_read_marked : PySem.W.nsIn K mainGlobals "read_marked" = some (some (.ref f_read_marked)))
    (l_read_marked : K.lookup f_read_marked = some ⟨oc_read_marked, od_read_marked, .func (PySem.W.fnOf "read_marked" "read_marked" (defArgs s_read_marked) (defBody s_read_marked) (defScope s_read_marked) .none kV_read_marked dc_read_marked pm_read_marked an_read_marked cd_read_marked ct_read_marked), sl_read_marked⟩)
    (c_read_marked : PySem.W.codeIn K cd_read_marked "read_marked" = true)
    (k_read_marked : PySem.W.keepIn K (.ref f_read_marked) = true)
    (a_read_plain : PySem.W.nsIn K mainGlobals "read_plain" = some (some (.ref f_read_plain)))
    (l_read_plain : K.lookup f_read_plain = some ⟨oc_read_plain, od_read_plain, .func (PySem.W.fnOf "read_plain" "read_plain" (defArgs s_read_plain) (defBody s_read_plain) (defScope s_read_plain) .none kV_read_plain dc_read_plain pm_read_plain an_read_plain cd_read_plain ct_read_plain), sl_read_plain⟩)
    (c_read_plain : PySem.W.codeIn K cd_read_plain "read_plain" = true)
    (k_read_plain : PySem.W.keepIn K (.ref f_read_plain) = true)
    (a_split_records : PySem.W.nsIn K mainGlobals "split_records" = some (some (.ref f_split_records)))
    (l_split_records : K.lookup f_split_records = some ⟨oc_split_records, od_split_records, .func (PySem.W.fnOf "split_records" "split_records" (defArgs s_split_records) (defBody s_split_records) (defScope s_split_records) .none kV_split_records dc_split_records pm_split_records an_split_records cd_split_records ct_split_records), sl_split_records⟩)
    (c_split_records : PySem.W.codeIn K cd_split_records "split_records" = true)
    (k_split_records : PySem.W.keepIn K (.ref f_split_records) = true)
    (a_law : PySem.W.nsIn K mainGlobals "law" = some (some (.ref f_law)))
    (l_law : K.lookup f_law = some ⟨oc_law, od_law, .func (PySem.W.fnOf "law" "law" (defArgs s_law) (defBody s_law) (defScope s_law) .none kV_law dc_law pm_law an_law cd_law ct_law), sl_law⟩)
    (c_law : PySem.W.codeIn K cd_law "law" = true)
    (k_law : PySem.W.keepIn K (.ref f_law) = true)
    (a_Field : PySem.W.nsIn K mainGlobals "Field" = some (some (.ref C)))
    (a_Field_init : PySem.W.findIn K (.ref C) "__init__" = some (some (.ref f_Field_init)))
    (i_Field_init : PySem.W.isFn K (.ref f_Field_init) = true)
    (l_Field_init : K.lookup f_Field_init = some ⟨oc_Field_init, od_Field_init, .func (PySem.W.fnOf "__init__" "Field.__init__" (defArgs s_Field___init__) (defBody s_Field___init__) (defScope s_Field___init__) .none kV_Field_init dc_Field_init pm_Field_init an_Field_init cd_Field_init ct_Field_init), sl_Field_init⟩)
    (c_Field_init : PySem.W.codeIn K cd_Field_init "Field.__init__" = true)
    (k_Field_init : PySem.W.keepIn K (.ref f_Field_init) = true)
    (pg_Field : PySem.W.plainGet K C Str.empty = true)
    (hd_Field : PySem.W.hasDictIn K C = true)
    (po_Field : PySem.W.plainOver K C = true)
    (sa_Field : PySem.W.findIn K (.ref C) "__setattr__" = some (some (.builtin "object.__setattr__")))
    (mk_Field : PySem.W.makesIn K C = true)
    (kc_Field : PySem.W.keepIn K (.ref C) = true)
    (n_Field_text : PySem.W.findIn K (.ref C) "text" = some none)
    (n_Field_offset : PySem.W.findIn K (.ref C) "offset" = some none)
    (n_Field_marked : PySem.W.findIn K (.ref C) "marked" = some none)
    (ha_Field : PySem.W.findIn K (.ref C) "__class__" = some (some (.builtin "object.__class__")))
    (hm_Field : PySem.W.mroIn K C (.type "object") = some true)
    (a_Column : PySem.W.nsIn K mainGlobals "Column" = some (some (.ref CC)))
    (a_Column_init : PySem.W.findIn K (.ref CC) "__init__" = some (some (.ref f_Column_init)))
    (i_Column_init : PySem.W.isFn K (.ref f_Column_init) = true)
    (l_Column_init : K.lookup f_Column_init = some ⟨oc_Column_init, od_Column_init, .func (PySem.W.fnOf "__init__" "Column.__init__" (defArgs s_Column___init__) (defBody s_Column___init__) (defScope s_Column___init__) .none kV_Column_init dc_Column_init pm_Column_init an_Column_init cd_Column_init ct_Column_init), sl_Column_init⟩)
    (c_Column_init : PySem.W.codeIn K cd_Column_init "Column.__init__" = true)
    (k_Column_init : PySem.W.keepIn K (.ref f_Column_init) = true)
    (pg_Column : PySem.W.plainGet K CC Str.empty = true)
    (hd_Column : PySem.W.hasDictIn K CC = true)
    (po_Column : PySem.W.plainOver K CC = true)
    (sa_Column : PySem.W.findIn K (.ref CC) "__setattr__" = some (some (.builtin "object.__setattr__")))
    (mk_Column : PySem.W.makesIn K CC = true)
    (kc_Column : PySem.W.keepIn K (.ref CC) = true)
    (n_Column_name : PySem.W.findIn K (.ref CC) "name" = some none)
    (n_Column_kind : PySem.W.findIn K (.ref CC) "kind" = some none)
    (n_Column_nullable : PySem.W.findIn K (.ref CC) "nullable" = some none)
    (hn : PySem.W.specialIn K (.builtin "object.__class__") "__get__" = some (some (.builtin "getset_descriptor.__get__")))
    (htk : PySem.W.takesIn K (.builtin "object.__class__") = some true)
    (v_MARK : PySem.W.nsIn K mainGlobals "MARK" = some (some (.str "\"" t_MARK)))
    (v_END : PySem.W.nsIn K mainGlobals "END" = some (some (.str "\n" t_END)))
    (z_len : PySem.W.nsIn K mainGlobals "len" = some none)
    (z_int : PySem.W.nsIn K mainGlobals "int" = some none)
    (z_range : PySem.W.nsIn K mainGlobals "range" = some none)
    (z_min : PySem.W.nsIn K mainGlobals "min" = some none)
    (z_isinstance : PySem.W.nsIn K mainGlobals "isinstance" = some none)
    (z_list : PySem.W.nsIn K mainGlobals "list" = some none)
    (z_bool : PySem.W.nsIn K mainGlobals "bool" = some none)
    (z_max : PySem.W.nsIn K mainGlobals "max" = some none)
    (z_super : PySem.W.nsIn K mainGlobals "super" = some none)
    (a_IT : PySem.W.nsIn K mainGlobals "InvalidText" = some (some (.ref IT)))
    (a_SE : PySem.W.nsIn K mainGlobals "StylobateError" = some (some (.ref SE)))
    (a_QE : PySem.W.nsIn K mainGlobals "QueryError" = some (some (.ref QE)))
    (x_IT : K.lookup IT = some (excClassObj nm_IT q_IT IT N_IT bs_IT [.ref SE, .type "ValueError", .type "Exception", .type "BaseException", .type "object"] true sn_IT sub_IT ab_IT col_IT dd_IT m0_IT m1_IT m2_IT m3_IT m5_IT "ValueError.__new__"))
    (x_SE : K.lookup SE = some (excClassObj nm_SE q_SE SE N_SE bs_SE [.type "ValueError", .type "Exception", .type "BaseException", .type "object"] true sn_SE sub_SE ab_SE col_SE dd_SE m0_SE m1_SE m2_SE m3_SE m5_SE "ValueError.__new__"))
    (xi_sa : PySem.W.findIn K (.ref IT) "__setattr__" = some (some (.builtin "object.__setattr__")))
    (xi_ga : PySem.W.findIn K (.ref IT) "__getattribute__" = some (some (.builtin "BaseException.__getattribute__")))
    (xi_gg : PySem.W.findIn K (.ref IT) "__getattr__" = some none)
    (xi_nO : PySem.W.findIn K (.ref IT) "offset" = some none)
    (xi_nR : PySem.W.findIn K (.ref IT) "reason" = some none)
    (xi_ha : PySem.W.findIn K (.ref IT) "__class__" = some (some (.builtin "object.__class__")))
    (xi_i : PySem.W.findIn K (.ref IT) "__init__" = some (some (.ref fI)))
    (xs_i : PySem.W.findIn K (.ref SE) "__init__" = some (some (.builtin "ValueError.__init__")))
    (xi_tI : PySem.W.typeIn K (.ref fI) = some (.type "function"))
    (xi_l : K.lookup fI = some ⟨oc_I, od_I, .func (PySem.W.ksFn "__init__" "InvalidText.__init__" (defArgs s_Inv_init) (defBody s_Inv_init) (defScope s_Inv_init) .none kV_I dc_I pm_I an_I (.ref cda) ct_I cc), sl_I⟩)
    (xi_c : PySem.W.codeIn K (.ref cda) "InvalidText.__init__" = true)
    (xi_k : PySem.W.keepIn K (.ref IT) = true)
    (xi_e : PySem.W.subIn K (.ref IT) (.type "BaseException") = some true)
    (xi_v : PySem.W.subIn K (.ref IT) (.type "ValueError") = some true)
    (xi_t : PySem.W.typeIn K (.ref IT) = some (.type "type"))
    (xi_h : PySem.W.hasDictIn K IT = true)
    (xi_s : PySem.W.subIn K (.ref IT) (.ref IT) = some true)
    (xi_s1 : PySem.W.subIn K (.ref IT) (.ref SE) = some true)
    (xi_s2 : PySem.W.subIn K (.ref IT) (.ref QE) = some false)
    (xi_o : PySem.W.mroIn K IT (.type "object") = some true)
    (xs_c : PySem.W.isClsIn K SE = true)
    (xs_t : PySem.W.typeIn K (.ref SE) = some (.type "type"))
    (xq_c : PySem.W.isClsIn K QE = true)
    (xq_t : PySem.W.typeIn K (.ref QE) = some (.type "type"))
    (xi_cell : K.lookup cc = some ⟨clc, odc, .cell (some (.ref IT)), slc⟩)
    (xi_code : K.lookup cda = some ⟨ccl, cdd, .fields vs, ccs⟩)
    (xi_vs : vs[2]? = some (Value.str file tf))
    (xi_file : ((l.prog.main.file : Str) == file) = true)
    (xi_any : PySem.W.nsIn K cStatics "thirdparty.any" = some none)
    (xi_top : (l.prog.main.scope.names.lookup ("super" : Str)).isSome = false)
    (a_rs : PySem.W.nsIn K mainGlobals "read_separated" = some (some (.ref f_read_separated)))
    (l_rs : K.lookup f_read_separated = some ⟨oc_rs, od_rs, .func (PySem.W.fnOf "read_separated" "read_separated" (defArgs s_read_separated) (defBody s_read_separated) (defScope s_read_separated) .none (.ref Dsep) dc_rs pm_rs an_rs cd_rs ct_rs), sl_rs⟩)
    (c_rs : PySem.W.codeIn K cd_rs "read_separated" = true)
    (k_rs : PySem.W.keepIn K (.ref f_read_separated) = true)
    (d_sep : PySem.W.nsIn K Dsep "separator" = some (some (.str "," t_sep)))
    (d_head : PySem.W.nsIn K Dsep "head" = some (some (.bool true))) :
    ∃ fd : FuncData, (∀ (s : Shared) (v : Value), BindsTo s fd ⟨[v], []⟩ [("_law_script", v)]) ∧ ∀ base : Heap, K.In base → base.Ns mainGlobals mg → FnOk l.prog w K mg base CX0 7 fa fd ["_law_script"] (spLaw K) := by
  have e := hfa.symm.trans (PySem.W.mg_of X G a_law)
  cases e
  have T : Txt K mg C f_read_marked f_read_plain := ⟨PySem.W.mg_none_of X G z_len, PySem.W.mg_none_of X G z_int, PySem.W.mg_none_of X G z_range, PySem.W.mg_none_of X G z_min, PySem.W.mg_none_of X G z_isinstance, PySem.W.mg_none_of X G z_list, PySem.W.mg_none_of X G z_bool,
    ⟨pg_Field, hd_Field, po_Field, sa_Field⟩, n_Field_text, n_Field_offset, n_Field_marked, PySem.W.mg_of X G a_Field, ⟨_, PySem.W.mg_of X G v_MARK, _, congrArg (fun z => Value.str z t_MARK) c_quote⟩, ⟨_, PySem.W.mg_of X G v_END, _, congrArg (fun z => Value.str z t_END) c_nl⟩,
    PySem.W.mg_of X G a_read_marked, PySem.W.mg_of X G a_read_plain, ⟨⟨pg_Field, hd_Field, po_Field, sa_Field⟩, ha_Field, hn, htk, hm_Field, kit_self _ _⟩⟩
  have F__law_cell := fun_mk (st := s__law_cell) l__law_cell c__law_cell k__law_cell
  have b__law_cell := F__law_cell.binds (ps := ["_law_script", "_law_k"]) fun _ _ _ _ _ _ us hl => match us, hl with | [_, _], _ => rfl
  have F__law_state := fun_mk (st := s__law_state) l__law_state c__law_state k__law_state
  have b__law_state := F__law_state.binds (ps := ["_law_cell_here", "_law_k"]) fun _ _ _ _ _ _ us hl => match us, hl with | [_, _], _ => rfl
  have F__law_digit := fun_mk (st := s__law_digit) l__law_digit c__law_digit k__law_digit
  have b__law_digit := F__law_digit.binds (ps := ["_law_state_here", "_law_many"]) fun _ _ _ _ _ _ us hl => match us, hl with | [_, _], _ => rfl
  have F__law_field_text := fun_mk (st := s__law_field_text) l__law_field_text c__law_field_text k__law_field_text
  have b__law_field_text := F__law_field_text.binds (ps := ["_law_state_here"]) fun _ _ _ _ _ _ us hl => match us, hl with | [_], _ => rfl
  have F__law_written := fun_mk (st := s__law_written) l__law_written c__law_written k__law_written
  have b__law_written := F__law_written.binds (ps := ["_law_text", "_law_separator", "_law_marked"]) fun _ _ _ _ _ _ us hl => match us, hl with | [_, _, _], _ => rfl
  have F__law_must_mark := fun_mk (st := s__law_must_mark) l__law_must_mark c__law_must_mark k__law_must_mark
  have b__law_must_mark := F__law_must_mark.binds (ps := ["_law_text", "_law_separator"]) fun _ _ _ _ _ _ us hl => match us, hl with | [_, _], _ => rfl
  have F__law_good := fun_mk (st := s__law_good) l__law_good c__law_good k__law_good
  have b__law_good := F__law_good.binds (ps := ["_law_state_here", "_law_separator"]) fun _ _ _ _ _ _ us hl => match us, hl with | [_, _], _ => rfl
  have F__law_wrong := fun_mk (st := s__law_wrong) l__law_wrong c__law_wrong k__law_wrong
  have b__law_wrong := F__law_wrong.binds (ps := ["_law_state_here", "_law_at", "_law_separator"]) fun _ _ _ _ _ _ us hl => match us, hl with | [_, _, _], _ => rfl
  have F__law_told := fun_mk (st := s__law_told) l__law_told c__law_told k__law_told
  have b__law_told := F__law_told.binds (ps := ["_law_text", "_law_separator", "_law_columns"]) fun _ _ _ _ _ _ us hl => match us, hl with | [_, _, _], _ => rfl
  have F_read_marked := fun_mk (st := s_read_marked) l_read_marked c_read_marked k_read_marked
  have b_read_marked := F_read_marked.binds (ps := ["text", "at", "separator"]) fun _ _ _ _ _ _ us hl => match us, hl with | [_, _, _], _ => rfl
  have F_read_plain := fun_mk (st := s_read_plain) l_read_plain c_read_plain k_read_plain
  have b_read_plain := F_read_plain.binds (ps := ["text", "at", "separator"]) fun _ _ _ _ _ _ us hl => match us, hl with | [_, _, _], _ => rfl
  have F_split_records := fun_mk (st := s_split_records) l_split_records c_split_records k_split_records
  have b_split_records := F_split_records.binds (ps := ["text", "separator"]) fun _ _ _ _ _ _ us hl => match us, hl with | [_, _], _ => rfl
  have F_Field := fun_mk (st := s_Field___init__) l_Field_init c_Field_init k_Field_init
  have b_Field := F_Field.binds (ps := ["self", "text", "offset", "marked"]) fun _ _ _ _ _ _ us hl => match us, hl with | [_, _, _, _], _ => rfl
  have F_Column := fun_mk (st := s_Column___init__) l_Column_init c_Column_init k_Column_init
  have b_Column := F_Column.binds (ps := ["self", "name", "kind", "nullable"]) fun _ _ _ _ _ _ us hl => match us, hl with | [_, _, _, _], _ => rfl
  have OX : OexC K IT := ⟨⟨_, _, _, _, _, _, _, _, _, _, _, _, _, _, _, x_IT, by rfl⟩, xi_sa, xi_e, xi_t, xi_k⟩
  have XU : XcT l.prog K mg IT cc cda fI := ⟨⟨OX, ⟨_, _, _, xi_cell⟩, ⟨_, _, _, _, _, _, xi_code, xi_vs, xi_file⟩, sup_up x_IT x_SE xs_i, xi_v, xi_s, xi_any, PySem.W.mg_none_of X G z_super, xi_top⟩, xi_nO, xi_nR⟩
  have b_I : Binds K (PySem.W.ksFn "__init__" "InvalidText.__init__" (defArgs s_Inv_init) (defBody s_Inv_init) (defScope s_Inv_init) .none kV_I dc_I pm_I an_I (.ref cda) ct_I cc) ["self", "offset", "reason"] [] := .all fun us hl => match us, hl with | [_, _, _], _ => rfl
  have ER : Err K mg IT SE QE := ⟨PySem.W.mg_of X G a_IT, PySem.W.mg_of X G a_SE, PySem.W.mg_of X G a_QE, PySem.W.exm_ref xi_e xi_h xi_t xi_s, kit_yes xs_c xs_t xi_s1, kit_no xq_c xq_t xi_s2 xi_s, ⟨xi_ga, xi_gg, xi_e, xi_h, xi_ha, hn, htk, xi_o⟩, ⟨xi_ga, xi_gg, xi_e, xi_h⟩, xi_nO, xi_nR⟩
  have F_rs : FunD K "read_separated" "read_separated" (defArgs s_read_separated) (defBody s_read_separated) (defScope s_read_separated) [] [("separator", .str ","), ("head", .bl true)] f_read_separated _ := ⟨⟨_, _, _, _, _, _, _, _, _, _, rfl, l_rs, c_rs, .inl ⟨rfl, rfl⟩, .inr ⟨Dsep, rfl, fun p hp => by
    rcases List.mem_cons.mp hp with rfl | hp
    · exact ⟨_, d_sep, _, rfl⟩
    · have e : p = (("head" : Str), V.bl true) := by simpa using hp
      subst e
      exact ⟨_, d_head, rfl⟩⟩⟩, k_rs⟩
  obtain ⟨mv, b_rs⟩ := kbinds0 F_rs (ps := ["text", "columns", "separator", "head"]) 2 ["separator"] [("head", .bl true)] (fun us mv ws => us ++ (ws ++ mv)) (by simp) (by simp) (fun a b c => a.append (c.append b)) (fun D doc pm an cdv ct us mv ws l1 l2 l3 => match us, mv, ws, l1, l2, l3 with
    | [_, _], [_], [_], _, _, _ => ⟨_, _, _, _, _, _, rfl, rfl, rfl⟩)
  refine ⟨PySem.W.fnOf "law" "law" (defArgs s_law) (defBody s_law) (defScope s_law) .none kV_law dc_law pm_law an_law cd_law ct_law, fun s v => .of_eq rfl, fun base _ _ => ?_⟩
  have MI : MkI l.prog w K mg base IT := ⟨OX, PySem.W.mg_of X G a_IT, fI, _, xi_i, xi_tI, ok_Inv xi_l xi_c XU, b_I⟩
  have M : Mk K C f_Field_init := ⟨mk_Field, a_Field_init, i_Field_init, kc_Field⟩
  have MC : Mk K CC f_Column_init := ⟨mk_Column, a_Column_init, i_Column_init, kc_Column⟩
  have G_fi : FnOk l.prog w K mg base CX0 1 f_Field_init _ _ (spFld C) := ok_Field F_Field T
  have G_co : FnOk l.prog w K mg base CX0 1 f_Column_init _ _ (spCol CC) := ok_Column F_Column ⟨pg_Column, hd_Column, po_Column, sa_Column⟩ n_Column_name n_Column_kind n_Column_nullable
  have cM : CalX l.prog w K mg base (L2.CX l.prog w) 3 f_read_marked (spReadX C IT true) := ⟨_, _, ok_read_marked F_read_marked T M G_fi MI b_Field, k_read_marked, b_read_marked⟩
  have cP : CalX l.prog w K mg base (L2.CX l.prog w) 3 f_read_plain (spReadX C IT false) := ⟨_, _, ok_read_plain F_read_plain T M G_fi MI b_Field, k_read_plain, b_read_plain⟩
  have C_split : Cal l.prog w K mg base (L2.CX l.prog w) 4 "split_records" (spSplitX C IT) := ⟨_, _, _, ok_split_records F_split_records T cM cP, PySem.W.mg_of X G a_split_records, k_split_records, b_split_records⟩
  have C_cell : Cal l.prog w K mg base CX0 1 "_law_cell" (spCell K) := ⟨_, _, _, ok__law_cell F__law_cell T, PySem.W.mg_of X G a__law_cell, k__law_cell, b__law_cell⟩
  have C_state : Cal l.prog w K mg base CX0 1 "_law_state" spState := ⟨_, _, _, ok__law_state F__law_state T, PySem.W.mg_of X G a__law_state, k__law_state, b__law_state⟩
  have C_digit : Cal l.prog w K mg base CX0 1 "_law_digit" spDigit := ⟨_, _, _, ok__law_digit F__law_digit T, PySem.W.mg_of X G a__law_digit, k__law_digit, b__law_digit⟩
  have C_ft : Cal l.prog w K mg base CX0 2 "_law_field_text" spField := ⟨_, _, _, ok__law_field_text F__law_field_text T C_digit, PySem.W.mg_of X G a__law_field_text, k__law_field_text, b__law_field_text⟩
  have C_wr : Cal l.prog w K mg base CX0 1 "_law_written" spWritten := ⟨_, _, _, ok__law_written F__law_written T, PySem.W.mg_of X G a__law_written, k__law_written, b__law_written⟩
  have C_mm : Cal l.prog w K mg base CX0 1 "_law_must_mark" spMust := ⟨_, _, _, ok__law_must_mark F__law_must_mark, PySem.W.mg_of X G a__law_must_mark, k__law_must_mark, b__law_must_mark⟩
  have C_good : Cal l.prog w K mg base CX0 3 "_law_good" spGood := ⟨_, _, _, ok__law_good F__law_good T C_digit C_ft C_wr C_mm, PySem.W.mg_of X G a__law_good, k__law_good, b__law_good⟩
  have C_wrong : Cal l.prog w K mg base CX0 3 "_law_wrong" spWrong := ⟨_, _, _, ok__law_wrong F__law_wrong T C_digit C_ft C_wr, PySem.W.mg_of X G a__law_wrong, k__law_wrong, b__law_wrong⟩
  have C_told : Cal l.prog w K mg base CX0 6 "_law_told" spTold := ⟨_, _, _, ok__law_told F__law_told T ER C_split (ok_read_separated F_rs C_split) (PySem.W.mg_of X G a_rs) k_rs b_rs, PySem.W.mg_of X G a__law_told, k__law_told, b__law_told⟩
  exact ok_law (fun_mk (st := s_law) l_law c_law k_law) T (PySem.W.mg_none_of X G z_max) (PySem.W.mg_of X G a_Column) MC G_co b_Column C_cell C_state C_digit C_good C_wrong C_told
theorem walk {l : PySem.W.OpenLaw} {q : Program} {loose : List Str} {XP : (Str → Option Value) → Heap → Prop} {YP : World → Heap → Prop} {d : DefRec} {K : Params → PySem.W.Frag} (hn : l.most = some 63) (hdf : d.params.defaults = [])
    (hY : ∀ (w : World) (h : Heap), YP w h → (K w.params).In h)
    (F : ∀ (w : World) (mg : Str → Option Value) (fa : Addr) (h : Heap), (K w.params).In h → h.Ns mainGlobals mg → mg d.name = some (.ref fa) →
      ∃ fd : FuncData, (∀ (s : Shared) (u : Value), BindsTo s fd ⟨[u], []⟩ [("_law_script", u)]) ∧ ∀ base : Heap, (K w.params).In base → base.Ns mainGlobals mg → FnOk l.prog w (K w.params) mg base CX0 7 fa fd ["_law_script"] (spLaw (K w.params))) :
    PySem.W.WalkO q loose XP YP l.row.toRowW d [] (fun f vs => PySem.call f vs) :=
  L2.walk_of (n := 63) (k := 7) (x := "_law_script") (CX := fun _ => CX0) (sp := fun w => spLaw (K w.params)) hn (by decide) hdf ⟨rfl, by decide, by decide⟩ hY F (fun _ _ a ns hl _ hS => ⟨a, ns, rfl, hS, hl, fun _ => rfl⟩) fun _ _ _ _ _ z => z
end Sb

open PySem PySem.W PyProof.Rows in
set_option maxRecDepth 100000 in
set_option maxHeartbeats 0 in
theorem PySem.Challenge.cw_stylobate_k81_faults_of_texts_holds : PySem.Challenge.rw_stylobate_k81_faults_of_texts.Holds := by
  w_on; o_law; k_head; (case hw => w_witness2)
  k_fill
  refine Sb.walk (l := PySem.Challenge.rw_stylobate_k81_faults_of_texts) rfl rfl (fun w h Y => PySem.W.kIn_of Y) ?F
  case F =>
    intro w mg fa h KX G hmg
    refine' Sb.all_mk KX G hmg ?a__law_cell ?l__law_cell ?c__law_cell ?k__law_cell ?a__law_state ?l__law_state ?c__law_state ?k__law_state ?a__law_digit ?l__law_digit ?c__law_digit ?k__law_digit ?a__law_field_text ?l__law_field_text ?c__law_field_text ?k__law_field_text ?a__law_written ?l__law_written ?c__law_written ?k__law_written ?a__law_must_mark ?l__law_must_mark ?c__law_must_mark ?k__law_must_mark ?a__law_good ?l__law_good ?c__law_good ?k__law_good ?a__law_wrong ?l__law_wrong ?c__law_wrong ?k__law_wrong ?a__law_told ?l__law_told ?c__law_told ?k__law_told ?a_read_marked ?l_read_marked ?c_read_marked ?k_read_marked ?a_read_plain ?l_read_plain ?c_read_plain ?k_read_plain ?a_split_records ?l_split_records ?c_split_records ?k_split_records ?a_law ?l_law ?c_law ?k_law ?a_Field ?a_Field_init ?i_Field_init ?l_Field_init ?c_Field_init ?k_Field_init ?pg_Field ?hd_Field ?po_Field ?sa_Field ?mk_Field ?kc_Field ?n_Field_text ?n_Field_offset ?n_Field_marked ?ha_Field ?hm_Field ?a_Column ?a_Column_init ?i_Column_init ?l_Column_init ?c_Column_init ?k_Column_init ?pg_Column ?hd_Column ?po_Column ?sa_Column ?mk_Column ?kc_Column ?n_Column_name ?n_Column_kind ?n_Column_nullable ?hn ?htk ?v_MARK ?v_END ?z_len ?z_int ?z_range ?z_min ?z_isinstance ?z_list ?z_bool ?z_max ?z_super ?a_IT ?a_SE ?a_QE ?x_IT ?x_SE ?xi_sa ?xi_ga ?xi_gg ?xi_nO ?xi_nR ?xi_ha ?xi_i ?xs_i ?xi_tI ?xi_l ?xi_c ?xi_k ?xi_e ?xi_v ?xi_t ?xi_h ?xi_s ?xi_s1 ?xi_s2 ?xi_o ?xs_c ?xs_t ?xq_c ?xq_t ?xi_cell ?xi_code ?xi_vs ?xi_file ?xi_any ?xi_top ?a_rs ?l_rs ?c_rs ?k_rs ?d_sep ?d_head
    (case a__law_cell => k_is)
    (case l__law_cell => k_is)
    (case c__law_cell => k_is)
    (case k__law_cell => k_is)
    (case a__law_state => k_is)
    (case l__law_state => k_is)
    (case c__law_state => k_is)
    (case k__law_state => k_is)
    (case a__law_digit => k_is)
    (case l__law_digit => k_is)
    (case c__law_digit => k_is)
    (case k__law_digit => k_is)
    (case a__law_field_text => k_is)
    (case l__law_field_text => k_is)
    (case c__law_field_text => k_is)
    (case k__law_field_text => k_is)
    (case a__law_written => k_is)
    (case l__law_written => k_is)
    (case c__law_written => k_is)
    (case k__law_written => k_is)
    (case a__law_must_mark => k_is)
    (case l__law_must_mark => k_is)
    (case c__law_must_mark => k_is)
    (case k__law_must_mark => k_is)
    (case a__law_good => k_is)
    (case l__law_good => k_is)
    (case c__law_good => k_is)
    (case k__law_good => k_is)
    (case a__law_wrong => k_is)
    (case l__law_wrong => k_is)
    (case c__law_wrong => k_is)
    (case k__law_wrong => k_is)
    (case a__law_told => k_is)
    (case l__law_told => k_is)
    (case c__law_told => k_is)
    (case k__law_told => k_is)
    (case a_read_marked => k_is)
    (case l_read_marked => k_is)
    (case c_read_marked => k_is)
    (case k_read_marked => k_is)
    (case a_read_plain => k_is)
    (case l_read_plain => k_is)
    (case c_read_plain => k_is)
    (case k_read_plain => k_is)
    (case a_split_records => k_is)
    (case l_split_records => k_is)
    (case c_split_records => k_is)
    (case k_split_records => k_is)
    (case a_law => k_is)
    (case l_law => k_is)
    (case c_law => k_is)
    (case k_law => k_is)
    (case a_Field => k_is)
    (case a_Field_init => k_is)
    (case i_Field_init => k_is)
    (case l_Field_init => k_is)
    (case c_Field_init => k_is)
    (case k_Field_init => k_is)
    (case pg_Field => k_is)
    (case hd_Field => k_is)
    (case po_Field => k_is)
    (case sa_Field => k_is)
    (case mk_Field => k_is)
    (case kc_Field => k_is)
    (case n_Field_text => k_is)
    (case n_Field_offset => k_is)
    (case n_Field_marked => k_is)
    (case ha_Field => k_is)
    (case hm_Field => k_is)
    (case a_Column => k_is)
    (case a_Column_init => k_is)
    (case i_Column_init => k_is)
    (case l_Column_init => k_is)
    (case c_Column_init => k_is)
    (case k_Column_init => k_is)
    (case pg_Column => k_is)
    (case hd_Column => k_is)
    (case po_Column => k_is)
    (case sa_Column => k_is)
    (case mk_Column => k_is)
    (case kc_Column => k_is)
    (case n_Column_name => k_is)
    (case n_Column_kind => k_is)
    (case n_Column_nullable => k_is)
    (case hn => k_is)
    (case htk => k_is)
    (case v_MARK => k_is)
    (case v_END => k_is)
    (case z_len => k_is)
    (case z_int => k_is)
    (case z_range => k_is)
    (case z_min => k_is)
    (case z_isinstance => k_is)
    (case z_list => k_is)
    (case z_bool => k_is)
    (case z_max => k_is)
    (case z_super => k_is)
    (case a_IT => k_is)
    (case a_SE => k_is)
    (case a_QE => k_is)
    (case x_IT => k_is)
    (case x_SE => k_is)
    (case xi_sa => k_is)
    (case xi_ga => k_is)
    (case xi_gg => k_is)
    (case xi_nO => k_is)
    (case xi_nR => k_is)
    (case xi_ha => k_is)
    (case xi_i => k_is)
    (case xs_i => k_is)
    (case xi_tI => k_is)
    (case xi_l => k_is)
    (case xi_c => k_is)
    (case xi_k => k_is)
    (case xi_e => k_is)
    (case xi_v => k_is)
    (case xi_t => k_is)
    (case xi_h => k_is)
    (case xi_s => k_is)
    (case xi_s1 => k_is)
    (case xi_s2 => k_is)
    (case xi_o => k_is)
    (case xs_c => k_is)
    (case xs_t => k_is)
    (case xq_c => k_is)
    (case xq_t => k_is)
    (case xi_cell => k_is)
    (case xi_code => k_is)
    (case xi_vs => rfl)
    (case xi_file => first | rfl | decide +kernel)
    (case xi_any => k_is)
    (case xi_top => first | rfl | decide +kernel)
    (case a_rs => k_is)
    (case l_rs => k_is)
    (case c_rs => k_is)
    (case k_rs => k_is)
    (case d_sep => k_is)
    (case d_head => k_is)
#print axioms PySem.Challenge.cw_stylobate_k81_faults_of_texts_holds
