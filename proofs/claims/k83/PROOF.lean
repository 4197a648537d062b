import PyProof.Rows.All
import Wide.All
import OpenK.AllK
import Wide.FinOn
import HandS.ForMost
import HandS.IsInst
import HandS.CallLocal
import HandS.Wide
import HandS.Codes
import HandS.Walk
import KE.KExcSuper
import HandS.ForExc
import HandS.ExcInit
import HandS.Nested
import HandS.ExcField
import HandS.ExcIs
import HandS.ExcOwn
import HandS.Defaults
import HandS.FStr
import PyProof.FString3
import PyProof.Rows.StrIntSpec
import HandS.StrMore
import KE.KIntText
import PyProof.Rows.StrAscii2
import PyProof.StrBlock2
import PyProof.FitsInt
import PyProof.StrLaws
import HandS.Conv
import HandS.More
import HandS.Replace
import HandS.ReplaceLit
import HandS.Words
import HandS.WordsExc
import HandS.ReplaceList
import OpenK.ZGo
import HandS.Ends
import PySem.Challenge.RW_stylobate_k83_whole_separated_texts_roun
set_option Elab.async false
set_option maxRecDepth 100000
set_option maxHeartbeats 4000000
/-! Own words over the hand layer: calls bundled, texts as lists of codes, drawing from a one-item list. -/
namespace Sb
open PySem PySem.Spec PyProof.Rows L2 SX

/-! ### a def that may be called by its name -/
structure Cal (P : Program) (w : World) (K : PySem.W.Frag) (mg : Str → Option Value) (base : Heap) (CX : CXT) (k : Nat) (x : Str) (sp : Sp) : Prop where
  ex : ∃ (f : Addr) (fd : FuncData) (ps : List Str), FnOk P w K mg base CX k f fd ps sp ∧ mg x = some (.ref f) ∧ PySem.W.keepIn K (.ref f) = true ∧ Binds K fd ps []
theorem pe_k {X : Cx} {CX : CXT} {k j : Nat} {x : Str} {sp : Sp} {E : XK} {p pos : Pos} {e : Expr} {es : List Expr} {t : TA} (c : Cal X.prog X.w X.K X.mg X.base CX k x sp) (hr : Room j X.A) (hk : k ≤ j) (hg : Gl X x) (hx : Passes CX X E) (ha : PA X (e :: es) t)
    (hdb : (x == ("__debug__" : Str)) = false := by decide) (he : starEach (e :: es) X.env = (false, eval e X.env) :: starEach es X.env := by rfl) (hpl : (backTo pos (starEach es X.env)).any (·.1) = false := by rfl) :
    PE X (.Call (.Name x p) (e :: es) [] pos) (tCall sp [] E t) := by
  obtain ⟨f, fd, ps, F, hm, kp, b⟩ := c.ex
  exact pe_call F (hr.mono hk) hg hm kp b .nil hx ha hdb he hpl

/-! ### texts as lists of codes -/
theorem S_eq (a b : List Nat) : decide (V.str (S a) = V.str (S b)) = decide (a = b) := by
  by_cases h : a = b
  · subst h; simp
  · rw [decide_eq_false h, decide_eq_false]
    intro q
    injection q with q
    exact h (S_inj q)
theorem S_of (x : Str) : ∃ t, x = S t := ⟨x.cps.toList, (S_tl x).symm⟩
theorem cutS_nat (t : List Nat) (i j : Int) (a b : Nat) (hi : i = (a : Int)) (hj : j = (b : Int)) : cutS (S t) (some i) (some j) = S ((t.drop a).take (b - a)) := by
  subst hi hj
  unfold cutS
  rw [S_len, HT.sIx_nat, HT.sIx_nat]
  show S ((t.drop (min a t.length)).take (min b t.length - min a t.length)) = S ((t.drop a).take (b - a))
  congr 1
  rcases Nat.le_total a t.length with h | h
  · rw [Nat.min_eq_left h]
    rcases Nat.le_total b t.length with h2 | h2
    · rw [Nat.min_eq_left h2]
    · rw [Nat.min_eq_right h2, List.take_of_length_le (by simp), List.take_of_length_le (by simp; omega)]
  · rw [Nat.min_eq_right h, List.drop_eq_nil_of_le h, List.drop_eq_nil_of_le (Nat.le_refl _)]
    simp
/-- one sign -/
theorem cut1 (t : List Nat) (i j : Int) (a : Nat) (hi : i = (a : Int)) (hj : j = (a : Int) + 1) : cutS (S t) (some i) (some j) = S ((t.drop a).take 1) := by
  rw [cutS_nat t i j a (a + 1) hi (by omega)]
  simp
theorem cutS_from (t : List Nat) (i : Int) (a : Nat) (hi : i = (a : Int)) : cutS (S t) (some i) none = S (t.drop a) := by
  subst hi
  unfold cutS
  rw [S_len, HT.sIx_nat, HT.sIx_none]
  show S ((t.drop (min a t.length)).take (t.length - min a t.length)) = S (t.drop a)
  congr 1
  rcases Nat.le_total a t.length with h | h
  · rw [Nat.min_eq_left h, List.take_of_length_le (by simp)]
  · rw [Nat.min_eq_right h, List.drop_eq_nil_of_le h, List.drop_eq_nil_of_le (Nat.le_refl _)]
    simp
theorem drop_take1 (t : List Nat) (a c : Nat) : (t.drop a).take 1 = [c] ↔ t[a]? = some c := by
  rw [← List.head?_drop]
  cases t.drop a <;> simp
theorem joinL_nil : ∀ cs : List Nat, TL.joinL [] (cs.map fun c => [c]) = cs
  | [] => rfl
  | [c] => rfl
  | c :: d :: r => by
    show [c] ++ ([] ++ TL.joinL [] ((d :: r).map fun c => [c])) = c :: d :: r
    rw [joinL_nil (d :: r)]
    rfl
theorem joinL_flat : ∀ ls : List (List Nat), TL.joinL [] ls = ls.flatten
  | [] => rfl
  | [c] => by simp [TL.joinL]
  | c :: d :: r => by
    show c ++ ([] ++ TL.joinL [] (d :: r)) = (c :: d :: r).flatten
    rw [joinL_flat (d :: r)]
    simp
theorem join_flat (ls : List (List Nat)) : Txt.join (S []) (ls.map S) = S ls.flatten := by rw [join_S, joinL_flat]
theorem atS {t : List Nat} {a c : Nat} (h : t[a]? = some c) : atI (S t).cps.toList (a : Int) = some c := atI_nat h

theorem sum_ones : ∀ cs : List Nat, (cs.map fun _ => 1).sum = cs.length
  | [] => rfl
  | c :: cs => by simp [sum_ones cs]; omega
/-! ### heaps -/
/-- what was there stands, but for the list at p, which holds one int -/
def Kp (p : Addr) (H H' : Hp) : Prop := (∀ b o, b ≠ p → H b = some o → H' b = some o) ∧ ∃ z, H' p = some (.lst [.int z])
def Dr (H : Hp) (p : Addr) : Prop := ∃ z, H p = some (.lst [.int z])
theorem Kp.dr {p : Addr} {H H' : Hp} (k : Kp p H H') : Dr H' p := k.2
theorem Kp.refl {p : Addr} {H : Hp} (d : Dr H p) : Kp p H H := ⟨fun _ _ _ h => h, d⟩
theorem Kp.trans {p : Addr} {H H1 H2 : Hp} (a : Kp p H H1) (b : Kp p H1 H2) : Kp p H H2 := ⟨fun c o hc h => b.1 c o hc (a.1 c o hc h), b.2⟩
theorem same_new {H : Hp} {p : Addr} {o : HO} (h : H p = none) : Same H (upd H p o) := fun b u e => by
  rw [upd_ne (ne_of_none e h)]
  exact e
theorem Kp.new {p q : Addr} {H H1 : Hp} {o : HO} (k : Kp p H H1) (h : H1 q = none) : Kp p H (upd H1 q o) := by
  obtain ⟨k1, z, hz⟩ := k
  exact ⟨fun b u hb e => same_new h b u (k1 b u hb e), z, same_new h p _ hz⟩
theorem Kp.same {p : Addr} {H H1 H2 : Hp} (k : Kp p H H1) (s : Same H1 H2) : Kp p H H2 := by
  obtain ⟨k1, z, hz⟩ := k
  exact ⟨fun b u hb e => s b u (k1 b u hb e), z, s p _ hz⟩
/-- a list that H does not know may change -/
theorem same_mut {H H1 : Hp} {p : Addr} {o : HO} (s : Same H H1) (h : H p = none) : Same H (upd H1 p o) := fun b u e => by
  rw [upd_ne (ne_of_none e h)]
  exact s b u e
theorem Kp.mut {p q : Addr} {H H1 : Hp} {o : HO} (k : Kp p H H1) (h : H q = none) (d : Dr H p) : Kp p H (upd H1 q o) := by
  obtain ⟨k1, z, hz⟩ := k
  obtain ⟨y, hy⟩ := d
  exact ⟨fun b u hb e => by rw [upd_ne (ne_of_none e h)]; exact k1 b u hb e, z, by rw [upd_ne (ne_of_none hy h)]; exact hz⟩
theorem seqL {K : PySem.W.Frag} {H : Hp} {a : Addr} {xs : List V} (h : H a = some (.lst xs)) : SqL K H a xs := .inl (.inl h)
theorem seqT {K : PySem.W.Frag} {H : Hp} {a : Addr} {xs : List V} (h : H a = some (.tup xs)) : SqT K H a xs := .inl (.inl h)
theorem tup_same {K : PySem.W.Frag} {H H' : Hp} {a : Addr} {xs : List V} (e : Same H H') (h : SqT K H a xs) : SqT K H' a xs := by
  rcases h with (h | ⟨o, h⟩) | h
  · exact .inl (.inl (e _ _ h))
  · exact .inl (.inr ⟨o, e _ _ h⟩)
  · exact .inr h
end Sb
/-! Plain law of records and fields: texts are lists of codes. Own work. -/
namespace Sep
structure Fld where
  text : List Nat
  off : Nat
  mkd : Bool
deriving DecidableEq

/-- the rest behind an opening mark; k: the offset of the rest's first sign -/
def rm (sep at0 : Nat) : List Nat → List Nat → Nat → Except (Nat × Nat) (List Nat × Nat)
  | [], _, _ => .error (at0, 2)
  | c :: r, acc, k =>
    if c ≠ 34 then rm sep at0 r (acc ++ [c]) (k + 1)
    else match r with
      | [] => .ok (acc, k + 1)
      | d :: r' => if d = 34 then rm sep at0 r' (acc ++ [34]) (k + 2) else if d = sep ∨ d = 10 then .ok (acc, k + 1) else .error (k + 1, 1)
def rp (sep : Nat) : List Nat → List Nat → Nat → Except (Nat × Nat) (List Nat × Nat)
  | [], acc, k => .ok (acc, k)
  | c :: r, acc, k => if c = sep ∨ c = 10 then .ok (acc, k) else if c = 34 then .error (k, 0) else rp sep r (acc ++ [c]) (k + 1)
def fin (at0 : Nat) (m : Bool) : Except (Nat × Nat) (List Nat × Nat) → Except (Nat × Nat) (Fld × Nat)
  | .ok (t, k) => .ok (⟨t, at0, m⟩, k)
  | .error e => .error e
def rd (sep : Nat) (rest : List Nat) (at0 : Nat) : Except (Nat × Nat) (Fld × Nat) :=
  match rest with
  | [] => fin at0 false (rp sep [] [] at0)
  | c :: r => if c = 34 then fin at0 true (rm sep at0 r [] (at0 + 1)) else fin at0 false (rp sep (c :: r) [] at0)
/-- one record from at0 on: its fields and the offset behind -/
def recd (sep : Nat) (text : List Nat) : Nat → Nat → List Fld → Except (Nat × Nat) (List Fld × Nat)
  | 0, at0, acc => .ok (acc, at0)
  | f + 1, at0, acc => match rd sep (text.drop at0) at0 with
    | .error e => .error e
    | .ok (fl, k) => if text[k]? = some sep then recd sep text f (k + 1) (acc ++ [fl]) else .ok (acc ++ [fl], k)
def spl (sep : Nat) (text : List Nat) : Nat → Nat → List (List Fld) → Except (Nat × Nat) (List (List Fld))
  | 0, _, acc => .ok acc
  | f + 1, at0, acc => if at0 < text.length then
      match recd sep text (text.length + 1) at0 [] with
      | .error e => .error e
      | .ok (r, k) => spl sep text f (k + 1) (acc ++ [r])
    else .ok acc
def split (sep : Nat) (text : List Nat) : Except (Nat × Nat) (List (List Fld)) := spl sep text (text.length + 1) 0 []

theorem rm_cons (sep at0 c : Nat) (r acc : List Nat) (k : Nat) : rm sep at0 (c :: r) acc k = if c ≠ 34 then rm sep at0 r (acc ++ [c]) (k + 1)
    else match r with
      | [] => .ok (acc, k + 1)
      | d :: r' => if d = 34 then rm sep at0 r' (acc ++ [34]) (k + 2) else if d = sep ∨ d = 10 then .ok (acc, k + 1) else .error (k + 1, 1) := by
  rw [rm.eq_def]
theorem spl_step {sep : Nat} {text : List Nat} {f at0 k : Nat} {acc : List (List Fld)} {r : List Fld} (h : at0 < text.length) (e : recd sep text (text.length + 1) at0 [] = .ok (r, k)) : spl sep text (f + 1) at0 acc = spl sep text f (k + 1) (acc ++ [r]) := by
  rw [spl, if_pos h, e]
theorem spl_end {sep : Nat} {text : List Nat} {f at0 : Nat} {acc : List (List Fld)} (h : ¬ at0 < text.length) : spl sep text (f + 1) at0 acc = .ok acc := by
  rw [spl, if_neg h]
/-! ### written fields -/
def dbl : List Nat → List Nat
  | [] => []
  | c :: r => (if c = 34 then [34, 34] else [c]) ++ dbl r
def enc (t : List Nat) (m : Bool) : List Nat := if m then 34 :: (dbl t ++ [34]) else t
def plainT (sep : Nat) (t : List Nat) : Prop := ∀ c ∈ t, c ≠ sep ∧ c ≠ 10 ∧ c ≠ 34
def Ends (sep : Nat) (post : List Nat) : Prop := post = [] ∨ ∃ d r, post = d :: r ∧ (d = sep ∨ d = 10)
def Okf (sep : Nat) (p : List Nat × Bool) : Prop := p.2 = false → plainT sep p.1

theorem rm_enc (sep at0 : Nat) (hs : sep ≠ 34) : ∀ (t acc post : List Nat) (k : Nat), Ends sep post → rm sep at0 (dbl t ++ 34 :: post) acc k = .ok (acc ++ t, k + (dbl t).length + 1)
  | [], acc, post, k, h => by
    show rm sep at0 (34 :: post) acc k = _
    rcases h with rfl | ⟨d, r, rfl, h⟩
    · simp [rm_cons, dbl]
    · have h34 : d ≠ 34 := by rcases h with h | h <;> omega
      simp [rm_cons, dbl, h34, h]
  | c :: t, acc, post, k, h => by
    by_cases hc : c = 34
    · subst hc
      have ih := rm_enc sep at0 hs t (acc ++ [34]) post (k + 2) h
      simp only [dbl, if_pos, List.cons_append, List.nil_append]
      rw [rm_cons, if_neg (by decide)]
      simp only [if_pos]
      rw [ih]
      simp; omega
    · have ih := rm_enc sep at0 hs t (acc ++ [c]) post (k + 1) h
      simp only [dbl, if_neg hc, List.cons_append, List.nil_append]
      rw [rm_cons, if_pos hc, ih]
      simp; omega
theorem rp_enc (sep : Nat) : ∀ (t acc post : List Nat) (k : Nat), plainT sep t → Ends sep post → rp sep (t ++ post) acc k = .ok (acc ++ t, k + t.length)
  | [], acc, post, k, _, h => by
    rcases h with rfl | ⟨d, r, rfl, h⟩
    · simp [rp]
    · simp [rp, h]
  | c :: t, acc, post, k, hp, h => by
    have hc := hp c (by simp)
    have ih := rp_enc sep t (acc ++ [c]) post (k + 1) (fun x hx => hp x (by simp [hx])) h
    simp only [List.cons_append, rp]
    rw [if_neg (by omega), if_neg (by omega), ih]
    simp; omega
theorem rd_enc (sep at0 : Nat) (hs : sep ≠ 34) (t : List Nat) (m : Bool) (post : List Nat) (ho : Okf sep (t, m)) (h : Ends sep post) : rd sep (enc t m ++ post) at0 = .ok (⟨t, at0, m⟩, at0 + (enc t m).length) := by
  cases m with
  | true =>
    have e := rm_enc sep at0 hs t [] post (at0 + 1) h
    simp only [enc, if_true, List.cons_append, List.append_assoc, List.nil_append, rd]
    rw [e]
    simp [fin]; omega
  | false =>
    have e := rp_enc sep t [] post at0 (ho rfl) h
    simp only [enc, Bool.false_eq_true, if_false]
    cases t with
    | nil =>
      rcases h with rfl | ⟨d, r, rfl, h⟩
      · simp [rd, rp, fin]
      · have h34 : d ≠ 34 := by rcases h with h | h <;> omega
        simp only [List.nil_append] at e ⊢
        simp only [rd, if_neg h34]
        rw [e]; simp [fin]
    | cons c t =>
      have hc : c ≠ 34 := (ho rfl c (by simp)).2.2
      simp only [List.cons_append] at e ⊢
      simp only [rd, if_neg hc]
      rw [e]; simp [fin]

/-! ### records -/
/-- the text of a record -/
def encR (sep : Nat) : List (List Nat × Bool) → List Nat
  | [] => []
  | [p] => enc p.1 p.2
  | p :: q :: r => enc p.1 p.2 ++ sep :: encR sep (q :: r)
/-- its fields, from an offset on -/
def offs (sep : Nat) : Nat → List (List Nat × Bool) → List Fld
  | _, [] => []
  | o, p :: r => ⟨p.1, o, p.2⟩ :: offs sep (o + (enc p.1 p.2).length + 1) r
theorem drop_at (pre rest : List Nat) : (pre ++ rest).drop pre.length = rest := by simp
theorem get_at (pre rest : List Nat) : (pre ++ rest)[pre.length]? = rest.head? := by
  cases rest <;> simp
theorem recd_enc (sep : Nat) (hs : sep ≠ 34) (hs2 : sep ≠ 10) : ∀ (fs : List (List Nat × Bool)) (pre post : List Nat) (acc : List Fld) (f : Nat), fs ≠ [] → (∀ p ∈ fs, Okf sep p) → (post = [] ∨ ∃ r, post = 10 :: r) → fs.length ≤ f →
    recd sep (pre ++ encR sep fs ++ post) f pre.length acc = .ok (acc ++ offs sep pre.length fs, pre.length + (encR sep fs).length)
  | [], _, _, _, _, h, _, _, _ => absurd rfl h
  | [p], pre, post, acc, f, _, ho, hp, hf => by
    obtain ⟨f, rfl⟩ : ∃ g, f = g + 1 := ⟨f - 1, by simp at hf; omega⟩
    have hE : Ends sep post := by rcases hp with h | ⟨r, h⟩; exact .inl h; exact .inr ⟨10, r, h, .inr rfl⟩
    have e := rd_enc sep pre.length hs p.1 p.2 post (ho p (by simp)) hE
    simp only [recd, encR, List.append_assoc, drop_at]
    rw [e]
    have g : (pre ++ (enc p.1 p.2 ++ post))[pre.length + (enc p.1 p.2).length]? = post.head? := by
      have := get_at (pre ++ enc p.1 p.2) post
      simpa using this
    have hne : ¬ post.head? = some sep := by rcases hp with rfl | ⟨r, rfl⟩ <;> simp; omega
    simp only [g, if_neg hne, offs]
  | p :: q :: r, pre, post, acc, f, _, ho, hp, hf => by
    obtain ⟨f, rfl⟩ : ∃ g, f = g + 1 := ⟨f - 1, by simp at hf; omega⟩
    have hE : Ends sep (sep :: (encR sep (q :: r) ++ post)) := .inr ⟨sep, _, rfl, .inl rfl⟩
    have e := rd_enc sep pre.length hs p.1 p.2 _ (ho p (by simp)) hE
    have ih := recd_enc sep hs hs2 (q :: r) (pre ++ enc p.1 p.2 ++ [sep]) post (acc ++ [⟨p.1, pre.length, p.2⟩]) f (by simp) (fun x hx => ho x (by simp at hx ⊢; right; exact hx)) hp (by simp at hf ⊢; omega)
    simp only [recd, encR, List.append_assoc, List.cons_append, drop_at]
    rw [e]
    have g : (pre ++ (enc p.1 p.2 ++ sep :: (encR sep (q :: r) ++ post)))[pre.length + (enc p.1 p.2).length]? = some sep := by
      have := get_at (pre ++ enc p.1 p.2) (sep :: (encR sep (q :: r) ++ post))
      simp
    simp only [g, if_true]
    simp only [List.append_assoc, List.length_append, List.length_cons, List.length_nil, List.cons_append, List.nil_append] at ih
    have e2 : pre.length + ((enc p.1 p.2).length + (0 + 1)) = pre.length + (enc p.1 p.2).length + 1 := by omega
    rw [e2] at ih
    rw [ih]
    simp [offs]; omega
/-- a text of records, each with its line feed -/
def encT (sep : Nat) : List (List (List Nat × Bool)) → List Nat
  | [] => []
  | r :: rs => encR sep r ++ 10 :: encT sep rs
def offsT (sep : Nat) : Nat → List (List (List Nat × Bool)) → List (List Fld)
  | _, [] => []
  | o, r :: rs => offs sep o r :: offsT sep (o + (encR sep r).length + 1) rs
def Okr (sep : Nat) (r : List (List Nat × Bool)) : Prop := r ≠ [] ∧ ∀ p ∈ r, Okf sep p
theorem encR_len (sep : Nat) : ∀ fs : List (List Nat × Bool), fs.length ≤ (encR sep fs).length + 1
  | [] => by simp
  | [p] => by simp
  | p :: q :: r => by have := encR_len sep (q :: r); simp [encR] at this ⊢; omega
theorem spl_enc (sep : Nat) (hs : sep ≠ 34) (hs2 : sep ≠ 10) : ∀ (rs : List (List (List Nat × Bool))) (pre : List Nat) (acc : List (List Fld)) (f : Nat), (∀ r ∈ rs, Okr sep r) → rs.length < f →
    spl sep (pre ++ encT sep rs) f pre.length acc = .ok (acc ++ offsT sep pre.length rs)
  | [], pre, acc, f, _, hf => by
    obtain ⟨f, rfl⟩ : ∃ g, f = g + 1 := ⟨f - 1, by simp at hf; omega⟩
    rw [spl_end (by simp [encT])]
    simp [offsT]
  | r :: rs, pre, acc, f, ho, hf => by
    obtain ⟨f, rfl⟩ : ∃ g, f = g + 1 := ⟨f - 1, by simp at hf; omega⟩
    have hr := ho r (by simp)
    have e := recd_enc sep hs hs2 r pre (10 :: encT sep rs) [] ((pre ++ encT sep (r :: rs)).length + 1) hr.1 hr.2 (.inr ⟨_, rfl⟩) (by have := encR_len sep r; simp [encT]; omega)
    have ih := spl_enc sep hs hs2 rs (pre ++ encR sep r ++ [10]) (acc ++ [offs sep pre.length r]) f (fun x hx => ho x (by simp [hx])) (by simp at hf; omega)
    have e4 : pre ++ encR sep r ++ 10 :: encT sep rs = pre ++ encT sep (r :: rs) := by simp [encT]
    rw [e4] at e
    rw [spl_step (by simp [encT]; omega) e]
    have e2 : pre.length + (encR sep r).length + 1 = (pre ++ encR sep r ++ [10]).length := by simp; omega
    have e3 : pre ++ encT sep (r :: rs) = pre ++ encR sep r ++ [10] ++ encT sep rs := by simp [encT]
    rw [e2, e3, List.nil_append, ih]
    simp [offsT, Nat.add_assoc]
theorem encT_len (sep : Nat) : ∀ rs : List (List (List Nat × Bool)), rs.length ≤ (encT sep rs).length
  | [] => by simp
  | r :: rs => by have := encT_len sep rs; simp [encT]; omega
/-- the text whose last record has its line feed -/
theorem split_enc (sep : Nat) (hs : sep ≠ 34) (hs2 : sep ≠ 10) (rs : List (List (List Nat × Bool))) (ho : ∀ r ∈ rs, Okr sep r) : split sep (encT sep rs) = .ok (offsT sep 0 rs) := by
  have e := spl_enc sep hs hs2 rs [] [] ((encT sep rs).length + 1) ho (by have := encT_len sep rs; omega)
  simpa [split] using e
theorem spl_enc2 (sep : Nat) (hs : sep ≠ 34) (hs2 : sep ≠ 10) (r : List (List Nat × Bool)) (hr : Okr sep r) (hne : encR sep r ≠ []) : ∀ (rs : List (List (List Nat × Bool))) (pre : List Nat) (acc : List (List Fld)) (f : Nat), (∀ r ∈ rs, Okr sep r) → rs.length + 1 < f →
    spl sep (pre ++ (encT sep rs ++ encR sep r)) f pre.length acc = .ok (acc ++ offsT sep pre.length (rs ++ [r]))
  | [], pre, acc, f, _, hf => by
    obtain ⟨f, rfl⟩ : ∃ g, f = g + 2 := ⟨f - 2, by simp at hf; omega⟩
    have hl : 0 < (encR sep r).length := List.length_pos_iff.mpr hne
    have e := recd_enc sep hs hs2 r pre [] [] ((pre ++ encR sep r).length + 1) hr.1 hr.2 (.inl rfl) (by have := encR_len sep r; simp; omega)
    rw [List.append_nil] at e
    rw [encT, List.nil_append, spl_step (by simp; omega) e, spl_end (by simp)]
    simp [offsT]
  | r' :: rs, pre, acc, f, ho, hf => by
    obtain ⟨f, rfl⟩ : ∃ g, f = g + 1 := ⟨f - 1, by simp at hf; omega⟩
    have hr' := ho r' (by simp)
    have e := recd_enc sep hs hs2 r' pre (10 :: (encT sep rs ++ encR sep r)) [] ((pre ++ (encT sep (r' :: rs) ++ encR sep r)).length + 1) hr'.1 hr'.2 (.inr ⟨_, rfl⟩) (by have := encR_len sep r'; simp [encT]; omega)
    have ih := spl_enc2 sep hs hs2 r hr hne rs (pre ++ encR sep r' ++ [10]) (acc ++ [offs sep pre.length r']) f (fun x hx => ho x (by simp [hx])) (by simp at hf; omega)
    have e3 : pre ++ (encT sep (r' :: rs) ++ encR sep r) = pre ++ encR sep r' ++ [10] ++ (encT sep rs ++ encR sep r) := by simp [encT]
    have e4 : pre ++ encR sep r' ++ 10 :: (encT sep rs ++ encR sep r) = pre ++ (encT sep (r' :: rs) ++ encR sep r) := by simp [encT]
    rw [e4] at e
    rw [spl_step (by simp [encT]; omega) e]
    have e2 : pre.length + (encR sep r').length + 1 = (pre ++ encR sep r' ++ [10]).length := by simp; omega
    rw [e2, e3, List.nil_append, ih]
    simp [offsT, Nat.add_assoc]
/-- the text whose last record has none -/
theorem split_enc2 (sep : Nat) (hs : sep ≠ 34) (hs2 : sep ≠ 10) (rs : List (List (List Nat × Bool))) (r : List (List Nat × Bool)) (ho : ∀ r ∈ rs, Okr sep r) (hr : Okr sep r) (hne : encR sep r ≠ []) : split sep (encT sep rs ++ encR sep r) = .ok (offsT sep 0 (rs ++ [r])) := by
  have hl : 0 < (encR sep r).length := List.length_pos_iff.mpr hne
  have e := spl_enc2 sep hs hs2 r hr hne rs [] [] ((encT sep rs ++ encR sep r).length + 1) ho (by have := encT_len sep rs; simp; omega)
  simpa [split] using e
theorem offsT_len (sep : Nat) : ∀ (rs : List (List (List Nat × Bool))) (o : Nat), (offsT sep o rs).length = rs.length
  | [], _ => rfl
  | r :: rs, o => by simp [offsT, offsT_len sep rs]
theorem encT_snoc (sep : Nat) : ∀ (rs : List (List (List Nat × Bool))) (r : List (List Nat × Bool)), encT sep (rs ++ [r]) = encT sep rs ++ (encR sep r ++ [10])
  | [], r => by simp [encT]
  | r' :: rs, r => by simp [encT, encT_snoc sep rs r]
theorem offsT_snoc (sep : Nat) : ∀ (rs : List (List (List Nat × Bool))) (r : List (List Nat × Bool)) (o : Nat), offsT sep o (rs ++ [r]) = offsT sep o rs ++ [offs sep (o + (encT sep rs).length) r]
  | [], r, o => by simp [offsT, encT]
  | r' :: rs, r, o => by
    have e : o + (encR sep r').length + 1 + (encT sep rs).length = o + ((encR sep r').length + ((encT sep rs).length + 1)) := by omega
    simp [offsT, encT, offsT_snoc sep rs r, e]
theorem encR_snoc (sep : Nat) : ∀ (fs : List (List Nat × Bool)) (p : List Nat × Bool), fs ≠ [] → encR sep (fs ++ [p]) = encR sep fs ++ sep :: enc p.1 p.2
  | [], _, h => absurd rfl h
  | [q], p, _ => by simp [encR]
  | q :: q' :: r, p, _ => by
    have := encR_snoc sep (q' :: r) p (by simp)
    simp [encR] at this ⊢
    exact this
theorem offs_snoc (sep : Nat) : ∀ (fs : List (List Nat × Bool)) (p : List Nat × Bool) (o : Nat), fs ≠ [] → offs sep o (fs ++ [p]) = offs sep o fs ++ [⟨p.1, o + (encR sep fs).length + 1, p.2⟩]
  | [], _, _, h => absurd rfl h
  | [q], p, o, _ => by simp [offs, encR]
  | q :: q' :: r, p, o, _ => by
    have := offs_snoc sep (q' :: r) p (o + (enc q.1 q.2).length + 1) (by simp)
    have e : o + (enc q.1 q.2).length + 1 + (encR sep (q' :: r)).length + 1 = o + ((enc q.1 q.2).length + ((encR sep (q' :: r)).length + 1)) + 1 := by omega
    simp only [List.cons_append, offs, encR, List.length_append, List.length_cons] at this ⊢
    rw [this, e]
/-- the last sign of a record that is not one empty field -/
theorem encR_last (sep : Nat) (hs2 : sep ≠ 10) : ∀ fs : List (List Nat × Bool), fs ≠ [] → (∀ p ∈ fs, Okf sep p) → fs ≠ [([], false)] → ∃ x c, encR sep fs = x ++ [c] ∧ c ≠ 10
  | [], h, _, _ => absurd rfl h
  | [(t, m)], _, ho, hn => by
    cases m with
    | true => exact ⟨34 :: dbl t, 34, by simp [encR, enc], by decide⟩
    | false =>
      have hp := ho (t, false) (by simp) rfl
      rcases List.eq_nil_or_concat t with rfl | ⟨x, c, rfl⟩
      · exact absurd rfl hn
      · exact ⟨x, c, by simp [encR, enc], (hp c (by simp)).2.1⟩
  | p :: q :: r, _, ho, _ => by
    by_cases hq : q :: r = [([], false)]
    · refine ⟨enc p.1 p.2, sep, ?_, hs2⟩
      rw [encR, hq]
      simp [encR, enc]
    · obtain ⟨x, c, e, h⟩ := encR_last sep hs2 (q :: r) (by simp) (fun x hx => ho x (by simp at hx ⊢; right; exact hx)) hq
      exact ⟨enc p.1 p.2 ++ sep :: x, c, by rw [encR, e]; simp, h⟩
/-! ### for the walk -/
theorem rm_ge (sep at0 : Nat) : ∀ (n : Nat) (r acc : List Nat) (k : Nat) (t : List Nat) (k' : Nat), r.length ≤ n → rm sep at0 r acc k = .ok (t, k') → k ≤ k'
  | _, [], _, _, _, _, _, h => by simp [rm] at h
  | n + 1, c :: r, acc, k, t, k', hn, h => by
    rw [rm_cons] at h
    by_cases hc : c = 34
    · rw [if_neg (by simp [hc])] at h
      cases r with
      | nil => simp at h; omega
      | cons d r' =>
        simp only at h
        by_cases hd : d = 34
        · rw [if_pos hd] at h
          have := rm_ge sep at0 n r' _ _ _ _ (by simp at hn; omega) h
          omega
        · rw [if_neg hd] at h
          by_cases he : d = sep ∨ d = 10
          · rw [if_pos he] at h; simp at h; omega
          · rw [if_neg he] at h; simp at h
    · rw [if_pos hc] at h
      have := rm_ge sep at0 n r _ _ _ _ (by simp at hn; omega) h
      omega
theorem rp_ge (sep : Nat) : ∀ (r acc : List Nat) (k : Nat) (t : List Nat) (k' : Nat), rp sep r acc k = .ok (t, k') → k ≤ k'
  | [], _, _, _, _, h => by simp [rp] at h; omega
  | c :: r, acc, k, t, k', h => by
    rw [rp] at h
    by_cases h1 : c = sep ∨ c = 10
    · rw [if_pos h1] at h; simp at h; omega
    · rw [if_neg h1] at h
      by_cases h2 : c = 34
      · rw [if_pos h2] at h; simp at h
      · rw [if_neg h2] at h
        have := rp_ge sep r _ _ _ _ h
        omega
theorem rd_mark (sep : Nat) (text : List Nat) (a : Nat) (h : text[a]? = some 34) : rd sep (text.drop a) a = fin a true (rm sep a (text.drop (a + 1)) [] (a + 1)) := by
  have hl := (List.getElem?_eq_some_iff.mp h).1
  have e : text.drop a = 34 :: text.drop (a + 1) := by
    rw [List.drop_eq_getElem_cons hl, (List.getElem?_eq_some_iff.mp h).2]
  rw [e, rd, if_pos rfl]
theorem rd_plain (sep : Nat) (text : List Nat) (a : Nat) (h : ¬ text[a]? = some 34) : rd sep (text.drop a) a = fin a false (rp sep (text.drop a) [] a) := by
  by_cases hl : a < text.length
  · have e : text.drop a = text[a] :: text.drop (a + 1) := List.drop_eq_getElem_cons hl
    have hc : ¬ text[a] = 34 := fun q => h (by rw [List.getElem?_eq_getElem hl, q])
    rw [e, rd, if_neg hc]
  · rw [List.drop_eq_nil_of_le (by omega), rd]
theorem fin_ok {at0 : Nat} {m : Bool} {x : Except (Nat × Nat) (List Nat × Nat)} {fl : Fld} {k : Nat} (h : fin at0 m x = .ok (fl, k)) : ∃ t, x = .ok (t, k) ∧ fl = ⟨t, at0, m⟩ := by
  cases x with
  | error e => simp [fin] at h
  | ok p => obtain ⟨t, j⟩ := p; simp [fin] at h; exact ⟨t, by rw [h.2], h.1.symm⟩
theorem rd_ge {sep : Nat} {text : List Nat} {a : Nat} {fl : Fld} {k : Nat} (h : rd sep (text.drop a) a = .ok (fl, k)) : a ≤ k := by
  by_cases hm : text[a]? = some 34
  · rw [rd_mark sep text a hm] at h
    obtain ⟨t, e, _⟩ := fin_ok h
    have := rm_ge sep a _ _ _ _ _ _ (Nat.le_refl _) e
    omega
  · rw [rd_plain sep text a hm] at h
    obtain ⟨t, e, _⟩ := fin_ok h
    exact rp_ge sep _ _ _ _ _ e
theorem recd_ge {sep : Nat} {text : List Nat} : ∀ {f a : Nat} {acc r : List Fld} {k : Nat}, recd sep text f a acc = .ok (r, k) → a ≤ k
  | 0, _, _, _, _, h => by simp [recd] at h; omega
  | f + 1, a, acc, r, k, h => by
    rw [recd] at h
    cases e : rd sep (text.drop a) a with
    | error x => rw [e] at h; simp at h
    | ok p =>
      obtain ⟨fl, j⟩ := p
      rw [e] at h
      simp only at h
      have := rd_ge e
      by_cases hs : text[j]? = some sep
      · rw [if_pos hs] at h
        have := recd_ge h
        omega
      · rw [if_neg hs] at h
        simp at h
        omega
theorem recd_ok {sep : Nat} {text : List Nat} {f a : Nat} {acc r : List Fld} {k : Nat} (h : recd sep text (f + 1) a acc = .ok (r, k)) : ∃ fl j, rd sep (text.drop a) a = .ok (fl, j) ∧ (if text[j]? = some sep then recd sep text f (j + 1) (acc ++ [fl]) else .ok (acc ++ [fl], j)) = .ok (r, k) := by
  rw [recd] at h
  cases e : rd sep (text.drop a) a with
  | error x => rw [e] at h; simp at h
  | ok p => obtain ⟨fl, j⟩ := p; rw [e] at h; exact ⟨fl, j, rfl, h⟩
theorem spl_ok {sep : Nat} {text : List Nat} {f a : Nat} {acc ans : List (List Fld)} (hl : a < text.length) (h : spl sep text (f + 1) a acc = .ok ans) : ∃ r k, recd sep text (text.length + 1) a [] = .ok (r, k) ∧ spl sep text f (k + 1) (acc ++ [r]) = .ok ans := by
  rw [spl, if_pos hl] at h
  cases e : recd sep text (text.length + 1) a [] with
  | error x => rw [e] at h; simp at h
  | ok p => obtain ⟨r, k⟩ := p; rw [e] at h; exact ⟨r, k, rfl, h⟩
theorem rm_le (sep at0 : Nat) : ∀ (n : Nat) (r acc : List Nat) (k : Nat) (t : List Nat) (k' : Nat), r.length ≤ n → rm sep at0 r acc k = .ok (t, k') → k' ≤ k + r.length
  | _, [], _, _, _, _, _, h => by simp [rm] at h
  | n + 1, c :: r, acc, k, t, k', hn, h => by
    rw [rm_cons] at h
    by_cases hc : c = 34
    · rw [if_neg (by simp [hc])] at h
      cases r with
      | nil => simp at h; simp; omega
      | cons d r' =>
        simp only at h
        by_cases hd : d = 34
        · rw [if_pos hd] at h
          have := rm_le sep at0 n r' _ _ _ _ (by simp at hn; omega) h
          simp; omega
        · rw [if_neg hd] at h
          by_cases he : d = sep ∨ d = 10
          · rw [if_pos he] at h; simp at h; simp; omega
          · rw [if_neg he] at h; simp at h
    · rw [if_pos hc] at h
      have := rm_le sep at0 n r _ _ _ _ (by simp at hn; omega) h
      simp; omega
theorem rp_le (sep : Nat) : ∀ (r acc : List Nat) (k : Nat) (t : List Nat) (k' : Nat), rp sep r acc k = .ok (t, k') → k' ≤ k + r.length
  | [], _, _, _, _, h => by simp [rp] at h; omega
  | c :: r, acc, k, t, k', h => by
    rw [rp] at h
    by_cases h1 : c = sep ∨ c = 10
    · rw [if_pos h1] at h; simp at h; omega
    · rw [if_neg h1] at h
      by_cases h2 : c = 34
      · rw [if_pos h2] at h; simp at h
      · rw [if_neg h2] at h
        have := rp_le sep r _ _ _ _ h
        simp; omega
theorem rd_le {sep : Nat} {text : List Nat} {a : Nat} {fl : Fld} {k : Nat} (h : rd sep (text.drop a) a = .ok (fl, k)) (ha : a ≤ text.length) : k ≤ text.length := by
  by_cases hm : text[a]? = some 34
  · rw [rd_mark sep text a hm] at h
    obtain ⟨t, e, _⟩ := fin_ok h
    have := rm_le sep a _ _ _ _ _ _ (Nat.le_refl _) e
    have := (List.getElem?_eq_some_iff.mp hm).1
    simp at *; omega
  · rw [rd_plain sep text a hm] at h
    obtain ⟨t, e, _⟩ := fin_ok h
    have := rp_le sep _ _ _ _ _ e
    simp at *; omega
end Sep
set_option Elab.async false
set_option maxRecDepth 100000
set_option maxHeartbeats 4000000
/-! An own exception's __init__ that begins by super().__init__(e): its promise by its body. Own work over the layer. -/
namespace Sb
open PySem PySem.Spec PyProof.Rows L2 NdefX

/-- what the top must say of the class C, whose __init__ is asked -/
structure SupC (P : Program) (K : PySem.W.Frag) (mg : Str → Option Value) (C cc cda : Addr) : Prop where
  ox : OexC K C
  cell : ∃ cl cld csl, K.lookup cc = some ⟨cl, cld, .cell (some (.ref C)), csl⟩
  code : ∃ ccl cdd vs ccs file tf, K.lookup cda = some ⟨ccl, cdd, .fields vs, ccs⟩ ∧ vs[2]? = some (Value.str file tf) ∧ ((P.main.file : Str) == file) = true
  up : PySem.W.ks_superIn K C C "__init__" = some (some (.builtin "ValueError.__init__"))
  sub : PySem.W.subIn K (.ref C) (.type "ValueError") = some true
  mro : PySem.W.mroIn K C (.ref C) = some true
  any : PySem.W.nsIn K cStatics "thirdparty.any" = some none
  sup : mg "super" = none
  top : (P.main.scope.names.lookup ("super" : Str)).isSome = false

theorem mw_call {X : Cx} {pins : List (Addr × Obj)} {σ : L2.St} {H : Hp} {s : Shared} {u a C : Addr} {us : List Value} {Q : Value → Shared → Prop} {E : Value → Shared → Prop} (T : OexC X.K C) (I : Inv X pins σ H s)
    (hu : s.heap.get? u = some (PySem.W.kxs_mw "ValueError.__init__" a)) (ea : H a = some (exo a C none)) (hz : us.length ≤ sizeLine) (h : ∀ s', Inv X pins σ H s' → Q .none s') :
    wpAny (model X.prog X.w) X.A (call (.ref u) us) Q E s := by
  obtain ⟨nm, q, N, bs, bm, sn, sub, ab, col, dd, k0, k1, k2, k3, k5, hC, hbm⟩ := T.cls
  have KX := I.kIn
  obtain ⟨t1, ho⟩ := exo_at I.hok ea
  obtain ⟨hh, g, d, tk, os⟩ := s
  have FB := F.excBase_ValueError
  refine wpAny_call (codeAny_of_tree ?_)
  show wpAny _ X.A.in1 (callAny (.ref u) ⟨us, []⟩) _ _ _
  simp only [callAny]
  refine wpAny_bind (wpAny_load hu ?_)
  simp only [show (Value.type "method-wrapper" == Value.type "method" || Value.type "method-wrapper" == Value.type "builtin_function_or_method" || Value.type "method-wrapper" == Value.type "method-wrapper") = true by decide, if_true]
  refine PySem.W.KFB.if_so (by decide) ?_
  refine wpAny_bind (PySem.W.check_bound_init FB.toExcCallFacts (KX _ _ hC) ho rfl ?_)
  refine wpAny_bind (wpAny_pure (wpAny_pure ?_))
  refine ⟨plainId_quiet FB.init.plain _, codeAny_builtin FB.initEntry ?_⟩
  refine PySem.W.exc_init_tree (cls := .ref C) (t0 := t1) (dv := none) (c2 := .none) (c3 := .none) (b4 := .bool false) ho hz (fun h' k e' t' => ?_)
  have J := I.write (t' := tk) (x := a) (e := a) (o := exo a C none) (by rw [ea]; exact True.intro) (.inl rfl) k ⟨_, e'⟩ (exo_ok e')
  have eu : upd H a (exo a C none) = H := by
    funext b
    by_cases hb : b = a
    · rw [hb, upd_same, ea]
    · rw [upd_ne hb]
  rw [eu] at J
  exact h _ J

section
variable {CX : CXT} {P : Program} {w : World} {K : PySem.W.Frag} {mg : Str → Option Value} {base : Heap} {N : List Str} {F : NF} {f cc C a : Addr} {A : Around} {outer : List Env} {s0 s : Shared} {H0 H : Hp} {E : XK} {ar : Arg} {σ : L2.St} {pins : List (Addr × Obj)} {e : Expr} {te : TE} {p0 p1 p2 p3 p4 : Pos} {m : Str → Option Value} {fd : FuncData} {oc : Value} {od : Option Addr} {osl : Array (Option Value)} {rest : List Stmt} {Q : Flow → Shared → Prop} {n : Nat} {R : Hp → Prop}
abbrev supE (e : Expr) (p0 p1 p2 p3 : Pos) : Expr := .Call (.Attribute (.Call (.Name "super" p0) [] [] p1) "__init__" p2) [e] [] p3
theorem sup_stmt (U : SupC P K mg C cc F.c) (I : Inv (ncx CX P w K mg base N F f A outer s0 H0 E) pins σ H s) (hcl : F.cl = [(("__class__" : Str), cc)]) (hk : F.scope.kind = .function)
    (hks : F.scope.names.lookup ("super" : Str) = some .globalImplicit) (hkc : F.scope.names.lookup ("__class__" : Str) = some .free) (hp : (fd.params.posonlyargs ++ fd.params.args).head? = some ar)
    (har : F.scope.names.lookup ar.arg = some .local) (lk : K.lookup f = some ⟨oc, od, .func fd, osl⟩) (hi : N[n]? = some ar.arg) (hv : σ[n]? = some (some (.ref a))) (ea : H a = some (exo a C none))
    (hE : PE (ncx CX P w K mg base N F f A outer s0 H0 E) e te)
    (he : ∃ pl, eval (supE e p0 p1 p2 p3) (envF F f s0.heap.objs.size) = (do
      let ov ← attributeBase (.Call (.Name "super" p0) [] [] p1) "__init__" (envF F f s0.heap.objs.size) (eval (.Call (.Name "super" p0) [] [] p1) (envF F f s0.heap.objs.size))
      standAt p2.atName
      let (g, first) ← holding [ov] (getMethod ov "__init__" pl)
      callWith p3 g first (backTo p3 (starEach [e] (envF F f s0.heap.objs.size))) []))
    (hst : starEach [e] (envF F f s0.heap.objs.size) = (false, eval e (envF F f s0.heap.objs.size)) :: starEach [] (envF F f s0.heap.objs.size)) (body : List Stmt)
    (h : te σ H fun x H1 => ([x] : List V).length = 1 ∧ H1 a = some (exo a C none) ∧ R H1)
    (hR : ∀ H1 s', Inv (ncx CX P w K mg base N F f A outer s0 H0 E) pins σ H1 s' → R H1 → Q .next s') :
    PySem.wpAt (model P w) (A.deeper (envF F f s0.heap.objs.size)) (.func body (envF F f s0.heap.objs.size)) (exec (.Expr (supE e p0 p1 p2 p3) p4) (envF F f s0.heap.objs.size)) Q
      (ncx CX P w K mg base N F f A outer s0 H0 E).xe s := by
  obtain ⟨cl, cld, csl, hcell⟩ := U.cell
  obtain ⟨ccl, cdd, vs, ccs, file, tf, hcode, hvs, hfile⟩ := U.code
  obtain ⟨nm, q, N', bs, bm, sn, sub, ab, col, dd, k0, k1, k2, k3, k5, hC, hbm⟩ := U.ox.cls
  obtain ⟨pl, he⟩ := he
  have KX : K.In s.heap := I.kIn
  obtain ⟨t1, ho⟩ := exo_at I.hok ea
  obtain ⟨mm, hn, hlk⟩ := id I.loc
  have har' : Vis (envF F f s0.heap.objs.size).scope ar.arg := .inl har
  obtain ⟨u, ru, lu⟩ := hlk n _ _ hi hv har'
  obtain rfl : u = Value.ref a := ru
  have hm : mm ar.arg = some (.ref a) := by
    rcases lu with ⟨_, z⟩ | ⟨z, _⟩
    · exact z
    · rcases z with z | z
      · exact absurd (har.symm.trans z) (by simp)
      · exact absurd (har.symm.trans z) (by simp)
  have hac : a ≠ C := fun z => by
    have e1 := KX _ _ hC
    rw [← z, ho] at e1
    cases e1
  refine ks_wpAt_Expr_any (ks_wpAt_MethodCall (pl := pl) ?_ he) I.quiet rfl
  obtain ⟨mb, hb1, hb2⟩ := I.mod.blt
  refine ks_wpAt_super_base (f := f) (cc := F.c) (body := body) hks hkc (by decide) rfl (KX _ _ lk) rfl hp rfl (KX _ _ hcode) rfl hvs hfile U.top ?_
  refine PySem.W.ks_loadName_global hk hks (Calls.loadGlobal_builtin (I.mod.glob.keeps I.bk) U.sup (hb1.keeps I.bk) ((hb2 _ (by decide)).trans PyProof.Rows.Boot.«super») ⟨rfl, ?_⟩)
  refine wpAny_loadName_free hk hkc (by show F.cl.lookup _ = _; rw [hcl]; rfl) ⟨_, KX _ _ hcell, rfl⟩ ?_
  refine wpAny_loadName_local hk har hn hm ?_
  obtain ⟨hh, g, d, tk, os⟩ := s
  refine ks_wpAny_isType_cls (KX _ _ hC) rfl ⟨rfl, ?_⟩
  refine ks_wpAny_call_super (KX _ _ hC) rfl ho rfl (fun c z => by cases z) (PySem.W.looks_mroIn KX U.mro) (fun h' hso k => ?_)
  have I1 : Inv (ncx CX P w K mg base N F f A outer s0 H0 E) pins σ H ⟨h', g, d, tk, os⟩ := I.kept k
  have KX1 : K.In h' := I1.kIn
  obtain ⟨t2, ho1⟩ := exo_at I1.hok ea
  obtain ⟨cd, hcd, hmro⟩ : ∃ cd, PySem.W.clsIn K C = some cd ∧ cd.mro = .ref C :: bm := by
    refine ⟨_, by unfold PySem.W.clsIn; rw [hC] <;> rfl, rfl⟩
  have hup := U.up
  unfold PySem.W.ks_superIn at hup
  rw [hcd] at hup
  refine PySem.W.kxs_getMethod PySem.W.kxs_ValueError hso (PySem.W.looks_opaque KX1 U.any) (l₀ := cd.mro) (fun A Q E s k q => wpAny_bind ((PySem.W.looks_clsIn KX1 hcd) A _ E s k (wpAny_pure q))) rfl KX1 hup
    ((PySem.W.InstAt.type (od := none) ⟨ho1, rfl, rfl, trivial⟩).andThen (PySem.W.looks_subIn KX1 U.sub)) hac (by decide) ?_
  have hu : (h'.push (PySem.W.kxs_mw "ValueError.__init__" a)).get? h'.objs.size = some (PySem.W.kxs_mw "ValueError.__init__" a) := Heap.get?_push_at rfl rfl
  have I2 : Inv (ncx CX P w K mg base N F f A outer s0 H0 E) pins σ H ⟨h'.push (PySem.W.kxs_mw "ValueError.__init__" a), g, d, tk + 1, os⟩ := I1.kept fun b o z => Heap.get?_push_of_some _ z
  have I3 : Inv (ncx CX P w K mg base N F f A outer s0 H0 E) ((h'.objs.size, PySem.W.kxs_mw "ValueError.__init__" a) :: pins) σ H ⟨h'.push (PySem.W.kxs_mw "ValueError.__init__" a), g, d, tk + 1, os⟩ := by
    refine I2.pins_of fun p hp => ?_
    rcases List.mem_cons.mp hp with rfl | hp
    · refine ⟨hu, I1.hok.fresh (Nat.le_refl _), (Nat.ne_of_gt I1.lt), I1.nofs (Nat.le_refl _), fun v z => by cases z⟩
    · exact I2.pin p (List.mem_append_right _ hp)
  refine PySem.W.kxs_callWith (i := "ValueError.__init__") (x := a) (by rw [hst]; rfl) ?_
  have hpa : PA (ncx CX P w K mg base N F f A outer s0 H0 E) [e] (tCons te tNil) := pa_cons hE pa_nil hst
  have hpr := hpa.run p3 _ _ σ H (fun ws H1 => ws.length = 1 ∧ H1 a = some (exo a C none) ∧ R H1) I3 ?_
  · have hst' : starEach [e] (ncx CX P w K mg base N F f A outer s0 H0 E).env = (false, eval e (envF F f s0.heap.objs.size)) :: starEach [] (envF F f s0.heap.objs.size) := hst
    rw [hst'] at hpr
    rw [hst]
    refine Calls.evalArgs_plain (thn hpr fun us s2 ⟨ws, H2, I4, r, hl, ea2, q⟩ => ⟨?_, ?_⟩)
    · exact (I4.pin _ (List.mem_append_right _ (List.mem_cons_self ..))).1
    · refine mw_call U.ox I4 ((I4.pin _ (List.mem_append_right _ (List.mem_cons_self ..))).1) ea2 ?_ fun s' J => hR H2 s' (J.pins_of fun p hp => J.pin p (List.mem_append_right _ (List.mem_cons_of_mem _ hp))) q
      show us.length ≤ sizeLine
      rw [← Paired.length r, hl, sizeLine_eq]
      omega
  · exact h
end
section
variable {CX : CXT} {P : Program} {w : World} {K : PySem.W.Frag} {mg : Str → Option Value} {base : Heap} {k : Nat} {f cc cda C : Addr} {name qual : Str} {params : Arguments} {scope : Scope} {p0 p1 p2 p3 p4 : Pos} {e : Expr} {rest : List Stmt} {dV kV doc pm ct oc : Value} {an od : Option Addr} {osl : Array (Option Value)} {N ps : List Str} {sp : Sp} {ar : Arg}
abbrev supF (name qual : Str) (params : Arguments) (scope : Scope) (p0 p1 p2 p3 p4 : Pos) (e : Expr) (rest : List Stmt) (cc cda : Addr) : NF := ⟨name, qual, params, Stmt.Expr (supE e p0 p1 p2 p3) p4 :: rest, scope, [(("__class__" : Str), cc)], cda⟩
theorem fn_super (lk : K.lookup f = some ⟨oc, od, .func (PySem.W.ksFn name qual params (Stmt.Expr (supE e p0 p1 p2 p3) p4 :: rest) scope dV kV doc pm an (.ref cda) ct cc), osl⟩)
    (hcd : PySem.W.codeIn K (.ref cda) qual = true) (S : NScope N ps ["__class__"] scope) (U : SupC P K mg C cc cda) (hp : (params.posonlyargs ++ params.args).head? = some ar) (hN0 : N[0]? = some ar.arg)
    (har : scope.names.lookup ar.arg = some .local) (hks : scope.names.lookup ("super" : Str) = some .globalImplicit) (len : ∀ vs H Q E, sp vs H Q E → vs.length = ps.length)
    (hbody : ∀ (A : Around) (outer : List Env) (s : Shared) (H : Hp) (vs : List V) (Q : VK) (E : XK), Room k (A.deeper (envF (supF name qual params scope p0 p1 p2 p3 p4 e rest cc cda) f s.heap.objs.size)) → sp vs H Q E → ∃ te t a,
      PE (ncx CX P w K mg base N (supF name qual params scope p0 p1 p2 p3 p4 e rest cc cda) f A outer s H E) e te ∧
      PSs (ncx CX P w K mg base N (supF name qual params scope p0 p1 p2 p3 p4 e rest cc cda) f A outer s H E) rest t ∧
      vs[0]? = some (V.ref a) ∧ H a = some (exo a C none) ∧ te (startF N vs [none]) H fun x H1 => ([x] : List V).length = 1 ∧ H1 a = some (exo a C none) ∧ t { nx := fun _ H' => Q .non H', rt := Q } (startF N vs [none]) H1)
    (he : ∀ env, ∃ pl, eval (supE e p0 p1 p2 p3) env = (do
      let ov ← attributeBase (.Call (.Name "super" p0) [] [] p1) "__init__" env (eval (.Call (.Name "super" p0) [] [] p1) env)
      standAt p2.atName
      let (g, first) ← holding [ov] (getMethod ov "__init__" pl)
      callWith p3 g first (backTo p3 (starEach [e] env)) []))
    (hst : ∀ env, starEach [e] env = (false, eval e env) :: starEach [] env) :
    FnOk P w K mg base CX (k + 1) f (PySem.W.ksFn name qual params (Stmt.Expr (supE e p0 p1 p2 p3) p4 :: rest) scope dV kV doc pm an (.ref cda) ct cc) ps sp := by
  refine ⟨len, fun A outer s H args us vs Q E hr e0 hb r hsp => ?_⟩
  have hl := len _ _ _ _ hsp
  have KX : K.In s.heap := e0.mod.kin.keeps fun b o e => (e0.bs b o e).1
  have lim : s.heap.NoLimit := e0.mod.nolimit.keeps fun b o e => (e0.bs b o e).1
  obtain ⟨te, t, a, hE, hT, hv, ea, hq⟩ := hbody A outer s H vs Q E (hr.deeper _) hsp
  obtain ⟨cl, cld, csl, hcell⟩ := U.cell
  have hcc : s.heap.IsCell cc (some (.ref C)) := ⟨_, KX _ _ hcell, rfl⟩
  have CA : CellsAt (supF name qual params scope p0 p1 p2 p3 p4 e rest cc cda).cl ["__class__"] [none] s.heap H := by
    have one : ∀ y c, List.lookup y [(("__class__" : Str), cc)] = some c → y = ("__class__" : Str) ∧ c = cc := fun y c z => by
      by_cases hy : y = ("__class__" : Str)
      · subst hy
        have z2 : some cc = some c := z
        exact ⟨rfl, (Option.some.inj z2).symm⟩
      · have hy' : (y == ("__class__" : Str)) = false := by simpa using hy
        simp [List.lookup, hy'] at z
    refine ⟨rfl, fun y c z => ?_, fun x y c z1 z2 => (one x c z1).1.trans (one y c z2).1.symm, fun i y z => ?_⟩
    · obtain ⟨_, rfl⟩ := one y c z
      exact ⟨(e0.bs _ _ (e0.mod.kin _ _ hcell)).2, _, hcc⟩
    · have hi : i = 0 := by
        cases i with
        | zero => rfl
        | succ i => simp at z
      subst hi
      obtain rfl : ("__class__" : Str) = y := by simpa using z
      exact ⟨cc, rfl, fun v z2 => by simp at z2⟩
  refine ks_codeAny_call_defAt (body := Stmt.Expr (supE e p0 p1 p2 p3) p4 :: rest) (binds := ps.zip us) hr.depth (KX _ _ lk) rfl lim (PySem.W.codeRec_of KX hcd) rfl hb S.nocell (fun y hy => S.par y.1 (List.of_mem_zip hy).1) (fun h₁ hns kp => ?_) S.co S.gen S.kind
  have I : Inv (ncx CX P w K mg base N (supF name qual params scope p0 p1 p2 p3 p4 e rest cc cda) f A outer s H E) [] (startF N vs [none]) H { s with heap := h₁, toks := s.toks + (ps.zip us).length } := inv_startN S hr.hd e0 hl r CA hns kp
  have hs0 : (startF N vs [none])[0]? = some (some (.ref a)) := by
    unfold startF
    cases vs with
    | nil => simp at hv
    | cons v vs =>
      simp at hv
      simp [hv]
  refine ks_wpAt_execs_cons (sup_stmt (R := fun H1 => t { nx := fun _ H' => Q .non H', rt := Q } (startF N vs [none]) H1) U I rfl S.kind hks (S.frk _ (by simp)) (fd := PySem.W.ksFn name qual params (Stmt.Expr (supE e p0 p1 p2 p3) p4 :: rest) scope dV kV doc pm an (.ref cda) ct cc) hp har lk hN0 hs0 ea hE (he _) (hst _) _ hq (fun H1 s' J hR => ?_))
  refine wpAt_of_wpAny (wpAny_mono (hT.run [] s' _ H1 _ J hR) (fun fl s'' hs => ?_) fun _ _ z => z)
  have fin : ∀ {σ' : L2.St} {H' : Hp} {v : V} {u : Value}, Inv (ncx CX P w K mg base N (supF name qual params scope p0 p1 p2 p3 p4 e rest cc cda) f A outer s H E) [] σ' H' s'' → L2.RelV v u → Q v H' → CE outer P w H s Q u s'' :=
    fun {σ' H' v u} J rv q => ⟨v, H', J.os, J.bare, J.base, J.hok, rv, q⟩
  cases fl with
  | ret u =>
    obtain ⟨v, σ', H', J, rv, q⟩ := hs
    exact fin J rv q
  | next =>
    obtain ⟨σ', H', J, q⟩ := hs
    exact fin (v := V.non) (u := Value.none) J rfl q
  | brk =>
    obtain ⟨_, _, _, q⟩ := hs
    exact False.elim q
  | cont =>
    obtain ⟨_, _, _, q⟩ := hs
    exact False.elim q
end
end Sb
set_option Elab.async false
set_option maxRecDepth 100000
set_option maxHeartbeats 4000000
/-! More rules over the layer (own work): isinstance of a caught exception that has a dict; a local name that holds one of two defs that raise; keywords in a call that may raise, at the slots. -/
namespace Sb
open PySem PySem.Spec PyProof.Rows L2
section
open PySem.W
variable {prog : Program} {w : World} {A : Around} {E : Value → Shared → Prop} {s : Shared} {K : Frag} {x D : Addr} {ox : Obj} {od : Option Obj}
theorem findObj_dataD {C : Addr} {name : Str} {a g : Value} (hc : (clsIn K C).isSome = true) (ha : findIn K (.ref C) name = some (some a)) (hg : specialIn K a "__get__" = some (some g)) (ht : takesIn K a = some true) : findObj K C od name = some (.bind g a) := by
  obtain ⟨cd, hc⟩ := Option.isSome_iff_exists.mp hc
  unfold findObj
  rw [hc, Option.bind_some, ha, Option.bind_some]
  simp [hg, ht]
theorem kin_classD {Q : Option Value → Shared → Prop} (C : ExcC K D) (X : K.In s.heap) (I : InstAt s.heap x ox D od) (h : Q (some (.ref D)) { s with toks := s.toks + 1 }) : wpAny (model prog w) A (getAttr? (.ref x) "__class__") Q E s := by
  have hf : findObj K D od "__class__" = some (.bind (.builtin "getset_descriptor.__get__") (.builtin "object.__class__")) := findObj_dataD (by obtain ⟨cd, hc, _⟩ := any_some C.hd; rw [hc]; rfl) C.ha C.hn C.ht
  obtain ⟨hp, g, d, t, os⟩ := s
  have L0 := I.type (M := model prog w)
  have L1 := looks_findIn (M := model prog w) X C.hg
  have L2 := looks_findIn (M := model prog w) X C.hk
  have L3 := looks_find (M := model prog w) X I hf
  have sub : Looks (model prog w) hp (isInstance (.ref x) (.type "BaseException")) true := L0.andThen (looks_subIn X C.hs)
  have hx0 : (false && onTheHeap (Value.builtin "BaseException.__getattribute__")) = false := rfl
  have hx2 : (Value.builtin "BaseException.__getattribute__" == Value.builtin "object.__getattribute__") = false := by decide +kernel
  have hx1 : (onTheHeap (Value.ref D) && Value.builtin "BaseException.__getattribute__" == Value.builtin "object.__getattribute__") = false := by rw [hx2]; rfl
  unfold getAttr? getAttrBy? getAttrBy
  refine wpAny_bind (wpAny_mkText (wpAny_bind (wpAny_attempt (wpAny_holding (wpAny_bind (L0.at (wpAny_bind (L1.at ?_))))))))
  show wpAny _ _ (if (onTheHeap (Value.ref D) && Value.builtin "BaseException.__getattribute__" == Value.builtin "object.__getattribute__") = true then _ else _) _ _ _
  rw [hx1, if_neg Bool.false_ne_true]
  unfold getAttrByItsOwn hookBefore
  refine wpAny_bind ?_
  rw [if_pos (show onTheHeap (Value.ref D) = true from rfl)]
  refine L2.at ?_
  refine wpAny_bind (wpAny_attempt (wpAny_holding ?_))
  unfold callGetattribute
  rw [hx0, if_neg Bool.false_ne_true]
  unfold boundAndCalled
  rw [PySem.F.excAttr_ValueError.ga.bind (.ref x)]
  refine wpAny_bind (wpAny_pure ?_)
  show wpAny _ _ (call (.builtin "BaseException.__getattribute__") [.ref x, .str "__class__" t]) _ _ _
  refine wpAny_call (codeAny_call_builtin PySem.F.excAttr_ValueError.ga.plain PySem.F.entry_bexc_ga ?_)
  refine @check_slot (model prog w) _ _ ⟨hp, g, d, t + 1, os⟩ "BaseException.__getattribute__" "BaseException" "__getattribute__" (.ref x) [.str "__class__" t] [] _ (by decide +kernel) (by decide +kernel) sub (PySem.F.args_bexc_ga (.ref x) (.str "__class__" t)) ?_
  unfold Builtin.«object.__getattribute__»
  refine wpAny_bind (wpAny_of_eq (a := ((Value.ref x : Value), [Value.str "__class__" t])) (by first | rfl | (simp only [slotArgs]; rfl)) ?_)
  refine wpAny_bind (wpAny_pure (wpAny_bind (L0.at (wpAny_bind (L3.at ?_)))))
  show wpAny _ _ (holding [Value.builtin "object.__class__"] (call (.builtin "getset_descriptor.__get__") [.builtin "object.__class__", .ref x, .ref D]) >>= ret) _ _ _
  refine wpAny_bind (wpAny_holding (wpAny_call (class_get (s := ⟨hp, g, d, t + 1, os⟩) (ox := ox) (od := od) X I C.hm ?_)))
  refine wpAny_pure ?_
  show wpAny _ _ (handedOut (.ref D)) _ _ _
  rw [handedOut_of (v := .ref D) rfl]
  first
    | exact wpAny_pure (wpAny_pure h)
    | exact wpAny_pure h
    | exact wpAny_pure (wpAny_bind (wpAny_pure (wpAny_pure h)))
theorem kitx_excD (C : ExcC K D) : KitX K (.ref x) (.ref D) (fun h => InstAt h x ox D od) where
  ty := fun _ _ _ I => I.type
  it := fun _ _ X _ => by
    obtain ⟨cdD, hcD, _⟩ := any_some C.hd
    unfold clsIn at hcD
    split at hcD
    · rename_i c' d' cd' sl' ho
      intro A' Q' E' s' k q
      unfold isType loadHead
      exact wpAny_bind (wpAny_loadPart (k _ _ (X _ _ ho)) (wpAny_pure q))
    · cases hcD
  ne := fun h tp dd its n sl X htp => by
    obtain ⟨cdD, hcD, _⟩ := any_some C.hd
    refine Bool.eq_false_iff.mpr fun q => ?_
    have e : D = tp := Value.ref.inj (beq_iff_eq.mp q)
    subst e
    unfold clsIn at hcD
    split at hcD
    · rename_i c' d' cd' sl' ho
      have z := (X _ _ ho).symm.trans htp
      cases z
    · cases hcD
  ca := fun X I k => kin_classD C X I k
end
/-- an expression's answers in one: R says what is needed of them -/
def tCutE (t : TE) : TE := fun σ H Q => ∃ R : V → Hp → Prop, t σ H R ∧ ∀ v H', R v H' → Q v H'
theorem pe_cut {X : Cx} {e : Expr} {t : TE} (h : PE X e t) : PE X e (tCutE t) := by
  refine ⟨fun pins s σ H Q I hq => ?_⟩
  obtain ⟨R, h1, h2⟩ := hq
  exact thn (h.run pins s σ H R I h1) fun u s1 ⟨v, H1, I1, r1, q1⟩ => ⟨v, H1, I1, r1, h2 v H1 q1⟩
/-- isinstance(e, c), e the exception (with its dict) that the suite holds -/
def rIsD (K : PySem.W.Frag) (cls : Value) (d : Option Addr) (a : Addr) : List V → Hp → VK → Prop := fun xs H Q => ∃ (D dd : Addr) (c : V) (cv : Value) (b : Bool) (fs : List (Str × V)), cls = .ref D ∧ d = some dd ∧ ExcC K D ∧ xs = [.ref a, c] ∧ H dd = some (.xd fs) ∧ (∀ u, RelV c u → u = cv) ∧ PySem.W.kitOne K (.ref D) cv = some b ∧ Q (.bl b) H
theorem call_isD {X : Cx} {a : Addr} {cls : Value} {d : Option Addr} {oe : Obj} {pn : List (Addr × Obj)} (hz : Zc cls d oe) (hf : ∃ vs, oe.data = .fields vs) : CallR (X.suite a ((a, oe) :: pn)) (.builtin "isinstance") (rIsD X.K cls d a) := by
  intro pins s σ H xs us Q I r h
  obtain ⟨D, dd, c, cv, b, fs, rfl, rfl, C, rfl, hd, hcv, e, q⟩ := h
  cases r with
  | cons rx rr =>
    cases rr with
    | cons rt rr =>
      cases rr
      cases rx
      have ec := hcv _ rt
      subst ec
      obtain ⟨hget, _⟩ := I.pin (a, oe) (List.mem_append.mpr (.inl List.mem_cons_self))
      obtain ⟨vs, hv⟩ := hf
      have hx : ObjOk X.prog X.w H s.heap dd (.xd fs) := I.hok dd _ hd
      obtain ⟨mA, ⟨od, es, ep, ho, hrr⟩, hr⟩ := hx
      have J : PySem.W.InstAt s.heap a oe D (some od) := by
        obtain ⟨oc, od', oda, osl⟩ := oe
        obtain ⟨h1, h2⟩ := hz
        dsimp only at h1 h2 hv
        subst h1 h2 hv
        exact ⟨hget, rfl, rfl, ho⟩
      exact PySem.W.kia_one (kitx_excD C) I.kIn J e (fun z => nomatch z) fun tk => ⟨.bl b, H, I.kept (t' := tk) fun _ _ z => z, rfl, q⟩

/-! ### a local name that holds one of two defs, both may raise -/
structure CalX (P : Program) (w : World) (K : PySem.W.Frag) (mg : Str → Option Value) (base : Heap) (CX : CXT) (k : Nat) (f : Addr) (sp : Sp) : Prop where
  ex : ∃ (fd : FuncData) (ps : List Str), FnOk P w K mg base CX k f fd ps sp ∧ PySem.W.keepIn K (.ref f) = true ∧ Binds K fd ps []
def tCallVX (i : Nat) (f1 f2 : Addr) (sp1 sp2 : Sp) (E : XK) (t : TA) : TE := fun σ H Q => (σ[i]? = some (some (.ref f1)) ∧ t σ H fun vs H1 => sp1 vs H1 Q E) ∨ (σ[i]? = some (some (.ref f2)) ∧ t σ H fun vs H1 => sp2 vs H1 Q E)
section
variable {X : Cx} {CX : CXT} {j : Nat} {x : Str} {E : XK} {p pos : Pos} {e : Expr} {es : List Expr} {t : TA}
theorem pe_cvX {i k1 k2 : Nat} {f1 f2 : Addr} {sp1 sp2 : Sp} (c1 : CalX X.prog X.w X.K X.mg X.base CX k1 f1 sp1) (c2 : CalX X.prog X.w X.K X.mg X.base CX k2 f2 sp2) (hr : Room j X.A) (hk1 : k1 ≤ j) (hk2 : k2 ≤ j) (hx : Passes CX X E) (hN : X.N[i]? = some x) (hv : Vis X.env.scope x) (ha : PA X (e :: es) t)
    (hd : (x == ("__debug__" : Str)) = false := by decide) (hcd : (x == ("__classdict__" : Str)) = false := by decide)
    (he : starEach (e :: es) X.env = (false, eval e X.env) :: starEach es X.env := by rfl) (hpl : (backTo pos (starEach es X.env)).any (·.1) = false := by rfl) :
    PE X (.Call (.Name x p) (e :: es) [] pos) (tCallVX i f1 f2 sp1 sp2 E t) := by
  refine ⟨fun pins s σ H Q I h => ?_⟩
  have go : ∀ {k : Nat} {f : Addr} {sp : Sp}, CalX X.prog X.w X.K X.mg X.base CX k f sp → k ≤ j → σ[i]? = some (some (.ref f)) → (t σ H fun vs H1 => sp vs H1 Q E) → wpAny (model X.prog X.w) X.A (eval (.Call (.Name x p) (e :: es) [] pos) X.env) (EP X pins σ Q) X.xe s := fun {k f sp} c hk hs ht => by
    obtain ⟨fd, ps, F, kp, b⟩ := c.ex
    refine wpAny_Call_Name_kw (thn ((pe_var (pos := p) hN hv hd hcd).run pins s σ H (fun v H1 => v = .ref f ∧ H1 = H) I ⟨.ref f, hs, rfl, rfl⟩) fun u s1 ⟨v, H1, I1, r1, q1⟩ => ?_)
    obtain ⟨rfl, rfl⟩ := q1
    cases r1
    refine PySem.W.callWith_K (h₀ := X.base) I.ok.mod.kin kp (thn (ha.run pos pins s1 σ _ _ I1 ht) fun us s2 ⟨vs, H2, I2, r, q⟩ => ⟨I2.kIn, ?_⟩) he hpl
    exact run_fn F (hr.mono hk) b .nil hx I2 r (by rw [List.append_nil]; exact q)
  rcases h with ⟨h1, h2⟩ | ⟨h1, h2⟩
  · exact go c1 hk1 h1 h2
  · exact go c2 hk2 h1 h2
end

/-! ### f(e, .., k = v, ..), what it lets out told at the slots -/
def tCallNS (n m : Nat) (sp : Sp) (gV : List V → List V → List V) (E : L2.St → XK) (t tk : TA) : TE := fun σ H Q => t σ H fun vs H1 => tk σ H1 fun zs H2 => vs.length = n ∧ zs.length = m ∧ sp (gV vs zs) H2 Q (E σ)
section
variable {X : Cx} {CX : CXT} {k n : Nat} {f : Addr} {fd : FuncData} {ps ks : List Str} {sp : Sp} {E : L2.St → XK} {x : Str} {p pos : Pos} {e : Expr} {es : List Expr} {kws : List Keyword} {t tk : TA} {g : List Value → List Value → List Value} {gV : List V → List V → List V}
theorem run_fnNS {pins : List (Addr × Obj)} {σ : L2.St} {H : Hp} {s : Shared} {Q : VK} {us ws : List Value} {vs zs : List V} (F : FnOk X.prog X.w X.K X.mg X.base CX k f fd ps sp) (hr : Room k X.A) (hb : KBn X.K fd ps n ks g gV) (hx : PassesAt CX X σ (E σ))
    (I : Inv X pins σ H s) (r : Vals vs us) (rz : Vals zs ws) (l1 : vs.length = n) (l2 : zs.length = ks.length) (h : sp (gV vs zs) H Q (E σ)) : wpAny (model X.prog X.w) X.A (call (.ref f) us (ks.zip ws)) (EP X pins σ Q) X.xe s := by
  have r2 := hb.rel r rz
  refine wpAny_call (codeAny_mono (F.run X.A X.stack s H ⟨us, ks.zip ws⟩ (g us ws) (gV vs zs) Q (E σ) hr I.env0 (hb.to s us ws I.kIn (r.length.symm.trans l1) (rz.length.symm.trans l2)) r2 h) fun r s' hq => ?_)
  cases r with
  | error e => exact hx pins H s e s' I hq
  | ok fl =>
    cases fl with
    | ret u => exact I.after hq
    | next => exact False.elim hq
    | brk => exact False.elim hq
    | cont => exact False.elim hq
theorem pe_callNS (F : FnOk X.prog X.w X.K X.mg X.base CX k f fd ps sp) (hr : Room k X.A) (hg : Gl X x) (hm : X.mg x = some (.ref f)) (hk : PySem.W.keepIn X.K (.ref f) = true) (hb : KBn X.K fd ps n ks g gV) (hx : ∀ σ, PassesAt CX X σ (E σ))
    (ha : PA X (e :: es) t) (hkw : PK X kws tk) (hall : (backToKw pos (keywordEach kws X.env)).all (·.1.isSome) = true := by rfl) (hks : (backToKw pos (keywordEach kws X.env)).filterMap (·.1) = ks := by rfl)
    (hdb : (x == ("__debug__" : Str)) = false := by decide) (he : starEach (e :: es) X.env = (false, eval e X.env) :: starEach es X.env := by rfl)
    (hpl : ((backTo pos (starEach (e :: es) X.env)).any (·.1) || (backToKw pos (keywordEach kws X.env)).any (·.1.isNone)) = false := by rfl) :
    PE X (.Call (.Name x p) (e :: es) kws pos) (tCallNS n ks.length sp gV E t tk) := by
  refine ⟨fun pins s σ H Q I h => ?_⟩
  refine wpAny_Call_Name_kw (ld_glob I hg hm ?_ hdb)
  refine PySem.W.callWith_KW (h₀ := X.base) I.ok.mod.kin hk hall (thn (ha.run pos pins s σ H _ I h) fun us s1 ⟨vs, H1, I1, r, q⟩ => ?_) hpl he
  refine thn (hkw.run pos pins s1 σ H1 _ I1 q) fun ws s2 ⟨zs, H2, I2, rz, l1, l2, q2⟩ => ⟨I2.kIn, ?_⟩
  rw [hks]
  exact run_fnNS F hr hb (hx σ) I2 r rz l1 l2 q2
end
section
variable {K : PySem.W.Frag} {x qual : Str} {params : Arguments} {body : List Stmt} {scope : Scope} {kws : List (Str × V)} {f : Addr} {fd : FuncData} {ps : List Str}
/-- f(e, .., k = v, ..) where only keyword-only parameters have defaults; ms: those that lack -/
theorem kbinds0 (F : FunD K x qual params body scope [] kws f fd) (n : Nat) (ks : List Str) (ms : List (Str × V)) (g : {α : Type} → List α → List α → List α → List α) (hk : kws ≠ []) (hms : ∀ q ∈ ms, q ∈ kws)
    (hrel : ∀ {vs mz zs : List V} {us mv ws : List Value}, Vals vs us → Vals mz mv → Vals zs ws → Vals (g vs mz zs) (g us mv ws))
    (h : ∀ (D : Addr) (doc pm : Value) (an : Option Addr) (cdv ct : Value) (us mv ws : List Value), us.length = n → mv.length = ms.length → ws.length = ks.length →
      KwChain D ((ms.map (·.1)).zip mv) (bindArgs (PySem.W.fnOf x qual params body scope .none (.ref D) doc pm an cdv ct) ⟨us, ks.zip ws⟩) (ps.zip (g us mv ws))) :
    ∃ mv : List Value, KBn K fd ps n ks (fun us ws => g us mv ws) (fun vs zs => g vs (ms.map (·.2)) zs) := by
  obtain ⟨oc, od, dV, kV, doc, pm, an, cdv, ct, osl, rfl, lk, hcd, hD, hK⟩ := F.ex
  rcases hD with ⟨_, rfl⟩ | ⟨e, _⟩
  · rcases hK with e | ⟨D, rfl, hq⟩
    · exact absurd e hk
    · obtain ⟨mv, hl, rk, hks⟩ := kwd_vals (ms := ms) fun q hm => hq q (hms q hm)
      refine ⟨mv, ⟨fun s us ws X l1 l2 => ?_, fun r1 r2 => hrel r1 rk r2⟩⟩
      exact BindsTo.of_looks fun M => KwChain.looks X hks (h D doc pm an cdv ct us mv ws l1 hl l2)
  · exact absurd rfl e
end
end Sb
set_option Elab.async false
set_option maxRecDepth 100000
set_option maxHeartbeats 4000000
/-! Own words: paired lists, places, heaps. -/
namespace Sb
open PySem PySem.Spec PyProof.Rows L2 SX
theorem paired_mono {α β : Type} {F G : α → β → Prop} (h : ∀ a b, F a b → G a b) : ∀ {l : List α} {m : List β}, Paired F l m → Paired G l m
  | _, _, .nil => .nil
  | _, _, .cons r t => .cons (h _ _ r) (paired_mono h t)
theorem paired_len {α β : Type} {F : α → β → Prop} : ∀ {l : List α} {m : List β}, Paired F l m → l.length = m.length
  | _, _, .nil => rfl
  | _, _, .cons _ t => by simp [paired_len t]
theorem paired_get {α β : Type} {F : α → β → Prop} : ∀ {l : List α} {m : List β} {i : Nat} {a : α}, Paired F l m → l[i]? = some a → ∃ b, m[i]? = some b ∧ F a b
  | _, _, i, _, .nil, h => by simp at h
  | _, _, 0, _, .cons r _, h => by simp at h; subst h; exact ⟨_, rfl, r⟩
  | _, _, i + 1, _, .cons _ t, h => by
    obtain ⟨b, h1, h2⟩ := paired_get (i := i) t (by simpa using h)
    exact ⟨b, by simpa using h1, h2⟩
theorem paired_get2 {α β : Type} {F : α → β → Prop} : ∀ {l : List α} {m : List β} {i : Nat} {b : β}, Paired F l m → m[i]? = some b → ∃ a, l[i]? = some a ∧ F a b
  | _, _, i, _, .nil, h => by simp at h
  | _, _, 0, _, .cons r _, h => by simp at h; subst h; exact ⟨_, rfl, r⟩
  | _, _, i + 1, _, .cons _ t, h => by
    obtain ⟨b, h1, h2⟩ := paired_get2 (i := i) t (by simpa using h)
    exact ⟨b, by simpa using h1, h2⟩
theorem paired_app {α β : Type} {F : α → β → Prop} : ∀ {l l' : List α} {m m' : List β}, Paired F l m → Paired F l' m' → Paired F (l ++ l') (m ++ m')
  | _, _, _, _, .nil, h => h
  | _, _, _, _, .cons a t, h => .cons a (paired_app t h)
theorem paired_take {α β : Type} {F : α → β → Prop} : ∀ {l : List α} {m : List β} (n : Nat), Paired F l m → Paired F (l.take n) (m.take n)
  | _, _, 0, _ => .nil
  | _, _, _ + 1, .nil => .nil
  | _, _, n + 1, .cons a t => .cons a (paired_take n t)
theorem lt_sz {n : Nat} (h : n ≤ 200000) : n ≤ sizeLine := Nat.le_trans h (by decide)
theorem lt_sz' {n : Nat} (h : n ≤ 200000) : n < sizeLine := Nat.lt_of_le_of_lt h (by decide)
theorem at0 {α : Type} {x : α} {l : List α} : atI (x :: l) 0 = some x := atI_nat (j := 0) rfl
theorem at1 {α : Type} {x y : α} {l : List α} : atI (x :: y :: l) 1 = some y := atI_nat (j := 1) rfl
theorem at2 {α : Type} {x y z : α} {l : List α} : atI (x :: y :: z :: l) 2 = some z := atI_nat (j := 2) rfl
theorem at3 {α : Type} {x y z u : α} {l : List α} : atI (x :: y :: z :: u :: l) 3 = some u := atI_nat (j := 3) rfl
theorem atI2 {α : Type} {x : α} {l : List α} {i : Int} {j : Nat} (hi : i = (j : Int)) (h : l[j]? = some x) : atI l i = some x := by
  subst hi
  exact atI_nat h
theorem take_next {α : Type} {l : List α} {i : Nat} {x : α} (h : l[i]? = some x) : l.take (i + 1) = l.take i ++ [x] := by rw [List.take_add_one, h]; rfl
theorem kp_same {p : Addr} {H0 H H' : Hp} (s : Same H0 H) (h0 : H0 p = none) (k : Kp p H H') : Same H0 H' := fun b o e => k.1 b o (ne_of_none e h0) (s b o e)
theorem Dr.ext {p : Addr} {H H' : Hp} (d : Dr H p) (s : Same H H') : Dr H' p := by
  obtain ⟨z, h⟩ := d
  exact ⟨z, s _ _ h⟩
theorem new_ne {p t : Addr} {H : Hp} (d : Dr H p) (h : H t = none) : t ≠ p := fun z => by
  obtain ⟨y, hy⟩ := d
  rw [z, hy] at h
  cases h
/-- all stands but the object at L -/
def KpL (L : Addr) (H H' : Hp) : Prop := ∀ b o, b ≠ L → H b = some o → H' b = some o
theorem KpL.refl {L : Addr} {H : Hp} : KpL L H H := fun _ _ _ h => h
theorem KpL.trans {L : Addr} {H H1 H2 : Hp} (a : KpL L H H1) (b : KpL L H1 H2) : KpL L H H2 := fun x o hx h => b x o hx (a x o hx h)
theorem KpL.of_same {L : Addr} {H H1 : Hp} (s : Same H H1) : KpL L H H1 := fun x o _ h => s x o h
theorem KpL.upd {L : Addr} {H : Hp} {o : HO} : KpL L H (upd H L o) := fun x u hx h => by rw [upd_ne hx]; exact h
/-- a heap that does not know L keeps everything -/
theorem KpL.same {L : Addr} {H0 H H' : Hp} (k : KpL L H H') (s : Same H0 H) (h : H0 L = none) : Same H0 H' := fun b o e => k b o (ne_of_none e h) (s b o e)
theorem same_refl {H : Hp} : Same H H := fun _ _ h => h
theorem same_trans {H H1 H2 : Hp} (a : Same H H1) (b : Same H1 H2) : Same H H2 := fun x o h => b x o (a x o h)
end Sb
set_option Elab.async false
set_option maxRecDepth 100000
set_option maxHeartbeats 4000000
/-! Own rule: a list comprehension whose item may let an exception out (of a call). -/
namespace Sb
open PySem PySem.Spec PyProof.Rows L2
open HandSPX (FlyingZ HeldZ TracedZ Steady)

theorem note_same {e : Value} {v u : Env} (h : v.frame = u.frame) : noteFrame e v = noteFrame e u := by
  unfold noteFrame PySem.frameOf
  rw [h]

/-- noted by the frame that holds it -/
theorem sky_noted {M : Model} {A : Around} {E₁ : Value → Shared → Prop} {v : Env} {out : List Env} {L a : Addr} {Z : Obj → Prop} {Q : Unit → Shared → Prop} {B : Heap} {s : Shared} (hZ : Steady Z) (hfr : A.frames = some (v :: out)) (hf : v.frame = some L)
    (x : Sky B (v :: out) a Z L s.heap) (k : ∀ h1, HeldZ B (v :: out) a Z L h1 → s.heap.UpToSlots h1 → Q () { s with heap := h1 }) : wpAny M A (noteFrame (.ref a) v) Q E₁ s := by
  rcases x with ⟨p1, p2, p3, ob, fs, p4, p5, p6, p7⟩ | fl | hh
  · exact HandSPX.look_newZ hZ hfr p3 hf p4 p1 p2 p6 p7 p5 k
  · exact HandSPX.looks_onZ hZ hfr hf fl k
  · exact HandSPX.againZ hf hh.2.2.2 (k s.heap hh (Heap.UpToSlots.refl _))

theorem frames_but {B h h' : Heap} : ∀ {l : List Env}, (∀ b ∈ frs l, ∀ o, h.get? b = some o → h'.get? b = some o) → h.FunFrames B l → h'.FunFrames B l
  | [], _, _ => trivial
  | v :: l, k, ⟨p, ⟨L, o, q1, q2, q3, q4⟩, r⟩ => by
    have m : L ∈ frs (v :: l) := List.mem_filterMap.mpr ⟨v, List.mem_cons_self, q1⟩
    refine ⟨p, ⟨L, o, q1, q2, k L m o q3, q4⟩, frames_but (fun b hb => k b ?_) r⟩
    obtain ⟨y, my, q⟩ := List.mem_filterMap.mp hb
    exact List.mem_filterMap.mpr ⟨y, List.mem_cons_of_mem _ my, q⟩

section
variable {X : Cx} {pins : List (Addr × Obj)} {σ : L2.St} {H : Hp} {s : Shared}
/-- what a call let out, over the pins and the slots that stood -/
theorem air_of {E : XK} {u : Value} {s' : Shared} (I : Inv X pins σ H s) (c : L2.CX X.prog X.w X.stack H s E u s') :
    ∃ (e : Addr) (B : Heap) (t : Shared) (J : Hp) (cls : Value) (d : Option Addr), u = .ref e ∧ Inv X pins σ J t ∧ (∀ b o, t.heap.get? b = some o → b ∉ frs X.stack → B.get? b = some o) ∧ t.heap.UpToSlots s'.heap ∧ FlyingZ B X.stack e (Zc cls d) s'.heap ∧ J e = none ∧ s'.os = t.os ∧ AllBare s'.gens ∧ E cls d J ∧
      (∀ b o, s.heap.get? b = some o → H b = none → b ∉ frs X.stack → B.get? b = some o ∧ J b = none) := by
  obtain ⟨e, B, J, cls, d, rfl, fl, ok, ub, je, os, ag, w⟩ := c
  obtain ⟨G, in_, out⟩ := restrict s'.heap fun b => (B.get? b).isSome || decide (b ∈ frs X.stack)
  have stays : B.StaysIn s'.heap := fl.1
  have toG : ∀ b o, B.get? b = some o → G.get? b = some o := fun b o q => (in_ b (by simp [q])).trans (stays b o q)
  have frG : ∀ b, b ∈ frs X.stack → G.get? b = s'.heap.get? b := fun b q => in_ b (by simp [q])
  have ofG : ∀ b o, G.get? b = some o → s'.heap.get? b = some o ∧ ((B.get? b).isSome = true ∨ b ∈ frs X.stack) := fun b o q => by
    cases z : ((B.get? b).isSome || decide (b ∈ frs X.stack)) with
    | false => rw [out b z] at q; cases q
    | true => exact ⟨(in_ b z).symm.trans q, by simpa [Bool.or_eq_true] using z⟩
  refine ⟨e, B, { s with heap := G, gens := s'.gens, drawn := s'.drawn, toks := s'.toks }, J, cls, d, rfl, ?_, fun b o q nb => ?_, Heap.UpToSlots.of_keeps fun b o q => (ofG b o q).1, fl, je, os, ag, w, fun b o q n nb => ⟨ub.keep b o q n nb, ub.free b o q n⟩⟩
  · refine I.call (ch := []) ⟨fun b o q n nb _ => toG b o (ub.keep b o q n nb), fun b o q _ m _ => ?_, fun b o q n _ => ub.free b o q n, fun b o q _ => ?_, ub.tups, ub.frzs, ub.tbls⟩ (ok.kept toG) ag (fun _ z => nomatch z)
    · obtain ⟨sl, z⟩ := ub.slot b o q m
      exact ⟨sl, (frG b m).trans z⟩
    · by_cases m : b ∈ frs X.stack
      · obtain ⟨sl, z⟩ := ub.slot b o q m
        exact ⟨_, (frG b m).trans z⟩
      · obtain ⟨o', z⟩ := ub.there b o q m
        exact ⟨o', toG b o' z⟩
  · obtain ⟨z, h⟩ := ofG b o q
    rcases h with h | h
    · obtain ⟨o', r⟩ := Option.isSome_iff_exists.mp h
      have := stays b o' r
      rw [z] at this; cases this
      exact r
    · exact absurd h nb

/-- handed on behind the block: the block's own names at C are let go -/
theorem handed_on {W : WX} {C e : Addr} {B : Heap} {t s' : Shared} {J : Hp} {cls : Value} {d : Option Addr} {oC : Obj} {ce : Env} {what : String} (tk : Takes X W) (I : Inv X pins σ J t) (fC : FpOk X pins J C) (nC : C ∉ frs X.stack) (hce : ce.frame = some X.env.locals)
    (nb : ∀ b o, t.heap.get? b = some o → b ∉ frs X.stack → B.get? b = some o) (up : t.heap.UpToSlots s'.heap) (hh : HeldZ B X.stack e (Zc cls d) X.env.locals s'.heap) (hC : s'.heap.get? C = some oC) (dC : ∀ vs, oC.data ≠ .fields vs) (je : J e = none) (os : s'.os = t.os) (ag : AllBare s'.gens) (w : W cls d σ J)
    {h2 : Heap} (sb : Heap.SameBut C s'.heap h2) : wpAny (model X.prog X.w) X.A (PySem.passOn what (.ref e) ce : Sem Value) (fun _ _ => False) X.xe { s' with heap := h2 } := by
  obtain ⟨st, be, ff, oe, vs, T, oT, ts, x1, x2, x3, x4, x5, x6, x7, x8, x9⟩ := hh
  have eC : e ≠ C := fun z => by rw [z, hC] at x1; cases x1; exact dC _ x3
  have TC : T ≠ C := fun z => by rw [z, hC] at x7; cases x7; exact dC _ x8
  have e2 : h2.get? e = some oe := (sb.2 e eC).trans x1
  have B2 : ∀ b o, (PySem.W.hideAll B [C]).get? b = some o → B.get? b = some o ∧ b ≠ C := fun b o q => ⟨PySem.W.of_hideAll _ q, fun z => by
    subst z
    have := (PySem.W.hideAll_none [b] (h := B) List.mem_cons_self).symm.trans q
    cases this⟩
  have nB2 : ∀ b, B.get? b = none → (PySem.W.hideAll B [C]).get? b = none := fun b q => by
    cases z : (PySem.W.hideAll B [C]).get? b with
    | none => rfl
    | some o => rw [(B2 b o z).1] at q; cases q
  have held2 : HeldZ (PySem.W.hideAll B [C]) X.stack e (Zc cls d) X.env.locals h2 := by
    refine ⟨fun b o q => (sb.2 b (B2 b o q).2).trans (st b o (B2 b o q).1), nB2 e be, ?_, oe, vs, T, oT, ts, e2, x2, x3, x4, nB2 T x5, x6, (sb.2 T TC).trans x7, x8, x9⟩
    refine funFrames_none (base := B) (frames_but (fun b hb o q => ?_) ff) fun b hb => nB2 b ((ff.mem hb).1)
    exact (sb.2 b fun z => nC (z ▸ hb)).trans q
  unfold PySem.passOn
  refine wpAny_bind (wpAny_field e2 x3 x4 ?_)
  rw [if_neg (by simp)]
  refine wpAny_bind ?_
  rw [hce]
  refine HandSPX.setFlight_onZ (s := { s' with heap := h2 }) held2 fun h3 hh3 up3 => wpAny_throw ?_
  refine tk _ _ ⟨e, PySem.W.hideAll B [C], { t with heap := PySem.W.hideAll t.heap [C], toks := t.toks }, pins, σ, J, cls, d, rfl, ?_, fun b o q nf => ?_, fun b o q nf => ?_, .inr (.inr hh3), je, os, ag, w⟩
  · obtain ⟨f0, f1, _, f3, f4, f5⟩ := fC
    exact I.turned (t' := t.toks) (fun b o z q => PySem.W.hideAll_get _ q fun m => z (by simpa using m)) f0 f1 f3 f4 f5
  · have q2 := PySem.W.of_hideAll _ q
    refine PySem.W.hideAll_get _ (nb b o q2 nf) fun m => ?_
    have : b = C := by simpa using m
    subst this
    have z := (PySem.W.hideAll_none [b] (h := t.heap) List.mem_cons_self).symm.trans q
    cases z
  · have q2 := PySem.W.of_hideAll _ q
    have ne : b ≠ C := fun z => by
      subst z
      have z := (PySem.W.hideAll_none [b] (h := t.heap) List.mem_cons_self).symm.trans q
      cases z
    obtain ⟨sl, q3⟩ := up b o q2 nf
    obtain ⟨sl4, q4⟩ := up3 b _ ((sb.2 b ne).trans q3) nf
    exact ⟨sl4, q4⟩

/-- the end of a block: an exception is told at the block's own env -/
def endX (M : Model) (A : Around) (E : Value → Shared → Prop) (use : Option (Value → Sem Unit)) (Q : Value → Shared → Prop) (acc : Value) (ce : Env) : Result → Shared → Prop
  | .ok f, s' => compPost M A E use Q acc ce.locals (.ok f) s'
  | .error x, s' => ∃ m, s'.heap.Ns ce.locals m ∧ ∀ h2, Heap.SameBut ce.locals s'.heap h2 → wpAny M A (PySem.passOn "comprehension.variables-let-go" x ce : Sem Value) (fun _ _ => False) E { s' with heap := h2 }
theorem comp_runX {M : Model} {A : Around} {E : Value → Shared → Prop} {v : Env} {s : Shared} {e : Expr} {sc : Scope} {pos : Pos} {mk fst : Sem Value} {g : Comprehension} {gs : List Comprehension} {cl : List (Str × Addr)} {use : Option (Value → Sem Unit)} {Q : Value → Shared → Prop}
    (h1 : clausesOf e = g :: gs) (h2 : ∀ x, foldedSetIterable g.iter v x = pure x) (h3 : closureFor sc v = pure cl) (h4 : sc.kind = .function) (h5 : ∀ x ∈ sc.names, x.2 = .local → sc.names.lookup x.1 = some .local)
    (h : wpAny M A fst (fun x a => wpAny M A (pyIter x) (fun it b => wpAny M A mk (fun acc c => wpAny M A (newFunctionEnv sc v.globals cl [] v.qual none .none (some v)) (fun ce d => codeAny M A (.compStart e 0 it acc { ce with scope := relabel sc v }) (endX M A E use Q acc { ce with scope := relabel sc v }) d) E c) E b) E a) E s) :
    wpAny M A (comprehension e sc v pos mk false fst use) Q E s := by
  unfold comprehension
  rw [h3, h1]
  refine wpAny_bind (wpAny_mono h (fun x a ha => ?_) fun _ _ z => z)
  refine wpAny_bind (wpAny_standAt (wpAny_bind (wpAny_of_eq (h2 x) (wpAny_bind (wpAny_holding (wpAny_mono ha (fun it b hb => ?_) fun _ _ z => z))))))
  refine wpAny_standIf (wpAny_bind (wpAny_mono hb (fun acc c hc => ?_) fun _ _ z => z))
  refine wpAny_bind (wpAny_pure (wpAny_bind (wpAny_mono hc (fun ce d hd => ?_) fun _ _ z => z)))
  dsimp only
  have loc : ∀ x ∈ (sc.names.filter fun x => (x.2 == .local || x.2 == .cell) && x.1 != (".0" : Str)).reverse, x.2 = .local → Env.kindOf { ce with scope := relabel sc v } x.1 = some .local := fun x m l =>
    lookup_relabel_local (h5 x (List.mem_filter.mp (List.mem_reverse.mp m)).1 l)
  have loc' : ∀ x ∈ (sc.names.filter fun x => (x.2 == .local || x.2 == .cell) && x.1 != (".0" : Str)).reverse.drop 1 ++ (sc.names.filter fun x => (x.2 == .local || x.2 == .cell) && x.1 != (".0" : Str)).reverse.take 1, x.2 = .local → Env.kindOf { ce with scope := relabel sc v } x.1 = some .local := fun x m l =>
    (List.mem_append.mp m).elim (fun z => loc x (List.mem_of_mem_drop z) l) fun z => loc x (List.mem_of_mem_take z) l
  refine wpAny_holding (wpAny_bind (wpAny_attempt (wpAny_holding (wpAny_run (codeAny_mono hd fun r s' q => ?_)))))
  match r, use, q with
  | .ok _, none, ⟨m, n, k⟩ => exact wpAny_bind (wpAny_holding (wpAny_comp_letGo (cenv := { ce with scope := relabel sc v }) h4 _ s' m loc n fun h' _ _ z => wpAny_pure (k h' z)))
  | .ok _, some u, q =>
    refine wpAny_bind (wpAny_rule (wpAny_bind (wpAny_holding (wpAny_mono q (fun _ s2 z => ?_) fun _ _ z => z))))
    obtain ⟨m, n, k⟩ := z
    exact wpAny_bind (wpAny_comp_letGo (cenv := { ce with scope := relabel sc v }) h4 _ s2 m loc' n fun h' _ _ z => wpAny_pure (k h' z))
  | .error x, use, ⟨m, n, k⟩ => exact wpAny_bind (wpAny_holding (wpAny_comp_letGo (cenv := { ce with scope := relabel sc v }) h4 _ s' m loc n fun h' _ _ z => wpAny_mono (k h' z) (fun _ _ f => f.elim) fun _ _ y => y))

/-- the block's context with a wish about exceptions -/
abbrev blkW (X : Cx) (xe : Value → Shared → Prop) (s : Shared) (H : Hp) (sc : Scope) (ce : Env) (fp : List Addr) : Cx := (X.blk s H sc ce fp).wish xe
theorem lc_coreX {Q : VK} {elt tg iter : Expr} {ifs : List Expr} {sc : Scope} {own : List (Str × Nat)} {pos pos' : Pos} {wi : TI} {g : TG} {tt : TT} {te : TE} {use : Option (Value → Sem Unit)} {Qf : Value → Shared → Prop} {W : WX} {E : XK}
    (hc : X.calm = true) (hN : X.N.Nodup) (hst : X.stack = X.env :: X.outer) (hfr : X.env.frame = some X.env.locals) (tk : Takes X W) (I : Inv X pins σ H s) (hW : ∀ cls d J, E cls d J → W cls d σ J) (hi : PI X tg iter wi) (ok : BlkOk X.N X.env.scope sc own)
    (hg : ∀ xe s H C cl fp, PG (blkW X xe s H sc (compEnvC sc cl C X.env) fp) tg g) (ht : ∀ xe s H C cl fp, PTs (blkW X xe s H sc (compEnvC sc cl C X.env) fp) ifs tt)
    (he : ∀ xe s H C cl fp, Passes (L2.CX X.prog X.w) (blkW X xe s H sc (compEnvC sc cl C X.env) fp) E → PE (blkW X xe s H sc (compEnvC sc cl C X.env) fp) elt te) (hs : ∀ x, foldedSetIterable iter X.env x = pure x)
    (h : tLc wi g tt te (own.map (·.2)) σ H Q)
    (hRR : ∀ D C s' m H', Inv X pins σ H' s' → Q (.ref D) H' → s'.heap.Ns C m → FpOk X pins H' C → compPost (model X.prog X.w) X.A X.xe use Qf (.ref D) C (.ok .next) s') :
    wpAny (model X.prog X.w) X.A (comprehension (.ListComp elt [⟨tg, iter, ifs, 0⟩] sc pos) sc X.env pos' (newList []) false (eval iter X.env) use) Qf X.xe s := by
  have free : ∀ y ∈ sc.names, y.2 = .free → ∃ c, X.env.cells.lookup y.1 = some c := fun y m z => (ok.free y m z).elim (fun k => I.ok.has _ (.inl k)) fun k => I.ok.has _ (.inr k)
  refine comp_runX (use := use) rfl hs (closure_ok free) ok.kind (fun y m z => (ok.uniq y m).trans (by rw [z])) (thn (hi.run pins s σ H _ I h) fun xv s1 hx => thn hx fun itv s2 h2 => ?_)
  obtain ⟨it, fp, tn, J, H2, rfl, I2, T, t2, f2, q⟩ := h2
  refine wpAny_newObj_type (newEnv_comp ?_) (by show 0 ≤ sizeLine; decide)
  obtain ⟨D, hD⟩ : ∃ D, D = s2.heap.objs.size := ⟨_, rfl⟩
  rw [← hD]
  obtain ⟨W0, ⟨m0, w0⟩, turn⟩ := q D (I2.hok.fresh (Nat.le_of_eq hD.symm))
  obtain ⟨s3, hs3⟩ : ∃ s3 : Shared, s3 = { s2 with heap := s2.heap.push { cls := .type "list", data := .seq ([] : List Value).toArray } } := ⟨_, rfl⟩
  have h3 : s3.heap = s2.heap.push { cls := .type "list", data := .seq ([] : List Value).toArray } := by rw [hs3]
  rw [← hs3]
  have I3 : Inv X pins σ (upd H2 D (.lst [])) s3 := by
    rw [hs3]
    exact I2.laid (t' := s2.toks) (fun b o z => Heap.get?_push_of_some _ z) (Nat.le_of_eq hD.symm) ⟨Nat.zero_le _, [], 0, .nil, by rw [hD]; exact Heap.get?_push_size _ rfl⟩
  have f3 : ∀ b ∈ fp, FpOk X pins (upd H2 D (.lst [])) b ∧ b < s3.heap.objs.size := fun b hb => by
    obtain ⟨o, z, _⟩ := T.obj _ _ t2 b hb
    have lt := Heap.lt_size z
    exact ⟨⟨(upd_ne (by rw [hD]; exact Nat.ne_of_lt lt)).trans (f2 b hb).1, (f2 b hb).2⟩, by rw [h3, Heap.size_push]; exact Nat.lt_succ_of_lt lt⟩
  have t3 : tn 0 s3.heap := T.keep _ _ _ t2 fun b _ o z => by rw [h3]; exact Heap.get?_push_of_some _ z
  have I4' := block_start I3 ok hN f3
  obtain ⟨C, hC⟩ : ∃ C, C = s3.heap.objs.size := ⟨_, rfl⟩
  obtain ⟨cl, hcl⟩ : ∃ cl, cl = cellsFrom (C + 1) sc.names (cloFrom X.env.cells sc.names []) := ⟨_, rfl⟩
  rw [← hC, ← hcl] at I4'
  obtain ⟨ce, hce⟩ : ∃ ce, ce = compEnvC sc cl C X.env := ⟨_, rfl⟩
  obtain ⟨s4, hs4⟩ : ∃ s4 : Shared, s4 = { s3 with heap := pushCells (s3.heap.push { cls := .type "dict", data := .dict #[] }) sc.names } := ⟨_, rfl⟩
  rw [← hs4, ← hce] at I4'
  show codeAny _ _ (.compStart _ 0 (.ref it) (.ref D) (compEnvC sc (cellsFrom (s3.heap.objs.size + 1) sc.names (cloFrom X.env.cells sc.names [])) s3.heap.objs.size X.env)) (endX (model X.prog X.w) X.A X.xe use Qf (.ref D) (compEnvC sc (cellsFrom (s3.heap.objs.size + 1) sc.names (cloFrom X.env.cells sc.names [])) s3.heap.objs.size X.env)) { s3 with heap := pushCells (s3.heap.push { cls := .type "dict", data := .dict #[] }) sc.names }
  rw [← hC, ← hcl, ← hce, ← hs4]
  have cL : ce.locals = C := by rw [hce]; rfl
  have cF : ce.frame = some X.env.locals := by rw [hce]; exact hfr
  have fpn : ∀ b ∈ fp, (upd H2 D (.lst [])) b = none := fun b hb => (f3 b hb).1.1
  obtain ⟨H3, hH3⟩ : ∃ H3, H3 = upd H2 D (.lst []) := ⟨_, rfl⟩
  rw [← hH3] at I3 I4' f3 w0 fpn
  -- back in the def
  have home : ∀ {xe : Value → Shared → Prop} {pp : List (Addr × Obj)} {σ' : L2.St} {H' : Hp} {s' : Shared}, Inv (blkW X xe s3 H3 sc ce fp) pp σ' H' s' → Inv X pins σ H' s' := fun I' =>
    I3.call' (ch := fp) I'.os I'.base I'.hok I'.bare fun b hb => ⟨(f3 b hb).1.2.2.2.1, (f3 b hb).1.2.1, (f3 b hb).1.2.2.2.2.1, (f3 b hb).1.2.2.2.2.2⟩
  have nCs : C ∉ frs X.stack := fun z => by
    obtain ⟨_, o, r, _⟩ := I3.stack.mem z
    have := Heap.lt_size r
    rw [hC] at this
    exact absurd this (Nat.lt_irrefl _)
  have fpC : ∀ {H' : Hp}, H' C = none → FpOk X pins H' C := fun z => I3.fpOk (by rw [hC]; exact Nat.le_refl _) z
  obtain ⟨R, hR⟩ : ∃ R, R = endX (model X.prog X.w) X.A X.xe use Qf (.ref D) ce := ⟨_, rfl⟩
  rw [← hR]
  obtain ⟨xe, hxe⟩ : ∃ xe, xe = notedBy (model X.prog X.w) X.A ce (fun e s' => R (.error e) s') := ⟨_, rfl⟩
  have I4 : Inv (blkW X xe s3 H3 sc ce fp) [] (wipe σ (own.map (·.2))) H3 s4 := I4'.wish xe
  -- a call's exception
  have pass : Passes (L2.CX X.prog X.w) (blkW X xe s3 H3 sc ce fp) E := by
    intro pp σ' H' s' e s'' I' cx
    obtain ⟨a, B, t, J', cls, d, rfl, It, nb, up, fl, ja, os, ag, w, kp⟩ := air_of (home I') cx
    obtain ⟨mC, oC, es, ep, gC, dC, rC⟩ : ∃ m, s'.heap.Ns C m := by
      obtain ⟨m, n, _⟩ := I'.loc
      have n : s'.heap.Ns ce.locals m := n
      rw [cL] at n
      exact ⟨m, n⟩
    have hfC : H' C = none := by
      have z : H' ce.locals = none := I'.free
      rw [cL] at z
      exact z
    obtain ⟨bC, jC⟩ := kp C oC gC hfC nCs
    have kC : s''.heap.get? C = some oC := fl.1 C oC bC
    have nd : ∀ vs, oC.data ≠ .fields vs := fun vs z => by rw [dC] at z; cases z
    rw [hxe]
    show wpAny _ _ (noteFrame (.ref a) ce) _ _ _
    rw [note_same (u := X.env) (by rw [cF, hfr])]
    have hfrA : X.A.frames = some (X.env :: X.outer) := by rw [I.ok.frames, hst]
    have fl' : FlyingZ B (X.env :: X.outer) a (Zc cls d) s''.heap := by rw [← hst]; exact fl
    refine sky_noted (L := X.env.locals) Zc.steady hfrA hfr (.inr (.inl fl')) fun h1 hh up1 => ?_
    obtain ⟨sl, k1⟩ := up1 C oC kC nd
    rw [← hst] at hh
    rw [hR]
    refine ⟨mC, by rw [cL]; exact ⟨_, es, ep, k1, dC, rC⟩, fun h2 sb => ?_⟩
    rw [cL] at sb
    exact handed_on (s' := { s'' with heap := h1 }) tk It (fpC jC) nCs cF nb (up.trans up1) hh k1 nd ja os ag (hW _ _ _ w) sb
  have pg := hg xe s3 H3 C cl fp
  have pt := ht xe s3 H3 C cl fp
  have pe := he xe s3 H3 C cl fp (by rw [← hce]; exact pass)
  rw [← hce] at pg pt pe
  have t4 : tn 0 s4.heap := T.keep _ _ _ t3 fun b _ o z => by rw [hs4]; exact pushCells_keeps _ _ _ _ (Heap.get?_push_of_some _ z)
  have stat : ∀ {σ' : L2.St} {H' : Hp} {s' : Shared}, Inv (blkW X xe s3 H3 sc ce fp) [] σ' H' s' → (∀ b ∈ fp, H' b = none) → ∀ b ∈ fp, FpOk (blkW X xe s3 H3 sc ce fp) [] H' b := fun {σ' H' s'} I' n b hb =>
    ⟨n b hb, (I'.ok.exf b hb).1, I'.ok.exfs b hb, .inl hb, fun x c z => (I'.ok.exf b hb).2 x c z, fun p hp => absurd (show p ∈ ([] : List (Addr × Obj)) ++ [] from hp) (by simp)⟩
  have loop : codeAny (model X.prog X.w) X.A (.compLoop (.ListComp elt [⟨tg, iter, ifs, 0⟩] sc pos) 0 (.ref it) (.ref D) ce) R s4 := by
    refine compLoop_any (fun n s' => ∃ i H', Inv (blkW X xe s3 H3 sc ce fp) [] (wipe σ (own.map (·.2))) H' s' ∧ tn i s'.heap ∧ (∀ b ∈ fp, H' b = none) ∧ W0 i n H') ?_ m0 ⟨0, H3, I4, t4, fpn, w0⟩
    rw [← hxe]
    rintro n s5 ⟨i, H5, I5, t5, n5, v5⟩
    rcases turn i n H5 v5 with ⟨stop, qd⟩ | ⟨go, Nx, kNx, step⟩
    · refine thnF (T.done (blkW X xe s3 H3 sc ce fp) rfl rfl rfl hc i [] s5 _ H5 (fun _ _ => False) I5 (stat I5 n5) t5 stop) fun r s6 ⟨hr, I6⟩ => ?_
      subst hr
      obtain ⟨m, hn, _⟩ := I6.loc
      have nC : H5 C = none := by
        have z : H5 ce.locals = none := I6.free
        rw [cL] at z
        exact z
      have hn : s6.heap.Ns ce.locals m := hn
      show R (.ok .next) s6
      rw [hR]
      show compPost _ _ _ _ _ _ ce.locals _ _
      rw [cL] at hn ⊢
      exact hRR D C s6 m H5 (home I6) qd hn (fpC nC)
    · refine thnF (T.item (blkW X xe s3 H3 sc ce fp) rfl rfl rfl hc i [] s5 _ H5 (fun _ _ => False) I5 (stat I5 n5) t5 go) fun r s6 ⟨u, hr, h6⟩ => ?_
      subst hr
      refine thnF h6 fun _ s7 ⟨x, H7, I7, r7, y7, t7, n7⟩ => ?_
      have I7' := I7.pinned (stat I7 n7) (T.obj _ _ t7)
      refine thn (pg.run _ s7 _ H7 x u _ I7' r7 (step x H7 y7)) fun _ s8 ⟨σ8, H8, I8, wp8, q8⟩ => ?_
      refine thn (pt.run _ s8 σ8 H8 _ I8 q8) fun b s9 ⟨H9, I9, p9⟩ => ?_
      have fin : ∀ {s' : Shared} {H' : Hp}, Inv (blkW X xe s3 H3 sc ce fp) ([] ++ pinsAt fp s7.heap) σ8 H' s' → Nx H' → ∃ m, m < n ∧ ∃ i H', Inv (blkW X xe s3 H3 sc ce fp) [] (wipe σ (own.map (·.2))) H' s' ∧ tn i s'.heap ∧ (∀ b ∈ fp, H' b = none) ∧ W0 i m H' := fun {s' H'} I' nx => by
        obtain ⟨m', hm, w'⟩ := kNx H' nx
        have at_ : ∀ b ∈ fp, ∀ o, s7.heap.get? b = some o → s'.heap.get? b = some o ∧ H' b = none := fun b hb o z =>
          let y := I'.pin (b, o) (List.mem_append_right _ (List.mem_append_right _ (mem_pinsAt hb z)))
          ⟨y.1, y.2.1⟩
        have len8 : (wipe σ (own.map (·.2))).length = σ8.length := by rw [← wp8, wipe_length]
        refine ⟨m', hm, i + 1, H', (I'.unpinned (pins := [])).weak len8 (fun j v z => (wipe_some (by rw [← wp8] at z; exact z)).1), T.keep _ _ _ t7 fun b hb o z => (at_ b hb o z).1, fun b hb => ?_, w'⟩
        obtain ⟨o, z, _⟩ := T.obj _ _ t7 b hb
        exact (at_ b hb o z).2
      cases b with
      | false =>
        simp only [Bool.false_eq_true, if_false] at p9 ⊢
        exact fin I9 p9
      | true =>
        simp only [if_true] at p9 ⊢
        refine thn (pe.run _ s9 σ8 H9 _ I9 p9) fun z s10 ⟨yv, H10, I10, r10, acc, hD10, hz10, nx⟩ => ?_
        exact app_ok (X := blkW X xe s3 H3 sc ce fp) I10 hD10 hz10 r10 fun s11 I11 => fin I11 nx
  exact codeAny_compStart_list loop (T.self X.A 0 _ _ _ t4 loop)
/-- [..], what its item's calls let out goes on -/
theorem pe_lcX {elt tg iter : Expr} {ifs : List Expr} {sc : Scope} {own : List (Str × Nat)} {pos : Pos} {wi : TI} {g : TG} {tt : TT} {te : TE} {W : WX} {E : XK}
    (hc : X.calm = true) (hN : X.N.Nodup) (hst : X.stack = X.env :: X.outer) (hfr : X.env.frame = some X.env.locals) (tk : Takes X W) (hW : ∀ cls d σ J, E cls d J → W cls d σ J) (hi : PI X tg iter wi) (ok : BlkOk X.N X.env.scope sc own)
    (hg : ∀ xe s H C cl fp, PG (blkW X xe s H sc (compEnvC sc cl C X.env) fp) tg g) (ht : ∀ xe s H C cl fp, PTs (blkW X xe s H sc (compEnvC sc cl C X.env) fp) ifs tt)
    (he : ∀ xe s H C cl fp, Passes (L2.CX X.prog X.w) (blkW X xe s H sc (compEnvC sc cl C X.env) fp) E → PE (blkW X xe s H sc (compEnvC sc cl C X.env) fp) elt te) (hs : ∀ x, foldedSetIterable iter X.env x = pure x := by intro _; rfl) :
    PE X (.ListComp elt [⟨tg, iter, ifs, 0⟩] sc pos) (tLc wi g tt te (own.map (·.2))) := by
  refine ⟨fun pins s σ H Q I h => ?_⟩
  rw [eval_ListComp]
  refine lc_coreX hc hN hst hfr tk I (fun cls d J z => hW cls d σ J z) hi ok hg ht he hs h fun D C s' m H' I' q hn f => ⟨m, hn, fun h2 sb => ?_⟩
  exact ⟨.ref D, H', I'.turned (t' := s'.toks) (fun b o hb z => (sb.2 b hb).trans z) f.1 f.2.1 f.2.2.2.1 f.2.2.2.2.1 f.2.2.2.2.2, rfl, q⟩
end
end Sb
set_option Elab.async false
set_option maxRecDepth 100000
set_option maxHeartbeats 4000000
/-! Own rule: {n:04d} and {n:02d}, n an int that is not negative. -/
namespace Sb
open PySem PySem.Spec PyProof.Rows L2 SX
/-- the signs of a number that is not negative -/
def digs (n : Nat) : List Nat := (Nat.toDigits 10 n).map Char.toNat
def pad0 (w n : Nat) : List Nat := List.replicate (w - (digs n).length) 48 ++ digs n
theorem str_nat (n : Nat) : Str.ofString (toString (n : Int)) = S (digs n) := text_ofNat n
/-- the specification 0wd -/
def fD (w : Nat) : Builtin.Float.FormatSpec := { fill := 48, align := 61, width := some w, type := some 100 }
theorem text_D (w n : Nat) : intSpecText (fD w) (n : Int) = S (pad0 w n) := by
  rw [intSpecText_zero rfl rfl rfl rfl (by omega)]
  refine Str.ext' ?_
  rw [Str.cps_append, str_nat]
  show _ = (List.replicate (w - (digs n).length) 48 ++ digs n).toArray
  have e : (Nat.toDigits 10 (n : Int).natAbs).length = (digs n).length := by unfold digs; rw [List.length_map]; rfl
  rw [e]
  show (List.replicate (w - (digs n).length) 48).toArray ++ (digs n).toArray = _
  rw [List.append_toArray]
section
variable {prog : Program} {w : World} {A : Around} {E : Value → Shared → Prop} {s : Shared}
theorem field_D {a : Int} {t : Tok} {sp : Str} {f : Builtin.Float.FormatSpec} {Q : Value → Shared → Prop} (ha : a.natAbs.log2 < 1920) (hp : Builtin.Float.parseFormatSpec sp.cps.toList "int" 62 = .ok f) (hne : (sp.length == 0) = false)
    (hx : ((sp.cps.toList.drop 1).any (· ≥ 128) || (sp.cps.getD 0 0 ≥ 128 && !([60, 62, 61, 94] : List Nat).contains (sp.cps.getD 1 0))) = false) (hg : intSpecGood sp f = true) (hz : (intSpecText f a).length ≤ sizeLine)
    (h : ∀ t' k, Q (.str (intSpecText f a) t') { s with toks := k }) (hsz : sp.length ≤ sizeLine) : wpAny (model prog w) A (formatField (.int a t) sp) Q E s := by
  unfold intSpecGood at hg
  simp only [Bool.and_eq_true] at hg
  obtain ⟨⟨⟨⟨⟨⟨g1, g2⟩, g3⟩, g4⟩, g5⟩, g6⟩, g7⟩ := hg
  have g1 := beq_iff_eq.mp g1
  have g2 := Option.isNone_iff_eq_none.mp g2
  have g3 : f.noNeg0 = false := by simpa using g3
  have g4 : f.alt = false := by simpa using g4
  have g5 : ¬ f.width.getD 0 > 100000 := by have : f.width.getD 0 ≤ 100000 := by simpa using g5
                                            omega
  have g6 := Option.isNone_iff_eq_none.mp g6
  have g7 := Option.isNone_iff_eq_none.mp g7
  have e : formatField (.int a t) sp = holding [.int a t] (pyFormat (.int a t) sp) := rfl
  rw [e]
  refine wpAny_holding ?_
  unfold pyFormat
  refine wpAny_bind (wpAny_mkStr ?_ hsz)
  refine wpAny_bind (m := callSpecial? (.int a t) (Str.ofString "__format__") [.str sp s.toks]) (wpAny_callSpecial?_slot (name := Str.ofString "__format__") (typeIs_int _ a t) F.slot_int_format ?_)
  refine wpAny_call (codeAny_call_builtin F.slot_int_format.plain F.entry_int_format (F.slot_int_format.check _ _ _ _ _ _ _ _ (typeIs_int _ a t) (F.args_int_format_2 _ _) ?_))
  unfold Builtin.«int.__format__»
  simp only [selfAndOne, noKeywords, Builtin.Int.intOfSelf, asInt?, asStr?, List.isEmpty_nil, if_true, pure_bind, bind_pure, bind_assoc, hne, hx, Bool.false_eq_true, if_false, show (Value.str sp s.toks == Value.none) = false from rfl]
  refine wpAny_bind (wpAny_typeNameOf (T := "str") (typeIs_str _ _ _) (by decide) fun _ => ?_)
  refine wpAny_bind (wpAny_typeNameOfCut_int ?_)
  simp only [hp, g1]
  rw [if_pos (by decide)]
  show wpAny _ _ (if _ then _ else _) _ _ _
  rw [if_neg (by simp [g2])]
  show wpAny _ _ (if _ then _ else _) _ _ _
  rw [if_neg (by simp [g3])]
  show wpAny _ _ (if _ then _ else _) _ _ _
  rw [if_neg (by decide)]
  show wpAny _ _ (do let r ← Builtin.overDigitLimit? a; _) _ _ _
  rw [PySem.overDigitLimit_small ha]
  refine wpAny_bind (wpAny_pure ?_)
  show wpAny _ _ (if _ then _ else _) _ _ _
  rw [if_neg (by simpa using g5)]
  show wpAny _ _ (retStr _) _ _ _
  unfold retStr
  refine wpAny_bind (wpAny_mkStr (wpAny_pure ?_) ?_)
  · dsimp only
    refine wpAny_bind (wpAny_isInstance (typeIs_str _ _ _) isSubtype_str_str (wpAny_pure ?_))
    simp only [g4, Bool.false_eq_true, if_false, show ((10 : Nat) == 10) = true by decide, if_true]
    conv => arg 1; arg 1; whnf
    have := h (s.toks + 1) (s.toks + 1 + 1)
    unfold intSpecText intField' at this
    simp only [g4, g6, g7, Bool.false_eq_true, if_false, if_true] at this ⊢
    exact this
  · simp only [g4, Bool.false_eq_true, if_false, show ((10 : Nat) == 10) = true by decide, if_true]
    conv => lhs; arg 1; whnf
    unfold intSpecText intField' at hz
    simp only [g4, g6, g7, Bool.false_eq_true, if_false, if_true] at hz ⊢
    exact hz
end
theorem spec4 : (S [48, 52, 100]) = Str.ofString "04d" := by decide +kernel
theorem spec2 : (S [48, 50, 100]) = Str.ofString "02d" := by decide +kernel
/-- {e:04d}, {e:02d} -/
def tFmtD (w : Nat) (te : TE) : TE := fun σ H Q => te σ H fun x H1 => ∃ n : Nat, x = .int (n : Int) ∧ n < 1000000 ∧ Q (.str (S (pad0 w n))) H1
theorem digs_len {n : Nat} (h : n < 1000000) : (digs n).length ≤ 6 := by
  unfold digs
  rw [List.length_map]
  exact digits10_le (by decide) h
theorem pe_fmtD {X : Cx} {e : Expr} {te : TE} {pos p1 p2 : Pos} {w : Nat} {z : Str} {kd : Nat} (he : PE X e te) (hw : w ≤ 9) (hp : Builtin.Float.parseFormatSpec z.cps.toList "int" 62 = .ok (fD w)) (h1 : (z.length == 0) = false)
    (h2 : ((z.cps.toList.drop 1).any (· ≥ 128) || (z.cps.getD 0 0 ≥ 128 && !([60, 62, 61, 94] : List Nat).contains (z.cps.getD 1 0))) = false) (h3 : intSpecGood z (fD w) = true) (h4 : z.length ≤ 100) :
    PE X (.FormattedValue e (-1) (some (.JoinedStr [.Constant (.str z) kd p1] p2)) pos) (tFmtD w te) := by
  refine ⟨fun pins s σ H Q I h => ?_⟩
  have hsz : z.length ≤ sizeLine := Nat.le_trans h4 (by decide)
  refine wpAny_FormattedValue_spec (thn (he.run pins s σ H _ I h) fun v s1 hv => ?_)
  obtain ⟨x, H1, I1, r1, n, rfl, hn, q⟩ := hv
  obtain ⟨t, rfl⟩ := r1
  refine thn ((pe_joined1 (pos := p2) (pe_str (X := X) (pos := p1) (j := kd) (x := z))).run pins s1 σ H1 (fun y H2 => y = .str z ∧ H2 = H1) I1 ⟨rfl, rfl⟩) fun u s2 hu => ?_
  obtain ⟨y, H2, I2, r2, rfl, rfl⟩ := hu
  obtain ⟨t2, rfl⟩ := r2
  refine ⟨z, t2, rfl, ?_⟩
  have hl : (pad0 w n).length ≤ 15 := by
    have := digs_len hn
    unfold pad0
    rw [List.length_append, List.length_replicate]
    omega
  refine field_D (f := fD w) ?_ hp h1 h2 h3 ?_ (fun t' k => ?_) hsz
  · show n.log2 < 1920
    by_cases h0 : n = 0
    · subst h0; decide
    · exact Nat.lt_of_lt_of_le ((Nat.log2_lt h0).mpr (Nat.lt_of_lt_of_le hn (show 1000000 ≤ 2 ^ 20 by decide))) (by decide)
  · rw [text_D, S_len]
    exact Nat.le_trans hl (by decide)
  · rw [text_D]
    exact ⟨.str (S (pad0 w n)), _, I2.tok k, ⟨_, rfl⟩, q⟩
end Sb
set_option Elab.async false
set_option maxRecDepth 100000
set_option maxHeartbeats 4000000
/-! Own words: methods of texts over lists of codes; text * int. -/
namespace Sb
open PySem PySem.Spec PyProof.Rows L2 SX
def isd (c : Nat) : Bool := decide (48 ≤ c) && decide (c ≤ 57)
theorem isd_uni : ∀ c, c < 128 → Unicode.isDigit c = isd c := by decide +kernel
theorem all_congr2 {α : Type} {f g : α → Bool} : ∀ {l : List α}, (∀ x ∈ l, f x = g x) → l.all f = l.all g
  | [], _ => rfl
  | a :: l, h => by rw [List.all_cons, List.all_cons, h a List.mem_cons_self, all_congr2 fun x hx => h x (List.mem_cons_of_mem _ hx)]
theorem isdigit_S {t : List Nat} (h : ∀ c ∈ t, c < 128) : Txt.isdigit (S t) = (decide (t ≠ []) && t.all isd) := by
  unfold Txt.isdigit
  rw [S_len]
  have e : (S t).cps.all Unicode.isDigit = t.all isd := by
    show t.toArray.all Unicode.isDigit = _
    rw [List.all_toArray]
    exact all_congr2 fun c hc => isd_uni c (h c hc)
  rw [e]
  cases t <;> simp
theorem take_while_len (p : Nat → Bool) : ∀ l : List Nat, l.drop (l.takeWhile p).length = l.dropWhile p
  | [] => rfl
  | a :: l => by
    by_cases h : p a = true
    · rw [List.takeWhile_cons_of_pos h, List.dropWhile_cons_of_pos h, List.length_cons, List.drop_succ_cons, take_while_len p l]
    · rw [List.takeWhile_cons_of_neg h, List.dropWhile_cons_of_neg h, List.length_nil, List.drop_zero]
theorem sub_S (t : List Nat) (i j : Nat) : PySem.Builtin.Str.strSub (S t) i j = S ((t.drop i).take (j - i)) := by
  refine Str.ext' ?_
  show (t.toArray.extract i j) = _
  simp [S, List.extract_toArray]
theorem has_one (c d : Nat) : (S [c]).cps.contains d = decide (d = c) := by
  show ([c].toArray).contains d = _
  by_cases h : d = c <;> simp [h]
theorem lstrip_S (t : List Nat) (c : Nat) : Txt.lstripChars (S t) (S [c]) = S (t.dropWhile fun d => decide (d = c)) := by
  have ep : (S [c]).cps.contains = fun d => decide (d = c) := funext fun d => has_one c d
  unfold Txt.lstripChars Txt.stripBy
  rw [ep]
  obtain ⟨p, hp⟩ : ∃ p : Nat → Bool, p = fun d => decide (d = c) := ⟨_, rfl⟩
  rw [← hp]
  have h1 : stripLo p true (S t) = (t.takeWhile p).length := by unfold stripLo; rw [if_pos rfl]; first | rfl | done
  have h2 : stripHi p false (S t) (stripLo p true (S t)) = t.length := by unfold stripHi; rw [if_neg (by simp), S_len]
  unfold stripSame stripped
  rw [h2, h1, S_len]
  have hl : (t.takeWhile p).length ≤ t.length := by
    have := (List.takeWhile_prefix p (l := t)).length_le
    exact this
  have e3 := take_while_len p t
  by_cases h0 : (t.takeWhile p).length = 0
  · rw [h0] at e3 ⊢
    rw [if_pos (by simp), ← e3, List.drop_zero]
  · rw [if_neg (by simp [h0]), sub_S, e3]
    congr 1
    refine List.take_of_length_le ?_
    rw [← e3, List.length_drop]
    omega
def dropEnd (c : Nat) (t : List Nat) : List Nat := (t.reverse.dropWhile fun d => decide (d = c)).reverse
theorem rstrip_S (t : List Nat) (c : Nat) : Txt.rstripChars (S t) (S [c]) = S (dropEnd c t) := by
  have ep : (S [c]).cps.contains = fun d => decide (d = c) := funext fun d => has_one c d
  unfold Txt.rstripChars Txt.stripBy dropEnd
  rw [ep]
  obtain ⟨p, hp⟩ : ∃ p : Nat → Bool, p = fun d => decide (d = c) := ⟨_, rfl⟩
  rw [← hp]
  have h1 : stripLo p false (S t) = 0 := by unfold stripLo; rw [if_neg (by simp)]
  have h2 : stripHi p true (S t) 0 = t.length - (t.reverse.takeWhile p).length := by
    unfold stripHi
    rw [if_pos rfl, S_len]
    rfl
  unfold stripSame stripped
  rw [h1, h2, S_len]
  have hl : (t.reverse.takeWhile p).length ≤ t.length := by
    have := (List.takeWhile_prefix p (l := t.reverse)).length_le
    rwa [List.length_reverse] at this
  have e3 := take_while_len p t.reverse
  have e4 : t.take (t.length - (t.reverse.takeWhile p).length) = (t.reverse.dropWhile p).reverse := by
    rw [← e3, List.drop_reverse, List.reverse_reverse]
  by_cases h0 : (t.reverse.takeWhile p).length = 0
  · rw [← e4, h0, if_pos (by simp), Nat.sub_zero, List.take_length]
  · rw [if_neg (by simp; omega), sub_S, List.drop_zero, Nat.sub_zero, e4]
theorem starts_S (t : List Nat) (c : Nat) : Txt.startswith (S t) (S [c]) = decide (t.head? = some c) := by
  unfold Txt.startswith
  rw [S_len, StrLaws.subAt_eq, S_len]
  show (decide (0 + 1 ≤ t.length) && ((t.drop 0).take 1 == [c])) = _
  cases t with
  | nil => simp
  | cons d t => by_cases h : d = c <;> simp [h]
theorem fold_one (c : Nat) : ∀ (k : Nat) (acc : Array Nat), (List.replicate k #[c]).foldl (fun x y => x ++ y) acc = acc ++ (List.replicate k c).toArray
  | 0, acc => by simp
  | k + 1, acc => by
    rw [List.replicate_succ, List.foldl_cons, fold_one c k]
    refine Array.ext' ?_
    simp [List.replicate_succ]
theorem mul_S (c k : Nat) : Txt.mul (S [c]) (k : Int) = S (List.replicate k c) := by
  unfold Txt.mul
  by_cases h : (k : Int) < 1
  · have : k = 0 := by omega
    subst this
    rw [if_pos h]
    rfl
  · rw [if_neg h]
    by_cases h1 : k = 1
    · subst h1
      rw [if_pos (by rfl)]
      rfl
    · have e : ((k : Int) == 1 || (S [c]).length == 0) = false := by
        rw [S_len]
        simp
        omega
      rw [e, if_neg (by simp)]
      show (⟨(List.replicate k #[c]).foldl (fun x y => x ++ y) #[]⟩ : Str) = _
      rw [fold_one]
      exact Str.ext' (by show #[] ++ (List.replicate k c).toArray = (List.replicate k c).toArray; simp)
/-- one sign, repeated -/
theorem op_mulS {X : Cx} : OpR X (binaryOp .Mult) (fun x y H Q => ∃ c k : Nat, x = .str (S [c]) ∧ y = .int (k : Int) ∧ k ≤ 1000 ∧ Q (.str (S (List.replicate k c))) H) := by
  intro pins s σ H x y v u Q I rx ry h
  obtain ⟨c, k, rfl, rfl, hk, q⟩ := h
  obtain ⟨t, rfl⟩ := rx
  obtain ⟨t', rfl⟩ := ry
  refine PySem.SB.mul ⟨?_, fun h1 _ => ?_, fun h1 _ => ?_⟩ fun t2 k2 => ?_
  · simp
    omega
  · rw [S_len]
    have : (1 : Int) ≤ (2 ^ 63 - 1) / (k : Int) := by
      rw [Int.le_ediv_iff_mul_le (by omega)]
      omega
    show ¬ ((1 : Int) > _)
    omega
  · rw [S_len]
    have hz : [c].length * (k : Int).toNat ≤ sizeLine := by
      rw [sizeLine_eq]
      simp
      omega
    unfold PySem.Builtin.Str.tooLong
    exact decide_eq_false (by omega)
  · rw [mul_S]
    exact ⟨.str _, H, I.tok _, ⟨_, rfl⟩, q⟩
end Sb
set_option Elab.async false
set_option maxRecDepth 100000
set_option maxHeartbeats 4000000
/-! Plain law of values as texts: days, integers, decimals. -/
namespace Sb
open PySem PySem.Spec PyProof.Rows L2 SX
def num (t : List Nat) : Nat := NumText.digitsVal t
theorem num_snoc (t : List Nat) (c : Nat) : num (t ++ [c]) = num t * 10 + (c - 48) := by
  unfold num NumText.digitsVal
  rw [List.foldl_append]
  rfl
theorem num_app : ∀ (u t : List Nat), num (t ++ u) = num t * 10 ^ u.length + num u
  | [], t => by simp [num, NumText.digitsVal]
  | c :: u, t => by
    have e1 : t ++ c :: u = (t ++ [c]) ++ u := by simp
    have e2 : c :: u = [c] ++ u := rfl
    rw [e1, num_app u, num_snoc, e2, num_app u, List.length_append, List.length_singleton, Nat.pow_add, Nat.pow_one, Nat.add_mul, Nat.mul_assoc]
    have : num [c] = c - 48 := by show 0 * 10 + (c - 48) = _; omega
    rw [this]
    omega
theorem num_cons (c : Nat) (t : List Nat) : num (c :: t) = (c - 48) * 10 ^ t.length + num t := by
  have := num_app t [c]
  have e : num [c] = c - 48 := by show 0 * 10 + (c - 48) = _; omega
  rw [e] at this
  exact this
theorem num_digs (n : Nat) : num (digs n) = n := PySem.W.KIN.val_back n
theorem digs_isd (n : Nat) : (digs n).all isd = true := by
  rw [List.all_eq_true]
  intro c hc
  unfold digs at hc
  obtain ⟨ch, hch, e⟩ := List.mem_map.mp hc
  have r := PyProof.Rows.digit_range (Nat.isDigit_of_mem_toDigits (by decide) (by decide) hch)
  subst e
  unfold isd
  rw [decide_eq_true r.1, decide_eq_true r.2]
  rfl
theorem digs_ne (n : Nat) : digs n ≠ [] := by
  intro e
  have h := tDigits_len_ge 10 n
  unfold digs at e
  rw [List.map_eq_nil_iff.mp e] at h
  exact absurd h (by decide)
theorem digs_le {n k : Nat} (hk : 1 ≤ k) (h : n < 10 ^ k) : (digs n).length ≤ k := by
  unfold digs
  rw [List.length_map]
  exact digits10_le hk h
theorem isd_of {t : List Nat} (h : t.all isd = true) : ∀ c ∈ t, 48 ≤ c ∧ c ≤ 57 := fun c hc => by
  have := List.all_eq_true.mp h c hc
  unfold isd at this
  simpa using this
theorem int_text {t : List Nat} (h : t.all isd = true) (hn : t ≠ []) (hl : t.length ≤ 100) : intText? (S t) = some ((num t : Nat) : Int) := int_S h hn (by omega)
theorem num_zero (t : List Nat) : num (48 :: t) = num t := by
  rw [num_cons]
  simp
theorem num_strip : ∀ t : List Nat, num (t.dropWhile fun d => decide (d = 48)) = num t
  | [] => rfl
  | c :: t => by
    by_cases h : c = 48
    · subst h
      rw [List.dropWhile_cons_of_pos (by simp), num_strip t, num_zero]
    · rw [List.dropWhile_cons_of_neg (by simpa using h)]
/-- a number's signs -/
def intT (n : Int) : List Nat := if n < 0 then 45 :: digs n.natAbs else digs n.natAbs
theorem str_int (n : Int) : Str.ofString (toString n) = S (intT n) := by
  unfold intT
  cases n with
  | ofNat m => exact str_nat m
  | negSucc m =>
    rw [if_pos (Int.negSucc_lt_zero m)]
    have e : toString (Int.negSucc m) = "-" ++ toString ((m + 1 : Nat) : Int) := rfl
    have e3 := str_nat (m + 1)
    rw [Str.ofString_eq_toList] at e3 ⊢
    have e4 : ((toString ((m + 1 : Nat) : Int)).toList.map Char.toNat) = digs (m + 1) := congrArg (fun x : Str => x.cps.toList) e3
    rw [e, String.toList_append, List.map_append, e4]
    rfl
/-! ### days -/
def leap (y : Int) : Bool := decide (y % 4 = 0) && (decide (¬ y % 100 = 0) || decide (y % 400 = 0))
def lens : List Int := [31, 28, 31, 30, 31, 30, 31, 31, 30, 31, 30, 31]
def mlen (y m : Int) : Int := if m = 2 ∧ leap y = true then 29 else lens.getD (m - 1).toNat 0
def dBefore (y : Int) : Int := 365 * (y - 1) + (y - 1) / 4 - (y - 1) / 100 + (y - 1) / 400
def sumM (y : Int) : Nat → Int
  | 0 => 0
  | k + 1 => sumM y k + mlen y ((k : Int) + 1)
def dayOf (y m d : Int) : Option Int := if ¬ (1 ≤ y ∧ y ≤ 9999) ∨ ¬ (1 ≤ m ∧ m ≤ 12) then none else if ¬ (1 ≤ d ∧ d ≤ mlen y m) then none else some (dBefore y + d - 1 + (-719162) + sumM y (m.toNat - 1))
def mloop (y : Int) : Nat → Int → Int → Option (Int × Int)
  | 0, _, _ => none
  | f + 1, r, m => if r ≥ mlen y m then mloop y f (r - mlen y m) (m + 1) else some (m, r)
def mn3 (a : Int) : Int := if (3 : Int) < a then 3 else a
def dateY (n : Int) : Int := 400 * (n / 146097) + 1 + 100 * mn3 (n % 146097 / 36524) + 4 * ((n % 146097 - 36524 * mn3 (n % 146097 / 36524)) / 1461)
def dateR (n : Int) : Int := (n % 146097 - 36524 * mn3 (n % 146097 / 36524)) % 1461
def dateOf (day : Int) : Option (Int × Int × Int) :=
  let n := day - (-719162)
  let y := dateY n + mn3 (dateR n / 365)
  (mloop y 12 (dateR n - 365 * mn3 (dateR n / 365)) 1).map fun p => (y, p.1, p.2 + 1)
def dateText (y m d : Nat) : List Nat := pad0 4 y ++ 45 :: (pad0 2 m ++ 45 :: pad0 2 d)
def readDate (t : List Nat) : Option Int :=
  if t.length ≠ 10 ∨ t[4]? ≠ some 45 ∨ t[7]? ≠ some 45 then none
  else if (t.take 4 ++ (t.drop 5).take 2 ++ t.drop 8).all isd = true then dayOf (num (t.take 4)) (num ((t.drop 5).take 2)) (num (t.drop 8)) else none
/-- a drawn day -/
def Day (d : Int) : Prop := d = 0 ∨ d = -719162 ∨ d = 2932896 ∨ (20000 ≤ d ∧ d ≤ 20008)
def dayT (d : Int) : List Nat := match dateOf d with
  | some (y, m, e) => dateText y.toNat m.toNat e.toNat
  | none => []
def dayOk (d : Int) : Bool := match dateOf d with
  | some (y, m, e) => decide (0 ≤ y ∧ y < 10000 ∧ 0 ≤ m ∧ m < 100 ∧ 0 ≤ e ∧ e < 100) && decide (readDate (dateText y.toNat m.toNat e.toNat) = some d) && (dateText y.toNat m.toNat e.toNat).all (fun c => isd c || decide (c = 45)) && decide ((dateText y.toNat m.toNat e.toNat).length = 10)
  | none => false
theorem day_ok {d : Int} (h : Day d) : dayOk d = true := by
  rcases h with rfl | rfl | rfl | ⟨h1, h2⟩
  · decide +kernel
  · decide +kernel
  · decide +kernel
  · have : d = 20000 ∨ d = 20001 ∨ d = 20002 ∨ d = 20003 ∨ d = 20004 ∨ d = 20005 ∨ d = 20006 ∨ d = 20007 ∨ d = 20008 := by omega
    rcases this with rfl | rfl | rfl | rfl | rfl | rfl | rfl | rfl | rfl <;> decide +kernel
/-! ### integers and decimals -/
def digitsValue (t : List Nat) : Option Int := if (t.dropWhile fun d => decide (d = 48)).length > 20 then none else some ((num t : Nat) : Int)
def unsigned (t : List Nat) : List Nat := if t.head? = some 45 then t.drop 1 else t
def signed (t : List Nat) (n : Int) : Int := if t.head? = some 45 then -n else n
def great (o : Option Int) : Option Int := match o with
  | none => none
  | some n => if n > 1000000000000000 then none else some n
def readInteger (t : List Nat) : Option Int := if (decide (unsigned t ≠ []) && (unsigned t).all isd) = true then (great (digitsValue (unsigned t))).map (signed t) else none
def decParts (t : List Nat) : List Nat × List Nat × List Nat := match TL.par [46] [] t with
  | some (p, q) => (p, [46], q)
  | none => (t, [], [])
def readDecimal (t : List Nat) : Option Int :=
  let p := decParts (unsigned t)
  if (decide (p.1 ≠ []) && p.1.all isd) = true then
    if p.2.1 = [46] ∧ (¬ ((decide (p.2.2 ≠ []) && p.2.2.all isd) = true) ∨ p.2.2.length > 4) then none
    else (great (digitsValue (p.1 ++ p.2.2 ++ List.replicate (4 - p.2.2.length) 48))).map (signed t)
  else none
theorem digitsValue_of {t : List Nat} (h : t.length ≤ 20) : digitsValue t = some ((num t : Nat) : Int) := by
  unfold digitsValue
  rw [if_neg]
  have h1 := (List.dropWhile_suffix (fun d : Nat => decide (d = 48)) (l := t)).length_le
  omega
theorem head_digs (n : Nat) : (digs n).head? ≠ some 45 := fun h => by
  have := isd_of (digs_isd n) 45 (List.mem_of_mem_head? h)
  omega
theorem intT_un (n : Int) : unsigned (intT n) = digs n.natAbs ∧ signed (intT n) ((n.natAbs : Nat) : Int) = n := by
  unfold intT unsigned signed
  by_cases h : n < 0
  · rw [if_pos h]
    refine ⟨if_pos rfl, ?_⟩
    rw [if_pos (show (45 :: digs n.natAbs).head? = some 45 from rfl)]
    omega
  · rw [if_neg h]
    refine ⟨if_neg (head_digs _), ?_⟩
    rw [if_neg (head_digs _)]
    omega
def Big (n : Int) : Prop := n.natAbs ≤ 1000000000000000
theorem read_intT {n : Int} (h : Big n) : readInteger (intT n) = some n := by
  obtain ⟨h1, h2⟩ := intT_un n
  unfold readInteger
  rw [h1, if_pos (by rw [decide_eq_true (digs_ne _), digs_isd]; rfl), digitsValue_of (by have := digs_le (n := n.natAbs) (k := 16) (by decide) (by unfold Big at h; omega); omega), num_digs]
  unfold great
  simp only
  rw [if_neg (by unfold Big at h; omega)]
  exact congrArg some h2
theorem num_lt : ∀ t : List Nat, t.all isd = true → num t < 10 ^ t.length
  | [], _ => by decide
  | c :: t, h => by
    rw [List.all_cons, Bool.and_eq_true] at h
    have h1 := num_lt t h.2
    have h2 : 48 ≤ c ∧ c ≤ 57 := by have := h.1; unfold isd at this; simpa using this
    rw [num_cons, List.length_cons, Nat.pow_succ]
    have h3 : (c - 48) * 10 ^ t.length ≤ 9 * 10 ^ t.length := Nat.mul_le_mul_right _ (by omega)
    omega
/-- digits of one length are told by their number -/
theorem num_inj : ∀ (t u : List Nat), t.all isd = true → u.all isd = true → t.length = u.length → num t = num u → t = u
  | [], [], _, _, _, _ => rfl
  | c :: t, d :: u, h1, h2, hl, hn => by
    rw [List.all_cons, Bool.and_eq_true] at h1 h2
    have l : t.length = u.length := by simpa using hl
    have c1 : 48 ≤ c ∧ c ≤ 57 := by have := h1.1; unfold isd at this; simpa using this
    have d1 : 48 ≤ d ∧ d ≤ 57 := by have := h2.1; unfold isd at this; simpa using this
    have b1 := num_lt t h1.2
    have b2 := num_lt u h2.2
    rw [num_cons, num_cons, l] at hn
    rw [l] at b1
    have e : c = d := by
      rcases Nat.lt_trichotomy (c - 48) (d - 48) with q | q | q
      · have := Nat.mul_le_mul_right (10 ^ u.length) (show c - 48 + 1 ≤ d - 48 by omega)
        rw [Nat.add_mul] at this
        omega
      · omega
      · have := Nat.mul_le_mul_right (10 ^ u.length) (show d - 48 + 1 ≤ c - 48 by omega)
        rw [Nat.add_mul] at this
        omega
    subst e
    rw [num_inj t u h1.2 h2.2 l (by omega)]
theorem zeros_num (k : Nat) : num (List.replicate k 48) = 0 := by
  induction k with
  | zero => rfl
  | succ k ih => rw [List.replicate_succ, num_zero, ih]
theorem pad0_num (w n : Nat) : num (pad0 w n) = n := by
  unfold pad0
  rw [num_app, zeros_num, num_digs]
  omega
theorem pad0_isd (w n : Nat) : (pad0 w n).all isd = true := by
  unfold pad0
  rw [List.all_append, digs_isd, Bool.and_true, List.all_eq_true]
  intro c hc
  have : c = 48 := List.eq_of_mem_replicate hc
  subst this
  rfl
theorem pad0_len {w n : Nat} (hw : 1 ≤ w) (h : n < 10 ^ w) : (pad0 w n).length = w := by
  have := digs_le hw h
  unfold pad0
  rw [List.length_append, List.length_replicate]
  omega
/-- the digits behind the point -/
theorem fracs {k : Nat} (h : k < 10000) : digs (10000 + k) = 49 :: pad0 4 k := by
  have l1 : (digs (10000 + k)).length = 5 := by
    have a := digs_le (n := 10000 + k) (k := 5) (by decide) (by omega)
    have b := digits10_ge (k := 4) (n := 10000 + k) (by omega)
    unfold digs at a ⊢
    rw [List.length_map] at a ⊢
    omega
  refine num_inj _ _ (digs_isd _) ?_ ?_ ?_
  · rw [List.all_cons, pad0_isd]; rfl
  · rw [l1, List.length_cons, pad0_len (by decide) h]
  · rw [num_digs, num_cons, pad0_num, pad0_len (by decide) h]
theorem end_back (c : Nat) (t : List Nat) : t = dropEnd c t ++ List.replicate (t.length - (dropEnd c t).length) c := by
  unfold dropEnd
  have h := List.takeWhile_append_dropWhile (p := fun d => decide (d = c)) (l := t.reverse)
  have e : t = (t.reverse.dropWhile fun d => decide (d = c)).reverse ++ (t.reverse.takeWhile fun d => decide (d = c)).reverse := by
    rw [← List.reverse_append, h, List.reverse_reverse]
  have e2 : (t.reverse.takeWhile fun d => decide (d = c)).reverse = List.replicate (t.length - ((t.reverse.dropWhile fun d => decide (d = c)).reverse).length) c := by
    have hl := congrArg List.length e
    rw [List.length_append] at hl
    refine List.eq_replicate_iff.mpr ⟨by omega, fun d hd => ?_⟩
    have := List.all_eq_true.mp (List.all_takeWhile (p := fun d => decide (d = c)) (l := t.reverse)) d (List.mem_reverse.mp hd)
    simpa using this
  rw [← e2]
  exact e
theorem end_sub {c : Nat} {t : List Nat} : ∀ d ∈ dropEnd c t, d ∈ t := fun d hd => by
  rw [end_back c t]
  exact List.mem_append_left _ hd
/-- a decimal's text -/
def decT (n : Int) : List Nat :=
  let r := dropEnd 48 (pad0 4 (n.natAbs % 10000))
  (if n < 0 then [45] else []) ++ (digs (n.natAbs / 10000) ++ if r = [] then [] else 46 :: r)
theorem no_point (n : Nat) : 46 ∉ digs n := fun h => by
  have := isd_of (digs_isd n) 46 h
  omega
theorem decT_un (n : Int) : unsigned (decT n) = digs (n.natAbs / 10000) ++ (if dropEnd 48 (pad0 4 (n.natAbs % 10000)) = [] then [] else 46 :: dropEnd 48 (pad0 4 (n.natAbs % 10000))) ∧ signed (decT n) ((n.natAbs : Nat) : Int) = n := by
  unfold decT unsigned signed
  simp only
  by_cases h : n < 0
  · rw [if_pos h]
    refine ⟨if_pos rfl, (if_pos rfl).trans ?_⟩
    omega
  · have hh : ∀ x, ([] ++ (digs (n.natAbs / 10000) ++ x)).head? ≠ some 45 := fun x => by
      rw [List.nil_append, List.head?_append]
      cases e : (digs (n.natAbs / 10000)).head? with
      | none => exact absurd (List.head?_eq_none_iff.mp e) (digs_ne _)
      | some c =>
        intro q
        have : c = 45 := by simpa using q
        subst this
        exact head_digs _ e
    rw [if_neg h]
    refine ⟨if_neg (hh _), ?_⟩
    rw [if_neg (hh _)]
    omega
theorem read_decT {n : Int} (h : Big n) : readDecimal (decT n) = some n := by
  obtain ⟨h1, h2⟩ := decT_un n
  obtain ⟨a, ha⟩ : ∃ a, a = n.natAbs := ⟨_, rfl⟩
  have hb : a ≤ 1000000000000000 := by rw [ha]; exact h
  rw [← ha] at h1 h2
  unfold readDecimal
  rw [h1]
  have hk : a % 10000 < 10000 := Nat.mod_lt _ (by decide)
  have hR := pad0_len (w := 4) (by decide) hk
  have hRn := pad0_num 4 (a % 10000)
  obtain ⟨R, eR⟩ : ∃ R, R = pad0 4 (a % 10000) := ⟨_, rfl⟩
  have hRd : R.all isd = true := by rw [eR]; exact pad0_isd _ _
  rw [← eR] at hR hRn ⊢
  have hback := end_back 48 R
  have hsub := end_sub (c := 48) (t := R)
  obtain ⟨r, er⟩ : ∃ r, r = dropEnd 48 R := ⟨_, rfl⟩
  rw [← er] at hback hsub ⊢
  have hrl : r.length ≤ 4 := by
    have := congrArg List.length hback
    rw [List.length_append] at this
    omega
  have hrd : r.all isd = true := List.all_eq_true.mpr fun c hc => List.all_eq_true.mp hRd c (hsub c hc)
  have hD : (digs (a / 10000)).length ≤ 12 := digs_le (by decide) (by omega)
  have hval : great (digitsValue (digs (a / 10000) ++ R)) = some (a : Int) := by
    rw [digitsValue_of (by rw [List.length_append]; omega), num_app, num_digs, hR, hRn]
    unfold great
    simp only
    have e : a / 10000 * 10 ^ 4 + a % 10000 = a := by omega
    rw [e, if_neg (by omega)]
  by_cases hr : r = []
  · have hp : decParts (digs (a / 10000) ++ (if r = [] then [] else 46 :: r)) = (digs (a / 10000), [], []) := by
      rw [if_pos hr, List.append_nil]
      unfold decParts
      rw [par_head_none (no_point _)]
    rw [hp]
    simp only
    rw [if_pos (by rw [decide_eq_true (digs_ne _), digs_isd]; rfl), if_neg (by simp)]
    have e : digs (a / 10000) ++ [] ++ List.replicate (4 - ([] : List Nat).length) 48 = digs (a / 10000) ++ R := by
      rw [List.append_nil]
      congr 1
      rw [hback, hr, hR]
      rfl
    rw [e, hval]
    exact congrArg some h2
  · have hp : decParts (digs (a / 10000) ++ (if r = [] then [] else 46 :: r)) = (digs (a / 10000), [46], r) := by
      rw [if_neg hr]
      unfold decParts
      have := par_head (c := 46) (sep := []) r (no_point (a / 10000))
      rw [show digs (a / 10000) ++ 46 :: r = digs (a / 10000) ++ ([46] ++ r) from rfl, this]
    rw [hp]
    simp only
    rw [if_pos (by rw [decide_eq_true (digs_ne _), digs_isd]; rfl), if_neg (by
      rintro ⟨_, q | q⟩
      · exact q (by rw [decide_eq_true hr, hrd]; rfl)
      · omega)]
    have e : digs (a / 10000) ++ r ++ List.replicate (4 - r.length) 48 = digs (a / 10000) ++ R := by
      rw [List.append_assoc]
      congr 1
      rw [hR] at hback
      exact hback.symm
    rw [e, hval]
    exact congrArg some h2
end Sb
set_option Elab.async false
set_option maxRecDepth 100000
set_option maxHeartbeats 4000000
namespace Sb
open PySem PySem.Spec PyProof.Rows L2 SX
def top (i : Nat) : Stmt := PySem.Challenge.pw_stylobate_k83_whole_separated_texts_roun.main.body.getD i (.Pass ⟨0, 0, 0, 0⟩)
abbrev s__law_cell : Stmt := top 46
abbrev sc__law_cell_N : List Str := ["_law_script", "_law_k"]
theorem sc__law_cell : FnScope sc__law_cell_N ["_law_script", "_law_k"] (defScope s__law_cell) := ⟨rfl, rfl, rfl, by decide +kernel, rfl, by decide +kernel, by decide +kernel⟩
abbrev s__law_state : Stmt := top 47
abbrev sc__law_state_N : List Str := ["_law_cell_here", "_law_k", "_law_prime", "_law_first", "_law_second", "_law_third", "_law_fourth"]
theorem sc__law_state : FnScope sc__law_state_N ["_law_cell_here", "_law_k"] (defScope s__law_state) := ⟨rfl, rfl, rfl, by decide +kernel, rfl, by decide +kernel, by decide +kernel⟩
abbrev s__law_digit : Stmt := top 48
abbrev sc__law_digit_N : List Str := ["_law_state_here", "_law_many", "_law_digit_here"]
theorem sc__law_digit : FnScope sc__law_digit_N ["_law_state_here", "_law_many"] (defScope s__law_digit) := ⟨rfl, rfl, rfl, by decide +kernel, rfl, by decide +kernel, by decide +kernel⟩

structure Txt (K : PySem.W.Frag) (mg : Str → Option Value) (C fM fP : Addr) : Prop where
  n_len : mg "len" = none
  n_int : mg "int" = none
  n_range : mg "range" = none
  n_min : mg "min" = none
  n_isinstance : mg "isinstance" = none
  n_list : mg "list" = none
  n_bool : mg "bool" = none
  cl : Cls K C
  nT : NoAttr K C "text"
  nO : NoAttr K C "offset"
  nM : NoAttr K C "marked"
  g_Field : mg "Field" = some (.ref C)
  g_MARK : ∃ u, mg "MARK_records" = some u ∧ RelV (.str (S [34])) u
  g_END : ∃ u, mg "END" = some u ∧ RelV (.str (S [10])) u
  g_read_marked : mg "read_marked" = some (.ref fM)
  g_read_plain : mg "read_plain" = some (.ref fP)
  isC : C8.InsC K C
  n_str : mg "str" = none
  n_abs : mg "abs" = none
  n_enumerate : mg "enumerate" = none
  g_FIRST : ∃ u, mg "FIRST_DAY" = some u ∧ RelV (.int (-719162)) u
  g_GREATEST : ∃ u, mg "GREATEST" = some u ∧ RelV (.int 1000000000000000) u
  g_MOST : ∃ u, mg "MOST_SIGNS" = some u ∧ RelV (.int 10000) u
  g_LENGTHS : ∃ pL, mg "LENGTHS" = some (.ref pL) ∧ ∀ H, SqT K H pL ([31, 28, 31, 30, 31, 30, 31, 31, 30, 31, 30, 31].map V.int)

def spCell (K : PySem.W.Frag) : Sp := fun vs H Q _ => ∃ (a : Addr) (ns : List Int) (j : Nat), vs = [.ref a, .int (j : Int)] ∧ SqL K H a (ns.map V.int) ∧ ∀ z : Int, Q (.int z) H
def spState : Sp := fun vs H Q _ => ∃ (c k : Int), vs = [.int c, .int k] ∧ ∀ (p : Addr) (z : Int), H p = none → Q (.ref p) (upd H p (.lst [.int z]))
def spDigit : Sp := fun vs H Q _ => ∃ (p : Addr) (m : Int), vs = [.ref p, .int m] ∧ Dr H p ∧ 0 < m ∧ m < 1073741824 ∧ ∀ (d : Int) (H' : Hp), 0 ≤ d → d < m → Kp p H H' → Q (.int d) H'


section
variable {P : Program} {w : World} {K : PySem.W.Frag} {mg : Str → Option Value} {base : Heap} {C fM fP : Addr}
theorem ok__law_cell {f : Addr} {fd : FuncData} (F : Fun K "_law_cell" "_law_cell" s__law_cell f fd) (T : Txt K mg C fM fP) : FnOk P w K mg base CX0 1 f fd ["_law_script", "_law_k"] (spCell K) := by
  refine F.ok sc__law_cell (fun vs H Q E h => ?_) (fun cdv A outer s H vs Q E hr h => ?_)
  · obtain ⟨a, ns, j, rfl, _⟩ := h
    rfl
  · obtain ⟨a, ns, j, rfl, hS, k⟩ := h
    refine ⟨_, pss_cons (ps_if (pt_cmpR op_lt (pv 1) (pe_callB call_len_seq (by rfl) T.n_len PySem.boot_len (pa_cons (pv 0) pa_nil)) (nomark _)) (pss_one (ps_ret (pe_ix ix_list (pv 0) (pv 1) (fun _ _ => rfl)))) pss_nil)
  (pss_one (ps_ret pe_int)), ?_⟩
    refine ⟨_, rfl, _, rfl, a, _, rfl, .inl hS, _, _, rfl, rfl, _, rfl, ?_⟩
    refine ite2 (fun hlt => ?_) (fun _ => ?_)
    · have hj : j < ns.length := by
        have := of_decide_eq_true hlt
        rw [List.length_map] at this
        omega
      have e : (ns.map V.int)[j]? = some (V.int ns[j]) := by rw [List.getElem?_map, List.getElem?_eq_getElem hj]; rfl
      exact ⟨_, rfl, _, rfl, a, _, _, _, rfl, rfl, hS, atI_nat e, k _⟩
    · exact k _
theorem ok__law_state {f : Addr} {fd : FuncData} (F : Fun K "_law_state" "_law_state" s__law_state f fd) (T : Txt K mg C fM fP) : FnOk P w K mg base CX0 1 f fd ["_law_cell_here", "_law_k"] spState := by
  refine F.ok sc__law_state (fun vs H Q E h => ?_) (fun cdv A outer s H vs Q E hr h => ?_)
  · obtain ⟨c, i, rfl, _⟩ := h
    rfl
  · obtain ⟨c, i, rfl, k⟩ := h
    refine ⟨_, (pss_cons (ps_if (pt_cmpR op_ge (pv 0) pe_int (nomark _)) (pss_one (ps_ret (pe_lst (pa_cons (pv 0) pa_nil)))) pss_nil)
  (pss_cons (ps_set (i := 2) sc__law_state.nd rfl (Or.inl rfl) pe_int)
  (pss_cons (ps_set (i := 3) sc__law_state.nd rfl (Or.inl rfl) (pe_op op_mod (pe_callTy call_int1 (by rfl) T.n_int (by decide +kernel) (pa_cons (pe_op op_add (pe_op op_add (pe_op op_mul (pv 0) pe_int) (pe_op op_mul (pe_op op_add (pv 1) pe_int) pe_int)) pe_int) pa_nil)) (pv 2)))
  (pss_cons (ps_set (i := 4) sc__law_state.nd rfl (Or.inl rfl) (pe_op op_mod (pe_callTy call_int1 (by rfl) T.n_int (by decide +kernel) (pa_cons (pe_op op_add (pe_op op_add (pe_op op_mul (pv 3) (pv 3)) (pe_op op_mul pe_int (pv 3))) (pv 1)) pa_nil)) (pv 2)))
  (pss_cons (ps_set (i := 5) sc__law_state.nd rfl (Or.inl rfl) (pe_op op_mod (pe_callTy call_int1 (by rfl) T.n_int (by decide +kernel) (pa_cons (pe_op op_add (pe_op op_add (pe_op op_mul (pv 4) pe_int) (pe_op op_mul (pv 3) pe_int)) pe_int) pa_nil)) (pv 2)))
  (pss_cons (ps_set (i := 6) sc__law_state.nd rfl (Or.inl rfl) (pe_op op_mod (pe_callTy call_int1 (by rfl) T.n_int (by decide +kernel) (pa_cons (pe_op op_add (pe_op op_mul (pv 5) (pv 5)) (pv 4)) pa_nil)) (pv 2)))
  (pss_one (ps_ret (pe_lst (pa_cons (pe_op op_add (pe_op op_mul (pe_op op_add (pe_op op_mul (pe_op op_add (pe_op op_mul (pv 6) (pv 2)) (pv 5)) (pv 2)) (pv 4)) (pv 2)) (pv 3)) pa_nil)))))))))), ?_⟩
    refine ⟨_, rfl, _, _, rfl, rfl, _, rfl, ?_⟩
    refine ite2 (fun _ => ?_) (fun _ => ?_)
    · exact ⟨_, rfl, by show 1 ≤ sizeLine; decide, fun p hp => k p _ hp⟩
    have pr : (0 : Int) < 2305843009213693951 := by decide
    have md : ∀ x : Int, -(2 ^ 64) < x % 2305843009213693951 ∧ x % 2305843009213693951 < 2 ^ 64 := fun x => by
      have h1 := Int.emod_nonneg x (b := 2305843009213693951) (by decide)
      have h2 := Int.emod_lt_of_pos x pr
      omega
    have c1 : -(2 ^ 64) < (6364136223 : Int) ∧ (6364136223 : Int) < 2 ^ 64 := by decide
    refine ⟨_, rfl, _, _, rfl, rfl, .inr (by decide), _, rfl, _, _, rfl, rfl, _, _, rfl, rfl, .inr (by decide), _, _, rfl, rfl, _, _, rfl, rfl, .inl ⟨_, rfl, ?_⟩⟩
    refine ⟨_, rfl, _, _, rfl, rfl, pr, ?_⟩
    refine ⟨_, rfl, _, rfl, _, _, rfl, rfl, .inl (md _), _, rfl, _, _, rfl, rfl, .inl (by decide), _, _, rfl, rfl, _, rfl, _, _, rfl, rfl, .inl ⟨_, rfl, ?_⟩⟩
    refine ⟨_, rfl, _, _, rfl, rfl, pr, ?_⟩
    refine ⟨_, rfl, _, _, rfl, rfl, .inr (by decide), _, rfl, _, _, rfl, rfl, .inr (by decide), _, _, rfl, rfl, _, _, rfl, rfl, .inl ⟨_, rfl, ?_⟩⟩
    refine ⟨_, rfl, _, _, rfl, rfl, pr, ?_⟩
    refine ⟨_, rfl, _, rfl, _, _, rfl, rfl, .inl (md _), _, rfl, _, _, rfl, rfl, .inl ⟨_, rfl, ?_⟩⟩
    refine ⟨_, rfl, _, _, rfl, rfl, pr, ?_⟩
    refine ⟨_, rfl, _, rfl, _, _, rfl, rfl, .inr (by decide), _, rfl, _, _, rfl, rfl, _, rfl, _, _, rfl, rfl, .inr (by decide), _, rfl, _, _, rfl, rfl, _, rfl, _, _, rfl, rfl, .inr (by decide), _, rfl, _, _, rfl, rfl, by show 1 ≤ sizeLine; decide, fun p hp => k p _ hp⟩
theorem ok__law_digit {f : Addr} {fd : FuncData} (F : Fun K "_law_digit" "_law_digit" s__law_digit f fd) (T : Txt K mg C fM fP) : FnOk P w K mg base CX0 1 f fd ["_law_state_here", "_law_many"] spDigit := by
  refine F.ok sc__law_digit (fun vs H Q E h => ?_) (fun cdv A outer s H vs Q E hr h => ?_)
  · obtain ⟨p, m, rfl, _⟩ := h
    rfl
  · obtain ⟨p, m, rfl, ⟨z, hz⟩, m0, m1, k⟩ := h
    refine ⟨_, (pss_cons (ps_set (i := 2) sc__law_digit.nd rfl (Or.inl rfl) (pe_op op_mod (pe_callTy call_int1 (by rfl) T.n_int (by decide +kernel) (pa_cons (pe_ix ix_list (pv 0) pe_int (fun _ _ => rfl)) pa_nil)) (pv 1)))
  (pss_cons (ps_asg (pe_op op_fdiv (pe_ix ix_list (pv 0) pe_int (fun _ _ => rfl)) (pv 1)) (pg_sub (pv 0) pe_int set_list))
  (pss_one (ps_ret (pv 2))))), ?_⟩
    refine ⟨_, rfl, p, _, _, _, rfl, rfl, seqL hz, rfl, .inl ⟨_, rfl, _, rfl, _, _, rfl, rfl, m0, ?_⟩⟩
    refine ⟨_, rfl, p, _, _, _, rfl, rfl, seqL hz, rfl, _, rfl, _, _, rfl, rfl, ⟨m0, m1⟩, _, rfl, p, _, _, 0, rfl, rfl, hz, rfl, _, rfl, ?_⟩
    refine k _ _ (Int.emod_nonneg _ (by omega)) (Int.emod_lt_of_pos _ m0) ⟨fun b o hb e => by rw [upd_ne hb]; exact e, _, upd_same⟩
end
end Sb
set_option Elab.async false
set_option maxRecDepth 100000
set_option maxHeartbeats 4000000
namespace Sb
open PySem PySem.Spec PyProof.Rows L2 SX
theorem c_quote : (Str.ofString "\"") = S [34] := by decide +kernel
theorem c_quote2 : (Str.ofString "\"\"") = S [34, 34] := by decide +kernel
theorem c_nl : (Str.ofString "\n") = S [10] := by decide +kernel
theorem c_nil : (Str.ofString "") = S [] := by decide +kernel
end Sb
set_option Elab.async false
set_option maxRecDepth 100000
set_option maxHeartbeats 4000000
namespace Sb
open PySem PySem.Spec PyProof.Rows L2 SX
abbrev s_Field___init__ : Stmt := inClass (top 30) 0
abbrev sc_Field___init___N : List Str := ["self", "text", "offset", "marked"]
theorem sc_Field___init__ : FnScope sc_Field___init___N ["self", "text", "offset", "marked"] (defScope s_Field___init__) := ⟨rfl, rfl, rfl, by decide +kernel, rfl, by decide +kernel, by decide +kernel⟩
abbrev s_read_marked : Stmt := top 31
abbrev sc_read_marked_N : List Str := ["text", "at", "separator", "signs", "k", "behind"]
theorem sc_read_marked : FnScope sc_read_marked_N ["text", "at", "separator"] (defScope s_read_marked) := ⟨rfl, rfl, rfl, by decide +kernel, rfl, by decide +kernel, by decide +kernel⟩
abbrev s_read_plain : Stmt := top 32
abbrev sc_read_plain_N : List Str := ["text", "at", "separator", "k"]
theorem sc_read_plain : FnScope sc_read_plain_N ["text", "at", "separator"] (defScope s_read_plain) := ⟨rfl, rfl, rfl, by decide +kernel, rfl, by decide +kernel, by decide +kernel⟩

/-! ### fields in the heap -/
def fF (fl : Sep.Fld) : List (Str × V) := [("text", .str (S fl.text)), ("offset", .int (fl.off : Int)), ("marked", .bl fl.mkd)]
def FieldAt (C : Addr) (H : Hp) (p : Addr) (fl : Sep.Fld) : Prop := ∃ dx, H p = some (.ins C dx (fF fl))
theorem lk_here {k : Str} {v : V} {r : List (Str × V)} : List.lookup k ((k, v) :: r) = some v := by
  have e : (k == k) = true := beq_self_eq_true k
  simp only [List.lookup, e]
theorem lk_past {k g : Str} {v : V} {r : List (Str × V)} (h : (k == g) = false) : List.lookup k ((g, v) :: r) = List.lookup k r := by
  simp only [List.lookup, h]
theorem put_past {f g : Str} {v x : V} {r : List (Str × V)} (h : ¬ g = f) : putF f v ((g, x) :: r) = (g, x) :: putF f v r := if_neg h
theorem fF_text (fl : Sep.Fld) : (fF fl).lookup ("text" : Str) = some (.str (S fl.text)) := lk_here
theorem fF_offset (fl : Sep.Fld) : (fF fl).lookup ("offset" : Str) = some (.int (fl.off : Int)) := (lk_past (by decide +kernel)).trans lk_here
theorem fF_marked (fl : Sep.Fld) : (fF fl).lookup ("marked" : Str) = some (.bl fl.mkd) := (lk_past (by decide +kernel)).trans ((lk_past (by decide +kernel)).trans lk_here)
theorem fF_new (t : List Nat) (o : Nat) (m : Bool) : putF "marked" (.bl m) (putF "offset" (.int (o : Int)) (putF "text" (.str (S t)) [])) = fF ⟨t, o, m⟩ := by
  show putF "marked" (.bl m) (putF "offset" (.int (o : Int)) [("text", .str (S t))]) = _
  rw [put_past (by decide +kernel)]
  show putF "marked" (.bl m) [("text", .str (S t)), ("offset", .int (o : Int))] = _
  rw [put_past (by decide +kernel), put_past (by decide +kernel)]
  rfl
def spFld (C : Addr) : Sp := fun vs H Q _ => ∃ (p dx : Addr) (t : List Nat) (o : Nat) (m : Bool), vs = [.ref p, .str (S t), .int (o : Int), .bl m] ∧ H p = some (.ins C dx []) ∧
  ∀ H' : Hp, FieldAt C H' p ⟨t, o, m⟩ → (∀ b u, H b = some u → b ≠ p → H' b = some u) → Q .non H'
def spRead (C : Addr) (m : Bool) : Sp := fun vs H Q _ => ∃ (text : List Nat) (a sep : Nat) (fl : Sep.Fld) (k : Nat), vs = [.str (S text), .int (a : Int), .str (S [sep])] ∧ text.length ≤ 100000 ∧ a ≤ text.length ∧ (text[a]? = some 34 ↔ m = true) ∧ Sep.rd sep (text.drop a) a = .ok (fl, k) ∧
  ∀ (H' : Hp) (q p : Addr), H' q = some (.tup [.ref p, .int (k : Int)]) → FieldAt C H' p fl → Same H H' → H p = none → Q (.ref q) H'
theorem putF_len (f : Str) (v : V) : ∀ l : List (Str × V), (putF f v l).length ≤ l.length + 1
  | [] => Nat.le_refl 1
  | (g, x) :: r => by
    show (if g = f then (g, v) :: r else (g, x) :: putF f v r).length ≤ _
    have := putF_len f v r
    split <;> simp <;> omega
theorem inV2 (c a b : Nat) : inV (.str (S [c])) [.str (S [a]), .str (S [b])] = decide (c = a ∨ c = b) := by
  show (S [a] == S [c] || (S [b] == S [c] || false)) = decide (c = a ∨ c = b)
  rw [S_beq_eq, S_beq_eq, Bool.or_false]
  by_cases h1 : c = a
  · subst h1; simp
  · by_cases h2 : c = b
    · subst h2; simp
    · have h3 : ¬ [a] = [c] := fun q => h1 (by simpa using q.symm)
      have h4 : ¬ [b] = [c] := fun q => h2 (by simpa using q.symm)
      rw [decide_eq_false h3, decide_eq_false h4, decide_eq_false (by omega)]
      rfl
theorem drop_cons {t : List Nat} {a : Nat} (h : a < t.length) : t.drop a = t[a] :: t.drop (a + 1) := List.drop_eq_getElem_cons h

section
variable {P : Program} {w : World} {K : PySem.W.Frag} {mg : Str → Option Value} {base : Heap} {C fM fP : Addr}
theorem ok_Field {f : Addr} {fd : FuncData} (F : Fun K "__init__" "Field.__init__" s_Field___init__ f fd) (T : Txt K mg C fM fP) : FnOk P w K mg base CX0 1 f fd ["self", "text", "offset", "marked"] (spFld C) := by
  refine F.ok sc_Field___init__ (fun vs H Q E h => ?_) (fun cdv A outer s H vs Q E hr h => ?_)
  · obtain ⟨_, _, _, _, _, rfl, _⟩ := h
    rfl
  · obtain ⟨p, dx, t, o, m, rfl, hp, k⟩ := h
    refine ⟨_, (pss_cons (ps_fld (pv 0) (pv 1) rfl)
  (pss_cons (ps_fld (pv 0) (pv 2) rfl)
  (pss_one (ps_fld (pv 0) (pv 3) rfl)))), ?_⟩
    refine ⟨_, rfl, _, rfl, p, C, dx, _, rfl, hp, T.cl, T.nT, by decide, ?_⟩
    refine ⟨_, rfl, _, rfl, p, C, dx, _, rfl, upd_same, T.cl, T.nO, by show 1 < 1000; decide, ?_⟩
    refine ⟨_, rfl, _, rfl, p, C, dx, _, rfl, upd_same, T.cl, T.nM, Nat.lt_of_le_of_lt (putF_len _ _ _) (show 1 + 1 < 1000 by decide), ?_⟩
    refine k _ ⟨dx, ?_⟩ (fun b u e ne => ?_)
    · rw [upd_same, fF_new]
    · rw [upd_ne ne, upd_ne ne, upd_ne ne]
      exact e
/-- what a new field leaves as it was -/
theorem made_same {H H1 : Hp} {x dx : Addr} (nx : H x = none) (nd : H dx = none) (h : ∀ b u, upd (upd H dx (.own x)) x (.ins C dx []) b = some u → b ≠ x → H1 b = some u) : Same H H1 := fun b o e =>
  h b o (by rw [upd_ne (ne_of_none e nx), upd_ne (ne_of_none e nd)]; exact e) (ne_of_none e nx)
end
/-! ### InvalidText -/
abbrev s_Inv_init : Stmt := inClass (top 26) 0
abbrev Inv_N : List Str := ["self", "offset", "reason", "__class__"]
theorem sc_Inv : NdefX.NScope Inv_N ["self", "offset", "reason"] ["__class__"] (defScope s_Inv_init) := NdefX.nscope_by (by decide +kernel)
def xF (o : Int) (r : Str) : List (Str × V) := [("reason", .str r), ("offset", .int o)]
/-- what InvalidText's __init__ does -/
def spInv (C : Addr) : Sp := fun vs H Q _ => ∃ (a : Addr) (o : Int) (r : Str), vs = [.ref a, .int o, .str r] ∧ H a = some (exo a C none) ∧ o.natAbs.log2 < 1900 ∧ r.length ≤ 10000 ∧
  ∀ d : Addr, H d = none → d ≠ a → Q .non (upd (upd (upd H d (exd d [("offset", .int o)])) a (exo a C (some d))) d (exd d (xF o r)))
/-- what the top says of an exception class with that __init__ -/
structure XcT (P : Program) (K : PySem.W.Frag) (mg : Str → Option Value) (C cc cda fI : Addr) : Prop where
  sup : SupC P K mg C cc cda
  nO : PySem.W.findIn K (.ref C) "offset" = some none
  nR : PySem.W.findIn K (.ref C) "reason" = some none
/-- at H the exception's dict is d -/
def XAt (H : Hp) (d : Addr) (o : Int) (r : Str) : Prop := H d = some (.xd (xF o r))
theorem ok_Inv {P : Program} {w : World} {K : PySem.W.Frag} {mg : Str → Option Value} {base : Heap} {CX : CXT} {f C cc cda : Addr} {oc dV kV doc pm ct : Value} {od an : Option Addr} {osl : Array (Option Value)}
    (lk : K.lookup f = some ⟨oc, od, .func (PySem.W.ksFn "__init__" "InvalidText.__init__" (defArgs s_Inv_init) (defBody s_Inv_init) (defScope s_Inv_init) dV kV doc pm an (.ref cda) ct cc), osl⟩)
    (hcd : PySem.W.codeIn K (.ref cda) "InvalidText.__init__" = true) (U : XcT P K mg C cc cda f) : FnOk P w K mg base CX 1 f (PySem.W.ksFn "__init__" "InvalidText.__init__" (defArgs s_Inv_init) (defBody s_Inv_init) (defScope s_Inv_init) dV kV doc pm an (.ref cda) ct cc) ["self", "offset", "reason"] (spInv C) := by
  refine fn_super (N := Inv_N) lk hcd sc_Inv U.sup rfl rfl rfl rfl (fun vs H Q E h => ?_) (fun A outer s H vs Q E hr h => ?_) (fun env => ⟨_, rfl⟩) (fun env => rfl)
  · obtain ⟨_, _, _, rfl, _⟩ := h
    rfl
  · obtain ⟨a, o, r, rfl, ha, ho, hl, k⟩ := h
    refine ⟨_, _, a, pe_joined (.cons pe_str (.cons (pe_fmt (pv 1)) (.cons pe_str (.cons (pe_fmt (pv 2)) .nil)))), pss_cons (ps_ost (pv 0) (pv 1)) (pss_one (ps_ost (pv 0) (pv 2))), rfl, ha, ?_⟩
    · have e0 : ∀ x : Str, (Str.empty ++ x).length = x.length := fun x => by rw [Str.length_append]; simp [Str.empty, Str.length]
      have e1 : (Str.ofString "at ").length = 3 := by decide +kernel
      have e2 : (Str.ofString ": ").length = 2 := by decide +kernel
      have e3 : (Str.ofString (toString o)).length ≤ 1920 + 2 := by
        have := int_text_length_le (k := 1920) (by decide) (show o.natAbs.log2 < 1920 by omega)
        rw [PySem.ofString_length]
        omega
      refine ⟨_, rfl, ?_, _, rfl, .inr ⟨o, rfl, by omega, _, rfl, ?_, _, rfl, ?_, _, rfl, .inl ⟨r, rfl, ?_, _, rfl, ?_, rfl, ha, ?_⟩⟩⟩
      · rw [e0, e1, sizeLine_eq]; decide
      · rw [Str.length_append, e0, e1, sizeLine_eq]; omega
      · rw [Str.length_append, Str.length_append, e0, e1, e2, sizeLine_eq]; omega
      · rw [sizeLine_eq]; omega
      · rw [Str.length_append, Str.length_append, Str.length_append, e0, e1, e2, sizeLine_eq]; omega
      · refine ⟨_, rfl, _, rfl, a, C, rfl, U.sup.ox, U.nO, .inl ⟨ha, fun d hd hne => ?_⟩⟩
        refine ⟨_, rfl, _, rfl, a, C, rfl, U.sup.ox, U.nR, .inr ⟨d, [("offset", .int o)], upd_same, ?_, Nat.le_of_ble_eq_true rfl, ?_⟩⟩
        · rw [upd_ne hne, upd_same]
        · exact k d hd hne
/-- InvalidText(o, r) made: what is left -/
theorem mk_Inv {C : Addr} {H : Hp} {o : Int} {r : Str} {ta : TA} {σ : L2.St} {Q : XK} (ho : o.natAbs.log2 < 1900) (hr : r.length ≤ 10000)
    (h : ∀ (H' : Hp) (d : Addr), Same H H' → XAt H' d o r → Q (.ref C) (some d) H')
    (ht : ∀ F : List V → Hp → Prop, F [.int o, .str r] H → ta σ H F) : tMkO C (spInv C) [] ta σ H Q := by
  refine ht _ ⟨by show 2 ≤ 1000; decide, fun a ha => ⟨a, o, r, rfl, upd_same, ho, hr, fun d hd hne => ?_⟩⟩
  have hd1 : H d = none := by rw [upd_ne hne] at hd; exact hd
  refine ⟨rfl, d, _, ?_, upd_same, hd1, h _ d (fun b u e => ?_) upd_same⟩
  · rw [upd_ne (Ne.symm hne), upd_same]
  · have n1 : b ≠ a := ne_of_none e ha
    have n2 : b ≠ d := ne_of_none e hd1
    rw [upd_ne n2, del_ne n1, upd_ne n2, upd_ne n1, upd_ne n2, upd_ne n1]
    exact e
end Sb
set_option Elab.async false
set_option maxRecDepth 100000
set_option maxHeartbeats 4000000
namespace Sb
open PySem PySem.Spec PyProof.Rows L2 SX
/-- the three reasons -/
def reason : Nat → Str
  | 0 => "a quotation mark stands in a field without quotation marks"
  | 1 => "a separator is expected"
  | _ => "the quotation mark is not closed"
theorem log_small {n : Nat} (h : n ≤ 200000) : ((n : Int)).natAbs.log2 < 1900 := by
  show n.log2 < 1900
  by_cases h0 : n = 0
  · subst h0; decide
  · exact Nat.lt_of_lt_of_le ((Nat.log2_lt h0).mpr (Nat.lt_of_le_of_lt h (show 200000 < 2 ^ 18 by decide))) (by decide)
theorem reason_len : ∀ r, (reason r).length ≤ 10000
  | 0 => by decide +kernel
  | 1 => by decide +kernel
  | _ + 2 => by show (Str.ofString "the quotation mark is not closed").length ≤ 10000; decide +kernel
def spReadX (C IT : Addr) (m : Bool) : Sp := fun vs H Q E => ∃ (text : List Nat) (a sep : Nat), vs = [.str (S text), .int (a : Int), .str (S [sep])] ∧ text.length ≤ 100000 ∧ a ≤ text.length ∧ (text[a]? = some 34 ↔ m = true) ∧
  (∀ (fl : Sep.Fld) (k : Nat), Sep.rd sep (text.drop a) a = .ok (fl, k) → ∀ (H' : Hp) (q p : Addr), H' q = some (.tup [.ref p, .int (k : Int)]) → FieldAt C H' p fl → Same H H' → H p = none → Q (.ref q) H') ∧
  (∀ (o r : Nat), Sep.rd sep (text.drop a) a = .error (o, r) → ∀ (H' : Hp) (d : Addr), Same H H' → XAt H' d (o : Int) (reason r) → E (.ref IT) (some d) H')
/-- what is needed to make an InvalidText -/
structure MkI (P : Program) (w : World) (K : PySem.W.Frag) (mg : Str → Option Value) (base : Heap) (IT : Addr) : Prop where
  ox : OexC K IT
  g : mg "InvalidText" = some (.ref IT)
  ex : ∃ (fI : Addr) (fdI : FuncData), PySem.W.findIn K (.ref IT) "__init__" = some (some (.ref fI)) ∧ PySem.W.typeIn K (.ref fI) = some (.type "function") ∧ FnOk P w K mg base (L2.CX P w) 1 fI fdI ["self", "offset", "reason"] (spInv IT) ∧ Binds K fdI ["self", "offset", "reason"] []
theorem pmk_Inv {X : Cx} {IT : Addr} {p pos : Pos} {e : Expr} {es : List Expr} {ta : TA} (M : MkI X.prog X.w X.K X.mg X.base IT) (hr : Room 2 X.A) (hg : Gl X "InvalidText") (ha : PA X (e :: es) ta)
    (he : starEach (e :: es) X.env = (false, eval e X.env) :: starEach es X.env := by rfl) (hpl : (backTo pos (starEach es X.env)).any (·.1) = false := by rfl) :
    PMk X (.Call (.Name "InvalidText" p) (e :: es) [] pos) (tMkO IT (spInv IT) [] ta) := by
  obtain ⟨fI, fdI, iC, tI, F, b⟩ := M.ex
  exact pmk_oex M.ox iC tI F hr b .nil passL hg M.g ha (by decide) he hpl

section
variable {P : Program} {w : World} {K : PySem.W.Frag} {mg : Str → Option Value} {base : Heap} {C fM fP IT : Addr}
theorem ok_read_plain {f : Addr} {fd : FuncData} (F : Fun K "read_plain" "read_plain" s_read_plain f fd) (T : Txt K mg C fM fP) {fI : Addr} {fdI : FuncData} (M : Mk K C fI) (G : FnOk P w K mg base CX0 1 fI fdI ["self", "text", "offset", "marked"] (spFld C)) (MI : MkI P w K mg base IT) (b : Binds K fdI ["self", "text", "offset", "marked"] []) : FnOk P w K mg base (L2.CX P w) 3 f fd ["text", "at", "separator"] (spReadX C IT false) := by
  refine F.okX sc_read_plain (fun vs H Q E h => ?_) (fun cdv A outer s H vs Q E hr h => ?_)
  · obtain ⟨_, _, _, rfl, _⟩ := h
    rfl
  · obtain ⟨text, a, sep, rfl, hl, ha, hm, kk, kx⟩ := h
    have hm2 : ¬ text[a]? = some 34 := fun q => by simpa using hm.mp q
    rw [Sep.rd_plain sep text a hm2] at kk kx
    obtain ⟨res, hrp⟩ : ∃ res, Sep.rp sep (text.drop a) [] a = res := ⟨_, rfl⟩
    rw [hrp] at kk kx
    refine ⟨_, (pss_cons (ps_set (i := 3) sc_read_plain.nd rfl (Or.inl rfl) (pv 1))
  (pss_cons (ps_while (passes_of rfl) (PW.pt (pw_and (pt_cmpR op_lt (pv 3) (pe_callB call_len_str (by rfl) T.n_len PySem.boot_len (pa_cons (pv 0) pa_nil)) (nomark _)) (pw_and1 (pt_cmpR op_notIn_seq (pe_ix ix_str (pv 0) (pv 3) (fun _ _ => rfl)) (pe_tup (pa_cons (pv 2) (pa_cons (C8.pe_gc (by rfl) T.g_END) pa_nil))) (by rfl))))) (pss_cons (ps_if (pt_cmpR op_eq (pe_ix ix_str (pv 0) (pv 3) (fun _ _ => rfl)) (C8.pe_gc (by rfl) T.g_MARK) (nomark _)) (pss_one (ps_raise rfl (takes_of rfl rfl rfl rfl) (pmk_Inv MI hr (by rfl) (pa_cons (pv 3) (pa_cons pe_str pa_nil))))) pss_nil)
  (pss_one (ps_set (i := 3) sc_read_plain.nd rfl (Or.inl rfl) (pe_op op_add (pv 3) pe_int)))))
  (pss_one (ps_ret (pe_tup (pa_cons (pe_make M G hr (by rfl) T.g_Field b .nil pass0 (pa_cons (pe_slice sl_str (pv 0) (po_some (pv 1)) (po_some (pv 3))) (pa_cons (pv 1) (pa_cons pe_bl pa_nil)))) (pa_cons (pv 3) pa_nil))))))), ?_⟩
    refine ⟨_, rfl, ?_⟩
    -- the end, from any turn
    have hend : ∀ (j : Nat) (H1 : Hp), a ≤ j → j ≤ text.length → Same H H1 → res = .ok ((text.drop a).take (j - a), j) →
        (tRet (tTup (tCons (tMake C (spFld C) [] E0 (tCons (tSl rSlS (tVar 0) (tPart (tVar 1)) (tPart (tVar 3))) (tCons (tVar 1) (tCons (tC (.bl false)) tNil)))) (tCons (tVar 3) tNil)))) { nx := fun _ H' => Q .non H', rt := Q } [some (.str (S text)), some (.int (a : Int)), some (.str (S [sep])), some (.int (j : Int))] H1 := by
      intro j H1 hj1 hj2 s1 et
      subst et
      refine ⟨_, rfl, _, rfl, _, rfl, _, rfl, _, rfl, _, rfl, by rw [S_len]; exact lt_sz (by omega), ?_⟩
      rw [cutS_nat text _ _ a j rfl rfl]
      refine ⟨_, rfl, fun x dx nx ndx ne => ?_⟩
      refine ⟨x, dx, _, _, _, rfl, upd_same, fun H2 hF hS => ⟨rfl, _, rfl, lt_sz (show 2 ≤ 200000 by decide), fun q hq => ?_⟩⟩
      have s2 := made_same nx ndx hS
      have nxq : x ≠ q := fun z => by obtain ⟨_, hF⟩ := hF; rw [z, hq] at hF; cases hF
      refine kk _ _ rfl _ q x upd_same ?_ (fun b o e => ?_) ?_
      · obtain ⟨d, hF⟩ := hF
        refine ⟨d, ?_⟩
        rw [upd_ne nxq]
        exact hF
      · exact same_new hq b o (s2 b o (s1 b o e))
      · cases e : H x with
        | none => rfl
        | some o => rw [s1 x o e] at nx; cases nx
    refine ⟨fun m σ H1 => ∃ j : Nat, σ = [some (.str (S text)), some (.int (a : Int)), some (.str (S [sep])), some (.int (j : Int))] ∧ m = text.length - j ∧ a ≤ j ∧ j ≤ text.length ∧ Same H H1 ∧ Sep.rp sep (text.drop j) ((text.drop a).take (j - a)) j = res, ⟨_, a, rfl, rfl, Nat.le_refl _, ha, Same.refl H, by simpa using hrp⟩, ?_⟩
    rintro m σ H1 ⟨j, rfl, rfl, haj, hj, s1, hrp⟩
    refine ⟨_, rfl, _, rfl, _, rfl, by rw [S_len]; exact lt_sz (by omega), _, _, rfl, rfl, _, rfl, ?_⟩
    rw [S_len]
    refine ite2 (fun hlt => ?_) (fun hge => ?_)
    · have hjl : j < text.length := by have := of_decide_eq_true hlt; omega
      have hg : text[j]? = some text[j] := List.getElem?_eq_getElem hjl
      rw [drop_cons hjl, Sep.rp] at hrp
      refine ⟨_, rfl, _, rfl, _, _, _, rfl, rfl, by rw [S_len]; exact lt_sz (by omega), atS hg, ?_⟩
      refine ⟨_, rfl, lt_sz (show 2 ≤ 200000 by decide), fun q hq => ?_⟩
      refine ⟨q, _, rfl, .inr (seqT upd_same), rfl, rfl, _, rfl, ?_⟩
      show if (if true = true then !inV (.str (S [text[j]])) [.str (S [sep]), .str (S [10])] else inV (.str (S [text[j]])) [.str (S [sep]), .str (S [10])]) = true then _ else _
      rw [if_pos rfl, inV2]
      by_cases hc : text[j] = sep ∨ text[j] = 10
      · rw [if_pos hc] at hrp
        rw [decide_eq_true hc]
        refine iteF ?_
        exact hend j _ haj hj (fun b o e => same_new hq b o (s1 b o e)) hrp.symm
      · rw [if_neg hc] at hrp
        rw [decide_eq_false hc]
        refine iteT ?_
        by_cases h34 : text[j] = 34
        · rw [if_pos h34] at hrp
          refine ⟨fun σ' H' => ∃ m', m' < text.length - j ∧ ∃ j : Nat, σ' = [some (.str (S text)), some (.int (a : Int)), some (.str (S [sep])), some (.int (j : Int))] ∧ m' = text.length - j ∧ a ≤ j ∧ j ≤ text.length ∧ Same H H' ∧ Sep.rp sep (text.drop j) ((text.drop a).take (j - a)) j = res, fun _ _ h => h, ?_⟩
          refine ⟨_, rfl, _, rfl, _, _, _, rfl, rfl, by rw [S_len]; exact lt_sz (by omega), atS hg, ?_⟩
          refine ⟨rfl, _, rfl, ?_⟩
          rw [S_eq, decide_eq_true (by simpa using h34)]
          refine iteT ?_
          exact mk_Inv (log_small (by omega)) (reason_len 0) (fun H' d s2 xa => kx j 0 (by rw [← hrp]; rfl) H' d (fun b o e => s2 b o (same_new hq b o (s1 b o e))) xa) fun F h => ⟨_, rfl, h⟩
        · rw [if_neg h34] at hrp
          refine ⟨fun σ' H' => ∃ m', m' < text.length - j ∧ ∃ j : Nat, σ' = [some (.str (S text)), some (.int (a : Int)), some (.str (S [sep])), some (.int (j : Int))] ∧ m' = text.length - j ∧ a ≤ j ∧ j ≤ text.length ∧ Same H H' ∧ Sep.rp sep (text.drop j) ((text.drop a).take (j - a)) j = res, fun _ _ h => h, ?_⟩
          refine ⟨_, rfl, _, rfl, _, _, _, rfl, rfl, by rw [S_len]; exact lt_sz (by omega), atS hg, ?_⟩
          refine ⟨rfl, _, rfl, ?_⟩
          rw [S_eq, decide_eq_false (by simpa using h34)]
          refine iteF ?_
          refine ⟨_, rfl, _, _, rfl, rfl, ?_⟩
          refine ⟨text.length - (j + 1), by omega, j + 1, rfl, rfl, by omega, by omega, fun b o e => same_new hq b o (s1 b o e), ?_⟩
          have e1 : (text.drop a).take (j + 1 - a) = (text.drop a).take (j - a) ++ [text[j]] := by
            rw [show j + 1 - a = (j - a) + 1 by omega, List.take_add_one]
            rw [List.getElem?_drop, show a + (j - a) = j by omega, hg]
            rfl
          rw [e1]
          exact hrp
    · have hjl : ¬ j < text.length := fun q => hge (decide_eq_true (by omega))
      rw [List.drop_eq_nil_of_le (by omega), Sep.rp] at hrp
      refine iteF ?_
      exact hend j _ haj hj s1 hrp.symm
end
end Sb
set_option Elab.async false
set_option maxRecDepth 100000
set_option maxHeartbeats 4000000
namespace Sb
open PySem PySem.Spec PyProof.Rows L2 SX
section
variable {P : Program} {w : World} {K : PySem.W.Frag} {mg : Str → Option Value} {base : Heap} {C fM fP IT : Addr}
theorem ok_read_marked {f : Addr} {fd : FuncData} (F : Fun K "read_marked" "read_marked" s_read_marked f fd) (T : Txt K mg C fM fP) {fI : Addr} {fdI : FuncData} (M : Mk K C fI) (G : FnOk P w K mg base CX0 1 fI fdI ["self", "text", "offset", "marked"] (spFld C)) (MI : MkI P w K mg base IT) (b : Binds K fdI ["self", "text", "offset", "marked"] []) : FnOk P w K mg base (L2.CX P w) 3 f fd ["text", "at", "separator"] (spReadX C IT true) := by
  refine F.okX sc_read_marked (fun vs H Q E h => ?_) (fun cdv A outer s H vs Q E hr h => ?_)
  · obtain ⟨_, _, _, rfl, _⟩ := h
    rfl
  · obtain ⟨text, a, sep, rfl, hl, ha, hm, kk, kx⟩ := h
    have hm2 : text[a]? = some 34 := hm.mpr rfl
    have hal := (List.getElem?_eq_some_iff.mp hm2).1
    rw [Sep.rd_mark sep text a hm2] at kk kx
    obtain ⟨res, hrp⟩ : ∃ res, Sep.rm sep a (text.drop (a + 1)) [] (a + 1) = res := ⟨_, rfl⟩
    rw [hrp] at kk kx
    refine ⟨_, (pss_cons (ps_set (i := 3) sc_read_marked.nd rfl (Or.inl rfl) (pe_lst pa_nil))
  (pss_cons (ps_set (i := 4) sc_read_marked.nd rfl (Or.inl rfl) (pe_op op_add (pv 1) pe_int))
  (pss_cons (ps_while (passes_of rfl) (pt_cmpR op_lt (pv 4) (pe_callB call_len_str (by rfl) T.n_len PySem.boot_len (pa_cons (pv 0) pa_nil)) (nomark _)) (pss_one (ps_if (pt_cmpR op_ne (pe_ix ix_str (pv 0) (pv 4) (fun _ _ => rfl)) (C8.pe_gc (by rfl) T.g_MARK) (nomark _)) (pss_cons (ps_expr (pe_bm PySem.F.plainAttrs_list PySem.F.slot_list_append PySem.F.type_list_append mt_append (pv 3) (pa_cons (pe_ix ix_str (pv 0) (pv 4) (fun _ _ => rfl)) pa_nil)))
  (pss_one (ps_set (i := 4) sc_read_marked.nd rfl (Or.inl rfl) (pe_op op_add (pv 4) pe_int)))) (pss_one (ps_if (pt_cmpR op_eq (pe_slice sl_str (pv 0) (po_some (pe_op op_add (pv 4) pe_int)) (po_some (pe_op op_add (pv 4) pe_int))) (C8.pe_gc (by rfl) T.g_MARK) (nomark _)) (pss_cons (ps_expr (pe_bm PySem.F.plainAttrs_list PySem.F.slot_list_append PySem.F.type_list_append mt_append (pv 3) (pa_cons (C8.pe_gc (by rfl) T.g_MARK) pa_nil)))
  (pss_one (ps_set (i := 4) sc_read_marked.nd rfl (Or.inl rfl) (pe_op op_add (pv 4) pe_int)))) (pss_cons (ps_set (i := 5) sc_read_marked.nd rfl (Or.inl rfl) (pe_op op_add (pv 4) pe_int))
  (pss_cons (ps_if (PW.pt (pw_and (pt_cmpR op_lt (pv 5) (pe_callB call_len_str (by rfl) T.n_len PySem.boot_len (pa_cons (pv 0) pa_nil)) (nomark _)) (pw_and1 (pt_cmpR op_notIn_seq (pe_ix ix_str (pv 0) (pv 5) (fun _ _ => rfl)) (pe_tup (pa_cons (pv 2) (pa_cons (C8.pe_gc (by rfl) T.g_END) pa_nil))) (by rfl))))) (pss_one (ps_raise rfl (takes_of rfl rfl rfl rfl) (pmk_Inv MI hr (by rfl) (pa_cons (pv 5) (pa_cons pe_str pa_nil))))) pss_nil)
  (pss_one (ps_ret (pe_tup (pa_cons (pe_make M G hr (by rfl) T.g_Field b .nil pass0 (pa_cons (pe_join pe_str (pv 3)) (pa_cons (pv 1) (pa_cons pe_bl pa_nil)))) (pa_cons (pv 5) pa_nil))))))))))))
  (pss_one (ps_raise rfl (takes_of rfl rfl rfl rfl) (pmk_Inv MI hr (by rfl) (pa_cons (pv 1) (pa_cons pe_str pa_nil)))))))), ?_⟩
    refine ⟨Nat.zero_le _, fun L hL => ?_⟩
    refine ⟨_, rfl, _, _, rfl, rfl, ?_⟩
    have hend : ∀ (j : Nat) (acc : List Nat) (H1 : Hp), j ≤ text.length → acc.length ≤ j → Same H H1 → H1 L = some (.lst (acc.map fun c => V.str (S [c]))) → res = .ok (acc, j + 1) →
        (tRet (tTup (tCons (tMake C (spFld C) [] E0 (tCons (tM1 (fun x xs H Q => ∃ a p, ∃ ys : List Str, x = .str a ∧ xs = [.ref p] ∧ (SqL K H p (ys.map V.str) ∨ SqT K H p (ys.map V.str)) ∧ (ys.map (·.length)).sum + ys.length * a.length ≤ 16777216 ∧ Q (.str (Txt.join a ys)) H) (tC (.str (Str.ofString ""))) (tVar 3)) (tCons (tVar 1) (tCons (tC (.bl true)) tNil)))) (tCons (tVar 5) tNil)))) { nx := fun _ H' => Q .non H', rt := Q } [some (.str (S text)), some (.int (a : Int)), some (.str (S [sep])), some (.ref L), some (.int (j : Int)), some (.int ((j : Int) + 1))] H1 := by
      intro j t H1 hj1 hj2 s1 hL1 et
      subst et
      refine ⟨⟨_, rfl⟩, _, rfl, _, _, t.map (fun c => S [c]), rfl, rfl, .inl (seqL (by rw [List.map_map]; exact hL1)), ?_, _, rfl, ?_⟩
      · rw [c_nil, List.map_map]
        have : ((fun x : Str => x.length) ∘ fun c => S [c]) = fun _ => 1 := by funext c; show (S [c]).length = 1; rw [S_len]; rfl
        rw [this, S_len, sum_ones]
        simp
        omega
      · have e5 : Txt.join (Str.ofString "") (t.map fun c => S [c]) = S t := by
          have := join_flat (t.map fun c => [c])
          rw [List.map_map] at this
          rw [c_nil]
          refine this.trans ?_
          congr 2
          rw [← joinL_flat, joinL_nil]
        rw [e5]
        intro x dx nx ndx ne
        refine ⟨x, dx, _, _, _, rfl, upd_same, fun H2 hF hS => ⟨rfl, _, rfl, lt_sz (show 2 ≤ 200000 by decide), fun q hq => ?_⟩⟩
        have s2 := made_same nx ndx hS
        have nxq : x ≠ q := fun z => by obtain ⟨_, hF⟩ := hF; rw [z, hq] at hF; cases hF
        refine kk _ _ rfl _ q x (by rw [upd_same]; rfl) ?_ (fun b o e => ?_) ?_
        · obtain ⟨d, hF⟩ := hF
          refine ⟨d, ?_⟩
          rw [upd_ne nxq]
          exact hF
        · exact same_new hq b o (s2 b o (s1 b o e))
        · cases e : H x with
          | none => rfl
          | some o => rw [s1 x o e] at nx; cases nx
    refine ⟨fun m σ H1 => ∃ (j : Nat) (acc : List Nat) (y : Option V), σ = [some (.str (S text)), some (.int (a : Int)), some (.str (S [sep])), some (.ref L), some (.int (j : Int)), y] ∧ m = text.length - j ∧ j ≤ text.length ∧ acc.length ≤ j ∧ Same H H1 ∧ H1 L = some (.lst (acc.map fun c => V.str (S [c]))) ∧ Sep.rm sep a (text.drop j) acc j = res, ⟨_, a + 1, [], none, rfl, rfl, by omega, by simp, same_new hL, upd_same, hrp⟩, ?_⟩
    rintro m σ H1 ⟨j, acc, y, rfl, rfl, hj, hacc, s1, hL1, hrm⟩
    refine ⟨_, rfl, _, rfl, _, rfl, by rw [S_len]; exact lt_sz (by omega), _, _, rfl, rfl, _, rfl, ?_⟩
    rw [S_len]
    refine ite2 (fun hlt => ?_) (fun hge => ?_)
    · have hjl : j < text.length := by have := of_decide_eq_true hlt; omega
      have hg : text[j]? = some text[j] := List.getElem?_eq_getElem hjl
      rw [drop_cons hjl, Sep.rm_cons] at hrm
      refine ⟨fun σ' H' => ∃ m', m' < text.length - j ∧ ∃ (j : Nat) (acc : List Nat) (y : Option V), σ' = [some (.str (S text)), some (.int (a : Int)), some (.str (S [sep])), some (.ref L), some (.int (j : Int)), y] ∧ m' = text.length - j ∧ j ≤ text.length ∧ acc.length ≤ j ∧ Same H H' ∧ H' L = some (.lst (acc.map fun c => V.str (S [c]))) ∧ Sep.rm sep a (text.drop j) acc j = res, fun _ _ h => h, ?_⟩
      refine ⟨_, rfl, _, rfl, _, _, _, rfl, rfl, by rw [S_len]; exact lt_sz (by omega), atS hg, ?_⟩
      refine ⟨rfl, _, rfl, ?_⟩
      rw [S_eq]
      have eapp : ∀ c : Nat, (acc.map fun c => V.str (S [c])) ++ [V.str (S [c])] = (acc ++ [c]).map fun c => V.str (S [c]) := fun c => by rw [List.map_append]; rfl
      by_cases h34 : text[j] = 34
      · rw [decide_eq_true (by simpa using h34)]
        refine iteF ?_
        rw [if_neg (by simp [h34])] at hrm
        refine ⟨_, rfl, _, rfl, _, _, rfl, rfl, _, rfl, _, rfl, _, _, rfl, rfl, _, rfl, _, rfl, by rw [S_len]; exact lt_sz (by omega), ?_⟩
        rw [cut1 text _ _ (j + 1) (by omega) (by omega)]
        refine ⟨rfl, _, rfl, ?_⟩
        rw [S_eq]
        cases hd : text.drop (j + 1) with
        | nil =>
          rw [hd] at hrm
          refine iteF ?_
          have hlj : text.length ≤ j + 1 := List.drop_eq_nil_iff.mp hd
          refine ⟨_, rfl, _, _, rfl, rfl, ?_⟩
          refine ⟨_, rfl, _, rfl, _, rfl, by rw [S_len]; exact lt_sz (by omega), _, _, rfl, rfl, _, rfl, ?_⟩
          rw [S_len, decide_eq_false (by omega)]
          refine iteF (iteF ?_)
          exact hend j acc H1 hj hacc s1 hL1 hrm.symm
        | cons d r =>
          rw [hd] at hrm
          simp only at hrm
          have hgd : text[j + 1]? = some d := by
            have := congrArg List.head? hd
            rwa [List.head?_drop] at this
          have hjl2 : j + 1 < text.length := (List.getElem?_eq_some_iff.mp hgd).1
          have hr2 : r = text.drop (j + 2) := by
            rw [drop_cons hjl2] at hd
            exact (List.cons.inj hd).2.symm
          show if decide ([d] = [34]) = true then _ else _
          by_cases hd34 : d = 34
          · rw [if_pos hd34] at hrm
            rw [decide_eq_true (by rw [hd34])]
            refine iteT ?_
            refine ⟨_, rfl, .inl ⟨rfl, _, seqL hL1⟩, L, _, _, rfl, rfl, hL1, by rw [List.length_map]; exact lt_sz' (by omega), ?_⟩
            refine ⟨_, rfl, _, _, rfl, rfl, ?_⟩
            exact ⟨text.length - (j + 2), by omega, j + 2, acc ++ [34], y, rfl, rfl, by omega, by simp; omega, same_mut s1 hL, by rw [upd_same, eapp], by rw [← hr2]; exact hrm⟩
          · rw [if_neg hd34] at hrm
            rw [decide_eq_false (by simpa using hd34)]
            refine iteF ?_
            refine ⟨_, rfl, _, _, rfl, rfl, ?_⟩
            refine ⟨_, rfl, _, rfl, _, rfl, by rw [S_len]; exact lt_sz (by omega), _, _, rfl, rfl, _, rfl, ?_⟩
            rw [S_len, decide_eq_true (by omega)]
            refine iteT ?_
            refine ⟨_, rfl, _, rfl, _, _, _, rfl, rfl, by rw [S_len]; exact lt_sz (by omega), atS hgd, ?_⟩
            refine ⟨_, rfl, lt_sz (show 2 ≤ 200000 by decide), fun q hq => ?_⟩
            refine ⟨q, _, rfl, .inr (seqT upd_same), rfl, rfl, _, rfl, ?_⟩
            show if (if true = true then !inV (.str (S [d])) [.str (S [sep]), .str (S [10])] else inV (.str (S [d])) [.str (S [sep]), .str (S [10])]) = true then _ else _
            rw [if_pos rfl, inV2]
            by_cases he : d = sep ∨ d = 10
            · rw [if_pos he] at hrm
              rw [decide_eq_true he]
              refine iteF ?_
              have nLq : L ≠ q := ne_of_none hL1 hq
              exact hend j acc _ hj hacc (fun b o e => same_new hq b o (s1 b o e)) (by rw [upd_ne nLq]; exact hL1) hrm.symm
            · rw [if_neg he] at hrm
              rw [decide_eq_false he]
              refine iteT ?_
              exact mk_Inv (log_small (by omega)) (reason_len 1) (fun H' d s2 xa => kx (j + 1) 1 (by rw [← hrm]; rfl) H' d (fun b o e => s2 b o (same_new hq b o (s1 b o e))) xa) fun F h => ⟨_, rfl, h⟩
      · rw [decide_eq_false (by simpa using h34)]
        refine iteT ?_
        rw [if_pos h34] at hrm
        refine ⟨_, rfl, .inl ⟨rfl, _, seqL hL1⟩, _, rfl, _, rfl, _, _, _, rfl, rfl, by rw [S_len]; exact lt_sz (by omega), atS hg, ?_⟩
        refine ⟨L, _, _, rfl, rfl, hL1, by rw [List.length_map]; exact lt_sz' (by omega), ?_⟩
        refine ⟨_, rfl, _, _, rfl, rfl, ?_⟩
        exact ⟨text.length - (j + 1), by omega, j + 1, acc ++ [text[j]], y, rfl, rfl, by omega, by simp; omega, same_mut s1 hL, by rw [upd_same, eapp], hrm⟩
    · have hjl : ¬ j < text.length := fun q => hge (decide_eq_true (by omega))
      rw [List.drop_eq_nil_of_le (by omega), Sep.rm] at hrm
      show tMkO IT (spInv IT) [] (tCons (tVar 1) (tCons (tC (.str (reason 2))) tNil)) _ H1 _
      exact mk_Inv (log_small (by omega)) (reason_len 2) (fun H' d s2 xa => kx a 2 (by rw [← hrm]; rfl) H' d (fun b o e => s2 b o (s1 b o e)) xa) fun F h => ⟨_, rfl, h⟩
end
end Sb
set_option Elab.async false
set_option maxRecDepth 100000
set_option maxHeartbeats 4000000
namespace Sb
open PySem PySem.Spec PyProof.Rows L2 SX
abbrev s_split_records : Stmt := top 33
abbrev sc_split_records_N : List Str := ["text", "separator", "records", "at", "fields", "more", "read", "field"]
theorem sc_split_records : FnScope sc_split_records_N ["text", "separator"] (defScope s_split_records) := ⟨rfl, rfl, rfl, by decide +kernel, rfl, by decide +kernel, by decide +kernel⟩
/-- a list of fields, a list of such lists -/
def RecAt (C : Addr) (H : Hp) (a : Addr) (r : List Sep.Fld) : Prop := ∃ fas : List Addr, H a = some (.lst (fas.map V.ref)) ∧ Paired (FieldAt C H) fas r
def RecsAt (C : Addr) (H : Hp) (a : Addr) (rs : List (List Sep.Fld)) : Prop := ∃ ras : List Addr, H a = some (.lst (ras.map V.ref)) ∧ Paired (RecAt C H) ras rs
theorem paired_mem {α β : Type} {F G : α → β → Prop} : ∀ {l : List α} {m : List β}, (∀ a b, a ∈ l → F a b → G a b) → Paired F l m → Paired G l m
  | _, _, _, .nil => .nil
  | _, _, h, .cons a b => .cons (h _ _ (by simp) a) (paired_mem (fun x y hx => h x y (by simp [hx])) b)
theorem field_same {C : Addr} {H H' : Hp} (s : Same H H') (p : Addr) (f : Sep.Fld) (h : FieldAt C H p f) : FieldAt C H' p f := by
  obtain ⟨dx, h⟩ := h
  exact ⟨dx, s _ _ h⟩
theorem rec_same {C : Addr} {H H' : Hp} (s : Same H H') (a : Addr) (r : List Sep.Fld) (h : RecAt C H a r) : RecAt C H' a r := by
  obtain ⟨fas, h, p⟩ := h
  exact ⟨fas, s _ _ h, paired_mono (field_same s) p⟩
theorem recs_same {C : Addr} {H H' : Hp} (s : Same H H') (a : Addr) (r : List (List Sep.Fld)) (h : RecsAt C H a r) : RecsAt C H' a r := by
  obtain ⟨ras, h, p⟩ := h
  exact ⟨ras, s _ _ h, paired_mono (rec_same s) p⟩
/-- a list is written: the fields stand -/
theorem field_upd {C : Addr} {H : Hp} {L : Addr} {xs ys : List V} (hL : H L = some (.lst xs)) (p : Addr) (f : Sep.Fld) (h : FieldAt C H p f) : FieldAt C (upd H L (.lst ys)) p f := by
  obtain ⟨dx, h⟩ := h
  exact ⟨dx, by rw [upd_ne (ne_of h hL (by intro q; cases q))]; exact h⟩
theorem rec_upd {C : Addr} {H : Hp} {L : Addr} {xs ys : List V} (hL : H L = some (.lst xs)) (a : Addr) (r : List Sep.Fld) (ne : a ≠ L) (h : RecAt C H a r) : RecAt C (upd H L (.lst ys)) a r := by
  obtain ⟨fas, h, p⟩ := h
  exact ⟨fas, by rw [upd_ne ne]; exact h, paired_mono (field_upd hL) p⟩
def spSplitX (C IT : Addr) : Sp := fun vs H Q E => ∃ (text : List Nat) (sep : Nat), vs = [.str (S text), .str (S [sep])] ∧ text.length ≤ 100000 ∧
  (∀ ans, Sep.split sep text = .ok ans → ∀ (H' : Hp) (p : Addr), H p = none → RecsAt C H' p ans → Same H H' → Q (.ref p) H') ∧
  (∀ (o r : Nat), Sep.split sep text = .error (o, r) → ∀ (H' : Hp) (d : Addr), Same H H' → XAt H' d (o : Int) (reason r) → E (.ref IT) (some d) H')
theorem passX {X : Cx} {E : XK} (tk : Takes X (fun cls d _ H => E cls d H)) : Passes (L2.CX X.prog X.w) X E := passes_call tk fun _ _ _ _ h => h

section
variable {P : Program} {w : World} {K : PySem.W.Frag} {mg : Str → Option Value} {base : Heap} {C fM fP IT : Addr}
theorem ok_split_records {f : Addr} {fd : FuncData} (F : Fun K "split_records" "split_records" s_split_records f fd) (T : Txt K mg C fM fP) (cM : CalX P w K mg base (L2.CX P w) 3 fM (spReadX C IT true)) (cP : CalX P w K mg base (L2.CX P w) 3 fP (spReadX C IT false)) : FnOk P w K mg base (L2.CX P w) 4 f fd ["text", "separator"] (spSplitX C IT) := by
  refine F.okX sc_split_records (fun vs H Q E h => ?_) (fun cdv A outer s H vs Q E hr h => ?_)
  · obtain ⟨_, _, rfl, _⟩ := h
    rfl
  · obtain ⟨text, sep, rfl, hl, kk, kx⟩ := h
    obtain ⟨res, hsp⟩ : ∃ res, Sep.split sep text = res := ⟨_, rfl⟩
    rw [hsp] at kk kx
    refine ⟨_, (pss_cons (ps_set (i := 2) sc_split_records.nd rfl (Or.inl rfl) (pe_lst pa_nil))
  (pss_cons (ps_set (i := 3) sc_split_records.nd rfl (Or.inl rfl) pe_int)
  (pss_cons (ps_while (passes_of rfl) (pt_cmpR op_lt (pv 3) (pe_callB call_len_str (by rfl) T.n_len PySem.boot_len (pa_cons (pv 0) pa_nil)) (nomark _)) (pss_cons (ps_set (i := 4) sc_split_records.nd rfl (Or.inl rfl) (pe_lst pa_nil))
  (pss_cons (ps_set (i := 5) sc_split_records.nd rfl (Or.inl rfl) pe_bl)
  (pss_cons (ps_while (passes_of rfl) (pt_val (pv 5)) (pss_cons (ps_set (i := 6) sc_split_records.nd rfl (Or.inl rfl) (pe_ifExp (pt_cmpR op_eq (pe_slice sl_str (pv 0) (po_some (pv 3)) (po_some (pe_op op_add (pv 3) pe_int))) (C8.pe_gc (by rfl) T.g_MARK) (nomark _)) (pe_glob (v := .ref fM) (by rfl) T.g_read_marked rfl) (pe_glob (v := .ref fP) (by rfl) T.g_read_plain rfl)))
  (pss_cons (ps_asg (pe_cvX (i := 6) cM cP hr (by decide) (by decide) (passX (takes_of rfl rfl rfl rfl)) rfl (Or.inl rfl) (pa_cons (pv 0) (pa_cons (pv 3) (pa_cons (pv 1) pa_nil)))) (pg_tup (by rfl) (pgs_cons (pg_name (i := 7) sc_split_records.nd rfl (Or.inl rfl)) (pgs_cons (pg_name (i := 3) sc_split_records.nd rfl (Or.inl rfl)) pgs_nil))))
  (pss_cons (ps_expr (pe_bm PySem.F.plainAttrs_list PySem.F.slot_list_append PySem.F.type_list_append mt_append (pv 4) (pa_cons (pv 7) pa_nil)))
  (pss_cons (ps_set (i := 5) sc_split_records.nd rfl (Or.inl rfl) (pe_cmpR op_eq (pe_slice sl_str (pv 0) (po_some (pv 3)) (po_some (pe_op op_add (pv 3) pe_int))) (pv 1) (nomark _)))
  (pss_one (ps_if (pt_val (pv 5)) (pss_one (ps_set (i := 3) sc_split_records.nd rfl (Or.inl rfl) (pe_op op_add (pv 3) pe_int))) pss_nil)))))))
  (pss_cons (ps_expr (pe_bm PySem.F.plainAttrs_list PySem.F.slot_list_append PySem.F.type_list_append mt_append (pv 2) (pa_cons (pv 4) pa_nil)))
  (pss_one (ps_set (i := 3) sc_split_records.nd rfl (Or.inl rfl) (pe_op op_add (pv 3) pe_int))))))))
  (pss_one (ps_ret (pv 2)))))), ?_⟩
    refine ⟨Nat.zero_le _, fun R hR => ?_⟩
    let Wd : Nat → L2.St → Hp → Prop := fun m σ H1 => ∃ (a : Nat) (racc : List (List Sep.Fld)) (ras : List Addr) (g : Nat) (x4 x5 x6 x7 : Option V), σ = [some (.str (S text)), some (.str (S [sep])), some (.ref R), some (.int (a : Int)), x4, x5, x6, x7] ∧ m = text.length + 1 - a ∧ Same H H1 ∧ H1 R = some (.lst (ras.map V.ref)) ∧ Paired (RecAt C H1) ras racc ∧ (∀ b ∈ ras, b ≠ R) ∧ ras.length ≤ a ∧ Sep.spl sep text g a racc = res ∧ text.length < g + a
    refine ⟨Wd, ⟨_, 0, [], [], text.length + 1, none, none, none, none, rfl, rfl, same_new hR, upd_same, .nil, by simp, Nat.le_refl _, hsp, by omega⟩, ?_⟩
    rintro m σ H1 ⟨a, racc, ras, g, x4, x5, x6, x7, rfl, rfl, s1, hR1, hp1, hn1, hra, hspl, hg⟩
    refine ⟨_, rfl, _, rfl, _, rfl, by rw [S_len]; exact lt_sz (by omega), _, _, rfl, rfl, _, rfl, ?_⟩
    rw [S_len]
    refine ite2 (fun hlt => ?_) (fun hge => ?_)
    · have hal : a < text.length := by have := of_decide_eq_true hlt; omega
      obtain ⟨g, rfl⟩ : ∃ g', g = g' + 1 := by
        cases g with
        | zero => omega
        | succ g => exact ⟨g, rfl⟩
      rw [Sep.spl, if_pos hal] at hspl
      obtain ⟨rr, hrec⟩ : ∃ rr, Sep.recd sep text (text.length + 1) a [] = rr := ⟨_, rfl⟩
      rw [hrec] at hspl
      refine ⟨fun σ' H' => ∃ m', m' < text.length + 1 - a ∧ Wd m' σ' H', fun _ _ h => h, ?_⟩
      refine ⟨Nat.zero_le _, fun L hL => ?_⟩
      have nLR : L ≠ R := (ne_of_none hR1 hL).symm
      -- the fields' loop
      let Wi : Nat → L2.St → Hp → Prop := fun m' σ' H2 => ∃ (a2 : Nat) (facc : List Sep.Fld) (fas : List Addr) (mo : Bool) (y6 y7 : Option V), σ' = [some (.str (S text)), some (.str (S [sep])), some (.ref R), some (.int (a2 : Int)), some (.ref L), some (.bl mo), y6, y7] ∧ Same H1 H2 ∧ H2 L = some (.lst (fas.map V.ref)) ∧ Paired (FieldAt C H2) fas facc ∧ fas.length ≤ a2 + 1 ∧ a2 ≤ text.length ∧
          ((mo = true ∧ m' = text.length + 1 - a2 + 1 ∧ fas.length ≤ a2 ∧ ∃ g2, Sep.recd sep text g2 a2 facc = rr ∧ text.length < g2 + a2) ∨ (mo = false ∧ m' = 0 ∧ rr = .ok (facc, a2)))
      refine ⟨Wi, ⟨_, a, [], [], true, x6, x7, rfl, same_new hL, upd_same, .nil, by simp, by omega, .inl ⟨rfl, rfl, Nat.zero_le _, text.length + 1, hrec, by omega⟩⟩, ?_⟩
      rintro m' σ' H2 ⟨a2, facc, fas, mo, y6, y7, rfl, s2, hL2, hp2, hfa, ha2, hc⟩
      refine ⟨_, rfl, _, rfl, ?_⟩
      rcases hc with ⟨rfl, rfl, hfa2, g2, hrec2, hg2⟩ | ⟨rfl, rfl, hrr⟩
      · refine iteT ?_
        obtain ⟨g2, rfl⟩ : ∃ g', g2 = g' + 1 := by
          cases g2 with
          | zero => omega
          | succ g => exact ⟨g, rfl⟩
        rw [Sep.recd] at hrec2
        refine ⟨fun σ' H' => ∃ m'', m'' < text.length + 1 - a2 + 1 ∧ Wi m'' σ' H', fun _ _ h => h, ?_⟩
        -- behind the call
        have hbeh : ∀ (fl : Sep.Fld) (j : Nat), Sep.rd sep (text.drop a2) a2 = .ok (fl, j) → ∀ (y : Option V) (H' : Hp) (q p : Addr), H' q = some (.tup [.ref p, .int (j : Int)]) → FieldAt C H' p fl → Same H2 H' → H2 p = none →
            gTup K 2 (gCons (gName 7) (gCons (gName 3) gNil)) (.ref q) [some (.str (S text)), some (.str (S [sep])), some (.ref R), some (.int (a2 : Int)), some (.ref L), some (.bl true), y, y7] H' (fun σ1 H3 => (tSeq (tDrop (tBM K "list" rAppend (tVar 4) (tCons (tVar 7) tNil))) (tSeq (tAsg (tOp rEq (tSl rSlS (tVar 0) (tPart (tVar 3)) (tPart (tOp (rI0 fun i j => .int (i + j)) (tVar 3) (tC (.int 1))))) (tVar 1)) (gName 5)) (tIfS (tB (tVar 5)) (tAsg (tOp (rI0 fun i j => .int (i + j)) (tVar 3) (tC (.int 1))) (gName 3)) tNext)))
              { nx := fun σ' H' => ∃ m'', m'' < text.length + 1 - a2 + 1 ∧ Wi m'' σ' H', rt := Q } σ1 H3) := by
          intro fl j hrd
          have hj := Sep.rd_ge hrd
          have hjl := Sep.rd_le hrd ha2
          have hcont : (if text[j]? = some sep then Sep.recd sep text g2 (j + 1) (facc ++ [fl]) else .ok (facc ++ [fl], j)) = rr := by
            rw [hrd] at hrec2
            exact hrec2
          intro y H' q p hq hF s3 hp
          refine ⟨q, _, rfl, seqT hq, rfl, _, _, rfl, _, _, rfl, rfl, ?_⟩
          have hL3 := s3 _ _ hL2
          refine ⟨_, rfl, .inl ⟨rfl, _, seqL hL3⟩, _, rfl, L, _, _, rfl, rfl, hL3, by rw [List.length_map]; exact lt_sz' (by omega), ?_⟩
          refine ⟨_, rfl, _, rfl, _, rfl, _, rfl, _, _, rfl, rfl, _, rfl, _, rfl, by rw [S_len]; exact lt_sz (by omega), _, rfl, rfl, ?_⟩
          rw [cut1 text _ _ j rfl rfl, S_eq]
          refine ⟨_, rfl, _, rfl, ?_⟩
          have hLn : H1 L = none := hL
          have sN : Same H1 (upd H' L (.lst (fas.map V.ref ++ [.ref p]))) := same_mut (fun b o e => s3 b o (s2 b o e)) hLn
          have pN : Paired (FieldAt C (upd H' L (.lst (fas.map V.ref ++ [.ref p])))) (fas ++ [p]) (facc ++ [fl]) := (paired_mono (fun a b h => field_upd hL3 a b (field_same s3 a b h)) hp2).snoc (field_upd hL3 p fl hF)
          by_cases hs : text[j]? = some sep
          · rw [if_pos hs] at hcont
            have hjl2 : j < text.length := (List.getElem?_eq_some_iff.mp hs).1
            rw [decide_eq_true ((drop_take1 text j sep).mpr hs)]
            refine iteT ⟨_, rfl, _, _, rfl, rfl, ?_⟩
            exact ⟨_, by omega, j + 1, facc ++ [fl], fas ++ [p], true, y, _, rfl, sN, by rw [upd_same, List.map_append]; rfl, pN, by simp; omega, by omega, .inl ⟨rfl, rfl, by simp; omega, g2, hcont, by omega⟩⟩
          · rw [if_neg hs] at hcont
            rw [decide_eq_false (fun z => hs ((drop_take1 text j sep).mp z))]
            refine iteF ?_
            exact ⟨0, by omega, j, facc ++ [fl], fas ++ [p], false, y, _, rfl, sN, by rw [upd_same, List.map_append]; rfl, pN, by simp; omega, hjl, .inr ⟨rfl, rfl, hcont.symm⟩⟩
        refine ⟨_, rfl, _, rfl, _, rfl, _, rfl, _, _, rfl, rfl, _, rfl, _, rfl, by rw [S_len]; exact lt_sz (by omega), rfl, _, rfl, ?_⟩
        rw [cut1 text _ _ a2 rfl rfl, S_eq]
        have herr : ∀ (o r : Nat), Sep.rd sep (text.drop a2) a2 = .error (o, r) → ∀ (H' : Hp) (d : Addr), Same H2 H' → XAt H' d (o : Int) (reason r) → E (.ref IT) (some d) H' := by
          intro o r hrd H' d s3 xa
          rw [hrd] at hrec2
          have hrr : rr = .error (o, r) := hrec2.symm
          rw [hrr] at hspl
          exact kx o r hspl.symm H' d (fun b u e => s3 b u (s2 b u (s1 b u e))) xa
        by_cases hm : text[a2]? = some 34
        · rw [decide_eq_true ((drop_take1 text a2 34).mpr hm)]
          refine iteT (.inl ⟨rfl, _, rfl, _, rfl, _, rfl, text, a2, sep, rfl, hl, ha2, by simp [hm], fun fl j hrd H' q p h1 h2 h3 h4 => hbeh fl j hrd _ H' q p h1 h2 h3 h4, herr⟩)
        · rw [decide_eq_false (fun z => hm ((drop_take1 text a2 34).mp z))]
          refine iteF (.inr ⟨rfl, _, rfl, _, rfl, _, rfl, text, a2, sep, rfl, hl, ha2, by simp [hm], fun fl j hrd H' q p h1 h2 h3 h4 => hbeh fl j hrd _ H' q p h1 h2 h3 h4, herr⟩)
      · refine iteF ?_
        subst hrr
        have hge := Sep.recd_ge hrec
        have hspl2 : Sep.spl sep text g (a2 + 1) (racc ++ [facc]) = res := hspl
        have hR2 := s2 _ _ hR1
        refine ⟨_, rfl, .inl ⟨rfl, _, seqL hR2⟩, _, rfl, R, _, _, rfl, rfl, hR2, by rw [List.length_map]; exact lt_sz' (by omega), ?_⟩
        refine ⟨_, rfl, _, _, rfl, rfl, ?_⟩
        refine ⟨text.length + 1 - (a2 + 1), by omega, a2 + 1, racc ++ [facc], ras ++ [L], g, _, _, _, _, rfl, rfl, same_mut (fun b o e => s2 b o (s1 b o e)) hR, by rw [upd_same, List.map_append]; rfl, ?_, ?_, by simp; omega, hspl2, by omega⟩
        · refine Paired.snoc (paired_mem (fun b x hb h => rec_upd hR2 b x (hn1 b hb) (rec_same s2 b x h)) hp1) ?_
          exact rec_upd hR2 L facc nLR ⟨fas, hL2, hp2⟩
        · intro b hb
          rcases List.mem_append.mp hb with h | h
          · exact hn1 b h
          · have : b = L := by simpa using h
            rw [this]; exact nLR
    · have hal : ¬ a < text.length := fun q => hge (decide_eq_true (by omega))
      have e0 : Sep.spl sep text g a racc = .ok racc := by
        cases g with
        | zero => rfl
        | succ g => exact Sep.spl_end hal
      rw [e0] at hspl
      exact ⟨_, rfl, kk _ hspl.symm H1 R hR ⟨ras, hR1, hp1⟩ s1⟩
end
end Sb
set_option Elab.async false
set_option maxRecDepth 100000
set_option maxHeartbeats 4000000
namespace Sb
open PySem PySem.Spec PyProof.Rows L2 SX
abbrev s_is_leap : Stmt := top 4
abbrev sc_is_leap_N : List Str := ["year"]
theorem sc_is_leap : FnScope sc_is_leap_N ["year"] (defScope s_is_leap) := ⟨rfl, rfl, rfl, by decide +kernel, rfl, by decide +kernel, by decide +kernel⟩
abbrev s_month_length : Stmt := top 5
abbrev sc_month_length_N : List Str := ["year", "month"]
theorem sc_month_length : FnScope sc_month_length_N ["year", "month"] (defScope s_month_length) := ⟨rfl, rfl, rfl, by decide +kernel, rfl, by decide +kernel, by decide +kernel⟩
abbrev s_days_before : Stmt := top 6
abbrev sc_days_before_N : List Str := ["year", "past"]
theorem sc_days_before : FnScope sc_days_before_N ["year"] (defScope s_days_before) := ⟨rfl, rfl, rfl, by decide +kernel, rfl, by decide +kernel, by decide +kernel⟩
abbrev s_day_of : Stmt := top 7
abbrev sc_day_of_N : List Str := ["year", "month", "date", "day", "past"]
theorem sc_day_of : FnScope sc_day_of_N ["year", "month", "date"] (defScope s_day_of) := ⟨rfl, rfl, rfl, by decide +kernel, rfl, by decide +kernel, by decide +kernel⟩
abbrev s_date_of : Stmt := top 8
abbrev sc_date_of_N : List Str := ["day", "number", "year", "rest", "centuries", "single", "month"]
theorem sc_date_of : FnScope sc_date_of_N ["day"] (defScope s_date_of) := ⟨rfl, rfl, rfl, by decide +kernel, rfl, by decide +kernel, by decide +kernel⟩
abbrev s_date_text : Stmt := top 9
abbrev sc_date_text_N : List Str := ["day", "year", "month", "date"]
theorem sc_date_text : FnScope sc_date_text_N ["day"] (defScope s_date_text) := ⟨rfl, rfl, rfl, by decide +kernel, rfl, by decide +kernel, by decide +kernel⟩
abbrev s_read_date : Stmt := top 10
abbrev sc_read_date_N : List Str := ["text", "digits"]
theorem sc_read_date : FnScope sc_read_date_N ["text"] (defScope s_read_date) := ⟨rfl, rfl, rfl, by decide +kernel, rfl, by decide +kernel, by decide +kernel⟩
theorem v_int (a b : Int) : decide (V.int a = V.int b) = decide (a = b) := by
  by_cases h : a = b
  · subst h; simp
  · rw [decide_eq_false h, decide_eq_false]
    intro q
    injection q with q
    exact h q
def spLeap : Sp := fun vs H Q _ => ∃ y : Int, vs = [.int y] ∧ Q (.bl (leap y)) H
def spMlen : Sp := fun vs H Q _ => ∃ y m : Int, vs = [.int y, .int m] ∧ 1 ≤ m ∧ m ≤ 12 ∧ Q (.int (mlen y m)) H
def spBefore : Sp := fun vs H Q _ => ∃ y : Int, vs = [.int y] ∧ Q (.int (dBefore y)) H
def oInt : Option Int → V
  | none => .non
  | some i => .int i
def spDayOf : Sp := fun vs H Q _ => ∃ y m d : Int, vs = [.int y, .int m, .int d] ∧ Q (oInt (dayOf y m d)) H
def spDateOf : Sp := fun vs H Q _ => ∃ day y m d : Int, vs = [.int day] ∧ dateOf day = some (y, m, d) ∧ ∀ p, H p = none → Q (.ref p) (upd H p (.tup [.int y, .int m, .int d]))
def spDateText : Sp := fun vs H Q _ => ∃ day : Int, vs = [.int day] ∧ dayOk day = true ∧ ∀ H', Same H H' → Q (.str (S (dayT day))) H'
def spReadDate : Sp := fun vs H Q _ => ∃ t : List Nat, vs = [.str (S t)] ∧ (∀ c ∈ t, c < 128) ∧ t.length ≤ 100000 ∧ Q (oInt (readDate t)) H
theorem mlen_at {m : Int} (h1 : 1 ≤ m) (h2 : m ≤ 12) : atI (lens.map V.int) (m - 1) = some (V.int (lens.getD (m - 1).toNat 0)) := by
  obtain ⟨j, hj⟩ : ∃ j : Nat, m - 1 = (j : Int) := ⟨(m - 1).toNat, by omega⟩
  have hl : j < lens.length := by show j < 12; omega
  rw [hj]
  refine atI_nat ?_
  rw [List.getElem?_map, List.getElem?_eq_getElem hl]
  show some (V.int lens[j]) = some (V.int (lens.getD (j : Int).toNat 0))
  rw [show ((j : Int)).toNat = j from rfl, List.getD_eq_getElem?_getD, List.getElem?_eq_getElem hl]
  rfl
theorem mlen_pos (y : Int) {m : Int} (h1 : 1 ≤ m) (h2 : m ≤ 12) : 28 ≤ mlen y m ∧ mlen y m ≤ 31 := by
  unfold mlen
  split
  · omega
  · have : m = 1 ∨ m = 2 ∨ m = 3 ∨ m = 4 ∨ m = 5 ∨ m = 6 ∨ m = 7 ∨ m = 8 ∨ m = 9 ∨ m = 10 ∨ m = 11 ∨ m = 12 := by omega
    rcases this with rfl | rfl | rfl | rfl | rfl | rfl | rfl | rfl | rfl | rfl | rfl | rfl <;> decide
section
variable {P : Program} {w : World} {K : PySem.W.Frag} {mg : Str → Option Value} {base : Heap} {C fM fP : Addr}
theorem ok_is_leap {f : Addr} {fd : FuncData} (F : Fun K "is_leap" "is_leap" s_is_leap f fd) : FnOk P w K mg base CX0 1 f fd ["year"] spLeap := by
  refine F.ok sc_is_leap (fun vs H Q E h => ?_) (fun cdv A outer s H vs Q E hr h => ?_)
  · obtain ⟨_, rfl, _⟩ := h
    rfl
  · obtain ⟨y, rfl, k⟩ := h
    refine ⟨_, (pss_one (ps_ret (pe_and (pe_cmpR op_eq (pe_op op_mod (pv 0) pe_int) pe_int (nomark _)) (pe_one (pe_or (pe_cmpR op_ne (pe_op op_mod (pv 0) pe_int) pe_int (nomark _)) (pe_one (pe_cmpR op_eq (pe_op op_mod (pv 0) pe_int) pe_int (nomark _)))))))), ?_⟩
    refine ⟨_, rfl, _, _, rfl, rfl, (by show (0 : Int) < 4; decide), rfl, _, rfl, ?_⟩
    rw [v_int]
    unfold leap at k
    by_cases h4 : y % 4 = 0
    · rw [decide_eq_true h4] at k ⊢
      rw [Bool.true_and] at k
      refine iteT ⟨_, rfl, _, _, rfl, rfl, (by show (0 : Int) < 100; decide), rfl, _, rfl, ?_⟩
      rw [v_int]
      by_cases h100 : y % 100 = 0
      · rw [decide_eq_true h100]
        rw [decide_eq_false (fun z => z h100), Bool.false_or] at k
        refine iteF ⟨_, rfl, _, _, rfl, rfl, (by show (0 : Int) < 400; decide), rfl, ?_⟩
        rw [v_int]
        exact k
      · rw [decide_eq_false h100]
        rw [decide_eq_true h100] at k
        exact iteT k
    · rw [decide_eq_false h4] at k ⊢
      exact iteF k
theorem ok_month_length {f : Addr} {fd : FuncData} (F : Fun K "month_length" "month_length" s_month_length f fd) (T : Txt K mg C fM fP) (C_is_leap : Cal P w K mg base CX0 1 "is_leap" spLeap) : FnOk P w K mg base CX0 2 f fd ["year", "month"] spMlen := by
  obtain ⟨pL, gL, tL⟩ := T.g_LENGTHS
  refine F.ok sc_month_length (fun vs H Q E h => ?_) (fun cdv A outer s H vs Q E hr h => ?_)
  · obtain ⟨_, _, rfl, _⟩ := h
    rfl
  · obtain ⟨y, m, rfl, h1, h2, k⟩ := h
    refine ⟨_, (pss_cons (ps_if (PW.pt (pw_and (pt_cmpR op_eq (pv 1) pe_int (nomark _)) (pw_and1 (pt_val (pe_k C_is_leap hr (by decide) (by rfl) pass0 (pa_cons (pv 0) pa_nil)))))) (pss_one (ps_ret pe_int)) pss_nil)
  (pss_one (ps_ret (pe_ix ix_tup (pe_glob (v := .ref pL) (by rfl) gL rfl) (pe_op op_sub (pv 1) pe_int) (fun _ _ => rfl))))), ?_⟩
    refine ⟨_, rfl, rfl, _, rfl, ?_⟩
    rw [v_int]
    unfold mlen at k
    have hend : ¬ (m = 2 ∧ leap y = true) → Q (.int (lens.getD (m - 1).toNat 0)) H := fun z => by rw [if_neg z] at k; exact k
    by_cases hm : m = 2
    · rw [decide_eq_true hm]
      refine iteT ⟨_, rfl, y, rfl, _, rfl, ?_⟩
      cases hl : leap y with
      | true => rw [if_pos ⟨hm, hl⟩] at k; exact iteT k
      | false => exact iteF ⟨_, rfl, _, _, rfl, rfl, pL, _, _, _, rfl, rfl, tL H, mlen_at h1 h2, hend fun z => by rw [hl] at z; cases z.2⟩
    · rw [decide_eq_false hm]
      exact iteF (iteF ⟨_, rfl, _, _, rfl, rfl, pL, _, _, _, rfl, rfl, tL H, mlen_at h1 h2, hend fun z => hm z.1⟩)
theorem ok_days_before {f : Addr} {fd : FuncData} (F : Fun K "days_before" "days_before" s_days_before f fd) : FnOk P w K mg base CX0 1 f fd ["year"] spBefore := by
  refine F.ok sc_days_before (fun vs H Q E h => ?_) (fun cdv A outer s H vs Q E hr h => ?_)
  · obtain ⟨_, rfl, _⟩ := h
    rfl
  · obtain ⟨y, rfl, k⟩ := h
    refine ⟨_, (pss_cons (ps_set (i := 1) sc_days_before.nd rfl (Or.inl rfl) (pe_op op_sub (pv 0) pe_int))
  (pss_one (ps_ret (pe_op op_add (pe_op op_sub (pe_op op_add (pe_op op_mul pe_int (pv 1)) (pe_op op_fdiv (pv 1) pe_int)) (pe_op op_fdiv (pv 1) pe_int)) (pe_op op_fdiv (pv 1) pe_int))))), ?_⟩
    refine ⟨_, rfl, _, _, rfl, rfl, _, rfl, _, _, rfl, rfl, .inl (by decide), _, rfl, _, _, rfl, rfl, ⟨by decide, by decide⟩, _, _, rfl, rfl, _, rfl, _, _, rfl, rfl, ⟨by decide, by decide⟩, _, _, rfl, rfl, _, rfl, _, _, rfl, rfl, ⟨by decide, by decide⟩, _, _, rfl, rfl, k⟩
theorem ok_day_of {f : Addr} {fd : FuncData} (F : Fun K "day_of" "day_of" s_day_of f fd) (T : Txt K mg C fM fP) (C_month_length : Cal P w K mg base CX0 2 "month_length" spMlen) (C_days_before : Cal P w K mg base CX0 1 "days_before" spBefore) : FnOk P w K mg base CX0 3 f fd ["year", "month", "date"] spDayOf := by
  refine F.ok sc_day_of (fun vs H Q E h => ?_) (fun cdv A outer s H vs Q E hr h => ?_)
  · obtain ⟨_, _, _, rfl, _⟩ := h
    rfl
  · obtain ⟨y, m, d, rfl, k⟩ := h
    refine ⟨_, (pss_cons (ps_if (PW.pt (pw_or (pt_not (pt_chain op_le op_le pe_int (pv 0) pe_int)) (pw_or1 (pt_not (pt_chain op_le op_le pe_int (pv 1) pe_int))))) (pss_one (ps_ret pe_non)) pss_nil)
  (pss_cons (ps_if (pt_not (pt_chain op_le op_le pe_int (pv 2) (pe_k C_month_length hr (by decide) (by rfl) pass0 (pa_cons (pv 0) (pa_cons (pv 1) pa_nil))))) (pss_one (ps_ret pe_non)) pss_nil)
  (pss_cons (ps_set (i := 3) sc_day_of.nd rfl (Or.inl rfl) (pe_op op_add (pe_op op_sub (pe_op op_add (pe_k C_days_before hr (by decide) (by rfl) pass0 (pa_cons (pv 0) pa_nil)) (pv 2)) pe_int) (C8.pe_gc (by rfl) T.g_FIRST)))
  (pss_cons (ps_for PassesOwn.never rfl (pi_range2 rfl T.n_range (pa_cons pe_int (pa_cons (pv 1) pa_nil))) (pg_name (i := 4) sc_day_of.nd rfl (Or.inl rfl)) (pss_one (ps_set (i := 3) sc_day_of.nd rfl (Or.inl rfl) (pe_op op_add (pv 3) (pe_k C_month_length hr (by decide) (by rfl) pass0 (pa_cons (pv 0) (pa_cons (pv 4) pa_nil)))))))
  (pss_one (ps_ret (pv 3))))))), ?_⟩
    unfold dayOf at k
    by_cases hy : 1 ≤ y ∧ y ≤ 9999
    · by_cases hm : 1 ≤ m ∧ m ≤ 12
      · rw [if_neg (fun z => z.elim (fun q => q hy) fun q => q hm)] at k
        refine ⟨_, rfl, _, _, rfl, rfl, _, rfl, ?_⟩
        rw [decide_eq_true hy.1]
        refine iteT ⟨_, _, rfl, rfl, _, rfl, ?_⟩
        rw [decide_eq_true hy.2]
        refine iteF ⟨_, rfl, _, _, rfl, rfl, _, rfl, ?_⟩
        rw [decide_eq_true hm.1]
        refine iteT ⟨_, _, rfl, rfl, _, rfl, ?_⟩
        rw [decide_eq_true hm.2]
        refine iteF ?_
        by_cases hd1 : 1 ≤ d
        · refine ⟨_, rfl, _, _, rfl, rfl, _, rfl, ?_⟩
          rw [decide_eq_true hd1]
          refine iteT ⟨_, rfl, _, rfl, y, m, rfl, hm.1, hm.2, _, _, rfl, rfl, _, rfl, ?_⟩
          by_cases hd2 : d ≤ mlen y m
          · rw [if_neg (fun z => z ⟨hd1, hd2⟩)] at k
            rw [decide_eq_true hd2]
            refine iteF ?_
            refine ⟨_, rfl, y, rfl, _, rfl, _, _, rfl, rfl, _, _, rfl, rfl, _, _, rfl, rfl, ?_⟩
            refine ⟨_, rfl, _, _, rfl, ⟨by decide, by decide, by omega, by omega⟩, for_range (lo := 1) (n := (m - 1).toNat) (fun i σ H' => ∃ x4, σ = [some (.int y), some (.int m), some (.int d), some (.int (dBefore y + d - 1 + (-719162) + sumM y i)), x4] ∧ H' = H) ⟨none, by show _ = [_, _, _, some (V.int (_ + 0)), _]; rw [Int.add_zero]; rfl, rfl⟩ ?_ ?_⟩
            · rintro i σ H1 hi ⟨x4, rfl, rfl⟩
              have e1 : (1 : Int) + (i : Int) = (i : Int) + 1 := by omega
              refine ⟨_, rfl, _, rfl, _, rfl, y, (1 : Int) + (i : Int), rfl, by omega, by omega, _, _, rfl, rfl, some (.int ((1 : Int) + (i : Int))), ?_, rfl⟩
              have e3 : dBefore y + d - 1 + (-719162) + sumM y (i + 1) = dBefore y + d - 1 + (-719162) + sumM y i + mlen y ((1 : Int) + (i : Int)) := by
                show _ + (sumM y i + mlen y ((i : Int) + 1)) = _
                rw [e1]
                omega
              rw [e3]
              rfl
            · rintro σ H1 ⟨x4, rfl, rfl⟩
              have e2 : (m - 1).toNat = m.toNat - 1 := by omega
              rw [e2]
              exact ⟨_, rfl, k⟩
          · rw [if_pos (fun z => hd2 z.2)] at k
            rw [decide_eq_false hd2]
            exact iteT k
        · rw [if_pos (fun z => hd1 z.1)] at k
          refine ⟨_, rfl, _, _, rfl, rfl, _, rfl, ?_⟩
          rw [decide_eq_false hd1]
          exact iteF ⟨_, rfl, iteT k⟩
      · rw [if_pos (.inr hm)] at k
        refine ⟨_, rfl, _, _, rfl, rfl, _, rfl, ?_⟩
        rw [decide_eq_true hy.1]
        refine iteT ⟨_, _, rfl, rfl, _, rfl, ?_⟩
        rw [decide_eq_true hy.2]
        refine iteF ⟨_, rfl, _, _, rfl, rfl, _, rfl, ?_⟩
        by_cases hm1 : 1 ≤ m
        · rw [decide_eq_true hm1]
          refine iteT ⟨_, _, rfl, rfl, _, rfl, ?_⟩
          rw [decide_eq_false (fun z => hm ⟨hm1, z⟩)]
          exact iteT k
        · rw [decide_eq_false hm1]
          exact iteF ⟨_, rfl, iteT k⟩
    · rw [if_pos (.inl hy)] at k
      refine ⟨_, rfl, _, _, rfl, rfl, _, rfl, ?_⟩
      by_cases hy1 : 1 ≤ y
      · rw [decide_eq_true hy1]
        refine iteT ⟨_, _, rfl, rfl, _, rfl, ?_⟩
        rw [decide_eq_false (fun z => hy ⟨hy1, z⟩)]
        exact iteT (iteT k)
      · rw [decide_eq_false hy1]
        exact iteF ⟨_, rfl, iteT (iteT k)⟩
theorem ok_date_of {f : Addr} {fd : FuncData} (F : Fun K "date_of" "date_of" s_date_of f fd) (T : Txt K mg C fM fP) (C_month_length : Cal P w K mg base CX0 2 "month_length" spMlen) : FnOk P w K mg base CX0 3 f fd ["day"] spDateOf := by
  refine F.ok sc_date_of (fun vs H Q E h => ?_) (fun cdv A outer s H vs Q E hr h => ?_)
  · obtain ⟨_, _, _, _, rfl, _⟩ := h
    rfl
  · obtain ⟨day, y, m, d, rfl, hd, k⟩ := h
    refine ⟨_, (pss_cons (ps_set (i := 1) sc_date_of.nd rfl (Or.inl rfl) (pe_op op_sub (pv 0) (C8.pe_gc (by rfl) T.g_FIRST)))
  (pss_cons (ps_set (i := 2) sc_date_of.nd rfl (Or.inl rfl) (pe_op op_add (pe_op op_mul pe_int (pe_op op_fdiv (pv 1) pe_int)) pe_int))
  (pss_cons (ps_set (i := 3) sc_date_of.nd rfl (Or.inl rfl) (pe_op op_mod (pv 1) pe_int))
  (pss_cons (ps_set (i := 4) sc_date_of.nd rfl (Or.inl rfl) (pe_callB (call_min2 rfl) (by rfl) T.n_min (by decide +kernel) (pa_cons (pe_op op_fdiv (pv 3) pe_int) (pa_cons pe_int pa_nil))))
  (pss_cons (ps_set (i := 3) sc_date_of.nd rfl (Or.inl rfl) (pe_op op_sub (pv 3) (pe_op op_mul pe_int (pv 4))))
  (pss_cons (ps_set (i := 2) sc_date_of.nd rfl (Or.inl rfl) (pe_op op_add (pe_op op_add (pv 2) (pe_op op_mul pe_int (pv 4))) (pe_op op_mul pe_int (pe_op op_fdiv (pv 3) pe_int))))
  (pss_cons (ps_set (i := 3) sc_date_of.nd rfl (Or.inl rfl) (pe_op op_mod (pv 3) pe_int))
  (pss_cons (ps_set (i := 5) sc_date_of.nd rfl (Or.inl rfl) (pe_callB (call_min2 rfl) (by rfl) T.n_min (by decide +kernel) (pa_cons (pe_op op_fdiv (pv 3) pe_int) (pa_cons pe_int pa_nil))))
  (pss_cons (ps_set (i := 3) sc_date_of.nd rfl (Or.inl rfl) (pe_op op_sub (pv 3) (pe_op op_mul pe_int (pv 5))))
  (pss_cons (ps_set (i := 2) sc_date_of.nd rfl (Or.inl rfl) (pe_op op_add (pv 2) (pv 5)))
  (pss_cons (ps_set (i := 6) sc_date_of.nd rfl (Or.inl rfl) pe_int)
  (pss_cons (ps_while PassesOwn.never (pt_cmpR op_ge (pv 3) (pe_k C_month_length hr (by decide) (by rfl) pass0 (pa_cons (pv 2) (pa_cons (pv 6) pa_nil))) (nomark _)) (pss_cons (ps_set (i := 3) sc_date_of.nd rfl (Or.inl rfl) (pe_op op_sub (pv 3) (pe_k C_month_length hr (by decide) (by rfl) pass0 (pa_cons (pv 2) (pa_cons (pv 6) pa_nil)))))
  (pss_one (ps_set (i := 6) sc_date_of.nd rfl (Or.inl rfl) (pe_op op_add (pv 6) pe_int)))))
  (pss_one (ps_ret (pe_tup (pa_cons (pv 2) (pa_cons (pv 6) (pa_cons (pe_op op_add (pv 3) pe_int) pa_nil)))))))))))))))))), ?_⟩
    have hm3 : ∀ a : Int, (if (3 : Int) < a then (3 : Int) else a) = mn3 a := fun _ => rfl
    refine ⟨_, rfl, _, _, rfl, rfl, ?_⟩
    obtain ⟨n, hn⟩ : ∃ n : Int, n = day - (-719162) := ⟨_, rfl⟩
    have hd : (mloop (dateY n + mn3 (dateR n / 365)) 12 (dateR n - 365 * mn3 (dateR n / 365)) 1).map (fun p => (dateY n + mn3 (dateR n / 365), p.1, p.2 + 1)) = some (y, m, d) := by rw [hn]; exact hd
    dsimp only
    rw [← hn]
    refine ⟨_, rfl, _, _, rfl, rfl, ⟨by decide, by decide⟩, _, _, rfl, rfl, .inl (by decide), _, _, rfl, rfl, ?_⟩
    refine ⟨_, rfl, _, _, rfl, rfl, (by show (0 : Int) < 146097; decide), ?_⟩
    refine ⟨_, rfl, _, _, rfl, rfl, ⟨by decide, by decide⟩, _, _, rfl, ?_⟩
    rw [hm3]
    refine ⟨_, rfl, _, rfl, _, _, rfl, rfl, .inl (by decide), _, _, rfl, rfl, ?_⟩
    refine ⟨_, rfl, _, rfl, _, _, rfl, rfl, .inl (by decide), _, _, rfl, rfl, _, rfl, _, _, rfl, rfl, ⟨by decide, by decide⟩, _, _, rfl, rfl, .inl (by decide), _, _, rfl, rfl, ?_⟩
    refine ⟨_, rfl, _, _, rfl, rfl, (by show (0 : Int) < 1461; decide), ?_⟩
    refine ⟨_, rfl, _, _, rfl, rfl, ⟨by decide, by decide⟩, _, _, rfl, ?_⟩
    rw [hm3]
    refine ⟨_, rfl, _, rfl, _, _, rfl, rfl, .inl (by decide), _, _, rfl, rfl, ?_⟩
    refine ⟨_, rfl, _, rfl, _, _, rfl, rfl, ?_⟩
    show tSeq _ _ _ [some (.int day), some (.int n), some (.int (dateY n + mn3 (dateR n / 365))), some (.int (dateR n - 365 * mn3 (dateR n / 365))), some (.int (mn3 (n % 146097 / 36524))), some (.int (mn3 (dateR n / 365))), none] H
    obtain ⟨Y, hY⟩ : ∃ Y, Y = dateY n + mn3 (dateR n / 365) := ⟨_, rfl⟩
    obtain ⟨R, hR⟩ : ∃ R, R = dateR n - 365 * mn3 (dateR n / 365) := ⟨_, rfl⟩
    rw [← hY, ← hR] at hd ⊢
    obtain ⟨pr, hl, he⟩ := Option.map_eq_some_iff.mp hd
    obtain ⟨m', r'⟩ := pr
    injection he with e1 e2
    injection e2 with e2 e3
    subst e1 e2 e3
    refine ⟨fun g σ H' => ∃ r mo : Int, σ = [some (.int day), some (.int n), some (.int Y), some (.int r), some (.int (mn3 (n % 146097 / 36524))), some (.int (mn3 (dateR n / 365))), some (.int mo)] ∧ H' = H ∧ mo = 13 - (g : Int) ∧ g ≤ 12 ∧ mloop Y g r mo = some (m', r'), ⟨12, R, 1, rfl, rfl, rfl, Nat.le_refl _, hl⟩, ?_⟩
    rintro g σ H1 ⟨r, mo, rfl, rfl, hmo, hg, hl⟩
    obtain ⟨g, rfl⟩ : ∃ g', g = g' + 1 := by
      cases g with
      | zero => cases hl
      | succ g => exact ⟨g, rfl⟩
    rw [mloop] at hl
    refine ⟨_, rfl, _, rfl, _, rfl, Y, mo, rfl, by omega, by omega, _, _, rfl, rfl, _, rfl, ?_⟩
    by_cases hge : r ≥ mlen Y mo
    · rw [if_pos hge] at hl
      rw [decide_eq_true hge]
      refine iteT ⟨_, fun _ _ h => h, ?_⟩
      refine ⟨_, rfl, _, rfl, _, rfl, Y, mo, rfl, by omega, by omega, _, _, rfl, rfl, ?_⟩
      exact ⟨_, rfl, _, _, rfl, rfl, g, Nat.lt_succ_self g, _, _, rfl, rfl, by omega, by omega, hl⟩
    · rw [if_neg hge] at hl
      injection hl with hl
      injection hl with q1 q2
      subst q1 q2
      rw [decide_eq_false hge]
      refine iteF ?_
      exact ⟨_, rfl, _, rfl, _, rfl, _, _, rfl, rfl, lt_sz (show 3 ≤ 200000 by decide), k⟩
theorem ok_date_text {f : Addr} {fd : FuncData} (F : Fun K "date_text" "date_text" s_date_text f fd) (C_date_of : Cal P w K mg base CX0 3 "date_of" spDateOf) : FnOk P w K mg base CX0 4 f fd ["day"] spDateText := by
  refine F.ok sc_date_text (fun vs H Q E h => ?_) (fun cdv A outer s H vs Q E hr h => ?_)
  · obtain ⟨_, rfl, _⟩ := h
    rfl
  · obtain ⟨day, rfl, hok, k⟩ := h
    refine ⟨_, (pss_cons (ps_asg (pe_k C_date_of hr (by decide) (by rfl) pass0 (pa_cons (pv 0) pa_nil)) (pg_tup (by rfl) (pgs_cons (pg_name (i := 1) sc_date_text.nd rfl (Or.inl rfl)) (pgs_cons (pg_name (i := 2) sc_date_text.nd rfl (Or.inl rfl)) (pgs_cons (pg_name (i := 3) sc_date_text.nd rfl (Or.inl rfl)) pgs_nil)))))
  (pss_one (ps_ret (pe_joined (.cons (pe_fmtD (w := 4) (pv 1) (by decide) (by rfl) (by decide +kernel) (by decide +kernel) (by decide +kernel) (by decide +kernel)) (.cons pe_str (.cons (pe_fmtD (w := 2) (pv 2) (by decide) (by rfl) (by decide +kernel) (by decide +kernel) (by decide +kernel) (by decide +kernel)) (.cons pe_str (.cons (pe_fmtD (w := 2) (pv 3) (by decide) (by rfl) (by decide +kernel) (by decide +kernel) (by decide +kernel) (by decide +kernel)) .nil))))))))), ?_⟩
    unfold dayOk at hok
    unfold dayT at k
    cases hd : dateOf day with
    | none => rw [hd] at hok; cases hok
    | some t =>
      obtain ⟨y, m, d⟩ := t
      rw [hd] at hok k
      simp only at hok k
      rw [Bool.and_eq_true, Bool.and_eq_true, Bool.and_eq_true] at hok
      obtain ⟨⟨⟨hb, _⟩, _⟩, _⟩ := hok
      obtain ⟨y0, y1, m0, m1, d0, d1⟩ := of_decide_eq_true hb
      obtain ⟨y, rfl⟩ := Int.eq_ofNat_of_zero_le y0
      obtain ⟨m, rfl⟩ := Int.eq_ofNat_of_zero_le m0
      obtain ⟨d, rfl⟩ := Int.eq_ofNat_of_zero_le d0
      have ly := pad0_len (w := 4) (n := y) (by decide) (by omega)
      have lm := pad0_len (w := 2) (n := m) (by decide) (by omega)
      have ld := pad0_len (w := 2) (n := d) (by decide) (by omega)
      have e0 : ∀ x : List Nat, Str.empty ++ S x = S x := fun x => by rw [show Str.empty = S [] from rfl, S_cat]; rfl
      have em : Str.ofString "-" = S [45] := by decide +kernel
      refine ⟨_, rfl, day, _, _, _, rfl, hd, fun p hp => ?_⟩
      refine ⟨p, _, rfl, seqT upd_same, rfl, _, _, rfl, _, _, rfl, _, _, rfl, rfl, ?_⟩
      refine ⟨_, rfl, y, rfl, by omega, _, rfl, ?_, ?_⟩
      · rw [e0, S_len, ly]; exact lt_sz (by decide)
      refine ⟨_, rfl, ?_, _, rfl, m, rfl, by omega, _, rfl, ?_, _, rfl, ?_, _, rfl, d, rfl, by omega, _, rfl, ?_, ?_⟩
      · rw [e0, em, S_cat, S_len, List.length_append, ly]; exact lt_sz (by decide)
      · rw [e0, em, S_cat, S_cat, S_len, List.length_append, List.length_append, ly, lm]; exact lt_sz (by decide)
      · rw [e0, em, S_cat, S_cat, S_cat, S_len, List.length_append, List.length_append, List.length_append, ly, lm]; exact lt_sz (by decide)
      · rw [e0, em, S_cat, S_cat, S_cat, S_cat, S_len, List.length_append, List.length_append, List.length_append, List.length_append, ly, lm, ld]; exact lt_sz (by decide)
      · rw [e0, em, S_cat, S_cat, S_cat, S_cat]
        have e : pad0 4 y ++ [45] ++ pad0 2 m ++ [45] ++ pad0 2 d = dateText ((y : Int)).toNat ((m : Int)).toNat ((d : Int)).toNat := by
          unfold dateText
          simp
        rw [e]
        exact k _ (same_new hp)
end
end Sb
set_option Elab.async false
set_option maxRecDepth 100000
set_option maxHeartbeats 4000000
namespace Sb
open PySem PySem.Spec PyProof.Rows L2 SX
abbrev s_digits_value : Stmt := top 15
abbrev sc_digits_value_N : List Str := ["digits", "short"]
theorem sc_digits_value : FnScope sc_digits_value_N ["digits"] (defScope s_digits_value) := ⟨rfl, rfl, rfl, by decide +kernel, rfl, by decide +kernel, by decide +kernel⟩
abbrev s_read_integer : Stmt := top 16
abbrev sc_read_integer_N : List Str := ["text", "digits", "number"]
theorem sc_read_integer : FnScope sc_read_integer_N ["text"] (defScope s_read_integer) := ⟨rfl, rfl, rfl, by decide +kernel, rfl, by decide +kernel, by decide +kernel⟩
abbrev s_read_decimal : Stmt := top 17
abbrev sc_read_decimal_N : List Str := ["text", "digits", "whole", "dot", "fraction", "number"]
theorem sc_read_decimal : FnScope sc_read_decimal_N ["text"] (defScope s_read_decimal) := ⟨rfl, rfl, rfl, by decide +kernel, rfl, by decide +kernel, by decide +kernel⟩

theorem c_dash : Str.ofString "-" = S [45] := by decide +kernel
theorem c_dot : Str.ofString "." = S [46] := by decide +kernel
theorem cutS_to (t : List Nat) (i : Int) (a : Nat) (hi : i = (a : Int)) : cutS (S t) none (some i) = S (t.take a) := by
  rw [C8.cutS_slice, hi]
  exact slice_to (by omega)
theorem c_zero : Str.ofString "0" = S [48] := by decide +kernel
def spDigVal : Sp := fun vs H Q _ => ∃ t : List Nat, vs = [.str (S t)] ∧ t.all isd = true ∧ t.length ≤ 100000 ∧ Q (oInt (digitsValue t)) H
def spReadInt : Sp := fun vs H Q _ => ∃ t : List Nat, vs = [.str (S t)] ∧ (∀ c ∈ t, c < 128) ∧ t.length ≤ 50000 ∧ Q (oInt (readInteger t)) H
def spReadDec : Sp := fun vs H Q _ => ∃ t : List Nat, vs = [.str (S t)] ∧ (∀ c ∈ t, c < 128) ∧ t.length ≤ 50000 ∧ ∀ H', Same H H' → Q (oInt (readDecimal t)) H'
theorem isd_lt {t : List Nat} (h : t.all isd = true) : ∀ c ∈ t, c < 128 := fun c hc => by have := isd_of h c hc; omega
theorem mem_un {t : List Nat} {c : Nat} (h : c ∈ unsigned t) : c ∈ t := by
  unfold unsigned at h
  split at h
  · exact List.mem_of_mem_drop h
  · exact h
theorem un_len (t : List Nat) : (unsigned t).length ≤ t.length := by
  unfold unsigned
  split
  · rw [List.length_drop]; omega
  · exact Nat.le_refl _
theorem par_one (c : Nat) : ∀ (t acc : List Nat) (p q : List Nat), TL.par [c] acc t = some (p, q) → (∀ d ∈ p, d ∈ acc ∨ d ∈ t) ∧ (∀ d ∈ q, d ∈ t) ∧ p.length + q.length ≤ acc.length + t.length
  | [], acc, p, q, h => by cases h
  | d :: t, acc, p, q, h => by
    by_cases hp : TL.pre [c] (d :: t) = true
    · rw [TL.par_hit hp] at h
      injection h with h
      injection h with h1 h2
      subst h1 h2
      refine ⟨fun x hx => .inl hx, fun x hx => List.mem_cons_of_mem _ hx, ?_⟩
      show acc.length + t.length ≤ _
      rw [List.length_cons]
      omega
    · rw [TL.par_miss (by simpa using hp)] at h
      obtain ⟨h1, h2, h3⟩ := par_one c t _ p q h
      refine ⟨fun x hx => ?_, fun x hx => List.mem_cons_of_mem _ (h2 x hx), ?_⟩
      · rcases h1 x hx with z | z
        · rcases List.mem_append.mp z with z | z
          · exact .inl z
          · exact .inr (by have : x = d := by simpa using z
                           rw [this]; exact List.mem_cons_self)
        · exact .inr (List.mem_cons_of_mem _ z)
      · rw [List.length_append, List.length_singleton] at h3
        rw [List.length_cons]
        omega
theorem parts_of (t : List Nat) : (∀ d ∈ (decParts t).1, d ∈ t) ∧ (∀ d ∈ (decParts t).2.2, d ∈ t) ∧ (decParts t).1.length + (decParts t).2.2.length ≤ t.length ∧ Txt.partition (S t) (S [46]) = (S (decParts t).1, S (decParts t).2.1, S (decParts t).2.2) ∧ ((decParts t).2.1 = [46] ∨ ((decParts t).2.1 = [] ∧ (decParts t).2.2 = [])) := by
  unfold decParts
  cases h : TL.par [46] [] t with
  | none => exact ⟨fun d (hd : d ∈ t) => hd, fun d (hd : d ∈ []) => (nomatch hd), Nat.le_refl _, partition_none (by decide) h, .inr ⟨rfl, rfl⟩⟩
  | some pq =>
    obtain ⟨p, q⟩ := pq
    obtain ⟨h1, h2, h3⟩ := par_one 46 t [] p q h
    exact ⟨fun d hd => (h1 d hd).elim (fun z => nomatch z) id, h2, by simp at h3; exact h3, partition_some (by decide) h, .inl rfl⟩
section
variable {P : Program} {w : World} {K : PySem.W.Frag} {mg : Str → Option Value} {base : Heap} {C fM fP : Addr}
theorem ok_read_date {f : Addr} {fd : FuncData} (F : Fun K "read_date" "read_date" s_read_date f fd) (T : Txt K mg C fM fP) (C_day_of : Cal P w K mg base CX0 3 "day_of" spDayOf) : FnOk P w K mg base CX0 4 f fd ["text"] spReadDate := by
  refine F.ok sc_read_date (fun vs H Q E h => ?_) (fun cdv A outer s H vs Q E hr h => ?_)
  · obtain ⟨_, rfl, _⟩ := h
    rfl
  · obtain ⟨t, rfl, hA, hl, k⟩ := h
    refine ⟨_, (pss_cons (ps_if (PW.pt (pw_or (pt_cmpR op_ne (pe_callB call_len_str (by rfl) T.n_len PySem.boot_len (pa_cons (pv 0) pa_nil)) pe_int (nomark _)) (pw_or (pt_cmpR op_ne (pe_ix ix_str (pv 0) pe_int (fun _ _ => rfl)) pe_str (nomark _)) (pw_or1 (pt_cmpR op_ne (pe_ix ix_str (pv 0) pe_int (fun _ _ => rfl)) pe_str (nomark _)))))) (pss_one (ps_ret pe_non)) pss_nil)
  (pss_cons (ps_set (i := 1) sc_read_date.nd rfl (Or.inl rfl) (pe_op op_add_str (pe_op op_add_str (pe_slice sl_str (pv 0) po_none (po_some pe_int)) (pe_slice sl_str (pv 0) (po_some pe_int) (po_some pe_int))) (pe_slice sl_str (pv 0) (po_some pe_int) po_none)))
  (pss_cons (ps_if (pt_not (pt_val (pe_m0 PySem.F.slot_str_isdigit PySem.F.type_str_isdigit mt_isdigit (pv 1)))) (pss_one (ps_ret pe_non)) pss_nil)
  (pss_one (ps_ret (pe_k C_day_of hr (by decide) (by rfl) pass0 (pa_cons (pe_callTy call_int_str (by rfl) T.n_int (by decide +kernel) (pa_cons (pe_slice sl_str (pv 0) po_none (po_some pe_int)) pa_nil)) (pa_cons (pe_callTy call_int_str (by rfl) T.n_int (by decide +kernel) (pa_cons (pe_slice sl_str (pv 0) (po_some pe_int) (po_some pe_int)) pa_nil)) (pa_cons (pe_callTy call_int_str (by rfl) T.n_int (by decide +kernel) (pa_cons (pe_slice sl_str (pv 0) (po_some pe_int) po_none) pa_nil)) pa_nil))))))))), ?_⟩
    unfold readDate at k
    refine ⟨_, rfl, _, rfl, by rw [S_len]; exact lt_sz (by omega), rfl, _, rfl, ?_⟩
    rw [S_len, v_int]
    by_cases h10 : t.length = 10
    · have e10 : ((t.length : Nat) : Int) = 10 := by omega
      rw [decide_eq_true e10]
      have g4 : t[4]? = some t[4] := List.getElem?_eq_getElem (by omega)
      have g7 : t[7]? = some t[7] := List.getElem?_eq_getElem (by omega)
      refine iteF ⟨_, rfl, _, _, _, rfl, rfl, by rw [S_len]; exact lt_sz (by omega), atS (a := 4) g4, rfl, _, rfl, ?_⟩
      rw [c_dash, S_eq]
      by_cases h4 : t[4] = 45
      · rw [decide_eq_true (by rw [h4])]
        refine iteF ⟨_, rfl, _, _, _, rfl, rfl, by rw [S_len]; exact lt_sz (by omega), atS (a := 7) g7, rfl, _, rfl, ?_⟩
        rw [S_eq]
        by_cases h7 : t[7] = 45
        · rw [if_neg (by rw [g4, g7, h4, h7]; simp [h10])] at k
          rw [decide_eq_true (by rw [h7])]
          refine iteF ?_
          refine ⟨_, rfl, _, rfl, _, rfl, by rw [S_len]; exact lt_sz (by omega), _, rfl, _, rfl, _, rfl, _, rfl, by rw [S_len]; exact lt_sz (by omega), ?_⟩
          rw [cutS_to t 4 4 rfl, cutS_nat t 5 7 5 7 rfl rfl]
          refine ⟨_, _, rfl, rfl, by rw [S_len, S_len, List.length_take, List.length_take, List.length_drop]; exact lt_sz (by omega), _, rfl, _, rfl, _, rfl, by rw [S_len]; exact lt_sz (by omega), ?_⟩
          rw [cutS_from t 8 8 rfl, S_cat]
          refine ⟨_, _, rfl, rfl, by rw [S_len, S_len, List.length_append, List.length_take, List.length_take, List.length_drop, List.length_drop]; exact lt_sz (by omega), ?_⟩
          rw [S_cat]
          have hdl : (t.take 4 ++ (t.drop 5).take 2 ++ t.drop 8) ≠ [] := fun z => by
            have := congrArg List.length z
            rw [List.length_append, List.length_append, List.length_take] at this
            simp at this
            omega
          refine ⟨_, rfl, ⟨_, rfl⟩, _, rfl, rfl, trivial, _, rfl, ?_⟩
          rw [isdigit_S (fun c hc => by
            rcases List.mem_append.mp hc with h | h
            · rcases List.mem_append.mp h with h | h
              · exact hA c (List.mem_of_mem_take h)
              · exact hA c (List.mem_of_mem_drop (List.mem_of_mem_take h))
            · exact hA c (List.mem_of_mem_drop h)), decide_eq_true hdl, Bool.true_and]
          cases hd : (t.take 4 ++ (t.drop 5).take 2 ++ t.drop 8).all isd with
          | false =>
            rw [if_neg (by rw [hd]; simp)] at k
            exact iteT k
          | true =>
            rw [if_pos hd] at k
            rw [List.all_append, List.all_append, Bool.and_eq_true, Bool.and_eq_true] at hd
            refine iteF ?_
            refine ⟨_, rfl, _, rfl, _, rfl, by rw [S_len]; exact lt_sz (by omega), ?_⟩
            rw [cutS_to t 4 4 rfl]
            refine ⟨_, _, rfl, int_text hd.1.1 (List.ne_nil_of_length_pos (by rw [List.length_take]; omega)) (by rw [List.length_take]; omega), by rw [S_len, List.length_take]; omega, _, rfl, _, rfl, _, rfl, _, rfl, by rw [S_len]; exact lt_sz (by omega), ?_⟩
            rw [cutS_nat t 5 7 5 7 rfl rfl]
            refine ⟨_, _, rfl, int_text hd.1.2 (List.ne_nil_of_length_pos (by rw [List.length_take, List.length_drop]; omega)) (by rw [List.length_take, List.length_drop]; omega), by rw [S_len, List.length_take, List.length_drop]; omega, _, rfl, _, rfl, _, rfl, by rw [S_len]; exact lt_sz (by omega), ?_⟩
            rw [cutS_from t 8 8 rfl]
            exact ⟨_, _, rfl, int_text hd.2 (List.ne_nil_of_length_pos (by rw [List.length_drop]; omega)) (by rw [List.length_drop]; omega), by rw [S_len, List.length_drop]; omega, _, _, _, rfl, k⟩
        · rw [if_pos (.inr (.inr (by rw [g7]; simpa using h7)))] at k
          rw [decide_eq_false (by simpa using h7)]
          exact iteT k
      · rw [if_pos (.inr (.inl (by rw [g4]; simpa using h4)))] at k
        rw [decide_eq_false (by simpa using h4)]
        exact iteT k
    · rw [if_pos (.inl h10)] at k
      rw [decide_eq_false (fun z => h10 (by omega))]
      exact iteT k
theorem ok_digits_value {f : Addr} {fd : FuncData} (F : Fun K "digits_value" "digits_value" s_digits_value f fd) (T : Txt K mg C fM fP) : FnOk P w K mg base CX0 1 f fd ["digits"] spDigVal := by
  refine F.ok sc_digits_value (fun vs H Q E h => ?_) (fun cdv A outer s H vs Q E hr h => ?_)
  · obtain ⟨_, rfl, _⟩ := h
    rfl
  · obtain ⟨t, rfl, hd, hl, k⟩ := h
    refine ⟨_, (pss_cons (ps_set (i := 1) sc_digits_value.nd rfl (Or.inl rfl) (pe_bm PySem.F.plainAttrs_str PySem.F.slot_str_lstrip PySem.F.type_str_lstrip mt_lstripChars (pv 0) (pa_cons pe_str pa_nil)))
  (pss_cons (ps_if (pt_cmpR op_gt (pe_callB call_len_str (by rfl) T.n_len PySem.boot_len (pa_cons (pv 1) pa_nil)) pe_int (nomark _)) (pss_one (ps_ret pe_non)) pss_nil)
  (pss_one (ps_ret (pe_callTy call_int_str (by rfl) T.n_int (by decide +kernel) (pa_cons (pe_op op_add_str pe_str (pv 1)) pa_nil)))))), ?_⟩
    refine ⟨_, rfl, rfl, _, _, rfl, rfl, by rw [S_len]; exact lt_sz (by omega), ?_⟩
    rw [c_zero, lstrip_S]
    unfold digitsValue at k
    obtain ⟨u, hu⟩ : ∃ u, u = t.dropWhile fun d => decide (d = 48) := ⟨_, rfl⟩
    have hnu : num u = num t := by rw [hu]; exact num_strip t
    have hul : u.length ≤ t.length := by rw [hu]; exact (List.dropWhile_suffix _).length_le
    have hud : u.all isd = true := List.all_eq_true.mpr fun c hc => List.all_eq_true.mp hd c ((List.dropWhile_suffix _).subset (by rw [← hu]; exact hc))
    rw [← hu] at k ⊢
    refine ⟨_, rfl, _, rfl, by rw [S_len]; exact lt_sz (by omega), _, _, rfl, rfl, _, rfl, ?_⟩
    rw [S_len]
    by_cases h20 : u.length > 20
    · rw [if_pos h20] at k
      rw [decide_eq_true (by omega)]
      exact iteT k
    · rw [if_neg h20] at k
      rw [decide_eq_false (by omega)]
      refine iteF ⟨_, rfl, _, _, rfl, rfl, by rw [S_len, S_len]; exact lt_sz (by show 1 + u.length ≤ 200000; omega), ?_⟩
      rw [S_cat]
      refine ⟨_, _, rfl, int_text (t := [48] ++ u) (by show (isd 48 && u.all isd) = true; rw [hud]; rfl) (by simp) (by show u.length + 1 ≤ 100; omega), by rw [S_len]; show u.length + 1 ≤ 640; omega, ?_⟩
      have e : num ([48] ++ u) = num t := by
        show num (48 :: u) = _
        rw [num_zero, hnu]
      rw [e]
      exact k
theorem ok_read_integer {f : Addr} {fd : FuncData} (F : Fun K "read_integer" "read_integer" s_read_integer f fd) (T : Txt K mg C fM fP) (C_digits_value : Cal P w K mg base CX0 1 "digits_value" spDigVal) : FnOk P w K mg base CX0 2 f fd ["text"] spReadInt := by
  refine F.ok sc_read_integer (fun vs H Q E h => ?_) (fun cdv A outer s H vs Q E hr h => ?_)
  · obtain ⟨_, rfl, _⟩ := h
    rfl
  · obtain ⟨t, rfl, hA, hl, k⟩ := h
    refine ⟨_, (pss_cons (ps_set (i := 1) sc_read_integer.nd rfl (Or.inl rfl) (pe_cut (pe_ifExp (pt_val (pe_m1 PySem.F.slot_str_startswith PySem.F.type_str_startswith mt_startswith (pv 0) pe_str)) (pe_slice sl_str (pv 0) (po_some pe_int) po_none) (pv 0))))
  (pss_cons (ps_if (pt_not (pt_val (pe_m0 PySem.F.slot_str_isdigit PySem.F.type_str_isdigit mt_isdigit (pv 1)))) (pss_one (ps_ret pe_non)) pss_nil)
  (pss_cons (ps_set (i := 2) sc_read_integer.nd rfl (Or.inl rfl) (pe_k C_digits_value hr (by decide) (by rfl) pass0 (pa_cons (pv 1) pa_nil)))
  (pss_cons (ps_if (PW.pt (pw_or (pt_cmpR op_isN (pv 2) pe_non (nomark _)) (pw_or1 (pt_cmpR op_gt (pv 2) (C8.pe_gc (by rfl) T.g_GREATEST) (nomark _))))) (pss_one (ps_ret pe_non)) pss_nil)
  (pss_cons (ps_if (pt_val (pe_m1 PySem.F.slot_str_startswith PySem.F.type_str_startswith mt_startswith (pv 0) pe_str)) (pss_one (ps_ret (pe_un un_neg (pv 2)))) pss_nil)
  (pss_one (ps_ret (pv 2)))))))), ?_⟩
    unfold readInteger at k
    try simp only at k
    refine ⟨fun v H' => v = .str (S (unsigned t)) ∧ H' = H, ?_, ?_⟩
    · refine ⟨_, rfl, ⟨_, rfl⟩, _, _, rfl, rfl, _, rfl, ?_⟩
      rw [c_dash, starts_S]
      unfold unsigned
      by_cases hh : t.head? = some 45
      · rw [decide_eq_true hh, if_pos hh]
        refine iteT ⟨_, rfl, _, rfl, _, rfl, by rw [S_len]; exact lt_sz (by omega), ?_⟩
        rw [cutS_from t 1 1 rfl]
        exact ⟨rfl, rfl⟩
      · rw [decide_eq_false hh, if_neg hh]
        exact iteF ⟨_, rfl, rfl, rfl⟩
    rintro _ H ⟨rfl, rfl⟩
    rw [c_dash]
    have hul := un_len t
    have huA : ∀ c ∈ unsigned t, c < 128 := fun c hc => hA c (mem_un hc)
    obtain ⟨u, hu⟩ : ∃ u, u = unsigned t := ⟨_, rfl⟩
    rw [← hu] at k hul huA ⊢
    refine ⟨_, rfl, ⟨_, rfl⟩, _, rfl, rfl, trivial, _, rfl, ?_⟩
    rw [isdigit_S huA]
    by_cases hd : (decide (u ≠ []) && u.all isd) = true
    · rw [if_pos hd] at k
      rw [hd]
      have hd2 := (Bool.and_eq_true_iff.mp hd).2
      refine iteF ⟨_, rfl, u, rfl, hd2, by omega, ?_⟩
      cases hv : digitsValue u with
      | none =>
        rw [hv] at k
        exact ⟨_, rfl, rfl, true, rfl, iteT k⟩
      | some n =>
        rw [hv] at k
        refine ⟨_, rfl, rfl, false, rfl, iteF ⟨_, rfl, _, _, rfl, rfl, _, rfl, ?_⟩⟩
        by_cases hg : n > 1000000000000000
        · rw [decide_eq_true hg]
          have e : great (some n) = none := if_pos hg
          rw [e] at k
          exact iteT k
        · rw [decide_eq_false hg]
          have e : great (some n) = some n := if_neg hg
          rw [e] at k
          have k : Q (.int (signed t n)) H := k
          unfold signed at k
          refine iteF ⟨_, rfl, ⟨_, rfl⟩, _, _, rfl, rfl, _, rfl, ?_⟩
          rw [starts_S]
          by_cases hh : t.head? = some 45
          · rw [if_pos hh] at k
            rw [decide_eq_true hh]
            exact iteT ⟨_, rfl, _, rfl, k⟩
          · rw [if_neg hh] at k
            rw [decide_eq_false hh]
            exact iteF ⟨_, rfl, k⟩
    · rw [if_neg hd] at k
      rw [Bool.not_eq_true] at hd
      rw [hd]
      exact iteT k
theorem ok_read_decimal {f : Addr} {fd : FuncData} (F : Fun K "read_decimal" "read_decimal" s_read_decimal f fd) (T : Txt K mg C fM fP) (C_digits_value : Cal P w K mg base CX0 1 "digits_value" spDigVal) : FnOk P w K mg base CX0 2 f fd ["text"] spReadDec := by
  refine F.ok sc_read_decimal (fun vs H Q E h => ?_) (fun cdv A outer s H vs Q E hr h => ?_)
  · obtain ⟨_, rfl, _⟩ := h
    rfl
  · obtain ⟨t, rfl, hA, hl, k⟩ := h
    refine ⟨_, (pss_cons (ps_set (i := 1) sc_read_decimal.nd rfl (Or.inl rfl) (pe_cut (pe_ifExp (pt_val (pe_m1 PySem.F.slot_str_startswith PySem.F.type_str_startswith mt_startswith (pv 0) pe_str)) (pe_slice sl_str (pv 0) (po_some pe_int) po_none) (pv 0))))
  (pss_cons (ps_asg (pe_partition (pv 1) pe_str) (pg_tup (by rfl) (pgs_cons (pg_name (i := 2) sc_read_decimal.nd rfl (Or.inl rfl)) (pgs_cons (pg_name (i := 3) sc_read_decimal.nd rfl (Or.inl rfl)) (pgs_cons (pg_name (i := 4) sc_read_decimal.nd rfl (Or.inl rfl)) pgs_nil)))))
  (pss_cons (ps_if (pt_not (pt_val (pe_m0 PySem.F.slot_str_isdigit PySem.F.type_str_isdigit mt_isdigit (pv 2)))) (pss_one (ps_ret pe_non)) pss_nil)
  (C8.pss_cut (ps_if (PW.pt (pw_and (pt_cmpR op_eq (pv 3) pe_str (nomark _)) (pw_and1 (PW.pt (pw_or (pt_not (pt_val (pe_m0 PySem.F.slot_str_isdigit PySem.F.type_str_isdigit mt_isdigit (pv 4)))) (pw_or1 (pt_cmpR op_gt (pe_callB call_len_str (by rfl) T.n_len PySem.boot_len (pa_cons (pv 4) pa_nil)) pe_int (nomark _)))))))) (pss_one (ps_ret pe_non)) pss_nil)
  (pss_cons (ps_set (i := 5) sc_read_decimal.nd rfl (Or.inl rfl) (pe_k C_digits_value hr (by decide) (by rfl) pass0 (pa_cons (pe_op op_add_str (pe_op op_add_str (pv 2) (pv 4)) (pe_op op_mulS pe_str (pe_op op_sub pe_int (pe_callB call_len_str (by rfl) T.n_len PySem.boot_len (pa_cons (pv 4) pa_nil))))) pa_nil)))
  (pss_cons (ps_if (PW.pt (pw_or (pt_cmpR op_isN (pv 5) pe_non (nomark _)) (pw_or1 (pt_cmpR op_gt (pv 5) (C8.pe_gc (by rfl) T.g_GREATEST) (nomark _))))) (pss_one (ps_ret pe_non)) pss_nil)
  (pss_cons (ps_if (pt_val (pe_m1 PySem.F.slot_str_startswith PySem.F.type_str_startswith mt_startswith (pv 0) pe_str)) (pss_one (ps_ret (pe_un un_neg (pv 5)))) pss_nil)
  (pss_one (ps_ret (pv 5)))))))))), ?_⟩
    unfold readDecimal at k
    try simp only at k
    refine ⟨fun v H' => v = .str (S (unsigned t)) ∧ H' = H, ?_, ?_⟩
    · refine ⟨_, rfl, ⟨_, rfl⟩, _, _, rfl, rfl, _, rfl, ?_⟩
      rw [c_dash, starts_S]
      unfold unsigned
      by_cases hh : t.head? = some 45
      · rw [decide_eq_true hh, if_pos hh]
        refine iteT ⟨_, rfl, _, rfl, _, rfl, by rw [S_len]; exact lt_sz (by omega), ?_⟩
        rw [cutS_from t 1 1 rfl]
        exact ⟨rfl, rfl⟩
      · rw [decide_eq_false hh, if_neg hh]
        exact iteF ⟨_, rfl, rfl, rfl⟩
    rintro _ H ⟨rfl, rfl⟩
    rw [c_dash]
    have hul := un_len t
    have huA : ∀ c ∈ unsigned t, c < 128 := fun c hc => hA c (mem_un hc)
    obtain ⟨u, hu⟩ : ∃ u, u = unsigned t := ⟨_, rfl⟩
    rw [← hu] at k hul huA ⊢
    obtain ⟨p1, p2, p3, p4, p5⟩ := parts_of u
    obtain ⟨wh, hwh⟩ : ∃ x, x = (decParts u).1 := ⟨_, rfl⟩
    obtain ⟨dt, hdt⟩ : ∃ x, x = (decParts u).2.1 := ⟨_, rfl⟩
    obtain ⟨fr, hfr⟩ : ∃ x, x = (decParts u).2.2 := ⟨_, rfl⟩
    rw [← hwh, ← hdt, ← hfr] at k p4
    rw [← hwh] at p1 p3
    rw [← hfr] at p2 p3 p5
    rw [← hdt] at p5
    refine ⟨_, rfl, ⟨_, rfl⟩, _, _, rfl, rfl, by rw [c_dot, S_len]; rfl, by rw [S_len]; exact lt_sz (by omega), fun p hp => ?_⟩
    rw [c_dot, p4]
    have s1 := same_new (o := .tup [.str (S wh), .str (S dt), .str (S fr)]) hp
    obtain ⟨H1, hH1⟩ : ∃ H1, H1 = upd H p (.tup [.str (S wh), .str (S dt), .str (S fr)]) := ⟨_, rfl⟩
    have hp1 : H1 p = some (.tup [.str (S wh), .str (S dt), .str (S fr)]) := by rw [hH1]; exact upd_same
    rw [← hH1] at s1 ⊢
    refine ⟨p, _, rfl, seqT hp1, rfl, _, _, rfl, _, _, rfl, _, _, rfl, rfl, ?_⟩
    refine ⟨_, rfl, ⟨_, rfl⟩, _, rfl, rfl, trivial, _, rfl, ?_⟩
    rw [isdigit_S (fun c hc => huA c (p1 c hc))]
    have hfA : ∀ c ∈ fr, c < 128 := fun c hc => huA c (p2 c hc)
    by_cases hd : (decide (wh ≠ []) && wh.all isd) = true
    · rw [if_pos hd] at k
      rw [hd]
      have hd2 := (Bool.and_eq_true_iff.mp hd).2
      refine iteF ⟨fun σ' H' => σ' = [some (.str (S t)), some (.str (S u)), some (.str (S wh)), some (.str (S dt)), some (.str (S fr)), none] ∧ H' = H1 ∧ fr.all isd = true ∧ fr.length ≤ 4 ∧ ¬ (dt = [46] ∧ (¬ ((decide (fr ≠ []) && fr.all isd) = true) ∨ fr.length > 4)), ?_, ?_⟩
      · refine ⟨_, rfl, rfl, _, rfl, ?_⟩
        rw [S_eq]
        rcases p5 with h5 | ⟨h5, h6⟩
        · rw [decide_eq_true h5]
          refine iteT ⟨_, rfl, ⟨_, rfl⟩, _, rfl, rfl, trivial, _, rfl, ?_⟩
          rw [isdigit_S hfA]
          by_cases hf : (decide (fr ≠ []) && fr.all isd) = true
          · rw [hf]
            refine iteF ⟨_, rfl, _, rfl, by rw [S_len]; exact lt_sz (by omega), _, _, rfl, rfl, _, rfl, ?_⟩
            rw [S_len]
            by_cases h4 : fr.length > 4
            · rw [decide_eq_true (by omega)]
              rw [if_pos ⟨h5, .inr h4⟩] at k
              exact iteT (k _ s1)
            · rw [decide_eq_false (by omega)]
              refine iteF ⟨rfl, rfl, (Bool.and_eq_true_iff.mp hf).2, by omega, ?_⟩
              rintro ⟨_, q | q⟩
              · first | exact q hf | exact q rfl
              · exact h4 q
          · rw [if_pos ⟨h5, .inl hf⟩] at k
            rw [Bool.not_eq_true] at hf
            rw [hf]
            exact iteT (iteT (k _ s1))
        · rw [decide_eq_false (by rw [h5]; decide)]
          refine iteF (iteF ⟨rfl, rfl, by rw [h6]; rfl, by rw [h6]; decide, ?_⟩)
          rintro ⟨q, _⟩
          rw [h5] at q
          cases q
      rintro _ _ ⟨rfl, rfl, hfd, hf4, hng⟩
      rw [if_neg hng] at k
      refine ⟨_, rfl, _, rfl, _, _, rfl, rfl, by rw [S_len, S_len]; exact lt_sz (by omega), _, rfl, _, rfl, by rw [S_len]; exact lt_sz (by omega), _, _, rfl, rfl, 48, 4 - fr.length, by rw [c_zero], ?_, by omega, ?_⟩
      · rw [S_len]
        show V.int (4 - (fr.length : Int)) = _
        congr 1
        omega
      rw [S_cat]
      refine ⟨_, _, rfl, rfl, by rw [S_len, S_len, List.length_append, List.length_replicate]; exact lt_sz (by omega), ?_⟩
      rw [S_cat]
      refine ⟨_, rfl, ?_, by rw [List.length_append, List.length_append, List.length_replicate]; omega, ?_⟩
      · rw [List.all_append, List.all_append, hd2, hfd]
        rw [Bool.and_true, Bool.true_and, List.all_eq_true]
        intro c hc
        rw [List.eq_of_mem_replicate hc]
        rfl
      cases hv : digitsValue (wh ++ fr ++ List.replicate (4 - fr.length) 48) with
      | none =>
        rw [hv] at k
        exact ⟨_, rfl, rfl, true, rfl, iteT (k _ s1)⟩
      | some n =>
        rw [hv] at k
        refine ⟨_, rfl, rfl, false, rfl, iteF ⟨_, rfl, _, _, rfl, rfl, _, rfl, ?_⟩⟩
        by_cases hg : n > 1000000000000000
        · rw [decide_eq_true hg]
          have e : great (some n) = none := if_pos hg
          rw [e] at k
          exact iteT (k _ s1)
        · rw [decide_eq_false hg]
          have e : great (some n) = some n := if_neg hg
          rw [e] at k
          have k : ∀ H', Same H H' → Q (.int (signed t n)) H' := k
          unfold signed at k
          refine iteF ⟨_, rfl, ⟨_, rfl⟩, _, _, rfl, rfl, _, rfl, ?_⟩
          rw [starts_S]
          by_cases hh : t.head? = some 45
          · rw [if_pos hh] at k
            rw [decide_eq_true hh]
            exact iteT ⟨_, rfl, _, rfl, (k _ s1)⟩
          · rw [if_neg hh] at k
            rw [decide_eq_false hh]
            exact iteF ⟨_, rfl, (k _ s1)⟩
    · rw [if_neg hd] at k
      rw [Bool.not_eq_true] at hd
      rw [hd]
      exact iteT (k _ s1)
end
end Sb
set_option Elab.async false
set_option maxRecDepth 100000
set_option maxHeartbeats 4000000
/-! Plain law of rows that are read. -/
namespace Sb
open PySem PySem.Spec PyProof.Rows L2 SX
inductive Kd | int | text | bool | date | dec deriving DecidableEq
def kdS : Kd → Str
  | .int => "int"
  | .text => "text"
  | .bool => "bool"
  | .date => "date"
  | .dec => "decimal"
structure Colm where
  name : List Nat
  kind : Kd
  nl : Bool
def expd : Kd → Str
  | .int => "an integer is expected"
  | .date => "a date is expected"
  | .dec => "a decimal is expected"
  | _ => "true or false is expected"
def tTrue : List Nat := [116, 114, 117, 101]
def tFalse : List Nat := [102, 97, 108, 115, 101]
def readScalar : Kd → List Nat → Option Int
  | .int, t => readInteger t
  | .date, t => readDate t
  | _, t => readDecimal t
def readField (t : List Nat) (mk : Bool) (k : Kd) (nl : Bool) : Except Str V :=
  if t = [] ∧ mk = false then (if nl = true then .ok .non else .error "a value is expected")
  else match k with
    | .text => if t.length > 10000 then .error "the text is too long" else .ok (.str (S t))
    | .bool => if t = tTrue then .ok (.bl true) else if t = tFalse then .ok (.bl false) else .error "true or false is expected"
    | k => match readScalar k t with
      | some n => .ok (.int n)
      | none => .error (expd k)
def colNo (t : List Nat) : List Colm → Option Nat
  | [] => none
  | c :: r => if c.name = t then some 0 else (colNo t r).map (· + 1)
def headGo (cs : List Colm) : List Sep.Fld → List Nat → Except (Nat × Str) (List Nat)
  | [], ns => .ok ns
  | f :: r, ns => match colNo f.text cs with
    | none => .error (f.off, "unknown column " ++ S f.text)
    | some n => if n ∈ ns then .error (f.off, "the column stands twice: " ++ S f.text) else headGo cs r (ns ++ [n])
def missGo (ns : List Nat) : Nat → List Colm → Option Colm
  | _, [] => none
  | k, c :: r => if k ∉ ns ∧ c.nl = false then some c else missGo ns (k + 1) r
def readHead (cs : List Colm) : List (List Sep.Fld) → Except (Nat × Str) (List Nat)
  | [] => .error (0, "a head is expected")
  | r :: _ => match headGo cs r [] with
    | .error e => .error e
    | .ok ns => match missGo ns 0 cs with
      | some c => .error (0, "the column is missing: " ++ S c.name)
      | none => .ok ns
def rowGo (cs : List Colm) : List (Sep.Fld × Nat) → List V → Except (Nat × Str) (List V)
  | [], row => .ok row
  | (f, n) :: r, row => match cs[n]? with
    | none => .ok row
    | some c => match readField f.text f.mkd c.kind c.nl with
      | .error e => .error (f.off, e)
      | .ok v => rowGo cs r (row.set n v)
def readRow (cs : List Colm) (ns : List Nat) (r : List Sep.Fld) : Except (Nat × Str) (List V) :=
  if r.length ≠ ns.length then .error (match r[if r.length > ns.length then ns.length else 0]? with | some f => f.off | none => 0, S (digs ns.length) ++ " fields are expected")
  else rowGo cs (r.zip ns) (List.replicate cs.length .non)
def rowsGo (cs : List Colm) (ns : List Nat) : List (List Sep.Fld) → List (List V) → Except (Nat × Str) (List (List V))
  | [], acc => .ok acc
  | r :: rs, acc => match readRow cs ns r with
    | .error e => .error e
    | .ok v => rowsGo cs ns rs (acc ++ [v])
def readAll (cs : List Colm) (head : Bool) (recs : List (List Sep.Fld)) : Except (Nat × Str) (List (List V)) :=
  if head = true then match readHead cs recs with
    | .error e => .error e
    | .ok ns => rowsGo cs ns (recs.drop 1) []
  else rowsGo cs (List.range cs.length) recs []
theorem colNo_lt {t : List Nat} : ∀ {cs : List Colm} {n : Nat}, colNo t cs = some n → n < cs.length
  | [], _, h => by cases h
  | c :: r, n, h => by
    unfold colNo at h
    split at h
    · injection h with h
      subst h
      exact Nat.zero_lt_succ _
    · obtain ⟨m, h1, rfl⟩ := Option.map_eq_some_iff.mp h
      exact Nat.succ_lt_succ (colNo_lt h1)
theorem headGo_lt {cs : List Colm} : ∀ {fs : List Sep.Fld} {ns out : List Nat}, headGo cs fs ns = .ok out → (∀ n ∈ ns, n < cs.length) → (∀ n ∈ out, n < cs.length) ∧ out.length = ns.length + fs.length
  | [], ns, out, h, hn => by
    injection h with h
    subst h
    exact ⟨hn, rfl⟩
  | f :: r, ns, out, h, hn => by
    unfold headGo at h
    cases hc : colNo f.text cs with
    | none => rw [hc] at h; cases h
    | some n =>
      rw [hc] at h
      simp only at h
      split at h
      · cases h
      · obtain ⟨h1, h2⟩ := headGo_lt h (fun m hm => by
          rcases List.mem_append.mp hm with z | z
          · exact hn m z
          · have : m = n := by simpa using z
            rw [this]; exact colNo_lt hc)
        refine ⟨h1, ?_⟩
        rw [h2, List.length_append, List.length_singleton, List.length_cons]
        omega
theorem readHead_lt {cs : List Colm} {recs : List (List Sep.Fld)} {ns : List Nat} (h : readHead cs recs = .ok ns) : ∀ n ∈ ns, n < cs.length := by
  cases recs with
  | nil => cases h
  | cons r rs =>
    simp only [readHead] at h
    cases hg : headGo cs r [] with
    | error e => rw [hg] at h; cases h
    | ok out =>
      rw [hg] at h
      simp only at h
      cases hm : missGo out 0 cs with
      | some c => rw [hm] at h; cases h
      | none =>
        rw [hm] at h
        injection h with h
        subst h
        exact (headGo_lt hg fun n hn => nomatch hn).1
end Sb
set_option Elab.async false
set_option maxRecDepth 100000
set_option maxHeartbeats 4000000
namespace Sb
open PySem PySem.Spec PyProof.Rows L2 SX
abbrev s_column_number : Stmt := top 37
abbrev sc_column_number_N : List Str := ["name", "columns", "k", "column"]
theorem sc_column_number : FnScope sc_column_number_N ["name", "columns"] (defScope s_column_number) := ⟨rfl, rfl, rfl, by decide +kernel, rfl, by decide +kernel, by decide +kernel⟩
abbrev s_read_scalar : Stmt := top 39
abbrev sc_read_scalar_N : List Str := ["text", "kind"]
theorem sc_read_scalar : FnScope sc_read_scalar_N ["text", "kind"] (defScope s_read_scalar) := ⟨rfl, rfl, rfl, by decide +kernel, rfl, by decide +kernel, by decide +kernel⟩
abbrev s_read_field : Stmt := top 40
abbrev sc_read_field_N : List Str := ["field", "column", "found"]
theorem sc_read_field : FnScope sc_read_field_N ["field", "column"] (defScope s_read_field) := ⟨rfl, rfl, rfl, by decide +kernel, rfl, by decide +kernel, by decide +kernel⟩
/-! ### columns in the heap -/
def cF (c : Colm) : List (Str × V) := [("name", .str (S c.name)), ("kind", .str (kdS c.kind)), ("nullable", .bl c.nl)]
def ColAt (CC : Addr) (H : Hp) (p : Addr) (c : Colm) : Prop := ∃ dx, H p = some (.ins CC dx (cF c))
theorem cF_name (c : Colm) : (cF c).lookup ("name" : Str) = some (.str (S c.name)) := lk_here
theorem cF_kind (c : Colm) : (cF c).lookup ("kind" : Str) = some (.str (kdS c.kind)) := (lk_past (by decide +kernel)).trans lk_here
theorem cF_nl (c : Colm) : (cF c).lookup ("nullable" : Str) = some (.bl c.nl) := (lk_past (by decide +kernel)).trans ((lk_past (by decide +kernel)).trans lk_here)
structure ColT (K : PySem.W.Frag) (CC : Addr) : Prop where
  cl : Cls K CC
  nN : NoAttr K CC "name"
  nK : NoAttr K CC "kind"
  nL : NoAttr K CC "nullable"
def ColsAt (CC : Addr) (H : Hp) (a : Addr) (cs : List Colm) : Prop := ∃ ps : List Addr, H a = some (.lst (ps.map V.ref)) ∧ Paired (ColAt CC H) ps cs
theorem col_same {CC : Addr} {H H' : Hp} (s : Same H H') (p : Addr) (c : Colm) (h : ColAt CC H p c) : ColAt CC H' p c := by
  obtain ⟨dx, h⟩ := h
  exact ⟨dx, s _ _ h⟩
theorem cols_same {CC : Addr} {H H' : Hp} (s : Same H H') {a : Addr} {cs : List Colm} (h : ColsAt CC H a cs) : ColsAt CC H' a cs := by
  obtain ⟨ps, h, p⟩ := h
  exact ⟨ps, s _ _ h, paired_mono (col_same s) p⟩
def oNat : Option Nat → V
  | none => .non
  | some n => .int (n : Int)
def spColNo (CC : Addr) : Sp := fun vs H Q _ => ∃ (t : List Nat) (a : Addr) (cs : List Colm), vs = [.str (S t), .ref a] ∧ ColsAt CC H a cs ∧ ∀ H', Same H H' → Q (oNat (colNo t cs)) H'
def spHead (C CC IT : Addr) : Sp := fun vs H Q E => ∃ (R a : Addr) (recs : List (List Sep.Fld)) (cs : List Colm), vs = [.ref R, .ref a] ∧ RecsAt C H R recs ∧ ColsAt CC H a cs ∧ cs.length ≤ 100 ∧ (∀ c ∈ cs, c.name.length ≤ 1000) ∧ (∀ r ∈ recs, r.length ≤ 100 ∧ ∀ f ∈ r, f.text.length ≤ 1000 ∧ f.off ≤ 200000) ∧
  (∀ ns, readHead cs recs = .ok ns → ∀ (H' : Hp) (p : Addr), Same H H' → H p = none → H' p = some (.lst (ns.map fun n => V.int ((n : Nat) : Int))) → Q (.ref p) H') ∧
  (∀ o r, readHead cs recs = .error (o, r) → ∀ (H' : Hp) (d : Addr), Same H H' → XAt H' d ((o : Nat) : Int) r → E (.ref IT) (some d) H')
def spScal : Sp := fun vs H Q _ => ∃ (t : List Nat) (k : Kd), vs = [.str (S t), .str (kdS k)] ∧ k ≠ .text ∧ k ≠ .bool ∧ (∀ c ∈ t, c < 128) ∧ t.length ≤ 50000 ∧ ∀ H', Same H H' → Q (oInt (readScalar k t)) H'
def spFieldX (C CC IT : Addr) : Sp := fun vs H Q E => ∃ (f p : Addr) (fl : Sep.Fld) (c : Colm), vs = [.ref f, .ref p] ∧ FieldAt C H f fl ∧ ColAt CC H p c ∧ (c.kind ≠ .text → ∀ d ∈ fl.text, d < 128) ∧ fl.text.length ≤ 1000 ∧ fl.off ≤ 200000 ∧
  (∀ v, readField fl.text fl.mkd c.kind c.nl = .ok v → ∀ H', Same H H' → Q v H') ∧
  (∀ r, readField fl.text fl.mkd c.kind c.nl = .error r → ∀ (H' : Hp) (d : Addr), Same H H' → XAt H' d ((fl.off : Nat) : Int) r → E (.ref IT) (some d) H')
theorem eqv_int (i j : Int) : eqV (.int i) (.int j) = decide (i = j) := rfl
theorem inV_ints (n : Nat) (ns : List Nat) : inV (.int (n : Int)) (ns.map fun m => V.int ((m : Nat) : Int)) = decide (n ∈ ns) := by
  unfold inV
  rw [List.any_map]
  induction ns with
  | nil => rfl
  | cons m ns ih =>
    rw [List.any_cons, ih]
    show (eqV (.int ((m : Nat) : Int)) (.int (n : Int)) || _) = _
    rw [eqv_int]
    by_cases h : m = n
    · subst h; simp
    · have h1 : ¬ ((m : Nat) : Int) = (n : Int) := by omega
      have h2 : ¬ n = m := fun z => h z.symm
      simp [h1, h2]
theorem flat_ints (ns : List Nat) : (ns.map fun m => V.int ((m : Nat) : Int)).all flatV = true := by
  rw [List.all_eq_true]
  intro x hx
  obtain ⟨m, _, rfl⟩ := List.mem_map.mp hx
  rfl
theorem drop_at2 {α : Type} {l : List α} {i : Nat} {x : α} (h : l[i]? = some x) : l.drop i = x :: l.drop (i + 1) := by
  have hi := (List.getElem?_eq_some_iff.mp h).1
  rw [List.drop_eq_getElem_cons hi, (List.getElem?_eq_some_iff.mp h).2]
theorem colNo_step {t : List Nat} {cs : List Colm} {i : Nat} {c : Colm} (h : cs[i]? = some c) : ((colNo t (cs.drop i)).map (· + i)) = if c.name = t then some i else (colNo t (cs.drop (i + 1))).map (· + (i + 1)) := by
  rw [drop_at2 h]
  show ((if c.name = t then some 0 else (colNo t (cs.drop (i + 1))).map (· + 1)).map (· + i)) = _
  split
  · show some (0 + i) = some i
    rw [Nat.zero_add]
  · rw [Option.map_map]
    congr 1
    funext n
    show n + 1 + i = n + (i + 1)
    omega
theorem kd_is (k : Kd) (z : Str) (w : Kd) (hz : z = kdS w) : decide (V.str (kdS k) = V.str z) = decide (k = w) := by
  subst hz
  by_cases h : k = w
  · subst h; simp
  · rw [decide_eq_false h, decide_eq_false]
    intro q
    injection q with q
    revert q
    cases k <;> cases w <;> first | exact absurd rfl h | (intro q; exact absurd q (by decide +kernel))
section
variable {P : Program} {w : World} {K : PySem.W.Frag} {mg : Str → Option Value} {base : Heap} {C fM fP CC IT : Addr}
theorem ok_column_number {f : Addr} {fd : FuncData} (F : Fun K "column_number" "column_number" s_column_number f fd) (T : Txt K mg C fM fP) (U : ColT K CC) : FnOk P w K mg base CX0 1 f fd ["name", "columns"] (spColNo CC) := by
  refine F.ok sc_column_number (fun vs H Q E h => ?_) (fun cdv A outer s H vs Q E hr h => ?_)
  · obtain ⟨_, _, _, rfl, _⟩ := h
    rfl
  · obtain ⟨t, a, cs, rfl, ⟨ps, ha, hps⟩, k⟩ := h
    refine ⟨_, (pss_cons (ps_for PassesOwn.never rfl (pi_enum (by rfl) T.n_enumerate (pa_cons (pv 1) pa_nil)) (pg_tup (by rfl) (pgs_cons (pg_name (i := 2) sc_column_number.nd rfl (Or.inl rfl)) (pgs_cons (pg_name (i := 3) sc_column_number.nd rfl (Or.inl rfl)) pgs_nil))) (pss_one (ps_if (pt_cmpR op_eq (pe_fld (pv 3) rfl) (pv 0) (nomark _)) (pss_one (ps_ret (pv 2))) pss_nil)))
  (pss_one (ps_ret pe_non))), ?_⟩
    have lps := paired_len hps
    refine ⟨_, rfl, a, _, rfl, seqL ha, for_it walk_enum (fun i σ H' => ∃ x2 x3, σ = [some (.str (S t)), some (.ref a), x2, x3] ∧ Same H H' ∧ colNo t cs = (colNo t (cs.drop i)).map (· + i)) ⟨_, _, rfl, same_refl, ?_⟩ (fun i σ H' _ ⟨_, _, _, h, _⟩ => seqL (h _ _ ha)) ?_ ?_⟩
    · show colNo t cs = (colNo t cs).map (· + 0)
      cases colNo t cs <;> rfl
    · rintro i x σ H1 H2 hi ⟨x2, x3, rfl, s1, hcn⟩ ⟨q, u, v, rfl, hq, rfl, hu, hv⟩
      injection hu with hu
      subst hu
      have hv : (ps.map V.ref)[i]? = some v := hv
      rw [List.getElem?_map] at hv
      obtain ⟨p, hp, rfl⟩ := Option.map_eq_some_iff.mp hv
      obtain ⟨c, hc, hcol⟩ := paired_get hps hp
      obtain ⟨dx, hcol⟩ := hcol
      have s2 := same_new (o := .tup [.int ((i : Nat) : Int), .ref p]) hq
      have s12 := same_trans s1 s2
      refine ⟨q, _, rfl, seqT upd_same, rfl, _, _, rfl, _, _, rfl, rfl, ?_⟩
      refine ⟨_, rfl, p, CC, dx, _, _, rfl, s12 _ _ hcol, U.cl, U.nN, cF_name c, _, rfl, rfl, _, rfl, ?_⟩
      rw [S_eq]
      rw [colNo_step hc] at hcn
      by_cases hn : c.name = t
      · rw [if_pos hn] at hcn
        rw [decide_eq_true hn]
        have k := k _ s12
        rw [hcn] at k
        exact iteT ⟨_, rfl, k⟩
      · rw [if_neg hn] at hcn
        rw [decide_eq_false hn]
        exact iteF ⟨_, _, rfl, s12, hcn⟩
    · rintro σ H1 ⟨x2, x3, rfl, s1, hcn⟩
      rw [List.length_map, lps, List.drop_length] at hcn
      have k := k _ s1
      rw [hcn] at k
      exact k
theorem ok_read_scalar {f : Addr} {fd : FuncData} (F : Fun K "read_scalar" "read_scalar" s_read_scalar f fd) (C_read_integer : Cal P w K mg base CX0 2 "read_integer" spReadInt) (C_read_date : Cal P w K mg base CX0 4 "read_date" spReadDate) (C_read_decimal : Cal P w K mg base CX0 2 "read_decimal" spReadDec) :
    FnOk P w K mg base CX0 5 f fd ["text", "kind"] spScal := by
  refine F.ok sc_read_scalar (fun vs H Q E h => ?_) (fun cdv A outer s H vs Q E hr h => ?_)
  · obtain ⟨_, _, rfl, _⟩ := h
    rfl
  · obtain ⟨t, kd, rfl, n1, n2, hA, hl, k⟩ := h
    refine ⟨_, (pss_cons (ps_if (pt_cmpR op_eq (pv 1) pe_str (nomark _)) (pss_one (ps_ret (pe_k C_read_integer hr (by decide) (by rfl) pass0 (pa_cons (pv 0) pa_nil)))) pss_nil)
  (pss_cons (ps_if (pt_cmpR op_eq (pv 1) pe_str (nomark _)) (pss_one (ps_ret (pe_k C_read_date hr (by decide) (by rfl) pass0 (pa_cons (pv 0) pa_nil)))) pss_nil)
  (pss_one (ps_ret (pe_k C_read_decimal hr (by decide) (by rfl) pass0 (pa_cons (pv 0) pa_nil)))))), ?_⟩
    refine ⟨_, rfl, rfl, _, rfl, ?_⟩
    rw [kd_is kd "int" .int rfl]
    cases kd with
    | int => exact iteT ⟨_, rfl, t, rfl, hA, hl, k _ same_refl⟩
    | date =>
      refine iteF ⟨_, rfl, rfl, _, rfl, ?_⟩
      rw [kd_is .date "date" .date rfl]
      exact iteT ⟨_, rfl, t, rfl, hA, by omega, k _ same_refl⟩
    | dec =>
      refine iteF ⟨_, rfl, rfl, _, rfl, ?_⟩
      rw [kd_is .dec "date" .date rfl]
      exact iteF ⟨_, rfl, t, rfl, hA, hl, k⟩
    | text => exact absurd rfl n1
    | bool => exact absurd rfl n2
theorem log_nat {n : Nat} (h : n ≤ 200000) : (((n : Nat)) : Int).natAbs.log2 < 1900 := log_small h
theorem exp_len (k : Kd) : (expd k).length ≤ 10000 := by cases k <;> decide +kernel
theorem ok_read_field {f : Addr} {fd : FuncData} (F : Fun K "read_field" "read_field" s_read_field f fd) (T : Txt K mg C fM fP) (U : ColT K CC) (MI : MkI P w K mg base IT) {pE : Addr} (gE : mg "EXPECTED" = some (.ref pE))
    (eI : KDct K w pE "int" (.str (expd .int))) (eD : KDct K w pE "date" (.str (expd .date))) (eC : KDct K w pE "decimal" (.str (expd .dec))) (C_read_scalar : Cal P w K mg base CX0 5 "read_scalar" spScal) :
    FnOk P w K mg base (L2.CX P w) 6 f fd ["field", "column"] (spFieldX C CC IT) := by
  refine F.okX sc_read_field (fun vs H Q E h => ?_) (fun cdv A outer s H vs Q E hr h => ?_)
  · obtain ⟨_, _, _, _, rfl, _⟩ := h
    rfl
  · obtain ⟨f, p, fl, c, rfl, ⟨df, hf⟩, ⟨dp, hp⟩, hA, hl, ho, kk, kx⟩ := h
    refine ⟨_, (C8.pss_cut (ps_if (PW.pt (pw_and (pt_cmpR op_eq (pe_fld (pv 0) rfl) pe_str (nomark _)) (pw_and1 (pt_not (pt_val (pe_fld (pv 0) rfl)))))) (pss_cons (ps_if (pt_not (pt_val (pe_fld (pv 1) rfl))) (pss_one (ps_raise rfl (takes_of rfl rfl rfl rfl) (pmk_Inv MI (hr.mono (by decide)) (by rfl) (pa_cons (pe_fld (pv 0) rfl) (pa_cons pe_str pa_nil))))) pss_nil)
  (pss_one (ps_ret pe_non))) pss_nil)
  (pss_cons (ps_if (pt_cmpR op_eq (pe_fld (pv 1) rfl) pe_str (nomark _)) (pss_cons (ps_if (pt_cmpR op_gt (pe_callB call_len_str (by rfl) T.n_len PySem.boot_len (pa_cons (pe_fld (pv 0) rfl) pa_nil)) (C8.pe_gc (by rfl) T.g_MOST) (nomark _)) (pss_one (ps_raise rfl (takes_of rfl rfl rfl rfl) (pmk_Inv MI (hr.mono (by decide)) (by rfl) (pa_cons (pe_fld (pv 0) rfl) (pa_cons pe_str pa_nil))))) pss_nil)
  (pss_one (ps_ret (pe_fld (pv 0) rfl)))) pss_nil)
  (pss_cons (ps_if (pt_cmpR op_eq (pe_fld (pv 1) rfl) pe_str (nomark _)) (pss_cons (ps_if (pt_cmpR op_notIn_seq (pe_fld (pv 0) rfl) (pe_tup (pa_cons pe_str (pa_cons pe_str pa_nil))) (by rfl)) (pss_one (ps_raise rfl (takes_of rfl rfl rfl rfl) (pmk_Inv MI (hr.mono (by decide)) (by rfl) (pa_cons (pe_fld (pv 0) rfl) (pa_cons pe_str pa_nil))))) pss_nil)
  (pss_one (ps_ret (pe_cmpR op_eq (pe_fld (pv 0) rfl) pe_str (nomark _))))) pss_nil)
  (pss_cons (ps_set (i := 2) sc_read_field.nd rfl (Or.inl rfl) (pe_k C_read_scalar hr (by decide) (by rfl) pass0 (pa_cons (pe_fld (pv 0) rfl) (pa_cons (pe_fld (pv 1) rfl) pa_nil))))
  (pss_cons (ps_if (pt_cmpR op_isN (pv 2) pe_non (nomark _)) (pss_one (ps_raise rfl (takes_of rfl rfl rfl rfl) (pmk_Inv MI (hr.mono (by decide)) (by rfl) (pa_cons (pe_fld (pv 0) rfl) (pa_cons (pe_ix ix_kdict (pe_glob (v := .ref pE) (by rfl) gE rfl) (pe_fld (pv 1) rfl) (fun _ _ => rfl)) pa_nil))))) pss_nil)
  (pss_one (ps_ret (pv 2)))))))), ?_⟩
    unfold readField at kk kx
    have e0 : Str.ofString "" = S [] := by decide +kernel
    refine ⟨fun σ' H' => σ' = [some (.ref f), some (.ref p), none] ∧ H' = H ∧ ¬ (fl.text = [] ∧ fl.mkd = false), ?_, ?_⟩
    · refine ⟨_, rfl, f, C, df, _, _, rfl, hf, T.cl, T.nT, fF_text fl, rfl, _, rfl, ?_⟩
      rw [e0, S_eq]
      by_cases ht : fl.text = []
      · rw [decide_eq_true ht]
        refine iteT ⟨_, rfl, f, C, df, _, _, rfl, hf, T.cl, T.nM, fF_marked fl, _, rfl, ?_⟩
        cases hm : fl.mkd with
        | true => exact iteF ⟨rfl, rfl, fun z => by cases z.2⟩
        | false =>
          rw [if_pos ⟨ht, hm⟩] at kk kx
          refine iteT ⟨_, rfl, p, CC, dp, _, _, rfl, hp, U.cl, U.nL, cF_nl c, _, rfl, ?_⟩
          cases hn : c.nl with
          | true =>
            rw [if_pos hn] at kk
            exact iteF (kk _ rfl _ same_refl)
          | false =>
            rw [if_neg (by rw [hn]; decide)] at kx
            refine iteT ?_
            exact mk_Inv (log_nat ho) (by decide +kernel) (fun H' d s2 xa => kx _ rfl H' d s2 xa) fun F h => ⟨_, rfl, f, C, df, _, _, rfl, hf, T.cl, T.nO, fF_offset fl, h⟩
      · rw [decide_eq_false ht]
        exact iteF (iteF ⟨rfl, rfl, fun z => ht z.1⟩)
    rintro _ H ⟨rfl, rfl, hne⟩
    rw [if_neg hne] at kk kx
    refine ⟨_, rfl, p, CC, dp, _, _, rfl, hp, U.cl, U.nK, cF_kind c, rfl, _, rfl, ?_⟩
    rw [kd_is c.kind "text" .text rfl]
    cases hk : c.kind with
    | text =>
      rw [hk] at kk kx
      simp only at kk kx
      refine iteT ⟨_, rfl, f, C, df, _, _, rfl, hf, T.cl, T.nT, fF_text fl, _, rfl, by rw [S_len]; exact lt_sz (by omega), _, _, rfl, rfl, _, rfl, ?_⟩
      rw [S_len]
      rw [if_neg (by omega)] at kk
      rw [decide_eq_false (by omega)]
      exact iteF ⟨_, rfl, f, C, df, _, _, rfl, hf, T.cl, T.nT, fF_text fl, kk _ rfl _ same_refl⟩
    | bool =>
      rw [hk] at kk kx
      simp only at kk kx
      have c1 : Str.ofString "true" = S tTrue := by decide +kernel
      have c2 : Str.ofString "false" = S tFalse := by decide +kernel
      refine iteF ⟨_, rfl, p, CC, dp, _, _, rfl, hp, U.cl, U.nK, cF_kind c, rfl, _, rfl, ?_⟩
      rw [kd_is c.kind "bool" .bool rfl, hk]
      refine iteT ⟨_, rfl, f, C, df, _, _, rfl, hf, T.cl, T.nT, fF_text fl, lt_sz (show 2 ≤ 200000 by decide), fun q hq => ?_⟩
      have s1 := same_new (o := .tup [.str "true", .str "false"]) hq
      refine ⟨q, _, rfl, .inr (seqT upd_same), rfl, rfl, _, rfl, ?_⟩
      rw [c1, c2]
      show if (if true = true then !inV (.str (S fl.text)) [.str (S tTrue), .str (S tFalse)] else inV (.str (S fl.text)) [.str (S tTrue), .str (S tFalse)]) = true then _ else _
      rw [if_pos rfl]
      have ein : inV (.str (S fl.text)) [.str (S tTrue), .str (S tFalse)] = (decide (fl.text = tTrue) || decide (fl.text = tFalse)) := by
        show (S tTrue == S fl.text || (S tFalse == S fl.text || false)) = _
        rw [S_beq_eq, S_beq_eq, Bool.or_false]
        by_cases h1 : fl.text = tTrue
        · rw [h1]; rfl
        · by_cases h2 : fl.text = tFalse
          · rw [h2]; rfl
          · rw [decide_eq_false h1, decide_eq_false h2, decide_eq_false (fun z => h1 z.symm), decide_eq_false (fun z => h2 z.symm)]
      rw [ein]
      by_cases h1 : fl.text = tTrue
      · rw [if_pos h1] at kk
        rw [decide_eq_true h1]
        refine iteF ⟨_, rfl, f, C, df, _, _, rfl, s1 _ _ hf, T.cl, T.nT, fF_text fl, rfl, ?_⟩
        rw [S_eq, decide_eq_true h1]
        exact kk _ rfl _ s1
      · rw [if_neg h1] at kk kx
        by_cases h2 : fl.text = tFalse
        · rw [if_pos h2] at kk
          rw [decide_eq_false h1, decide_eq_true h2]
          refine iteF ⟨_, rfl, f, C, df, _, _, rfl, s1 _ _ hf, T.cl, T.nT, fF_text fl, rfl, ?_⟩
          rw [S_eq, decide_eq_false h1]
          exact kk _ rfl _ s1
        · rw [if_neg h2] at kx
          rw [decide_eq_false h1, decide_eq_false h2]
          refine iteT ?_
          exact mk_Inv (log_nat ho) (by decide +kernel) (fun H' d s2 xa => kx _ rfl H' d (same_trans s1 s2) xa) fun F h => ⟨_, rfl, f, C, df, _, _, rfl, s1 _ _ hf, T.cl, T.nO, fF_offset fl, h⟩
    | int =>
      rw [hk] at kk kx
      simp only at kk kx
      refine iteF ⟨_, rfl, p, CC, dp, _, _, rfl, hp, U.cl, U.nK, cF_kind c, rfl, _, rfl, ?_⟩
      rw [kd_is c.kind "bool" .bool rfl, hk]
      refine iteF ⟨_, rfl, f, C, df, _, _, rfl, hf, T.cl, T.nT, fF_text fl, _, rfl, p, CC, dp, _, _, rfl, hp, U.cl, U.nK, cF_kind c, fl.text, c.kind, rfl, by rw [hk]; decide, by rw [hk]; decide, hA (by rw [hk]; decide), by omega, fun H1 s1 => ?_⟩
      rw [hk]
      cases hs : readScalar .int fl.text with
      | some n =>
        rw [hs] at kk
        exact ⟨_, rfl, rfl, false, rfl, iteF ⟨_, rfl, kk _ rfl _ s1⟩⟩
      | none =>
        rw [hs] at kx
        refine ⟨_, rfl, rfl, true, rfl, iteT ?_⟩
        exact mk_Inv (log_nat ho) (exp_len .int) (fun H' d s2 xa => kx _ rfl H' d (same_trans s1 s2) xa) fun F h => ⟨_, rfl, f, C, df, _, _, rfl, s1 _ _ hf, T.cl, T.nO, fF_offset fl, _, rfl, p, CC, dp, _, _, rfl, s1 _ _ hp, U.cl, U.nK, cF_kind c, pE, _, _, rfl, rfl, by rw [hk]; exact eI, h⟩
    | date =>
      rw [hk] at kk kx
      simp only at kk kx
      refine iteF ⟨_, rfl, p, CC, dp, _, _, rfl, hp, U.cl, U.nK, cF_kind c, rfl, _, rfl, ?_⟩
      rw [kd_is c.kind "bool" .bool rfl, hk]
      refine iteF ⟨_, rfl, f, C, df, _, _, rfl, hf, T.cl, T.nT, fF_text fl, _, rfl, p, CC, dp, _, _, rfl, hp, U.cl, U.nK, cF_kind c, fl.text, c.kind, rfl, by rw [hk]; decide, by rw [hk]; decide, hA (by rw [hk]; decide), by omega, fun H1 s1 => ?_⟩
      rw [hk]
      cases hs : readScalar .date fl.text with
      | some n =>
        rw [hs] at kk
        exact ⟨_, rfl, rfl, false, rfl, iteF ⟨_, rfl, kk _ rfl _ s1⟩⟩
      | none =>
        rw [hs] at kx
        refine ⟨_, rfl, rfl, true, rfl, iteT ?_⟩
        exact mk_Inv (log_nat ho) (exp_len .date) (fun H' d s2 xa => kx _ rfl H' d (same_trans s1 s2) xa) fun F h => ⟨_, rfl, f, C, df, _, _, rfl, s1 _ _ hf, T.cl, T.nO, fF_offset fl, _, rfl, p, CC, dp, _, _, rfl, s1 _ _ hp, U.cl, U.nK, cF_kind c, pE, _, _, rfl, rfl, by rw [hk]; exact eD, h⟩
    | dec =>
      rw [hk] at kk kx
      simp only at kk kx
      refine iteF ⟨_, rfl, p, CC, dp, _, _, rfl, hp, U.cl, U.nK, cF_kind c, rfl, _, rfl, ?_⟩
      rw [kd_is c.kind "bool" .bool rfl, hk]
      refine iteF ⟨_, rfl, f, C, df, _, _, rfl, hf, T.cl, T.nT, fF_text fl, _, rfl, p, CC, dp, _, _, rfl, hp, U.cl, U.nK, cF_kind c, fl.text, c.kind, rfl, by rw [hk]; decide, by rw [hk]; decide, hA (by rw [hk]; decide), by omega, fun H1 s1 => ?_⟩
      rw [hk]
      cases hs : readScalar .dec fl.text with
      | some n =>
        rw [hs] at kk
        exact ⟨_, rfl, rfl, false, rfl, iteF ⟨_, rfl, kk _ rfl _ s1⟩⟩
      | none =>
        rw [hs] at kx
        refine ⟨_, rfl, rfl, true, rfl, iteT ?_⟩
        exact mk_Inv (log_nat ho) (exp_len .dec) (fun H' d s2 xa => kx _ rfl H' d (same_trans s1 s2) xa) fun F h => ⟨_, rfl, f, C, df, _, _, rfl, s1 _ _ hf, T.cl, T.nO, fF_offset fl, _, rfl, p, CC, dp, _, _, rfl, s1 _ _ hp, U.cl, U.nK, cF_kind c, pE, _, _, rfl, rfl, by rw [hk]; exact eC, h⟩
end
end Sb
set_option Elab.async false
set_option maxRecDepth 100000
set_option maxHeartbeats 4000000
namespace Sb
open PySem PySem.Spec PyProof.Rows L2 SX
abbrev s_read_row : Stmt := top 41
abbrev sc_read_row_N : List Str := ["fields", "numbers", "columns", "place", "row", "k", "number", "_"]
theorem sc_read_row : FnScope sc_read_row_N ["fields", "numbers", "columns"] (defScope s_read_row) := ⟨rfl, rfl, rfl, by decide +kernel, rfl, by decide +kernel, by decide +kernel⟩
theorem ixn_nat {n j : Nat} (hj : j < n) : ixN n (j : Int) = some j := by
  unfold ixN
  rw [if_pos (by omega), if_pos (by omega)]
  rfl
def Okfl (f : Sep.Fld) : Prop := f.text.length ≤ 1000 ∧ f.off ≤ 200000 ∧ ∀ d ∈ f.text, d < 128
def intsV (ns : List Nat) : List V := ns.map fun n => V.int ((n : Nat) : Int)
def spRowX (C CC IT : Addr) : Sp := fun vs H Q E => ∃ (fa na a : Addr) (r : List Sep.Fld) (ns : List Nat) (cs : List Colm), vs = [.ref fa, .ref na, .ref a] ∧ RecAt C H fa r ∧ H na = some (.lst (intsV ns)) ∧ ColsAt CC H a cs ∧ cs.length ≤ 100 ∧ (∀ n ∈ ns, n < cs.length) ∧ r ≠ [] ∧ r.length ≤ 1000 ∧ ns.length ≤ 1000 ∧ (∀ f ∈ r, Okfl f) ∧
  (∀ row, readRow cs ns r = .ok row → ∀ (H' : Hp) (p : Addr), Same H H' → H p = none → H' p = some (.lst row) → Q (.ref p) H') ∧
  (∀ o e, readRow cs ns r = .error (o, e) → ∀ (H' : Hp) (d : Addr), Same H H' → XAt H' d ((o : Nat) : Int) e → E (.ref IT) (some d) H')
theorem rec_get {C : Addr} {H : Hp} {fas : List Addr} {r : List Sep.Fld} (h : Paired (FieldAt C H) fas r) {i : Nat} {f : Sep.Fld} (hf : r[i]? = some f) : ∃ p, fas[i]? = some p ∧ FieldAt C H p f := by
  obtain ⟨p, h1, h2⟩ := paired_get2 h hf
  exact ⟨p, h1, h2⟩
theorem e_cat (x y : Str) : Str.empty ++ x ++ y = x ++ y := by rw [show Str.empty ++ x = x from Str.empty_append x]
theorem fields_msg_len {n : Nat} (h : n ≤ 1000) : (S (digs n) ++ Str.ofString " fields are expected").length ≤ 10000 := by
  have h1 := digs_le (n := n) (k := 4) (by decide) (by omega)
  have h2 : (Str.ofString " fields are expected").length = 20 := by decide +kernel
  rw [Str.length_append, S_len, h2]
  omega
section
variable {P : Program} {w : World} {K : PySem.W.Frag} {mg : Str → Option Value} {base : Heap} {C fM fP CC IT : Addr}
theorem ok_read_row {f : Addr} {fd : FuncData} (F : Fun K "read_row" "read_row" s_read_row f fd) (T : Txt K mg C fM fP) (MI : MkI P w K mg base IT) (C_read_field : Cal P w K mg base (L2.CX P w) 6 "read_field" (spFieldX C CC IT)) :
    FnOk P w K mg base (L2.CX P w) 7 f fd ["fields", "numbers", "columns"] (spRowX C CC IT) := by
  refine F.okX sc_read_row (fun vs H Q E h => ?_) (fun cdv A outer s H vs Q E hr h => ?_)
  · obtain ⟨_, _, _, _, _, _, rfl, _⟩ := h
    rfl
  · obtain ⟨fa, na, a, r, ns, cs, rfl, ⟨fas, hfa, hfas⟩, hna, ⟨ps, ha, hps⟩, hcl, hns, hr0, hrl, hnl, hok, kk, kx⟩ := h
    refine ⟨_, (pss_cons (ps_if (pt_cmpR op_ne (pe_callB call_len_seq (by rfl) T.n_len PySem.boot_len (pa_cons (pv 0) pa_nil)) (pe_callB call_len_seq (by rfl) T.n_len PySem.boot_len (pa_cons (pv 1) pa_nil)) (nomark _)) (pss_cons (ps_set (i := 3) sc_read_row.nd rfl (Or.inl rfl) (pe_cut (pe_ifExp (pt_cmpR op_gt (pe_callB call_len_seq (by rfl) T.n_len PySem.boot_len (pa_cons (pv 0) pa_nil)) (pe_callB call_len_seq (by rfl) T.n_len PySem.boot_len (pa_cons (pv 1) pa_nil)) (nomark _)) (pe_ix ix_list (pv 0) (pe_callB call_len_seq (by rfl) T.n_len PySem.boot_len (pa_cons (pv 1) pa_nil)) (fun _ _ => rfl)) (pe_ix ix_list (pv 0) pe_int (fun _ _ => rfl)))))
  (pss_one (ps_raise rfl (takes_of rfl rfl rfl rfl) (pmk_Inv MI (hr.mono (by decide)) (by rfl) (pa_cons (pe_fld (pv 3) rfl) (pa_cons (pe_joined (.cons (pe_fmt (pe_callB call_len_seq (by rfl) T.n_len PySem.boot_len (pa_cons (pv 1) pa_nil))) (.cons pe_str .nil))) pa_nil)))))) pss_nil)
  (pss_cons (ps_setLc (i := 4) (own := [("_", 7)]) (g := gName 7) rfl sc_read_row.nd rfl rfl (sw_true rfl rfl rfl (by decide +kernel)) (pi_list (pv 2)) (blkOk_by (own := [("_", 7)]) (N := sc_read_row_N) (sc := defScope s_read_row) (by decide +kernel)) (fun _ _ _ _ _ => pg_name (i := 7) sc_read_row.nd rfl (Or.inl rfl)) (fun _ _ _ _ _ => pts_nil) (fun _ _ _ _ _ => pe_non))
  (pss_cons (ps_for (passes_of rfl) rfl (pi_enum (by rfl) T.n_enumerate (pa_cons (pv 1) pa_nil)) (pg_tup (by rfl) (pgs_cons (pg_name (i := 5) sc_read_row.nd rfl (Or.inl rfl)) (pgs_cons (pg_name (i := 6) sc_read_row.nd rfl (Or.inl rfl)) pgs_nil))) (pss_one (ps_asg (pe_k C_read_field hr (by decide) (by rfl) (passX (takes_of rfl rfl rfl rfl)) (pa_cons (pe_ix ix_list (pv 0) (pv 5) (fun _ _ => rfl)) (pa_cons (pe_ix ix_list (pv 2) (pv 6) (fun _ _ => rfl)) pa_nil))) (pg_sub (pv 4) (pv 6) set_list))))
  (pss_one (ps_ret (pv 4)))))), ?_⟩
    have lfa := paired_len hfas
    have lps := paired_len hps
    have lin : (intsV ns).length = ns.length := List.length_map ..
    refine ⟨_, rfl, fa, _, rfl, .inl (seqL hfa), _, rfl, na, _, rfl, .inl (seqL hna), rfl, _, rfl, ?_⟩
    rw [List.length_map, lfa, lin, v_int]
    unfold readRow at kk kx
    by_cases hne : r.length ≠ ns.length
    · rw [if_pos hne] at kx
      rw [decide_eq_false (by omega)]
      refine iteT ?_
      obtain ⟨fl, hfl⟩ : ∃ fl, r[if r.length > ns.length then ns.length else 0]? = some fl := by
        have h0 : 0 < r.length := List.length_pos_iff.mpr hr0
        by_cases hg : r.length > ns.length
        · rw [if_pos hg]; exact ⟨_, List.getElem?_eq_getElem hg⟩
        · rw [if_neg hg]; exact ⟨_, List.getElem?_eq_getElem h0⟩
      rw [hfl] at kx
      obtain ⟨fp, hfp, hF⟩ := rec_get hfas hfl
      refine ⟨fun v H' => v = .ref fp ∧ H' = H, ?_, ?_⟩
      · refine ⟨_, rfl, fa, _, rfl, .inl (seqL hfa), _, rfl, na, _, rfl, .inl (seqL hna), _, _, rfl, rfl, _, rfl, ?_⟩
        rw [List.length_map, lfa, lin]
        by_cases hg : r.length > ns.length
        · rw [if_pos hg] at hfp
          rw [decide_eq_true (by omega)]
          refine iteT ⟨_, rfl, _, rfl, na, _, rfl, .inl (seqL hna), fa, _, _, _, rfl, rfl, seqL hfa, ?_, rfl, rfl⟩
          rw [lin]
          exact atI_nat (by rw [List.getElem?_map, hfp]; rfl)
        · rw [if_neg hg] at hfp
          rw [decide_eq_false (by omega)]
          exact iteF ⟨_, rfl, fa, _, _, _, rfl, rfl, seqL hfa, atI2 (j := 0) rfl (by rw [List.getElem?_map, hfp]; rfl), rfl, rfl⟩
      rintro _ H ⟨rfl, rfl⟩
      obtain ⟨df, hF⟩ := hF
      have hof := hok fl (List.mem_of_getElem? hfl)
      have e0 : ∀ x : Str, Str.empty ++ x = x := Str.empty_append
      have hdl := digs_le (n := ns.length) (k := 4) (by decide) (by omega)
      have h20 : (Str.ofString " fields are expected").length = 20 := by decide +kernel
      unfold gName
      dsimp only
      refine mk_Inv (o := ((fl.off : Nat) : Int)) (r := S (digs ns.length) ++ " fields are expected") (log_nat hof.2.1) (fields_msg_len hnl) (fun H' d s2 xa => kx _ _ rfl H' d s2 xa) fun F h => ?_
      refine ⟨_, rfl, fp, C, df, _, _, rfl, hF, T.cl, T.nO, fF_offset fl, _, rfl, na, _, rfl, .inl (seqL hna), .inr ⟨_, rfl, ?_, _, rfl, ?_, _, rfl, ?_, ?_⟩⟩
      · rw [lin]; exact Nat.lt_trans (log_small (n := ns.length) (by omega)) (by decide)
      · rw [lin, str_nat, e0, S_len]; exact lt_sz (by omega)
      · rw [lin, str_nat, e0, Str.length_append, S_len, h20]; exact lt_sz (by omega)
      · rw [lin, str_nat, e0]
        exact h
    · rw [if_neg hne] at kk kx
      have hlen : r.length = ns.length := by omega
      rw [decide_eq_true (by omega)]
      refine iteF ?_
      refine ⟨_, rfl, a, rfl, ⟨_, seqL ha⟩, fun D hD => ?_⟩
      refine lc_list (xs := ps.map V.ref) (fun i H' => Same H H' ∧ H' D = some (.lst (List.replicate i V.non))) ⟨same_new hD, upd_same⟩ (fun i H' _ ⟨h, _⟩ => seqL (h _ _ ha)) ?_ ?_
      · rintro i z H1 hz ⟨s1, hT⟩
        have hi : i < cs.length := by have := (List.getElem?_eq_some_iff.mp hz).1; rw [List.length_map] at this; omega
        refine ⟨rfl, _, hT, lt_sz' (by rw [List.length_replicate]; omega), same_mut s1 hD, ?_⟩
        rw [upd_same, List.replicate_succ']
      rintro H1 ⟨s1, hT⟩
      rw [List.length_map, lps] at hT
      have hDH : H D = none := hD
      obtain ⟨res, hres⟩ : ∃ res, res = rowGo cs (r.zip ns) (List.replicate cs.length V.non) := ⟨_, rfl⟩
      rw [← hres] at kk kx
      refine ⟨_, rfl, na, _, rfl, seqL (s1 _ _ hna), for_it walk_enum (fun i σ H' => ∃ (x5 x6 : Option V) (row : List V), σ = [some (.ref fa), some (.ref na), some (.ref a), none, some (.ref D), x5, x6, none] ∧ Same H H' ∧ H' D = some (.lst row) ∧ row.length = cs.length ∧ rowGo cs ((r.zip ns).drop i) row = res)
        ⟨none, none, _, rfl, s1, hT, List.length_replicate, hres.symm⟩ (fun i σ H' _ ⟨_, _, _, _, h, _⟩ => seqL (h _ _ hna)) ?_ ?_⟩
      · rintro i x σ H2 H3 hi ⟨x5, x6, row, rfl, s2, hT2, hrow, hgo⟩ ⟨q, u, v, rfl, hq, rfl, hu, hv⟩
        injection hu with hu
        subst hu
        have hv : (intsV ns)[i]? = some v := hv
        unfold intsV at hv
        rw [List.getElem?_map] at hv
        obtain ⟨n, hn, rfl⟩ := Option.map_eq_some_iff.mp hv
        have hil : i < ns.length := (List.getElem?_eq_some_iff.mp hn).1
        obtain ⟨fl, hfl⟩ : ∃ fl, r[i]? = some fl := ⟨_, List.getElem?_eq_getElem (by omega)⟩
        have hnc := hns n (List.mem_of_getElem? hn)
        obtain ⟨c, hc⟩ : ∃ c, cs[n]? = some c := ⟨_, List.getElem?_eq_getElem hnc⟩
        obtain ⟨fp, hfp, hF⟩ := rec_get hfas hfl
        obtain ⟨cp, hcp, hC⟩ := paired_get2 hps hc
        have hof := hok fl (List.mem_of_getElem? hfl)
        have s3 := same_new (o := .tup [.int ((i : Nat) : Int), .int ((n : Nat) : Int)]) hq
        have s23 := same_trans s2 s3
        obtain ⟨H3, hH3⟩ : ∃ H3, H3 = upd H2 q (.tup [.int ((i : Nat) : Int), .int ((n : Nat) : Int)]) := ⟨_, rfl⟩
        have hq3 : H3 q = some (.tup [.int ((i : Nat) : Int), .int ((n : Nat) : Int)]) := by rw [hH3]; exact upd_same
        have hT3 : H3 D = some (.lst row) := by rw [hH3]; exact s3 _ _ hT2
        rw [← hH3] at s23 ⊢
        have hz : (r.zip ns)[i]? = some (fl, n) := by rw [List.getElem?_zip_eq_some]; exact ⟨hfl, hn⟩
        rw [drop_at2 hz] at hgo
        simp only [rowGo, hc] at hgo
        refine ⟨q, _, rfl, seqT hq3, rfl, _, _, rfl, _, _, rfl, rfl, ?_⟩
        refine ⟨_, rfl, _, rfl, fa, _, _, _, rfl, rfl, seqL (s23 _ _ hfa), atI_nat (by rw [List.getElem?_map, hfp]; rfl), _, rfl, _, rfl, a, _, _, _, rfl, rfl, seqL (s23 _ _ ha), atI_nat (by rw [List.getElem?_map, hcp]; rfl), fp, cp, fl, c, rfl, field_same s23 _ _ hF, col_same s23 _ _ hC, fun _ => hof.2.2, hof.1, hof.2.1, fun v hv H4 s4 => ?_, fun e he H4 d s4 xa => ?_⟩
        · rw [hv] at hgo
          refine ⟨_, rfl, _, rfl, D, _, _, n, rfl, rfl, s4 _ _ hT3, ixn_nat (by omega), ?_⟩
          exact ⟨_, _, row.set n v, rfl, same_mut (same_trans s23 s4) hDH, upd_same, by rw [List.length_set]; exact hrow, hgo⟩
        · rw [he] at hgo
          exact kx _ _ hgo.symm H4 d (same_trans s23 s4) xa
      · rintro σ H2 ⟨x5, x6, row, rfl, s2, hT2, hrow, hgo⟩
        have e : (r.zip ns).drop (intsV ns).length = [] := List.drop_eq_nil_of_le (by rw [List.length_zip, lin]; omega)
        rw [e] at hgo
        exact ⟨_, rfl, kk row hgo.symm H2 D s2 hDH hT2⟩
end
end Sb
set_option Elab.async false
set_option maxRecDepth 100000
set_option maxHeartbeats 4000000
namespace Sb
open PySem PySem.Spec PyProof.Rows L2 SX
abbrev s_read_head : Stmt := top 38
abbrev sc_read_head_N : List Str := ["records", "columns", "numbers", "field", "number", "k", "column"]
theorem sc_read_head : FnScope sc_read_head_N ["records", "columns"] (defScope s_read_head) := ⟨rfl, rfl, rfl, by decide +kernel, rfl, by decide +kernel, by decide +kernel⟩
abbrev s_read_separated : Stmt := top 42
abbrev sc_read_separated_N : List Str := ["text", "columns", "separator", "head", "records", "numbers", "fields"]
theorem sc_read_separated : FnScope sc_read_separated_N ["text", "columns", "separator", "head"] (defScope s_read_separated) := ⟨rfl, rfl, rfl, by decide +kernel, rfl, by decide +kernel, by decide +kernel⟩
theorem cut_from (xs : List V) (h : Nat) : cutV xs (some (h : Int)) none = xs.drop h := by
  unfold cutV
  rw [HT.sIx_none, HT.sIx_nat]
  rcases Nat.le_total h xs.length with q | q
  · rw [Nat.min_eq_left q, List.take_of_length_le (by simp)]
  · rw [Nat.min_eq_right q, List.drop_length, List.drop_eq_nil_of_le q]
    simp
theorem paired_drop {α β : Type} {F : α → β → Prop} : ∀ {l : List α} {m : List β} (n : Nat), Paired F l m → Paired F (l.drop n) (m.drop n)
  | _, _, 0, h => h
  | _, _, _ + 1, .nil => .nil
  | _, _, n + 1, .cons _ t => paired_drop n t
theorem head_err {cs : List Colm} {r : List Sep.Fld} {rs : List (List Sep.Fld)} {e : Nat × Str} (h : headGo cs r [] = .error e) : readHead cs (r :: rs) = .error e := by
  simp only [readHead, h]
theorem head_miss {cs : List Colm} {r : List Sep.Fld} {rs : List (List Sep.Fld)} {ns : List Nat} {c : Colm} (h : headGo cs r [] = .ok ns) (hm : missGo ns 0 cs = some c) : readHead cs (r :: rs) = .error (0, "the column is missing: " ++ S c.name) := by
  simp only [readHead, h, hm]
theorem head_ok {cs : List Colm} {r : List Sep.Fld} {rs : List (List Sep.Fld)} {ns : List Nat} (h : headGo cs r [] = .ok ns) (hm : missGo ns 0 cs = none) : readHead cs (r :: rs) = .ok ns := by
  simp only [readHead, h, hm]
theorem readHead_len {cs : List Colm} {recs : List (List Sep.Fld)} {ns : List Nat} (h : readHead cs recs = .ok ns) (hr : ∀ r ∈ recs, r.length ≤ 100) : ns.length ≤ 100 := by
  cases recs with
  | nil => cases h
  | cons r rs =>
    cases hg : headGo cs r [] with
    | error e => rw [head_err hg] at h; cases h
    | ok out =>
      have hl := (headGo_lt hg fun n hn => nomatch hn).2
      cases hm : missGo out 0 cs with
      | some c => rw [head_miss hg hm] at h; cases h
      | none =>
        rw [head_ok hg hm] at h
        injection h with h
        subst h
        have := hr r List.mem_cons_self
        simp at hl
        omega
def spSep (C CC IT : Addr) : Sp := fun vs H Q E => ∃ (text : List Nat) (a : Addr) (sep : Nat) (hd : Bool) (cs : List Colm) (recs : List (List Sep.Fld)), vs = [.str (S text), .ref a, .str (S [sep]), .bl hd] ∧ text.length ≤ 100000 ∧ ColsAt CC H a cs ∧ cs.length ≤ 100 ∧ (∀ c ∈ cs, c.name.length ≤ 1000) ∧ Sep.split sep text = .ok recs ∧ recs.length ≤ 1000 ∧
  (∀ r ∈ recs, r ≠ [] ∧ r.length ≤ 100 ∧ ∀ f ∈ r, Okfl f) ∧
  (∀ rows, readAll cs hd recs = .ok rows → ∀ (H' : Hp) (p : Addr) (ts : List Addr), Same H H' → H p = none → H' p = some (.lst (ts.map V.ref)) → Paired (fun q row => H' q = some (.lst row)) ts rows → Q (.ref p) H') ∧
  (∀ o e, readAll cs hd recs = .error (o, e) → ∀ (H' : Hp) (d : Addr), Same H H' → XAt H' d ((o : Nat) : Int) e → E (.ref IT) (some d) H')
theorem msg_len {x : Str} {t : List Nat} (hx : x.length ≤ 1000) (ht : t.length ≤ 1000) : (x ++ S t).length ≤ 10000 := by
  rw [Str.length_append, S_len t]
  omega
theorem in_intsV (n : Nat) (ns : List Nat) : inV (.int (n : Int)) (intsV ns) = decide (n ∈ ns) := inV_ints n ns
section
variable {P : Program} {w : World} {K : PySem.W.Frag} {mg : Str → Option Value} {base : Heap} {C fM fP CC IT : Addr}
theorem ok_read_head {f : Addr} {fd : FuncData} (F : Fun K "read_head" "read_head" s_read_head f fd) (T : Txt K mg C fM fP) (U : ColT K CC) (MI : MkI P w K mg base IT) (C_column_number : Cal P w K mg base CX0 1 "column_number" (spColNo CC)) :
    FnOk P w K mg base (L2.CX P w) 3 f fd ["records", "columns"] (spHead C CC IT) := by
  refine F.okX sc_read_head (fun vs H Q E h => ?_) (fun cdv A outer s H vs Q E hr h => ?_)
  · obtain ⟨_, _, _, _, rfl, _⟩ := h
    rfl
  · obtain ⟨R, a, recs, cs, rfl, ⟨ras, hR, hras⟩, hcols, hcl, hcn, hrs, kk, kx⟩ := h
    refine ⟨_, (pss_cons (ps_if (pt_cmpR op_eq (pe_callB call_len_seq (by rfl) T.n_len PySem.boot_len (pa_cons (pv 0) pa_nil)) pe_int (nomark _)) (pss_one (ps_raise rfl (takes_of rfl rfl rfl rfl) (pmk_Inv MI (hr.mono (by decide)) (by rfl) (pa_cons pe_int (pa_cons pe_str pa_nil))))) pss_nil)
  (pss_cons (ps_set (i := 2) sc_read_head.nd rfl (Or.inl rfl) (pe_lst pa_nil))
  (pss_cons (ps_for (passes_of rfl) rfl (pi_list (pe_ix ix_list (pv 0) pe_int (fun _ _ => rfl))) (pg_name (i := 3) sc_read_head.nd rfl (Or.inl rfl)) (pss_cons (ps_set (i := 4) sc_read_head.nd rfl (Or.inl rfl) (pe_k C_column_number hr (by decide) (by rfl) pass0 (pa_cons (pe_fld (pv 3) rfl) (pa_cons (pv 1) pa_nil))))
  (pss_cons (ps_if (pt_cmpR op_isN (pv 4) pe_non (nomark _)) (pss_one (ps_raise rfl (takes_of rfl rfl rfl rfl) (pmk_Inv MI (hr.mono (by decide)) (by rfl) (pa_cons (pe_fld (pv 3) rfl) (pa_cons (pe_op op_add_str pe_str (pe_fld (pv 3) rfl)) pa_nil))))) pss_nil)
  (pss_cons (ps_if (pt_cmpR op_in_seq (pv 4) (pv 2) (by rfl)) (pss_one (ps_raise rfl (takes_of rfl rfl rfl rfl) (pmk_Inv MI (hr.mono (by decide)) (by rfl) (pa_cons (pe_fld (pv 3) rfl) (pa_cons (pe_op op_add_str pe_str (pe_fld (pv 3) rfl)) pa_nil))))) pss_nil)
  (pss_one (ps_expr (pe_bm PySem.F.plainAttrs_list PySem.F.slot_list_append PySem.F.type_list_append mt_append (pv 2) (pa_cons (pv 4) pa_nil))))))))
  (pss_cons (ps_for (passes_of rfl) rfl (pi_enum (by rfl) T.n_enumerate (pa_cons (pv 1) pa_nil)) (pg_tup (by rfl) (pgs_cons (pg_name (i := 5) sc_read_head.nd rfl (Or.inl rfl)) (pgs_cons (pg_name (i := 6) sc_read_head.nd rfl (Or.inl rfl)) pgs_nil))) (pss_one (ps_if (PW.pt (pw_and (pt_cmpR op_notIn_seq (pv 5) (pv 2) (by rfl)) (pw_and1 (pt_not (pt_val (pe_fld (pv 6) rfl)))))) (pss_one (ps_raise rfl (takes_of rfl rfl rfl rfl) (pmk_Inv MI (hr.mono (by decide)) (by rfl) (pa_cons pe_int (pa_cons (pe_op op_add_str pe_str (pe_fld (pv 6) rfl)) pa_nil))))) pss_nil)))
  (pss_one (ps_ret (pv 2))))))), ?_⟩
    have lra := paired_len hras
    refine ⟨_, rfl, R, _, rfl, .inl (seqL hR), rfl, _, rfl, ?_⟩
    rw [List.length_map, lra, v_int]
    cases recs with
    | nil =>
      refine iteT ?_
      exact mk_Inv (o := 0) (by decide) (by decide +kernel) (fun H' d s2 xa => kx 0 _ rfl H' d s2 xa) fun F h => h
    | cons r rs =>
      rw [decide_eq_false (by rw [List.length_cons]; omega)]
      refine iteF ?_
      cases hras with
      | cons hra hrest =>
        rename_i ra ras
        obtain ⟨fas, hra, hfas⟩ := hra
        have lfa := paired_len hfas
        have hr1 := hrs r List.mem_cons_self
        refine ⟨Nat.zero_le _, fun L hL => ?_⟩
        have s0 := same_new (o := .lst []) hL
        obtain ⟨res, hres⟩ : ∃ res, res = headGo cs r [] := ⟨_, rfl⟩
        refine ⟨_, rfl, R, _, _, _, rfl, rfl, seqL (s0 _ _ hR), at0, ra, rfl, ⟨_, seqL (s0 _ _ hra)⟩, for_list (xs := fas.map V.ref) (fun i σ H' => ∃ (x3 x4 : Option V) (ns : List Nat), σ = [some (.ref R), some (.ref a), some (.ref L), x3, x4, none, none] ∧ Same H H' ∧ H' L = some (.lst (intsV ns)) ∧ ns.length ≤ i ∧ headGo cs (r.drop i) ns = res)
          ⟨none, none, [], rfl, s0, upd_same, Nat.le_refl _, hres.symm⟩ (fun i σ H' _ ⟨_, _, _, _, h, _⟩ => seqL (h _ _ hra)) ?_ ?_⟩
        · rintro i x σ H1 hx ⟨x3, x4, ns, rfl, s1, hL1, hnl, hgo⟩
          rw [List.getElem?_map] at hx
          obtain ⟨fp, hfp, rfl⟩ := Option.map_eq_some_iff.mp hx
          obtain ⟨fl, hfl, hF⟩ := paired_get hfas hfp
          obtain ⟨df, hF⟩ := hF
          obtain ⟨ht, ho⟩ := hr1.2 fl (List.mem_of_getElem? hfl)
          have hi : i < 100 := by have := (List.getElem?_eq_some_iff.mp hfl).1; omega
          rw [drop_at2 hfl] at hgo
          simp only [headGo] at hgo
          refine ⟨_, rfl, fp, C, df, _, _, rfl, s1 _ _ hF, T.cl, T.nT, fF_text fl, _, rfl, fl.text, a, cs, rfl, cols_same s1 hcols, fun H2 s2 => ?_⟩
          have s12 := same_trans s1 s2
          cases hc : colNo fl.text cs with
          | none =>
            rw [hc] at hgo
            simp only at hgo
            refine ⟨_, rfl, rfl, true, rfl, iteT ?_⟩
            exact mk_Inv (log_nat ho) (msg_len (show (Str.ofString "unknown column ").length ≤ 1000 by decide +kernel) ht) (fun H' d s3 xa => kx _ _ (head_err (hres.symm.trans hgo.symm)) H' d (same_trans s12 s3) xa) fun F h =>
              ⟨_, rfl, fp, C, df, _, _, rfl, s12 _ _ hF, T.cl, T.nO, fF_offset fl, _, rfl, fp, C, df, _, _, rfl, s12 _ _ hF, T.cl, T.nT, fF_text fl, _, _, rfl, rfl, Nat.le_trans (Nat.add_le_add (show (Str.ofString "unknown column ").length ≤ 1000 by decide +kernel) (by rw [S_len]; exact ht)) (lt_sz (by decide)), h⟩
          | some n =>
            rw [hc] at hgo
            simp only at hgo
            refine ⟨_, rfl, rfl, false, rfl, iteF ?_⟩
            refine ⟨_, rfl, _, rfl, L, _, rfl, .inl (seqL (s2 _ _ hL1)), rfl, flat_ints ns, _, rfl, ?_⟩
            show if inV (.int (n : Int)) (intsV ns) = true then _ else _
            rw [in_intsV]
            by_cases hn : n ∈ ns
            · rw [if_pos hn] at hgo
              rw [decide_eq_true hn]
              refine iteT ?_
              exact mk_Inv (log_nat ho) (msg_len (show (Str.ofString "the column stands twice: ").length ≤ 1000 by decide +kernel) ht) (fun H' d s3 xa => kx _ _ (head_err (hres.symm.trans hgo.symm)) H' d (same_trans s12 s3) xa) fun F h =>
                ⟨_, rfl, fp, C, df, _, _, rfl, s12 _ _ hF, T.cl, T.nO, fF_offset fl, _, rfl, fp, C, df, _, _, rfl, s12 _ _ hF, T.cl, T.nT, fF_text fl, _, _, rfl, rfl, Nat.le_trans (Nat.add_le_add (show (Str.ofString "the column stands twice: ").length ≤ 1000 by decide +kernel) (by rw [S_len]; exact ht)) (lt_sz (by decide)), h⟩
            · rw [if_neg hn] at hgo
              rw [decide_eq_false hn]
              refine iteF ⟨_, rfl, .inl ⟨rfl, _, seqL (s2 _ _ hL1)⟩, _, rfl, L, _, _, rfl, rfl, s2 _ _ hL1, lt_sz' (by unfold intsV; rw [List.length_map]; omega), ?_⟩
              refine ⟨_, _, ns ++ [n], rfl, same_mut s12 hL, ?_, by rw [List.length_append, List.length_singleton]; omega, hgo⟩
              rw [upd_same]
              unfold intsV
              rw [List.map_append]
              rfl
        · rintro σ H1 ⟨x3, x4, ns, rfl, s1, hL1, hnl, hgo⟩
          rw [List.length_map, lfa, List.drop_length] at hgo
          have hgo : Except.ok ns = res := hgo
          rw [← hgo] at hres
          obtain ⟨ps, ha, hps⟩ := hcols
          have lps := paired_len hps
          refine ⟨_, rfl, a, _, rfl, seqL (s1 _ _ ha), for_it walk_enum (fun i σ H' => ∃ (x5 x6 : Option V), σ = [some (.ref R), some (.ref a), some (.ref L), x3, x4, x5, x6] ∧ Same H1 H' ∧ missGo ns 0 cs = missGo ns i (cs.drop i)) ⟨none, none, rfl, same_refl, rfl⟩ (fun i σ H' _ ⟨_, _, _, h, _⟩ => seqL (h _ _ (s1 _ _ ha))) ?_ ?_⟩
          · rintro i x σ H2 H3 hi ⟨x5, x6, rfl, s2, hms⟩ ⟨q, u, v, rfl, hq, rfl, hu, hv⟩
            injection hu with hu
            subst hu
            have hv : (ps.map V.ref)[i]? = some v := hv
            rw [List.getElem?_map] at hv
            obtain ⟨cp, hcp, rfl⟩ := Option.map_eq_some_iff.mp hv
            obtain ⟨c, hc, hC⟩ := paired_get hps hcp
            obtain ⟨dc, hC⟩ := hC
            have s3 := same_new (o := .tup [.int ((i : Nat) : Int), .ref cp]) hq
            have s23 := same_trans s2 s3
            have s13 := same_trans s1 s23
            rw [drop_at2 hc] at hms
            simp only [missGo] at hms
            refine ⟨q, _, rfl, seqT upd_same, rfl, _, _, rfl, _, _, rfl, rfl, ?_⟩
            refine ⟨_, rfl, _, rfl, L, _, rfl, .inl (seqL (s23 _ _ hL1)), rfl, flat_ints ns, _, rfl, ?_⟩
            show if (!inV (.int ((i : Nat) : Int)) (intsV ns)) = true then _ else _
            rw [in_intsV]
            by_cases hn : i ∈ ns
            · rw [if_neg (fun z => z.1 hn)] at hms
              rw [decide_eq_true hn]
              exact iteF (iteF ⟨_, _, rfl, s23, hms⟩)
            · rw [decide_eq_false hn]
              refine iteT ⟨_, rfl, cp, CC, dc, _, _, rfl, s13 _ _ hC, U.cl, U.nL, cF_nl c, _, rfl, ?_⟩
              cases hl : c.nl with
              | true =>
                rw [if_neg (fun z => by rw [hl] at z; cases z.2)] at hms
                exact iteF ⟨_, _, rfl, s23, hms⟩
              | false =>
                rw [if_pos ⟨hn, hl⟩] at hms
                refine iteT ?_
                have hcl2 := hcn c (List.mem_of_getElem? hc)
                exact mk_Inv (o := 0) (by decide) (msg_len (show (Str.ofString "the column is missing: ").length ≤ 1000 by decide +kernel) hcl2) (fun H' d s4 xa => kx 0 _ (head_miss hres.symm hms) H' d (same_trans s13 s4) xa) fun F h =>
                  ⟨_, rfl, cp, CC, dc, _, _, rfl, s13 _ _ hC, U.cl, U.nN, cF_name c, _, _, rfl, rfl, Nat.le_trans (Nat.add_le_add (show (Str.ofString "the column is missing: ").length ≤ 1000 by decide +kernel) (by rw [S_len]; exact hcl2)) (lt_sz (by decide)), h⟩
          · rintro σ H2 ⟨x5, x6, rfl, s2, hms⟩
            rw [List.length_map, lps, List.drop_length] at hms
            exact ⟨_, rfl, kk ns (head_ok hres.symm hms) H2 L (same_trans s1 s2) hL (s2 _ _ hL1)⟩
/-- rows, one behind the other -/
theorem rows_step {cs : List Colm} {ns : List Nat} {recs : List (List Sep.Fld)} {i : Nat} {r : List Sep.Fld} {acc : List (List V)} (h : recs[i]? = some r) : rowsGo cs ns (recs.drop i) acc = match readRow cs ns r with | .error e => .error e | .ok v => rowsGo cs ns (recs.drop (i + 1)) (acc ++ [v]) := by
  rw [drop_at2 h]
  rfl
theorem ok_read_separated {f : Addr} {fd : FuncData} {kws : List (Str × V)} (F : FunD K "read_separated" "read_separated" (defArgs s_read_separated) (defBody s_read_separated) (defScope s_read_separated) [] kws f fd) (T : Txt K mg C fM fP)
    (C_split_records : Cal P w K mg base (L2.CX P w) 4 "split_records" (spSplitX C IT)) (C_read_head : Cal P w K mg base (L2.CX P w) 3 "read_head" (spHead C CC IT)) (C_read_row : Cal P w K mg base (L2.CX P w) 7 "read_row" (spRowX C CC IT)) :
    FnOk P w K mg base (L2.CX P w) 8 f fd ["text", "columns", "separator", "head"] (spSep C CC IT) := by
  refine F.ok sc_read_separated (fun vs H Q E h => ?_) (fun cdv A outer s H vs Q E hr h => ?_)
  · obtain ⟨_, _, _, _, _, _, rfl, _⟩ := h
    rfl
  · obtain ⟨text, a, sep, hd, cs, recs, rfl, hl, hcols, hcl, hcn, hspl, hrl, hrs, kk, kx⟩ := h
    refine ⟨_, (pss_cons (ps_set (i := 4) sc_read_separated.nd rfl (Or.inl rfl) (pe_k C_split_records hr (by decide) (by rfl) (passX (takes_of rfl rfl rfl rfl)) (pa_cons (pv 0) (pa_cons (pv 2) pa_nil))))
  (pss_cons (ps_if (pt_not (pt_val (pv 3))) (pss_cons (ps_set (i := 5) sc_read_separated.nd rfl (Or.inr rfl) (pe_listRg rfl (by rfl) T.n_list (prg_1 (by rfl) T.n_range (pe_callB call_len_seq (by rfl) T.n_len PySem.boot_len (pa_cons (pv 1) pa_nil)))))
  (pss_one (ps_ret (pe_lcX (own := [("fields", 6)]) (g := gName 6) rfl sc_read_separated.nd rfl rfl (takes_of rfl rfl rfl rfl) (fun _ _ _ _ h => h) (pi_list (pv 4)) (blkOk_by (own := [("fields", 6)]) (N := sc_read_separated_N) (sc := defScope s_read_separated) (by decide +kernel)) (fun _ _ _ _ _ _ => pg_name (i := 6) sc_read_separated.nd rfl (Or.inl rfl)) (fun _ _ _ _ _ _ => pts_nil) (fun _ _ _ _ _ _ ps => (pe_k C_read_row hr (by decide) (by rfl) ps (pa_cons (pv 6) (pa_cons (pv 5) (pa_cons (pv 1) pa_nil))))))))) pss_nil)
  (pss_cons (ps_set (i := 5) sc_read_separated.nd rfl (Or.inr rfl) (pe_k C_read_head hr (by decide) (by rfl) (passX (takes_of rfl rfl rfl rfl)) (pa_cons (pv 4) (pa_cons (pv 1) pa_nil))))
  (pss_one (ps_ret (pe_lcX (own := [("fields", 6)]) (g := gName 6) rfl sc_read_separated.nd rfl rfl (takes_of rfl rfl rfl rfl) (fun _ _ _ _ h => h) (pi_list (pe_slice sl_list (pv 4) (po_some pe_int) po_none)) (blkOk_by (own := [("fields", 6)]) (N := sc_read_separated_N) (sc := defScope s_read_separated) (by decide +kernel)) (fun _ _ _ _ _ _ => pg_name (i := 6) sc_read_separated.nd rfl (Or.inl rfl)) (fun _ _ _ _ _ _ => pts_nil) (fun _ _ _ _ _ _ ps => (pe_k C_read_row hr (by decide) (by rfl) ps (pa_cons (pv 6) (pa_cons (pv 5) (pa_cons (pv 1) pa_nil))))))))))), ?_⟩
    refine ⟨_, rfl, _, rfl, text, sep, rfl, hl, fun ans hans H1 R hRn hR s1 => ?_, fun o r' herr => by rw [hspl] at herr; cases herr⟩
    have : ans = recs := by rw [hspl] at hans; injection hans with z; exact z.symm
    subst this
    obtain ⟨ras, hR, hras⟩ := hR
    have lra := paired_len hras
    -- the rows
    have rows : ∀ (xs : List Addr) (rr : List (List Sep.Fld)) (ns : List Nat) (na XL : Addr) (H2 : Hp) (σ0 : L2.St) (QD : Addr → Hp → Prop) (D : Addr), Same H H2 → H2 na = some (.lst (intsV ns)) → H2 XL = some (.lst (xs.map V.ref)) → Paired (RecAt C H2) xs rr → (∀ n ∈ ns, n < cs.length) → ns.length ≤ 100 → (∀ r ∈ rr, r ≠ [] ∧ r.length ≤ 100 ∧ ∀ f ∈ r, Okfl f) → rr.length ≤ 1000 → H2 D = none →
        (∀ out, rowsGo cs ns rr [] = .ok out → ∀ (H' : Hp) (ts : List Addr), Same H2 H' → H' D = some (.lst (ts.map V.ref)) → Paired (fun q row => H' q = some (.lst row)) ts out → QD D H') → (∀ o e, rowsGo cs ns rr [] = .error (o, e) → ∀ (H' : Hp) (d : Addr), Same H H' → XAt H' d ((o : Nat) : Int) e → E (.ref IT) (some d) H') →
        σ0 = [some (.str (S text)), some (.ref a), some (.str (S [sep])), some (.bl hd), some (.ref R), some (.ref na), none] →
        ∃ W : Nat → Nat → Hp → Prop, (∃ m, W 0 m (upd H2 D (.lst []))) ∧ ∀ i m H', W i m H' →
          ((Itl K XL).stop i H' ∧ QD D H') ∨ ((Itl K XL).go i H' ∧ ∃ Nx : Hp → Prop, (∀ H'', Nx H'' → ∃ m', m' < m ∧ W (i + 1) m' H'') ∧ ∀ x H'', (Itl K XL).yld i H' x H'' → gName 6 x (wipe σ0 [6]) H'' fun σ2 H3 => wipe σ2 [6] = wipe σ0 [6] ∧ tYes σ2 H3 fun b H4 =>
            if b = true then tCall (spRowX C CC IT) [] E (tCons (tVar 6) (tCons (tVar 5) (tCons (tVar 1) tNil))) σ2 H4 fun y H5 => ∃ acc, H5 D = some (.lst acc) ∧ acc.length < sizeLine ∧ Nx (upd H5 D (.lst (acc ++ [y]))) else Nx H4) := by
      intro xs rr ns na XL H2 σ0 QD D s2 hna hX hxs hns hnl hrr hrrl hD kk kx hσ
      subst hσ
      have lxs := paired_len hxs
      obtain ⟨res, hres⟩ : ∃ res, res = rowsGo cs ns rr [] := ⟨_, rfl⟩
      rw [← hres] at kk kx
      refine lc_list (xs := xs.map V.ref) (fun i H' => ∃ (ts : List Addr) (acc : List (List V)), Same H2 H' ∧ H' D = some (.lst (ts.map V.ref)) ∧ Paired (fun q row => H' q = some (.lst row)) ts acc ∧ (∀ q ∈ ts, q ≠ D) ∧ ts.length ≤ i ∧ rowsGo cs ns (rr.drop i) acc = res)
        ⟨[], [], same_new hD, upd_same, .nil, (fun q hq => nomatch hq), Nat.le_refl _, hres.symm⟩ (fun i H' _ ⟨_, _, h, _⟩ => seqL (h _ _ hX)) ?_ ?_
      · rintro i z H3 hz ⟨ts, acc, s3, hT, hts, htD, htl, hgo⟩
        rw [List.getElem?_map] at hz
        obtain ⟨rp, hrp, rfl⟩ := Option.map_eq_some_iff.mp hz
        obtain ⟨r, hr', hRec⟩ := paired_get hxs hrp
        have hi : i < 1000 := by have := (List.getElem?_eq_some_iff.mp hr').1; omega
        rw [rows_step hr'] at hgo
        have hr1 := hrr r (List.mem_of_getElem? hr')
        have s23 := same_trans s2 s3
        refine ⟨rfl, _, rfl, _, rfl, _, rfl, rp, na, a, r, ns, cs, rfl, rec_same s3 _ _ hRec, s3 _ _ hna, cols_same s23 hcols, hcl, hns, hr1.1, by omega, by omega, hr1.2.2, fun row hrow H4 p s4 hpn hp => ?_, fun o e herr H4 d s4 xa => ?_⟩
        · rw [hrow] at hgo
          simp only at hgo
          have hpD : p ≠ D := fun z => by rw [z, hT] at hpn; cases hpn
          refine ⟨_, s4 _ _ hT, lt_sz' (by rw [List.length_map]; omega), ts ++ [p], acc ++ [row], same_mut (same_trans s3 s4) hD, by rw [upd_same, List.map_append]; rfl, ?_, ?_, by rw [List.length_append, List.length_singleton]; omega, hgo⟩
          · refine paired_app ?_ (.cons (by rw [upd_ne hpD]; exact hp) .nil)
            exact paired_mem (fun q row hq e => by rw [upd_ne (htD q hq)]; exact s4 _ _ e) hts
          · intro q hq
            rcases List.mem_append.mp hq with h | h
            · exact htD q h
            · have : q = p := by simpa using h
              rw [this]; exact hpD
        · rw [herr] at hgo
          exact kx _ _ hgo.symm H4 d (same_trans s23 s4) xa
      · rintro H3 ⟨ts, acc, s3, hT, hts, htD, htl, hgo⟩
        rw [List.length_map, lxs, List.drop_length] at hgo
        exact kk acc hgo.symm H3 ts s3 hT hts
    refine ⟨_, rfl, hd, rfl, ?_⟩
    unfold readAll at kk kx
    cases hd with
    | false =>
      rw [if_neg (by decide)] at kk kx
      refine iteT ?_
      obtain ⟨ps, ha, hps⟩ := hcols
      have lps := paired_len hps
      refine ⟨_, rfl, a, _, rfl, .inl (seqL (s1 _ _ ha)), _, rfl, ?_, fun na hna => ?_⟩
      · exact RgOk.of_le (by decide) (by rw [List.length_map]; omega) (by decide) (by omega)
      have s2 := same_new (o := .lst (rgV 0 ((ps.map V.ref).length : Nat))) hna
      have erg : rgV 0 (((ps.map V.ref).length : Nat) : Int) = intsV (List.range cs.length) := by
        unfold rgV intsV
        rw [List.length_map, lps]
        have e : ((cs.length : Int) - 0).toNat = cs.length := by omega
        rw [e]
        refine List.map_congr_left fun i _ => ?_
        show V.int (0 + (i : Int)) = V.int (i : Int)
        rw [Int.zero_add]
      refine ⟨_, rfl, R, rfl, ⟨_, seqL (s2 _ _ hR)⟩, fun D hD => ?_⟩
      exact rows ras ans (List.range cs.length) na R _ _ (fun D H' => { nx := fun _ H' => Q .non H', rt := Q : Ends }.rt (.ref D) H') D (same_trans s1 s2) (by rw [upd_same, erg]) (s2 _ _ hR) (paired_mono (rec_same s2) hras) (fun n hn => List.mem_range.mp hn) (by rw [List.length_range]; omega) hrs hrl hD
        (fun out ho H' ts s3 hT hts => kk out ho H' D ts (same_trans s1 (same_trans s2 s3)) (Same.free (same_trans s1 s2) hD) hT hts) (fun o e he H' d s3 xa => kx o e he H' d s3 xa) rfl
    | true =>
      rw [if_pos rfl] at kk kx
      refine iteF ?_
      refine ⟨_, rfl, _, rfl, R, a, ans, cs, rfl, ⟨ras, hR, hras⟩, cols_same s1 hcols, hcl, hcn, fun r hr' => ⟨(hrs r hr').2.1, fun f hf => ⟨((hrs r hr').2.2 f hf).1, ((hrs r hr').2.2 f hf).2.1⟩⟩, fun ns hns H2 na s2 hnan hna => ?_, fun o e he H2 d s2 xa => ?_⟩
      · rw [hns] at kk kx
        simp only at kk kx
        have hR2 := s2 _ _ hR
        refine ⟨_, rfl, _, rfl, R, _, rfl, seqL hR2, fun XL hXL => ?_⟩
        have s3 := same_new (o := .lst (cutV (ras.map V.ref) (some 1) none)) hXL
        have ecut : cutV (ras.map V.ref) (some 1) none = (ras.drop 1).map V.ref := by
          rw [List.map_drop]
          exact cut_from _ 1
        refine ⟨XL, rfl, ⟨_, seqL upd_same⟩, fun D hD => ?_⟩
        have hns2 := readHead_lt hns
        have hnsl : ns.length ≤ 100 := readHead_len hns fun r hr' => (hrs r hr').2.1
        have hans2 : Paired (RecAt C _) (ras.drop 1) (ans.drop 1) := paired_drop 1 (paired_mono (rec_same s3) (paired_mono (rec_same s2) hras))
        exact rows (ras.drop 1) (ans.drop 1) ns na XL _ _ (fun D H' => { nx := fun _ H' => Q .non H', rt := Q : Ends }.rt (.ref D) H') D (same_trans s1 (same_trans s2 s3)) (s3 _ _ hna) (by rw [upd_same, ecut]) hans2 hns2 hnsl (fun r hr' => hrs r (List.mem_of_mem_drop hr')) (by rw [List.length_drop]; omega) hD
          (fun out ho H' ts s4 hT hts => kk out ho H' D ts (same_trans s1 (same_trans s2 (same_trans s3 s4))) (Same.free (same_trans s1 (same_trans s2 s3)) hD) hT hts) (fun o e he H' d s4 xa => kx o e he H' d s4 xa) rfl
      · rw [he] at kx
        exact kx o e rfl H2 d (same_trans s1 s2) xa
end
end Sb
set_option Elab.async false
set_option maxRecDepth 100000
set_option maxHeartbeats 4000000
namespace Sb
open PySem PySem.Spec PyProof.Rows L2 SX
abbrev s__law_rank : Stmt := top 50
abbrev sc__law_rank_N : List Str := ["_law_value"]
theorem sc__law_rank : FnScope sc__law_rank_N ["_law_value"] (defScope s__law_rank) := ⟨rfl, rfl, rfl, by decide +kernel, rfl, by decide +kernel, by decide +kernel⟩
abbrev s__law_ranks : Stmt := top 51
abbrev sc__law_ranks_N : List Str := ["_law_row_here", "_law_value"]
theorem sc__law_ranks : FnScope sc__law_ranks_N ["_law_row_here"] (defScope s__law_ranks) := ⟨rfl, rfl, rfl, by decide +kernel, rfl, by decide +kernel, by decide +kernel⟩
abbrev s__law_same_rows : Stmt := top 52
abbrev sc__law_same_rows_N : List Str := ["_law_told", "_law_due", "_law_k"]
theorem sc__law_same_rows : FnScope sc__law_same_rows_N ["_law_told", "_law_due"] (defScope s__law_same_rows) := ⟨rfl, rfl, rfl, by decide +kernel, rfl, by decide +kernel, by decide +kernel⟩
abbrev s__law_text : Stmt := top 53
abbrev sc__law_text_N : List Str := ["_law_state_here", "_law_signs", "_law_k"]
theorem sc__law_text : FnScope sc__law_text_N ["_law_state_here"] (defScope s__law_text) := ⟨rfl, rfl, rfl, by decide +kernel, rfl, by decide +kernel, by decide +kernel⟩
abbrev s__law_kind_value : Stmt := top 54
abbrev sc__law_kind_value_N : List Str := ["_law_kind", "_law_state_here"]
theorem sc__law_kind_value : FnScope sc__law_kind_value_N ["_law_kind", "_law_state_here"] (defScope s__law_kind_value) := ⟨rfl, rfl, rfl, by decide +kernel, rfl, by decide +kernel, by decide +kernel⟩
/-! ### drawn values -/
def Txt4 (t : List Nat) : Prop := t.length ≤ 4 ∧ ∀ c ∈ t, c < 128 ∧ c ≠ 44 ∧ c ≠ 34 ∧ c ≠ 10
def CellV : Kd → V → Prop
  | .bool, v => ∃ b, v = .bl b
  | .text, v => ∃ t, v = .str (S t) ∧ Txt4 t
  | .date, v => ∃ d, v = .int d ∧ Day d
  | _, v => ∃ n, v = .int n ∧ Big n
def Cell (k : Kd) (nl : Bool) (v : V) : Prop := (v = .non ∧ nl = true) ∨ CellV k v
/-- a cell with any text -/
def CellW : Kd → V → Prop
  | .text, v => ∃ t, v = .str (S t) ∧ t.length ≤ 5 ∧ ∀ c ∈ t, c < 128
  | k, v => CellV k v
def valT : Kd → V → List Nat
  | .bool, .bl b => if b = true then tTrue else tFalse
  | .text, .str x => x.cps.toList
  | .date, .int d => dayT d
  | .dec, .int n => decT n
  | _, .int n => intT n
  | _, _ => []
def signs4 : List Nat := [97, 98, 65, 66, 32, 49, 57, 45, 39, 126]
theorem c_signs4 : (Str.ofString "abAB 19-'~") = S signs4 := by decide +kernel
theorem signs4_ok : ∀ c ∈ signs4, c < 128 ∧ c ≠ 44 ∧ c ≠ 34 ∧ c ≠ 10 := by decide
def nameOf (i : Nat) : List Nat := 99 :: digs i
/-! ### ranks -/
def rkI : V → Int
  | .non => 0
  | .bl _ => 1
  | .int _ => 2
  | _ => 3
def rkU : V → V
  | .non => .int 0
  | .bl b => .int (if b then 1 else 0)
  | v => v
def Scal : V → Prop
  | .non => True
  | .bl _ => True
  | .int _ => True
  | .str x => PyData.strOk x = true
  | _ => False
def rkDu : V → PyData
  | .non => .int 0
  | .bl b => .int (if b then 1 else 0)
  | .int i => .int i
  | .str x => .str x
  | _ => .none
def rkD (v : V) : PyData := .tuple [.int (rkI v), rkDu v]
def RkV (H : Hp) (v : V) (p : Addr) : Prop := H p = some (.tup [.int (rkI v), rkU v])
def RowRk (H : Hp) (row : List V) (q : Addr) : Prop := ∃ as : List Addr, H q = some (.lst (as.map V.ref)) ∧ Paired (RkV H) row as
theorem RowRk.keep {H H' : Hp} (s : Same H H') {row : List V} {q : Addr} (h : RowRk H row q) : RowRk H' row q := by
  obtain ⟨as, h1, h2⟩ := h
  exact ⟨as, s _ _ h1, paired_mono (fun _ _ e => s _ _ e) h2⟩
theorem rk_dp {K : PySem.W.Frag} {H : Hp} {v : V} {p : Addr} (hs : Scal v) (h : RkV H v p) : Dp K H (.ref p) (rkD v) := by
  refine .tup (seqT h) (.cons (.int _) (.cons ?_ .nil))
  cases v <;> first | exact .int _ | exact .str _ | exact absurd hs id
theorem rks_dpA {K : PySem.W.Frag} {H : Hp} : ∀ {row : List V} {as : List Addr}, (∀ v ∈ row, Scal v) → Paired (RkV H) row as → DpAll K H (as.map V.ref) (row.map rkD)
  | _, _, _, .nil => .nil
  | _, _, hs, .cons h t => .cons (rk_dp (hs _ List.mem_cons_self) h) (rks_dpA (fun v hv => hs v (List.mem_cons_of_mem _ hv)) t)
theorem RowRk.dp {K : PySem.W.Frag} {H : Hp} {row : List V} {q : Addr} (hs : ∀ v ∈ row, Scal v) (h : RowRk H row q) : Dp K H (.ref q) (.list (row.map rkD)) := by
  obtain ⟨as, h1, h2⟩ := h
  exact .lst (seqL h1) (rks_dpA hs h2)
theorem rkDu_flat {v : V} (h : Scal v) : (rkDu v).canLay0 = true ∧ (rkDu v).depth = 0 ∧ PyData.eqv (rkDu v) (rkDu v) = true := by
  cases v <;> first | (simp [rkDu, PyData.canLay0, PyData.depth, PyData.eqv]; done) | (simp [rkDu, PyData.canLay0, PyData.depth, PyData.eqv]; exact h)
theorem rkD_facts {v : V} (h : Scal v) : (rkD v).canLay0 = true ∧ (rkD v).depth = 1 ∧ PyData.eqv (rkD v) (rkD v) = true := by
  obtain ⟨h1, h2, h3⟩ := rkDu_flat h
  unfold rkD
  refine ⟨by simp [PyData.canLay0, PyData.canLayAll0, h1], by simp [PyData.depth, PyData.depthAll, h2], by simp [PyData.eqv, PyData.eqvAll, h3]⟩
theorem rowD_facts : ∀ {row : List V}, (∀ v ∈ row, Scal v) → PyData.canLayAll0 (row.map rkD) = true ∧ PyData.depthAll (row.map rkD) ≤ 1 ∧ PyData.eqvAll (row.map rkD) (row.map rkD) = true
  | [], _ => by simp [PyData.canLayAll0, PyData.depthAll, PyData.eqvAll]
  | v :: r, hs => by
    obtain ⟨h1, h2, h3⟩ := rkD_facts (hs v List.mem_cons_self)
    obtain ⟨i1, i2, i3⟩ := rowD_facts (row := r) fun v hv => hs v (List.mem_cons_of_mem _ hv)
    refine ⟨by simp only [List.map_cons, PyData.canLayAll0, h1, i1, Bool.and_self], ?_, by simp only [List.map_cons, PyData.eqvAll, h3, i3, Bool.and_self]⟩
    rw [List.map_cons, PyData.depthAll, h2]
    omega
theorem row_shaped {row : List V} (hs : ∀ v ∈ row, Scal v) : SeqAt.shaped (.list (row.map rkD)) = true := by
  obtain ⟨i1, i2, _⟩ := rowD_facts hs
  unfold SeqAt.shaped
  rw [Bool.and_eq_true]
  refine ⟨by rw [PyData.canLay0]; exact i1, decide_eq_true ?_⟩
  rw [PyData.depth]
  omega
theorem row_eqv {row : List V} (hs : ∀ v ∈ row, Scal v) : PyData.eqv (.list (row.map rkD)) (.list (row.map rkD)) = true := (rowD_facts hs).2.2
def RowV (H : Hp) (q : Addr) (row : List V) : Prop := H q = some (.lst row)
def spRankV : Sp := fun vs H Q _ => ∃ v : V, vs = [v] ∧ Scal v ∧ ∀ p, H p = none → Q (.ref p) (upd H p (.tup [.int (rkI v), rkU v]))
def spRanksV : Sp := fun vs H Q _ => ∃ (p : Addr) (row : List V), vs = [.ref p] ∧ H p = some (.lst row) ∧ (∀ v ∈ row, Scal v) ∧ row.length ≤ 1000 ∧ ∀ (H' : Hp) (q : Addr), Same H H' → H q = none → RowRk H' row q → Q (.ref q) H'
def spSameV : Sp := fun vs H Q _ => ∃ (a b : Addr) (ps qs : List Addr) (rows : List (List V)), vs = [.ref a, .ref b] ∧ H a = some (.lst (ps.map V.ref)) ∧ Paired (RowV H) ps rows ∧ H b = some (.lst (qs.map V.ref)) ∧ Paired (RowV H) qs rows ∧ (∀ r ∈ rows, r.length ≤ 1000 ∧ ∀ v ∈ r, Scal v) ∧ rows.length ≤ 1000 ∧ ∀ H', Same H H' → Q (.bl true) H'
def spText4 : Sp := fun vs H Q _ => ∃ st : Addr, vs = [.ref st] ∧ Dr H st ∧ ∀ (t : List Nat) (H' : Hp), Txt4 t → Kp st H H' → Q (.str (S t)) H'
def spKV : Sp := fun vs H Q _ => ∃ (k : Kd) (st : Addr), vs = [.str (kdS k), .ref st] ∧ Dr H st ∧ ∀ (v : V) (H' : Hp), v = .non ∨ CellV k v → Kp st H H' → Q v H'
def spCV (CC : Addr) : Sp := fun vs H Q _ => ∃ (p st : Addr) (c : Colm), vs = [.ref p, .ref st] ∧ ColAt CC H p c ∧ Dr H st ∧ ∀ (v : V) (H' : Hp), Cell c.kind c.nl v → Kp st H H' → Q v H'
def spCol (CC : Addr) : Sp := fun vs H Q _ => ∃ (p dx : Addr) (c : Colm), vs = [.ref p, .str (S c.name), .str (kdS c.kind), .bl c.nl] ∧ H p = some (.ins CC dx []) ∧
  ∀ H' : Hp, ColAt CC H' p c → (∀ b u, H b = some u → b ≠ p → H' b = some u) → Q .non H'
def spCols (CC : Addr) : Sp := fun vs H Q _ => ∃ st : Addr, vs = [.ref st] ∧ Dr H st ∧ ∀ (H' : Hp) (a : Addr) (cs : List Colm), Kp st H H' → H a = none → a ≠ st → ColsAt CC H' a cs → 1 ≤ cs.length → cs.length ≤ 3 → (∀ i c, cs[i]? = some c → c.name = nameOf i) → Q (.ref a) H'
def spDecT : Sp := fun vs H Q _ => ∃ n : Int, vs = [.int n] ∧ Big n ∧ Q (.str (S (decT n))) H
def spVT : Sp := fun vs H Q _ => ∃ (k : Kd) (v : V), vs = [.str (kdS k), v] ∧ CellW k v ∧ ∀ H', Same H H' → Q (.str (S (valT k v))) H'
def spMark : Sp := fun vs H Q _ => ∃ t : List Nat, vs = [.str (S t)] ∧ t.length ≤ 1000 ∧ Q (.str (S (34 :: (t ++ [34])))) H
def spExp : Sp := fun vs H Q _ => ∃ k : Kd, vs = [.str (kdS k)] ∧ k ≠ .text ∧ ∀ H', Same H H' → Q (.str (expd k)) H'
theorem end_snoc (c : Nat) (t : List Nat) (d : Nat) : dropEnd c (t ++ [d]) = if d = c then dropEnd c t else t ++ [d] := by
  unfold dropEnd
  rw [List.reverse_append]
  show ((d :: t.reverse).dropWhile fun d => decide (d = c)).reverse = _
  by_cases h : d = c
  · rw [List.dropWhile_cons_of_pos (by simpa using h), if_pos h]
  · rw [List.dropWhile_cons_of_neg (by simpa using h), if_neg h, List.reverse_cons, List.reverse_reverse]
theorem snoc_of {t : List Nat} (h : t ≠ []) : ∃ c, t = t.take (t.length - 1) ++ [c] ∧ t.drop (t.length - 1) = [c] := by
  have e := List.dropLast_concat_getLast h
  have e2 : t.dropLast = t.take (t.length - 1) := List.dropLast_eq_take
  refine ⟨t.getLast h, by rw [← e2]; exact e.symm, ?_⟩
  have e3 : t.drop (t.length - 1) = (t.dropLast ++ [t.getLast h]).drop (t.length - 1) := by rw [e]
  rw [e3, ← List.length_dropLast, List.drop_left]
theorem kd_eq {k w : Kd} : decide (k = w) = true ↔ k = w := decide_eq_true_iff
theorem day_mem {d : Int} (h : d = 0 ∨ d = -719162 ∨ d = 2932896 ∨ (20000 ≤ d ∧ d ≤ 20008)) : Day d := h
theorem str_digs_len {n : Nat} (h : n < 10 ^ 20) : (S (digs n)).length ≤ 20 := by rw [S_len]; exact digs_le (by decide) h
theorem log_big {n : Int} (h : n.natAbs < 2 ^ 64) : n.natAbs.log2 < 1900 := by
  by_cases h0 : n.natAbs = 0
  · rw [h0]; decide
  · exact Nat.lt_of_lt_of_le ((Nat.log2_lt h0).mpr h) (by decide)
section
variable {P : Program} {w : World} {K : PySem.W.Frag} {mg : Str → Option Value} {base : Heap} {C fM fP CC IT fCI : Addr}
theorem ok__law_rank {f : Addr} {fd : FuncData} (F : Fun K "_law_rank" "_law_rank" s__law_rank f fd) (T : Txt K mg C fM fP) : FnOk P w K mg base CX0 1 f fd ["_law_value"] spRankV := by
  refine F.ok sc__law_rank (fun vs H Q E h => ?_) (fun cdv A outer s H vs Q E hr h => ?_)
  · obtain ⟨_, rfl, _⟩ := h
    rfl
  · obtain ⟨v, rfl, hv, k⟩ := h
    refine ⟨_, (pss_cons (ps_if (pt_cmpR op_isN (pv 0) pe_non (nomark _)) (pss_one (ps_ret (pe_tup (pa_cons pe_int (pa_cons pe_int pa_nil))))) pss_nil)
  (pss_cons (ps_if (pt_val (pe_callB call_isi (by rfl) T.n_isinstance (by decide +kernel) (pa_cons (pv 0) (pa_cons (pe_bltn (by rfl) T.n_bool (by decide +kernel) (show RelV (.ty "bool") (.type "bool") from rfl)) pa_nil)))) (pss_one (ps_ret (pe_tup (pa_cons pe_int (pa_cons (pe_callTy call_int1 (by rfl) T.n_int (by decide +kernel) (pa_cons (pv 0) pa_nil)) pa_nil))))) pss_nil)
  (pss_cons (ps_if (pt_val (pe_callB call_isi (by rfl) T.n_isinstance (by decide +kernel) (pa_cons (pv 0) (pa_cons (pe_bltn (by rfl) T.n_int (by decide +kernel) (show RelV (.ty "int") (.type "int") from rfl)) pa_nil)))) (pss_one (ps_ret (pe_tup (pa_cons pe_int (pa_cons (pv 0) pa_nil))))) pss_nil)
  (pss_one (ps_ret (pe_tup (pa_cons pe_int (pa_cons (pv 0) pa_nil)))))))), ?_⟩
    cases v with
    | non =>
      refine ⟨_, rfl, rfl, true, rfl, ?_⟩
      exact iteT ⟨lt_sz (show 2 ≤ 200000 by decide), k⟩
    | bl b =>
      refine ⟨_, rfl, rfl, false, rfl, ?_⟩
      refine iteF ⟨_, rfl, _, _, _, _, true, rfl, .ty _, .base (.bl _), kit_ty (by decide +kernel), true, rfl, iteT ?_⟩
      exact ⟨_, rfl, .inr ⟨_, rfl, lt_sz (show 2 ≤ 200000 by decide), k⟩⟩
    | int j =>
      refine ⟨_, rfl, rfl, false, rfl, ?_⟩
      refine iteF ⟨_, rfl, _, _, _, _, false, rfl, .ty _, .base (.int _), kit_ty (by decide +kernel), false, rfl, iteF ?_⟩
      refine ⟨_, rfl, _, _, _, _, true, rfl, .ty _, .base (.int _), kit_ty (by decide +kernel), true, rfl, iteT ?_⟩
      exact ⟨_, rfl, lt_sz (show 2 ≤ 200000 by decide), k⟩
    | str x =>
      refine ⟨_, rfl, rfl, false, rfl, ?_⟩
      refine iteF ⟨_, rfl, _, _, _, _, false, rfl, .ty _, .base (.str _), kit_ty (by decide +kernel), false, rfl, iteF ?_⟩
      refine ⟨_, rfl, _, _, _, _, false, rfl, .ty _, .base (.str _), kit_ty (by decide +kernel), false, rfl, iteF ?_⟩
      exact ⟨_, rfl, lt_sz (show 2 ≤ 200000 by decide), k⟩
    | _ => exact absurd hv id
theorem ok__law_ranks {f : Addr} {fd : FuncData} (F : Fun K "_law_ranks" "_law_ranks" s__law_ranks f fd) (C__law_rank : Cal P w K mg base CX0 1 "_law_rank" spRankV) : FnOk P w K mg base CX0 2 f fd ["_law_row_here"] spRanksV := by
  refine F.ok sc__law_ranks (fun vs H Q E h => ?_) (fun cdv A outer s H vs Q E hr h => ?_)
  · obtain ⟨_, _, rfl, _⟩ := h
    rfl
  · obtain ⟨p, row, rfl, hp, hs, hl, k⟩ := h
    refine ⟨_, (pss_one (ps_ret (pe_lc (own := [("_law_value", 1)]) (g := gName 1) rfl sc__law_ranks.nd (pi_list (pv 0)) (blkOk_by (own := [("_law_value", 1)]) (N := sc__law_ranks_N) (sc := defScope s__law_ranks) (by decide +kernel)) (fun _ _ _ _ _ => pg_name (i := 1) sc__law_ranks.nd rfl (Or.inl rfl)) (fun _ _ _ _ _ => pts_nil) (fun _ _ _ _ _ => (pe_k C__law_rank hr (by decide) (by rfl) pass0 (pa_cons (pv 1) pa_nil)))))), ?_⟩
    refine ⟨_, rfl, p, rfl, ⟨_, seqL hp⟩, fun D hD => ?_⟩
    have hDH : H D = none := hD
    refine lc_list (xs := row) (fun i H' => Same H H' ∧ ∃ as : List Addr, H' D = some (.lst (as.map V.ref)) ∧ as.length ≤ i ∧ Paired (RkV H') (row.take i) as)
      ⟨same_new hD, [], upd_same, Nat.le_refl _, .nil⟩ (fun i H' _ ⟨h, _⟩ => seqL (h _ _ hp)) ?_ ?_
    · rintro i x H1 hx ⟨s1, as, hL, hal, hr⟩
      have hi := (List.getElem?_eq_some_iff.mp hx).1
      refine ⟨rfl, _, rfl, x, rfl, hs x (List.mem_of_getElem? hx), fun q hq => ?_⟩
      have s2 := same_new (o := .tup [.int (rkI x), rkU x]) hq
      refine ⟨_, s2 _ _ hL, lt_sz' (by rw [List.length_map]; omega), same_mut (same_trans s1 s2) hDH, as ++ [q], by rw [upd_same, List.map_append]; rfl, by rw [List.length_append, List.length_singleton]; omega, ?_⟩
      rw [take_next hx]
      have hqD : q ≠ D := fun z => by rw [z, hL] at hq; cases hq
      refine paired_app (paired_mono (fun r a e => ?_) hr) (.cons (by show upd _ D _ q = _; rw [upd_ne hqD]; exact upd_same) .nil)
      show upd _ D _ a = _
      rw [upd_ne (ne_of e hL (by intro z; cases z))]
      exact s2 _ _ e
    · rintro H1 ⟨s1, as, hL, hal, hr⟩
      rw [List.take_length] at hr
      exact k _ D s1 hDH ⟨as, hL, hr⟩
theorem ok__law_same_rows {f : Addr} {fd : FuncData} (F : Fun K "_law_same_rows" "_law_same_rows" s__law_same_rows f fd) (T : Txt K mg C fM fP) (C__law_ranks : Cal P w K mg base CX0 2 "_law_ranks" spRanksV) : FnOk P w K mg base CX0 3 f fd ["_law_told", "_law_due"] spSameV := by
  refine F.ok sc__law_same_rows (fun vs H Q E h => ?_) (fun cdv A outer s H vs Q E hr h => ?_)
  · obtain ⟨_, _, _, _, _, rfl, _⟩ := h
    rfl
  · obtain ⟨a, b, ps, qs, rows, rfl, ha, hps, hb, hqs, ok, hl, kk⟩ := h
    refine ⟨_, (pss_cons (ps_if (PW.pt (pw_or (pt_not (pt_val (pe_callB call_isi (by rfl) T.n_isinstance (by decide +kernel) (pa_cons (pv 0) (pa_cons (pe_bltn (by rfl) T.n_list (by decide +kernel) (show RelV (.ty "list") (.type "list") from rfl)) pa_nil))))) (pw_or1 (pt_cmpR op_ne (pe_callB call_len_seq (by rfl) T.n_len PySem.boot_len (pa_cons (pv 0) pa_nil)) (pe_callB call_len_seq (by rfl) T.n_len PySem.boot_len (pa_cons (pv 1) pa_nil)) (nomark _))))) (pss_one (ps_ret pe_bl)) pss_nil)
  (pss_cons (ps_for PassesOwn.never rfl (pi_range1 rfl T.n_range (pa_cons (pe_callB call_len_seq (by rfl) T.n_len PySem.boot_len (pa_cons (pv 1) pa_nil)) pa_nil)) (pg_name (i := 2) sc__law_same_rows.nd rfl (Or.inl rfl)) (pss_one (ps_if (PW.pt (pw_or (pt_not (pt_val (pe_callB call_isi (by rfl) T.n_isinstance (by decide +kernel) (pa_cons (pe_ix ix_list (pv 0) (pv 2) (fun _ _ => rfl)) (pa_cons (pe_bltn (by rfl) T.n_list (by decide +kernel) (show RelV (.ty "list") (.type "list") from rfl)) pa_nil))))) (pw_or1 (pt_cmpR (op_neD hr.units) (pe_k C__law_ranks hr (by decide) (by rfl) pass0 (pa_cons (pe_ix ix_list (pv 0) (pv 2) (fun _ _ => rfl)) pa_nil)) (pe_k C__law_ranks hr (by decide) (by rfl) pass0 (pa_cons (pe_ix ix_list (pv 1) (pv 2) (fun _ _ => rfl)) pa_nil)) (nomark _))))) (pss_one (ps_ret pe_bl)) pss_nil)))
  (pss_one (ps_ret pe_bl)))), ?_⟩
    have lps := paired_len hps
    have lqs := paired_len hqs
    refine ⟨_, rfl, _, _, _, _, true, rfl, .ty _, .base (.lst ha), kit_ty (by decide +kernel), true, rfl, iteF ?_⟩
    refine ⟨_, rfl, a, _, rfl, .inl (seqL ha), _, rfl, b, _, rfl, .inl (seqL hb), rfl, _, rfl, ?_⟩
    rw [List.length_map, List.length_map, lps, lqs, decide_eq_true rfl]
    refine iteF ?_
    refine ⟨_, rfl, b, _, rfl, .inl (seqL hb), _, rfl, by omega, by rw [List.length_map]; omega, for_range (lo := 0) (n := (qs.map V.ref).length) (fun _ σ H' => ∃ x2, σ = [some (.ref a), some (.ref b), x2] ∧ Same H H') ⟨_, rfl, same_refl⟩ ?_ ?_⟩
    · rintro i σ H1 hi ⟨x2, rfl, s1⟩
      rw [List.length_map] at hi
      obtain ⟨q, hq⟩ : ∃ q, qs[i]? = some q := ⟨_, List.getElem?_eq_getElem hi⟩
      obtain ⟨row, hrow, hqr⟩ := paired_get hqs hq
      obtain ⟨p, hp, hpr⟩ := paired_get2 hps hrow
      obtain ⟨rl, rs⟩ := ok row (List.mem_of_getElem? hrow)
      have e0 : (0 : Int) + (i : Int) = (i : Int) := Int.zero_add _
      have hpa : atI (ps.map V.ref) ((0 : Int) + (i : Int)) = some (.ref p) := atI2 e0 (by rw [List.getElem?_map, hp]; rfl)
      have hqa : atI (qs.map V.ref) ((0 : Int) + (i : Int)) = some (.ref q) := atI2 e0 (by rw [List.getElem?_map, hq]; rfl)
      refine ⟨_, rfl, _, rfl, a, _, _, _, rfl, rfl, seqL (s1 _ _ ha), hpa, ?_⟩
      refine ⟨_, _, _, _, true, rfl, .ty _, .base (.lst (s1 _ _ hpr)), kit_ty (by decide +kernel), true, rfl, iteF ?_⟩
      refine ⟨_, rfl, _, rfl, a, _, _, _, rfl, rfl, seqL (s1 _ _ ha), hpa, p, row, rfl, s1 _ _ hpr, rs, rl, fun H2 r2 s2 _ k2 => ?_⟩
      refine ⟨_, rfl, _, rfl, b, _, _, _, rfl, rfl, seqL (s2 _ _ (s1 _ _ hb)), hqa, q, row, rfl, s2 _ _ (s1 _ _ hqr), rs, rl, fun H3 r3 s3 _ k3 => ?_⟩
      refine ⟨_, _, (k2.keep s3).dp rs, k3.dp rs, row_shaped rs, row_shaped rs, _, rfl, ?_⟩
      rw [row_eqv rs]
      refine iteF ?_
      exact ⟨_, rfl, same_trans s1 (same_trans s2 s3)⟩
    · rintro σ H1 ⟨x2, rfl, s1⟩
      exact kk _ s1
theorem ok__law_text {f : Addr} {fd : FuncData} (F : Fun K "_law_text" "_law_text" s__law_text f fd) (T : Txt K mg C fM fP) (C__law_digit : Cal P w K mg base CX0 1 "_law_digit" spDigit) : FnOk P w K mg base CX0 2 f fd ["_law_state_here"] spText4 := by
  refine F.ok sc__law_text (fun vs H Q E h => ?_) (fun cdv A outer s H vs Q E hr h => ?_)
  · obtain ⟨_, rfl, _⟩ := h
    rfl
  · obtain ⟨p, rfl, dr, k⟩ := h
    refine ⟨_, (pss_cons (ps_set (i := 1) sc__law_text.nd rfl (Or.inr rfl) pe_str)
  (pss_one (ps_ret (pe_join pe_str (pe_lc (own := [("_law_k", 2)]) (g := gName 2) rfl sc__law_text.nd (pi_range1 rfl T.n_range (pa_cons (pe_k C__law_digit hr (by decide) (by rfl) pass0 (pa_cons (pv 0) (pa_cons pe_int pa_nil))) pa_nil)) (blkOk_by (own := [("_law_k", 2)]) (N := sc__law_text_N) (sc := defScope s__law_text) (by decide +kernel)) (fun _ _ _ _ _ => pg_name (i := 2) sc__law_text.nd rfl (Or.inl rfl)) (fun _ _ _ _ _ => pts_nil) (fun _ _ _ _ _ => (pe_ix ix_str (pv 1) (pe_k C__law_digit hr (by decide) (by rfl) pass0 (pa_cons (pv 0) (pa_cons pe_int pa_nil))) (fun _ _ => rfl)))))))), ?_⟩
    refine ⟨⟨_, rfl⟩, _, rfl, p, _, rfl, dr, by decide, by decide, fun d H1 d0 d1 k1 => ?_⟩
    refine ⟨d, rfl, by omega, by omega, fun D hD => ?_⟩
    have hDH : H D = none := by
      obtain ⟨z, hz⟩ := dr
      cases e : H D with
      | none => rfl
      | some o =>
        by_cases hp : D = p
        · subst hp
          obtain ⟨_, y, hy⟩ := k1
          rw [hD] at hy; cases hy
        · rw [k1.1 D o hp e] at hD; cases hD
    refine lc_range (lo := 0) (n := d.toNat) (fun i H' => ∃ cs : List Nat, cs.length = i ∧ (∀ c ∈ cs, c ∈ signs4) ∧ Kp p H H' ∧ H' D = some (.lst (cs.map fun c => V.str (S [c]))))
      ⟨[], rfl, by simp, k1.new hD, upd_same⟩ (fun i H' hi ⟨cs, hl, hs, k2, hL⟩ => ?_) (fun H' ⟨cs, hl, hs, k2, hL⟩ => ?_)
    · refine ⟨rfl, _, rfl, _, rfl, p, _, rfl, k2.dr, by decide, by decide, fun e H2 e0 e1 k3 => ?_⟩
      obtain ⟨j, rfl⟩ : ∃ j : Nat, e = (j : Int) := ⟨e.toNat, by omega⟩
      have hj : j < signs4.length := by show j < 10; omega
      have e4 : H2 D = some (.lst (cs.map fun c => V.str (S [c]))) := k3.1 D _ (by
        obtain ⟨z, hz⟩ := k2.dr
        exact ne_of hL hz (by intro q; injection q with q; cases cs <;> simp at q)) hL
      refine ⟨_, _, signs4[j], rfl, rfl, by rw [c_signs4, S_len]; decide, by rw [c_signs4]; exact atS (List.getElem?_eq_getElem hj), _, e4, lt_sz' (by rw [List.length_map]; omega), cs ++ [signs4[j]], by rw [List.length_append, hl]; rfl, ?_, (k2.trans k3).mut hDH dr, by rw [upd_same, List.map_append]; rfl⟩
      intro c hc
      rcases List.mem_append.mp hc with h | h
      · exact hs c h
      · have e : c = signs4[j] := by simpa using h
        rw [e]
        exact List.getElem_mem hj
    · refine ⟨_, _, cs.map (fun c => S [c]), rfl, rfl, .inl (seqL (by rw [List.map_map]; exact hL)), ?_, ?_⟩
      · rw [c_nil, List.map_map]
        have : ((fun x : Str => x.length) ∘ fun c => S [c]) = fun _ => 1 := by funext c; show (S [c]).length = 1; rw [S_len]; rfl
        rw [this, S_len, sum_ones]
        simp
        omega
      · have e5 : Txt.join (Str.ofString "") (cs.map fun c => S [c]) = S cs := by
          have := join_flat (cs.map fun c => [c])
          rw [List.map_map] at this
          rw [c_nil]
          refine this.trans ?_
          congr 2
          rw [← joinL_flat, joinL_nil]
        rw [e5]
        exact k _ _ ⟨by omega, fun c hc => signs4_ok c (hs c hc)⟩ k2
theorem ok__law_kind_value {f : Addr} {fd : FuncData} (F : Fun K "_law_kind_value" "_law_kind_value" s__law_kind_value f fd) (C__law_digit : Cal P w K mg base CX0 1 "_law_digit" spDigit) (C__law_text : Cal P w K mg base CX0 2 "_law_text" spText4) : FnOk P w K mg base CX0 3 f fd ["_law_kind", "_law_state_here"] spKV := by
  refine F.ok sc__law_kind_value (fun vs H Q E h => ?_) (fun cdv A outer s H vs Q E hr h => ?_)
  · obtain ⟨_, _, rfl, _⟩ := h
    rfl
  · obtain ⟨kd, st, rfl, dr, k⟩ := h
    refine ⟨_, (pss_cons (ps_if (pt_cmpR op_eq (pe_k C__law_digit hr (by decide) (by rfl) pass0 (pa_cons (pv 1) (pa_cons pe_int pa_nil))) pe_int (nomark _)) (pss_one (ps_ret pe_non)) pss_nil)
  (pss_cons (ps_if (pt_cmpR op_eq (pv 0) pe_str (nomark _)) (pss_one (ps_ret (pe_cmpR op_eq (pe_k C__law_digit hr (by decide) (by rfl) pass0 (pa_cons (pv 1) (pa_cons pe_int pa_nil))) pe_int (nomark _)))) pss_nil)
  (pss_cons (ps_if (pt_cmpR op_eq (pv 0) pe_str (nomark _)) (pss_one (ps_ret (pe_k C__law_text hr (by decide) (by rfl) pass0 (pa_cons (pv 1) pa_nil)))) pss_nil)
  (pss_cons (ps_if (pt_cmpR op_eq (pv 0) pe_str (nomark _)) (pss_one (ps_ret (pe_ix ix_tup (pe_tup (pa_cons pe_int (pa_cons (pe_un un_neg pe_int) (pa_cons pe_int (pa_cons (pe_op op_add (pe_k C__law_digit hr (by decide) (by rfl) pass0 (pa_cons (pv 1) (pa_cons pe_int pa_nil))) pe_int) pa_nil))))) (pe_k C__law_digit hr (by decide) (by rfl) pass0 (pa_cons (pv 1) (pa_cons pe_int pa_nil))) (fun _ _ => rfl)))) pss_nil)
  (pss_cons (ps_if (pt_cmpR op_eq (pe_k C__law_digit hr (by decide) (by rfl) pass0 (pa_cons (pv 1) (pa_cons pe_int pa_nil))) pe_int (nomark _)) (pss_one (ps_ret (pe_op op_mul (pe_op op_sub (pe_op op_mul (pe_k C__law_digit hr (by decide) (by rfl) pass0 (pa_cons (pv 1) (pa_cons pe_int pa_nil))) pe_int) pe_int) (pe_op op_sub pe_int (pe_k C__law_digit hr (by decide) (by rfl) pass0 (pa_cons (pv 1) (pa_cons pe_int pa_nil))))))) pss_nil)
  (pss_one (ps_ret (pe_op op_sub (pe_k C__law_digit hr (by decide) (by rfl) pass0 (pa_cons (pv 1) (pa_cons pe_int pa_nil))) pe_int)))))))), ?_⟩
    refine ⟨_, rfl, st, 4, rfl, dr, by decide, by decide, fun d1 H1 _ _ k1 => ⟨rfl, _, rfl, ?_⟩⟩
    refine ite2 (fun _ => k _ _ (.inl rfl) k1) (fun _ => ?_)
    refine ⟨_, rfl, rfl, _, rfl, ?_⟩
    rw [kd_is kd "bool" .bool rfl]
    refine ite2 (fun h => ?_) (fun h1 => ?_)
    · have e := kd_eq.mp h
      subst e
      exact ⟨_, rfl, st, 2, rfl, k1.dr, by decide, by decide, fun d2 H2 _ _ k2 => ⟨rfl, k _ _ (.inr ⟨_, rfl⟩) (k1.trans k2)⟩⟩
    refine ⟨_, rfl, rfl, _, rfl, ?_⟩
    rw [kd_is kd "text" .text rfl]
    refine ite2 (fun h => ?_) (fun h2 => ?_)
    · have e := kd_eq.mp h
      subst e
      exact ⟨_, rfl, st, rfl, k1.dr, fun t H2 ht k2 => k _ _ (.inr ⟨t, rfl, ht⟩) (k1.trans k2)⟩
    refine ⟨_, rfl, rfl, _, rfl, ?_⟩
    rw [kd_is kd "date" .date rfl]
    refine ite2 (fun h => ?_) (fun h3 => ?_)
    · have e := kd_eq.mp h
      subst e
      refine ⟨_, rfl, _, rfl, st, 9, rfl, k1.dr, by decide, by decide, fun d2 H2 d20 d21 k2 => ⟨_, _, rfl, rfl, lt_sz (show 4 ≤ 200000 by decide), fun t ht => ?_⟩⟩
      have s3 := same_new (o := .tup [.int 0, .int (-719162), .int 2932896, .int (d2 + 20000)]) ht
      have k23 := (k1.trans k2).same s3
      refine ⟨_, rfl, st, 4, rfl, k23.dr, by decide, by decide, fun d3 H3 d30 d31 k3 => ?_⟩
      have ht3 : H3 t = some (.tup [.int 0, .int (-719162), .int 2932896, .int (d2 + 20000)]) := k3.1 _ _ (new_ne k2.dr ht) upd_same
      have hc : d3 = 0 ∨ d3 = 1 ∨ d3 = 2 ∨ d3 = 3 := by omega
      rcases hc with rfl | rfl | rfl | rfl
      · exact ⟨t, _, _, _, rfl, rfl, seqT ht3, at0, k _ _ (.inr ⟨_, rfl, .inl rfl⟩) (k23.trans k3)⟩
      · exact ⟨t, _, _, _, rfl, rfl, seqT ht3, at1, k _ _ (.inr ⟨_, rfl, .inr (.inl rfl)⟩) (k23.trans k3)⟩
      · exact ⟨t, _, _, _, rfl, rfl, seqT ht3, at2, k _ _ (.inr ⟨_, rfl, .inr (.inr (.inl rfl))⟩) (k23.trans k3)⟩
      · exact ⟨t, _, _, _, rfl, rfl, seqT ht3, at3, k _ _ (.inr ⟨_, rfl, .inr (.inr (.inr ⟨by omega, by omega⟩))⟩) (k23.trans k3)⟩
    have hnum : ∀ n : Int, Big n → CellV kd (.int n) := fun n hn => by
      cases kd with
      | int => exact ⟨n, rfl, hn⟩
      | dec => exact ⟨n, rfl, hn⟩
      | bool => exact absurd rfl h1
      | text => exact absurd rfl h2
      | date => exact absurd rfl h3
    refine ⟨_, rfl, st, 5, rfl, k1.dr, by decide, by decide, fun d2 H2 _ _ k2 => ⟨rfl, _, rfl, ?_⟩⟩
    refine ite2 (fun _ => ?_) (fun _ => ?_)
    · refine ⟨_, rfl, st, 2, rfl, k2.dr, by decide, by decide, fun d3 H3 d30 d31 k3 => ⟨_, _, rfl, rfl, .inl ⟨by omega, by omega⟩, _, _, rfl, rfl, ?_⟩⟩
      refine ⟨_, rfl, st, 1000, rfl, k3.dr, by decide, by decide, fun d4 H4 d40 d41 k4 => ⟨_, _, rfl, rfl, _, _, rfl, rfl, .inl ⟨by omega, by omega⟩, ?_⟩⟩
      refine k _ _ (.inr (hnum _ ?_)) (((k1.trans k2).trans k3).trans k4)
      unfold Big
      have hc : d3 = 0 ∨ d3 = 1 := by omega
      rcases hc with rfl | rfl
      · have e : ((0 : Int) * 2 - 1) * (1000000000000000 - d4) = -(1000000000000000 - d4) := by omega
        rw [e]
        omega
      · have e : ((1 : Int) * 2 - 1) * (1000000000000000 - d4) = 1000000000000000 - d4 := by omega
        rw [e]
        omega
    · refine ⟨_, rfl, st, 9, rfl, k2.dr, by decide, by decide, fun d3 H3 d30 d31 k3 => ⟨_, _, rfl, rfl, ?_⟩⟩
      refine k _ _ (.inr (hnum _ ?_)) ((k1.trans k2).trans k3)
      unfold Big
      omega
end
end Sb
set_option Elab.async false
set_option maxRecDepth 100000
set_option maxHeartbeats 4000000
namespace Sb
open PySem PySem.Spec PyProof.Rows L2 SX
abbrev s_Column___init__ : Stmt := inClass (top 44) 0
abbrev sc_Column___init___N : List Str := ["self", "name", "kind", "nullable"]
theorem sc_Column___init__ : FnScope sc_Column___init___N ["self", "name", "kind", "nullable"] (defScope s_Column___init__) := ⟨rfl, rfl, rfl, by decide +kernel, rfl, by decide +kernel, by decide +kernel⟩
abbrev s__law_columns : Stmt := top 55
abbrev sc__law_columns_N : List Str := ["_law_state_here", "_law_kinds", "_law_columns_here", "_law_k"]
theorem sc__law_columns : FnScope sc__law_columns_N ["_law_state_here"] (defScope s__law_columns) := ⟨rfl, rfl, rfl, by decide +kernel, rfl, by decide +kernel, by decide +kernel⟩
abbrev s__law_column_value : Stmt := top 56
abbrev sc__law_column_value_N : List Str := ["_law_column", "_law_state_here", "_law_value"]
theorem sc__law_column_value : FnScope sc__law_column_value_N ["_law_column", "_law_state_here"] (defScope s__law_column_value) := ⟨rfl, rfl, rfl, by decide +kernel, rfl, by decide +kernel, by decide +kernel⟩
abbrev s__law_decimal : Stmt := top 61
abbrev sc__law_decimal_N : List Str := ["_law_number", "_law_size", "_law_digits", "_law_rest", "_law_text_here"]
theorem sc__law_decimal : FnScope sc__law_decimal_N ["_law_number"] (defScope s__law_decimal) := ⟨rfl, rfl, rfl, by decide +kernel, rfl, by decide +kernel, by decide +kernel⟩
abbrev s__law_value_text : Stmt := top 62
abbrev sc__law_value_text_N : List Str := ["_law_kind", "_law_value"]
theorem sc__law_value_text : FnScope sc__law_value_text_N ["_law_kind", "_law_value"] (defScope s__law_value_text) := ⟨rfl, rfl, rfl, by decide +kernel, rfl, by decide +kernel, by decide +kernel⟩
theorem cF_new (c : Colm) : putF "nullable" (.bl c.nl) (putF "kind" (.str (kdS c.kind)) (putF "name" (.str (S c.name)) [])) = cF c := by
  show putF "nullable" (.bl c.nl) (putF "kind" (.str (kdS c.kind)) [("name", .str (S c.name))]) = _
  rw [put_past (by decide +kernel)]
  show putF "nullable" (.bl c.nl) [("name", .str (S c.name)), ("kind", .str (kdS c.kind))] = _
  rw [put_past (by decide +kernel), put_past (by decide +kernel)]
  rfl
def kinds7 : List Kd := [.int, .text, .int, .bool, .date, .dec, .int]
def dfl : Kd → V
  | .bool => .bl true
  | .text => .str ""
  | .date => .int 0
  | .int => .int 5
  | .dec => .int 0
def dflD : List (Key × V) := [(.inr "bool", .bl true), (.inr "text", .str ""), (.inr "date", .int 0), (.inr "int", .int 5), (.inr "decimal", .int 0)]
def expD : List (Key × V) := [(.inr "bool", .str "true or false is expected"), (.inr "int", .str "an integer is expected"), (.inr "date", .str "a date is expected"), (.inr "decimal", .str "a decimal is expected")]
theorem dfl_get (k : Kd) : valV (mergeK [] dflD) (.inr (kdS k)) = some (dfl k) := by cases k <;> decide +kernel
theorem exp_get {k : Kd} (h : k ≠ .text) : valV (mergeK [] expD) (.inr (kdS k)) = some (.str (expd k)) := by cases k <;> first | decide +kernel | exact absurd rfl h
theorem dfl_ok (k : Kd) : CellV k (dfl k) := by
  cases k with
  | bool => exact ⟨true, rfl⟩
  | text => exact ⟨[], by show V.str (Str.ofString "") = _; rw [c_nil], by decide, fun c hc => nomatch hc⟩
  | date => exact ⟨0, rfl, .inl rfl⟩
  | int => exact ⟨5, rfl, by show (5 : Int).natAbs ≤ 1000000000000000; decide⟩
  | dec => exact ⟨0, rfl, by show (0 : Int).natAbs ≤ 1000000000000000; decide⟩
theorem kp_make {st x dx : Addr} {H H1 H2 : Hp} {CC : Addr} (k : Kp st H H1) (nx : H1 x = none) (nd : H1 dx = none) (h : ∀ b u, upd (upd H1 dx (.own x)) x (.ins CC dx []) b = some u → b ≠ x → H2 b = some u) : Kp st H H2 := k.same (made_same nx nd h)
section
variable {P : Program} {w : World} {K : PySem.W.Frag} {mg : Str → Option Value} {base : Heap} {C fM fP CC IT fCI : Addr}
theorem ok_Column {f : Addr} {fd : FuncData} (F : Fun K "__init__" "Column.__init__" s_Column___init__ f fd) (U : ColT K CC) : FnOk P w K mg base CX0 1 f fd ["self", "name", "kind", "nullable"] (spCol CC) := by
  refine F.ok sc_Column___init__ (fun vs H Q E h => ?_) (fun cdv A outer s H vs Q E hr h => ?_)
  · obtain ⟨_, _, _, rfl, _⟩ := h
    rfl
  · obtain ⟨p, dx, c, rfl, hp, k⟩ := h
    refine ⟨_, (pss_cons (ps_fld (pv 0) (pv 1) rfl)
  (pss_cons (ps_fld (pv 0) (pv 2) rfl)
  (pss_one (ps_fld (pv 0) (pv 3) rfl)))), ?_⟩
    refine ⟨_, rfl, _, rfl, p, CC, dx, _, rfl, hp, U.cl, U.nN, by decide, ?_⟩
    refine ⟨_, rfl, _, rfl, p, CC, dx, _, rfl, upd_same, U.cl, U.nK, by show 1 < 1000; decide, ?_⟩
    refine ⟨_, rfl, _, rfl, p, CC, dx, _, rfl, upd_same, U.cl, U.nL, Nat.lt_of_le_of_lt (putF_len _ _ _) (show 1 + 1 < 1000 by decide), ?_⟩
    refine k _ ⟨dx, ?_⟩ (fun b u e ne => ?_)
    · rw [upd_same, cF_new]
    · rw [upd_ne ne, upd_ne ne, upd_ne ne]
      exact e
theorem ok__law_columns {f : Addr} {fd fdC : FuncData} (F : Fun K "_law_columns" "_law_columns" s__law_columns f fd) (T : Txt K mg C fM fP) (C__law_digit : Cal P w K mg base CX0 1 "_law_digit" spDigit)
    (gCol : mg "Column" = some (.ref CC)) (MC : Mk K CC fCI) (GC : FnOk P w K mg base CX0 1 fCI fdC ["self", "name", "kind", "nullable"] (spCol CC)) (bC : Binds K fdC ["self", "name", "kind", "nullable"] []) : FnOk P w K mg base CX0 3 f fd ["_law_state_here"] (spCols CC) := by
  refine F.ok sc__law_columns (fun vs H Q E h => ?_) (fun cdv A outer s H vs Q E hr h => ?_)
  · obtain ⟨_, rfl, _⟩ := h
    rfl
  · obtain ⟨st, rfl, dr, k⟩ := h
    refine ⟨_, (pss_cons (ps_set (i := 1) sc__law_columns.nd rfl (Or.inl rfl) (pe_tup (pa_cons pe_str (pa_cons pe_str (pa_cons pe_str (pa_cons pe_str (pa_cons pe_str (pa_cons pe_str (pa_cons pe_str pa_nil)))))))))
  (pss_cons (ps_set (i := 2) sc__law_columns.nd rfl (Or.inl rfl) (pe_lst pa_nil))
  (pss_cons (ps_for PassesOwn.never rfl (pi_range1 rfl T.n_range (pa_cons (pe_op op_add pe_int (pe_k C__law_digit hr (by decide) (by rfl) pass0 (pa_cons (pv 0) (pa_cons pe_int pa_nil)))) pa_nil)) (pg_name (i := 3) sc__law_columns.nd rfl (Or.inl rfl)) (pss_one (ps_expr (pe_bm PySem.F.plainAttrs_list PySem.F.slot_list_append PySem.F.type_list_append mt_append (pv 2) (pa_cons (pe_make MC GC (hr.mono (by decide)) (by rfl) gCol bC .nil pass0 (pa_cons (pe_op op_add_str pe_str (pe_callTy call_str_int (by rfl) T.n_str (by decide +kernel) (pa_cons (pv 3) pa_nil))) (pa_cons (pe_ix ix_tup (pv 1) (pe_k C__law_digit hr (by decide) (by rfl) pass0 (pa_cons (pv 0) (pa_cons pe_int pa_nil))) (fun _ _ => rfl)) (pa_cons (pe_cmpR op_gt (pe_k C__law_digit hr (by decide) (by rfl) pass0 (pa_cons (pv 0) (pa_cons pe_int pa_nil))) pe_int (nomark _)) pa_nil)))) pa_nil)))))
  (pss_one (ps_ret (pv 2)))))), ?_⟩
    refine ⟨lt_sz (show 7 ≤ 200000 by decide), fun tK htK => ?_⟩
    obtain ⟨H1, eH1⟩ : ∃ H1, H1 = upd H tK (.tup [.str "int", .str "text", .str "int", .str "bool", .str "date", .str "decimal", .str "int"]) := ⟨_, rfl⟩
    have s1 : Same H H1 := by rw [eH1]; exact same_new htK
    have hK1 : H1 tK = some (.tup (kinds7.map fun k => V.str (kdS k))) := by rw [eH1]; exact upd_same
    have dr1 := dr.ext s1
    have htKs : tK ≠ st := new_ne dr htK
    rw [← eH1]
    refine ⟨Nat.zero_le _, fun L hL => ?_⟩
    have s2 := same_new (o := .lst []) hL
    have dr2 := dr1.ext s2
    have hLs : L ≠ st := new_ne dr1 hL
    have hLH : H L = none := s1.free hL
    refine ⟨_, rfl, st, 3, rfl, dr2, by decide, by decide, fun d H3 d0 d1 k3 => ⟨_, _, rfl, rfl, _, rfl, by omega, by omega, for_range (lo := 0) (n := (1 + d).toNat) (fun i σ H' => ∃ (x3 : Option V) (ps : List Addr) (cs : List Colm), σ = [some (.ref st), some (.ref tK), some (.ref L), x3] ∧ Kp st H H' ∧ H' tK = some (.tup (kinds7.map fun k => V.str (kdS k))) ∧ H' L = some (.lst (ps.map V.ref)) ∧ Paired (ColAt CC H') ps cs ∧ cs.length = i ∧ (∀ i c, cs[i]? = some c → c.name = nameOf i))
      ⟨none, [], [], rfl, ((Kp.refl dr).same (same_trans s1 s2)).trans k3, k3.1 _ _ htKs (s2 _ _ hK1), k3.1 _ _ hLs upd_same, .nil, rfl, fun i c hc => by simp at hc⟩ ?_ ?_⟩⟩
    · rintro i σ H4 hi ⟨x3, ps, cs, rfl, k4, hK4, hL4, hps, hcl, hnm⟩
      have e0 : (0 : Int) + (i : Int) = (i : Int) := Int.zero_add _
      show tDrop _ _ [some (.ref st), some (.ref tK), some (.ref L), some (.int ((0 : Int) + (i : Int)))] H4
      rw [e0]
      have hc99 : Str.ofString "c" = S [99] := by decide +kernel
      have lps := paired_len hps
      refine ⟨_, rfl, .inl ⟨rfl, _, seqL hL4⟩, _, rfl, _, rfl, by show i.log2 < 1920; exact Nat.lt_of_le_of_lt (Nat.log2_le_self i) (by omega), _, _, rfl, rfl, ?_, ?_⟩
      · rw [hc99, str_nat, S_len, S_len]
        have := digs_le (n := i) (k := 2) (by decide) (by omega)
        exact lt_sz (by show 1 + _ ≤ 200000; omega)
      rw [hc99, str_nat, S_cat]
      refine ⟨_, rfl, _, rfl, st, 7, rfl, k4.dr, by decide, by decide, fun e H5 e0 e1 k5 => ?_⟩
      obtain ⟨j, rfl⟩ : ∃ j : Nat, e = (j : Int) := ⟨e.toNat, by omega⟩
      have hj : j < kinds7.length := by show j < 7; omega
      have hK5 := k5.1 _ _ htKs hK4
      have hL5 := k5.1 _ _ hLs hL4
      refine ⟨tK, _, _, V.str (kdS kinds7[j]), rfl, rfl, seqT hK5, atI_nat (by rw [List.getElem?_map, List.getElem?_eq_getElem hj]; rfl), ?_⟩
      refine ⟨_, rfl, st, 3, rfl, k5.dr, by decide, by decide, fun u H6 u0 u1 k6 => ⟨_, _, rfl, rfl, ?_⟩⟩
      intro x dx hx hdx hne
      have hL6 := k6.1 _ _ hLs hL5
      have hK6 := k6.1 _ _ htKs hK5
      have kall := (k4.trans k5).trans k6
      refine ⟨x, dx, ⟨nameOf i, kinds7[j], decide (u > 0)⟩, rfl, upd_same, fun H7 hC hk => ⟨rfl, ?_⟩⟩
      have s7 : Same H6 H7 := made_same hx hdx hk
      have k7 := kall.same s7
      have hL7 := s7 _ _ hL6
      have keepC : ∀ (p : Addr) (c : Colm), ColAt CC H4 p c → ColAt CC H7 p c := fun p c ⟨dc, hc⟩ => by
        obtain ⟨z, hz⟩ := k4.dr
        have np : p ≠ st := ne_of hc hz (by intro q; cases q)
        exact ⟨dc, s7 _ _ (k6.1 _ _ np (k5.1 _ _ np hc))⟩
      have updC : ∀ (p : Addr) (c : Colm), ColAt CC H7 p c → ColAt CC (upd H7 L (.lst (ps.map V.ref ++ [.ref x]))) p c := fun p c ⟨dc, hc⟩ => ⟨dc, by rw [upd_ne (ne_of hc hL7 (by intro q; cases q))]; exact hc⟩
      refine ⟨L, _, _, rfl, rfl, hL7, lt_sz' (by rw [List.length_map]; omega), ?_⟩
      refine ⟨_, ps ++ [x], cs ++ [⟨nameOf i, kinds7[j], decide (u > 0)⟩], rfl, k7.mut hLH dr, ?_, by rw [upd_same, List.map_append]; rfl, ?_, by rw [List.length_append, hcl]; rfl, ?_⟩
      · rw [upd_ne (ne_of (s7 _ _ hK6) hL7 (by intro q; cases q))]
        exact s7 _ _ hK6
      · exact paired_app (paired_mono (fun p c h => updC p c (keepC p c h)) hps) (.cons (updC x _ hC) .nil)
      · intro n c hc
        by_cases hn : n < cs.length
        · rw [List.getElem?_append_left hn] at hc
          exact hnm n c hc
        · rw [List.getElem?_append_right (by omega)] at hc
          have : n - cs.length = 0 := by
            cases q : n - cs.length with
            | zero => rfl
            | succ m => rw [q] at hc; simp at hc
          rw [this] at hc
          have e : n = i := by omega
          rw [e]
          simp at hc
          rw [← hc]
    · rintro σ H4 ⟨x3, ps, cs, rfl, k4, hK4, hL4, hps, hcl, hnm⟩
      exact ⟨_, rfl, k H4 L cs k4 hLH hLs ⟨ps, hL4, hps⟩ (by omega) (by omega) hnm⟩
theorem ok__law_column_value {f : Addr} {fd : FuncData} (F : Fun K "_law_column_value" "_law_column_value" s__law_column_value f fd) (U : ColT K CC) (C__law_kind_value : Cal P w K mg base CX0 3 "_law_kind_value" spKV) : FnOk P w K mg base CX0 4 f fd ["_law_column", "_law_state_here"] (spCV CC) := by
  refine F.ok sc__law_column_value (fun vs H Q E h => ?_) (fun cdv A outer s H vs Q E hr h => ?_)
  · obtain ⟨_, _, _, rfl, _⟩ := h
    rfl
  · obtain ⟨p, st, c, rfl, ⟨dp, hp⟩, dr, k⟩ := h
    refine ⟨_, (pss_cons (ps_set (i := 2) sc__law_column_value.nd rfl (Or.inl rfl) (pe_k C__law_kind_value hr (by decide) (by rfl) pass0 (pa_cons (pe_fld (pv 0) rfl) (pa_cons (pv 1) pa_nil))))
  (pss_cons (ps_if (PW.pt (pw_and (pt_cmpR op_isN (pv 2) pe_non (nomark _)) (pw_and1 (pt_not (pt_val (pe_fld (pv 0) rfl)))))) (pss_one (ps_ret (pe_dget (hu_of hr) (pe_disp (pps_cons pe_str pe_bl (pps_cons pe_str pe_str (pps_cons pe_str pe_int (pps_cons pe_str pe_int (pps_cons pe_str pe_int pps_nil))))) (by rfl) (by rfl) (fun z => by cases z) (by decide)) (pe_fld (pv 0) rfl) (fun _ _ => rfl)))) pss_nil)
  (pss_one (ps_ret (pv 2))))), ?_⟩
    have hps : p ≠ st := by
      obtain ⟨z, hz⟩ := dr
      exact ne_of hp hz (by intro q; cases q)
    refine ⟨_, rfl, p, CC, dp, _, _, rfl, hp, U.cl, U.nK, cF_kind c, _, rfl, c.kind, st, rfl, dr, fun v H1 hv k1 => ?_⟩
    have hp1 := k1.1 _ _ hps hp
    refine ⟨_, rfl, rfl, _, rfl, ?_⟩
    rcases hv with rfl | hv
    · refine iteT ⟨_, rfl, p, CC, dp, _, _, rfl, hp1, U.cl, U.nL, cF_nl c, _, rfl, ?_⟩
      cases hn : c.nl with
      | true => exact iteF ⟨_, rfl, k _ _ (.inl ⟨rfl, hn⟩) k1⟩
      | false =>
        refine iteT fun d hd => ?_
        have k2 : Kp st H (upd H1 d (.dK [])) := k1.new hd
        refine ⟨upd_same, dflD, rfl, by decide, ?_⟩
        have s3 : Same H1 (upd (upd H1 d (.dK [])) d (.dK (mergeK [] dflD))) := fun b o e => by
          have nb := ne_of_none e hd
          rw [upd_ne nb, upd_ne nb]
          exact e
        refine ⟨_, rfl, p, CC, dp, _, _, rfl, s3 _ _ hp1, U.cl, U.nK, cF_kind c, d, dfl c.kind, rfl, ?_, k _ _ (.inr (dfl_ok c.kind)) (k1.same s3)⟩
        have := DGet.k (k := (Sum.inr (kdS c.kind) : Key)) (upd_same (H := upd H1 d (.dK [])) (a := d) (o := HO.dK (mergeK [] dflD)))
        rw [dfl_get] at this
        exact this
    · have e : decide (v = V.non) = false := decide_eq_false fun z => by
        subst z
        cases hk : c.kind with
        | bool => rw [hk] at hv; obtain ⟨_, z⟩ := hv; cases z
        | int => rw [hk] at hv; obtain ⟨_, z, _⟩ := hv; cases z
        | text => rw [hk] at hv; obtain ⟨_, z, _⟩ := hv; cases z
        | date => rw [hk] at hv; obtain ⟨_, z, _⟩ := hv; cases z
        | dec => rw [hk] at hv; obtain ⟨_, z, _⟩ := hv; cases z
      rw [e]
      exact iteF (iteF ⟨_, rfl, k _ _ (.inr hv) k1⟩)
theorem ok__law_decimal {f : Addr} {fd : FuncData} (F : Fun K "_law_decimal" "_law_decimal" s__law_decimal f fd) (T : Txt K mg C fM fP) : FnOk P w K mg base CX0 1 f fd ["_law_number"] spDecT := by
  refine F.ok sc__law_decimal (fun vs H Q E h => ?_) (fun cdv A outer s H vs Q E hr h => ?_)
  · obtain ⟨_, rfl, _⟩ := h
    rfl
  · obtain ⟨n, rfl, hb, k⟩ := h
    refine ⟨_, (pss_cons (ps_set (i := 1) sc__law_decimal.nd rfl (Or.inl rfl) (pe_callB call_abs (by rfl) T.n_abs (by decide +kernel) (pa_cons (pv 0) pa_nil)))
  (pss_cons (ps_set (i := 2) sc__law_decimal.nd rfl (Or.inl rfl) (pe_callTy call_str_int (by rfl) T.n_str (by decide +kernel) (pa_cons (pe_op op_fdiv (pv 1) pe_int) pa_nil)))
  (pss_cons (ps_set (i := 3) sc__law_decimal.nd rfl (Or.inl rfl) (pe_slice sl_str (pe_callTy call_str_int (by rfl) T.n_str (by decide +kernel) (pa_cons (pe_op op_add pe_int (pe_op op_mod (pe_callTy call_int1 (by rfl) T.n_int (by decide +kernel) (pa_cons (pv 1) pa_nil)) pe_int)) pa_nil)) (po_some pe_int) po_none))
  (C8.pss_cut (ps_while PassesOwn.never (PW.pt (pw_and (pt_cmpR op_gt (pe_callB call_len_str (by rfl) T.n_len PySem.boot_len (pa_cons (pv 3) pa_nil)) pe_int (nomark _)) (pw_and1 (pt_cmpR op_eq (pe_slice sl_str (pv 3) (po_some (pe_op op_sub (pe_callB call_len_str (by rfl) T.n_len PySem.boot_len (pa_cons (pv 3) pa_nil)) pe_int)) po_none) pe_str (nomark _))))) (pss_one (ps_set (i := 3) sc__law_decimal.nd rfl (Or.inl rfl) (pe_slice sl_str (pv 3) po_none (po_some (pe_op op_sub (pe_callB call_len_str (by rfl) T.n_len PySem.boot_len (pa_cons (pv 3) pa_nil)) pe_int))))))
  (pss_cons (ps_set (i := 4) sc__law_decimal.nd rfl (Or.inl rfl) (pv 2))
  (C8.pss_cut (ps_if (pt_cmpR op_gt (pe_callB call_len_str (by rfl) T.n_len PySem.boot_len (pa_cons (pv 3) pa_nil)) pe_int (nomark _)) (pss_one (ps_set (i := 4) sc__law_decimal.nd rfl (Or.inl rfl) (pe_op op_add_str (pe_op op_add_str (pv 2) pe_str) (pv 3)))) pss_nil)
  (pss_one (ps_ret (pe_op op_add_str (pe_op op_mulS pe_str (pe_callTy call_int1 (by rfl) T.n_int (by decide +kernel) (pa_cons (pe_cmpR op_lt (pv 0) pe_int (nomark _)) pa_nil))) (pv 4)))))))))), ?_⟩
    have hb : n.natAbs ≤ 1000000000000000 := hb
    refine ⟨_, rfl, _, rfl, ?_⟩
    have ea : (if n < 0 then -n else n) = ((n.natAbs : Nat) : Int) := by
      by_cases h : n < 0
      · rw [if_pos h]; omega
      · rw [if_neg h]; omega
    rw [ea]
    obtain ⟨a, ha⟩ : ∃ a, a = n.natAbs := ⟨_, rfl⟩
    rw [← ha] at hb ⊢
    have q1 : ((a : Nat) : Int) / 10000 = ((a / 10000 : Nat) : Int) := by omega
    have q2 : (10000 : Int) + ((a : Nat) : Int) % 10000 = ((10000 + a % 10000 : Nat) : Int) := by omega
    have hk : a % 10000 < 10000 := Nat.mod_lt _ (by decide)
    refine ⟨_, rfl, _, _, rfl, rfl, ⟨by decide, by decide⟩, _, rfl, ?_, ?_⟩
    · rw [q1]
      exact Nat.lt_trans (log_big (n := ((a / 10000 : Nat) : Int)) (by show a / 10000 < 2 ^ 64; omega)) (by decide)
    rw [q1, str_nat]
    refine ⟨_, rfl, .inl ⟨_, rfl, _, _, rfl, rfl, (by show (0 : Int) < 10000; decide), _, _, rfl, rfl, _, rfl, ?_, _, rfl, _, rfl, ?_, ?_⟩⟩
    · rw [q2]
      exact Nat.lt_trans (log_big (n := ((10000 + a % 10000 : Nat) : Int)) (by show 10000 + a % 10000 < 2 ^ 64; omega)) (by decide)
    · rw [q2, str_nat]
      exact Nat.le_trans (str_digs_len (by omega)) (lt_sz (by decide))
    dsimp only
    rw [q2, str_nat, fracs hk, cutS_from _ 1 1 rfl]
    show gName 3 (.str (S (pad0 4 (a % 10000)))) _ _ _
    have hpl := pad0_len (w := 4) (n := a % 10000) (by decide) hk
    obtain ⟨R, hR⟩ : ∃ R, R = dropEnd 48 (pad0 4 (a % 10000)) := ⟨_, rfl⟩
    have hRl : R.length ≤ 4 := by
      have := congrArg List.length (end_back 48 (pad0 4 (a % 10000)))
      rw [List.length_append] at this
      rw [hR]
      omega
    have hDl : (digs (a / 10000)).length ≤ 12 := digs_le (by decide) (by omega)
    refine ⟨fun σ' H' => σ' = [some (.int n), some (.int (a : Int)), some (.str (S (digs (a / 10000)))), some (.str (S R)), none] ∧ H' = H, ?_, ?_⟩
    · refine ⟨fun m σ H' => ∃ r : List Nat, σ = [some (.int n), some (.int (a : Int)), some (.str (S (digs (a / 10000)))), some (.str (S r)), none] ∧ H' = H ∧ m = r.length ∧ r.length ≤ 4 ∧ dropEnd 48 r = R, ⟨_, _, rfl, rfl, rfl, by omega, hR.symm⟩, ?_⟩
      rintro m σ H1 ⟨r, rfl, rfl, rfl, hrl, hre⟩
      have lr : ∀ {x : Nat}, x ≤ 4 → x ≤ sizeLine := fun h => lt_sz (by omega)
      refine ⟨_, rfl, _, rfl, by rw [S_len]; exact lr hrl, _, _, rfl, rfl, _, rfl, ?_⟩
      rw [S_len]
      by_cases h0 : r = []
      · subst h0
        refine iteF (iteF ?_)
        rw [← hre]
        exact ⟨rfl, rfl⟩
      · have hp : 0 < r.length := List.length_pos_iff.mpr h0
        rw [decide_eq_true (by omega)]
        refine iteT ⟨_, rfl, _, rfl, _, rfl, by rw [S_len]; exact lr hrl, _, _, rfl, rfl, _, rfl, _, rfl, by rw [S_len]; exact lr hrl, rfl, _, rfl, ?_⟩
        obtain ⟨c, hc1, hc2⟩ := snoc_of h0
        rw [S_len, cutS_from r _ (r.length - 1) (by omega), hc2, c_zero, S_eq]
        by_cases h48 : c = 48
        · rw [decide_eq_true (by rw [h48])]
          refine iteT ⟨_, fun _ _ h => h, ?_⟩
          refine ⟨_, rfl, _, rfl, _, rfl, by rw [S_len]; exact lr hrl, _, _, rfl, rfl, _, rfl, _, rfl, by rw [S_len]; exact lr hrl, ?_⟩
          rw [S_len, cutS_to r _ (r.length - 1) (by omega)]
          refine ⟨r.length - 1, by omega, r.take (r.length - 1), rfl, rfl, by rw [List.length_take]; omega, by rw [List.length_take]; omega, ?_⟩
          rw [hc1, end_snoc, if_pos h48] at hre
          exact hre
        · rw [decide_eq_false (by simpa using h48)]
          refine iteF ?_
          have : dropEnd 48 r = r := by
            rw [hc1, end_snoc, if_neg h48]
          rw [this] at hre
          rw [← hre]
          exact ⟨rfl, rfl⟩
    rintro _ H ⟨rfl, rfl⟩
    obtain ⟨Z, hZ⟩ : ∃ Z, Z = digs (a / 10000) ++ (if R = [] then [] else 46 :: R) := ⟨_, rfl⟩
    refine ⟨_, rfl, fun σ' H' => σ' = [some (.int n), some (.int (a : Int)), some (.str (S (digs (a / 10000)))), some (.str (S R)), some (.str (S Z))] ∧ H' = H, ?_, ?_⟩
    · refine ⟨_, rfl, _, rfl, by rw [S_len]; exact lt_sz (by omega), _, _, rfl, rfl, _, rfl, ?_⟩
      rw [S_len]
      by_cases h0 : R = []
      · rw [decide_eq_false (by rw [h0]; decide)]
        rw [if_pos h0, List.append_nil] at hZ
        rw [hZ]
        exact iteF ⟨rfl, rfl⟩
      · have hp : 0 < R.length := List.length_pos_iff.mpr h0
        rw [decide_eq_true (by omega)]
        rw [if_neg h0] at hZ
        refine iteT ⟨_, rfl, _, _, rfl, rfl, by rw [c_dot, S_len, S_len]; exact lt_sz (by show _ + 1 ≤ 200000; omega), _, rfl, _, _, rfl, rfl, ?_, ?_⟩
        · rw [c_dot, S_cat, S_len, S_len, List.length_append]
          exact lt_sz (by show _ + 1 + _ ≤ 200000; omega)
        · rw [c_dot, S_cat, S_cat, hZ]
          have e : digs (a / 10000) ++ [46] ++ R = digs (a / 10000) ++ 46 :: R := by simp
          rw [e]
          exact ⟨rfl, rfl⟩
    rintro _ H ⟨rfl, rfl⟩
    have hZl : Z.length ≤ 17 := by
      rw [hZ, List.length_append]
      split
      · simp; omega
      · rw [List.length_cons]; omega
    have hdec : decT n = (if n < 0 then [45] else []) ++ Z := by
      unfold decT
      simp only
      rw [← ha, ← hR, ← hZ]
    rw [hdec] at k
    refine ⟨_, rfl, _, _, rfl, rfl, .inr ⟨_, rfl, 45, if n < 0 then 1 else 0, by rw [c_dash], ?_, by split <;> decide, _, rfl, _, _, rfl, rfl, ?_, ?_⟩⟩
    · by_cases h : n < 0
      · rw [decide_eq_true h, if_pos h]; rfl
      · rw [decide_eq_false h, if_neg h]; rfl
    · rw [S_len, S_len, List.length_replicate]
      exact lt_sz (by split <;> omega)
    · rw [S_cat]
      have e : List.replicate (if n < 0 then 1 else 0) 45 = if n < 0 then [45] else ([] : List Nat) := by split <;> rfl
      rw [e]
      exact k
theorem ok__law_value_text {f : Addr} {fd : FuncData} (F : Fun K "_law_value_text" "_law_value_text" s__law_value_text f fd) (T : Txt K mg C fM fP) (C__law_decimal : Cal P w K mg base CX0 1 "_law_decimal" spDecT) (C_date_text : Cal P w K mg base CX0 4 "date_text" spDateText) :
    FnOk P w K mg base CX0 5 f fd ["_law_kind", "_law_value"] spVT := by
  refine F.ok sc__law_value_text (fun vs H Q E h => ?_) (fun cdv A outer s H vs Q E hr h => ?_)
  · obtain ⟨_, _, rfl, _⟩ := h
    rfl
  · obtain ⟨kd, v, rfl, hv, k⟩ := h
    refine ⟨_, (pss_cons (ps_if (pt_cmpR op_eq (pv 0) pe_str (nomark _)) (pss_one (ps_ret (pe_ifExp (pt_truth (pv 1) (by intro _; rfl)) pe_str pe_str))) pss_nil)
  (pss_cons (ps_if (pt_cmpR op_eq (pv 0) pe_str (nomark _)) (pss_one (ps_ret (pe_callTy call_str_int (by rfl) T.n_str (by decide +kernel) (pa_cons (pv 1) pa_nil)))) pss_nil)
  (pss_cons (ps_if (pt_cmpR op_eq (pv 0) pe_str (nomark _)) (pss_one (ps_ret (pe_k C__law_decimal hr (by decide) (by rfl) pass0 (pa_cons (pv 1) pa_nil)))) pss_nil)
  (pss_cons (ps_if (pt_cmpR op_eq (pv 0) pe_str (nomark _)) (pss_one (ps_ret (pe_k C_date_text hr (by decide) (by rfl) pass0 (pa_cons (pv 1) pa_nil)))) pss_nil)
  (pss_one (ps_ret (pv 1))))))), ?_⟩
    refine ⟨_, rfl, rfl, _, rfl, ?_⟩
    rw [kd_is kd "bool" .bool rfl]
    cases kd with
    | bool =>
      obtain ⟨b, rfl⟩ := hv
      refine iteT ⟨_, rfl, b, rfl, ?_⟩
      have c1 : Str.ofString "true" = S tTrue := by decide +kernel
      have c2 : Str.ofString "false" = S tFalse := by decide +kernel
      rw [c1, c2]
      cases b with
      | true => exact iteT (k _ same_refl)
      | false => exact iteF (k _ same_refl)
    | int =>
      obtain ⟨n, rfl, hn⟩ := hv
      refine iteF ⟨_, rfl, rfl, _, rfl, ?_⟩
      rw [kd_is .int "int" .int rfl]
      refine iteT ⟨_, rfl, _, rfl, Nat.lt_trans (log_big (Nat.lt_of_le_of_lt hn (by decide))) (by decide), ?_⟩
      rw [str_int]
      exact k _ same_refl
    | dec =>
      obtain ⟨n, rfl, hn⟩ := hv
      refine iteF ⟨_, rfl, rfl, _, rfl, ?_⟩
      rw [kd_is .dec "int" .int rfl]
      refine iteF ⟨_, rfl, rfl, _, rfl, ?_⟩
      rw [kd_is .dec "decimal" .dec rfl]
      exact iteT ⟨_, rfl, n, rfl, hn, k _ same_refl⟩
    | date =>
      obtain ⟨d, rfl, hd⟩ := hv
      refine iteF ⟨_, rfl, rfl, _, rfl, ?_⟩
      rw [kd_is .date "int" .int rfl]
      refine iteF ⟨_, rfl, rfl, _, rfl, ?_⟩
      rw [kd_is .date "decimal" .dec rfl]
      refine iteF ⟨_, rfl, rfl, _, rfl, ?_⟩
      rw [kd_is .date "date" .date rfl]
      exact iteT ⟨_, rfl, d, rfl, day_ok hd, k⟩
    | text =>
      obtain ⟨t, rfl, ht⟩ := hv
      refine iteF ⟨_, rfl, rfl, _, rfl, ?_⟩
      rw [kd_is .text "int" .int rfl]
      refine iteF ⟨_, rfl, rfl, _, rfl, ?_⟩
      rw [kd_is .text "decimal" .dec rfl]
      refine iteF ⟨_, rfl, rfl, _, rfl, ?_⟩
      rw [kd_is .text "date" .date rfl]
      exact iteF ⟨_, rfl, k _ same_refl⟩
end
end Sb
set_option Elab.async false
set_option maxRecDepth 100000
set_option maxHeartbeats 4000000
namespace Sb
open PySem PySem.Spec PyProof.Rows L2 SX
abbrev s__law_field_text : Stmt := top 58
abbrev sc__law_field_text_N : List Str := ["_law_state_here", "_law_signs", "_law_k"]
theorem sc__law_field_text : FnScope sc__law_field_text_N ["_law_state_here"] (defScope s__law_field_text) := ⟨rfl, rfl, rfl, by decide +kernel, rfl, by decide +kernel, by decide +kernel⟩
abbrev s__law_written : Stmt := top 59
abbrev sc__law_written_N : List Str := ["_law_text_here", "_law_separator", "_law_marked", "_law_sign"]
theorem sc__law_written : FnScope sc__law_written_N ["_law_text_here", "_law_separator", "_law_marked"] (defScope s__law_written) := ⟨rfl, rfl, rfl, by decide +kernel, rfl, by decide +kernel, by decide +kernel⟩
abbrev s__law_must_mark : Stmt := top 60
abbrev sc__law_must_mark_N : List Str := ["_law_text_here", "_law_separator"]
theorem sc__law_must_mark : FnScope sc__law_must_mark_N ["_law_text_here", "_law_separator"] (defScope s__law_must_mark) := ⟨rfl, rfl, rfl, by decide +kernel, rfl, by decide +kernel, by decide +kernel⟩

def signs : List Nat := [97, 98, 49, 44, 59, 32, 39, 34, 10, 45, 120]
theorem c_signs : (Str.ofString "ab1,; '\"\n-x") = S signs := by decide +kernel

def spFText : Sp := fun vs H Q _ => ∃ p : Addr, vs = [.ref p] ∧ Dr H p ∧ ∀ (t : List Nat) (H' : Hp), t.length ≤ 5 → (∀ c ∈ t, c < 128) → Kp p H H' → Q (.str (S t)) H'
def spWritten : Sp := fun vs H Q _ => ∃ (t : List Nat) (z : Str) (m : Bool), vs = [.str (S t), .str z, .bl m] ∧ t.length ≤ 1000 ∧ ∀ H' : Hp, Same H H' → Q (.str (S (Sep.enc t m))) H'
def mustM (sep : Nat) (t : List Nat) : Bool := decide (sep ∈ t) || decide (34 ∈ t) || decide (10 ∈ t)
def spMust : Sp := fun vs H Q _ => ∃ (t : List Nat) (sep : Nat), vs = [.str (S t), .str (S [sep])] ∧ Q (.bl (mustM sep t)) H

section
variable {P : Program} {w : World} {K : PySem.W.Frag} {mg : Str → Option Value} {base : Heap} {C fM fP : Addr}
theorem ok__law_field_text {f : Addr} {fd : FuncData} (F : Fun K "_law_field_text" "_law_field_text" s__law_field_text f fd) (T : Txt K mg C fM fP) (C__law_digit : Cal P w K mg base CX0 1 "_law_digit" spDigit) : FnOk P w K mg base CX0 2 f fd ["_law_state_here"] spFText := by
  refine F.ok sc__law_field_text (fun vs H Q E h => ?_) (fun cdv A outer s H vs Q E hr h => ?_)
  · obtain ⟨i, rfl, _⟩ := h
    rfl
  · obtain ⟨p, rfl, dr, k⟩ := h
    refine ⟨_, (pss_cons (ps_set (i := 1) sc__law_field_text.nd rfl (Or.inr rfl) pe_str)
  (pss_one (ps_ret (pe_join pe_str (pe_lc (own := [("_law_k", 2)]) (g := gName 2) rfl sc__law_field_text.nd (pi_range1 rfl T.n_range (pa_cons (pe_k C__law_digit hr (by decide) (by rfl) pass0 (pa_cons (pv 0) (pa_cons pe_int pa_nil))) pa_nil)) (blkOk_by (own := [("_law_k", 2)]) (N := sc__law_field_text_N) (sc := defScope s__law_field_text) (by decide +kernel)) (fun _ _ _ _ _ => pg_name (i := 2) sc__law_field_text.nd rfl (Or.inl rfl)) (fun _ _ _ _ _ => pts_nil) (fun _ _ _ _ _ => (pe_ix ix_str (pv 1) (pe_k C__law_digit hr (by decide) (by rfl) pass0 (pa_cons (pv 0) (pa_cons pe_int pa_nil))) (fun _ _ => rfl)))))))), ?_⟩
    refine ⟨⟨_, rfl⟩, _, rfl, p, _, rfl, dr, by decide, by decide, fun d H1 d0 d1 k1 => ?_⟩
    refine ⟨d, rfl, by omega, by omega, fun D hD => ?_⟩
    have hDH : H D = none := by
      obtain ⟨z, hz⟩ := dr
      cases e : H D with
      | none => rfl
      | some o =>
        by_cases hp : D = p
        · subst hp
          obtain ⟨_, y, hy⟩ := k1
          rw [hD] at hy; cases hy
        · rw [k1.1 D o hp e] at hD; cases hD
    refine lc_range (lo := 0) (n := d.toNat) (fun i H' => ∃ cs : List Nat, cs.length = i ∧ (∀ c ∈ cs, c < 128) ∧ Kp p H H' ∧ H' D = some (.lst (cs.map fun c => V.str (S [c]))))
      ⟨[], rfl, by simp, k1.new hD, upd_same⟩ (fun i H' hi ⟨cs, hl, hs, k2, hL⟩ => ?_) (fun H' ⟨cs, hl, hs, k2, hL⟩ => ?_)
    · refine ⟨rfl, _, rfl, _, rfl, p, _, rfl, k2.dr, by decide, by decide, fun e H2 e0 e1 k3 => ?_⟩
      obtain ⟨j, rfl⟩ : ∃ j : Nat, e = (j : Int) := ⟨e.toNat, by omega⟩
      have hj : j < signs.length := by show j < 11; omega
      have e4 : H2 D = some (.lst (cs.map fun c => V.str (S [c]))) := k3.1 D _ (by
        obtain ⟨z, hz⟩ := k2.dr
        exact ne_of hL hz (by intro q; injection q with q; cases cs <;> simp at q)) hL
      refine ⟨_, _, signs[j], rfl, rfl, by rw [c_signs, S_len]; decide, by rw [c_signs]; exact atS (List.getElem?_eq_getElem hj), _, e4, ?_, cs ++ [signs[j]], by rw [List.length_append, hl]; rfl, ?_, ?_, ?_⟩
      · rw [List.length_map]
        exact Nat.lt_of_lt_of_le (show cs.length < 100 by omega) (by decide)
      · intro c hc
        rcases List.mem_append.mp hc with h | h
        · exact hs c h
        · have e : c = signs[j] := by simpa using h
          rw [e]
          exact (by decide : ∀ c ∈ signs, c < 128) _ (List.getElem_mem hj)
      · exact (k2.trans k3).mut hDH dr
      · rw [upd_same, List.map_append]
        rfl
    · refine ⟨_, _, cs.map (fun c => S [c]), rfl, rfl, .inl (seqL ?_), ?_, ?_⟩
      · rw [List.map_map]; exact hL
      · rw [c_nil, List.map_map]
        have : ((fun x : Str => x.length) ∘ fun c => S [c]) = fun _ => 1 := by funext c; show (S [c]).length = 1; rw [S_len]; rfl
        rw [this, S_len, sum_ones]
        simp
        omega
      · have e5 : Txt.join (Str.ofString "") (cs.map fun c => S [c]) = S cs := by
          have := join_flat (cs.map fun c => [c])
          rw [List.map_map] at this
          rw [c_nil]
          refine this.trans ?_
          congr 2
          rw [← joinL_flat, joinL_nil]
        rw [e5]
        exact k _ _ (by omega) hs k2
theorem dbl_len : ∀ t : List Nat, (Sep.dbl t).length ≤ 2 * t.length
  | [] => by simp [Sep.dbl]
  | c :: t => by
    have := dbl_len t
    by_cases h : c = 34 <;> simp [Sep.dbl, h] <;> omega
theorem dbl_snoc (t : List Nat) (c : Nat) : Sep.dbl (t ++ [c]) = Sep.dbl t ++ (if c = 34 then [34, 34] else [c]) := by
  induction t with
  | nil => simp [Sep.dbl]
  | cons d t ih => simp [Sep.dbl, ih]
theorem ok__law_written {f : Addr} {fd : FuncData} (F : Fun K "_law_written" "_law_written" s__law_written f fd) (T : Txt K mg C fM fP) : FnOk P w K mg base CX0 1 f fd ["_law_text_here", "_law_separator", "_law_marked"] spWritten := by
  refine F.ok sc__law_written (fun vs H Q E h => ?_) (fun cdv A outer s H vs Q E hr h => ?_)
  · obtain ⟨_, _, _, rfl, _⟩ := h
    rfl
  · obtain ⟨t, z, m, rfl, hl, k⟩ := h
    refine ⟨_, (pss_cons (ps_if (pt_not (pt_val (pv 2))) (pss_one (ps_ret (pv 0))) pss_nil)
  (pss_one (ps_ret (pe_op op_add_str (pe_op op_add_str pe_str (pe_join pe_str (pe_lc (own := [("_law_sign", 3)]) (g := gName 3) rfl sc__law_written.nd (pi_str (pv 0)) (blkOk_by (own := [("_law_sign", 3)]) (N := sc__law_written_N) (sc := defScope s__law_written) (by decide +kernel)) (fun _ _ _ _ _ => pg_name (i := 3) sc__law_written.nd rfl (Or.inl rfl)) (fun _ _ _ _ _ => pts_nil) (fun _ _ _ _ _ => (pe_ifExp (pt_cmpR op_eq (pv 3) pe_str (nomark _)) pe_str (pv 3)))))) pe_str)))), ?_⟩
    refine ⟨_, rfl, m, rfl, ?_⟩
    cases m with
    | false => exact iteT ⟨_, rfl, k H (Same.refl H)⟩
    | true =>
      refine iteF ?_
      refine ⟨⟨_, rfl⟩, _, rfl, _, rfl, fun D hD => ?_⟩
      refine lc_it (walk_str (z := S t)) (fun i H' => ∃ ls : List (List Nat), ls.length = i ∧ ls.flatten = Sep.dbl (t.take i) ∧ Same H H' ∧ H' D = some (.lst (ls.map fun c => V.str (S c))) ∧ (ls.map fun x => x.length).sum ≤ 2 * i)
        ⟨[], rfl, rfl, same_new hD, upd_same, by simp⟩ (fun _ _ _ _ => trivial) (fun i x H' H2 hi ⟨ls, hl2, hf, s2, hL, hs⟩ ⟨e2, c, hc, ex⟩ => ?_) (fun H' ⟨ls, hl2, hf, s2, hL, hs⟩ => ?_)
      · subst e2 ex
        have hc2 : t[i]? = some c := by simpa using hc
        refine ⟨rfl, _, rfl, rfl, _, rfl, ?_⟩
        have hz : ls.length < sizeLine := by
          have : i < t.length := (List.getElem?_eq_some_iff.mp hc2).1
          exact Nat.lt_of_lt_of_le (show ls.length < 2000 by omega) (by decide)
        have ht : t.take (i + 1) = t.take i ++ [c] := by rw [List.take_add_one, hc2]; rfl
        rw [c_quote, S_eq]
        refine ite2 (fun h => ?_) (fun h => ?_)
        · have h34 : c = 34 := by simpa using of_decide_eq_true h
          refine ⟨_, hL, by rw [List.length_map]; exact hz, ls ++ [[34, 34]], by simp [hl2], by rw [ht, dbl_snoc, if_pos h34]; simp [hf], same_mut s2 hD, ?_, by simp; omega⟩
          rw [upd_same, List.map_append, c_quote2]
          rfl
        · have h34 : ¬ c = 34 := fun q => h (by rw [q]; rfl)
          refine ⟨_, rfl, _, hL, by rw [List.length_map]; exact hz, ls ++ [[c]], by simp [hl2], by rw [ht, dbl_snoc, if_neg h34]; simp [hf], same_mut s2 hD, ?_, by simp; omega⟩
          rw [upd_same, List.map_append]
          rfl
      · have hsz : (S t).cps.size = t.length := by simp
        rw [hsz] at hl2 hf hs
        rw [List.take_length] at hf
        have hb : (Sep.dbl t).length ≤ 2000 := by have := dbl_len t; omega
        refine ⟨_, _, ls.map S, rfl, rfl, .inl (seqL ?_), ?_, ?_⟩
        · rw [List.map_map]; exact hL
        · rw [SX.lens, c_nil, S_len]
          simp
          omega
        · have e5 : Txt.join (Str.ofString "") (ls.map S) = S (Sep.dbl t) := by rw [c_nil, join_flat, hf]
          rw [e5, c_quote]
          refine ⟨_, _, rfl, rfl, ?_, _, _, rfl, rfl, ?_, ?_⟩
          · rw [S_len, S_len]
            exact Nat.le_trans (show [34].length + (Sep.dbl t).length ≤ 10000 by simp; omega) (by decide)
          · rw [S_cat, S_len, S_len]
            exact Nat.le_trans (show ([34] ++ Sep.dbl t).length + [34].length ≤ 10000 by simp; omega) (by decide)
          · rw [S_cat, S_cat]
            have e6 : [34] ++ Sep.dbl t ++ [34] = Sep.enc t true := by simp [Sep.enc]
            rw [e6]
            exact k _ s2
theorem ok__law_must_mark {f : Addr} {fd : FuncData} (F : Fun K "_law_must_mark" "_law_must_mark" s__law_must_mark f fd) : FnOk P w K mg base CX0 1 f fd ["_law_text_here", "_law_separator"] spMust := by
  refine F.ok sc__law_must_mark (fun vs H Q E h => ?_) (fun cdv A outer s H vs Q E hr h => ?_)
  · obtain ⟨_, _, rfl, _⟩ := h
    rfl
  · obtain ⟨t, sep, rfl, k⟩ := h
    refine ⟨_, (pss_one (ps_ret (pe_or (pe_cmpR op_in_sign (pv 1) (pv 0) (by rfl)) (pe_or (pe_cmpR op_in_sign pe_str (pv 0) (by rfl)) (pe_one (pe_cmpR op_in_sign pe_str (pv 0) (by rfl))))))), ?_⟩
    have e1 : (S t).cps.toList = t := rfl
    refine ⟨_, rfl, _, rfl, sep, _, rfl, rfl, _, rfl, ?_⟩
    rw [e1]
    unfold mustM at k
    refine ite2 (fun h => ?_) (fun h => ?_)
    · rw [h] at k
      exact k
    · rw [Bool.not_eq_true _ |>.mp h, Bool.false_or] at k
      refine ⟨_, rfl, 34, _, congrArg V.str c_quote, rfl, _, rfl, ?_⟩
      rw [e1]
      refine ite2 (fun h => ?_) (fun h => ?_)
      · rw [h] at k
        exact k
      · rw [Bool.not_eq_true _ |>.mp h, Bool.false_or] at k
        exact ⟨_, rfl, 10, _, congrArg V.str c_nl, rfl, k⟩
end
end Sb
set_option Elab.async false
set_option maxRecDepth 100000
set_option maxHeartbeats 4000000
/-! Rules under a bound of the tokens that are out: n ≤ s.toks. -/
namespace Sb
open PySem PySem.Spec PyProof.Rows L2 SX
def PEn (n : Nat) (X : Cx) (e : Expr) (t : TE) : Prop := ∀ (pins : List (Addr × Obj)) (s : Shared) (σ : L2.St) (H : Hp) (Q : VK), n ≤ s.toks → Inv X pins σ H s → t σ H Q → wpAny (model X.prog X.w) X.A (eval e X.env) (EP X pins σ Q) X.xe s
def PTn (n : Nat) (X : Cx) (e : Expr) (t : TT) : Prop := ∀ (pins : List (Addr × Obj)) (s : Shared) (σ : L2.St) (H : Hp) (Q : Bool → Hp → Prop), n ≤ s.toks → Inv X pins σ H s → t σ H Q → wpAny (model X.prog X.w) X.A (isTrue e X.env (eval e X.env)) (TP X pins σ Q) X.xe s
def PAn (n : Nat) (X : Cx) (es : List Expr) (t : TA) : Prop := ∀ (pos : Pos) (pins : List (Addr × Obj)) (s : Shared) (σ : L2.St) (H : Hp) (Q : List V → Hp → Prop), n ≤ s.toks → Inv X pins σ H s → t σ H Q → wpAny (model X.prog X.w) X.A (spliced (backTo pos (starEach es X.env))) (AP X pins σ Q) X.xe s
def PSn (n : Nat) (X : Cx) (st : Stmt) (t : TS) : Prop := ∀ (pins : List (Addr × Obj)) (s : Shared) (σ : L2.St) (H : Hp) (D : Ends), n ≤ s.toks → Inv X pins σ H s → t D σ H → wpAny (model X.prog X.w) X.A (exec st X.env) (SP X pins D) X.xe s
def PSsn (n : Nat) (X : Cx) (st : List Stmt) (t : TS) : Prop := ∀ (pins : List (Addr × Obj)) (s : Shared) (σ : L2.St) (H : Hp) (D : Ends), n ≤ s.toks → Inv X pins σ H s → t D σ H → wpAny (model X.prog X.w) X.A (execs st X.env) (SP X pins D) X.xe s
/-- the bound stays -/
theorem tkm {α : Type} {M : Model} {A : Around} {t : Sem α} {Q : α → Shared → Prop} {E : Value → Shared → Prop} {s : Shared} {n : Nat} (hn : n ≤ s.toks) (h : wpAny M A t Q E s) : wpAny M A t (fun a s' => n ≤ s'.toks ∧ Q a s') E s :=
  wpAny_mono (PySem.wpAny_toks_of hn h) (fun _ _ z => z) fun _ _ z => z.2
section
variable {n : Nat} {X : Cx} {e f : Expr} {es : List Expr} {te tf : TE} {ta : TA} {pos : Pos}
theorem pen_of (h : PE X e te) : PEn n X e te := fun pins s σ H Q _ I q => h.run pins s σ H Q I q
theorem pan_of (h : PA X es ta) : PAn n X es ta := fun pos pins s σ H Q _ I q => h.run pos pins s σ H Q I q
theorem psn_of {st : Stmt} {t : TS} (h : PS X st t) : PSn n X st t := fun pins s σ H D _ I q => h.run pins s σ H D I q
theorem pssn_of {st : List Stmt} {t : TS} (h : PSs X st t) : PSsn n X st t := fun pins s σ H D _ I q => h.run pins s σ H D I q
theorem ptn_of {t : TT} (h : PT X e t) : PTn n X e t := fun pins s σ H Q _ I q => h.run pins s σ H Q I q
theorem pan_cons (ha : PEn n X e te) (hr : PAn n X es ta) (hs : starEach (e :: es) X.env = (false, eval e X.env) :: starEach es X.env := by rfl) : PAn n X (e :: es) (tCons te ta) := by
  intro pos pins s σ H Q h0 I h
  rw [hs]
  show wpAny _ _ (spliced ((false, eval e X.env) :: backTo pos (starEach es X.env))) _ _ s
  refine Calls.spliced_cons (thn (tkm h0 (ha pins s σ H _ h0 I h)) fun v s1 ⟨hk, x, H1, I1, r1, q1⟩ => ?_)
  exact thn (hr pos pins s1 σ H1 _ hk I1 q1) fun us s2 ⟨xs, H2, I2, r2, q2⟩ => ⟨x :: xs, H2, I2, .cons r1 r2, q2⟩
theorem pan_nil : PAn n X [] tNil := pan_of pa_nil
theorem pen_op {op : Operator} {r : R2} (ho : OpR X (binaryOp op) r) (ha : PEn n X e te) (hb : PEn n X f tf) : PEn n X (.BinOp e op f pos) (tOp r te tf) := by
  intro pins s σ H Q h0 I h
  refine wpAny_BinOp (thn (tkm h0 (ha pins s σ H _ h0 I h)) fun v s1 ⟨hk, x, H1, I1, r1, q1⟩ => ?_)
  exact thn (hb pins s1 σ H1 _ hk I1 q1) fun u s2 ⟨y, H2, I2, r2, q2⟩ => ho pins s2 σ H2 x y v u Q I2 r1 r2 q2
theorem pen_cmp {op : CmpOp} {r : R2} (ho : OpR X (compareOp op) r) (ha : PEn n X e te) (hb : PEn n X f tf) (hm : behindInMarks op f = false) : PEn n X (.Compare e [op] [f] pos) (tOp r te tf) := by
  intro pins s σ H Q h0 I h
  refine wpAny_Compare1 (thn (tkm h0 (ha pins s σ H _ h0 I h)) fun v s1 ⟨hk, x, H1, I1, r1, q1⟩ => ?_) hm
  exact thn (hb pins s1 σ H1 _ hk I1 q1) fun u s2 ⟨y, H2, I2, r2, q2⟩ => ho pins s2 σ H2 x y v u Q I2 r1 r2 q2
theorem ptn_cmp {op : CmpOp} {r : R2} (ho : OpR X (compareOp op) r) (ha : PEn n X e te) (hb : PEn n X f tf) (hm : behindInMarks op f = false) : PTn n X (.Compare e [op] [f] pos) (tTest (tOp r te tf)) := by
  intro pins s σ H Q h0 I h
  refine wpAny_isTrue_Compare1 (thn (tkm h0 (ha pins s σ H _ h0 I h)) fun v s1 ⟨hk, x, H1, I1, r1, q1⟩ => ?_) hm
  refine thn (hb pins s1 σ H1 _ hk I1 q1) fun u s2 ⟨y, H2, I2, r2, q2⟩ => ?_
  refine thn (ho pins s2 σ H2 x y v u _ I2 r1 r2 q2) fun c s3 ⟨z, H3, I3, r3, k, ez, q3⟩ => ?_
  subst ez
  cases r3
  exact wpAny_truthy_bool ⟨H3, I3, q3⟩
/-! ### statements -/
theorem psn_ret (he : PEn n X e te) : PSn n X (.Return (some e) pos) (tRet te) := by
  intro pins s σ H D h0 I h
  exact wpAny_Return_some (thn (he pins s σ H _ h0 I h) fun v s1 ⟨x, H1, I1, r1, q1⟩ => ⟨x, σ, H1, I1, r1, q1⟩)
theorem psn_expr (he : PEn n X e te) (hs : swapsWith e none pos.line X.env = pure false := by rfl) : PSn n X (.Expr e pos) (tDrop te) := by
  intro pins s σ H D h0 I h
  exact wpAny_Expr_any (thn (he pins s σ H _ h0 I h) fun v s1 ⟨x, H1, I1, r1, q1⟩ => ⟨σ, H1, I1, q1⟩) I.quiet hs
theorem psn_set {i : Nat} {x : Str} {pos' : Pos} (hN : X.N.Nodup) (hi : X.N[i]? = some x) (hx : Loc X.env.scope x) (he : PEn n X e te) (hs : swapsWith e (some (.Name x pos')) pos.line X.env = pure false := by rfl)
    (hf : X.fn x = true ∨ X.env.scope.names.lookup x = some .local := by first | exact .inl rfl | exact .inr rfl | assumption) : PSn n X (.Assign [.Name x pos'] e pos) (tAsg te (gName i)) := by
  intro pins s σ H D h0 I h
  refine wpAny_Assign_Name (thn (he pins s σ H _ h0 I h) fun v s1 ⟨y, H1, I1, r1, q1⟩ => ?_) hs
  exact store_ok I1 hN hi hx r1 (fun s2 I2 => ⟨_, H1, I2, q1⟩) hf
theorem psn_if {c : Expr} {a b : List Stmt} {tc : TT} {t u : TS} (hc : PTn n X c tc) (ha : PSsn n X a t) (hb : PSsn n X b u) : PSn n X (.If c a b pos) (tIfS tc t u) := by
  intro pins s σ H D h0 I h
  refine wpAny_If (thn (tkm h0 (hc pins s σ H _ h0 I h)) fun d s1 ⟨hk, H1, I1, q1⟩ => ?_)
  cases d with
  | true => exact ha pins s1 σ H1 D hk I1 q1
  | false => exact hb pins s1 σ H1 D hk I1 q1
theorem pssn_nil : PSsn n X [] tNext := pssn_of pss_nil
theorem pssn_cons {st : Stmt} {rest : List Stmt} {t u : TS} (h1 : PSn n X st t) (h2 : PSsn n X rest u) : PSsn n X (st :: rest) (tSeq t u) := by
  intro pins s σ H D h0 I h
  refine wpAny_execs_cons (thn (tkm h0 (h1 pins s σ H { D with nx := u D } h0 I h)) fun fl s1 ⟨hk, q⟩ => ?_)
  cases fl with
  | next =>
    obtain ⟨σ', H', I', q⟩ := q
    exact h2 pins s1 σ' H' D hk I' q
  | ret v => exact q
  | brk => exact q
  | cont => exact q
theorem pssn_one {st : Stmt} {t : TS} (h : PSn n X st t) : PSsn n X [st] t := by
  intro pins s σ H D h0 I q
  refine wpAny_execs_cons (thn (h pins s σ H D h0 I q) fun fl s1 q => ?_)
  cases fl with
  | next => exact wpAny_execs_nil q
  | ret v => exact q
  | brk => exact q
  | cont => exact q
/-- a statement with several ways through -/
theorem pssn_cut {st : Stmt} {rest : List Stmt} {t u : TS} (h1 : PSn n X st t) (h2 : PSsn n X rest u) : PSsn n X (st :: rest) (C8.tCut t u) := by
  intro pins s σ H D h0 I h
  obtain ⟨Mid, h, k⟩ := h
  refine wpAny_execs_cons (thn (tkm h0 (h1 pins s σ H { D with nx := Mid } h0 I h)) fun fl s1 ⟨hk, q⟩ => ?_)
  cases fl with
  | next =>
    obtain ⟨σ', H', I', q⟩ := q
    exact h2 pins s1 σ' H' D hk I' (k σ' H' q)
  | ret v => exact q
  | brk => exact q
  | cont => exact q
theorem psn_for {tg iter : Expr} {body : List Stmt} {wi : TI} {g : TG} {tb : TS} (hp : PassesOwn (model X.prog X.w) X.A X.env X.xe) (hc : X.calm = true) (hi : PI X tg iter wi) (hg : PG X tg g) (hb : PSsn n X body tb)
    (hs : ∀ x, foldedSetIterable iter X.env x = pure x := by intro _; rfl) : PSn n X (.For tg iter body [] pos) (tFor wi g tb) := by
  intro pins s σ H D h0 I h
  refine wpAny_For (thn (tkm h0 (hi.run pins s σ H _ I h)) fun v s1 ⟨k1, h1⟩ => thn (tkm k1 h1) fun itv s2 ⟨k2, h2⟩ => ?_) hs
  obtain ⟨it, fp, tn, J, H2, e, I2, T, st2, f2, W, ⟨m0, w0⟩, turn⟩ := h2
  subst e
  have stat : ∀ {H' : Hp}, (∀ b ∈ fp, H' b = none) → ∀ b ∈ fp, FpOk X pins H' b := fun hn b hb => ⟨hn b hb, (f2 b hb).2⟩
  refine codeAny_forLoop_any (fun m s' => n ≤ s'.toks ∧ ∃ i σ' H', Inv X pins σ' H' s' ∧ tn i s'.heap ∧ (∀ b ∈ fp, H' b = none) ∧ W i m σ' H') ?_ m0 ⟨k2, 0, σ, H2, I2, st2, fun b hb => (f2 b hb).1, w0⟩
  rintro m s3 ⟨k3, i, σ3, H3, I3, st3, fr3, w3⟩
  rcases turn i m σ3 H3 w3 with ⟨stop, qn⟩ | ⟨go, Nx, hN, step⟩
  · refine wpAny_passesOwn hp (thn (T.done X rfl rfl rfl hc i pins s3 σ3 H3 X.xe I3 (stat fr3) st3 stop) fun r s4 ⟨hr, I4⟩ => ?_)
    subst hr
    exact wpAny_execs_nil ⟨σ3, H3, I4, qn⟩
  · refine wpAny_passesOwn hp (thn (tkm k3 (T.item X rfl rfl rfl hc i pins s3 σ3 H3 X.xe I3 (stat fr3) st3 go)) fun r s4 ⟨k4, u, hr, h4⟩ => ?_)
    subst hr
    refine wpAny_passesOwn hp (thn (tkm k4 h4) fun _ s5 ⟨k5, x, H5, I5, r5, y5, st5, fr5⟩ => ?_)
    have I5' := I5.pinned (stat fr5) (T.obj _ _ st5)
    refine wpAny_passesOwn hp (thn (tkm k5 (hg.run _ s5 σ3 H5 x u _ I5' r5 (step x H5 y5))) fun _ s6 ⟨k6, σ6, H6, I6, q6⟩ => ?_)
    refine wpAny_passesOwn hp (thn (tkm k6 (hb _ s6 σ6 H6 _ k6 I6 q6)) fun fl s7 ⟨k7, q7⟩ => ?_)
    have again : ∀ {σ7 : L2.St} {H7 : Hp}, Inv X (pins ++ pinsAt fp s5.heap) σ7 H7 s7 → Nx σ7 H7 → ∃ m', m' < m ∧ (n ≤ s7.toks ∧ ∃ i σ' H', Inv X pins σ' H' s7 ∧ tn i s7.heap ∧ (∀ b ∈ fp, H' b = none) ∧ W i m' σ' H') := fun {σ7 H7} I7 n7 => by
      obtain ⟨m', hm, w7⟩ := hN σ7 H7 n7
      refine ⟨m', hm, k7, i + 1, σ7, H7, I7.unpinned, T.keep _ _ _ st5 fun b hb o e => (I7.pin (b, o) (List.mem_append_right _ (List.mem_append_right _ (mem_pinsAt hb e)))).1, fun b hb => ?_, w7⟩
      obtain ⟨o, e, d⟩ := T.obj _ _ st5 b hb
      exact (I7.pin (b, o) (List.mem_append_right _ (List.mem_append_right _ (mem_pinsAt hb e)))).2.1
    cases fl with
    | next => obtain ⟨σ7, H7, I7, n7⟩ := q7; exact again I7 n7
    | cont => obtain ⟨σ7, H7, I7, n7⟩ := q7; exact again I7 n7
    | brk => obtain ⟨σ7, H7, I7, q7⟩ := q7; exact ⟨σ7, H7, I7.unpinned, q7⟩
    | ret v => obtain ⟨x7, σ7, H7, I7, r7, q7⟩ := q7; exact ⟨x7, σ7, H7, I7.unpinned, r7, q7⟩
/-! ### methods -/
theorem pen_bm {o : Expr} {to : TE} {id T : String} {name : Str} {r : V → List V → Hp → VK → Prop} {apos cpos : Pos} (pa : PlainAttrs T) (slot : Slot T name id) (hty : typeOf (.builtin id) = pure (.type "method_descriptor")) (hm : MtR X id r) (ho : PE X o to) (ha : PAn n X (e :: es) ta)
    (hbase : attributeBase o name X.env (eval o X.env) = eval o X.env := by rfl)
    (hfew : ((backTo cpos (starEach (e :: es) X.env)).all (fun x => !x.1) && (backToKw cpos (keywordEach [] X.env)).all (fun x => x.1.isSome)
      && decide ((e :: es).length + ([] : List Keyword).length + (if ([] : List Keyword).isEmpty then 0 else 1) < 30)) = true := by rfl)
    (hline : (apos.endLine == cpos.line) = true := by rfl) (hs : starEach (e :: es) X.env = (false, eval e X.env) :: starEach es X.env := by rfl) (hplain : (backTo cpos (starEach es X.env)).any (·.1) = false := by rfl) :
    PEn n X (.Call (.Attribute o name apos) (e :: es) [] cpos) (tBM X.K T r to ta) := by
  intro pins s σ H Q h0 I h
  refine wpAny_Call_method_late hbase hfew hline rfl (thn (tkm h0 (ho.run pins s σ H _ I h)) fun v s1 ⟨hk, x, H1, I1, r1, ty, q1⟩ => ?_)
  obtain ⟨h1, h2⟩ := tyV_is I1 r1 ty
  refine ⟨T, id, pa, slot, hty, h1, h2, ?_⟩
  have hA := ha cpos pins s1 σ H1 _ hk I1 q1
  rw [hs] at hA ⊢
  refine Calls.callWith_builtin (by show (false || (backTo cpos (starEach es X.env)).any (·.1)) = false; rw [hplain] <;> rfl) (Calls.evalArgs_plain ?_)
  exact thn hA fun us s2 ⟨vs, H2, I2, r2, q2⟩ => hm pins s2 σ H2 x vs v us Q I2 r1 r2 q2
theorem pen_m1 {o : Expr} {to : TE} {id : String} {name : Str} {apos : Pos} {r : V → List V → Hp → VK → Prop} (slot : Slot "str" name id) (ty : typeOf (.builtin id) = pure (.type "method_descriptor")) (rule : MtR X id r) (ho : PE X o to) (he : PEn n X e te)
    (hs : starEach [e] X.env = [(false, eval e X.env)] := by rfl) (hbase : attributeBase o name X.env (eval o X.env) = eval o X.env := by rfl) (hline : (apos.endLine == pos.line) = true := by rfl) :
    PEn n X (.Call (.Attribute o name apos) [e] [] pos) (tM1 r to te) := by
  intro pins s σ H Q h0 I h
  refine PySem.Call_method1 hbase hs hline (thn (tkm h0 (ho.run pins s σ H _ I h)) fun v s1 ⟨hk, x, H1, I1, r1, q1⟩ => ?_)
  obtain ⟨⟨a, rfl⟩, q1⟩ := q1
  obtain ⟨t, rfl⟩ := _root_.id r1
  refine ⟨"str", _, F.plainAttrs_str, slot, ty, typeIs_str _ _ _, (fun _ e => nomatch e), Calls.callWith_builtin rfl (Calls.evalArgs_plain (Calls.spliced_cons ?_))⟩
  exact thn (he pins s1 σ H1 _ hk I1 q1) fun u s2 ⟨y, H2, I2, r2, q2⟩ => Calls.spliced_nil (rule pins s2 σ H2 _ [y] _ [u] Q I2 r1 (.cons r2 .nil) q2)
end
/-! ### defs -/
structure FnN (n : Nat) (P : Program) (w : World) (K : PySem.W.Frag) (mg : Str → Option Value) (base : Heap) (CX : CXT) (k : Nat) (f : Addr) (fd : FuncData) (ps : List Str) (sp : Sp) : Prop where
  len : ∀ vs H Q E, sp vs H Q E → vs.length = ps.length
  run : ∀ (A : Around) (outer : List Env) (s : Shared) (H : Hp) (args : Args) (us : List Value) (vs : List V) (Q : VK) (E : XK), n ≤ s.toks → Room k A → Env0 P w K mg base A outer s H → BindsTo s fd args (ps.zip us) → Vals vs us → sp vs H Q E →
    codeAny (model P w) A (.call (.ref f) args) (CR CX outer P w H s Q E) s
theorem fn_ofN {n : Nat} {CX : CXT} {P : Program} {w : World} {K : PySem.W.Frag} {mg : Str → Option Value} {base : Heap} {k : Nat} {f : Addr} {name qual : Str} {params : Arguments} {body : List Stmt} {scope : Scope} {dV kV doc pm cdv ct oc : Value} {an od : Option Addr}
    {osl : Array (Option Value)} {N ps : List Str} {sp : Sp} (lk : K.lookup f = some ⟨oc, od, .func (PySem.W.fnOf name qual params body scope dV kV doc pm an cdv ct), osl⟩) (hcd : PySem.W.codeIn K cdv qual = true) (S : FnScope N ps scope)
    (len : ∀ vs H Q E, sp vs H Q E → vs.length = ps.length)
    (hbody : ∀ (A : Around) (outer : List Env) (s : Shared) (H : Hp) (vs : List V) (Q : VK) (E : XK), Room k (A.deeper (envOfC qual scope s.heap.objs.size f cdv)) → sp vs H Q E →
      ∃ t, PSsn n (cxOf CX P w K mg base N qual scope f cdv A outer s H E) body t ∧ t { nx := fun _ H' => Q .non H', rt := Q } (L2.start N vs) H) :
    FnN n P w K mg base CX (k + 1) f (PySem.W.fnOf name qual params body scope dV kV doc pm an cdv ct) ps sp := by
  refine ⟨len, fun A outer s H args us vs Q E h0 hr e0 hb r hsp => ?_⟩
  have hl := len _ _ _ _ hsp
  have KX : K.In s.heap := e0.mod.kin.keeps fun b o e => (e0.bs b o e).1
  have lim : s.heap.NoLimit := e0.mod.nolimit.keeps fun b o e => (e0.bs b o e).1
  have hkind : ∀ y ∈ ps.zip us, scope.names.lookup y.1 = some .local ∨ (scope.names.lookup y.1 = some .cell ∧ ((cellsFrom (s.heap.objs.size + 1) scope.names []).lookup y.1).isSome = true) := fun ⟨n, v⟩ hy => by
    rcases S.par n (List.of_mem_zip hy).1 with q | q
    · exact .inl q
    · exact .inr ⟨q, PySem.W.cellsFrom_some _ _ _ (.inl q)⟩
  refine codeAny_call_function hr.depth (KX _ _ lk) rfl S.co S.gen rfl (PySem.W.codeRec_of KX hcd) (hb _ _ _ _ ?_)
  refine thn (tkm h0 (wpAny_newFunctionEnv_cells (Q := fun env s1 => env = newEnv scope s.heap.objs.size mainGlobals (cellsFrom (s.heap.objs.size + 1) scope.names []) (qual ++ ".<locals>.") (some f) cdv none builtinsNs ∧ InCallC s env.locals (bindL env.kindOf (ps.zip us) fun _ => none) env.cells (bindC env.kindOf (ps.zip us) fun _ => none) s1) S.kind hkind fun env he s1 x => ⟨he, x⟩)) fun env s1 ⟨hk, he, x⟩ => ?_
  subst he
  refine ⟨lim.keeps x.toInCall.keep, codeAny_func ?_⟩
  obtain ⟨t, ht, hq⟩ := hbody A outer s H vs Q E (hr.deeper _) hsp
  have I : Inv (cxOf CX P w K mg base N qual scope f cdv A outer s H E) [] (L2.start N vs) H s1 := inv_start S hr.hd e0 hl r x
  refine wpAny_mono (ht [] s1 (L2.start N vs) H _ hk I hq) (fun fl s' hs => ?_) fun e s' hs => hs
  have fin : ∀ {σ' : L2.St} {H' : Hp} {v : V} {u : Value}, Inv (cxOf CX P w K mg base N qual scope f cdv A outer s H E) [] σ' H' s' → RelV v u → Q v H' → CE outer P w H s Q u s' :=
    fun {σ' H' v u} J rv q => ⟨v, H', J.os, J.bare, J.base, J.hok, rv, q⟩
  cases fl with
  | ret u =>
    obtain ⟨v, σ', H', J, rv, q⟩ := hs
    exact fin J rv q
  | next =>
    obtain ⟨σ', H', J, q⟩ := hs
    exact fin (v := V.non) (u := Value.none) J rfl q
  | brk =>
    obtain ⟨_, _, _, q⟩ := hs
    exact False.elim q
  | cont =>
    obtain ⟨_, _, _, q⟩ := hs
    exact False.elim q
theorem pssn_nox {n : Nat} {X : Cx} {st : List Stmt} {t : TS} (h : PSsn n X.nox st t) : PSsn n X st t := fun pins s σ H D h0 I hw =>
  wpAny_mono (h pins s σ H D h0 (I.wish _) hw) (fun _ _ q => q.unwish) fun _ _ z => False.elim z
section
variable {P : Program} {w : World} {K : PySem.W.Frag} {mg : Str → Option Value} {base : Heap}
theorem okN {n : Nat} {x qual : Str} {st : Stmt} {f : Addr} {fd : FuncData} {N ps : List Str} {k : Nat} {sp : Sp} (F : Fun K x qual st f fd) (S : FnScope N ps (defScope st)) (len : ∀ vs H Q E, sp vs H Q E → vs.length = ps.length)
    (hbody : ∀ (cdv : Value) (A : Around) (outer : List Env) (s : Shared) (H : Hp) (vs : List V) (Q : VK) (E : XK), Room k (A.deeper (envOfC qual (defScope st) s.heap.objs.size f cdv)) → sp vs H Q E →
      ∃ t, PSsn n (cxOf CX0 P w K mg base N qual (defScope st) f cdv A outer s H E).nox (defBody st) t ∧ t { nx := fun _ H' => Q .non H', rt := Q } (L2.start N vs) H) : FnN n P w K mg base CX0 (k + 1) f fd ps sp := by
  obtain ⟨oc, od, kV, doc, pm, an, cdv, ct, osl, rfl, lk, hcd⟩ := F.ex
  refine fn_ofN lk hcd S len fun A outer s H vs Q E hr hsp => ?_
  obtain ⟨t, h, q⟩ := hbody cdv A outer s H vs Q E hr hsp
  exact ⟨t, pssn_nox h, q⟩
theorem okND {n : Nat} {CX : CXT} {x qual : Str} {params : Arguments} {body : List Stmt} {scope : Scope} {dvs : List V} {kws : List (Str × V)} {f : Addr} {fd : FuncData} {N ps : List Str} {k : Nat} {sp : Sp} (F : FunD K x qual params body scope dvs kws f fd) (S : FnScope N ps scope) (len : ∀ vs H Q E, sp vs H Q E → vs.length = ps.length)
    (hbody : ∀ (cdv : Value) (A : Around) (outer : List Env) (s : Shared) (H : Hp) (vs : List V) (Q : VK) (E : XK), Room k (A.deeper (envOfC qual scope s.heap.objs.size f cdv)) → sp vs H Q E →
      ∃ t, PSsn n (cxOf CX P w K mg base N qual scope f cdv A outer s H E).nox body t ∧ t { nx := fun _ H' => Q .non H', rt := Q } (L2.start N vs) H) : FnN n P w K mg base CX (k + 1) f fd ps sp := by
  obtain ⟨oc, od, dV, kV, doc, pm, an, cdv, ct, osl, rfl, lk, hcd, _, _⟩ := F.ex
  refine fn_ofN lk hcd S len fun A outer s H vs Q E hr hsp => ?_
  obtain ⟨t, h, q⟩ := hbody cdv A outer s H vs Q E hr hsp
  exact ⟨t, pssn_nox h, q⟩
end
/-- a def under the bound that may be called by its name -/
structure CalN (n : Nat) (P : Program) (w : World) (K : PySem.W.Frag) (mg : Str → Option Value) (base : Heap) (CX : CXT) (k : Nat) (x : Str) (sp : Sp) : Prop where
  ex : ∃ (f : Addr) (fd : FuncData) (ps : List Str), FnN n P w K mg base CX k f fd ps sp ∧ mg x = some (.ref f) ∧ PySem.W.keepIn K (.ref f) = true ∧ Binds K fd ps []
section
variable {n : Nat} {X : Cx} {CX : CXT} {k : Nat} {f : Addr} {fd : FuncData} {ps : List Str} {ds : List Value} {dvs : List V} {sp : Sp} {E : XK} {x : Str} {p pos : Pos} {e : Expr} {es : List Expr} {t : TA}
theorem FnN.mono {P : Program} {w : World} {K : PySem.W.Frag} {mg : Str → Option Value} {base : Heap} {j : Nat} (F : FnN n P w K mg base CX j f fd ps sp) (h : j ≤ k) : FnN n P w K mg base CX k f fd ps sp :=
  ⟨F.len, fun A outer s H args us vs Q E h0 hr => F.run A outer s H args us vs Q E h0 (hr.mono h)⟩
theorem run_fnN {pins : List (Addr × Obj)} {σ : L2.St} {H : Hp} {s : Shared} {Q : VK} {us : List Value} {vs : List V} (F : FnN n X.prog X.w X.K X.mg X.base CX k f fd ps sp) (h0 : n ≤ s.toks) (hr : Room k X.A) (hb : Binds X.K fd ps ds) (hd : Vals dvs ds) (hx : Passes CX X E)
    (I : Inv X pins σ H s) (r : Vals vs us) (h : sp (vs ++ dvs) H Q E) : wpAny (model X.prog X.w) X.A (call (.ref f) us) (EP X pins σ Q) X.xe s := by
  have r2 : Vals (vs ++ dvs) (us ++ ds) := r.append hd
  have hl : (us ++ ds).length = ps.length := by rw [← r2.length]; exact F.len _ _ _ _ h
  refine wpAny_call (codeAny_mono (F.run X.A X.stack s H ⟨us, []⟩ (us ++ ds) (vs ++ dvs) Q E h0 hr I.env0 (hb s us I.kIn hl) r2 h) fun r s' hq => ?_)
  cases r with
  | error e => exact hx pins σ H s e s' I hq
  | ok fl =>
    cases fl with
    | ret u => exact I.after hq
    | next => exact False.elim hq
    | brk => exact False.elim hq
    | cont => exact False.elim hq
theorem pen_call (F : FnN n X.prog X.w X.K X.mg X.base CX k f fd ps sp) (hr : Room k X.A) (hg : Gl X x) (hm : X.mg x = some (.ref f)) (hk : PySem.W.keepIn X.K (.ref f) = true) (hb : Binds X.K fd ps ds) (hd : Vals dvs ds) (hx : Passes CX X E)
    (ha : PAn n X (e :: es) t) (hdb : (x == ("__debug__" : Str)) = false := by decide) (he : starEach (e :: es) X.env = (false, eval e X.env) :: starEach es X.env := by rfl) (hpl : (backTo pos (starEach es X.env)).any (·.1) = false := by rfl) :
    PEn n X (.Call (.Name x p) (e :: es) [] pos) (tCall sp dvs E t) := by
  intro pins s σ H Q h0 I h
  refine wpAny_Call_Name_kw (ld_glob I hg hm ?_ hdb)
  refine PySem.W.callWith_K (h₀ := X.base) I.ok.mod.kin hk (thn (tkm h0 (ha pos pins s σ H _ h0 I h)) fun us s1 ⟨h1, vs, H1, I1, r, q⟩ => ⟨I1.kIn, ?_⟩) he hpl
  exact run_fnN F h1 hr hb hd hx I1 r q
theorem pen_k {j : Nat} (c : CalN n X.prog X.w X.K X.mg X.base CX k x sp) (hr : Room j X.A) (hk : k ≤ j) (hg : Gl X x) (hx : Passes CX X E) (ha : PAn n X (e :: es) t)
    (hdb : (x == ("__debug__" : Str)) = false := by decide) (he : starEach (e :: es) X.env = (false, eval e X.env) :: starEach es X.env := by rfl) (hpl : (backTo pos (starEach es X.env)).any (·.1) = false := by rfl) :
    PEn n X (.Call (.Name x p) (e :: es) [] pos) (tCall sp [] E t) := by
  obtain ⟨f, fd, ps, F, hm, kp, b⟩ := c.ex
  exact pen_call F (hr.mono hk) hg hm kp b .nil hx ha hdb he hpl
end
section
variable {n' : Nat} {X : Cx} {CX : CXT} {k n : Nat} {f : Addr} {fd : FuncData} {ps ks : List Str} {sp : Sp} {E : L2.St → XK} {x : Str} {p pos : Pos} {e : Expr} {es : List Expr} {kws : List Keyword} {t tk : TA} {g : List Value → List Value → List Value} {gV : List V → List V → List V}
/-- f(e, .., k = v, ..) under the bound -/
theorem pen_callNS (F : FnN n' X.prog X.w X.K X.mg X.base CX k f fd ps sp) (hr : Room k X.A) (hg : Gl X x) (hm : X.mg x = some (.ref f)) (hk : PySem.W.keepIn X.K (.ref f) = true) (hb : KBn X.K fd ps n ks g gV) (hx : ∀ σ, PassesAt CX X σ (E σ))
    (ha : PA X (e :: es) t) (hkw : PK X kws tk) (hall : (backToKw pos (keywordEach kws X.env)).all (·.1.isSome) = true := by rfl) (hks : (backToKw pos (keywordEach kws X.env)).filterMap (·.1) = ks := by rfl)
    (hdb : (x == ("__debug__" : Str)) = false := by decide) (he : starEach (e :: es) X.env = (false, eval e X.env) :: starEach es X.env := by rfl)
    (hpl : ((backTo pos (starEach (e :: es) X.env)).any (·.1) || (backToKw pos (keywordEach kws X.env)).any (·.1.isNone)) = false := by rfl) :
    PEn n' X (.Call (.Name x p) (e :: es) kws pos) (tCallNS n ks.length sp gV E t tk) := by
  intro pins s σ H Q h0 I h
  refine wpAny_Call_Name_kw (ld_glob I hg hm ?_ hdb)
  refine PySem.W.callWith_KW (h₀ := X.base) I.ok.mod.kin hk hall (thn (tkm h0 (ha.run pos pins s σ H _ I h)) fun us s1 ⟨h1, vs, H1, I1, r, q⟩ => ?_) hpl he
  refine thn (tkm h1 (hkw.run pos pins s1 σ H1 _ I1 q)) fun ws s2 ⟨h2, zs, H2, I2, rz, l1, l2, q2⟩ => ⟨I2.kIn, ?_⟩
  rw [hks]
  have r2 := hb.rel r rz
  refine wpAny_call (codeAny_mono (F.run X.A X.stack s2 H2 ⟨us, ks.zip ws⟩ (g us ws) (gV vs zs) Q (E σ) h2 hr I2.env0 (hb.to s2 us ws I2.kIn (r.length.symm.trans l1) (rz.length.symm.trans l2)) r2 q2) fun r s' hq => ?_)
  cases r with
  | error e => exact hx σ pins H2 s2 e s' I2 hq
  | ok fl =>
    cases fl with
    | ret u => exact I2.after hq
    | next => exact False.elim hq
    | brk => exact False.elim hq
    | cont => exact False.elim hq
end
end Sb
set_option Elab.async false
set_option maxRecDepth 100000
set_option maxHeartbeats 4000000
/-! A list comprehension whose item wants the bound of the tokens (after LcX). -/
namespace Sb
open PySem PySem.Spec PyProof.Rows L2
open HandSPX (FlyingZ HeldZ TracedZ Steady)
section
variable {X : Cx} {pins : List (Addr × Obj)} {σ : L2.St} {H : Hp} {s : Shared}
theorem lc_coreN {b0 : Nat} {Q : VK} {elt tg iter : Expr} {ifs : List Expr} {sc : Scope} {own : List (Str × Nat)} {pos pos' : Pos} {wi : TI} {g : TG} {tt : TT} {te : TE} {use : Option (Value → Sem Unit)} {Qf : Value → Shared → Prop} {W : WX} {E : XK}
    (hc : X.calm = true) (hN : X.N.Nodup) (hst : X.stack = X.env :: X.outer) (hfr : X.env.frame = some X.env.locals) (tk : Takes X W) (h0 : b0 ≤ s.toks) (I : Inv X pins σ H s) (hW : ∀ cls d J, E cls d J → W cls d σ J) (hi : PI X tg iter wi) (ok : BlkOk X.N X.env.scope sc own)
    (hg : ∀ xe s H C cl fp, PG (blkW X xe s H sc (compEnvC sc cl C X.env) fp) tg g) (ht : ∀ xe s H C cl fp, PTs (blkW X xe s H sc (compEnvC sc cl C X.env) fp) ifs tt)
    (he : ∀ xe s H C cl fp, Passes (L2.CX X.prog X.w) (blkW X xe s H sc (compEnvC sc cl C X.env) fp) E → PEn b0 (blkW X xe s H sc (compEnvC sc cl C X.env) fp) elt te) (hs : ∀ x, foldedSetIterable iter X.env x = pure x)
    (h : tLc wi g tt te (own.map (·.2)) σ H Q)
    (hRR : ∀ D C s' m H', Inv X pins σ H' s' → Q (.ref D) H' → s'.heap.Ns C m → FpOk X pins H' C → compPost (model X.prog X.w) X.A X.xe use Qf (.ref D) C (.ok .next) s') :
    wpAny (model X.prog X.w) X.A (comprehension (.ListComp elt [⟨tg, iter, ifs, 0⟩] sc pos) sc X.env pos' (newList []) false (eval iter X.env) use) Qf X.xe s := by
  have free : ∀ y ∈ sc.names, y.2 = .free → ∃ c, X.env.cells.lookup y.1 = some c := fun y m z => (ok.free y m z).elim (fun k => I.ok.has _ (.inl k)) fun k => I.ok.has _ (.inr k)
  refine comp_runX (use := use) rfl hs (closure_ok free) ok.kind (fun y m z => (ok.uniq y m).trans (by rw [z])) (thn (tkm h0 (hi.run pins s σ H _ I h)) fun xv s1 ⟨k1, hx⟩ => thn (tkm k1 hx) fun itv s2 ⟨k2, h2⟩ => ?_)
  obtain ⟨it, fp, tn, J, H2, rfl, I2, T, t2, f2, q⟩ := h2
  refine wpAny_newObj_type (newEnv_comp ?_) (by show 0 ≤ sizeLine; decide)
  obtain ⟨D, hD⟩ : ∃ D, D = s2.heap.objs.size := ⟨_, rfl⟩
  rw [← hD]
  obtain ⟨W0, ⟨m0, w0⟩, turn⟩ := q D (I2.hok.fresh (Nat.le_of_eq hD.symm))
  obtain ⟨s3, hs3⟩ : ∃ s3 : Shared, s3 = { s2 with heap := s2.heap.push { cls := .type "list", data := .seq ([] : List Value).toArray } } := ⟨_, rfl⟩
  have h3 : s3.heap = s2.heap.push { cls := .type "list", data := .seq ([] : List Value).toArray } := by rw [hs3]
  rw [← hs3]
  have I3 : Inv X pins σ (upd H2 D (.lst [])) s3 := by
    rw [hs3]
    exact I2.laid (t' := s2.toks) (fun b o z => Heap.get?_push_of_some _ z) (Nat.le_of_eq hD.symm) ⟨Nat.zero_le _, [], 0, .nil, by rw [hD]; exact Heap.get?_push_size _ rfl⟩
  have f3 : ∀ b ∈ fp, FpOk X pins (upd H2 D (.lst [])) b ∧ b < s3.heap.objs.size := fun b hb => by
    obtain ⟨o, z, _⟩ := T.obj _ _ t2 b hb
    have lt := Heap.lt_size z
    exact ⟨⟨(upd_ne (by rw [hD]; exact Nat.ne_of_lt lt)).trans (f2 b hb).1, (f2 b hb).2⟩, by rw [h3, Heap.size_push]; exact Nat.lt_succ_of_lt lt⟩
  have t3 : tn 0 s3.heap := T.keep _ _ _ t2 fun b _ o z => by rw [h3]; exact Heap.get?_push_of_some _ z
  have I4' := block_start I3 ok hN f3
  obtain ⟨C, hC⟩ : ∃ C, C = s3.heap.objs.size := ⟨_, rfl⟩
  obtain ⟨cl, hcl⟩ : ∃ cl, cl = cellsFrom (C + 1) sc.names (cloFrom X.env.cells sc.names []) := ⟨_, rfl⟩
  rw [← hC, ← hcl] at I4'
  obtain ⟨ce, hce⟩ : ∃ ce, ce = compEnvC sc cl C X.env := ⟨_, rfl⟩
  obtain ⟨s4, hs4⟩ : ∃ s4 : Shared, s4 = { s3 with heap := pushCells (s3.heap.push { cls := .type "dict", data := .dict #[] }) sc.names } := ⟨_, rfl⟩
  rw [← hs4, ← hce] at I4'
  show codeAny _ _ (.compStart _ 0 (.ref it) (.ref D) (compEnvC sc (cellsFrom (s3.heap.objs.size + 1) sc.names (cloFrom X.env.cells sc.names [])) s3.heap.objs.size X.env)) (endX (model X.prog X.w) X.A X.xe use Qf (.ref D) (compEnvC sc (cellsFrom (s3.heap.objs.size + 1) sc.names (cloFrom X.env.cells sc.names [])) s3.heap.objs.size X.env)) { s3 with heap := pushCells (s3.heap.push { cls := .type "dict", data := .dict #[] }) sc.names }
  rw [← hC, ← hcl, ← hce, ← hs4]
  have cL : ce.locals = C := by rw [hce]; rfl
  have cF : ce.frame = some X.env.locals := by rw [hce]; exact hfr
  have fpn : ∀ b ∈ fp, (upd H2 D (.lst [])) b = none := fun b hb => (f3 b hb).1.1
  obtain ⟨H3, hH3⟩ : ∃ H3, H3 = upd H2 D (.lst []) := ⟨_, rfl⟩
  rw [← hH3] at I3 I4' f3 w0 fpn
  -- back in the def
  have home : ∀ {xe : Value → Shared → Prop} {pp : List (Addr × Obj)} {σ' : L2.St} {H' : Hp} {s' : Shared}, Inv (blkW X xe s3 H3 sc ce fp) pp σ' H' s' → Inv X pins σ H' s' := fun I' =>
    I3.call' (ch := fp) I'.os I'.base I'.hok I'.bare fun b hb => ⟨(f3 b hb).1.2.2.2.1, (f3 b hb).1.2.1, (f3 b hb).1.2.2.2.2.1, (f3 b hb).1.2.2.2.2.2⟩
  have nCs : C ∉ frs X.stack := fun z => by
    obtain ⟨_, o, r, _⟩ := I3.stack.mem z
    have := Heap.lt_size r
    rw [hC] at this
    exact absurd this (Nat.lt_irrefl _)
  have fpC : ∀ {H' : Hp}, H' C = none → FpOk X pins H' C := fun z => I3.fpOk (by rw [hC]; exact Nat.le_refl _) z
  obtain ⟨R, hR⟩ : ∃ R, R = endX (model X.prog X.w) X.A X.xe use Qf (.ref D) ce := ⟨_, rfl⟩
  rw [← hR]
  obtain ⟨xe, hxe⟩ : ∃ xe, xe = notedBy (model X.prog X.w) X.A ce (fun e s' => R (.error e) s') := ⟨_, rfl⟩
  have I4 : Inv (blkW X xe s3 H3 sc ce fp) [] (wipe σ (own.map (·.2))) H3 s4 := I4'.wish xe
  -- a call's exception
  have pass : Passes (L2.CX X.prog X.w) (blkW X xe s3 H3 sc ce fp) E := by
    intro pp σ' H' s' e s'' I' cx
    obtain ⟨a, B, t, J', cls, d, rfl, It, nb, up, fl, ja, os, ag, w, kp⟩ := air_of (home I') cx
    obtain ⟨mC, oC, es, ep, gC, dC, rC⟩ : ∃ m, s'.heap.Ns C m := by
      obtain ⟨m, n, _⟩ := I'.loc
      have n : s'.heap.Ns ce.locals m := n
      rw [cL] at n
      exact ⟨m, n⟩
    have hfC : H' C = none := by
      have z : H' ce.locals = none := I'.free
      rw [cL] at z
      exact z
    obtain ⟨bC, jC⟩ := kp C oC gC hfC nCs
    have kC : s''.heap.get? C = some oC := fl.1 C oC bC
    have nd : ∀ vs, oC.data ≠ .fields vs := fun vs z => by rw [dC] at z; cases z
    rw [hxe]
    show wpAny _ _ (noteFrame (.ref a) ce) _ _ _
    rw [note_same (u := X.env) (by rw [cF, hfr])]
    have hfrA : X.A.frames = some (X.env :: X.outer) := by rw [I.ok.frames, hst]
    have fl' : FlyingZ B (X.env :: X.outer) a (Zc cls d) s''.heap := by rw [← hst]; exact fl
    refine sky_noted (L := X.env.locals) Zc.steady hfrA hfr (.inr (.inl fl')) fun h1 hh up1 => ?_
    obtain ⟨sl, k1⟩ := up1 C oC kC nd
    rw [← hst] at hh
    rw [hR]
    refine ⟨mC, by rw [cL]; exact ⟨_, es, ep, k1, dC, rC⟩, fun h2 sb => ?_⟩
    rw [cL] at sb
    exact handed_on (s' := { s'' with heap := h1 }) tk It (fpC jC) nCs cF nb (up.trans up1) hh k1 nd ja os ag (hW _ _ _ w) sb
  have pg := hg xe s3 H3 C cl fp
  have pt := ht xe s3 H3 C cl fp
  have pe := he xe s3 H3 C cl fp (by rw [← hce]; exact pass)
  rw [← hce] at pg pt pe
  have t4 : tn 0 s4.heap := T.keep _ _ _ t3 fun b _ o z => by rw [hs4]; exact pushCells_keeps _ _ _ _ (Heap.get?_push_of_some _ z)
  have stat : ∀ {σ' : L2.St} {H' : Hp} {s' : Shared}, Inv (blkW X xe s3 H3 sc ce fp) [] σ' H' s' → (∀ b ∈ fp, H' b = none) → ∀ b ∈ fp, FpOk (blkW X xe s3 H3 sc ce fp) [] H' b := fun {σ' H' s'} I' n b hb =>
    ⟨n b hb, (I'.ok.exf b hb).1, I'.ok.exfs b hb, .inl hb, fun x c z => (I'.ok.exf b hb).2 x c z, fun p hp => absurd (show p ∈ ([] : List (Addr × Obj)) ++ [] from hp) (by simp)⟩
  have loop : codeAny (model X.prog X.w) X.A (.compLoop (.ListComp elt [⟨tg, iter, ifs, 0⟩] sc pos) 0 (.ref it) (.ref D) ce) R s4 := by
    have k4 : b0 ≤ s4.toks := by rw [hs4, hs3]; exact k2
    refine compLoop_any (fun n s' => b0 ≤ s'.toks ∧ ∃ i H', Inv (blkW X xe s3 H3 sc ce fp) [] (wipe σ (own.map (·.2))) H' s' ∧ tn i s'.heap ∧ (∀ b ∈ fp, H' b = none) ∧ W0 i n H') ?_ m0 ⟨k4, 0, H3, I4, t4, fpn, w0⟩
    rw [← hxe]
    rintro n s5 ⟨k5, i, H5, I5, t5, n5, v5⟩
    rcases turn i n H5 v5 with ⟨stop, qd⟩ | ⟨go, Nx, kNx, step⟩
    · refine thnF (T.done (blkW X xe s3 H3 sc ce fp) rfl rfl rfl hc i [] s5 _ H5 (fun _ _ => False) I5 (stat I5 n5) t5 stop) fun r s6 ⟨hr, I6⟩ => ?_
      subst hr
      obtain ⟨m, hn, _⟩ := I6.loc
      have nC : H5 C = none := by
        have z : H5 ce.locals = none := I6.free
        rw [cL] at z
        exact z
      have hn : s6.heap.Ns ce.locals m := hn
      show R (.ok .next) s6
      rw [hR]
      show compPost _ _ _ _ _ _ ce.locals _ _
      rw [cL] at hn ⊢
      exact hRR D C s6 m H5 (home I6) qd hn (fpC nC)
    · refine thnF (tkm k5 (T.item (blkW X xe s3 H3 sc ce fp) rfl rfl rfl hc i [] s5 _ H5 (fun _ _ => False) I5 (stat I5 n5) t5 go)) fun r s6 ⟨k6, u, hr, h6⟩ => ?_
      subst hr
      refine thnF (tkm k6 h6) fun _ s7 ⟨k7, x, H7, I7, r7, y7, t7, n7⟩ => ?_
      have I7' := I7.pinned (stat I7 n7) (T.obj _ _ t7)
      refine thn (tkm k7 (pg.run _ s7 _ H7 x u _ I7' r7 (step x H7 y7))) fun _ s8 ⟨k8, σ8, H8, I8, wp8, q8⟩ => ?_
      refine thn (tkm k8 (pt.run _ s8 σ8 H8 _ I8 q8)) fun b s9 ⟨k9, H9, I9, p9⟩ => ?_
      have fin : ∀ {s' : Shared} {H' : Hp}, b0 ≤ s'.toks → Inv (blkW X xe s3 H3 sc ce fp) ([] ++ pinsAt fp s7.heap) σ8 H' s' → Nx H' → ∃ m, m < n ∧ b0 ≤ s'.toks ∧ ∃ i H', Inv (blkW X xe s3 H3 sc ce fp) [] (wipe σ (own.map (·.2))) H' s' ∧ tn i s'.heap ∧ (∀ b ∈ fp, H' b = none) ∧ W0 i m H' := fun {s' H'} ks I' nx => by
        obtain ⟨m', hm, w'⟩ := kNx H' nx
        have at_ : ∀ b ∈ fp, ∀ o, s7.heap.get? b = some o → s'.heap.get? b = some o ∧ H' b = none := fun b hb o z =>
          let y := I'.pin (b, o) (List.mem_append_right _ (List.mem_append_right _ (mem_pinsAt hb z)))
          ⟨y.1, y.2.1⟩
        have len8 : (wipe σ (own.map (·.2))).length = σ8.length := by rw [← wp8, wipe_length]
        refine ⟨m', hm, ks, i + 1, H', (I'.unpinned (pins := [])).weak len8 (fun j v z => (wipe_some (by rw [← wp8] at z; exact z)).1), T.keep _ _ _ t7 fun b hb o z => (at_ b hb o z).1, fun b hb => ?_, w'⟩
        obtain ⟨o, z, _⟩ := T.obj _ _ t7 b hb
        exact (at_ b hb o z).2
      cases b with
      | false =>
        simp only [Bool.false_eq_true, if_false] at p9 ⊢
        exact fin k9 I9 p9
      | true =>
        simp only [if_true] at p9 ⊢
        refine thn (tkm k9 (pe _ s9 σ8 H9 _ k9 I9 p9)) fun z s10 ⟨k10, yv, H10, I10, r10, acc, hD10, hz10, nx⟩ => ?_
        exact thn (tkm k10 (app_ok (X := blkW X xe s3 H3 sc ce fp) (Q := fun _ s' => Inv (blkW X xe s3 H3 sc ce fp) ([] ++ pinsAt fp s7.heap) σ8 (upd H10 D (.lst (acc ++ [yv]))) s') I10 hD10 hz10 r10 fun s11 I11 => I11)) fun _ s11 ⟨k11, I11⟩ => fin k11 I11 nx
  exact codeAny_compStart_list loop (T.self X.A 0 _ _ _ t4 loop)
/-- [..], what its item's calls let out goes on -/
theorem pen_lc {b0 : Nat} {elt tg iter : Expr} {ifs : List Expr} {sc : Scope} {own : List (Str × Nat)} {pos : Pos} {wi : TI} {g : TG} {tt : TT} {te : TE} {W : WX} {E : XK}
    (hc : X.calm = true) (hN : X.N.Nodup) (hst : X.stack = X.env :: X.outer) (hfr : X.env.frame = some X.env.locals) (tk : Takes X W) (hW : ∀ cls d σ J, E cls d J → W cls d σ J) (hi : PI X tg iter wi) (ok : BlkOk X.N X.env.scope sc own)
    (hg : ∀ xe s H C cl fp, PG (blkW X xe s H sc (compEnvC sc cl C X.env) fp) tg g) (ht : ∀ xe s H C cl fp, PTs (blkW X xe s H sc (compEnvC sc cl C X.env) fp) ifs tt)
    (he : ∀ xe s H C cl fp, Passes (L2.CX X.prog X.w) (blkW X xe s H sc (compEnvC sc cl C X.env) fp) E → PEn b0 (blkW X xe s H sc (compEnvC sc cl C X.env) fp) elt te) (hs : ∀ x, foldedSetIterable iter X.env x = pure x := by intro _; rfl) :
    PEn b0 X (.ListComp elt [⟨tg, iter, ifs, 0⟩] sc pos) (tLc wi g tt te (own.map (·.2))) := by
  intro pins s σ H Q h0 I h
  rw [eval_ListComp]
  refine lc_coreN hc hN hst hfr tk h0 I (fun cls d J z => hW cls d σ J z) hi ok hg ht he hs h fun D C s' m H' I' q hn f => ⟨m, hn, fun h2 sb => ?_⟩
  exact ⟨.ref D, H', I'.turned (t' := s'.toks) (fun b o hb z => (sb.2 b hb).trans z) f.1 f.2.1 f.2.2.2.1 f.2.2.2.2.1 f.2.2.2.2.2, rfl, q⟩
end
end Sb
set_option Elab.async false
set_option maxRecDepth 100000
set_option maxHeartbeats 4000000
/-! text.replace(MARK, MARK + MARK), str.zfill over codes. -/
namespace Sb
open PySem PySem.Spec PyProof.Rows L2 SX
theorem add_fresh {prog : Program} {w : World} {A : Around} {E : Value → Shared → Prop} {s : Shared} {x y : Str} {t u : Tok} {Q : Value → Shared → Prop} (hx : (x.length == 0) = false) (hy : (y.length == 0) = false) (hz : x.length + y.length ≤ sizeLine)
    (h : Q (.str (x ++ y) s.toks) { s with toks := s.toks + 1 }) : wpAny (model prog w) A (binaryOp .Add (.str x t) (.str y u)) Q E s := by
  refine PySem.P.add_str ?_
  rw [hx, hy]
  simp only [Bool.false_eq_true, if_false]
  exact ⟨by rw [Str.length_append]; exact hz, h⟩
/-- o.replace(m, m + m), m a text of the module whose token lies below the bound -/
theorem pen_repl {n tM : Nat} {X : Cx} {o : Expr} {to : TE} {mk y : Str} {p1 p2 p3 p4 apos pos : Pos} (hg : Gl X mk) (hm : X.mg mk = some (.str y tM)) (h1 : tM ≠ 0) (h2 : tM < n) (hy : (y.length == 0) = false) (hyz : (y == y ++ y) = false) (hys : y.length + y.length ≤ 100) (ho : PE X o to)
    (hst : starEach [.Name mk p1, .BinOp (.Name mk p2) .Add (.Name mk p3) p4] X.env = [(false, eval (.Name mk p1) X.env), (false, eval (.BinOp (.Name mk p2) .Add (.Name mk p3) p4) X.env)] := by rfl)
    (hbase : attributeBase o "replace" X.env (eval o X.env) = eval o X.env := by rfl) (hline : (apos.endLine == pos.line) = true := by rfl) (hdb : (mk == ("__debug__" : Str)) = false := by decide) :
    PEn n X (.Call (.Attribute o "replace" apos) [.Name mk p1, .BinOp (.Name mk p2) .Add (.Name mk p3) p4] [] pos) (CwR.tReplC to y (y ++ y)) := by
  intro pins s σ H Q h0 I h
  refine PySem.Call_method2 hbase hst hline (thn (tkm h0 (ho.run pins s σ H _ I h)) fun v s1 ⟨hk, v', H1, I1, r1, x, e1, hb, q⟩ => ?_)
  subst e1
  obtain ⟨tx, e2⟩ := r1
  subst e2
  refine ⟨"str", _, PySem.F.plainAttrs_str, PySem.F.slot_str_replace, PySem.F.type_str_replace, typeIs_str _ _ _, (fun _ e => nomatch e), Calls.callWith_builtin rfl (Calls.evalArgs_plain (Calls.spliced_cons ?_))⟩
  refine ld_glob I1 hg hm (Calls.spliced_cons (wpAny_BinOp (ld_glob I1 hg hm (ld_glob I1 hg hm ?_ hdb) hdb))) hdb
  refine add_fresh hy hy (Nat.le_trans hys (by decide)) (Calls.spliced_nil ?_)
  exact PySem.SC.replace h1 (by show s1.toks ≠ 0; omega) (by show tM ≠ s1.toks; omega) hyz hb fun t' k => ⟨.str (Txt.replace x y (y ++ y)), H1, I1.tok k, ⟨t', rfl⟩, q⟩
theorem repl_dbl : ∀ t : List Nat, PySem.StrLaws.replL [34] [34, 34] t = Sep.dbl t
  | [] => PySem.StrLaws.replL_nil
  | c :: r => by
    by_cases h : c = 34
    · subst h
      rw [PySem.StrLaws.replL_hit (by simp) (by simp)]
      show [34, 34] ++ PySem.StrLaws.replL [34] [34, 34] r = (if 34 = 34 then [34, 34] else [34]) ++ Sep.dbl r
      rw [repl_dbl r]
      rfl
    · rw [PySem.StrLaws.replL_miss (by simpa using h), repl_dbl r]
      show c :: Sep.dbl r = (if c = 34 then [34, 34] else [c]) ++ Sep.dbl r
      rw [if_neg h]
      rfl
theorem replace_dbl (t : List Nat) : Txt.replace (S t) (S [34]) (S [34] ++ S [34]) = S (Sep.dbl t) := by
  have h := PySem.StrLaws.replace_list (x := S t) (y := S [34]) (z := S [34] ++ S [34]) (by decide)
  have e : (S [34] ++ S [34]).cps.toList = [34, 34] := by rw [S_cat]; rfl
  rw [e] at h
  have h : (Txt.replace (S t) (S [34]) (S [34] ++ S [34])).cps.toList = PySem.StrLaws.replL [34] [34, 34] t := h
  rw [repl_dbl] at h
  rw [← h]
end Sb
set_option Elab.async false
set_option maxRecDepth 100000
set_option maxHeartbeats 4000000
namespace Sb
open PySem PySem.Spec PyProof.Rows L2 SX
abbrev s_decimal_text : Stmt := top 14
abbrev sc_decimal_text_N : List Str := ["number", "size", "text"]
theorem sc_decimal_text : FnScope sc_decimal_text_N ["number"] (defScope s_decimal_text) := ⟨rfl, rfl, rfl, by decide +kernel, rfl, by decide +kernel, by decide +kernel⟩
abbrev s_written_value : Stmt := top 20
abbrev sc_written_value_N : List Str := ["value", "kind"]
theorem sc_written_value : FnScope sc_written_value_N ["value", "kind"] (defScope s_written_value) := ⟨rfl, rfl, rfl, by decide +kernel, rfl, by decide +kernel, by decide +kernel⟩
abbrev s__law_put : Stmt := top 63
abbrev sc__law_put_N : List Str := ["_law_text_here", "_law_separator"]
theorem sc__law_put : FnScope sc__law_put_N ["_law_text_here", "_law_separator"] (defScope s__law_put) := ⟨rfl, rfl, rfl, by decide +kernel, rfl, by decide +kernel, by decide +kernel⟩
theorem zfill_pad {m : Nat} (h : m < 10000) : Txt.zfill (S (digs m)) 4 = S (pad0 4 m) := by
  have hl := digs_le (n := m) (k := 4) (by decide) (by omega)
  unfold Txt.zfill pad0
  rw [S_len]
  by_cases h4 : (4 : Int) ≤ ((digs m).length : Int)
  · rw [if_pos h4, show 4 - (digs m).length = 0 by omega]
    rfl
  · rw [if_neg h4]
    obtain ⟨c, r, hd⟩ : ∃ c r, digs m = c :: r := by
      cases hh : digs m with
      | nil => exact absurd hh (digs_ne m)
      | cons c r => exact ⟨c, r, rfl⟩
    have hc := isd_of (digs_isd m) c (by rw [hd]; exact List.mem_cons_self)
    have e : PySem.zfilled (S (digs m)) ((4 : Int).toNat - (digs m).length) = Builtin.Str.padded (S (digs m)) (4 - (digs m).length) 0 48 := by
      unfold PySem.zfilled
      have e0 : (S (digs m)).cps[0]? = some c := by rw [hd]; rfl
      rw [e0]
      split
      · rename_i q; injection q with q; omega
      · rename_i q; injection q with q; omega
      · rfl
    rw [e]
    unfold Builtin.Str.padded
    have : (Array.replicate (4 - (digs m).length) 48 ++ (S (digs m)).cps ++ Array.replicate 0 48) = (List.replicate (4 - (digs m).length) 48 ++ digs m).toArray := by
      rw [← Array.toList_inj]
      simp
    rw [this]
theorem rest_zero {m : Nat} : dropEnd 48 (pad0 4 m) = [] ↔ m = 0 := by
  constructor
  · intro h
    have e := end_back 48 (pad0 4 m)
    rw [h, List.nil_append] at e
    have := pad0_num 4 m
    rw [e, zeros_num] at this
    exact this.symm
  · intro h
    subst h
    decide +kernel
def spVal : Sp := fun vs H Q _ => ∃ (k : Kd) (v : V), vs = [v, .str (kdS k)] ∧ CellW k v ∧ ∀ H', Same H H' → Q (.str (S (valT k v))) H'
section
variable {P : Program} {w : World} {K : PySem.W.Frag} {mg : Str → Option Value} {base : Heap} {C fM fP CC IT fCI : Addr}
theorem ok_decimal_text {f : Addr} {fd : FuncData} (F : Fun K "decimal_text" "decimal_text" s_decimal_text f fd) (T : Txt K mg C fM fP) (gONE : ∃ u, mg "ONE" = some u ∧ RelV (.int 10000) u) : FnOk P w K mg base CX0 1 f fd ["number"] spDecT := by
  refine F.ok sc_decimal_text (fun vs H Q E h => ?_) (fun cdv A outer s H vs Q E hr h => ?_)
  · obtain ⟨_, rfl, _⟩ := h
    rfl
  · obtain ⟨n, rfl, hb, k⟩ := h
    refine ⟨_, (pss_cons (ps_set (i := 1) sc_decimal_text.nd rfl (Or.inl rfl) (pe_callB call_abs (by rfl) T.n_abs (by decide +kernel) (pa_cons (pv 0) pa_nil)))
  (pss_cons (ps_set (i := 2) sc_decimal_text.nd rfl (Or.inl rfl) (pe_callTy call_str_int (by rfl) T.n_str (by decide +kernel) (pa_cons (pe_op op_fdiv (pv 1) (C8.pe_gc (by rfl) gONE)) pa_nil)))
  (C8.pss_cut (ps_if (pt_cmpR op_ne (pe_op op_mod (pv 1) (C8.pe_gc (by rfl) gONE)) pe_int (nomark _)) (pss_one (ps_set (i := 2) sc_decimal_text.nd rfl (Or.inl rfl) (pe_op op_add_str (pe_op op_add_str (pv 2) pe_str) (pe_bm PySem.F.plainAttrs_str PySem.F.slot_str_rstrip PySem.F.type_str_rstrip mt_rstripChars (pe_bm PySem.F.plainAttrs_str PySem.F.slot_str_zfill PySem.F.type_str_zfill mt_zfill (pe_callTy call_str_int (by rfl) T.n_str (by decide +kernel) (pa_cons (pe_op op_mod (pv 1) (C8.pe_gc (by rfl) gONE)) pa_nil)) (pa_cons pe_int pa_nil)) (pa_cons pe_str pa_nil))))) pss_nil)
  (pss_cons (ps_if (pt_cmpR op_lt (pv 0) pe_int (nomark _)) (pss_one (ps_ret (pe_op op_add_str pe_str (pv 2)))) pss_nil)
  (pss_one (ps_ret (pv 2))))))), ?_⟩
    have hb : n.natAbs ≤ 1000000000000000 := hb
    refine ⟨_, rfl, _, rfl, ?_⟩
    have ea : (if n < 0 then -n else n) = ((n.natAbs : Nat) : Int) := by
      by_cases h : n < 0
      · rw [if_pos h]; omega
      · rw [if_neg h]; omega
    rw [ea]
    obtain ⟨a, ha⟩ : ∃ a, a = n.natAbs := ⟨_, rfl⟩
    rw [← ha] at hb ⊢
    have q1 : ((a : Nat) : Int) / 10000 = ((a / 10000 : Nat) : Int) := by omega
    have q2 : ((a : Nat) : Int) % 10000 = ((a % 10000 : Nat) : Int) := by omega
    have hk : a % 10000 < 10000 := Nat.mod_lt _ (by decide)
    refine ⟨_, rfl, _, _, rfl, rfl, ⟨by decide, by decide⟩, _, rfl, ?_, ?_⟩
    · rw [q1]
      exact Nat.lt_trans (log_big (n := ((a / 10000 : Nat) : Int)) (by show a / 10000 < 2 ^ 64; omega)) (by decide)
    rw [q1, str_nat]
    obtain ⟨R, hR⟩ : ∃ R, R = dropEnd 48 (pad0 4 (a % 10000)) := ⟨_, rfl⟩
    have hpl := pad0_len (w := 4) (n := a % 10000) (by decide) hk
    have hRl : R.length ≤ 4 := by
      have := congrArg List.length (end_back 48 (pad0 4 (a % 10000)))
      rw [List.length_append, hpl, ← hR] at this
      omega
    obtain ⟨Z, hZ⟩ : ∃ Z, Z = digs (a / 10000) ++ (if R = [] then [] else 46 :: R) := ⟨_, rfl⟩
    have hdl := digs_le (n := a / 10000) (k := 12) (by decide) (by omega)
    refine ⟨fun σ' H' => σ' = [some (.int n), some (.int (a : Int)), some (.str (S Z))] ∧ H' = H, ?_, ?_⟩
    · refine ⟨_, rfl, _, _, rfl, rfl, (by show (0 : Int) < 10000; decide), rfl, _, rfl, ?_⟩
      show if (!decide (V.int ((a : Int) % 10000) = V.int 0)) = true then _ else _
      rw [q2, v_int]
      by_cases hz : a % 10000 = 0
      · rw [decide_eq_true (by omega)]
        have hR0 : R = [] := by rw [hR]; exact rest_zero.mpr hz
        rw [if_pos hR0, List.append_nil] at hZ
        rw [hZ]
        exact iteF ⟨rfl, rfl⟩
      · rw [decide_eq_false (by omega)]
        have hR0 : ¬ R = [] := fun z => hz (rest_zero.mp (by rw [← hR]; exact z))
        rw [if_neg hR0] at hZ
        refine iteT ⟨_, rfl, _, _, rfl, rfl, by rw [c_dot, S_len, S_len]; exact lt_sz (by show _ + 1 ≤ 200000; omega), _, rfl, _, _, rfl, rfl, (by show (0 : Int) < 10000; decide), _, rfl, ?_, rfl, _, _, rfl, rfl, by decide, rfl, _, _, rfl, rfl, ?_, _, _, rfl, rfl, ?_, ?_⟩
        · rw [q2]
          exact Nat.lt_trans (log_big (n := ((a % 10000 : Nat) : Int)) (by show a % 10000 < 2 ^ 64; omega)) (by decide)
        · rw [q2, str_nat, zfill_pad hk, S_len, hpl]
          exact lt_sz (by decide)
        · rw [q2, str_nat, zfill_pad hk, c_zero, rstrip_S, ← hR, c_dot, S_cat, S_len, S_len, List.length_append]
          exact lt_sz (by show _ + 1 + _ ≤ 200000; omega)
        · rw [q2, str_nat, zfill_pad hk, c_zero, rstrip_S, ← hR, c_dot, S_cat, S_cat, hZ]
          have e : digs (a / 10000) ++ [46] ++ R = digs (a / 10000) ++ 46 :: R := by simp
          rw [e]
          exact ⟨rfl, rfl⟩
    rintro _ H ⟨rfl, rfl⟩
    have hdec : decT n = (if n < 0 then [45] else []) ++ Z := by
      unfold decT
      simp only
      rw [← ha, ← hR, ← hZ]
    rw [hdec] at k
    have hZl : Z.length ≤ 17 := by
      rw [hZ, List.length_append]
      split
      · simp; omega
      · rw [List.length_cons]; omega
    refine ⟨_, rfl, _, _, rfl, rfl, _, rfl, ?_⟩
    by_cases h : n < 0
    · rw [decide_eq_true h]
      rw [if_pos h] at k
      refine iteT ⟨_, rfl, _, _, rfl, rfl, by rw [c_dash, S_len, S_len]; exact lt_sz (by show 1 + _ ≤ 200000; omega), ?_⟩
      rw [c_dash, S_cat]
      exact k
    · rw [decide_eq_false h]
      rw [if_neg h] at k
      exact iteF ⟨_, rfl, k⟩
theorem ok_written_value {f : Addr} {fd : FuncData} (F : Fun K "written_value" "written_value" s_written_value f fd) (T : Txt K mg C fM fP) (C_decimal_text : Cal P w K mg base CX0 1 "decimal_text" spDecT) (C_date_text : Cal P w K mg base CX0 4 "date_text" spDateText) :
    FnOk P w K mg base CX0 5 f fd ["value", "kind"] spVal := by
  refine F.ok sc_written_value (fun vs H Q E h => ?_) (fun cdv A outer s H vs Q E hr h => ?_)
  · obtain ⟨_, _, rfl, _⟩ := h
    rfl
  · obtain ⟨kd, v, rfl, hv, k⟩ := h
    refine ⟨_, (pss_cons (ps_if (pt_cmpR op_eq (pv 1) pe_str (nomark _)) (pss_one (ps_ret (pe_ifExp (pt_truth (pv 0) (by intro _; rfl)) pe_str pe_str))) pss_nil)
  (pss_cons (ps_if (pt_cmpR op_eq (pv 1) pe_str (nomark _)) (pss_one (ps_ret (pe_callTy call_str_int (by rfl) T.n_str (by decide +kernel) (pa_cons (pv 0) pa_nil)))) pss_nil)
  (pss_cons (ps_if (pt_cmpR op_eq (pv 1) pe_str (nomark _)) (pss_one (ps_ret (pe_k C_date_text hr (by decide) (by rfl) pass0 (pa_cons (pv 0) pa_nil)))) pss_nil)
  (pss_cons (ps_if (pt_cmpR op_eq (pv 1) pe_str (nomark _)) (pss_one (ps_ret (pe_k C_decimal_text hr (by decide) (by rfl) pass0 (pa_cons (pv 0) pa_nil)))) pss_nil)
  (pss_one (ps_ret (pv 0))))))), ?_⟩
    refine ⟨_, rfl, rfl, _, rfl, ?_⟩
    rw [kd_is kd "bool" .bool rfl]
    cases kd with
    | bool =>
      obtain ⟨b, rfl⟩ := hv
      refine iteT ⟨_, rfl, b, rfl, ?_⟩
      have c1 : Str.ofString "true" = S tTrue := by decide +kernel
      have c2 : Str.ofString "false" = S tFalse := by decide +kernel
      rw [c1, c2]
      cases b with
      | true => exact iteT (k _ same_refl)
      | false => exact iteF (k _ same_refl)
    | int =>
      obtain ⟨n, rfl, hn⟩ := hv
      refine iteF ⟨_, rfl, rfl, _, rfl, ?_⟩
      rw [kd_is .int "int" .int rfl]
      refine iteT ⟨_, rfl, _, rfl, Nat.lt_trans (log_big (Nat.lt_of_le_of_lt hn (by decide))) (by decide), ?_⟩
      rw [str_int]
      exact k _ same_refl
    | date =>
      obtain ⟨d, rfl, hd⟩ := hv
      refine iteF ⟨_, rfl, rfl, _, rfl, ?_⟩
      rw [kd_is .date "int" .int rfl]
      refine iteF ⟨_, rfl, rfl, _, rfl, ?_⟩
      rw [kd_is .date "date" .date rfl]
      exact iteT ⟨_, rfl, d, rfl, day_ok hd, k⟩
    | dec =>
      obtain ⟨n, rfl, hn⟩ := hv
      refine iteF ⟨_, rfl, rfl, _, rfl, ?_⟩
      rw [kd_is .dec "int" .int rfl]
      refine iteF ⟨_, rfl, rfl, _, rfl, ?_⟩
      rw [kd_is .dec "date" .date rfl]
      refine iteF ⟨_, rfl, rfl, _, rfl, ?_⟩
      rw [kd_is .dec "decimal" .dec rfl]
      exact iteT ⟨_, rfl, n, rfl, hn, k _ same_refl⟩
    | text =>
      obtain ⟨t, rfl, ht⟩ := hv
      refine iteF ⟨_, rfl, rfl, _, rfl, ?_⟩
      rw [kd_is .text "int" .int rfl]
      refine iteF ⟨_, rfl, rfl, _, rfl, ?_⟩
      rw [kd_is .text "date" .date rfl]
      refine iteF ⟨_, rfl, rfl, _, rfl, ?_⟩
      rw [kd_is .text "decimal" .dec rfl]
      exact iteF ⟨_, rfl, k _ same_refl⟩
def markP (sep : Nat) (t : List Nat) : Bool := decide (t = []) || mustM sep t
def spPut : Sp := fun vs H Q _ => ∃ (t : List Nat) (sep : Nat), vs = [.str (S t), .str (S [sep])] ∧ t.length ≤ 1000 ∧ ∀ H' : Hp, Same H H' → Q (.str (S (Sep.enc t (markP sep t)))) H'
theorem ok__law_put {f : Addr} {fd : FuncData} (F : Fun K "_law_put" "_law_put" s__law_put f fd) (C__law_written : Cal P w K mg base CX0 1 "_law_written" spWritten) (C__law_must_mark : Cal P w K mg base CX0 1 "_law_must_mark" spMust) : FnOk P w K mg base CX0 2 f fd ["_law_text_here", "_law_separator"] spPut := by
  refine F.ok sc__law_put (fun vs H Q E h => ?_) (fun cdv A outer s H vs Q E hr h => ?_)
  · obtain ⟨_, _, rfl, _⟩ := h
    rfl
  · obtain ⟨t, sep, rfl, hl, k⟩ := h
    refine ⟨_, (pss_one (ps_ret (pe_k C__law_written hr (by decide) (by rfl) pass0 (pa_cons (pv 0) (pa_cons (pv 1) (pa_cons (pe_or (pe_cmpR op_eq (pv 0) pe_str (nomark _)) (pe_one (pe_k C__law_must_mark hr (by decide) (by rfl) pass0 (pa_cons (pv 0) (pa_cons (pv 1) pa_nil))))) pa_nil)))))), ?_⟩
    refine ⟨_, rfl, _, rfl, _, rfl, rfl, ?_⟩
    refine ⟨_, rfl, ?_⟩
    rw [c_nil, S_eq]
    unfold markP at k
    refine ite2 (fun h => ?_) (fun h => ?_)
    · rw [h, Bool.true_or] at k
      exact ⟨t, S [sep], true, rfl, hl, k⟩
    · have h : decide (t = []) = false := by simpa using h
      rw [h, Bool.false_or] at k
      exact ⟨_, rfl, _, rfl, t, sep, rfl, t, S [sep], mustM sep t, rfl, hl, k⟩
/-- what is written for a value -/
def fldW (sep : Nat) (k : Kd) (v : V) : List Nat × Bool := if v = .non then ([], false) else (valT k v, markP sep (valT k v))
def rowF (sep : Nat) : List Colm → List V → List (List Nat × Bool)
  | c :: cs, v :: vs => fldW sep c.kind v :: rowF sep cs vs
  | _, _ => []
def CellN (c : Colm) (v : V) : Prop := (v = .non ∧ c.nl = true) ∨ CellW c.kind v
def RowN (cs : List Colm) (row : List V) : Prop := row.length = cs.length ∧ ∀ (i : Nat) (c : Colm) (v : V), cs[i]? = some c → row[i]? = some v → CellN c v
def encV (fs : List (List Nat × Bool)) : List V := fs.map fun p => V.str (S (Sep.enc p.1 p.2))
def PairAt (H : Hp) (p : Addr) (c : Colm) : Prop := H p = some (.tup [.str (S c.name), .str (kdS c.kind)])
def spWF : Sp := fun vs H Q _ => ∃ (t : List Nat) (sep : Nat), vs = [.str (S t), .str (S [sep])] ∧ t.length ≤ 1000 ∧ Q (.str (S (Sep.enc t (markP sep t)))) H
def spWRow : Sp := fun vs H Q _ => ∃ (a r : Addr) (sep : Nat) (ps : List Addr) (cs : List Colm) (row : List V), vs = [.ref a, .ref r, .str (S [sep])] ∧ H a = some (.lst (ps.map V.ref)) ∧ Paired (PairAt H) ps cs ∧ cs.length ≤ 100 ∧ H r = some (.lst row) ∧ RowN cs row ∧ ∀ H', Same H H' → Q (.str (S (Sep.encR sep (rowF sep cs row) ++ [10]))) H'
theorem rowF_len (sep : Nat) : ∀ {cs : List Colm} {row : List V}, row.length = cs.length → (rowF sep cs row).length = cs.length
  | [], [], _ => rfl
  | c :: cs, v :: vs, h => by
    show (rowF sep cs vs).length + 1 = cs.length + 1
    rw [rowF_len sep (by simpa using h)]
  | [], _ :: _, h => by simp at h
  | _ :: _, [], h => by simp at h
theorem rowF_get (sep : Nat) : ∀ {cs : List Colm} {row : List V} {i : Nat} {c : Colm} {v : V}, cs[i]? = some c → row[i]? = some v → (rowF sep cs row)[i]? = some (fldW sep c.kind v)
  | [], _, i, _, _, h, _ => by simp at h
  | _ :: _, [], i, _, _, _, h => by simp at h
  | d :: cs, u :: vs, 0, c, v, h1, h2 => by
    injection h1 with h1
    injection h2 with h2
    subst h1 h2
    rfl
  | d :: cs, u :: vs, i + 1, c, v, h1, h2 => rowF_get sep (cs := cs) (row := vs) (i := i) h1 h2
theorem join_enc (sep : Nat) : ∀ fs : List (List Nat × Bool), TL.joinL [sep] (fs.map fun p => Sep.enc p.1 p.2) = Sep.encR sep fs
  | [] => rfl
  | [_] => rfl
  | p :: q :: r => by
    show Sep.enc p.1 p.2 ++ ([sep] ++ TL.joinL [sep] ((q :: r).map fun p => Sep.enc p.1 p.2)) = Sep.enc p.1 p.2 ++ sep :: Sep.encR sep (q :: r)
    rw [join_enc sep (q :: r)]
    rfl
theorem dbl_le : ∀ t : List Nat, (Sep.dbl t).length ≤ 2 * t.length
  | [] => Nat.le_refl _
  | c :: r => by
    have := dbl_le r
    show ((if c = 34 then [34, 34] else [c]) ++ Sep.dbl r).length ≤ 2 * (r.length + 1)
    rw [List.length_append]
    have : (if c = 34 then [34, 34] else [c]).length ≤ 2 := by split <;> simp
    omega
theorem enc_le (t : List Nat) (m : Bool) : (Sep.enc t m).length ≤ 2 * t.length + 2 := by
  cases m with
  | true =>
    show (34 :: (Sep.dbl t ++ [34])).length ≤ _
    have := dbl_le t
    rw [List.length_cons, List.length_append]
    show _ + 1 + 1 ≤ _
    omega
  | false => show t.length ≤ _; omega
end
end Sb
set_option Elab.async false
set_option maxRecDepth 100000
set_option maxHeartbeats 4000000
/-! Plain law of k82: the text of a value. -/
namespace Sb
open PySem PySem.Spec PyProof.Rows L2 SX
def Pl (t : List Nat) : Prop := ∀ c ∈ t, c < 128 ∧ c ≠ 44 ∧ c ≠ 34 ∧ c ≠ 10
theorem pl_isd {t : List Nat} (h : t.all isd = true) : Pl t := fun c hc => by
  have := isd_of h c hc
  omega
theorem pl_app {t u : List Nat} (a : Pl t) (b : Pl u) : Pl (t ++ u) := fun c hc => (List.mem_append.mp hc).elim (a c) (b c)
theorem pl_cons {x : Nat} {t : List Nat} (a : x < 128 ∧ x ≠ 44 ∧ x ≠ 34 ∧ x ≠ 10) (b : Pl t) : Pl (x :: t) := fun c hc => (List.mem_cons.mp hc).elim (fun e => e ▸ a) (b c)
theorem pl_nil : Pl [] := fun _ hc => nomatch hc
theorem big_dig {n : Int} (h : Big n) : (digs n.natAbs).length ≤ 20 := digs_le (by decide) (by have : n.natAbs ≤ 1000000000000000 := h; omega)
theorem intT_pl {n : Int} (h : Big n) : Pl (intT n) ∧ (intT n).length ≤ 40 ∧ intT n ≠ [] := by
  have := big_dig h
  unfold intT
  split
  · exact ⟨pl_cons (by decide) (pl_isd (digs_isd _)), by rw [List.length_cons]; omega, by simp⟩
  · exact ⟨pl_isd (digs_isd _), by omega, digs_ne _⟩
theorem end_len (c : Nat) (t : List Nat) : (dropEnd c t).length ≤ t.length := by
  have h := congrArg List.length (end_back c t)
  rw [List.length_append] at h
  omega
theorem decT_pl {n : Int} (h : Big n) : Pl (decT n) ∧ (decT n).length ≤ 40 ∧ decT n ≠ [] := by
  have h1 : (digs (n.natAbs / 10000)).length ≤ 20 := digs_le (by decide) (by have : n.natAbs ≤ 1000000000000000 := h; omega)
  have h2 : (pad0 4 (n.natAbs % 10000)).length = 4 := pad0_len (by decide) (by omega)
  have h3 := end_len 48 (pad0 4 (n.natAbs % 10000))
  unfold decT
  refine ⟨pl_app ?_ (pl_app (pl_isd (digs_isd _)) ?_), ?_, ?_⟩
  · split
    · exact pl_cons (by decide) pl_nil
    · exact pl_nil
  · split
    · exact pl_nil
    · exact pl_cons (by decide) fun c hc => pl_isd (pad0_isd _ _) c (end_sub c hc)
  · have e1 : (if n < 0 then [45] else ([] : List Nat)).length ≤ 1 := by split <;> simp
    have e2 : (if dropEnd 48 (pad0 4 (n.natAbs % 10000)) = [] then [] else 46 :: dropEnd 48 (pad0 4 (n.natAbs % 10000))).length ≤ 5 := by
      split
      · simp
      · rw [List.length_cons]; omega
    rw [List.length_append, List.length_append]
    omega
  · intro z
    have := congrArg List.length z
    rw [List.length_append, List.length_append] at this
    have h0 := List.length_pos_iff.mpr (digs_ne (n.natAbs / 10000))
    rw [List.length_nil] at this
    omega
theorem dayT_pl {d : Int} (h : Day d) : Pl (dayT d) ∧ (dayT d).length ≤ 40 ∧ dayT d ≠ [] ∧ readDate (dayT d) = some d := by
  have h := day_ok h
  unfold dayOk at h
  unfold dayT
  cases hd : dateOf d with
  | none => rw [hd] at h; cases h
  | some x =>
    obtain ⟨y, m, e⟩ := x
    rw [hd] at h
    simp only [Bool.and_eq_true, decide_eq_true_eq] at h
    obtain ⟨⟨⟨_, h2⟩, h3⟩, h4⟩ := h
    refine ⟨fun c hc => ?_, by show (dateText y.toNat m.toNat e.toNat).length ≤ 40; omega, (fun z => by have z : dateText y.toNat m.toNat e.toNat = [] := z; rw [z] at h4; cases h4), h2⟩
    have := List.all_eq_true.mp h3 c hc
    rcases Bool.or_eq_true_iff.mp this with q | q
    · have := pl_isd (t := [c]) (by simpa using q) c List.mem_cons_self
      exact this
    · have := of_decide_eq_true q
      omega
theorem valT_pl {k : Kd} {v : V} (h : CellV k v) : Pl (valT k v) ∧ (valT k v).length ≤ 40 ∧ (k ≠ .text → valT k v ≠ []) := by
  cases k with
  | bool =>
    obtain ⟨b, rfl⟩ := h
    cases b with
    | true => exact ⟨by unfold Pl; decide, by decide, fun _ => by decide⟩
    | false => exact ⟨by unfold Pl; decide, by decide, fun _ => by decide⟩
  | text =>
    obtain ⟨t, rfl, h1, h2⟩ := h
    have e : valT .text (.str (S t)) = t := rfl
    rw [e]
    exact ⟨h2, by omega, fun z => absurd rfl z⟩
  | date =>
    obtain ⟨d, rfl, h⟩ := h
    obtain ⟨a, b, c, _⟩ := dayT_pl h
    exact ⟨a, b, fun _ => c⟩
  | int =>
    obtain ⟨n, rfl, h⟩ := h
    obtain ⟨a, b, c⟩ := intT_pl h
    exact ⟨a, b, fun _ => c⟩
  | dec =>
    obtain ⟨n, rfl, h⟩ := h
    obtain ⟨a, b, c⟩ := decT_pl h
    exact ⟨a, b, fun _ => c⟩
theorem val_back {k : Kd} {v : V} {m nl : Bool} (h : CellV k v) (hne : valT k v = [] → m = true) : readField (valT k v) m k nl = .ok v := by
  have hn : ¬ (valT k v = [] ∧ m = false) := fun z => by rw [hne z.1] at z; cases z.2
  obtain ⟨_, hl, _⟩ := valT_pl h
  unfold readField
  rw [if_neg hn]
  cases k with
  | bool =>
    obtain ⟨b, rfl⟩ := h
    cases b with
    | true => rfl
    | false => rfl
  | text =>
    obtain ⟨t, rfl, h1, h2⟩ := h
    have e : valT .text (.str (S t)) = t := rfl
    rw [e] at hl ⊢
    show (if t.length > 10000 then _ else _) = _
    rw [if_neg (by omega)]
  | date =>
    obtain ⟨d, rfl, h⟩ := h
    obtain ⟨_, _, _, h⟩ := dayT_pl h
    show (match readDate (dayT d) with | some n => _ | none => _) = _
    rw [h]
  | int =>
    obtain ⟨n, rfl, h⟩ := h
    show (match readInteger (intT n) with | some n => _ | none => _) = _
    rw [read_intT h]
  | dec =>
    obtain ⟨n, rfl, h⟩ := h
    show (match readDecimal (decT n) with | some n => _ | none => _) = _
    rw [read_decT h]
theorem dbl_pl : ∀ {t : List Nat}, Pl t → Sep.dbl t = t
  | [], _ => rfl
  | c :: r, h => by
    show (if c = 34 then [34, 34] else [c]) ++ Sep.dbl r = _
    rw [if_neg (h c List.mem_cons_self).2.2.1, dbl_pl fun d hd => h d (List.mem_cons_of_mem _ hd)]
    rfl
theorem pl_plain {t : List Nat} (h : Pl t) : Sep.plainT 44 t := fun c hc => ⟨(h c hc).2.1, (h c hc).2.2.2, (h c hc).2.2.1⟩
def noT : List Nat := [110, 111, 32, 118, 97, 108, 117, 101]
theorem no_read {k : Kd} (hk : k ≠ .text) (nl : Bool) : readField noT false k nl = .error (expd k) := by
  cases k with
  | text => exact absurd rfl hk
  | int => rfl
  | bool => rfl
  | date => rfl
  | dec => rfl
theorem cell_scal {k : Kd} {nl : Bool} {v : V} (h : Cell k nl v) : Scal v := by
  rcases h with ⟨rfl, _⟩ | h
  · trivial
  cases k with
  | bool => obtain ⟨b, rfl⟩ := h; trivial
  | text =>
    obtain ⟨t, rfl, h1, h2⟩ := h
    show (S t).cps.all (· < 0x110000) = true
    rw [← Array.all_toList]
    show t.all _ = true
    exact List.all_eq_true.mpr fun c hc => decide_eq_true (Nat.lt_trans (h2 c hc).1 (by decide))
  | date => obtain ⟨d, rfl, h⟩ := h; trivial
  | int => obtain ⟨d, rfl, h⟩ := h; trivial
  | dec => obtain ⟨d, rfl, h⟩ := h; trivial
end Sb
set_option Elab.async false
set_option maxRecDepth 100000
set_option maxHeartbeats 4000000
namespace Sb
open PySem PySem.Spec PyProof.Rows L2 SX
abbrev s_written_field : Stmt := top 21
abbrev sc_written_field_N : List Str := ["text", "separator"]
theorem sc_written_field : FnScope sc_written_field_N ["text", "separator"] (defScope s_written_field) := ⟨rfl, rfl, rfl, by decide +kernel, rfl, by decide +kernel, by decide +kernel⟩
abbrev s_written_row : Stmt := top 22
abbrev sc_written_row_N : List Str := ["columns", "row", "separator", "fields", "k", "_", "kind"]
theorem sc_written_row : FnScope sc_written_row_N ["columns", "row", "separator"] (defScope s_written_row) := ⟨rfl, rfl, rfl, by decide +kernel, rfl, by decide +kernel, by decide +kernel⟩
theorem mustN {sep : Nat} {t : List Nat} : markP sep t = false ↔ (t ≠ [] ∧ sep ∉ t ∧ 34 ∉ t ∧ 10 ∉ t) := by
  unfold markP mustM
  simp [and_assoc]
theorem valW_len {k : Kd} {v : V} (h : CellW k v) : (valT k v).length ≤ 40 := by
  cases k with
  | text =>
    obtain ⟨t, rfl, hl, _⟩ := h
    show t.length ≤ 40
    omega
  | bool => exact (valT_pl (k := .bool) h).2.1
  | date => exact (valT_pl (k := .date) h).2.1
  | int => exact (valT_pl (k := .int) h).2.1
  | dec => exact (valT_pl (k := .dec) h).2.1
theorem cellW_non {k : Kd} : ¬ CellW k .non := fun h => by
  cases k with
  | text => obtain ⟨_, z, _⟩ := h; cases z
  | bool => obtain ⟨_, z⟩ := h; cases z
  | date => obtain ⟨_, z, _⟩ := h; cases z
  | int => obtain ⟨_, z, _⟩ := h; cases z
  | dec => obtain ⟨_, z, _⟩ := h; cases z
theorem enc_sum {B : Nat} : ∀ {fs : List (List Nat × Bool)}, (∀ p ∈ fs, p.1.length ≤ B) → (((fs.map fun p => Sep.enc p.1 p.2).map S).map (·.length)).sum ≤ (2 * B + 2) * fs.length
  | [], _ => Nat.zero_le _
  | p :: r, h => by
    have h1 := h p List.mem_cons_self
    have h2 := enc_le p.1 p.2
    have ih := enc_sum (fs := r) fun q hq => h q (List.mem_cons_of_mem _ hq)
    rw [List.map_cons, List.map_cons, List.map_cons, List.sum_cons, S_len, List.length_cons, Nat.mul_add]
    omega
theorem encR_le2 {B sep : Nat} : ∀ (fs : List (List Nat × Bool)), (∀ p ∈ fs, p.1.length ≤ B) → (Sep.encR sep fs).length ≤ (2 * B + 3) * fs.length
  | [], _ => Nat.zero_le _
  | [p], h => by
    have := h p List.mem_cons_self
    have := enc_le p.1 p.2
    show (Sep.enc p.1 p.2).length ≤ (2 * B + 3) * 1
    omega
  | p :: q :: r, h => by
    have h1 := h p List.mem_cons_self
    have h2 := enc_le p.1 p.2
    have ih := encR_le2 (sep := sep) (q :: r) fun z hz => h z (List.mem_cons_of_mem _ hz)
    show (Sep.enc p.1 p.2 ++ sep :: Sep.encR sep (q :: r)).length ≤ _
    rw [List.length_append, List.length_cons]
    have e : (2 * B + 3) * (p :: q :: r).length = (2 * B + 3) * (q :: r).length + (2 * B + 3) := by rw [List.length_cons, Nat.mul_add]; omega
    omega
theorem rowF_text {sep : Nat} : ∀ {cs : List Colm} {row : List V}, RowN cs row → ∀ p ∈ rowF sep cs row, p.1.length ≤ 40
  | [], _, _, _, hp => by unfold rowF at hp; cases hp
  | _ :: _, [], _, _, hp => by unfold rowF at hp; cases hp
  | c :: cs, v :: vs, ⟨hl, h⟩, p, hp => by
    rcases List.mem_cons.mp (show p ∈ fldW sep c.kind v :: rowF sep cs vs from hp) with rfl | hp
    · have hv := h 0 c v rfl rfl
      unfold fldW
      rcases hv with ⟨rfl, _⟩ | hv
      · rw [if_pos rfl]; exact Nat.zero_le _
      · rw [if_neg (fun z => cellW_non (z ▸ hv))]
        exact valW_len hv
    · exact rowF_text (cs := cs) (row := vs) ⟨by simpa using hl, fun i c' v' h1 h2 => h (i + 1) c' v' h1 h2⟩ p hp
section
variable {P : Program} {w : World} {K : PySem.W.Frag} {mg : Str → Option Value} {base : Heap} {C fM fP CC IT fCI : Addr} {n : Nat} {tM : Nat}
theorem ok_written_field {f : Addr} {fd : FuncData} (F : Fun K "written_field" "written_field" s_written_field f fd) (hMW : mg "MARK_writing" = some (.str "\"" tM)) (tM0 : tM ≠ 0) (tMn : tM < n) : FnN n P w K mg base CX0 1 f fd ["text", "separator"] spWF := by
  have gMW : ∃ u, mg "MARK_writing" = some u ∧ RelV (.str "\"") u := ⟨_, hMW, _, rfl⟩
  refine okN F sc_written_field (fun vs H Q E h => ?_) (fun cdv A outer s H vs Q E hr h => ?_)
  · obtain ⟨_, _, rfl, _⟩ := h
    rfl
  · obtain ⟨t, sep, rfl, hl, k⟩ := h
    have e1 : (S t).cps.toList = t := rfl
    refine ⟨_, pssn_cut (psn_of (ps_if (PW.pt (pw_and (pt_cmpR op_ne (pv 0) pe_str (nomark _)) (pw_and (pt_cmpR op_notIn_sign (pv 1) (pv 0) (by rfl)) (pw_and (pt_cmpR op_notIn_sign (C8.pe_gc (by rfl) gMW) (pv 0) (by rfl)) (pw_and1 (pt_cmpR op_notIn_sign pe_str (pv 0) (by rfl))))))) (pss_one (ps_ret (pv 0))) pss_nil))
      (pssn_one (psn_ret (pen_op op_add_str (pen_op op_add_str (pen_of (C8.pe_gc (by rfl) gMW)) (pen_repl (by rfl) hMW tM0 tMn (by decide +kernel) (by decide +kernel) (by decide +kernel) (pv 0))) (pen_of (C8.pe_gc (by rfl) gMW))))), ?_⟩
    refine ⟨fun σ' H' => σ' = [some (.str (S t)), some (.str (S [sep]))] ∧ H' = H ∧ markP sep t = true, ?_, ?_⟩
    · refine ⟨_, rfl, rfl, _, rfl, ?_⟩
      rw [c_nil, S_eq]
      have fin : ∀ H0, H0 = H → ¬ (t ≠ [] ∧ sep ∉ t ∧ 34 ∉ t ∧ 10 ∉ t) → [some (V.str (S t)), some (V.str (S [sep]))] = [some (V.str (S t)), some (V.str (S [sep]))] ∧ H0 = H ∧ markP sep t = true := fun H0 h0 hn => ⟨rfl, h0, by
        cases h : markP sep t with
        | true => rfl
        | false => exact absurd (mustN.mp h) hn⟩
      by_cases h1 : t = []
      · rw [decide_eq_true h1]
        exact iteF (iteF (fin H rfl fun z => z.1 h1))
      rw [decide_eq_false h1]
      refine iteT ⟨_, rfl, _, rfl, sep, _, rfl, rfl, _, rfl, ?_⟩
      rw [e1]
      by_cases h2 : sep ∈ t
      · rw [decide_eq_true h2]
        exact iteF (iteF (fin H rfl fun z => z.2.1 h2))
      rw [decide_eq_false h2]
      refine iteT ⟨_, rfl, 34, _, congrArg V.str c_quote, rfl, _, rfl, ?_⟩
      rw [e1]
      by_cases h3 : 34 ∈ t
      · rw [decide_eq_true h3]
        exact iteF (iteF (fin H rfl fun z => z.2.2.1 h3))
      rw [decide_eq_false h3]
      refine iteT ⟨_, rfl, 10, _, congrArg V.str c_nl, rfl, _, rfl, ?_⟩
      rw [e1]
      by_cases h4 : 10 ∈ t
      · rw [decide_eq_true h4]
        exact iteF (fin H rfl fun z => z.2.2.2 h4)
      rw [decide_eq_false h4]
      refine iteT ⟨_, rfl, ?_⟩
      rw [mustN.mpr ⟨h1, h2, h3, h4⟩] at k
      exact k
    rintro _ H ⟨rfl, rfl, hm⟩
    rw [hm] at k
    have hdl := dbl_le t
    refine ⟨_, rfl, S t, rfl, ?_, ?_⟩
    · rw [c_quote, S_cat, S_len, S_len]
      show t.length + (t.length + 1) * 2 ≤ 16777216
      omega
    rw [c_quote, replace_dbl]
    refine ⟨_, _, rfl, rfl, ?_, _, _, rfl, rfl, ?_, ?_⟩
    · rw [S_len, S_len]
      exact lt_sz (by show 1 + _ ≤ 200000; omega)
    · rw [S_cat, S_len, S_len, List.length_append]
      exact lt_sz (by show 1 + _ + 1 ≤ 200000; omega)
    · rw [S_cat, S_cat]
      exact k
theorem ok_written_row {f : Addr} {fd : FuncData} (F : Fun K "written_row" "written_row" s_written_row f fd) (T : Txt K mg C fM fP) (C_written_value : Cal P w K mg base CX0 5 "written_value" spVal) (C_written_field : CalN n P w K mg base CX0 1 "written_field" spWF) : FnN n P w K mg base CX0 6 f fd ["columns", "row", "separator"] spWRow := by
  refine okN F sc_written_row (fun vs H Q E h => ?_) (fun cdv A outer s H vs Q E hr h => ?_)
  · obtain ⟨_, _, _, _, _, _, rfl, _⟩ := h
    rfl
  · obtain ⟨a, r, sep, ps, cs, row, rfl, ha, hps, hcl, hr1, ⟨hrl, hrow⟩, k⟩ := h
    refine ⟨_, pssn_cons (psn_of (ps_set (i := 3) sc_written_row.nd rfl (Or.inl rfl) (pe_lst pa_nil)))
      (pssn_cons (psn_for PassesOwn.never rfl (pi_enum (by rfl) T.n_enumerate (pa_cons (pv 0) pa_nil)) (pg_tup (by rfl) (pgs_cons (pg_name (i := 4) sc_written_row.nd rfl (Or.inl rfl)) (pgs_cons (pg_tup (by rfl) (pgs_cons (pg_name (i := 5) sc_written_row.nd rfl (Or.inl rfl)) (pgs_cons (pg_name (i := 6) sc_written_row.nd rfl (Or.inl rfl)) pgs_nil))) pgs_nil)))
        (pssn_one (psn_if (ptn_of (pt_cmpR op_isN (pe_ix ix_list (pv 1) (pv 4) (fun _ _ => rfl)) pe_non (nomark _))) (pssn_of (pss_one (ps_expr (pe_bm PySem.F.plainAttrs_list PySem.F.slot_list_append PySem.F.type_list_append mt_append (pv 3) (pa_cons pe_str pa_nil)))))
          (pssn_one (psn_expr (pen_bm PySem.F.plainAttrs_list PySem.F.slot_list_append PySem.F.type_list_append mt_append (pv 3) (pan_cons (pen_k C_written_field hr (by decide) (by rfl) pass0 (pan_of (pa_cons (pe_k C_written_value hr (by decide) (by rfl) pass0 (pa_cons (pe_ix ix_list (pv 1) (pv 4) (fun _ _ => rfl)) (pa_cons (pv 6) pa_nil))) (pa_cons (pv 2) pa_nil)))) pan_nil)))))))
        (pssn_one (psn_of (ps_ret (pe_op op_add_str (pe_join (pv 2) (pv 3)) pe_str))))), ?_⟩
    have lps := paired_len hps
    have lF := rowF_len sep hrl
    refine ⟨Nat.zero_le _, fun L hL => ?_⟩
    have s1 := same_new (o := .lst []) hL
    refine ⟨_, rfl, a, _, rfl, seqL (s1 _ _ ha), for_it walk_enum (fun i σ H' => ∃ (x4 x5 x6 : Option V), σ = [some (.ref a), some (.ref r), some (.str (S [sep])), some (.ref L), x4, x5, x6] ∧ Same H H' ∧ H' L = some (.lst (encV ((rowF sep cs row).take i))))
      ⟨none, none, none, rfl, s1, upd_same⟩ (fun i σ H' _ ⟨_, _, _, _, h, _⟩ => seqL (h _ _ ha)) ?_ ?_⟩
    · rintro i x σ H2 H3 hi ⟨x4, x5, x6, rfl, s2, hL2⟩ ⟨q, u, v, rfl, hq, rfl, hu, hv⟩
      injection hu with hu
      subst hu
      have hv : (ps.map V.ref)[i]? = some v := hv
      rw [List.getElem?_map] at hv
      obtain ⟨p, hp, rfl⟩ := Option.map_eq_some_iff.mp hv
      obtain ⟨c, hc, hP⟩ := paired_get hps hp
      have hic : i < cs.length := (List.getElem?_eq_some_iff.mp hc).1
      obtain ⟨v, hv⟩ : ∃ v, row[i]? = some v := ⟨_, List.getElem?_eq_getElem (by omega)⟩
      have hF := rowF_get sep hc hv
      have hcell := hrow i c v hc hv
      have s3 := same_new (o := .tup [.int ((i : Nat) : Int), .ref p]) hq
      have s23 := same_trans s2 s3
      obtain ⟨H3, hH3⟩ : ∃ H3, H3 = upd H2 q (.tup [.int ((i : Nat) : Int), .ref p]) := ⟨_, rfl⟩
      have hq3 : H3 q = some (.tup [.int ((i : Nat) : Int), .ref p]) := by rw [hH3]; exact upd_same
      have hL3 : H3 L = some (.lst (encV ((rowF sep cs row).take i))) := by rw [hH3]; exact s3 _ _ hL2
      rw [← hH3] at s23 ⊢
      have hsz : (encV ((rowF sep cs row).take i)).length < sizeLine := lt_sz' (by unfold encV; rw [List.length_map, List.length_take]; omega)
      have hat : atI row ((i : Nat) : Int) = some v := atI_nat hv
      have hnext : ∀ t m, (t, m) = fldW sep c.kind v → encV ((rowF sep cs row).take i) ++ [V.str (S (Sep.enc t m))] = encV ((rowF sep cs row).take (i + 1)) := fun t m h => by
        rw [take_next hF, ← h]
        unfold encV
        rw [List.map_append]
        rfl
      refine ⟨q, _, rfl, seqT hq3, rfl, _, _, rfl, _, _, rfl, p, _, rfl, seqT (s23 _ _ hP), rfl, _, _, rfl, _, _, rfl, rfl, rfl, ?_⟩
      refine ⟨_, rfl, _, rfl, r, _, _, v, rfl, rfl, seqL (s23 _ _ hr1), hat, rfl, _, rfl, ?_⟩
      rcases hcell with ⟨rfl, _⟩ | hcell
      · refine iteT ⟨_, rfl, .inl ⟨rfl, _, seqL hL3⟩, L, _, _, rfl, rfl, hL3, hsz, ?_⟩
        refine ⟨_, _, _, rfl, same_mut s23 hL, ?_⟩
        rw [upd_same, c_nil]
        exact congrArg (fun z => some (HO.lst z)) (hnext [] false (by unfold fldW; rw [if_pos rfl]))
      · have hne : ¬ v = .non := fun z => cellW_non (z ▸ hcell)
        rw [decide_eq_false hne]
        refine iteF ⟨_, rfl, .inl ⟨rfl, _, seqL hL3⟩, _, rfl, _, rfl, r, _, _, v, rfl, rfl, seqL (s23 _ _ hr1), hat, _, rfl, c.kind, v, rfl, hcell, fun H4 s4 => ⟨_, rfl, valT c.kind v, sep, rfl, by have := valW_len hcell; omega, L, _, _, rfl, rfl, s4 _ _ hL3, hsz, ?_⟩⟩
        refine ⟨_, _, _, rfl, same_mut (same_trans s23 s4) hL, ?_⟩
        rw [upd_same]
        exact congrArg (fun z => some (HO.lst z)) (hnext (valT c.kind v) _ (by unfold fldW; rw [if_neg hne]))
    · rintro σ H2 ⟨x4, x5, x6, rfl, s2, hL2⟩
      have e : (rowF sep cs row).take (ps.map V.ref).length = rowF sep cs row := List.take_of_length_le (by rw [List.length_map]; omega)
      rw [e] at hL2
      have hsum := enc_sum (rowF_text (sep := sep) ⟨hrl, hrow⟩)
      have hlen := encR_le2 (sep := sep) _ (rowF_text (sep := sep) ⟨hrl, hrow⟩)
      rw [lF] at hsum hlen
      have h100 : (2 * 40 + 3) * cs.length ≤ (2 * 40 + 3) * 100 := Nat.mul_le_mul_left _ hcl
      have h101 : (2 * 40 + 2) * cs.length ≤ (2 * 40 + 2) * 100 := Nat.mul_le_mul_left _ hcl
      refine ⟨_, rfl, ⟨_, rfl⟩, _, rfl, _, L, ((rowF sep cs row).map fun p => Sep.enc p.1 p.2).map S, rfl, rfl, .inl (seqL ?_), ?_, _, _, rfl, rfl, ?_, ?_⟩
      · unfold encV at hL2
        rw [List.map_map, List.map_map]
        exact hL2
      · rw [S_len, List.length_map, List.length_map, lF]
        show _ + cs.length * 1 ≤ 16777216
        omega
      · rw [join_S, join_enc, c_nl, S_len, S_len]
        exact lt_sz (by show _ + 1 ≤ 200000; omega)
      · rw [join_S, join_enc, c_nl, S_cat]
        exact k _ s2
end
end Sb
set_option Elab.async false
set_option maxRecDepth 100000
set_option maxHeartbeats 4000000
namespace Sb
open PySem PySem.Spec PyProof.Rows L2 SX
def headF (sep : Nat) (cs : List Colm) : List (List Nat × Bool) := cs.map fun c => (c.name, markP sep c.name)
def recsW (sep : Nat) (hd : Bool) (cs : List Colm) (rows : List (List V)) : List (List (List Nat × Bool)) := (if hd = true then [headF sep cs] else []) ++ rows.map (rowF sep cs)
def wholeT (sep : Nat) (hd : Bool) (cs : List Colm) (rows : List (List V)) : List Nat := Sep.encT sep (recsW sep hd cs rows)
def linesV (sep : Nat) (cs : List Colm) (rows : List (List V)) : List V := rows.map fun row => V.str (S (Sep.encR sep (rowF sep cs row) ++ [10]))
theorem join_lines (sep : Nat) : ∀ rs : List (List (List Nat × Bool)), TL.joinL [] (rs.map fun r => Sep.encR sep r ++ [10]) = Sep.encT sep rs
  | [] => rfl
  | [r] => rfl
  | p :: q :: r => by
    show (Sep.encR sep p ++ [10]) ++ ([] ++ TL.joinL [] ((q :: r).map fun r => Sep.encR sep r ++ [10])) = Sep.encR sep p ++ 10 :: Sep.encT sep (q :: r)
    rw [join_lines sep (q :: r)]
    simp
theorem lines_sum {sep : Nat} {cs : List Colm} (hc : cs.length ≤ 100) : ∀ {rows : List (List V)}, (∀ r ∈ rows, RowN cs r) → (((rows.map fun row => Sep.encR sep (rowF sep cs row) ++ [10]).map S).map (·.length)).sum ≤ 8301 * rows.length
  | [], _ => Nat.zero_le _
  | r :: rs, h => by
    have h1 := h r List.mem_cons_self
    have ih := lines_sum (sep := sep) hc (rows := rs) fun q hq => h q (List.mem_cons_of_mem _ hq)
    have h2 := encR_le2 (sep := sep) _ (rowF_text (sep := sep) h1)
    rw [rowF_len sep h1.1] at h2
    have h3 : (2 * 40 + 3) * cs.length ≤ (2 * 40 + 3) * 100 := Nat.mul_le_mul_left _ hc
    rw [List.map_cons, List.map_cons, List.map_cons, List.sum_cons, S_len, List.length_append, List.length_cons]
    show (Sep.encR sep (rowF sep cs r)).length + 1 + _ ≤ 8301 * (rs.length + 1)
    omega
theorem encT_le {B sep : Nat} : ∀ (rs : List (List (List Nat × Bool))), (∀ r ∈ rs, (Sep.encR sep r).length ≤ B) → (Sep.encT sep rs).length ≤ (B + 1) * rs.length
  | [], _ => Nat.zero_le _
  | r :: rs, h => by
    have h1 := h r List.mem_cons_self
    have ih := encT_le (sep := sep) rs fun q hq => h q (List.mem_cons_of_mem _ hq)
    show (Sep.encR sep r ++ 10 :: Sep.encT sep rs).length ≤ (B + 1) * (rs.length + 1)
    rw [List.length_append, List.length_cons, Nat.mul_add]
    omega
def spWS : Sp := fun vs H Q _ => ∃ (a b : Addr) (sep : Nat) (hd : Bool) (ps qs : List Addr) (cs : List Colm) (rows : List (List V)), vs = [.ref a, .ref b, .str (S [sep]), .bl hd] ∧ H a = some (.lst (ps.map V.ref)) ∧ Paired (PairAt H) ps cs ∧ cs.length ≤ 100 ∧ (∀ c ∈ cs, c.name.length ≤ 40) ∧
  H b = some (.lst (qs.map V.ref)) ∧ Paired (RowV H) qs rows ∧ rows.length ≤ 20 ∧ (∀ r ∈ rows, RowN cs r) ∧ ∀ H', Same H H' → Q (.str (S (wholeT sep hd cs rows))) H'
abbrev s_write_separated : Stmt := top 23
abbrev sc_write_separated_N : List Str := ["columns", "rows", "separator", "head", "text", "row", "name", "_"]
theorem sc_write_separated : FnScope sc_write_separated_N ["columns", "rows", "separator", "head"] (defScope s_write_separated) := ⟨rfl, rfl, rfl, by decide +kernel, rfl, by decide +kernel, by decide +kernel⟩
section
variable {P : Program} {w : World} {K : PySem.W.Frag} {mg : Str → Option Value} {base : Heap} {C fM fP CC IT fCI : Addr} {n : Nat} {tM : Nat}
theorem ok_write_separated {f : Addr} {fd : FuncData} {kws : List (Str × V)} (F : FunD K "write_separated" "write_separated" (defArgs s_write_separated) (defBody s_write_separated) (defScope s_write_separated) [] kws f fd) (C_written_row : CalN n P w K mg base CX0 6 "written_row" spWRow) (C_written_field : CalN n P w K mg base CX0 1 "written_field" spWF) :
    FnN n P w K mg base CX0 7 f fd ["columns", "rows", "separator", "head"] spWS := by
  refine okND F sc_write_separated (fun vs H Q E h => ?_) (fun cdv A outer s H vs Q E hr h => ?_)
  · obtain ⟨_, _, _, _, _, _, _, _, rfl, _⟩ := h
    rfl
  · obtain ⟨a, b, sep, hd, ps, qs, cs, rows, rfl, ha, hps, hcl, hcn, hb, hqs, hrl, hrows, k⟩ := h
    refine ⟨_, pssn_cons (psn_set (i := 4) sc_write_separated.nd rfl (Or.inl rfl) (pen_m1 PySem.F.slot_str_join PySem.F.type_str_join mt_join pe_str
        (pen_lc (E := E0) (own := [("row", 5)]) (g := gName 5) rfl sc_write_separated.nd rfl rfl takes0 (fun _ _ _ _ h => h) (pi_list (pv 1)) (blkOk_by (own := [("row", 5)]) (N := sc_write_separated_N) (sc := defScope s_write_separated) (by decide +kernel)) (fun _ _ _ _ _ _ => pg_name (i := 5) sc_write_separated.nd rfl (Or.inl rfl)) (fun _ _ _ _ _ _ => pts_nil)
          (fun _ _ _ _ _ _ ps => pen_k C_written_row hr (by decide) (by rfl) pass0 (pan_of (pa_cons (pv 0) (pa_cons (pv 5) (pa_cons (pv 2) pa_nil))))))))
      (pssn_cons (psn_of (ps_if (pt_not (pt_val (pv 3))) (pss_one (ps_ret (pv 4))) pss_nil))
        (pssn_one (psn_ret (pen_op op_add_str (pen_op op_add_str (pen_m1 PySem.F.slot_str_join PySem.F.type_str_join mt_join (pv 2)
          (pen_lc (E := E0) (own := [("name", 6), ("_", 7)]) (g := gTup K 2 (gCons (gName 6) (gCons (gName 7) gNil))) rfl sc_write_separated.nd rfl rfl takes0 (fun _ _ _ _ h => h) (pi_list (pv 0)) (blkOk_by (own := [("name", 6), ("_", 7)]) (N := sc_write_separated_N) (sc := defScope s_write_separated) (by decide +kernel)) (fun _ _ _ _ _ _ => pg_tup (by rfl) (pgs_cons (pg_name (i := 6) sc_write_separated.nd rfl (Or.inl rfl)) (pgs_cons (pg_name (i := 7) sc_write_separated.nd rfl (Or.inl rfl)) pgs_nil))) (fun _ _ _ _ _ _ => pts_nil)
            (fun _ _ _ _ _ _ ps => pen_k C_written_field hr (by decide) (by rfl) pass0 (pan_of (pa_cons (pv 6) (pa_cons (pv 2) pa_nil)))))) (pen_of pe_str)) (pen_of (pv 4)))))), ?_⟩
    have lqs := paired_len hqs
    have lps := paired_len hps
    refine ⟨⟨_, rfl⟩, _, rfl, b, rfl, ⟨_, seqL hb⟩, fun D hD => ?_⟩
    refine lc_list (xs := qs.map V.ref) (fun i H' => Same H H' ∧ H' D = some (.lst (linesV sep cs (rows.take i)))) ⟨same_new hD, upd_same⟩ (fun i H' _ ⟨h, _⟩ => seqL (h _ _ hb)) ?_ ?_
    · rintro i z H1 hz ⟨s1, hD1⟩
      rw [List.getElem?_map] at hz
      obtain ⟨q, hq, rfl⟩ := Option.map_eq_some_iff.mp hz
      obtain ⟨row, hrow, hR⟩ := paired_get hqs hq
      have hR : H q = some (.lst row) := hR
      have hir : i < rows.length := (List.getElem?_eq_some_iff.mp hrow).1
      refine ⟨rfl, _, rfl, _, rfl, _, rfl, a, q, sep, ps, cs, row, rfl, s1 _ _ ha, paired_mono (fun p c h => s1 _ _ h) hps, hcl, s1 _ _ hR, hrows row (List.mem_of_getElem? hrow), fun H2 s2 => ⟨_, s2 _ _ hD1, lt_sz' (by unfold linesV; rw [List.length_map, List.length_take]; omega), same_mut (same_trans s1 s2) hD, ?_⟩⟩
      rw [upd_same, take_next hrow]
      unfold linesV
      rw [List.map_append]
      rfl
    rintro H1 ⟨s1, hD1⟩
    have e : rows.take (qs.map V.ref).length = rows := List.take_of_length_le (by rw [List.length_map]; omega)
    rw [e] at hD1
    have hls := lines_sum (sep := sep) hcl hrows
    have h83 : 8301 * rows.length ≤ 8301 * 20 := Nat.mul_le_mul_left _ hrl
    refine ⟨_, D, (rows.map fun row => Sep.encR sep (rowF sep cs row) ++ [10]).map S, rfl, rfl, .inl (seqL ?_), ?_, ?_⟩
    · unfold linesV at hD1
      rw [List.map_map, List.map_map]
      exact hD1
    · rw [c_nil, S_len, List.length_map, List.length_map]
      show _ + rows.length * 0 ≤ 16777216
      omega
    rw [c_nil, join_S]
    have ejl : TL.joinL [] (rows.map fun row => Sep.encR sep (rowF sep cs row) ++ [10]) = Sep.encT sep (rows.map (rowF sep cs)) := by
      rw [← join_lines, List.map_map]
      rfl
    rw [ejl]
    obtain ⟨B, hB⟩ : ∃ B, B = Sep.encT sep (rows.map (rowF sep cs)) := ⟨_, rfl⟩
    have hBl : B.length ≤ 8301 * 20 := by
      rw [hB]
      have := encT_le (B := 8300) (sep := sep) (rows.map (rowF sep cs)) fun r hr => by
        obtain ⟨row, hrow, rfl⟩ := List.mem_map.mp hr
        have h2 := encR_le2 (sep := sep) _ (rowF_text (sep := sep) (hrows row hrow))
        rw [rowF_len sep (hrows row hrow).1] at h2
        have h3 : (2 * 40 + 3) * cs.length ≤ (2 * 40 + 3) * 100 := Nat.mul_le_mul_left _ hcl
        omega
      rw [List.length_map] at this
      omega
    refine ⟨_, rfl, hd, rfl, ?_⟩
    cases hd with
    | false =>
      refine iteT ⟨_, rfl, ?_⟩
      have := k H1 s1
      unfold wholeT recsW at this
      rw [if_neg (by decide), List.nil_append] at this
      exact this
    | true =>
      refine iteF ?_
      rw [← hB]
      have hwh : wholeT sep true cs rows = Sep.encR sep (headF sep cs) ++ [10] ++ B := by
        unfold wholeT recsW
        rw [if_pos rfl, hB]
        show Sep.encR sep (headF sep cs) ++ 10 :: Sep.encT sep (rows.map (rowF sep cs)) = _
        simp
      have hht : ∀ p ∈ headF sep cs, p.1.length ≤ 40 := fun p hp => by
        obtain ⟨c, hc, rfl⟩ := List.mem_map.mp hp
        exact hcn c hc
      have lh : (headF sep cs).length = cs.length := List.length_map ..
      refine ⟨_, rfl, ⟨_, rfl⟩, _, rfl, a, rfl, ⟨_, seqL (s1 _ _ ha)⟩, fun D2 hD2 => ?_⟩
      have hD2H := s1.free hD2
      refine lc_list (xs := ps.map V.ref) (fun i H' => Same H H' ∧ H' D2 = some (.lst (encV ((headF sep cs).take i)))) ⟨fun b o e => same_new hD2 b o (s1 b o e), upd_same⟩ (fun i H' _ ⟨h, _⟩ => seqL (h _ _ ha)) ?_ ?_
      · rintro i z H2 hz ⟨s2, hD2'⟩
        rw [List.getElem?_map] at hz
        obtain ⟨p, hp, rfl⟩ := Option.map_eq_some_iff.mp hz
        obtain ⟨c, hc, hP⟩ := paired_get hps hp
        have hic : i < cs.length := (List.getElem?_eq_some_iff.mp hc).1
        have hF : (headF sep cs)[i]? = some (c.name, markP sep c.name) := by unfold headF; rw [List.getElem?_map, hc]; rfl
        refine ⟨p, _, rfl, seqT (s2 _ _ hP), rfl, _, _, rfl, _, _, rfl, rfl, rfl, _, rfl, _, rfl, c.name, sep, rfl, by have := hcn c (List.mem_of_getElem? hc); omega, _, hD2', lt_sz' (by unfold encV; rw [List.length_map, List.length_take]; omega), same_mut s2 hD2H, ?_⟩
        rw [upd_same, take_next hF]
        unfold encV
        rw [List.map_append]
        rfl
      rintro H2 ⟨s2, hD2'⟩
      have e : (headF sep cs).take (ps.map V.ref).length = headF sep cs := List.take_of_length_le (by rw [List.length_map]; omega)
      rw [e] at hD2'
      have hsum := enc_sum hht
      have hlen := encR_le2 (sep := sep) _ hht
      rw [lh] at hsum hlen
      have h100 : (2 * 40 + 3) * cs.length ≤ (2 * 40 + 3) * 100 := Nat.mul_le_mul_left _ hcl
      have h101 : (2 * 40 + 2) * cs.length ≤ (2 * 40 + 2) * 100 := Nat.mul_le_mul_left _ hcl
      refine ⟨_, D2, ((headF sep cs).map fun p => Sep.enc p.1 p.2).map S, rfl, rfl, .inl (seqL ?_), ?_, _, _, rfl, rfl, ?_, _, rfl, _, _, rfl, rfl, ?_, ?_⟩
      · unfold encV at hD2'
        rw [List.map_map, List.map_map]
        exact hD2'
      · rw [S_len, List.length_map, List.length_map, lh]
        show _ + cs.length * 1 ≤ 16777216
        omega
      · rw [join_S, join_enc, c_nl, S_len, S_len]
        exact lt_sz (by show _ + 1 ≤ 200000; omega)
      · rw [join_S, join_enc, c_nl, S_cat, S_len, S_len, List.length_append]
        exact lt_sz (by show _ + 1 + _ ≤ 200000; omega)
      · rw [join_S, join_enc, c_nl, S_cat, S_cat, ← hwh]
        exact k _ s2
end
end Sb
set_option Elab.async false
set_option maxRecDepth 100000
set_option maxHeartbeats 4000000
namespace Sb
open PySem PySem.Spec PyProof.Rows L2 SX
abbrev s__law_line : Stmt := top 64
abbrev sc__law_line_N : List Str := ["_law_columns_here", "_law_row_here", "_law_separator", "_law_fields", "_law_k"]
theorem sc__law_line : FnScope sc__law_line_N ["_law_columns_here", "_law_row_here", "_law_separator"] (defScope s__law_line) := ⟨rfl, rfl, rfl, by decide +kernel, rfl, by decide +kernel, by decide +kernel⟩
abbrev s__law_table_row : Stmt := top 57
abbrev sc__law_table_row_N : List Str := ["_law_columns_here", "_law_state_here", "_law_column"]
theorem sc__law_table_row : FnScope sc__law_table_row_N ["_law_columns_here", "_law_state_here"] (defScope s__law_table_row) := ⟨rfl, rfl, rfl, by decide +kernel, rfl, by decide +kernel, by decide +kernel⟩
abbrev s__law_row : Stmt := top 65
abbrev sc__law_row_N : List Str := ["_law_columns_here", "_law_state_here", "_law_row_here", "_law_k"]
theorem sc__law_row : FnScope sc__law_row_N ["_law_columns_here", "_law_state_here"] (defScope s__law_row) := ⟨rfl, rfl, rfl, by decide +kernel, rfl, by decide +kernel, by decide +kernel⟩
def spLine (CC : Addr) : Sp := fun vs H Q _ => ∃ (a r : Addr) (sep : Nat) (cs : List Colm) (row : List V), vs = [.ref a, .ref r, .str (S [sep])] ∧ ColsAt CC H a cs ∧ cs.length ≤ 100 ∧ H r = some (.lst row) ∧ RowN cs row ∧ ∀ H', Same H H' → Q (.str (S (Sep.encR sep (rowF sep cs row) ++ [10]))) H'
def RowC (cs : List Colm) (row : List V) : Prop := row.length = cs.length ∧ ∀ (i : Nat) (c : Colm) (v : V), cs[i]? = some c → row[i]? = some v → Cell c.kind c.nl v
def spTRow (CC : Addr) : Sp := fun vs H Q _ => ∃ (a st : Addr) (cs : List Colm), vs = [.ref a, .ref st] ∧ ColsAt CC H a cs ∧ cs.length ≤ 100 ∧ Dr H st ∧ ∀ (H' : Hp) (q : Addr) (row : List V), Kp st H H' → H q = none → q ≠ st → H' q = some (.lst row) → RowC cs row → Q (.ref q) H'
def spRowD (CC : Addr) : Sp := fun vs H Q _ => ∃ (a st : Addr) (cs : List Colm), vs = [.ref a, .ref st] ∧ ColsAt CC H a cs ∧ cs.length ≤ 100 ∧ Dr H st ∧ ∀ (H' : Hp) (q : Addr) (row : List V), Kp st H H' → H q = none → q ≠ st → H' q = some (.lst row) → RowN cs row → Q (.ref q) H'
theorem kp_free {st q : Addr} {H H' : Hp} (k : Kp st H H') (hq : H' q = none) : H q = none ∧ q ≠ st := by
  have ne : q ≠ st := fun z => by
    subst z
    obtain ⟨u, hu⟩ := k.dr
    rw [hu] at hq
    cases hq
  refine ⟨?_, ne⟩
  cases hh : H q with
  | none => rfl
  | some o => rw [k.1 _ _ ne hh] at hq; cases hq
theorem cols_kp {CC st : Addr} {H H' : Hp} (k : Kp st H H') (d : Dr H st) {ps : List Addr} {cs : List Colm} (h : Paired (ColAt CC H) ps cs) : Paired (ColAt CC H') ps cs := paired_mono (fun p c ⟨dc, hc⟩ => ⟨dc, k.1 _ _ (by obtain ⟨z, hz⟩ := d; exact ne_of hc hz (by intro q; cases q)) hc⟩) h
theorem lst_ne {ps : List Addr} {st a : Addr} {H : Hp} (d : Dr H st) (h : H a = some (.lst (ps.map V.ref))) : a ≠ st := by
  obtain ⟨z, hz⟩ := d
  refine ne_of h hz (fun q => ?_)
  injection q with q
  cases ps with
  | nil => cases q
  | cons x y => injection q with q _; cases q
theorem cellW_of {k : Kd} {v : V} (h : CellV k v) : CellW k v := by
  cases k with
  | text => obtain ⟨t, rfl, h1, h2⟩ := h; exact ⟨t, rfl, by omega, fun c hc => (h2 c hc).1⟩
  | bool => exact h
  | date => exact h
  | int => exact h
  | dec => exact h
theorem cellN_of {c : Colm} {v : V} (h : Cell c.kind c.nl v) : CellN c v := h.elim (fun z => .inl z) fun z => .inr (cellW_of z)
section
variable {P : Program} {w : World} {K : PySem.W.Frag} {mg : Str → Option Value} {base : Heap} {C fM fP CC IT fCI : Addr} {n : Nat} {tM : Nat}
theorem ok__law_line {f : Addr} {fd : FuncData} (F : Fun K "_law_line" "_law_line" s__law_line f fd) (T : Txt K mg C fM fP) (U : ColT K CC) (C__law_put : Cal P w K mg base CX0 2 "_law_put" spPut) (C__law_value_text : Cal P w K mg base CX0 5 "_law_value_text" spVT) :
    FnOk P w K mg base CX0 6 f fd ["_law_columns_here", "_law_row_here", "_law_separator"] (spLine CC) := by
  refine F.ok sc__law_line (fun vs H Q E h => ?_) (fun cdv A outer s H vs Q E hr h => ?_)
  · obtain ⟨_, _, _, _, _, rfl, _⟩ := h
    rfl
  · obtain ⟨a, r, sep, cs, row, rfl, ⟨ps, ha, hps⟩, hcl, hr1, ⟨hrl, hrow⟩, k⟩ := h
    refine ⟨_, (pss_cons (ps_set (i := 3) sc__law_line.nd rfl (Or.inl rfl) (pe_lst pa_nil))
  (pss_cons (ps_for PassesOwn.never rfl (pi_range1 rfl T.n_range (pa_cons (pe_callB call_len_seq (by rfl) T.n_len PySem.boot_len (pa_cons (pv 0) pa_nil)) pa_nil)) (pg_name (i := 4) sc__law_line.nd rfl (Or.inl rfl)) (pss_one (ps_if (pt_cmpR op_isN (pe_ix ix_list (pv 1) (pv 4) (fun _ _ => rfl)) pe_non (nomark _)) (pss_one (ps_expr (pe_bm PySem.F.plainAttrs_list PySem.F.slot_list_append PySem.F.type_list_append mt_append (pv 3) (pa_cons pe_str pa_nil)))) (pss_one (ps_expr (pe_bm PySem.F.plainAttrs_list PySem.F.slot_list_append PySem.F.type_list_append mt_append (pv 3) (pa_cons (pe_k C__law_put hr (by decide) (by rfl) pass0 (pa_cons (pe_k C__law_value_text hr (by decide) (by rfl) pass0 (pa_cons (pe_fld (pe_ix ix_list (pv 0) (pv 4) (fun _ _ => rfl)) rfl) (pa_cons (pe_ix ix_list (pv 1) (pv 4) (fun _ _ => rfl)) pa_nil))) (pa_cons (pv 2) pa_nil))) pa_nil)))))))
  (pss_one (ps_ret (pe_op op_add_str (pe_join (pv 2) (pv 3)) pe_str))))), ?_⟩
    have lps := paired_len hps
    have lF := rowF_len sep hrl
    refine ⟨Nat.zero_le _, fun L hL => ?_⟩
    have s1 := same_new (o := .lst []) hL
    refine ⟨_, rfl, a, _, rfl, .inl (seqL (s1 _ _ ha)), _, rfl, by omega, by rw [List.length_map]; omega, for_range (lo := 0) (n := (ps.map V.ref).length) (fun i σ H' => ∃ x4 : Option V, σ = [some (.ref a), some (.ref r), some (.str (S [sep])), some (.ref L), x4] ∧ Same H H' ∧ H' L = some (.lst (encV ((rowF sep cs row).take i))))
      ⟨none, rfl, s1, upd_same⟩ ?_ ?_⟩
    · rintro i σ H2 hi ⟨x4, rfl, s2, hL2⟩
      have e0 : (0 : Int) + (i : Int) = (i : Int) := Int.zero_add _
      rw [e0]
      have hi : i < cs.length := by rw [← lps]; simpa using hi
      obtain ⟨c, hc⟩ : ∃ c, cs[i]? = some c := ⟨_, List.getElem?_eq_getElem hi⟩
      obtain ⟨p, hp, ⟨dc, hC⟩⟩ := paired_get2 hps hc
      obtain ⟨v, hv⟩ : ∃ v, row[i]? = some v := ⟨_, List.getElem?_eq_getElem (by omega)⟩
      have hF := rowF_get sep hc hv
      have hcell := hrow i c v hc hv
      have hat2 : atI (ps.map V.ref) ((i : Nat) : Int) = some (.ref p) := atI_nat (by rw [List.getElem?_map, hp]; rfl)
      have hsz : (encV ((rowF sep cs row).take i)).length < sizeLine := lt_sz' (by unfold encV; rw [List.length_map, List.length_take]; omega)
      have hat : atI row ((i : Nat) : Int) = some v := atI_nat hv
      have hnext : ∀ t m, (t, m) = fldW sep c.kind v → encV ((rowF sep cs row).take i) ++ [V.str (S (Sep.enc t m))] = encV ((rowF sep cs row).take (i + 1)) := fun t m h => by
        rw [take_next hF, ← h]
        unfold encV
        rw [List.map_append]
        rfl
      refine ⟨_, rfl, _, rfl, r, _, _, v, rfl, rfl, seqL (s2 _ _ hr1), hat, rfl, _, rfl, ?_⟩
      rcases hcell with ⟨rfl, _⟩ | hcell
      · refine iteT ⟨_, rfl, .inl ⟨rfl, _, seqL hL2⟩, L, _, _, rfl, rfl, hL2, hsz, ?_⟩
        refine ⟨_, rfl, same_mut s2 hL, ?_⟩
        rw [upd_same, c_nil]
        exact congrArg (fun z => some (HO.lst z)) (hnext [] false (by unfold fldW; rw [if_pos rfl]))
      · have hne : ¬ v = .non := fun z => cellW_non (z ▸ hcell)
        rw [decide_eq_false hne]
        refine iteF ⟨_, rfl, .inl ⟨rfl, _, seqL hL2⟩, _, rfl, _, rfl, a, _, _, _, rfl, rfl, seqL (s2 _ _ ha), hat2, p, CC, dc, _, _, rfl, s2 _ _ hC, U.cl, U.nK, cF_kind c, _, rfl, _, rfl, r, _, _, v, rfl, rfl, seqL (s2 _ _ hr1), hat, c.kind, v, rfl, hcell, fun H4 s4 => ⟨_, rfl, valT c.kind v, sep, rfl, by have := valW_len hcell; omega, fun H5 s5 => ?_⟩⟩
        refine ⟨L, _, _, rfl, rfl, s5 _ _ (s4 _ _ hL2), hsz, ?_⟩
        refine ⟨_, rfl, same_mut (same_trans s2 (same_trans s4 s5)) hL, ?_⟩
        rw [upd_same]
        exact congrArg (fun z => some (HO.lst z)) (hnext (valT c.kind v) _ (by unfold fldW; rw [if_neg hne]))
    · rintro σ H2 ⟨x4, rfl, s2, hL2⟩
      have e : (rowF sep cs row).take (ps.map V.ref).length = rowF sep cs row := List.take_of_length_le (by rw [List.length_map]; omega)
      rw [e] at hL2
      have hsum := enc_sum (rowF_text (sep := sep) ⟨hrl, hrow⟩)
      have hlen := encR_le2 (sep := sep) _ (rowF_text (sep := sep) ⟨hrl, hrow⟩)
      rw [lF] at hsum hlen
      have h100 : (2 * 40 + 3) * cs.length ≤ (2 * 40 + 3) * 100 := Nat.mul_le_mul_left _ hcl
      have h101 : (2 * 40 + 2) * cs.length ≤ (2 * 40 + 2) * 100 := Nat.mul_le_mul_left _ hcl
      refine ⟨_, rfl, ⟨_, rfl⟩, _, rfl, _, L, ((rowF sep cs row).map fun p => Sep.enc p.1 p.2).map S, rfl, rfl, .inl (seqL ?_), ?_, _, _, rfl, rfl, ?_, ?_⟩
      · unfold encV at hL2
        rw [List.map_map, List.map_map]
        exact hL2
      · rw [S_len, List.length_map, List.length_map, lF]
        show _ + cs.length * 1 ≤ 16777216
        omega
      · rw [join_S, join_enc, c_nl, S_len, S_len]
        exact lt_sz (by show _ + 1 ≤ 200000; omega)
      · rw [join_S, join_enc, c_nl, S_cat]
        exact k _ s2
theorem ok__law_table_row {f : Addr} {fd : FuncData} (F : Fun K "_law_table_row" "_law_table_row" s__law_table_row f fd) (C__law_column_value : Cal P w K mg base CX0 4 "_law_column_value" (spCV CC)) : FnOk P w K mg base CX0 5 f fd ["_law_columns_here", "_law_state_here"] (spTRow CC) := by
  refine F.ok sc__law_table_row (fun vs H Q E h => ?_) (fun cdv A outer s H vs Q E hr h => ?_)
  · obtain ⟨_, _, _, rfl, _⟩ := h
    rfl
  · obtain ⟨a, st, cs, rfl, ⟨ps, ha, hps⟩, hcl, dr, k⟩ := h
    refine ⟨_, (pss_one (ps_ret (pe_lc (own := [("_law_column", 2)]) (g := gName 2) rfl sc__law_table_row.nd (pi_list (pv 0)) (blkOk_by (own := [("_law_column", 2)]) (N := sc__law_table_row_N) (sc := defScope s__law_table_row) (by decide +kernel)) (fun _ _ _ _ _ => pg_name (i := 2) sc__law_table_row.nd rfl (Or.inl rfl)) (fun _ _ _ _ _ => pts_nil) (fun _ _ _ _ _ => (pe_k C__law_column_value hr (by decide) (by rfl) pass0 (pa_cons (pv 2) (pa_cons (pv 1) pa_nil))))))), ?_⟩
    have lps := paired_len hps
    have has := lst_ne dr ha
    refine ⟨_, rfl, a, rfl, ⟨_, seqL ha⟩, fun D hD => ?_⟩
    have hDf := kp_free (Kp.refl dr) hD
    refine lc_list (xs := ps.map V.ref) (fun i H' => ∃ row : List V, Kp st H H' ∧ H' D = some (.lst row) ∧ row.length = i ∧ ∀ (j : Nat) (c : Colm) (v : V), cs[j]? = some c → row[j]? = some v → Cell c.kind c.nl v) ⟨[], (Kp.refl dr).new hD, upd_same, rfl, fun j c v _ h => by simp at h⟩ (fun i H' _ ⟨_, h, _⟩ => seqL (h.1 _ _ has ha)) ?_ ?_
    · rintro i z H1 hz ⟨row, k1, hD1, hrl, hrow⟩
      rw [List.getElem?_map] at hz
      obtain ⟨p, hp, rfl⟩ := Option.map_eq_some_iff.mp hz
      obtain ⟨c, hc, hC⟩ := paired_get (cols_kp k1 dr hps) hp
      have hic : i < cs.length := (List.getElem?_eq_some_iff.mp hc).1
      refine ⟨rfl, _, rfl, _, rfl, p, st, c, rfl, hC, k1.dr, fun v H2 hv k2 => ⟨_, k2.1 _ _ hDf.2 hD1, lt_sz' (by omega), row ++ [v], (k1.trans k2).mut hD dr, upd_same, by rw [List.length_append, hrl]; rfl, ?_⟩⟩
      intro j d u hj hu
      by_cases hji : j < row.length
      · rw [List.getElem?_append_left hji] at hu
        exact hrow j d u hj hu
      · rw [List.getElem?_append_right (by omega)] at hu
        have : j - row.length = 0 := by
          cases q : j - row.length with
          | zero => rfl
          | succ m => rw [q] at hu; simp at hu
        rw [this] at hu
        have e : j = i := by omega
        rw [e, hc] at hj
        injection hj with hj
        have hu : v = u := by simpa using hu
        subst hj hu
        exact hv
    · rintro H1 ⟨row, k1, hD1, hrl, hrow⟩
      rw [List.length_map, lps] at hrl
      exact k H1 D row k1 hD hDf.2 hD1 ⟨hrl, hrow⟩
theorem ok__law_row {f : Addr} {fd : FuncData} (F : Fun K "_law_row" "_law_row" s__law_row f fd) (T : Txt K mg C fM fP) (U : ColT K CC) (C__law_table_row : Cal P w K mg base CX0 5 "_law_table_row" (spTRow CC)) (C__law_field_text : Cal P w K mg base CX0 2 "_law_field_text" spFText) : FnOk P w K mg base CX0 6 f fd ["_law_columns_here", "_law_state_here"] (spRowD CC) := by
  refine F.ok sc__law_row (fun vs H Q E h => ?_) (fun cdv A outer s H vs Q E hr h => ?_)
  · obtain ⟨_, _, _, rfl, _⟩ := h
    rfl
  · obtain ⟨a, st, cs, rfl, ⟨ps, ha, hps⟩, hcl, dr, k⟩ := h
    refine ⟨_, (pss_cons (ps_set (i := 2) sc__law_row.nd rfl (Or.inl rfl) (pe_k C__law_table_row hr (by decide) (by rfl) pass0 (pa_cons (pv 0) (pa_cons (pv 1) pa_nil))))
  (pss_cons (ps_for PassesOwn.never rfl (pi_range1 rfl T.n_range (pa_cons (pe_callB call_len_seq (by rfl) T.n_len PySem.boot_len (pa_cons (pv 0) pa_nil)) pa_nil)) (pg_name (i := 3) sc__law_row.nd rfl (Or.inl rfl)) (pss_one (ps_if (PW.pt (pw_and (pt_cmpR op_eq (pe_fld (pe_ix ix_list (pv 0) (pv 3) (fun _ _ => rfl)) rfl) pe_str (nomark _)) (pw_and1 (pt_cmpR op_notN (pe_ix ix_list (pv 2) (pv 3) (fun _ _ => rfl)) pe_non (nomark _))))) (pss_one (ps_asg (pe_k C__law_field_text hr (by decide) (by rfl) pass0 (pa_cons (pv 1) pa_nil)) (pg_sub (pv 2) (pv 3) set_list))) pss_nil)))
  (pss_one (ps_ret (pv 2))))), ?_⟩
    have lps := paired_len hps
    have has := lst_ne dr ha
    refine ⟨_, rfl, _, rfl, a, st, cs, rfl, ⟨ps, ha, hps⟩, hcl, dr, fun H1 R row0 k1 hR0 hRs hR1 ⟨hrl0, hrow0⟩ => ?_⟩
    have ha1 := k1.1 _ _ has ha
    refine ⟨_, rfl, a, _, rfl, .inl (seqL ha1), _, rfl, by omega, by rw [List.length_map]; omega, for_range (lo := 0) (n := (ps.map V.ref).length) (fun i σ H' => ∃ (x3 : Option V) (row : List V), σ = [some (.ref a), some (.ref st), some (.ref R), x3] ∧ Kp st H H' ∧ H' R = some (.lst row) ∧ row.length = cs.length ∧ (∀ (j : Nat) (c : Colm) (v : V), cs[j]? = some c → row[j]? = some v → (j < i → CellN c v) ∧ (i ≤ j → Cell c.kind c.nl v)))
      ⟨none, row0, rfl, k1, hR1, hrl0, fun j c v hc hv => ⟨fun z => absurd z (Nat.not_lt_zero _), fun _ => hrow0 j c v hc hv⟩⟩ ?_ ?_⟩
    · rintro i σ H2 hi ⟨x3, row, rfl, k2, hR2, hrl, hrow⟩
      have e0 : (0 : Int) + (i : Int) = (i : Int) := Int.zero_add _
      rw [e0]
      have hi : i < cs.length := by rw [← lps]; simpa using hi
      obtain ⟨c, hc⟩ : ∃ c, cs[i]? = some c := ⟨_, List.getElem?_eq_getElem hi⟩
      obtain ⟨p, hp, ⟨dc, hC⟩⟩ := paired_get2 (cols_kp k2 dr hps) hc
      obtain ⟨v, hv⟩ : ∃ v, row[i]? = some v := ⟨_, List.getElem?_eq_getElem (by omega)⟩
      have hat2 : atI (ps.map V.ref) ((i : Nat) : Int) = some (.ref p) := atI_nat (by rw [List.getElem?_map, hp]; rfl)
      have hat : atI row ((i : Nat) : Int) = some v := atI_nat hv
      have hcell := (hrow i c v hc hv).2 (Nat.le_refl _)
      have keep : ∀ (H3 : Hp), Kp st H H3 → H3 R = some (.lst row) → (∃ (x3 : Option V) (row : List V), [some (V.ref a), some (V.ref st), some (V.ref R), some (V.int (i : Int))] = [some (.ref a), some (.ref st), some (.ref R), x3] ∧ Kp st H H3 ∧ H3 R = some (.lst row) ∧ row.length = cs.length ∧ (∀ (j : Nat) (c : Colm) (v : V), cs[j]? = some c → row[j]? = some v → (j < i + 1 → CellN c v) ∧ (i + 1 ≤ j → Cell c.kind c.nl v))) := fun H3 k3 hR3 =>
        ⟨_, row, rfl, k3, hR3, hrl, fun j d u hj hu => ⟨fun z => by
          by_cases h : j < i
          · exact (hrow j d u hj hu).1 h
          · exact cellN_of ((hrow j d u hj hu).2 (by omega)), fun z => (hrow j d u hj hu).2 (by omega)⟩⟩
      refine ⟨_, rfl, _, rfl, a, _, _, _, rfl, rfl, seqL (k2.1 _ _ has ha), hat2, p, CC, dc, _, _, rfl, hC, U.cl, U.nK, cF_kind c, rfl, _, rfl, ?_⟩
      rw [kd_is c.kind "text" .text rfl]
      by_cases ht : c.kind = .text
      · rw [decide_eq_true ht]
        refine iteT ⟨_, rfl, _, rfl, R, _, _, v, rfl, rfl, seqL hR2, hat, rfl, _, rfl, ?_⟩
        by_cases hvn : v = .non
        · rw [decide_eq_true hvn]
          exact iteF (keep H2 k2 hR2)
        rw [decide_eq_false hvn]
        refine iteT ⟨_, rfl, st, rfl, k2.dr, fun t H3 htl hta k3 => ?_⟩
        have hR3 := k3.1 _ _ hRs hR2
        refine ⟨_, rfl, _, rfl, R, _, _, i, rfl, rfl, hR3, ixn_nat (by omega), ?_⟩
        refine ⟨_, row.set i (.str (S t)), rfl, (k2.trans k3).mut hR0 dr, upd_same, by rw [List.length_set]; exact hrl, fun j d u hj hu => ?_⟩
        by_cases hji : j = i
        · subst hji
          have hd : d = c := by rw [hc] at hj; injection hj with z; exact z.symm
          subst hd
          have hu : u = .str (S t) := by rw [List.getElem?_set_self (by omega)] at hu; injection hu with z; exact z.symm
          subst hu
          exact ⟨fun _ => .inr (by rw [ht]; exact ⟨t, rfl, htl, hta⟩), fun z => absurd z (by omega)⟩
        · rw [List.getElem?_set_ne (fun z => hji z.symm)] at hu
          exact ⟨fun z => (hrow j d u hj hu).1 (by omega), fun z => (hrow j d u hj hu).2 (by omega)⟩
      · rw [decide_eq_false ht]
        exact iteF (iteF (keep H2 k2 hR2))
    · rintro σ H2 ⟨x3, row, rfl, k2, hR2, hrl, hrow⟩
      refine ⟨_, rfl, k H2 R row k2 hR0 hRs hR2 ⟨hrl, fun j c v hc hv => ?_⟩⟩
      have := (List.getElem?_eq_some_iff.mp hc).1
      exact (hrow j c v hc hv).1 (by rw [List.length_map]; omega)
end
end Sb
set_option Elab.async false
set_option maxRecDepth 100000
set_option maxHeartbeats 4000000
/-! Plain law of k83: what is written is read back. -/
namespace Sb
open PySem PySem.Spec PyProof.Rows L2 SX
theorem offs_consS (sep o : Nat) (p : List Nat × Bool) (r : List (List Nat × Bool)) : Sep.offs sep o (p :: r) = ⟨p.1, o, p.2⟩ :: Sep.offs sep (o + (Sep.enc p.1 p.2).length + 1) r := rfl
theorem offs_lenS (sep o : Nat) : ∀ (fs : List (List Nat × Bool)), (Sep.offs sep o fs).length = fs.length
  | [] => rfl
  | p :: r => by rw [offs_consS, List.length_cons, List.length_cons, offs_lenS]
theorem offs_memS {sep : Nat} : ∀ (fs : List (List Nat × Bool)) (o : Nat) (f : Sep.Fld), f ∈ Sep.offs sep o fs → f.off ≤ o + (Sep.encR sep fs).length ∧ ∃ p ∈ fs, f.text = p.1
  | [], _, f, h => nomatch h
  | p :: r, o, f, h => by
    rw [offs_consS] at h
    rcases List.mem_cons.mp h with rfl | h
    · exact ⟨Nat.le_add_right _ _, p, List.mem_cons_self, rfl⟩
    · obtain ⟨h1, q, hq, h2⟩ := offs_memS r _ f h
      refine ⟨?_, q, List.mem_cons_of_mem _ hq, h2⟩
      cases r with
      | nil => cases h
      | cons z r =>
        show f.off ≤ o + (Sep.enc p.1 p.2 ++ sep :: Sep.encR sep (z :: r)).length
        rw [List.length_append, List.length_cons]
        omega
theorem offsT_memS {sep : Nat} : ∀ (rs : List (List (List Nat × Bool))) (o : Nat) (r : List Sep.Fld), r ∈ Sep.offsT sep o rs → ∃ q ∈ rs, r.length = q.length ∧ ∀ f ∈ r, f.off ≤ o + (Sep.encT sep rs).length ∧ ∃ p ∈ q, f.text = p.1
  | [], _, r, h => nomatch h
  | q :: rs, o, r, h => by
    have h : r ∈ Sep.offs sep o q :: Sep.offsT sep (o + (Sep.encR sep q).length + 1) rs := h
    have e : (Sep.encT sep (q :: rs)).length = (Sep.encR sep q).length + 1 + (Sep.encT sep rs).length := by
      show (Sep.encR sep q ++ 10 :: Sep.encT sep rs).length = _
      rw [List.length_append, List.length_cons]
      omega
    rcases List.mem_cons.mp h with rfl | h
    · refine ⟨q, List.mem_cons_self, offs_lenS _ _ _, fun f hf => ?_⟩
      obtain ⟨h1, h2⟩ := offs_memS q o f hf
      exact ⟨by omega, h2⟩
    · obtain ⟨q', hq', h1, h2⟩ := offsT_memS rs _ r h
      refine ⟨q', List.mem_cons_of_mem _ hq', h1, fun f hf => ?_⟩
      obtain ⟨h3, h4⟩ := h2 f hf
      exact ⟨by omega, h4⟩
theorem offs_getS {sep : Nat} : ∀ {fs : List (List Nat × Bool)} {o i : Nat} {p : List Nat × Bool}, fs[i]? = some p → ∃ f, (Sep.offs sep o fs)[i]? = some f ∧ f.text = p.1 ∧ f.mkd = p.2
  | [], _, _, _, h => by simp at h
  | q :: r, o, 0, p, h => by
    injection h with h
    subst h
    exact ⟨_, rfl, rfl, rfl⟩
  | q :: r, o, i + 1, p, h => offs_getS (fs := r) (i := i) h
theorem read_fld {sep : Nat} {c : Colm} {v : V} (h : CellN c v) : readField (fldW sep c.kind v).1 (fldW sep c.kind v).2 c.kind c.nl = .ok v := by
  unfold fldW
  rcases h with ⟨rfl, hn⟩ | h
  · rw [if_pos rfl]
    show readField [] false c.kind c.nl = _
    rw [hn]
    rfl
  · rw [if_neg (fun z => cellW_non (z ▸ h))]
    have hm : valT c.kind v = [] → markP sep (valT c.kind v) = true := fun z => by rw [z]; rfl
    have other : CellV c.kind v → readField (valT c.kind v) (markP sep (valT c.kind v)) c.kind c.nl = .ok v := fun hv => val_back hv hm
    cases hk : c.kind with
    | text =>
      rw [hk] at h hm
      obtain ⟨t, rfl, hl, _⟩ := h
      have e : valT .text (.str (S t)) = t := rfl
      rw [e] at hm ⊢
      show readField t (markP sep t) .text c.nl = _
      unfold readField
      rw [if_neg (fun z => by rw [hm z.1] at z; cases z.2)]
      show (if t.length > 10000 then _ else _) = _
      rw [if_neg (by omega)]
    | bool => rw [hk] at other h; exact other h
    | date => rw [hk] at other h; exact other h
    | int => rw [hk] at other h; exact other h
    | dec => rw [hk] at other h; exact other h
theorem rowGo_all {cs : List Colm} {row : List V} {fl : List Sep.Fld} (h1 : fl.length = cs.length) (h2 : row.length = cs.length) (hf : ∀ (i : Nat) (f : Sep.Fld) (c : Colm) (v : V), fl[i]? = some f → cs[i]? = some c → row[i]? = some v → readField f.text f.mkd c.kind c.nl = .ok v) :
    ∀ (m k : Nat), k + m = cs.length → rowGo cs ((fl.zip (List.range cs.length)).drop k) (row.take k ++ List.replicate m .non) = .ok row
  | 0, k, e => by
    have e0 : k = cs.length := by omega
    subst e0
    rw [List.drop_eq_nil_of_le (by rw [List.length_zip, List.length_range]; omega), List.take_of_length_le (by omega)]
    show Except.ok (row ++ []) = _
    rw [List.append_nil]
  | m + 1, k, e => by
    have hk : k < cs.length := by omega
    obtain ⟨f, hfk⟩ : ∃ f, fl[k]? = some f := ⟨_, List.getElem?_eq_getElem (by omega)⟩
    obtain ⟨c, hc⟩ : ∃ c, cs[k]? = some c := ⟨_, List.getElem?_eq_getElem hk⟩
    obtain ⟨v, hv⟩ : ∃ v, row[k]? = some v := ⟨_, List.getElem?_eq_getElem (by omega)⟩
    have hz : (fl.zip (List.range cs.length))[k]? = some (f, k) := by
      rw [List.getElem?_zip_eq_some]
      exact ⟨hfk, by rw [List.getElem?_range hk]⟩
    rw [drop_at2 hz]
    simp only [rowGo, hc, hf k f c v hfk hc hv]
    have es : (row.take k ++ List.replicate (m + 1) V.non).set k v = row.take (k + 1) ++ List.replicate m V.non := by
      have hl : (row.take k).length = k := by rw [List.length_take]; omega
      rw [List.set_append, if_neg (by omega), hl, Nat.sub_self, List.replicate_succ, List.set_cons_zero, take_next hv, List.append_assoc]
      rfl
    rw [es]
    exact rowGo_all h1 h2 hf m (k + 1) (by omega)
theorem readRow_all {sep : Nat} {cs : List Colm} {row : List V} (h : RowN cs row) (o : Nat) : readRow cs (List.range cs.length) (Sep.offs sep o (rowF sep cs row)) = .ok row := by
  unfold readRow
  have hl : (Sep.offs sep o (rowF sep cs row)).length = cs.length := by rw [offs_lenS, rowF_len sep h.1]
  rw [if_neg (by rw [hl, List.length_range]; simp)]
  have := rowGo_all hl h.1 (fun i f c v hf hc hv => by
    obtain ⟨f', hf', h1, h2⟩ := offs_getS (sep := sep) (o := o) (rowF_get sep hc hv)
    rw [hf'] at hf
    injection hf with hf
    subst hf
    rw [h1, h2]
    exact read_fld (h.2 i c v hc hv)) cs.length 0 (by omega)
  rw [List.drop_zero, List.take_zero, List.nil_append] at this
  exact this
theorem rowsGo_all {sep : Nat} {cs : List Colm} : ∀ {rows : List (List V)} (o : Nat) (acc : List (List V)), (∀ r ∈ rows, RowN cs r) → rowsGo cs (List.range cs.length) (Sep.offsT sep o (rows.map (rowF sep cs))) acc = .ok (acc ++ rows)
  | [], o, acc, _ => by rw [List.append_nil]; rfl
  | r :: rs, o, acc, h => by
    show rowsGo cs (List.range cs.length) (Sep.offs sep o (rowF sep cs r) :: Sep.offsT sep (o + (Sep.encR sep (rowF sep cs r)).length + 1) (rs.map (rowF sep cs))) acc = _
    simp only [rowsGo, readRow_all (sep := sep) (h r List.mem_cons_self) o]
    rw [rowsGo_all (rows := rs) _ _ fun q hq => h q (List.mem_cons_of_mem _ hq), List.append_assoc]
    rfl
def Uniq (cs : List Colm) : Prop := ∀ (i j : Nat) (c d : Colm), cs[i]? = some c → cs[j]? = some d → c.name = d.name → i = j
theorem colNo_uniq : ∀ {cs : List Colm} {i : Nat} {c : Colm}, Uniq cs → cs[i]? = some c → colNo c.name cs = some i
  | [], _, _, _, h => by simp at h
  | d :: r, 0, c, _, h => by
    injection h with h
    subst h
    unfold colNo
    rw [if_pos rfl]
  | d :: r, i + 1, c, hu, h => by
    unfold colNo
    rw [if_neg (fun z => by have := hu 0 (i + 1) d c rfl h z; omega), colNo_uniq (cs := r) (i := i) (fun a b x y h1 h2 h3 => by have := hu (a + 1) (b + 1) x y h1 h2 h3; omega) h]
    rfl
theorem headGo_all {sep o : Nat} {cs : List Colm} (hu : Uniq cs) : ∀ (m k : Nat), k + m = cs.length → headGo cs ((Sep.offs sep o (headF sep cs)).drop k) (List.range k) = .ok (List.range cs.length)
  | 0, k, e => by
    have e0 : k = cs.length := by omega
    subst e0
    rw [List.drop_eq_nil_of_le (by rw [offs_lenS]; unfold headF; rw [List.length_map]; omega)]
    rfl
  | m + 1, k, e => by
    obtain ⟨c, hc⟩ : ∃ c, cs[k]? = some c := ⟨_, List.getElem?_eq_getElem (by omega)⟩
    have hF : (headF sep cs)[k]? = some (c.name, markP sep c.name) := by unfold headF; rw [List.getElem?_map, hc]; rfl
    obtain ⟨f, hf, h1, _⟩ := offs_getS (sep := sep) (o := o) hF
    rw [drop_at2 hf]
    simp only [headGo, h1, colNo_uniq hu hc]
    rw [if_neg (fun z => absurd (List.mem_range.mp z) (Nat.lt_irrefl _)), ← List.range_succ]
    exact headGo_all hu m (k + 1) (by omega)
theorem missGo_all {ns : List Nat} : ∀ {cs : List Colm} {k : Nat}, (∀ j, j < cs.length → k + j ∈ ns) → missGo ns k cs = none
  | [], _, _ => rfl
  | c :: r, k, h => by
    unfold missGo
    rw [if_neg (fun z => z.1 (h 0 (Nat.zero_lt_succ _)))]
    exact missGo_all (cs := r) fun j hj => by
      have := h (j + 1) (Nat.succ_lt_succ hj)
      rw [show k + 1 + j = k + (j + 1) by omega]
      exact this
theorem readAll_back {sep : Nat} {hd : Bool} {cs : List Colm} {rows : List (List V)} (hu : Uniq cs) (h : ∀ r ∈ rows, RowN cs r) : readAll cs hd (Sep.offsT sep 0 (recsW sep hd cs rows)) = .ok rows := by
  unfold readAll recsW
  cases hd with
  | false =>
    rw [if_neg (by decide), if_neg (by decide), List.nil_append]
    exact rowsGo_all 0 [] h
  | true =>
    rw [if_pos rfl, if_pos rfl]
    have e : Sep.offsT sep 0 ([headF sep cs] ++ rows.map (rowF sep cs)) = Sep.offs sep 0 (headF sep cs) :: Sep.offsT sep (0 + (Sep.encR sep (headF sep cs)).length + 1) (rows.map (rowF sep cs)) := rfl
    have h1 := headGo_all (sep := sep) (o := 0) hu cs.length 0 (by omega)
    rw [List.drop_zero] at h1
    have h2 : missGo (List.range cs.length) 0 cs = none := missGo_all fun j hj => by rw [Nat.zero_add]; exact List.mem_range.mpr hj
    rw [e, head_ok h1 h2]
    exact rowsGo_all _ [] h
end Sb
set_option Elab.async false
set_option maxRecDepth 100000
set_option maxHeartbeats 4000000
namespace Sb
open PySem PySem.Spec PyProof.Rows L2 SX
abbrev s_law : Stmt := top 66
abbrev sc_law_N : List Str := ["_law_script", "_law_state_here", "_law_columns_here", "_law_separator", "_law_head", "_law_rows", "_law_pairs", "_law_given", "_law_told", "_law_due", "_law_back", "_law_k", "_law_column", "_law_row_here", "_law_name", "_law_kind"]
theorem sc_law : FnScope sc_law_N ["_law_script"] (defScope s_law) := ⟨rfl, rfl, rfl, by decide +kernel, rfl, by decide +kernel, by decide +kernel⟩
def spLaw (K : PySem.W.Frag) : Sp := fun vs H Q _ => ∃ (a : Addr) (ns : List Int), vs = [.ref a] ∧ SqL K H a (ns.map V.int) ∧ ns.length ≤ 63 ∧ ∀ H', Q (.bl true) H'
/-- the columns' names -/
def NamesW (sep : Nat) (cs : List Colm) : Prop := ∀ (i : Nat) (c : Colm), cs[i]? = some c → c.name = nameOf i ∨ (i = 0 ∧ c.name = [97, sep, 34, 98])
theorem nameW_inj {i j : Nat} (h : nameOf i = nameOf j) : i = j := by
  unfold nameOf at h
  injection h with _ h
  have := congrArg num h
  rwa [num_digs, num_digs] at this
theorem namesW_uniq {sep : Nat} {cs : List Colm} (h : NamesW sep cs) : Uniq cs := fun i j c d hi hj e => by
  have ne : ∀ k, nameOf k ≠ [97, sep, 34, 98] := fun k z => by
    unfold nameOf at z
    injection z with z _
    exact absurd z (by decide)
  rcases h i c hi with h1 | ⟨h1, h1'⟩ <;> rcases h j d hj with h2 | ⟨h2, h2'⟩
  · exact nameW_inj (by rw [← h1, e, h2])
  · exact absurd (by rw [← h1, e, h2']) (ne i)
  · exact absurd (by rw [← h2, ← e, h1']) (ne j)
  · omega
theorem namesW_len {sep : Nat} {cs : List Colm} (h : NamesW sep cs) (hs : sep < 128) (hl : cs.length ≤ 100) : ∀ c ∈ cs, c.name.length ≤ 40 ∧ ∀ x ∈ c.name, x < 128 := fun c hc => by
  obtain ⟨i, hi⟩ := List.mem_iff_getElem?.mp hc
  have hi2 := (List.getElem?_eq_some_iff.mp hi).1
  rcases h i c hi with e | ⟨_, e⟩
  · rw [e]
    refine ⟨?_, fun x hx => ?_⟩
    · show (digs i).length + 1 ≤ 40
      have := digs_le (n := i) (k := 3) (by decide) (by omega)
      omega
    · rcases List.mem_cons.mp hx with rfl | hx
      · decide
      · exact isd_lt (digs_isd i) x hx
  · rw [e]
    refine ⟨by show 4 ≤ 40; decide, fun x hx => ?_⟩
    simp at hx
    omega
theorem paired_set {α β : Type} {F : α → β → Prop} {a : α} {b : β} (h : F a b) : ∀ {l : List α} {m : List β} (i : Nat), Paired F l m → Paired F (l.set i a) (m.set i b)
  | _, _, _, .nil => .nil
  | _, _, 0, .cons _ t => .cons h t
  | _, _, i + 1, .cons z t => .cons z (paired_set h i t)
theorem c_comma44 : Str.ofString "," = S [44] := by decide +kernel
theorem cellN_scal {c : Colm} {v : V} (h : CellN c v) : Scal v := by
  rcases h with ⟨rfl, _⟩ | h
  · trivial
  cases hk : c.kind with
  | text =>
    rw [hk] at h
    obtain ⟨t, rfl, _, h2⟩ := h
    show (S t).cps.all (· < 0x110000) = true
    rw [← Array.all_toList]
    show t.all _ = true
    exact List.all_eq_true.mpr fun c hc => decide_eq_true (Nat.lt_trans (h2 c hc) (by decide))
  | bool => rw [hk] at h; exact cell_scal (nl := true) (k := .bool) (.inr h)
  | date => rw [hk] at h; exact cell_scal (nl := true) (k := .date) (.inr h)
  | int => rw [hk] at h; exact cell_scal (nl := true) (k := .int) (.inr h)
  | dec => rw [hk] at h; exact cell_scal (nl := true) (k := .dec) (.inr h)
theorem rowN_scal {cs : List Colm} {row : List V} (h : RowN cs row) : ∀ v ∈ row, Scal v := fun v hv => by
  obtain ⟨i, hi⟩ := List.mem_iff_getElem?.mp hv
  have hl := (List.getElem?_eq_some_iff.mp hi).1
  obtain ⟨c, hc⟩ : ∃ c, cs[i]? = some c := ⟨_, List.getElem?_eq_getElem (by rw [← h.1]; exact hl)⟩
  exact cellN_scal (h.2 i c v hc hi)
theorem valW_asc {k : Kd} {v : V} (h : CellW k v) : ∀ x ∈ valT k v, x < 128 := by
  cases k with
  | text => obtain ⟨t, rfl, _, h2⟩ := h; exact h2
  | bool => exact fun x hx => ((valT_pl (k := .bool) h).1 x hx).1
  | date => exact fun x hx => ((valT_pl (k := .date) h).1 x hx).1
  | int => exact fun x hx => ((valT_pl (k := .int) h).1 x hx).1
  | dec => exact fun x hx => ((valT_pl (k := .dec) h).1 x hx).1
theorem mark_okf {sep : Nat} (t : List Nat) : Sep.Okf sep (t, markP sep t) := fun h => by
  obtain ⟨_, h1, h2, h3⟩ := mustN.mp h
  exact fun c hc => ⟨fun z => h1 (z ▸ hc), fun z => h3 (z ▸ hc), fun z => h2 (z ▸ hc)⟩
theorem rowF_okf {sep : Nat} : ∀ {cs : List Colm} {row : List V}, RowN cs row → ∀ p ∈ rowF sep cs row, Sep.Okf sep p ∧ p.1.length ≤ 40 ∧ ∀ x ∈ p.1, x < 128
  | [], _, _, _, hp => by unfold rowF at hp; cases hp
  | _ :: _, [], _, _, hp => by unfold rowF at hp; cases hp
  | c :: cs, v :: vs, ⟨hl, h⟩, p, hp => by
    rcases List.mem_cons.mp (show p ∈ fldW sep c.kind v :: rowF sep cs vs from hp) with rfl | hp
    · have hv := h 0 c v rfl rfl
      unfold fldW
      rcases hv with ⟨rfl, _⟩ | hv
      · rw [if_pos rfl]
        exact ⟨fun _ c hc => (nomatch hc), Nat.zero_le _, fun x hx => (nomatch hx)⟩
      · rw [if_neg (fun z => cellW_non (z ▸ hv))]
        exact ⟨mark_okf _, valW_len hv, valW_asc hv⟩
    · exact rowF_okf (cs := cs) (row := vs) ⟨by simpa using hl, fun i c' v' h1 h2 => h (i + 1) c' v' h1 h2⟩ p hp
/-- the records that are written -/
theorem recsW_ok {sep : Nat} {hd : Bool} {cs : List Colm} {rows : List (List V)} (h0 : cs ≠ []) (hn : ∀ c ∈ cs, c.name.length ≤ 40 ∧ ∀ x ∈ c.name, x < 128) (h : ∀ r ∈ rows, RowN cs r) : ∀ q ∈ recsW sep hd cs rows, q.length = cs.length ∧ ∀ p ∈ q, Sep.Okf sep p ∧ p.1.length ≤ 40 ∧ ∀ x ∈ p.1, x < 128 := fun q hq => by
  unfold recsW at hq
  rcases List.mem_append.mp hq with z | z
  · cases hd with
    | false => rw [if_neg (by decide)] at z; cases z
    | true =>
      rw [if_pos rfl] at z
      have : q = headF sep cs := by simpa using z
      subst this
      refine ⟨List.length_map .., fun p hp => ?_⟩
      obtain ⟨c, hc, rfl⟩ := List.mem_map.mp hp
      exact ⟨mark_okf _, (hn c hc).1, (hn c hc).2⟩
  · obtain ⟨r, hr, rfl⟩ := List.mem_map.mp z
    exact ⟨rowF_len sep (h r hr).1, rowF_okf (h r hr)⟩
def SepS (sep : Nat) : Prop := sep = 44 ∨ sep = 59 ∨ sep = 49
section
variable {P : Program} {w : World} {K : PySem.W.Frag} {mg : Str → Option Value} {base : Heap} {C fM fP CC IT fCI : Addr} {n : Nat} {tM : Nat}
theorem ok_law {f : Addr} {fd fdC : FuncData} (F : Fun K "law" "law" s_law f fd) (T : Txt K mg C fM fP) (U : ColT K CC) (gCol : mg "Column" = some (.ref CC)) (MC : Mk K CC fCI) (GC : FnOk P w K mg base CX0 1 fCI fdC ["self", "name", "kind", "nullable"] (spCol CC)) (bC : Binds K fdC ["self", "name", "kind", "nullable"] [])
    (C__law_cell : Cal P w K mg base CX0 1 "_law_cell" (spCell K)) (C__law_state : Cal P w K mg base CX0 1 "_law_state" spState) (C__law_digit : Cal P w K mg base CX0 1 "_law_digit" spDigit)
    (C__law_columns : Cal P w K mg base CX0 3 "_law_columns" (spCols CC)) (C__law_row : Cal P w K mg base CX0 6 "_law_row" (spRowD CC)) (C__law_line : Cal P w K mg base CX0 6 "_law_line" (spLine CC)) (C__law_put : Cal P w K mg base CX0 2 "_law_put" spPut) (C__law_same_rows : Cal P w K mg base CX0 3 "_law_same_rows" spSameV)
    {fR : Addr} {fdR : FuncData} {gr : List Value → List Value → List Value} (FR : FnOk P w K mg base (L2.CX P w) 8 fR fdR ["text", "columns", "separator", "head"] (spSep C CC IT)) (gR : mg "read_separated" = some (.ref fR)) (kR : PySem.W.keepIn K (.ref fR) = true)
    (bR2 : KBn K fdR ["text", "columns", "separator", "head"] 2 ["separator", "head"] gr (fun vs zs => vs ++ zs))
    {fW : Addr} {fdW : FuncData} {g2 g0 : List Value → List Value → List Value} (FW : FnN n P w K mg base CX0 7 fW fdW ["columns", "rows", "separator", "head"] spWS) (gW : mg "write_separated" = some (.ref fW)) (kW : PySem.W.keepIn K (.ref fW) = true)
    (bW2 : KBn K fdW ["columns", "rows", "separator", "head"] 2 ["separator", "head"] g2 (fun vs zs => vs ++ zs)) (bW0 : KBn K fdW ["columns", "rows", "separator", "head"] 2 [] g0 (fun vs _ => vs ++ [.str ",", .bl true])) : FnN n P w K mg base CX0 9 f fd ["_law_script"] (spLaw K) := by
  refine okN F sc_law (fun vs H Q E h => ?_) (fun cdv A outer s H vs Q E hr h => ?_)
  · obtain ⟨_, _, rfl, _⟩ := h
    rfl
  · obtain ⟨a, ns, rfl, hS, hns, kk⟩ := h
    refine ⟨_, (pssn_cons (psn_of (ps_set (i := 1) sc_law.nd rfl (Or.inl rfl) (pe_k C__law_state hr (by decide) (by rfl) pass0 (pa_cons (pe_k C__law_cell hr (by decide) (by rfl) pass0 (pa_cons (pv 0) (pa_cons pe_int pa_nil))) (pa_cons pe_int pa_nil)))))
  (pssn_cons (psn_of (ps_set (i := 2) sc_law.nd rfl (Or.inr rfl) (pe_k C__law_columns hr (by decide) (by rfl) pass0 (pa_cons (pv 1) pa_nil))))
  (pssn_cons (psn_of (ps_set (i := 3) sc_law.nd rfl (Or.inr rfl) (pe_ix ix_tup (pe_tup (pa_cons pe_str (pa_cons pe_str (pa_cons pe_str pa_nil)))) (pe_k C__law_digit hr (by decide) (by rfl) pass0 (pa_cons (pv 1) (pa_cons pe_int pa_nil))) (fun _ _ => rfl))))
  (pssn_cut (psn_of (ps_if (pt_cmpR op_eq (pe_k C__law_digit hr (by decide) (by rfl) pass0 (pa_cons (pv 1) (pa_cons pe_int pa_nil))) pe_int (nomark _)) (pss_one (ps_asg (pe_make MC GC (hr.mono (by decide)) (by rfl) gCol bC .nil pass0 (pa_cons (pe_op op_add_str (pe_op op_add_str pe_str (pv 3)) pe_str) (pa_cons (pe_fld (pe_ix ix_list (pv 2) pe_int (fun _ _ => rfl)) rfl) (pa_cons (pe_fld (pe_ix ix_list (pv 2) pe_int (fun _ _ => rfl)) rfl) pa_nil)))) (pg_sub (pv 2) pe_int set_list))) pss_nil))
  (pssn_cons (psn_of (ps_set (i := 4) sc_law.nd rfl (Or.inl rfl) (pe_cmpR op_eq (pe_k C__law_digit hr (by decide) (by rfl) pass0 (pa_cons (pv 1) (pa_cons pe_int pa_nil))) pe_int (nomark _))))
  (pssn_cons (psn_of (ps_setLc (i := 5) (own := [("_law_k", 11)]) (g := gName 11) rfl sc_law.nd rfl rfl (sw_true rfl rfl rfl (by decide +kernel)) (pi_range1 rfl T.n_range (pa_cons (pe_callB (call_min2 rfl) (by rfl) T.n_min (by decide +kernel) (pa_cons pe_int (pa_cons (pe_callB call_len_seq (by rfl) T.n_len PySem.boot_len (pa_cons (pv 0) pa_nil)) pa_nil))) pa_nil)) (blkOk_by (own := [("_law_k", 11)]) (N := sc_law_N) (sc := defScope s_law) (by decide +kernel)) (fun _ _ _ _ _ => pg_name (i := 11) sc_law.nd rfl (Or.inl rfl)) (fun _ _ _ _ _ => pts_nil) (fun _ _ _ _ _ => (pe_k C__law_row hr (by decide) (by rfl) pass0 (pa_cons (pv 2) (pa_cons (pe_k C__law_state hr (by decide) (by rfl) pass0 (pa_cons (pe_ix ix_list (pv 0) (pv 11) (fun _ _ => rfl) : PE _ _ (tOp (rIxL K) (tVar 0) (tVar 11))) (pa_cons (pe_op op_add pe_int (pv 11)) pa_nil))) pa_nil))))))
  (pssn_cons (psn_of (ps_setLc (i := 6) (own := [("_law_column", 12)]) (g := gName 12) rfl sc_law.nd rfl rfl (sw_true rfl rfl rfl (by decide +kernel)) (pi_list (pv 2)) (blkOk_by (own := [("_law_column", 12)]) (N := sc_law_N) (sc := defScope s_law) (by decide +kernel)) (fun _ _ _ _ _ => pg_name (i := 12) sc_law.nd rfl (Or.inl rfl)) (fun _ _ _ _ _ => pts_nil) (fun _ _ _ _ _ => (pe_tup (pa_cons (pe_fld (pv 12) rfl) (pa_cons (pe_fld (pv 12) rfl) pa_nil)) : PE _ _ (tTup (tCons (tFld K (tVar 12) "name") (tCons (tFld K (tVar 12) "kind") tNil)))))))
  (pssn_cons (psn_of (ps_setLc (i := 7) (own := [("_law_row_here", 13)]) (g := gName 13) rfl sc_law.nd rfl rfl (sw_true rfl rfl rfl (by decide +kernel)) (pi_list (pv 5)) (blkOk_by (own := [("_law_row_here", 13)]) (N := sc_law_N) (sc := defScope s_law) (by decide +kernel)) (fun _ _ _ _ _ => pg_name (i := 13) sc_law.nd rfl (Or.inl rfl)) (fun _ _ _ _ _ => pts_nil) (fun _ _ _ _ _ => (pe_callTy (T := "list") call_list_of (by rfl) T.n_list (by decide +kernel) (pa_cons (pv 13) pa_nil) : PE _ _ (tCB (fun xs H Q => ∃ p ys, xs = [V.ref p] ∧ (SqL K H p ys ∨ SqT K H p ys) ∧ ∀ l, H l = none → Q (V.ref l) (upd H l (.lst ys))) (tCons (tVar 13) tNil))))))
  (pssn_cons (psn_set (i := 8) sc_law.nd rfl (Or.inl rfl) (pen_callNS (E := fun _ => E0) FW (hr.mono (by decide)) (by rfl) gW kW bW2 (fun _ _ _ _ _ _ _ h => h.elim) (pa_cons (pv 6) (pa_cons (pv 7) pa_nil)) (pk_cons (pv 3) (pk_cons (pv 4) pk_nil))))
  (pssn_cons (psn_of (ps_set (i := 9) sc_law.nd rfl (Or.inl rfl) (pe_join pe_str (pe_lc (own := [("_law_row_here", 13)]) (g := gName 13) rfl sc_law.nd (pi_list (pv 5)) (blkOk_by (own := [("_law_row_here", 13)]) (N := sc_law_N) (sc := defScope s_law) (by decide +kernel)) (fun _ _ _ _ _ => pg_name (i := 13) sc_law.nd rfl (Or.inl rfl)) (fun _ _ _ _ _ => pts_nil) (fun _ _ _ _ _ => (pe_k C__law_line hr (by decide) (by rfl) pass0 (pa_cons (pv 2) (pa_cons (pv 13) (pa_cons (pv 3) pa_nil)))))))))
  (pssn_cut (psn_of (ps_if (pt_val (pv 4)) (pss_one (ps_set (i := 9) sc_law.nd rfl (Or.inl rfl) (pe_op op_add_str (pe_op op_add_str (pe_join (pv 3) (pe_lc (own := [("_law_name", 14), ("_law_kind", 15)]) (g := gTup K 2 (gCons (gName 14) (gCons (gName 15) gNil))) rfl sc_law.nd (pi_list (pv 6)) (blkOk_by (own := [("_law_name", 14), ("_law_kind", 15)]) (N := sc_law_N) (sc := defScope s_law) (by decide +kernel)) (fun _ _ _ _ _ => pg_tup (by rfl) (pgs_cons (pg_name (i := 14) sc_law.nd rfl (Or.inl rfl)) (pgs_cons (pg_name (i := 15) sc_law.nd rfl (Or.inl rfl)) pgs_nil))) (fun _ _ _ _ _ => pts_nil) (fun _ _ _ _ _ => (pe_k C__law_put hr (by decide) (by rfl) pass0 (pa_cons (pv 14) (pa_cons (pv 3) pa_nil)))))) pe_str) (pv 9)))) pss_nil))
  (pssn_cons (psn_of (ps_if (PW.pt (pw_or (pt_not (pt_val (pe_callB call_isi (by rfl) T.n_isinstance (by decide +kernel) (pa_cons (pv 8) (pa_cons (pe_bltn (by rfl) T.n_str (by decide +kernel) (show RelV (.ty "str") (.type "str") from rfl)) pa_nil))))) (pw_or (pt_cmpR op_ne (pv 8) (pv 9) (nomark _)) (pw_or1 (pt_not (pt_val (pe_k C__law_same_rows hr (by decide) (by rfl) pass0 (pa_cons (pv 7) (pa_cons (pv 5) pa_nil))))))))) (pss_one (ps_ret pe_bl)) pss_nil))
  (pssn_cons (psn_of (ps_set (i := 10) sc_law.nd rfl (Or.inl rfl) (pe_callNS FR (hr.mono (by decide)) (by rfl) gR kR bR2 (fun σ => passAt takes0 σ) (pa_cons (pv 8) (pa_cons (pv 2) pa_nil)) (pk_cons (pv 3) (pk_cons (pv 4) pk_nil)))))
  (pssn_cons (psn_of (ps_if (pt_not (pt_val (pe_k C__law_same_rows hr (by decide) (by rfl) pass0 (pa_cons (pv 10) (pa_cons (pv 5) pa_nil))))) (pss_one (ps_ret pe_bl)) pss_nil))
  (pssn_cons (psn_if (ptn_cmp op_ne (pen_callNS (E := fun _ => E0) FW (hr.mono (by decide)) (by rfl) gW kW bW2 (fun _ _ _ _ _ _ _ h => h.elim) (pa_cons (pv 6) (pa_cons (pv 10) pa_nil)) (pk_cons (pv 3) (pk_cons (pv 4) pk_nil))) (pen_of (pv 8)) (nomark _)) (pssn_of (pss_one (ps_ret pe_bl))) pssn_nil)
  (pssn_one (psn_ret (pen_cmp op_eq (pen_callNS (E := fun _ => E0) FW (hr.mono (by decide)) (by rfl) gW kW bW0 (fun _ _ _ _ _ _ _ h => h.elim) (pa_cons (pv 6) (pa_cons (pv 5) pa_nil)) pk_nil) (pen_callNS (E := fun _ => E0) FW (hr.mono (by decide)) (by rfl) gW kW bW2 (fun _ _ _ _ _ _ _ h => h.elim) (pa_cons (pv 6) (pa_cons (pv 5) pa_nil)) (pk_cons pe_str (pk_cons pe_bl pk_nil))) (nomark _))))))))))))))))))), ?_⟩
    refine ⟨_, rfl, a, ns, 0, rfl, hS, fun z0 => ⟨z0, 0, rfl, fun st y0 hst => ?_⟩⟩
    have D1 : Dr (upd H st (.lst [.int y0])) st := ⟨_, upd_same⟩
    have s1 : Same H (upd H st (.lst [.int y0])) := same_new hst
    refine ⟨_, rfl, st, rfl, D1, fun H2 cl cs0 k2 hcl0 hcls ⟨ps, hcl, hps⟩ hc1 hc3 hnm => ?_⟩
    have s2 := kp_same s1 hst k2
    have hclH : H cl = none := Same.free s1 hcl0
    refine ⟨lt_sz (show 3 ≤ 200000 by decide), fun t0 ht0 => ?_⟩
    have s3 := same_new (o := .tup [.str (Str.ofString ","), .str (Str.ofString ";"), .str (Str.ofString "1")]) ht0
    have k3 := k2.same s3
    refine ⟨_, rfl, st, 3, rfl, k3.dr, by decide, by decide, fun d H3 d0 d1 k4 => ?_⟩
    have hT1 : H3 t0 = some (.tup [.str (Str.ofString ","), .str (Str.ofString ";"), .str (Str.ofString "1")]) := k4.1 _ _ (kp_free k2 ht0).2 upd_same
    obtain ⟨sep, hsep, hatI⟩ : ∃ sep : Nat, SepS sep ∧ atI [V.str (Str.ofString ","), V.str (Str.ofString ";"), V.str (Str.ofString "1")] d = some (V.str (S [sep])) := by
      have e1 : (Str.ofString ",") = S [44] := by decide +kernel
      have e2 : (Str.ofString ";") = S [59] := by decide +kernel
      have e3 : (Str.ofString "1") = S [49] := by decide +kernel
      rw [e1, e2, e3]
      have : d = 0 ∨ d = 1 ∨ d = 2 := by omega
      rcases this with rfl | rfl | rfl
      · exact ⟨44, .inl rfl, rfl⟩
      · exact ⟨59, .inr (.inl rfl), rfl⟩
      · exact ⟨49, .inr (.inr rfl), rfl⟩
    refine ⟨t0, _, _, _, rfl, rfl, seqT hT1, hatI, ?_⟩
    have k34 := k3.trans k4
    have k24 := ((Kp.refl k2.dr).same s3).trans k4
    have hcl3 := k24.1 _ _ hcls hcl
    have hps3 := cols_kp k24 k2.dr hps
    have hs128 : sep < 128 := by unfold SepS at hsep; omega
    refine ⟨fun σ' H' => ∃ cs : List Colm, σ' = [some (.ref a), some (.ref st), some (.ref cl), some (.str (S [sep])), none, none, none, none, none, none, none, none, none, none, none, none] ∧ Kp st (upd H st (.lst [.int y0])) H' ∧ ColsAt CC H' cl cs ∧ cs.length = cs0.length ∧ NamesW sep cs, ?_, ?_⟩
    · refine ⟨_, rfl, st, 3, rfl, k4.dr, by decide, by decide, fun d2 H4 _ _ k5 => ⟨rfl, _, rfl, ?_⟩⟩
      have hcl4 := k5.1 _ _ hcls hcl3
      have hps4 := cols_kp k5 k4.dr hps3
      refine ite2 (fun _ => ?_) (fun _ => ⟨cs0, rfl, k34.trans k5, ⟨ps, hcl4, hps4⟩, rfl, fun i c hc => .inl (hnm i c hc)⟩)
      obtain ⟨c0, hc0⟩ : ∃ c, cs0[0]? = some c := ⟨_, List.getElem?_eq_getElem (by omega)⟩
      obtain ⟨p0, hp0, ⟨dc0, hC0⟩⟩ := paired_get2 hps4 hc0
      have hat : atI (ps.map V.ref) 0 = some (.ref p0) := atI2 (j := 0) rfl (by rw [List.getElem?_map, hp0]; rfl)
      have ea : Str.ofString "a" = S [97] := by decide +kernel
      have eb : Str.ofString "\"b" = S [34, 98] := by decide +kernel
      refine ⟨_, rfl, _, _, rfl, rfl, ?_, _, _, rfl, rfl, ?_, _, rfl, cl, _, _, _, rfl, rfl, seqL hcl4, hat, p0, CC, dc0, _, _, rfl, hC0, U.cl, U.nK, cF_kind c0, _, rfl, cl, _, _, _, rfl, rfl, seqL hcl4, hat, p0, CC, dc0, _, _, rfl, hC0, U.cl, U.nL, cF_nl c0, ?_⟩
      · rw [ea, S_len, S_len]; exact lt_sz (by show 1 + 1 ≤ 200000; decide)
      · rw [ea, eb, S_cat, S_len, S_len]; exact lt_sz (by show 2 + 2 ≤ 200000; decide)
      rw [ea, eb, S_cat, S_cat]
      intro x dx hx hdx hne
      refine ⟨x, dx, ⟨[97, sep, 34, 98], c0.kind, c0.nl⟩, rfl, upd_same, fun H5 hC hk => ⟨rfl, ?_⟩⟩
      have s5 : Same H4 H5 := made_same hx hdx hk
      have k45 := (k34.trans k5).same s5
      have hcl5 := s5 _ _ hcl4
      have hxcl : x ≠ cl := fun z => by rw [z, hcl4] at hx; cases hx
      refine ⟨_, rfl, cl, _, _, 0, rfl, rfl, hcl5, ixn_nat (j := 0) (by rw [List.length_map, paired_len hps]; omega), ?_⟩
      have up : ∀ (p : Addr) (c : Colm), ColAt CC H5 p c → ColAt CC (upd H5 cl (.lst ((ps.map V.ref).set 0 (.ref x)))) p c := fun p c ⟨dc, hc⟩ => ⟨dc, by rw [upd_ne (ne_of hc hcl5 (by intro q; cases q))]; exact hc⟩
      refine ⟨cs0.set 0 ⟨[97, sep, 34, 98], c0.kind, c0.nl⟩, rfl, k45.mut hcl0 D1, ⟨ps.set 0 x, by rw [upd_same, List.map_set], paired_set (up _ _ hC) 0 (paired_mono (fun p c h => up p c (col_same s5 p c h)) hps4)⟩, List.length_set, fun i c hc => ?_⟩
      cases i with
      | zero =>
        rw [List.getElem?_set_self (by omega)] at hc
        injection hc with hc
        subst hc
        exact .inr ⟨rfl, rfl⟩
      | succ i =>
        rw [List.getElem?_set_ne (by omega)] at hc
        exact .inl (hnm _ c hc)
    rintro _ H4 ⟨cs, rfl, k5, ⟨ps, hcl4, hps4⟩, hcsl, hnmw⟩
    refine ⟨_, rfl, st, 2, rfl, k5.dr, by decide, by decide, fun d2 H5 _ _ k6 => ⟨rfl, ?_⟩⟩
    have k56 := k5.trans k6
    have s6 : Same H H5 := kp_same s1 hst k56
    have hcl5 := k6.1 _ _ hcls hcl4
    have hps5 := cols_kp k6 k5.dr hps4
    clear hps4 hcl4 hps3 hcl3 hT1 hps hcl
    have hc100 : cs.length ≤ 100 := by omega
    have hnml := namesW_len hnmw hs128 hc100
    refine ⟨_, rfl, a, _, rfl, .inl (s6.seq hS), _, _, rfl, ?_⟩
    rw [List.length_map]
    obtain ⟨many, hmany, hmn, emany⟩ : ∃ many : Nat, many ≤ 12 ∧ many ≤ ns.length ∧ (if ((ns.length : Nat) : Int) < 12 then ((ns.length : Nat) : Int) else 12) = (many : Int) := by
      by_cases h : ((ns.length : Nat) : Int) < 12
      · exact ⟨ns.length, by omega, Nat.le_refl _, if_pos h⟩
      · exact ⟨12, by omega, by omega, if_neg h⟩
    rw [emany]
    refine ⟨_, rfl, by omega, by omega, fun D hD => ?_⟩
    refine lc_range (lo := 0) (n := many) (fun i H' => ∃ (qs : List Addr) (rows : List (List V)), Same H5 H' ∧ H' D = some (.lst (qs.map V.ref)) ∧ Paired (RowV H') qs rows ∧ (∀ p ∈ qs, p ≠ D) ∧ qs.length = i ∧ ∀ r ∈ rows, RowN cs r) ⟨[], [], same_new hD, upd_same, .nil, fun p hp => (nomatch hp), rfl, fun r hr => (nomatch hr)⟩ ?_ ?_
    · rintro i H6 hi ⟨qs, rows, s7, hD6, hqs, hqD, hql, hrows⟩
      have hin : i < ns.length := by omega
      obtain ⟨z, hz⟩ : ∃ z, ns[i]? = some z := ⟨_, List.getElem?_eq_getElem hin⟩
      rw [Int.zero_add]
      refine ⟨rfl, _, rfl, _, rfl, _, rfl, a, _, _, V.int z, rfl, rfl, s7.seq (s6.seq hS), atI_nat (by rw [List.getElem?_map, hz]; rfl), _, rfl, _, _, rfl, rfl, z, _, rfl, fun st2 y2 hst2 => ?_⟩
      have s8 := same_new (o := .lst [.int y2]) hst2
      have s78 := same_trans s7 s8
      refine ⟨cl, st2, cs, rfl, ⟨ps, s78 _ _ hcl5, paired_mono (col_same s78) hps5⟩, hc100, ⟨_, upd_same⟩, fun H7 q row k9 hq0 hqs2 hq hrow => ?_⟩
      have s9 := kp_same s8 hst2 k9
      have hD7 := s9 _ _ hD6
      have hq6 := s8.free hq0
      have hqD2 : q ≠ D := fun e => by rw [e, hD6] at hq6; cases hq6
      have up : ∀ (p : Addr) (r : List V), p ≠ D → RowV H7 p r → RowV (upd H7 D (.lst (qs.map V.ref ++ [.ref q]))) p r := fun p r hp h => by
        unfold RowV
        rw [upd_ne hp]
        exact h
      refine ⟨_, hD7, lt_sz' (by rw [List.length_map]; omega), qs ++ [q], rows ++ [row], same_mut (same_trans s7 s9) hD, by rw [upd_same, List.map_append]; rfl, paired_app (paired_mem (fun p r hp h => up p r (hqD p hp) (s9 _ _ h)) hqs) (.cons (up _ _ hqD2 hq) .nil), ?_, by rw [List.length_append, hql]; rfl, ?_⟩
      · intro p hp
        rcases List.mem_append.mp hp with h | h
        · exact hqD p h
        · have : p = q := by simpa using h
          rw [this]; exact hqD2
      · intro r hr
        rcases List.mem_append.mp hr with h | h
        · exact hrows r h
        · have : r = row := by simpa using h
          rw [this]; exact hrow
    rintro H6 ⟨qs, rows, s7, hD6, hqs, hqD, hql, hrows⟩
    have lqr := paired_len hqs
    have lps := paired_len hps5
    have hcl6 := s7 _ _ hcl5
    have hps6 := paired_mono (col_same s7) hps5
    -- the pairs
    refine ⟨_, rfl, cl, rfl, ⟨_, seqL hcl6⟩, fun L hL => ?_⟩
    refine lc_list (xs := ps.map V.ref) (fun i H' => ∃ pps : List Addr, Same H6 H' ∧ H' L = some (.lst (pps.map V.ref)) ∧ Paired (PairAt H') pps (cs.take i) ∧ (∀ p ∈ pps, p ≠ L)) ⟨[], same_new hL, upd_same, by rw [List.take_zero]; exact .nil, fun p hp => (nomatch hp)⟩ (fun i H' _ ⟨_, h, _⟩ => seqL (h _ _ hcl6)) ?_ ?_
    · rintro i z H7 hz ⟨pps, s8, hL7, hpps, hpL⟩
      rw [List.getElem?_map] at hz
      obtain ⟨p, hp, rfl⟩ := Option.map_eq_some_iff.mp hz
      obtain ⟨c, hc, ⟨dc, hC⟩⟩ := paired_get hps6 hp
      have hic : i < cs.length := (List.getElem?_eq_some_iff.mp hc).1
      have hC7 := s8 _ _ hC
      have lpp := paired_len hpps
      rw [List.length_take] at lpp
      refine ⟨rfl, _, rfl, p, CC, dc, _, _, rfl, hC7, U.cl, U.nN, cF_name c, _, rfl, p, CC, dc, _, _, rfl, hC7, U.cl, U.nK, cF_kind c, lt_sz (show 2 ≤ 200000 by decide), fun q hq => ?_⟩
      have s9 := same_new (o := .tup [.str (S c.name), .str (kdS c.kind)]) hq
      have hqL : q ≠ L := fun e => by rw [e, hL7] at hq; cases hq
      have hL8 := s9 _ _ hL7
      have up : ∀ (p : Addr) (c' : Colm), p ≠ L → PairAt (upd H7 q (.tup [.str (S c.name), .str (kdS c.kind)])) p c' → PairAt (upd (upd H7 q (.tup [.str (S c.name), .str (kdS c.kind)])) L (.lst (pps.map V.ref ++ [.ref q]))) p c' := fun p c' hp h => by
        unfold PairAt
        rw [upd_ne hp]
        exact h
      refine ⟨_, hL8, lt_sz' (by rw [List.length_map]; omega), pps ++ [q], same_mut (same_trans s8 s9) hL, by rw [upd_same, List.map_append]; rfl, ?_, ?_⟩
      · rw [take_next hc]
        exact paired_app (paired_mem (fun p c' hp h => up p c' (hpL p hp) (s9 _ _ h)) hpps) (.cons (up _ _ hqL upd_same) .nil)
      · intro p hp
        rcases List.mem_append.mp hp with h | h
        · exact hpL p h
        · have : p = q := by simpa using h
          rw [this]; exact hqL
    rintro H7 ⟨pps, s8, hL7, hpps, hpL⟩
    rw [List.length_map, lps, List.take_length] at hpps
    have hD7 := s8 _ _ hD6
    have hqs7 := paired_mono (F := RowV H6) (G := RowV H7) (fun b r h => s8 _ _ h) hqs
    -- copies
    refine ⟨_, rfl, D, rfl, ⟨_, seqL hD7⟩, fun G hG => ?_⟩
    refine lc_list (xs := qs.map V.ref) (fun i H' => ∃ gs : List Addr, Same H7 H' ∧ H' G = some (.lst (gs.map V.ref)) ∧ Paired (RowV H') gs (rows.take i) ∧ (∀ p ∈ gs, p ≠ G)) ⟨[], same_new hG, upd_same, by rw [List.take_zero]; exact .nil, fun p hp => (nomatch hp)⟩ (fun i H' _ ⟨_, h, _⟩ => seqL (h _ _ hD7)) ?_ ?_
    · rintro i z H8 hz ⟨gs, s9, hG8, hgs, hgG⟩
      rw [List.getElem?_map] at hz
      obtain ⟨q, hq, rfl⟩ := Option.map_eq_some_iff.mp hz
      obtain ⟨row, hrow, hR⟩ := paired_get hqs7 hq
      have hR : H7 q = some (.lst row) := hR
      have hir : i < rows.length := (List.getElem?_eq_some_iff.mp hrow).1
      have lgg := paired_len hgs
      rw [List.length_take] at lgg
      refine ⟨rfl, _, rfl, q, row, rfl, .inl (seqL (s9 _ _ hR)), fun g hg => ?_⟩
      have s10 := same_new (o := .lst row) hg
      have hgG2 : g ≠ G := fun e => by rw [e, hG8] at hg; cases hg
      have hG9 := s10 _ _ hG8
      have up : ∀ (p : Addr) (r : List V), p ≠ G → RowV (upd H8 g (.lst row)) p r → RowV (upd (upd H8 g (.lst row)) G (.lst (gs.map V.ref ++ [.ref g]))) p r := fun p r hp h => by
        unfold RowV
        rw [upd_ne hp]
        exact h
      refine ⟨_, hG9, lt_sz' (by rw [List.length_map]; omega), gs ++ [g], same_mut (same_trans s9 s10) hG, by rw [upd_same, List.map_append]; rfl, ?_, ?_⟩
      · rw [take_next hrow]
        exact paired_app (paired_mem (fun p r hp h => up p r (hgG p hp) (s10 _ _ h)) hgs) (.cons (up _ _ hgG2 upd_same) .nil)
      · intro p hp
        rcases List.mem_append.mp hp with h | h
        · exact hgG p h
        · have : p = g := by simpa using h
          rw [this]; exact hgG2
    rintro H8 ⟨gs, s9, hG8, hgs, hgG⟩
    rw [List.length_map, lqr, List.take_length] at hgs
    have hr20 : rows.length ≤ 20 := by omega
    have s69 := same_trans s8 s9
    have hL8 := s9 _ _ hL7
    have hpps8 := paired_mono (F := PairAt H7) (G := PairAt H8) (fun p c h => s9 _ _ h) hpps
    -- what is written
    refine ⟨_, rfl, _, rfl, _, rfl, _, rfl, rfl, rfl, L, G, sep, _, pps, gs, cs, rows, rfl, hL8, hpps8, hc100, fun c hc => (hnml c hc).1, hG8, hgs, hr20, hrows, fun H9 s10 => ?_⟩
    obtain ⟨hd, hhd⟩ : ∃ hd, hd = decide (V.int d2 = V.int 0) := ⟨_, rfl⟩
    rw [← hhd]
    clear hhd
    have s710 := same_trans s8 (same_trans s9 s10)
    have hD9 := s710 _ _ hD6
    have hqs9 := paired_mono (F := RowV H6) (G := RowV H9) (fun b r h => s710 _ _ h) hqs
    have hcl9 := s710 _ _ hcl6
    have hps9 := paired_mono (col_same s710) hps6
    have hL9 := s10 _ _ hL8
    have hpps9 := paired_mono (F := PairAt H8) (G := PairAt H9) (fun p c h => s10 _ _ h) hpps8
    have hG9 := s10 _ _ hG8
    have hgs9 := paired_mono (F := RowV H8) (G := RowV H9) (fun p c h => s10 _ _ h) hgs
    -- what is due
    refine ⟨⟨_, rfl⟩, _, rfl, D, rfl, ⟨_, seqL hD9⟩, fun D2 hD2 => ?_⟩
    refine lc_list (xs := qs.map V.ref) (fun i H' => Same H9 H' ∧ H' D2 = some (.lst (linesV sep cs (rows.take i)))) ⟨same_new hD2, upd_same⟩ (fun i H' _ ⟨h, _⟩ => seqL (h _ _ hD9)) ?_ ?_
    · rintro i z H10 hz ⟨s11, hD10⟩
      rw [List.getElem?_map] at hz
      obtain ⟨q, hq, rfl⟩ := Option.map_eq_some_iff.mp hz
      obtain ⟨row, hrow, hR⟩ := paired_get hqs9 hq
      have hR : H9 q = some (.lst row) := hR
      have hir : i < rows.length := (List.getElem?_eq_some_iff.mp hrow).1
      refine ⟨rfl, _, rfl, _, rfl, _, rfl, cl, q, sep, cs, row, rfl, ⟨ps, s11 _ _ hcl9, paired_mono (col_same s11) hps9⟩, hc100, s11 _ _ hR, hrows row (List.mem_of_getElem? hrow), fun H11 s12 => ⟨_, s12 _ _ hD10, lt_sz' (by unfold linesV; rw [List.length_map, List.length_take]; omega), same_mut (same_trans s11 s12) hD2, ?_⟩⟩
      rw [upd_same, take_next hrow]
      unfold linesV
      rw [List.map_append]
      rfl
    rintro H10 ⟨s11, hD10⟩
    have e : rows.take (qs.map V.ref).length = rows := List.take_of_length_le (by rw [List.length_map]; omega)
    rw [e] at hD10
    have hls := lines_sum (sep := sep) hc100 hrows
    have h83 : 8301 * rows.length ≤ 8301 * 20 := Nat.mul_le_mul_left _ hr20
    refine ⟨_, D2, (rows.map fun row => Sep.encR sep (rowF sep cs row) ++ [10]).map S, rfl, rfl, .inl (seqL ?_), ?_, ?_⟩
    · unfold linesV at hD10
      rw [List.map_map, List.map_map]
      exact hD10
    · rw [c_nil, S_len, List.length_map, List.length_map]
      show _ + rows.length * 0 ≤ 16777216
      omega
    rw [c_nil, join_S]
    have ejl : TL.joinL [] (rows.map fun row => Sep.encR sep (rowF sep cs row) ++ [10]) = Sep.encT sep (rows.map (rowF sep cs)) := by
      rw [← join_lines, List.map_map]
      rfl
    rw [ejl]
    have hBl : (Sep.encT sep (rows.map (rowF sep cs))).length ≤ 8301 * 20 := by
      have := encT_le (B := 8300) (sep := sep) (rows.map (rowF sep cs)) fun r hr => by
        obtain ⟨row, hrow, rfl⟩ := List.mem_map.mp hr
        have h2 := encR_le2 (sep := sep) _ (rowF_text (sep := sep) (hrows row hrow))
        rw [rowF_len sep (hrows row hrow).1] at h2
        have h3 : (2 * 40 + 3) * cs.length ≤ (2 * 40 + 3) * 100 := Nat.mul_le_mul_left _ hc100
        omega
      rw [List.length_map] at this
      omega
    refine ⟨fun σ' H' => σ' = [some (.ref a), some (.ref st), some (.ref cl), some (.str (S [sep])), some (.bl hd), some (.ref D), some (.ref L), some (.ref G), some (.str (S (wholeT sep hd cs rows))), some (.str (S (wholeT sep hd cs rows))), none, none, none, none, none, none] ∧ Same H9 H', ?_, ?_⟩
    · refine ⟨_, rfl, hd, rfl, ?_⟩
      cases hd with
      | false =>
        refine iteF ⟨?_, s11⟩
        have : wholeT sep false cs rows = Sep.encT sep (rows.map (rowF sep cs)) := by
          unfold wholeT recsW
          rw [if_neg (by decide), List.nil_append]
        rw [this]
        rfl
      | true =>
        have hwh : wholeT sep true cs rows = Sep.encR sep (headF sep cs) ++ [10] ++ Sep.encT sep (rows.map (rowF sep cs)) := by
          unfold wholeT recsW
          rw [if_pos rfl]
          show Sep.encR sep (headF sep cs) ++ 10 :: Sep.encT sep (rows.map (rowF sep cs)) = _
          simp
        have hht : ∀ p ∈ headF sep cs, p.1.length ≤ 40 := fun p hp => by
          obtain ⟨c, hc, rfl⟩ := List.mem_map.mp hp
          exact (hnml c hc).1
        have lh : (headF sep cs).length = cs.length := List.length_map ..
        have lpp := paired_len hpps9
        refine iteT ⟨_, rfl, ⟨_, rfl⟩, _, rfl, L, rfl, ⟨_, seqL (s11 _ _ hL9)⟩, fun D3 hD3 => ?_⟩
        have hD3H := s11.free hD3
        refine lc_list (xs := pps.map V.ref) (fun i H' => Same H9 H' ∧ H' D3 = some (.lst (encV ((headF sep cs).take i)))) ⟨fun b o e => same_new hD3 b o (s11 b o e), upd_same⟩ (fun i H' _ ⟨h, _⟩ => seqL (h _ _ hL9)) ?_ ?_
        · rintro i z H11 hz ⟨s12, hD11⟩
          rw [List.getElem?_map] at hz
          obtain ⟨p, hp, rfl⟩ := Option.map_eq_some_iff.mp hz
          obtain ⟨c, hc, hP⟩ := paired_get hpps9 hp
          have hic : i < cs.length := (List.getElem?_eq_some_iff.mp hc).1
          have hF : (headF sep cs)[i]? = some (c.name, markP sep c.name) := by unfold headF; rw [List.getElem?_map, hc]; rfl
          refine ⟨p, _, rfl, seqT (s12 _ _ hP), rfl, _, _, rfl, _, _, rfl, rfl, rfl, _, rfl, _, rfl, c.name, sep, rfl, by have := (hnml c (List.mem_of_getElem? hc)).1; omega, fun H12 s13 => ⟨_, s13 _ _ hD11, lt_sz' (by unfold encV; rw [List.length_map, List.length_take]; omega), same_mut (same_trans s12 s13) hD3H, ?_⟩⟩
          rw [upd_same, take_next hF]
          unfold encV
          rw [List.map_append]
          rfl
        rintro H11 ⟨s12, hD11⟩
        have e : (headF sep cs).take (pps.map V.ref).length = headF sep cs := List.take_of_length_le (by rw [List.length_map]; omega)
        rw [e] at hD11
        have hsum := enc_sum hht
        have hlen := encR_le2 (sep := sep) _ hht
        rw [lh] at hsum hlen
        have h100 : (2 * 40 + 3) * cs.length ≤ (2 * 40 + 3) * 100 := Nat.mul_le_mul_left _ hc100
        have h101 : (2 * 40 + 2) * cs.length ≤ (2 * 40 + 2) * 100 := Nat.mul_le_mul_left _ hc100
        refine ⟨_, D3, ((headF sep cs).map fun p => Sep.enc p.1 p.2).map S, rfl, rfl, .inl (seqL ?_), ?_, _, _, rfl, rfl, ?_, _, rfl, _, _, rfl, rfl, ?_, ?_⟩
        · unfold encV at hD11
          rw [List.map_map, List.map_map]
          exact hD11
        · rw [S_len, List.length_map, List.length_map, lh]
          show _ + cs.length * 1 ≤ 16777216
          omega
        · rw [join_S, join_enc, c_nl, S_len, S_len]
          exact lt_sz (by show _ + 1 ≤ 200000; omega)
        · rw [join_S, join_enc, c_nl, S_cat, S_len, S_len, List.length_append]
          exact lt_sz (by show _ + 1 + _ ≤ 200000; omega)
        · rw [join_S, join_enc, c_nl, S_cat, S_cat, hwh]
          exact ⟨rfl, s12⟩
    rintro _ H11 ⟨rfl, s12⟩
    have hD11 := s12 _ _ hD9
    have hqs11 := paired_mono (F := RowV H9) (G := RowV H11) (fun b r h => s12 _ _ h) hqs9
    have hcl11 := s12 _ _ hcl9
    have hps11 := paired_mono (col_same s12) hps9
    have hL11 := s12 _ _ hL9
    have hpps11 := paired_mono (F := PairAt H9) (G := PairAt H11) (fun p c h => s12 _ _ h) hpps9
    have hG11 := s12 _ _ hG9
    have hgs11 := paired_mono (F := RowV H9) (G := RowV H11) (fun p c h => s12 _ _ h) hgs9
    have hrs : ∀ r ∈ rows, r.length ≤ 1000 ∧ ∀ v ∈ r, Scal v := fun r hr => ⟨by have := (hrows r hr).1; omega, rowN_scal (hrows r hr)⟩
    refine ⟨_, rfl, _, _, _, _, true, rfl, .ty _, .base (.str _), kit_ty (by decide +kernel), true, rfl, iteF ?_⟩
    refine ⟨_, rfl, _, rfl, rfl, _, rfl, ?_⟩
    rw [decide_eq_true rfl]
    refine iteF ⟨_, rfl, _, rfl, G, D, gs, qs, rows, rfl, hG11, hgs11, hD11, hqs11, hrs, by omega, fun H12 s13 => ⟨_, rfl, iteF ?_⟩⟩
    -- read back
    have hc0 : cs ≠ [] := fun z => by rw [z] at hcsl; simp at hcsl; omega
    have hok := recsW_ok (sep := sep) (hd := hd) hc0 hnml hrows
    have hs34 : sep ≠ 34 := by unfold SepS at hsep; omega
    have hs10 : sep ≠ 10 := by unfold SepS at hsep; omega
    have hrw : (recsW sep hd cs rows).length ≤ 13 := by
      unfold recsW
      rw [List.length_append, List.length_map]
      have : (if hd = true then [headF sep cs] else []).length ≤ 1 := by split <;> simp
      omega
    have hwl : (wholeT sep hd cs rows).length ≤ 3250 := by
      have := encT_le (B := 249) (sep := sep) (recsW sep hd cs rows) fun r hr => by
        obtain ⟨h1, h2⟩ := hok r hr
        have h3 := encR_le2 (B := 40) (sep := sep) r fun p hp => (h2 p hp).2.1
        rw [h1] at h3
        have h4 : (2 * 40 + 3) * cs.length ≤ (2 * 40 + 3) * 3 := Nat.mul_le_mul_left _ (by omega)
        omega
      have h5 : (249 + 1) * (recsW sep hd cs rows).length ≤ (249 + 1) * 13 := Nat.mul_le_mul_left _ hrw
      unfold wholeT
      omega
    have hspl : Sep.split sep (wholeT sep hd cs rows) = .ok (Sep.offsT sep 0 (recsW sep hd cs rows)) := Sep.split_enc sep hs34 hs10 _ fun r hr => ⟨fun z => by
      have := (hok r hr).1
      rw [z] at this
      exact hc0 (List.length_eq_zero_iff.mp this.symm), fun p hp => ((hok r hr).2 p hp).1⟩
    have hrecs : ∀ r ∈ Sep.offsT sep 0 (recsW sep hd cs rows), r ≠ [] ∧ r.length ≤ 100 ∧ ∀ f ∈ r, Okfl f := fun r hr => by
      obtain ⟨q, hq, h1, h2⟩ := offsT_memS (sep := sep) _ 0 r hr
      obtain ⟨h3, h4⟩ := hok q hq
      refine ⟨fun z => hc0 (List.length_eq_zero_iff.mp (by rw [← h3, ← h1, z]; rfl)), by omega, fun f hf => ?_⟩
      obtain ⟨h5, p, hp, h6⟩ := h2 f hf
      obtain ⟨_, h7, h8⟩ := h4 p hp
      exact ⟨by rw [h6]; omega, by unfold wholeT at hwl; omega, fun x hx => h8 x (by rw [← h6]; exact hx)⟩
    have hcl12 := s13 _ _ hcl11
    have hps12 := paired_mono (col_same s13) hps11
    refine ⟨_, rfl, _, rfl, _, rfl, _, rfl, rfl, rfl, wholeT sep hd cs rows, cl, sep, hd, cs, Sep.offsT sep 0 (recsW sep hd cs rows), rfl, by omega, ⟨ps, hcl12, hps12⟩, hc100, fun c hc => Nat.le_trans (hnml c hc).1 (by decide), hspl, by rw [Sep.offsT_len]; omega, hrecs, fun rows' hrows' H13 p ts s14 hpn hp hts => ?_, fun o e herr => by rw [readAll_back (namesW_uniq hnmw) hrows] at herr; cases herr⟩
    have he : rows' = rows := by
      rw [readAll_back (namesW_uniq hnmw) hrows] at hrows'
      injection hrows' with z
      exact z.symm
    subst he
    have s1114 := same_trans s13 s14
    have lq := paired_len hqs11
    refine ⟨_, rfl, _, rfl, p, D, ts, qs, rows', rfl, hp, hts, s1114 _ _ hD11, paired_mono (fun b r h => s1114 _ _ h) hqs11, hrs, by omega, fun H14 s15 => ⟨_, rfl, iteF ?_⟩⟩
    have s1115 := same_trans s1114 s15
    refine ⟨_, rfl, _, rfl, _, rfl, _, rfl, rfl, rfl, L, p, sep, hd, pps, ts, cs, rows', rfl, s1115 _ _ hL11, paired_mono (fun p c h => s1115 _ _ h) hpps11, hc100, fun c hc => (hnml c hc).1, s15 _ _ hp, paired_mono (fun b r h => s15 _ _ h) hts, hr20, hrows, fun H15 s16 => ⟨_, rfl, rfl, _, rfl, ?_⟩⟩
    rw [decide_eq_true rfl]
    refine iteF ?_
    have s1116 := same_trans s1115 s16
    refine ⟨_, rfl, _, rfl, rfl, rfl, L, D, 44, true, pps, qs, cs, rows', by rw [c_comma44]; rfl, s1116 _ _ hL11, paired_mono (fun p c h => s1116 _ _ h) hpps11, hc100, fun c hc => (hnml c hc).1, s1116 _ _ hD11, paired_mono (fun b r h => s1116 _ _ h) hqs11, hr20, hrows, fun H16 s17 => ?_⟩
    have s1117 := same_trans s1116 s17
    refine ⟨_, rfl, _, rfl, rfl, rfl, L, D, 44, true, pps, qs, cs, rows', by rw [c_comma44]; rfl, s1117 _ _ hL11, paired_mono (fun p c h => s1117 _ _ h) hpps11, hc100, fun c hc => (hnml c hc).1, s1117 _ _ hD11, paired_mono (fun b r h => s1117 _ _ h) hqs11, hr20, hrows, fun H17 s18 => ⟨rfl, ?_⟩⟩
    rw [decide_eq_true rfl]
    exact kk _
end
end Sb
set_option Elab.async false
set_option maxRecDepth 100000
set_option maxHeartbeats 4000000
/-! Facts of classes out of the facts of the heap. -/
namespace Sb
open PySem PySem.Spec PyProof.Rows L2 SX
theorem kit_self (K : PySem.W.Frag) (C : Addr) : PySem.W.kitOne K (.ref C) (.ref C) = some true := by
  unfold PySem.W.kitOne
  simp
theorem kit_cls_of {K : PySem.W.Frag} {t : Value} {C : Addr} {b : Bool} (h2 : PySem.W.isClsIn K C = true) (h3 : PySem.W.typeIn K (.ref C) = some (.type "type")) (h4 : PySem.W.subIn K t (.ref C) = some b) : PySem.W.kitCls K t (.ref C) = some b := by
  have e2 : ((PySem.W.clsIn K C).isSome && PySem.W.typeIn K (.ref C) == some (.type "type")) = true := by
    have h2' : (PySem.W.clsIn K C).isSome = true := h2
    rw [h2', h3] <;> rfl
  show (if ((PySem.W.clsIn K C).isSome && PySem.W.typeIn K (.ref C) == some (.type "type")) = true then PySem.W.subIn K t (.ref C) else none) = some b
  rw [if_pos e2]
  exact h4
theorem kit_yes {K : PySem.W.Frag} {t : Value} {C : Addr} (h2 : PySem.W.isClsIn K C = true) (h3 : PySem.W.typeIn K (.ref C) = some (.type "type")) (h4 : PySem.W.subIn K t (.ref C) = some true) : PySem.W.kitOne K t (.ref C) = some true := by
  unfold PySem.W.kitOne
  split
  · rfl
  · exact kit_cls_of h2 h3 h4
theorem kit_no {K : PySem.W.Frag} {D C : Addr} (h2 : PySem.W.isClsIn K C = true) (h3 : PySem.W.typeIn K (.ref C) = some (.type "type")) (h4 : PySem.W.subIn K (.ref D) (.ref C) = some false) (h5 : PySem.W.subIn K (.ref D) (.ref D) = some true) : PySem.W.kitOne K (.ref D) (.ref C) = some false := by
  unfold PySem.W.kitOne
  split
  · rename_i q
    have e := beq_iff_eq.mp q
    rw [← e, h5] at h4
    cases h4
  · exact kit_cls_of h2 h3 h4
/-- super() of a class right under one that hands its base's __init__ on -/
theorem sup_up {K : PySem.W.Frag} {IT SE : Addr} {nm q nm' q' : Str} {N N' : Addr} {bs bs' : List Value} {bm : List Value} {sn sn' : List Str} {sub sub' : List Value} {ab ab' : Bool} {hd hd' : Bool} {col col' : Option Bool} {dd dd' : Option Addr} {m0 m1 m2 m3 m5 n0 n1 n2 n3 n5 : Option Value} {v : Value}
    (hI : K.lookup IT = some (excClassObj nm q IT N bs (.ref SE :: bm) hd sn sub ab col dd m0 m1 m2 m3 m5 "ValueError.__new__")) (hS : K.lookup SE = some (excClassObj nm' q' SE N' bs' bm hd' sn' sub' ab' col' dd' n0 n1 n2 n3 n5 "ValueError.__new__"))
    (h : PySem.W.findIn K (.ref SE) "__init__" = some (some v)) : PySem.W.ks_superIn K IT IT "__init__" = some (some v) := by
  have e1 : ∃ cd, PySem.W.clsIn K IT = some cd ∧ cd.mro = .ref IT :: .ref SE :: bm := ⟨_, by unfold PySem.W.clsIn; rw [hI] <;> rfl, rfl⟩
  obtain ⟨cd, e1, e2⟩ := e1
  have e3 : PySem.W.findIn K (.ref SE) "__init__" = PySem.W.alongIn K "__init__" (.ref SE :: bm) := by
    show (match K.lookup SE with
      | some ⟨_, _, .cls cd, _⟩ => PySem.W.alongIn K "__init__" cd.mro
      | _ => none) = _
    rw [hS] <;> rfl
  unfold PySem.W.ks_superIn
  rw [e1, Option.bind_some, e2]
  have e4 : ((Value.ref IT :: .ref SE :: bm).dropWhile (· != .ref IT)).drop 1 = .ref SE :: bm := by simp [List.dropWhile_cons]
  rw [e4, ← e3, h]
end Sb
set_option Elab.async false
set_option maxRecDepth 100000
set_option maxHeartbeats 4000000
/-! The end of a law under the bound of the tokens (after Guard.lean), by z_head. -/
namespace Sb
open PySem PySem.Spec PyProof.Rows L2
/-- at the caller: the law's promise, only the script tracked -/
theorem law_callN {tb : Nat} {P : Program} {w : World} {K : PySem.W.Frag} {mg mb : Str → Option Value} {k : Nat} {fa a : Addr} {fd : FuncData} {x : Str} {sp : Sp} {s₁ : Shared} {vs : List Value} {ns : List Int}
    (KX : K.In s₁.heap) (hns : s₁.heap.Ns mainGlobals mg) (hb : s₁.heap.Ns builtinsNs mb) (hbb : ∀ x : Str, x ≠ "__name__" → mb x = bootBuiltins x) (hlim : s₁.heap.NoLimit) (hg : s₁.gens = #[])
    (ha : s₁.heap.get? a = some { cls := .type "list", data := .seq vs.toArray }) (hi : IntsAre vs ns) (hl : ns.length ≤ sizeLine) (hr : Room k callerA)
    (F : ∀ base : Heap, K.In base → base.Ns mainGlobals mg → FnN tb P w K mg base CX0 k fa fd [x] sp) (h0 : tb ≤ s₁.toks) (hbind : ∀ (s : Shared) (u : Value), BindsTo s fd ⟨[u], []⟩ [(x, u)])
    (hsp : ∀ H : Hp, SqL K H a (ns.map V.int) → sp [.ref a] H (fun v _ => v = .bl true) fun _ _ _ => False) :
    codeAny (model P w) callerA (.call (.ref fa) ⟨[.ref a], []⟩) (fun r s' => r = .ok (.ret (.bool true)) ∧ OldK s₁.heap s'.heap ∧ s'.os = s₁.os ∧ AllBare s'.gens) s₁ := by
  have rv := vals_ints hi
  have lenV := hi.length
  -- t: whether the script is tracked (else it is an object of the module)
  obtain ⟨H, hH, hS, hok, hK⟩ : ∃ H : Hp, (∀ b u, H b = some u → b = a ∧ u = .frz { cls := .type "list", data := .seq vs.toArray } (.lst (ns.map V.int))) ∧ SqL K H a (ns.map V.int) ∧ HOk P w H s₁.heap ∧ (H a ≠ none → K.lookup a = none) := by
    cases hk : K.lookup a with
    | some o =>
      have e := KX a o hk
      rw [ha] at e
      cases e
      exact ⟨fun _ => none, fun b u z => (nomatch (show (none : Option HO) = some u from z)), .inr ⟨_, vs.toArray, _, hk, rfl, rfl, rfl, by rw [List.size_toArray, lenV]; exact hl, by simpa using rv⟩,
        fun b u z => (nomatch (show (none : Option HO) = some u from z)), fun z => absurd rfl z⟩
    | none =>
      have one : ∀ b u, (if b = a then some (HO.frz { cls := .type "list", data := .seq vs.toArray } (.lst (ns.map V.int))) else none) = some u → b = a ∧ u = .frz { cls := .type "list", data := .seq vs.toArray } (.lst (ns.map V.int)) := fun b u z => by
        split at z
        · rename_i q
          cases z
          exact ⟨q, rfl⟩
        · cases z
      refine ⟨fun b => if b = a then some (.frz { cls := .type "list", data := .seq vs.toArray } (.lst (ns.map V.int))) else none, one, .inl (.inr ⟨_, if_pos rfl⟩), fun b u z => ?_, fun _ => rfl⟩
      obtain ⟨rfl, rfl⟩ := one b u z
      exact ⟨ha, by rw [List.length_map]; exact hl, vs, _, rv, ha⟩
  have unt : ∀ {b : Addr} {o : Obj}, s₁.heap.get? b = some o → (∀ v n, o.data ≠ .seq v n) → H b = none := fun {b o} e d => by
    cases q : H b with
    | none => rfl
    | some u =>
      obtain ⟨rfl, _⟩ := hH b u q
      rw [ha] at e
      cases e
      exact absurd rfl (d _ _)
  have nsK : ∀ {b : Addr} {m : Str → Option Value}, s₁.heap.Ns b m → (hidT s₁.heap H).Ns b m := fun {b m} ⟨o, es, ep, e, d, r⟩ => ⟨o, es, ep, hidT_get e (unt e fun v n z => by rw [d] at z; cases z), d, r⟩
  have hKb : K.In (hidT s₁.heap H) := fun b o e => hidT_get (KX b o e) (by
    cases q : H b with
    | none => rfl
    | some u =>
      obtain ⟨rfl, _⟩ := hH b u q
      rw [hK (by rw [q]; simp)] at e
      cases e)
  obtain ⟨mc, l1, l2⟩ := hlim
  have hM : Mod K mg (hidT s₁.heap H) := ⟨hKb, nsK hns, ⟨mb, nsK hb, hbb⟩, ⟨mc, nsK l1, l2⟩⟩
  have e0 : Env0 P w K mg (hidT s₁.heap H) callerA [] s₁ H :=
    ⟨rfl, hM, fun b o e => of_hidT e, Nat.le_of_eq (hidT_size _ _), trivial, fun b hb => (nomatch (show b ∈ ([] : List Addr) from hb)), hok, AllBare.of_eq hg⟩
  refine codeAny_mono ((F _ hKb (nsK hns)).run callerA [] s₁ H ⟨[.ref a], []⟩ [.ref a] [.ref a] _ _ h0 hr e0 (hbind s₁ (.ref a)) (.cons rfl .nil) (hsp H hS)) fun r s' h => ?_
  match r, h with
  | .error e, h => exact False.elim h
  | .ok (.ret u), ⟨v, H', os, bare, un, hok', r', q⟩ =>
    have q' : v = .bl true := q
    subst q'
    obtain rfl : u = Value.bool true := r'
    refine ⟨rfl, OldK.of_keep fun b o e => ?_, os, bare⟩
    cases q : H b with
    | none => exact un.keep b o e q (fun z => (nomatch (show b ∈ ([] : List Addr) from z))) (by simp)
    | some u =>
      obtain ⟨rfl, rfl⟩ := hH b u q
      have z2 := un.frzs b _ _ q
      obtain ⟨e1, _⟩ := hok b _ q
      obtain ⟨e2, _⟩ := hok' b _ z2
      rw [e] at e1
      cases e1
      exact e2

section
open PySem.W PySem.Calls
theorem finishN {l : PySem.W.OpenLaw} {n k t : Nat} {q : Program} {loose : List Str} {XP : (Str → Option Value) → Heap → Prop} {d : DefRec} {K : Params → PySem.W.Frag} {sp : World → Sp} {x : Str}
    (hn : l.most = some n) (hn2 : n ≤ sizeLine) (hdf : d.params.defaults = []) (hr : Room k callerA)
    (F : ∀ (w : World) (mg : Str → Option Value) (fa : Addr) (h : Heap), (K w.params).In h → h.Ns mainGlobals mg → mg d.name = some (.ref fa) →
      ∃ fd : FuncData, (∀ (s : Shared) (u : Value), BindsTo s fd ⟨[u], []⟩ [(x, u)]) ∧
        ∀ base : Heap, (K w.params).In base → base.Ns mainGlobals mg → FnN t l.prog w (K w.params) mg base CX0 k fa fd [x] (sp w))
    (hsp : ∀ (w : World) (H : Hp) (a : Addr) (ns : List Int), ns.length ≤ n → SqL (K w.params) H a (ns.map V.int) → sp w [.ref a] H (fun v _ => v = .bl true) fun _ _ _ => False)
    {w : World} {s₀ s₁ : Shared} {mg mb : Str → Option Value} (G : PySem.W.Ground q loose [] XP w s₀ mg mb s₁.heap) (KX : (K w.params).In s₁.heap) (ZT : s₀.toks = t)
    {fa : Addr} {o : Obj} {pm cd doc dV kV : Value} (ho : s₁.heap.get? fa = some o) (hd : o.data = .func { docDef d.name d.params d.body d.scope pm cd doc with defaults := dV, kwdefaults := kV }) (hcd : s₁.heap.CodeRec cd d.name) (hD : PySem.W.Dflts mg s₁.heap d.params [] dV kV)
    (hmg : mg d.name = some (.ref fa)) (hg : s₁.gens = #[]) {args : List WData} {vals : List Value} {as : List Addr} (hpre : l.row.toRowW.claim.pre args = true) (L : PySem.W.Laid l.row.toRowW.records w s₀ s₁ args vals as) (hwl : WellAll w.params s₁.heap vals args) :
    wpAny (model l.row.toRowW.prog w) callerA (PySem.call (.ref fa) vals) (fun v s' => PySem.W.GoodWG l.row.toRowW.claim (classAt s₀.heap) (ExcName.means s₀.heap) args s₁ (.ok (.ret v)) s')
      (fun e s' => PySem.W.GoodWG l.row.toRowW.claim (classAt s₀.heap) (ExcName.means s₀.heap) args s₁ (.error e) s') s₁ := by
  obtain rfl : dV = .none := PySem.W.Dflts.none hD hdf
  obtain rfl : kV = .none := PySem.W.Dflts.noKw hD
  obtain ⟨a, vs, ns, rfl, rfl, hobj, hints, hlen⟩ := Att.script_of hn hpre hwl
  have eargs : [WData.list (ns.map WData.int)] = [ofPy (PyData.list (ns.map PyData.int))] := by
    rw [ofPy, ofPys_eq, List.map_map]
    rfl
  have h0 : t ≤ s₁.toks := PySem.W.X.script_toks (by rw [← eargs]; exact L) ZT
  obtain ⟨fd, hb, hF⟩ := F w mg fa _ KX G.T.g hmg
  refine enter_call (codeAny_mono (law_callN KX G.T.g G.T.b G.T.builtins G.T.nolimit hg hobj hints (Nat.le_trans hlen hn2) hr hF h0 hb fun H hS => hsp w H a ns hlen hS) fun r s' hq => ?_)
  obtain ⟨rfl, h2, h3, h4⟩ := hq
  exact ⟨.inl ⟨.bool true, .bool true, [], rfl, fun _ => rfl, .bool true, Att.post_true l _, fun _ => ⟨List.Pairwise.nil, fun _ hm => (nomatch hm)⟩⟩, h2, h3, h4⟩
end
end Sb
set_option Elab.async false
set_option maxRecDepth 100000
set_option maxHeartbeats 4000000
namespace Sb
open PySem PySem.Spec PyProof.Rows L2 SX
theorem all_mk {l : PySem.W.OpenLaw} {w : World} {K : PySem.W.Frag} {h : Heap} {mg : Str → Option Value} {fa f__law_cell f__law_state f__law_digit f_read_marked f_read_plain f_split_records f_is_leap f_month_length f_days_before f_day_of f_date_of f_date_text f_read_date f_digits_value f_read_integer f_read_decimal f_decimal_text f_written_value f_written_field f_written_row f_column_number f_read_scalar f_read_field f_read_row f_read_head f__law_rank f__law_ranks f__law_same_rows f__law_text f__law_kind_value f__law_columns f__law_column_value f__law_table_row f__law_field_text f__law_written f__law_must_mark f__law_decimal f__law_value_text f__law_put f__law_line f__law_row f_law C f_Field_init CC f_Column_init : Addr} (X : K.In h) (G : h.Ns mainGlobals mg) (hfa : mg "law" = some (.ref fa))
    {od__law_cell an__law_cell : Option Addr} {sl__law_cell : Array (Option Value)} {oc__law_cell kV__law_cell dc__law_cell pm__law_cell cd__law_cell ct__law_cell : Value}
    {od__law_state an__law_state : Option Addr} {sl__law_state : Array (Option Value)} {oc__law_state kV__law_state dc__law_state pm__law_state cd__law_state ct__law_state : Value}
    {od__law_digit an__law_digit : Option Addr} {sl__law_digit : Array (Option Value)} {oc__law_digit kV__law_digit dc__law_digit pm__law_digit cd__law_digit ct__law_digit : Value}
    {od_read_marked an_read_marked : Option Addr} {sl_read_marked : Array (Option Value)} {oc_read_marked kV_read_marked dc_read_marked pm_read_marked cd_read_marked ct_read_marked : Value}
    {od_read_plain an_read_plain : Option Addr} {sl_read_plain : Array (Option Value)} {oc_read_plain kV_read_plain dc_read_plain pm_read_plain cd_read_plain ct_read_plain : Value}
    {od_split_records an_split_records : Option Addr} {sl_split_records : Array (Option Value)} {oc_split_records kV_split_records dc_split_records pm_split_records cd_split_records ct_split_records : Value}
    {od_is_leap an_is_leap : Option Addr} {sl_is_leap : Array (Option Value)} {oc_is_leap kV_is_leap dc_is_leap pm_is_leap cd_is_leap ct_is_leap : Value}
    {od_month_length an_month_length : Option Addr} {sl_month_length : Array (Option Value)} {oc_month_length kV_month_length dc_month_length pm_month_length cd_month_length ct_month_length : Value}
    {od_days_before an_days_before : Option Addr} {sl_days_before : Array (Option Value)} {oc_days_before kV_days_before dc_days_before pm_days_before cd_days_before ct_days_before : Value}
    {od_day_of an_day_of : Option Addr} {sl_day_of : Array (Option Value)} {oc_day_of kV_day_of dc_day_of pm_day_of cd_day_of ct_day_of : Value}
    {od_date_of an_date_of : Option Addr} {sl_date_of : Array (Option Value)} {oc_date_of kV_date_of dc_date_of pm_date_of cd_date_of ct_date_of : Value}
    {od_date_text an_date_text : Option Addr} {sl_date_text : Array (Option Value)} {oc_date_text kV_date_text dc_date_text pm_date_text cd_date_text ct_date_text : Value}
    {od_read_date an_read_date : Option Addr} {sl_read_date : Array (Option Value)} {oc_read_date kV_read_date dc_read_date pm_read_date cd_read_date ct_read_date : Value}
    {od_digits_value an_digits_value : Option Addr} {sl_digits_value : Array (Option Value)} {oc_digits_value kV_digits_value dc_digits_value pm_digits_value cd_digits_value ct_digits_value : Value}
    {od_read_integer an_read_integer : Option Addr} {sl_read_integer : Array (Option Value)} {oc_read_integer kV_read_integer dc_read_integer pm_read_integer cd_read_integer ct_read_integer : Value}
    {od_read_decimal an_read_decimal : Option Addr} {sl_read_decimal : Array (Option Value)} {oc_read_decimal kV_read_decimal dc_read_decimal pm_read_decimal cd_read_decimal ct_read_decimal : Value}
    {od_decimal_text an_decimal_text : Option Addr} {sl_decimal_text : Array (Option Value)} {oc_decimal_text kV_decimal_text dc_decimal_text pm_decimal_text cd_decimal_text ct_decimal_text : Value}
    {od_written_value an_written_value : Option Addr} {sl_written_value : Array (Option Value)} {oc_written_value kV_written_value dc_written_value pm_written_value cd_written_value ct_written_value : Value}
    {od_written_field an_written_field : Option Addr} {sl_written_field : Array (Option Value)} {oc_written_field kV_written_field dc_written_field pm_written_field cd_written_field ct_written_field : Value}
    {od_written_row an_written_row : Option Addr} {sl_written_row : Array (Option Value)} {oc_written_row kV_written_row dc_written_row pm_written_row cd_written_row ct_written_row : Value}
    {od_column_number an_column_number : Option Addr} {sl_column_number : Array (Option Value)} {oc_column_number kV_column_number dc_column_number pm_column_number cd_column_number ct_column_number : Value}
    {od_read_scalar an_read_scalar : Option Addr} {sl_read_scalar : Array (Option Value)} {oc_read_scalar kV_read_scalar dc_read_scalar pm_read_scalar cd_read_scalar ct_read_scalar : Value}
    {od_read_field an_read_field : Option Addr} {sl_read_field : Array (Option Value)} {oc_read_field kV_read_field dc_read_field pm_read_field cd_read_field ct_read_field : Value}
    {od_read_row an_read_row : Option Addr} {sl_read_row : Array (Option Value)} {oc_read_row kV_read_row dc_read_row pm_read_row cd_read_row ct_read_row : Value}
    {od_read_head an_read_head : Option Addr} {sl_read_head : Array (Option Value)} {oc_read_head kV_read_head dc_read_head pm_read_head cd_read_head ct_read_head : Value}
    {od__law_rank an__law_rank : Option Addr} {sl__law_rank : Array (Option Value)} {oc__law_rank kV__law_rank dc__law_rank pm__law_rank cd__law_rank ct__law_rank : Value}
    {od__law_ranks an__law_ranks : Option Addr} {sl__law_ranks : Array (Option Value)} {oc__law_ranks kV__law_ranks dc__law_ranks pm__law_ranks cd__law_ranks ct__law_ranks : Value}
    {od__law_same_rows an__law_same_rows : Option Addr} {sl__law_same_rows : Array (Option Value)} {oc__law_same_rows kV__law_same_rows dc__law_same_rows pm__law_same_rows cd__law_same_rows ct__law_same_rows : Value}
    {od__law_text an__law_text : Option Addr} {sl__law_text : Array (Option Value)} {oc__law_text kV__law_text dc__law_text pm__law_text cd__law_text ct__law_text : Value}
    {od__law_kind_value an__law_kind_value : Option Addr} {sl__law_kind_value : Array (Option Value)} {oc__law_kind_value kV__law_kind_value dc__law_kind_value pm__law_kind_value cd__law_kind_value ct__law_kind_value : Value}
    {od__law_columns an__law_columns : Option Addr} {sl__law_columns : Array (Option Value)} {oc__law_columns kV__law_columns dc__law_columns pm__law_columns cd__law_columns ct__law_columns : Value}
    {od__law_column_value an__law_column_value : Option Addr} {sl__law_column_value : Array (Option Value)} {oc__law_column_value kV__law_column_value dc__law_column_value pm__law_column_value cd__law_column_value ct__law_column_value : Value}
    {od__law_table_row an__law_table_row : Option Addr} {sl__law_table_row : Array (Option Value)} {oc__law_table_row kV__law_table_row dc__law_table_row pm__law_table_row cd__law_table_row ct__law_table_row : Value}
    {od__law_field_text an__law_field_text : Option Addr} {sl__law_field_text : Array (Option Value)} {oc__law_field_text kV__law_field_text dc__law_field_text pm__law_field_text cd__law_field_text ct__law_field_text : Value}
    {od__law_written an__law_written : Option Addr} {sl__law_written : Array (Option Value)} {oc__law_written kV__law_written dc__law_written pm__law_written cd__law_written ct__law_written : Value}
    {od__law_must_mark an__law_must_mark : Option Addr} {sl__law_must_mark : Array (Option Value)} {oc__law_must_mark kV__law_must_mark dc__law_must_mark pm__law_must_mark cd__law_must_mark ct__law_must_mark : Value}
    {od__law_decimal an__law_decimal : Option Addr} {sl__law_decimal : Array (Option Value)} {oc__law_decimal kV__law_decimal dc__law_decimal pm__law_decimal cd__law_decimal ct__law_decimal : Value}
    {od__law_value_text an__law_value_text : Option Addr} {sl__law_value_text : Array (Option Value)} {oc__law_value_text kV__law_value_text dc__law_value_text pm__law_value_text cd__law_value_text ct__law_value_text : Value}
    {od__law_put an__law_put : Option Addr} {sl__law_put : Array (Option Value)} {oc__law_put kV__law_put dc__law_put pm__law_put cd__law_put ct__law_put : Value}
    {od__law_line an__law_line : Option Addr} {sl__law_line : Array (Option Value)} {oc__law_line kV__law_line dc__law_line pm__law_line cd__law_line ct__law_line : Value}
    {od__law_row an__law_row : Option Addr} {sl__law_row : Array (Option Value)} {oc__law_row kV__law_row dc__law_row pm__law_row cd__law_row ct__law_row : Value}
    {od_law an_law : Option Addr} {sl_law : Array (Option Value)} {oc_law kV_law dc_law pm_law cd_law ct_law : Value}
    {od_Field_init an_Field_init : Option Addr} {sl_Field_init : Array (Option Value)} {oc_Field_init kV_Field_init dc_Field_init pm_Field_init cd_Field_init ct_Field_init : Value}
    {od_Column_init an_Column_init : Option Addr} {sl_Column_init : Array (Option Value)} {oc_Column_init kV_Column_init dc_Column_init pm_Column_init cd_Column_init ct_Column_init : Value}
    {t_MARK_records : Tok}
    {t_MARK_writing : Tok}
    {t_END : Tok}
    {t_ONE : Tok}
    {IT SE fI cc cda f_read_separated Dsep : Addr}
    {nm_IT q_IT : Str} {N_IT : Addr} {bs_IT : List Value} {sn_IT : List Str} {sub_IT : List Value} {ab_IT : Bool} {col_IT : Option Bool} {dd_IT : Option Addr} {m0_IT m1_IT m2_IT m3_IT m5_IT : Option Value}
    {nm_SE q_SE : Str} {N_SE : Addr} {bs_SE : List Value} {sn_SE : List Str} {sub_SE : List Value} {ab_SE : Bool} {col_SE : Option Bool} {dd_SE : Option Addr} {m0_SE m1_SE m2_SE m3_SE m5_SE : Option Value}
    {od_I an_I odc cdd : Option Addr} {sl_I slc ccs : Array (Option Value)} {oc_I kV_I dc_I pm_I ct_I clc ccl : Value} {vs : Array Value} {file : Str} {tf t_sep : Tok}
    {od_rs an_rs : Option Addr} {sl_rs : Array (Option Value)} {oc_rs dc_rs pm_rs cd_rs ct_rs : Value}
    {f_ws Dws : Addr} {od_ws an_ws : Option Addr} {sl_ws : Array (Option Value)} {oc_ws dc_ws pm_ws cd_ws ct_ws : Value} {tw_sep : Tok}
    {pL pE : Addr} {odL : Option Addr} {nL nE : Nat} {slL : Array (Option Value)} {esE : Array DictEntry} {tEi tEd tEc tFD tGR tMS tL0 tL1 tL2 tL3 tL4 tL5 tL6 tL7 tL8 tL9 tL10 tL11 : Tok}
    (a__law_cell : PySem.W.nsIn K mainGlobals "_law_cell" = some (some (.ref f__law_cell)))
    (l__law_cell : K.lookup f__law_cell = some ⟨oc__law_cell, od__law_cell, .func (PySem.W.fnOf "_law_cell" "_law_cell" (defArgs s__law_cell) (defBody s__law_cell) (defScope s__law_cell) .none kV__law_cell dc__law_cell pm__law_cell an__law_cell cd__law_cell ct__law_cell), sl__law_cell⟩)
    (c__law_cell : PySem.W.codeIn K cd__law_cell "_law_cell" = true)
    (k__law_cell : PySem.W.keepIn K (.ref f__law_cell) = true)
    (a__law_state : PySem.W.nsIn K mainGlobals "_law_state" = some (some (.ref f__law_state)))
    (l__law_state : K.lookup f__law_state = some ⟨oc__law_state, od__law_state, .func (PySem.W.fnOf "_law_state" "_law_state" (defArgs s__law_state) (defBody s__law_state) (defScope s__law_state) .none kV__law_state dc__law_state pm__law_state an__law_state cd__law_state ct__law_state), sl__law_state⟩)
    (c__law_state : PySem.W.codeIn K cd__law_state "_law_state" = true)
    (k__law_state : PySem.W.keepIn K (.ref f__law_state) = true)
    (a__law_digit : PySem.W.nsIn K mainGlobals "_law_digit" = some (some (.ref f__law_digit)))
    (l__law_digit : K.lookup f__law_digit = some ⟨oc__law_digit, od__law_digit, .func (PySem.W.fnOf "_law_digit" "_law_digit" (defArgs s__law_digit) (defBody s__law_digit) (defScope s__law_digit) .none kV__law_digit dc__law_digit pm__law_digit an__law_digit cd__law_digit ct__law_digit), sl__law_digit⟩)
    (c__law_digit : PySem.W.codeIn K cd__law_digit "_law_digit" = true)
    (k__law_digit : PySem.W.keepIn K (.ref f__law_digit) = true)
    (a_read_marked : PySem.W.nsIn K mainGlobals "read_marked" = some (some (.ref f_read_marked)))
    (l_read_marked : K.lookup f_read_marked = some ⟨oc_read_marked, od_read_marked, .func (PySem.W.fnOf "read_marked" "read_marked" (defArgs s_read_marked) (defBody s_read_marked) (defScope s_read_marked) .none kV_read_marked dc_read_marked pm_read_marked an_read_marked cd_read_marked ct_read_marked), sl_read_marked⟩)
    (c_read_marked : PySem.W.codeIn K cd_read_marked "read_marked" = true)
    (k_read_marked : PySem.W.keepIn K (.ref f_read_marked) = true)
    (a_read_plain : PySem.W.nsIn K mainGlobals "read_plain" = some (some (.ref f_read_plain)))
    (l_read_plain : K.lookup f_read_plain = some ⟨oc_read_plain, od_read_plain, .func (PySem.W.fnOf "read_plain" "read_plain" (defArgs s_read_plain) (defBody s_read_plain) (defScope s_read_plain) .none kV_read_plain dc_read_plain pm_read_plain an_read_plain cd_read_plain ct_read_plain), sl_read_plain⟩)
    (c_read_plain : PySem.W.codeIn K cd_read_plain "read_plain" = true)
    (k_read_plain : PySem.W.keepIn K (.ref f_read_plain) = true)
    (a_split_records : PySem.W.nsIn K mainGlobals "split_records" = some (some (.ref f_split_records)))
    (l_split_records : K.lookup f_split_records = some ⟨oc_split_records, od_split_records, .func (PySem.W.fnOf "split_records" "split_records" (defArgs s_split_records) (defBody s_split_records) (defScope s_split_records) .none kV_split_records dc_split_records pm_split_records an_split_records cd_split_records ct_split_records), sl_split_records⟩)
    (c_split_records : PySem.W.codeIn K cd_split_records "split_records" = true)
    (k_split_records : PySem.W.keepIn K (.ref f_split_records) = true)
    (a_is_leap : PySem.W.nsIn K mainGlobals "is_leap" = some (some (.ref f_is_leap)))
    (l_is_leap : K.lookup f_is_leap = some ⟨oc_is_leap, od_is_leap, .func (PySem.W.fnOf "is_leap" "is_leap" (defArgs s_is_leap) (defBody s_is_leap) (defScope s_is_leap) .none kV_is_leap dc_is_leap pm_is_leap an_is_leap cd_is_leap ct_is_leap), sl_is_leap⟩)
    (c_is_leap : PySem.W.codeIn K cd_is_leap "is_leap" = true)
    (k_is_leap : PySem.W.keepIn K (.ref f_is_leap) = true)
    (a_month_length : PySem.W.nsIn K mainGlobals "month_length" = some (some (.ref f_month_length)))
    (l_month_length : K.lookup f_month_length = some ⟨oc_month_length, od_month_length, .func (PySem.W.fnOf "month_length" "month_length" (defArgs s_month_length) (defBody s_month_length) (defScope s_month_length) .none kV_month_length dc_month_length pm_month_length an_month_length cd_month_length ct_month_length), sl_month_length⟩)
    (c_month_length : PySem.W.codeIn K cd_month_length "month_length" = true)
    (k_month_length : PySem.W.keepIn K (.ref f_month_length) = true)
    (a_days_before : PySem.W.nsIn K mainGlobals "days_before" = some (some (.ref f_days_before)))
    (l_days_before : K.lookup f_days_before = some ⟨oc_days_before, od_days_before, .func (PySem.W.fnOf "days_before" "days_before" (defArgs s_days_before) (defBody s_days_before) (defScope s_days_before) .none kV_days_before dc_days_before pm_days_before an_days_before cd_days_before ct_days_before), sl_days_before⟩)
    (c_days_before : PySem.W.codeIn K cd_days_before "days_before" = true)
    (k_days_before : PySem.W.keepIn K (.ref f_days_before) = true)
    (a_day_of : PySem.W.nsIn K mainGlobals "day_of" = some (some (.ref f_day_of)))
    (l_day_of : K.lookup f_day_of = some ⟨oc_day_of, od_day_of, .func (PySem.W.fnOf "day_of" "day_of" (defArgs s_day_of) (defBody s_day_of) (defScope s_day_of) .none kV_day_of dc_day_of pm_day_of an_day_of cd_day_of ct_day_of), sl_day_of⟩)
    (c_day_of : PySem.W.codeIn K cd_day_of "day_of" = true)
    (k_day_of : PySem.W.keepIn K (.ref f_day_of) = true)
    (a_date_of : PySem.W.nsIn K mainGlobals "date_of" = some (some (.ref f_date_of)))
    (l_date_of : K.lookup f_date_of = some ⟨oc_date_of, od_date_of, .func (PySem.W.fnOf "date_of" "date_of" (defArgs s_date_of) (defBody s_date_of) (defScope s_date_of) .none kV_date_of dc_date_of pm_date_of an_date_of cd_date_of ct_date_of), sl_date_of⟩)
    (c_date_of : PySem.W.codeIn K cd_date_of "date_of" = true)
    (k_date_of : PySem.W.keepIn K (.ref f_date_of) = true)
    (a_date_text : PySem.W.nsIn K mainGlobals "date_text" = some (some (.ref f_date_text)))
    (l_date_text : K.lookup f_date_text = some ⟨oc_date_text, od_date_text, .func (PySem.W.fnOf "date_text" "date_text" (defArgs s_date_text) (defBody s_date_text) (defScope s_date_text) .none kV_date_text dc_date_text pm_date_text an_date_text cd_date_text ct_date_text), sl_date_text⟩)
    (c_date_text : PySem.W.codeIn K cd_date_text "date_text" = true)
    (k_date_text : PySem.W.keepIn K (.ref f_date_text) = true)
    (a_read_date : PySem.W.nsIn K mainGlobals "read_date" = some (some (.ref f_read_date)))
    (l_read_date : K.lookup f_read_date = some ⟨oc_read_date, od_read_date, .func (PySem.W.fnOf "read_date" "read_date" (defArgs s_read_date) (defBody s_read_date) (defScope s_read_date) .none kV_read_date dc_read_date pm_read_date an_read_date cd_read_date ct_read_date), sl_read_date⟩)
    (c_read_date : PySem.W.codeIn K cd_read_date "read_date" = true)
    (k_read_date : PySem.W.keepIn K (.ref f_read_date) = true)
    (a_digits_value : PySem.W.nsIn K mainGlobals "digits_value" = some (some (.ref f_digits_value)))
    (l_digits_value : K.lookup f_digits_value = some ⟨oc_digits_value, od_digits_value, .func (PySem.W.fnOf "digits_value" "digits_value" (defArgs s_digits_value) (defBody s_digits_value) (defScope s_digits_value) .none kV_digits_value dc_digits_value pm_digits_value an_digits_value cd_digits_value ct_digits_value), sl_digits_value⟩)
    (c_digits_value : PySem.W.codeIn K cd_digits_value "digits_value" = true)
    (k_digits_value : PySem.W.keepIn K (.ref f_digits_value) = true)
    (a_read_integer : PySem.W.nsIn K mainGlobals "read_integer" = some (some (.ref f_read_integer)))
    (l_read_integer : K.lookup f_read_integer = some ⟨oc_read_integer, od_read_integer, .func (PySem.W.fnOf "read_integer" "read_integer" (defArgs s_read_integer) (defBody s_read_integer) (defScope s_read_integer) .none kV_read_integer dc_read_integer pm_read_integer an_read_integer cd_read_integer ct_read_integer), sl_read_integer⟩)
    (c_read_integer : PySem.W.codeIn K cd_read_integer "read_integer" = true)
    (k_read_integer : PySem.W.keepIn K (.ref f_read_integer) = true)
    (a_read_decimal : PySem.W.nsIn K mainGlobals "read_decimal" = some (some (.ref f_read_decimal)))
    (l_read_decimal : K.lookup f_read_decimal = some ⟨oc_read_decimal, od_read_decimal, .func (PySem.W.fnOf "read_decimal" "read_decimal" (defArgs s_read_decimal) (defBody s_read_decimal) (defScope s_read_decimal) .none kV_read_decimal dc_read_decimal pm_read_decimal an_read_decimal cd_read_decimal ct_read_decimal), sl_read_decimal⟩)
    (c_read_decimal : PySem.W.codeIn K cd_read_decimal "read_decimal" = true)
    (k_read_decimal : PySem.W.keepIn K (.ref f_read_decimal) = true)
    (a_decimal_text : PySem.W.nsIn K mainGlobals "decimal_text" = some (some (.ref f_decimal_text)))
    (l_decimal_text : K.lookup f_decimal_text = some ⟨oc_decimal_text, od_decimal_text, .func (PySem.W.fnOf "decimal_text" "decimal_text" (defArgs s_decimal_text) (defBody s_decimal_text) (defScope s_decimal_text) .none kV_decimal_text dc_decimal_text pm_decimal_text an_decimal_text cd_decimal_text ct_decimal_text), sl_decimal_text⟩)
    (c_decimal_text : PySem.W.codeIn K cd_decimal_text "decimal_text" = true)
    (k_decimal_text : PySem.W.keepIn K (.ref f_decimal_text) = true)
    (a_written_value : PySem.W.nsIn K mainGlobals "written_value" = some (some (.ref f_written_value)))
    (l_written_value : K.lookup f_written_value = some ⟨oc_written_value, od_written_value, .func (PySem.W.fnOf "written_value" "written_value" (defArgs s_written_value) (defBody s_written_value) (defScope s_written_value) .none kV_written_value dc_written_value pm_written_value an_written_value cd_written_value ct_written_value), sl_written_value⟩)
    (c_written_value : PySem.W.codeIn K cd_written_value "written_value" = true)
    (k_written_value : PySem.W.keepIn K (.ref f_written_value) = true)
    (a_written_field : PySem.W.nsIn K mainGlobals "written_field" = some (some (.ref f_written_field)))
    (l_written_field : K.lookup f_written_field = some ⟨oc_written_field, od_written_field, .func (PySem.W.fnOf "written_field" "written_field" (defArgs s_written_field) (defBody s_written_field) (defScope s_written_field) .none kV_written_field dc_written_field pm_written_field an_written_field cd_written_field ct_written_field), sl_written_field⟩)
    (c_written_field : PySem.W.codeIn K cd_written_field "written_field" = true)
    (k_written_field : PySem.W.keepIn K (.ref f_written_field) = true)
    (a_written_row : PySem.W.nsIn K mainGlobals "written_row" = some (some (.ref f_written_row)))
    (l_written_row : K.lookup f_written_row = some ⟨oc_written_row, od_written_row, .func (PySem.W.fnOf "written_row" "written_row" (defArgs s_written_row) (defBody s_written_row) (defScope s_written_row) .none kV_written_row dc_written_row pm_written_row an_written_row cd_written_row ct_written_row), sl_written_row⟩)
    (c_written_row : PySem.W.codeIn K cd_written_row "written_row" = true)
    (k_written_row : PySem.W.keepIn K (.ref f_written_row) = true)
    (a_column_number : PySem.W.nsIn K mainGlobals "column_number" = some (some (.ref f_column_number)))
    (l_column_number : K.lookup f_column_number = some ⟨oc_column_number, od_column_number, .func (PySem.W.fnOf "column_number" "column_number" (defArgs s_column_number) (defBody s_column_number) (defScope s_column_number) .none kV_column_number dc_column_number pm_column_number an_column_number cd_column_number ct_column_number), sl_column_number⟩)
    (c_column_number : PySem.W.codeIn K cd_column_number "column_number" = true)
    (k_column_number : PySem.W.keepIn K (.ref f_column_number) = true)
    (a_read_scalar : PySem.W.nsIn K mainGlobals "read_scalar" = some (some (.ref f_read_scalar)))
    (l_read_scalar : K.lookup f_read_scalar = some ⟨oc_read_scalar, od_read_scalar, .func (PySem.W.fnOf "read_scalar" "read_scalar" (defArgs s_read_scalar) (defBody s_read_scalar) (defScope s_read_scalar) .none kV_read_scalar dc_read_scalar pm_read_scalar an_read_scalar cd_read_scalar ct_read_scalar), sl_read_scalar⟩)
    (c_read_scalar : PySem.W.codeIn K cd_read_scalar "read_scalar" = true)
    (k_read_scalar : PySem.W.keepIn K (.ref f_read_scalar) = true)
    (a_read_field : PySem.W.nsIn K mainGlobals "read_field" = some (some (.ref f_read_field)))
    (l_read_field : K.lookup f_read_field = some ⟨oc_read_field, od_read_field, .func (PySem.W.fnOf "read_field" "read_field" (defArgs s_read_field) (defBody s_read_field) (defScope s_read_field) .none kV_read_field dc_read_field pm_read_field an_read_field cd_read_field ct_read_field), sl_read_field⟩)
    (c_read_field : PySem.W.codeIn K cd_read_field "read_field" = true)
    (k_read_field : PySem.W.keepIn K (.ref f_read_field) = true)
    (a_read_row : PySem.W.nsIn K mainGlobals "read_row" = some (some (.ref f_read_row)))
    (l_read_row : K.lookup f_read_row = some ⟨oc_read_row, od_read_row, .func (PySem.W.fnOf "read_row" "read_row" (defArgs s_read_row) (defBody s_read_row) (defScope s_read_row) .none kV_read_row dc_read_row pm_read_row an_read_row cd_read_row ct_read_row), sl_read_row⟩)
    (c_read_row : PySem.W.codeIn K cd_read_row "read_row" = true)
    (k_read_row : PySem.W.keepIn K (.ref f_read_row) = true)
    (a_read_head : PySem.W.nsIn K mainGlobals "read_head" = some (some (.ref f_read_head)))
    (l_read_head : K.lookup f_read_head = some ⟨oc_read_head, od_read_head, .func (PySem.W.fnOf "read_head" "read_head" (defArgs s_read_head) (defBody s_read_head) (defScope s_read_head) .none kV_read_head dc_read_head pm_read_head an_read_head cd_read_head ct_read_head), sl_read_head⟩)
    (c_read_head : PySem.W.codeIn K cd_read_head "read_head" = true)
    (k_read_head : PySem.W.keepIn K (.ref f_read_head) = true)
    (a__law_rank : PySem.W.nsIn K mainGlobals "_law_rank" = some (some (.ref f__law_rank)))
    (l__law_rank : K.lookup f__law_rank = some ⟨oc__law_rank, od__law_rank, .func (PySem.W.fnOf "_law_rank" "_law_rank" (defArgs s__law_rank) (defBody s__law_rank) (defScope s__law_rank) .none kV__law_rank dc__law_rank pm__law_rank an__law_rank cd__law_rank ct__law_rank), sl__law_rank⟩)
    (c__law_rank : PySem.W.codeIn K cd__law_rank "_law_rank" = true)
    (k__law_rank : PySem.W.keepIn K (.ref f__law_rank) = true)
    (a__law_ranks : PySem.W.nsIn K mainGlobals "_law_ranks" = some (some (.ref f__law_ranks)))
    (l__law_ranks : K.lookup f__law_ranks = some ⟨oc__law_ranks, od__law_ranks, .func (PySem.W.fnOf "_law_ranks" "_law_ranks" (defArgs s__law_ranks) (defBody s__law_ranks) (defScope s__law_ranks) .none kV__law_ranks dc__law_ranks pm__law_ranks an__law_ranks cd__law_ranks ct__law_ranks), sl__law_ranks⟩)
    (c__law_ranks : PySem.W.codeIn K cd__law_ranks "_law_ranks" = true)
    (k__law_ranks : PySem.W.keepIn K (.ref f__law_ranks) = true)
    (a__law_same_rows : PySem.W.nsIn K mainGlobals "_law_same_rows" = some (some (.ref f__law_same_rows)))
    (l__law_same_rows : K.lookup f__law_same_rows = some ⟨oc__law_same_rows, od__law_same_rows, .func (PySem.W.fnOf "_law_same_rows" "_law_same_rows" (defArgs s__law_same_rows) (defBody s__law_same_rows) (defScope s__law_same_rows) .none kV__law_same_rows dc__law_same_rows pm__law_same_rows an__law_same_rows cd__law_same_rows ct__law_same_rows), sl__law_same_rows⟩)
    (c__law_same_rows : PySem.W.codeIn K cd__law_same_rows "_law_same_rows" = true)
    (k__law_same_rows : PySem.W.keepIn K (.ref f__law_same_rows) = true)
    (a__law_text : PySem.W.nsIn K mainGlobals "_law_text" = some (some (.ref f__law_text)))
    (l__law_text : K.lookup f__law_text = some ⟨oc__law_text, od__law_text, .func (PySem.W.fnOf "_law_text" "_law_text" (defArgs s__law_text) (defBody s__law_text) (defScope s__law_text) .none kV__law_text dc__law_text pm__law_text an__law_text cd__law_text ct__law_text), sl__law_text⟩)
    (c__law_text : PySem.W.codeIn K cd__law_text "_law_text" = true)
    (k__law_text : PySem.W.keepIn K (.ref f__law_text) = true)
    (a__law_kind_value : PySem.W.nsIn K mainGlobals "_law_kind_value" = some (some (.ref f__law_kind_value)))
    (l__law_kind_value : K.lookup f__law_kind_value = some ⟨oc__law_kind_value, od__law_kind_value, .func (PySem.W.fnOf "_law_kind_value" "_law_kind_value" (defArgs s__law_kind_value) (defBody s__law_kind_value) (defScope s__law_kind_value) .none kV__law_kind_value dc__law_kind_value pm__law_kind_value an__law_kind_value cd__law_kind_value ct__law_kind_value), sl__law_kind_value⟩)
    (c__law_kind_value : PySem.W.codeIn K cd__law_kind_value "_law_kind_value" = true)
    (k__law_kind_value : PySem.W.keepIn K (.ref f__law_kind_value) = true)
    (a__law_columns : PySem.W.nsIn K mainGlobals "_law_columns" = some (some (.ref f__law_columns)))
    (l__law_columns : K.lookup f__law_columns = some ⟨oc__law_columns, od__law_columns, .func (PySem.W.fnOf "_law_columns" "_law_columns" (defArgs s__law_columns) (defBody s__law_columns) (defScope s__law_columns) .none kV__law_columns dc__law_columns pm__law_columns an__law_columns cd__law_columns ct__law_columns), sl__law_columns⟩)
    (c__law_columns : PySem.W.codeIn K cd__law_columns "_law_columns" = true)
    (k__law_columns : PySem.W.keepIn K (.ref f__law_columns) = true)
    (a__law_column_value : PySem.W.nsIn K mainGlobals "_law_column_value" = some (some (.ref f__law_column_value)))
    (l__law_column_value : K.lookup f__law_column_value = some ⟨oc__law_column_value, od__law_column_value, .func (PySem.W.fnOf "_law_column_value" "_law_column_value" (defArgs s__law_column_value) (defBody s__law_column_value) (defScope s__law_column_value) .none kV__law_column_value dc__law_column_value pm__law_column_value an__law_column_value cd__law_column_value ct__law_column_value), sl__law_column_value⟩)
    (c__law_column_value : PySem.W.codeIn K cd__law_column_value "_law_column_value" = true)
    (k__law_column_value : PySem.W.keepIn K (.ref f__law_column_value) = true)
    (a__law_table_row : PySem.W.nsIn K mainGlobals "_law_table_row" = some (some (.ref f__law_table_row)))
    (l__law_table_row : K.lookup f__law_table_row = some ⟨oc__law_table_row, od__law_table_row, .func (PySem.W.fnOf "_law_table_row" "_law_table_row" (defArgs s__law_table_row) (defBody s__law_table_row) (defScope s__law_table_row) .none kV__law_table_row dc__law_table_row pm__law_table_row an__law_table_row cd__law_table_row ct__law_table_row), sl__law_table_row⟩)
    (c__law_table_row : PySem.W.codeIn K cd__law_table_row "_law_table_row" = true)
    (k__law_table_row : PySem.W.keepIn K (.ref f__law_table_row) = true)
    (a__law_field_text : PySem.W.nsIn K mainGlobals "_law_field_text" = some (some (.ref f__law_field_text)))
    (l__law_field_text : K.lookup f__law_field_text = some ⟨oc__law_field_text, od__law_field_text, .func (PySem.W.fnOf "_law_field_text" "_law_field_text" (defArgs s__law_field_text) (defBody s__law_field_text) (defScope s__law_field_text) .none kV__law_field_text dc__law_field_text pm__law_field_text an__law_field_text cd__law_field_text ct__law_field_text), sl__law_field_text⟩)
    (c__law_field_text : PySem.W.codeIn K cd__law_field_text "_law_field_text" = true)
    (k__law_field_text : PySem.W.keepIn K (.ref f__law_field_text) = true)
    (a__law_written : PySem.W.nsIn K mainGlobals "_law_written" = some (some (.ref f__law_written)))
    (l__law_written : K.lookup f__law_written = some ⟨oc__law_written, od__law_written, .func (PySem.W.fnOf "_law_written" "_law_written" (defArgs s__law_written) (defBody s__law_written) (defScope s__law_written) .none kV__law_written dc__law_written pm__law_written an__law_written cd__law_written ct__law_written), sl__law_written⟩)
    (c__law_written : PySem.W.codeIn K cd__law_written "_law_written" = true)
    (k__law_written : PySem.W.keepIn K (.ref f__law_written) = true)
    (a__law_must_mark : PySem.W.nsIn K mainGlobals "_law_must_mark" = some (some (.ref f__law_must_mark)))
    (l__law_must_mark : K.lookup f__law_must_mark = some ⟨oc__law_must_mark, od__law_must_mark, .func (PySem.W.fnOf "_law_must_mark" "_law_must_mark" (defArgs s__law_must_mark) (defBody s__law_must_mark) (defScope s__law_must_mark) .none kV__law_must_mark dc__law_must_mark pm__law_must_mark an__law_must_mark cd__law_must_mark ct__law_must_mark), sl__law_must_mark⟩)
    (c__law_must_mark : PySem.W.codeIn K cd__law_must_mark "_law_must_mark" = true)
    (k__law_must_mark : PySem.W.keepIn K (.ref f__law_must_mark) = true)
    (a__law_decimal : PySem.W.nsIn K mainGlobals "_law_decimal" = some (some (.ref f__law_decimal)))
    (l__law_decimal : K.lookup f__law_decimal = some ⟨oc__law_decimal, od__law_decimal, .func (PySem.W.fnOf "_law_decimal" "_law_decimal" (defArgs s__law_decimal) (defBody s__law_decimal) (defScope s__law_decimal) .none kV__law_decimal dc__law_decimal pm__law_decimal an__law_decimal cd__law_decimal ct__law_decimal), sl__law_decimal⟩)
    (c__law_decimal : PySem.W.codeIn K cd__law_decimal "_law_decimal" = true)
    (k__law_decimal : PySem.W.keepIn K (.ref f__law_decimal) = true)
    (a__law_value_text : PySem.W.nsIn K mainGlobals "_law_value_text" = some (some (.ref f__law_value_text)))
    (l__law_value_text : K.lookup f__law_value_text = some ⟨oc__law_value_text, od__law_value_text, .func (PySem.W.fnOf "_law_value_text" "_law_value_text" (defArgs s__law_value_text) (defBody s__law_value_text) (defScope s__law_value_text) .none kV__law_value_text dc__law_value_text pm__law_value_text an__law_value_text cd__law_value_text ct__law_value_text), sl__law_value_text⟩)
    (c__law_value_text : PySem.W.codeIn K cd__law_value_text "_law_value_text" = true)
    (k__law_value_text : PySem.W.keepIn K (.ref f__law_value_text) = true)
    (a__law_put : PySem.W.nsIn K mainGlobals "_law_put" = some (some (.ref f__law_put)))
    (l__law_put : K.lookup f__law_put = some ⟨oc__law_put, od__law_put, .func (PySem.W.fnOf "_law_put" "_law_put" (defArgs s__law_put) (defBody s__law_put) (defScope s__law_put) .none kV__law_put dc__law_put pm__law_put an__law_put cd__law_put ct__law_put), sl__law_put⟩)
    (c__law_put : PySem.W.codeIn K cd__law_put "_law_put" = true)
    (k__law_put : PySem.W.keepIn K (.ref f__law_put) = true)
    (a__law_line : PySem.W.nsIn K mainGlobals "_law_line" = some (some (.ref f__law_line)))
    (l__law_line : K.lookup f__law_line = some ⟨oc__law_line, od__law_line, .func (PySem.W.fnOf "_law_line" "_law_line" (defArgs s__law_line) (defBody s__law_line) (defScope s__law_line) .none kV__law_line dc__law_line pm__law_line an__law_line cd__law_line ct__law_line), sl__law_line⟩)
    (c__law_line : PySem.W.codeIn K cd__law_line "_law_line" = true)
    (k__law_line : PySem.W.keepIn K (.ref f__law_line) = true)
    (a__law_row : PySem.W.nsIn K mainGlobals "_law_row" = some (some (.ref f__law_row)))
    (l__law_row : K.lookup f__law_row = some ⟨oc__law_row, od__law_row, .func (PySem.W.fnOf "_law_row" "_law_row" (defArgs s__law_row) (defBody s__law_row) (defScope s__law_row) .none kV__law_row dc__law_row pm__law_row an__law_row cd__law_row ct__law_row), sl__law_row⟩)
    (c__law_row : PySem.W.codeIn K cd__law_row "_law_row" = true)
    (k__law_row : PySem.W.keepIn K (.ref f__law_row) = true)
    (a_law : PySem.W.nsIn K mainGlobals "law" = some (some (.ref f_law)))
    (l_law : K.lookup f_law = some ⟨oc_law, od_law, .func (PySem.W.fnOf "law" "law" (defArgs s_law) (defBody s_law) (defScope s_law) .none kV_law dc_law pm_law an_law cd_law ct_law), sl_law⟩)
    (c_law : PySem.W.codeIn K cd_law "law" = true)
    (k_law : PySem.W.keepIn K (.ref f_law) = true)
    (a_Field : PySem.W.nsIn K mainGlobals "Field" = some (some (.ref C)))
    (a_Field_init : PySem.W.findIn K (.ref C) "__init__" = some (some (.ref f_Field_init)))
    (i_Field_init : PySem.W.isFn K (.ref f_Field_init) = true)
    (l_Field_init : K.lookup f_Field_init = some ⟨oc_Field_init, od_Field_init, .func (PySem.W.fnOf "__init__" "Field.__init__" (defArgs s_Field___init__) (defBody s_Field___init__) (defScope s_Field___init__) .none kV_Field_init dc_Field_init pm_Field_init an_Field_init cd_Field_init ct_Field_init), sl_Field_init⟩)
    (c_Field_init : PySem.W.codeIn K cd_Field_init "Field.__init__" = true)
    (k_Field_init : PySem.W.keepIn K (.ref f_Field_init) = true)
    (pg_Field : PySem.W.plainGet K C Str.empty = true)
    (hd_Field : PySem.W.hasDictIn K C = true)
    (po_Field : PySem.W.plainOver K C = true)
    (sa_Field : PySem.W.findIn K (.ref C) "__setattr__" = some (some (.builtin "object.__setattr__")))
    (mk_Field : PySem.W.makesIn K C = true)
    (kc_Field : PySem.W.keepIn K (.ref C) = true)
    (n_Field_text : PySem.W.findIn K (.ref C) "text" = some none)
    (n_Field_offset : PySem.W.findIn K (.ref C) "offset" = some none)
    (n_Field_marked : PySem.W.findIn K (.ref C) "marked" = some none)
    (ha_Field : PySem.W.findIn K (.ref C) "__class__" = some (some (.builtin "object.__class__")))
    (hm_Field : PySem.W.mroIn K C (.type "object") = some true)
    (a_Column : PySem.W.nsIn K mainGlobals "Column" = some (some (.ref CC)))
    (a_Column_init : PySem.W.findIn K (.ref CC) "__init__" = some (some (.ref f_Column_init)))
    (i_Column_init : PySem.W.isFn K (.ref f_Column_init) = true)
    (l_Column_init : K.lookup f_Column_init = some ⟨oc_Column_init, od_Column_init, .func (PySem.W.fnOf "__init__" "Column.__init__" (defArgs s_Column___init__) (defBody s_Column___init__) (defScope s_Column___init__) .none kV_Column_init dc_Column_init pm_Column_init an_Column_init cd_Column_init ct_Column_init), sl_Column_init⟩)
    (c_Column_init : PySem.W.codeIn K cd_Column_init "Column.__init__" = true)
    (k_Column_init : PySem.W.keepIn K (.ref f_Column_init) = true)
    (pg_Column : PySem.W.plainGet K CC Str.empty = true)
    (hd_Column : PySem.W.hasDictIn K CC = true)
    (po_Column : PySem.W.plainOver K CC = true)
    (sa_Column : PySem.W.findIn K (.ref CC) "__setattr__" = some (some (.builtin "object.__setattr__")))
    (mk_Column : PySem.W.makesIn K CC = true)
    (kc_Column : PySem.W.keepIn K (.ref CC) = true)
    (n_Column_name : PySem.W.findIn K (.ref CC) "name" = some none)
    (n_Column_kind : PySem.W.findIn K (.ref CC) "kind" = some none)
    (n_Column_nullable : PySem.W.findIn K (.ref CC) "nullable" = some none)
    (hn : PySem.W.specialIn K (.builtin "object.__class__") "__get__" = some (some (.builtin "getset_descriptor.__get__")))
    (htk : PySem.W.takesIn K (.builtin "object.__class__") = some true)
    (v_MARK_records : PySem.W.nsIn K mainGlobals "MARK_records" = some (some (.str "\"" t_MARK_records)))
    (v_MARK_writing : PySem.W.nsIn K mainGlobals "MARK_writing" = some (some (.str "\"" t_MARK_writing)))
    (v_END : PySem.W.nsIn K mainGlobals "END" = some (some (.str "\n" t_END)))
    (v_ONE : PySem.W.nsIn K mainGlobals "ONE" = some (some (.int 10000 t_ONE)))
    (z_len : PySem.W.nsIn K mainGlobals "len" = some none)
    (z_int : PySem.W.nsIn K mainGlobals "int" = some none)
    (z_range : PySem.W.nsIn K mainGlobals "range" = some none)
    (z_min : PySem.W.nsIn K mainGlobals "min" = some none)
    (z_isinstance : PySem.W.nsIn K mainGlobals "isinstance" = some none)
    (z_list : PySem.W.nsIn K mainGlobals "list" = some none)
    (z_bool : PySem.W.nsIn K mainGlobals "bool" = some none)
    (z_super : PySem.W.nsIn K mainGlobals "super" = some none)
    (z_str : PySem.W.nsIn K mainGlobals "str" = some none)
    (z_abs : PySem.W.nsIn K mainGlobals "abs" = some none)
    (z_enumerate : PySem.W.nsIn K mainGlobals "enumerate" = some none)
    (a_IT : PySem.W.nsIn K mainGlobals "InvalidText" = some (some (.ref IT)))
    (a_SE : PySem.W.nsIn K mainGlobals "StylobateError" = some (some (.ref SE)))
    (x_IT : K.lookup IT = some (excClassObj nm_IT q_IT IT N_IT bs_IT [.ref SE, .type "ValueError", .type "Exception", .type "BaseException", .type "object"] true sn_IT sub_IT ab_IT col_IT dd_IT m0_IT m1_IT m2_IT m3_IT m5_IT "ValueError.__new__"))
    (x_SE : K.lookup SE = some (excClassObj nm_SE q_SE SE N_SE bs_SE [.type "ValueError", .type "Exception", .type "BaseException", .type "object"] true sn_SE sub_SE ab_SE col_SE dd_SE m0_SE m1_SE m2_SE m3_SE m5_SE "ValueError.__new__"))
    (xi_sa : PySem.W.findIn K (.ref IT) "__setattr__" = some (some (.builtin "object.__setattr__")))
    (xi_ga : PySem.W.findIn K (.ref IT) "__getattribute__" = some (some (.builtin "BaseException.__getattribute__")))
    (xi_gg : PySem.W.findIn K (.ref IT) "__getattr__" = some none)
    (xi_nO : PySem.W.findIn K (.ref IT) "offset" = some none)
    (xi_nR : PySem.W.findIn K (.ref IT) "reason" = some none)
    (xi_i : PySem.W.findIn K (.ref IT) "__init__" = some (some (.ref fI)))
    (xs_i : PySem.W.findIn K (.ref SE) "__init__" = some (some (.builtin "ValueError.__init__")))
    (xi_tI : PySem.W.typeIn K (.ref fI) = some (.type "function"))
    (xi_l : K.lookup fI = some ⟨oc_I, od_I, .func (PySem.W.ksFn "__init__" "InvalidText.__init__" (defArgs s_Inv_init) (defBody s_Inv_init) (defScope s_Inv_init) .none kV_I dc_I pm_I an_I (.ref cda) ct_I cc), sl_I⟩)
    (xi_c : PySem.W.codeIn K (.ref cda) "InvalidText.__init__" = true)
    (xi_k : PySem.W.keepIn K (.ref IT) = true)
    (xi_e : PySem.W.subIn K (.ref IT) (.type "BaseException") = some true)
    (xi_v : PySem.W.subIn K (.ref IT) (.type "ValueError") = some true)
    (xi_t : PySem.W.typeIn K (.ref IT) = some (.type "type"))
    (xi_h : PySem.W.hasDictIn K IT = true)
    (xi_s : PySem.W.subIn K (.ref IT) (.ref IT) = some true)
    (xi_cell : K.lookup cc = some ⟨clc, odc, .cell (some (.ref IT)), slc⟩)
    (xi_code : K.lookup cda = some ⟨ccl, cdd, .fields vs, ccs⟩)
    (xi_vs : vs[2]? = some (Value.str file tf))
    (xi_file : ((l.prog.main.file : Str) == file) = true)
    (xi_any : PySem.W.nsIn K cStatics "thirdparty.any" = some none)
    (xi_top : (l.prog.main.scope.names.lookup ("super" : Str)).isSome = false)
    (a_rs : PySem.W.nsIn K mainGlobals "read_separated" = some (some (.ref f_read_separated)))
    (l_rs : K.lookup f_read_separated = some ⟨oc_rs, od_rs, .func (PySem.W.fnOf "read_separated" "read_separated" (defArgs s_read_separated) (defBody s_read_separated) (defScope s_read_separated) .none (.ref Dsep) dc_rs pm_rs an_rs cd_rs ct_rs), sl_rs⟩)
    (c_rs : PySem.W.codeIn K cd_rs "read_separated" = true)
    (k_rs : PySem.W.keepIn K (.ref f_read_separated) = true)
    (d_sep : PySem.W.nsIn K Dsep "separator" = some (some (.str "," t_sep)))
    (d_head : PySem.W.nsIn K Dsep "head" = some (some (.bool true)))
    (a_ws : PySem.W.nsIn K mainGlobals "write_separated" = some (some (.ref f_ws)))
    (l_ws : K.lookup f_ws = some ⟨oc_ws, od_ws, .func (PySem.W.fnOf "write_separated" "write_separated" (defArgs s_write_separated) (defBody s_write_separated) (defScope s_write_separated) .none (.ref Dws) dc_ws pm_ws an_ws cd_ws ct_ws), sl_ws⟩)
    (c_ws : PySem.W.codeIn K cd_ws "write_separated" = true)
    (k_ws : PySem.W.keepIn K (.ref f_ws) = true)
    (dw_sep : PySem.W.nsIn K Dws "separator" = some (some (.str "," tw_sep)))
    (dw_head : PySem.W.nsIn K Dws "head" = some (some (.bool true)))
    (m_0 : t_MARK_writing ≠ 0)
    (m_1 : t_MARK_writing < 782)
    (a_FD : PySem.W.nsIn K mainGlobals "FIRST_DAY" = some (some (.int (-719162) tFD)))
    (a_GR : PySem.W.nsIn K mainGlobals "GREATEST" = some (some (.int 1000000000000000 tGR)))
    (a_MS : PySem.W.nsIn K mainGlobals "MOST_SIGNS" = some (some (.int 10000 tMS)))
    (a_LEN : PySem.W.nsIn K mainGlobals "LENGTHS" = some (some (.ref pL)))
    (o_LEN : K.lookup pL = some ⟨.type "tuple", odL, .seq #[.int 31 tL0, .int 28 tL1, .int 31 tL2, .int 30 tL3, .int 31 tL4, .int 30 tL5, .int 31 tL6, .int 31 tL7, .int 30 tL8, .int 31 tL9, .int 30 tL10, .int 31 tL11] nL, slL⟩)
    (a_EX : PySem.W.nsIn K mainGlobals "EXPECTED" = some (some (.ref pE)))
    (o_EX : K.lookup pE = some ⟨.type "dict", none, .dict esE nE, #[]⟩)
    (k_EX : PySem.W.KeysLit w.params esE.toList)
    (e_Ei : PySem.W.nsIn K pE "int" = some (some (.str "an integer is expected" tEi)))
    (e_Ed : PySem.W.nsIn K pE "date" = some (some (.str "a date is expected" tEd)))
    (e_Ec : PySem.W.nsIn K pE "decimal" = some (some (.str "a decimal is expected" tEc))) :
    ∃ fd : FuncData, (∀ (s : Shared) (v : Value), BindsTo s fd ⟨[v], []⟩ [("_law_script", v)]) ∧ ∀ base : Heap, K.In base → base.Ns mainGlobals mg → FnN 782 l.prog w K mg base CX0 9 fa fd ["_law_script"] (spLaw K) := by
  have e := hfa.symm.trans (PySem.W.mg_of X G a_law)
  cases e
  have T : Txt K mg C f_read_marked f_read_plain := ⟨PySem.W.mg_none_of X G z_len, PySem.W.mg_none_of X G z_int, PySem.W.mg_none_of X G z_range, PySem.W.mg_none_of X G z_min, PySem.W.mg_none_of X G z_isinstance, PySem.W.mg_none_of X G z_list, PySem.W.mg_none_of X G z_bool,
    ⟨pg_Field, hd_Field, po_Field, sa_Field⟩, n_Field_text, n_Field_offset, n_Field_marked, PySem.W.mg_of X G a_Field, ⟨_, PySem.W.mg_of X G v_MARK_records, _, congrArg (fun z => Value.str z t_MARK_records) c_quote⟩, ⟨_, PySem.W.mg_of X G v_END, _, congrArg (fun z => Value.str z t_END) c_nl⟩,
    PySem.W.mg_of X G a_read_marked, PySem.W.mg_of X G a_read_plain, ⟨⟨pg_Field, hd_Field, po_Field, sa_Field⟩, ha_Field, hn, htk, hm_Field, kit_self _ _⟩,
    PySem.W.mg_none_of X G z_str, PySem.W.mg_none_of X G z_abs, PySem.W.mg_none_of X G z_enumerate, ⟨_, PySem.W.mg_of X G a_FD, _, rfl⟩, ⟨_, PySem.W.mg_of X G a_GR, _, rfl⟩, ⟨_, PySem.W.mg_of X G a_MS, _, rfl⟩, ⟨_, PySem.W.mg_of X G a_LEN, fun _ => .inr ⟨_, _, _, o_LEN, rfl, rfl, lt_sz (show 12 ≤ 200000 by decide), .cons ⟨_, rfl⟩ (.cons ⟨_, rfl⟩ (.cons ⟨_, rfl⟩ (.cons ⟨_, rfl⟩ (.cons ⟨_, rfl⟩ (.cons ⟨_, rfl⟩ (.cons ⟨_, rfl⟩ (.cons ⟨_, rfl⟩ (.cons ⟨_, rfl⟩ (.cons ⟨_, rfl⟩ (.cons ⟨_, rfl⟩ (.cons ⟨_, rfl⟩ .nil)))))))))))⟩⟩⟩
  have U : ColT K CC := ⟨⟨pg_Column, hd_Column, po_Column, sa_Column⟩, n_Column_name, n_Column_kind, n_Column_nullable⟩
  have F__law_cell := fun_mk (st := s__law_cell) l__law_cell c__law_cell k__law_cell
  have b__law_cell := F__law_cell.binds (ps := ["_law_script", "_law_k"]) fun _ _ _ _ _ _ us hl => match us, hl with | [_, _], _ => rfl
  have F__law_state := fun_mk (st := s__law_state) l__law_state c__law_state k__law_state
  have b__law_state := F__law_state.binds (ps := ["_law_cell_here", "_law_k"]) fun _ _ _ _ _ _ us hl => match us, hl with | [_, _], _ => rfl
  have F__law_digit := fun_mk (st := s__law_digit) l__law_digit c__law_digit k__law_digit
  have b__law_digit := F__law_digit.binds (ps := ["_law_state_here", "_law_many"]) fun _ _ _ _ _ _ us hl => match us, hl with | [_, _], _ => rfl
  have F_read_marked := fun_mk (st := s_read_marked) l_read_marked c_read_marked k_read_marked
  have b_read_marked := F_read_marked.binds (ps := ["text", "at", "separator"]) fun _ _ _ _ _ _ us hl => match us, hl with | [_, _, _], _ => rfl
  have F_read_plain := fun_mk (st := s_read_plain) l_read_plain c_read_plain k_read_plain
  have b_read_plain := F_read_plain.binds (ps := ["text", "at", "separator"]) fun _ _ _ _ _ _ us hl => match us, hl with | [_, _, _], _ => rfl
  have F_split_records := fun_mk (st := s_split_records) l_split_records c_split_records k_split_records
  have b_split_records := F_split_records.binds (ps := ["text", "separator"]) fun _ _ _ _ _ _ us hl => match us, hl with | [_, _], _ => rfl
  have F_is_leap := fun_mk (st := s_is_leap) l_is_leap c_is_leap k_is_leap
  have b_is_leap := F_is_leap.binds (ps := ["year"]) fun _ _ _ _ _ _ us hl => match us, hl with | [_], _ => rfl
  have F_month_length := fun_mk (st := s_month_length) l_month_length c_month_length k_month_length
  have b_month_length := F_month_length.binds (ps := ["year", "month"]) fun _ _ _ _ _ _ us hl => match us, hl with | [_, _], _ => rfl
  have F_days_before := fun_mk (st := s_days_before) l_days_before c_days_before k_days_before
  have b_days_before := F_days_before.binds (ps := ["year"]) fun _ _ _ _ _ _ us hl => match us, hl with | [_], _ => rfl
  have F_day_of := fun_mk (st := s_day_of) l_day_of c_day_of k_day_of
  have b_day_of := F_day_of.binds (ps := ["year", "month", "date"]) fun _ _ _ _ _ _ us hl => match us, hl with | [_, _, _], _ => rfl
  have F_date_of := fun_mk (st := s_date_of) l_date_of c_date_of k_date_of
  have b_date_of := F_date_of.binds (ps := ["day"]) fun _ _ _ _ _ _ us hl => match us, hl with | [_], _ => rfl
  have F_date_text := fun_mk (st := s_date_text) l_date_text c_date_text k_date_text
  have b_date_text := F_date_text.binds (ps := ["day"]) fun _ _ _ _ _ _ us hl => match us, hl with | [_], _ => rfl
  have F_read_date := fun_mk (st := s_read_date) l_read_date c_read_date k_read_date
  have b_read_date := F_read_date.binds (ps := ["text"]) fun _ _ _ _ _ _ us hl => match us, hl with | [_], _ => rfl
  have F_digits_value := fun_mk (st := s_digits_value) l_digits_value c_digits_value k_digits_value
  have b_digits_value := F_digits_value.binds (ps := ["digits"]) fun _ _ _ _ _ _ us hl => match us, hl with | [_], _ => rfl
  have F_read_integer := fun_mk (st := s_read_integer) l_read_integer c_read_integer k_read_integer
  have b_read_integer := F_read_integer.binds (ps := ["text"]) fun _ _ _ _ _ _ us hl => match us, hl with | [_], _ => rfl
  have F_read_decimal := fun_mk (st := s_read_decimal) l_read_decimal c_read_decimal k_read_decimal
  have b_read_decimal := F_read_decimal.binds (ps := ["text"]) fun _ _ _ _ _ _ us hl => match us, hl with | [_], _ => rfl
  have F_decimal_text := fun_mk (st := s_decimal_text) l_decimal_text c_decimal_text k_decimal_text
  have b_decimal_text := F_decimal_text.binds (ps := ["number"]) fun _ _ _ _ _ _ us hl => match us, hl with | [_], _ => rfl
  have F_written_value := fun_mk (st := s_written_value) l_written_value c_written_value k_written_value
  have b_written_value := F_written_value.binds (ps := ["value", "kind"]) fun _ _ _ _ _ _ us hl => match us, hl with | [_, _], _ => rfl
  have F_written_field := fun_mk (st := s_written_field) l_written_field c_written_field k_written_field
  have b_written_field := F_written_field.binds (ps := ["text", "separator"]) fun _ _ _ _ _ _ us hl => match us, hl with | [_, _], _ => rfl
  have F_written_row := fun_mk (st := s_written_row) l_written_row c_written_row k_written_row
  have b_written_row := F_written_row.binds (ps := ["columns", "row", "separator"]) fun _ _ _ _ _ _ us hl => match us, hl with | [_, _, _], _ => rfl
  have F_column_number := fun_mk (st := s_column_number) l_column_number c_column_number k_column_number
  have b_column_number := F_column_number.binds (ps := ["name", "columns"]) fun _ _ _ _ _ _ us hl => match us, hl with | [_, _], _ => rfl
  have F_read_scalar := fun_mk (st := s_read_scalar) l_read_scalar c_read_scalar k_read_scalar
  have b_read_scalar := F_read_scalar.binds (ps := ["text", "kind"]) fun _ _ _ _ _ _ us hl => match us, hl with | [_, _], _ => rfl
  have F_read_field := fun_mk (st := s_read_field) l_read_field c_read_field k_read_field
  have b_read_field := F_read_field.binds (ps := ["field", "column"]) fun _ _ _ _ _ _ us hl => match us, hl with | [_, _], _ => rfl
  have F_read_row := fun_mk (st := s_read_row) l_read_row c_read_row k_read_row
  have b_read_row := F_read_row.binds (ps := ["fields", "numbers", "columns"]) fun _ _ _ _ _ _ us hl => match us, hl with | [_, _, _], _ => rfl
  have F_read_head := fun_mk (st := s_read_head) l_read_head c_read_head k_read_head
  have b_read_head := F_read_head.binds (ps := ["records", "columns"]) fun _ _ _ _ _ _ us hl => match us, hl with | [_, _], _ => rfl
  have F__law_rank := fun_mk (st := s__law_rank) l__law_rank c__law_rank k__law_rank
  have b__law_rank := F__law_rank.binds (ps := ["_law_value"]) fun _ _ _ _ _ _ us hl => match us, hl with | [_], _ => rfl
  have F__law_ranks := fun_mk (st := s__law_ranks) l__law_ranks c__law_ranks k__law_ranks
  have b__law_ranks := F__law_ranks.binds (ps := ["_law_row_here"]) fun _ _ _ _ _ _ us hl => match us, hl with | [_], _ => rfl
  have F__law_same_rows := fun_mk (st := s__law_same_rows) l__law_same_rows c__law_same_rows k__law_same_rows
  have b__law_same_rows := F__law_same_rows.binds (ps := ["_law_told", "_law_due"]) fun _ _ _ _ _ _ us hl => match us, hl with | [_, _], _ => rfl
  have F__law_text := fun_mk (st := s__law_text) l__law_text c__law_text k__law_text
  have b__law_text := F__law_text.binds (ps := ["_law_state_here"]) fun _ _ _ _ _ _ us hl => match us, hl with | [_], _ => rfl
  have F__law_kind_value := fun_mk (st := s__law_kind_value) l__law_kind_value c__law_kind_value k__law_kind_value
  have b__law_kind_value := F__law_kind_value.binds (ps := ["_law_kind", "_law_state_here"]) fun _ _ _ _ _ _ us hl => match us, hl with | [_, _], _ => rfl
  have F__law_columns := fun_mk (st := s__law_columns) l__law_columns c__law_columns k__law_columns
  have b__law_columns := F__law_columns.binds (ps := ["_law_state_here"]) fun _ _ _ _ _ _ us hl => match us, hl with | [_], _ => rfl
  have F__law_column_value := fun_mk (st := s__law_column_value) l__law_column_value c__law_column_value k__law_column_value
  have b__law_column_value := F__law_column_value.binds (ps := ["_law_column", "_law_state_here"]) fun _ _ _ _ _ _ us hl => match us, hl with | [_, _], _ => rfl
  have F__law_table_row := fun_mk (st := s__law_table_row) l__law_table_row c__law_table_row k__law_table_row
  have b__law_table_row := F__law_table_row.binds (ps := ["_law_columns_here", "_law_state_here"]) fun _ _ _ _ _ _ us hl => match us, hl with | [_, _], _ => rfl
  have F__law_field_text := fun_mk (st := s__law_field_text) l__law_field_text c__law_field_text k__law_field_text
  have b__law_field_text := F__law_field_text.binds (ps := ["_law_state_here"]) fun _ _ _ _ _ _ us hl => match us, hl with | [_], _ => rfl
  have F__law_written := fun_mk (st := s__law_written) l__law_written c__law_written k__law_written
  have b__law_written := F__law_written.binds (ps := ["_law_text_here", "_law_separator", "_law_marked"]) fun _ _ _ _ _ _ us hl => match us, hl with | [_, _, _], _ => rfl
  have F__law_must_mark := fun_mk (st := s__law_must_mark) l__law_must_mark c__law_must_mark k__law_must_mark
  have b__law_must_mark := F__law_must_mark.binds (ps := ["_law_text_here", "_law_separator"]) fun _ _ _ _ _ _ us hl => match us, hl with | [_, _], _ => rfl
  have F__law_decimal := fun_mk (st := s__law_decimal) l__law_decimal c__law_decimal k__law_decimal
  have b__law_decimal := F__law_decimal.binds (ps := ["_law_number"]) fun _ _ _ _ _ _ us hl => match us, hl with | [_], _ => rfl
  have F__law_value_text := fun_mk (st := s__law_value_text) l__law_value_text c__law_value_text k__law_value_text
  have b__law_value_text := F__law_value_text.binds (ps := ["_law_kind", "_law_value"]) fun _ _ _ _ _ _ us hl => match us, hl with | [_, _], _ => rfl
  have F__law_put := fun_mk (st := s__law_put) l__law_put c__law_put k__law_put
  have b__law_put := F__law_put.binds (ps := ["_law_text_here", "_law_separator"]) fun _ _ _ _ _ _ us hl => match us, hl with | [_, _], _ => rfl
  have F__law_line := fun_mk (st := s__law_line) l__law_line c__law_line k__law_line
  have b__law_line := F__law_line.binds (ps := ["_law_columns_here", "_law_row_here", "_law_separator"]) fun _ _ _ _ _ _ us hl => match us, hl with | [_, _, _], _ => rfl
  have F__law_row := fun_mk (st := s__law_row) l__law_row c__law_row k__law_row
  have b__law_row := F__law_row.binds (ps := ["_law_columns_here", "_law_state_here"]) fun _ _ _ _ _ _ us hl => match us, hl with | [_, _], _ => rfl
  have F_Field := fun_mk (st := s_Field___init__) l_Field_init c_Field_init k_Field_init
  have b_Field := F_Field.binds (ps := ["self", "text", "offset", "marked"]) fun _ _ _ _ _ _ us hl => match us, hl with | [_, _, _, _], _ => rfl
  have F_Column := fun_mk (st := s_Column___init__) l_Column_init c_Column_init k_Column_init
  have b_Column := F_Column.binds (ps := ["self", "name", "kind", "nullable"]) fun _ _ _ _ _ _ us hl => match us, hl with | [_, _, _, _], _ => rfl
  have OX : OexC K IT := ⟨⟨_, _, _, _, _, _, _, _, _, _, _, _, _, _, _, x_IT, by rfl⟩, xi_sa, xi_e, xi_t, xi_k⟩
  have XU : XcT l.prog K mg IT cc cda fI := ⟨⟨OX, ⟨_, _, _, xi_cell⟩, ⟨_, _, _, _, _, _, xi_code, xi_vs, xi_file⟩, sup_up x_IT x_SE xs_i, xi_v, xi_s, xi_any, PySem.W.mg_none_of X G z_super, xi_top⟩, xi_nO, xi_nR⟩
  have b_I : Binds K (PySem.W.ksFn "__init__" "InvalidText.__init__" (defArgs s_Inv_init) (defBody s_Inv_init) (defScope s_Inv_init) .none kV_I dc_I pm_I an_I (.ref cda) ct_I cc) ["self", "offset", "reason"] [] := .all fun us hl => match us, hl with | [_, _, _], _ => rfl
  have F_rs : FunD K "read_separated" "read_separated" (defArgs s_read_separated) (defBody s_read_separated) (defScope s_read_separated) [] [("separator", .str ","), ("head", .bl true)] f_read_separated _ := ⟨⟨_, _, _, _, _, _, _, _, _, _, rfl, l_rs, c_rs, .inl ⟨rfl, rfl⟩, .inr ⟨Dsep, rfl, fun p hp => by
    rcases List.mem_cons.mp hp with rfl | hp
    · exact ⟨_, d_sep, _, rfl⟩
    · have e : p = (("head" : Str), V.bl true) := by simpa using hp
      subst e
      exact ⟨_, d_head, rfl⟩⟩⟩, k_rs⟩
  obtain ⟨mvr, b_rs⟩ := kbinds0 F_rs (ps := ["text", "columns", "separator", "head"]) 2 ["separator", "head"] [] (fun us mv ws => us ++ ws) (by simp) (by simp) (fun a b c => a.append c) (fun D doc pm an cdv ct us mv ws l1 l2 l3 => match us, mv, ws, l1, l2, l3 with
    | [_, _], [], [_, _], _, _, _ => rfl)
  have F_ws : FunD K "write_separated" "write_separated" (defArgs s_write_separated) (defBody s_write_separated) (defScope s_write_separated) [] [("separator", .str ","), ("head", .bl true)] f_ws _ := ⟨⟨_, _, _, _, _, _, _, _, _, _, rfl, l_ws, c_ws, .inl ⟨rfl, rfl⟩, .inr ⟨Dws, rfl, fun p hp => by
    rcases List.mem_cons.mp hp with rfl | hp
    · exact ⟨_, dw_sep, _, rfl⟩
    · have e : p = (("head" : Str), V.bl true) := by simpa using hp
      subst e
      exact ⟨_, dw_head, rfl⟩⟩⟩, k_ws⟩
  obtain ⟨mvw, b_w2⟩ := kbinds0 F_ws (ps := ["columns", "rows", "separator", "head"]) 2 ["separator", "head"] [] (fun us mv ws => us ++ ws) (by simp) (by simp) (fun a b c => a.append c) (fun D doc pm an cdv ct us mv ws l1 l2 l3 => match us, mv, ws, l1, l2, l3 with
    | [_, _], [], [_, _], _, _, _ => rfl)
  obtain ⟨mv0, b_w0⟩ := kbinds0 F_ws (ps := ["columns", "rows", "separator", "head"]) 2 [] [("separator", .str ","), ("head", .bl true)] (fun us mv ws => us ++ mv) (by simp) (by simp) (fun a b c => a.append b) (fun D doc pm an cdv ct us mv ws l1 l2 l3 => match us, mv, ws, l1, l2, l3 with
    | [_, _], [_, _], [], _, _, _ => ⟨_, _, _, _, _, _, rfl, rfl, ⟨_, _, _, _, _, _, rfl, rfl, rfl⟩⟩)
  refine ⟨PySem.W.fnOf "law" "law" (defArgs s_law) (defBody s_law) (defScope s_law) .none kV_law dc_law pm_law an_law cd_law ct_law, fun s v => .of_eq rfl, fun base _ _ => ?_⟩
  have MI : MkI l.prog w K mg base IT := ⟨OX, PySem.W.mg_of X G a_IT, fI, _, xi_i, xi_tI, ok_Inv xi_l xi_c XU, b_I⟩
  have M : Mk K C f_Field_init := ⟨mk_Field, a_Field_init, i_Field_init, kc_Field⟩
  have MC : Mk K CC f_Column_init := ⟨mk_Column, a_Column_init, i_Column_init, kc_Column⟩
  have G_fi : FnOk l.prog w K mg base CX0 1 f_Field_init _ _ (spFld C) := ok_Field F_Field T
  have G_co : FnOk l.prog w K mg base CX0 1 f_Column_init _ _ (spCol CC) := ok_Column F_Column U
  have cM : CalX l.prog w K mg base (L2.CX l.prog w) 3 f_read_marked (spReadX C IT true) := ⟨_, _, ok_read_marked F_read_marked T M G_fi MI b_Field, k_read_marked, b_read_marked⟩
  have cP : CalX l.prog w K mg base (L2.CX l.prog w) 3 f_read_plain (spReadX C IT false) := ⟨_, _, ok_read_plain F_read_plain T M G_fi MI b_Field, k_read_plain, b_read_plain⟩
  have C_split_records : Cal l.prog w K mg base (L2.CX l.prog w) 4 "split_records" (spSplitX C IT) := ⟨_, _, _, ok_split_records F_split_records T cM cP, PySem.W.mg_of X G a_split_records, k_split_records, b_split_records⟩
  have C__law_cell : Cal l.prog w K mg base CX0 1 "_law_cell" (spCell K) := ⟨_, _, _, ok__law_cell F__law_cell T, PySem.W.mg_of X G a__law_cell, k__law_cell, b__law_cell⟩
  have C__law_state : Cal l.prog w K mg base CX0 1 "_law_state" spState := ⟨_, _, _, ok__law_state F__law_state T, PySem.W.mg_of X G a__law_state, k__law_state, b__law_state⟩
  have C__law_digit : Cal l.prog w K mg base CX0 1 "_law_digit" spDigit := ⟨_, _, _, ok__law_digit F__law_digit T, PySem.W.mg_of X G a__law_digit, k__law_digit, b__law_digit⟩
  have C_is_leap : Cal l.prog w K mg base CX0 1 "is_leap" spLeap := ⟨_, _, _, ok_is_leap F_is_leap , PySem.W.mg_of X G a_is_leap, k_is_leap, b_is_leap⟩
  have C_month_length : Cal l.prog w K mg base CX0 2 "month_length" spMlen := ⟨_, _, _, ok_month_length F_month_length T C_is_leap, PySem.W.mg_of X G a_month_length, k_month_length, b_month_length⟩
  have C_days_before : Cal l.prog w K mg base CX0 1 "days_before" spBefore := ⟨_, _, _, ok_days_before F_days_before , PySem.W.mg_of X G a_days_before, k_days_before, b_days_before⟩
  have C_day_of : Cal l.prog w K mg base CX0 3 "day_of" spDayOf := ⟨_, _, _, ok_day_of F_day_of T C_month_length C_days_before, PySem.W.mg_of X G a_day_of, k_day_of, b_day_of⟩
  have C_date_of : Cal l.prog w K mg base CX0 3 "date_of" spDateOf := ⟨_, _, _, ok_date_of F_date_of T C_month_length, PySem.W.mg_of X G a_date_of, k_date_of, b_date_of⟩
  have C_date_text : Cal l.prog w K mg base CX0 4 "date_text" spDateText := ⟨_, _, _, ok_date_text F_date_text C_date_of, PySem.W.mg_of X G a_date_text, k_date_text, b_date_text⟩
  have C_read_date : Cal l.prog w K mg base CX0 4 "read_date" spReadDate := ⟨_, _, _, ok_read_date F_read_date T C_day_of, PySem.W.mg_of X G a_read_date, k_read_date, b_read_date⟩
  have C_digits_value : Cal l.prog w K mg base CX0 1 "digits_value" spDigVal := ⟨_, _, _, ok_digits_value F_digits_value T, PySem.W.mg_of X G a_digits_value, k_digits_value, b_digits_value⟩
  have C_read_integer : Cal l.prog w K mg base CX0 2 "read_integer" spReadInt := ⟨_, _, _, ok_read_integer F_read_integer T C_digits_value, PySem.W.mg_of X G a_read_integer, k_read_integer, b_read_integer⟩
  have C_read_decimal : Cal l.prog w K mg base CX0 2 "read_decimal" spReadDec := ⟨_, _, _, ok_read_decimal F_read_decimal T C_digits_value, PySem.W.mg_of X G a_read_decimal, k_read_decimal, b_read_decimal⟩
  have C_column_number : Cal l.prog w K mg base CX0 1 "column_number" (spColNo CC) := ⟨_, _, _, ok_column_number F_column_number T U, PySem.W.mg_of X G a_column_number, k_column_number, b_column_number⟩
  have C_read_scalar : Cal l.prog w K mg base CX0 5 "read_scalar" spScal := ⟨_, _, _, ok_read_scalar F_read_scalar C_read_integer C_read_date C_read_decimal, PySem.W.mg_of X G a_read_scalar, k_read_scalar, b_read_scalar⟩
  have C_read_field : Cal l.prog w K mg base (L2.CX l.prog w) 6 "read_field" (spFieldX C CC IT) := ⟨_, _, _, ok_read_field F_read_field T U MI (PySem.W.mg_of X G a_EX) ⟨_, _, _, o_EX, k_EX, e_Ei, _, rfl⟩ ⟨_, _, _, o_EX, k_EX, e_Ed, _, rfl⟩ ⟨_, _, _, o_EX, k_EX, e_Ec, _, rfl⟩ C_read_scalar, PySem.W.mg_of X G a_read_field, k_read_field, b_read_field⟩
  have C_read_row : Cal l.prog w K mg base (L2.CX l.prog w) 7 "read_row" (spRowX C CC IT) := ⟨_, _, _, ok_read_row F_read_row T MI C_read_field, PySem.W.mg_of X G a_read_row, k_read_row, b_read_row⟩
  have C_read_head : Cal l.prog w K mg base (L2.CX l.prog w) 3 "read_head" (spHead C CC IT) := ⟨_, _, _, ok_read_head F_read_head T U MI C_column_number, PySem.W.mg_of X G a_read_head, k_read_head, b_read_head⟩
  have C__law_rank : Cal l.prog w K mg base CX0 1 "_law_rank" spRankV := ⟨_, _, _, ok__law_rank F__law_rank T, PySem.W.mg_of X G a__law_rank, k__law_rank, b__law_rank⟩
  have C__law_ranks : Cal l.prog w K mg base CX0 2 "_law_ranks" spRanksV := ⟨_, _, _, ok__law_ranks F__law_ranks C__law_rank, PySem.W.mg_of X G a__law_ranks, k__law_ranks, b__law_ranks⟩
  have C__law_same_rows : Cal l.prog w K mg base CX0 3 "_law_same_rows" spSameV := ⟨_, _, _, ok__law_same_rows F__law_same_rows T C__law_ranks, PySem.W.mg_of X G a__law_same_rows, k__law_same_rows, b__law_same_rows⟩
  have C__law_text : Cal l.prog w K mg base CX0 2 "_law_text" spText4 := ⟨_, _, _, ok__law_text F__law_text T C__law_digit, PySem.W.mg_of X G a__law_text, k__law_text, b__law_text⟩
  have C__law_kind_value : Cal l.prog w K mg base CX0 3 "_law_kind_value" spKV := ⟨_, _, _, ok__law_kind_value F__law_kind_value C__law_digit C__law_text, PySem.W.mg_of X G a__law_kind_value, k__law_kind_value, b__law_kind_value⟩
  have C__law_columns : Cal l.prog w K mg base CX0 3 "_law_columns" (spCols CC) := ⟨_, _, _, ok__law_columns F__law_columns T C__law_digit (PySem.W.mg_of X G a_Column) MC G_co b_Column, PySem.W.mg_of X G a__law_columns, k__law_columns, b__law_columns⟩
  have C__law_column_value : Cal l.prog w K mg base CX0 4 "_law_column_value" (spCV CC) := ⟨_, _, _, ok__law_column_value F__law_column_value U C__law_kind_value, PySem.W.mg_of X G a__law_column_value, k__law_column_value, b__law_column_value⟩
  have C__law_decimal : Cal l.prog w K mg base CX0 1 "_law_decimal" spDecT := ⟨_, _, _, ok__law_decimal F__law_decimal T, PySem.W.mg_of X G a__law_decimal, k__law_decimal, b__law_decimal⟩
  have C__law_value_text : Cal l.prog w K mg base CX0 5 "_law_value_text" spVT := ⟨_, _, _, ok__law_value_text F__law_value_text T C__law_decimal C_date_text, PySem.W.mg_of X G a__law_value_text, k__law_value_text, b__law_value_text⟩
  have C_decimal_text : Cal l.prog w K mg base CX0 1 "decimal_text" spDecT := ⟨_, _, _, ok_decimal_text F_decimal_text T ⟨_, PySem.W.mg_of X G v_ONE, _, rfl⟩, PySem.W.mg_of X G a_decimal_text, k_decimal_text, b_decimal_text⟩
  have C_written_value : Cal l.prog w K mg base CX0 5 "written_value" spVal := ⟨_, _, _, ok_written_value F_written_value T C_decimal_text C_date_text, PySem.W.mg_of X G a_written_value, k_written_value, b_written_value⟩
  have C__law_table_row : Cal l.prog w K mg base CX0 5 "_law_table_row" (spTRow CC) := ⟨_, _, _, ok__law_table_row F__law_table_row C__law_column_value, PySem.W.mg_of X G a__law_table_row, k__law_table_row, b__law_table_row⟩
  have C__law_field_text : Cal l.prog w K mg base CX0 2 "_law_field_text" spFText := ⟨_, _, _, ok__law_field_text F__law_field_text T C__law_digit, PySem.W.mg_of X G a__law_field_text, k__law_field_text, b__law_field_text⟩
  have C__law_written : Cal l.prog w K mg base CX0 1 "_law_written" spWritten := ⟨_, _, _, ok__law_written F__law_written T, PySem.W.mg_of X G a__law_written, k__law_written, b__law_written⟩
  have C__law_must_mark : Cal l.prog w K mg base CX0 1 "_law_must_mark" spMust := ⟨_, _, _, ok__law_must_mark F__law_must_mark , PySem.W.mg_of X G a__law_must_mark, k__law_must_mark, b__law_must_mark⟩
  have C__law_put : Cal l.prog w K mg base CX0 2 "_law_put" spPut := ⟨_, _, _, ok__law_put F__law_put C__law_written C__law_must_mark, PySem.W.mg_of X G a__law_put, k__law_put, b__law_put⟩
  have C__law_line : Cal l.prog w K mg base CX0 6 "_law_line" (spLine CC) := ⟨_, _, _, ok__law_line F__law_line T U C__law_put C__law_value_text, PySem.W.mg_of X G a__law_line, k__law_line, b__law_line⟩
  have C__law_row : Cal l.prog w K mg base CX0 6 "_law_row" (spRowD CC) := ⟨_, _, _, ok__law_row F__law_row T U C__law_table_row C__law_field_text, PySem.W.mg_of X G a__law_row, k__law_row, b__law_row⟩
  have C_written_field : CalN 782 l.prog w K mg base CX0 1 "written_field" spWF := ⟨_, _, _, ok_written_field F_written_field (PySem.W.mg_of X G v_MARK_writing) m_0 m_1, PySem.W.mg_of X G a_written_field, k_written_field, b_written_field⟩
  have C_written_row : CalN 782 l.prog w K mg base CX0 6 "written_row" spWRow := ⟨_, _, _, ok_written_row F_written_row T C_written_value C_written_field, PySem.W.mg_of X G a_written_row, k_written_row, b_written_row⟩
  exact ok_law (fun_mk (st := s_law) l_law c_law k_law) T U (PySem.W.mg_of X G a_Column) MC G_co b_Column C__law_cell C__law_state C__law_digit C__law_columns C__law_row C__law_line C__law_put C__law_same_rows
    (ok_read_separated F_rs T C_split_records C_read_head C_read_row) (PySem.W.mg_of X G a_rs) k_rs b_rs (ok_write_separated F_ws C_written_row C_written_field) (PySem.W.mg_of X G a_ws) k_ws b_w2 b_w0
theorem closeN {q : Program} {loose : List Str} {XP : (Str → Option Value) → Heap → Prop} {d : DefRec} {K : Params → PySem.W.Frag} (hdf : d.params.defaults = [])
    (F : ∀ (w : World) (mg : Str → Option Value) (fa : Addr) (h : Heap), (K w.params).In h → h.Ns mainGlobals mg → mg d.name = some (.ref fa) →
      ∃ fd : FuncData, (∀ (s : Shared) (u : Value), BindsTo s fd ⟨[u], []⟩ [("_law_script", u)]) ∧
        ∀ base : Heap, (K w.params).In base → base.Ns mainGlobals mg → FnN 782 (PySem.Challenge.rw_stylobate_k83_whole_separated_texts_roun).prog w (K w.params) mg base CX0 9 fa fd ["_law_script"] (spLaw (K w.params)))
    {w : World} {s₀ s₁ : Shared} {mg mb : Str → Option Value} (G : PySem.W.Ground q loose [] XP w s₀ mg mb s₁.heap) (KX : (K w.params).In s₁.heap) (ZT : s₀.toks = 782)
    {fa : Addr} {o : Obj} {pm cd doc dV kV : Value} (ho : s₁.heap.get? fa = some o) (hd : o.data = .func { PySem.Calls.docDef d.name d.params d.body d.scope pm cd doc with defaults := dV, kwdefaults := kV }) (hcd : s₁.heap.CodeRec cd d.name) (hD : PySem.W.Dflts mg s₁.heap d.params [] dV kV)
    (hmg : mg d.name = some (.ref fa)) (hg : s₁.gens = #[]) {args : List PySem.W.WData} {vals : List Value} {as : List Addr} (hpre : (PySem.Challenge.rw_stylobate_k83_whole_separated_texts_roun).row.toRowW.claim.pre args = true) (L : PySem.W.Laid (PySem.Challenge.rw_stylobate_k83_whole_separated_texts_roun).row.toRowW.records w s₀ s₁ args vals as) (hwl : PySem.W.WellAll w.params s₁.heap vals args) :
    wpAny (model (PySem.Challenge.rw_stylobate_k83_whole_separated_texts_roun).row.toRowW.prog w) callerA (PySem.call (.ref fa) vals) (fun v s' => PySem.W.GoodWG (PySem.Challenge.rw_stylobate_k83_whole_separated_texts_roun).row.toRowW.claim (classAt s₀.heap) (ExcName.means s₀.heap) args s₁ (.ok (.ret v)) s')
      (fun e s' => PySem.W.GoodWG (PySem.Challenge.rw_stylobate_k83_whole_separated_texts_roun).row.toRowW.claim (classAt s₀.heap) (ExcName.means s₀.heap) args s₁ (.error e) s') s₁ :=
  finishN (l := PySem.Challenge.rw_stylobate_k83_whole_separated_texts_roun) (n := 63) (k := 9) (t := 782) (x := "_law_script") (sp := fun w => spLaw (K w.params)) rfl (by decide) hdf ⟨rfl, by decide, by decide⟩ F (fun _ _ a ns hl hS => ⟨a, ns, rfl, hS, hl, fun _ => rfl⟩) G KX ZT ho hd hcd hD hmg hg hpre L hwl
end Sb

open PySem PySem.W PyProof.Rows PySem.W.X PySem.W.ZRun in
set_option maxRecDepth 100000 in
set_option maxHeartbeats 0 in
theorem PySem.Challenge.cw_stylobate_k83_whole_separated_texts_roun_holds : PySem.Challenge.rw_stylobate_k83_whole_separated_texts_roun.Holds := by
  w_on; o_law; z_head; (case hw => w_witness2)
  k_fill
  intro w s₀ s₁ mg mb G y fa o pm cd doc dV kV ho hd hcd hD hmg hg args vals as L hpre hlay hrd hwl hlo
  z_open y L KX ZH ZN ZT
  refine Sb.closeN rfl ?F G KX ZT ho hd hcd hD hmg hg hpre L hwl
  case F =>
    intro w mg fa h KX G hmg
    refine' Sb.all_mk KX G hmg ?a__law_cell ?l__law_cell ?c__law_cell ?k__law_cell ?a__law_state ?l__law_state ?c__law_state ?k__law_state ?a__law_digit ?l__law_digit ?c__law_digit ?k__law_digit ?a_read_marked ?l_read_marked ?c_read_marked ?k_read_marked ?a_read_plain ?l_read_plain ?c_read_plain ?k_read_plain ?a_split_records ?l_split_records ?c_split_records ?k_split_records ?a_is_leap ?l_is_leap ?c_is_leap ?k_is_leap ?a_month_length ?l_month_length ?c_month_length ?k_month_length ?a_days_before ?l_days_before ?c_days_before ?k_days_before ?a_day_of ?l_day_of ?c_day_of ?k_day_of ?a_date_of ?l_date_of ?c_date_of ?k_date_of ?a_date_text ?l_date_text ?c_date_text ?k_date_text ?a_read_date ?l_read_date ?c_read_date ?k_read_date ?a_digits_value ?l_digits_value ?c_digits_value ?k_digits_value ?a_read_integer ?l_read_integer ?c_read_integer ?k_read_integer ?a_read_decimal ?l_read_decimal ?c_read_decimal ?k_read_decimal ?a_decimal_text ?l_decimal_text ?c_decimal_text ?k_decimal_text ?a_written_value ?l_written_value ?c_written_value ?k_written_value ?a_written_field ?l_written_field ?c_written_field ?k_written_field ?a_written_row ?l_written_row ?c_written_row ?k_written_row ?a_column_number ?l_column_number ?c_column_number ?k_column_number ?a_read_scalar ?l_read_scalar ?c_read_scalar ?k_read_scalar ?a_read_field ?l_read_field ?c_read_field ?k_read_field ?a_read_row ?l_read_row ?c_read_row ?k_read_row ?a_read_head ?l_read_head ?c_read_head ?k_read_head ?a__law_rank ?l__law_rank ?c__law_rank ?k__law_rank ?a__law_ranks ?l__law_ranks ?c__law_ranks ?k__law_ranks ?a__law_same_rows ?l__law_same_rows ?c__law_same_rows ?k__law_same_rows ?a__law_text ?l__law_text ?c__law_text ?k__law_text ?a__law_kind_value ?l__law_kind_value ?c__law_kind_value ?k__law_kind_value ?a__law_columns ?l__law_columns ?c__law_columns ?k__law_columns ?a__law_column_value ?l__law_column_value ?c__law_column_value ?k__law_column_value ?a__law_table_row ?l__law_table_row ?c__law_table_row ?k__law_table_row ?a__law_field_text ?l__law_field_text ?c__law_field_text ?k__law_field_text ?a__law_written ?l__law_written ?c__law_written ?k__law_written ?a__law_must_mark ?l__law_must_mark ?c__law_must_mark ?k__law_must_mark ?a__law_decimal ?l__law_decimal ?c__law_decimal ?k__law_decimal ?a__law_value_text ?l__law_value_text ?c__law_value_text ?k__law_value_text ?a__law_put ?l__law_put ?c__law_put ?k__law_put ?a__law_line ?l__law_line ?c__law_line ?k__law_line ?a__law_row ?l__law_row ?c__law_row ?k__law_row ?a_law ?l_law ?c_law ?k_law ?a_Field ?a_Field_init ?i_Field_init ?l_Field_init ?c_Field_init ?k_Field_init ?pg_Field ?hd_Field ?po_Field ?sa_Field ?mk_Field ?kc_Field ?n_Field_text ?n_Field_offset ?n_Field_marked ?ha_Field ?hm_Field ?a_Column ?a_Column_init ?i_Column_init ?l_Column_init ?c_Column_init ?k_Column_init ?pg_Column ?hd_Column ?po_Column ?sa_Column ?mk_Column ?kc_Column ?n_Column_name ?n_Column_kind ?n_Column_nullable ?hn ?htk ?v_MARK_records ?v_MARK_writing ?v_END ?v_ONE ?z_len ?z_int ?z_range ?z_min ?z_isinstance ?z_list ?z_bool ?z_super ?z_str ?z_abs ?z_enumerate ?a_IT ?a_SE ?x_IT ?x_SE ?xi_sa ?xi_ga ?xi_gg ?xi_nO ?xi_nR ?xi_i ?xs_i ?xi_tI ?xi_l ?xi_c ?xi_k ?xi_e ?xi_v ?xi_t ?xi_h ?xi_s ?xi_cell ?xi_code ?xi_vs ?xi_file ?xi_any ?xi_top ?a_rs ?l_rs ?c_rs ?k_rs ?d_sep ?d_head ?a_ws ?l_ws ?c_ws ?k_ws ?dw_sep ?dw_head ?m_0 ?m_1 ?a_FD ?a_GR ?a_MS ?a_LEN ?o_LEN ?a_EX ?o_EX ?k_EX ?e_Ei ?e_Ed ?e_Ec
    (case a__law_cell => k_is)
    (case l__law_cell => k_is)
    (case c__law_cell => k_is)
    (case k__law_cell => k_is)
    (case a__law_state => k_is)
    (case l__law_state => k_is)
    (case c__law_state => k_is)
    (case k__law_state => k_is)
    (case a__law_digit => k_is)
    (case l__law_digit => k_is)
    (case c__law_digit => k_is)
    (case k__law_digit => k_is)
    (case a_read_marked => k_is)
    (case l_read_marked => k_is)
    (case c_read_marked => k_is)
    (case k_read_marked => k_is)
    (case a_read_plain => k_is)
    (case l_read_plain => k_is)
    (case c_read_plain => k_is)
    (case k_read_plain => k_is)
    (case a_split_records => k_is)
    (case l_split_records => k_is)
    (case c_split_records => k_is)
    (case k_split_records => k_is)
    (case a_is_leap => k_is)
    (case l_is_leap => k_is)
    (case c_is_leap => k_is)
    (case k_is_leap => k_is)
    (case a_month_length => k_is)
    (case l_month_length => k_is)
    (case c_month_length => k_is)
    (case k_month_length => k_is)
    (case a_days_before => k_is)
    (case l_days_before => k_is)
    (case c_days_before => k_is)
    (case k_days_before => k_is)
    (case a_day_of => k_is)
    (case l_day_of => k_is)
    (case c_day_of => k_is)
    (case k_day_of => k_is)
    (case a_date_of => k_is)
    (case l_date_of => k_is)
    (case c_date_of => k_is)
    (case k_date_of => k_is)
    (case a_date_text => k_is)
    (case l_date_text => k_is)
    (case c_date_text => k_is)
    (case k_date_text => k_is)
    (case a_read_date => k_is)
    (case l_read_date => k_is)
    (case c_read_date => k_is)
    (case k_read_date => k_is)
    (case a_digits_value => k_is)
    (case l_digits_value => k_is)
    (case c_digits_value => k_is)
    (case k_digits_value => k_is)
    (case a_read_integer => k_is)
    (case l_read_integer => k_is)
    (case c_read_integer => k_is)
    (case k_read_integer => k_is)
    (case a_read_decimal => k_is)
    (case l_read_decimal => k_is)
    (case c_read_decimal => k_is)
    (case k_read_decimal => k_is)
    (case a_decimal_text => k_is)
    (case l_decimal_text => k_is)
    (case c_decimal_text => k_is)
    (case k_decimal_text => k_is)
    (case a_written_value => k_is)
    (case l_written_value => k_is)
    (case c_written_value => k_is)
    (case k_written_value => k_is)
    (case a_written_field => k_is)
    (case l_written_field => k_is)
    (case c_written_field => k_is)
    (case k_written_field => k_is)
    (case a_written_row => k_is)
    (case l_written_row => k_is)
    (case c_written_row => k_is)
    (case k_written_row => k_is)
    (case a_column_number => k_is)
    (case l_column_number => k_is)
    (case c_column_number => k_is)
    (case k_column_number => k_is)
    (case a_read_scalar => k_is)
    (case l_read_scalar => k_is)
    (case c_read_scalar => k_is)
    (case k_read_scalar => k_is)
    (case a_read_field => k_is)
    (case l_read_field => k_is)
    (case c_read_field => k_is)
    (case k_read_field => k_is)
    (case a_read_row => k_is)
    (case l_read_row => k_is)
    (case c_read_row => k_is)
    (case k_read_row => k_is)
    (case a_read_head => k_is)
    (case l_read_head => k_is)
    (case c_read_head => k_is)
    (case k_read_head => k_is)
    (case a__law_rank => k_is)
    (case l__law_rank => k_is)
    (case c__law_rank => k_is)
    (case k__law_rank => k_is)
    (case a__law_ranks => k_is)
    (case l__law_ranks => k_is)
    (case c__law_ranks => k_is)
    (case k__law_ranks => k_is)
    (case a__law_same_rows => k_is)
    (case l__law_same_rows => k_is)
    (case c__law_same_rows => k_is)
    (case k__law_same_rows => k_is)
    (case a__law_text => k_is)
    (case l__law_text => k_is)
    (case c__law_text => k_is)
    (case k__law_text => k_is)
    (case a__law_kind_value => k_is)
    (case l__law_kind_value => k_is)
    (case c__law_kind_value => k_is)
    (case k__law_kind_value => k_is)
    (case a__law_columns => k_is)
    (case l__law_columns => k_is)
    (case c__law_columns => k_is)
    (case k__law_columns => k_is)
    (case a__law_column_value => k_is)
    (case l__law_column_value => k_is)
    (case c__law_column_value => k_is)
    (case k__law_column_value => k_is)
    (case a__law_table_row => k_is)
    (case l__law_table_row => k_is)
    (case c__law_table_row => k_is)
    (case k__law_table_row => k_is)
    (case a__law_field_text => k_is)
    (case l__law_field_text => k_is)
    (case c__law_field_text => k_is)
    (case k__law_field_text => k_is)
    (case a__law_written => k_is)
    (case l__law_written => k_is)
    (case c__law_written => k_is)
    (case k__law_written => k_is)
    (case a__law_must_mark => k_is)
    (case l__law_must_mark => k_is)
    (case c__law_must_mark => k_is)
    (case k__law_must_mark => k_is)
    (case a__law_decimal => k_is)
    (case l__law_decimal => k_is)
    (case c__law_decimal => k_is)
    (case k__law_decimal => k_is)
    (case a__law_value_text => k_is)
    (case l__law_value_text => k_is)
    (case c__law_value_text => k_is)
    (case k__law_value_text => k_is)
    (case a__law_put => k_is)
    (case l__law_put => k_is)
    (case c__law_put => k_is)
    (case k__law_put => k_is)
    (case a__law_line => k_is)
    (case l__law_line => k_is)
    (case c__law_line => k_is)
    (case k__law_line => k_is)
    (case a__law_row => k_is)
    (case l__law_row => k_is)
    (case c__law_row => k_is)
    (case k__law_row => k_is)
    (case a_law => k_is)
    (case l_law => k_is)
    (case c_law => k_is)
    (case k_law => k_is)
    (case a_Field => k_is)
    (case a_Field_init => k_is)
    (case i_Field_init => k_is)
    (case l_Field_init => k_is)
    (case c_Field_init => k_is)
    (case k_Field_init => k_is)
    (case pg_Field => k_is)
    (case hd_Field => k_is)
    (case po_Field => k_is)
    (case sa_Field => k_is)
    (case mk_Field => k_is)
    (case kc_Field => k_is)
    (case n_Field_text => k_is)
    (case n_Field_offset => k_is)
    (case n_Field_marked => k_is)
    (case ha_Field => k_is)
    (case hm_Field => k_is)
    (case a_Column => k_is)
    (case a_Column_init => k_is)
    (case i_Column_init => k_is)
    (case l_Column_init => k_is)
    (case c_Column_init => k_is)
    (case k_Column_init => k_is)
    (case pg_Column => k_is)
    (case hd_Column => k_is)
    (case po_Column => k_is)
    (case sa_Column => k_is)
    (case mk_Column => k_is)
    (case kc_Column => k_is)
    (case n_Column_name => k_is)
    (case n_Column_kind => k_is)
    (case n_Column_nullable => k_is)
    (case hn => k_is)
    (case htk => k_is)
    (case v_MARK_records => k_is)
    (case v_MARK_writing => k_is)
    (case v_END => k_is)
    (case v_ONE => k_is)
    (case z_len => k_is)
    (case z_int => k_is)
    (case z_range => k_is)
    (case z_min => k_is)
    (case z_isinstance => k_is)
    (case z_list => k_is)
    (case z_bool => k_is)
    (case z_super => k_is)
    (case z_str => k_is)
    (case z_abs => k_is)
    (case z_enumerate => k_is)
    (case a_IT => k_is)
    (case a_SE => k_is)
    (case x_IT => k_is)
    (case x_SE => k_is)
    (case xi_sa => k_is)
    (case xi_ga => k_is)
    (case xi_gg => k_is)
    (case xi_nO => k_is)
    (case xi_nR => k_is)
    (case xi_i => k_is)
    (case xs_i => k_is)
    (case xi_tI => k_is)
    (case xi_l => k_is)
    (case xi_c => k_is)
    (case xi_k => k_is)
    (case xi_e => k_is)
    (case xi_v => k_is)
    (case xi_t => k_is)
    (case xi_h => k_is)
    (case xi_s => k_is)
    (case xi_cell => k_is)
    (case xi_code => k_is)
    (case xi_vs => rfl)
    (case xi_file => first | rfl | decide +kernel)
    (case xi_any => k_is)
    (case xi_top => first | rfl | decide +kernel)
    (case a_rs => k_is)
    (case l_rs => k_is)
    (case c_rs => k_is)
    (case k_rs => k_is)
    (case d_sep => k_is)
    (case d_head => k_is)
    (case a_ws => k_is)
    (case l_ws => k_is)
    (case c_ws => k_is)
    (case k_ws => k_is)
    (case dw_sep => k_is)
    (case dw_head => k_is)
    (case m_0 => decide)
    (case m_1 => decide)
    (case a_FD => k_is)
    (case a_GR => k_is)
    (case a_MS => k_is)
    (case a_LEN => k_is)
    (case o_LEN => k_is)
    (case a_EX => k_is)
    (case o_EX => k_is)
    (case k_EX => exact ⟨⟨_, _, rfl, rfl⟩, ⟨_, _, rfl, rfl⟩, ⟨_, _, rfl, rfl⟩, trivial⟩)
    (case e_Ei => k_is)
    (case e_Ed => k_is)
    (case e_Ec => k_is)
#print axioms PySem.Challenge.cw_stylobate_k83_whole_separated_texts_roun_holds
