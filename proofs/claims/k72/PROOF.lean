import PyProof.Rows.All
import Wide.All
import OpenK.AllK
import Wide.FinOn
import HandS.ForMost
import HandS.IsInst
import HandS.CallLocal
import HandS.Wide
import HandS.Codes
import HandS.Walk
import PyProof.ReprReads
import PyProof.ReprRoads
import HandS.Strs
import HandS.SetFor
import PyProof.ReprLen
import PyProof.StrLawsRepr
import PySem.Challenge.RW_stylobate_k72_keys_and_costs
set_option Elab.async false
set_option maxRecDepth 100000
set_option maxHeartbeats 4000000
/-! Own words over the hand layer: calls bundled, texts as lists of codes, drawing from a one-item list. -/
namespace Sb
open PySem PySem.Spec PyProof.Rows L2 SX

/-! ### a def that may be called by its name -/
structure Cal (P : Program) (w : World) (K : PySem.W.Frag) (mg : Str → Option Value) (base : Heap) (CX : CXT) (k : Nat) (x : Str) (sp : Sp) : Prop where
  ex : ∃ (f : Addr) (fd : FuncData) (ps : List Str), FnOk P w K mg base CX k f fd ps sp ∧ mg x = some (.ref f) ∧ PySem.W.keepIn K (.ref f) = true ∧ Binds K fd ps []
theorem pe_k {X : Cx} {CX : CXT} {k j : Nat} {x : Str} {sp : Sp} {E : XK} {p pos : Pos} {e : Expr} {es : List Expr} {t : TA} (c : Cal X.prog X.w X.K X.mg X.base CX k x sp) (hr : Room j X.A) (hk : k ≤ j) (hg : Gl X x) (hx : Passes CX X E) (ha : PA X (e :: es) t)
    (hdb : (x == ("__debug__" : Str)) = false := by decide) (he : starEach (e :: es) X.env = (false, eval e X.env) :: starEach es X.env := by rfl) (hpl : (backTo pos (starEach es X.env)).any (·.1) = false := by rfl) :
    PE X (.Call (.Name x p) (e :: es) [] pos) (tCall sp [] E t) := by
  obtain ⟨f, fd, ps, F, hm, kp, b⟩ := c.ex
  exact pe_call F (hr.mono hk) hg hm kp b .nil hx ha hdb he hpl

/-! ### texts as lists of codes -/
theorem S_eq (a b : List Nat) : decide (V.str (S a) = V.str (S b)) = decide (a = b) := by
  by_cases h : a = b
  · subst h; simp
  · rw [decide_eq_false h, decide_eq_false]
    intro q
    injection q with q
    exact h (S_inj q)
theorem S_of (x : Str) : ∃ t, x = S t := ⟨x.cps.toList, (S_tl x).symm⟩
theorem cutS_nat (t : List Nat) (i j : Int) (a b : Nat) (hi : i = (a : Int)) (hj : j = (b : Int)) : cutS (S t) (some i) (some j) = S ((t.drop a).take (b - a)) := by
  subst hi hj
  unfold cutS
  rw [S_len, HT.sIx_nat, HT.sIx_nat]
  show S ((t.drop (min a t.length)).take (min b t.length - min a t.length)) = S ((t.drop a).take (b - a))
  congr 1
  rcases Nat.le_total a t.length with h | h
  · rw [Nat.min_eq_left h]
    rcases Nat.le_total b t.length with h2 | h2
    · rw [Nat.min_eq_left h2]
    · rw [Nat.min_eq_right h2, List.take_of_length_le (by simp), List.take_of_length_le (by simp; omega)]
  · rw [Nat.min_eq_right h, List.drop_eq_nil_of_le h, List.drop_eq_nil_of_le (Nat.le_refl _)]
    simp
/-- one sign -/
theorem cut1 (t : List Nat) (i j : Int) (a : Nat) (hi : i = (a : Int)) (hj : j = (a : Int) + 1) : cutS (S t) (some i) (some j) = S ((t.drop a).take 1) := by
  rw [cutS_nat t i j a (a + 1) hi (by omega)]
  simp
theorem cutS_from (t : List Nat) (i : Int) (a : Nat) (hi : i = (a : Int)) : cutS (S t) (some i) none = S (t.drop a) := by
  subst hi
  unfold cutS
  rw [S_len, HT.sIx_nat, HT.sIx_none]
  show S ((t.drop (min a t.length)).take (t.length - min a t.length)) = S (t.drop a)
  congr 1
  rcases Nat.le_total a t.length with h | h
  · rw [Nat.min_eq_left h, List.take_of_length_le (by simp)]
  · rw [Nat.min_eq_right h, List.drop_eq_nil_of_le h, List.drop_eq_nil_of_le (Nat.le_refl _)]
    simp
theorem drop_take1 (t : List Nat) (a c : Nat) : (t.drop a).take 1 = [c] ↔ t[a]? = some c := by
  rw [← List.head?_drop]
  cases t.drop a <;> simp
theorem joinL_nil : ∀ cs : List Nat, TL.joinL [] (cs.map fun c => [c]) = cs
  | [] => rfl
  | [c] => rfl
  | c :: d :: r => by
    show [c] ++ ([] ++ TL.joinL [] ((d :: r).map fun c => [c])) = c :: d :: r
    rw [joinL_nil (d :: r)]
    rfl
theorem joinL_flat : ∀ ls : List (List Nat), TL.joinL [] ls = ls.flatten
  | [] => rfl
  | [c] => by simp [TL.joinL]
  | c :: d :: r => by
    show c ++ ([] ++ TL.joinL [] (d :: r)) = (c :: d :: r).flatten
    rw [joinL_flat (d :: r)]
    simp
theorem join_flat (ls : List (List Nat)) : Txt.join (S []) (ls.map S) = S ls.flatten := by rw [join_S, joinL_flat]
theorem atS {t : List Nat} {a c : Nat} (h : t[a]? = some c) : atI (S t).cps.toList (a : Int) = some c := atI_nat h

theorem sum_ones : ∀ cs : List Nat, (cs.map fun _ => 1).sum = cs.length
  | [] => rfl
  | c :: cs => by simp [sum_ones cs]; omega
/-! ### heaps -/
/-- what was there stands, but for the list at p, which holds one int -/
def Kp (p : Addr) (H H' : Hp) : Prop := (∀ b o, b ≠ p → H b = some o → H' b = some o) ∧ ∃ z, H' p = some (.lst [.int z])
def Dr (H : Hp) (p : Addr) : Prop := ∃ z, H p = some (.lst [.int z])
theorem Kp.dr {p : Addr} {H H' : Hp} (k : Kp p H H') : Dr H' p := k.2
theorem Kp.refl {p : Addr} {H : Hp} (d : Dr H p) : Kp p H H := ⟨fun _ _ _ h => h, d⟩
theorem Kp.trans {p : Addr} {H H1 H2 : Hp} (a : Kp p H H1) (b : Kp p H1 H2) : Kp p H H2 := ⟨fun c o hc h => b.1 c o hc (a.1 c o hc h), b.2⟩
theorem same_new {H : Hp} {p : Addr} {o : HO} (h : H p = none) : Same H (upd H p o) := fun b u e => by
  rw [upd_ne (ne_of_none e h)]
  exact e
theorem Kp.new {p q : Addr} {H H1 : Hp} {o : HO} (k : Kp p H H1) (h : H1 q = none) : Kp p H (upd H1 q o) := by
  obtain ⟨k1, z, hz⟩ := k
  exact ⟨fun b u hb e => same_new h b u (k1 b u hb e), z, same_new h p _ hz⟩
theorem Kp.same {p : Addr} {H H1 H2 : Hp} (k : Kp p H H1) (s : Same H1 H2) : Kp p H H2 := by
  obtain ⟨k1, z, hz⟩ := k
  exact ⟨fun b u hb e => s b u (k1 b u hb e), z, s p _ hz⟩
/-- a list that H does not know may change -/
theorem same_mut {H H1 : Hp} {p : Addr} {o : HO} (s : Same H H1) (h : H p = none) : Same H (upd H1 p o) := fun b u e => by
  rw [upd_ne (ne_of_none e h)]
  exact s b u e
theorem Kp.mut {p q : Addr} {H H1 : Hp} {o : HO} (k : Kp p H H1) (h : H q = none) (d : Dr H p) : Kp p H (upd H1 q o) := by
  obtain ⟨k1, z, hz⟩ := k
  obtain ⟨y, hy⟩ := d
  exact ⟨fun b u hb e => by rw [upd_ne (ne_of_none e h)]; exact k1 b u hb e, z, by rw [upd_ne (ne_of_none hy h)]; exact hz⟩
theorem seqL {K : PySem.W.Frag} {H : Hp} {a : Addr} {xs : List V} (h : H a = some (.lst xs)) : SqL K H a xs := .inl (.inl h)
theorem seqT {K : PySem.W.Frag} {H : Hp} {a : Addr} {xs : List V} (h : H a = some (.tup xs)) : SqT K H a xs := .inl (.inl h)
theorem tup_same {K : PySem.W.Frag} {H H' : Hp} {a : Addr} {xs : List V} (e : Same H H') (h : SqT K H a xs) : SqT K H' a xs := by
  rcases h with (h | ⟨o, h⟩) | h
  · exact .inl (.inl (e _ _ h))
  · exact .inl (.inr ⟨o, e _ _ h⟩)
  · exact .inr h
end Sb
set_option Elab.async false
set_option maxRecDepth 100000
set_option maxHeartbeats 4000000
/-! A law's def that calls repr of nested data: its promise is asked only where no repr is under way (the caller's Around). Own work over the layer. -/
namespace Sb
open PySem PySem.Spec PyProof.Rows L2
/-- as FnOk, asked only where it is told that no guard stands -/
structure FnG (P : Program) (w : World) (K : PySem.W.Frag) (mg : Str → Option Value) (base : Heap) (CX : CXT) (k : Nat) (f : Addr) (fd : FuncData) (ps : List Str) (sp : Sp) : Prop where
  len : ∀ vs H Q E, sp vs H Q E → vs.length = ps.length
  run : ∀ (A : Around) (outer : List Env) (s : Shared) (H : Hp) (args : Args) (us : List Value) (vs : List V) (Q : VK) (E : XK), A.guards = some [] → Room k A → Env0 P w K mg base A outer s H → BindsTo s fd args (ps.zip us) → Vals vs us → sp vs H Q E →
    codeAny (model P w) A (.call (.ref f) args) (CR CX outer P w H s Q E) s
theorem fn_ofG {CX : CXT} {P : Program} {w : World} {K : PySem.W.Frag} {mg : Str → Option Value} {base : Heap} {k : Nat} {f : Addr} {name qual : Str} {params : Arguments} {body : List Stmt} {scope : Scope} {dV kV doc pm cdv ct oc : Value} {an od : Option Addr}
    {osl : Array (Option Value)} {N ps : List Str} {sp : Sp} (lk : K.lookup f = some ⟨oc, od, .func (PySem.W.fnOf name qual params body scope dV kV doc pm an cdv ct), osl⟩) (hcd : PySem.W.codeIn K cdv qual = true) (S : FnScope N ps scope)
    (len : ∀ vs H Q E, sp vs H Q E → vs.length = ps.length)
    (hbody : ∀ (A : Around) (outer : List Env) (s : Shared) (H : Hp) (vs : List V) (Q : VK) (E : XK), A.guards = some [] → Room k (A.deeper (envOfC qual scope s.heap.objs.size f cdv)) → sp vs H Q E →
      ∃ t, PSs (cxOf CX P w K mg base N qual scope f cdv A outer s H E) body t ∧ t { nx := fun _ H' => Q .non H', rt := Q } (start N vs) H) :
    FnG P w K mg base CX (k + 1) f (PySem.W.fnOf name qual params body scope dV kV doc pm an cdv ct) ps sp := by
  constructor
  case len => exact len
  case run =>
    intro A outer s H args us vs Q E hg hr e0 hb r hsp
    -- the body's rule, asked at this one place: elsewhere its promise says nothing
    have hl := len _ _ _ _ hsp
    have KX : K.In s.heap := e0.mod.kin.keeps fun b o e => (e0.bs b o e).1
    have lim : s.heap.NoLimit := e0.mod.nolimit.keeps fun b o e => (e0.bs b o e).1
    have hkind : ∀ y ∈ ps.zip us, scope.names.lookup y.1 = some .local ∨ (scope.names.lookup y.1 = some .cell ∧ ((cellsFrom (s.heap.objs.size + 1) scope.names []).lookup y.1).isSome = true) := fun y hy =>
      (S.par y.1 (List.of_mem_zip hy).1).imp id fun q => ⟨q, PySem.W.cellsFrom_some _ _ _ (.inl q)⟩
    refine codeAny_call_function hr.depth (KX _ _ lk) rfl S.co S.gen rfl (PySem.W.codeRec_of KX hcd) (hb _ _ _ _ (wpAny_newFunctionEnv_cells S.kind hkind fun env he s1 x => ?_))
    subst he
    refine ⟨lim.keeps x.toInCall.keep, codeAny_func ?_⟩
    obtain ⟨t, ht, hq⟩ := hbody A outer s H vs Q E hg (hr.deeper _) hsp
    refine wpAny_mono (ht.run [] s1 (start N vs) H _ (inv_start S hr.hd e0 hl r x) hq) (fun fl s' hs => ?_) fun e s' hs => hs
    match fl, hs with
    | .ret u, ⟨v, σ', H', J, rv, q⟩ => exact ⟨v, H', J.os, J.bare, J.base, J.hok, rv, q⟩
    | .next, ⟨σ', H', J, q⟩ => exact ⟨V.non, H', J.os, J.bare, J.base, J.hok, (show RelV V.non Value.none from rfl), q⟩
    | .brk, ⟨_, _, _, q⟩ => exact False.elim q
    | .cont, ⟨_, _, _, q⟩ => exact False.elim q
/-- at the caller: the law's promise, only the script tracked -/
theorem law_callG {P : Program} {w : World} {K : PySem.W.Frag} {mg mb : Str → Option Value} {k : Nat} {fa a : Addr} {fd : FuncData} {x : Str} {sp : Sp} {s₁ : Shared} {vs : List Value} {ns : List Int}
    (KX : K.In s₁.heap) (hns : s₁.heap.Ns mainGlobals mg) (hb : s₁.heap.Ns builtinsNs mb) (hbb : ∀ x : Str, x ≠ "__name__" → mb x = bootBuiltins x) (hlim : s₁.heap.NoLimit) (hg : s₁.gens = #[])
    (ha : s₁.heap.get? a = some { cls := .type "list", data := .seq vs.toArray }) (hi : IntsAre vs ns) (hl : ns.length ≤ sizeLine) (hr : Room k callerA)
    (F : ∀ base : Heap, K.In base → base.Ns mainGlobals mg → FnG P w K mg base CX0 k fa fd [x] sp) (hbind : ∀ (s : Shared) (u : Value), BindsTo s fd ⟨[u], []⟩ [(x, u)])
    (hsp : ∀ H : Hp, SqL K H a (ns.map V.int) → sp [.ref a] H (fun v _ => v = .bl true) fun _ _ _ => False) :
    codeAny (model P w) callerA (.call (.ref fa) ⟨[.ref a], []⟩) (fun r s' => r = .ok (.ret (.bool true)) ∧ OldK s₁.heap s'.heap ∧ s'.os = s₁.os ∧ AllBare s'.gens) s₁ := by
  have rv := vals_ints hi
  have lenV := hi.length
  -- t: whether the script is tracked (else it is an object of the module)
  obtain ⟨H, hH, hS, hok, hK⟩ : ∃ H : Hp, (∀ b u, H b = some u → b = a ∧ u = .frz { cls := .type "list", data := .seq vs.toArray } (.lst (ns.map V.int))) ∧ SqL K H a (ns.map V.int) ∧ HOk P w H s₁.heap ∧ (H a ≠ none → K.lookup a = none) := by
    cases hk : K.lookup a with
    | some o =>
      have e := KX a o hk
      rw [ha] at e
      cases e
      exact ⟨fun _ => none, fun b u z => (nomatch (show (none : Option HO) = some u from z)), .inr ⟨_, vs.toArray, _, hk, rfl, rfl, rfl, by rw [List.size_toArray, lenV]; exact hl, by simpa using rv⟩,
        fun b u z => (nomatch (show (none : Option HO) = some u from z)), fun z => absurd rfl z⟩
    | none =>
      have one : ∀ b u, (if b = a then some (HO.frz { cls := .type "list", data := .seq vs.toArray } (.lst (ns.map V.int))) else none) = some u → b = a ∧ u = .frz { cls := .type "list", data := .seq vs.toArray } (.lst (ns.map V.int)) := fun b u z => by
        split at z
        · rename_i q
          cases z
          exact ⟨q, rfl⟩
        · cases z
      refine ⟨fun b => if b = a then some (.frz { cls := .type "list", data := .seq vs.toArray } (.lst (ns.map V.int))) else none, one, .inl (.inr ⟨_, if_pos rfl⟩), fun b u z => ?_, fun _ => rfl⟩
      obtain ⟨rfl, rfl⟩ := one b u z
      exact ⟨ha, by rw [List.length_map]; exact hl, vs, _, rv, ha⟩
  have unt : ∀ {b : Addr} {o : Obj}, s₁.heap.get? b = some o → (∀ v n, o.data ≠ .seq v n) → H b = none := fun {b o} e d => by
    cases q : H b with
    | none => rfl
    | some u =>
      obtain ⟨rfl, _⟩ := hH b u q
      rw [ha] at e
      cases e
      exact absurd rfl (d _ _)
  have nsK : ∀ {b : Addr} {m : Str → Option Value}, s₁.heap.Ns b m → (hidT s₁.heap H).Ns b m := fun {b m} ⟨o, es, ep, e, d, r⟩ => ⟨o, es, ep, hidT_get e (unt e fun v n z => by rw [d] at z; cases z), d, r⟩
  have hKb : K.In (hidT s₁.heap H) := fun b o e => hidT_get (KX b o e) (by
    cases q : H b with
    | none => rfl
    | some u =>
      obtain ⟨rfl, _⟩ := hH b u q
      rw [hK (by rw [q]; simp)] at e
      cases e)
  obtain ⟨mc, l1, l2⟩ := hlim
  have hM : Mod K mg (hidT s₁.heap H) := ⟨hKb, nsK hns, ⟨mb, nsK hb, hbb⟩, ⟨mc, nsK l1, l2⟩⟩
  have e0 : Env0 P w K mg (hidT s₁.heap H) callerA [] s₁ H :=
    ⟨rfl, hM, fun b o e => of_hidT e, Nat.le_of_eq (hidT_size _ _), trivial, fun b hb => (nomatch (show b ∈ ([] : List Addr) from hb)), hok, AllBare.of_eq hg⟩
  refine codeAny_mono ((F _ hKb (nsK hns)).run callerA [] s₁ H ⟨[.ref a], []⟩ [.ref a] [.ref a] _ _ rfl hr e0 (hbind s₁ (.ref a)) (.cons rfl .nil) (hsp H hS)) fun r s' h => ?_
  match r, h with
  | .error e, h => exact False.elim h
  | .ok (.ret u), ⟨v, H', os, bare, un, hok', r', q⟩ =>
    have q' : v = .bl true := q
    subst q'
    obtain rfl : u = Value.bool true := r'
    refine ⟨rfl, OldK.of_keep fun b o e => ?_, os, bare⟩
    cases q : H b with
    | none => exact un.keep b o e q (fun z => (nomatch (show b ∈ ([] : List Addr) from z))) (by simp)
    | some u =>
      obtain ⟨rfl, rfl⟩ := hH b u q
      have z2 := un.frzs b _ _ q
      obtain ⟨e1, _⟩ := hok b _ q
      obtain ⟨e2, _⟩ := hok' b _ z2
      rw [e] at e1
      cases e1
      exact e2
theorem walk_ofG {l : PySem.W.OpenLaw} {n k : Nat} {q : Program} {loose : List Str} {XP : (Str → Option Value) → Heap → Prop} {YP : World → Heap → Prop} {d : DefRec} {K : Params → PySem.W.Frag} {sp : World → Sp} {x : Str}
    (hn : l.most = some n) (hn2 : n ≤ sizeLine) (hdf : d.params.defaults = []) (hr : Room k callerA)
    (hY : ∀ (w : World) (h : Heap), YP w h → (K w.params).In h)
    (F : ∀ (w : World) (mg : Str → Option Value) (fa : Addr) (h : Heap), (K w.params).In h → h.Ns mainGlobals mg → mg d.name = some (.ref fa) →
      ∃ fd : FuncData, (∀ (s : Shared) (u : Value), BindsTo s fd ⟨[u], []⟩ [(x, u)]) ∧
        ∀ base : Heap, (K w.params).In base → base.Ns mainGlobals mg → FnG l.prog w (K w.params) mg base CX0 k fa fd [x] (sp w))
    (hsp : ∀ (w : World) (H : Hp) (a : Addr) (ns : List Int), ns.length ≤ n → SqL (K w.params) H a (ns.map V.int) → sp w [.ref a] H (fun v _ => v = .bl true) fun _ _ _ => False) :
    PySem.W.WalkO q loose XP YP l.row.toRowW d [] (fun f vs => PySem.call f vs) := by
  refine Att.attach_call hn hdf fun w s₀ s₁ mg mb fa o pm cd doc a vs ns G Y ho hd hcd hmg hobj hints hlen hg => ?_
  have KX := hY w _ Y
  obtain ⟨fd, hb, hF⟩ := F w mg fa _ KX G.T.g hmg
  exact law_callG KX G.T.g G.T.b G.T.builtins G.T.nolimit hg hobj hints (Nat.le_trans hlen hn2) hr hF hb fun H hS => hsp w H a ns hlen hS
/-- repr of nested data, where no repr is under way -/
def rRepD (K : PySem.W.Frag) : List V → Hp → VK → Prop := fun xs H Q => ∃ (a : Addr) (d : PyData), xs = [.ref a] ∧ Dp K H (.ref a) d ∧ d.showable = true ∧ d.hasDict = false ∧ d.depth ≤ 60 ∧ d.shown.length ≤ sizeLine ∧ Q (.str d.shown) H
theorem call_reprD {X : Cx} (hg : X.A.guards = some []) (hu : X.A.units + 64 < cLine) : CallR X (.builtin "repr") (rRepD X.K) := by
  intro pins s σ H xs us Q I r h
  obtain ⟨a, d, rfl, hd, h1, h2, h3, h4, q⟩ := h
  cases r with
  | cons r1 r2 =>
    cases r2
    obtain ⟨as, R⟩ := Dp.reads I d _ _ hd r1
    cases r1
    exact repr_of_reads' R h1 (fun z => by rw [h2] at z; cases z) hg (by omega) (fun _ _ e => e) (fun h' u tk k => ⟨.str d.shown, H, I.kept (t' := tk) k, ⟨u, rfl⟩, q⟩) h4
end Sb
set_option Elab.async false
set_option linter.all false
set_option maxRecDepth 100000
set_option maxHeartbeats 4000000
/-! set(xs) of a list of ints, to be sorted: the rule for a list (the layer's own rule of a tuple, SetFor.call_set_tupI, turned to a list). -/
namespace Sb
open PySem PySem.Spec PyProof.Rows L2
section
variable {P : Program} {w : World} {A : Around} {E : Value → Shared → Prop} {s : Shared}
set_option maxRecDepth 100000 in
set_option maxHeartbeats 3200000 in
theorem call_set_lstI {l : Addr} {items : Array Value} (ns : List Int) {Q : Value → Shared → Prop} (hh : A.handled = none) (hl : s.heap.IsList l items) (hit : IntsAre items.toList ns) (hb : ns.length + 1 < scanBound)
    (h : ∀ (h' : Heap) (tk c : Nat), SetR w h' s.heap.objs.size (fun j => decide (j ∈ ns)) c → c ≤ ns.length → (∀ b o, s.heap.get? b = some o → h'.get? b = some o) → Q (.ref s.heap.objs.size) { s with heap := h', toks := tk }) :
    wpAny (model P w) A (call (.type "set") [.ref l]) Q E s := by
  have hisz : items.size = ns.length := by
    have q := IntsAre.length hit
    rw [Array.length_toList] at q
    exact q
  obtain ⟨c, tl, hmro⟩ := F.called_set.mro
  have hmade := F.called_set.made
  have hsub := F.called_set.sub
  refine wpAny_call (codeAny_of_tree ?_)
  show wpAny _ _ (callAny (.type "set") _) _ _ _
  refine wpAny_pure ⟨Code.quiet_builtin _ (by decide +kernel), codeAny_builtin F.entry_type_call ?_⟩
  rw [Around.under_plain (weight_type_call_type "set" [.ref l] []) rfl]
  have h1 := F.called_set.notType
  have h2 := F.called_set.canCreate
  have hct := F.typeCall_set_1 (.ref l)
  repeat (any_goals (first | assumption | wp_step))

  refine codeAny_mono (code_set_led1 (.ref l) (E := E) (Q₁ := fun obj s₁ => obj = .ref s.heap.objs.size ∧ s₁ = { s with heap := s.heap.push { cls := .type "set", dict := none, data := .set #[] 0 (.fresh 0 0 (!w.params.followText "set-order")) } }) ⟨rfl, rfl⟩) fun r s₁ hr => ?_
  cases r with
  | error e => exact hr
  | ok fl =>
    cases fl with
    | ret obj =>
      obtain ⟨rfl, rfl⟩ := hr
      have hS : (s.heap.push { cls := .type "set", dict := none, data := .set #[] 0 (.fresh 0 0 (!w.params.followText "set-order")) }).get? s.heap.objs.size = some { cls := .type "set", dict := none, data := .set #[] 0 (.fresh 0 0 (!w.params.followText "set-order")) } := Heap.get?_push_size _ rfl
      have hT : Shared.TypeIs { s with heap := s.heap.push { cls := .type "set", dict := none, data := .set #[] 0 (.fresh 0 0 (!w.params.followText "set-order")) } } (.ref s.heap.objs.size) "set" := ⟨_, hS, rfl⟩
      have hli := F.called_set.init.lookup
      have hbi := F.called_set.init.bind (.ref s.heap.objs.size)
      repeat (any_goals (first | assumption | wp_step))

      refine codeAny_mono (codeAny_call_builtin (R := wants (fun r s₂ => r = .none ∧ ∃ h' tk c, s₂ = { s with heap := h', toks := tk } ∧ SetR w h' s.heap.objs.size (fun j => decide (j ∈ ns)) c ∧ c ≤ ns.length ∧
          (∀ b o, s.heap.get? b = some o → h'.get? b = some o)) E) F.called_set.init.plain F.entry_set_init (check_set_init_1 hT ?_)) fun r₂ s₂ hr₂ => ?_
      · obtain ⟨ol, hol, hcl, nl, hdl⟩ := hl
        obtain ⟨ocls, odict, odata, oslots⟩ := ol
        simp only at hcl hdl
        subst hcl; subst hdl
        have hol' : (s.heap.push { cls := .type "set", dict := none, data := .set #[] 0 (.fresh 0 0 (!w.params.followText "set-order")) }).get? l = some { cls := .type "list", dict := odict, data := .seq items nl, slots := oslots } := Heap.get?_push_of_some _ hol
        have hsls := F.sub_list_set
        have hslf := F.sub_list_frozenset
        have hne : (Value.type "list" == Value.type "dict") = false := by decide
        have hl1 : (s.heap.push { cls := .type "set", dict := none, data := .set #[] 0 (.fresh 0 0 (!w.params.followText "set-order")) }).IsList l items := ⟨_, hol', rfl, nl, rfl⟩
        unfold Builtin.«set.__init__» noKeywords Builtin.Frozenset.updateFrom
        generalize hPI : pyIter = PI
        wp_walk
        subst hPI

        refine wpAny_pyIter_list hl1 ?_
        refine wpAny_bind (wpAny_runValue ?_)
        have hlS : l < s.heap.objs.size := Heap.lt_size hol
        have hh3 : A.in1.in1.in1.handled = none := by simp [hh]
        have hz1 : (s.heap.push { cls := .type "set", dict := none, data := .set #[] 0 (.fresh 0 0 (!w.params.followText "set-order")) }).objs.size = s.heap.objs.size + 1 := Heap.size_push ..
        have hneI : l ≠ (s.heap.push { cls := .type "set", dict := none, data := .set #[] 0 (.fresh 0 0 (!w.params.followText "set-order")) }).objs.size := by
          rw [Heap.size_push]; exact Nat.ne_of_lt (Nat.lt_succ_of_lt hlS)
        have hSf : s.heap.objs.size ∉ [(s.heap.push { cls := .type "set", dict := none, data := .set #[] 0 (.fresh 0 0 (!w.params.followText "set-order")) }).objs.size, l] := by
          rw [Heap.size_push]; simp only [List.mem_cons, List.mem_singleton, List.not_mem_nil, or_false, not_or]
          exact ⟨Nat.ne_of_lt (Nat.lt_succ_self _), Nat.ne_of_gt hlS⟩
        have hval : ∀ (i : Nat) (v : Value), items[i]? = some v → ∃ k t, ns[i]? = some k ∧ v = .int k t := fun i v hv => by
          have hi : i < ns.length := by rw [← hisz]; exact (Array.getElem?_eq_some_iff.mp hv).1
          obtain ⟨t, e⟩ := PyProof.Rows.IntsAre.int_at hit i v (by rw [Array.getElem?_toList]; exact hv)
          refine ⟨ns[i], t, List.getElem?_eq_getElem hi, ?_⟩
          rw [e, List.getD_eq_getElem?_getD, List.getElem?_eq_getElem hi] <;> rfl
        refine set_update_ints ((Walks.list hh3 _ l hneI items).toS) s.heap.objs.size
          hSf ns hisz hb hval (items.size - 0) 0 _ (by omega) (Nat.zero_le _)
          ⟨⟨_, Heap.get?_push_size _ rfl, rfl, rfl⟩, (hl1.push _)⟩ ?hS0 ?hR
        case hS0 =>
          have hget : ((s.heap.push { cls := .type "set", dict := none, data := .set #[] 0 (.fresh 0 0 (!w.params.followText "set-order")) }).push { cls := .type "list_iterator", data := .fields #[.ref l, .int 0 0] }).get? s.heap.objs.size
              = some { cls := .type "set", dict := none, data := .set #[] 0 (.fresh 0 0 (!w.params.followText "set-order")) } := Heap.get?_push_of_some _ hS
          exact ⟨0, Nat.le_refl 0, setR_new_at hget⟩
        case hR =>
          intro s' c' hm hc' hS'
          obtain ⟨h', g2, d', tk', os'⟩ := s'
          have eg : g2 = s.gens := hm.gens
          have ed : d' = s.drawn := hm.drawn
          have eo : os' = s.os := hm.os
          subst eg; subst ed; subst eo
          show wpAny _ _ _ _ _ _
          refine wpAny_pure ?_
          show wpAny _ _ (ret Value.none) _ _ _
          rw [hisz] at hc'
          refine wpAny_pure ⟨rfl, h', tk', c', rfl, hS', hc', fun b o e => ?_⟩
          have hb0 : b < s.heap.objs.size := Heap.lt_size e
          have hb1 : b ≠ s.heap.objs.size := Nat.ne_of_lt hb0
          have hb2 : b ≠ (s.heap.push { cls := .type "set", dict := none, data := .set #[] 0 (.fresh 0 0 (!w.params.followText "set-order")) }).objs.size := by
            rw [Heap.size_push]; exact Nat.ne_of_lt (Nat.lt_succ_of_lt hb0)
          exact hm.heap b o (by simp only [List.mem_cons, List.mem_singleton, List.not_mem_nil, or_false, not_or]; exact ⟨hb1, hb2⟩) (Heap.get?_push_of_some _ (Heap.get?_push_of_some _ e))

      · cases r₂ with
        | error e => exact hr₂
        | ok fl₂ =>
          cases fl₂ with
          | ret r =>
            obtain ⟨rfl, h', tk, c', rfl, hS', hc', hk'⟩ := hr₂
            repeat (any_goals (first | assumption | wp_step))
            exact h _ _ _ hS' hc' hk'
          | _ => exact hr₂.elim
    | _ => exact hr.elim

end


/-- set(xs), xs a list of ints -/
def rSetL (K : PySem.W.Frag) (w : World) : List V → Hp → VK → Prop := fun xs H Q => ∃ (l : Addr) (ns : List Int), xs = [.ref l] ∧ SqL K H l (ns.map V.int) ∧ ns.length < 60 ∧ ∀ (p : Addr) (c : Nat), c ≤ ns.length → H p = none → Q (.ref p) (upd H p (SetO w p (fun j => decide (j ∈ ns)) c))
theorem cr_setL {X : Cx} (hc : X.calm = true) : CallR X (.type "set") (rSetL X.K X.w) := by
  intro pins s σ H xs us Q I r h
  obtain ⟨l, ns, rfl, hl, hk, q⟩ := h
  rw [Vals.ref1 r]
  obtain ⟨its, rv, pl, hz⟩ := I.list hl
  have hn : H s.heap.objs.size = none := I.hok.fresh (Nat.le_refl _)
  refine call_set_lstI (P := X.prog) (w := X.w) ns (I.ok.hd hc) pl.isList (by simpa using rv.ints) (by unfold scanBound; omega) fun h' tk c R hc2 k => ?_
  exact ⟨.ref s.heap.objs.size, upd H s.heap.objs.size (SetO X.w s.heap.objs.size (fun j => decide (j ∈ ns)) c), I.laid (t' := tk) k (Nat.le_refl _) (setO_new R), rfl, q _ c hc2 hn⟩
end Sb
set_option Elab.async false
set_option maxRecDepth 100000
set_option maxHeartbeats 4000000
namespace Sb
open PySem PySem.Spec PyProof.Rows L2 SX
def top (i : Nat) : Stmt := PySem.Challenge.pw_stylobate_k72_keys_and_costs.main.body.getD i (.Pass ⟨0, 0, 0, 0⟩)
abbrev s__law_cell : Stmt := top 20
abbrev sc__law_cell_N : List Str := ["_law_script", "_law_k"]
theorem sc__law_cell : FnScope sc__law_cell_N ["_law_script", "_law_k"] (defScope s__law_cell) := ⟨rfl, rfl, rfl, by decide +kernel, rfl, by decide +kernel, by decide +kernel⟩
abbrev s__law_state : Stmt := top 21
abbrev sc__law_state_N : List Str := ["_law_cell_here", "_law_k", "_law_prime", "_law_first", "_law_second", "_law_third", "_law_fourth"]
theorem sc__law_state : FnScope sc__law_state_N ["_law_cell_here", "_law_k"] (defScope s__law_state) := ⟨rfl, rfl, rfl, by decide +kernel, rfl, by decide +kernel, by decide +kernel⟩
abbrev s__law_digit : Stmt := top 22
abbrev sc__law_digit_N : List Str := ["_law_state_here", "_law_many", "_law_digit_here"]
theorem sc__law_digit : FnScope sc__law_digit_N ["_law_state_here", "_law_many"] (defScope s__law_digit) := ⟨rfl, rfl, rfl, by decide +kernel, rfl, by decide +kernel, by decide +kernel⟩

structure Txt (K : PySem.W.Frag) (mg : Str → Option Value) (pT pW : Addr) : Prop where
  n_len : mg "len" = none
  n_int : mg "int" = none
  n_range : mg "range" = none
  n_min : mg "min" = none
  n_max : mg "max" = none
  n_isinstance : mg "isinstance" = none
  n_list : mg "list" = none
  n_tuple : mg "tuple" = none
  n_bool : mg "bool" = none
  n_sorted : mg "sorted" = none
  n_set : mg "set" = none
  n_repr : mg "repr" = none
  g_TRUE : mg "TRUE" = some (.ref pT)
  t_TRUE : ∀ H, SqT K H pT [.str "constant", .bl true]
  g_WAYS : mg "WAYS" = some (.ref pW)
  t_WAYS : ∀ H, SqT K H pW [.str "hash right", .str "hash left", .str "merge", .str "loop"]

theorem big_log {m : Int} (h : m < 10000000000000) (h0 : 0 < m) : m.natAbs.log2 < 9000 := by
  have h1 : m.natAbs < 2 ^ 44 := by omega
  have h2 : m.natAbs ≠ 0 := by omega
  exact Nat.lt_of_lt_of_le ((Nat.log2_lt h2).mpr h1) (by decide)
def spCell (K : PySem.W.Frag) : Sp := fun vs H Q _ => ∃ (a : Addr) (ns : List Int) (j : Nat), vs = [.ref a, .int (j : Int)] ∧ SqL K H a (ns.map V.int) ∧ ∀ z : Int, Q (.int z) H
def spState : Sp := fun vs H Q _ => ∃ (c k : Int), vs = [.int c, .int k] ∧ ∀ (p : Addr) (z : Int), H p = none → Q (.ref p) (upd H p (.lst [.int z]))
def spDigit : Sp := fun vs H Q _ => ∃ (p : Addr) (m : Int), vs = [.ref p, .int m] ∧ Dr H p ∧ 0 < m ∧ m < 10000000000000 ∧ ∀ (d : Int) (H' : Hp), 0 ≤ d → d < m → Kp p H H' → Q (.int d) H'


section
variable {P : Program} {w : World} {K : PySem.W.Frag} {mg : Str → Option Value} {base : Heap} {pT pW : Addr}
theorem ok__law_cell {f : Addr} {fd : FuncData} (F : Fun K "_law_cell" "_law_cell" s__law_cell f fd) (T : Txt K mg pT pW) : FnOk P w K mg base CX0 1 f fd ["_law_script", "_law_k"] (spCell K) := by
  refine F.ok sc__law_cell (fun vs H Q E h => ?_) (fun cdv A outer s H vs Q E hr h => ?_)
  · obtain ⟨a, ns, j, rfl, _⟩ := h
    rfl
  · obtain ⟨a, ns, j, rfl, hS, k⟩ := h
    refine ⟨_, pss_cons (ps_if (pt_cmpR op_lt (pv 1) (pe_callB call_len_seq (by rfl) T.n_len PySem.boot_len (pa_cons (pv 0) pa_nil)) (nomark _)) (pss_one (ps_ret (pe_ix ix_list (pv 0) (pv 1) (fun _ _ => rfl)))) pss_nil)
  (pss_one (ps_ret pe_int)), ?_⟩
    refine ⟨_, rfl, _, rfl, a, _, rfl, .inl hS, _, _, rfl, rfl, _, rfl, ?_⟩
    refine ite2 (fun hlt => ?_) (fun _ => ?_)
    · have hj : j < ns.length := by
        have := of_decide_eq_true hlt
        rw [List.length_map] at this
        omega
      have e : (ns.map V.int)[j]? = some (V.int ns[j]) := by rw [List.getElem?_map, List.getElem?_eq_getElem hj]; rfl
      exact ⟨_, rfl, _, rfl, a, _, _, _, rfl, rfl, hS, atI_nat e, k _⟩
    · exact k _
theorem ok__law_state {f : Addr} {fd : FuncData} (F : Fun K "_law_state" "_law_state" s__law_state f fd) (T : Txt K mg pT pW) : FnOk P w K mg base CX0 1 f fd ["_law_cell_here", "_law_k"] spState := by
  refine F.ok sc__law_state (fun vs H Q E h => ?_) (fun cdv A outer s H vs Q E hr h => ?_)
  · obtain ⟨c, i, rfl, _⟩ := h
    rfl
  · obtain ⟨c, i, rfl, k⟩ := h
    refine ⟨_, (pss_cons (ps_if (pt_cmpR op_ge (pv 0) pe_int (nomark _)) (pss_one (ps_ret (pe_lst (pa_cons (pv 0) pa_nil)))) pss_nil)
  (pss_cons (ps_set (i := 2) sc__law_state.nd rfl (Or.inl rfl) pe_int)
  (pss_cons (ps_set (i := 3) sc__law_state.nd rfl (Or.inl rfl) (pe_op op_mod (pe_callTy call_int1 (by rfl) T.n_int (by decide +kernel) (pa_cons (pe_op op_add (pe_op op_add (pe_op op_mul (pv 0) pe_int) (pe_op op_mul (pe_op op_add (pv 1) pe_int) pe_int)) pe_int) pa_nil)) (pv 2)))
  (pss_cons (ps_set (i := 4) sc__law_state.nd rfl (Or.inl rfl) (pe_op op_mod (pe_callTy call_int1 (by rfl) T.n_int (by decide +kernel) (pa_cons (pe_op op_add (pe_op op_add (pe_op op_mul (pv 3) (pv 3)) (pe_op op_mul pe_int (pv 3))) (pv 1)) pa_nil)) (pv 2)))
  (pss_cons (ps_set (i := 5) sc__law_state.nd rfl (Or.inl rfl) (pe_op op_mod (pe_callTy call_int1 (by rfl) T.n_int (by decide +kernel) (pa_cons (pe_op op_add (pe_op op_add (pe_op op_mul (pv 4) pe_int) (pe_op op_mul (pv 3) pe_int)) pe_int) pa_nil)) (pv 2)))
  (pss_cons (ps_set (i := 6) sc__law_state.nd rfl (Or.inl rfl) (pe_op op_mod (pe_callTy call_int1 (by rfl) T.n_int (by decide +kernel) (pa_cons (pe_op op_add (pe_op op_mul (pv 5) (pv 5)) (pv 4)) pa_nil)) (pv 2)))
  (pss_one (ps_ret (pe_lst (pa_cons (pe_op op_add (pe_op op_mul (pe_op op_add (pe_op op_mul (pe_op op_add (pe_op op_mul (pv 6) (pv 2)) (pv 5)) (pv 2)) (pv 4)) (pv 2)) (pv 3)) pa_nil)))))))))), ?_⟩
    refine ⟨_, rfl, _, _, rfl, rfl, _, rfl, ?_⟩
    refine ite2 (fun _ => ?_) (fun _ => ?_)
    · exact ⟨_, rfl, by show 1 ≤ sizeLine; decide, fun p hp => k p _ hp⟩
    have pr : (0 : Int) < 2305843009213693951 := by decide
    have md : ∀ x : Int, -(2 ^ 64) < x % 2305843009213693951 ∧ x % 2305843009213693951 < 2 ^ 64 := fun x => by
      have h1 := Int.emod_nonneg x (b := 2305843009213693951) (by decide)
      have h2 := Int.emod_lt_of_pos x pr
      omega
    have c1 : -(2 ^ 64) < (6364136223 : Int) ∧ (6364136223 : Int) < 2 ^ 64 := by decide
    refine ⟨_, rfl, _, _, rfl, rfl, .inr (by decide), _, rfl, _, _, rfl, rfl, _, _, rfl, rfl, .inr (by decide), _, _, rfl, rfl, _, _, rfl, rfl, .inl ⟨_, rfl, ?_⟩⟩
    refine ⟨_, rfl, _, _, rfl, rfl, pr, ?_⟩
    refine ⟨_, rfl, _, rfl, _, _, rfl, rfl, .inl (md _), _, rfl, _, _, rfl, rfl, .inl (by decide), _, _, rfl, rfl, _, rfl, _, _, rfl, rfl, .inl ⟨_, rfl, ?_⟩⟩
    refine ⟨_, rfl, _, _, rfl, rfl, pr, ?_⟩
    refine ⟨_, rfl, _, _, rfl, rfl, .inr (by decide), _, rfl, _, _, rfl, rfl, .inr (by decide), _, _, rfl, rfl, _, _, rfl, rfl, .inl ⟨_, rfl, ?_⟩⟩
    refine ⟨_, rfl, _, _, rfl, rfl, pr, ?_⟩
    refine ⟨_, rfl, _, rfl, _, _, rfl, rfl, .inl (md _), _, rfl, _, _, rfl, rfl, .inl ⟨_, rfl, ?_⟩⟩
    refine ⟨_, rfl, _, _, rfl, rfl, pr, ?_⟩
    refine ⟨_, rfl, _, rfl, _, _, rfl, rfl, .inr (by decide), _, rfl, _, _, rfl, rfl, _, rfl, _, _, rfl, rfl, .inr (by decide), _, rfl, _, _, rfl, rfl, _, rfl, _, _, rfl, rfl, .inr (by decide), _, rfl, _, _, rfl, rfl, by show 1 ≤ sizeLine; decide, fun p hp => k p _ hp⟩
theorem ok__law_digit {f : Addr} {fd : FuncData} (F : Fun K "_law_digit" "_law_digit" s__law_digit f fd) (T : Txt K mg pT pW) : FnOk P w K mg base CX0 1 f fd ["_law_state_here", "_law_many"] spDigit := by
  refine F.ok sc__law_digit (fun vs H Q E h => ?_) (fun cdv A outer s H vs Q E hr h => ?_)
  · obtain ⟨p, m, rfl, _⟩ := h
    rfl
  · obtain ⟨p, m, rfl, ⟨z, hz⟩, m0, m1, k⟩ := h
    refine ⟨_, (pss_cons (ps_set (i := 2) sc__law_digit.nd rfl (Or.inl rfl) (pe_op op_mod (pe_callTy call_int1 (by rfl) T.n_int (by decide +kernel) (pa_cons (pe_ix ix_list (pv 0) pe_int (fun _ _ => rfl)) pa_nil)) (pv 1)))
  (pss_cons (ps_asg (pe_op op_fdivW (pe_ix ix_list (pv 0) pe_int (fun _ _ => rfl)) (pv 1)) (pg_sub (pv 0) pe_int set_list))
  (pss_one (ps_ret (pv 2))))), ?_⟩
    refine ⟨_, rfl, p, _, _, _, rfl, rfl, seqL hz, rfl, .inl ⟨_, rfl, _, rfl, _, _, rfl, rfl, m0, ?_⟩⟩
    refine ⟨_, rfl, p, _, _, _, rfl, rfl, seqL hz, rfl, _, rfl, _, _, rfl, rfl, ⟨m0, big_log m1 m0⟩, _, rfl, p, _, _, 0, rfl, rfl, hz, rfl, _, rfl, ?_⟩
    refine k _ _ (Int.emod_nonneg _ (by omega)) (Int.emod_lt_of_pos _ m0) ⟨fun b o hb e => by rw [upd_ne hb]; exact e, _, upd_same⟩
end
end Sb
/-! Plain law of conditions. Own work. -/
namespace Cd
open PySem
inductive Cv where
  | non | bl (b : Bool) | int (i : Int) | str (t : Str)
inductive Ex where
  | col (i : Int) | con (v : Cv) | un (n : Str) (a : Ex) | bin (n : Str) (a b : Ex)
def Ex.ht : Ex → Nat
  | .col _ | .con _ => 0
  | .un _ a => a.ht + 1
  | .bin _ a b => max a.ht b.ht + 1
def Ex.kids : Ex → List Ex
  | .col _ | .con _ => []
  | .un _ a => [a]
  | .bin _ a b => [a, b]
theorem kids_ht {e k : Ex} (h : k ∈ e.kids) : k.ht < e.ht := by
  cases e with
  | col | con => simp [Ex.kids] at h
  | un n a => simp [Ex.kids] at h; subst h; simp [Ex.ht]
  | bin n a b =>
    simp [Ex.kids] at h
    rcases h with rfl | rfl <;> simp [Ex.ht] <;> omega
/-- the form of e over other parts -/
def Ex.over (e : Ex) (ks : List Ex) : Ex := match e, ks with
  | .un n _, [a] => .un n a
  | .bin n _ _, [a, b] => .bin n a b
  | e, _ => e
def isB (n : Str) : Ex → Bool
  | .bin m _ _ => m == n
  | _ => false
def parts : Ex → List Ex
  | .bin n a b => if n = ("and" : Str) then parts a ++ parts b else [.bin n a b]
  | e => [e]
def T : Ex := .con (.bl true)
def conj : Nat → List Ex → Ex
  | 0, _ => T
  | _ + 1, [] => T
  | _ + 1, [x] => x
  | f + 1, l => .bin "and" (conj f (l.take (l.length / 2))) (conj f (l.drop (l.length / 2)))
def cols : Ex → List Int
  | .col i => [i]
  | .con _ => []
  | .un _ a => cols a
  | .bin _ a b => cols a ++ cols b
theorem cols_kids : ∀ e : Ex, (∀ i, e ≠ .col i) → cols e = (e.kids.map cols).flatten
  | .col i, h => absurd rfl (h i)
  | .con _, _ => rfl
  | .un _ a, _ => by simp [cols, Ex.kids]
  | .bin _ a b, _ => by simp [cols, Ex.kids]
/-- 0: neither, 1: left, 2: right -/
def side (e : Ex) (m : Int) : Nat := if cols e = [] then 0 else if ∀ c ∈ cols e, c < m then 1 else if ∀ c ∈ cols e, m ≤ c then 2 else 0
def moved (d : Int) : Ex → Ex
  | .col i => .col (i + d)
  | .con v => .con v
  | .un n a => .un n (moved d a)
  | .bin n a b => .bin n (moved d a) (moved d b)
theorem moved_over (d : Int) : ∀ e : Ex, (∀ i, e ≠ .col i) → moved d e = e.over (e.kids.map (moved d))
  | .col i, h => absurd rfl (h i)
  | .con _, _ => rfl
  | .un _ a, _ => rfl
  | .bin _ a b, _ => rfl
def keyOf (m : Int) : Ex → Option (Ex × Ex)
  | .bin n a b => if n = ("equal" : Str) then (if side a m = 1 ∧ side b m = 2 then some (a, moved (-m) b) else if side a m = 2 ∧ side b m = 1 then some (b, moved (-m) a) else none) else none
  | _ => none
/-- keys and rest of a list of parts -/
def split (m : Int) (ps : List Ex) : List (Ex × Ex) × List Ex := (ps.filterMap (keyOf m), ps.filter fun p => (keyOf m p).isNone)
theorem split_snoc (m : Int) (ps : List Ex) (p : Ex) : split m (ps ++ [p]) = match keyOf m p with
    | some k => ((split m ps).1 ++ [k], (split m ps).2)
    | none => ((split m ps).1, (split m ps).2 ++ [p]) := by
  cases h : keyOf m p <;> simp [split, h]
theorem moved_ht (d : Int) : ∀ e : Ex, (moved d e).ht = e.ht
  | .col _ | .con _ => rfl
  | .un _ a => by simp [moved, Ex.ht, moved_ht d a]
  | .bin _ a b => by simp [moved, Ex.ht, moved_ht d a, moved_ht d b]
theorem parts_ht : ∀ (e p : Ex), p ∈ parts e → p.ht ≤ e.ht
  | .col _, p, h => by simp [parts] at h; subst h; exact Nat.le_refl _
  | .con _, p, h => by simp [parts] at h; subst h; exact Nat.le_refl _
  | .un _ a, p, h => by simp [parts] at h; subst h; exact Nat.le_refl _
  | .bin n a b, p, h => by
    rw [parts] at h
    split at h
    · rcases List.mem_append.mp h with h | h
      · have := parts_ht a p h; simp [Ex.ht]; omega
      · have := parts_ht b p h; simp [Ex.ht]; omega
    · simp at h; subst h; exact Nat.le_refl _
end Cd
namespace Cd
/-- how often n is halved, upwards, until it is 1 -/
def halvF : Nat → Nat → Nat
  | 0, _ => 0
  | f + 1, n => if 1 < n then halvF f ((n + 1) / 2) + 1 else 0
theorem halvF_spec : ∀ (f n : Nat), n ≤ 2 ^ f → n ≤ 2 ^ halvF f n ∧ ∀ k, n ≤ 2 ^ k → halvF f n ≤ k
  | 0, n, h => ⟨h, fun _ _ => Nat.zero_le _⟩
  | f + 1, n, h => by
    rw [halvF]
    by_cases h1 : 1 < n
    · rw [if_pos h1]
      have hp : 2 ^ (f + 1) = 2 * 2 ^ f := by rw [Nat.pow_succ, Nat.mul_comm]
      obtain ⟨a, b⟩ := halvF_spec f ((n + 1) / 2) (by omega)
      refine ⟨?_, fun k hk => ?_⟩
      · rw [Nat.pow_succ]; omega
      · cases k with
        | zero => simp at hk; omega
        | succ k =>
          have : 2 ^ (k + 1) = 2 * 2 ^ k := by rw [Nat.pow_succ, Nat.mul_comm]
          have := b k (by omega)
          omega
    · rw [if_neg h1]
      exact ⟨by simp; omega, fun _ _ => Nat.zero_le _⟩
theorem halvF_of {f n j : Nat} (h : n ≤ 2 ^ f) (h1 : n ≤ 2 ^ j) (h2 : ∀ k, k < j → ¬ n ≤ 2 ^ k) : halvF f n = j := by
  obtain ⟨a, b⟩ := halvF_spec f n h
  have c := b j h1
  by_cases e : halvF f n = j
  · exact e
  · exact absurd a (h2 _ (by omega))
theorem halvF_le (f n : Nat) : halvF f n ≤ f := by
  induction f generalizing n with
  | zero => exact Nat.le_refl _
  | succ f ih =>
    rw [halvF]
    split
    · have := ih ((n + 1) / 2); omega
    · exact Nat.zero_le _
abbrev halv (n : Nat) : Nat := halvF 60 n
def sortC (n : Nat) : Int := (n : Int) * (if ((halv n : Nat) : Int) < 40 then ((halv n : Nat) : Int) else 40)
end Cd
set_option Elab.async false
set_option maxRecDepth 100000
set_option maxHeartbeats 4000000
namespace Sb
open PySem PySem.Spec PyProof.Rows L2 SX
abbrev s_parts_of : Stmt := top 1
abbrev sc_parts_of_N : List Str := ["expression", "form"]
theorem sc_parts_of : FnScope sc_parts_of_N ["expression"] (defScope s_parts_of) := ⟨rfl, rfl, rfl, by decide +kernel, rfl, by decide +kernel, by decide +kernel⟩
abbrev s_with_parts : Stmt := top 2
abbrev sc_with_parts_N : List Str := ["expression", "parts", "form"]
theorem sc_with_parts : FnScope sc_with_parts_N ["expression", "parts"] (defScope s_with_parts) := ⟨rfl, rfl, rfl, by decide +kernel, rfl, by decide +kernel, by decide +kernel⟩
abbrev s_gather_columns : Stmt := top 3
abbrev sc_gather_columns_N : List Str := ["expression", "found", "part"]
theorem sc_gather_columns : FnScope sc_gather_columns_N ["expression", "found"] (defScope s_gather_columns) := ⟨rfl, rfl, rfl, by decide +kernel, rfl, by decide +kernel, by decide +kernel⟩
/-! ### conditions in the heap -/
def vC : Cd.Cv → V
  | .non => .non
  | .bl b => .bl b
  | .int i => .int i
  | .str t => .str t
def formE : Cd.Ex → Str
  | .col _ => "column"
  | .con _ => "constant"
  | .un _ _ => "unary"
  | .bin _ _ _ => "binary"
def labE : Cd.Ex → V
  | .col i => .int i
  | .con v => vC v
  | .un n _ => .str n
  | .bin n _ _ => .str n
def ExAt (K : PySem.W.Frag) (H : Hp) : Cd.Ex → Addr → Prop
  | .col i, p => SqT K H p [.str "column", .int i]
  | .con v, p => SqT K H p [.str "constant", vC v]
  | .un n a, p => ∃ q, SqT K H p [.str "unary", .str n, .ref q] ∧ ExAt K H a q
  | .bin n a b, p => ∃ q r, SqT K H p [.str "binary", .str n, .ref q, .ref r] ∧ ExAt K H a q ∧ ExAt K H b r
theorem ex_same {K : PySem.W.Frag} {H H' : Hp} (s : Same H H') : ∀ (e : Cd.Ex) (p : Addr), ExAt K H e p → ExAt K H' e p
  | .col _, _, h => tup_same s h
  | .con _, _, h => tup_same s h
  | .un _ a, _, ⟨q, h, h1⟩ => ⟨q, tup_same s h, ex_same s a q h1⟩
  | .bin _ a b, _, ⟨q, r, h, h1, h2⟩ => ⟨q, r, tup_same s h, ex_same s a q h1, ex_same s b r h2⟩
/-- lists of conditions -/
abbrev Exs (K : PySem.W.Frag) (H : Hp) (ps : List Addr) (es : List Cd.Ex) : Prop := Paired (fun p e => ExAt K H e p) ps es
theorem paired_mono {α β : Type} {F G : α → β → Prop} (h : ∀ a b, F a b → G a b) : ∀ {l : List α} {m : List β}, Paired F l m → Paired G l m
  | _, _, .nil => .nil
  | _, _, .cons a b => .cons (h _ _ a) (paired_mono h b)
theorem paired_len {α β : Type} {F : α → β → Prop} : ∀ {l : List α} {m : List β}, Paired F l m → l.length = m.length
  | _, _, .nil => rfl
  | _, _, .cons _ t => by simp [paired_len t]
theorem paired_get {α β : Type} {F : α → β → Prop} : ∀ {l : List α} {m : List β} {i : Nat} {a : α}, Paired F l m → l[i]? = some a → ∃ b, m[i]? = some b ∧ F a b
  | _, _, i, _, .nil, h => by simp at h
  | _, _, 0, _, .cons r _, h => by simp at h; subst h; exact ⟨_, rfl, r⟩
  | _, _, i + 1, _, .cons _ t, h => by
    obtain ⟨b, h1, h2⟩ := paired_get (i := i) t (by simpa using h)
    exact ⟨b, by simpa using h1, h2⟩
theorem paired_app {α β : Type} {F : α → β → Prop} : ∀ {l l' : List α} {m m' : List β}, Paired F l m → Paired F l' m' → Paired F (l ++ l') (m ++ m')
  | _, _, _, _, .nil, h => h
  | _, _, _, _, .cons a t, h => .cons a (paired_app t h)
theorem exs_same {K : PySem.W.Frag} {H H' : Hp} (s : Same H H') {ps : List Addr} {es : List Cd.Ex} (h : Exs K H ps es) : Exs K H' ps es := paired_mono (fun p e h => ex_same s e p h) h
theorem ex_tup {K : PySem.W.Frag} {H : Hp} {e : Cd.Ex} {p : Addr} (h : ExAt K H e p) : ∃ qs, SqT K H p (.str (formE e) :: labE e :: qs.map V.ref) ∧ Exs K H qs e.kids := by
  cases e with
  | col i => exact ⟨[], h, .nil⟩
  | con v => exact ⟨[], h, .nil⟩
  | un n a =>
    obtain ⟨q, h, h1⟩ := h
    exact ⟨[q], h, .cons h1 .nil⟩
  | bin n a b =>
    obtain ⟨q, r, h, h1, h2⟩ := h
    exact ⟨[q, r], h, .cons h1 (.cons h2 .nil)⟩
theorem lt_sz {n : Nat} (h : n ≤ 200000) : n ≤ sizeLine := Nat.le_trans h (by decide)
theorem lt_sz' {n : Nat} (h : n ≤ 200000) : n < sizeLine := Nat.lt_of_le_of_lt h (by decide)
def leaf : Cd.Ex → Bool
  | .col _ | .con _ => true
  | _ => false
theorem form_in (e : Cd.Ex) : inV (.str (formE e)) [.str "constant", .str "column"] = leaf e := by
  cases e <;> simp only [formE, leaf] <;> decide +kernel
theorem n_col : decide (V.str (Str.ofString "column") = V.str (Str.ofString "choice")) = false := by decide +kernel
theorem n_con : decide (V.str (Str.ofString "constant") = V.str (Str.ofString "choice")) = false := by decide +kernel
theorem n_un : decide (V.str (Str.ofString "unary") = V.str (Str.ofString "choice")) = false := by decide +kernel
theorem n_bin : decide (V.str (Str.ofString "binary") = V.str (Str.ofString "choice")) = false := by decide +kernel
theorem c_col : decide (V.str (Str.ofString "column") = V.str (Str.ofString "column")) = true := by decide +kernel
theorem c_con : decide (V.str (Str.ofString "constant") = V.str (Str.ofString "column")) = false := by decide +kernel
theorem c_un : decide (V.str (Str.ofString "unary") = V.str (Str.ofString "column")) = false := by decide +kernel
theorem c_bin : decide (V.str (Str.ofString "binary") = V.str (Str.ofString "column")) = false := by decide +kernel
theorem form_ch : ∀ e : Cd.Ex, decide (V.str (formE e) = V.str "choice") = false
  | .col _ => n_col
  | .con _ => n_con
  | .un _ _ => n_un
  | .bin _ _ _ => n_bin
def isCol : Cd.Ex → Bool
  | .col _ => true
  | _ => false
theorem form_col : ∀ e : Cd.Ex, decide (V.str (formE e) = V.str "column") = isCol e
  | .col _ => c_col
  | .con _ => c_con
  | .un _ _ => c_un
  | .bin _ _ _ => c_bin
theorem at0 {α : Type} {x : α} {l : List α} : atI (x :: l) 0 = some x := atI_nat (j := 0) rfl
theorem at1 {α : Type} {x y : α} {l : List α} : atI (x :: y :: l) 1 = some y := atI_nat (j := 1) rfl
theorem at2 {α : Type} {x y z : α} {l : List α} : atI (x :: y :: z :: l) 2 = some z := atI_nat (j := 2) rfl
theorem at3 {α : Type} {x y z u : α} {l : List α} : atI (x :: y :: z :: u :: l) 3 = some u := atI_nat (j := 3) rfl
theorem leaf_kids {e : Cd.Ex} (h : leaf e = true) : e.kids = [] := by
  cases e <;> simp [leaf] at h <;> rfl
def spParts (K : PySem.W.Frag) : Sp := fun vs H Q _ => ∃ (p : Addr) (e : Cd.Ex), vs = [.ref p] ∧ ExAt K H e p ∧
  ∀ (H' : Hp) (L : Addr) (qs : List Addr), H L = none → Same H H' → H' L = some (.lst (qs.map V.ref)) → Exs K H' qs e.kids → Q (.ref L) H'
def spWith (K : PySem.W.Frag) : Sp := fun vs H Q _ => ∃ (p L : Addr) (e : Cd.Ex) (qs : List Addr) (ks : List Cd.Ex), vs = [.ref p, .ref L] ∧ ExAt K H e p ∧ SqL K H L (qs.map V.ref) ∧ Exs K H qs ks ∧ ks.length = e.kids.length ∧ 
  ∀ (H' : Hp) (q : Addr), Same H H' → ExAt K H' (e.over ks) q → Q (.ref q) H'
def spGather (K : PySem.W.Frag) (n : Nat) : Sp := fun vs H Q _ => ∃ (p L : Addr) (e : Cd.Ex) (acc : List Int), vs = [.ref p, .ref L] ∧ ExAt K H e p ∧ e.ht < n ∧ H L = some (.lst (acc.map V.int)) ∧ acc.length + (Cd.cols e).length ≤ 50 ∧
  ∀ (H' : Hp), (∀ b o, b ≠ L → H b = some o → H' b = some o) → H' L = some (.lst ((acc ++ Cd.cols e).map V.int)) → Q .non H'
/-- all stands but the list at L -/
def KpL (L : Addr) (H H' : Hp) : Prop := ∀ b o, b ≠ L → H b = some o → H' b = some o
theorem KpL.refl {L : Addr} {H : Hp} : KpL L H H := fun _ _ _ h => h
theorem KpL.trans {L : Addr} {H H1 H2 : Hp} (a : KpL L H H1) (b : KpL L H1 H2) : KpL L H H2 := fun x o hx h => b x o hx (a x o hx h)
theorem KpL.of_same {L : Addr} {H H1 : Hp} (s : Same H H1) : KpL L H H1 := fun x o _ h => s x o h
theorem tupL {K : PySem.W.Frag} {L : Addr} {H H' : Hp} {ys : List V} (hL : H L = some (.lst ys)) (k : KpL L H H') {p : Addr} {xs : List V} (h : SqT K H p xs) : SqT K H' p xs := by
  rcases h with (h | ⟨o, h⟩) | h
  · exact .inl (.inl (k _ _ (ne_of h hL (by intro q; cases q)) h))
  · exact .inl (.inr ⟨o, k _ _ (ne_of h hL (by intro q; cases q)) h⟩)
  · exact .inr h
theorem exL {K : PySem.W.Frag} {L : Addr} {H H' : Hp} {ys : List V} (hL : H L = some (.lst ys)) (s : KpL L H H') : ∀ (e : Cd.Ex) (p : Addr), ExAt K H e p → ExAt K H' e p
  | .col _, _, h => tupL hL s h
  | .con _, _, h => tupL hL s h
  | .un _ a, _, ⟨q, h, h1⟩ => ⟨q, tupL hL s h, exL hL s a q h1⟩
  | .bin _ a b, _, ⟨q, r, h, h1, h2⟩ => ⟨q, r, tupL hL s h, exL hL s a q h1, exL hL s b r h2⟩
theorem exsL {K : PySem.W.Frag} {L : Addr} {H H' : Hp} {ys : List V} (hL : H L = some (.lst ys)) (s : KpL L H H') {ps : List Addr} {es : List Cd.Ex} (h : Exs K H ps es) : Exs K H' ps es := paired_mono (fun p e h => exL hL s e p h) h
theorem take_next {α : Type} {l : List α} {i : Nat} {x : α} (h : l[i]? = some x) : l.take (i + 1) = l.take i ++ [x] := by rw [List.take_add_one, h]; rfl
theorem flat_le (f : Cd.Ex → List Int) (l : List Cd.Ex) (i : Nat) : ((l.take i).map f).flatten.length ≤ (l.map f).flatten.length := by
  have : l.map f = (l.take i).map f ++ (l.drop i).map f := by rw [← List.map_append, List.take_append_drop]
  rw [this, List.flatten_append, List.length_append]
  omega
section
variable {P : Program} {w : World} {K : PySem.W.Frag} {mg : Str → Option Value} {base : Heap} {pT pW : Addr}
theorem ok_parts_of {f : Addr} {fd : FuncData} (F : Fun K "parts_of" "parts_of" s_parts_of f fd) (T : Txt K mg pT pW) : FnOk P w K mg base CX0 1 f fd ["expression"] (spParts K) := by
  refine F.ok sc_parts_of (fun vs H Q E h => ?_) (fun cdv A outer s H vs Q E hr h => ?_)
  · obtain ⟨_, _, rfl, _⟩ := h
    rfl
  · obtain ⟨p, e, rfl, he, kk⟩ := h
    refine ⟨_, (pss_cons (ps_set (i := 1) sc_parts_of.nd rfl (Or.inl rfl) (pe_ix ix_tup (pv 0) pe_int (fun _ _ => rfl)))
  (pss_cons (ps_if (pt_cmpR op_in_seq (pv 1) (pe_tup (pa_cons pe_str (pa_cons pe_str pa_nil))) (by rfl)) (pss_one (ps_ret (pe_lst pa_nil))) pss_nil)
  (pss_cons (ps_if (pt_cmpR op_eq (pv 1) pe_str (nomark _)) (pss_one (ps_ret (pe_callTy call_list_of (by rfl) T.n_list (by decide +kernel) (pa_cons (pe_slice sl_tup (pv 0) (po_some pe_int) po_none) pa_nil)))) pss_nil)
  (pss_one (ps_ret (pe_callTy call_list_of (by rfl) T.n_list (by decide +kernel) (pa_cons (pe_slice sl_tup (pv 0) (po_some pe_int) po_none) pa_nil))))))), ?_⟩
    obtain ⟨qs, ht, hk⟩ := ex_tup he
    refine ⟨_, rfl, p, _, _, _, rfl, rfl, ht, at0, ?_⟩
    refine ⟨_, rfl, lt_sz (show 2 ≤ 200000 by decide), fun q hq => ?_⟩
    have s1 := same_new (o := .tup [.str "constant", .str "column"]) hq
    refine ⟨q, _, rfl, .inr (seqT upd_same), rfl, rfl, _, rfl, ?_⟩
    show if inV (.str (formE e)) [.str "constant", .str "column"] = true then _ else _
    rw [form_in]
    refine ite2 (fun hl => ?_) (fun hl => ?_)
    · refine ⟨Nat.zero_le _, fun L hL => ?_⟩
      have hkn : e.kids = [] := leaf_kids hl
      refine kk _ L [] (Same.free s1 hL) (fun b o z => same_new hL b o (s1 b o z)) upd_same ?_
      rw [hkn]
      exact .nil
    · refine ⟨_, rfl, rfl, _, rfl, ?_⟩
      rw [form_ch]
      refine iteF ?_
      refine ⟨_, rfl, _, rfl, p, _, rfl, tup_same s1 ht, ?_, fun t ht2 => ?_⟩
      · rintro ⟨h1, _⟩
        have h3 := HT.sIx_nat ((V.str (formE e)) :: labE e :: qs.map V.ref).length 0 2
        rw [show (some (((2 : Nat)) : Int)) = some (2 : Int) from rfl] at h3
        rw [h3] at h1
        simp at h1
      · have e2 : cutV (.str (formE e) :: labE e :: qs.map V.ref) (some 2) none = qs.map V.ref := by
          unfold cutV
          have h3 := HT.sIx_nat ((V.str (formE e)) :: labE e :: qs.map V.ref).length 0 2
          rw [show (some (((2 : Nat)) : Int)) = some (2 : Int) from rfl] at h3
          rw [h3, HT.sIx_none]
          simp [List.take_of_length_le]
        rw [e2]
        have s2 := same_new (o := .tup (qs.map V.ref)) ht2
        refine ⟨t, _, rfl, .inr (seqT upd_same), fun l hl2 => ?_⟩
        have s3 := same_new (o := .lst (qs.map V.ref)) hl2
        have sA : Same H _ := fun b o z => s3 b o (s2 b o (s1 b o z))
        exact kk _ l qs (Same.free s1 (Same.free s2 hl2)) sA upd_same (exs_same sA hk)
theorem ok_with_parts {f : Addr} {fd : FuncData} (F : Fun K "with_parts" "with_parts" s_with_parts f fd) (T : Txt K mg pT pW) : FnOk P w K mg base CX0 1 f fd ["expression", "parts"] (spWith K) := by
  refine F.ok sc_with_parts (fun vs H Q E h => ?_) (fun cdv A outer s H vs Q E hr h => ?_)
  · obtain ⟨_, _, _, _, _, rfl, _⟩ := h
    rfl
  · obtain ⟨p, L, e, qs, ks, rfl, he, hL, hk, hlen, kk⟩ := h
    refine ⟨_, (pss_cons (ps_set (i := 2) sc_with_parts.nd rfl (Or.inl rfl) (pe_ix ix_tup (pv 0) pe_int (fun _ _ => rfl)))
  (pss_cons (ps_if (pt_cmpR op_in_seq (pv 2) (pe_tup (pa_cons pe_str (pa_cons pe_str pa_nil))) (by rfl)) (pss_one (ps_ret (pv 0))) pss_nil)
  (pss_cons (ps_if (pt_cmpR op_eq (pv 2) pe_str (nomark _)) (pss_one (ps_ret (pe_tup (pa_cons pe_str (pa_cons (pe_ix ix_list (pv 1) pe_int (fun _ _ => rfl)) (pa_cons (pe_ix ix_list (pv 1) pe_int (fun _ _ => rfl)) (pa_cons (pe_ix ix_list (pv 1) pe_int (fun _ _ => rfl)) pa_nil))))))) pss_nil)
  (pss_one (ps_ret (pe_op op_catT (pe_tup (pa_cons (pv 2) (pa_cons (pe_ix ix_tup (pv 0) pe_int (fun _ _ => rfl)) pa_nil))) (pe_callTy call_tuple_of (by rfl) T.n_tuple (by decide +kernel) (pa_cons (pv 1) pa_nil)))))))), ?_⟩
    obtain ⟨qs0, ht, hk0⟩ := ex_tup he
    refine ⟨_, rfl, p, _, _, _, rfl, rfl, ht, at0, ?_⟩
    refine ⟨_, rfl, lt_sz (show 2 ≤ 200000 by decide), fun q hq => ?_⟩
    have s1 := same_new (o := .tup [.str "constant", .str "column"]) hq
    refine ⟨q, _, rfl, .inr (seqT upd_same), rfl, rfl, _, rfl, ?_⟩
    show if inV (.str (formE e)) [.str "constant", .str "column"] = true then _ else _
    rw [form_in]
    refine ite2 (fun hl => ?_) (fun hl => ?_)
    · refine ⟨_, rfl, kk _ p s1 ?_⟩
      cases e with
      | col i => exact tup_same s1 he
      | con v => exact tup_same s1 he
      | un n a => simp [leaf] at hl
      | bin n a b => simp [leaf] at hl
    · refine ⟨_, rfl, rfl, _, rfl, ?_⟩
      rw [form_ch]
      refine iteF ?_
      refine ⟨_, rfl, _, rfl, p, _, _, _, rfl, rfl, tup_same s1 ht, at1, ?_⟩
      refine ⟨lt_sz (show 2 ≤ 200000 by decide), fun t1 ht1 => ?_⟩
      have s2 := same_new (o := .tup [.str (formE e), labE e]) ht1
      refine ⟨_, rfl, L, _, rfl, .inl ⟨s2.seq (s1.seq hL), fun t2 ht2 => ?_⟩⟩
      have s3 := same_new (o := .tup (qs.map V.ref)) ht2
      have hqk := paired_len hk
      have hk1 : e.kids.length = 1 ∨ e.kids.length = 2 := by
        cases e <;> simp [leaf] at hl <;> simp [Cd.Ex.kids]
      refine ⟨t1, t2, _, _, rfl, rfl, tup_same s3 (seqT upd_same), seqT upd_same, by simp, lt_sz (by simp; omega), fun hn => ?_, fun _ r hr2 => ?_⟩
      · have : qs = [] := by simpa using hn
        rw [this] at hqk
        simp at hqk
        omega
      · have s4 := same_new (o := .tup ([.str (formE e), labE e] ++ qs.map V.ref)) hr2
        have sA : Same H _ := fun b o z => s4 b o (s3 b o (s2 b o (s1 b o z)))
        refine kk _ r sA ?_
        have hkA := exs_same sA hk
        cases e with
        | col i => simp [leaf] at hl
        | con v => simp [leaf] at hl
        | un n a =>
          cases hkA with
          | nil => simp [Cd.Ex.kids] at hlen
          | cons h1 h2 =>
            cases h2 with
            | nil => exact ⟨_, seqT upd_same, h1⟩
            | cons => simp [Cd.Ex.kids] at hlen
        | bin n a b =>
          cases hkA with
          | nil => simp [Cd.Ex.kids] at hlen
          | cons h1 h2 =>
            cases h2 with
            | nil => simp [Cd.Ex.kids] at hlen
            | cons h2 h3 =>
              cases h3 with
              | nil => exact ⟨_, _, seqT upd_same, h1, h2⟩
              | cons => simp [Cd.Ex.kids] at hlen
theorem ok_gather {f : Addr} {fd : FuncData} (F : Fun K "gather_columns" "gather_columns" s_gather_columns f fd) (CP : Cal P w K mg base CX0 1 "parts_of" (spParts K)) (hm : mg "gather_columns" = some (.ref f)) (kp : PySem.W.keepIn K (.ref f) = true) (b : Binds K fd ["expression", "found"] []) :
    ∀ n : Nat, FnOk P w K mg base CX0 (n + 1) f fd ["expression", "found"] (spGather K n)
  | 0 => by
    refine ⟨fun vs H Q E h => ?_, fun A outer s H args us vs Q E hr he hb hv h => ?_⟩
    · obtain ⟨_, _, _, _, rfl, _⟩ := h
      rfl
    · obtain ⟨_, _, _, _, _, _, h, _⟩ := h
      omega
  | n + 1 => by
    have C_gather_columns : Cal P w K mg base CX0 (n + 1) "gather_columns" (spGather K n) := ⟨_, _, _, ok_gather F CP hm kp b n, hm, kp, b⟩
    have C_parts_of := CP
    refine F.ok sc_gather_columns (fun vs H Q E h => ?_) (fun cdv A outer s H vs Q E hr h => ?_)
    · obtain ⟨_, _, _, _, rfl, _⟩ := h
      rfl
    · obtain ⟨p, L, e, acc, rfl, he, hht, hL, hlen, kk⟩ := h
      refine ⟨_, (pss_cons (ps_if (pt_cmpR op_eq (pe_ix ix_tup (pv 0) pe_int (fun _ _ => rfl)) pe_str (nomark _)) (pss_one (ps_expr (pe_bm PySem.F.plainAttrs_list PySem.F.slot_list_append PySem.F.type_list_append mt_append (pv 1) (pa_cons (pe_ix ix_tup (pv 0) pe_int (fun _ _ => rfl)) pa_nil)))) pss_nil)
  (pss_one (ps_for PassesOwn.never rfl (pi_list (pe_k C_parts_of hr (by omega) (by rfl) pass0 (pa_cons (pv 0) pa_nil))) (pg_name (i := 2) sc_gather_columns.nd rfl (Or.inl rfl)) (pss_one (ps_expr (pe_k C_gather_columns hr (by omega) (by rfl) pass0 (pa_cons (pv 2) (pa_cons (pv 1) pa_nil)))))))), ?_⟩
      obtain ⟨qs0, ht, hk0⟩ := ex_tup he
      -- the loop, from any list that stands
      have hloop : ∀ (acc2 : List Int) (H1 : Hp), KpL L H H1 → H1 L = some (.lst (acc2.map V.int)) → acc2 ++ (e.kids.map Cd.cols).flatten = acc ++ Cd.cols e →
          (tFor (iList K (tCall (spParts K) [] E0 (tCons (tVar 0) tNil))) (gName 2) (tDrop (tCall (spGather K n) [] E0 (tCons (tVar 2) (tCons (tVar 1) tNil))))) { nx := fun _ H' => Q .non H', rt := Q } [some (.ref p), some (.ref L), none] H1 := by
        intro acc2 H1 k1 hL1 hacc
        have hlen2 : acc2.length + (e.kids.map Cd.cols).flatten.length ≤ 50 := by
          have := congrArg List.length hacc
          rw [List.length_append, List.length_append] at this
          omega
        refine ⟨_, rfl, p, e, rfl, exL hL k1 e p he, fun H2 M qs hM s2 hM2 hk2 => ?_⟩
        have hL2 := s2 _ _ hL1
        have nML : M ≠ L := (ne_of_none hL1 hM).symm
        have hMH : H M = none := by
          cases z : H M with
          | none => rfl
          | some o => rw [k1 M o nML z] at hM; cases hM
        refine ⟨M, rfl, ⟨_, seqL hM2⟩, for_list (xs := qs.map V.ref) (fun i σ H' => ∃ x2 : Option V, σ = [some (.ref p), some (.ref L), x2] ∧ KpL L H2 H' ∧ H' L = some (.lst ((acc2 ++ ((e.kids.take i).map Cd.cols).flatten).map V.int)) ∧ H' M = some (.lst (qs.map V.ref)))
          ⟨none, rfl, KpL.refl, by simpa using hL2, hM2⟩ (fun i σ H' _ ⟨_, _, _, _, h⟩ => seqL h) ?_ ?_⟩
        · rintro i x σ H3 hx ⟨x2, rfl, k3, hL3, hM3⟩
          obtain ⟨q, hq, rfl⟩ : ∃ q, qs[i]? = some q ∧ V.ref q = x := by
            rw [List.getElem?_map] at hx
            cases z : qs[i]? with
            | none => rw [z] at hx; cases hx
            | some q => rw [z] at hx; exact ⟨q, rfl, Option.some.inj hx⟩
          obtain ⟨kd, hkd, hkq⟩ := paired_get hk2 hq
          have htk := Cd.kids_ht (List.mem_of_getElem? hkd)
          have hfl := flat_le Cd.cols e.kids (i + 1)
          rw [take_next hkd] at hfl
          refine ⟨_, rfl, _, rfl, q, L, kd, _, rfl, exL hL2 k3 kd q hkq, by omega, hL3, ?_, fun H4 k4 hL4 => ?_⟩
          · simp only [List.map_append, List.map_cons, List.map_nil, List.flatten_append, List.flatten_cons, List.flatten_nil, List.append_nil, List.length_append] at hfl ⊢
            omega
          · refine ⟨_, rfl, k3.trans k4, ?_, k4 _ _ nML hM3⟩
            rw [hL4, take_next hkd]
            simp
        · rintro σ H3 ⟨x2, rfl, k3, hL3, hM3⟩
          refine kk H3 (fun b o hb z => k3 b o hb (s2 b o (k1 b o hb z))) ?_
          rw [hL3, ← hacc]
          rw [List.length_map, paired_len hk2, List.take_length]
      refine ⟨_, rfl, p, _, _, _, rfl, rfl, ht, at0, rfl, _, rfl, ?_⟩
      rw [form_col]
      cases e with
      | col i =>
        refine iteT ?_
        refine ⟨_, rfl, .inl ⟨rfl, _, seqL hL⟩, _, rfl, p, _, _, _, rfl, rfl, ht, at1, ?_⟩
        refine ⟨L, _, _, rfl, rfl, hL, by rw [List.length_map]; exact lt_sz' (by omega), ?_⟩
        refine hloop (acc ++ [i]) _ (fun b o hb z => by rw [upd_ne hb]; exact z) ?_ ?_
        · rw [upd_same, List.map_append]
          rfl
        · simp [Cd.Ex.kids, Cd.cols]
      | con v => exact iteF (hloop acc H KpL.refl hL (by rw [Cd.cols_kids _ (by intro i; simp)]))
      | un m a => exact iteF (hloop acc H KpL.refl hL (by rw [Cd.cols_kids _ (by intro i; simp)]))
      | bin m a c => exact iteF (hloop acc H KpL.refl hL (by rw [Cd.cols_kids _ (by intro i; simp)]))
end
end Sb
set_option Elab.async false
set_option maxRecDepth 100000
set_option maxHeartbeats 4000000
namespace Sb
open PySem PySem.Spec PyProof.Rows L2 SX
abbrev s_columns_of : Stmt := top 4
abbrev sc_columns_of_N : List Str := ["expression", "found"]
theorem sc_columns_of : FnScope sc_columns_of_N ["expression"] (defScope s_columns_of) := ⟨rfl, rfl, rfl, by decide +kernel, rfl, by decide +kernel, by decide +kernel⟩
abbrev s_moved : Stmt := top 5
abbrev sc_moved_N : List Str := ["expression", "distance", "part"]
theorem sc_moved : FnScope sc_moved_N ["expression", "distance"] (defScope s_moved) := ⟨rfl, rfl, rfl, by decide +kernel, rfl, by decide +kernel, by decide +kernel⟩
abbrev s_condition_parts : Stmt := top 8
abbrev sc_condition_parts_N : List Str := ["condition"]
theorem sc_condition_parts : FnScope sc_condition_parts_N ["condition"] (defScope s_condition_parts) := ⟨rfl, rfl, rfl, by decide +kernel, rfl, by decide +kernel, by decide +kernel⟩
abbrev s_conjunction : Stmt := top 9
abbrev sc_conjunction_N : List Str := ["conditions", "half"]
theorem sc_conjunction : FnScope sc_conjunction_N ["conditions"] (defScope s_conjunction) := ⟨rfl, rfl, rfl, by decide +kernel, rfl, by decide +kernel, by decide +kernel⟩
theorem strD (a b : Str) : decide (V.str a = V.str b) = decide (a = b) := by
  by_cases h : a = b
  · subst h; simp
  · rw [decide_eq_false h, decide_eq_false]
    intro q
    injection q with q
    exact h q
def isBin : Cd.Ex → Bool
  | .bin _ _ _ => true
  | _ => false
theorem b_col : decide (V.str (Str.ofString "column") = V.str (Str.ofString "binary")) = false := by decide +kernel
theorem b_con : decide (V.str (Str.ofString "constant") = V.str (Str.ofString "binary")) = false := by decide +kernel
theorem b_un : decide (V.str (Str.ofString "unary") = V.str (Str.ofString "binary")) = false := by decide +kernel
theorem b_bin : decide (V.str (Str.ofString "binary") = V.str (Str.ofString "binary")) = true := by decide +kernel
theorem form_bin : ∀ e : Cd.Ex, decide (V.str (formE e) = V.str "binary") = isBin e
  | .col _ => b_col
  | .con _ => b_con
  | .un _ _ => b_un
  | .bin _ _ _ => b_bin
theorem cut_to (xs : List V) (h : Nat) : cutV xs none (some (h : Int)) = xs.take h := by
  unfold cutV
  rw [HT.sIx_none, HT.sIx_nat]
  simp only [List.drop_zero, Nat.sub_zero]
  rcases Nat.le_total h xs.length with q | q
  · rw [Nat.min_eq_left q]
  · rw [Nat.min_eq_right q, List.take_length, List.take_of_length_le q]
theorem cut_from (xs : List V) (h : Nat) : cutV xs (some (h : Int)) none = xs.drop h := by
  unfold cutV
  rw [HT.sIx_none, HT.sIx_nat]
  rcases Nat.le_total h xs.length with q | q
  · rw [Nat.min_eq_left q, List.take_of_length_le (by simp)]
  · rw [Nat.min_eq_right q, List.drop_length, List.drop_eq_nil_of_le q]
    simp
theorem paired_take {α β : Type} {F : α → β → Prop} : ∀ {l : List α} {m : List β} (n : Nat), Paired F l m → Paired F (l.take n) (m.take n)
  | _, _, 0, _ => by simp only [List.take_zero]; exact .nil
  | _, _, _ + 1, .nil => .nil
  | _, _, n + 1, .cons a t => .cons a (paired_take n t)
theorem paired_drop {α β : Type} {F : α → β → Prop} : ∀ {l : List α} {m : List β} (n : Nat), Paired F l m → Paired F (l.drop n) (m.drop n)
  | _, _, 0, h => h
  | _, _, _ + 1, .nil => .nil
  | _, _, n + 1, .cons _ t => paired_drop n t
def spCols (K : PySem.W.Frag) (n : Nat) : Sp := fun vs H Q _ => ∃ (p : Addr) (e : Cd.Ex), vs = [.ref p] ∧ ExAt K H e p ∧ e.ht < n ∧ (Cd.cols e).length ≤ 50 ∧
  ∀ (H' : Hp) (L : Addr) (us : List Int), us.Pairwise (· < ·) → (∀ k, k ∈ us ↔ k ∈ Cd.cols e) → H L = none → Same H H' → H' L = some (.lst (us.map V.int)) → Q (.ref L) H'
def spMoved (K : PySem.W.Frag) (n : Nat) : Sp := fun vs H Q _ => ∃ (p : Addr) (e : Cd.Ex) (d : Int), vs = [.ref p, .int d] ∧ ExAt K H e p ∧ e.ht < n ∧ ∀ (H' : Hp) (q : Addr), Same H H' → ExAt K H' (Cd.moved d e) q → Q (.ref q) H'
def spCParts (K : PySem.W.Frag) (n : Nat) : Sp := fun vs H Q _ => ∃ (p : Addr) (e : Cd.Ex), vs = [.ref p] ∧ ExAt K H e p ∧ e.ht < n ∧ (Cd.parts e).length ≤ 100 ∧
  ∀ (H' : Hp) (L : Addr) (qs : List Addr), H L = none → Same H H' → H' L = some (.lst (qs.map V.ref)) → Exs K H' qs (Cd.parts e) → Q (.ref L) H'
def spConj (K : PySem.W.Frag) (n : Nat) : Sp := fun vs H Q _ => ∃ (L : Addr) (qs : List Addr) (es : List Cd.Ex), vs = [.ref L] ∧ SqL K H L (qs.map V.ref) ∧ Exs K H qs es ∧ es.length < n ∧ n ≤ 1000 ∧ ∀ (H' : Hp) (q : Addr), Same H H' → ExAt K H' (Cd.conj n es) q → Q (.ref q) H'
theorem parts_pos : ∀ e : Cd.Ex, 0 < (Cd.parts e).length
  | .col _ | .con _ | .un _ _ => by simp [Cd.parts]
  | .bin n a b => by
    rw [Cd.parts]
    split
    · have := parts_pos a; simp; omega
    · simp
section
variable {P : Program} {w : World} {K : PySem.W.Frag} {mg : Str → Option Value} {base : Heap} {pT pW : Addr}
theorem ok_columns_of {n : Nat} {f : Addr} {fd : FuncData} (F : Fun K "columns_of" "columns_of" s_columns_of f fd) (T : Txt K mg pT pW) (C_gather_columns : Cal P w K mg base CX0 (n + 1) "gather_columns" (spGather K n)) : FnOk P w K mg base CX0 (n + 2) f fd ["expression"] (spCols K n) := by
  refine F.ok sc_columns_of (fun vs H Q E h => ?_) (fun cdv A outer s H vs Q E hr h => ?_)
  · obtain ⟨_, _, rfl, _⟩ := h
    rfl
  · obtain ⟨p, e, rfl, he, hht, hlen, kk⟩ := h
    refine ⟨_, (pss_cons (ps_set (i := 1) sc_columns_of.nd rfl (Or.inl rfl) (pe_lst pa_nil))
  (pss_cons (ps_expr (pe_k C_gather_columns hr (by omega) (by rfl) pass0 (pa_cons (pv 0) (pa_cons (pv 1) pa_nil))))
  (pss_one (ps_ret (pe_callB (cr_sortedSet rfl) (by rfl) T.n_sorted (by decide +kernel) (pa_cons (pe_callTy (cr_setL rfl) (by rfl) T.n_set (by decide +kernel) (pa_cons (pv 1) pa_nil)) pa_nil)))))), ?_⟩
    refine ⟨Nat.zero_le _, fun L hL => ?_⟩
    have s1 := same_new (o := .lst []) hL
    refine ⟨_, rfl, _, rfl, p, L, e, [], rfl, ex_same s1 e p he, hht, upd_same, by simpa using hlen, fun H1 k1 hL1 => ?_⟩
    have s2 : Same H H1 := fun b o z => k1 b o (ne_of_none z hL) (s1 b o z)
    refine ⟨_, rfl, L, Cd.cols e, rfl, seqL (by simpa using hL1), by omega, fun ps c hc hps => ?_⟩
    have s3 : Same H1 _ := same_new (o := SetO w ps (fun j => decide (j ∈ Cd.cols e)) c) hps
    refine ⟨ps, _, c, rfl, upd_same, by omega, fun us q hpw hmem hul hq => ?_⟩
    have s4 := same_new (o := .lst (us.map V.int)) hq
    exact kk _ q us hpw (fun k => by rw [hmem k]; simp) (Same.free s2 (Same.free s3 hq)) (fun b o z => s4 b o (s3 b o (s2 b o z))) upd_same
theorem ok_moved {f : Addr} {fd : FuncData} (F : Fun K "moved" "moved" s_moved f fd) (C_parts_of : Cal P w K mg base CX0 1 "parts_of" (spParts K)) (C_with_parts : Cal P w K mg base CX0 1 "with_parts" (spWith K)) (hm : mg "moved" = some (.ref f)) (kp : PySem.W.keepIn K (.ref f) = true) (b : Binds K fd ["expression", "distance"] []) :
    ∀ n : Nat, FnOk P w K mg base CX0 (n + 1) f fd ["expression", "distance"] (spMoved K n)
  | 0 => by
    refine ⟨fun vs H Q E h => ?_, fun A outer s H args us vs Q E hr he hb hv h => ?_⟩
    · obtain ⟨_, _, _, rfl, _⟩ := h
      rfl
    · obtain ⟨_, _, _, _, _, h, _⟩ := h
      omega
  | n + 1 => by
    have C_moved : Cal P w K mg base CX0 (n + 1) "moved" (spMoved K n) := ⟨_, _, _, ok_moved F C_parts_of C_with_parts hm kp b n, hm, kp, b⟩
    refine F.ok sc_moved (fun vs H Q E h => ?_) (fun cdv A outer s H vs Q E hr h => ?_)
    · obtain ⟨_, _, _, rfl, _⟩ := h
      rfl
    · obtain ⟨p, e, d, rfl, he, hht, kk⟩ := h
      refine ⟨_, (pss_cons (ps_if (pt_cmpR op_eq (pe_ix ix_tup (pv 0) pe_int (fun _ _ => rfl)) pe_str (nomark _)) (pss_one (ps_ret (pe_tup (pa_cons pe_str (pa_cons (pe_op op_add (pe_ix ix_tup (pv 0) pe_int (fun _ _ => rfl)) (pv 1)) pa_nil))))) pss_nil)
  (pss_one (ps_ret (pe_k C_with_parts hr (by omega) (by rfl) pass0 (pa_cons (pv 0) (pa_cons (pe_lc (own := [("part", 2)]) (g := gName 2) rfl sc_moved.nd (pi_list (pe_k C_parts_of hr (by omega) (by rfl) pass0 (pa_cons (pv 0) pa_nil))) (blkOk_by (own := [("part", 2)]) (N := sc_moved_N) (sc := defScope s_moved) (by decide +kernel)) (fun _ _ _ _ _ => pg_name (i := 2) sc_moved.nd rfl (Or.inl rfl)) (fun _ _ _ _ _ => pts_nil) (fun _ _ _ _ _ => (pe_k C_moved hr (by omega) (by rfl) pass0 (pa_cons (pv 2) (pa_cons (pv 1) pa_nil))))) pa_nil)))))), ?_⟩
      obtain ⟨qs0, ht, hk0⟩ := ex_tup he
      refine ⟨_, rfl, p, _, _, _, rfl, rfl, ht, at0, rfl, _, rfl, ?_⟩
      rw [form_col]
      by_cases hcol : ∃ i, e = .col i
      · obtain ⟨i, rfl⟩ := hcol
        refine iteT ?_
        refine ⟨_, rfl, p, _, _, _, rfl, rfl, ht, at1, _, rfl, _, _, rfl, rfl, ?_⟩
        refine ⟨lt_sz (show 2 ≤ 200000 by decide), fun q hq => ?_⟩
        exact kk _ q (same_new hq) (seqT upd_same)
      · have hc : isCol e = false := by
          cases e with
          | col i => exact absurd ⟨i, rfl⟩ hcol
          | con | un | bin => rfl
        rw [hc]
        refine iteF ?_
        refine ⟨_, rfl, _, rfl, p, e, rfl, he, fun H1 M qs hM s1 hM1 hk1 => ?_⟩
        refine ⟨M, rfl, ⟨_, seqL hM1⟩, fun D hD => ?_⟩
        have hDH : H D = none := Same.free s1 hD
        have nMD : M ≠ D := ne_of_none hM1 hD
        refine lc_list (xs := qs.map V.ref) (fun i H' => Same H1 H' ∧ ∃ rs : List Addr, H' D = some (.lst (rs.map V.ref)) ∧ Exs K H' rs ((e.kids.take i).map (Cd.moved d)))
          ⟨same_new hD, [], upd_same, .nil⟩ (fun i H' _ ⟨h, _⟩ => seqL (h _ _ hM1)) ?_ ?_
        · rintro i x H2 hx ⟨s2, rs, hD2, hr2⟩
          obtain ⟨q, hq, rfl⟩ : ∃ q, qs[i]? = some q ∧ V.ref q = x := by
            rw [List.getElem?_map] at hx
            cases z : qs[i]? with
            | none => rw [z] at hx; cases hx
            | some q => rw [z] at hx; exact ⟨q, rfl, Option.some.inj hx⟩
          obtain ⟨kd, hkd, hkq⟩ := paired_get hk1 hq
          have htk := Cd.kids_ht (List.mem_of_getElem? hkd)
          refine ⟨rfl, _, rfl, _, rfl, q, kd, d, rfl, ex_same s2 kd q hkq, by omega, fun H3 r s3 hr3 => ?_⟩
          have hD3 := s3 _ _ hD2
          refine ⟨_, hD3, ?_, ?_, rs ++ [r], ?_, ?_⟩
          · rw [List.length_map]
            have := paired_len hr2
            rw [List.length_map, List.length_take] at this
            have hk2 : e.kids.length ≤ 2 := by cases e <;> simp [Cd.Ex.kids]
            exact lt_sz' (by omega)
          · exact fun b o z => by rw [upd_ne (ne_of_none z hD)]; exact s3 b o (s2 b o z)
          · rw [upd_same, List.map_append]; rfl
          · rw [take_next hkd, List.map_append]
            have hDl : KpL D H3 (upd H3 D (.lst (rs.map V.ref ++ [V.ref r]))) := fun b o hb z => by rw [upd_ne hb]; exact z
            exact paired_app (exsL hD3 hDl (exs_same s3 hr2)) (.cons (exL hD3 hDl _ r hr3) .nil)
        · rintro H2 ⟨s2, rs, hD2, hr2⟩
          rw [List.length_map, paired_len hk1, List.take_length] at hr2
          have s02 : Same H H2 := fun b o z => s2 b o (s1 b o z)
          refine ⟨p, D, e, rs, _, rfl, ex_same s02 e p he, seqL hD2, hr2, by simp, fun H3 q s3 hq => ?_⟩
          refine kk H3 q (fun b o z => s3 b o (s02 b o z)) ?_
          rw [Cd.moved_over d e (fun i z => hcol ⟨i, z⟩)]
          exact hq
theorem ok_condition_parts {f : Addr} {fd : FuncData} (F : Fun K "condition_parts" "condition_parts" s_condition_parts f fd) (hm : mg "condition_parts" = some (.ref f)) (kp : PySem.W.keepIn K (.ref f) = true) (b : Binds K fd ["condition"] []) :
    ∀ n : Nat, FnOk P w K mg base CX0 (n + 1) f fd ["condition"] (spCParts K n)
  | 0 => by
    refine ⟨fun vs H Q E h => ?_, fun A outer s H args us vs Q E hr he hb hv h => ?_⟩
    · obtain ⟨_, _, rfl, _⟩ := h
      rfl
    · obtain ⟨_, _, _, _, h, _⟩ := h
      omega
  | n + 1 => by
    have C_condition_parts : Cal P w K mg base CX0 (n + 1) "condition_parts" (spCParts K n) := ⟨_, _, _, ok_condition_parts F hm kp b n, hm, kp, b⟩
    refine F.ok sc_condition_parts (fun vs H Q E h => ?_) (fun cdv A outer s H vs Q E hr h => ?_)
    · obtain ⟨_, _, rfl, _⟩ := h
      rfl
    · obtain ⟨p, e, rfl, he, hht, hlen, kk⟩ := h
      refine ⟨_, (pss_cons (ps_if (PW.pt (pw_and (pt_cmpR op_eq (pe_ix ix_tup (pv 0) pe_int (fun _ _ => rfl)) pe_str (nomark _)) (pw_and1 (pt_cmpR op_eq (pe_ix ix_tup (pv 0) pe_int (fun _ _ => rfl)) pe_str (nomark _))))) (pss_one (ps_ret (pe_op op_cat (pe_k C_condition_parts hr (by omega) (by rfl) pass0 (pa_cons (pe_ix ix_tup (pv 0) pe_int (fun _ _ => rfl)) pa_nil)) (pe_k C_condition_parts hr (by omega) (by rfl) pass0 (pa_cons (pe_ix ix_tup (pv 0) pe_int (fun _ _ => rfl)) pa_nil))))) pss_nil)
  (pss_one (ps_ret (pe_lst (pa_cons (pv 0) pa_nil))))), ?_⟩
      obtain ⟨qs0, ht, hk0⟩ := ex_tup he
      have one : Cd.parts e = [e] → tRet (tLst (tCons (tVar 0) tNil)) { nx := fun _ H' => Q .non H', rt := Q } [some (.ref p)] H := fun h1 => by
        refine ⟨_, rfl, lt_sz (show 1 ≤ 200000 by decide), fun L hL => ?_⟩
        refine kk _ L [p] hL (same_new hL) upd_same ?_
        rw [h1]
        exact .cons (ex_same (same_new hL) e p he) .nil
      refine ⟨_, rfl, p, _, _, _, rfl, rfl, ht, at0, rfl, _, rfl, ?_⟩
      rw [form_bin]
      cases e with
      | col i => exact iteF (iteF (one rfl))
      | con v => exact iteF (iteF (one rfl))
      | un m a => exact iteF (iteF (one rfl))
      | bin m a c =>
        refine iteT ?_
        obtain ⟨q, r, ht, ha, hc⟩ := he
        refine ⟨_, rfl, p, _, _, _, rfl, rfl, ht, at1, rfl, _, rfl, ?_⟩
        rw [strD]
        rw [Cd.parts] at hlen
        simp only [Cd.Ex.ht] at hht
        by_cases hand : m = ("and" : Str)
        · have hd : decide (m = ("and" : Str)) = true := decide_eq_true hand
          rw [if_pos hand, List.length_append] at hlen
          rw [hd]
          refine iteT ?_
          refine ⟨_, rfl, p, _, _, _, rfl, rfl, ht, at2, q, a, rfl, ha, by omega, by omega, fun H1 L1 qs1 hL1 s1 h1 hx1 => ?_⟩
          refine ⟨_, rfl, p, _, _, _, rfl, rfl, tup_same s1 ht, at3, r, c, rfl, ex_same s1 c r hc, by omega, by omega, fun H2 L2 qs2 hL2 s2 h2 hx2 => ?_⟩
          have l1 := paired_len hx1
          have l2 := paired_len hx2
          refine ⟨L1, L2, _, _, rfl, rfl, s2 _ _ h1, h2, by rw [List.length_map, List.length_map]; exact lt_sz (by omega), fun q2 hq2 => ?_⟩
          have sA : Same H _ := fun b o z => same_new (o := .lst (qs1.map V.ref ++ qs2.map V.ref)) hq2 b o (s2 b o (s1 b o z))
          refine kk _ q2 (qs1 ++ qs2) (Same.free s1 (Same.free s2 hq2)) sA (by rw [upd_same, List.map_append]) ?_
          rw [Cd.parts, if_pos hand]
          exact paired_app (exs_same (fun b o z => same_new hq2 b o (s2 b o z)) hx1) (exs_same (same_new hq2) hx2)
        · have hd : decide (m = ("and" : Str)) = false := decide_eq_false hand
          rw [hd]
          exact iteF (one (by rw [Cd.parts, if_neg hand]))
theorem ok_conjunction {f : Addr} {fd : FuncData} (F : Fun K "conjunction" "conjunction" s_conjunction f fd) (T : Txt K mg pT pW) (hm : mg "conjunction" = some (.ref f)) (kp : PySem.W.keepIn K (.ref f) = true) (b : Binds K fd ["conditions"] []) :
    ∀ n : Nat, FnOk P w K mg base CX0 (n + 1) f fd ["conditions"] (spConj K n)
  | 0 => by
    refine ⟨fun vs H Q E h => ?_, fun A outer s H args us vs Q E hr he hb hv h => ?_⟩
    · obtain ⟨_, _, _, rfl, _⟩ := h
      rfl
    · obtain ⟨_, _, _, _, _, _, h, _⟩ := h
      omega
  | n + 1 => by
    have C_conjunction : Cal P w K mg base CX0 (n + 1) "conjunction" (spConj K n) := ⟨_, _, _, ok_conjunction F T hm kp b n, hm, kp, b⟩
    refine F.ok sc_conjunction (fun vs H Q E h => ?_) (fun cdv A outer s H vs Q E hr h => ?_)
    · obtain ⟨_, _, _, rfl, _⟩ := h
      rfl
    · obtain ⟨L, qs, es, rfl, hL, hx, hlen, hn, kk⟩ := h
      have hql := paired_len hx
      refine ⟨_, (pss_cons (ps_if (pt_cmpR op_eq (pe_callB call_len_seq (by rfl) T.n_len PySem.boot_len (pa_cons (pv 0) pa_nil)) pe_int (nomark _)) (pss_one (ps_ret (pe_glob (v := .ref pT) (by rfl) T.g_TRUE rfl))) pss_nil)
  (pss_cons (ps_if (pt_cmpR op_eq (pe_callB call_len_seq (by rfl) T.n_len PySem.boot_len (pa_cons (pv 0) pa_nil)) pe_int (nomark _)) (pss_one (ps_ret (pe_ix ix_list (pv 0) pe_int (fun _ _ => rfl)))) pss_nil)
  (pss_cons (ps_set (i := 1) sc_conjunction.nd rfl (Or.inl rfl) (pe_op op_fdiv (pe_callB call_len_seq (by rfl) T.n_len PySem.boot_len (pa_cons (pv 0) pa_nil)) pe_int))
  (pss_one (ps_ret (pe_tup (pa_cons pe_str (pa_cons pe_str (pa_cons (pe_k C_conjunction hr (by omega) (by rfl) pass0 (pa_cons (pe_slice sl_list (pv 0) po_none (po_some (pv 1))) pa_nil)) (pa_cons (pe_k C_conjunction hr (by omega) (by rfl) pass0 (pa_cons (pe_slice sl_list (pv 0) (po_some (pv 1)) po_none) pa_nil)) pa_nil)))))))))), ?_⟩
      refine ⟨_, rfl, L, _, rfl, .inl hL, rfl, _, rfl, ?_⟩
      rw [List.length_map]
      refine ite2 (fun h0 => ?_) (fun h0 => ?_)
      · have he : es = [] := by
          have := of_decide_eq_true h0
          injection this with this
          exact List.length_eq_zero_iff.mp (by omega)
        refine kk H pT (Same.refl H) ?_
        subst he
        exact T.t_TRUE H
      · have he : es.length ≠ 0 := fun q => h0 (decide_eq_true (by rw [hql, q]; rfl))
        refine ⟨_, rfl, L, _, rfl, .inl hL, rfl, _, rfl, ?_⟩
        rw [List.length_map]
        refine ite2 (fun h1 => ?_) (fun h1 => ?_)
        · have hq1 : qs.length = 1 := by
            have := of_decide_eq_true h1
            injection this with this
            omega
          cases hx with
          | nil => simp at hq1
          | @cons q1 _ e1 _ r1 t1 =>
            cases t1 with
            | cons => simp at hq1
            | nil => exact ⟨_, rfl, L, _, _, _, rfl, rfl, hL, at0, kk H q1 (Same.refl H) r1⟩
        · have he1 : es.length ≠ 1 := fun q => h1 (decide_eq_true (by rw [hql, q]; rfl))
          have hhalf : ((qs.length : Nat) : Int) / 2 = ((es.length / 2 : Nat) : Int) := by rw [hql]; omega
          refine ⟨_, rfl, L, _, rfl, .inl hL, _, _, rfl, rfl, ⟨by decide, by decide⟩, ?_⟩
          rw [List.length_map]
          dsimp only
          rw [hhalf]
          refine ⟨_, rfl, _, rfl, _, rfl, L, _, rfl, hL, fun L1 hL1 => ?_⟩
          rw [cut_to]
          have s1 := same_new (o := .lst ((qs.map V.ref).take (es.length / 2))) hL1
          refine ⟨L1, qs.take (es.length / 2), es.take (es.length / 2), rfl, seqL (by rw [upd_same, List.map_take]), paired_take _ (exs_same s1 hx), by rw [List.length_take]; omega, by omega, fun H2 q1 s2 hq1 => ?_⟩
          have s02 : Same H H2 := fun b o z => s2 b o (s1 b o z)
          refine ⟨_, rfl, _, rfl, _, rfl, L, _, rfl, s02.seq hL, fun L3 hL3 => ?_⟩
          rw [cut_from]
          have s3 := same_new (o := .lst ((qs.map V.ref).drop (es.length / 2))) hL3
          have s03 : Same H _ := fun b o z => s3 b o (s02 b o z)
          refine ⟨L3, qs.drop (es.length / 2), es.drop (es.length / 2), rfl, seqL (by rw [upd_same, List.map_drop]), paired_drop _ (exs_same s03 hx), by rw [List.length_drop]; omega, by omega, fun H4 q2 s4 hq2 => ?_⟩
          refine ⟨lt_sz (show 4 ≤ 200000 by decide), fun q3 hq3 => ?_⟩
          have s5 := same_new (o := .tup [.str "binary", .str "and", .ref q1, .ref q2]) hq3
          have sA : Same H2 _ := fun b o z => s5 b o (s4 b o (s3 b o z))
          refine kk _ q3 (fun b o z => sA b o (s02 b o z)) ?_
          have hcj : Cd.conj (n + 1) es = .bin "and" (Cd.conj n (es.take (es.length / 2))) (Cd.conj n (es.drop (es.length / 2))) := by
            match es, he, he1 with
            | [], h, _ => exact absurd rfl h
            | [_], _, h => exact absurd rfl h
            | _ :: _ :: _, _, _ => rfl
          rw [hcj]
          exact ⟨q1, q2, seqT upd_same, ex_same sA _ q1 hq1, ex_same s5 _ q2 hq2⟩
end
end Sb
set_option Elab.async false
set_option maxRecDepth 100000
set_option maxHeartbeats 4000000
namespace Sb
open PySem PySem.Spec PyProof.Rows L2 SX
abbrev s_halvings : Stmt := top 12
abbrev sc_halvings_N : List Str := ["number", "found"]
theorem sc_halvings : FnScope sc_halvings_N ["number"] (defScope s_halvings) := ⟨rfl, rfl, rfl, by decide +kernel, rfl, by decide +kernel, by decide +kernel⟩
abbrev s_sort_cost : Stmt := top 13
abbrev sc_sort_cost_N : List Str := ["number"]
theorem sc_sort_cost : FnScope sc_sort_cost_N ["number"] (defScope s_sort_cost) := ⟨rfl, rfl, rfl, by decide +kernel, rfl, by decide +kernel, by decide +kernel⟩
abbrev s_join_cost : Stmt := top 14
abbrev sc_join_cost_N : List Str := ["way", "x", "y"]
theorem sc_join_cost : FnScope sc_join_cost_N ["way", "x", "y"] (defScope s_join_cost) := ⟨rfl, rfl, rfl, by decide +kernel, rfl, by decide +kernel, by decide +kernel⟩
abbrev s_group_cost : Stmt := top 15
abbrev sc_group_cost_N : List Str := ["way", "many"]
theorem sc_group_cost : FnScope sc_group_cost_N ["way", "many"] (defScope s_group_cost) := ⟨rfl, rfl, rfl, by decide +kernel, rfl, by decide +kernel, by decide +kernel⟩
abbrev s_side_of : Stmt := top 16
abbrev sc_side_of_N : List Str := ["expression", "m", "used"]
theorem sc_side_of : FnScope sc_side_of_N ["expression", "m"] (defScope s_side_of) := ⟨rfl, rfl, rfl, by decide +kernel, rfl, by decide +kernel, by decide +kernel⟩
abbrev s_key_of : Stmt := top 17
abbrev sc_key_of_N : List Str := ["part", "m", "sides"]
theorem sc_key_of : FnScope sc_key_of_N ["part", "m"] (defScope s_key_of) := ⟨rfl, rfl, rfl, by decide +kernel, rfl, by decide +kernel, by decide +kernel⟩
abbrev s_keys_of : Stmt := top 18
abbrev sc_keys_of_N : List Str := ["condition", "m", "keys", "rest", "part", "key"]
theorem sc_keys_of : FnScope sc_keys_of_N ["condition", "m"] (defScope s_keys_of) := ⟨rfl, rfl, rfl, by decide +kernel, rfl, by decide +kernel, by decide +kernel⟩
def spHalv : Sp := fun vs H Q _ => ∃ n : Nat, vs = [.int (n : Int)] ∧ n ≤ 2 ^ 60 ∧ Q (.int ((Cd.halv n : Nat) : Int)) H
def spSortC : Sp := fun vs H Q _ => ∃ n : Nat, vs = [.int (n : Int)] ∧ n ≤ 2 ^ 60 ∧ Q (.int (Cd.sortC n)) H
def joinC (way : Str) (x y : Nat) : Int := if way = ("loop" : Str) then (x : Int) + (x : Int) * (y : Int) else if way = ("hash right" : Str) then (x : Int) + 2 * (y : Int) else if way = ("hash left" : Str) then 2 * (x : Int) + (y : Int) else Cd.sortC x + Cd.sortC y + (x : Int) + (y : Int)
def spJoinC : Sp := fun vs H Q _ => ∃ (way : Str) (x y : Nat), vs = [.str way, .int (x : Int), .int (y : Int)] ∧ x ≤ 2 ^ 60 ∧ y ≤ 2 ^ 60 ∧ Q (.int (joinC way x y)) H
def groupC (way : Str) (x : Nat) : Int := if way = ("hash" : Str) then 2 * (x : Int) else Cd.sortC x + (x : Int)
def spGroupC : Sp := fun vs H Q _ => ∃ (way : Str) (x : Nat), vs = [.str way, .int (x : Int)] ∧ x ≤ 2 ^ 60 ∧ Q (.int (groupC way x)) H
def sideV : Nat → V
  | 0 => .non
  | 1 => .str "left"
  | _ => .str "right"
def sideD : Nat → PyData
  | 0 => .none
  | 1 => .str "left"
  | _ => .str "right"
theorem side_dp (K : PySem.W.Frag) (H : Hp) : ∀ n, Dp K H (sideV n) (sideD n)
  | 0 => .non
  | 1 => .str _
  | _ + 2 => .str _
theorem side_le (e : Cd.Ex) (m : Int) : Cd.side e m = 0 ∨ Cd.side e m = 1 ∨ Cd.side e m = 2 := by
  unfold Cd.side
  split
  · exact .inl rfl
  · split
    · exact .inr (.inl rfl)
    · split
      · exact .inr (.inr rfl)
      · exact .inl rfl
def spSide (K : PySem.W.Frag) (n : Nat) : Sp := fun vs H Q _ => ∃ (p : Addr) (e : Cd.Ex) (m : Int), vs = [.ref p, .int m] ∧ ExAt K H e p ∧ e.ht < n ∧ (Cd.cols e).length ≤ 50 ∧ ∀ H' : Hp, Same H H' → Q (sideV (Cd.side e m)) H'
def spKey (K : PySem.W.Frag) (n : Nat) : Sp := fun vs H Q _ => ∃ (p : Addr) (e : Cd.Ex) (m : Int), vs = [.ref p, .int m] ∧ ExAt K H e p ∧ e.ht < n ∧ (Cd.cols e).length ≤ 50 ∧
  (Cd.keyOf m e = none → ∀ H' : Hp, Same H H' → Q .non H') ∧
  ∀ a c, Cd.keyOf m e = some (a, c) → ∀ (H' : Hp) (q pa pc : Addr), Same H H' → H' q = some (.tup [.ref pa, .ref pc]) → ExAt K H' a pa → ExAt K H' c pc → Q (.ref q) H'
def KeyAt (K : PySem.W.Frag) (H : Hp) (q : Addr) (k : Cd.Ex × Cd.Ex) : Prop := ∃ pa pc, H q = some (.tup [.ref pa, .ref pc]) ∧ ExAt K H k.1 pa ∧ ExAt K H k.2 pc
theorem key_same {K : PySem.W.Frag} {H H' : Hp} (s : Same H H') (q : Addr) (k : Cd.Ex × Cd.Ex) (h : KeyAt K H q k) : KeyAt K H' q k := by
  obtain ⟨pa, pc, h1, h2, h3⟩ := h
  exact ⟨pa, pc, s _ _ h1, ex_same s _ _ h2, ex_same s _ _ h3⟩
theorem keyL {K : PySem.W.Frag} {L : Addr} {H H' : Hp} {ys : List V} (hL : H L = some (.lst ys)) (s : KpL L H H') (q : Addr) (k : Cd.Ex × Cd.Ex) (h : KeyAt K H q k) : KeyAt K H' q k := by
  obtain ⟨pa, pc, h1, h2, h3⟩ := h
  exact ⟨pa, pc, s _ _ (ne_of h1 hL (by intro q; cases q)) h1, exL hL s _ _ h2, exL hL s _ _ h3⟩
def KeysAt (K : PySem.W.Frag) (H : Hp) (t : Addr) (ks : List (Cd.Ex × Cd.Ex)) (r : Cd.Ex) : Prop := ∃ (LK pr : Addr) (qs : List Addr), H t = some (.tup [.ref LK, .ref pr]) ∧ H LK = some (.lst (qs.map V.ref)) ∧ Paired (KeyAt K H) qs ks ∧ ExAt K H r pr
def spKeys (K : PySem.W.Frag) (n : Nat) : Sp := fun vs H Q _ => ∃ (p : Addr) (e : Cd.Ex) (m : Int), vs = [.ref p, .int m] ∧ ExAt K H e p ∧ e.ht < n ∧ (Cd.cols e).length ≤ 50 ∧ (Cd.parts e).length < n ∧ n ≤ 100 ∧
  ∀ (H' : Hp) (t : Addr), Same H H' → KeysAt K H' t (Cd.split m (Cd.parts e)).1 (Cd.conj n (Cd.split m (Cd.parts e)).2) → Q (.ref t) H'
theorem cols_part : ∀ (e p : Cd.Ex), p ∈ Cd.parts e → (Cd.cols p).length ≤ (Cd.cols e).length
  | .col _, p, h => by simp [Cd.parts] at h; subst h; exact Nat.le_refl _
  | .con _, p, h => by simp [Cd.parts] at h; subst h; exact Nat.le_refl _
  | .un _ a, p, h => by simp [Cd.parts] at h; subst h; exact Nat.le_refl _
  | .bin n a b, p, h => by
    rw [Cd.parts] at h
    split at h
    · rcases List.mem_append.mp h with h | h
      · have := cols_part a p h; simp [Cd.cols]; omega
      · have := cols_part b p h; simp [Cd.cols]; omega
    · simp at h; subst h; exact Nat.le_refl _
/-- the side, by the sorted columns -/
theorem side_of_sorted {e : Cd.Ex} {m : Int} {us : List Int} (hp : us.Pairwise (· < ·)) (hm : ∀ k, k ∈ us ↔ k ∈ Cd.cols e) : (us = [] → Cd.side e m = 0) ∧
    ∀ a l, us.head? = some a → us.getLast? = some l → Cd.side e m = if l < m then 1 else if m ≤ a then 2 else 0 := by
  constructor
  · intro h
    have : Cd.cols e = [] := List.eq_nil_iff_forall_not_mem.mpr fun k hk => by rw [← hm k, h] at hk; cases hk
    unfold Cd.side
    rw [if_pos this]
  · intro a l ha hl
    have hne : ¬ Cd.cols e = [] := fun q => by
      have : a ∈ us := List.mem_of_head? ha
      rw [hm a, q] at this
      cases this
    have hl1 : l ∈ us := List.mem_of_getLast? hl
    have ha1 : a ∈ us := List.mem_of_head? ha
    have hmax : ∀ k ∈ us, k ≤ l := fun k hk => by
      obtain ⟨ys, rfl⟩ := List.getLast?_eq_some_iff.mp hl
      rcases List.mem_append.mp hk with h | h
      · have := (List.pairwise_append.mp hp).2.2 k h l (by simp)
        omega
      · have : k = l := by simpa using h
        omega
    have hmin : ∀ k ∈ us, a ≤ k := fun k hk => by
      cases us with
      | nil => cases hk
      | cons u r =>
        have e0 : u = a := by simpa using ha
        subst e0
        rcases List.mem_cons.mp hk with h | h
        · omega
        · have := (List.pairwise_cons.mp hp).1 k h
          omega
    unfold Cd.side
    rw [if_neg hne]
    have e1 : (∀ c ∈ Cd.cols e, c < m) ↔ l < m := ⟨fun h => h l ((hm l).mp hl1), fun h c hc => by have := hmax c ((hm c).mpr hc); omega⟩
    have e2 : (∀ c ∈ Cd.cols e, m ≤ c) ↔ m ≤ a := ⟨fun h => h a ((hm a).mp ha1), fun h c hc => by have := hmin c ((hm c).mpr hc); omega⟩
    by_cases h1 : l < m
    · rw [if_pos (e1.mpr h1), if_pos h1]
    · rw [if_neg (fun q => h1 (e1.mp q)), if_neg h1]
      by_cases h2 : m ≤ a
      · rw [if_pos (e2.mpr h2), if_pos h2]
      · rw [if_neg (fun q => h2 (e2.mp q)), if_neg h2]
theorem at_end {us : List Int} {l : Int} (h : us.getLast? = some l) : atI (us.map V.int) (-1) = some (V.int l) := by
  obtain ⟨ys, rfl⟩ := List.getLast?_eq_some_iff.mp h
  rw [List.map_append]
  exact atI_last _ _
theorem at_head {us : List Int} {a : Int} (h : us.head? = some a) : atI (us.map V.int) 0 = some (V.int a) := by
  cases us with
  | nil => cases h
  | cons u r =>
    have e0 : u = a := by simpa using h
    subst e0
    exact at0
/-! ### pairs of sides -/
def pairD (a b : Nat) : PyData := .tuple [sideD a, sideD b]
theorem side_shaped (a b : Nat) (ha : a = 0 ∨ a = 1 ∨ a = 2) (hb : b = 0 ∨ b = 1 ∨ b = 2) : SeqAt.shaped (pairD a b) = true := by
  rcases ha with rfl | rfl | rfl <;> rcases hb with rfl | rfl | rfl <;> decide +kernel
theorem pair_eqv (a b c d : Nat) (ha : a = 0 ∨ a = 1 ∨ a = 2) (hb : b = 0 ∨ b = 1 ∨ b = 2) (h : (c = 1 ∧ d = 2) ∨ (c = 2 ∧ d = 1)) : PyData.eqv (pairD a b) (pairD c d) = decide (a = c ∧ b = d) := by
  rcases h with ⟨rfl, rfl⟩ | ⟨rfl, rfl⟩ <;> rcases ha with rfl | rfl | rfl <;> rcases hb with rfl | rfl | rfl <;> decide +kernel
theorem pair_dp {K : PySem.W.Frag} {H : Hp} {t : Addr} {a b : Nat} (h : H t = some (.tup [sideV a, sideV b])) : Dp K H (.ref t) (pairD a b) := .tup (seqT h) (.cons (side_dp K H a) (.cons (side_dp K H b) .nil))

section
variable {P : Program} {w : World} {K : PySem.W.Frag} {mg : Str → Option Value} {base : Heap} {pT pW : Addr}
theorem ok_halvings {f : Addr} {fd : FuncData} (F : Fun K "halvings" "halvings" s_halvings f fd) : FnOk P w K mg base CX0 1 f fd ["number"] spHalv := by
  refine F.ok sc_halvings (fun vs H Q E h => ?_) (fun cdv A outer s H vs Q E hr h => ?_)
  · obtain ⟨_, rfl, _⟩ := h
    rfl
  · obtain ⟨n, rfl, hn, kk⟩ := h
    refine ⟨_, (pss_cons (ps_set (i := 1) sc_halvings.nd rfl (Or.inl rfl) pe_int)
  (pss_cons (ps_while PassesOwn.never (pt_cmpR op_gt (pv 0) pe_int (nomark _)) (pss_cons (ps_set (i := 0) sc_halvings.nd rfl (Or.inl rfl) (pe_op op_fdiv (pe_op op_add (pv 0) pe_int) pe_int))
  (pss_one (ps_set (i := 1) sc_halvings.nd rfl (Or.inl rfl) (pe_op op_add (pv 1) pe_int)))))
  (pss_one (ps_ret (pv 1))))), ?_⟩
    refine ⟨fun m σ H' => ∃ k j : Nat, σ = [some (.int (k : Int)), some (.int (j : Int))] ∧ H' = H ∧ k ≤ 2 ^ m ∧ Cd.halv n = j + Cd.halvF m k, ⟨60, n, 0, rfl, rfl, hn, by simp⟩, ?_⟩
    rintro m σ H' ⟨k, j, rfl, rfl, hk, hj⟩
    refine ⟨_, rfl, _, _, rfl, rfl, _, rfl, ?_⟩
    refine ite2 (fun h => ?_) (fun h => ?_)
    · have hk1 : 1 < k := by have := of_decide_eq_true h; omega
      cases m with
      | zero => simp at hk; omega
      | succ m =>
        have hp : 2 ^ (m + 1) = 2 * 2 ^ m := by rw [Nat.pow_succ, Nat.mul_comm]
        refine ⟨fun σ' H'' => ∃ m', m' < m + 1 ∧ ∃ k j : Nat, σ' = [some (.int (k : Int)), some (.int (j : Int))] ∧ H'' = H' ∧ k ≤ 2 ^ m' ∧ Cd.halv n = j + Cd.halvF m' k, fun _ _ h => h, ?_⟩
        refine ⟨_, rfl, _, _, rfl, rfl, _, _, rfl, rfl, ⟨by decide, by decide⟩, ?_⟩
        refine ⟨_, rfl, _, _, rfl, rfl, ?_⟩
        refine ⟨m, by omega, (k + 1) / 2, j + 1, ?_, rfl, by omega, ?_⟩
        · have e1 : ((k : Int) + 1) / 2 = (((k + 1) / 2 : Nat) : Int) := by omega
          show [some (V.int (((k : Int) + 1) / 2)), some (V.int ((j : Int) + 1))] = _
          rw [e1]
          rfl
        · rw [hj, Cd.halvF, if_pos hk1]; omega
    · have hk1 : ¬ 1 < k := fun q => h (decide_eq_true (by omega))
      have e0 : Cd.halvF m k = 0 := by
        cases m with
        | zero => rfl
        | succ m => rw [Cd.halvF, if_neg hk1]
      rw [hj, e0] at kk
      exact ⟨_, rfl, kk⟩
theorem small64 {n : Nat} (h : n ≤ 2 ^ 60) : CMul (n : Int) z := .inl ⟨by omega, by omega⟩
theorem ok_sort_cost {f : Addr} {fd : FuncData} (F : Fun K "sort_cost" "sort_cost" s_sort_cost f fd) (T : Txt K mg pT pW) (C_halvings : Cal P w K mg base CX0 1 "halvings" spHalv) : FnOk P w K mg base CX0 2 f fd ["number"] spSortC := by
  refine F.ok sc_sort_cost (fun vs H Q E h => ?_) (fun cdv A outer s H vs Q E hr h => ?_)
  · obtain ⟨_, rfl, _⟩ := h
    rfl
  · obtain ⟨n, rfl, hn, kk⟩ := h
    refine ⟨_, (pss_one (ps_ret (pe_op op_mul (pv 0) (pe_callB (call_min2 rfl) (by rfl) T.n_min (by decide +kernel) (pa_cons pe_int (pa_cons (pe_k C_halvings hr (by omega) (by rfl) pass0 (pa_cons (pv 0) pa_nil)) pa_nil)))))), ?_⟩
    refine ⟨_, rfl, _, rfl, n, rfl, hn, _, _, rfl, _, _, rfl, rfl, small64 hn, kk⟩
theorem ok_join_cost {f : Addr} {fd : FuncData} (F : Fun K "join_cost" "join_cost" s_join_cost f fd) (C_sort_cost : Cal P w K mg base CX0 2 "sort_cost" spSortC) : FnOk P w K mg base CX0 3 f fd ["way", "x", "y"] spJoinC := by
  refine F.ok sc_join_cost (fun vs H Q E h => ?_) (fun cdv A outer s H vs Q E hr h => ?_)
  · obtain ⟨_, _, _, rfl, _⟩ := h
    rfl
  · obtain ⟨way, x, y, rfl, hx, hy, kk⟩ := h
    refine ⟨_, (pss_cons (ps_if (pt_cmpR op_eq (pv 0) pe_str (nomark _)) (pss_one (ps_ret (pe_op op_add (pv 1) (pe_op op_mul (pv 1) (pv 2))))) pss_nil)
  (pss_cons (ps_if (pt_cmpR op_eq (pv 0) pe_str (nomark _)) (pss_one (ps_ret (pe_op op_add (pv 1) (pe_op op_mul pe_int (pv 2))))) pss_nil)
  (pss_cons (ps_if (pt_cmpR op_eq (pv 0) pe_str (nomark _)) (pss_one (ps_ret (pe_op op_add (pe_op op_mul pe_int (pv 1)) (pv 2)))) pss_nil)
  (pss_one (ps_ret (pe_op op_add (pe_op op_add (pe_op op_add (pe_k C_sort_cost hr (by omega) (by rfl) pass0 (pa_cons (pv 1) pa_nil)) (pe_k C_sort_cost hr (by omega) (by rfl) pass0 (pa_cons (pv 2) pa_nil))) (pv 1)) (pv 2))))))), ?_⟩
    unfold joinC at kk
    refine ⟨_, rfl, rfl, _, rfl, ?_⟩
    rw [strD]
    refine ite2 (fun h => ?_) (fun h => ?_)
    · rw [if_pos (of_decide_eq_true h)] at kk
      exact ⟨_, rfl, _, rfl, _, rfl, _, _, rfl, rfl, small64 hx, _, _, rfl, rfl, kk⟩
    · rw [if_neg (fun q => h (decide_eq_true q))] at kk
      refine ⟨_, rfl, rfl, _, rfl, ?_⟩
      rw [strD]
      refine ite2 (fun h => ?_) (fun h => ?_)
      · rw [if_pos (of_decide_eq_true h)] at kk
        exact ⟨_, rfl, _, rfl, _, _, rfl, rfl, small64 (n := 2) (by decide), _, _, rfl, rfl, kk⟩
      · rw [if_neg (fun q => h (decide_eq_true q))] at kk
        refine ⟨_, rfl, rfl, _, rfl, ?_⟩
        rw [strD]
        refine ite2 (fun h => ?_) (fun h => ?_)
        · rw [if_pos (of_decide_eq_true h)] at kk
          exact ⟨_, rfl, _, _, rfl, rfl, small64 (n := 2) (by decide), _, rfl, _, _, rfl, rfl, kk⟩
        · rw [if_neg (fun q => h (decide_eq_true q))] at kk
          exact ⟨_, rfl, x, rfl, hx, _, rfl, y, rfl, hy, _, _, rfl, rfl, _, rfl, _, _, rfl, rfl, _, rfl, _, _, rfl, rfl, kk⟩
theorem ok_group_cost {f : Addr} {fd : FuncData} (F : Fun K "group_cost" "group_cost" s_group_cost f fd) (C_sort_cost : Cal P w K mg base CX0 2 "sort_cost" spSortC) : FnOk P w K mg base CX0 3 f fd ["way", "many"] spGroupC := by
  refine F.ok sc_group_cost (fun vs H Q E h => ?_) (fun cdv A outer s H vs Q E hr h => ?_)
  · obtain ⟨_, _, rfl, _⟩ := h
    rfl
  · obtain ⟨way, x, rfl, hx, kk⟩ := h
    refine ⟨_, (pss_one (ps_ret (pe_ifExp (pt_cmpR op_eq (pv 0) pe_str (nomark _)) (pe_op op_mul pe_int (pv 1)) (pe_op op_add (pe_k C_sort_cost hr (by omega) (by rfl) pass0 (pa_cons (pv 1) pa_nil)) (pv 1))))), ?_⟩
    unfold groupC at kk
    refine ⟨_, rfl, rfl, _, rfl, ?_⟩
    rw [strD]
    refine ite2 (fun h => ?_) (fun h => ?_)
    · rw [if_pos (of_decide_eq_true h)] at kk
      exact ⟨_, rfl, _, _, rfl, rfl, small64 (n := 2) (by decide), kk⟩
    · rw [if_neg (fun q => h (decide_eq_true q))] at kk
      exact ⟨_, rfl, x, rfl, hx, _, rfl, _, _, rfl, rfl, kk⟩
theorem ok_side_of {n : Nat} {f : Addr} {fd : FuncData} (F : Fun K "side_of" "side_of" s_side_of f fd) (T : Txt K mg pT pW) (C_columns_of : Cal P w K mg base CX0 (n + 2) "columns_of" (spCols K n)) : FnOk P w K mg base CX0 (n + 3) f fd ["expression", "m"] (spSide K n) := by
  refine F.ok sc_side_of (fun vs H Q E h => ?_) (fun cdv A outer s H vs Q E hr h => ?_)
  · obtain ⟨_, _, _, rfl, _⟩ := h
    rfl
  · obtain ⟨p, e, m, rfl, he, hht, hlen, kk⟩ := h
    refine ⟨_, (pss_cons (ps_set (i := 2) sc_side_of.nd rfl (Or.inl rfl) (pe_k C_columns_of hr (by omega) (by rfl) pass0 (pa_cons (pv 0) pa_nil)))
  (pss_cons (ps_if (pt_cmpR op_eq (pe_callB call_len_seq (by rfl) T.n_len PySem.boot_len (pa_cons (pv 2) pa_nil)) pe_int (nomark _)) (pss_one (ps_ret pe_non)) pss_nil)
  (pss_cons (ps_if (pt_cmpR op_lt (pe_ix ix_list (pv 2) (pe_un un_neg pe_int) (fun _ _ => rfl)) (pv 1) (nomark _)) (pss_one (ps_ret pe_str)) pss_nil)
  (pss_one (ps_ret (pe_ifExp (pt_cmpR op_ge (pe_ix ix_list (pv 2) pe_int (fun _ _ => rfl)) (pv 1) (nomark _)) pe_str pe_non)))))), ?_⟩
    refine ⟨_, rfl, p, e, rfl, he, hht, hlen, fun H1 L us hpw hmem hL s1 hL1 => ?_⟩
    obtain ⟨z0, zs⟩ := side_of_sorted (m := m) hpw hmem
    refine ⟨_, rfl, L, _, rfl, .inl (seqL hL1), rfl, _, rfl, ?_⟩
    rw [List.length_map]
    refine ite2 (fun h => ?_) (fun h => ?_)
    · have hu : us = [] := by
        have := of_decide_eq_true h
        injection this with this
        exact List.length_eq_zero_iff.mp (by omega)
      have := kk H1 s1
      rw [z0 hu] at this
      exact this
    · have hu : us ≠ [] := fun q => h (decide_eq_true (by rw [q]; rfl))
      obtain ⟨a, ha⟩ : ∃ a, us.head? = some a := by
        cases us with
        | nil => exact absurd rfl hu
        | cons u r => exact ⟨u, rfl⟩
      obtain ⟨l, hl⟩ : ∃ l, us.getLast? = some l := ⟨us.getLast hu, List.getLast?_eq_some_getLast hu⟩
      have hz := zs a l ha hl
      have kk1 := kk H1 s1
      rw [hz] at kk1
      refine ⟨_, rfl, _, rfl, L, _, _, _, rfl, rfl, seqL hL1, at_end hl, _, rfl, _, _, rfl, rfl, _, rfl, ?_⟩
      refine ite2 (fun h1 => ?_) (fun h1 => ?_)
      · have h1' : l < m := of_decide_eq_true h1
        rw [if_pos h1'] at kk1
        exact kk1
      · have h1' : ¬ l < m := fun q => h1 (decide_eq_true q)
        rw [if_neg h1'] at kk1
        refine ⟨_, rfl, L, _, _, _, rfl, rfl, seqL hL1, at_head ha, _, rfl, _, _, rfl, rfl, _, rfl, ?_⟩
        refine ite2 (fun h2 => ?_) (fun h2 => ?_)
        · have h2' : m ≤ a := of_decide_eq_true h2
          rw [if_pos h2'] at kk1
          exact kk1
        · have h2' : ¬ m ≤ a := fun q => h2 (decide_eq_true q)
          rw [if_neg h2'] at kk1
          exact kk1
end
end Sb
set_option Elab.async false
set_option maxRecDepth 100000
set_option maxHeartbeats 4000000
namespace Sb
open PySem PySem.Spec PyProof.Rows L2 SX

theorem parts_fold {m : Int} {es : List Cd.Ex} {i : Nat} {p : Cd.Ex} (h : es[i]? = some p) : Cd.split m (es.take (i + 1)) = match Cd.keyOf m p with
    | some k => ((Cd.split m (es.take i)).1 ++ [k], (Cd.split m (es.take i)).2)
    | none => ((Cd.split m (es.take i)).1, (Cd.split m (es.take i)).2 ++ [p]) := by
  rw [take_next h, Cd.split_snoc]
  all_goals (cases Cd.keyOf m p <;> rfl)
theorem split_len (m : Int) (es : List Cd.Ex) : (Cd.split m es).1.length ≤ es.length ∧ (Cd.split m es).2.length ≤ es.length := ⟨List.length_filterMap_le .., List.length_filter_le ..⟩
section
variable {P : Program} {w : World} {K : PySem.W.Frag} {mg : Str → Option Value} {base : Heap} {pT pW : Addr}
theorem ok_key_of {n : Nat} {f : Addr} {fd : FuncData} (F : Fun K "key_of" "key_of" s_key_of f fd) (C_side_of : Cal P w K mg base CX0 (n + 3) "side_of" (spSide K n)) (C_moved : Cal P w K mg base CX0 (n + 1) "moved" (spMoved K n)) : FnOk P w K mg base CX0 (n + 4) f fd ["part", "m"] (spKey K n) := by
  refine F.ok sc_key_of (fun vs H Q E h => ?_) (fun cdv A outer s H vs Q E hr h => ?_)
  · obtain ⟨_, _, _, rfl, _⟩ := h
    rfl
  · obtain ⟨p, e, m, rfl, he, hht, hlen, kn, kk⟩ := h
    refine ⟨_, (pss_cons (ps_if (PW.pt (pw_or (pt_cmpR op_ne (pe_ix ix_tup (pv 0) pe_int (fun _ _ => rfl)) pe_str (nomark _)) (pw_or1 (pt_cmpR op_ne (pe_ix ix_tup (pv 0) pe_int (fun _ _ => rfl)) pe_str (nomark _))))) (pss_one (ps_ret pe_non)) pss_nil)
  (pss_cons (ps_set (i := 2) sc_key_of.nd rfl (Or.inl rfl) (pe_tup (pa_cons (pe_k C_side_of hr (by omega) (by rfl) pass0 (pa_cons (pe_ix ix_tup (pv 0) pe_int (fun _ _ => rfl)) (pa_cons (pv 1) pa_nil))) (pa_cons (pe_k C_side_of hr (by omega) (by rfl) pass0 (pa_cons (pe_ix ix_tup (pv 0) pe_int (fun _ _ => rfl)) (pa_cons (pv 1) pa_nil))) pa_nil))))
  (pss_cons (ps_if (pt_cmpR (op_eqD hr.units) (pv 2) (pe_tup (pa_cons pe_str (pa_cons pe_str pa_nil))) (nomark _)) (pss_one (ps_ret (pe_tup (pa_cons (pe_ix ix_tup (pv 0) pe_int (fun _ _ => rfl)) (pa_cons (pe_k C_moved hr (by omega) (by rfl) pass0 (pa_cons (pe_ix ix_tup (pv 0) pe_int (fun _ _ => rfl)) (pa_cons (pe_un un_neg (pv 1)) pa_nil))) pa_nil))))) pss_nil)
  (pss_cons (ps_if (pt_cmpR (op_eqD hr.units) (pv 2) (pe_tup (pa_cons pe_str (pa_cons pe_str pa_nil))) (nomark _)) (pss_one (ps_ret (pe_tup (pa_cons (pe_ix ix_tup (pv 0) pe_int (fun _ _ => rfl)) (pa_cons (pe_k C_moved hr (by omega) (by rfl) pass0 (pa_cons (pe_ix ix_tup (pv 0) pe_int (fun _ _ => rfl)) (pa_cons (pe_un un_neg (pv 1)) pa_nil))) pa_nil))))) pss_nil)
  (pss_one (ps_ret pe_non)))))), ?_⟩
    obtain ⟨qs0, ht, hk0⟩ := ex_tup he
    refine ⟨_, rfl, p, _, _, _, rfl, rfl, ht, at0, rfl, _, rfl, ?_⟩
    rw [form_bin]
    cases e with
    | col i => exact iteT (iteT (kn rfl H (Same.refl H)))
    | con v => exact iteT (iteT (kn rfl H (Same.refl H)))
    | un l a => exact iteT (iteT (kn rfl H (Same.refl H)))
    | bin l a c =>
      obtain ⟨q, r, ht, ha, hc⟩ := he
      simp only [Cd.Ex.ht] at hht
      simp only [Cd.cols, List.length_append] at hlen
      refine iteF ?_
      refine ⟨_, rfl, p, _, _, _, rfl, rfl, ht, at1, rfl, _, rfl, ?_⟩
      rw [strD]
      by_cases heq : l = ("equal" : Str)
      · have hd : decide (l = ("equal" : Str)) = true := decide_eq_true heq
        rw [hd]
        refine iteF ?_
        have hko : Cd.keyOf m (.bin l a c) = if Cd.side a m = 1 ∧ Cd.side c m = 2 then some (a, Cd.moved (-m) c) else if Cd.side a m = 2 ∧ Cd.side c m = 1 then some (c, Cd.moved (-m) a) else none := by
          rw [Cd.keyOf, if_pos heq]
        rw [hko] at kn kk
        have sa := side_le a m
        have sc := side_le c m
        refine ⟨_, rfl, p, _, _, _, rfl, rfl, ht, at2, _, rfl, q, a, m, rfl, ha, by omega, by omega, fun H1 s1 => ?_⟩
        refine ⟨_, rfl, p, _, _, _, rfl, rfl, tup_same s1 ht, at3, _, rfl, r, c, m, rfl, ex_same s1 c r hc, by omega, by omega, fun H2 s2 => ?_⟩
        refine ⟨lt_sz (show 2 ≤ 200000 by decide), fun t ht2 => ?_⟩
        have s3 := same_new (o := .tup [sideV (Cd.side a m), sideV (Cd.side c m)]) ht2
        have sA : Same H _ := fun b o z => s3 b o (s2 b o (s1 b o z))
        -- against (left, right)
        refine ⟨_, rfl, lt_sz (show 2 ≤ 200000 by decide), fun t1 ht3 => ?_⟩
        have s4 := same_new (o := .tup [.str "left", .str "right"]) ht3
        have sB : Same H _ := fun b o z => s4 b o (sA b o z)
        refine ⟨pairD (Cd.side a m) (Cd.side c m), pairD 1 2, pair_dp (s4 _ _ upd_same), pair_dp upd_same, side_shaped _ _ sa sc, side_shaped 1 2 (by decide) (by decide), _, rfl, ?_⟩
        rw [pair_eqv _ _ 1 2 sa sc (.inl ⟨rfl, rfl⟩)]
        refine ite2 (fun h1 => ?_) (fun h1 => ?_)
        · have h1' := of_decide_eq_true h1
          rw [if_pos h1'] at kk
          refine ⟨_, rfl, p, _, _, _, rfl, rfl, tup_same sB ht, at2, ?_⟩
          refine ⟨_, rfl, p, _, _, _, rfl, rfl, tup_same sB ht, at3, _, rfl, _, rfl, r, c, -m, rfl, ex_same sB c r hc, by omega, fun H5 q5 s5 hq5 => ?_⟩
          refine ⟨lt_sz (show 2 ≤ 200000 by decide), fun t6 ht6 => ?_⟩
          have s6 := same_new (o := .tup [.ref q, .ref q5]) ht6
          have sC : Same H _ := fun b o z => s6 b o (s5 b o (sB b o z))
          exact kk _ _ rfl _ t6 q q5 sC upd_same (ex_same sC a q ha) (ex_same s6 _ q5 hq5)
        · have h1' : ¬ (Cd.side a m = 1 ∧ Cd.side c m = 2) := fun z => h1 (decide_eq_true z)
          rw [if_neg h1'] at kk kn
          refine ⟨_, rfl, lt_sz (show 2 ≤ 200000 by decide), fun t4 ht4 => ?_⟩
          have s5 := same_new (o := .tup [.str "right", .str "left"]) ht4
          have sC : Same H _ := fun b o z => s5 b o (sB b o z)
          refine ⟨pairD (Cd.side a m) (Cd.side c m), pairD 2 1, pair_dp (s5 _ _ (s4 _ _ upd_same)), pair_dp upd_same, side_shaped _ _ sa sc, side_shaped 2 1 (by decide) (by decide), _, rfl, ?_⟩
          rw [pair_eqv _ _ 2 1 sa sc (.inr ⟨rfl, rfl⟩)]
          refine ite2 (fun h2 => ?_) (fun h2 => ?_)
          · have h2' := of_decide_eq_true h2
            rw [if_pos h2'] at kk
            refine ⟨_, rfl, p, _, _, _, rfl, rfl, tup_same sC ht, at3, ?_⟩
            refine ⟨_, rfl, p, _, _, _, rfl, rfl, tup_same sC ht, at2, _, rfl, _, rfl, q, a, -m, rfl, ex_same sC a q ha, by omega, fun H5 q5 s6 hq5 => ?_⟩
            refine ⟨lt_sz (show 2 ≤ 200000 by decide), fun t6 ht6 => ?_⟩
            have s7 := same_new (o := .tup [.ref r, .ref q5]) ht6
            have sD : Same H _ := fun b o z => s7 b o (s6 b o (sC b o z))
            exact kk _ _ rfl _ t6 r q5 sD upd_same (ex_same sD c r hc) (ex_same s7 _ q5 hq5)
          · have h2' : ¬ (Cd.side a m = 2 ∧ Cd.side c m = 1) := fun z => h2 (decide_eq_true z)
            rw [if_neg h2'] at kn
            exact kn rfl _ sC
      · have hd : decide (l = ("equal" : Str)) = false := decide_eq_false heq
        rw [hd]
        exact iteT (kn (by rw [Cd.keyOf, if_neg heq]) H (Same.refl H))
theorem ok_keys_of {n : Nat} {f : Addr} {fd : FuncData} (F : Fun K "keys_of" "keys_of" s_keys_of f fd) (T : Txt K mg pT pW) (C_condition_parts : Cal P w K mg base CX0 (n + 1) "condition_parts" (spCParts K n)) (C_key_of : Cal P w K mg base CX0 (n + 4) "key_of" (spKey K n)) (C_conjunction : Cal P w K mg base CX0 (n + 1) "conjunction" (spConj K n)) : FnOk P w K mg base CX0 (n + 5) f fd ["condition", "m"] (spKeys K n) := by
  refine F.ok sc_keys_of (fun vs H Q E h => ?_) (fun cdv A outer s H vs Q E hr h => ?_)
  · obtain ⟨_, _, _, rfl, _⟩ := h
    rfl
  · obtain ⟨p, e, m, rfl, he, hht, hlen, hpl, hn, kk⟩ := h
    refine ⟨_, (pss_cons (ps_set (i := 2) sc_keys_of.nd rfl (Or.inl rfl) (pe_lst pa_nil))
  (pss_cons (ps_set (i := 3) sc_keys_of.nd rfl (Or.inl rfl) (pe_lst pa_nil))
  (pss_cons (ps_for PassesOwn.never rfl (pi_list (pe_k C_condition_parts hr (by omega) (by rfl) pass0 (pa_cons (pv 0) pa_nil))) (pg_name (i := 4) sc_keys_of.nd rfl (Or.inl rfl)) (pss_cons (ps_set (i := 5) sc_keys_of.nd rfl (Or.inl rfl) (pe_k C_key_of hr (by omega) (by rfl) pass0 (pa_cons (pv 4) (pa_cons (pv 1) pa_nil))))
  (pss_one (ps_if (pt_cmpR op_isN (pv 5) pe_non (nomark _)) (pss_one (ps_expr (pe_bm PySem.F.plainAttrs_list PySem.F.slot_list_append PySem.F.type_list_append mt_append (pv 3) (pa_cons (pv 4) pa_nil)))) (pss_one (ps_expr (pe_bm PySem.F.plainAttrs_list PySem.F.slot_list_append PySem.F.type_list_append mt_append (pv 2) (pa_cons (pv 5) pa_nil))))))))
  (pss_one (ps_ret (pe_tup (pa_cons (pv 2) (pa_cons (pe_k C_conjunction hr (by omega) (by rfl) pass0 (pa_cons (pv 3) pa_nil)) pa_nil)))))))), ?_⟩
    refine ⟨Nat.zero_le _, fun LK hLK => ?_⟩
    have s1 := same_new (o := .lst []) hLK
    refine ⟨Nat.zero_le _, fun LR hLR => ?_⟩
    have s2 := same_new (o := .lst []) hLR
    have nKR : LK ≠ LR := (ne_of_none (show upd H LK (.lst []) LK = some _ from upd_same) hLR)
    have hLRH : H LR = none := Same.free s1 hLR
    have s12 : Same H _ := fun b o z => s2 b o (s1 b o z)
    refine ⟨_, rfl, p, e, rfl, ex_same s12 e p he, hht, by omega, fun H3 M qs hM s3 hM3 hx3 => ?_⟩
    have nMK : M ≠ LK := (ne_of_none (s2 _ _ (show upd H LK (.lst []) LK = some _ from upd_same)) hM).symm
    have nMR : M ≠ LR := (ne_of_none (show upd _ LR (.lst []) LR = some _ from upd_same) hM).symm
    have hK3 : H3 LK = some (.lst []) := s3 _ _ (s2 _ _ upd_same)
    have hR3 : H3 LR = some (.lst []) := s3 _ _ upd_same
    have s03 : Same H H3 := fun b o z => s3 b o (s12 b o z)
    have hqs := paired_len hx3
    refine ⟨M, rfl, ⟨_, seqL hM3⟩, for_list (xs := qs.map V.ref) (fun i σ H' => ∃ (x4 x5 : Option V) (ks : List Addr) (rs : List Addr), σ = [some (.ref p), some (.int m), some (.ref LK), some (.ref LR), x4, x5] ∧ Same H H' ∧ H' M = some (.lst (qs.map V.ref)) ∧ Exs K H' qs (Cd.parts e) ∧
        H' LK = some (.lst (ks.map V.ref)) ∧ H' LR = some (.lst (rs.map V.ref)) ∧ Paired (KeyAt K H') ks (Cd.split m ((Cd.parts e).take i)).1 ∧ Exs K H' rs (Cd.split m ((Cd.parts e).take i)).2)
      ⟨none, none, [], [], rfl, s03, hM3, hx3, hK3, hR3, .nil, .nil⟩ (fun i σ H' _ ⟨_, _, _, _, _, _, h, _⟩ => seqL h) ?_ ?_⟩
    · rintro i x σ H4 hx ⟨x4, x5, ks, rs, rfl, s4, hM4, hx4, hK4, hR4, pk, pr⟩
      obtain ⟨q, hq, rfl⟩ : ∃ q, qs[i]? = some q ∧ V.ref q = x := by
        rw [List.getElem?_map] at hx
        cases z : qs[i]? with
        | none => rw [z] at hx; cases hx
        | some q => rw [z] at hx; exact ⟨q, rfl, Option.some.inj hx⟩
      obtain ⟨pt, hpt, hpq⟩ := paired_get hx4 hq
      have hmem := List.mem_of_getElem? hpt
      have hfold := parts_fold (m := m) hpt
      have l1 := split_len m ((Cd.parts e).take i)
      have lk := paired_len pk
      have lr := paired_len pr
      have lt : ((Cd.parts e).take i).length ≤ (Cd.parts e).length := by rw [List.length_take]; omega
      refine ⟨_, rfl, _, rfl, q, pt, m, rfl, hpq, by have := Cd.parts_ht e pt hmem; omega, by have := cols_part e pt hmem; omega, fun hnone H5 s5 => ?_, fun a c hsome H5 t pa pc s5 h5 ha hc => ?_⟩
      · rw [hnone] at hfold
        refine ⟨_, rfl, rfl, _, rfl, iteT ?_⟩
        have hR5 := s5 _ _ hR4
        refine ⟨_, rfl, .inl ⟨rfl, _, seqL hR5⟩, _, rfl, LR, _, _, rfl, rfl, hR5, by rw [List.length_map]; exact lt_sz' (by omega), ?_⟩
        have kR : KpL LR H5 (upd H5 LR (.lst (rs.map V.ref ++ [.ref q]))) := fun b o hb z => by rw [upd_ne hb]; exact z
        refine ⟨_, _, ks, rs ++ [q], rfl, same_mut (fun b o z => s5 b o (s4 b o z)) hLRH, kR _ _ nMR (s5 _ _ hM4), exsL hR5 kR (exs_same s5 hx4), kR _ _ nKR (s5 _ _ hK4), by rw [upd_same, List.map_append]; rfl, ?_, ?_⟩
        · rw [hfold]
          exact paired_mono (fun a b h => keyL hR5 kR a b (key_same s5 a b h)) pk
        · rw [hfold]
          exact paired_app (exsL hR5 kR (exs_same s5 pr)) (.cons (exL hR5 kR _ q (ex_same s5 _ q hpq)) .nil)
      · rw [hsome] at hfold
        refine ⟨_, rfl, rfl, _, rfl, iteF ?_⟩
        have hK5 := s5 _ _ hK4
        refine ⟨_, rfl, .inl ⟨rfl, _, seqL hK5⟩, _, rfl, LK, _, _, rfl, rfl, hK5, by rw [List.length_map]; exact lt_sz' (by omega), ?_⟩
        have kR : KpL LK H5 (upd H5 LK (.lst (ks.map V.ref ++ [.ref t]))) := fun b o hb z => by rw [upd_ne hb]; exact z
        refine ⟨_, _, ks ++ [t], rs, rfl, same_mut (fun b o z => s5 b o (s4 b o z)) hLK, kR _ _ nMK (s5 _ _ hM4), exsL hK5 kR (exs_same s5 hx4), by rw [upd_same, List.map_append]; rfl, kR _ _ nKR.symm (s5 _ _ hR4), ?_, ?_⟩
        · rw [hfold]
          exact paired_app (paired_mono (fun a b h => keyL hK5 kR a b (key_same s5 a b h)) pk) (.cons (keyL hK5 kR t (a, c) ⟨pa, pc, h5, ha, hc⟩) .nil)
        · rw [hfold]
          exact exsL hK5 kR (exs_same s5 pr)
    · rintro σ H4 ⟨x4, x5, ks, rs, rfl, s4, hM4, hx4, hK4, hR4, pk, pr⟩
      rw [List.length_map, hqs, List.take_length] at pk pr
      have l1 := split_len m (Cd.parts e)
      refine ⟨_, rfl, _, rfl, LR, rs, _, rfl, seqL hR4, pr, by omega, by omega, fun H5 q5 s5 hq5 => ?_⟩
      refine ⟨lt_sz (show 2 ≤ 200000 by decide), fun t ht => ?_⟩
      have s6 := same_new (o := .tup [.ref LK, .ref q5]) ht
      have s46 : Same H4 _ := fun b o z => s6 b o (s5 b o z)
      refine kk _ t (fun b o z => s46 b o (s4 b o z)) ⟨LK, q5, ks, upd_same, s46 _ _ hK4, paired_mono (fun a b h => key_same s46 a b h) pk, ex_same s6 _ q5 hq5⟩
end
end Sb
set_option Elab.async false
set_option maxRecDepth 100000
set_option maxHeartbeats 4000000
namespace Sb
open PySem PySem.Spec PyProof.Rows L2 SX
abbrev s__law_text : Stmt := top 24
abbrev sc__law_text_N : List Str := ["_law_state_here", "_law_signs", "_law_k"]
theorem sc__law_text : FnScope sc__law_text_N ["_law_state_here"] (defScope s__law_text) := ⟨rfl, rfl, rfl, by decide +kernel, rfl, by decide +kernel, by decide +kernel⟩
abbrev s__law_value : Stmt := top 25
abbrev sc__law_value_N : List Str := ["_law_state_here", "_law_kind"]
theorem sc__law_value : FnScope sc__law_value_N ["_law_state_here"] (defScope s__law_value) := ⟨rfl, rfl, rfl, by decide +kernel, rfl, by decide +kernel, by decide +kernel⟩
abbrev s__law_parts : Stmt := top 27
abbrev sc__law_parts_N : List Str := ["_law_condition_here"]
theorem sc__law_parts : FnScope sc__law_parts_N ["_law_condition_here"] (defScope s__law_parts) := ⟨rfl, rfl, rfl, by decide +kernel, rfl, by decide +kernel, by decide +kernel⟩
abbrev s__law_joined : Stmt := top 28
abbrev sc__law_joined_N : List Str := ["_law_conditions", "_law_half"]
theorem sc__law_joined : FnScope sc__law_joined_N ["_law_conditions"] (defScope s__law_joined) := ⟨rfl, rfl, rfl, by decide +kernel, rfl, by decide +kernel, by decide +kernel⟩
abbrev s__law_used : Stmt := top 29
abbrev sc__law_used_N : List Str := ["_law_expression", "_law_found", "_law_part"]
theorem sc__law_used : FnScope sc__law_used_N ["_law_expression"] (defScope s__law_used) := ⟨rfl, rfl, rfl, by decide +kernel, rfl, by decide +kernel, by decide +kernel⟩
abbrev s__law_moved : Stmt := top 30
abbrev sc__law_moved_N : List Str := ["_law_expression", "_law_m", "_law_first", "_law_part"]
theorem sc__law_moved : FnScope sc__law_moved_N ["_law_expression", "_law_m"] (defScope s__law_moved) := ⟨rfl, rfl, rfl, by decide +kernel, rfl, by decide +kernel, by decide +kernel⟩
abbrev s__law_side : Stmt := top 31
abbrev sc__law_side_N : List Str := ["_law_expression", "_law_m", "_law_used_here"]
theorem sc__law_side : FnScope sc__law_side_N ["_law_expression", "_law_m"] (defScope s__law_side) := ⟨rfl, rfl, rfl, by decide +kernel, rfl, by decide +kernel, by decide +kernel⟩
theorem c_nil : (Str.ofString "") = S [] := by decide +kernel
def signs : List Nat := [97, 98, 65, 66, 32, 49, 57, 45, 39, 126]
theorem c_signs : (Str.ofString "abAB 19-'~") = S signs := by decide +kernel
def spText : Sp := fun vs H Q _ => ∃ p : Addr, vs = [.ref p] ∧ Dr H p ∧ ∀ (t : List Nat) (H' : Hp), t.length ≤ 4 → (∀ c ∈ t, c < 128) → Kp p H H' → Q (.str (S t)) H'
def OkV : Cd.Cv → Prop
  | .non | .bl _ => True
  | .int i => i.natAbs ≤ 1000000000000000
  | .str t => ∃ cs : List Nat, t = S cs ∧ cs.length ≤ 4 ∧ ∀ c ∈ cs, c < 128
def spValue : Sp := fun vs H Q _ => ∃ p : Addr, vs = [.ref p] ∧ Dr H p ∧ ∀ (v : Cd.Cv) (H' : Hp), OkV v → Kp p H H' → Q (vC v) H'
def spUsed (K : PySem.W.Frag) (n : Nat) : Sp := fun vs H Q _ => ∃ (p : Addr) (e : Cd.Ex), vs = [.ref p] ∧ ExAt K H e p ∧ e.ht < n ∧ (Cd.cols e).length ≤ 50 ∧
  ∀ (H' : Hp) (L : Addr), H L = none → Same H H' → H' L = some (.lst ((Cd.cols e).map V.int)) → Q (.ref L) H'
/-- _law_moved takes m away -/
def spLMoved (K : PySem.W.Frag) (n : Nat) : Sp := fun vs H Q _ => ∃ (p : Addr) (e : Cd.Ex) (m : Int), vs = [.ref p, .int m] ∧ ExAt K H e p ∧ e.ht < n ∧ ∀ (H' : Hp) (q : Addr), Same H H' → ExAt K H' (Cd.moved (-m) e) q → Q (.ref q) H'
def spLSide (K : PySem.W.Frag) (n : Nat) : Sp := fun vs H Q _ => ∃ (p : Addr) (e : Cd.Ex) (m : Int), vs = [.ref p, .int m] ∧ ExAt K H e p ∧ e.ht < n ∧ (Cd.cols e).length ≤ 50 ∧ ∀ H' : Hp, Same H H' → Q (.int ((Cd.side e m : Nat) : Int)) H'
def isCon : Cd.Ex → Bool
  | .con _ => true
  | _ => false
theorem k_col : decide (V.str (Str.ofString "column") = V.str (Str.ofString "constant")) = false := by decide +kernel
theorem k_con : decide (V.str (Str.ofString "constant") = V.str (Str.ofString "constant")) = true := by decide +kernel
theorem k_un : decide (V.str (Str.ofString "unary") = V.str (Str.ofString "constant")) = false := by decide +kernel
theorem k_bin : decide (V.str (Str.ofString "binary") = V.str (Str.ofString "constant")) = false := by decide +kernel
theorem form_con : ∀ e : Cd.Ex, decide (V.str (formE e) = V.str "constant") = isCon e
  | .col _ => k_col
  | .con _ => k_con
  | .un _ _ => k_un
  | .bin _ _ _ => k_bin
section
variable {P : Program} {w : World} {K : PySem.W.Frag} {mg : Str → Option Value} {base : Heap} {pT pW : Addr}
theorem ok__law_text {f : Addr} {fd : FuncData} (F : Fun K "_law_text" "_law_text" s__law_text f fd) (T : Txt K mg pT pW) (C__law_digit : Cal P w K mg base CX0 1 "_law_digit" spDigit) : FnOk P w K mg base CX0 2 f fd ["_law_state_here"] spText := by
  refine F.ok sc__law_text (fun vs H Q E h => ?_) (fun cdv A outer s H vs Q E hr h => ?_)
  · obtain ⟨i, rfl, _⟩ := h
    rfl
  · obtain ⟨p, rfl, dr, k⟩ := h
    refine ⟨_, (pss_cons (ps_set (i := 1) sc__law_text.nd rfl (Or.inr rfl) pe_str)
  (pss_one (ps_ret (pe_join pe_str (pe_lc (own := [("_law_k", 2)]) (g := gName 2) rfl sc__law_text.nd (pi_range1 rfl T.n_range (pa_cons (pe_k C__law_digit hr (by omega) (by rfl) pass0 (pa_cons (pv 0) (pa_cons pe_int pa_nil))) pa_nil)) (blkOk_by (own := [("_law_k", 2)]) (N := sc__law_text_N) (sc := defScope s__law_text) (by decide +kernel)) (fun _ _ _ _ _ => pg_name (i := 2) sc__law_text.nd rfl (Or.inl rfl)) (fun _ _ _ _ _ => pts_nil) (fun _ _ _ _ _ => (pe_ix ix_str (pv 1) (pe_k C__law_digit hr (by omega) (by rfl) pass0 (pa_cons (pv 0) (pa_cons pe_int pa_nil))) (fun _ _ => rfl)))))))), ?_⟩
    refine ⟨⟨_, rfl⟩, _, rfl, p, _, rfl, dr, by decide, by decide, fun d H1 d0 d1 k1 => ?_⟩
    refine ⟨d, rfl, by omega, by omega, fun D hD => ?_⟩
    have hDH : H D = none := by
      obtain ⟨z, hz⟩ := dr
      cases e : H D with
      | none => rfl
      | some o =>
        by_cases hp : D = p
        · subst hp
          obtain ⟨_, y, hy⟩ := k1
          rw [hD] at hy; cases hy
        · rw [k1.1 D o hp e] at hD; cases hD
    refine lc_range (lo := 0) (n := d.toNat) (fun i H' => ∃ cs : List Nat, cs.length = i ∧ (∀ c ∈ cs, c < 128) ∧ Kp p H H' ∧ H' D = some (.lst (cs.map fun c => V.str (S [c]))))
      ⟨[], rfl, by simp, k1.new hD, upd_same⟩ (fun i H' hi ⟨cs, hl, hs, k2, hL⟩ => ?_) (fun H' ⟨cs, hl, hs, k2, hL⟩ => ?_)
    · refine ⟨rfl, _, rfl, _, rfl, p, _, rfl, k2.dr, by decide, by decide, fun e H2 e0 e1 k3 => ?_⟩
      obtain ⟨j, rfl⟩ : ∃ j : Nat, e = (j : Int) := ⟨e.toNat, by omega⟩
      have hj : j < signs.length := by show j < 10; omega
      have e4 : H2 D = some (.lst (cs.map fun c => V.str (S [c]))) := k3.1 D _ (by
        obtain ⟨z, hz⟩ := k2.dr
        exact ne_of hL hz (by intro q; injection q with q; cases cs <;> simp at q)) hL
      refine ⟨_, _, signs[j], rfl, rfl, by rw [c_signs, S_len]; decide, by rw [c_signs]; exact atS (List.getElem?_eq_getElem hj), _, e4, ?_, cs ++ [signs[j]], by rw [List.length_append, hl]; rfl, ?_, ?_, ?_⟩
      · rw [List.length_map]
        exact Nat.lt_of_lt_of_le (show cs.length < 100 by omega) (by decide)
      · intro c hc
        rcases List.mem_append.mp hc with h | h
        · exact hs c h
        · have e : c = signs[j] := by simpa using h
          rw [e]
          exact (by decide : ∀ c ∈ signs, c < 128) _ (List.getElem_mem hj)
      · exact (k2.trans k3).mut hDH dr
      · rw [upd_same, List.map_append]
        rfl
    · refine ⟨_, _, cs.map (fun c => S [c]), rfl, rfl, .inl (seqL ?_), ?_, ?_⟩
      · rw [List.map_map]; exact hL
      · rw [c_nil, List.map_map]
        have : ((fun x : Str => x.length) ∘ fun c => S [c]) = fun _ => 1 := by funext c; show (S [c]).length = 1; rw [S_len]; rfl
        rw [this, S_len, sum_ones]
        simp
        omega
      · have e5 : Txt.join (Str.ofString "") (cs.map fun c => S [c]) = S cs := by
          have := join_flat (cs.map fun c => [c])
          rw [List.map_map] at this
          rw [c_nil]
          refine this.trans ?_
          congr 2
          rw [← joinL_flat, joinL_nil]
        rw [e5]
        exact k cs H' (by omega) hs k2
theorem ok__law_value {f : Addr} {fd : FuncData} (F : Fun K "_law_value" "_law_value" s__law_value f fd) (C__law_digit : Cal P w K mg base CX0 1 "_law_digit" spDigit) (C__law_text : Cal P w K mg base CX0 2 "_law_text" spText) : FnOk P w K mg base CX0 3 f fd ["_law_state_here"] spValue := by
  refine F.ok sc__law_value (fun vs H Q E h => ?_) (fun cdv A outer s H vs Q E hr h => ?_)
  · obtain ⟨i, rfl, _⟩ := h
    rfl
  · obtain ⟨p, rfl, dr, k⟩ := h
    refine ⟨_, (pss_cons (ps_set (i := 1) sc__law_value.nd rfl (Or.inl rfl) (pe_k C__law_digit hr (by omega) (by rfl) pass0 (pa_cons (pv 0) (pa_cons pe_int pa_nil))))
  (pss_cons (ps_if (pt_cmpR op_lt (pv 1) pe_int (nomark _)) (pss_one (ps_ret pe_non)) pss_nil)
  (pss_cons (ps_if (pt_cmpR op_eq (pv 1) pe_int (nomark _)) (pss_one (ps_ret (pe_cmpR op_eq (pe_k C__law_digit hr (by omega) (by rfl) pass0 (pa_cons (pv 0) (pa_cons pe_int pa_nil))) pe_int (nomark _)))) pss_nil)
  (pss_cons (ps_if (pt_cmpR op_lt (pv 1) pe_int (nomark _)) (pss_one (ps_ret (pe_op op_sub (pe_k C__law_digit hr (by omega) (by rfl) pass0 (pa_cons (pv 0) (pa_cons pe_int pa_nil))) pe_int))) pss_nil)
  (pss_cons (ps_if (pt_cmpR op_eq (pv 1) pe_int (nomark _)) (pss_one (ps_ret (pe_op op_mul (pe_op op_sub (pe_op op_mul (pe_k C__law_digit hr (by omega) (by rfl) pass0 (pa_cons (pv 0) (pa_cons pe_int pa_nil))) pe_int) pe_int) (pe_op op_sub pe_int (pe_k C__law_digit hr (by omega) (by rfl) pass0 (pa_cons (pv 0) (pa_cons pe_int pa_nil))))))) pss_nil)
  (pss_one (ps_ret (pe_k C__law_text hr (by omega) (by rfl) pass0 (pa_cons (pv 0) pa_nil))))))))), ?_⟩
    refine ⟨_, rfl, p, _, rfl, dr, by decide, by decide, fun d H1 d0 d1 k1 => ?_⟩
    refine ⟨_, rfl, _, _, rfl, rfl, _, rfl, ?_⟩
    refine ite2 (fun _ => k .non H1 trivial k1) (fun _ => ?_)
    refine ⟨_, rfl, rfl, _, rfl, ?_⟩
    refine ite2 (fun _ => ?_) (fun _ => ?_)
    · exact ⟨_, rfl, p, _, rfl, k1.dr, by decide, by decide, fun d2 H2 _ _ k2 => ⟨rfl, k (.bl _) H2 trivial (k1.trans k2)⟩⟩
    refine ⟨_, rfl, _, _, rfl, rfl, _, rfl, ?_⟩
    refine ite2 (fun _ => ?_) (fun _ => ?_)
    · refine ⟨_, rfl, p, _, rfl, k1.dr, by decide, by decide, fun d2 H2 h0 h1 k2 => ⟨_, _, rfl, rfl, k (.int (d2 - 3)) H2 ?_ (k1.trans k2)⟩⟩
      show (d2 - 3).natAbs ≤ 1000000000000000
      omega
    refine ⟨_, rfl, rfl, _, rfl, ?_⟩
    refine ite2 (fun _ => ?_) (fun _ => ?_)
    · refine ⟨_, rfl, p, _, rfl, k1.dr, by decide, by decide, fun d2 H2 h0 h1 k2 => ?_⟩
      refine ⟨_, _, rfl, rfl, .inr ⟨by decide, by decide⟩, _, _, rfl, rfl, ?_⟩
      refine ⟨_, rfl, p, _, rfl, k2.dr, by decide, by decide, fun d3 H3 h2 h3 k3 => ?_⟩
      refine ⟨_, _, rfl, rfl, _, _, rfl, rfl, .inl ⟨by omega, by omega⟩, k (.int _) H3 ?_ ((k1.trans k2).trans k3)⟩
      show ((d2 * 2 - 1) * (1000000000000000 - d3)).natAbs ≤ 1000000000000000
      have : d2 = 0 ∨ d2 = 1 := by omega
      rcases this with rfl | rfl <;> omega
    · exact ⟨_, rfl, p, rfl, k1.dr, fun t H2 ht hc k2 => k (.str (S t)) H2 ⟨t, rfl, ht, hc⟩ (k1.trans k2)⟩
theorem ok__law_parts {f : Addr} {fd : FuncData} (F : Fun K "_law_parts" "_law_parts" s__law_parts f fd) (hm : mg "_law_parts" = some (.ref f)) (kp : PySem.W.keepIn K (.ref f) = true) (b : Binds K fd ["_law_condition_here"] []) :
    ∀ n : Nat, FnOk P w K mg base CX0 (n + 1) f fd ["_law_condition_here"] (spCParts K n)
  | 0 => by
    refine ⟨fun vs H Q E h => ?_, fun A outer s H args us vs Q E hr he hb hv h => ?_⟩
    · obtain ⟨_, _, rfl, _⟩ := h
      rfl
    · obtain ⟨_, _, _, _, h, _⟩ := h
      omega
  | n + 1 => by
    have C__law_parts : Cal P w K mg base CX0 (n + 1) "_law_parts" (spCParts K n) := ⟨_, _, _, ok__law_parts F hm kp b n, hm, kp, b⟩
    refine F.ok sc__law_parts (fun vs H Q E h => ?_) (fun cdv A outer s H vs Q E hr h => ?_)
    · obtain ⟨_, _, rfl, _⟩ := h
      rfl
    · obtain ⟨p, e, rfl, he, hht, hlen, kk⟩ := h
      refine ⟨_, (pss_cons (ps_if (PW.pt (pw_and (pt_cmpR op_eq (pe_ix ix_tup (pv 0) pe_int (fun _ _ => rfl)) pe_str (nomark _)) (pw_and1 (pt_cmpR op_eq (pe_ix ix_tup (pv 0) pe_int (fun _ _ => rfl)) pe_str (nomark _))))) (pss_one (ps_ret (pe_op op_cat (pe_k C__law_parts hr (by omega) (by rfl) pass0 (pa_cons (pe_ix ix_tup (pv 0) pe_int (fun _ _ => rfl)) pa_nil)) (pe_k C__law_parts hr (by omega) (by rfl) pass0 (pa_cons (pe_ix ix_tup (pv 0) pe_int (fun _ _ => rfl)) pa_nil))))) pss_nil)
  (pss_one (ps_ret (pe_lst (pa_cons (pv 0) pa_nil))))), ?_⟩
      obtain ⟨qs0, ht, hk0⟩ := ex_tup he
      have one : Cd.parts e = [e] → tRet (tLst (tCons (tVar 0) tNil)) { nx := fun _ H' => Q .non H', rt := Q } [some (.ref p)] H := fun h1 => by
        refine ⟨_, rfl, lt_sz (show 1 ≤ 200000 by decide), fun L hL => ?_⟩
        refine kk _ L [p] hL (same_new hL) upd_same ?_
        rw [h1]
        exact .cons (ex_same (same_new hL) e p he) .nil
      refine ⟨_, rfl, p, _, _, _, rfl, rfl, ht, at0, rfl, _, rfl, ?_⟩
      rw [form_bin]
      cases e with
      | col i => exact iteF (iteF (one rfl))
      | con v => exact iteF (iteF (one rfl))
      | un m a => exact iteF (iteF (one rfl))
      | bin m a c =>
        refine iteT ?_
        obtain ⟨q, r, ht, ha, hc⟩ := he
        refine ⟨_, rfl, p, _, _, _, rfl, rfl, ht, at1, rfl, _, rfl, ?_⟩
        rw [strD]
        rw [Cd.parts] at hlen
        simp only [Cd.Ex.ht] at hht
        by_cases hand : m = ("and" : Str)
        · have hd : decide (m = ("and" : Str)) = true := decide_eq_true hand
          rw [if_pos hand, List.length_append] at hlen
          rw [hd]
          refine iteT ?_
          refine ⟨_, rfl, p, _, _, _, rfl, rfl, ht, at2, q, a, rfl, ha, by omega, by omega, fun H1 L1 qs1 hL1 s1 h1 hx1 => ?_⟩
          refine ⟨_, rfl, p, _, _, _, rfl, rfl, tup_same s1 ht, at3, r, c, rfl, ex_same s1 c r hc, by omega, by omega, fun H2 L2 qs2 hL2 s2 h2 hx2 => ?_⟩
          have l1 := paired_len hx1
          have l2 := paired_len hx2
          refine ⟨L1, L2, _, _, rfl, rfl, s2 _ _ h1, h2, by rw [List.length_map, List.length_map]; exact lt_sz (by omega), fun q2 hq2 => ?_⟩
          have sA : Same H _ := fun b o z => same_new (o := .lst (qs1.map V.ref ++ qs2.map V.ref)) hq2 b o (s2 b o (s1 b o z))
          refine kk _ q2 (qs1 ++ qs2) (Same.free s1 (Same.free s2 hq2)) sA (by rw [upd_same, List.map_append]) ?_
          rw [Cd.parts, if_pos hand]
          exact paired_app (exs_same (fun b o z => same_new hq2 b o (s2 b o z)) hx1) (exs_same (same_new hq2) hx2)
        · have hd : decide (m = ("and" : Str)) = false := decide_eq_false hand
          rw [hd]
          exact iteF (one (by rw [Cd.parts, if_neg hand]))
theorem ok__law_joined {f : Addr} {fd : FuncData} (F : Fun K "_law_joined" "_law_joined" s__law_joined f fd) (T : Txt K mg pT pW) (hm : mg "_law_joined" = some (.ref f)) (kp : PySem.W.keepIn K (.ref f) = true) (b : Binds K fd ["_law_conditions"] []) :
    ∀ n : Nat, FnOk P w K mg base CX0 (n + 1) f fd ["_law_conditions"] (spConj K n)
  | 0 => by
    refine ⟨fun vs H Q E h => ?_, fun A outer s H args us vs Q E hr he hb hv h => ?_⟩
    · obtain ⟨_, _, _, rfl, _⟩ := h
      rfl
    · obtain ⟨_, _, _, _, _, _, h, _⟩ := h
      omega
  | n + 1 => by
    have C__law_joined : Cal P w K mg base CX0 (n + 1) "_law_joined" (spConj K n) := ⟨_, _, _, ok__law_joined F T hm kp b n, hm, kp, b⟩
    refine F.ok sc__law_joined (fun vs H Q E h => ?_) (fun cdv A outer s H vs Q E hr h => ?_)
    · obtain ⟨_, _, _, rfl, _⟩ := h
      rfl
    · obtain ⟨L, qs, es, rfl, hL, hx, hlen, hn, kk⟩ := h
      have hql := paired_len hx
      refine ⟨_, (pss_cons (ps_if (pt_cmpR op_eq (pe_callB call_len_seq (by rfl) T.n_len PySem.boot_len (pa_cons (pv 0) pa_nil)) pe_int (nomark _)) (pss_one (ps_ret (pe_tup (pa_cons pe_str (pa_cons pe_bl pa_nil))))) pss_nil)
  (pss_cons (ps_if (pt_cmpR op_eq (pe_callB call_len_seq (by rfl) T.n_len PySem.boot_len (pa_cons (pv 0) pa_nil)) pe_int (nomark _)) (pss_one (ps_ret (pe_ix ix_list (pv 0) pe_int (fun _ _ => rfl)))) pss_nil)
  (pss_cons (ps_set (i := 1) sc__law_joined.nd rfl (Or.inl rfl) (pe_op op_fdiv (pe_callB call_len_seq (by rfl) T.n_len PySem.boot_len (pa_cons (pv 0) pa_nil)) pe_int))
  (pss_one (ps_ret (pe_tup (pa_cons pe_str (pa_cons pe_str (pa_cons (pe_k C__law_joined hr (by omega) (by rfl) pass0 (pa_cons (pe_slice sl_list (pv 0) po_none (po_some (pv 1))) pa_nil)) (pa_cons (pe_k C__law_joined hr (by omega) (by rfl) pass0 (pa_cons (pe_slice sl_list (pv 0) (po_some (pv 1)) po_none) pa_nil)) pa_nil)))))))))), ?_⟩
      refine ⟨_, rfl, L, _, rfl, .inl hL, rfl, _, rfl, ?_⟩
      rw [List.length_map]
      refine ite2 (fun h0 => ?_) (fun h0 => ?_)
      · have he : es = [] := by
          have := of_decide_eq_true h0
          injection this with this
          exact List.length_eq_zero_iff.mp (by omega)
        refine ⟨lt_sz (show 2 ≤ 200000 by decide), fun q hq => ?_⟩
        refine kk _ q (same_new hq) ?_
        subst he
        exact seqT upd_same
      · have he : es.length ≠ 0 := fun q => h0 (decide_eq_true (by rw [hql, q]; rfl))
        refine ⟨_, rfl, L, _, rfl, .inl hL, rfl, _, rfl, ?_⟩
        rw [List.length_map]
        refine ite2 (fun h1 => ?_) (fun h1 => ?_)
        · have hq1 : qs.length = 1 := by
            have := of_decide_eq_true h1
            injection this with this
            omega
          cases hx with
          | nil => simp at hq1
          | @cons q1 _ e1 _ r1 t1 =>
            cases t1 with
            | cons => simp at hq1
            | nil => exact ⟨_, rfl, L, _, _, _, rfl, rfl, hL, at0, kk H q1 (Same.refl H) r1⟩
        · have he1 : es.length ≠ 1 := fun q => h1 (decide_eq_true (by rw [hql, q]; rfl))
          have hhalf : ((qs.length : Nat) : Int) / 2 = ((es.length / 2 : Nat) : Int) := by rw [hql]; omega
          refine ⟨_, rfl, L, _, rfl, .inl hL, _, _, rfl, rfl, ⟨by decide, by decide⟩, ?_⟩
          rw [List.length_map]
          dsimp only
          rw [hhalf]
          refine ⟨_, rfl, _, rfl, _, rfl, L, _, rfl, hL, fun L1 hL1 => ?_⟩
          rw [cut_to]
          have s1 := same_new (o := .lst ((qs.map V.ref).take (es.length / 2))) hL1
          refine ⟨L1, qs.take (es.length / 2), es.take (es.length / 2), rfl, seqL (by rw [upd_same, List.map_take]), paired_take _ (exs_same s1 hx), by rw [List.length_take]; omega, by omega, fun H2 q1 s2 hq1 => ?_⟩
          have s02 : Same H H2 := fun b o z => s2 b o (s1 b o z)
          refine ⟨_, rfl, _, rfl, _, rfl, L, _, rfl, s02.seq hL, fun L3 hL3 => ?_⟩
          rw [cut_from]
          have s3 := same_new (o := .lst ((qs.map V.ref).drop (es.length / 2))) hL3
          have s03 : Same H _ := fun b o z => s3 b o (s02 b o z)
          refine ⟨L3, qs.drop (es.length / 2), es.drop (es.length / 2), rfl, seqL (by rw [upd_same, List.map_drop]), paired_drop _ (exs_same s03 hx), by rw [List.length_drop]; omega, by omega, fun H4 q2 s4 hq2 => ?_⟩
          refine ⟨lt_sz (show 4 ≤ 200000 by decide), fun q3 hq3 => ?_⟩
          have s5 := same_new (o := .tup [.str "binary", .str "and", .ref q1, .ref q2]) hq3
          have sA : Same H2 _ := fun b o z => s5 b o (s4 b o (s3 b o z))
          refine kk _ q3 (fun b o z => sA b o (s02 b o z)) ?_
          have hcj : Cd.conj (n + 1) es = .bin "and" (Cd.conj n (es.take (es.length / 2))) (Cd.conj n (es.drop (es.length / 2))) := by
            match es, he, he1 with
            | [], h, _ => exact absurd rfl h
            | [_], _, h => exact absurd rfl h
            | _ :: _ :: _, _, _ => rfl
          rw [hcj]
          exact ⟨q1, q2, seqT upd_same, ex_same sA _ q1 hq1, ex_same s5 _ q2 hq2⟩
theorem ok__law_used {f : Addr} {fd : FuncData} (F : Fun K "_law_used" "_law_used" s__law_used f fd) (T : Txt K mg pT pW) (hm : mg "_law_used" = some (.ref f)) (kp : PySem.W.keepIn K (.ref f) = true) (b : Binds K fd ["_law_expression"] []) :
    ∀ n : Nat, FnOk P w K mg base CX0 (n + 1) f fd ["_law_expression"] (spUsed K n)
  | 0 => by
    refine ⟨fun vs H Q E h => ?_, fun A outer s H args us vs Q E hr he hb hv h => ?_⟩
    · obtain ⟨_, _, rfl, _⟩ := h
      rfl
    · obtain ⟨_, _, _, _, h, _⟩ := h
      omega
  | n + 1 => by
    have C__law_used : Cal P w K mg base CX0 (n + 1) "_law_used" (spUsed K n) := ⟨_, _, _, ok__law_used F T hm kp b n, hm, kp, b⟩
    refine F.ok sc__law_used (fun vs H Q E h => ?_) (fun cdv A outer s H vs Q E hr h => ?_)
    · obtain ⟨_, _, rfl, _⟩ := h
      rfl
    · obtain ⟨p, e, rfl, he, hht, hlen, kk⟩ := h
      refine ⟨_, (pss_cons (ps_if (pt_cmpR op_eq (pe_ix ix_tup (pv 0) pe_int (fun _ _ => rfl)) pe_str (nomark _)) (pss_one (ps_ret (pe_lst (pa_cons (pe_ix ix_tup (pv 0) pe_int (fun _ _ => rfl)) pa_nil)))) pss_nil)
  (pss_cons (ps_if (pt_cmpR op_eq (pe_ix ix_tup (pv 0) pe_int (fun _ _ => rfl)) pe_str (nomark _)) (pss_one (ps_ret (pe_lst pa_nil))) pss_nil)
  (pss_cons (ps_set (i := 1) sc__law_used.nd rfl (Or.inl rfl) (pe_lst pa_nil))
  (pss_cons (ps_for PassesOwn.never rfl (pi_tup (pe_slice sl_tup (pv 0) (po_some (pe_op op_add pe_int (pe_callTy call_int1 (by rfl) T.n_int (by decide +kernel) (pa_cons (pe_cmpR op_ne (pe_ix ix_tup (pv 0) pe_int (fun _ _ => rfl)) pe_str (nomark _)) pa_nil)))) po_none)) (pg_name (i := 2) sc__law_used.nd rfl (Or.inl rfl)) (pss_one (ps_set (i := 1) sc__law_used.nd rfl (Or.inl rfl) (pe_op op_cat (pv 1) (pe_k C__law_used hr (by omega) (by rfl) pass0 (pa_cons (pv 2) pa_nil))))))
  (pss_one (ps_ret (pv 1))))))), ?_⟩
      obtain ⟨qs, ht, hk⟩ := ex_tup he
      refine ⟨_, rfl, p, _, _, _, rfl, rfl, ht, at0, rfl, _, rfl, ?_⟩
      rw [form_col]
      by_cases hcol : ∃ i, e = .col i
      · obtain ⟨i, rfl⟩ := hcol
        refine iteT ?_
        refine ⟨_, rfl, p, _, _, _, rfl, rfl, ht, at1, lt_sz (show 1 ≤ 200000 by decide), fun L hL => kk _ L hL (same_new hL) upd_same⟩
      · have hc : isCol e = false := by
          cases e with
          | col i => exact absurd ⟨i, rfl⟩ hcol
          | con | un | bin => rfl
        rw [hc]
        refine iteF ?_
        refine ⟨_, rfl, p, _, _, _, rfl, rfl, ht, at0, rfl, _, rfl, ?_⟩
        rw [form_con]
        by_cases hcon : ∃ v, e = .con v
        · obtain ⟨v, rfl⟩ := hcon
          exact iteT ⟨Nat.zero_le _, fun L hL => kk _ L hL (same_new hL) upd_same⟩
        · have hc2 : isCon e = false := by
            cases e with
            | con v => exact absurd ⟨v, rfl⟩ hcon
            | col | un | bin => rfl
          rw [hc2]
          refine iteF ?_
          have hcols := Cd.cols_kids e (fun i z => hcol ⟨i, z⟩)
          have hkn : qs ≠ [] := fun q => by
            have hl := paired_len hk
            rw [q] at hl
            cases e with
            | col i => exact hcol ⟨i, rfl⟩
            | con v => exact hcon ⟨v, rfl⟩
            | un => simp [Cd.Ex.kids] at hl
            | bin => simp [Cd.Ex.kids] at hl
          refine ⟨Nat.zero_le _, fun L0 hL0 => ?_⟩
          have s1 := same_new (o := .lst []) hL0
          refine ⟨_, rfl, _, rfl, p, _, _, _, rfl, rfl, tup_same s1 ht, at0, rfl, ?_⟩
          rw [form_ch]
          refine .inr ⟨_, rfl, _, _, rfl, rfl, _, rfl, p, _, rfl, tup_same s1 ht, ?_, fun t ht2 => ?_⟩
          · rintro ⟨h1, _⟩
            have h3 := HT.sIx_nat ((V.str (formE e)) :: labE e :: qs.map V.ref).length 0 2
            have e3 : ((1 : Int) + if (!false) = true then 1 else 0) = ((2 : Nat) : Int) := rfl
            rw [e3, h3] at h1
            simp at h1
          · have e2 : cutV (.str (formE e) :: labE e :: qs.map V.ref) (some ((1 : Int) + if (!false) = true then 1 else 0)) none = qs.map V.ref := by
              have e3 : ((1 : Int) + if (!false) = true then 1 else 0) = ((2 : Nat) : Int) := rfl
              rw [e3, cut_from]
              rfl
            rw [e2]
            have s2 := same_new (o := .tup (qs.map V.ref)) ht2
            have hql := paired_len hk
            refine ⟨t, rfl, ⟨_, seqT upd_same⟩, for_tup (xs := qs.map V.ref) (fun i σ H' => ∃ (x2 : Option V) (L : Addr), σ = [some (.ref p), some (.ref L), x2] ∧ H L = none ∧ Same (upd (upd H L0 (.lst [])) t (.tup (qs.map V.ref))) H' ∧ H' L = some (.lst ((((e.kids.take i).map Cd.cols).flatten).map V.int)))
              ⟨none, L0, rfl, hL0, Same.refl _, by simpa using s2 _ _ upd_same⟩ (fun i σ H' _ ⟨_, _, _, _, h, _⟩ => seqT (h _ _ upd_same)) ?_ ?_⟩
            · rintro i x σ H3 hx ⟨x2, L, rfl, hLn, s3, hL3⟩
              obtain ⟨q, hq, rfl⟩ : ∃ q, qs[i]? = some q ∧ V.ref q = x := by
                rw [List.getElem?_map] at hx
                cases z : qs[i]? with
                | none => rw [z] at hx; cases hx
                | some q => rw [z] at hx; exact ⟨q, rfl, Option.some.inj hx⟩
              have sB : Same H H3 := fun b o z => s3 b o (s2 b o (s1 b o z))
              obtain ⟨kd, hkd, hkq⟩ := paired_get hk hq
              have htk := Cd.kids_ht (List.mem_of_getElem? hkd)
              have hfl := flat_le Cd.cols e.kids (i + 1)
              rw [take_next hkd] at hfl
              rw [← hcols] at hfl
              simp only [List.map_append, List.map_cons, List.map_nil, List.flatten_append, List.flatten_cons, List.flatten_nil, List.append_nil, List.length_append] at hfl
              refine ⟨_, rfl, _, rfl, q, kd, rfl, ex_same sB kd q hkq, by omega, by omega, fun H4 M hM s4 hM4 => ?_⟩
              refine ⟨L, M, _, _, rfl, rfl, s4 _ _ hL3, hM4, by rw [List.length_map, List.length_map]; exact lt_sz (by omega), fun N hN => ?_⟩
              refine ⟨_, N, rfl, Same.free sB (Same.free s4 hN), fun b o z => same_new hN b o (s4 b o (s3 b o z)), ?_⟩
              rw [upd_same, take_next hkd]
              simp
            · rintro σ H3 ⟨x2, L, rfl, hLn, s3, hL3⟩
              rw [List.length_map, hql, List.take_length, ← hcols] at hL3
              exact ⟨_, rfl, kk H3 L hLn (fun b o z => s3 b o (s2 b o (s1 b o z))) hL3⟩
theorem ok__law_side {n : Nat} {f : Addr} {fd : FuncData} (F : Fun K "_law_side" "_law_side" s__law_side f fd) (T : Txt K mg pT pW) (C__law_used : Cal P w K mg base CX0 (n + 1) "_law_used" (spUsed K n)) : FnOk P w K mg base CX0 (n + 2) f fd ["_law_expression", "_law_m"] (spLSide K n) := by
  refine F.ok sc__law_side (fun vs H Q E h => ?_) (fun cdv A outer s H vs Q E hr h => ?_)
  · obtain ⟨_, _, _, rfl, _⟩ := h
    rfl
  · obtain ⟨p, e, m, rfl, he, hht, hlen, kk⟩ := h
    refine ⟨_, (pss_cons (ps_set (i := 2) sc__law_side.nd rfl (Or.inl rfl) (pe_k C__law_used hr (by omega) (by rfl) pass0 (pa_cons (pv 0) pa_nil)))
  (pss_cons (ps_if (pt_cmpR op_eq (pe_callB call_len_seq (by rfl) T.n_len PySem.boot_len (pa_cons (pv 2) pa_nil)) pe_int (nomark _)) (pss_one (ps_ret pe_int)) pss_nil)
  (pss_cons (ps_if (pt_cmpR op_lt (pe_callB (cr_max rfl) (by rfl) T.n_max (by decide +kernel) (pa_cons (pv 2) pa_nil)) (pv 1) (nomark _)) (pss_one (ps_ret pe_int)) pss_nil)
  (pss_one (ps_ret (pe_ifExp (pt_cmpR op_ge (pe_callB (cr_min rfl) (by rfl) T.n_min (by decide +kernel) (pa_cons (pv 2) pa_nil)) (pv 1) (nomark _)) pe_int pe_int)))))), ?_⟩
    refine ⟨_, rfl, p, e, rfl, he, hht, hlen, fun H1 L hL s1 hL1 => ?_⟩
    refine ⟨_, rfl, L, _, rfl, .inl (seqL hL1), rfl, _, rfl, ?_⟩
    rw [List.length_map]
    have kk1 := kk H1 s1
    unfold Cd.side at kk1
    refine ite2 (fun h => ?_) (fun h => ?_)
    · have hu : Cd.cols e = [] := by
        have := of_decide_eq_true h
        injection this with this
        exact List.length_eq_zero_iff.mp (by omega)
      rw [if_pos hu] at kk1
      exact kk1
    · have hu : Cd.cols e ≠ [] := fun q => h (decide_eq_true (by rw [q]; rfl))
      rw [if_neg hu] at kk1
      have hpos : 0 < (Cd.cols e).length := List.length_pos_iff.mpr hu
      refine ⟨_, rfl, L, _, rfl, seqL hL1, hpos, fun mx hmx hall => ?_⟩
      refine ⟨_, rfl, _, _, rfl, rfl, _, rfl, ?_⟩
      have e1 : (∀ c ∈ Cd.cols e, c < m) ↔ mx < m := ⟨fun h => h mx hmx, fun h c hc => by have := hall c hc; omega⟩
      refine ite2 (fun h1 => ?_) (fun h1 => ?_)
      · rw [if_pos (e1.mpr (of_decide_eq_true h1))] at kk1
        exact kk1
      · rw [if_neg (fun q => h1 (decide_eq_true (e1.mp q)))] at kk1
        refine ⟨_, rfl, L, _, rfl, seqL hL1, hpos, fun mn hmn hall2 => ?_⟩
        refine ⟨_, rfl, _, _, rfl, rfl, _, rfl, ?_⟩
        have e2 : (∀ c ∈ Cd.cols e, m ≤ c) ↔ m ≤ mn := ⟨fun h => h mn hmn, fun h c hc => by have := hall2 c hc; omega⟩
        refine ite2 (fun h2 => ?_) (fun h2 => ?_)
        · rw [if_pos (e2.mpr (of_decide_eq_true h2))] at kk1
          exact kk1
        · rw [if_neg (fun q => h2 (decide_eq_true (e2.mp q)))] at kk1
          exact kk1
theorem ok__law_moved {f : Addr} {fd : FuncData} (F : Fun K "_law_moved" "_law_moved" s__law_moved f fd) (T : Txt K mg pT pW) (hm : mg "_law_moved" = some (.ref f)) (kp : PySem.W.keepIn K (.ref f) = true) (b : Binds K fd ["_law_expression", "_law_m"] []) :
    ∀ n : Nat, FnOk P w K mg base CX0 (n + 1) f fd ["_law_expression", "_law_m"] (spLMoved K n)
  | 0 => by
    refine ⟨fun vs H Q E h => ?_, fun A outer s H args us vs Q E hr he hb hv h => ?_⟩
    · obtain ⟨_, _, _, rfl, _⟩ := h
      rfl
    · obtain ⟨_, _, _, _, _, h, _⟩ := h
      omega
  | n + 1 => by
    have C__law_moved : Cal P w K mg base CX0 (n + 1) "_law_moved" (spLMoved K n) := ⟨_, _, _, ok__law_moved F T hm kp b n, hm, kp, b⟩
    refine F.ok sc__law_moved (fun vs H Q E h => ?_) (fun cdv A outer s H vs Q E hr h => ?_)
    · obtain ⟨_, _, _, rfl, _⟩ := h
      rfl
    · obtain ⟨p, e, m, rfl, he, hht, kk⟩ := h
      refine ⟨_, (pss_cons (ps_if (pt_cmpR op_eq (pe_ix ix_tup (pv 0) pe_int (fun _ _ => rfl)) pe_str (nomark _)) (pss_one (ps_ret (pe_tup (pa_cons pe_str (pa_cons (pe_op op_sub (pe_ix ix_tup (pv 0) pe_int (fun _ _ => rfl)) (pv 1)) pa_nil))))) pss_nil)
  (pss_cons (ps_if (pt_cmpR op_eq (pe_ix ix_tup (pv 0) pe_int (fun _ _ => rfl)) pe_str (nomark _)) (pss_one (ps_ret (pv 0))) pss_nil)
  (pss_cons (ps_set (i := 2) sc__law_moved.nd rfl (Or.inl rfl) (pe_op op_add pe_int (pe_callTy call_int1 (by rfl) T.n_int (by decide +kernel) (pa_cons (pe_cmpR op_ne (pe_ix ix_tup (pv 0) pe_int (fun _ _ => rfl)) pe_str (nomark _)) pa_nil))))
  (pss_one (ps_ret (pe_op op_catT (pe_slice sl_tup (pv 0) po_none (po_some (pv 2))) (pe_callTy call_tuple_of (by rfl) T.n_tuple (by decide +kernel) (pa_cons (pe_lc (own := [("_law_part", 3)]) (g := gName 3) rfl sc__law_moved.nd (pi_tup (pe_slice sl_tup (pv 0) (po_some (pv 2)) po_none)) (blkOk_by (own := [("_law_part", 3)]) (N := sc__law_moved_N) (sc := defScope s__law_moved) (by decide +kernel)) (fun _ _ _ _ _ => pg_name (i := 3) sc__law_moved.nd rfl (Or.inl rfl)) (fun _ _ _ _ _ => pts_nil) (fun _ _ _ _ _ => (pe_k C__law_moved hr (by omega) (by rfl) pass0 (pa_cons (pv 3) (pa_cons (pv 1) pa_nil))))) pa_nil)))))))), ?_⟩
      obtain ⟨qs, ht, hk⟩ := ex_tup he
      refine ⟨_, rfl, p, _, _, _, rfl, rfl, ht, at0, rfl, _, rfl, ?_⟩
      rw [form_col]
      by_cases hcol : ∃ i, e = .col i
      · obtain ⟨i, rfl⟩ := hcol
        refine iteT ?_
        refine ⟨_, rfl, p, _, _, _, rfl, rfl, ht, at1, _, rfl, _, _, rfl, rfl, ?_⟩
        refine ⟨lt_sz (show 2 ≤ 200000 by decide), fun q hq => ?_⟩
        refine kk _ q (same_new hq) ?_
        have : SqT K _ q _ := seqT (upd_same (H := H) (a := q) (o := .tup [.str "column", .int (i - m)]))
        rw [show i - m = i + -m by omega] at this
        exact this
      · have hc : isCol e = false := by
          cases e with
          | col i => exact absurd ⟨i, rfl⟩ hcol
          | con | un | bin => rfl
        rw [hc]
        refine iteF ?_
        refine ⟨_, rfl, p, _, _, _, rfl, rfl, ht, at0, rfl, _, rfl, ?_⟩
        rw [form_con]
        by_cases hcon : ∃ v, e = .con v
        · obtain ⟨v, rfl⟩ := hcon
          exact iteT ⟨_, rfl, kk H p (Same.refl H) he⟩
        · have hc2 : isCon e = false := by
            cases e with
            | con v => exact absurd ⟨v, rfl⟩ hcon
            | col | un | bin => rfl
          rw [hc2]
          refine iteF ?_
          refine ⟨_, rfl, p, _, _, _, rfl, rfl, ht, at0, rfl, ?_⟩
          rw [form_ch]
          have e3 : ((1 : Int) + if (!false) = true then 1 else 0) = ((2 : Nat) : Int) := rfl
          refine .inr ⟨_, rfl, _, _, rfl, rfl, ?_⟩
          dsimp only
          rw [e3]
          refine ⟨_, rfl, _, rfl, _, rfl, p, _, rfl, ht, ?_, fun t1 ht1 => ?_⟩
          · rintro ⟨_, h1⟩
            have h3 := HT.sIx_nat ((V.str (formE e)) :: labE e :: qs.map V.ref).length ((V.str (formE e)) :: labE e :: qs.map V.ref).length 2
            rw [h3] at h1
            have hl := paired_len hk
            rw [List.length_cons, List.length_cons, List.length_map] at h1
            have hkl : 1 ≤ e.kids.length := by
              cases e with
              | col i => exact absurd ⟨i, rfl⟩ hcol
              | con v => exact absurd ⟨v, rfl⟩ hcon
              | un => simp [Cd.Ex.kids]
              | bin => simp [Cd.Ex.kids]
            omega
          · rw [cut_to]
            have s1 := same_new (o := .tup (List.take 2 (.str (formE e) :: labE e :: qs.map V.ref))) ht1
            refine ⟨_, rfl, _, rfl, _, rfl, p, _, rfl, tup_same s1 ht, ?_, fun t2 ht2 => ?_⟩
            · rintro ⟨h1, _⟩
              have h3 := HT.sIx_nat ((V.str (formE e)) :: labE e :: qs.map V.ref).length 0 2
              rw [h3] at h1
              simp at h1
            · rw [cut_from]
              have s2 := same_new (o := .tup (List.drop 2 (.str (formE e) :: labE e :: qs.map V.ref))) ht2
              refine ⟨t2, rfl, ⟨_, seqT upd_same⟩, fun D hD => ?_⟩
              have s12 : Same H _ := fun b o z => s2 b o (s1 b o z)
              have hql := paired_len hk
              have hkn : e.kids.length ≤ 2 := by cases e <;> simp [Cd.Ex.kids]
              have hT2 : (upd (upd H t1 (.tup (List.take 2 (.str (formE e) :: labE e :: qs.map V.ref)))) t2 (.tup (List.drop 2 (.str (formE e) :: labE e :: qs.map V.ref)))) t2 = some (.tup (qs.map V.ref)) := upd_same
              refine lc_tup (xs := qs.map V.ref) (fun i H' => Same (upd (upd H t1 (.tup (List.take 2 (.str (formE e) :: labE e :: qs.map V.ref)))) t2 (.tup (List.drop 2 (.str (formE e) :: labE e :: qs.map V.ref)))) H' ∧ ∃ rs : List Addr, H' D = some (.lst (rs.map V.ref)) ∧ Exs K H' rs ((e.kids.take i).map (Cd.moved (-m))))
                ⟨same_new hD, [], upd_same, .nil⟩ (fun i H' _ ⟨h, _⟩ => seqT (h _ _ hT2)) ?_ ?_
              · rintro i x H2 hx ⟨s3, rs, hD2, hr2⟩
                obtain ⟨q, hq, rfl⟩ : ∃ q, qs[i]? = some q ∧ V.ref q = x := by
                  rw [List.getElem?_map] at hx
                  cases z : qs[i]? with
                  | none => rw [z] at hx; cases hx
                  | some q => rw [z] at hx; exact ⟨q, rfl, Option.some.inj hx⟩
                have sB : Same H H2 := fun b o z => s3 b o (s12 b o z)
                obtain ⟨kd, hkd, hkq⟩ := paired_get hk hq
                have htk := Cd.kids_ht (List.mem_of_getElem? hkd)
                refine ⟨rfl, _, rfl, _, rfl, q, kd, m, rfl, ex_same sB kd q hkq, by omega, fun H3 r s4 hr3 => ?_⟩
                have hD3 := s4 _ _ hD2
                refine ⟨_, hD3, ?_, ?_, rs ++ [r], ?_, ?_⟩
                · rw [List.length_map]
                  have := paired_len hr2
                  rw [List.length_map, List.length_take] at this
                  exact lt_sz' (by omega)
                · exact fun b o z => by rw [upd_ne (ne_of_none z hD)]; exact s4 b o (s3 b o z)
                · rw [upd_same, List.map_append]; rfl
                · rw [take_next hkd, List.map_append]
                  have hDl : KpL D H3 (upd H3 D (.lst (rs.map V.ref ++ [V.ref r]))) := fun b o hb z => by rw [upd_ne hb]; exact z
                  exact paired_app (exsL hD3 hDl (exs_same s4 hr2)) (.cons (exL hD3 hDl _ r hr3) .nil)
              · rintro H2 ⟨s3, rs, hD2, hr2⟩
                rw [List.length_map, hql, List.take_length] at hr2
                refine ⟨D, _, rfl, .inl ⟨seqL hD2, fun t4 ht4 => ?_⟩⟩
                have s4 := same_new (o := .tup (rs.map V.ref)) ht4
                have hrl := paired_len hr2
                rw [List.length_map] at hrl
                refine ⟨t1, t4, _, _, rfl, rfl, seqT (s4 _ _ (s3 _ _ (s2 _ _ upd_same))), seqT upd_same, by simp, lt_sz (by simp; omega), fun hn => ?_, fun _ t5 ht5 => ?_⟩
                · exfalso
                  have h0 : rs = [] := by simpa using hn
                  rw [h0] at hrl
                  cases e with
                  | col i => exact absurd ⟨i, rfl⟩ hcol
                  | con v => exact absurd ⟨v, rfl⟩ hcon
                  | un => simp [Cd.Ex.kids] at hrl
                  | bin => simp [Cd.Ex.kids] at hrl
                · have s5 := same_new (o := .tup (List.take 2 (.str (formE e) :: labE e :: qs.map V.ref) ++ rs.map V.ref)) ht5
                  have sA : Same H _ := fun b o z => s5 b o (s4 b o (s3 b o (s12 b o z)))
                  refine kk _ t5 sA ?_
                  have hkA := exs_same (fun b o z => s5 b o (s4 b o z)) hr2
                  cases e with
                  | col i => exact absurd ⟨i, rfl⟩ hcol
                  | con v => exact absurd ⟨v, rfl⟩ hcon
                  | un n0 a =>
                    simp only [Cd.Ex.kids, List.map_cons, List.map_nil] at hkA
                    cases hkA with
                    | cons h1 h2 =>
                      cases h2
                      exact ⟨_, seqT upd_same, h1⟩
                  | bin n0 a c =>
                    simp only [Cd.Ex.kids, List.map_cons, List.map_nil] at hkA
                    cases hkA with
                    | cons h1 h2 =>
                      cases h2 with
                      | cons h2 h3 =>
                        cases h3
                        exact ⟨_, _, seqT upd_same, h1, h2⟩
end
end Sb
set_option Elab.async false
set_option maxRecDepth 100000
set_option maxHeartbeats 4000000
namespace Sb
open PySem PySem.Spec PyProof.Rows L2 SX
abbrev s__law_due : Stmt := top 32
abbrev sc__law_due_N : List Str := ["_law_condition_here", "_law_m", "_law_keys", "_law_rest", "_law_part", "_law_sides"]
theorem sc__law_due : FnScope sc__law_due_N ["_law_condition_here", "_law_m"] (defScope s__law_due) := ⟨rfl, rfl, rfl, by decide +kernel, rfl, by decide +kernel, by decide +kernel⟩
abbrev s__law_equal : Stmt := top 33
abbrev sc__law_equal_N : List Str := ["_law_state_here", "_law_width", "_law_first", "_law_second"]
theorem sc__law_equal : FnScope sc__law_equal_N ["_law_state_here", "_law_width"] (defScope s__law_equal) := ⟨rfl, rfl, rfl, by decide +kernel, rfl, by decide +kernel, by decide +kernel⟩
abbrev s__law_condition : Stmt := top 26
abbrev sc__law_condition_N : List Str := ["_law_state_here", "_law_width", "_law_depth", "_law_kind", "_law_name", "_law_column", "_law_value_here"]
theorem sc__law_condition : FnScope sc__law_condition_N ["_law_state_here", "_law_width", "_law_depth"] (defScope s__law_condition) := ⟨rfl, rfl, rfl, by decide +kernel, rfl, by decide +kernel, by decide +kernel⟩
abbrev s__law_halved : Stmt := top 34
abbrev sc__law_halved_N : List Str := ["_law_number", "_law_steps", "_law_size", "_law_k"]
theorem sc__law_halved : FnScope sc__law_halved_N ["_law_number"] (defScope s__law_halved) := ⟨rfl, rfl, rfl, by decide +kernel, rfl, by decide +kernel, by decide +kernel⟩
/-- an expression's answers in one: R says what is needed of them -/
def tCutE (t : TE) : TE := fun σ H Q => ∃ R : V → Hp → Prop, t σ H R ∧ ∀ v H', R v H' → Q v H'
theorem pe_cut {X : Cx} {e : Expr} {t : TE} (h : PE X e t) : PE X e (tCutE t) := by
  refine ⟨fun pins s σ H Q I hq => ?_⟩
  obtain ⟨R, h1, h2⟩ := hq
  exact thn (h.run pins s σ H R I h1) fun u s1 ⟨v, H1, I1, r1, q1⟩ => ⟨v, H1, I1, r1, h2 v H1 q1⟩
def spDue (K : PySem.W.Frag) (n : Nat) : Sp := fun vs H Q _ => ∃ (p : Addr) (e : Cd.Ex) (m : Int), vs = [.ref p, .int m] ∧ ExAt K H e p ∧ e.ht < n ∧ (Cd.cols e).length ≤ 50 ∧ (Cd.parts e).length < n ∧ n ≤ 100 ∧
  ∀ (H' : Hp) (t : Addr), Same H H' → KeysAt K H' t (Cd.split m (Cd.parts e)).1 (Cd.conj n (Cd.split m (Cd.parts e)).2) → Q (.ref t) H'
/-- the sides of a part, as the law notes them -/
def sidesOf (m : Int) : Cd.Ex → Nat × Nat
  | .bin n a b => if n = ("equal" : Str) then (Cd.side a m, Cd.side b m) else (0, 0)
  | _ => (0, 0)
def intD (a b : Nat) : PyData := .tuple [.int (a : Int), .int (b : Int)]
theorem int_shaped (a b : Nat) : SeqAt.shaped (intD a b) = true := by
  unfold SeqAt.shaped intD
  rw [Bool.and_eq_true]
  exact ⟨by simp [PyData.canLay0, PyData.canLayAll0], by simp [PyData.depth, PyData.depthAll]⟩
theorem int_eqv (a b c d : Nat) : PyData.eqv (intD a b) (intD c d) = decide (a = c ∧ b = d) := by
  show (((a : Int) == (c : Int)) && (((b : Int) == (d : Int)) && true)) = _
  by_cases h1 : a = c
  · by_cases h2 : b = d
    · subst h1 h2; simp
    · have : ¬ (b : Int) = (d : Int) := fun q => h2 (by omega)
      simp [h2, this]
  · have : ¬ (a : Int) = (c : Int) := fun q => h1 (by omega)
    simp [h1, this]
theorem int_dp {K : PySem.W.Frag} {H : Hp} {t : Addr} {a b : Nat} (h : H t = some (.tup [.int (a : Int), .int (b : Int)])) : Dp K H (.ref t) (intD a b) := .tup (seqT h) (.cons (.int _) (.cons (.int _) .nil))
/-! ### drawn conditions -/
def names : List Str := ["and", "or", "not", "is null", "equal", "less", "at most", "add", "same"]
def OkE : Cd.Ex → Prop
  | .col i => i.natAbs ≤ 1000
  | .con v => OkV v
  | .un n a => n ∈ names ∧ OkE a
  | .bin n a b => n ∈ names ∧ OkE a ∧ OkE b
structure Gd (e : Cd.Ex) (h c k : Nat) : Prop where
  ok : OkE e
  ht : e.ht ≤ h
  cl : (Cd.cols e).length ≤ c
  pl : (Cd.parts e).length ≤ k
theorem Gd.mono {e : Cd.Ex} {h c k h' c' k' : Nat} (g : Gd e h c k) (a : h ≤ h') (b : c ≤ c') (d : k ≤ k') : Gd e h' c' k' := ⟨g.ok, Nat.le_trans g.ht a, Nat.le_trans g.cl b, Nat.le_trans g.pl d⟩
theorem gd_col {i : Int} (h : i.natAbs ≤ 1000) : Gd (.col i) 0 1 1 := ⟨h, Nat.le_refl _, Nat.le_refl _, Nat.le_refl _⟩
theorem gd_con {v : Cd.Cv} (h : OkV v) : Gd (.con v) 0 0 1 := ⟨h, Nat.le_refl _, Nat.le_refl _, Nat.le_refl _⟩
theorem gd_un {n : Str} {a : Cd.Ex} {h c k : Nat} (hn : n ∈ names) (g : Gd a h c k) : Gd (.un n a) (h + 1) c 1 := ⟨⟨hn, g.ok⟩, Nat.succ_le_succ g.ht, g.cl, Nat.le_refl _⟩
theorem gd_bin {n : Str} {a b : Cd.Ex} {h c k h' c' k' : Nat} (hn : n ∈ names) (g : Gd a h c k) (g' : Gd b h' c' k') : Gd (.bin n a b) (max h h' + 1) (c + c') (k + k') := by
  have h1 := g.ht
  have h2 := g'.ht
  have c1 := g.cl
  have c2 := g'.cl
  have p1 := g.pl
  have p2 := g'.pl
  refine ⟨⟨hn, g.ok, g'.ok⟩, by simp only [Cd.Ex.ht]; omega, by simp only [Cd.cols, List.length_append]; omega, ?_⟩
  rw [Cd.parts]
  split
  · rw [List.length_append]; omega
  · have := parts_pos a
    simp only [List.length_singleton]; omega
def spCond (K : PySem.W.Frag) (n : Nat) : Sp := fun vs H Q _ => ∃ (p : Addr) (w : Int) (d : Nat), vs = [.ref p, .int w, .int (d : Int)] ∧ Dr H p ∧ 0 < w ∧ w ≤ 1000 ∧ d < n ∧
  ∀ (e : Cd.Ex) (H' : Hp) (q : Addr), Gd e (d + 1) (2 * 2 ^ d) (2 ^ d) → Kp p H H' → ExAt K H' e q → Q (.ref q) H'
def spEqual (K : PySem.W.Frag) : Sp := fun vs H Q _ => ∃ (p : Addr) (w : Int), vs = [.ref p, .int w] ∧ Dr H p ∧ 0 < w ∧ w ≤ 1000 ∧
  ∀ (e : Cd.Ex) (H' : Hp) (q : Addr), Gd e 2 3 3 → Kp p H H' → ExAt K H' e q → Q (.ref q) H'
def spLHalv : Sp := fun vs H Q _ => ∃ n : Nat, vs = [.int (n : Int)] ∧ n ≤ 2 ^ 60 ∧ Q (.int ((Cd.halv n : Nat) : Int)) H
theorem exKp {K : PySem.W.Frag} {p : Addr} {H H' : Hp} (d : Dr H p) (k : Kp p H H') (e : Cd.Ex) (q : Addr) (h : ExAt K H e q) : ExAt K H' e q := by
  obtain ⟨z, hz⟩ := d
  exact exL hz k.1 e q h
theorem atI2 {α : Type} {x : α} {l : List α} {i : Int} {j : Nat} (hi : i = (j : Int)) (h : l[j]? = some x) : atI l i = some x := by
  subst hi
  exact atI_nat h
section
variable {P : Program} {w : World} {K : PySem.W.Frag} {mg : Str → Option Value} {base : Heap} {pT pW : Addr}
theorem ok__law_halved {f : Addr} {fd : FuncData} (F : Fun K "_law_halved" "_law_halved" s__law_halved f fd) (T : Txt K mg pT pW) : FnOk P w K mg base CX0 1 f fd ["_law_number"] spLHalv := by
  refine F.ok sc__law_halved (fun vs H Q E h => ?_) (fun cdv A outer s H vs Q E hr h => ?_)
  · obtain ⟨_, rfl, _⟩ := h
    rfl
  · obtain ⟨n, rfl, hn, kk⟩ := h
    refine ⟨_, (pss_cons (ps_set (i := 1) sc__law_halved.nd rfl (Or.inl rfl) pe_int)
  (pss_cons (ps_set (i := 2) sc__law_halved.nd rfl (Or.inl rfl) pe_int)
  (pss_cons (ps_for PassesOwn.never rfl (pi_range1 rfl T.n_range (pa_cons pe_int pa_nil)) (pg_name (i := 3) sc__law_halved.nd rfl (Or.inl rfl)) (pss_cons (ps_if (pt_cmpR op_ge (pv 2) (pv 0) (nomark _)) (pss_one ps_break) pss_nil)
  (pss_cons (ps_set (i := 2) sc__law_halved.nd rfl (Or.inl rfl) (pe_op op_mul pe_int (pv 2)))
  (pss_one (ps_aug (i := 1) sc__law_halved.nd rfl (.inl rfl) pe_int ip_add)))))
  (pss_one (ps_ret (pv 1)))))), ?_⟩
    have hend : ∀ (j : Nat) (x3 : Option V), Cd.halv n = j → tRet (tVar 1) { nx := fun _ H' => Q .non H', rt := Q } [some (.int (n : Int)), some (.int (j : Int)), x3, x3] H → Q (.int (j : Int)) H := fun j x3 hj _ => by rw [hj] at kk; exact kk
    refine ⟨_, rfl, by decide, by decide, for_range (lo := 0) (n := 60) (fun i σ H' => ∃ x3 : Option V, σ = [some (.int (n : Int)), some (.int (i : Int)), some (.int ((2 ^ i : Nat) : Int)), x3] ∧ H' = H ∧ ∀ k, k < i → ¬ n ≤ 2 ^ k)
      ⟨none, rfl, rfl, fun k hk => absurd hk (Nat.not_lt_zero _)⟩ ?_ ?_⟩
    · rintro i σ H' hi ⟨x3, rfl, rfl, hk⟩
      refine ⟨_, rfl, _, rfl, _, _, rfl, rfl, _, rfl, ?_⟩
      refine ite2 (fun h => ?_) (fun h => ?_)
      · have h1 : n ≤ 2 ^ i := by have := of_decide_eq_true h; exact Int.ofNat_le.mp this
        have hj := Cd.halvF_of hn h1 hk
        refine ⟨_, rfl, ?_⟩
        have : Cd.halv n = i := hj
        rw [this] at kk
        exact kk
      · have h1 : ¬ n ≤ 2 ^ i := fun q => h (decide_eq_true (Int.ofNat_le.mpr q))
        refine ⟨_, rfl, _, _, rfl, rfl, .inl ⟨by decide, by decide⟩, ?_⟩
        refine ⟨_, rfl, _, _, rfl, rfl, ?_⟩
        refine ⟨some (.int ((0 : Int) + (i : Int))), ?_, rfl, fun k hk2 => ?_⟩
        · have e1 : (2 : Int) * ((2 ^ i : Nat) : Int) = ((2 ^ (i + 1) : Nat) : Int) := by rw [Nat.pow_succ]; omega
          show [some (V.int (n : Int)), some (V.int ((i : Int) + 1)), some (V.int ((2 : Int) * ((2 ^ i : Nat) : Int))), some (V.int ((0 : Int) + (i : Int)))] = _
          rw [e1]
          rfl
        · rcases Nat.lt_succ_iff_lt_or_eq.mp hk2 with h | h
          · exact hk k h
          · rw [h]; exact h1
    · rintro σ H' ⟨x3, rfl, rfl, hk⟩
      have hj : Cd.halv n = 60 := Cd.halvF_of hn hn hk
      rw [hj] at kk
      exact ⟨_, rfl, kk⟩
theorem ok__law_due {n : Nat} {f : Addr} {fd : FuncData} (F : Fun K "_law_due" "_law_due" s__law_due f fd) (T : Txt K mg pT pW) (C__law_parts : Cal P w K mg base CX0 (n + 1) "_law_parts" (spCParts K n)) (C__law_side : Cal P w K mg base CX0 (n + 2) "_law_side" (spLSide K n)) (C__law_moved : Cal P w K mg base CX0 (n + 1) "_law_moved" (spLMoved K n)) (C__law_joined : Cal P w K mg base CX0 (n + 1) "_law_joined" (spConj K n)) : FnOk P w K mg base CX0 (n + 3) f fd ["_law_condition_here", "_law_m"] (spDue K n) := by
  refine F.ok sc__law_due (fun vs H Q E h => ?_) (fun cdv A outer s H vs Q E hr h => ?_)
  · obtain ⟨_, _, _, rfl, _⟩ := h
    rfl
  · obtain ⟨p, e, m, rfl, he, hht, hlen, hpl, hn, kk⟩ := h
    refine ⟨_, (pss_cons (ps_set (i := 2) sc__law_due.nd rfl (Or.inl rfl) (pe_lst pa_nil))
  (pss_cons (ps_set (i := 3) sc__law_due.nd rfl (Or.inl rfl) (pe_lst pa_nil))
  (pss_cons (ps_for PassesOwn.never rfl (pi_list (pe_k C__law_parts hr (by omega) (by rfl) pass0 (pa_cons (pv 0) pa_nil))) (pg_name (i := 4) sc__law_due.nd rfl (Or.inl rfl)) (pss_cons (ps_set (i := 5) sc__law_due.nd rfl (Or.inl rfl) (pe_tup (pa_cons pe_int (pa_cons pe_int pa_nil))))
  (C8.pss_cut (ps_if (PW.pt (pw_and (pt_cmpR op_eq (pe_ix ix_tup (pv 4) pe_int (fun _ _ => rfl)) pe_str (nomark _)) (pw_and1 (pt_cmpR op_eq (pe_ix ix_tup (pv 4) pe_int (fun _ _ => rfl)) pe_str (nomark _))))) (pss_one (ps_set (i := 5) sc__law_due.nd rfl (Or.inl rfl) (pe_tup (pa_cons (pe_k C__law_side hr (by omega) (by rfl) pass0 (pa_cons (pe_ix ix_tup (pv 4) pe_int (fun _ _ => rfl)) (pa_cons (pv 1) pa_nil))) (pa_cons (pe_k C__law_side hr (by omega) (by rfl) pass0 (pa_cons (pe_ix ix_tup (pv 4) pe_int (fun _ _ => rfl)) (pa_cons (pv 1) pa_nil))) pa_nil))))) pss_nil)
  (pss_one (ps_if (pt_cmpR (op_eqD hr.units) (pv 5) (pe_tup (pa_cons pe_int (pa_cons pe_int pa_nil))) (nomark _)) (pss_one (ps_expr (pe_bm PySem.F.plainAttrs_list PySem.F.slot_list_append PySem.F.type_list_append mt_append (pv 2) (pa_cons (pe_tup (pa_cons (pe_ix ix_tup (pv 4) pe_int (fun _ _ => rfl)) (pa_cons (pe_k C__law_moved hr (by omega) (by rfl) pass0 (pa_cons (pe_ix ix_tup (pv 4) pe_int (fun _ _ => rfl)) (pa_cons (pv 1) pa_nil))) pa_nil))) pa_nil)))) (pss_one (ps_if (pt_cmpR (op_eqD hr.units) (pv 5) (pe_tup (pa_cons pe_int (pa_cons pe_int pa_nil))) (nomark _)) (pss_one (ps_expr (pe_bm PySem.F.plainAttrs_list PySem.F.slot_list_append PySem.F.type_list_append mt_append (pv 2) (pa_cons (pe_tup (pa_cons (pe_ix ix_tup (pv 4) pe_int (fun _ _ => rfl)) (pa_cons (pe_k C__law_moved hr (by omega) (by rfl) pass0 (pa_cons (pe_ix ix_tup (pv 4) pe_int (fun _ _ => rfl)) (pa_cons (pv 1) pa_nil))) pa_nil))) pa_nil)))) (pss_one (ps_expr (pe_bm PySem.F.plainAttrs_list PySem.F.slot_list_append PySem.F.type_list_append mt_append (pv 3) (pa_cons (pv 4) pa_nil)))))))))))
  (pss_one (ps_ret (pe_tup (pa_cons (pv 2) (pa_cons (pe_k C__law_joined hr (by omega) (by rfl) pass0 (pa_cons (pv 3) pa_nil)) pa_nil)))))))), ?_⟩
    refine ⟨Nat.zero_le _, fun LK hLK => ?_⟩
    have s1 := same_new (o := .lst []) hLK
    refine ⟨Nat.zero_le _, fun LR hLR => ?_⟩
    have s2 := same_new (o := .lst []) hLR
    have nKR : LK ≠ LR := (ne_of_none (show upd H LK (.lst []) LK = some _ from upd_same) hLR)
    have hLRH : H LR = none := Same.free s1 hLR
    have s12 : Same H _ := fun b o z => s2 b o (s1 b o z)
    refine ⟨_, rfl, p, e, rfl, ex_same s12 e p he, hht, by omega, fun H3 M qs hM s3 hM3 hx3 => ?_⟩
    have nMK : M ≠ LK := (ne_of_none (s2 _ _ (show upd H LK (.lst []) LK = some _ from upd_same)) hM).symm
    have nMR : M ≠ LR := (ne_of_none (show upd _ LR (.lst []) LR = some _ from upd_same) hM).symm
    have hK3 : H3 LK = some (.lst []) := s3 _ _ (s2 _ _ upd_same)
    have hR3 : H3 LR = some (.lst []) := s3 _ _ upd_same
    have s03 : Same H H3 := fun b o z => s3 b o (s12 b o z)
    have hqs := paired_len hx3
    refine ⟨M, rfl, ⟨_, seqL hM3⟩, for_list (xs := qs.map V.ref) (fun i σ H' => ∃ (x4 x5 : Option V) (ks : List Addr) (rs : List Addr), σ = [some (.ref p), some (.int m), some (.ref LK), some (.ref LR), x4, x5] ∧ Same H H' ∧ H' M = some (.lst (qs.map V.ref)) ∧ Exs K H' qs (Cd.parts e) ∧
        H' LK = some (.lst (ks.map V.ref)) ∧ H' LR = some (.lst (rs.map V.ref)) ∧ Paired (KeyAt K H') ks (Cd.split m ((Cd.parts e).take i)).1 ∧ Exs K H' rs (Cd.split m ((Cd.parts e).take i)).2)
      ⟨none, none, [], [], rfl, s03, hM3, hx3, hK3, hR3, .nil, .nil⟩ (fun i σ H' _ ⟨_, _, _, _, _, _, h, _⟩ => seqL h) ?_ ?_⟩
    · rintro i x σ H4 hx ⟨x4, x5, ks, rs, rfl, s4, hM4, hx4, hK4, hR4, pk, pr⟩
      obtain ⟨q, hq, rfl⟩ : ∃ q, qs[i]? = some q ∧ V.ref q = x := by
        rw [List.getElem?_map] at hx
        cases z : qs[i]? with
        | none => rw [z] at hx; cases hx
        | some q => rw [z] at hx; exact ⟨q, rfl, Option.some.inj hx⟩
      obtain ⟨pt, hpt, hpq⟩ := paired_get hx4 hq
      have hmem := List.mem_of_getElem? hpt
      have hfold := parts_fold (m := m) hpt
      have l1 := split_len m ((Cd.parts e).take i)
      have lk := paired_len pk
      have lr := paired_len pr
      have lt : ((Cd.parts e).take i).length ≤ (Cd.parts e).length := by rw [List.length_take]; omega
      have hpht := Cd.parts_ht e pt hmem
      have hpc := cols_part e pt hmem
      refine ⟨lt_sz (show 2 ≤ 200000 by decide), fun t0 ht0 => ?_⟩
      have s5 := same_new (o := .tup [.int 0, .int 0]) ht0
      -- the sides
      refine ⟨fun σ' H' => ∃ ts : Addr, σ' = [some (.ref p), some (.int m), some (.ref LK), some (.ref LR), some (.ref q), some (.ref ts)] ∧ Same H4 H' ∧ H' ts = some (.tup [.int ((sidesOf m pt).1 : Int), .int ((sidesOf m pt).2 : Int)]), ?_, ?_⟩
      · obtain ⟨qs0, htq, _⟩ := ex_tup (ex_same s5 _ q hpq)
        refine ⟨_, rfl, q, _, _, _, rfl, rfl, htq, at0, rfl, _, rfl, ?_⟩
        rw [form_bin]
        cases pt with
        | col i => exact iteF (iteF ⟨t0, rfl, s5, upd_same⟩)
        | con v => exact iteF (iteF ⟨t0, rfl, s5, upd_same⟩)
        | un l a => exact iteF (iteF ⟨t0, rfl, s5, upd_same⟩)
        | bin l a c =>
          obtain ⟨qa, qc, htq, ha, hc⟩ := ex_same s5 _ q hpq
          simp only [Cd.Ex.ht] at hpht
          simp only [Cd.cols, List.length_append] at hpc
          refine iteT ?_
          refine ⟨_, rfl, q, _, _, _, rfl, rfl, htq, at1, rfl, _, rfl, ?_⟩
          rw [strD]
          by_cases heq : l = ("equal" : Str)
          · have hd : decide (l = ("equal" : Str)) = true := decide_eq_true heq
            rw [hd]
            refine iteT ?_
            refine ⟨_, rfl, q, _, _, _, rfl, rfl, htq, at2, _, rfl, qa, a, m, rfl, ha, by omega, by omega, fun H6 s6 => ?_⟩
            refine ⟨_, rfl, q, _, _, _, rfl, rfl, tup_same s6 htq, at3, _, rfl, qc, c, m, rfl, ex_same s6 c qc hc, by omega, by omega, fun H7 s7 => ?_⟩
            refine ⟨lt_sz (show 2 ≤ 200000 by decide), fun t8 ht8 => ?_⟩
            refine ⟨t8, rfl, fun b o z => same_new ht8 b o (s7 b o (s6 b o (s5 b o z))), ?_⟩
            rw [upd_same, sidesOf, if_pos heq]
          · have hd : decide (l = ("equal" : Str)) = false := decide_eq_false heq
            rw [hd]
            refine iteF ⟨t0, rfl, s5, ?_⟩
            rw [upd_same, sidesOf, if_neg heq]
            rfl
      · rintro _ H5 ⟨ts, rfl, s45, hts⟩
        have s05 : Same H H5 := fun b o z => s45 b o (s4 b o z)
        have hK5 := s45 _ _ hK4
        have hR5 := s45 _ _ hR4
        -- a key is noted
        have hkey : ∀ (H6 : Hp) (t a' c' : Addr) (ka kc : Cd.Ex), Same H5 H6 → Cd.keyOf m pt = some (ka, kc) → H6 t = some (.tup [.ref a', .ref c']) → ExAt K H6 ka a' → ExAt K H6 kc c' →
            ∃ (x4 x5 : Option V) (ks' rs' : List Addr), [some (V.ref p), some (.int m), some (.ref LK), some (.ref LR), some (.ref q), some (.ref ts)] = [some (.ref p), some (.int m), some (.ref LK), some (.ref LR), x4, x5] ∧ Same H (upd H6 LK (.lst (ks.map V.ref ++ [.ref t]))) ∧ (upd H6 LK (.lst (ks.map V.ref ++ [.ref t]))) M = some (.lst (qs.map V.ref)) ∧ Exs K (upd H6 LK (.lst (ks.map V.ref ++ [.ref t]))) qs (Cd.parts e) ∧
              (upd H6 LK (.lst (ks.map V.ref ++ [.ref t]))) LK = some (.lst (ks'.map V.ref)) ∧ (upd H6 LK (.lst (ks.map V.ref ++ [.ref t]))) LR = some (.lst (rs'.map V.ref)) ∧ Paired (KeyAt K (upd H6 LK (.lst (ks.map V.ref ++ [.ref t])))) ks' (Cd.split m ((Cd.parts e).take (i + 1))).1 ∧ Exs K (upd H6 LK (.lst (ks.map V.ref ++ [.ref t]))) rs' (Cd.split m ((Cd.parts e).take (i + 1))).2 := by
          intro H6 t a' c' ka kc s6 hsome h6 ha hc
          rw [hsome] at hfold
          have hK6 := s6 _ _ hK5
          have s46 : Same H4 H6 := fun b o z => s6 b o (s45 b o z)
          have kR : KpL LK H6 (upd H6 LK (.lst (ks.map V.ref ++ [.ref t]))) := fun b o hb z => by rw [upd_ne hb]; exact z
          refine ⟨_, _, ks ++ [t], rs, rfl, same_mut (fun b o z => s6 b o (s05 b o z)) hLK, kR _ _ nMK (s46 _ _ hM4), exsL hK6 kR (exs_same s46 hx4), by rw [upd_same, List.map_append]; rfl, kR _ _ nKR.symm (s46 _ _ hR4), ?_, ?_⟩
          · rw [hfold]
            exact paired_app (paired_mono (fun a b h => keyL hK6 kR a b (key_same s46 a b h)) pk) (.cons (keyL hK6 kR t (ka, kc) ⟨a', c', h6, ha, hc⟩) .nil)
          · rw [hfold]
            exact exsL hK6 kR (exs_same s46 pr)
        refine ⟨_, rfl, lt_sz (show 2 ≤ 200000 by decide), fun t6 ht6 => ?_⟩
        have s6 := same_new (o := .tup [.int ((1 : Nat) : Int), .int ((2 : Nat) : Int)]) ht6
        refine ⟨intD (sidesOf m pt).1 (sidesOf m pt).2, intD 1 2, int_dp (s6 _ _ hts), int_dp upd_same, int_shaped _ _, int_shaped 1 2, _, rfl, ?_⟩
        rw [int_eqv]
        refine ite2 (fun h1 => ?_) (fun h1 => ?_)
        · have h1' := of_decide_eq_true h1
          cases pt with
          | col i => simp [sidesOf] at h1'
          | con v => simp [sidesOf] at h1'
          | un l a => simp [sidesOf] at h1'
          | bin l a c =>
            rw [sidesOf] at h1'
            by_cases heq : l = ("equal" : Str)
            · rw [if_pos heq] at h1'
              have hko : Cd.keyOf m (.bin l a c) = some (a, Cd.moved (-m) c) := by
                rw [Cd.keyOf, if_pos heq, if_pos h1']
              have s46 : Same H4 _ := fun b o z => s6 b o (s45 b o z)
              obtain ⟨qa, qc, htq, ha, hc⟩ := ex_same s46 _ q hpq
              simp only [Cd.Ex.ht] at hpht
              refine ⟨_, rfl, .inl ⟨rfl, _, seqL (s6 _ _ hK5)⟩, _, rfl, q, _, _, _, rfl, rfl, htq, at2, ?_⟩
              refine ⟨_, rfl, q, _, _, _, rfl, rfl, htq, at3, _, rfl, qc, c, m, rfl, hc, by omega, fun H7 q7 s7 hq7 => ?_⟩
              refine ⟨lt_sz (show 2 ≤ 200000 by decide), fun t8 ht8 => ?_⟩
              have s8 := same_new (o := .tup [.ref qa, .ref q7]) ht8
              refine ⟨LK, _, _, rfl, rfl, s8 _ _ (s7 _ _ (s6 _ _ hK5)), by rw [List.length_map]; exact lt_sz' (by omega), ?_⟩
              exact hkey _ t8 qa q7 a _ (fun b o z => s8 b o (s7 b o (s6 b o z))) hko upd_same (ex_same (fun b o z => s8 b o (s7 b o z)) a qa ha) (ex_same s8 _ q7 hq7)
            · rw [if_neg heq] at h1'
              simp at h1'
        · have h1' : ¬ ((sidesOf m pt).1 = 1 ∧ (sidesOf m pt).2 = 2) := fun z => h1 (decide_eq_true z)
          refine ⟨_, rfl, lt_sz (show 2 ≤ 200000 by decide), fun t7 ht7 => ?_⟩
          have s7 := same_new (o := .tup [.int ((2 : Nat) : Int), .int ((1 : Nat) : Int)]) ht7
          have s67 : Same H5 _ := fun b o z => s7 b o (s6 b o z)
          refine ⟨intD (sidesOf m pt).1 (sidesOf m pt).2, intD 2 1, int_dp (s67 _ _ hts), int_dp upd_same, int_shaped _ _, int_shaped 2 1, _, rfl, ?_⟩
          rw [int_eqv]
          refine ite2 (fun h2 => ?_) (fun h2 => ?_)
          · have h2' := of_decide_eq_true h2
            cases pt with
            | col i => simp [sidesOf] at h2'
            | con v => simp [sidesOf] at h2'
            | un l a => simp [sidesOf] at h2'
            | bin l a c =>
              rw [sidesOf] at h1' h2'
              by_cases heq : l = ("equal" : Str)
              · rw [if_pos heq] at h1' h2'
                have hko : Cd.keyOf m (.bin l a c) = some (c, Cd.moved (-m) a) := by
                  rw [Cd.keyOf, if_pos heq, if_neg h1', if_pos h2']
                have s46 : Same H4 _ := fun b o z => s67 b o (s45 b o z)
                obtain ⟨qa, qc, htq, ha, hc⟩ := ex_same s46 _ q hpq
                simp only [Cd.Ex.ht] at hpht
                refine ⟨_, rfl, .inl ⟨rfl, _, seqL (s67 _ _ hK5)⟩, _, rfl, q, _, _, _, rfl, rfl, htq, at3, ?_⟩
                refine ⟨_, rfl, q, _, _, _, rfl, rfl, htq, at2, _, rfl, qa, a, m, rfl, ha, by omega, fun H8 q8 s8 hq8 => ?_⟩
                refine ⟨lt_sz (show 2 ≤ 200000 by decide), fun t9 ht9 => ?_⟩
                have s9 := same_new (o := .tup [.ref qc, .ref q8]) ht9
                refine ⟨LK, _, _, rfl, rfl, s9 _ _ (s8 _ _ (s67 _ _ hK5)), by rw [List.length_map]; exact lt_sz' (by omega), ?_⟩
                exact hkey _ t9 qc q8 c _ (fun b o z => s9 b o (s8 b o (s67 b o z))) hko upd_same (ex_same (fun b o z => s9 b o (s8 b o z)) c qc hc) (ex_same s9 _ q8 hq8)
              · rw [if_neg heq] at h2'
                simp at h2'
          · have h2' : ¬ ((sidesOf m pt).1 = 2 ∧ (sidesOf m pt).2 = 1) := fun z => h2 (decide_eq_true z)
            have hnone : Cd.keyOf m pt = none := by
              cases pt with
              | col i => rfl
              | con v => rfl
              | un l a => rfl
              | bin l a c =>
                rw [sidesOf] at h1' h2'
                by_cases heq : l = ("equal" : Str)
                · rw [if_pos heq] at h1' h2'
                  rw [Cd.keyOf, if_pos heq, if_neg h1', if_neg h2']
                · rw [Cd.keyOf, if_neg heq]
            rw [hnone] at hfold
            have hR7 := s67 _ _ hR5
            have s47 : Same H4 _ := fun b o z => s67 b o (s45 b o z)
            refine ⟨_, rfl, .inl ⟨rfl, _, seqL hR7⟩, _, rfl, LR, _, _, rfl, rfl, hR7, by rw [List.length_map]; exact lt_sz' (by omega), ?_⟩
            have kR : ∀ H9 : Hp, KpL LR H9 (upd H9 LR (.lst (rs.map V.ref ++ [.ref q]))) := fun H9 b o hb z => by rw [upd_ne hb]; exact z
            refine ⟨_, _, ks, rs ++ [q], rfl, same_mut (fun b o z => s67 b o (s05 b o z)) hLRH, kR _ _ _ nMR (s47 _ _ hM4), exsL hR7 (kR _) (exs_same s47 hx4), kR _ _ _ nKR (s47 _ _ hK4), by rw [upd_same, List.map_append]; rfl, ?_, ?_⟩
            · rw [hfold]
              exact paired_mono (fun a b h => keyL hR7 (kR _) a b (key_same s47 a b h)) pk
            · rw [hfold]
              exact paired_app (exsL hR7 (kR _) (exs_same s47 pr)) (.cons (exL hR7 (kR _) _ q (ex_same s47 _ q hpq)) .nil)
    · rintro σ H4 ⟨x4, x5, ks, rs, rfl, s4, hM4, hx4, hK4, hR4, pk, pr⟩
      rw [List.length_map, hqs, List.take_length] at pk pr
      have l1 := split_len m (Cd.parts e)
      refine ⟨_, rfl, _, rfl, LR, rs, _, rfl, seqL hR4, pr, by omega, by omega, fun H5 q5 s5 hq5 => ?_⟩
      refine ⟨lt_sz (show 2 ≤ 200000 by decide), fun t ht => ?_⟩
      have s6 := same_new (o := .tup [.ref LK, .ref q5]) ht
      have s46 : Same H4 _ := fun b o z => s6 b o (s5 b o z)
      refine kk _ t (fun b o z => s46 b o (s4 b o z)) ⟨LK, q5, ks, upd_same, s46 _ _ hK4, paired_mono (fun a b h => key_same s46 a b h) pk, ex_same s6 _ q5 hq5⟩
end
end Sb
set_option Elab.async false
set_option maxRecDepth 100000
set_option maxHeartbeats 4000000
namespace Sb
open PySem PySem.Spec PyProof.Rows L2 SX

theorem Kp.tup {p q : Addr} {H H1 : Hp} {xs : List V} (k : Kp p H H1) (h : H1 q = none) : Kp p H (upd H1 q (.tup xs)) := k.same (same_new h)
section
variable {P : Program} {w : World} {K : PySem.W.Frag} {mg : Str → Option Value} {base : Heap} {pT pW : Addr}
theorem ok__law_equal {f : Addr} {fd : FuncData} (F : Fun K "_law_equal" "_law_equal" s__law_equal f fd) (C__law_digit : Cal P w K mg base CX0 1 "_law_digit" spDigit) : FnOk P w K mg base CX0 2 f fd ["_law_state_here", "_law_width"] (spEqual K) := by
  refine F.ok sc__law_equal (fun vs H Q E h => ?_) (fun cdv A outer s H vs Q E hr h => ?_)
  · obtain ⟨_, _, rfl, _⟩ := h
    rfl
  · obtain ⟨p, wd, rfl, dr, w0, w1, kk⟩ := h
    refine ⟨_, (pss_cons (ps_set (i := 2) sc__law_equal.nd rfl (Or.inl rfl) (pe_tup (pa_cons pe_str (pa_cons (pe_k C__law_digit hr (by omega) (by rfl) pass0 (pa_cons (pv 0) (pa_cons (pv 1) pa_nil))) pa_nil))))
  (pss_cons (ps_set (i := 3) sc__law_equal.nd rfl (Or.inl rfl) (pe_tup (pa_cons pe_str (pa_cons (pe_k C__law_digit hr (by omega) (by rfl) pass0 (pa_cons (pv 0) (pa_cons (pv 1) pa_nil))) pa_nil))))
  (C8.pss_cut (ps_if (pt_cmpR op_eq (pe_k C__law_digit hr (by omega) (by rfl) pass0 (pa_cons (pv 0) (pa_cons pe_int pa_nil))) pe_int (nomark _)) (pss_one (ps_set (i := 2) sc__law_equal.nd rfl (Or.inl rfl) (pe_tup (pa_cons pe_str (pa_cons pe_str (pa_cons (pv 2) (pa_cons (pe_tup (pa_cons pe_str (pa_cons (pe_k C__law_digit hr (by omega) (by rfl) pass0 (pa_cons (pv 0) (pa_cons (pv 1) pa_nil))) pa_nil))) pa_nil))))))) pss_nil)
  (C8.pss_cut (ps_if (pt_cmpR op_eq (pe_k C__law_digit hr (by omega) (by rfl) pass0 (pa_cons (pv 0) (pa_cons pe_int pa_nil))) pe_int (nomark _)) (pss_one (ps_set (i := 3) sc__law_equal.nd rfl (Or.inl rfl) (pe_tup (pa_cons pe_str (pa_cons pe_int pa_nil))))) pss_nil)
  (pss_one (ps_ret (pe_tup (pa_cons pe_str (pa_cons (pe_ix ix_tup (pe_tup (pa_cons pe_str (pa_cons pe_str (pa_cons pe_str pa_nil)))) (pe_k C__law_digit hr (by omega) (by rfl) pass0 (pa_cons (pv 0) (pa_cons pe_int pa_nil))) (fun _ _ => rfl)) (pa_cons (pv 2) (pa_cons (pv 3) pa_nil))))))))))), ?_⟩
    refine ⟨_, rfl, _, rfl, p, wd, rfl, dr, w0, by omega, fun d1 H1 a0 a1 k1 => ?_⟩
    refine ⟨lt_sz (show 2 ≤ 200000 by decide), fun q1 hq1 => ?_⟩
    have k1' := k1.tup (xs := [.str "column", .int d1]) hq1
    refine ⟨_, rfl, _, rfl, p, wd, rfl, k1'.dr, w0, by omega, fun d2 H2 b0 b1 k2 => ?_⟩
    refine ⟨lt_sz (show 2 ≤ 200000 by decide), fun q2 hq2 => ?_⟩
    have k2' := k2.tup (xs := [.str "column", .int d2]) hq2
    have e1 : ExAt K (upd H2 q2 (.tup [.str "column", .int d2])) (.col d1) q1 := exKp k1'.dr k2' (.col d1) q1 (seqT upd_same)
    have e2 : ExAt K (upd H2 q2 (.tup [.str "column", .int d2])) (.col d2) q2 := seqT upd_same
    have k12 := k1'.trans k2'
    refine ⟨fun σ' H' => ∃ (a : Cd.Ex) (qa : Addr), σ' = [some (.ref p), some (.int wd), some (.ref qa), some (.ref q2)] ∧ Gd a 1 2 2 ∧ ExAt K H' a qa ∧ ExAt K H' (.col d2) q2 ∧ Kp p H H', ?_, ?_⟩
    · refine ⟨_, rfl, p, 3, rfl, k12.dr, by decide, by decide, fun d3 H3 _ _ k3 => ?_⟩
      refine ⟨rfl, _, rfl, ?_⟩
      refine ite2 (fun _ => ?_) (fun _ => ?_)
      · refine ⟨_, rfl, _, rfl, _, rfl, p, wd, rfl, k3.dr, w0, by omega, fun d4 H4 c0 c1 k4 => ?_⟩
        refine ⟨lt_sz (show 2 ≤ 200000 by decide), fun q4 hq4 => ?_⟩
        have k4' := k4.tup (xs := [.str "column", .int d4]) hq4
        refine ⟨lt_sz (show 4 ≤ 200000 by decide), fun q5 hq5 => ?_⟩
        have k5 := (k3.trans k4').tup (xs := [.str "binary", .str "add", .ref q1, .ref q4]) hq5
        have e4 : ExAt K _ (.col d4) q4 := ex_same (same_new (o := .tup [.str "binary", .str "add", .ref q1, .ref q4]) hq5) (.col d4) q4 (seqT upd_same)
        refine ⟨.bin "add" (.col d1) (.col d4), q5, rfl, (gd_bin (by decide) (gd_col (by omega)) (gd_col (by omega))).mono (by decide) (by decide) (by decide), ⟨q1, q4, seqT upd_same, exKp k12.dr k5 _ q1 e1, e4⟩, exKp k12.dr k5 _ q2 e2, k12.trans k5⟩
      · exact ⟨.col d1, q1, rfl, (gd_col (by omega)).mono (by decide) (by decide) (by decide), exKp k12.dr k3 _ q1 e1, exKp k12.dr k3 _ q2 e2, k12.trans k3⟩
    rintro _ H3 ⟨a, qa, rfl, ga, ea, e2, k3⟩
    refine ⟨fun σ' H' => ∃ (b : Cd.Ex) (qb : Addr), σ' = [some (.ref p), some (.int wd), some (.ref qa), some (.ref qb)] ∧ Gd b 0 1 1 ∧ ExAt K H' a qa ∧ ExAt K H' b qb ∧ Kp p H H', ?_, ?_⟩
    · refine ⟨_, rfl, p, 6, rfl, k3.dr, by decide, by decide, fun d4 H4 _ _ k4 => ?_⟩
      refine ⟨rfl, _, rfl, ?_⟩
      refine ite2 (fun _ => ?_) (fun _ => ?_)
      · refine ⟨lt_sz (show 2 ≤ 200000 by decide), fun q5 hq5 => ?_⟩
        have k5 := k4.tup (xs := [.str "constant", .int 5]) hq5
        exact ⟨.con (.int 5), q5, rfl, (gd_con (v := .int 5) (show (5 : Int).natAbs ≤ 1000000000000000 by decide)).mono (by decide) (by decide) (by decide), exKp k3.dr k5 _ qa ea, seqT upd_same, k3.trans k5⟩
      · exact ⟨.col d2, q2, rfl, gd_col (by omega), exKp k3.dr k4 _ qa ea, exKp k3.dr k4 _ q2 e2, k3.trans k4⟩
    rintro _ H4 ⟨b, qb, rfl, gb, ea, eb, k4⟩
    refine ⟨lt_sz (show 3 ≤ 200000 by decide), fun t ht => ?_⟩
    have k5 := k4.tup (xs := [.str "equal", .str "equal", .str "same"]) ht
    refine ⟨_, rfl, p, 3, rfl, k5.dr, by decide, by decide, fun d6 H6 f0 f1 k6 => ?_⟩
    have hT : H6 t = some (.tup [.str "equal", .str "equal", .str "same"]) := by
      refine k6.1 _ _ (fun z => ?_) upd_same
      obtain ⟨y, hy⟩ := k4.dr
      rw [z] at ht
      rw [hy] at ht
      cases ht
    obtain ⟨nm, hnm, hat⟩ : ∃ nm ∈ names, atI [V.str "equal", .str "equal", .str "same"] d6 = some (.str nm) := by
      have : d6 = 0 ∨ d6 = 1 ∨ d6 = 2 := by omega
      rcases this with rfl | rfl | rfl
      · exact ⟨"equal", by decide, rfl⟩
      · exact ⟨"equal", by decide, rfl⟩
      · exact ⟨"same", by decide, rfl⟩
    refine ⟨t, _, _, _, rfl, rfl, seqT hT, hat, ?_⟩
    refine ⟨_, rfl, _, rfl, lt_sz (show 4 ≤ 200000 by decide), fun q7 hq7 => ?_⟩
    have k7 := (k5.trans k6).tup (xs := [.str "binary", .str nm, .ref qa, .ref qb]) hq7
    have kl : Kp p H4 (upd H6 q7 (.tup [.str "binary", .str nm, .ref qa, .ref qb])) := ((Kp.refl k4.dr).tup ht |>.trans k6).tup hq7
    exact kk _ _ q7 ((gd_bin hnm ga gb).mono (by decide) (by decide) (by decide)) k7 ⟨qa, qb, seqT upd_same, exKp k4.dr kl _ qa ea, exKp k4.dr kl _ qb eb⟩
theorem ok__law_condition {f : Addr} {fd : FuncData} (F : Fun K "_law_condition" "_law_condition" s__law_condition f fd) (C__law_digit : Cal P w K mg base CX0 1 "_law_digit" spDigit) (C__law_value : Cal P w K mg base CX0 3 "_law_value" spValue) (hm : mg "_law_condition" = some (.ref f)) (kp : PySem.W.keepIn K (.ref f) = true) (b : Binds K fd ["_law_state_here", "_law_width", "_law_depth"] []) :
    ∀ n : Nat, FnOk P w K mg base CX0 (n + 3) f fd ["_law_state_here", "_law_width", "_law_depth"] (spCond K n)
  | 0 => by
    refine ⟨fun vs H Q E h => ?_, fun A outer s H args us vs Q E hr he hb hv h => ?_⟩
    · obtain ⟨_, _, _, rfl, _⟩ := h
      rfl
    · obtain ⟨_, _, _, _, _, _, _, h, _⟩ := h
      omega
  | n + 1 => by
    have C__law_condition : Cal P w K mg base CX0 (n + 3) "_law_condition" (spCond K n) := ⟨_, _, _, ok__law_condition F C__law_digit C__law_value hm kp b n, hm, kp, b⟩
    refine F.ok sc__law_condition (fun vs H Q E h => ?_) (fun cdv A outer s H vs Q E hr h => ?_)
    · obtain ⟨_, _, _, rfl, _⟩ := h
      rfl
    · obtain ⟨p, wd, d, rfl, dr, w0, w1, hdn, kk⟩ := h
      refine ⟨_, (pss_cons (ps_set (i := 3) sc__law_condition.nd rfl (Or.inl rfl) (pe_k C__law_digit hr (by omega) (by rfl) pass0 (pa_cons (pv 0) (pa_cons pe_int pa_nil))))
  (C8.pss_cut (ps_if (PW.pt (pw_and (pt_cmpR op_gt (pv 2) pe_int (nomark _)) (pw_and1 (pt_cmpR op_lt (pv 3) pe_int (nomark _))))) (pss_cons (ps_set (i := 4) sc__law_condition.nd rfl (Or.inl rfl) (pe_ix ix_tup (pe_tup (pa_cons pe_str (pa_cons pe_str (pa_cons pe_str pa_nil)))) (pv 3) (fun _ _ => rfl)))
  (pss_one (ps_ret (pe_tup (pa_cons pe_str (pa_cons (pv 4) (pa_cons (pe_k C__law_condition hr (by omega) (by rfl) pass0 (pa_cons (pv 0) (pa_cons (pv 1) (pa_cons (pe_op op_sub (pv 2) pe_int) pa_nil)))) (pa_cons (pe_k C__law_condition hr (by omega) (by rfl) pass0 (pa_cons (pv 0) (pa_cons (pv 1) (pa_cons (pe_op op_sub (pv 2) pe_int) pa_nil)))) pa_nil)))))))) pss_nil)
  (C8.pss_cut (ps_if (PW.pt (pw_and (pt_cmpR op_gt (pv 2) pe_int (nomark _)) (pw_and1 (pt_cmpR op_eq (pv 3) pe_int (nomark _))))) (pss_one (ps_ret (pe_tup (pa_cons pe_str (pa_cons pe_str (pa_cons (pe_k C__law_condition hr (by omega) (by rfl) pass0 (pa_cons (pv 0) (pa_cons (pv 1) (pa_cons (pe_op op_sub (pv 2) pe_int) pa_nil)))) pa_nil)))))) pss_nil)
  (pss_cons (ps_set (i := 5) sc__law_condition.nd rfl (Or.inl rfl) (pe_tup (pa_cons pe_str (pa_cons (pe_k C__law_digit hr (by omega) (by rfl) pass0 (pa_cons (pv 0) (pa_cons (pv 1) pa_nil))) pa_nil))))
  (pss_cons (ps_if (pt_cmpR op_eq (pv 3) pe_int (nomark _)) (pss_one (ps_ret (pe_tup (pa_cons pe_str (pa_cons pe_str (pa_cons (pv 5) pa_nil)))))) pss_nil)
  (pss_cons (ps_if (pt_cmpR op_eq (pv 3) pe_int (nomark _)) (pss_one (ps_ret (pe_tup (pa_cons pe_str (pa_cons pe_str (pa_cons (pv 5) (pa_cons (pe_tup (pa_cons pe_str (pa_cons (pe_k C__law_digit hr (by omega) (by rfl) pass0 (pa_cons (pv 0) (pa_cons (pv 1) pa_nil))) pa_nil))) pa_nil))))))) pss_nil)
  (pss_cons (ps_set (i := 4) sc__law_condition.nd rfl (Or.inl rfl) (pe_cut (pe_ifExp (pt_cmpR op_gt (pv 3) pe_int (nomark _)) (pe_ix ix_tup (pe_tup (pa_cons pe_str (pa_cons pe_str (pa_cons pe_str (pa_cons pe_str pa_nil))))) (pe_op op_sub (pv 3) pe_int) (fun _ _ => rfl)) pe_str)))
  (pss_cons (ps_set (i := 6) sc__law_condition.nd rfl (Or.inl rfl) (pe_tup (pa_cons pe_str (pa_cons (pe_k C__law_value hr (by omega) (by rfl) pass0 (pa_cons (pv 0) pa_nil)) pa_nil))))
  (pss_cons (ps_if (pt_cmpR op_eq (pe_k C__law_digit hr (by omega) (by rfl) pass0 (pa_cons (pv 0) (pa_cons pe_int pa_nil))) pe_int (nomark _)) (pss_one (ps_ret (pe_tup (pa_cons pe_str (pa_cons (pv 4) (pa_cons (pv 6) (pa_cons (pv 5) pa_nil))))))) pss_nil)
  (pss_one (ps_ret (pe_tup (pa_cons pe_str (pa_cons (pv 4) (pa_cons (pv 5) (pa_cons (pv 6) pa_nil)))))))))))))))), ?_⟩
      have kk1 : ∀ (e : Cd.Ex) (H' : Hp) (q : Addr), Gd e 1 2 1 → Kp p H H' → ExAt K H' e q → Q (.ref q) H' := fun e H' q g => kk e H' q (g.mono (by omega) (by have := Nat.one_le_two_pow (n := d); omega) Nat.one_le_two_pow)
      refine ⟨_, rfl, p, 10, rfl, dr, by decide, by decide, fun kd H1 kd0 kd1 k1 => ?_⟩
      have hx : ∀ (H2 : Hp) (e : Cd.Ex) (q : Addr), Kp p H1 H2 → Kp p H H2 := fun H2 _ _ k2 => k1.trans k2
      -- and, or
      refine ⟨fun σ' H' => σ' = [some (.ref p), some (.int wd), some (.int (d : Int)), some (.int kd), none, none, none] ∧ H' = H1, ?_, ?_⟩
      · refine ⟨_, rfl, _, _, rfl, rfl, _, rfl, ?_⟩
        refine ite2 (fun hd0 => ?_) (fun hd0 => ?_)
        · have hd1 : 0 < d := by have := of_decide_eq_true hd0; omega
          refine ⟨_, rfl, _, _, rfl, rfl, _, rfl, ?_⟩
          refine ite2 (fun hk => ?_) (fun hk => ⟨rfl, rfl⟩)
          have hk3 : kd < 3 := of_decide_eq_true hk
          refine ⟨lt_sz (show 3 ≤ 200000 by decide), fun t ht => ?_⟩
          have k2 := k1.tup (xs := [.str "and", .str "or", .str "and"]) ht
          obtain ⟨nm, hnm, hat⟩ : ∃ nm ∈ names, atI [V.str "and", .str "or", .str "and"] kd = some (.str nm) := by
            have : kd = 0 ∨ kd = 1 ∨ kd = 2 := by omega
            rcases this with rfl | rfl | rfl
            · exact ⟨"and", by decide, rfl⟩
            · exact ⟨"or", by decide, rfl⟩
            · exact ⟨"and", by decide, rfl⟩
          refine ⟨_, rfl, t, _, _, _, rfl, rfl, seqT upd_same, hat, ?_⟩
          obtain ⟨dd, rfl⟩ : ∃ dd, d = dd + 1 := ⟨d - 1, by omega⟩
          have ecast : ((dd + 1 : Nat) : Int) - 1 = ((dd : Nat) : Int) := by omega
          refine ⟨_, rfl, _, rfl, _, rfl, _, rfl, _, _, rfl, rfl, p, wd, dd, ?_, k2.dr, w0, w1, by omega, fun e1 H3 q1 g1 k3 x1 => ?_⟩
          · show [V.ref p, V.int wd, V.int (((dd + 1 : Nat) : Int) - 1)] ++ [] = _
            rw [ecast]
            rfl
          refine ⟨_, rfl, _, rfl, _, rfl, _, _, rfl, rfl, p, wd, dd, ?_, k3.dr, w0, w1, by omega, fun e2 H4 q2 g2 k4 x2 => ?_⟩
          · show [V.ref p, V.int wd, V.int (((dd + 1 : Nat) : Int) - 1)] ++ [] = _
            rw [ecast]
            rfl
          refine ⟨lt_sz (show 4 ≤ 200000 by decide), fun q3 hq3 => ?_⟩
          have s5 := same_new (o := .tup [.str "binary", .str nm, .ref q1, .ref q2]) hq3
          have k5 := ((k2.trans k3).trans k4).tup (xs := [.str "binary", .str nm, .ref q1, .ref q2]) hq3
          refine kk _ _ q3 ((gd_bin hnm g1 g2).mono (by omega) ?_ ?_) k5 ⟨q1, q2, seqT upd_same, ex_same s5 _ q1 (exKp k3.dr k4 _ q1 x1), ex_same s5 _ q2 x2⟩
          · rw [Nat.pow_succ]; omega
          · rw [Nat.pow_succ]; omega
        · exact iteF ⟨rfl, rfl⟩
      rintro _ _ ⟨rfl, rfl⟩
      -- not
      refine ⟨fun σ' H' => σ' = [some (.ref p), some (.int wd), some (.int (d : Int)), some (.int kd), none, none, none] ∧ Kp p H H', ?_, ?_⟩
      · refine ⟨_, rfl, _, _, rfl, rfl, _, rfl, ?_⟩
        refine ite2 (fun hd0 => ?_) (fun hd0 => ?_)
        · have hd1 : 0 < d := by have := of_decide_eq_true hd0; omega
          refine ⟨_, rfl, rfl, _, rfl, ?_⟩
          refine ite2 (fun hk => ?_) (fun hk => ⟨rfl, k1⟩)
          obtain ⟨dd, rfl⟩ : ∃ dd, d = dd + 1 := ⟨d - 1, by omega⟩
          have ecast : ((dd + 1 : Nat) : Int) - 1 = ((dd : Nat) : Int) := by omega
          refine ⟨_, rfl, _, rfl, _, rfl, _, _, rfl, rfl, p, wd, dd, ?_, k1.dr, w0, w1, by omega, fun e1 H3 q1 g1 k3 x1 => ?_⟩
          · show [V.ref p, V.int wd, V.int (((dd + 1 : Nat) : Int) - 1)] ++ [] = _
            rw [ecast]
            rfl
          refine ⟨lt_sz (show 3 ≤ 200000 by decide), fun q3 hq3 => ?_⟩
          have s5 := same_new (o := .tup [.str "unary", .str "not", .ref q1]) hq3
          have k5 := (k1.trans k3).tup (xs := [.str "unary", .str "not", .ref q1]) hq3
          refine kk _ _ q3 ((gd_un (n := "not") (by decide) g1).mono (by omega) ?_ Nat.one_le_two_pow) k5 ⟨q1, seqT upd_same, ex_same s5 _ q1 x1⟩
          rw [Nat.pow_succ]; omega
        · exact iteF ⟨rfl, k1⟩
      rintro _ H2 ⟨rfl, k2⟩
      -- a column
      refine ⟨_, rfl, _, rfl, p, wd, rfl, k2.dr, w0, by omega, fun c1 H3 a0 a1 k3 => ?_⟩
      refine ⟨lt_sz (show 2 ≤ 200000 by decide), fun qc hqc => ?_⟩
      have k4 := (k2.trans k3).tup (xs := [.str "column", .int c1]) hqc
      have gc : Gd (.col c1) 0 1 1 := gd_col (by omega)
      have ec : ExAt K (upd H3 qc (.tup [.str "column", .int c1])) (.col c1) qc := seqT upd_same
      refine ⟨_, rfl, rfl, _, rfl, ?_⟩
      refine ite2 (fun _ => ?_) (fun _ => ?_)
      · refine ⟨_, rfl, lt_sz (show 3 ≤ 200000 by decide), fun q3 hq3 => ?_⟩
        have s5 := same_new (o := .tup [.str "unary", .str "is null", .ref qc]) hq3
        exact kk1 _ _ q3 ((gd_un (n := "is null") (by decide) gc).mono (by decide) (by decide) (by decide)) (k4.tup hq3) ⟨qc, seqT upd_same, ex_same s5 (.col c1) qc ec⟩
      refine ⟨_, rfl, rfl, _, rfl, ?_⟩
      refine ite2 (fun _ => ?_) (fun _ => ?_)
      · refine ⟨_, rfl, _, rfl, _, rfl, p, wd, rfl, k4.dr, w0, by omega, fun c2 H5 b0 b1 k5 => ?_⟩
        refine ⟨lt_sz (show 2 ≤ 200000 by decide), fun q2 hq2 => ?_⟩
        have k6 := k5.tup (xs := [.str "column", .int c2]) hq2
        refine ⟨lt_sz (show 4 ≤ 200000 by decide), fun q3 hq3 => ?_⟩
        have s7 := same_new (o := .tup [.str "binary", .str "equal", .ref qc, .ref q2]) hq3
        exact kk1 _ _ q3 (show Gd (.bin "equal" (.col c1) (.col c2)) 1 2 1 from ⟨(gd_bin (n := "equal") (by decide) gc (gd_col (i := c2) (by omega))).ok, Nat.le_refl _, Nat.le_refl _, by rw [Cd.parts, if_neg (by decide)]; exact Nat.le_refl _⟩) ((k4.trans k6).tup hq3) ⟨qc, q2, seqT upd_same, ex_same s7 (.col c1) qc (exKp k4.dr k6 _ qc ec), ex_same s7 (.col c2) q2 (seqT upd_same)⟩
      -- a comparison
      refine ⟨fun v H' => ∃ nm ∈ names, nm ≠ ("and" : Str) ∧ v = .str nm ∧ Same (upd H3 qc (.tup [.str "column", .int c1])) H', ?_, ?_⟩
      · refine ⟨_, rfl, _, _, rfl, rfl, _, rfl, ?_⟩
        refine ite2 (fun hk => ?_) (fun hk => ?_)
        · have hk5 : 5 < kd := by have := of_decide_eq_true hk; omega
          refine ⟨lt_sz (show 4 ≤ 200000 by decide), fun t ht => ?_⟩
          obtain ⟨nm, hnm, hna, hat⟩ : ∃ nm ∈ names, nm ≠ ("and" : Str) ∧ atI [V.str "equal", .str "less", .str "at most", .str "less"] (kd - 6) = some (.str nm) := by
            have : kd = 6 ∨ kd = 7 ∨ kd = 8 ∨ kd = 9 := by omega
            rcases this with rfl | rfl | rfl | rfl
            · exact ⟨"equal", by decide, by decide, rfl⟩
            · exact ⟨"less", by decide, by decide, rfl⟩
            · exact ⟨"at most", by decide, by decide, rfl⟩
            · exact ⟨"less", by decide, by decide, rfl⟩
          exact ⟨_, rfl, _, _, rfl, rfl, t, _, _, _, rfl, rfl, seqT upd_same, hat, nm, hnm, hna, rfl, same_new ht⟩
        · exact ⟨"equal", by decide, by decide, rfl, Same.refl _⟩
      rintro _ H5 ⟨nm, hnm, hna, rfl, s5⟩
      have k5 := k4.same s5
      have ec5 := ex_same s5 (.col c1) qc ec
      refine ⟨_, rfl, p, rfl, k5.dr, fun v H6 hv k6 => ?_⟩
      refine ⟨lt_sz (show 2 ≤ 200000 by decide), fun qv hqv => ?_⟩
      have k7 := k6.tup (xs := [.str "constant", vC v]) hqv
      have gv : Gd (.con v) 0 0 1 := gd_con hv
      have ev : ExAt K (upd H6 qv (.tup [.str "constant", vC v])) (.con v) qv := seqT upd_same
      have ec7 := exKp k5.dr k7 (.col c1) qc ec5
      have gd1 : ∀ a b : Cd.Ex, Gd a 0 1 1 → Gd b 0 1 1 → Gd (.bin nm a b) 1 2 1 := fun a b ga gb => by
        have g := gd_bin hnm ga gb
        refine ⟨g.ok, g.ht, g.cl, ?_⟩
        rw [Cd.parts, if_neg hna]
        exact Nat.le_refl _
      refine ⟨_, rfl, p, 4, rfl, (k5.trans k7).dr, by decide, by decide, fun d8 H8 _ _ k8 => ?_⟩
      refine ⟨rfl, _, rfl, ?_⟩
      have ec8 := exKp k7.dr k8 _ qc ec7
      have ev8 := exKp k7.dr k8 _ qv ev
      refine ite2 (fun _ => ?_) (fun _ => ?_)
      · refine ⟨_, rfl, _, rfl, _, rfl, lt_sz (show 4 ≤ 200000 by decide), fun q3 hq3 => ?_⟩
        have s9 := same_new (o := .tup [.str "binary", .str nm, .ref qv, .ref qc]) hq3
        exact kk1 _ _ q3 (gd1 _ _ (gv.mono (by decide) (by decide) (by decide)) gc) (((k5.trans k7).trans k8).tup hq3) ⟨qv, qc, seqT upd_same, ex_same s9 _ qv ev8, ex_same s9 _ qc ec8⟩
      · refine ⟨_, rfl, _, rfl, _, rfl, lt_sz (show 4 ≤ 200000 by decide), fun q3 hq3 => ?_⟩
        have s9 := same_new (o := .tup [.str "binary", .str nm, .ref qc, .ref qv]) hq3
        exact kk1 _ _ q3 (gd1 _ _ gc (gv.mono (by decide) (by decide) (by decide))) (((k5.trans k7).trans k8).tup hq3) ⟨qc, qv, seqT upd_same, ex_same s9 _ qc ec8, ex_same s9 _ qv ev8⟩
end
end Sb
set_option Elab.async false
set_option maxRecDepth 100000
set_option maxHeartbeats 4000000
namespace Sb
open PySem PySem.Spec PyProof.Rows L2 SX

/-! ### conditions as data -/
def dC : Cd.Cv → PyData
  | .non => .none
  | .bl b => .bool b
  | .int i => .int i
  | .str t => .str t
def dE : Cd.Ex → PyData
  | .col i => .tuple [.str "column", .int i]
  | .con v => .tuple [.str "constant", dC v]
  | .un n a => .tuple [.str "unary", .str n, dE a]
  | .bin n a b => .tuple [.str "binary", .str n, dE a, dE b]
def dK (k : Cd.Ex × Cd.Ex) : PyData := .tuple [dE k.1, dE k.2]
def dKeys (ks : List (Cd.Ex × Cd.Ex)) (r : Cd.Ex) : PyData := .tuple [.list (ks.map dK), dE r]
theorem dC_dp (K : PySem.W.Frag) (H : Hp) : ∀ v : Cd.Cv, Dp K H (vC v) (dC v)
  | .non => .non
  | .bl _ => .bl _
  | .int _ => .int _
  | .str _ => .str _
theorem dE_dp {K : PySem.W.Frag} {H : Hp} : ∀ (e : Cd.Ex) (p : Addr), ExAt K H e p → Dp K H (.ref p) (dE e)
  | .col _, _, h => .tup h (.cons (.str _) (.cons (.int _) .nil))
  | .con v, _, h => .tup h (.cons (.str _) (.cons (dC_dp K H v) .nil))
  | .un _ a, _, ⟨q, h, h1⟩ => .tup h (.cons (.str _) (.cons (.str _) (.cons (dE_dp a q h1) .nil)))
  | .bin _ a b, _, ⟨q, r, h, h1, h2⟩ => .tup h (.cons (.str _) (.cons (.str _) (.cons (dE_dp a q h1) (.cons (dE_dp b r h2) .nil))))
theorem dKs_dp {K : PySem.W.Frag} {H : Hp} : ∀ {qs : List Addr} {ks : List (Cd.Ex × Cd.Ex)}, Paired (KeyAt K H) qs ks → DpAll K H (qs.map V.ref) (ks.map dK)
  | _, _, .nil => .nil
  | _, _, .cons ⟨pa, pc, h, h1, h2⟩ t => .cons (.tup (seqT h) (.cons (dE_dp _ pa h1) (.cons (dE_dp _ pc h2) .nil))) (dKs_dp t)
theorem dKeys_dp {K : PySem.W.Frag} {H : Hp} {t : Addr} {ks : List (Cd.Ex × Cd.Ex)} {r : Cd.Ex} (h : KeysAt K H t ks r) : Dp K H (.ref t) (dKeys ks r) := by
  obtain ⟨LK, pr, qs, h1, h2, h3, h4⟩ := h
  exact .tup (seqT h1) (.cons (.lst (seqL h2) (dKs_dp h3)) (.cons (dE_dp r pr h4) .nil))
/-! ### how long -/
def nd : Cd.Ex → Nat
  | .col _ | .con _ => 1
  | .un _ a => nd a + 1
  | .bin _ a b => nd a + nd b + 1
theorem nd_pos : ∀ e, 1 ≤ nd e
  | .col _ | .con _ => Nat.le_refl _
  | .un _ _ | .bin _ _ _ => by simp [nd]
theorem nd_ht : ∀ e : Cd.Ex, nd e ≤ 2 ^ (e.ht + 1)
  | .col _ | .con _ => by simp [nd, Cd.Ex.ht]
  | .un _ a => by
    have := nd_ht a
    have h1 : 1 ≤ 2 ^ (a.ht + 1) := Nat.one_le_two_pow
    simp only [nd, Cd.Ex.ht]
    rw [Nat.pow_succ 2 (a.ht + 1)]
    omega
  | .bin _ a b => by
    have h1 := nd_ht a
    have h2 := nd_ht b
    have h3 : 2 ^ (a.ht + 1) ≤ 2 ^ (max a.ht b.ht + 1) := Nat.pow_le_pow_right (by decide) (by omega)
    have h4 : 2 ^ (b.ht + 1) ≤ 2 ^ (max a.ht b.ht + 1) := Nat.pow_le_pow_right (by decide) (by omega)
    have h5 : ∀ e : Cd.Ex, nd e < 2 ^ (e.ht + 1) := nd_lt
    have := h5 a
    have := h5 b
    simp only [nd, Cd.Ex.ht]
    rw [Nat.pow_succ 2 (max a.ht b.ht + 1)]
    omega
where nd_lt : ∀ e : Cd.Ex, nd e < 2 ^ (e.ht + 1)
  | .col _ | .con _ => by simp [nd, Cd.Ex.ht]
  | .un _ a => by
    have := nd_lt a
    have h1 : 1 ≤ 2 ^ (a.ht + 1) := Nat.one_le_two_pow
    simp only [nd, Cd.Ex.ht]
    rw [Nat.pow_succ 2 (a.ht + 1)]
    omega
  | .bin _ a b => by
    have h1 := nd_lt a
    have h2 := nd_lt b
    have h3 : 2 ^ (a.ht + 1) ≤ 2 ^ (max a.ht b.ht + 1) := Nat.pow_le_pow_right (by decide) (by omega)
    have h4 : 2 ^ (b.ht + 1) ≤ 2 ^ (max a.ht b.ht + 1) := Nat.pow_le_pow_right (by decide) (by omega)
    simp only [nd, Cd.Ex.ht]
    rw [Nat.pow_succ 2 (max a.ht b.ht + 1)]
    omega
def ShE : Cd.Ex → Prop
  | .col i => i.natAbs ≤ 5000
  | .con v => OkV v
  | .un n a => n ∈ names ∧ ShE a
  | .bin n a b => n ∈ names ∧ ShE a ∧ ShE b
theorem sh_ok : ∀ e, OkE e → ShE e
  | .col i, h => Nat.le_trans (show i.natAbs ≤ 1000 from h) (by decide)
  | .con _, h => h
  | .un _ a, ⟨h, h1⟩ => ⟨h, sh_ok a h1⟩
  | .bin _ a b, ⟨h, h1, h2⟩ => ⟨h, sh_ok a h1, sh_ok b h2⟩
theorem sh_moved {d : Int} (hd : d.natAbs ≤ 1000) : ∀ e, OkE e → ShE (Cd.moved d e)
  | .col i, h => by
    have h' : i.natAbs ≤ 1000 := h
    show (i + d).natAbs ≤ 5000
    omega
  | .con _, h => h
  | .un _ a, ⟨h, h1⟩ => ⟨h, sh_moved hd a h1⟩
  | .bin _ a b, ⟨h, h1, h2⟩ => ⟨h, sh_moved hd a h1, sh_moved hd b h2⟩
theorem nd_moved (d : Int) : ∀ e, nd (Cd.moved d e) = nd e
  | .col _ | .con _ => rfl
  | .un _ a => by simp [Cd.moved, nd, nd_moved d a]
  | .bin _ a b => by simp [Cd.moved, nd, nd_moved d a, nd_moved d b]
/-- what is needed of data to be shown -/
structure Shw (d : PyData) (wt dp : Nat) : Prop where
  sh : d.showable = true
  nh : d.hasDict = false
  ls : d.leavesShort 20 = true
  wt : d.weight ≤ wt
  dp : d.depth ≤ dp
theorem Shw.mono {d : PyData} {a b a' b' : Nat} (h : Shw d a b) (h1 : a ≤ a') (h2 : b ≤ b') : Shw d a' b' := ⟨h.sh, h.nh, h.ls, Nat.le_trans h.wt h1, Nat.le_trans h.dp h2⟩
theorem shw_int {i : Int} (h : i.natAbs ≤ 1000000000000000) : Shw (.int i) 60 0 := by
  have h1 : i.natAbs < 2 ^ 50 := by omega
  have hl : i.natAbs.log2 < 50 := by
    by_cases h0 : i.natAbs = 0
    · rw [h0]; decide
    · exact (Nat.log2_lt h0).mpr h1
  refine ⟨?_, rfl, ?_, ?_, Nat.le_refl _⟩
  · show decide (i.natAbs.log2 < 1920) = true
    exact decide_eq_true (by omega)
  · show decide ((PyData.shown (.int i)).length ≤ 20) = true
    refine decide_eq_true ?_
    have := int_text_length_le10 (a := i) (k := 18) (by decide) (by omega)
    show (Str.ofString (toString i)).length ≤ 20
    rw [PySem.ofString_length]
    omega
  · show (if i == 0 then 0 else i.natAbs.log2 + 1) ≤ 60
    split <;> omega
theorem shw_str {t : Str} (h : t.length ≤ 20) (h2 : (t.cps.toList.all fun c => decide (c < 16 ^ 8)) = true) : Shw (.str t) 20 0 := ⟨rfl, rfl, h2, h, Nat.le_refl _⟩
theorem shw_bool (b : Bool) : Shw (.bool b) 0 0 := ⟨rfl, rfl, rfl, Nat.le_refl _, Nat.le_refl _⟩
theorem shw_none : Shw .none 0 0 := ⟨rfl, rfl, rfl, Nat.le_refl _, Nat.le_refl _⟩
/-- the items of a tuple or a list -/
inductive ShwAll : List PyData → Nat → Nat → Prop where
  | nil (dp : Nat) : ShwAll [] 0 dp
  | cons {d : PyData} {l : List PyData} {a b dp : Nat} (h : Shw d a dp) (t : ShwAll l b dp) : ShwAll (d :: l) (a + 1 + b) dp
theorem ShwAll.all {l : List PyData} {a dp : Nat} (h : ShwAll l a dp) : PyData.showableAll l = true ∧ PyData.hasDictAll l = false ∧ PyData.leavesShortAll 20 l = true ∧ PyData.weightAll l ≤ a ∧ PyData.depthAll l ≤ dp := by
  induction h with
  | nil => exact ⟨rfl, rfl, rfl, Nat.le_refl _, Nat.zero_le _⟩
  | cons h t ih =>
    obtain ⟨i1, i2, i3, i4, i5⟩ := ih
    have w := h.wt
    have d := h.dp
    refine ⟨?_, ?_, ?_, ?_, ?_⟩
    · simp [PyData.showableAll, h.sh, i1]
    · simp [PyData.hasDictAll, h.nh, i2]
    · simp [PyData.leavesShortAll, h.ls, i3]
    · simp only [PyData.weightAll]; omega
    · simp only [PyData.depthAll]; omega
theorem shw_tup {l : List PyData} {a dp : Nat} (h : ShwAll l a dp) : Shw (.tuple l) a (dp + 1) := by
  obtain ⟨i1, i2, i3, i4, i5⟩ := h.all
  exact ⟨i1, i2, i3, i4, by simp only [PyData.depth]; omega⟩
theorem shw_lst {l : List PyData} {a dp : Nat} (h : ShwAll l a dp) : Shw (.list l) a (dp + 1) := by
  obtain ⟨i1, i2, i3, i4, i5⟩ := h.all
  exact ⟨i1, i2, i3, i4, by simp only [PyData.depth]; omega⟩
theorem Shw.fits {d : PyData} {a dp : Nat} (h : Shw d a dp) (ha : a ≤ 200000) : d.shown.length ≤ sizeLine := by
  have := PyData.shown_le 20 (by decide) d h.ls
  have w := h.wt
  rw [sizeLine_eq]
  omega
theorem names_shw : ∀ n ∈ names, Shw (.str n) 20 0 := by
  have h : ∀ n ∈ names, n.length ≤ 20 ∧ (n.cps.toList.all fun c => decide (c < 16 ^ 8)) = true := by decide +kernel
  exact fun n hn => shw_str (h n hn).1 (h n hn).2
theorem shw_c {v : Cd.Cv} (h : OkV v) : Shw (dC v) 60 0 := by
  cases v with
  | non => exact shw_none.mono (by decide) (by decide)
  | bl b => exact (shw_bool b).mono (by decide) (by decide)
  | int i => exact shw_int h
  | str t =>
    obtain ⟨cs, rfl, h1, h2⟩ := h
    refine (shw_str (by rw [S_len]; omega) ?_).mono (by decide) (by decide)
    rw [List.all_eq_true]
    exact fun c hc => decide_eq_true (Nat.lt_trans (h2 c (by simpa using hc)) (by decide))
theorem f_col : Shw (.str "column") 20 0 := shw_str (by decide +kernel) (by decide +kernel)
theorem f_con : Shw (.str "constant") 20 0 := shw_str (by decide +kernel) (by decide +kernel)
theorem f_un : Shw (.str "unary") 20 0 := shw_str (by decide +kernel) (by decide +kernel)
theorem f_bin : Shw (.str "binary") 20 0 := shw_str (by decide +kernel) (by decide +kernel)
theorem shw_e : ∀ e : Cd.Ex, ShE e → Shw (dE e) (100 * nd e) (e.ht + 1)
  | .col i, h => (shw_tup (.cons f_col (.cons (shw_int (Nat.le_trans h (by decide))) (.nil 0)))).mono (by simp [nd]) (Nat.le_refl _)
  | .con v, h => (shw_tup (.cons f_con (.cons (shw_c h) (.nil 0)))).mono (by simp [nd]) (Nat.le_refl _)
  | .un n a, ⟨hn, h⟩ => by
    have i := shw_e a h
    refine (shw_tup (.cons (f_un.mono (Nat.le_refl _) (Nat.zero_le (a.ht + 1))) (.cons ((names_shw n hn).mono (Nat.le_refl _) (Nat.zero_le _)) (.cons i (.nil _))))).mono ?_ (Nat.le_refl _)
    simp only [nd]; omega
  | .bin n a b, ⟨hn, h1, h2⟩ => by
    have i := shw_e a h1
    have j := shw_e b h2
    refine (shw_tup (.cons (f_bin.mono (Nat.le_refl _) (Nat.zero_le (max a.ht b.ht + 1))) (.cons ((names_shw n hn).mono (Nat.le_refl _) (Nat.zero_le _)) (.cons (i.mono (Nat.le_refl _) (by omega)) (.cons (j.mono (Nat.le_refl _) (by omega)) (.nil _)))))).mono ?_ (Nat.le_refl _)
    simp only [nd]; omega
/-! ### the parts, the keys, the rest -/
def ndL (es : List Cd.Ex) : Nat := (es.map nd).sum
theorem nd_parts : ∀ e : Cd.Ex, ndL (Cd.parts e) ≤ nd e
  | .col _ => by simp [Cd.parts, ndL]
  | .con _ => by simp [Cd.parts, ndL]
  | .un _ _ => by simp [Cd.parts, ndL]
  | .bin n a b => by
    rw [Cd.parts]
    split
    · have h1 := nd_parts a
      have h2 := nd_parts b
      simp only [ndL, List.map_append, List.sum_append, nd] at *
      omega
    · simp [ndL]
theorem ok_parts : ∀ e : Cd.Ex, OkE e → ∀ p ∈ Cd.parts e, OkE p
  | .col _, h, p, hp => by simp [Cd.parts] at hp; subst hp; exact h
  | .con _, h, p, hp => by simp [Cd.parts] at hp; subst hp; exact h
  | .un _ _, h, p, hp => by simp [Cd.parts] at hp; subst hp; exact h
  | .bin n a b, h, p, hp => by
    rw [Cd.parts] at hp
    split at hp
    · rcases List.mem_append.mp hp with q | q
      · exact ok_parts a h.2.1 p q
      · exact ok_parts b h.2.2 p q
    · simp at hp; subst hp; exact h
theorem key_shw {m : Int} (hm : m.natAbs ≤ 1000) {p : Cd.Ex} {k : Cd.Ex × Cd.Ex} (hp : OkE p) (h : Cd.keyOf m p = some k) : Shw (dK k) (100 * nd p) (p.ht + 2) := by
  have key : ∀ a c : Cd.Ex, OkE a → OkE c → Shw (dK (a, Cd.moved (-m) c)) (100 * (nd a + nd c) + 2) (max a.ht c.ht + 2) := fun a c ha hc => by
    have i := shw_e a (sh_ok a ha)
    have j := shw_e _ (sh_moved (d := -m) (by omega) c hc)
    rw [nd_moved, Cd.moved_ht] at j
    exact (shw_tup (.cons (i.mono (Nat.le_refl _) (by omega : _ ≤ max a.ht c.ht + 1)) (.cons (j.mono (Nat.le_refl _) (by omega)) (.nil _)))).mono (by omega) (Nat.le_refl _)
  cases p with
  | col i => cases h
  | con v => cases h
  | un n a => cases h
  | bin n a c =>
    rw [Cd.keyOf] at h
    split at h
    · split at h
      · cases h
        exact (key a c hp.2.1 hp.2.2).mono (by simp only [nd]; omega) (by simp only [Cd.Ex.ht]; omega)
      · split at h
        · cases h
          exact (key c a hp.2.2 hp.2.1).mono (by simp only [nd]; omega) (by simp only [Cd.Ex.ht]; omega)
        · cases h
    · cases h
theorem keys_shw {m : Int} (hm : m.natAbs ≤ 1000) {h : Nat} : ∀ es : List Cd.Ex, (∀ p ∈ es, OkE p ∧ p.ht ≤ h) → ∃ a, a ≤ 101 * ndL es ∧ ShwAll ((Cd.split m es).1.map dK) a (h + 2)
  | [], _ => ⟨0, Nat.zero_le _, .nil _⟩
  | p :: es, hp => by
    obtain ⟨a, h1, h2⟩ := keys_shw hm es fun q hq => hp q (by simp [hq])
    have hn := nd_pos p
    cases hk : Cd.keyOf m p with
    | none => exact ⟨a, by simp only [ndL, List.map_cons, List.sum_cons] at *; omega, by simpa [Cd.split, hk] using h2⟩
    | some k =>
      have hs := key_shw hm (hp p (by simp)).1 hk
      have hh := (hp p (by simp)).2
      refine ⟨100 * nd p + 1 + a, by simp only [ndL, List.map_cons, List.sum_cons] at *; omega, ?_⟩
      have e : (Cd.split m (p :: es)).1.map dK = dK k :: (Cd.split m es).1.map dK := by simp [Cd.split, hk]
      rw [e]
      exact .cons (hs.mono (Nat.le_refl _) (by omega)) h2
theorem rest_nd (m : Int) : ∀ es : List Cd.Ex, ndL (Cd.split m es).2 ≤ ndL es
  | [] => Nat.le_refl _
  | p :: es => by
    have ih := rest_nd m es
    simp only [Cd.split, List.filter_cons] at *
    split
    · simp only [ndL, List.map_cons, List.sum_cons] at *; omega
    · simp only [ndL, List.map_cons, List.sum_cons] at *; omega
theorem ndL_pos {es : List Cd.Ex} (h : es ≠ []) : 1 ≤ ndL es := by
  cases es with
  | nil => exact absurd rfl h
  | cons x l =>
    have := nd_pos x
    simp only [ndL, List.map_cons, List.sum_cons]
    omega
theorem conj_shw {h : Nat} : ∀ (n : Nat) (es : List Cd.Ex), (∀ p ∈ es, ShE p ∧ p.ht ≤ h) → ShE (Cd.conj n es) ∧ (Cd.conj n es).ht ≤ h + n ∧ (es ≠ [] → nd (Cd.conj n es) + 1 ≤ ndL es + es.length) ∧ (es = [] → nd (Cd.conj n es) = 1)
  | 0, es, _ => ⟨trivial, Nat.zero_le _, fun q => by
      have h1 := ndL_pos q
      have h2 : 1 ≤ es.length := List.length_pos_iff.mpr q
      show 1 + 1 ≤ _
      omega, fun _ => rfl⟩
  | n + 1, [], _ => ⟨trivial, Nat.zero_le _, fun q => absurd rfl q, fun _ => rfl⟩
  | n + 1, [x], hp => by
    have := hp x (by simp)
    exact ⟨this.1, Nat.le_trans this.2 (Nat.le_add_right _ _), fun _ => by simp [Cd.conj, ndL], fun q => by cases q⟩
  | n + 1, x :: y :: es, hp => by
    have hc : Cd.conj (n + 1) (x :: y :: es) = .bin "and" (Cd.conj n ((x :: y :: es).take ((x :: y :: es).length / 2))) (Cd.conj n ((x :: y :: es).drop ((x :: y :: es).length / 2))) := rfl
    obtain ⟨l, hl⟩ : ∃ l, l = x :: y :: es := ⟨_, rfl⟩
    rw [hc]
    rw [← hl] at hp ⊢
    obtain ⟨a1, a2, a3, _⟩ := conj_shw n (l.take (l.length / 2)) fun p q => hp p (List.mem_of_mem_take q)
    obtain ⟨b1, b2, b3, _⟩ := conj_shw n (l.drop (l.length / 2)) fun p q => hp p (List.mem_of_mem_drop q)
    have hsum : ndL (l.take (l.length / 2)) + ndL (l.drop (l.length / 2)) = ndL l := by
      unfold ndL
      rw [← List.sum_append, ← List.map_append, List.take_append_drop]
    have hlen : 2 ≤ l.length := by rw [hl]; simp
    have n1 : l.take (l.length / 2) ≠ [] := fun q => by
      have : (l.take (l.length / 2)).length = 0 := by rw [q]; rfl
      rw [List.length_take] at this
      omega
    have n2 : l.drop (l.length / 2) ≠ [] := fun q => by
      have : (l.drop (l.length / 2)).length = 0 := by rw [q]; rfl
      rw [List.length_drop] at this
      omega
    have a4 := a3 n1
    have b4 := b3 n2
    rw [List.length_take] at a4
    rw [List.length_drop] at b4
    refine ⟨⟨by decide, a1, b1⟩, by simp only [Cd.Ex.ht]; omega, fun _ => ?_, fun q => by rw [q] at hlen; simp at hlen⟩
    simp only [nd]
    omega
/-- all that the law shows -/
theorem keys_data {m : Int} (hm : m.natAbs ≤ 1000) {e : Cd.Ex} {h c k n : Nat} (g : Gd e h c k) (hh : h ≤ 8) (hk : k < n) (hn : n ≤ 40) : Shw (dKeys (Cd.split m (Cd.parts e)).1 (Cd.conj n (Cd.split m (Cd.parts e)).2)) 200000 60 := by
  have hnd : nd e ≤ 2 ^ 9 := Nat.le_trans (nd_ht e) (Nat.pow_le_pow_right (by decide) (by have := g.ht; omega))
  have hp := nd_parts e
  have hpl := g.pl
  have hall : ∀ p ∈ Cd.parts e, OkE p ∧ p.ht ≤ 8 := fun p q => ⟨ok_parts e g.ok p q, by have := Cd.parts_ht e p q; have := g.ht; omega⟩
  obtain ⟨a, h1, h2⟩ := keys_shw hm (Cd.parts e) hall
  have hr := rest_nd m (Cd.parts e)
  have hl := (split_len m (Cd.parts e)).2
  obtain ⟨c1, c2, c3, c4⟩ := conj_shw (h := 8) n (Cd.split m (Cd.parts e)).2 fun p q => by
    have : p ∈ Cd.parts e := (List.mem_filter.mp q).1
    exact ⟨sh_ok p (hall p this).1, (hall p this).2⟩
  have hnc : nd (Cd.conj n (Cd.split m (Cd.parts e)).2) ≤ 1000 := by
    by_cases q : (Cd.split m (Cd.parts e)).2 = []
    · rw [c4 q]; decide
    · have := c3 q
      omega
  have hc := shw_e _ c1
  exact (shw_tup (.cons ((shw_lst h2).mono (Nat.le_refl _) (by omega : _ ≤ 55)) (.cons (hc.mono (Nat.le_refl _) (by omega)) (.nil _)))).mono (by omega) (by omega)

end Sb
set_option Elab.async false
set_option maxRecDepth 100000
set_option maxHeartbeats 4000000
namespace Sb
open PySem PySem.Spec PyProof.Rows L2 SX
abbrev s_law : Stmt := top 35
abbrev sc_law_N : List Str := ["_law_script", "_law_k", "_law_state_here", "_law_m", "_law_width", "_law_condition_here", "_law_j", "_law_x", "_law_y", "_law_sorts", "_law_due_here", "_law_told", "_law_number", "_law_way"]
theorem sc_law : FnScope sc_law_N ["_law_script"] (defScope s_law) := ⟨rfl, rfl, rfl, by decide +kernel, rfl, by decide +kernel, by decide +kernel⟩
abbrev s__law_is_integer : Stmt := top 23
abbrev sc__law_is_integer_N : List Str := ["_law_told"]
theorem sc__law_is_integer : FnScope sc__law_is_integer_N ["_law_told"] (defScope s__law_is_integer) := ⟨rfl, rfl, rfl, by decide +kernel, rfl, by decide +kernel, by decide +kernel⟩
def spIsInt : Sp := fun vs H Q _ => ∃ i : Int, vs = [.int i] ∧ Q (.bl true) H
def spLaw (K : PySem.W.Frag) : Sp := fun vs H Q _ => ∃ (a : Addr) (ns : List Int), vs = [.ref a] ∧ SqL K H a (ns.map V.int) ∧ ns.length ≤ 63 ∧ ∀ H', Q (.bl true) H'
theorem okG {P : Program} {w : World} {K : PySem.W.Frag} {mg : Str → Option Value} {base : Heap} {x qual : Str} {st : Stmt} {f : Addr} {fd : FuncData} {N ps : List Str} {k : Nat} {sp : Sp} (F : Fun K x qual st f fd) (S : FnScope N ps (defScope st)) (len : ∀ vs H Q E, sp vs H Q E → vs.length = ps.length)
    (hbody : ∀ (cdv : Value) (A : Around) (outer : List Env) (s : Shared) (H : Hp) (vs : List V) (Q : VK) (E : XK), A.guards = some [] → Room k (A.deeper (envOfC qual (defScope st) s.heap.objs.size f cdv)) → sp vs H Q E →
      ∃ t, PSs (cxOf CX0 P w K mg base N qual (defScope st) f cdv A outer s H E).nox (defBody st) t ∧ t { nx := fun _ H' => Q .non H', rt := Q } (start N vs) H) : FnG P w K mg base CX0 (k + 1) f fd ps sp := by
  obtain ⟨oc, od, kV, doc, pm, an, cdv, ct, osl, rfl, lk, hcd⟩ := F.ex
  exact fn_ofG lk hcd S len fun A outer s H vs Q E hg hr hsp => by
    obtain ⟨t, h1, h2⟩ := hbody cdv A outer s H vs Q E hg hr hsp
    exact ⟨t, h1.nox, h2⟩
def dW : PyData := .tuple [.str "hash right", .str "hash left", .str "merge", .str "loop"]
theorem dW_shaped : SeqAt.shaped dW = true := by decide +kernel
theorem dW_eqv : PyData.eqv dW dW = true := by decide +kernel
theorem dW_dp {K : PySem.W.Frag} {H : Hp} {t : Addr} (h : SqT K H t [.str "hash right", .str "hash left", .str "merge", .str "loop"]) : Dp K H (.ref t) dW := .tup h (.cons (.str _) (.cons (.str _) (.cons (.str _) (.cons (.str _) .nil))))
/-- a list of ints, as data -/
def dI (l : List Int) : PyData := .list (l.map .int)
theorem dI_all {K : PySem.W.Frag} {H : Hp} : ∀ l : List Int, DpAll K H (l.map V.int) (l.map .int)
  | [] => .nil
  | i :: l => .cons (.int i) (dI_all l)
theorem dI_dp {K : PySem.W.Frag} {H : Hp} {t : Addr} {l : List Int} (h : H t = some (.lst (l.map V.int))) : Dp K H (.ref t) (dI l) := .lst (seqL h) (dI_all l)
theorem dI_eqvAll : ∀ l : List Int, PyData.eqvAll (l.map .int) (l.map .int) = true
  | [] => rfl
  | i :: l => by
    show ((i == i) && PyData.eqvAll (l.map .int) (l.map .int)) = true
    rw [dI_eqvAll l]
    simp
theorem dI_eqv (l : List Int) : PyData.eqv (dI l) (dI l) = true := dI_eqvAll l
theorem dI_lay : ∀ l : List Int, PyData.canLayAll0 (l.map .int) = true
  | [] => rfl
  | i :: l => by
    have := dI_lay l
    simp only [List.map_cons, PyData.canLayAll0, this, Bool.and_true]
    rfl
theorem dI_depth : ∀ l : List Int, PyData.depthAll (l.map .int) = 0
  | [] => rfl
  | i :: l => by simp [PyData.depthAll, PyData.depth, dI_depth l]
theorem dI_shaped (l : List Int) : SeqAt.shaped (dI l) = true := by
  unfold SeqAt.shaped dI
  rw [Bool.and_eq_true]
  exact ⟨dI_lay l, by simp [PyData.depth, dI_depth]⟩
abbrev dueL (x y : Nat) : List Int := [(x : Int) + 2 * (y : Int), 2 * (x : Int) + (y : Int), Cd.sortC x + Cd.sortC y + (x : Int) + (y : Int), (x : Int) + (x : Int) * (y : Int)]
abbrev waysL : List Str := ["hash right", "hash left", "merge", "loop"]
theorem j_hr (x y : Nat) : joinC "hash right" x y = (x : Int) + 2 * (y : Int) := by unfold joinC; rw [if_neg (by decide), if_pos rfl]
theorem j_hl (x y : Nat) : joinC "hash left" x y = 2 * (x : Int) + (y : Int) := by unfold joinC; rw [if_neg (by decide), if_neg (by decide), if_pos rfl]
theorem j_me (x y : Nat) : joinC "merge" x y = Cd.sortC x + Cd.sortC y + (x : Int) + (y : Int) := by unfold joinC; rw [if_neg (by decide), if_neg (by decide), if_neg (by decide)]
theorem j_lo (x y : Nat) : joinC "loop" x y = (x : Int) + (x : Int) * (y : Int) := by unfold joinC; rw [if_pos rfl]
theorem g_ha (x : Nat) : groupC "hash" x = 2 * (x : Int) := by unfold groupC; rw [if_pos rfl]
theorem g_so (x : Nat) : groupC "sort" x = Cd.sortC x + (x : Int) := by unfold groupC; rw [if_neg (by decide)]
theorem kp_same {p : Addr} {H0 H H' : Hp} (s : Same H0 H) (h0 : H0 p = none) (k : Kp p H H') : Same H0 H' := fun b o e => k.1 b o (ne_of_none e h0) (s b o e)
theorem Dr.ext {p : Addr} {H H' : Hp} (d : Dr H p) (s : Same H H') : Dr H' p := by
  obtain ⟨z, h⟩ := d
  exact ⟨z, s _ _ h⟩
theorem new_ne {p t : Addr} {H : Hp} (d : Dr H p) (h : H t = none) : t ≠ p := fun z => by
  obtain ⟨y, hy⟩ := d
  rw [z, hy] at h
  cases h
section
variable {P : Program} {w : World} {K : PySem.W.Frag} {mg : Str → Option Value} {base : Heap} {pT pW : Addr}
theorem ok__law_is_integer {f : Addr} {fd : FuncData} (F : Fun K "_law_is_integer" "_law_is_integer" s__law_is_integer f fd) (T : Txt K mg pT pW) : FnOk P w K mg base CX0 1 f fd ["_law_told"] spIsInt := by
  refine F.ok sc__law_is_integer (fun vs H Q E h => ?_) (fun cdv A outer s H vs Q E hr h => ?_)
  · obtain ⟨i, rfl, _⟩ := h
    rfl
  · obtain ⟨i, rfl, k⟩ := h
    refine ⟨_, (pss_one (ps_ret (pe_and (pe_callB call_isi (by rfl) T.n_isinstance (by decide +kernel) (pa_cons (pv 0) (pa_cons (pe_bltn (by rfl) T.n_int (by decide +kernel) (show RelV (.ty "int") (.type "int") from rfl)) pa_nil))) (pe_one (pe_not (pe_callB call_isi (by rfl) T.n_isinstance (by decide +kernel) (pa_cons (pv 0) (pa_cons (pe_bltn (by rfl) T.n_bool (by decide +kernel) (show RelV (.ty "bool") (.type "bool") from rfl)) pa_nil)))))))), ?_⟩
    refine ⟨_, rfl, _, _, _, _, true, rfl, .ty _, .base (.int _), kit_ty (by decide +kernel), true, rfl, iteT ?_⟩
    exact ⟨_, rfl, _, _, _, _, false, rfl, .ty _, .base (.int _), kit_ty (by decide +kernel), false, rfl, k⟩
theorem ok_law {f : Addr} {fd : FuncData} (F : Fun K "law" "law" s_law f fd) (T : Txt K mg pT pW)
    (C__law_cell : Cal P w K mg base CX0 1 "_law_cell" (spCell K)) (C__law_state : Cal P w K mg base CX0 1 "_law_state" spState) (C__law_digit : Cal P w K mg base CX0 1 "_law_digit" spDigit) (C__law_is_integer : Cal P w K mg base CX0 1 "_law_is_integer" spIsInt)
    (C__law_condition : Cal P w K mg base CX0 23 "_law_condition" (spCond K 20)) (C__law_equal : Cal P w K mg base CX0 2 "_law_equal" (spEqual K)) (C_keys_of : Cal P w K mg base CX0 25 "keys_of" (spKeys K 20)) (C__law_due : Cal P w K mg base CX0 23 "_law_due" (spDue K 20))
    (C__law_halved : Cal P w K mg base CX0 1 "_law_halved" spLHalv) (C_halvings : Cal P w K mg base CX0 1 "halvings" spHalv) (C_sort_cost : Cal P w K mg base CX0 2 "sort_cost" spSortC) (C_join_cost : Cal P w K mg base CX0 3 "join_cost" spJoinC) (C_group_cost : Cal P w K mg base CX0 3 "group_cost" spGroupC) :
    FnG P w K mg base CX0 26 f fd ["_law_script"] (spLaw K) := by
  refine okG F sc_law (fun vs H Q E h => ?_) (fun cdv A outer s H vs Q E hgd hr h => ?_)
  · obtain ⟨_, _, rfl, _⟩ := h
    rfl
  · obtain ⟨a, ns, rfl, hS, hns, kk⟩ := h
    refine ⟨_, (pss_cons (ps_if (pt_cmpR (op_neD hr.units) (pe_glob (v := .ref pW) (by rfl) T.g_WAYS rfl) (pe_tup (pa_cons pe_str (pa_cons pe_str (pa_cons pe_str (pa_cons pe_str pa_nil))))) (nomark _)) (pss_one (ps_ret pe_bl)) pss_nil)
  (pss_cons (ps_for PassesOwn.never rfl (pi_range1 rfl T.n_range (pa_cons (pe_callB (call_min2 rfl) (by rfl) T.n_min (by decide +kernel) (pa_cons pe_int (pa_cons (pe_callB (call_max2 rfl) (by rfl) T.n_max (by decide +kernel) (pa_cons pe_int (pa_cons (pe_callB call_len_seq (by rfl) T.n_len PySem.boot_len (pa_cons (pv 0) pa_nil)) pa_nil))) pa_nil))) pa_nil)) (pg_name (i := 1) sc_law.nd rfl (Or.inl rfl)) (pss_cons (ps_set (i := 2) sc_law.nd rfl (Or.inl rfl) (pe_k C__law_state hr (by decide) (by rfl) pass0 (pa_cons (pe_k C__law_cell hr (by decide) (by rfl) pass0 (pa_cons (pv 0) (pa_cons (pv 1) pa_nil))) (pa_cons (pv 1) pa_nil))))
  (pss_cons (ps_set (i := 3) sc_law.nd rfl (Or.inl rfl) (pe_k C__law_digit hr (by decide) (by rfl) pass0 (pa_cons (pv 2) (pa_cons pe_int pa_nil))))
  (pss_cons (ps_set (i := 4) sc_law.nd rfl (Or.inl rfl) (pe_op op_add (pe_op op_add (pv 3) pe_int) (pe_k C__law_digit hr (by decide) (by rfl) pass0 (pa_cons (pv 2) (pa_cons pe_int pa_nil)))))
  (pss_cons (ps_set (i := 5) sc_law.nd rfl (Or.inl rfl) (pe_k C__law_condition hr (by decide) (by rfl) pass0 (pa_cons (pv 2) (pa_cons (pv 4) (pa_cons pe_int pa_nil)))))
  (pss_cons (ps_for PassesOwn.never rfl (pi_range1 rfl T.n_range (pa_cons (pe_k C__law_digit hr (by decide) (by rfl) pass0 (pa_cons (pv 2) (pa_cons pe_int pa_nil))) pa_nil)) (pg_name (i := 6) sc_law.nd rfl (Or.inl rfl)) (pss_one (ps_set (i := 5) sc_law.nd rfl (Or.inl rfl) (pe_tup (pa_cons pe_str (pa_cons pe_str (pa_cons (pe_k C__law_equal hr (by decide) (by rfl) pass0 (pa_cons (pv 2) (pa_cons (pv 4) pa_nil))) (pa_cons (pv 5) pa_nil))))))))
  (pss_cons (ps_if (pt_cmpR op_ne (pe_callB (call_reprD hgd hr.units) (by rfl) T.n_repr (by decide +kernel) (pa_cons (pe_k C_keys_of hr (by decide) (by rfl) pass0 (pa_cons (pv 5) (pa_cons (pv 3) pa_nil))) pa_nil)) (pe_callB (call_reprD hgd hr.units) (by rfl) T.n_repr (by decide +kernel) (pa_cons (pe_k C__law_due hr (by decide) (by rfl) pass0 (pa_cons (pv 5) (pa_cons (pv 3) pa_nil))) pa_nil)) (nomark _)) (pss_one (ps_ret pe_bl)) pss_nil)
  (pss_cons (ps_set (i := 7) sc_law.nd rfl (Or.inr rfl) (pe_ix ix_tup (pe_tup (pa_cons (pe_k C__law_digit hr (by decide) (by rfl) pass0 (pa_cons (pv 2) (pa_cons pe_int pa_nil))) (pa_cons (pe_k C__law_digit hr (by decide) (by rfl) pass0 (pa_cons (pv 2) (pa_cons (pe_op op_pow pe_int pe_int) pa_nil))) (pa_cons (pe_op op_sub (pe_op op_add (pe_op op_pow pe_int pe_int) (pe_k C__law_digit hr (by decide) (by rfl) pass0 (pa_cons (pv 2) (pa_cons pe_int pa_nil)))) pe_int) pa_nil)))) (pe_k C__law_digit hr (by decide) (by rfl) pass0 (pa_cons (pv 2) (pa_cons pe_int pa_nil))) (fun _ _ => rfl)))
  (pss_cons (ps_set (i := 8) sc_law.nd rfl (Or.inr rfl) (pe_ix ix_tup (pe_tup (pa_cons (pe_k C__law_digit hr (by decide) (by rfl) pass0 (pa_cons (pv 2) (pa_cons pe_int pa_nil))) (pa_cons (pe_k C__law_digit hr (by decide) (by rfl) pass0 (pa_cons (pv 2) (pa_cons (pe_op op_pow pe_int pe_int) pa_nil))) (pa_cons (pv 7) pa_nil)))) (pe_k C__law_digit hr (by decide) (by rfl) pass0 (pa_cons (pv 2) (pa_cons pe_int pa_nil))) (fun _ _ => rfl)))
  (pss_cons (ps_setLc (i := 9) (own := [("_law_number", 12)]) (g := gName 12) rfl sc_law.nd rfl rfl (sw_true rfl rfl rfl (by decide +kernel)) (pi_tup (pe_tup (pa_cons (pv 7) (pa_cons (pv 8) pa_nil)))) (blkOk_by (own := [("_law_number", 12)]) (N := sc_law_N) (sc := defScope s_law) (by decide +kernel)) (fun _ _ _ _ _ => pg_name (i := 12) sc_law.nd rfl (Or.inl rfl)) (fun _ _ _ _ _ => pts_nil) (fun _ _ _ _ _ => (pe_op op_mul (pv 12) (pe_callB (call_min2 rfl) (by rfl) T.n_min (by decide +kernel) (pa_cons pe_int (pa_cons (pe_k C__law_halved hr (by decide) (by rfl) pass0 (pa_cons (pv 12) pa_nil)) pa_nil))))))
  (pss_cons (ps_if (PW.pt (pw_or (pt_cmpR op_ne (pe_k C_halvings hr (by decide) (by rfl) pass0 (pa_cons (pv 7) pa_nil)) (pe_k C__law_halved hr (by decide) (by rfl) pass0 (pa_cons (pv 7) pa_nil)) (nomark _)) (pw_or1 (pt_cmpR (op_neD hr.units) (pe_lst (pa_cons (pe_k C_sort_cost hr (by decide) (by rfl) pass0 (pa_cons (pv 7) pa_nil)) (pa_cons (pe_k C_sort_cost hr (by decide) (by rfl) pass0 (pa_cons (pv 8) pa_nil)) pa_nil))) (pv 9) (nomark _))))) (pss_one (ps_ret pe_bl)) pss_nil)
  (pss_cons (ps_set (i := 10) sc_law.nd rfl (Or.inl rfl) (pe_lst (pa_cons (pe_op op_add (pv 7) (pe_op op_mul pe_int (pv 8))) (pa_cons (pe_op op_add (pe_op op_mul pe_int (pv 7)) (pv 8)) (pa_cons (pe_op op_add (pe_op op_add (pe_op op_add (pe_ix ix_list (pv 9) pe_int (fun _ _ => rfl)) (pe_ix ix_list (pv 9) pe_int (fun _ _ => rfl))) (pv 7)) (pv 8)) (pa_cons (pe_op op_add (pv 7) (pe_op op_mul (pv 7) (pv 8))) pa_nil))))))
  (pss_cons (ps_setLc (i := 11) (own := [("_law_way", 13)]) (g := gName 13) rfl sc_law.nd rfl rfl (sw_true rfl rfl rfl (by decide +kernel)) (pi_tup (pe_glob (v := .ref pW) (by rfl) T.g_WAYS rfl)) (blkOk_by (own := [("_law_way", 13)]) (N := sc_law_N) (sc := defScope s_law) (by decide +kernel)) (fun _ _ _ _ _ => pg_name (i := 13) sc_law.nd rfl (Or.inl rfl)) (fun _ _ _ _ _ => pts_nil) (fun _ _ _ _ _ => (pe_k C_join_cost hr (by decide) (by rfl) pass0 (pa_cons (pv 13) (pa_cons (pv 7) (pa_cons (pv 8) pa_nil))))))
  (pss_cons (ps_if (PW.pt (pw_or (pt_cmpR (op_neD hr.units) (pv 11) (pv 10) (nomark _)) (pw_or1 (pt_cmpR (op_neD hr.units) (pe_lst (pa_cons (pe_k C_group_cost hr (by decide) (by rfl) pass0 (pa_cons pe_str (pa_cons (pv 7) pa_nil))) (pa_cons (pe_k C_group_cost hr (by decide) (by rfl) pass0 (pa_cons pe_str (pa_cons (pv 7) pa_nil))) pa_nil))) (pe_lst (pa_cons (pe_op op_mul pe_int (pv 7)) (pa_cons (pe_op op_add (pe_ix ix_list (pv 9) pe_int (fun _ _ => rfl)) (pv 7)) pa_nil))) (nomark _))))) (pss_one (ps_ret pe_bl)) pss_nil)
  (pss_one (ps_for PassesOwn.never rfl (pi_list (pv 11)) (pg_name (i := 12) sc_law.nd rfl (Or.inl rfl)) (pss_one (ps_if (pt_not (pt_val (pe_k C__law_is_integer hr (by decide) (by rfl) pass0 (pa_cons (pv 12) pa_nil)))) (pss_one (ps_ret pe_bl)) pss_nil))))))))))))))))))
  (pss_one (ps_ret pe_bl)))), ?_⟩
    -- the ways
    refine ⟨lt_sz (show 4 ≤ 200000 by decide), fun t0 ht0 => ?_⟩
    have s0 := same_new (o := .tup [.str "hash right", .str "hash left", .str "merge", .str "loop"]) ht0
    refine ⟨dW, dW, dW_dp (T.t_WAYS _), dW_dp (seqT upd_same), dW_shaped, dW_shaped, _, rfl, ?_⟩
    rw [dW_eqv]
    refine iteF ?_
    refine ⟨_, rfl, a, _, rfl, .inl (s0.seq hS), _, _, rfl, _, _, rfl, ?_⟩
    rw [List.length_map]
    obtain ⟨many, hmany, emany⟩ : ∃ many : Nat, many ≤ 10 ∧ (if (if ((ns.length : Nat) : Int) > 3 then ((ns.length : Nat) : Int) else 3) < 10 then (if ((ns.length : Nat) : Int) > 3 then ((ns.length : Nat) : Int) else 3) else 10) = (many : Int) := by
      by_cases h : ((ns.length : Nat) : Int) > 3
      · rw [if_pos h]
        by_cases h2 : ((ns.length : Nat) : Int) < 10
        · exact ⟨ns.length, by omega, if_pos h2⟩
        · exact ⟨10, by omega, if_neg h2⟩
      · rw [if_neg h]
        exact ⟨3, by omega, rfl⟩
    rw [emany]
    refine ⟨_, rfl, by omega, by omega, for_range (lo := 0) (n := many) (fun i σ H' => ∃ x1 x2 x3 x4 x5 x6 x7 x8 x9 x10 x11 x12 x13 : Option V, σ = [some (.ref a), x1, x2, x3, x4, x5, x6, x7, x8, x9, x10, x11, x12, x13] ∧ Same H H')
      ⟨_, _, _, _, _, _, _, _, _, _, _, _, _, rfl, s0⟩ ?_ ?_⟩
    · rintro i σ H1 hi ⟨x1, x2, x3, x4, x5, x6, x7, x8, x9, x10, x11, x12, x13, rfl, s1⟩
      have e0 : (0 : Int) + (i : Int) = (i : Int) := Int.zero_add _
      show tSeq _ _ _ [some (.ref a), some (.int ((0 : Int) + (i : Int))), x2, x3, x4, x5, x6, x7, x8, x9, x10, x11, x12, x13] H1
      rw [e0]
      refine ⟨_, rfl, _, rfl, a, ns, i, rfl, s1.seq hS, fun z1 => ⟨_, rfl, z1, _, rfl, fun st y1 hst => ?_⟩⟩
      have hst0 : H st = none := s1.free hst
      have D2 : Dr (upd H1 st (.lst [.int y1])) st := ⟨_, upd_same⟩
      have s2 : Same H (upd H1 st (.lst [.int y1])) := fun b o e => same_new hst b o (s1 b o e)
      refine ⟨_, rfl, st, 4, rfl, D2, by decide, by decide, fun m H3 m0 m1 k3 => ?_⟩
      refine ⟨_, rfl, _, _, rfl, rfl, _, rfl, st, 3, rfl, k3.dr, by decide, by decide, fun d4 H4 d40 d41 k4 => ?_⟩
      refine ⟨_, _, rfl, rfl, ?_⟩
      have k34 := k3.trans k4
      have s4 := kp_same s2 hst0 k34
      refine ⟨_, rfl, _, rfl, st, m + 1 + d4, 2, rfl, k4.dr, by omega, by omega, by decide, fun e H5 q5 g5 k5 x5' => ?_⟩
      have s5 := kp_same s4 hst0 k5
      refine ⟨_, rfl, st, 4, rfl, k5.dr, by decide, by decide, fun d6 H6 d60 d61 k6 => ?_⟩
      have s6 := kp_same s5 hst0 k6
      refine ⟨_, rfl, by omega, by omega, for_range (lo := 0) (n := d6.toNat) (fun j σ H' => ∃ (e : Cd.Ex) (q : Addr) (x6 : Option V), σ = [some (.ref a), some (.int (i : Int)), some (.ref st), some (.int m), some (.int (m + 1 + d4)), some (.ref q), x6, x7, x8, x9, x10, x11, x12, x13] ∧ Gd e (3 + j) (8 + 3 * j) (4 + 3 * j) ∧ ExAt K H' e q ∧ Kp st H6 H')
        ⟨e, q5, x6, rfl, g5, exKp k5.dr k6 e q5 x5', .refl k6.dr⟩ ?_ ?_⟩
      · rintro j σ H7 hj ⟨e7, q7, x6', rfl, g7, x7', k7⟩
        refine ⟨_, rfl, _, rfl, st, m + 1 + d4, rfl, k7.dr, by omega, by omega, fun e8 H8 q8 g8 k8 x8' => ?_⟩
        refine ⟨_, rfl, lt_sz (show 4 ≤ 200000 by decide), fun q9 hq9 => ?_⟩
        have s9 := same_new (o := .tup [.str "binary", .str "and", .ref q8, .ref q7]) hq9
        have hg := gd_bin (n := "and") (by decide) g8 g7
        exact ⟨.bin "and" e8 e7, q9, _, rfl, hg.mono (by omega) (by omega) (by omega), ⟨q8, q7, seqT upd_same, ex_same s9 e8 q8 x8', ex_same s9 e7 q7 (exKp k7.dr k8 e7 q7 x7')⟩, (k7.trans k8).tup hq9⟩
      rintro σ H7 ⟨e7, q7, x6', rfl, g7, x7', k7⟩
      have hd6 : d6.toNat ≤ 3 := by omega
      have g7' : Gd e7 6 17 13 := g7.mono (by omega) (by omega) (by omega)
      have s7 := kp_same s6 hst0 k7
      have hdata := keys_data (m := m) (by omega) (n := 20) g7' (by decide) (by decide) (by decide)
      have hh := g7'.ht
      have hcl := g7'.cl
      have hpl := g7'.pl
      -- the two texts
      refine ⟨_, rfl, _, rfl, q7, e7, m, rfl, x7', by omega, by omega, by omega, by decide, fun H8 t8 s8 K8 => ?_⟩
      refine ⟨t8, _, rfl, dKeys_dp K8, hdata.sh, hdata.nh, hdata.dp, hdata.fits (by decide), ?_⟩
      refine ⟨_, rfl, _, rfl, q7, e7, m, rfl, ex_same s8 e7 q7 x7', by omega, by omega, by omega, by decide, fun H9 t9 s9 K9 => ?_⟩
      refine ⟨t9, _, rfl, dKeys_dp K9, hdata.sh, hdata.nh, hdata.dp, hdata.fits (by decide), ?_⟩
      refine ⟨rfl, _, rfl, ?_⟩
      rw [decide_eq_true rfl]
      refine iteF ?_
      have s79 : Same H7 H9 := fun b o z => s9 b o (s8 b o z)
      have D9 : Dr H9 st := k7.dr.ext s79
      have s09 : Same H H9 := fun b o z => s79 b o (s7 b o z)
      -- x
      refine ⟨_, rfl, st, 20, rfl, D9, by decide, by decide, fun a1 Ha a10 a11 ka => ?_⟩
      refine ⟨_, rfl, _, _, rfl, rfl, ⟨by decide, by decide, by decide⟩, st, _, rfl, ka.dr, by decide, by decide, fun a2 Hb a20 a21 kb => ?_⟩
      refine ⟨_, _, rfl, rfl, ⟨by decide, by decide, by decide⟩, _, rfl, st, 3, rfl, kb.dr, by decide, by decide, fun a3 Hc a30 a31 kc => ?_⟩
      refine ⟨_, _, rfl, rfl, _, _, rfl, rfl, lt_sz (show 3 ≤ 200000 by decide), fun tx htx => ?_⟩
      have kabc := (ka.trans kb).trans kc
      have ktx := kabc.tup (xs := [.int a1, .int a2, .int ((2 : Int) ^ (Int.toNat 17) + a3 - 1)]) htx
      refine ⟨_, rfl, st, 3, rfl, ktx.dr, by decide, by decide, fun a4 Hd a40 a41 kd => ?_⟩
      have hTx : Hd tx = some (.tup [.int a1, .int a2, .int ((2 : Int) ^ (Int.toNat 17) + a3 - 1)]) := kd.1 _ _ (new_ne kabc.dr htx) upd_same
      obtain ⟨x, hx, hatx⟩ : ∃ x : Nat, x ≤ 2 ^ 60 ∧ atI [V.int a1, .int a2, .int ((2 : Int) ^ (Int.toNat 17) + a3 - 1)] a4 = some (.int (x : Int)) := by
        have : a4 = 0 ∨ a4 = 1 ∨ a4 = 2 := by omega
        have e17 : (2 : Int) ^ (Int.toNat 17) = 131072 := by decide
        have e12 : (10 : Int) ^ (Int.toNat 12) = 1000000000000 := by decide
        rw [e12] at a21
        rcases this with rfl | rfl | rfl
        · exact ⟨a1.toNat, by omega, by rw [Int.toNat_of_nonneg (by omega)]; rfl⟩
        · exact ⟨a2.toNat, by omega, by rw [Int.toNat_of_nonneg (by omega)]; rfl⟩
        · refine ⟨(131072 + a3 - 1).toNat, by omega, ?_⟩
          rw [Int.toNat_of_nonneg (by omega), e17]
          rfl
      refine ⟨tx, _, _, _, rfl, rfl, seqT hTx, hatx, ?_⟩
      have k9d := ktx.trans kd
      -- y
      refine ⟨_, rfl, st, 9, rfl, kd.dr, by decide, by decide, fun b1 He b10 b11 ke => ?_⟩
      refine ⟨_, rfl, _, _, rfl, rfl, ⟨by decide, by decide, by decide⟩, st, _, rfl, ke.dr, by decide, by decide, fun b2 Hf b20 b21 kf => ?_⟩
      refine ⟨_, rfl, lt_sz (show 3 ≤ 200000 by decide), fun ty hty => ?_⟩
      have kef := ke.trans kf
      have kty := kef.tup (xs := [.int b1, .int b2, .int (x : Int)]) hty
      refine ⟨_, rfl, st, 3, rfl, kty.dr, by decide, by decide, fun b4 Hg b40 b41 kg => ?_⟩
      have hTy : Hg ty = some (.tup [.int b1, .int b2, .int (x : Int)]) := kg.1 _ _ (new_ne kef.dr hty) upd_same
      obtain ⟨y, hy, haty⟩ : ∃ y : Nat, y ≤ 2 ^ 60 ∧ atI [V.int b1, .int b2, .int (x : Int)] b4 = some (.int (y : Int)) := by
        have : b4 = 0 ∨ b4 = 1 ∨ b4 = 2 := by omega
        have e9 : (10 : Int) ^ (Int.toNat 9) = 1000000000 := by decide
        rw [e9] at b21
        rcases this with rfl | rfl | rfl
        · exact ⟨b1.toNat, by omega, by rw [Int.toNat_of_nonneg (by omega)]; rfl⟩
        · exact ⟨b2.toNat, by omega, by rw [Int.toNat_of_nonneg (by omega)]; rfl⟩
        · exact ⟨x, hx, rfl⟩
      refine ⟨ty, _, _, _, rfl, rfl, seqT hTy, haty, ?_⟩
      have k9g := (k9d.trans kty).trans kg
      have sg : Same H Hg := kp_same s09 hst0 k9g
      -- the sorts
      refine ⟨_, rfl, _, rfl, lt_sz (show 2 ≤ 200000 by decide), fun tp htp => ?_⟩
      have sp1 := same_new (o := .tup [.int (x : Int), .int (y : Int)]) htp
      refine ⟨tp, rfl, ⟨_, seqT upd_same⟩, fun D hD => ?_⟩
      have sp2 := same_new (o := .lst []) hD
      have hmin : ∀ n : Nat, V.int ((n : Int) * (if ((Cd.halv n : Nat) : Int) < 40 then ((Cd.halv n : Nat) : Int) else 40)) = V.int (Cd.sortC n) := fun n => rfl
      refine lc_tup (xs := [.int (x : Int), .int (y : Int)]) (fun i H' => Same (upd Hg tp (.tup [.int (x : Int), .int (y : Int)])) H' ∧ H' D = some (.lst ([V.int (Cd.sortC x), V.int (Cd.sortC y)].take i)))
        ⟨sp2, upd_same⟩ (fun i H' _ ⟨h, _⟩ => seqT (h _ _ upd_same)) ?_ ?_
      · rintro i v H2 hv ⟨s2', hD2⟩
        have hi2 : i = 0 ∨ i = 1 := by
          have : i < 2 := by
            have := (List.getElem?_eq_some_iff.mp hv).1
            simpa using this
          omega
        rcases hi2 with rfl | rfl
        · have hv' : V.int (x : Int) = v := by simpa using hv
          subst hv'
          exact ⟨rfl, _, rfl, _, rfl, x, rfl, hx, _, _, rfl, _, _, rfl, rfl, small64 hx, _, hD2, lt_sz' (by simp), fun b o z => by rw [upd_ne (ne_of_none z hD)]; exact s2' b o z, by rw [upd_same]; rfl⟩
        · have hv' : V.int (y : Int) = v := by simpa using hv
          subst hv'
          exact ⟨rfl, _, rfl, _, rfl, y, rfl, hy, _, _, rfl, _, _, rfl, rfl, small64 hy, _, hD2, lt_sz' (by simp), fun b o z => by rw [upd_ne (ne_of_none z hD)]; exact s2' b o z, by rw [upd_same]; rfl⟩
      · rintro H2 ⟨s2', hD2⟩
        have hDs : H2 D = some (.lst ([Cd.sortC x, Cd.sortC y].map V.int)) := hD2
        have sg2 : Same H H2 := fun b o z => s2' b o (sp1 b o (sg b o z))
        -- halvings and sorts
        refine ⟨_, rfl, x, rfl, hx, _, rfl, x, rfl, hx, rfl, _, rfl, ?_⟩
        rw [decide_eq_true rfl]
        refine iteF ?_
        refine ⟨_, rfl, x, rfl, hx, _, rfl, y, rfl, hy, lt_sz (show 2 ≤ 200000 by decide), fun t1 ht1 => ?_⟩
        have s3 := same_new (o := .lst ([Cd.sortC x, Cd.sortC y].map V.int)) ht1
        refine ⟨_, rfl, dI [Cd.sortC x, Cd.sortC y], dI [Cd.sortC x, Cd.sortC y], dI_dp upd_same, dI_dp (s3 _ _ hDs), dI_shaped _, dI_shaped _, _, rfl, ?_⟩
        rw [dI_eqv]
        refine iteF ?_
        have h4D : SqL K (upd H2 t1 (.lst ([Cd.sortC x, Cd.sortC y].map V.int))) D [V.int (Cd.sortC x), .int (Cd.sortC y)] := seqL (s3 _ _ hDs)
        -- due
        refine ⟨_, rfl, _, rfl, _, _, rfl, rfl, small64 (n := 2) (by decide), _, _, rfl, rfl, ?_⟩
        refine ⟨_, rfl, _, _, rfl, rfl, small64 (n := 2) (by decide), _, rfl, _, _, rfl, rfl, ?_⟩
        refine ⟨_, rfl, D, _, _, _, rfl, rfl, h4D, at0, _, rfl, D, _, _, _, rfl, rfl, h4D, at1, _, _, rfl, rfl, _, rfl, _, _, rfl, rfl, _, rfl, _, _, rfl, rfl, ?_⟩
        refine ⟨_, rfl, _, rfl, _, rfl, _, _, rfl, rfl, small64 hx, _, _, rfl, rfl, lt_sz (show 4 ≤ 200000 by decide), fun td htd => ?_⟩
        have s4 := same_new (o := .lst ((dueL x y).map V.int)) htd
        -- told
        refine ⟨pW, rfl, ⟨_, T.t_WAYS _⟩, fun F hF => ?_⟩
        have s5 := same_new (o := .lst []) hF
        refine lc_tup (xs := waysL.map V.str) (fun i H' => Same (upd (upd H2 t1 (.lst ([Cd.sortC x, Cd.sortC y].map V.int))) td (.lst ((dueL x y).map V.int))) H' ∧ H' F = some (.lst ((waysL.map fun w => V.int (joinC w x y)).take i)))
          ⟨s5, upd_same⟩ (fun i H' _ _ => T.t_WAYS _) ?_ ?_
        · rintro i v H6 hv ⟨s6', hF6⟩
          obtain ⟨w', hw', rfl⟩ : ∃ w' : Str, waysL[i]? = some w' ∧ V.str w' = v := by
            rw [List.getElem?_map] at hv
            exact Option.map_eq_some_iff.mp hv
          refine ⟨rfl, _, rfl, _, rfl, _, rfl, w', x, y, rfl, hx, hy, _, hF6, lt_sz' (Nat.le_trans (List.length_take_le' _ _) (show 4 ≤ 200000 by decide)), fun b o z => by rw [upd_ne (ne_of_none z hF)]; exact s6' b o z, ?_⟩
          rw [upd_same, List.take_add_one, List.getElem?_map, hw']
          rfl
        · rintro H6 ⟨s6', hF6⟩
          have e4 : (waysL.map fun w => V.int (joinC w x y)).take 4 = (dueL x y).map V.int := by
            show [V.int (joinC "hash right" x y), V.int (joinC "hash left" x y), V.int (joinC "merge" x y), V.int (joinC "loop" x y)] = _
            rw [j_hr, j_hl, j_me, j_lo]
            rfl
          have hF6' : H6 F = some (.lst ((dueL x y).map V.int)) := hF6.trans (congrArg (fun l => some (HO.lst l)) e4)
          refine ⟨_, rfl, _, rfl, dI _, dI _, dI_dp hF6', dI_dp (s6' _ _ upd_same), dI_shaped _, dI_shaped _, _, rfl, ?_⟩
          rw [dI_eqv]
          refine iteF ?_
          have h6D : SqL K H6 D [V.int (Cd.sortC x), .int (Cd.sortC y)] := seqL (s6' _ _ (s4 _ _ (s3 _ _ hDs)))
          refine ⟨_, rfl, "hash", x, rfl, hx, _, rfl, "sort", x, rfl, hx, lt_sz (show 2 ≤ 200000 by decide), fun t2 ht2 => ?_⟩
          have s7 := same_new (o := .lst ([groupC "hash" x, groupC "sort" x].map V.int)) ht2
          have h7D : SqL K (upd H6 t2 (.lst ([groupC "hash" x, groupC "sort" x].map V.int))) D [V.int (Cd.sortC x), .int (Cd.sortC y)] := s7.seq h6D
          refine ⟨_, rfl, _, _, rfl, rfl, small64 (n := 2) (by decide), _, rfl, D, _, _, _, rfl, rfl, h7D, at0, _, rfl, _, _, rfl, rfl, lt_sz (show 2 ≤ 200000 by decide), fun t3 ht3 => ?_⟩
          have s8 := same_new (o := .lst ([2 * (x : Int), Cd.sortC x + (x : Int)].map V.int)) ht3
          refine ⟨dI [groupC "hash" x, groupC "sort" x], dI [2 * (x : Int), Cd.sortC x + (x : Int)], dI_dp (s8 _ _ upd_same), dI_dp upd_same, dI_shaped _, dI_shaped _, _, rfl, ?_⟩
          rw [g_ha, g_so, dI_eqv]
          refine iteF ?_
          have h9F := s8 _ _ (s7 _ _ hF6')
          have s39 : Same H (upd (upd H6 t2 (.lst ([groupC "hash" x, groupC "sort" x].map V.int))) t3 (.lst ([2 * (x : Int), Cd.sortC x + (x : Int)].map V.int))) := fun b o z => s8 b o (s7 b o (s6' b o (s4 b o (s3 b o (sg2 b o z)))))
          refine ⟨_, rfl, F, rfl, ⟨_, seqL h9F⟩, for_list (xs := (dueL x y).map V.int) (fun _ σ H' => ∃ x1 x2 x3 x4 x5 x6 x7 x8 x9 x10 x11 x12 x13 : Option V, σ = [some (.ref a), x1, x2, x3, x4, x5, x6, x7, x8, x9, x10, x11, x12, x13] ∧ SqL K H' F ((dueL x y).map V.int) ∧ Same H H')
            ⟨_, _, _, _, _, _, _, _, _, _, _, _, _, rfl, seqL h9F, s39⟩ ?_ ?_ ?_⟩
          · rintro _ σ H' _ ⟨_, _, _, _, _, _, _, _, _, _, _, _, _, _, h, _⟩
            exact h
          · rintro j v σ H' hv ⟨y1, y2, y3, y4, y5, y6, y7, y8, y9, y10, y11, y12, y13, rfl, hq, hs⟩
            rw [List.getElem?_map] at hv
            obtain ⟨z, _, rfl⟩ := Option.map_eq_some_iff.mp hv
            refine ⟨_, rfl, z, rfl, true, rfl, ?_⟩
            refine iteF ?_
            exact ⟨_, _, _, _, _, _, _, _, _, _, _, _, _, rfl, hq, hs⟩
          · rintro σ H' ⟨y1, y2, y3, y4, y5, y6, y7, y8, y9, y10, y11, y12, y13, rfl, hq, hs⟩
            exact ⟨_, _, _, _, _, _, _, _, _, _, _, _, _, rfl, hs⟩
    · rintro σ H1 ⟨x1, x2, x3, x4, x5, x6, x7, x8, x9, x10, x11, x12, x13, rfl, s1⟩
      exact kk _
end
end Sb
set_option Elab.async false
set_option maxRecDepth 100000
set_option maxHeartbeats 4000000
namespace Sb
open PySem PySem.Spec PyProof.Rows L2 SX
theorem all_mk {l : PySem.W.OpenLaw} {w : World} {K : PySem.W.Frag} {h : Heap} {mg : Str → Option Value} {fa f__law_cell f__law_state f__law_digit f__law_is_integer f__law_text f__law_value f__law_parts f__law_joined f__law_used f__law_side f__law_moved f__law_halved f__law_due f__law_equal f__law_condition f_parts_of f_with_parts f_gather_columns f_columns_of f_moved f_condition_parts f_conjunction f_halvings f_sort_cost f_join_cost f_group_cost f_side_of f_key_of f_keys_of f_law : Addr} (X : K.In h) (G : h.Ns mainGlobals mg) (hfa : mg "law" = some (.ref fa))
    {od__law_cell an__law_cell : Option Addr} {sl__law_cell : Array (Option Value)} {oc__law_cell kV__law_cell dc__law_cell pm__law_cell cd__law_cell ct__law_cell : Value}
    {od__law_state an__law_state : Option Addr} {sl__law_state : Array (Option Value)} {oc__law_state kV__law_state dc__law_state pm__law_state cd__law_state ct__law_state : Value}
    {od__law_digit an__law_digit : Option Addr} {sl__law_digit : Array (Option Value)} {oc__law_digit kV__law_digit dc__law_digit pm__law_digit cd__law_digit ct__law_digit : Value}
    {od__law_is_integer an__law_is_integer : Option Addr} {sl__law_is_integer : Array (Option Value)} {oc__law_is_integer kV__law_is_integer dc__law_is_integer pm__law_is_integer cd__law_is_integer ct__law_is_integer : Value}
    {od__law_text an__law_text : Option Addr} {sl__law_text : Array (Option Value)} {oc__law_text kV__law_text dc__law_text pm__law_text cd__law_text ct__law_text : Value}
    {od__law_value an__law_value : Option Addr} {sl__law_value : Array (Option Value)} {oc__law_value kV__law_value dc__law_value pm__law_value cd__law_value ct__law_value : Value}
    {od__law_parts an__law_parts : Option Addr} {sl__law_parts : Array (Option Value)} {oc__law_parts kV__law_parts dc__law_parts pm__law_parts cd__law_parts ct__law_parts : Value}
    {od__law_joined an__law_joined : Option Addr} {sl__law_joined : Array (Option Value)} {oc__law_joined kV__law_joined dc__law_joined pm__law_joined cd__law_joined ct__law_joined : Value}
    {od__law_used an__law_used : Option Addr} {sl__law_used : Array (Option Value)} {oc__law_used kV__law_used dc__law_used pm__law_used cd__law_used ct__law_used : Value}
    {od__law_side an__law_side : Option Addr} {sl__law_side : Array (Option Value)} {oc__law_side kV__law_side dc__law_side pm__law_side cd__law_side ct__law_side : Value}
    {od__law_moved an__law_moved : Option Addr} {sl__law_moved : Array (Option Value)} {oc__law_moved kV__law_moved dc__law_moved pm__law_moved cd__law_moved ct__law_moved : Value}
    {od__law_halved an__law_halved : Option Addr} {sl__law_halved : Array (Option Value)} {oc__law_halved kV__law_halved dc__law_halved pm__law_halved cd__law_halved ct__law_halved : Value}
    {od__law_due an__law_due : Option Addr} {sl__law_due : Array (Option Value)} {oc__law_due kV__law_due dc__law_due pm__law_due cd__law_due ct__law_due : Value}
    {od__law_equal an__law_equal : Option Addr} {sl__law_equal : Array (Option Value)} {oc__law_equal kV__law_equal dc__law_equal pm__law_equal cd__law_equal ct__law_equal : Value}
    {od__law_condition an__law_condition : Option Addr} {sl__law_condition : Array (Option Value)} {oc__law_condition kV__law_condition dc__law_condition pm__law_condition cd__law_condition ct__law_condition : Value}
    {od_parts_of an_parts_of : Option Addr} {sl_parts_of : Array (Option Value)} {oc_parts_of kV_parts_of dc_parts_of pm_parts_of cd_parts_of ct_parts_of : Value}
    {od_with_parts an_with_parts : Option Addr} {sl_with_parts : Array (Option Value)} {oc_with_parts kV_with_parts dc_with_parts pm_with_parts cd_with_parts ct_with_parts : Value}
    {od_gather_columns an_gather_columns : Option Addr} {sl_gather_columns : Array (Option Value)} {oc_gather_columns kV_gather_columns dc_gather_columns pm_gather_columns cd_gather_columns ct_gather_columns : Value}
    {od_columns_of an_columns_of : Option Addr} {sl_columns_of : Array (Option Value)} {oc_columns_of kV_columns_of dc_columns_of pm_columns_of cd_columns_of ct_columns_of : Value}
    {od_moved an_moved : Option Addr} {sl_moved : Array (Option Value)} {oc_moved kV_moved dc_moved pm_moved cd_moved ct_moved : Value}
    {od_condition_parts an_condition_parts : Option Addr} {sl_condition_parts : Array (Option Value)} {oc_condition_parts kV_condition_parts dc_condition_parts pm_condition_parts cd_condition_parts ct_condition_parts : Value}
    {od_conjunction an_conjunction : Option Addr} {sl_conjunction : Array (Option Value)} {oc_conjunction kV_conjunction dc_conjunction pm_conjunction cd_conjunction ct_conjunction : Value}
    {od_halvings an_halvings : Option Addr} {sl_halvings : Array (Option Value)} {oc_halvings kV_halvings dc_halvings pm_halvings cd_halvings ct_halvings : Value}
    {od_sort_cost an_sort_cost : Option Addr} {sl_sort_cost : Array (Option Value)} {oc_sort_cost kV_sort_cost dc_sort_cost pm_sort_cost cd_sort_cost ct_sort_cost : Value}
    {od_join_cost an_join_cost : Option Addr} {sl_join_cost : Array (Option Value)} {oc_join_cost kV_join_cost dc_join_cost pm_join_cost cd_join_cost ct_join_cost : Value}
    {od_group_cost an_group_cost : Option Addr} {sl_group_cost : Array (Option Value)} {oc_group_cost kV_group_cost dc_group_cost pm_group_cost cd_group_cost ct_group_cost : Value}
    {od_side_of an_side_of : Option Addr} {sl_side_of : Array (Option Value)} {oc_side_of kV_side_of dc_side_of pm_side_of cd_side_of ct_side_of : Value}
    {od_key_of an_key_of : Option Addr} {sl_key_of : Array (Option Value)} {oc_key_of kV_key_of dc_key_of pm_key_of cd_key_of ct_key_of : Value}
    {od_keys_of an_keys_of : Option Addr} {sl_keys_of : Array (Option Value)} {oc_keys_of kV_keys_of dc_keys_of pm_keys_of cd_keys_of ct_keys_of : Value}
    {od_law an_law : Option Addr} {sl_law : Array (Option Value)} {oc_law kV_law dc_law pm_law cd_law ct_law : Value}
    {pT pW : Addr} {odT odW : Option Addr} {nT nW : Nat} {slT slW : Array (Option Value)} {tT1 tW1 tW2 tW3 tW4 : Tok}
    (a__law_cell : PySem.W.nsIn K mainGlobals "_law_cell" = some (some (.ref f__law_cell)))
    (l__law_cell : K.lookup f__law_cell = some ⟨oc__law_cell, od__law_cell, .func (PySem.W.fnOf "_law_cell" "_law_cell" (defArgs s__law_cell) (defBody s__law_cell) (defScope s__law_cell) .none kV__law_cell dc__law_cell pm__law_cell an__law_cell cd__law_cell ct__law_cell), sl__law_cell⟩)
    (c__law_cell : PySem.W.codeIn K cd__law_cell "_law_cell" = true)
    (k__law_cell : PySem.W.keepIn K (.ref f__law_cell) = true)
    (a__law_state : PySem.W.nsIn K mainGlobals "_law_state" = some (some (.ref f__law_state)))
    (l__law_state : K.lookup f__law_state = some ⟨oc__law_state, od__law_state, .func (PySem.W.fnOf "_law_state" "_law_state" (defArgs s__law_state) (defBody s__law_state) (defScope s__law_state) .none kV__law_state dc__law_state pm__law_state an__law_state cd__law_state ct__law_state), sl__law_state⟩)
    (c__law_state : PySem.W.codeIn K cd__law_state "_law_state" = true)
    (k__law_state : PySem.W.keepIn K (.ref f__law_state) = true)
    (a__law_digit : PySem.W.nsIn K mainGlobals "_law_digit" = some (some (.ref f__law_digit)))
    (l__law_digit : K.lookup f__law_digit = some ⟨oc__law_digit, od__law_digit, .func (PySem.W.fnOf "_law_digit" "_law_digit" (defArgs s__law_digit) (defBody s__law_digit) (defScope s__law_digit) .none kV__law_digit dc__law_digit pm__law_digit an__law_digit cd__law_digit ct__law_digit), sl__law_digit⟩)
    (c__law_digit : PySem.W.codeIn K cd__law_digit "_law_digit" = true)
    (k__law_digit : PySem.W.keepIn K (.ref f__law_digit) = true)
    (a__law_is_integer : PySem.W.nsIn K mainGlobals "_law_is_integer" = some (some (.ref f__law_is_integer)))
    (l__law_is_integer : K.lookup f__law_is_integer = some ⟨oc__law_is_integer, od__law_is_integer, .func (PySem.W.fnOf "_law_is_integer" "_law_is_integer" (defArgs s__law_is_integer) (defBody s__law_is_integer) (defScope s__law_is_integer) .none kV__law_is_integer dc__law_is_integer pm__law_is_integer an__law_is_integer cd__law_is_integer ct__law_is_integer), sl__law_is_integer⟩)
    (c__law_is_integer : PySem.W.codeIn K cd__law_is_integer "_law_is_integer" = true)
    (k__law_is_integer : PySem.W.keepIn K (.ref f__law_is_integer) = true)
    (a__law_text : PySem.W.nsIn K mainGlobals "_law_text" = some (some (.ref f__law_text)))
    (l__law_text : K.lookup f__law_text = some ⟨oc__law_text, od__law_text, .func (PySem.W.fnOf "_law_text" "_law_text" (defArgs s__law_text) (defBody s__law_text) (defScope s__law_text) .none kV__law_text dc__law_text pm__law_text an__law_text cd__law_text ct__law_text), sl__law_text⟩)
    (c__law_text : PySem.W.codeIn K cd__law_text "_law_text" = true)
    (k__law_text : PySem.W.keepIn K (.ref f__law_text) = true)
    (a__law_value : PySem.W.nsIn K mainGlobals "_law_value" = some (some (.ref f__law_value)))
    (l__law_value : K.lookup f__law_value = some ⟨oc__law_value, od__law_value, .func (PySem.W.fnOf "_law_value" "_law_value" (defArgs s__law_value) (defBody s__law_value) (defScope s__law_value) .none kV__law_value dc__law_value pm__law_value an__law_value cd__law_value ct__law_value), sl__law_value⟩)
    (c__law_value : PySem.W.codeIn K cd__law_value "_law_value" = true)
    (k__law_value : PySem.W.keepIn K (.ref f__law_value) = true)
    (a__law_parts : PySem.W.nsIn K mainGlobals "_law_parts" = some (some (.ref f__law_parts)))
    (l__law_parts : K.lookup f__law_parts = some ⟨oc__law_parts, od__law_parts, .func (PySem.W.fnOf "_law_parts" "_law_parts" (defArgs s__law_parts) (defBody s__law_parts) (defScope s__law_parts) .none kV__law_parts dc__law_parts pm__law_parts an__law_parts cd__law_parts ct__law_parts), sl__law_parts⟩)
    (c__law_parts : PySem.W.codeIn K cd__law_parts "_law_parts" = true)
    (k__law_parts : PySem.W.keepIn K (.ref f__law_parts) = true)
    (a__law_joined : PySem.W.nsIn K mainGlobals "_law_joined" = some (some (.ref f__law_joined)))
    (l__law_joined : K.lookup f__law_joined = some ⟨oc__law_joined, od__law_joined, .func (PySem.W.fnOf "_law_joined" "_law_joined" (defArgs s__law_joined) (defBody s__law_joined) (defScope s__law_joined) .none kV__law_joined dc__law_joined pm__law_joined an__law_joined cd__law_joined ct__law_joined), sl__law_joined⟩)
    (c__law_joined : PySem.W.codeIn K cd__law_joined "_law_joined" = true)
    (k__law_joined : PySem.W.keepIn K (.ref f__law_joined) = true)
    (a__law_used : PySem.W.nsIn K mainGlobals "_law_used" = some (some (.ref f__law_used)))
    (l__law_used : K.lookup f__law_used = some ⟨oc__law_used, od__law_used, .func (PySem.W.fnOf "_law_used" "_law_used" (defArgs s__law_used) (defBody s__law_used) (defScope s__law_used) .none kV__law_used dc__law_used pm__law_used an__law_used cd__law_used ct__law_used), sl__law_used⟩)
    (c__law_used : PySem.W.codeIn K cd__law_used "_law_used" = true)
    (k__law_used : PySem.W.keepIn K (.ref f__law_used) = true)
    (a__law_side : PySem.W.nsIn K mainGlobals "_law_side" = some (some (.ref f__law_side)))
    (l__law_side : K.lookup f__law_side = some ⟨oc__law_side, od__law_side, .func (PySem.W.fnOf "_law_side" "_law_side" (defArgs s__law_side) (defBody s__law_side) (defScope s__law_side) .none kV__law_side dc__law_side pm__law_side an__law_side cd__law_side ct__law_side), sl__law_side⟩)
    (c__law_side : PySem.W.codeIn K cd__law_side "_law_side" = true)
    (k__law_side : PySem.W.keepIn K (.ref f__law_side) = true)
    (a__law_moved : PySem.W.nsIn K mainGlobals "_law_moved" = some (some (.ref f__law_moved)))
    (l__law_moved : K.lookup f__law_moved = some ⟨oc__law_moved, od__law_moved, .func (PySem.W.fnOf "_law_moved" "_law_moved" (defArgs s__law_moved) (defBody s__law_moved) (defScope s__law_moved) .none kV__law_moved dc__law_moved pm__law_moved an__law_moved cd__law_moved ct__law_moved), sl__law_moved⟩)
    (c__law_moved : PySem.W.codeIn K cd__law_moved "_law_moved" = true)
    (k__law_moved : PySem.W.keepIn K (.ref f__law_moved) = true)
    (a__law_halved : PySem.W.nsIn K mainGlobals "_law_halved" = some (some (.ref f__law_halved)))
    (l__law_halved : K.lookup f__law_halved = some ⟨oc__law_halved, od__law_halved, .func (PySem.W.fnOf "_law_halved" "_law_halved" (defArgs s__law_halved) (defBody s__law_halved) (defScope s__law_halved) .none kV__law_halved dc__law_halved pm__law_halved an__law_halved cd__law_halved ct__law_halved), sl__law_halved⟩)
    (c__law_halved : PySem.W.codeIn K cd__law_halved "_law_halved" = true)
    (k__law_halved : PySem.W.keepIn K (.ref f__law_halved) = true)
    (a__law_due : PySem.W.nsIn K mainGlobals "_law_due" = some (some (.ref f__law_due)))
    (l__law_due : K.lookup f__law_due = some ⟨oc__law_due, od__law_due, .func (PySem.W.fnOf "_law_due" "_law_due" (defArgs s__law_due) (defBody s__law_due) (defScope s__law_due) .none kV__law_due dc__law_due pm__law_due an__law_due cd__law_due ct__law_due), sl__law_due⟩)
    (c__law_due : PySem.W.codeIn K cd__law_due "_law_due" = true)
    (k__law_due : PySem.W.keepIn K (.ref f__law_due) = true)
    (a__law_equal : PySem.W.nsIn K mainGlobals "_law_equal" = some (some (.ref f__law_equal)))
    (l__law_equal : K.lookup f__law_equal = some ⟨oc__law_equal, od__law_equal, .func (PySem.W.fnOf "_law_equal" "_law_equal" (defArgs s__law_equal) (defBody s__law_equal) (defScope s__law_equal) .none kV__law_equal dc__law_equal pm__law_equal an__law_equal cd__law_equal ct__law_equal), sl__law_equal⟩)
    (c__law_equal : PySem.W.codeIn K cd__law_equal "_law_equal" = true)
    (k__law_equal : PySem.W.keepIn K (.ref f__law_equal) = true)
    (a__law_condition : PySem.W.nsIn K mainGlobals "_law_condition" = some (some (.ref f__law_condition)))
    (l__law_condition : K.lookup f__law_condition = some ⟨oc__law_condition, od__law_condition, .func (PySem.W.fnOf "_law_condition" "_law_condition" (defArgs s__law_condition) (defBody s__law_condition) (defScope s__law_condition) .none kV__law_condition dc__law_condition pm__law_condition an__law_condition cd__law_condition ct__law_condition), sl__law_condition⟩)
    (c__law_condition : PySem.W.codeIn K cd__law_condition "_law_condition" = true)
    (k__law_condition : PySem.W.keepIn K (.ref f__law_condition) = true)
    (a_parts_of : PySem.W.nsIn K mainGlobals "parts_of" = some (some (.ref f_parts_of)))
    (l_parts_of : K.lookup f_parts_of = some ⟨oc_parts_of, od_parts_of, .func (PySem.W.fnOf "parts_of" "parts_of" (defArgs s_parts_of) (defBody s_parts_of) (defScope s_parts_of) .none kV_parts_of dc_parts_of pm_parts_of an_parts_of cd_parts_of ct_parts_of), sl_parts_of⟩)
    (c_parts_of : PySem.W.codeIn K cd_parts_of "parts_of" = true)
    (k_parts_of : PySem.W.keepIn K (.ref f_parts_of) = true)
    (a_with_parts : PySem.W.nsIn K mainGlobals "with_parts" = some (some (.ref f_with_parts)))
    (l_with_parts : K.lookup f_with_parts = some ⟨oc_with_parts, od_with_parts, .func (PySem.W.fnOf "with_parts" "with_parts" (defArgs s_with_parts) (defBody s_with_parts) (defScope s_with_parts) .none kV_with_parts dc_with_parts pm_with_parts an_with_parts cd_with_parts ct_with_parts), sl_with_parts⟩)
    (c_with_parts : PySem.W.codeIn K cd_with_parts "with_parts" = true)
    (k_with_parts : PySem.W.keepIn K (.ref f_with_parts) = true)
    (a_gather_columns : PySem.W.nsIn K mainGlobals "gather_columns" = some (some (.ref f_gather_columns)))
    (l_gather_columns : K.lookup f_gather_columns = some ⟨oc_gather_columns, od_gather_columns, .func (PySem.W.fnOf "gather_columns" "gather_columns" (defArgs s_gather_columns) (defBody s_gather_columns) (defScope s_gather_columns) .none kV_gather_columns dc_gather_columns pm_gather_columns an_gather_columns cd_gather_columns ct_gather_columns), sl_gather_columns⟩)
    (c_gather_columns : PySem.W.codeIn K cd_gather_columns "gather_columns" = true)
    (k_gather_columns : PySem.W.keepIn K (.ref f_gather_columns) = true)
    (a_columns_of : PySem.W.nsIn K mainGlobals "columns_of" = some (some (.ref f_columns_of)))
    (l_columns_of : K.lookup f_columns_of = some ⟨oc_columns_of, od_columns_of, .func (PySem.W.fnOf "columns_of" "columns_of" (defArgs s_columns_of) (defBody s_columns_of) (defScope s_columns_of) .none kV_columns_of dc_columns_of pm_columns_of an_columns_of cd_columns_of ct_columns_of), sl_columns_of⟩)
    (c_columns_of : PySem.W.codeIn K cd_columns_of "columns_of" = true)
    (k_columns_of : PySem.W.keepIn K (.ref f_columns_of) = true)
    (a_moved : PySem.W.nsIn K mainGlobals "moved" = some (some (.ref f_moved)))
    (l_moved : K.lookup f_moved = some ⟨oc_moved, od_moved, .func (PySem.W.fnOf "moved" "moved" (defArgs s_moved) (defBody s_moved) (defScope s_moved) .none kV_moved dc_moved pm_moved an_moved cd_moved ct_moved), sl_moved⟩)
    (c_moved : PySem.W.codeIn K cd_moved "moved" = true)
    (k_moved : PySem.W.keepIn K (.ref f_moved) = true)
    (a_condition_parts : PySem.W.nsIn K mainGlobals "condition_parts" = some (some (.ref f_condition_parts)))
    (l_condition_parts : K.lookup f_condition_parts = some ⟨oc_condition_parts, od_condition_parts, .func (PySem.W.fnOf "condition_parts" "condition_parts" (defArgs s_condition_parts) (defBody s_condition_parts) (defScope s_condition_parts) .none kV_condition_parts dc_condition_parts pm_condition_parts an_condition_parts cd_condition_parts ct_condition_parts), sl_condition_parts⟩)
    (c_condition_parts : PySem.W.codeIn K cd_condition_parts "condition_parts" = true)
    (k_condition_parts : PySem.W.keepIn K (.ref f_condition_parts) = true)
    (a_conjunction : PySem.W.nsIn K mainGlobals "conjunction" = some (some (.ref f_conjunction)))
    (l_conjunction : K.lookup f_conjunction = some ⟨oc_conjunction, od_conjunction, .func (PySem.W.fnOf "conjunction" "conjunction" (defArgs s_conjunction) (defBody s_conjunction) (defScope s_conjunction) .none kV_conjunction dc_conjunction pm_conjunction an_conjunction cd_conjunction ct_conjunction), sl_conjunction⟩)
    (c_conjunction : PySem.W.codeIn K cd_conjunction "conjunction" = true)
    (k_conjunction : PySem.W.keepIn K (.ref f_conjunction) = true)
    (a_halvings : PySem.W.nsIn K mainGlobals "halvings" = some (some (.ref f_halvings)))
    (l_halvings : K.lookup f_halvings = some ⟨oc_halvings, od_halvings, .func (PySem.W.fnOf "halvings" "halvings" (defArgs s_halvings) (defBody s_halvings) (defScope s_halvings) .none kV_halvings dc_halvings pm_halvings an_halvings cd_halvings ct_halvings), sl_halvings⟩)
    (c_halvings : PySem.W.codeIn K cd_halvings "halvings" = true)
    (k_halvings : PySem.W.keepIn K (.ref f_halvings) = true)
    (a_sort_cost : PySem.W.nsIn K mainGlobals "sort_cost" = some (some (.ref f_sort_cost)))
    (l_sort_cost : K.lookup f_sort_cost = some ⟨oc_sort_cost, od_sort_cost, .func (PySem.W.fnOf "sort_cost" "sort_cost" (defArgs s_sort_cost) (defBody s_sort_cost) (defScope s_sort_cost) .none kV_sort_cost dc_sort_cost pm_sort_cost an_sort_cost cd_sort_cost ct_sort_cost), sl_sort_cost⟩)
    (c_sort_cost : PySem.W.codeIn K cd_sort_cost "sort_cost" = true)
    (k_sort_cost : PySem.W.keepIn K (.ref f_sort_cost) = true)
    (a_join_cost : PySem.W.nsIn K mainGlobals "join_cost" = some (some (.ref f_join_cost)))
    (l_join_cost : K.lookup f_join_cost = some ⟨oc_join_cost, od_join_cost, .func (PySem.W.fnOf "join_cost" "join_cost" (defArgs s_join_cost) (defBody s_join_cost) (defScope s_join_cost) .none kV_join_cost dc_join_cost pm_join_cost an_join_cost cd_join_cost ct_join_cost), sl_join_cost⟩)
    (c_join_cost : PySem.W.codeIn K cd_join_cost "join_cost" = true)
    (k_join_cost : PySem.W.keepIn K (.ref f_join_cost) = true)
    (a_group_cost : PySem.W.nsIn K mainGlobals "group_cost" = some (some (.ref f_group_cost)))
    (l_group_cost : K.lookup f_group_cost = some ⟨oc_group_cost, od_group_cost, .func (PySem.W.fnOf "group_cost" "group_cost" (defArgs s_group_cost) (defBody s_group_cost) (defScope s_group_cost) .none kV_group_cost dc_group_cost pm_group_cost an_group_cost cd_group_cost ct_group_cost), sl_group_cost⟩)
    (c_group_cost : PySem.W.codeIn K cd_group_cost "group_cost" = true)
    (k_group_cost : PySem.W.keepIn K (.ref f_group_cost) = true)
    (a_side_of : PySem.W.nsIn K mainGlobals "side_of" = some (some (.ref f_side_of)))
    (l_side_of : K.lookup f_side_of = some ⟨oc_side_of, od_side_of, .func (PySem.W.fnOf "side_of" "side_of" (defArgs s_side_of) (defBody s_side_of) (defScope s_side_of) .none kV_side_of dc_side_of pm_side_of an_side_of cd_side_of ct_side_of), sl_side_of⟩)
    (c_side_of : PySem.W.codeIn K cd_side_of "side_of" = true)
    (k_side_of : PySem.W.keepIn K (.ref f_side_of) = true)
    (a_key_of : PySem.W.nsIn K mainGlobals "key_of" = some (some (.ref f_key_of)))
    (l_key_of : K.lookup f_key_of = some ⟨oc_key_of, od_key_of, .func (PySem.W.fnOf "key_of" "key_of" (defArgs s_key_of) (defBody s_key_of) (defScope s_key_of) .none kV_key_of dc_key_of pm_key_of an_key_of cd_key_of ct_key_of), sl_key_of⟩)
    (c_key_of : PySem.W.codeIn K cd_key_of "key_of" = true)
    (k_key_of : PySem.W.keepIn K (.ref f_key_of) = true)
    (a_keys_of : PySem.W.nsIn K mainGlobals "keys_of" = some (some (.ref f_keys_of)))
    (l_keys_of : K.lookup f_keys_of = some ⟨oc_keys_of, od_keys_of, .func (PySem.W.fnOf "keys_of" "keys_of" (defArgs s_keys_of) (defBody s_keys_of) (defScope s_keys_of) .none kV_keys_of dc_keys_of pm_keys_of an_keys_of cd_keys_of ct_keys_of), sl_keys_of⟩)
    (c_keys_of : PySem.W.codeIn K cd_keys_of "keys_of" = true)
    (k_keys_of : PySem.W.keepIn K (.ref f_keys_of) = true)
    (a_law : PySem.W.nsIn K mainGlobals "law" = some (some (.ref f_law)))
    (l_law : K.lookup f_law = some ⟨oc_law, od_law, .func (PySem.W.fnOf "law" "law" (defArgs s_law) (defBody s_law) (defScope s_law) .none kV_law dc_law pm_law an_law cd_law ct_law), sl_law⟩)
    (c_law : PySem.W.codeIn K cd_law "law" = true)
    (k_law : PySem.W.keepIn K (.ref f_law) = true)
    (z_len : PySem.W.nsIn K mainGlobals "len" = some none)
    (z_int : PySem.W.nsIn K mainGlobals "int" = some none)
    (z_range : PySem.W.nsIn K mainGlobals "range" = some none)
    (z_min : PySem.W.nsIn K mainGlobals "min" = some none)
    (z_max : PySem.W.nsIn K mainGlobals "max" = some none)
    (z_isinstance : PySem.W.nsIn K mainGlobals "isinstance" = some none)
    (z_list : PySem.W.nsIn K mainGlobals "list" = some none)
    (z_tuple : PySem.W.nsIn K mainGlobals "tuple" = some none)
    (z_bool : PySem.W.nsIn K mainGlobals "bool" = some none)
    (z_sorted : PySem.W.nsIn K mainGlobals "sorted" = some none)
    (z_set : PySem.W.nsIn K mainGlobals "set" = some none)
    (z_repr : PySem.W.nsIn K mainGlobals "repr" = some none)
    (v_TRUE : PySem.W.nsIn K mainGlobals "TRUE" = some (some (.ref pT)))
    (v_WAYS : PySem.W.nsIn K mainGlobals "WAYS" = some (some (.ref pW)))
    (o_TRUE : K.lookup pT = some ⟨.type "tuple", odT, .seq #[.str "constant" tT1, .bool true] nT, slT⟩)
    (o_WAYS : K.lookup pW = some ⟨.type "tuple", odW, .seq #[.str "hash right" tW1, .str "hash left" tW2, .str "merge" tW3, .str "loop" tW4] nW, slW⟩) :
    ∃ fd : FuncData, (∀ (s : Shared) (v : Value), BindsTo s fd ⟨[v], []⟩ [("_law_script", v)]) ∧ ∀ base : Heap, K.In base → base.Ns mainGlobals mg → FnG l.prog w K mg base CX0 26 fa fd ["_law_script"] (spLaw K) := by
  have e := hfa.symm.trans (PySem.W.mg_of X G a_law)
  cases e
  have T : Txt K mg pT pW := ⟨PySem.W.mg_none_of X G z_len, PySem.W.mg_none_of X G z_int, PySem.W.mg_none_of X G z_range, PySem.W.mg_none_of X G z_min, PySem.W.mg_none_of X G z_max, PySem.W.mg_none_of X G z_isinstance, PySem.W.mg_none_of X G z_list, PySem.W.mg_none_of X G z_tuple, PySem.W.mg_none_of X G z_bool, PySem.W.mg_none_of X G z_sorted, PySem.W.mg_none_of X G z_set, PySem.W.mg_none_of X G z_repr,
    PySem.W.mg_of X G v_TRUE, fun _ => .inr ⟨_, _, _, o_TRUE, rfl, rfl, lt_sz (show 2 ≤ 200000 by decide), .cons ⟨_, rfl⟩ (.cons rfl .nil)⟩, PySem.W.mg_of X G v_WAYS, fun _ => .inr ⟨_, _, _, o_WAYS, rfl, rfl, lt_sz (show 4 ≤ 200000 by decide), .cons ⟨_, rfl⟩ (.cons ⟨_, rfl⟩ (.cons ⟨_, rfl⟩ (.cons ⟨_, rfl⟩ .nil)))⟩⟩
  have F__law_cell := fun_mk (st := s__law_cell) l__law_cell c__law_cell k__law_cell
  have b__law_cell := F__law_cell.binds (ps := ["_law_script", "_law_k"]) fun _ _ _ _ _ _ us hl => match us, hl with | [_, _], _ => rfl
  have F__law_state := fun_mk (st := s__law_state) l__law_state c__law_state k__law_state
  have b__law_state := F__law_state.binds (ps := ["_law_cell_here", "_law_k"]) fun _ _ _ _ _ _ us hl => match us, hl with | [_, _], _ => rfl
  have F__law_digit := fun_mk (st := s__law_digit) l__law_digit c__law_digit k__law_digit
  have b__law_digit := F__law_digit.binds (ps := ["_law_state_here", "_law_many"]) fun _ _ _ _ _ _ us hl => match us, hl with | [_, _], _ => rfl
  have F__law_is_integer := fun_mk (st := s__law_is_integer) l__law_is_integer c__law_is_integer k__law_is_integer
  have b__law_is_integer := F__law_is_integer.binds (ps := ["_law_told"]) fun _ _ _ _ _ _ us hl => match us, hl with | [_], _ => rfl
  have F__law_text := fun_mk (st := s__law_text) l__law_text c__law_text k__law_text
  have b__law_text := F__law_text.binds (ps := ["_law_state_here"]) fun _ _ _ _ _ _ us hl => match us, hl with | [_], _ => rfl
  have F__law_value := fun_mk (st := s__law_value) l__law_value c__law_value k__law_value
  have b__law_value := F__law_value.binds (ps := ["_law_state_here"]) fun _ _ _ _ _ _ us hl => match us, hl with | [_], _ => rfl
  have F__law_parts := fun_mk (st := s__law_parts) l__law_parts c__law_parts k__law_parts
  have b__law_parts := F__law_parts.binds (ps := ["_law_condition_here"]) fun _ _ _ _ _ _ us hl => match us, hl with | [_], _ => rfl
  have F__law_joined := fun_mk (st := s__law_joined) l__law_joined c__law_joined k__law_joined
  have b__law_joined := F__law_joined.binds (ps := ["_law_conditions"]) fun _ _ _ _ _ _ us hl => match us, hl with | [_], _ => rfl
  have F__law_used := fun_mk (st := s__law_used) l__law_used c__law_used k__law_used
  have b__law_used := F__law_used.binds (ps := ["_law_expression"]) fun _ _ _ _ _ _ us hl => match us, hl with | [_], _ => rfl
  have F__law_side := fun_mk (st := s__law_side) l__law_side c__law_side k__law_side
  have b__law_side := F__law_side.binds (ps := ["_law_expression", "_law_m"]) fun _ _ _ _ _ _ us hl => match us, hl with | [_, _], _ => rfl
  have F__law_moved := fun_mk (st := s__law_moved) l__law_moved c__law_moved k__law_moved
  have b__law_moved := F__law_moved.binds (ps := ["_law_expression", "_law_m"]) fun _ _ _ _ _ _ us hl => match us, hl with | [_, _], _ => rfl
  have F__law_halved := fun_mk (st := s__law_halved) l__law_halved c__law_halved k__law_halved
  have b__law_halved := F__law_halved.binds (ps := ["_law_number"]) fun _ _ _ _ _ _ us hl => match us, hl with | [_], _ => rfl
  have F__law_due := fun_mk (st := s__law_due) l__law_due c__law_due k__law_due
  have b__law_due := F__law_due.binds (ps := ["_law_condition_here", "_law_m"]) fun _ _ _ _ _ _ us hl => match us, hl with | [_, _], _ => rfl
  have F__law_equal := fun_mk (st := s__law_equal) l__law_equal c__law_equal k__law_equal
  have b__law_equal := F__law_equal.binds (ps := ["_law_state_here", "_law_width"]) fun _ _ _ _ _ _ us hl => match us, hl with | [_, _], _ => rfl
  have F__law_condition := fun_mk (st := s__law_condition) l__law_condition c__law_condition k__law_condition
  have b__law_condition := F__law_condition.binds (ps := ["_law_state_here", "_law_width", "_law_depth"]) fun _ _ _ _ _ _ us hl => match us, hl with | [_, _, _], _ => rfl
  have F_parts_of := fun_mk (st := s_parts_of) l_parts_of c_parts_of k_parts_of
  have b_parts_of := F_parts_of.binds (ps := ["expression"]) fun _ _ _ _ _ _ us hl => match us, hl with | [_], _ => rfl
  have F_with_parts := fun_mk (st := s_with_parts) l_with_parts c_with_parts k_with_parts
  have b_with_parts := F_with_parts.binds (ps := ["expression", "parts"]) fun _ _ _ _ _ _ us hl => match us, hl with | [_, _], _ => rfl
  have F_gather_columns := fun_mk (st := s_gather_columns) l_gather_columns c_gather_columns k_gather_columns
  have b_gather_columns := F_gather_columns.binds (ps := ["expression", "found"]) fun _ _ _ _ _ _ us hl => match us, hl with | [_, _], _ => rfl
  have F_columns_of := fun_mk (st := s_columns_of) l_columns_of c_columns_of k_columns_of
  have b_columns_of := F_columns_of.binds (ps := ["expression"]) fun _ _ _ _ _ _ us hl => match us, hl with | [_], _ => rfl
  have F_moved := fun_mk (st := s_moved) l_moved c_moved k_moved
  have b_moved := F_moved.binds (ps := ["expression", "distance"]) fun _ _ _ _ _ _ us hl => match us, hl with | [_, _], _ => rfl
  have F_condition_parts := fun_mk (st := s_condition_parts) l_condition_parts c_condition_parts k_condition_parts
  have b_condition_parts := F_condition_parts.binds (ps := ["condition"]) fun _ _ _ _ _ _ us hl => match us, hl with | [_], _ => rfl
  have F_conjunction := fun_mk (st := s_conjunction) l_conjunction c_conjunction k_conjunction
  have b_conjunction := F_conjunction.binds (ps := ["conditions"]) fun _ _ _ _ _ _ us hl => match us, hl with | [_], _ => rfl
  have F_halvings := fun_mk (st := s_halvings) l_halvings c_halvings k_halvings
  have b_halvings := F_halvings.binds (ps := ["number"]) fun _ _ _ _ _ _ us hl => match us, hl with | [_], _ => rfl
  have F_sort_cost := fun_mk (st := s_sort_cost) l_sort_cost c_sort_cost k_sort_cost
  have b_sort_cost := F_sort_cost.binds (ps := ["number"]) fun _ _ _ _ _ _ us hl => match us, hl with | [_], _ => rfl
  have F_join_cost := fun_mk (st := s_join_cost) l_join_cost c_join_cost k_join_cost
  have b_join_cost := F_join_cost.binds (ps := ["way", "x", "y"]) fun _ _ _ _ _ _ us hl => match us, hl with | [_, _, _], _ => rfl
  have F_group_cost := fun_mk (st := s_group_cost) l_group_cost c_group_cost k_group_cost
  have b_group_cost := F_group_cost.binds (ps := ["way", "many"]) fun _ _ _ _ _ _ us hl => match us, hl with | [_, _], _ => rfl
  have F_side_of := fun_mk (st := s_side_of) l_side_of c_side_of k_side_of
  have b_side_of := F_side_of.binds (ps := ["expression", "m"]) fun _ _ _ _ _ _ us hl => match us, hl with | [_, _], _ => rfl
  have F_key_of := fun_mk (st := s_key_of) l_key_of c_key_of k_key_of
  have b_key_of := F_key_of.binds (ps := ["part", "m"]) fun _ _ _ _ _ _ us hl => match us, hl with | [_, _], _ => rfl
  have F_keys_of := fun_mk (st := s_keys_of) l_keys_of c_keys_of k_keys_of
  have b_keys_of := F_keys_of.binds (ps := ["condition", "m"]) fun _ _ _ _ _ _ us hl => match us, hl with | [_, _], _ => rfl
  refine ⟨PySem.W.fnOf "law" "law" (defArgs s_law) (defBody s_law) (defScope s_law) .none kV_law dc_law pm_law an_law cd_law ct_law, fun s v => .of_eq rfl, fun base _ _ => ?_⟩
  have C__law_cell : Cal l.prog w K mg base CX0 1 "_law_cell" (spCell K) := ⟨_, _, _, ok__law_cell F__law_cell T, PySem.W.mg_of X G a__law_cell, k__law_cell, b__law_cell⟩
  have C__law_state : Cal l.prog w K mg base CX0 1 "_law_state" spState := ⟨_, _, _, ok__law_state F__law_state T, PySem.W.mg_of X G a__law_state, k__law_state, b__law_state⟩
  have C__law_digit : Cal l.prog w K mg base CX0 1 "_law_digit" spDigit := ⟨_, _, _, ok__law_digit F__law_digit T, PySem.W.mg_of X G a__law_digit, k__law_digit, b__law_digit⟩
  have C__law_is_integer : Cal l.prog w K mg base CX0 1 "_law_is_integer" spIsInt := ⟨_, _, _, ok__law_is_integer F__law_is_integer T, PySem.W.mg_of X G a__law_is_integer, k__law_is_integer, b__law_is_integer⟩
  have C__law_text : Cal l.prog w K mg base CX0 2 "_law_text" spText := ⟨_, _, _, ok__law_text F__law_text T C__law_digit, PySem.W.mg_of X G a__law_text, k__law_text, b__law_text⟩
  have C__law_value : Cal l.prog w K mg base CX0 3 "_law_value" spValue := ⟨_, _, _, ok__law_value F__law_value C__law_digit C__law_text, PySem.W.mg_of X G a__law_value, k__law_value, b__law_value⟩
  have C__law_parts : Cal l.prog w K mg base CX0 21 "_law_parts" (spCParts K 20) := ⟨_, _, _, ok__law_parts F__law_parts  (PySem.W.mg_of X G a__law_parts) k__law_parts b__law_parts 20, PySem.W.mg_of X G a__law_parts, k__law_parts, b__law_parts⟩
  have C__law_joined : Cal l.prog w K mg base CX0 21 "_law_joined" (spConj K 20) := ⟨_, _, _, ok__law_joined F__law_joined T (PySem.W.mg_of X G a__law_joined) k__law_joined b__law_joined 20, PySem.W.mg_of X G a__law_joined, k__law_joined, b__law_joined⟩
  have C__law_used : Cal l.prog w K mg base CX0 21 "_law_used" (spUsed K 20) := ⟨_, _, _, ok__law_used F__law_used T (PySem.W.mg_of X G a__law_used) k__law_used b__law_used 20, PySem.W.mg_of X G a__law_used, k__law_used, b__law_used⟩
  have C__law_side : Cal l.prog w K mg base CX0 22 "_law_side" (spLSide K 20) := ⟨_, _, _, ok__law_side F__law_side T C__law_used, PySem.W.mg_of X G a__law_side, k__law_side, b__law_side⟩
  have C__law_moved : Cal l.prog w K mg base CX0 21 "_law_moved" (spLMoved K 20) := ⟨_, _, _, ok__law_moved F__law_moved T (PySem.W.mg_of X G a__law_moved) k__law_moved b__law_moved 20, PySem.W.mg_of X G a__law_moved, k__law_moved, b__law_moved⟩
  have C__law_halved : Cal l.prog w K mg base CX0 1 "_law_halved" spLHalv := ⟨_, _, _, ok__law_halved F__law_halved T, PySem.W.mg_of X G a__law_halved, k__law_halved, b__law_halved⟩
  have C__law_due : Cal l.prog w K mg base CX0 23 "_law_due" (spDue K 20) := ⟨_, _, _, ok__law_due F__law_due T C__law_parts C__law_side C__law_moved C__law_joined, PySem.W.mg_of X G a__law_due, k__law_due, b__law_due⟩
  have C__law_equal : Cal l.prog w K mg base CX0 2 "_law_equal" (spEqual K) := ⟨_, _, _, ok__law_equal F__law_equal C__law_digit, PySem.W.mg_of X G a__law_equal, k__law_equal, b__law_equal⟩
  have C__law_condition : Cal l.prog w K mg base CX0 23 "_law_condition" (spCond K 20) := ⟨_, _, _, ok__law_condition F__law_condition C__law_digit C__law_value (PySem.W.mg_of X G a__law_condition) k__law_condition b__law_condition 20, PySem.W.mg_of X G a__law_condition, k__law_condition, b__law_condition⟩
  have C_parts_of : Cal l.prog w K mg base CX0 1 "parts_of" (spParts K) := ⟨_, _, _, ok_parts_of F_parts_of T, PySem.W.mg_of X G a_parts_of, k_parts_of, b_parts_of⟩
  have C_with_parts : Cal l.prog w K mg base CX0 1 "with_parts" (spWith K) := ⟨_, _, _, ok_with_parts F_with_parts T, PySem.W.mg_of X G a_with_parts, k_with_parts, b_with_parts⟩
  have C_gather_columns : Cal l.prog w K mg base CX0 21 "gather_columns" (spGather K 20) := ⟨_, _, _, ok_gather F_gather_columns C_parts_of (PySem.W.mg_of X G a_gather_columns) k_gather_columns b_gather_columns 20, PySem.W.mg_of X G a_gather_columns, k_gather_columns, b_gather_columns⟩
  have C_columns_of : Cal l.prog w K mg base CX0 22 "columns_of" (spCols K 20) := ⟨_, _, _, ok_columns_of F_columns_of T C_gather_columns, PySem.W.mg_of X G a_columns_of, k_columns_of, b_columns_of⟩
  have C_moved : Cal l.prog w K mg base CX0 21 "moved" (spMoved K 20) := ⟨_, _, _, ok_moved F_moved C_parts_of C_with_parts (PySem.W.mg_of X G a_moved) k_moved b_moved 20, PySem.W.mg_of X G a_moved, k_moved, b_moved⟩
  have C_condition_parts : Cal l.prog w K mg base CX0 21 "condition_parts" (spCParts K 20) := ⟨_, _, _, ok_condition_parts F_condition_parts  (PySem.W.mg_of X G a_condition_parts) k_condition_parts b_condition_parts 20, PySem.W.mg_of X G a_condition_parts, k_condition_parts, b_condition_parts⟩
  have C_conjunction : Cal l.prog w K mg base CX0 21 "conjunction" (spConj K 20) := ⟨_, _, _, ok_conjunction F_conjunction T (PySem.W.mg_of X G a_conjunction) k_conjunction b_conjunction 20, PySem.W.mg_of X G a_conjunction, k_conjunction, b_conjunction⟩
  have C_halvings : Cal l.prog w K mg base CX0 1 "halvings" spHalv := ⟨_, _, _, ok_halvings F_halvings , PySem.W.mg_of X G a_halvings, k_halvings, b_halvings⟩
  have C_sort_cost : Cal l.prog w K mg base CX0 2 "sort_cost" spSortC := ⟨_, _, _, ok_sort_cost F_sort_cost T C_halvings, PySem.W.mg_of X G a_sort_cost, k_sort_cost, b_sort_cost⟩
  have C_join_cost : Cal l.prog w K mg base CX0 3 "join_cost" spJoinC := ⟨_, _, _, ok_join_cost F_join_cost C_sort_cost, PySem.W.mg_of X G a_join_cost, k_join_cost, b_join_cost⟩
  have C_group_cost : Cal l.prog w K mg base CX0 3 "group_cost" spGroupC := ⟨_, _, _, ok_group_cost F_group_cost C_sort_cost, PySem.W.mg_of X G a_group_cost, k_group_cost, b_group_cost⟩
  have C_side_of : Cal l.prog w K mg base CX0 23 "side_of" (spSide K 20) := ⟨_, _, _, ok_side_of F_side_of T C_columns_of, PySem.W.mg_of X G a_side_of, k_side_of, b_side_of⟩
  have C_key_of : Cal l.prog w K mg base CX0 24 "key_of" (spKey K 20) := ⟨_, _, _, ok_key_of F_key_of C_side_of C_moved, PySem.W.mg_of X G a_key_of, k_key_of, b_key_of⟩
  have C_keys_of : Cal l.prog w K mg base CX0 25 "keys_of" (spKeys K 20) := ⟨_, _, _, ok_keys_of F_keys_of T C_condition_parts C_key_of C_conjunction, PySem.W.mg_of X G a_keys_of, k_keys_of, b_keys_of⟩
  exact ok_law (fun_mk (st := s_law) l_law c_law k_law) T C__law_cell C__law_state C__law_digit C__law_is_integer C__law_condition C__law_equal C_keys_of C__law_due C__law_halved C_halvings C_sort_cost C_join_cost C_group_cost
theorem walk {l : PySem.W.OpenLaw} {q : Program} {loose : List Str} {XP : (Str → Option Value) → Heap → Prop} {YP : World → Heap → Prop} {d : DefRec} {K : Params → PySem.W.Frag} (hn : l.most = some 63) (hdf : d.params.defaults = [])
    (hY : ∀ (w : World) (h : Heap), YP w h → (K w.params).In h)
    (F : ∀ (w : World) (mg : Str → Option Value) (fa : Addr) (h : Heap), (K w.params).In h → h.Ns mainGlobals mg → mg d.name = some (.ref fa) →
      ∃ fd : FuncData, (∀ (s : Shared) (u : Value), BindsTo s fd ⟨[u], []⟩ [("_law_script", u)]) ∧ ∀ base : Heap, (K w.params).In base → base.Ns mainGlobals mg → FnG l.prog w (K w.params) mg base CX0 26 fa fd ["_law_script"] (spLaw (K w.params))) :
    PySem.W.WalkO q loose XP YP l.row.toRowW d [] (fun f vs => PySem.call f vs) :=
  walk_ofG (n := 63) (k := 26) (x := "_law_script") (sp := fun w => spLaw (K w.params)) hn (by decide) hdf ⟨rfl, by decide, by decide⟩ hY F fun _ _ a ns hl hS => ⟨a, ns, rfl, hS, hl, fun _ => rfl⟩

end Sb

open PySem PySem.W PyProof.Rows in
set_option maxRecDepth 100000 in
set_option maxHeartbeats 0 in
theorem PySem.Challenge.cw_stylobate_k72_keys_and_costs_holds : PySem.Challenge.rw_stylobate_k72_keys_and_costs.Holds := by
  w_on; o_law; k_head; (case hw => w_witness2)
  k_fill
  refine Sb.walk (l := PySem.Challenge.rw_stylobate_k72_keys_and_costs) rfl rfl (fun w h Y => PySem.W.kIn_of Y) ?F
  case F =>
    intro w mg fa h KX G hmg
    refine' Sb.all_mk KX G hmg ?a__law_cell ?l__law_cell ?c__law_cell ?k__law_cell ?a__law_state ?l__law_state ?c__law_state ?k__law_state ?a__law_digit ?l__law_digit ?c__law_digit ?k__law_digit ?a__law_is_integer ?l__law_is_integer ?c__law_is_integer ?k__law_is_integer ?a__law_text ?l__law_text ?c__law_text ?k__law_text ?a__law_value ?l__law_value ?c__law_value ?k__law_value ?a__law_parts ?l__law_parts ?c__law_parts ?k__law_parts ?a__law_joined ?l__law_joined ?c__law_joined ?k__law_joined ?a__law_used ?l__law_used ?c__law_used ?k__law_used ?a__law_side ?l__law_side ?c__law_side ?k__law_side ?a__law_moved ?l__law_moved ?c__law_moved ?k__law_moved ?a__law_halved ?l__law_halved ?c__law_halved ?k__law_halved ?a__law_due ?l__law_due ?c__law_due ?k__law_due ?a__law_equal ?l__law_equal ?c__law_equal ?k__law_equal ?a__law_condition ?l__law_condition ?c__law_condition ?k__law_condition ?a_parts_of ?l_parts_of ?c_parts_of ?k_parts_of ?a_with_parts ?l_with_parts ?c_with_parts ?k_with_parts ?a_gather_columns ?l_gather_columns ?c_gather_columns ?k_gather_columns ?a_columns_of ?l_columns_of ?c_columns_of ?k_columns_of ?a_moved ?l_moved ?c_moved ?k_moved ?a_condition_parts ?l_condition_parts ?c_condition_parts ?k_condition_parts ?a_conjunction ?l_conjunction ?c_conjunction ?k_conjunction ?a_halvings ?l_halvings ?c_halvings ?k_halvings ?a_sort_cost ?l_sort_cost ?c_sort_cost ?k_sort_cost ?a_join_cost ?l_join_cost ?c_join_cost ?k_join_cost ?a_group_cost ?l_group_cost ?c_group_cost ?k_group_cost ?a_side_of ?l_side_of ?c_side_of ?k_side_of ?a_key_of ?l_key_of ?c_key_of ?k_key_of ?a_keys_of ?l_keys_of ?c_keys_of ?k_keys_of ?a_law ?l_law ?c_law ?k_law ?z_len ?z_int ?z_range ?z_min ?z_max ?z_isinstance ?z_list ?z_tuple ?z_bool ?z_sorted ?z_set ?z_repr ?v_TRUE ?v_WAYS ?o_TRUE ?o_WAYS
    (case a__law_cell => k_is)
    (case l__law_cell => k_is)
    (case c__law_cell => k_is)
    (case k__law_cell => k_is)
    (case a__law_state => k_is)
    (case l__law_state => k_is)
    (case c__law_state => k_is)
    (case k__law_state => k_is)
    (case a__law_digit => k_is)
    (case l__law_digit => k_is)
    (case c__law_digit => k_is)
    (case k__law_digit => k_is)
    (case a__law_is_integer => k_is)
    (case l__law_is_integer => k_is)
    (case c__law_is_integer => k_is)
    (case k__law_is_integer => k_is)
    (case a__law_text => k_is)
    (case l__law_text => k_is)
    (case c__law_text => k_is)
    (case k__law_text => k_is)
    (case a__law_value => k_is)
    (case l__law_value => k_is)
    (case c__law_value => k_is)
    (case k__law_value => k_is)
    (case a__law_parts => k_is)
    (case l__law_parts => k_is)
    (case c__law_parts => k_is)
    (case k__law_parts => k_is)
    (case a__law_joined => k_is)
    (case l__law_joined => k_is)
    (case c__law_joined => k_is)
    (case k__law_joined => k_is)
    (case a__law_used => k_is)
    (case l__law_used => k_is)
    (case c__law_used => k_is)
    (case k__law_used => k_is)
    (case a__law_side => k_is)
    (case l__law_side => k_is)
    (case c__law_side => k_is)
    (case k__law_side => k_is)
    (case a__law_moved => k_is)
    (case l__law_moved => k_is)
    (case c__law_moved => k_is)
    (case k__law_moved => k_is)
    (case a__law_halved => k_is)
    (case l__law_halved => k_is)
    (case c__law_halved => k_is)
    (case k__law_halved => k_is)
    (case a__law_due => k_is)
    (case l__law_due => k_is)
    (case c__law_due => k_is)
    (case k__law_due => k_is)
    (case a__law_equal => k_is)
    (case l__law_equal => k_is)
    (case c__law_equal => k_is)
    (case k__law_equal => k_is)
    (case a__law_condition => k_is)
    (case l__law_condition => k_is)
    (case c__law_condition => k_is)
    (case k__law_condition => k_is)
    (case a_parts_of => k_is)
    (case l_parts_of => k_is)
    (case c_parts_of => k_is)
    (case k_parts_of => k_is)
    (case a_with_parts => k_is)
    (case l_with_parts => k_is)
    (case c_with_parts => k_is)
    (case k_with_parts => k_is)
    (case a_gather_columns => k_is)
    (case l_gather_columns => k_is)
    (case c_gather_columns => k_is)
    (case k_gather_columns => k_is)
    (case a_columns_of => k_is)
    (case l_columns_of => k_is)
    (case c_columns_of => k_is)
    (case k_columns_of => k_is)
    (case a_moved => k_is)
    (case l_moved => k_is)
    (case c_moved => k_is)
    (case k_moved => k_is)
    (case a_condition_parts => k_is)
    (case l_condition_parts => k_is)
    (case c_condition_parts => k_is)
    (case k_condition_parts => k_is)
    (case a_conjunction => k_is)
    (case l_conjunction => k_is)
    (case c_conjunction => k_is)
    (case k_conjunction => k_is)
    (case a_halvings => k_is)
    (case l_halvings => k_is)
    (case c_halvings => k_is)
    (case k_halvings => k_is)
    (case a_sort_cost => k_is)
    (case l_sort_cost => k_is)
    (case c_sort_cost => k_is)
    (case k_sort_cost => k_is)
    (case a_join_cost => k_is)
    (case l_join_cost => k_is)
    (case c_join_cost => k_is)
    (case k_join_cost => k_is)
    (case a_group_cost => k_is)
    (case l_group_cost => k_is)
    (case c_group_cost => k_is)
    (case k_group_cost => k_is)
    (case a_side_of => k_is)
    (case l_side_of => k_is)
    (case c_side_of => k_is)
    (case k_side_of => k_is)
    (case a_key_of => k_is)
    (case l_key_of => k_is)
    (case c_key_of => k_is)
    (case k_key_of => k_is)
    (case a_keys_of => k_is)
    (case l_keys_of => k_is)
    (case c_keys_of => k_is)
    (case k_keys_of => k_is)
    (case a_law => k_is)
    (case l_law => k_is)
    (case c_law => k_is)
    (case k_law => k_is)
    (case z_len => k_is)
    (case z_int => k_is)
    (case z_range => k_is)
    (case z_min => k_is)
    (case z_max => k_is)
    (case z_isinstance => k_is)
    (case z_list => k_is)
    (case z_tuple => k_is)
    (case z_bool => k_is)
    (case z_sorted => k_is)
    (case z_set => k_is)
    (case z_repr => k_is)
    (case v_TRUE => k_is)
    (case v_WAYS => k_is)
    (case o_TRUE => k_is)
    (case o_WAYS => k_is)
#print axioms PySem.Challenge.cw_stylobate_k72_keys_and_costs_holds
