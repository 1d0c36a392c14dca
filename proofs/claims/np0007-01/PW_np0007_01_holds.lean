import PyProof.Rows.All
import Wide.All
import OpenK.AllK
import Wide.FinOn
import Lean
import PySem.Challenge.RW_np0007_01

section
open PySem PySem.W PyProof.Rows
set_option Elab.async false
namespace Mine
set_option maxRecDepth 100000 in
set_option maxHeartbeats 8000000 in
open_top hd for PySem.Challenge.rw_np0007_01
end Mine
end

section
open PySem PySem.W PyProof.Rows
set_option Elab.async false
namespace Mine

/-- the ledger `l` without the entry of `d` (whose object is `o`) -/
inductive Rem (d : Addr) (o : Obj) : List (Addr × Obj) → List (Addr × Obj) → Prop
  | head {r} : (∀ p ∈ r, p.1 ≠ d) → Rem d o ((d, o) :: r) r
  | tail {p r r'} : p.1 ≠ d → Rem d o r r' → Rem d o (p :: r) (p :: r')

theorem Rem.mem {d : Addr} {o : Obj} : ∀ {l r : List (Addr × Obj)}, Rem d o l r → (d, o) ∈ l
  | _, _, .head _ => .head _
  | _, _, .tail _ h => .tail _ h.mem
theorem Rem.sub {d : Addr} {o : Obj} : ∀ {l r : List (Addr × Obj)}, Rem d o l r → ∀ p ∈ r, p ∈ l
  | _, _, .head _, _, h => .tail _ h
  | _, _, .tail _ _, _, .head _ => .head _
  | _, _, .tail _ h, _, .tail _ q => .tail _ (h.sub _ q)
theorem Rem.off {d : Addr} {o : Obj} : ∀ {l r : List (Addr × Obj)}, Rem d o l r → ∀ p ∈ r, p.1 ≠ d
  | _, _, .head h, _, q => h _ q
  | _, _, .tail h _, _, .head _ => h
  | _, _, .tail _ h, _, .tail _ q => h.off _ q

theorem news_drop2 {h₀ h : Heap} {L : Addr} {a b : Addr × Obj} {r : List (Addr × Obj)} (N : News h₀ L h (a :: b :: r)) : News h₀ L h (a :: r) := fun q hq => by
  rcases List.mem_cons.mp hq with rfl | hq
  · exact N _ (.head _)
  · exact N _ (.tail _ (.tail _ hq))
theorem news_of {h₀ h : Heap} {L : Addr} {l l' : List (Addr × Obj)} (N : News h₀ L h l) (hs : ∀ p ∈ l', p ∈ l) : News h₀ L h l' := fun p hp => N p (hs p hp)

theorem news_tail {h₀ h : Heap} {L : Addr} {a : Addr × Obj} {r : List (Addr × Obj)} (N : News h₀ L h (a :: r)) : News h₀ L h r := fun q hq => N _ (.tail _ hq)

abbrev deckObj (lc : Addr) (k : Int) (t : Tok) : Obj := listOf #[.ref lc, .int k t] 0

/-- the nine events -/
def ev : Fin 9 → Tok → Value
  | 0, t => .int 97 t
  | 1, t => .int 98 t
  | 2, t => .int 65 t
  | 3, t => .str (Str.ofString "C-up") t
  | 4, t => .str (Str.ofString "up") t
  | 5, t => .str (Str.ofString "S-up") t
  | 6, t => .str (Str.ofString "C-S-up") t
  | 7, t => .int 99 t
  | 8, t => .int 33554531 t

def plain : Fin 9 → Option (Fin 9)
  | 0 => none
  | 1 => none
  | 2 => some 0
  | 3 => none
  | 4 => none
  | 5 => some 4
  | 6 => some 3
  | 7 => none
  | 8 => some 7

theorem fin9 {P : Fin 9 → Prop} (h0 : P 0) (h1 : P 1) (h2 : P 2) (h3 : P 3) (h4 : P 4) (h5 : P 5) (h6 : P 6) (h7 : P 7) (h8 : P 8) : ∀ e, P e
  | 0 => h0
  | 1 => h1
  | 2 => h2
  | 3 => h3
  | 4 => h4
  | 5 => h5
  | 6 => h6
  | 7 => h7
  | 8 => h8

/-- nine values that are the nine events -/
def IsMenu (vs : List Value) : Prop := vs.length = 9 ∧ ∀ (i : Nat) (v : Value), vs[i]? = some v → ∃ e t, v = ev e t

/-- what the plain key of an event is, as a value -/
def PlainIs (e : Fin 9) (v : Value) : Prop := match plain e with
  | none => v = .none
  | some p => ∃ t, v = ev p t

abbrev tupOf (vs : List Value) : Obj := { cls := .type "tuple", data := .seq vs.toArray }
abbrev Kt := Fin 9 × Tok
abbrev kv (ks : List Kt) : List Value := ks.map fun p => ev p.1 p.2

abbrev Ar (d : Nat) (env : Env) (outer : List Env) (gs : Option (List Code)) (u : Nat) : Around := ⟨none, d, some (env :: outer), gs, u⟩
end Mine
end

section
open PySem PySem.W PyProof.Rows PyProof.V
set_option Elab.async false
namespace Mine

/-! dicts whose keys are ints and texts -/
def mixIs : Int ⊕ Str → Value → Bool
  | .inl i, v => Value.isInt i v
  | .inr x, v => Value.isStrOf x v
theorem mix_eqBool_int_str {prog : Program} {w : World} {A : Around} {E : Value → Shared → Prop} {s : Shared} {i : Int} {t u : Tok} {x : Str} {Q : Bool → Shared → Prop} (h : Q false s) :
    wpAny (model prog w) A (PySem.eqBool (.int i t) (.str x u)) Q E s := by
  unfold eqBool
  refine wpAny_holding ?_
  rw [if_neg (by simp)]
  exact wpAny_bind (EqMixed.eq_int_str (wpAny_truthy_bool h))
theorem mix_eqBool_str_int {prog : Program} {w : World} {A : Around} {E : Value → Shared → Prop} {s : Shared} {i : Int} {t u : Tok} {x : Str} {Q : Bool → Shared → Prop} (h : Q false s) :
    wpAny (model prog w) A (PySem.eqBool (.str x u) (.int i t)) Q E s := by
  unfold eqBool
  refine wpAny_holding ?_
  rw [if_neg (by simp)]
  exact wpAny_bind (EqMixed.eq_str_int (wpAny_truthy_bool h))

def mixKind (prog : Program) (w : World) : KeyKind prog w (Int ⊕ Str) where
  is := mixIs
  hash := fun k => match k with | .inl i => hashInt i | .inr x => hashStr w x
  inj := fun v a b ha hb => by
    cases a <;> cases b
    · exact congrArg Sum.inl (Value.isInt_inj _ _ _ ha hb)
    · rename_i i x
      obtain ⟨t, e⟩ := Value.isInt_shape (k := i) ha
      obtain ⟨u, h⟩ := Value.isStrOf_shape (x := x) hb
      rw [e] at h; cases h
    · rename_i x i
      obtain ⟨t, e⟩ := Value.isStrOf_shape (x := x) ha
      obtain ⟨u, h⟩ := Value.isInt_shape (k := i) hb
      rw [e] at h; cases h
    · exact congrArg Sum.inr (Value.isStrOf_inj _ _ _ ha hb)
  byValue := fun k v h => by
    cases k
    · obtain ⟨t, rfl⟩ := Value.isInt_shape h; rfl
    · obtain ⟨t, rfl⟩ := Value.isStrOf_shape h; rfl
  pyHash := fun {A E s k v Q} hv h => by
    cases k
    · obtain ⟨t, rfl⟩ := Value.isInt_shape hv; exact wpAny_pyHash_int h
    · obtain ⟨t, rfl⟩ := Value.isStrOf_shape hv; exact wpAny_pyHash_str h
  eqBool := fun {A E s a b u v Q} hu hv h => by
    cases a <;> cases b
    · obtain ⟨t, rfl⟩ := Value.isInt_shape hu
      obtain ⟨t', rfl⟩ := Value.isInt_shape hv
      rename_i x y
      refine wpAny_eqBool_int ?_
      have e : (x == y) = decide ((Sum.inl x : Int ⊕ Str) = Sum.inl y) := by
        by_cases q : x = y
        · subst q; simp
        · simp [q]
      rw [e]; exact h
    · obtain ⟨t, rfl⟩ := Value.isInt_shape hu
      obtain ⟨t', rfl⟩ := Value.isStrOf_shape hv
      exact mix_eqBool_int_str (by simpa using h)
    · obtain ⟨t, rfl⟩ := Value.isStrOf_shape hu
      obtain ⟨t', rfl⟩ := Value.isInt_shape hv
      exact mix_eqBool_str_int (by simpa using h)
    · obtain ⟨t, rfl⟩ := Value.isStrOf_shape hu
      obtain ⟨t', rfl⟩ := Value.isStrOf_shape hv
      refine wpAny_eqBool_str ?_
      simpa using h
  «strs» := fun k x t v h => by
    cases k
    · simp [mixIs, Value.isInt] at h
    · rename_i y
      obtain ⟨u, hu⟩ := Value.isStrOf_shape (x := y) (v := .str x t) h
      injection hu with hx
      subst hx
      cases v <;> rfl

/-- the key of an event -/
def ek : Fin 9 → Int ⊕ Str
  | 0 => .inl 97
  | 1 => .inl 98
  | 2 => .inl 65
  | 3 => .inr (Str.ofString "C-up")
  | 4 => .inr (Str.ofString "up")
  | 5 => .inr (Str.ofString "S-up")
  | 6 => .inr (Str.ofString "C-S-up")
  | 7 => .inl 99
  | 8 => .inl 33554531
theorem ek_is (prog : Program) (w : World) (t : Tok) : ∀ e, (mixKind prog w).is (ek e) (ev e t) = true := by
  refine fin9 ?_ ?_ ?_ ?_ ?_ ?_ ?_ ?_ ?_ <;> exact decide_eq_true_eq.mp (by rfl)

def known (a b c d : Tok) : List ((Int ⊕ Str) × Value) := [(.inl 65, ev 0 a), (.inr (Str.ofString "S-up"), ev 4 b), (.inr (Str.ofString "C-S-up"), ev 3 c), (.inl 33554531, ev 7 d)]
theorem known_is (a b c d : Tok) : ∀ e, PlainIs e ((valueAt (merged [] (known a b c d)) (ek e)).getD .none) := by
  refine fin9 ?_ ?_ ?_ ?_ ?_ ?_ ?_ ?_ ?_ <;> (show PlainIs _ _; unfold PlainIs; dsimp only [plain])
  · rfl
  · rfl
  · exact ⟨a, rfl⟩
  · rfl
  · rfl
  · exact ⟨b, rfl⟩
  · exact ⟨c, rfl⟩
  · rfl
  · exact ⟨d, rfl⟩

theorem known_made {prog : Program} {w : World} {h₀ h : Heap} {L : Addr} {m : Str → Option Value} {news : List (Addr × Obj)} {a b c d t1 t2 t3 t4 : Tok} {P : Heap → Prop} (F : Fr h₀ L h m) (N : News h₀ L h news) (hbig : h₀.NoLimit)
    (k : ∀ h' o, Fr h₀ L h' m → News h₀ L h' ((h.objs.size, o) :: news) → (h.objs.size == sysModules) = false → o.IsDictOf (mixKind prog w) (merged [] (known a b c d)) → P h') :
    ∃ kvs, Carries (mixKind prog w) [(.int 65 t1, .int 97 a), (.str (Str.ofString "S-up") t2, .str (Str.ofString "up") b), (.str (Str.ofString "C-S-up") t3, .str (Str.ofString "C-up") c), (.int (99 + 33554432) t4, .int 99 d)] kvs ∧
      (h.push { cls := .type "dict", data := .dict #[] }).DictOf (mixKind prog w) h.objs.size [] ∧
      ∀ h', h'.DictOf (mixKind prog w) h.objs.size (merged [] kvs) → Heap.SameBut h.objs.size (h.push { cls := .type "dict", data := .dict #[] }) h' → P h' := by
  refine ⟨known a b c d, ?_, Heap.DictOf.new h, fun h' hm hs => ?_⟩
  · refine ⟨?_, rfl, ?_, rfl, ?_, rfl, ?_, rfl, trivial⟩ <;> exact decide_eq_true_eq.mp (by rfl)
  · obtain ⟨o, ho, hd⟩ := Heap.dictOf_iff.mp hm
    exact k h' o (F.filled hs) (N.filled F hs ho) (F.notModules (modules_low hbig)) hd
end Mine
end

section
open PySem PySem.W PyProof.Rows PyProof.V
set_option Elab.async false
namespace Mine
section
variable {prog : Program} {w : World} {A : Around} {s : Shared} {env : Env} {h₀ : Heap}

/-- how a turn of a reading loop over pairs ends -/
def PairPost (h₀ : Heap) (L : Addr) (mm : Str → Option Value) (led : List (Addr × Obj)) (Jn : Prop) (s₁ : Shared) (Q : Flow → Shared → Prop) (f : Flow) (s₂ : Shared) : Prop :=
  match f with
  | .ret v => Q (.ret v) s₂
  | .brk => Q .next s₂
  | _ => ∃ h' tk, s₂ = { s₁ with heap := h', toks := tk } ∧ Fr h₀ L h' mm ∧ News h₀ L h' led ∧ Jn
theorem PairPost.intro {L : Addr} {mm : Str → Option Value} {led : List (Addr × Obj)} {Jn : Prop} {s₁ : Shared} {Q : Flow → Shared → Prop} {h' : Heap} {tk : Nat} (F : Fr h₀ L h' mm) (N : News h₀ L h' led) (j : Jn) : PairPost h₀ L mm led Jn s₁ Q .next { s₁ with heap := h', toks := tk } :=
  ⟨h', tk, rfl, F, N, j⟩

abbrev pairMap (xi xc : Str) (a b : Value) (m : Str → Option Value) : Str → Option Value := fun y => if y = xc then some b else if y = xi then some a else m y

/-- what is asked of a reading loop over a list of pairs -/
def PairsAt (prog : Program) (w : World) (A : Around) (h₀ : Heap) (env : Env) (xi xc : Str) (body : List Stmt) (Q : Flow → Shared → Prop) (E : Value → Shared → Prop) (xv : Value) (s : Shared) : Prop :=
  ∃ (l : Addr) (vs : List Value) (nn : Nat) (m : Str → Option Value) (news : List (Addr × Obj)) (R : Nat → Value → Value → Prop) (J : Nat → Prop),
    xv = .ref l ∧ Fr h₀ env.locals s.heap m ∧ News h₀ env.locals s.heap news ∧ (l, listOf vs.toArray nn) ∈ news ∧
    (∀ i v, vs[i]? = some v → ∃ t a b, v = .ref t ∧ (t, tupOf [a, b]) ∈ news ∧ R i a b) ∧ J 0 ∧
    (∀ i a b I oI h tk, i < vs.length → R i a b → J i → Fr h₀ env.locals h (pairMap xi xc a b m) → News h₀ env.locals h ((I, oI) :: news) →
      wpAny (model prog w) A (execs body env) (PairPost h₀ env.locals (pairMap xi xc a b m) ((I, oI) :: news) (J (i + 1)) { s with heap := h, toks := tk } Q) E { s with heap := h, toks := tk }) ∧
    (∀ h tk oa ob, J vs.length → Fr h₀ env.locals h (fun y => if y = xc then ob else if y = xi then oa else m y) → News h₀ env.locals h news → Q .next { s with heap := h, toks := tk })

theorem codeAny_forLoop_pairs {R : Result → Shared → Prop} {xi xc : Str} {pk pv pt : Pos} {x1 : Nat} {body : List Stmt} {l : Addr} {vs : List Value} {nn : Nat} {m : Str → Option Value} {news : List (Addr × Obj)} {RR : Nat → Value → Value → Prop} {J : Nat → Prop} {I : Addr}
    (hh : A.handled = none) (hne : l ≠ I) (hLI : env.locals ≠ I) (hI0 : h₀.get? I = none) (hnI : ∀ p ∈ news, p.1 ≠ I)
    (hxi : env.kindOf xi = some .local) (hxc : env.kindOf xc = some .local)
    (hp : (env.scope.kind == .class || (env.scope.kind == .module && env.locals != env.globals)) = false)
    (hit : s.heap.IsListIter I l 0) (F : Fr h₀ env.locals s.heap m) (N : News h₀ env.locals s.heap news) (hl : (l, listOf vs.toArray nn) ∈ news)
    (hrow : ∀ i v, vs[i]? = some v → ∃ t a b, v = .ref t ∧ (t, tupOf [a, b]) ∈ news ∧ RR i a b) (h0 : J 0)
    (turn : ∀ i a b oI h tk, i < vs.length → RR i a b → J i → Fr h₀ env.locals h (pairMap xi xc a b m) → News h₀ env.locals h ((I, oI) :: news) →
      wpAny (model prog w) A (execs body env) (PairPost h₀ env.locals (pairMap xi xc a b m) ((I, oI) :: news) (J (i + 1)) { s with heap := h, toks := tk } (fun f s' => R (.ok f) s')) (notedBy (model prog w) A env fun e s' => R (.error e) s') { s with heap := h, toks := tk })
    (done : ∀ h tk m', J vs.length → (∀ y, y ≠ xi → y ≠ xc → m' y = m y) → Fr h₀ env.locals h m' → News h₀ env.locals h news → R (.ok .next) { s with heap := h, toks := tk }) :
    codeAny (model prog w) A (.forLoop (.Tuple [.Name xi pk, .Name xc pv] x1 pt) (.ref I) body [] env) R s := by
  have W := Walks.list (prog := prog) (w := w) hh I l hne vs.toArray
  have hls : ∀ {h : Heap}, News h₀ env.locals h news → h.IsList l vs.toArray := fun N => ⟨_, (N _ hl).1, rfl, nn, rfl⟩
  refine codeAny_forLoop_any
    (fun k s' => ∃ h' tk m' i, s' = { s with heap := h', toks := tk } ∧ h'.IsListIter I l i ∧ Fr h₀ env.locals h' m' ∧ News h₀ env.locals h' news ∧ (∀ y, y ≠ xi → y ≠ xc → m' y = m y) ∧ J i ∧ i ≤ vs.length ∧ k = vs.length + 1 - i) ?_ (vs.length + 1)
    ⟨s.heap, s.toks, m, 0, rfl, hit, F, N, fun _ _ _ => rfl, h0, Nat.zero_le _, rfl⟩
  rintro k s' ⟨H, tk, m', i, rfl, hit', F', N', hm', hJ, hi, rfl⟩
  have hsz : vs.toArray.size = vs.length := by simp
  have next : ∀ {h h₁ : Heap} {m₁ : Str → Option Value}, (∀ b o, b ∉ [I] → h.get? b = some o → h₁.get? b = some o) → Fr h₀ env.locals h m₁ → News h₀ env.locals h news → Fr h₀ env.locals h₁ m₁ ∧ News h₀ env.locals h₁ news := fun {h h₁ m₁} hk F N =>
    ⟨⟨F.ns.at' fun o e => hk _ o (by simpa using hLI) e, fun b o e => hk b o (by intro hb; rw [List.mem_singleton.mp hb, hI0] at e; cases e) (F.keep b o e), F.above⟩, fun p hp => ⟨hk _ _ (by simpa using hnI p hp) (N p hp).1, (N p hp).2⟩⟩
  by_cases hlt : i < vs.length
  · refine W.item i _ _ _ (by rw [hsz]; exact hlt) ⟨hit', hls N'⟩ fun v h₁ tk₁ hP hst₁ hk₁ => ?_
    have hP' : vs[i]? = some v := by simpa using hP
    obtain ⟨t, a, b, rfl, ht, hr⟩ := hrow i v hP'
    obtain ⟨F₁, N₁⟩ := next hk₁ F' N'
    refine letGo_listiter hst₁.1 ?_
    have htup : h₁.IsTuple t #[a, b] := ⟨_, (N₁ _ ht).1, rfl, _, rfl⟩
    refine wpAny_assign_Tuple hh htup rfl rfl fun h₃ hx₃ => ?_
    replace hx₃ : Heap.ExtBut h₁.objs.size h₁ h₃ := hx₃
    have up₃ : ∀ b o, h₁.get? b = some o → h₃.get? b = some o := fun b o x => hx₃ b o (Nat.ne_of_lt (Heap.lt_size x)) x
    obtain ⟨F₃, N₃⟩ := next (fun b o _ x => up₃ b o x) F₁ N₁
    show wpAny _ A (do holding [b] (assign (.Name xi pk) env a); do holding [] (assign (.Name xc pv) env b); pure ()) _ _ _
    refine wpAny_bind (wpAny_holding (wpAny_assign_Name (wpAny_storeName_local hxi F₃.ns (fun h₄ hn₄ hs₄ => ?_) hp)))
    replace hs₄ : Heap.SameBut env.locals h₃ h₄ := hs₄
    have F₄ := F₃.set hn₄ hs₄
    refine wpAny_bind (wpAny_holding (wpAny_assign_Name (wpAny_storeName_local hxc F₄.ns (fun h₅ hn₅ hs₅ => wpAny_pure ?_) hp)))
    replace hs₅ : Heap.SameBut env.locals h₄ h₅ := hs₅
    have F₅ := F₄.set hn₅ hs₅
    have N₅ : News h₀ env.locals h₅ news := (N₃.set hs₄).set hs₅
    have hit₅ : h₅.IsListIter I l (i + 1) := hst₁.1.at fun o e => (hs₅.2 I (Ne.symm hLI)).trans ((hs₄.2 I (Ne.symm hLI)).trans (up₃ I o e))
    have em : (fun y => if y = xc then some b else if y = xi then some a else m' y) = pairMap xi xc a b m := by
      funext y
      show _ = if y = xc then some b else if y = xi then some a else m y
      by_cases h1 : y = xc
      · rw [if_pos h1, if_pos h1]
      · rw [if_neg h1, if_neg h1]
        by_cases h2 : y = xi
        · rw [if_pos h2, if_pos h2]
        · rw [if_neg h2, if_neg h2, hm' y h2 h1]
    rw [em] at F₅
    obtain ⟨oI, hoI, hcI, hdI⟩ := hit₅
    have NI : News h₀ env.locals h₅ ((I, oI) :: news) := fun p hp => by
      rcases List.mem_cons.mp hp with rfl | hp
      · exact ⟨hoI, Ne.symm hLI, hI0⟩
      · exact N₅ p hp
    refine wpAny_mono (turn i a b oI h₅ _ hlt hr hJ F₅ NI) (fun f s₃ h₆ => ?_) fun _ _ e => e
    have fin : (∃ h' tk, s₃ = { s with heap := h', toks := tk } ∧ Fr h₀ env.locals h' (pairMap xi xc a b m) ∧ News h₀ env.locals h' ((I, oI) :: news) ∧ J (i + 1)) →
        ∃ k', k' < vs.length + 1 - i ∧ ∃ h' tk m' i, s₃ = { s with heap := h', toks := tk } ∧ h'.IsListIter I l i ∧ Fr h₀ env.locals h' m' ∧ News h₀ env.locals h' news ∧ (∀ y, y ≠ xi → y ≠ xc → m' y = m y) ∧ J i ∧ i ≤ vs.length ∧ k' = vs.length + 1 - i := by
      rintro ⟨h', tk', rfl, F₆, N₆, hJ₆⟩
      refine ⟨vs.length + 1 - (i + 1), by omega, h', tk', _, i + 1, rfl, ⟨oI, (N₆ _ (.head _)).1, hcI, hdI⟩, F₆, fun p hp => N₆ p (.tail _ hp), ?_, hJ₆, hlt, rfl⟩
      intro y h1 h2
      show (if y = xc then some b else if y = xi then some a else m y) = m y
      rw [if_neg h2, if_neg h1]
    cases f with
    | ret v => exact h₆
    | brk => exact h₆
    | cont => exact fin h₆
    | next => exact fin h₆
  · have hin : i = vs.length := by omega
    subst hin
    refine W.done _ _ _ ⟨by rw [hsz]; exact hit', hls N'⟩ fun h₁ tk₁ hk₁ => wpAny_execs_nil ?_
    obtain ⟨F₁, N₁⟩ := next hk₁ F' N'
    exact done h₁ tk₁ m' hJ hm' F₁ N₁

theorem For_pairs {E : Value → Shared → Prop} {Q : Flow → Shared → Prop} {xi xc : Str} {pk pv pt pos : Pos} {x1 : Nat} {iter : Expr} {body : List Stmt} {m₀ : Str → Option Value} (_F : Fr h₀ env.locals s.heap m₀)
    (hh : A.handled = none) (hxi : env.kindOf xi = some .local) (hxc : env.kindOf xc = some .local)
    (hp : (env.scope.kind == .class || (env.scope.kind == .module && env.locals != env.globals)) = false)
    (h : wpAny (model prog w) A (eval iter env) (fun xv s₁ => PairsAt prog w A h₀ env xi xc body Q E xv s₁) E s)
    (hs : ∀ x, foldedSetIterable iter env x = pure x := by intro _; rfl)
    (hE : PassesOwn (model prog w) A env E := by passes_own) :
    wpAny (model prog w) A (exec (.For (.Tuple [.Name xi pk, .Name xc pv] x1 pt) iter body [] pos) env) Q E s := by
  refine wpAny_For (Q := Q) (wpAny_mono h (fun xv s₁ h₁ => ?_) fun _ _ e => e) hs
  obtain ⟨l, vs, nn, m, news, R, J, rfl, F, N, hl, hrow, h0, turn, done⟩ := h₁
  have hol : s₁.heap.get? l = some (listOf vs.toArray nn) := (N _ hl).1
  have hls : s₁.heap.IsList l vs.toArray := ⟨_, hol, rfl, nn, rfl⟩
  have hne : l ≠ s₁.heap.objs.size := Nat.ne_of_lt (Heap.lt_size hol)
  refine wpAny_pyIter_list hls ?_
  refine codeAny_forLoop_pairs (R := fun r s' => match r with | .ok f => Q f s' | .error e => cameBackBy (model prog w) A env E e s') (l := l) (vs := vs) (nn := nn) (m := m) (news := news) (RR := R) (J := J) hh hne
    (Nat.ne_of_lt F.ns.lt) (next_is_new F) (fun p hp => Nat.ne_of_lt (Heap.lt_size (N p hp).1)) hxi hxc hp ⟨_, Heap.get?_push_size _ rfl, rfl, rfl⟩ (F.push _)
    (fun p hp => ⟨Heap.get?_push_of_some _ (N p hp).1, (N p hp).2⟩) hl hrow h0 ?_ ?_
  · intro i a b oI h tk hi hr hj F₁ N₁
    exact wpAny_passesOwn hE (turn i a b _ oI h tk hi hr hj F₁ N₁)
  · intro h tk m' hj hm F₁ N₁
    refine done h tk (m' xi) (m' xc) hj ?_ N₁
    have e : (fun y => if y = xc then m' xc else if y = xi then m' xi else m y) = m' := by
      funext y
      by_cases h1 : y = xc
      · rw [if_pos h1, h1]
      · rw [if_neg h1]
        by_cases h2 : y = xi
        · rw [if_pos h2, h2]
        · rw [if_neg h2, hm y h2 h1]
    rw [e]
    exact F₁
end
end Mine
end

section
open PySem PySem.W PyProof.Rows PyProof.V
set_option Elab.async false
namespace Mine

/-! tuple slices up to a place -/
theorem adjust_to (b n : Nat) : Builtin.Slice.sliceAdjust none (some (b : Int)) 1 (n : Int) = (0, ((min b n : Nat) : Int)) := by
  unfold Builtin.Slice.sliceAdjust
  have h1 : ¬ ((1 : Int) < 0) := by omega
  have h2 : ¬ ((b : Int) < 0) := by omega
  simp only [h1, h2, if_false]
  congr 1
  omega
theorem places_to (k : Nat) : Builtin.Slice.slicePlaces 0 (k : Int) 1 = k := by
  unfold Builtin.Slice.slicePlaces
  have h1 : (1 : Int) > 0 := by omega
  simp only [h1, if_true, Int.ediv_one]
  split <;> omega
theorem pick_to (xs : List Value) (k : Nat) : ((List.range k).filterMap fun (j : Nat) => xs.toArray[((0 : Int) + (j : Int) * 1).toNat]?).toArray = (xs.take k).toArray := by
  have e : (fun (j : Nat) => xs.toArray[((0 : Int) + (j : Int) * 1).toNat]?) = fun j => xs.toArray[0 + j]? := by
    funext j
    have : ((0 : Int) + (j : Int) * 1).toNat = 0 + j := by omega
    rw [this]
  rw [e]
  have := pick_run xs.toArray 0 k
  rw [List.filterMap_map] at this
  have e2 : ((fun x => xs.toArray[x]?) ∘ fun x => 0 + x) = fun j => xs.toArray[0 + j]? := rfl
  rw [e2] at this
  rw [this]
  simp

section
variable {prog : Program} {w : World} {A : Around} {E : Value → Shared → Prop} {s : Shared}
theorem sliceApplied_to {sl : Addr} {b n : Nat} {u : Tok} {Q : Int × Int × Nat → Shared → Prop} (hs : s.heap.IsSliceOf sl .none (.int (b : Int) u) .none) (h : Q (0, 1, min b n) s) :
    wpAny (model prog w) A (Builtin.Slice.sliceApplied (.ref sl) (pure (n : Int))) Q E s := by
  obtain ⟨os, hos, hcs, hds⟩ := id hs
  unfold Builtin.Slice.sliceApplied Builtin.Slice.sliceFields
  refine wpAny_bind (wpAny_bind (wpAny_field hos hds (x := .none) rfl (wpAny_bind (wpAny_field hos hds (x := .int (b : Int) u) rfl (wpAny_bind (wpAny_field hos hds (x := .none) rfl (wpAny_pure ?_)))))))
  refine wpAny_bind (slicePart_none ?_)
  show wpAny _ _ (if ((1 : Int) == 0) = true then _ else _) _ _ s
  rw [if_neg (by decide)]
  refine wpAny_bind (slicePart_none (wpAny_bind (slicePart_int (wpAny_bind (wpAny_pure ?_)))))
  show wpAny _ _ (match Builtin.Slice.sliceAdjust none (some (b : Int)) 1 (n : Int) with | (lo, hi) => pure (lo, (1 : Int), Builtin.Slice.slicePlaces lo hi 1)) _ _ s
  rw [adjust_to]
  show wpAny _ _ (pure ((0 : Int), (1 : Int), Builtin.Slice.slicePlaces 0 ((min b n : Nat) : Int) 1)) _ _ s
  rw [places_to]
  exact wpAny_pure h

theorem getItem_tuple_to {t sl : Addr} {vs : List Value} {b : Nat} {u : Tok} {Q : Value → Shared → Prop} (ht : IsTup s.heap t vs.toArray) (hs : s.heap.IsSliceOf sl .none (.int (b : Int) u) .none)
    (h1 : b < vs.length → Q (.ref s.heap.objs.size) { s with heap := s.heap.push { cls := .type "tuple", data := .seq (vs.take b).toArray } })
    (h2 : vs.length ≤ b → Q (.ref t) s)
    (hsz : vs.length ≤ sizeLine) : wpAny (model prog w) A (getItem (.ref t) (.ref sl)) Q E s := by
  have hdrop : sizeOk (.seq (vs.take b).toArray) := by
    show (vs.take b).toArray.size ≤ sizeLine
    rw [List.size_toArray, List.length_take]
    omega
  obtain ⟨os, hos, hcs, hds⟩ := id hs
  have hTs : s.TypeIs (.ref sl) "slice" := ⟨os, hos, hcs⟩
  unfold getItem
  try with_reducible refine wpAny_holding ?_
  first | refine wpAny_bind (wpAny_pure ?_) | skip
  refine wpAny_bind (wpAny_sequenceKey ht.typeIs (by decide) ?_)
  refine wpAny_bind (wpAny_callSpecial?_slot (name := Str.ofString "__getitem__") ht.typeIs slot_tuple_getitem
    (wpAny_call_entry slot_tuple_getitem ht.typeIs entry_tuple_getitem ?_ (args_tuple_getitem _ _)))
  show wpAny _ _ (Builtin.Tuple.tupleItemsOf (.ref t) >>= _) _ _ s
  refine wpAny_bind (tupleItemsOf_ ht ?_)
  refine wpAny_bind (wpAny_typeOf hTs ?_)
  rw [if_pos (by decide)]
  refine wpAny_bind (sliceApplied_to (n := vs.toArray.size) hs ?_)
  have hsize : vs.toArray.size = vs.length := by simp
  show wpAny _ _ (if ((0 : Int) == 0 && (1 : Int) == 1 && (min b vs.toArray.size) == vs.toArray.size) = true then _ else _) _ _ s
  by_cases hb : b < vs.length
  · have hno : ¬ (((0 : Int) == 0 && (1 : Int) == 1 && (min b vs.toArray.size) == vs.toArray.size) = true) := by
      have : ((min b vs.toArray.size) == vs.toArray.size) = false := by rw [beq_eq_false_iff_ne, hsize]; omega
      rw [this]; simp
    rw [if_neg hno, pick_to]
    have e : min b vs.toArray.size = b := by rw [hsize]; omega
    rw [e]
    first
      | exact wpAny_bind (m := Builtin.Tuple.tupleExact _) (wpAny_newObj_type (wpAny_pure ⟨_, rfl, wpAny_pure (h1 hb)⟩) hdrop)
      | exact wpAny_bind (m := Builtin.Tuple.tupleExact _) (wpAny_newObj_type (wpAny_bind (wpAny_pure (wpAny_pure ⟨_, rfl, wpAny_pure (h1 hb)⟩))) hdrop)
      | exact wpAny_bind (wpAny_bind (m := Builtin.Tuple.tupleExact _) (wpAny_newObj_type (wpAny_pure (wpAny_pure ⟨_, rfl, wpAny_pure (h1 hb)⟩)) hdrop))
      | exact wpAny_bind (wpAny_bind (m := Builtin.Tuple.tupleExact _) (wpAny_newObj_type (wpAny_pure ⟨_, rfl, wpAny_pure (h1 hb)⟩) hdrop))
  · have hyes : (((0 : Int) == 0 && (1 : Int) == 1 && (min b vs.toArray.size) == vs.toArray.size) = true) := by
      have : ((min b vs.toArray.size) == vs.toArray.size) = true := by rw [beq_iff_eq, hsize]; omega
      rw [this]; rfl
    rw [if_pos hyes]
    have hx : ∀ {A' : Around} {E' : Value → Shared → Prop} {Q' : Bool → Shared → Prop}, Q' true s → wpAny (model prog w) A' (Builtin.Tuple.tupleIsExact (.ref t)) Q' E' s := fun q => by
      unfold Builtin.Tuple.tupleIsExact
      exact wpAny_bind (wpAny_typeOf ht.typeIs (wpAny_pure q))
    have hq := h2 (Nat.le_of_not_lt hb)
    refine wpAny_bind (hx ?_)
    rw [if_pos rfl]
    exact wpAny_bind (wpAny_rule (wpAny_pure ⟨_, rfl, wpAny_pure hq⟩))
end

/-- the datum of an event -/
def pd : Fin 9 → PyData
  | 0 => .int 97
  | 1 => .int 98
  | 2 => .int 65
  | 3 => .str (Str.ofString "C-up")
  | 4 => .str (Str.ofString "up")
  | 5 => .str (Str.ofString "S-up")
  | 6 => .str (Str.ofString "C-S-up")
  | 7 => .int 99
  | 8 => .int 33554531
theorem ev_reads (h : Heap) (t : Tok) : ∀ e, Reads h (ev e t) (pd e) [] := by
  refine fin9 ?_ ?_ ?_ ?_ ?_ ?_ ?_ ?_ ?_
  · exact Reads.int _ _
  · exact Reads.int _ _
  · exact Reads.int _ _
  · exact Reads.str _ _
  · exact Reads.str _ _
  · exact Reads.str _ _
  · exact Reads.str _ _
  · exact Reads.int _ _
  · exact Reads.int _ _
theorem kv_reads (h : Heap) : ∀ ks : List Kt, ReadsAll h (kv ks) (ks.map fun p => pd p.1) []
  | [] => ReadsAll.nil
  | p :: r => readsAll_cons_val (ev_reads h p.2 p.1) (kv_reads h r)
theorem pd_eqv (a b : Fin 9) : PyData.eqv (pd a) (pd b) = decide (a = b) := by
  revert b
  revert a
  refine fin9 ?_ ?_ ?_ ?_ ?_ ?_ ?_ ?_ ?_ <;> refine fin9 ?_ ?_ ?_ ?_ ?_ ?_ ?_ ?_ ?_ <;> rfl
theorem pd_lay : ∀ e, (pd e).canLay0 = true ∧ (pd e).depth = 0 := by
  refine fin9 ?_ ?_ ?_ ?_ ?_ ?_ ?_ ?_ ?_ <;> exact ⟨by first | rfl | decide | decide +kernel, by first | rfl | decide⟩
/-- the events of a key -/
abbrev evs (ks : List Kt) : List (Fin 9) := ks.map (·.1)
theorem kv_eqv : ∀ xs ys : List Kt, PyData.eqvAll (xs.map fun p => pd p.1) (ys.map fun p => pd p.1) = decide (evs xs = evs ys)
  | [], [] => by simp [PyData.eqvAll]
  | [], _ :: _ => by simp [PyData.eqvAll]
  | _ :: _, [] => by simp [PyData.eqvAll]
  | a :: r, b :: t => by
    simp only [List.map_cons, PyData.eqvAll, pd_eqv, kv_eqv r t, evs]
    by_cases h : a.1 = b.1 <;> by_cases h' : r.map (·.1) = t.map (·.1) <;> simp [h, h']
theorem kv_lay : ∀ xs : List Kt, PyData.canLayAll0 (xs.map fun p => pd p.1) = true ∧ PyData.depthAll (xs.map fun p => pd p.1) = 0
  | [] => ⟨rfl, rfl⟩
  | a :: r => by
    have h1 := pd_lay a.1
    have h2 := kv_lay r
    simp only [List.map_cons, PyData.canLayAll0, PyData.depthAll, h1.1, h1.2, h2.1, h2.2]
    exact ⟨rfl, rfl⟩
theorem kv_shaped (xs : List Kt) : SeqAt.shaped (.tuple (xs.map fun p => pd p.1)) = true := by
  have h := kv_lay xs
  unfold SeqAt.shaped
  simp only [PyData.canLay0, PyData.depth, h.1, h.2]
  rfl
theorem kv_read {h₀ h : Heap} {L t : Addr} {news : List (Addr × Obj)} {ks : List Kt} (N : News h₀ L h news) (ht : (t, tupOf (kv ks)) ∈ news) : Reads h (.ref t) (.tuple (ks.map fun p => pd p.1)) [] :=
  reads_tuple_at (N.get ht) rfl rfl (by simpa using kv_reads h ks)

section
variable {prog : Program} {w : World} {A : Around} {E : Value → Shared → Prop} {s : Shared} {h₀ : Heap} {L : Addr} {m : Str → Option Value} {news : List (Addr × Obj)}
/-- two keys compared -/
theorem eq_keys {a b : Addr} {xs ys : List Kt} {Q : Value → Shared → Prop} (N : News h₀ L s.heap news) (ha : (a, tupOf (kv xs)) ∈ news) (hb : (b, tupOf (kv ys)) ∈ news) (hu : A.units + 64 < cLine)
    (h : Q (.bool (decide (evs xs = evs ys))) s) : wpAny (model prog w) A (compareOp .Eq (.ref a) (.ref b)) Q E s :=
  eq_dataH (kv_read N ha) (kv_read N hb) (kv_shaped xs) (kv_shaped ys) hu (by rw [PyData.eqv, kv_eqv]; exact h)
theorem ne_keys {a b : Addr} {xs ys : List Kt} {Q : Value → Shared → Prop} (N : News h₀ L s.heap news) (ha : (a, tupOf (kv xs)) ∈ news) (hb : (b, tupOf (kv ys)) ∈ news) (hu : A.units + 64 < cLine)
    (h : Q (.bool (!decide (evs xs = evs ys))) s) : wpAny (model prog w) A (compareOp .NotEq (.ref a) (.ref b)) Q E s :=
  ne_dataH (kv_read N ha) (kv_read N hb) (kv_shaped xs) (kv_shaped ys) hu (by rw [PyData.eqv, kv_eqv]; exact h)
/-- the head of a key -/
theorem slice_key {value slice : Expr} {t : Addr} {ks : List Kt} {k : Int} {n : Nat} {u : Tok} {Q : Value → Shared → Prop}
    (F : Fr h₀ L s.heap m) (N : News h₀ L s.heap news) (ht : (t, tupOf (kv ks)) ∈ news) (hk : k = (n : Int)) (hsz : ks.length ≤ 1000)
    (h : ∀ r h', Fr h₀ L h' m → News h₀ L h' ((r, tupOf (kv (ks.take n))) :: news) → Q (.ref r) { s with heap := h' })
    (hs : subscripted slice false (.ref t) (.ref s.heap.objs.size) = operate [.ref s.heap.objs.size, .ref t] (getItem (.ref t) (.ref s.heap.objs.size)) := by with_unfolding_all rfl)
    (hg : ∀ r, letTemporaryGo value (.ref t) r = pure () := by intro _; with_unfolding_all rfl) :
    wpAny (model prog w) A (subscriptTail value slice (.ref t) (.ref s.heap.objs.size)) Q E { s with heap := s.heap.push { cls := .type "slice", data := .fields #[.none, .int k u, .none] } } := by
  subst hk
  have ht0 : IsTup s.heap t (kv ks).toArray := ⟨_, N.get ht, rfl, _, rfl⟩
  have ht' : IsTup (s.heap.push { cls := .type "slice", data := .fields #[.none, .int (n : Int) u, .none] }) t (kv ks).toArray := ht0.keeps fun _ _ e => Heap.get?_push_of_some _ e
  have F0 : Fr h₀ L (s.heap.push { cls := .type "slice", data := .fields #[.none, .int (n : Int) u, .none] }) m := F.push _
  have N0 : News h₀ L (s.heap.push { cls := .type "slice", data := .fields #[.none, .int (n : Int) u, .none] }) news := N.grown fun _ _ e => Heap.get?_push_of_some _ e
  refine subscriptTail_ops (s := { s with heap := s.heap.push { cls := .type "slice", data := .fields #[.none, .int (n : Int) u, .none] } }) ht'.typeIs slot_tuple_getitem.lookup
    (getItem_tuple_to ht' (Heap.IsSliceOf.new ..) (fun hb => ?_) (fun hb => ?_) (by rw [PySem.sizeLine_eq, List.length_map]; omega)) hs hg
  · have N1 := News.push F0 N0 { cls := .type "tuple", data := .seq ((kv ks).take n).toArray }
    have e : (kv ks).take n = kv (ks.take n) := by simp [List.map_take]
    rw [e] at N1 ⊢
    exact h _ _ (F0.push _) N1
  · refine h _ _ F0 fun p hp => ?_
    rcases List.mem_cons.mp hp with rfl | hp
    · have e : ks.take n = ks := List.take_of_length_le (by simpa using hb)
      rw [e]
      exact N0 _ ht
    · exact N0 _ hp
end

/-! rows -/
abbrev Key := List (Fin 9)
abbrev Row := Key × Str
inductive Ans where
  | none
  | more
  | cmd (nm : Str)
/-- what the law looks up -/
def look : List Row → Key → Ans
  | [], _ => .none
  | (own, nm) :: r, k => if own = k then .cmd nm else if own.take k.length = k then .more else look r k
/-- a row of the list, in the ledger -/
def RowIn (news : List (Addr × Obj)) (v : Value) (r : Row) : Prop :=
  ∃ rt kt ks t, v = .ref rt ∧ (rt, tupOf [.ref kt, .str r.2 t]) ∈ news ∧ (kt, tupOf (kv ks)) ∈ news ∧ evs ks = r.1 ∧ ks.length ≤ 3
def RowsIn (news : List (Addr × Obj)) (vs : List Value) (rows : List Row) : Prop := vs.length = rows.length ∧ ∀ (i : Nat) (v : Value) (r : Row), vs[i]? = some v → rows[i]? = some r → RowIn news v r
theorem RowIn.mono {news news' : List (Addr × Obj)} {v : Value} {r : Row} (h : RowIn news v r) (hs : ∀ p ∈ news, p ∈ news') : RowIn news' v r := by
  obtain ⟨rt, kt, ks, t, e, a, b, c⟩ := h
  exact ⟨rt, kt, ks, t, e, hs _ a, hs _ b, c⟩
theorem RowsIn.mono {news news' : List (Addr × Obj)} {vs : List Value} {rows : List Row} (h : RowsIn news vs rows) (hs : ∀ p ∈ news, p ∈ news') : RowsIn news' vs rows :=
  ⟨h.1, fun i v r a b => (h.2 i v r a b).mono hs⟩
/-- the shape that a loop over the pairs wants -/
theorem RowsIn.pairs {news : List (Addr × Obj)} {vs : List Value} {rows : List Row} (h : RowsIn news vs rows) : ∀ (i : Nat) (v : Value), vs[i]? = some v → ∃ t a b, v = .ref t ∧ (t, tupOf [a, b]) ∈ news ∧
    (∃ kt ks nt r, a = Value.ref kt ∧ b = Value.str r.2 nt ∧ rows[i]? = some r ∧ (kt, tupOf (kv ks)) ∈ news ∧ evs ks = r.1 ∧ ks.length ≤ 3) := fun i v hv => by
  have hi : i < rows.length := by rw [← h.1]; exact (List.getElem?_eq_some_iff.mp hv).1
  obtain ⟨rt, kt, ks, t, e, a, b, c⟩ := h.2 i v _ hv (List.getElem?_eq_getElem hi)
  exact ⟨rt, _, _, e, a, kt, ks, t, _, rfl, rfl, List.getElem?_eq_getElem hi, b, c⟩
def AnsIs (a : Ans) (v : Value) : Prop := match a with
  | .none => v = .none
  | .more => ∃ t, v = .str (Str.ofString "more") t
  | .cmd nm => ∃ t, v = .str nm t
end Mine
namespace Mine
section
variable {prog : Program} {w : World} {A : Around} {E : Value → Shared → Prop} {s : Shared} {h₀ : Heap} {L : Addr} {news : List (Addr × Obj)}
theorem len_key {t : Addr} {ks : List Kt} {Q : Value → Shared → Prop} (N : News h₀ L s.heap news) (ht : (t, tupOf (kv ks)) ∈ news) (hsz : ks.length ≤ 1000)
    (h : Q (.int (ks.length : Int) (s.toks + 1)) { s with toks := s.toks + 1 + 1 }) : wpAny (model prog w) A (call (.builtin "len") [.ref t]) Q E s :=
  len_tuple (items := (kv ks).toArray) ⟨_, N.get ht, rfl, _, rfl⟩ (by simp; omega) (by simpa using h)
end
theorem look_drop {rows : List Row} {i : Nat} {r : Row} (h : rows[i]? = some r) (k : Key) : look (rows.drop i) k = if r.1 = k then .cmd r.2 else if r.1.take k.length = k then .more else look (rows.drop (i + 1)) k := by
  obtain ⟨hi, e⟩ := List.getElem?_eq_some_iff.mp h
  rw [List.drop_eq_getElem_cons hi, e]
  rfl
end Mine
namespace Mine
/-- what FlatKeys looks up -/
def lk1 : List Row → Key → Option Str
  | [], _ => none
  | (own, nm) :: r, k => if own = k then some nm else lk1 r k
def lk2 : List Row → Key → Bool
  | [], _ => false
  | (own, _) :: r, k => if own.take k.length = k then true else lk2 r k
def lk (rows : List Row) (k : Key) : Ans := match lk1 rows k with
  | some nm => .cmd nm
  | none => if lk2 rows k = true then .more else .none
def PreIs (a : Ans) (v : Value) : Prop := match a with
  | .none => v = .none
  | .more => ∃ t, v = .str (Str.ofString "prefix") t
  | .cmd nm => ∃ t, v = .str nm t
theorem lk1_drop {rows : List Row} {i : Nat} {r : Row} (h : rows[i]? = some r) (k : Key) : lk1 (rows.drop i) k = if r.1 = k then some r.2 else lk1 (rows.drop (i + 1)) k := by
  obtain ⟨hi, e⟩ := List.getElem?_eq_some_iff.mp h
  rw [List.drop_eq_getElem_cons hi, e]
  rfl
theorem lk2_drop {rows : List Row} {i : Nat} {r : Row} (h : rows[i]? = some r) (k : Key) : lk2 (rows.drop i) k = if r.1.take k.length = k then true else lk2 (rows.drop (i + 1)) k := by
  obtain ⟨hi, e⟩ := List.getElem?_eq_some_iff.mp h
  rw [List.drop_eq_getElem_cons hi, e]
  rfl
abbrev fkDict (w : World) (t : Tok) (l : Addr) : Obj := dictOf [{ hash := PyData.keyHash w.params (Str.ofString "rows"), key := Value.str (Str.ofString "rows") t, val := Value.ref l }] 1
abbrev rdDict (w : World) (t1 t2 : Tok) (fk kl : Addr) (n : Nat) : Obj :=
  dictOf [{ hash := PyData.keyHash w.params (Str.ofString "lookup"), key := Value.str (Str.ofString "lookup") t1, val := Value.ref fk }, { hash := PyData.keyHash w.params (Str.ofString "keys"), key := Value.str (Str.ofString "keys") t2, val := Value.ref kl }] n
end Mine
namespace Mine
section
variable {prog : Program} {w : World} {A : Around} {E : Value → Shared → Prop} {s : Shared} {h₀ : Heap} {L : Addr} {m : Str → Option Value} {news : List (Addr × Obj)}
theorem tuple_of_key {kl : Addr} {ks : List Kt} {n : Nat} {Q : Value → Shared → Prop} (F : Fr h₀ L s.heap m) (N : News h₀ L s.heap news) (hl : (kl, listOf (kv ks).toArray n) ∈ news) (hsz : ks.length ≤ 1000)
    (h : ∀ D h', Fr h₀ L h' m → News h₀ L h' ((D, tupOf (kv ks)) :: news) → (∀ p ∈ news, p.1 < D) → Q (.ref D) { s with heap := h' }) : wpAny (model prog w) A (call (.type "tuple") [.ref kl]) Q E s :=
  kde_tupleOf F N (N.isList hl) (by simp; omega) (by simp) h
end
abbrev readDict (w : World) (t1 t2 t3 t4 tw : Tok) (word : String) (keys : Addr) (binding : Value) (b : Bool) : Obj :=
  dictOf [{ hash := PyData.keyHash w.params (Str.ofString "word"), key := Value.str (Str.ofString "word") t1, val := Value.str (Str.ofString word) tw },
    { hash := PyData.keyHash w.params (Str.ofString "keys"), key := Value.str (Str.ofString "keys") t2, val := Value.ref keys },
    { hash := PyData.keyHash w.params (Str.ofString "binding"), key := Value.str (Str.ofString "binding") t3, val := binding },
    { hash := PyData.keyHash w.params (Str.ofString "is_shifted"), key := Value.str (Str.ofString "is_shifted") t4, val := Value.bool b }] 4
end Mine
namespace Mine
/-- a name that is no word of the two look-ups -/
def NmOk (nm : Str) : Prop := nm ≠ Str.ofString "prefix" ∧ nm ≠ Str.ofString "more" ∧ PyData.strOk nm = true
theorem lk1_nm {k : Key} {nm : Str} : ∀ {rows : List Row}, (∀ r ∈ rows, NmOk r.2) → lk1 rows k = some nm → NmOk nm
  | [], _, e => by cases e
  | (own, n) :: r, hw, e => by
    unfold lk1 at e
    by_cases h : own = k
    · rw [if_pos h] at e
      exact Option.some.inj e ▸ hw _ (.head _)
    · rw [if_neg h] at e
      exact lk1_nm (fun q hq => hw q (.tail _ hq)) e
theorem lk_nm {k : Key} {nm : Str} {rows : List Row} (hw : ∀ r ∈ rows, NmOk r.2) (e : lk rows k = .cmd nm) : NmOk nm := by
  unfold lk at e
  cases h : lk1 rows k with
  | some n => rw [h] at e; exact Ans.cmd.inj e ▸ lk1_nm hw h
  | none =>
    rw [h] at e
    dsimp only at e
    by_cases h2 : lk2 rows k = true
    · rw [if_pos h2] at e; cases e
    · rw [if_neg h2] at e; cases e
theorem look_nm {k : Key} {nm : Str} : ∀ {rows : List Row}, (∀ r ∈ rows, NmOk r.2) → look rows k = .cmd nm → NmOk nm
  | [], _, e => by cases e
  | (own, n) :: r, hw, e => by
    unfold look at e
    by_cases h : own = k
    · rw [if_pos h] at e
      exact Ans.cmd.inj e ▸ hw _ (.head _)
    · rw [if_neg h] at e
      by_cases h2 : own.take k.length = k
      · rw [if_pos h2] at e; cases e
      · rw [if_neg h2] at e
        exact look_nm (fun q hq => hw q (.tail _ hq)) e
section
variable {prog : Program} {w : World} {A : Around} {E : Value → Shared → Prop} {s : Shared} {h₀ : Heap} {L : Addr} {m : Str → Option Value} {news : List (Addr × Obj)}
theorem eq_str_ne {x y : Str} {t u : Tok} {Q : Value → Shared → Prop} (hn : x ≠ y) (h : Q (.bool false) s) : wpAny (model prog w) A (compareOp .Eq (.str x t) (.str y u)) Q E s :=
  eq_str (by rw [show (x == y) = false from beq_eq_false_iff_ne.mpr hn]; exact h)
theorem eq_str_same {x : Str} {t u : Tok} {Q : Value → Shared → Prop} (h : Q (.bool true) s) : wpAny (model prog w) A (compareOp .Eq (.str x t) (.str x u)) Q E s :=
  eq_str (by rw [show (x == x) = true from beq_self_eq_true x]; exact h)
end
end Mine
namespace Mine
theorem and22 {a b c : Prop} (h : a ∧ b ∧ c) : c := h.2.2
theorem and33 {a b c d : Prop} (h : a ∧ b ∧ c ∧ d) : d := h.2.2.2
theorem and2 {a b : Prop} (h : a ∧ b) : b := h.2
end Mine
namespace Mine
/-- no entry lies at that place -/
def Off (a : Addr) (l : List (Addr × Obj)) : Prop := ∀ q ∈ l, q.1 ≠ a
section
variable {prog : Program} {w : World} {A : Around} {E : Value → Shared → Prop} {s : Shared} {h₀ : Heap} {L : Addr} {m : Str → Option Value} {news : List (Addr × Obj)}
/-- a key and one event more -/
theorem add_key {a b : Addr} {ks : List Kt} {n k : Nat} {e : Fin 9} {t : Tok} {Q : Value → Shared → Prop} (F : Fr h₀ L s.heap m) (N : News h₀ L s.heap news) (ha : (a, listOf (kv ks).toArray n) ∈ news) (hb : (b, listOf #[ev e t] k) ∈ news) (hsz : ks.length ≤ 900)
    (h : ∀ D h', Fr h₀ L h' m → News h₀ L h' ((D, listOf (kv (ks ++ [(e, t)])).toArray 0) :: news) → (∀ p ∈ news, p.1 < D) → Q (.ref D) { s with heap := h' }) : wpAny (model prog w) A (binaryOp .Add (.ref a) (.ref b)) Q E s :=
  add_arrays (its := (kv ks).toArray) (its2 := #[ev e t]) F N (N.isList ha) (N.isList hb) (fun h' F' N' => h _ h' F' (by simpa using N') fun p hp => Heap.lt_size (N p hp).1) (by rw [PySem.sizeLine_eq]; simp; omega)
theorem ev_some {t : Tok} : ∀ e : Fin 9, ev e t ≠ .none := by
  refine fin9 ?_ ?_ ?_ ?_ ?_ ?_ ?_ ?_ ?_ <;> intro q <;> cases q
theorem isnot_ev {e : Fin 9} {t : Tok} {Q : Value → Shared → Prop} (h : Q (.bool true) s) : wpAny (model prog w) A (compareOp .IsNot (ev e t) .none) Q E s := isnot_none_ne (ev_some e) h
theorem ev_handed {t : Tok} : ∀ e : Fin 9, handedIn (ev e t) = true := by
  refine fin9 ?_ ?_ ?_ ?_ ?_ ?_ ?_ ?_ ?_ <;> rfl
end
end Mine
namespace Mine
theorem off_cons {a b : Addr} {o : Obj} {l : List (Addr × Obj)} (h : b ≠ a) (H : Off a l) : Off a ((b, o) :: l) := fun q hq => by
  rcases List.mem_cons.mp hq with rfl | hq
  · exact h
  · exact H q hq
end Mine
namespace Mine
/-- what the reader tells, and the keys that it keeps -/
def pushF (rows : List Row) (ks : Key) (e : Fin 9) : String × Key × Option Str × Bool × Key :=
  match lk rows (ks ++ [e]) with
  | .more => ("more", ks ++ [e], none, false, ks ++ [e])
  | .cmd nm => ("command", ks ++ [e], some nm, false, [])
  | .none => match plain e with
    | none => ("undefined", ks ++ [e], none, false, [])
    | some p => match lk rows (ks ++ [p]) with
      | .more => ("more", ks ++ [p], none, true, ks ++ [p])
      | .cmd nm => ("command", ks ++ [p], some nm, true, [])
      | .none => ("undefined", ks ++ [e], none, false, [])
def BdIs (o : Option Str) (v : Value) : Prop := match o with
  | none => v = .none
  | some nm => ∃ t, v = .str nm t
theorem evs_snoc (ks : List Kt) (e : Fin 9) (t : Tok) : evs (ks ++ [(e, t)]) = evs ks ++ [e] := by simp
section
variable {rows : List Row} {ks : List Kt} {e p : Fin 9} {t u : Tok} {nm : Str}
theorem pushF_more (h : lk rows (evs (ks ++ [(e, t)])) = .more) : pushF rows (evs ks) e = ("more", evs (ks ++ [(e, t)]), none, false, evs (ks ++ [(e, t)])) := by
  rw [evs_snoc] at h ⊢; unfold pushF; rw [h]
theorem pushF_cmd (h : lk rows (evs (ks ++ [(e, t)])) = .cmd nm) : pushF rows (evs ks) e = ("command", evs (ks ++ [(e, t)]), some nm, false, evs []) := by
  rw [evs_snoc] at h ⊢; unfold pushF; rw [h]; rfl
theorem pushF_no (h : lk rows (evs (ks ++ [(e, t)])) = .none) (h2 : plain e = none) : pushF rows (evs ks) e = ("undefined", evs (ks ++ [(e, t)]), none, false, evs []) := by
  rw [evs_snoc] at h ⊢; unfold pushF; rw [h, h2]; rfl
theorem pushF_pmore (h : lk rows (evs (ks ++ [(e, t)])) = .none) (h2 : plain e = some p) (h3 : lk rows (evs (ks ++ [(p, u)])) = .more) : pushF rows (evs ks) e = ("more", evs (ks ++ [(p, u)]), none, true, evs (ks ++ [(p, u)])) := by
  rw [evs_snoc] at h h3 ⊢; unfold pushF; simp only [h, h2, h3]
theorem pushF_pcmd (h : lk rows (evs (ks ++ [(e, t)])) = .none) (h2 : plain e = some p) (h3 : lk rows (evs (ks ++ [(p, u)])) = .cmd nm) : pushF rows (evs ks) e = ("command", evs (ks ++ [(p, u)]), some nm, true, evs []) := by
  rw [evs_snoc] at h h3 ⊢; unfold pushF; simp only [h, h2, h3]; rfl
theorem pushF_pno (h : lk rows (evs (ks ++ [(e, t)])) = .none) (h2 : plain e = some p) (h3 : lk rows (evs (ks ++ [(p, u)])) = .none) : pushF rows (evs ks) e = ("undefined", evs (ks ++ [(e, t)]), none, false, evs []) := by
  rw [evs_snoc] at h h3 ⊢; unfold pushF; simp only [h, h2, h3]; rfl
end
end Mine
namespace Mine
theorem and44 {a b c d e : Prop} (h : a ∧ b ∧ c ∧ d ∧ e) : e := h.2.2.2.2
theorem and55 {a b c d e f : Prop} (h : a ∧ b ∧ c ∧ d ∧ e ∧ f) : f := h.2.2.2.2.2
end Mine
namespace Mine
theorem subs_cons {a : Addr × Obj} {l r : List (Addr × Obj)} (h : ∀ q ∈ l, q ∈ r) : ∀ q ∈ l, q ∈ a :: r := fun q hq => .tail _ (h q hq)
end Mine
namespace Mine
theorem and66 {a b c d e f g : Prop} (h : a ∧ b ∧ c ∧ d ∧ e ∧ f ∧ g) : g := h.2.2.2.2.2.2
theorem and77 {a b c d e f g i : Prop} (h : a ∧ b ∧ c ∧ d ∧ e ∧ f ∧ g ∧ i) : i := h.2.2.2.2.2.2.2
end Mine
end

section
open PySem PySem.W PyProof.Rows PyProof.V
set_option Elab.async false
namespace Mine
/-! loops over range(k) -/
abbrev rangeObj (k : Int) (t u v : Tok) : Obj := { cls := .type "range", dict := none, data := .fields #[.int 0 t, .int k u, .int 1 v], slots := #[] }
theorem range_small {k : Int} (h0 : 0 ≤ k) (h1 : k ≤ 1000) : Builtin.Range.small 0 k 1 = true := by
  unfold Builtin.Range.small Builtin.Range.rangeFitsLong
  rw [rangeSize_nat]
  simp
  omega
section
variable {prog : Program} {w : World} {A : Around} {E : Value → Shared → Prop} {s : Shared} {env : Env} {h₀ : Heap} {L : Addr} {m : Str → Option Value} {news : List (Addr × Obj)}
theorem call_range_led {k : Int} {u : Tok} {Q : Value → Shared → Prop} (F : Fr h₀ L s.heap m) (N : News h₀ L s.heap news)
    (h : ∀ D h' tk t v, Fr h₀ L h' m → News h₀ L h' ((D, rangeObj k t u v) :: news) → (∀ p ∈ news, p.1 < D) → Q (.ref D) { s with heap := h', toks := tk }) : wpAny (model prog w) A (call (.type "range") [.int k u]) Q E s :=
  call_range_1 (h _ _ _ _ _ (F.push _) (N.push F _) fun p hp => Heap.lt_size (N p hp).1)

def RangePost (h₀ : Heap) (L : Addr) (Jn : (Str → Option Value) → List (Addr × Obj) → Prop) (I : Addr) (oI : Obj) (s₁ : Shared) (Q : Flow → Shared → Prop) (f : Flow) (s₂ : Shared) : Prop :=
  match f with
  | .ret v => Q (.ret v) s₂
  | .brk => Q .next s₂
  | _ => ∃ h' tk m' nx', s₂ = { s₁ with heap := h', toks := tk } ∧ Fr h₀ L h' m' ∧ News h₀ L h' ((I, oI) :: nx') ∧ (∀ p ∈ nx', p.1 ≠ I) ∧ Jn m' nx'
theorem RangePost.intro {Jn : (Str → Option Value) → List (Addr × Obj) → Prop} {I : Addr} {oI : Obj} {s₁ : Shared} {Q : Flow → Shared → Prop} {h' : Heap} {tk : Nat} {m' : Str → Option Value} {nx' : List (Addr × Obj)} (F : Fr h₀ L h' m') (N : News h₀ L h' ((I, oI) :: nx'))
    (o : ∀ p ∈ nx', p.1 ≠ I) (j : Jn m' nx') : RangePost h₀ L Jn I oI s₁ Q .next { s₁ with heap := h', toks := tk } := ⟨h', tk, m', nx', rfl, F, N, o, j⟩

/-- what is asked of a loop over range(k) -/
def RangeAt (prog : Program) (w : World) (A : Around) (h₀ : Heap) (env : Env) (x : Str) (body : List Stmt) (Q : Flow → Shared → Prop) (E : Value → Shared → Prop) (xv : Value) (s : Shared) : Prop :=
  ∃ (r : Addr) (k : Int) (t u v : Tok) (m₀ : Str → Option Value) (news nx₀ : List (Addr × Obj)) (J : Nat → (Str → Option Value) → List (Addr × Obj) → Prop),
    xv = .ref r ∧ 0 ≤ k ∧ k ≤ 1000 ∧ Fr h₀ env.locals s.heap m₀ ∧ News h₀ env.locals s.heap news ∧ (r, rangeObj k t u v) ∈ news ∧ (∀ p ∈ nx₀, p ∈ news) ∧ J 0 m₀ nx₀ ∧
    (∀ (i : Nat) ti m₁ nx I oI h tk, (i : Int) < k → J i m₁ nx → (∀ p ∈ nx, p.1 ≠ I) → Fr h₀ env.locals h (fun y => if y = x then some (.int (i : Int) ti) else m₁ y) → News h₀ env.locals h ((I, oI) :: nx) →
      wpAny (model prog w) A (execs body env) (RangePost h₀ env.locals (J (i + 1)) I oI { s with heap := h, toks := tk } Q) E { s with heap := h, toks := tk }) ∧
    (∀ m₁ nx h tk, J k.toNat m₁ nx → Fr h₀ env.locals h m₁ → News h₀ env.locals h nx → Q .next { s with heap := h, toks := tk })

theorem For_range {Q : Flow → Shared → Prop} {x : Str} {px pos : Pos} {iter : Expr} {body : List Stmt} {m₀ : Str → Option Value} (_F : Fr h₀ env.locals s.heap m₀)
    (hh : A.handled = none) (hx : env.kindOf x = some .local)
    (hp : (env.scope.kind == .class || (env.scope.kind == .module && env.locals != env.globals)) = false)
    (h : wpAny (model prog w) A (eval iter env) (fun xv s₁ => RangeAt prog w A h₀ env x body Q E xv s₁) E s)
    (hs : ∀ x, foldedSetIterable iter env x = pure x := by intro _; rfl)
    (hE : PassesOwn (model prog w) A env E := by passes_own) :
    wpAny (model prog w) A (exec (.For (.Name x px) iter body [] pos) env) Q E s := by
  refine For_invV h₀ hx hp (wpAny_mono h (fun xv s₁ h₁ => ?_) fun _ _ e => e) hs hE
  obtain ⟨r, k, t, u, v, m, news, nx₀, J, rfl, hk0, hk1, F, N, hr, hsub, h0, turn, done⟩ := h₁
  have hR : IsRange s₁.heap r 0 k 1 t u v := N.get hr
  have hn : Builtin.Range.rangeSize 0 k 1 = (k.toNat : Int) := by rw [rangeSize_nat]; omega
  refine wpAny_pyIter_range hR (range_small hk0 hk1) ?_
  have W : Walks prog w A s₁.heap.objs.size [s₁.heap.objs.size] [s₁.heap.objs.size] k.toNat (fun i v => i < k.toNat ∧ ∃ t, v = .int (0 + i * 1) t)
      (fun i h => IsRangeIter h s₁.heap.objs.size (0 + (i : Nat) * 1) ((k.toNat : Int) - (i : Nat)) 1) := (Walks.range hh _ 0 1 k.toNat).bound
  have hapart : ∀ p ∈ news, p.1 ≠ s₁.heap.objs.size := fun p hp => Nat.ne_of_lt (Heap.lt_size (N p hp).1)
  refine ⟨s₁.heap.objs.size, [s₁.heap.objs.size], [s₁.heap.objs.size], k.toNat, _, _, m, nx₀, J, rfl, W, ?_, ?_, ?_, ?_, F.push _, (fun p hp => ⟨Heap.get?_push_of_some _ (N p (hsub p hp)).1, (N p (hsub p hp)).2⟩), h0, ?_, ?_⟩
  · intro hm
    exact absurd F.ns.lt ((List.mem_singleton.mp hm) ▸ Nat.lt_irrefl _)
  · intro b hb
    rw [List.mem_singleton.mp hb]
    exact next_is_new F
  · intro p hp hI
    exact hapart p (hsub p hp) (List.mem_singleton.mp hI)
  · show IsRangeIter _ _ _ _ _
    rw [hn]
    simpa using Heap.get?_push_size _ rfl
  · rintro i v m₁ nx s₂ own ⟨hh', tk', rfl⟩ hin ⟨_, ti, rfl⟩ hJ hoff hown hget hall hst F₁ N₁
    have e1 : (0 : Int) + (i : Int) * 1 = (i : Int) := by omega
    rw [e1] at F₁
    have hI0 : h₀.get? s₁.heap.objs.size = none := next_is_new F
    obtain ⟨oI, hI⟩ : ∃ o, hh'.get? s₁.heap.objs.size = some o := ⟨_, hst⟩
    have hmem := hall _ (List.mem_singleton.mpr rfl) hI0 _ hI
    have NI : News h₀ env.locals hh' ((s₁.heap.objs.size, oI) :: nx) := fun p hp => by
      rcases List.mem_cons.mp hp with rfl | hp
      · exact N₁ _ (List.mem_append_left _ hmem)
      · exact N₁ _ (List.mem_append_right _ hp)
    refine wpAny_mono (turn i ti m₁ nx _ _ hh' tk' (by omega) hJ (fun p hp e => hoff p hp (List.mem_singleton.mpr e)) F₁ NI) (fun f s₃ h₃ => ?_) fun _ _ e => e
    have fin : (∃ h' tk m' nx', s₃ = { s₁ with heap := h', toks := tk } ∧ Fr h₀ env.locals h' m' ∧ News h₀ env.locals h' ((s₁.heap.objs.size, oI) :: nx') ∧ (∀ p ∈ nx', p.1 ≠ s₁.heap.objs.size) ∧ J (i + 1) m' nx') →
        LoopStepU h₀ env.locals [s₁.heap.objs.size] own (J (i + 1)) { s₁ with heap := hh', toks := tk' } .next s₃ := by
      rintro ⟨h', tk, m', nx', rfl, F', N', ho, hj⟩
      refine ⟨rfl, h', tk, m', nx', rfl, F', fun p hp => ?_, fun p hp hq => ho p hp (List.mem_singleton.mp hq), hj⟩
      rcases List.mem_append.mp hp with h | h
      · have e2 : p.1 = s₁.heap.objs.size := List.mem_singleton.mp (hown p h)
        have e3 := hget p h
        rw [e2] at e3
        have e4 := e3.symm.trans hI
        have e5 : p = (s₁.heap.objs.size, oI) := Prod.ext e2 (Option.some.inj e4)
        rw [e5]
        exact N' _ (.head _)
      · exact N' _ (.tail _ h)
    cases f with
    | ret v => exact .ret h₃
    | brk => exact .brk h₃
    | next => exact .next (fin h₃)
    | cont => exact .cont (fin h₃)
  · rintro h' tk m' nx' F' N' _ hJ
    exact done m' nx' h' tk hJ F' N'
end

section
variable {prog : Program} {w : World} {A : Around} {E : Value → Shared → Prop} {s : Shared} {h₀ : Heap} {L : Addr} {news : List (Addr × Obj)}
/-- an event out of the nine -/
theorem item_menu {value slice : PySem.Expr} {l : Addr} {vs : List Value} {nn : Nat} {k : Int} {u : Tok} {Q : Value → Shared → Prop} (N : News h₀ L s.heap news) (hl : (l, listOf vs.toArray nn) ∈ news) (hm : IsMenu vs) (h0 : 0 ≤ k) (h1 : k < 9)
    (h : ∀ e t, Q (ev e t) s)
    (hs : subscripted slice false (.ref l) (.int k u) = operate [.ref l, .int k u] (getItem (.ref l) (.int k u)) := by with_unfolding_all rfl) :
    wpAny (model prog w) A (subscriptTail value slice (.ref l) (.int k u)) Q E s := by
  have hL : s.heap.IsList l vs.toArray := N.isList hl
  have hlt : k.toNat < vs.length := by rw [hm.1]; omega
  obtain ⟨e, t, ev'⟩ := hm.2 k.toNat _ (List.getElem?_eq_getElem hlt)
  exact tail_any hL.typeIs slot_list_getitem.lookup (wpAny_getItem_list hL h0 (by omega) (x := vs[k.toNat]) (by simp [hlt]) (by rw [ev']; exact h e t)) hs
end
end Mine
namespace Mine
/-- no key is the beginning of another -/
def Apart (rows : List Row) : Prop := rows.Pairwise fun a b => a.1.take b.1.length ≠ b.1 ∧ b.1.take a.1.length ≠ a.1
/-- what holds between two turns of the loop that builds the rows -/
def RowsInv (lc D lst ck cd : Addr) (ocd : Obj) (k : Int) (rest : List (Addr × Obj)) (base : Str → Option Value) (i : Nat) (m : Str → Option Value) (nx : List (Addr × Obj)) : Prop :=
  ∃ (k' : Int) (t' : Tok) (rvs : List Value) (nn : Nat) (rows : List Row) (tl : List (Addr × Obj)) (ock : Obj) (oc ob : Option Value),
    nx = (D, deckObj lc k' t') :: (lst, listOf rvs.toArray nn) :: (ck, ock) :: (cd, ocd) :: tl ∧ (∃ vk, ock.data = .cell vk) ∧ m = (fun y => if y = Str.ofString "clash" then oc else if y = Str.ofString "beat" then ob else base y) ∧
    (∀ q ∈ rest, q ∈ tl) ∧ Off D tl ∧ Off lst tl ∧ Off ck tl ∧ RowsIn tl rvs rows ∧ Apart rows ∧ (∀ r ∈ rows, NmOk r.2) ∧ rows.length ≤ i ∧ 0 ≤ k' ∧ k' ≤ k + 1 + 4 * (i : Int)
end Mine
namespace Mine
section
variable {prog : Program} {w : World} {A : Around} {E : Value → Shared → Prop} {s : Shared} {env : Env} {h₀ : Heap} {x : Str} {body : List Stmt} {Q : Flow → Shared → Prop}
theorem RangeAt.mk {r : Addr} {k : Int} {t u v : Tok} {m₀ : Str → Option Value} {news nx₀ : List (Addr × Obj)} (J : Nat → (Str → Option Value) → List (Addr × Obj) → Prop)
    (F : Fr h₀ env.locals s.heap m₀) (N : News h₀ env.locals s.heap news) (hr : (r, rangeObj k t u v) ∈ news) (hk0 : 0 ≤ k) (hk1 : k ≤ 1000) (h0 : J 0 m₀ nx₀) (hsub : ∀ p ∈ nx₀, p ∈ news)
    (turn : ∀ (i : Nat) ti m₁ nx I oI h tk, (i : Int) < k → J i m₁ nx → (∀ p ∈ nx, p.1 ≠ I) → Fr h₀ env.locals h (fun y => if y = x then some (.int (i : Int) ti) else m₁ y) → News h₀ env.locals h ((I, oI) :: nx) →
      wpAny (model prog w) A (execs body env) (RangePost h₀ env.locals (J (i + 1)) I oI { s with heap := h, toks := tk } Q) E { s with heap := h, toks := tk })
    (done : ∀ m₁ nx h tk, J k.toNat m₁ nx → Fr h₀ env.locals h m₁ → News h₀ env.locals h nx → Q .next { s with heap := h, toks := tk }) :
    RangeAt prog w A h₀ env x body Q E (.ref r) s := ⟨r, k, t, u, v, m₀, news, nx₀, J, rfl, hk0, hk1, F, N, hr, hsub, h0, turn, done⟩
end
theorem RowsInv.start {lc D lst L : Addr} {ock ocd : Obj} {k : Int} {t : Tok} {rest : List (Addr × Obj)} {m₀ : Str → Option Value} {vk : Option Value} (d1 : ock.data = .cell vk) (o1 : Off D rest) (o2 : Off lst rest) (o3 : Off (L + 1 + 1) rest) (hk : 0 ≤ k) :
    RowsInv lc D lst (L + 1 + 1) (L + 1) ocd k rest m₀ 0 m₀ ((D, deckObj lc (k + 1) t) :: (lst, listOf #[] 0) :: (L + 1 + 1, ock) :: (L + 1, ocd) :: rest) :=
  ⟨k + 1, t, [], 0, [], rest, ock, m₀ (Str.ofString "clash"), m₀ (Str.ofString "beat"), rfl, ⟨_, d1⟩, by
    funext y
    by_cases h1 : y = Str.ofString "clash"
    · rw [if_pos h1, h1]
    · rw [if_neg h1]
      by_cases h2 : y = Str.ofString "beat"
      · rw [if_pos h2, h2]
      · rw [if_neg h2], fun _ h => h, o1, o2, o3, ⟨rfl, fun i v r a b => by simp at a⟩, .nil, fun _ h => (nomatch h), Nat.le_refl _, by omega, by omega⟩
/-- what lies below a place lies off it -/
theorem off_below {a : Addr} {l : List (Addr × Obj)} (h : AllLt a l) : Off a l := by
  induction l with
  | nil => exact fun _ h => nomatch h
  | cons p r ih =>
    intro q hq
    rcases List.mem_cons.mp hq with rfl | hq
    · exact Nat.ne_of_lt h.1
    · exact ih h.2 q hq
end Mine
namespace Mine
theorem off_above {a b : Addr} (hab : a ≤ b) {l : List (Addr × Obj)} (h : AllLt a l) : Off b l := by
  induction l with
  | nil => exact fun _ h => nomatch h
  | cons p r ih =>
    intro q hq
    rcases List.mem_cons.mp hq with rfl | hq
    · exact Nat.ne_of_lt (Nat.lt_of_lt_of_le h.1 hab)
    · exact ih h.2 q hq
end Mine
end

section
open PySem PySem.W PyProof.Rows PyProof.V
set_option Elab.async false
namespace Mine
/-! the comprehension that draws a key -/
def KeyEl (lc D : Addr) (kk : Int) (restC : List (Addr × Obj)) (y : Value) (nw : List (Addr × Obj)) : Prop := ∃ e t tt, y = ev e t ∧ nw = (D, deckObj lc (kk + 1) tt) :: restC
section
variable {prog : Program} {w : World} {A : Around} {h₀ : Heap} {L : Addr} {m : Str → Option Value} {env : Env} {elt : Expr} {x : Str} {scope : Scope} {cl : List (Str × Addr)} {s : Shared} {S : List (Addr × Obj) → Prop} {P : Nat → Value → Prop} {Fin : List Value → List (Addr × Obj) → Prop}
theorem comp_keys {n : Nat} {lc D : Addr} {k0 : Int} {tt0 : Tok} {restC : List (Addr × Obj)}
    (turn : ∀ (kk : Int) (tt : Tok) (ks : List Kt) I oI C oC D' m₂ h tk (E' : Value → Shared → Prop), k0 ≤ kk → kk < k0 + n → LCg.NsObj oC m₂ → Fr h₀ L h m → News h₀ L h ((I, oI) :: (C, oC) :: (D', LCg.lst (kv ks)) :: (D, deckObj lc kk tt) :: restC) →
      LCg.Off3 I C D' ((D, deckObj lc kk tt) :: restC) → ((@Ne Nat I C) ∧ (@Ne Nat I D') ∧ (@Ne Nat C D')) →
      wpAny (model prog w) A (eval elt (compEnvC scope cl C env)) (LCg.CompEnd h₀ L m { s with heap := h, toks := tk } I oI C oC D' (LCg.lst (kv ks)) S (fun y nw => KeyEl lc D kk restC y nw)) E' { s with heap := h, toks := tk })
    (fin : ∀ (ks : List Kt) tt, ks.length = n → Fin (kv ks) ((D, deckObj lc (k0 + n) tt) :: restC)) :
    LCg.CompRest prog w A h₀ L m env elt x scope cl s S P Fin n 0 [] ((D, deckObj lc k0 tt0) :: restC) := by
  have key : ∀ (j i : Nat) (ks : List Kt) tt, i + j = n → ks.length = i → LCg.CompRest prog w A h₀ L m env elt x scope cl s S P Fin j i (kv ks) ((D, deckObj lc (k0 + i) tt) :: restC) := by
    intro j
    induction j with
    | zero =>
      intro i ks tt hi hy
      have e : i = n := by omega
      subst e
      exact LCg.CompRest.zero (fin ks tt hy)
    | succ j ih =>
      intro i ks tt hi hy
      refine LCg.CompRest.succ ?_
      intro v I oI C oC D' m₂ h tk E' hv hC hx F N off ne
      refine wpAny_mono (turn _ tt ks I oI C oC D' m₂ h tk E' (by omega) (by omega) hC F N off ne) (fun y s₂ hq => ?_) fun _ _ e => e
      obtain ⟨h', tk', nw, e, F', N', off', hS, e', t', tt', rfl, rfl⟩ := hq
      refine ⟨h', tk', _, e, F', N', off', hS, ?_⟩
      have q := ih (i + 1) (ks ++ [(e', t')]) tt' (by omega) (by simp [hy])
      have c1 : k0 + ((i + 1 : Nat) : Int) = k0 + (i : Int) + 1 := by omega
      rw [c1] at q
      have c2 : kv (ks ++ [(e', t')]) = kv ks ++ [ev e' t'] := by simp
      rw [c2] at q
      exact q
  have q := key n 0 [] tt0 (by omega) rfl
  have c1 : k0 + ((0 : Nat) : Int) = k0 := by omega
  rw [c1] at q
  exact q
end
end Mine
end

section
open PySem PySem.W PyProof.Rows PyProof.V PySem.Spec PySem.Calls
set_option Elab.async false
namespace Mine
open LCg
/-! a comprehension over a list of pairs with one test, that reads alone: [x for x, x₂ in iter if ct] -/
section
variable {prog : Program} {w : World} {A : Around} {E : Value → Shared → Prop} {s : Shared} {h₀ : Heap} {L : Addr} {m : Str → Option Value} {env : Env}

theorem codeAny_compLoop_pt {elt iter ct : Expr} {elts : List Expr} {x1} {tp : Pos} {scope : Scope} {pos : Pos} {it acc : Value} {env : Env} {R : Result → Shared → Prop} (I : Nat → Shared → Prop)
    (turn : ∀ n s, I n s → wpAny (model prog w) A (pyNext it) (fun r s₁ => match r with
      | none => R (.ok .next) s₁
      | some v => wpAny (model prog w) A (letOwnedTupleGo (.Tuple elts x1 tp) it v) (fun _ s₁' => wpAny (model prog w) A (assign (.Tuple elts x1 tp) env v) (fun _ s₂ =>
          wpAny (model prog w) A (isTrue ct env (eval ct env)) (fun ok s₃ =>
            if ok = true then wpAny (model prog w) A (eval elt env) (fun x s₄ =>
              wpAny (model prog w) A (call (.builtin "list.append") [acc, x]) (fun _ s₅ => ∃ m, m < n ∧ I m s₅) (notedBy (model prog w) A env fun e s' => R (.error e) s') s₄) (notedBy (model prog w) A env fun e s' => R (.error e) s') s₃
            else ∃ m, m < n ∧ I m s₃) (notedBy (model prog w) A env fun e s' => R (.error e) s') s₂)
          (notedBy (model prog w) A env fun e s' => R (.error e) s') s₁') (notedBy (model prog w) A env fun e s' => R (.error e) s') s₁) (notedBy (model prog w) A env fun e s' => R (.error e) s') s)
    (n : Nat) (h : I n s) : codeAny (model prog w) A (.compLoop (.ListComp elt [⟨.Tuple elts x1 tp, iter, [ct], 0⟩] scope pos) 0 it acc env) R s := by
  refine codeAny_loop rfl I (fun n s hI => ?_) n h
  show wpAny _ A ((compTurn (.ListComp elt [⟨.Tuple elts x1 tp, iter, [ct], 0⟩] scope pos) 0 it acc env).onRaise (fun x => do noteFrame x env; theTreesLotGoes x)) _ _ s
  refine wpAny_noted ?_
  rw [compTurn_list]
  refine wpAny_bind (wpAny_standAt (wpAny_bind (wpAny_mono (turn n s hI) (fun r s₁ h₁ => ?_) fun _ _ h' => h')))
  cases r with
  | none => exact wpAny_pure h₁
  | some v =>
    refine wpAny_bind (wpAny_mono h₁ (fun _ s₁' h₁' => ?_) fun _ _ h' => h')
    refine wpAny_bind (wpAny_mono h₁' (fun _ s₂ h₂ => wpAny_bind (wpAny_mono (wpAny_tests_one h₂) (fun ok s₃ h₃ => ?_) fun _ _ h' => h')) fun _ _ h' => h')
    cases ok with
    | false => exact wpAny_pure ⟨rfl, h₃⟩
    | true =>
      exact wpAny_bind (wpAny_bind (wpAny_mono h₃ (fun x s₄ h₄ => wpAny_bind (wpAny_mono h₄ (fun _ s₅ h₅ => wpAny_pure (wpAny_pure ⟨rfl, h₅⟩)) fun _ _ h' => h')) fun _ _ h' => h'))

/-- how the test of a turn ends -/
def PtTest (h₀ : Heap) (L : Addr) (m : Str → Option Value) (s₁ : Shared) (led : List (Addr × Obj)) (J : Bool → Prop) (ok : Bool) (s₂ : Shared) : Prop :=
  ∃ h' tk, s₂ = { s₁ with heap := h', toks := tk } ∧ Fr h₀ L h' m ∧ News h₀ L h' led ∧ J ok
theorem PtTest.intro {s₁ : Shared} {led : List (Addr × Obj)} {J : Bool → Prop} {ok : Bool} {h' : Heap} {tk : Nat} (F : Fr h₀ L h' m) (N : News h₀ L h' led) (j : J ok) : PtTest h₀ L m s₁ led J ok { s₁ with heap := h', toks := tk } := ⟨h', tk, rfl, F, N, j⟩

/-- what is asked of such a comprehension -/
def PtSrc (prog : Program) (w : World) (A : Around) (h₀ : Heap) (L : Addr) (m : Str → Option Value) (env : Env) (ct : Expr) (x x₂ : Str) (scope : Scope) (cl : List (Str × Addr)) (y : Str) (Q : Flow → Shared → Prop) (xv : Value) (s : Shared) : Prop :=
  ∃ (l : Addr) (vs : List Value) (nn : Nat) (news : List (Addr × Obj)) (R : Nat → Value → Value → Prop) (J : Nat → List Value → Prop),
    xv = .ref l ∧ A.handled = none ∧ Fr h₀ L s.heap m ∧ News h₀ L s.heap news ∧ (l, listOf vs.toArray nn) ∈ news ∧ vs.length ≤ sizeLine ∧
    (∀ (i : Nat) v, vs[i]? = some v → ∃ t a b, v = .ref t ∧ (t, tupOf [a, b]) ∈ news ∧ R i a b) ∧ J 0 [] ∧
    (∀ (i : Nat) a b ys I oI C oC D m₂ h tk (E' : Value → Shared → Prop), i < vs.length → R i a b → J i ys → NsObj oC m₂ → m₂ x = some a → m₂ x₂ = some b → Fr h₀ L h m → News h₀ L h ((I, oI) :: (C, oC) :: (D, lst ys) :: news) →
      wpAny (model prog w) A (isTrue ct (compEnvC scope cl C env) (eval ct (compEnvC scope cl C env))) (PtTest h₀ L m { s with heap := h, toks := tk } ((I, oI) :: (C, oC) :: (D, lst ys) :: news) (fun ok => J (i + 1) (if ok = true then ys ++ [a] else ys))) E' { s with heap := h, toks := tk }) ∧
    (∀ D ys h tk, J vs.length ys → Fr h₀ L h (fun z => if z = y then some (.ref D) else m z) → News h₀ L h ((D, lst ys) :: news) → (∀ p ∈ news, p.1 ≠ D) → Q .next { s with heap := h, toks := tk })

theorem Assign_pt {iter ct : Expr} {x x₂ y : Str} {px px' px₂ tp py : Pos} {tk} {scope : Scope} {cl : List (Str × Addr)} {pos spos : Pos} {Q : Flow → Shared → Prop} (_F₀ : Fr h₀ L s.heap m) (hLe : env.locals = L)
    (hsw : swapsWith (.ListComp (.Name x px') [⟨.Tuple [.Name x px, .Name x₂ px₂] tk tp, iter, [ct], 0⟩] scope pos) (some (.Name y py)) spos.line env = pure true)
    (hclos : closureFor scope env = pure cl) (hcell : ∀ z ∈ scope.names, z.2 ≠ .cell) (hkind : scope.kind = .function)
    (hnames : ∀ z ∈ scope.names, z.2 = .local → scope.names.lookup z.1 = some .local) (hx : scope.names.lookup x = some .local) (hx₂ : scope.names.lookup x₂ = some .local) (hxx : x ≠ x₂) (hdbg : (x == ("__debug__" : Str)) = false)
    (hy : env.kindOf y = some .local) (hp : (env.scope.kind == .class || (env.scope.kind == .module && env.locals != env.globals)) = false)
    (h : wpAny (model prog w) A (eval iter env) (PtSrc prog w A h₀ L m env ct x x₂ scope cl y Q) E s)
    (hs : ∀ x, foldedSetIterable iter env x = pure x := by intro _; rfl) :
    wpAny (model prog w) A (exec (.Assign [.Name y py] (.ListComp (.Name x px') [⟨.Tuple [.Name x px, .Name x₂ px₂] tk tp, iter, [ct], 0⟩] scope pos) spos) env) Q E s := by
  subst hLe
  rw [exec_Assign_Name_used _ _ _ _ hsw]
  refine wpAny_bind (wpAny_standAt (wpAny_bind ?_))
  show wpAny _ A (do let _ ← comprehension (.ListComp (.Name x px') [⟨.Tuple [.Name x px, .Name x₂ px₂] tk tp, iter, [ct], 0⟩] scope pos) scope env _ (newList []) false (eval iter env) (some (assign (.Name y py) env))) _ _ s
  refine wpAny_bind (wpAny_mono (wpAny_comprehension_free (use := some (assign (.Name y py) env)) (Q := fun _ s' => Q .next s') rfl hs hclos hkind hnames
    (wpAny_mono h (fun xv s₁ h₁ => ?_) fun _ _ e => e)) (fun _ s' hq => wpAny_pure (wpAny_pure hq)) fun _ _ e => e)
  obtain ⟨l, vs, nn, news, RR, J, rfl, hh, F, N, hl, hsz, hrow, h0, turn, done⟩ := h₁
  have hol : s₁.heap.get? l = some (listOf vs.toArray nn) := (N _ hl).1
  have hls : s₁.heap.IsList l vs.toArray := ⟨_, hol, rfl, nn, rfl⟩
  refine wpAny_pyIter_list hls ?_
  have hlt : l < s₁.heap.objs.size := Heap.lt_size hol
  have up : ∀ b o, s₁.heap.get? b = some o → (s₁.heap.push { cls := .type "list_iterator", data := .fields #[.ref l, .int 0 0] }).get? b = some o := fun b o e => Heap.get?_push_of_some _ e
  have hit0 : (s₁.heap.push { cls := .type "list_iterator", data := .fields #[.ref l, .int 0 0] }).IsListIter s₁.heap.objs.size l 0 := ⟨_, Heap.get?_push_size _ rfl, rfl, rfl⟩
  have hHs : (s₁.heap.push { cls := .type "list_iterator", data := .fields #[.ref l, .int 0 0] }).objs.size = s₁.heap.objs.size + 1 := Heap.size_push _ _
  have F1 := F.keeps up
  have N1 := N.grown up
  have hI₀ : h₀.get? s₁.heap.objs.size = none := next_is_new F
  have hLI : env.locals ≠ s₁.heap.objs.size := Nat.ne_of_lt F.ns.lt
  have hnI : ∀ p ∈ news, p.1 ≠ s₁.heap.objs.size := fun p hp => Nat.ne_of_lt (Heap.lt_size (N p hp).1)
  have hlI : l ≠ s₁.heap.objs.size := Nat.ne_of_lt hlt
  revert hit0 hHs F1 N1 hI₀ hLI hnI hlI
  generalize s₁.heap.push { cls := .type "list_iterator", data := .fields #[.ref l, .int 0 0] } = H1
  generalize s₁.heap.objs.size = I
  intro hit0 hHs F1 N1 hI₀ hLI hnI hlI
  refine wpAny_newObj_type (wpAny_newFunctionEnv hcell (by intro y hy; simp at hy) (fun h₁ hns₁ hsb₁ => ?_) hkind)
  dsimp only at hns₁ hsb₁ ⊢
  generalize hH2 : H1.push { cls := .type "list", dict := none, data := .seq ([] : List Value).toArray } = H2 at hns₁ hsb₁ ⊢
  have hC : H2.objs.size = H1.objs.size + 1 := by rw [← hH2, Heap.size_push]
  have hD : H1.objs.size = I + 1 := hHs
  have up2 : ∀ b o, H1.get? b = some o → h₁.get? b = some o := fun b o e => hsb₁.extBut b o (Nat.ne_of_lt (by rw [hC]; exact Nat.lt_succ_of_lt (Heap.lt_size e))) (Heap.get?_push_of_some _ (hH2 ▸ Heap.get?_push_of_some _ e))
  have hacc : h₁.get? H1.objs.size = some (lst []) := hsb₁.extBut _ _ (Nat.ne_of_lt (by rw [hC]; exact Nat.lt_succ_self _)) (Heap.get?_push_of_some _ (hH2 ▸ Heap.get?_push_size _ rfl))
  have fresh₀ : ∀ a, H1.objs.size ≤ a → h₀.get? a = none := fun a ha => by
    cases e : h₀.get? a with
    | none => rfl
    | some o' => exact absurd (Heap.lt_size (F1.keep a o' e)) (Nat.not_lt.mpr ha)
  have hD₀ : h₀.get? H1.objs.size = none := fresh₀ _ (Nat.le_refl _)
  have hC₀ : h₀.get? H2.objs.size = none := fresh₀ _ (by rw [hC]; exact Nat.le_succ _)
  have hLlt : env.locals < H1.objs.size := F1.ns.lt
  have F2 := F1.keeps up2
  have N2 := N1.grown up2
  have hit2 : h₁.IsListIter I l 0 := hit0.at fun o e => up2 I o e
  have hnlt : ∀ p ∈ news, p.1 < H1.objs.size := fun p hp => Heap.lt_size (N1 p hp).1
  have hIlt : I < H1.objs.size := by rw [hD]; exact Nat.lt_succ_self _
  revert hacc hD₀ hC₀ hLlt F2 N2 hit2 hnlt hIlt hC hns₁
  generalize H1.objs.size = D
  generalize H2.objs.size = C
  clear hsb₁ up2 hH2 hHs F1 N1 hit0 fresh₀ hD up
  intro hns₁ hC hacc hD₀ hC₀ hLlt F2 N2 hit2 hnlt hIlt
  have hDC : D ≠ C := by rw [hC]; exact Nat.ne_of_lt (Nat.lt_succ_self _)
  have hIC : I ≠ C := by rw [hC]; exact Nat.ne_of_lt (Nat.lt_succ_of_lt hIlt)
  have hID : I ≠ D := Nat.ne_of_lt hIlt
  have hLC : env.locals ≠ C := by rw [hC]; exact Nat.ne_of_lt (Nat.lt_succ_of_lt hLlt)
  have hLD : env.locals ≠ D := Nat.ne_of_lt hLlt
  have hnC : ∀ p ∈ news, p.1 ≠ C := fun p hp => by rw [hC]; exact Nat.ne_of_lt (Nat.lt_succ_of_lt (hnlt p hp))
  have hnD : ∀ p ∈ news, p.1 ≠ D := fun p hp => Nat.ne_of_lt (hnlt p hp)
  have W := Walks.list (prog := prog) (w := w) hh I l hlI vs.toArray
  have hszv : vs.toArray.size = vs.length := by simp
  have hlsN : ∀ {h : Heap}, News h₀ env.locals h news → h.IsList l vs.toArray := fun N => ⟨_, (N _ hl).1, rfl, nn, rfl⟩
  have hlD : l ≠ D := hnD _ hl
  have cenvEq : ∀ {R : Result → Shared → Prop} {e : Expr} {st : Shared}, codeAny (model prog w) A (.compStart e 0 (.ref I) (.ref D) (compEnvC scope cl C env)) R st →
      codeAny (model prog w) A (.compStart e 0 (.ref I) (.ref D) { newEnv scope C env.globals cl env.qual none Value.none (some env) builtinsNs with scope := relabel scope env }) R st := fun q => q
  refine cenvEq ?_
  generalize hRP : compPost (model prog w) A E (some (assign (Expr.Name y py) env)) (fun x s' => Q Flow.next s') (Value.ref D) _ = RP
  have hRR : ∀ h tk m' ys, J vs.length ys → Fr h₀ env.locals h m → News h₀ env.locals h ((D, lst ys) :: news) → h.Ns C m' → RP (.ok .next) { s₁ with heap := h, toks := tk } := by
    intro h tk m' ys hJ F' N' hn
    rw [← hRP]
    show wpAny _ A (assign (.Name y py) env (.ref D)) _ _ _
    refine wpAny_assign_Name (wpAny_storeName_local hy F'.ns (fun h₂ hn₂ hs₂ => ?_) hp)
    have hL₀ : h₀.get? env.locals = none := Heap.get?_none_of_le F'.above
    have F₂ : Fr h₀ env.locals h₂ (fun z => if z = y then some (.ref D) else m z) := ⟨hn₂, fun b o e => hs₂.extBut b o (fun q => by rw [q, hL₀] at e; cases e) (F'.keep b o e), F'.above⟩
    refine ⟨m', hn.sameBut hs₂ (Ne.symm hLC), fun h'' hs'' => done D ys h'' _ hJ (F₂.change hs'' (Ne.symm hLC) hC₀) (fun p hp => ?_) hnD⟩
    have z : h₂.get? p.1 = some p.2 := hs₂.extBut _ _ (N' p hp).2.1 (N' p hp).1
    refine ⟨hs''.extBut _ _ ?_ z, (N' p hp).2⟩
    rcases List.mem_cons.mp hp with rfl | hp
    · exact hDC
    · exact hnC p hp
  have loop : codeAny (model prog w) A (.compLoop (.ListComp (.Name x px') [⟨.Tuple [.Name x px, .Name x₂ px₂] tk tp, iter, [ct], 0⟩] scope pos) 0 (.ref I) (.ref D) (compEnvC scope cl C env)) RP { s₁ with heap := h₁, toks := s₁.toks + ([] : List (Str × Value)).length } := by
    refine codeAny_compLoop_pt
      (fun k s' => ∃ h' tk i ys m', s' = { s₁ with heap := h', toks := tk } ∧ i ≤ vs.length ∧ k = vs.length + 1 - i ∧ ys.length ≤ i ∧ h'.IsListIter I l i ∧ Fr h₀ env.locals h' m ∧ h'.Ns C m' ∧ News h₀ env.locals h' ((D, lst ys) :: news) ∧ J i ys) ?_ (vs.length + 1)
      ⟨h₁, _, 0, [], _, rfl, Nat.zero_le _, rfl, Nat.le_refl _, hit2, F2, hns₁, fun p hp => ?_, h0⟩
    · rintro k s' ⟨h', tk, i, ys, m', rfl, hi, rfl, hyl, hit', F', hn', N', hJ⟩
      have N'' : News h₀ env.locals h' news := fun p hp => N' p (.tail _ hp)
      have keep : ∀ {h₂ : Heap}, (∀ b o, b ∉ [I] → h'.get? b = some o → h₂.get? b = some o) → Fr h₀ env.locals h₂ m ∧ News h₀ env.locals h₂ ((D, lst ys) :: news) ∧ h₂.Ns C m' := fun {h₂} hk =>
        ⟨fr_but F' hk hLI hI₀, news_but N' hk (fun p hp => by
          rcases List.mem_cons.mp hp with rfl | hp
          · exact Ne.symm hID
          · exact hnI p hp), hn'.at' fun o e => hk _ o (by simpa using Ne.symm hIC) e⟩
      by_cases hlt' : i < vs.length
      · refine W.item i _ _ _ (by rw [hszv]; exact hlt') ⟨hit', hlsN N''⟩ fun v h₂ tk₂ hPv hst₂ hk₂ => ?_
        obtain ⟨F₂, N₂, hn₂⟩ := keep hk₂
        obtain ⟨t, a, b, rfl, hmt, hr⟩ := hrow i v (by simpa using hPv)
        have ht : IsTup h₂ t #[a, b] := ⟨_, (N₂ _ (.tail _ hmt)).1, rfl, _, rfl⟩
        refine wpAny_letOwnedTupleGo_listiter hst₂.1 ?_
        refine assign_Tuple_tuple hh ht rfl rfl fun h₅ he => ?_
        have he' : ∀ b o, h₂.get? b = some o → h₅.get? b = some o := fun b o e => he b o (Nat.ne_of_lt (Heap.lt_size e)) e
        refine assignInOrder_cons (wpAny_assign_Name (wpAny_storeName_local (lookup_relabel_local hx) (hn₂.at' fun o e => he' _ o e) (fun h₆ hn₆ hs₆ => ?_) (by simp [compEnvC, relabel, hkind])))
        refine assignInOrder_cons (wpAny_assign_Name (wpAny_storeName_local (lookup_relabel_local hx₂) hn₆ (fun h₃ hn₃ hs₃ => ?_) (by simp [compEnvC, relabel, hkind])))
        refine assignInOrder_nil ?_
        have old3 : ∀ b o, b ≠ C → h₂.get? b = some o → h₃.get? b = some o := fun b o hb e => hs₃.extBut b o hb (hs₆.extBut b o hb (he' b o e))
        obtain ⟨oC, heC, hoC⟩ := ns_obj hn₃
        have hit₃ : h₃.IsListIter I l (i + 1) := hst₂.1.at fun o e => old3 _ o hIC e
        obtain ⟨oI, heI, hcI, hdI⟩ := hit₃
        have F₃ : Fr h₀ env.locals h₃ m := ((F₂.keeps he').change hs₆ (Ne.symm hLC) hC₀).change hs₃ (Ne.symm hLC) hC₀
        have N₃ : News h₀ env.locals h₃ ((I, oI) :: (C, oC) :: (D, lst ys) :: news) := fun p hp => by
          rcases List.mem_cons.mp hp with rfl | hp
          · exact ⟨heI, Ne.symm hLI, hI₀⟩
          · rcases List.mem_cons.mp hp with rfl | hp
            · exact ⟨heC, Ne.symm hLC, hC₀⟩
            · have z := N₂ p hp
              refine ⟨old3 _ _ ?_ z.1, z.2⟩
              rcases List.mem_cons.mp hp with rfl | hp
              · exact hDC
              · exact hnC p hp
        refine wpAny_mono (turn i a b ys I oI C oC D _ h₃ _ _ hlt' hr hJ hoC (by simp [hxx]) (by simp) F₃ N₃) (fun ok s₄ h₄ => ?_) fun _ _ e => e
        obtain ⟨h₄, tk₄, rfl, F₄, N₄, hJ₄⟩ := h₄
        have zI := (N₄ (I, oI) List.mem_cons_self).1
        have zC := (N₄ (C, oC) (List.mem_cons_of_mem _ List.mem_cons_self)).1
        have zD := (N₄ (D, lst ys) (List.mem_cons_of_mem _ (List.mem_cons_of_mem _ List.mem_cons_self))).1
        have N₄' : News h₀ env.locals h₄ news := fun p hp => N₄ p (List.mem_cons_of_mem _ (List.mem_cons_of_mem _ (List.mem_cons_of_mem _ hp)))
        have hn₄ := hoC.ns zC
        cases ok with
        | true =>
          simp only [if_true] at hJ₄ ⊢
          refine wpAny_Name (wpAny_loadName_local (by simp [compEnvC, relabel, hkind]) (lookup_relabel_local hx) hn₄ (v := a) (by simp [hxx]) ?_) hdbg
          refine append_at (hsz := by show ys.toArray.size ≤ sizeLine; rw [List.size_toArray]; exact Nat.le_trans (Nat.le_trans hyl hi) hsz) zD fun h₅ hs₅ hD₅ => ?_
          refine ⟨vs.length + 1 - (i + 1), by omega, h₅, tk₄, i + 1, ys ++ [a], _, rfl, hlt', rfl, by rw [List.length_append, List.length_singleton]; exact Nat.succ_le_succ hyl, ⟨oI, hs₅.extBut _ _ hID zI, hcI, hdI⟩, F₄.change hs₅ (Ne.symm hLD) hD₀, hn₄.sameBut hs₅ (Ne.symm hDC), fun p hp => ?_, hJ₄⟩
          rcases List.mem_cons.mp hp with rfl | hp
          · exact ⟨hD₅.trans (congrArg some (lst_snoc ys a)), Ne.symm hLD, hD₀⟩
          · exact ⟨hs₅.extBut _ _ (hnD p hp) (N₄' p hp).1, (N₄' p hp).2⟩
        | false =>
          simp only [Bool.false_eq_true, if_false] at hJ₄ ⊢
          refine ⟨vs.length + 1 - (i + 1), by omega, h₄, tk₄, i + 1, ys, _, rfl, hlt', rfl, Nat.le_succ_of_le hyl, ⟨oI, zI, hcI, hdI⟩, F₄, hn₄, fun p hp => ?_, hJ₄⟩
          rcases List.mem_cons.mp hp with rfl | hp
          · exact N₄ _ (List.mem_cons_of_mem _ (List.mem_cons_of_mem _ List.mem_cons_self))
          · exact N₄' p hp
      · obtain rfl : i = vs.length := Nat.le_antisymm hi (Nat.not_lt.mp hlt')
        refine W.done _ _ _ ⟨by rw [hszv]; exact hit', hlsN N''⟩ fun h₂ tk₂ hk₂ => ?_
        obtain ⟨F₂, N₂, hn₂⟩ := keep hk₂
        exact hRR h₂ tk₂ m' ys hJ F₂ N₂ hn₂
    · rcases List.mem_cons.mp hp with rfl | hp
      · exact ⟨hacc, Ne.symm hLD, hD₀⟩
      · exact N2 p hp
  exact codeAny_compStart_list loop (wpAny_pyIter_listiter hit2 loop)
end
end Mine
end

section
open PySem PySem.W PyProof.Rows PyProof.V
set_option Elab.async false
namespace Mine
/-! the list of the keys that clash -/
def clash1 (own k : Key) : Prop := own.take k.length = k ∨ k.take own.length = own
def ClashInv (rows : List Row) (k : Key) (tl : List (Addr × Obj)) (i : Nat) (ys : List Value) : Prop :=
  (ys = [] ↔ ∀ r ∈ rows.take i, ¬ clash1 r.1 k) ∧ ∀ y ∈ ys, ∃ kt ks, y = Value.ref kt ∧ (kt, tupOf (kv ks)) ∈ tl
theorem ClashInv.zero {rows : List Row} {k : Key} {tl : List (Addr × Obj)} : ClashInv rows k tl 0 [] := ⟨⟨fun _ r h => by simp at h, fun _ => rfl⟩, fun _ h => nomatch h⟩
theorem take_snoc {rows : List Row} {i : Nat} {r : Row} (h : rows[i]? = some r) : rows.take (i + 1) = rows.take i ++ [r] := by rw [List.take_add_one, h]; rfl
theorem ClashInv.yes {rows : List Row} {k : Key} {tl : List (Addr × Obj)} {i : Nat} {ys : List Value} {r : Row} {kt : Addr} {ks : List Kt} (J : ClashInv rows k tl i ys) (h : rows[i]? = some r) (hm : (kt, tupOf (kv ks)) ∈ tl) (hc : clash1 r.1 k) : ClashInv rows k tl (i + 1) (ys ++ [.ref kt]) := by
  refine ⟨⟨fun e => by simp at e, fun q => ?_⟩, fun y hy => ?_⟩
  · exact absurd hc (q r (by rw [take_snoc h]; simp))
  · rcases List.mem_append.mp hy with hy | hy
    · exact J.2 y hy
    · exact ⟨kt, ks, List.mem_singleton.mp hy, hm⟩
theorem ClashInv.no {rows : List Row} {k : Key} {tl : List (Addr × Obj)} {i : Nat} {ys : List Value} {r : Row} (J : ClashInv rows k tl i ys) (h : rows[i]? = some r) (hc : ¬ clash1 r.1 k) : ClashInv rows k tl (i + 1) ys := by
  refine ⟨⟨fun e => ?_, fun q => ?_⟩, J.2⟩
  · rw [take_snoc h]
    intro r' hr'
    rcases List.mem_append.mp hr' with hr' | hr'
    · exact J.1.mp e r' hr'
    · rw [List.mem_singleton.mp hr']; exact hc
  · refine J.1.mpr fun r' hr' => q r' ?_
    rw [take_snoc h]
    exact List.mem_append_left _ hr'
section
variable {prog : Program} {w : World} {A : Around} {E : Value → Shared → Prop} {s : Shared} {h₀ : Heap} {L : Addr} {news tl : List (Addr × Obj)}
theorem clash_reads {h : Heap} (N : News h₀ L h news) (hs : ∀ q ∈ tl, q ∈ news) : ∀ ys : List Value, (∀ y ∈ ys, ∃ kt ks, y = Value.ref kt ∧ (kt, tupOf (kv ks)) ∈ tl) →
    ∃ ds as, ReadsAll h ys ds as ∧ PyData.canLayAll0 ds = true ∧ PyData.depthAll ds ≤ 1 ∧ (ds = [] ↔ ys = [])
  | [], _ => ⟨[], [], ReadsAll.nil, rfl, Nat.zero_le _, ⟨fun _ => rfl, fun _ => rfl⟩⟩
  | y :: r, hy => by
    obtain ⟨kt, ks, rfl, hm⟩ := hy y (.head _)
    obtain ⟨ds, as, ra, h1, h2, _⟩ := clash_reads N hs r fun z hz => hy z (.tail _ hz)
    have hl := kv_lay ks
    refine ⟨.tuple (ks.map fun p => pd p.1) :: ds, _, ReadsAll.cons (kv_read N (hs _ hm)) ra, ?_, ?_, ⟨fun e => (nomatch e), fun e => (nomatch e)⟩⟩
    · simp only [PyData.canLayAll0, PyData.canLay0, hl.1, h1, Bool.and_self]
    · simp only [PyData.depthAll, PyData.depth, hl.2]
      omega
theorem eq_clash {a b : Addr} {ys : List Value} {n k : Nat} {Q : Value → Shared → Prop} (N : News h₀ L s.heap news) (ha : (a, listOf ys.toArray k) ∈ news) (hb : (b, listOf #[] n) ∈ news) (hy : ∀ y ∈ ys, ∃ kt ks, y = Value.ref kt ∧ (kt, tupOf (kv ks)) ∈ tl) (hs : ∀ q ∈ tl, q ∈ news) (hu : A.units + 64 < cLine)
    (h1 : ys = [] → Q (.bool true) s) (h2 : ys ≠ [] → Q (.bool false) s) : wpAny (model prog w) A (compareOp .Eq (.ref a) (.ref b)) Q E s := by
  obtain ⟨ds, as, ra, l1, l2, he⟩ := clash_reads N hs ys hy
  refine eq_dataH (reads_list_at (N.get ha) rfl rfl (by simpa using ra)) (reads_list_at (N.get hb) rfl rfl ReadsAll.nil) ?_ rfl hu ?_
  · unfold SeqAt.shaped
    simp only [PyData.canLay0, PyData.depth, l1, Bool.true_and]
    exact decide_eq_true (by omega)
  · cases ds with
    | nil => exact h1 (he.mp rfl)
    | cons d ds => exact h2 fun q => by have := he.mpr q; cases this
end
theorem Apart.snoc {rows : List Row} {k : Key} {nm : Str} (h : Apart rows) (hc : ∀ r ∈ rows, ¬ clash1 r.1 k) : Apart (rows ++ [(k, nm)]) := by
  unfold Apart
  rw [List.pairwise_append]
  refine ⟨h, List.pairwise_singleton _ _, fun a ha b hb => ?_⟩
  rw [List.mem_singleton.mp hb]
  exact ⟨fun e => hc a ha (.inl e), fun e => hc a ha (.inr e)⟩
theorem RowsIn.snoc {news : List (Addr × Obj)} {vs : List Value} {rows : List Row} {v : Value} {r : Row} (h : RowsIn news vs rows) (hv : RowIn news v r) : RowsIn news (vs ++ [v]) (rows ++ [r]) := by
  refine ⟨by simp [h.1], fun i v' r' a b => ?_⟩
  by_cases hi : i < vs.length
  · rw [List.getElem?_append_left hi] at a
    rw [List.getElem?_append_left (by rw [← h.1]; exact hi)] at b
    exact h.2 i v' r' a b
  · rw [List.getElem?_append_right (Nat.le_of_not_lt hi)] at a
    rw [List.getElem?_append_right (by rw [← h.1]; exact Nat.le_of_not_lt hi), ← h.1] at b
    have hz : i - vs.length = 0 := by
      have := (List.getElem?_eq_some_iff.mp a).1
      simp at this
      omega
    rw [hz] at a b
    simp at a b
    rw [← a, ← b]
    exact hv
end Mine
namespace Mine
theorem ClashInv.all {rows : List Row} {k : Key} {tl : List (Addr × Obj)} {i : Nat} {ys : List Value} (J : ClashInv rows k tl i ys) : ∀ y ∈ ys, ∃ kt ks, y = Value.ref kt ∧ (kt, tupOf (kv ks)) ∈ tl := J.2
end Mine
namespace Mine
theorem name_ok (i : Nat) (h : i < 6) : NmOk (Str.ofString "command-" ++ Str.ofString (toString (i : Int))) := by
  have : i = 0 ∨ i = 1 ∨ i = 2 ∨ i = 3 ∨ i = 4 ∨ i = 5 := by omega
  rcases this with rfl | rfl | rfl | rfl | rfl | rfl <;> exact ⟨by decide +kernel, by decide +kernel, by decide +kernel⟩
theorem map_norm {a b : Str} {oc' ob' oc ob : Option Value} {base : Str → Option Value} : (fun y => if y = a then oc' else if y = b then ob' else if y = a then oc else if y = b then ob else base y) = (fun y => if y = a then oc' else if y = b then ob' else base y) := by
  funext y
  by_cases h1 : y = a
  · simp only [if_pos h1]
  · by_cases h2 : y = b
    · simp only [if_neg h1, if_pos h2]
    · simp only [if_neg h1, if_neg h2]
section
variable {prog : Program} {w : World} {A : Around} {E : Value → Shared → Prop} {s : Shared} {h₀ : Heap} {L : Addr} {m : Str → Option Value} {news rest : List (Addr × Obj)}
theorem append_led {D : Addr} {vs : List Value} {n : Nat} {v : Value} {Q : Value → Shared → Prop} (F : Fr h₀ L s.heap m) (N : News h₀ L s.heap news) (hR : Rem D (listOf vs.toArray n) news rest) (hsz : vs.length ≤ 1000)
    (h : ∀ h', Fr h₀ L h' m → News h₀ L h' ((D, listOf (vs ++ [v]).toArray (n + 1)) :: rest) → Q .none { s with heap := h' }) : wpAny (model prog w) A (call (.builtin "list.append") [.ref D, v]) Q E s := by
  obtain ⟨hD, hDL, hD₀⟩ := N _ hR.mem
  refine append_at (hsz := by rw [PySem.sizeLine_eq, List.size_toArray]; omega) hD fun h' hs hD' => h h' (F.change hs hDL hD₀) fun p hp => ?_
  rcases List.mem_cons.mp hp with rfl | hp
  · refine ⟨hD'.trans ?_, hDL, hD₀⟩
    simp
  · exact ⟨hs.extBut _ _ (hR.off _ hp) (N _ (hR.sub _ hp)).1, (N _ (hR.sub _ hp)).2⟩
end
end Mine
end

section
open PySem PySem.W PyProof.Rows PyProof.V
set_option Elab.async false
namespace Mine
theorem abs_nonneg (xs : List Int) : ∀ c ∈ (xs.map fun k' => if k' < 0 then -k' else k'), 0 ≤ c := fun c hc => by
  obtain ⟨x, _, rfl⟩ := List.mem_map.mp hc
  show 0 ≤ if x < 0 then -x else x
  split <;> omega
theorem abs_len (xs : List Int) : ((xs.take 63).map fun k' => if k' < 0 then -k' else k').length ≤ 63 := by
  rw [List.length_map, List.length_take]
  omega
/-! the two look-ups agree -/
theorem lk1_mem {k : Key} {nm : Str} : ∀ {rows : List Row}, lk1 rows k = some nm → ∃ r ∈ rows, r.1 = k
  | [], e => by cases e
  | (own, n) :: r, e => by
    unfold lk1 at e
    by_cases h : own = k
    · exact ⟨_, .head _, h⟩
    · rw [if_neg h] at e
      obtain ⟨q, hq, e'⟩ := lk1_mem e
      exact ⟨q, .tail _ hq, e'⟩
theorem lk_look : ∀ {rows : List Row}, Apart rows → ∀ k, lk rows k = look rows k
  | [], _, k => rfl
  | (own, nm) :: r, hap, k => by
    obtain ⟨h1, h2⟩ := List.pairwise_cons.mp hap
    have ih := lk_look (rows := r) h2 k
    unfold look
    by_cases h : own = k
    · rw [if_pos h]
      unfold lk lk1
      rw [if_pos h]
    · rw [if_neg h]
      by_cases hp : own.take k.length = k
      · rw [if_pos hp]
        unfold lk lk1
        rw [if_neg h]
        have e : lk1 r k = none := by
          cases q : lk1 r k with
          | none => rfl
          | some n =>
            obtain ⟨p, hp', e'⟩ := lk1_mem q
            exact absurd (by rw [e']; exact hp) (h1 p hp').1
        rw [e]
        dsimp only
        unfold lk2
        rw [if_pos hp]
        rfl
      · rw [if_neg hp, ← ih]
        have e1 : lk1 ((own, nm) :: r) k = lk1 r k := by rw [lk1, if_neg h]
        have e2 : lk2 ((own, nm) :: r) k = lk2 r k := by rw [lk2, if_neg hp]
        unfold lk
        rw [e1, e2]
end Mine
end

section
open PySem PySem.W PyProof.Rows PyProof.V
set_option Elab.async false
namespace Mine
/-! what the reader tells, over the law's own look-up -/
section
variable {rows : List Row} {ks : List Kt} {e p : Fin 9} {t u : Tok} {nm : Str}
theorem pushL_more (hap : Apart rows) (h : look rows (evs (ks ++ [(e, t)])) = .more) : pushF rows (evs ks) e = ("more", evs (ks ++ [(e, t)]), none, false, evs (ks ++ [(e, t)])) := pushF_more (by rw [lk_look hap]; exact h)
theorem pushL_cmd (hap : Apart rows) (h : look rows (evs (ks ++ [(e, t)])) = .cmd nm) : pushF rows (evs ks) e = ("command", evs (ks ++ [(e, t)]), some nm, false, evs []) := pushF_cmd (by rw [lk_look hap]; exact h)
theorem pushL_no (hap : Apart rows) (h : look rows (evs (ks ++ [(e, t)])) = .none) (h2 : plain e = none) : pushF rows (evs ks) e = ("undefined", evs (ks ++ [(e, t)]), none, false, evs []) := pushF_no (by rw [lk_look hap]; exact h) h2
theorem pushL_pmore (hap : Apart rows) (h : look rows (evs (ks ++ [(e, t)])) = .none) (h2 : plain e = some p) (h3 : look rows (evs (ks ++ [(p, u)])) = .more) : pushF rows (evs ks) e = ("more", evs (ks ++ [(p, u)]), none, true, evs (ks ++ [(p, u)])) :=
  pushF_pmore (by rw [lk_look hap]; exact h) h2 (by rw [lk_look hap]; exact h3)
theorem pushL_pcmd (hap : Apart rows) (h : look rows (evs (ks ++ [(e, t)])) = .none) (h2 : plain e = some p) (h3 : look rows (evs (ks ++ [(p, u)])) = .cmd nm) : pushF rows (evs ks) e = ("command", evs (ks ++ [(p, u)]), some nm, true, evs []) :=
  pushF_pcmd (by rw [lk_look hap]; exact h) h2 (by rw [lk_look hap]; exact h3)
theorem pushL_pno (hap : Apart rows) (h : look rows (evs (ks ++ [(e, t)])) = .none) (h2 : plain e = some p) (h3 : look rows (evs (ks ++ [(p, u)])) = .none) : pushF rows (evs ks) e = ("undefined", evs (ks ++ [(e, t)]), none, false, evs []) :=
  pushF_pno (by rw [lk_look hap]; exact h) h2 (by rw [lk_look hap]; exact h3)
end
theorem an_nm {a : Ans} (h : a = .none) (h' : a = .more) : False := by rw [h] at h'; cases h'
theorem an_nc {a : Ans} {nm : Str} (h : a = .none) (h' : a = .cmd nm) : False := by rw [h] at h'; cases h'
theorem an_mc {a : Ans} {nm : Str} (h : a = .more) (h' : a = .cmd nm) : False := by rw [h] at h'; cases h'
section
variable {prog : Program} {w : World} {A : Around} {E : Value → Shared → Prop} {s : Shared} {h₀ : Heap} {L : Addr} {m : Str → Option Value} {news : List (Addr × Obj)}
def bdP (o : Option Str) : PyData := match o with
  | none => .none
  | some nm => .str nm
theorem bd_reads {h : Heap} {o : Option Str} {v : Value} (b : BdIs o v) : Reads h v (bdP o) [] := by
  unfold BdIs at b
  cases o with
  | none => dsimp only at b; subst b; exact Reads.none
  | some nm => obtain ⟨t, rfl⟩ := b; exact Reads.str _ _
/-- what was told and what is due are the same -/
theorem ne_due {a b tt kt : Addr} {n k : Nat} {kst ks2 : List Kt} {wd wd2 : String} {w2 : Str} {tw t2 : Tok} {bd bd2 : Value} {sh sh2 : Bool} {rows : List Row} {K K2' : Key} {K' K2 : Key} {e : Fin 9} {ob ob2 : Option Str} {Q : Value → Shared → Prop}
    (N : News h₀ L s.heap news) (ha : (a, listOf #[.str (Str.ofString wd) tw, .ref tt, bd, .bool sh] n) ∈ news) (hb : (b, listOf #[.str w2 t2, .ref kt, bd2, .bool sh2] k) ∈ news)
    (htt : (tt, tupOf (kv kst)) ∈ news) (hkt : (kt, tupOf (kv ks2)) ∈ news) (pf : pushF rows K e = (wd, evs kst, ob, sh, K')) (hK : K = K2') (bi : BdIs ob bd) (pq : pushF rows K2' e = (wd2, evs ks2, ob2, sh2, K2)) (hw : w2 = Str.ofString wd2) (bi2 : BdIs ob2 bd2)
    (hso : PyData.strOk (Str.ofString wd2) = true) (hbo : (bdP ob2).canLay0 = true ∧ (bdP ob2).depth = 0) (hu : A.units + 64 < cLine)
    (h : K' = K2 → Q (.bool false) s) : wpAny (model prog w) A (compareOp .NotEq (.ref a) (.ref b)) Q E s := by
  subst hK
  rw [pf] at pq
  simp only [Prod.mk.injEq] at pq
  obtain ⟨rfl, hev, rfl, rfl, rfl⟩ := pq
  subst hw
  have hd : (kst.map fun p => pd p.1) = ks2.map fun p => pd p.1 := by
    have := congrArg (List.map pd) hev
    simpa [evs, List.map_map, Function.comp_def] using this
  have r1 : Reads s.heap (.ref a) (.list [.str (Str.ofString wd), .tuple (ks2.map fun p => pd p.1), bdP ob, .bool sh]) _ :=
    reads_list_at (N.get ha) rfl rfl (ReadsAll.cons (Reads.str _ _) (ReadsAll.cons (hd ▸ kv_read N htt) (ReadsAll.cons (bd_reads bi) (ReadsAll.cons (Reads.bool _) ReadsAll.nil))))
  have r2 : Reads s.heap (.ref b) (.list [.str (Str.ofString wd), .tuple (ks2.map fun p => pd p.1), bdP ob, .bool sh]) _ :=
    reads_list_at (N.get hb) rfl rfl (ReadsAll.cons (Reads.str _ _) (ReadsAll.cons (kv_read N hkt) (ReadsAll.cons (bd_reads bi2) (ReadsAll.cons (Reads.bool _) ReadsAll.nil))))
  have hl := kv_lay ks2
  have hsh : SeqAt.shaped (.list [.str (Str.ofString wd), .tuple (ks2.map fun p => pd p.1), bdP ob, .bool sh]) = true := by
    unfold SeqAt.shaped
    simp only [PyData.canLay0, PyData.canLayAll0, PyData.depth, PyData.depthAll, hl.1, hl.2, hbo.1, hbo.2, hso, Bool.and_true, Bool.true_and]
    rfl
  have hc : PyData.canLay0 (.list [.str (Str.ofString wd), .tuple (ks2.map fun p => pd p.1), bdP ob, .bool sh]) = true := SeqAt.canLay_of_shaped hsh
  refine ne_dataH r1 r2 hsh hsh hu ?_
  rw [SeqAt.eqv_refl _ hc]
  exact h rfl
/-- the reader's keys against [] -/
theorem ne_kl_cons {a b : Addr} {ks xs : List Kt} {y : Kt} {n k : Nat} {Q : Value → Shared → Prop} (N : News h₀ L s.heap news) (ha : (a, listOf (kv ks).toArray n) ∈ news) (hb : (b, listOf #[] k) ∈ news) (he : evs ks = evs (xs ++ [y])) (hu : A.units + 64 < cLine)
    (h : Q (.bool true) s) : wpAny (model prog w) A (compareOp .NotEq (.ref a) (.ref b)) Q E s := by
  have hl := kv_lay ks
  refine ne_dataH (reads_list_at (xs := ks.map fun p => pd p.1) (N.get ha) rfl rfl (by simpa using kv_reads s.heap ks)) (reads_list_at (N.get hb) rfl rfl ReadsAll.nil) ?_ rfl hu ?_
  · unfold SeqAt.shaped
    simp only [PyData.canLay0, PyData.depth, hl.1, hl.2]
    rfl
  · cases ks with
    | nil => simp at he
    | cons p r => exact h
theorem ne_kl_nil {a b : Addr} {ks : List Kt} {n k : Nat} {Q : Value → Shared → Prop} (N : News h₀ L s.heap news) (ha : (a, listOf (kv ks).toArray n) ∈ news) (hb : (b, listOf #[] k) ∈ news) (he : evs ks = evs []) (hu : A.units + 64 < cLine)
    (h : Q (.bool false) s) : wpAny (model prog w) A (compareOp .NotEq (.ref a) (.ref b)) Q E s := by
  cases ks with
  | nil => exact ne_dataH (reads_list_at (xs := []) (N.get ha) rfl rfl ReadsAll.nil) (reads_list_at (N.get hb) rfl rfl ReadsAll.nil) rfl rfl hu h
  | cons p r => simp at he
/-- a key against () -/
theorem ne_tup_cons {a b : Addr} {xs : List Kt} {y : Kt} {Q : Value → Shared → Prop} (N : News h₀ L s.heap news) (ha : (a, tupOf (kv (xs ++ [y]))) ∈ news) (hb : (b, tupOf []) ∈ news) (hu : A.units + 64 < cLine)
    (h : Q (.bool true) s) : wpAny (model prog w) A (compareOp .NotEq (.ref a) (.ref b)) Q E s :=
  ne_keys (ys := []) N ha hb hu (by
    have : decide (evs (xs ++ [y]) = evs []) = false := decide_eq_false (by simp)
    rw [this]; exact h)
theorem ne_tup_nil {a b : Addr} {Q : Value → Shared → Prop} (N : News h₀ L s.heap news) (ha : (a, tupOf []) ∈ news) (hb : (b, tupOf []) ∈ news) (hu : A.units + 64 < cLine)
    (h : Q (.bool false) s) : wpAny (model prog w) A (compareOp .NotEq (.ref a) (.ref b)) Q E s :=
  ne_keys (xs := []) (ys := []) N ha hb hu h
/-- a key and one event more, as a tuple -/
theorem add_tup {a b dk dd lc fk kl : Addr} {ks : List Kt} {e : Fin 9} {t tk t1 t2 : Tok} {k : Int} {w' : World} {Q : Value → Shared → Prop} (F : Fr h₀ L s.heap m) (N : News h₀ L s.heap news) (ha : (a, tupOf (kv ks)) ∈ news) (hb : (b, tupOf [ev e t]) ∈ news) (hsz : ks.length ≤ 900)
    (hdk : (dk, deckObj lc k tk) ∈ news) (hdd : (dd, rdDict w' t1 t2 fk kl 2) ∈ news)
    (h : ∀ D h', Fr h₀ L h' m → News h₀ L h' ((D, tupOf (kv (ks ++ [(e, t)]))) :: news) → @Ne Nat D dk → @Ne Nat D dd → (@Eq Nat D b ∨ AllLt D news) → Q (.ref D) { s with heap := h' }) : wpAny (model prog w) A (binaryOp .Add (.ref a) (.ref b)) Q E s := by
  have fin : ∀ D h', Fr h₀ L h' m → News h₀ L h' ((D, tupOf (kv (ks ++ [(e, t)]))) :: news) → (@Eq Nat D b ∨ AllLt D news) → Q (.ref D) { s with heap := h' } := fun D h' F' N' hd => by
    have hD := (N' _ (.head _)).1
    refine h D h' F' N' (fun q => ?_) (fun q => ?_) hd
    · have := (N' _ (.tail _ hdk)).1
      dsimp only at this hD
      rw [← q, hD] at this
      have e1 := congrArg Obj.cls (Option.some.inj this)
      revert e1
      show Value.type "tuple" = Value.type "list" → False
      decide
    · have := (N' _ (.tail _ hdd)).1
      dsimp only at this hD
      rw [← q, hD] at this
      have e1 := congrArg Obj.cls (Option.some.inj this)
      revert e1
      show Value.type "tuple" = Value.type "dict" → False
      decide
  refine add_tuples (vs := kv ks) (ws := [ev e t]) F N (N.isTup ha) (N.isTup hb) (fun q => ?_) (fun _ q => by cases q) (fun _ _ h' F' N' => ?_) (by rw [PySem.sizeLine_eq]; simp; omega)
  · have hk : ks = [] := by cases ks with
      | nil => rfl
      | cons _ _ => simp at q
    subst hk
    refine fin b s.heap F (fun p hp => ?_) (.inl rfl)
    rcases List.mem_cons.mp hp with rfl | hp
    · exact N _ hb
    · exact N _ hp
  · refine fin _ h' F' ?_ (.inr (allLt_of fun p hp => Heap.lt_size (N p hp).1))
    have e1 : kv ks ++ [ev e t] = kv (ks ++ [(e, t)]) := by simp
    rw [← e1]
    exact N'
end
theorem law_map {m' : Str → Option Value} {a r l d : Addr} (h1 : m' (Str.ofString "ahead") = some (.ref a)) (h2 : m' (Str.ofString "reader") = some (.ref r)) (h3 : m' (Str.ofString "listing") = some (.ref l)) (h4 : m' (Str.ofString "deck") = some (.ref d)) :
    m' = fun y => if y = Str.ofString "ahead" then some (.ref a) else if y = Str.ofString "reader" then some (.ref r) else if y = Str.ofString "listing" then some (.ref l) else if y = Str.ofString "deck" then some (.ref d) else m' y := by
  funext y
  by_cases e1 : y = Str.ofString "ahead"
  · rw [if_pos e1, e1, h1]
  · rw [if_neg e1]
    by_cases e2 : y = Str.ofString "reader"
    · rw [if_pos e2, e2, h2]
    · rw [if_neg e2]
      by_cases e3 : y = Str.ofString "listing"
      · rw [if_pos e3, e3, h3]
      · rw [if_neg e3]
        by_cases e4 : y = Str.ofString "deck"
        · rw [if_pos e4, e4, h4]
        · rw [if_neg e4]
/-- what holds between two turns of the law's loop -/
def LawInv (w : World) (lc dk dd rd fk fd lst : Addr) (t1 t2 tf : Tok) (k : Int) (rest : List (Addr × Obj)) (i : Nat) (m : Str → Option Value) (nx : List (Addr × Obj)) : Prop :=
  ∃ (k' : Int) (tk : Tok) (kl : Addr) (kn : Nat) (ks as : List Kt) (at' : Addr) (g : Str → Option Value),
    nx = (dk, deckObj lc k' tk) :: (dd, rdDict w t1 t2 fk kl 2) :: (at', tupOf (kv as)) :: (kl, listOf (kv ks).toArray kn) :: (rd, instObj 94 dd) :: (fk, instObj 122 fd) :: (fd, fkDict w tf lst) :: rest ∧
    (m = fun y => if y = Str.ofString "ahead" then some (.ref at') else if y = Str.ofString "reader" then some (.ref rd) else if y = Str.ofString "listing" then some (.ref lst) else if y = Str.ofString "deck" then some (.ref dk) else g y) ∧
    evs ks = evs as ∧ ks.length ≤ i ∧ as.length ≤ i ∧ @Ne Nat at' dk ∧ @Ne Nat at' dd ∧ @Ne Nat kl dk ∧ @Ne Nat kl dd ∧ 0 ≤ k' ∧ k' ≤ k + 2 * (i : Int)
end Mine
namespace Mine
theorem bd_handed {o : Option Str} {v : Value} (b : BdIs o v) : handedIn v = true := by
  unfold BdIs at b
  cases o with
  | none => dsimp only at b; subst b; rfl
  | some nm => obtain ⟨t, rfl⟩ := b; rfl
end Mine
namespace Mine
section
variable {prog : Program} {w : World} {A : Around} {E : Value → Shared → Prop} {s : Shared} {h₀ : Heap} {L : Addr} {m : Str → Option Value} {news : List (Addr × Obj)}
theorem newList_led {vs : List Value} {Q : Value → Shared → Prop} (F : Fr h₀ L s.heap m) (N : News h₀ L s.heap news) (hsz : vs.length ≤ 1000)
    (h : ∀ D h', Fr h₀ L h' m → News h₀ L h' ((D, listOf vs.toArray 0) :: news) → (∀ p ∈ news, p.1 < D) → Q (.ref D) { s with heap := h' }) : wpAny (model prog w) A (newList vs) Q E s :=
  newList_N F N (fun h' F' N' => h _ h' F' N' fun p hp => Heap.lt_size (N p hp).1) (by rw [PySem.sizeLine_eq]; omega)
theorem newTuple_led {vs : List Value} {Q : Value → Shared → Prop} (F : Fr h₀ L s.heap m) (N : News h₀ L s.heap news) (hsz : vs.length ≤ 1000)
    (h : ∀ D h', Fr h₀ L h' m → News h₀ L h' ((D, tupOf vs) :: news) → (∀ p ∈ news, p.1 < D) → Q (.ref D) { s with heap := h' }) : wpAny (model prog w) A (newTuple vs) Q E s :=
  newTuple_N F N (fun h' F' N' => h _ h' F' N' fun p hp => Heap.lt_size (N p hp).1) (by rw [PySem.sizeLine_eq]; omega)
end
end Mine
namespace Mine
theorem toN {a b : Nat} (h : @LT.lt Nat _ a b) : @LT.lt Nat _ a b := h
end Mine
end

section
open PySem PySem.W PyProof.Rows PyProof.V
set_option Elab.async false
namespace Mine
set_option compiler.extract_closed false
local macro_rules | `(tactic| k_ne) => `(tactic| first | assumption | (refine Ne.symm ?_; assumption))
local macro_rules | `(tactic| k_room) => `(tactic| ((try simp only [depth_under_make, depth_under_kw, depth_in1, depth_deeper, depth_caller]); (try dsimp only [Ar]); (try unfold recursionLimit); omega))
local macro_rules | `(tactic| k_units) => `(tactic| ((try simp only [units_in1, units_deeper, Around.mark_units, units_caller]); (try dsimp only [Ar]); (try unfold cLine); omega))
local macro_rules | `(tactic| ke_room) => `(tactic| ((try simp only [units_in1, units_deeper, Around.mark_units, units_caller]); (try dsimp only [Ar]); (try unfold cLine); omega))
local macro_rules | `(tactic| k_mem) => `(tactic| assumption)
local macro_rules | `(tactic| k_all) => `(tactic| assumption)
local macro_rules | `(tactic| walk_at "m code") => `(tactic| (refine' code_def ?k1 ?k2 ?k3 ?k4 ?k5 ?kA ?kF ?kK ?k6 ?k7 ?k8 ?k9 ?kB ?_ ?c2 ?c3 ?c4 ?c5; (case kA => exact rfl); (case kF => assumption); (case kK => assumption); (case k1 => k_asm); (case k2 => k_asm); (case k3 => k_asm); (case k4 => k_asm); (case k5 => k_asm); (case k6 => k_is); (case k7 => k_is); (case k8 => k_room); (case k9 => first | exact BindsTo.of_eq rfl | exact binds_K (by k_in) rfl (by k_is) rfl rfl rfl | fail "k_enter: no rule for these arguments"); (case c5 => decide); (case kB => exact locs rfl); (case c2 => exact rfl); (case c3 => exact rfl); (case c4 => exact rfl); k_whole; intro g' L' h' FG' F' N' B' X' T'; (try dsimp only); (try k_lift B')))
local macro_rules | `(tactic| walk_at "m enter") => `(tactic| (refine wpAny_call ?_; walk_at "m code"))
local macro_rules | `(tactic| walk_at "go") => `(tactic| repeat' (first | (k_unfold; (try dsimp only)) | (walk1; (all_goals (try dsimp only))) | (dsimp only; walk1)))
local macro_rules | `(tactic| walk_at "exec For Tuple") => `(tactic| (k_here; (with_reducible show wpAny _ _ (exec (Stmt.For (Expr.Tuple [Expr.Name _ _, Expr.Name _ _] _ _) _ _ [] _) _) _ _ _); (with_reducible rename Fr _ _ _ _ => lF'); (with_unfolding_all refine' For_pairs lF' (by rfl) (by rfl) (by rfl) (by rfl) ?_; k_whole)))
local macro_rules | `(tactic| walk_at "compareOp Eq ref ref") => `(tactic| (k_here; (with_reducible show wpAny _ _ (compareOp CmpOp.Eq (Value.ref _) (Value.ref _)) _ _ _); k_dflt (refine' eq_keys (by k_asm) (by k_mem) (by k_mem) (by ke_room) ?_)))
local macro_rules | `(tactic| walk_at "subscriptTail Name Slice ref ref") => `(tactic| (k_here; (with_reducible show wpAny _ _ (subscriptTail _ (Expr.Slice none (some _) none _) _ _) _ _ _); (with_reducible rename Fr _ _ _ _ => F'); (with_reducible rename News _ _ _ _ => N'); (k_dflt (refine' slice_key (s := ⟨_, _, _, _, _⟩) F' N' (by k_mem) (by rfl) (by first | assumption | omega) ?_)); intro r' h' F' N'; (try k_sweep)))
local macro_rules | `(tactic| walk_at "call builtin:len") => `(tactic| (k_here; (with_reducible show wpAny _ _ (call (Value.builtin "len") [Value.ref _]) _ _ _); k_dflt (refine' len_key (by k_asm) (by k_mem) (by first | assumption | omega) ?_)))
local macro_rules | `(tactic| walk_at "led") => `(tactic| first | assumption | exact news_tail (by assumption) | exact news_tail (news_tail (by assumption)) | exact news_tail (news_tail (news_tail (by assumption))) | exact news_tail (news_tail (news_tail (news_tail (by assumption)))))
local macro_rules | `(tactic| walk_at "PairPost") => `(tactic| ((with_reducible show PairPost _ _ _ _ _ _ _ (Flow.ret _) _); dsimp only [PairPost]))
local macro_rules | `(tactic| walk_at "PairPost") => `(tactic| ((with_reducible show PairPost _ _ _ _ _ _ _ Flow.next _); with_unfolding_all refine' PairPost.intro (by assumption) (by walk_at "led") ?_))
local macro_rules | `(tactic| walk_at "call type:tuple") => `(tactic| (k_here; (with_reducible show wpAny _ _ (call (Value.type _) [Value.ref _]) _ _ _); k_dflt (refine' tuple_of_key (by k_asm) (by k_asm) (by k_mem) (by first | assumption | omega | (simp only [List.length_append, List.length_cons, List.length_nil]; omega)) ?_); k_whole; intro D' h' F' N' l1; (try k_lt l1); (try k_sweep)))
local macro_rules | `(tactic| walk_at "rows") => `(tactic| first | assumption | exact RowsIn.mono (by assumption) (by walk_at "subs"))
local macro_rules | `(tactic| walk_at "subs") => `(tactic| first | exact fun _ h => h | ((refine' subs_cons (by walk_at "subs"))))
local macro_rules | `(tactic| walk_at "compareOp Eq str str") => `(tactic| (k_here; k_dflt (refine' eq_str_ne (by assumption) ?_)))
local macro_rules | `(tactic| walk_at "sub") => `(tactic| first | exact fun _ h => h | exact List.forall_mem_nil _ | ((refine' List.forall_mem_cons.mpr ⟨(by k_mem), (by walk_at "sub")⟩)) | walk_at "subs")
local macro_rules | `(tactic| walk_at "m codeC") => `(tactic| (refine' code_defC ?k1 ?k2 ?k3 ?k4 ?k5 ?kA ?kF ?kK ?k6 ?k7 ?k8 ?k9 ?kB ?kD ?_ ?c2 ?c3 ?c4; (case kA => exact rfl); (case kF => assumption); (case kK => assumption); (case k1 => k_asm); (case k2 => k_asm); (case k3 => k_asm); (case k4 => k_asm); (case k5 => k_asm); (case k6 => k_is); (case k7 => k_is); (case k8 => k_room); (case k9 => first | exact BindsTo.of_eq rfl | exact binds_K (by k_in) rfl (by k_is) rfl rfl rfl | fail "k_enter: no rule for these arguments"); (case kB => exact rfl); (case kD => decide +kernel); (case c2 => exact rfl); (case c3 => exact rfl); (case c4 => exact rfl); k_whole; intro g' L' h' tk' cells' FG' F' N' Y' B' X' T' l1; (try k_lt l1); k_cells Y'; (try simp only [List.cons_append, List.nil_append] at N'); (try dsimp only); (try k_lift B')))
local macro_rules | `(tactic| walk_at "lts") => `(tactic| first | assumption | exact and2 (by assumption) | exact and22 (by assumption) | exact and33 (by assumption) | exact and44 (by assumption) | exact and55 (by assumption) | exact and66 (by assumption) | exact and77 (by assumption))

section
set_option maxRecDepth 100000 in
set_option maxHeartbeats 8000000 in
theorem draw_ok {w : World} {A₀ : Around} {d : Nat} {env : Env} {outer : List Env} {gs : Option (List Code)} {u : Nat} {base h₀ : Heap} {L : Addr} {m mg mb : Str → Option Value} {p : Program} {loose : List Str} {mean : ExcName → Option Value}
   {Q E : Value → Shared → Prop} {s : Shared} {D lc : Addr} {k : Int} {t : Tok} {ys : List Value} {cells : List Int} {many : Int} {mt : Tok} {news rest : List (Addr × Obj)}
   (hdp : d ≤ 400) (hf : env.frame = some L) (hke : env.scope.kind = .function)
   (B : Below A₀ base outer h₀) (F : Fr h₀ L s.heap m) (X₀ : (hd.heap_39 w.params).In h₀) (N : News h₀ L s.heap news) (T : Top p loose mean mg mb h₀)
   (hR : Rem D (deckObj lc k t) news rest) (hl : (lc, LCg.lst ys) ∈ rest) (hI : IntsAre ys cells) (hc : ∀ c ∈ cells, 0 ≤ c) (hn : cells.length ≤ 63)
   (hk0 : 0 ≤ k) (hk1 : k ≤ 1000) (hm0 : 0 < many) (hm1 : many ≤ 20)
   (h : ∀ h' tk r t1 t2, 0 ≤ r → r < many → Fr h₀ L h' m → News h₀ L h' ((D, deckObj lc (k + 1) t2) :: rest) → Q (.int r t1) { s with heap := h', toks := tk }) :
   wpAny (model Challenge.rw_np0007_01.row.prog w) (Ar d env outer gs u) (call (.ref 133) [.ref D, .int many mt]) Q E s := by

  have N1 : News h₀ L s.heap ((D, deckObj lc k t) :: (lc, LCg.lst ys) :: rest) := fun q hq => by
    rcases List.mem_cons.mp hq with rfl | hq
    · exact N _ hR.mem
    · rcases List.mem_cons.mp hq with rfl | hq
      · exact N _ (hR.sub _ hl)
      · exact N _ (hR.sub _ hq)
  have o1 : lc ≠ D := hR.off _ hl
  have o2 : ∀ p ∈ rest, p.1 ≠ D := hR.off
  clear N
  walk_at "m enter"
  k_fold
  k_steps
  · exact h _ _ _ _ _ (Int.fmod_nonneg_of_pos _ hm0) (Int.fmod_lt_of_pos _ hm0) (by assumption) (news_drop2 (by assumption))
  · exact h _ _ _ _ _ (Int.fmod_nonneg_of_pos _ hm0) (Int.fmod_lt_of_pos _ hm0) (by assumption) (news_drop2 (by assumption))
end

section
theorem menu_is (t0 t1 t2 t3 t4 t5 t6 t7 t8 : Tok) : IsMenu [ev 0 t0, ev 1 t1, ev 2 t2, ev 3 t3, ev 4 t4, ev 5 t5, ev 6 t6, ev 7 t7, ev 8 t8] := by
  refine ⟨rfl, ?_⟩
  intro i v h
  match i, h with
  | 0, h => exact ⟨0, t0, (Option.some.inj h).symm⟩
  | 1, h => exact ⟨1, t1, (Option.some.inj h).symm⟩
  | 2, h => exact ⟨2, t2, (Option.some.inj h).symm⟩
  | 3, h => exact ⟨3, t3, (Option.some.inj h).symm⟩
  | 4, h => exact ⟨4, t4, (Option.some.inj h).symm⟩
  | 5, h => exact ⟨5, t5, (Option.some.inj h).symm⟩
  | 6, h => exact ⟨6, t6, (Option.some.inj h).symm⟩
  | 7, h => exact ⟨7, t7, (Option.some.inj h).symm⟩
  | 8, h => exact ⟨8, t8, (Option.some.inj h).symm⟩
  | n + 9, h => simp at h

set_option maxRecDepth 100000 in
set_option maxHeartbeats 8000000 in
theorem events_ok {w : World} {A₀ : Around} {d : Nat} {env : Env} {outer : List Env} {gs : Option (List Code)} {u : Nat} {base h₀ : Heap} {L : Addr} {m mg mb : Str → Option Value} {p : Program} {loose : List Str} {mean : ExcName → Option Value}
   {Q E : Value → Shared → Prop} {s : Shared} {news : List (Addr × Obj)}
   (hdp : d ≤ 400) (hf : env.frame = some L) (hke : env.scope.kind = .function)
   (B : Below A₀ base outer h₀) (F : Fr h₀ L s.heap m) (X₀ : (hd.heap_39 w.params).In h₀) (N : News h₀ L s.heap news) (T : Top p loose mean mg mb h₀)
   (h : ∀ h' tk l vs, IsMenu vs → (∀ q ∈ news, q.1 < l) → Fr h₀ L h' m → News h₀ L h' ((l, listOf vs.toArray 0) :: news) → Q (.ref l) { s with heap := h', toks := tk }) :
   wpAny (model Challenge.rw_np0007_01.row.prog w) (Ar d env outer gs u) (call (.ref 140) []) Q E s := by
  walk_at "m enter"
  k_fold
  k_steps
  exact h _ _ _ _ (menu_is _ _ _ _ _ _ _ _ _) (by assumption) (by assumption) (by assumption)
end

section
local macro_rules | `(tactic| walk_at "eval Dict") => `(tactic| (k_here; (with_unfolding_all refine' Dict_made (knd := mixKind _ _) ?F ?a ?b ?c ?d ?_); (case F => k_asm); (case a => rfl); (case b => rfl); (case c => exact List.cons_ne_nil _ _); (case d => decide); intro FD'))
local macro_rules | `(tactic| walk_at "Exists") => `(tactic| ((with_reducible show ∃ kvs, Carries _ _ kvs ∧ _); with_unfolding_all refine' known_made ?F ?N ?b ?_; (case F => k_asm); (case N => k_asm); (case b => exact Top.nolimit (by k_asm)); intro h' o' F' N' lo' hd'; (try dsimp only at hd'); (try k_sweep)))
local macro_rules | `(tactic| walk_at "getMethod ref") => `(tactic| (k_here; (with_reducible show wpAny _ _ (getMethod (Value.ref _) (Str.ofString "get") _) _ _ _); k_dflt (refine kdg_method (knd := mixKind _ _) (by k_asm) (by k_mem) (by k_asm) ?_)))
local macro_rules | `(tactic| walk_at "call builtin:dict.get") => `(tactic| (k_here; k_dflt (refine kdg_get2 (knd := mixKind _ _) (by k_asm) (by k_mem) (by k_asm) (by k_asm) (ek_is _ _ _ _) _ rfl ?_)))
set_option maxRecDepth 100000 in
set_option maxHeartbeats 8000000 in
theorem plain_ok {w : World} {A₀ : Around} {d : Nat} {env : Env} {outer : List Env} {gs : Option (List Code)} {u : Nat} {base h₀ : Heap} {L : Addr} {m mg mb : Str → Option Value} {p : Program} {loose : List Str} {mean : ExcName → Option Value}
   {Q E : Value → Shared → Prop} {s : Shared} {news : List (Addr × Obj)}
   (hdp : d ≤ 400) (hf : env.frame = some L) (hke : env.scope.kind = .function)
   (B : Below A₀ base outer h₀) (F : Fr h₀ L s.heap m) (X₀ : (hd.heap_39 w.params).In h₀) (N : News h₀ L s.heap news) (T : Top p loose mean mg mb h₀) (e : Fin 9) (t : Tok)
   (h : ∀ h' tk v, PlainIs e v → Fr h₀ L h' m → News h₀ L h' news → Q v { s with heap := h', toks := tk }) :
   wpAny (model Challenge.rw_np0007_01.row.prog w) (Ar d env outer gs u) (call (.ref 147) [ev e t]) Q E s := by
  walk_at "m enter"
  k_fold
  k_steps
  exact h _ _ _ (known_is _ _ _ _ _) (by assumption) (news_tail (by assumption))
end

section
section
variable {prog : Program} {w : World} {A : Around} {E : Value → Shared → Prop} {s : Shared} {h₀ : Heap} {L : Addr} {m : Str → Option Value} {news : List (Addr × Obj)} {value slice : PySem.Expr} {Q : Value → Shared → Prop} {x : Str} {t : Tok}
theorem eq_lit (y : Str) {x : Str} (h : decide (x = y) = true) : x = y := of_decide_eq_true h
theorem in_lit (b : Bool) {y : Str} {u : Tok} (e : (!(Builtin.Str.occurrences x y 0 x.length 1).isEmpty) = b) (h : Q (.bool b) s) : wpAny (model prog w) A (compareOp .In (.str y u) (.str x t)) Q E s := PyProof.Rows.in_str (by rw [e]; exact h)
theorem slice_lit_ss (y : Str) {i j : Int} {ui uj : Tok} (e : Txt.slice x (some i) (some j) = y) (hF : Fr h₀ L s.heap m) (hN : News h₀ L s.heap news) (h : ∀ h' t' k, Fr h₀ L h' m → News h₀ L h' news → Q (.str y t') { s with heap := h', toks := k })
    (hs : subscripted slice false (.str x t) (.ref s.heap.objs.size) = operate [.ref s.heap.objs.size, .str x t] (getItem (.str x t) (.ref s.heap.objs.size)) := by with_unfolding_all rfl)
    (ht : ∀ r, letTemporaryGo value (.str x t) r = pure () := by intro _; with_unfolding_all rfl) (hsz : x.length ≤ sizeLine := by size_fits) :
    wpAny (model prog w) A (subscriptTail value slice (.str x t) (.ref s.heap.objs.size)) Q E { s with heap := s.heap.push { cls := .type "slice", data := .fields #[.int i ui, .int j uj, .none] } } :=
  slice_strN_ss hF hN (by rw [e]; exact h) hs ht hsz
theorem slice_lit_ns (y : Str) {j : Int} {uj : Tok} (e : Txt.slice x none (some j) = y) (hF : Fr h₀ L s.heap m) (hN : News h₀ L s.heap news) (h : ∀ h' t' k, Fr h₀ L h' m → News h₀ L h' news → Q (.str y t') { s with heap := h', toks := k })
    (hs : subscripted slice false (.str x t) (.ref s.heap.objs.size) = operate [.ref s.heap.objs.size, .str x t] (getItem (.str x t) (.ref s.heap.objs.size)) := by with_unfolding_all rfl)
    (ht : ∀ r, letTemporaryGo value (.str x t) r = pure () := by intro _; with_unfolding_all rfl) (hsz : x.length ≤ sizeLine := by size_fits) :
    wpAny (model prog w) A (subscriptTail value slice (.str x t) (.ref s.heap.objs.size)) Q E { s with heap := s.heap.push { cls := .type "slice", data := .fields #[.none, .int j uj, .none] } } :=
  slice_strN_ns hF hN (by rw [e]; exact h) hs ht hsz
theorem slice_lit_sn (y : Str) {i : Int} {ui : Tok} (e : Txt.slice x (some i) none = y) (hF : Fr h₀ L s.heap m) (hN : News h₀ L s.heap news) (h : ∀ h' t' k, Fr h₀ L h' m → News h₀ L h' news → Q (.str y t') { s with heap := h', toks := k })
    (hs : subscripted slice false (.str x t) (.ref s.heap.objs.size) = operate [.ref s.heap.objs.size, .str x t] (getItem (.str x t) (.ref s.heap.objs.size)) := by with_unfolding_all rfl)
    (ht : ∀ r, letTemporaryGo value (.str x t) r = pure () := by intro _; with_unfolding_all rfl) (hsz : x.length ≤ sizeLine := by size_fits) :
    wpAny (model prog w) A (subscriptTail value slice (.str x t) (.ref s.heap.objs.size)) Q E { s with heap := s.heap.push { cls := .type "slice", data := .fields #[.int i ui, .none, .none] } } :=
  slice_strN_sn hF hN (by rw [e]; exact h) hs ht hsz
theorem item_lit (y : Str) {i : Int} {u : Tok} (hr : fitsSsize i = true) (h1 : -(x.length : Int) ≤ i) (h2 : i < x.length) (e : Txt.item x i = y)
    (h : Q (.str y s.toks) { s with toks := s.toks + 1 })
    (hs : subscripted slice false (.str x t) (.int i u) = operate [.str x t, .int i u] (getItem (.str x t) (.int i u)) := by with_unfolding_all rfl)
    (ht : ∀ r, letTemporaryGo value (.str x t) r = pure () := by intro _; with_unfolding_all rfl) :
    wpAny (model prog w) A (subscriptTail value slice (.str x t) (.int i u)) Q E s :=
  item_str hr h1 h2 (fun _ => by rw [e]; exact h) hs ht
theorem add_lit {a b : Int} {ta tb : Tok} (c : Int) (e : a + b = c) (h : Q (.int c s.toks) { s with toks := s.toks + 1 }) :
    wpAny (model prog w) A (binaryOp .Add (.int a ta) (.int b tb)) Q E s := add_int (by rw [e]; exact h)
end
set_option maxRecDepth 100000 in
set_option maxHeartbeats 8000000 in
theorem without_ok {w : World} {A₀ : Around} {d : Nat} {env : Env} {outer : List Env} {gs : Option (List Code)} {u : Nat} {base h₀ : Heap} {L : Addr} {m mg mb : Str → Option Value} {p : Program} {loose : List Str} {mean : ExcName → Option Value}
   {Q E : Value → Shared → Prop} {s : Shared} {news : List (Addr × Obj)}
   (hdp : d ≤ 400) (hf : env.frame = some L) (hke : env.scope.kind = .function)
   (B : Below A₀ base outer h₀) (F : Fr h₀ L s.heap m) (X₀ : (hd.heap_39 w.params).In h₀) (N : News h₀ L s.heap news) (T : Top p loose mean mg mb h₀) (e : Fin 9) (t : Tok)
   (h : ∀ h' tk v, PlainIs e v → Fr h₀ L h' m → News h₀ L h' news → Q v { s with heap := h', toks := tk }) :
   wpAny (model Challenge.rw_np0007_01.row.prog w) (Ar d env outer gs u) (call (.ref 49) [ev e t]) Q E s := by
  revert e
  refine fin9 ?_ ?_ ?_ ?_ ?_ ?_ ?_ ?_ ?_ <;> intro h <;> (show wpAny _ _ (call _ [_]) _ _ _) <;> dsimp only [ev]
  all_goals walk_at "m enter"
  all_goals (repeat' (first | ((with_reducible ((with_reducible show wpAny _ _ (compareOp CmpOp.In (Value.str _ _) (Value.str _ _)) _ _ _); k_here; k_dflt (first | refine in_lit true (by decide +kernel) ?_ | refine in_lit false (by decide +kernel) ?_))); (all_goals (try dsimp only))) | ((with_reducible ((with_reducible show wpAny _ _ (subscriptTail _ (Expr.Name _ _) (Value.str _ _) (Value.int _ _)) _ _ _); k_here; k_dflt (refine' item_lit _ ?a ?b ?c ?e ?_; (case a => decide); (case b => decide); (case c => decide); (case e => (first | (refine eq_lit (Str.ofString "C") ?_; decide) | (refine eq_lit (Str.ofString "S") ?_; decide) | (refine eq_lit (Str.ofString "u") ?_; decide) | (refine eq_lit (Str.ofString "-") ?_; decide) | (refine eq_lit (Str.ofString "p") ?_; decide) | (refine eq_lit (Str.ofString "up") ?_; decide) | (refine eq_lit (Str.ofString "S-") ?_; decide) | (refine eq_lit (Str.ofString "C-") ?_; decide) | (refine eq_lit (Str.ofString "C-up") ?_; decide) | (refine eq_lit (Str.ofString "") ?_; decide)))))); (all_goals (try dsimp only))) | ((with_reducible ((with_reducible show wpAny _ _ (subscriptTail _ (Expr.Slice (some _) none none _) _ _) _ _ _); k_here; (with_reducible rename Fr _ _ _ _ => F'); (with_reducible rename News _ _ _ _ => N'); (k_dflt (refine' slice_lit_sn (hsz := ?hsz) (s := ⟨_, _, _, _, _⟩) _ ?e F' N' ?_; (case hsz => size_fits); (case e => (first | (refine eq_lit (Str.ofString "C") ?_; decide) | (refine eq_lit (Str.ofString "S") ?_; decide) | (refine eq_lit (Str.ofString "u") ?_; decide) | (refine eq_lit (Str.ofString "-") ?_; decide) | (refine eq_lit (Str.ofString "p") ?_; decide) | (refine eq_lit (Str.ofString "up") ?_; decide) | (refine eq_lit (Str.ofString "S-") ?_; decide) | (refine eq_lit (Str.ofString "C-") ?_; decide) | (refine eq_lit (Str.ofString "C-up") ?_; decide) | (refine eq_lit (Str.ofString "") ?_; decide))))); intro h' t' k' F' N'; (try k_sweep))); (all_goals (try dsimp only))) | ((with_reducible ((with_reducible show wpAny _ _ (subscriptTail _ (Expr.Slice none (some _) none _) _ _) _ _ _); k_here; (with_reducible rename Fr _ _ _ _ => F'); (with_reducible rename News _ _ _ _ => N'); (k_dflt (refine' slice_lit_ns (hsz := ?hsz) (s := ⟨_, _, _, _, _⟩) _ ?e F' N' ?_; (case hsz => size_fits); (case e => (first | (refine eq_lit (Str.ofString "C") ?_; decide) | (refine eq_lit (Str.ofString "S") ?_; decide) | (refine eq_lit (Str.ofString "u") ?_; decide) | (refine eq_lit (Str.ofString "-") ?_; decide) | (refine eq_lit (Str.ofString "p") ?_; decide) | (refine eq_lit (Str.ofString "up") ?_; decide) | (refine eq_lit (Str.ofString "S-") ?_; decide) | (refine eq_lit (Str.ofString "C-") ?_; decide) | (refine eq_lit (Str.ofString "C-up") ?_; decide) | (refine eq_lit (Str.ofString "") ?_; decide))))); intro h' t' k' F' N'; (try k_sweep))); (all_goals (try dsimp only))) | ((with_reducible ((with_reducible show wpAny _ _ (subscriptTail _ (Expr.Slice (some _) (some _) none _) _ _) _ _ _); k_here; (with_reducible rename Fr _ _ _ _ => F'); (with_reducible rename News _ _ _ _ => N'); (k_dflt (refine' slice_lit_ss (hsz := ?hsz) (s := ⟨_, _, _, _, _⟩) _ ?e F' N' ?_; (case hsz => size_fits); (case e => (first | (refine eq_lit (Str.ofString "C") ?_; decide) | (refine eq_lit (Str.ofString "S") ?_; decide) | (refine eq_lit (Str.ofString "u") ?_; decide) | (refine eq_lit (Str.ofString "-") ?_; decide) | (refine eq_lit (Str.ofString "p") ?_; decide) | (refine eq_lit (Str.ofString "up") ?_; decide) | (refine eq_lit (Str.ofString "S-") ?_; decide) | (refine eq_lit (Str.ofString "C-") ?_; decide) | (refine eq_lit (Str.ofString "C-up") ?_; decide) | (refine eq_lit (Str.ofString "") ?_; decide))))); intro h' t' k' F' N'; (try k_sweep))); (all_goals (try dsimp only))) | ((with_reducible ((with_reducible show wpAny _ _ (binaryOp Operator.Add (Value.int _ _) (Value.int _ _)) _ _ _); k_here; k_dflt (first | refine add_lit 1 (by decide) ?_ | refine add_lit 2 (by decide) ?_ | refine add_lit 3 (by decide) ?_ | refine add_lit 4 (by decide) ?_ | refine add_lit 5 (by decide) ?_ | refine add_lit 6 (by decide) ?_))); (all_goals (try dsimp only))) | (k_unfold; (try dsimp only)) | (walk1; (all_goals (try dsimp only))) | (dsimp only; walk1)))
  · exact h _ _ _ rfl (by assumption) (by assumption)
  · exact h _ _ _ rfl (by assumption) (by assumption)
  · exact h _ _ _ ⟨_, rfl⟩ (by assumption) (by assumption)
  · exact h _ _ _ rfl (by assumption) (by assumption)
  · exact h _ _ _ rfl (by assumption) (by assumption)
  · exact h _ _ _ ⟨_, rfl⟩ (by assumption) (by assumption)
  · exact h _ _ _ ⟨_, congrArg (Value.str · _) (of_decide_eq_true (by decide : decide (Str.ofString "C-" ++ Str.ofString "up" = Str.ofString "C-up") = true))⟩ (by assumption) (by assumption)
  · exact h _ _ _ rfl (by assumption) (by assumption)
  · exact h _ _ _ ⟨_, rfl⟩ (by assumption) (by assumption)
theorem without_call {w : World} {A₀ : Around} {d : Nat} {env : Env} {outer : List Env} {gs : Option (List Code)} {u : Nat} {base h₀ : Heap} {L : Addr} {m mg mb : Str → Option Value} {p : Program} {loose : List Str} {mean : ExcName → Option Value}
   {Q E : Value → Shared → Prop} {s : Shared} {news : List (Addr × Obj)}
   (hdp : d ≤ 400) (hf : env.frame = some L) (hke : env.scope.kind = .function)
   (B : Below A₀ base outer h₀) (F : Fr h₀ L s.heap m) (X₀ : (hd.heap_39 w.params).In h₀) (N : News h₀ L s.heap news) (T : Top p loose mean mg mb h₀) {e : Fin 9} {t : Tok}
   (h0 : plain e = none → ∀ h' tk, Fr h₀ L h' m → News h₀ L h' news → Q .none { s with heap := h', toks := tk })
   (h1 : ∀ e', plain e = some e' → ∀ h' tk t', Fr h₀ L h' m → News h₀ L h' news → Q (ev e' t') { s with heap := h', toks := tk }) :
   wpAny (model Challenge.rw_np0007_01.row.prog w) (Ar d env outer gs u) (call (.ref 49) [ev e t]) Q E s := by
  refine without_ok hdp hf hke B F X₀ N T e t fun h' tk v hv F' N' => ?_
  unfold PlainIs at hv
  cases q : plain e with
  | none => rw [q] at hv; dsimp only at hv; subst hv; exact h0 q _ _ F' N'
  | some e' => rw [q] at hv; obtain ⟨t', rfl⟩ := hv; exact h1 e' q _ _ _ F' N'
end

section
set_option maxRecDepth 100000 in
set_option maxHeartbeats 8000000 in
theorem look_ok {w : World} {A₀ : Around} {d : Nat} {env : Env} {outer : List Env} {gs : Option (List Code)} {u : Nat} {base h₀ : Heap} {L : Addr} {m mg mb : Str → Option Value} {p : Program} {loose : List Str} {mean : ExcName → Option Value}
   {Q E : Value → Shared → Prop} {s : Shared} {news : List (Addr × Obj)}
   (hdp : d ≤ 400) (hu : u ≤ 2000) (hf : env.frame = some L) (hke : env.scope.kind = .function)
   (B : Below A₀ base outer h₀) (F : Fr h₀ L s.heap m) (X₀ : (hd.heap_39 w.params).In h₀) (N : News h₀ L s.heap news) (T : Top p loose mean mg mb h₀)
   {l kt : Addr} {rvs : List Value} {nn : Nat} {rows : List Row} {ks : List Kt} (hl : (l, listOf rvs.toArray nn) ∈ news) (hr : RowsIn news rvs rows) (hk : (kt, tupOf (kv ks)) ∈ news) (hkl : ks.length ≤ 1000)
   (h : ∀ h' tk v, AnsIs (look rows (evs ks)) v → Fr h₀ L h' m → News h₀ L h' news → Q v { s with heap := h', toks := tk }) :
   wpAny (model Challenge.rw_np0007_01.row.prog w) (Ar d env outer gs u) (call (.ref 159) [.ref l, .ref kt]) Q E s := by
  walk_at "m enter"
  k_fold
  walk_at "go"
  refine ⟨l, rvs, nn, _, news, _, fun i => look rows (evs ks) = look (rows.drop i) (evs ks), rfl, by assumption, by assumption, hl, hr.pairs, rfl, ?_, ?_⟩
  · rintro i a b I oI h9 tk9 hi ⟨kt', ks', nt, r, rfl, rfl, hr', hk', he, hl3⟩ hJ F' N'
    (try dsimp only [pairMap] at F')
    walk_at "go"
    · refine h _ _ _ ?_ (by assumption) (by walk_at "led")
      rw [hJ, look_drop hr', if_pos (by rw [← he]; assumption)]
      exact ⟨_, rfl⟩
    · refine h _ _ _ ?_ (by assumption) (by walk_at "led")
      rw [hJ, look_drop hr', if_neg (by rw [← he]; assumption), if_pos (by rw [← he, List.length_map, ← List.map_take]; assumption)]
      exact ⟨_, rfl⟩
    · rw [hJ, look_drop hr', if_neg (by rw [← he]; assumption), if_neg (by rw [← he, List.length_map, ← List.map_take]; assumption)]
  · intro h9 tk9 oa ob hJ F' N'
    walk_at "go"
    refine h _ _ _ ?_ (by assumption) (by assumption)
    rw [hJ, hr.1, List.drop_length]
    rfl
end

section
set_option maxRecDepth 100000 in
set_option maxHeartbeats 8000000 in
theorem lookup_ok {w : World} {A₀ : Around} {d : Nat} {env : Env} {outer : List Env} {gs : Option (List Code)} {u : Nat} {base h₀ : Heap} {L : Addr} {m mg mb : Str → Option Value} {p : Program} {loose : List Str} {mean : ExcName → Option Value}
   {Q E : Value → Shared → Prop} {s : Shared} {news : List (Addr × Obj)}
   (hdp : d ≤ 400) (hu : u ≤ 2000) (hf : env.frame = some L) (hke : env.scope.kind = .function)
   (B : Below A₀ base outer h₀) (F : Fr h₀ L s.heap m) (X₀ : (hd.heap_39 w.params).In h₀) (N : News h₀ L s.heap news) (T : Top p loose mean mg mb h₀)
   {fk fd l kt : Addr} {tf : Tok} {rvs : List Value} {nn : Nat} {rows : List Row} {ks : List Kt} (hfk : (fk, instObj 122 fd) ∈ news) (hfd : (fd, fkDict w tf l) ∈ news) (hl : (l, listOf rvs.toArray nn) ∈ news) (hr : RowsIn news rvs rows) (hk : (kt, tupOf (kv ks)) ∈ news) (hkl : ks.length ≤ 1000)
   (h : ∀ h' tk v, PreIs (lk rows (evs ks)) v → Fr h₀ L h' m → News h₀ L h' news → Q v { s with heap := h', toks := tk }) :
   wpAny (model Challenge.rw_np0007_01.row.prog w) (Ar d env outer gs u) (call (.ref 119) [.ref fk, .ref kt]) Q E s := by
  walk_at "m enter"
  k_fold
  walk_at "go"
  refine ⟨l, rvs, nn, _, news, _, fun i => lk1 rows (evs ks) = lk1 (rows.drop i) (evs ks), rfl, by assumption, by assumption, hl, hr.pairs, rfl, ?_, ?_⟩
  · rintro i a b I oI h9 tk9 hi ⟨kt', ks', nt, r, rfl, rfl, hr', hk', he, hl3⟩ hJ F' N'
    walk_at "go"
    · refine h _ _ _ ?_ (by assumption) (by walk_at "led")
      unfold lk
      rw [hJ, lk1_drop hr', if_pos (by rw [← he]; assumption)]
      exact ⟨_, rfl⟩
    · rw [hJ, lk1_drop hr', if_neg (by rw [← he]; assumption)]
  · intro h9 tk9 oa ob hJ1 F' N'
    rw [hr.1, List.drop_length] at hJ1
    walk_at "go"
    refine ⟨l, rvs, nn, _, news, _, fun i => lk2 rows (evs ks) = lk2 (rows.drop i) (evs ks), rfl, by assumption, by assumption, hl, hr.pairs, rfl, ?_, ?_⟩
    · rintro i a b I oI h9 tk9 hi ⟨kt', ks', nt, r, rfl, rfl, hr', hk', he, hl3⟩ hJ F' N'
      walk_at "go"
      · refine h _ _ _ ?_ (by assumption) (by walk_at "led")
        unfold lk
        have e2 : lk2 rows (evs ks) = true := by rw [hJ, lk2_drop hr', if_pos (by rw [← he, List.length_map, ← List.map_take]; assumption)]
        rw [hJ1, e2]
        exact ⟨_, rfl⟩
      · rw [hJ, lk2_drop hr', if_neg (by rw [← he, List.length_map, ← List.map_take]; assumption)]
    · intro h9 tk9 oa ob hJ F' N'
      walk_at "go"
      refine h _ _ _ ?_ (by assumption) (by assumption)
      unfold lk
      rw [hJ1, hJ, hr.1, List.drop_length]
      rfl

theorem lookup_call {w : World} {A₀ : Around} {d : Nat} {env : Env} {outer : List Env} {gs : Option (List Code)} {u : Nat} {base h₀ : Heap} {L : Addr} {m mg mb : Str → Option Value} {p : Program} {loose : List Str} {mean : ExcName → Option Value}
   {Q E : Value → Shared → Prop} {s : Shared} {news : List (Addr × Obj)}
   (hdp : d ≤ 400) (hu : u ≤ 2000) (hf : env.frame = some L) (hke : env.scope.kind = .function)
   (B : Below A₀ base outer h₀) (F : Fr h₀ L s.heap m) (X₀ : (hd.heap_39 w.params).In h₀) (N : News h₀ L s.heap news) (T : Top p loose mean mg mb h₀)
   {fk fd l kt : Addr} {tf : Tok} {rvs : List Value} {nn : Nat} {rows : List Row} {ks : List Kt} (hfk : (fk, instObj 122 fd) ∈ news) (hfd : (fd, fkDict w tf l) ∈ news) (hl : (l, listOf rvs.toArray nn) ∈ news) (hr : RowsIn news rvs rows) (hk : (kt, tupOf (kv ks)) ∈ news) (hkl : ks.length ≤ 1000) (hw : ∀ r ∈ rows, NmOk r.2)
   (h0 : lk rows (evs ks) = .none → ∀ h' tk, Fr h₀ L h' m → News h₀ L h' news → Q .none { s with heap := h', toks := tk })
   (h1 : lk rows (evs ks) = .more → ∀ h' tk t, Fr h₀ L h' m → News h₀ L h' news → Q (.str (Str.ofString "prefix") t) { s with heap := h', toks := tk })
   (h2 : ∀ nm, lk rows (evs ks) = .cmd nm → nm ≠ Str.ofString "prefix" → ∀ h' tk t, Fr h₀ L h' m → News h₀ L h' news → Q (.str nm t) { s with heap := h', toks := tk }) :
   wpAny (model Challenge.rw_np0007_01.row.prog w) (Ar d env outer gs u) (call (.ref 119) [.ref fk, .ref kt]) Q E s := by
  refine lookup_ok hdp hu hf hke B F X₀ N T hfk hfd hl hr hk hkl fun h' tk v pv F' N' => ?_
  unfold PreIs at pv
  cases e : lk rows (evs ks) with
  | none => rw [e] at pv; dsimp only at pv; subst pv; exact h0 e _ _ F' N'
  | more => rw [e] at pv; obtain ⟨t, rfl⟩ := pv; exact h1 e _ _ _ F' N'
  | cmd nm => rw [e] at pv; obtain ⟨t, rfl⟩ := pv; exact h2 nm e (lk_nm hw e).1 _ _ _ F' N'
end

section
set_option maxRecDepth 100000 in
set_option maxHeartbeats 8000000 in
theorem found_ok {w : World} {A₀ : Around} {d : Nat} {env : Env} {outer : List Env} {gs : Option (List Code)} {u : Nat} {base h₀ : Heap} {L : Addr} {m mg mb : Str → Option Value} {p : Program} {loose : List Str} {mean : ExcName → Option Value}
   {Q E : Value → Shared → Prop} {s : Shared} {news rest : List (Addr × Obj)}
   (hdp : d ≤ 390) (hu : u ≤ 1900) (hf : env.frame = some L) (hke : env.scope.kind = .function)
   (B : Below A₀ base outer h₀) (F : Fr h₀ L s.heap m) (X₀ : (hd.heap_39 w.params).In h₀) (N₀ : News h₀ L s.heap news) (T : Top p loose mean mg mb h₀)
   {rd dd kl kl0 fk fd l : Addr} {tf t1 t2 : Tok} {kn : Nat} {rvs : List Value} {nn : Nat} {rows : List Row} {ks : List Kt} {b : Bool}
   (hoff : Off dd rest) (hdd : (dd, rdDict w t1 t2 fk kl0 2) ∈ news) (hsub : ∀ q ∈ rest, q ∈ news)
   (hrd : (rd, instObj 94 dd) ∈ rest) (hkl : (kl, listOf (kv ks).toArray kn) ∈ news) (hne : kl ≠ dd)
   (hfk : (fk, instObj 122 fd) ∈ rest) (hfd : (fd, fkDict w tf l) ∈ rest) (hl : (l, listOf rvs.toArray nn) ∈ rest) (hr : RowsIn rest rvs rows) (hks : ks.length ≤ 900) (hw : ∀ r ∈ rows, NmOk r.2)
   (h0 : lk rows (evs ks) = .none → ∀ h' tk, Fr h₀ L h' m → News h₀ L h' ((dd, rdDict w t1 t2 fk kl0 2) :: (kl, listOf (kv ks).toArray kn) :: rest) → Off dd ((kl, listOf (kv ks).toArray kn) :: rest) → Q .none { s with heap := h', toks := tk })
   (h1 : lk rows (evs ks) = .more → ∀ h' tk x xd tt a1 a2 a3 a4 tw, Fr h₀ L h' m → News h₀ L h' ((dd, rdDict w t1 t2 fk kl 2) :: (kl, listOf (kv ks).toArray kn) :: (x, instObj 31 xd) :: (xd, readDict w a1 a2 a3 a4 tw "more" tt .none b) :: (tt, tupOf (kv ks)) :: rest) → dd < tt → AllLt tt rest → tt < xd → xd < x → Q (.ref x) { s with heap := h', toks := tk })
   (h2 : ∀ nm, lk rows (evs ks) = .cmd nm → ∀ h' tk x xd tt a1 a2 a3 a4 tw kl2 tn, Fr h₀ L h' m → News h₀ L h' ((dd, rdDict w t1 t2 fk kl2 2) :: (kl2, listOf #[] 0) :: (x, instObj 31 xd) :: (xd, readDict w a1 a2 a3 a4 tw "command" tt (.str nm tn) b) :: (tt, tupOf (kv ks)) :: rest) → dd < kl2 → AllLt kl2 rest → dd < tt → AllLt tt rest → tt < xd → xd < x → Q (.ref x) { s with heap := h', toks := tk }) :
   wpAny (model Challenge.rw_np0007_01.row.prog w) (Ar d env outer gs u) (call (.ref 84) [.ref rd, .ref kl, .bool b]) Q E s := by
  have N : News h₀ L s.heap ((dd, rdDict w t1 t2 fk kl0 2) :: (kl, listOf (kv ks).toArray kn) :: rest) := fun q hq => by
    rcases List.mem_cons.mp hq with rfl | hq
    · exact N₀ _ hdd
    · rcases List.mem_cons.mp hq with rfl | hq
      · exact N₀ _ hkl
      · exact N₀ _ (hsub _ hq)
  have hoff' : ∀ q ∈ rest, q.1 ≠ dd := hoff
  have hoff2 : Off dd ((kl, listOf (kv ks).toArray kn) :: rest) := off_cons hne hoff
  clear N₀ hdd hsub hoff hkl
  walk_at "m enter"
  k_fold
  repeat' (first | ((with_reducible ((with_reducible show wpAny _ _ (call (Value.ref 119) _) _ _ _); k_here; k_dflt (refine' lookup_call (by k_room) (by ke_room) (by rfl) (by rfl) (by k_asm) (by k_asm) (by k_asm) (by k_asm) (by k_asm) (by k_mem) (by k_mem) (by k_mem) (by walk_at "rows") (by k_mem) (by first | assumption | omega) (by assumption) ?_ ?_ ?_); (all_goals (first | (intro nm' pv' ne' h' tk' t' F' N') | (intro pv' h' tk' t' F' N') | (intro pv' h' tk' F' N'))); (all_goals (try k_sweep)))); (all_goals (try dsimp only))) | (k_unfold; (try dsimp only)) | (walk1; (all_goals (try dsimp only))) | (dsimp only; walk1))
  · refine' h0 (by assumption) _ _ (by assumption) (news_of (by assumption) ?k1) hoff2
    case k1 => walk_at "sub"
  · refine' h1 (by assumption) _ _ _ _ _ _ _ _ _ _ (by assumption) (news_of (by assumption) ?k1) ?k4 ?k5 ?k6 ?k7
    case k1 => walk_at "sub"
    case k4 => refine ltN ?_; omega
    case k5 => walk_at "lts"
    case k6 => refine ltN ?_; omega
    case k7 => refine ltN ?_; omega
  · refine' h2 _ (by assumption) _ _ _ _ _ _ _ _ _ _ _ _ (by assumption) (news_of (by assumption) ?k1) ?k2 ?k3 ?k4 ?k5 ?k6 ?k7
    case k1 => walk_at "sub"
    case k2 => refine ltN ?_; omega
    case k3 => walk_at "lts"
    case k4 => refine ltN ?_; omega
    case k5 => walk_at "lts"
    case k6 => refine ltN ?_; omega
    case k7 => refine ltN ?_; omega
end

section
set_option maxRecDepth 100000 in
set_option maxHeartbeats 8000000 in
theorem push_ok {w : World} {A₀ : Around} {d : Nat} {env : Env} {outer : List Env} {gs : Option (List Code)} {u : Nat} {base h₀ : Heap} {L : Addr} {m mg mb : Str → Option Value} {p : Program} {loose : List Str} {mean : ExcName → Option Value}
   {Q E : Value → Shared → Prop} {s : Shared} {news rest : List (Addr × Obj)}
   (hdp : d ≤ 380) (hu : u ≤ 1800) (hf : env.frame = some L) (hke : env.scope.kind = .function)
   (B : Below A₀ base outer h₀) (F : Fr h₀ L s.heap m) (X₀ : (hd.heap_39 w.params).In h₀) (N₀ : News h₀ L s.heap news) (T : Top p loose mean mg mb h₀)
   {rd dd kl0 fk fd l : Addr} {tf t1 t2 : Tok} {kn : Nat} {rvs : List Value} {nn : Nat} {rows : List Row} {ks : List Kt} {e : Fin 9} {et : Tok}
   (hoff : Off dd rest) (hdd : (dd, rdDict w t1 t2 fk kl0 2) ∈ news) (hsub : ∀ q ∈ rest, q ∈ news)
   (hrd : (rd, instObj 94 dd) ∈ rest) (hkl : (kl0, listOf (kv ks).toArray kn) ∈ rest)
   (hfk : (fk, instObj 122 fd) ∈ rest) (hfd : (fd, fkDict w tf l) ∈ rest) (hl : (l, listOf rvs.toArray nn) ∈ rest) (hr : RowsIn rest rvs rows) (hks : ks.length ≤ 800) (hw : ∀ r ∈ rows, NmOk r.2)
   (h : ∀ h' tk x xd tt a1 a2 a3 a4 tw kl' kn' ks' kst wd ob bd sh, pushF rows (evs ks) e = (wd, evs kst, ob, sh, evs ks') → BdIs ob bd → ks'.length ≤ ks.length + 1 → kst.length ≤ ks.length + 1 → Fr h₀ L h' m →
     News h₀ L h' ((dd, rdDict w t1 t2 fk kl' 2) :: (kl', listOf (kv ks').toArray kn') :: (x, instObj 31 xd) :: (xd, readDict w a1 a2 a3 a4 tw wd tt bd sh) :: (tt, tupOf (kv kst)) :: rest) → dd < kl' → AllLt kl' rest → dd < tt → AllLt tt rest → tt < xd → xd < x → Q (.ref x) { s with heap := h', toks := tk }) :
   wpAny (model Challenge.rw_np0007_01.row.prog w) (Ar d env outer gs u) (call (.ref 91) [.ref rd, ev e et]) Q E s := by
  have N : News h₀ L s.heap ((dd, rdDict w t1 t2 fk kl0 2) :: rest) := fun q hq => by
    rcases List.mem_cons.mp hq with rfl | hq
    · exact N₀ _ hdd
    · exact N₀ _ (hsub _ hq)
  clear N₀ hdd hsub
  walk_at "m enter"
  k_fold
  repeat' (first | ((with_reducible ((with_reducible show wpAny _ _ (compareOp CmpOp.IsNot _ _) _ _ _); k_here; k_dflt (refine isnot_ev ?_))); (all_goals (try dsimp only))) | ((with_reducible ((with_reducible show wpAny _ _ (binaryOp Operator.Add (Value.ref _) (Value.ref _)) _ _ _); k_here; k_dflt (refine' add_key (by k_asm) (by k_asm) (by k_mem) (by k_mem) (by omega) ?_); k_whole; intro D' h' F' N' l1; (try k_lt l1); (try k_sweep))); (all_goals (try dsimp only))) | ((with_reducible ((with_reducible show wpAny _ _ (call (Value.ref 84) _) _ _ _); k_here; k_dflt (refine' found_ok (by k_room) (by ke_room) (by rfl) (by rfl) (by k_asm) (by k_asm) (by k_asm) (by k_asm) (by k_asm) (by assumption) (by k_mem) (by walk_at "sub") (by k_mem) (by k_mem) (by k_ne) (by k_mem) (by k_mem) (by k_mem) (by walk_at "rows") (by (simp only [List.length_append, List.length_cons, List.length_nil]; omega)) (by assumption) ?_ ?_ ?_); (all_goals (first | (intro nm' pv' h' tk' x' xd' tt' a1' a2' a3' a4' tw' kl2' tn' F' N' l1 l2 l3 l4 l5 l6) | (intro pv' h' tk' x' xd' tt' a1' a2' a3' a4' tw' F' N' l3 l4 l5 l6) | (intro pv' h' tk' F' N' ho'))); (all_goals (try k_sweep)))); (all_goals (try dsimp only))) | ((with_reducible ((with_reducible show wpAny _ _ (call (Value.ref 49) _) _ _ _); k_here; k_dflt (refine' without_call (by k_room) (by rfl) (by rfl) (by k_asm) (by k_asm) (by k_asm) (by k_asm) (by k_asm) ?_ ?_); (all_goals (first | (intro e' pl' h' tk' t' F' N') | (intro pl' h' tk' F' N'))); (all_goals (try k_sweep)))); (all_goals (try dsimp only))) | (k_unfold; (try dsimp only)) | (walk1; (all_goals (try dsimp only))) | (dsimp only; walk1))
  · refine' h _ _ _ _ _ _ _ _ _ _ _ _ [] _ _ _ _ _ ?k1 ?k2 ?k3 ?k4 (by assumption) (news_of (by assumption) ?k5) ?k6 ?k7 ?k8 ?k9 ?ka ?kb
    case k5 => walk_at "sub"
    case k1 => exact pushF_no (e := e) (by assumption) (by assumption)
    case k2 => exact rfl
    case k3 => simp
    case k4 => simp
    case k6 => refine ltN ?_; omega
    case k7 => walk_at "lts"
    case k8 => refine ltN ?_; omega
    case k9 => walk_at "lts"
    case ka => refine ltN ?_; omega
    case kb => refine ltN ?_; omega
  · refine' h _ _ _ _ _ _ _ _ _ _ _ _ [] _ _ _ _ _ ?k1 ?k2 ?k3 ?k4 (by assumption) (news_of (by assumption) ?k5) ?k6 ?k7 ?k8 ?k9 ?ka ?kb
    case k5 => walk_at "sub"
    case k1 => exact pushF_pno (e := e) (by assumption) (by assumption) (by assumption)
    case k2 => exact rfl
    case k3 => simp
    case k4 => simp
    case k6 => refine ltN ?_; omega
    case k7 => walk_at "lts"
    case k8 => refine ltN ?_; omega
    case k9 => walk_at "lts"
    case ka => refine ltN ?_; omega
    case kb => refine ltN ?_; omega
  · refine' h _ _ _ _ _ _ _ _ _ _ _ _ _ _ _ _ _ _ ?k1 ?k2 ?k3 ?k4 (by assumption) (news_of (by assumption) ?k5) ?k6 ?k7 ?k8 ?k9 ?ka ?kb
    case k5 => walk_at "sub"
    case k1 => exact pushF_pmore (e := e) (by assumption) (by assumption) (by assumption)
    case k2 => exact rfl
    case k3 => simp
    case k4 => simp
    case k6 => refine ltN ?_; omega
    case k7 => walk_at "lts"
    case k8 => refine ltN ?_; omega
    case k9 => walk_at "lts"
    case ka => refine ltN ?_; omega
    case kb => refine ltN ?_; omega
  · refine' h _ _ _ _ _ _ _ _ _ _ _ _ [] _ _ _ _ _ ?k1 ?k2 ?k3 ?k4 (by assumption) (news_of (by assumption) ?k5) ?k6 ?k7 ?k8 ?k9 ?ka ?kb
    case k5 => walk_at "sub"
    case k1 => exact pushF_pcmd (e := e) (by assumption) (by assumption) (by assumption)
    case k2 => exact ⟨_, rfl⟩
    case k3 => simp
    case k4 => simp
    case k6 => refine ltN ?_; omega
    case k7 => walk_at "lts"
    case k8 => refine ltN ?_; omega
    case k9 => walk_at "lts"
    case ka => refine ltN ?_; omega
    case kb => refine ltN ?_; omega
  · refine' h _ _ _ _ _ _ _ _ _ _ _ _ _ _ _ _ _ _ ?k1 ?k2 ?k3 ?k4 (by assumption) (news_of (by assumption) ?k5) ?k6 ?k7 ?k8 ?k9 ?ka ?kb
    case k5 => walk_at "sub"
    case k1 => exact pushF_more (e := e) (by assumption)
    case k2 => exact rfl
    case k3 => simp
    case k4 => simp
    case k6 => refine ltN ?_; omega
    case k7 => walk_at "lts"
    case k8 => refine ltN ?_; omega
    case k9 => walk_at "lts"
    case ka => refine ltN ?_; omega
    case kb => refine ltN ?_; omega
  · refine' h _ _ _ _ _ _ _ _ _ _ _ _ [] _ _ _ _ _ ?k1 ?k2 ?k3 ?k4 (by assumption) (news_of (by assumption) ?k5) ?k6 ?k7 ?k8 ?k9 ?ka ?kb
    case k5 => walk_at "sub"
    case k1 => exact pushF_cmd (e := e) (by assumption)
    case k2 => exact ⟨_, rfl⟩
    case k3 => simp
    case k4 => simp
    case k6 => refine ltN ?_; omega
    case k7 => walk_at "lts"
    case k8 => refine ltN ?_; omega
    case k9 => walk_at "lts"
    case ka => refine ltN ?_; omega
    case kb => refine ltN ?_; omega
end

local macro_rules | `(tactic| walk_at "rem") => `(tactic| first | ((refine' Rem.head (by k_all))) | ((refine' Rem.tail (by k_ne) (by walk_at "rem"))))
local macro_rules | `(tactic| walk_at "call ref") => `(tactic| (k_here; (with_reducible show wpAny _ _ (call (Value.ref 133) _) _ _ _); k_dflt (refine' draw_ok (by k_room) (by rfl) (by rfl) (by k_asm) (by k_asm) (by k_asm) (by k_asm) (by k_asm) (by walk_at "rem") (by k_mem) (by assumption) (by first | assumption | exact abs_nonneg _) (by first | assumption | exact abs_len _) (by omega) (by omega) (by decide) (by decide) ?_); intro h' tk' r' t1' t2' r0' r1' F' N'; (try k_sweep)))
local macro_rules | `(tactic| walk_at "call ref") => `(tactic| (k_here; (with_reducible show wpAny _ _ (call (Value.ref 140) _) _ _ _); k_dflt (refine' events_ok (by k_room) (by rfl) (by rfl) (by k_asm) (by k_asm) (by k_asm) (by k_asm) (by k_asm) ?_); intro h' tk' l' vs' hm' l1 F' N'; (try k_lt l1); (try k_sweep)))
local macro_rules | `(tactic| walk_at "call type:range") => `(tactic| (k_here; (with_reducible show wpAny _ _ (call (Value.type _) [Value.int _ _]) _ _ _); k_dflt (refine' call_range_led (by k_asm) (by k_asm) ?_); k_whole; intro D' h' tk' t' v' F' N' l1; (try k_lt l1); (try k_sweep)))
local macro_rules | `(tactic| walk_at "exec For Name Call cons nil") => `(tactic| (k_here; (with_reducible show wpAny _ _ (exec (Stmt.For (Expr.Name _ _) _ _ [] _) _) _ _ _); (with_reducible rename Fr _ _ _ _ => lF'); (with_unfolding_all refine' For_range lF' (by rfl) (by rfl) (by rfl) ?_; k_whole)))
local macro_rules | `(tactic| walk_at "subscriptTail Name Call ref int") => `(tactic| (k_here; k_dflt (refine' item_menu (by k_asm) (by k_mem) (by assumption) (by assumption) (by assumption) ?_); intro e' t'))
local macro_rules | `(tactic| walk_at "exec Assign cons ListComp") => `(tactic| (k_here; (with_reducible show wpAny _ _ (exec (Stmt.Assign [Expr.Name _ _] (Expr.ListComp (Expr.Name _ _) [⟨Expr.Tuple _ _ _, _, [_], 0⟩] _ _) _) _) _ _ _); k_dflt (refine Assign_pt (by k_asm) (by rfl) (by with_unfolding_all rfl) (by with_unfolding_all rfl) (by decide) (by rfl) (by decide) (by rfl) (by rfl) (by decide) (by decide) (by rfl) (by rfl) ?_)))
local macro_rules | `(tactic| walk_at "call builtin:list.append") => `(tactic| (k_here; k_dflt (refine' append_led (by k_asm) (by k_asm) (by walk_at "rem") (by omega) ?_); k_whole; intro h' F' N'; (try k_sweep)))
local macro_rules | `(tactic| walk_at "subscriptTail Call Name nil nil Call ref int") => `(tactic| (k_here; k_dflt (refine' item_menu (by k_asm) (by k_mem) (by assumption) (by assumption) (by assumption) ?_); intro e' t'))

section
local macro_rules | `(tactic| walk_at "compareOp Eq ref ref") => `(tactic| (k_here; k_dflt (refine' eq_clash (by k_asm) (by k_mem) (by k_mem) (by exact ClashInv.all (by assumption)) (by walk_at "subs") (by ke_room) ?_ ?_); intro z'))
set_option maxRecDepth 100000 in
set_option maxHeartbeats 8000000 in
theorem rows_ok {w : World} {A₀ : Around} {d : Nat} {env : Env} {outer : List Env} {gs : Option (List Code)} {u : Nat} {base h₀ : Heap} {L : Addr} {m mg mb : Str → Option Value} {p : Program} {loose : List Str} {mean : ExcName → Option Value}
   {Q E : Value → Shared → Prop} {s : Shared} {news rest : List (Addr × Obj)} {D lc : Addr} {k : Int} {t : Tok} {ys : List Value} {cells : List Int}
   (hdp : d ≤ 390) (hu : u ≤ 1900) (hf : env.frame = some L) (hke : env.scope.kind = .function)
   (B : Below A₀ base outer h₀) (F : Fr h₀ L s.heap m) (X₀ : (hd.heap_39 w.params).In h₀) (N₀ : News h₀ L s.heap news) (T : Top p loose mean mg mb h₀)
   (hR : Rem D (deckObj lc k t) news rest) (hl : (lc, LCg.lst ys) ∈ rest) (hI : IntsAre ys cells) (hc : ∀ c ∈ cells, 0 ≤ c) (hn : cells.length ≤ 63) (hk0 : 0 ≤ k) (hk1 : k ≤ 100)
   (h : ∀ h' tk k' t' lst rvs nn rows rest', (∀ q ∈ rest, q ∈ rest') → Off D rest' → (lst, listOf (List.toArray rvs) nn) ∈ rest' → RowsIn rest' rvs rows → Apart rows → (∀ r ∈ rows, NmOk r.2) → rows.length ≤ 6 → 0 ≤ k' → k' ≤ k + 30 → Fr h₀ L h' m → News h₀ L h' ((D, deckObj lc k' t') :: rest') → Q (.ref lst) { s with heap := h', toks := tk }) :
   wpAny (model Challenge.rw_np0007_01.row.prog w) (Ar d env outer gs u) (call (.ref 152) [.ref D]) Q E s := by
  have N : News h₀ L s.heap ((D, deckObj lc k t) :: rest) := fun q hq => by
    rcases List.mem_cons.mp hq with rfl | hq
    · exact N₀ _ hR.mem
    · exact N₀ _ (hR.sub _ hq)
  have hoff : ∀ q ∈ rest, q.1 ≠ D := hR.off
  clear N₀ hR
  refine wpAny_call ?_
  walk_at "m codeC"
  (with_reducible show wpAny _ _ _ _ _ _)
  k_fold
  walk_at "go"
  rename_i g1 L1 hA tkA FGA BA XA TA lA oK oD dK dD lst hB lB hC hD tkB rr tA tB r0 r1 rg hE tkC tC vC F1 N1 lE
  have dK' : ∃ vk, oK.data = .cell vk := ⟨_, dK⟩
  have dD' : oD.data = .cell (some (.ref D)) := dD
  clear dK dD
  obtain ⟨vk0, dK'⟩ := dK'
  have e1 : AllLt L1 rest := and2 lA
  have e2 : AllLt lst rest := and33 lB
  have e3 : Off (L1 + 1 + 1) rest := off_above (Nat.le_add_right L1 2) e1
  refine RangeAt.mk (RowsInv lc D lst (L1 + 1 + 1) (L1 + 1) oD k rest _) F1 N1 (List.Mem.head _) (by omega) (by omega) (RowsInv.start dK' hoff (off_below e2) e3 hk0) (by walk_at "sub") ?turn ?done
  case turn =>
    rintro i ti m₁ nx I oI h9 tk9 hi ⟨k', t', rvs, nn, rows, tl, ock, oc, ob, rfl, ⟨vk, hvk⟩, rfl, hsub, oD', oL', oC', hrw, hap, hnm, hlen, hk0', hk1'⟩ hI F' N'
    have i1 : @Ne Nat D I := hI _ (List.Mem.head _)
    have i2 : @Ne Nat lst I := hI _ (.tail _ (.head _))
    have i3 : @Ne Nat (L1 + 1 + 1) I := hI _ (.tail _ (.tail _ (.head _)))
    have i5 : @Ne Nat (L1 + 1) I := hI _ (.tail _ (.tail _ (.tail _ (.head _))))
    have i4 : Off I tl := fun q hq => hI q (.tail _ (.tail _ (.tail _ (.tail _ hq))))
    have hl' : (lc, LCg.lst ys) ∈ tl := hsub _ hl
    clear hI N
    (with_reducible show wpAny _ _ _ _ _ _)
    k_fold
    walk_at "go"
    rename_i hF tkF r2 tF tG ra rb rg2 hG tkG tH vH F2 N2 lG
    have hz : ((1 + r2).toNat : Int) = 1 + r2 := Int.toNat_of_nonneg (Int.add_nonneg (by decide) ra)
    have hz3 : (1 + r2).toNat ≤ 3 := by omega
    have hk9 : k' + 1 + ((1 + r2).toNat : Int) ≤ k + 1 + 4 * ((i + 1 : Nat) : Int) := by omega
    have hk8 : k' + 1 + ((1 + r2).toNat : Int) ≤ 900 := by omega
    refine LCg.CompSrc.range (n := (1 + r2).toNat) (news := (D, deckObj lc (k' + 1) tG) :: (I, oI) :: (lst, listOf rvs.toArray nn) :: (L1 + 1 + 1, ock) :: (L1 + 1, oD) :: tl) rfl F2 (news_of N2 fun q h => .tail _ h) (N2.get (List.Mem.head _))
      (range_small (by omega) (by omega)) (by rw [rangeSize_nat]; omega) (by rw [PySem.sizeLine_eq]; omega) (fun g => ?_)
    refine comp_keys ?turn2 ?fin2
    case turn2 =>
      intro kk tt ks J oJ C oC D' m₂ h tk E' hkk1 hkk2 hC F' N' off ne
      obtain ⟨⟨f1, f2, f3⟩, off2⟩ := off
      dsimp only at f1 f2 f3
      walk_at "go"
      refine' LCg.CompEnd.intro (by assumption) (by assumption) ((D, deckObj lc (kk + 1) _) :: (I, oI) :: (lst, listOf rvs.toArray nn) :: (L1 + 1 + 1, ock) :: (L1 + 1, oD) :: tl) ?sub ⟨⟨f1, f2, f3⟩, off2⟩ trivial ⟨_, _, _, rfl, rfl⟩
      case sub => walk_at "sub"
    case fin2 =>
      intro ks tt hks
      unfold LCg.FinE
      intro D' h tk F' N' o1
      obtain ⟨q1, q2, q3, q4, q5, o1⟩ := o1
      dsimp only at q1 q2 q3 q4 q5
      walk_at "go"
      rename_i kt hH FH NH lH hJ oK2 F3 N3 dK2
      have hrw' : RowsIn ((kt, tupOf (kv ks)) :: (D', LCg.lst (kv ks)) :: (D, deckObj lc (k' + 1 + ((1 + r2).toNat : Int)) tt) :: (I, oI) :: (lst, listOf rvs.toArray nn) :: (L1 + 1 + 1, oK2) :: (L1 + 1, oD) :: tl) rvs rows := RowsIn.mono hrw (by walk_at "subs")
      refine ⟨lst, rvs, nn, _, _, ClashInv rows (evs ks) ((kt, tupOf (kv ks)) :: (D', LCg.lst (kv ks)) :: (D, deckObj lc (k' + 1 + ((1 + r2).toNat : Int)) tt) :: (I, oI) :: (lst, listOf rvs.toArray nn) :: (L1 + 1 + 1, oK2) :: (L1 + 1, oD) :: tl), rfl, rfl, F3, N3, by k_mem, by rw [PySem.sizeLine_eq, hrw.1]; omega, hrw'.pairs, .zero, ?turn3, ?done3⟩
      case turn3 =>
        rintro j a b ws J oJ C oC D2 m₂ h tk E' hj ⟨kt', ks', nt, r, rfl, rfl, hr', hk', he, hl3⟩ hJ hC hx hx2 F' N'
        walk_at "go"
        · exact PtTest.intro (by assumption) (news_of (by assumption) (by walk_at "sub")) (hJ.yes hr' hk' (.inl (by rw [← he, List.length_map, ← List.map_take]; assumption)))
        · exact PtTest.intro (by assumption) (news_of (by assumption) (by walk_at "sub")) (hJ.yes hr' hk' (.inr (by rw [← he, List.length_map, ← List.map_take]; assumption)))
        · refine PtTest.intro (by assumption) (news_of (by assumption) (by walk_at "sub")) (hJ.no hr' ?_)
          rintro (q | q)
          · rw [← he, List.length_map, ← List.map_take] at q; contradiction
          · rw [← he, List.length_map, ← List.map_take] at q; contradiction
      case done3 =>
        intro D2 ws h tk hJ F' N' hD2
        have z1 : @Ne Nat kt D2 := hD2 _ (.head _)
        have z2 : @Ne Nat D' D2 := hD2 _ (.tail _ (.head _))
        have z3 : @Ne Nat D D2 := hD2 _ (.tail _ (.tail _ (.head _)))
        have z4 : @Ne Nat I D2 := hD2 _ (.tail _ (.tail _ (.tail _ (.head _))))
        have z5 : @Ne Nat lst D2 := hD2 _ (.tail _ (.tail _ (.tail _ (.tail _ (.head _)))))
        clear hD2
        have hrl : rvs.length ≤ 1000 := by rw [hrw.1]; omega
        walk_at "go"
        · rename_i l4 hK l5 ze tn kk2 ln at5 hL l6 hM F5 N5
          have hcl : ∀ r ∈ rows, ¬ clash1 r.1 (evs ks) := by
            have q := hJ.1.mp ze
            rwa [hrw.1, List.take_length] at q
          refine RangePost.intro F5 (news_of N5 ?sub) ?offI ⟨k' + 1 + ((1 + r2).toNat : Int), tt, rvs ++ [.ref at5], nn + 1, rows ++ [(evs ks, Str.ofString "command-" ++ Str.ofString (toString (i : Int)))],
            (at5, tupOf [.ref kt, .str (Str.ofString "command-" ++ Str.ofString (toString (i : Int))) tn]) :: (kt, tupOf (kv ks)) :: tl, oK2, some (.ref D2), some (.int i ti), rfl, ⟨_, dK2⟩, map_norm, ?hsub, ?oD, ?oL, ?oC,
            RowsIn.snoc (RowsIn.mono hrw (by walk_at "subs")) ⟨at5, kt, ks, tn, rfl, .head _, .tail _ (.head _), rfl, by rw [hks]; omega⟩, hap.snoc hcl, ?hnm, by simp; omega, by omega, by omega⟩
          case sub => walk_at "sub"
          case offI => exact List.forall_mem_cons.mpr ⟨i1, List.forall_mem_cons.mpr ⟨i2, List.forall_mem_cons.mpr ⟨i3, List.forall_mem_cons.mpr ⟨i5, List.forall_mem_cons.mpr ⟨by k_ne, List.forall_mem_cons.mpr ⟨by k_ne, i4⟩⟩⟩⟩⟩⟩
          case hsub => exact fun q hq => .tail _ (.tail _ (hsub q hq))
          case oD => exact off_cons (by k_ne) (off_cons (by k_ne) oD')
          case oL => exact off_cons (by k_ne) (off_cons (by k_ne) oL')
          case oC => exact off_cons (by k_ne) (off_cons (by k_ne) oC')
          case hnm =>
            intro r hr
            rcases List.mem_append.mp hr with hr | hr
            · exact hnm r hr
            · rw [List.mem_singleton.mp hr]
              exact name_ok i (by omega)
        · rename_i l4 hK F5 N5 l5 ze
          refine RangePost.intro F5 (news_of N5 ?sub) ?offI ⟨k' + 1 + ((1 + r2).toNat : Int), tt, rvs, nn, rows, tl, oK2, some (.ref D2), some (.int i ti), rfl, ⟨_, dK2⟩, map_norm, hsub, oD', oL', oC',
            hrw, hap, hnm, by omega, by omega, by omega⟩
          case sub => walk_at "sub"
          case offI => exact List.forall_mem_cons.mpr ⟨i1, List.forall_mem_cons.mpr ⟨i2, List.forall_mem_cons.mpr ⟨i3, List.forall_mem_cons.mpr ⟨i5, i4⟩⟩⟩⟩
  case done =>
    rintro m₁ nx h9 tk9 ⟨k', t', rvs, nn, rows, tl, ock, oc, ob, rfl, ⟨vk, hvk⟩, rfl, hsub, oD, oL, oC, hrw, hap, hnm, hlen, hk0', hk1'⟩ F' N'
    walk_at "go"
    refine h _ _ k' t' lst rvs nn rows ((lst, listOf rvs.toArray nn) :: tl) (fun q hq => .tail _ (hsub q hq)) (off_cons (by k_ne) oD) (List.Mem.head _) (RowsIn.mono hrw (by walk_at "subs")) hap hnm (by omega) hk0' (by omega) (by assumption) (news_of (by assumption) ?sub)
    walk_at "sub"
end

section
theorem look_call {w : World} {A₀ : Around} {d : Nat} {env : Env} {outer : List Env} {gs : Option (List Code)} {u : Nat} {base h₀ : Heap} {L : Addr} {m mg mb : Str → Option Value} {p : Program} {loose : List Str} {mean : ExcName → Option Value}
   {Q E : Value → Shared → Prop} {s : Shared} {news : List (Addr × Obj)}
   (hdp : d ≤ 400) (hu : u ≤ 2000) (hf : env.frame = some L) (hke : env.scope.kind = .function)
   (B : Below A₀ base outer h₀) (F : Fr h₀ L s.heap m) (X₀ : (hd.heap_39 w.params).In h₀) (N : News h₀ L s.heap news) (T : Top p loose mean mg mb h₀)
   {l kt : Addr} {rvs : List Value} {nn : Nat} {rows : List Row} {ks : List Kt} (hl : (l, listOf rvs.toArray nn) ∈ news) (hr : RowsIn news rvs rows) (hk : (kt, tupOf (kv ks)) ∈ news) (hkl : ks.length ≤ 1000) (hw : ∀ r ∈ rows, NmOk r.2)
   (h0 : look rows (evs ks) = .none → ∀ h' tk, Fr h₀ L h' m → News h₀ L h' news → Q .none { s with heap := h', toks := tk })
   (h1 : look rows (evs ks) = .more → ∀ h' tk t, Fr h₀ L h' m → News h₀ L h' news → Q (.str (Str.ofString "more") t) { s with heap := h', toks := tk })
   (h2 : ∀ nm, look rows (evs ks) = .cmd nm → nm ≠ Str.ofString "more" → PyData.strOk nm = true → ∀ h' tk t, Fr h₀ L h' m → News h₀ L h' news → Q (.str nm t) { s with heap := h', toks := tk }) :
   wpAny (model Challenge.rw_np0007_01.row.prog w) (Ar d env outer gs u) (call (.ref 159) [.ref l, .ref kt]) Q E s := by
  refine look_ok hdp hu hf hke B F X₀ N T hl hr hk hkl fun h' tk v pv F' N' => ?_
  unfold AnsIs at pv
  cases e : look rows (evs ks) with
  | none => rw [e] at pv; dsimp only at pv; subst pv; exact h0 e _ _ F' N'
  | more => rw [e] at pv; obtain ⟨t, rfl⟩ := pv; exact h1 e _ _ _ F' N'
  | cmd nm => rw [e] at pv; obtain ⟨t, rfl⟩ := pv; exact h2 nm e (look_nm hw e).2.1 (look_nm hw e).2.2 _ _ _ F' N'
theorem plain_call {w : World} {A₀ : Around} {d : Nat} {env : Env} {outer : List Env} {gs : Option (List Code)} {u : Nat} {base h₀ : Heap} {L : Addr} {m mg mb : Str → Option Value} {p : Program} {loose : List Str} {mean : ExcName → Option Value}
   {Q E : Value → Shared → Prop} {s : Shared} {news : List (Addr × Obj)}
   (hdp : d ≤ 400) (hf : env.frame = some L) (hke : env.scope.kind = .function)
   (B : Below A₀ base outer h₀) (F : Fr h₀ L s.heap m) (X₀ : (hd.heap_39 w.params).In h₀) (N : News h₀ L s.heap news) (T : Top p loose mean mg mb h₀) {e : Fin 9} {t : Tok}
   (h0 : plain e = none → ∀ h' tk, Fr h₀ L h' m → News h₀ L h' news → Q .none { s with heap := h', toks := tk })
   (h1 : ∀ e', plain e = some e' → ∀ h' tk t', Fr h₀ L h' m → News h₀ L h' news → Q (ev e' t') { s with heap := h', toks := tk }) :
   wpAny (model Challenge.rw_np0007_01.row.prog w) (Ar d env outer gs u) (call (.ref 147) [ev e t]) Q E s := by
  refine plain_ok hdp hf hke B F X₀ N T e t fun h' tk v hv F' N' => ?_
  unfold PlainIs at hv
  cases q : plain e with
  | none => rw [q] at hv; dsimp only at hv; subst hv; exact h0 q _ _ F' N'
  | some e' => rw [q] at hv; obtain ⟨t', rfl⟩ := hv; exact h1 e' q _ _ _ F' N'
theorem push_rem {w : World} {A₀ : Around} {d : Nat} {env : Env} {outer : List Env} {gs : Option (List Code)} {u : Nat} {base h₀ : Heap} {L : Addr} {m mg mb : Str → Option Value} {p : Program} {loose : List Str} {mean : ExcName → Option Value}
   {Q E : Value → Shared → Prop} {s : Shared} {news rest : List (Addr × Obj)}
   (hdp : d ≤ 380) (hu : u ≤ 1800) (hf : env.frame = some L) (hke : env.scope.kind = .function)
   (B : Below A₀ base outer h₀) (F : Fr h₀ L s.heap m) (X₀ : (hd.heap_39 w.params).In h₀) (N₀ : News h₀ L s.heap news) (T : Top p loose mean mg mb h₀)
   {rd dd kl0 fk fd l : Addr} {tf t1 t2 : Tok} {kn : Nat} {rvs : List Value} {nn : Nat} {rows : List Row} {ks : List Kt} {e : Fin 9} {et : Tok}
   (hrd0 : (rd, instObj 94 dd) ∈ news) (hR : Rem dd (rdDict w t1 t2 fk kl0 2) news rest)
   (hrd : (rd, instObj 94 dd) ∈ rest) (hkl : (kl0, listOf (kv ks).toArray kn) ∈ rest)
   (hfk : (fk, instObj 122 fd) ∈ rest) (hfd : (fd, fkDict w tf l) ∈ rest) (hl : (l, listOf rvs.toArray nn) ∈ rest) (hr : RowsIn rest rvs rows) (hks : ks.length ≤ 800) (hw : ∀ r ∈ rows, NmOk r.2)
   (h : ∀ h' tk x xd tt a1 a2 a3 a4 tw kl' kn' ks' kst wd ob bd sh, pushF rows (evs ks) e = (wd, evs kst, ob, sh, evs ks') → BdIs ob bd → ks'.length ≤ ks.length + 1 → kst.length ≤ ks.length + 1 → Fr h₀ L h' m →
     News h₀ L h' ((dd, rdDict w t1 t2 fk kl' 2) :: (kl', listOf (kv ks').toArray kn') :: (x, instObj 31 xd) :: (xd, readDict w a1 a2 a3 a4 tw wd tt bd sh) :: (tt, tupOf (kv kst)) :: rest) → dd < kl' → AllLt kl' rest → dd < tt → AllLt tt rest → tt < xd → xd < x → Q (.ref x) { s with heap := h', toks := tk }) :
   wpAny (model Challenge.rw_np0007_01.row.prog w) (Ar d env outer gs u) (call (.ref 91) [.ref rd, ev e et]) Q E s :=
  push_ok hdp hu hf hke B F X₀ N₀ T hR.off hR.mem hR.sub hrd hkl hfk hfd hl hr hks hw h
theorem ans_handed {a : Ans} {v : Value} (h : AnsIs a v) : handedIn v = true := by
  unfold AnsIs at h
  cases a with
  | none => dsimp only at h; subst h; rfl
  | more => obtain ⟨t, rfl⟩ := h; rfl
  | cmd nm => obtain ⟨t, rfl⟩ := h; rfl
theorem plain_handed {e : Fin 9} {v : Value} (h : PlainIs e v) : handedIn v = true := by
  unfold PlainIs at h
  cases q : plain e with
  | none => rw [q] at h; dsimp only at h; subst h; rfl
  | some e2 => rw [q] at h; obtain ⟨t, rfl⟩ := h; exact ev_handed _
/-- what the look through the table and the plain form told: the keys, whether they are taken without shift, and what is found -/
def Told (rows : List Row) (K : Key) (e : Fin 9) (ks : List Kt) (sh : Bool) (v : Value) : Prop :=
  (v = .none ∧ pushF rows K e = ("undefined", evs ks, none, false, evs [])) ∨ (∃ t, v = .str (Str.ofString "more") t ∧ pushF rows K e = ("more", evs ks, none, sh, evs ks)) ∨
    (∃ nm t, v = .str nm t ∧ nm ≠ Str.ofString "more" ∧ PyData.strOk nm = true ∧ pushF rows K e = ("command", evs ks, some nm, sh, evs []))
theorem map1 {m g : Str → Option Value} {n : Str} {v : Value} (h : m n = some v) (e : m = g) : m = fun y => if y = n then some v else g y := by
  subst e
  funext y
  by_cases q : y = n
  · rw [if_pos q, q, h]
  · rw [if_neg q]
/-- what holds behind the law's look through the table -/
def MidP (h₀ : Heap) (L dk dd I x rd lst : Addr) (rows : List Row) (K : Key) (e : Fin 9) (n : Nat) (common : List (Addr × Obj)) (s : Shared) (f : Flow) (s' : Shared) : Prop :=
  f = .next ∧ ∃ (h' : Heap) (tk' : Nat) (kt : Addr) (xs : List Kt) (y : Kt) (v : Value) (sh : Bool) (g : Str → Option Value), s' = { s with heap := h', toks := tk' } ∧
    Fr h₀ L h' (fun z => if z = Str.ofString "found" then some v else if z = Str.ofString "keys" then some (.ref kt) else if z = Str.ofString "is_shifted" then some (.bool sh) else
      if z = Str.ofString "heard" then some (.ref x) else if z = Str.ofString "reader" then some (.ref rd) else if z = Str.ofString "listing" then some (.ref lst) else if z = Str.ofString "deck" then some (.ref dk) else g z) ∧
    News h₀ L h' ((kt, tupOf (kv (xs ++ [y]))) :: common) ∧ Told rows K e (xs ++ [y]) sh v ∧ xs.length ≤ n ∧ @Ne Nat kt dk ∧ @Ne Nat kt dd ∧ @Ne Nat I kt
theorem MidP.intro {h₀ : Heap} {L dk dd I x rd lst : Addr} {rows : List Row} {K : Key} {e : Fin 9} {n : Nat} {common : List (Addr × Obj)} {s : Shared} {h' : Heap} {tk' : Nat} {kt : Addr} {xs : List Kt} {y : Kt} {v : Value} {sh : Bool} {m : Str → Option Value} {news : List (Addr × Obj)}
    (F : Fr h₀ L h' m) (N : News h₀ L h' news) (h1 : m (Str.ofString "found") = some v) (h2 : m (Str.ofString "keys") = some (.ref kt)) (h3 : m (Str.ofString "is_shifted") = some (.bool sh))
    (h4 : m (Str.ofString "heard") = some (.ref x)) (h5 : m (Str.ofString "reader") = some (.ref rd)) (h6 : m (Str.ofString "listing") = some (.ref lst)) (h7 : m (Str.ofString "deck") = some (.ref dk))
    (hk : (kt, tupOf (kv (xs ++ [y]))) ∈ news) (hs : ∀ q ∈ common, q ∈ news) (T : Told rows K e (xs ++ [y]) sh v) (hl : xs.length ≤ n) (n1 : @Ne Nat kt dk) (n2 : @Ne Nat kt dd) (n3 : @Ne Nat I kt) :
    MidP h₀ L dk dd I x rd lst rows K e n common s .next { s with heap := h', toks := tk' } := by
  refine ⟨rfl, h', tk', kt, xs, y, v, sh, m, rfl, ?_, fun q hq => ?_, T, hl, n1, n2, n3⟩
  · rw [← map1 h1 (map1 h2 (map1 h3 (map1 h4 (map1 h5 (map1 h6 (map1 h7 rfl))))))]
    exact F
  · rcases List.mem_cons.mp hq with rfl | hq
    · exact N _ hk
    · exact N _ (hs _ hq)
section
variable {α : Type} {M : Model} {A : Around} {E : Value → Shared → Prop} {s : Shared} {h₀ : Heap} {L : Addr} {m : Str → Option Value}
theorem mid_mono {t : Sem Flow} {Q : Flow → Shared → Prop} {dk dd I x rd lst : Addr} {rows : List Row} {ks as : List Kt} {e : Fin 9} {r : String × Key × Option Str × Bool × Key} {n : Nat} {c1 c2 c3 c4 c5 c6 c7 a b c cI cat ckl : Addr × Obj} {tl : List (Addr × Obj)}
    (F : Fr h₀ L s.heap m) (N : News h₀ L s.heap (a :: b :: c :: c1 :: c2 :: c3 :: c4 :: c5 :: c6 :: c7 :: cI :: cat :: ckl :: tl)) (pf : pushF rows (evs ks) e = r) (hd : m (Str.ofString "heard") = some (.ref x))
    (pre : wpAny M A t (MidP h₀ L dk dd I x rd lst rows (evs as) e n (c1 :: c2 :: c3 :: c4 :: c5 :: c6 :: cI :: tl) s) E s)
    (tail : ∀ s', MidP h₀ L dk dd I x rd lst rows (evs as) e n (c1 :: c2 :: c3 :: c4 :: c5 :: c6 :: cI :: tl) s .next s' → Q .next s') : wpAny M A t Q E s :=
  wpAny_mono pre (fun f s' q => by
    have e := q.1
    subst e
    exact tail s' q) (fun _ _ h => h)
end
theorem ans_cases {a : Ans} {v : Value} (h : AnsIs a v) : (a = .none ∧ v = .none) ∨ (a = .more ∧ ∃ t, v = .str (Str.ofString "more") t) ∨ ∃ nm, a = .cmd nm ∧ ∃ t, v = .str nm t := by
  unfold AnsIs at h
  cases a with
  | none => exact .inl ⟨rfl, h⟩
  | more => exact .inr (.inl ⟨rfl, h⟩)
  | cmd nm => exact .inr (.inr ⟨nm, rfl, h⟩)
theorem plain_cases {e : Fin 9} {v : Value} (h : PlainIs e v) : (plain e = none ∧ v = .none) ∨ ∃ e2, plain e = some e2 ∧ ∃ t, v = ev e2 t := by
  unfold PlainIs at h
  cases q : plain e with
  | none => rw [q] at h; exact .inl ⟨rfl, h⟩
  | some e2 => rw [q] at h; exact .inr ⟨e2, rfl, h⟩
theorem off_law {I dk dd a kl rd fk fd : Addr} {o1 o2 o3 o4 o5 o6 o7 : Obj} {rest : List (Addr × Obj)} (h1 : @Ne Nat dk I) (h2 : @Ne Nat dd I) (h3 : @Ne Nat a I) (h4 : @Ne Nat kl I) (h5 : @Ne Nat rd I) (h6 : @Ne Nat fk I) (h7 : @Ne Nat fd I) (h8 : Off I rest) :
    ∀ p ∈ (dk, o1) :: (dd, o2) :: (a, o3) :: (kl, o4) :: (rd, o5) :: (fk, o6) :: (fd, o7) :: rest, p.1 ≠ I :=
  List.forall_mem_cons.mpr ⟨h1, List.forall_mem_cons.mpr ⟨h2, List.forall_mem_cons.mpr ⟨h3, List.forall_mem_cons.mpr ⟨h4, List.forall_mem_cons.mpr ⟨h5, List.forall_mem_cons.mpr ⟨h6, List.forall_mem_cons.mpr ⟨h7, h8⟩⟩⟩⟩⟩⟩⟩
theorem sub8 {a b c d e f g h : Addr × Obj} {tl news : List (Addr × Obj)} (h1 : a ∈ news) (h2 : b ∈ news) (h3 : c ∈ news) (h4 : d ∈ news) (h5 : e ∈ news) (h6 : f ∈ news) (h7 : g ∈ news) (h8 : h ∈ news) (ht : ∀ q ∈ tl, q ∈ news) :
    ∀ q ∈ a :: b :: c :: d :: e :: f :: g :: h :: tl, q ∈ news :=
  List.forall_mem_cons.mpr ⟨h1, List.forall_mem_cons.mpr ⟨h2, List.forall_mem_cons.mpr ⟨h3, List.forall_mem_cons.mpr ⟨h4, List.forall_mem_cons.mpr ⟨h5, List.forall_mem_cons.mpr ⟨h6, List.forall_mem_cons.mpr ⟨h7, List.forall_mem_cons.mpr ⟨h8, ht⟩⟩⟩⟩⟩⟩⟩⟩
theorem kv_nil0 : ([] : List Value) = kv [] := rfl
theorem kv_arr0 : (#[] : Array Value) = (kv []).toArray := rfl
theorem law_inv {w : World} {lc dk dd rd fk fd lst a kl : Addr} {t1 t2 tf tk : Tok} {k k' : Int} {rest : List (Addr × Obj)} {i kn : Nat} {va : List Value} {vk : Array Value} {ks as : List Kt} {m' : Str → Option Value}
    (h1 : m' (Str.ofString "ahead") = some (.ref a)) (h2 : m' (Str.ofString "reader") = some (.ref rd)) (h3 : m' (Str.ofString "listing") = some (.ref lst)) (h4 : m' (Str.ofString "deck") = some (.ref dk))
    (ha : va = kv as) (hk : vk = (kv ks).toArray) (hae : evs ks = evs as) (hks : ks.length ≤ i) (has : as.length ≤ i) (n1 : @Ne Nat a dk) (n2 : @Ne Nat a dd) (n3 : @Ne Nat kl dk) (n4 : @Ne Nat kl dd) (k0 : 0 ≤ k') (k1 : k' ≤ k + 2 * (i : Int)) :
    LawInv w lc dk dd rd fk fd lst t1 t2 tf k rest i m' ((dk, deckObj lc k' tk) :: (dd, rdDict w t1 t2 fk kl 2) :: (a, tupOf va) :: (kl, listOf vk kn) :: (rd, instObj 94 dd) :: (fk, instObj 122 fd) :: (fd, fkDict w tf lst) :: rest) := by
  subst ha hk
  exact ⟨k', tk, kl, kn, ks, as, a, m', rfl, law_map h1 h2 h3 h4, hae, hks, has, n1, n2, n3, n4, k0, k1⟩
end

local macro_rules | `(tactic| k_handed) => `(tactic| assumption)
local macro_rules | `(tactic| walk_at "compareOp IsNot") => `(tactic| (k_here; k_dflt (refine isnot_ev ?_)))
local macro_rules | `(tactic| walk_at "binaryOp Add ref ref") => `(tactic| (k_here; k_dflt (refine' add_tup (by k_asm) (by k_asm) (by k_mem) (by k_mem) (by omega) (by k_mem) (by k_mem) ?_); k_whole; intro D' h' F' N' n1' n2' n3'; (try simp only [AllLt] at n3'); (try k_sweep)))
local macro_rules | `(tactic| walk_at "nl") => `(tactic| (k_here; k_dflt (refine' newList_led (by k_asm) (by k_asm) (by exact Nat.le_of_ble_eq_true rfl) ?_); k_whole; intro l' h' F' N' l1; (try k_lt l1); (try k_sweep)))
local macro_rules | `(tactic| walk_at "newList nil") => `(tactic| walk_at "nl")
local macro_rules | `(tactic| walk_at "newList cons str cons") => `(tactic| walk_at "nl")
local macro_rules | `(tactic| walk_at "nt") => `(tactic| (k_here; k_dflt (refine' newTuple_led (by k_asm) (by k_asm) (by exact Nat.le_of_ble_eq_true rfl) ?_); k_whole; intro l' h' F' N' l1; (try k_lt l1); (try k_sweep)))
local macro_rules | `(tactic| walk_at "newTuple nil") => `(tactic| walk_at "nt")
local macro_rules | `(tactic| walk_at "newTuple cons ref cons") => `(tactic| walk_at "nt")
local macro_rules | `(tactic| walk_at "cw") => `(tactic| (k_here; k_dflt (refine' callWith_K0 (by exact Frag.In.keeps (by k_asm) (Fr.keep (by k_asm))) (by k_is) ?_; k_whole)))
local macro_rules | `(tactic| walk_at "callWith ref nil nil") => `(tactic| walk_at "cw")
local macro_rules | `(tactic| walk_at "callWith ref cons nil") => `(tactic| walk_at "cw")

section
set_option maxRecDepth 100000 in
set_option maxHeartbeats 80000000 in
theorem law_holds : PySem.Challenge.rw_np0007_01.Holds := hd (by
  k_go0
  all_goals (try k_fold)
  repeat' (first | ((with_reducible ((with_reducible show wpAny _ _ (call (Value.ref 152) _) _ _ _); k_here; k_dflt (refine' rows_ok (by k_room) (by ke_room) (by rfl) (by rfl) (by k_asm) (by k_asm) (by k_asm) (by k_asm) (by k_asm) (by walk_at "rem") (by k_mem) (by assumption) (by first | assumption | exact abs_nonneg _) (by first | assumption | exact abs_len _) (by omega) (by omega) ?_); intro hA3 tkA1 kR tR lst rvs nn rows rest hsubR hoffR hlR hrwR hapR hnmR hlenR hkR0 hkR1 FA2 NA2; (have hlcR := hsubR _ (List.Mem.head _)); (try k_sweep))); (all_goals (try dsimp only))) | (k_unfold; (try dsimp only)) | (walk1; (all_goals (try dsimp only))) | (dsimp only; walk1))
  rename_i lc hA0 tkA0 oA0 dk hA1 lD hA2 FA1 NA1 tkx1  hB1 tkx2 fk fd hB2 lF1 lF2 gB LB hB3 BB XB TB lb1 lb2 lb3 lb4 qb eb tkx3 hB4 FB NB tkx4 GcB kXB rd dd hC1 lC1 lC2 gC LC hC2 BC XC TC lc1 lc2 lc3 lc4 tkx5 hC3 tkx6 kl hC4 lC3 hC5 FC NC tkx7 GcC kXC aht hD1 lD1 prt hD2 lD2 hD3 hD4 hD5 hD6 tkD rr tD1 tD2 rr0 rr1 rg hE tkE tE vE F1 N1 lE
  clear FA1 NA1 FB NB FC NC
  dsimp only at N1
  generalize tkx5 + 1 = tA, tkx6 + 1 = tB, tkx3 + 1 = tF at N1
  have hoffD : Off dd rest := off_below (by walk_at "lts")
  refine RangeAt.mk (LawInv _ lc dk dd rd fk fd lst _ _ _ (kR + 1) rest) F1 N1 (List.Mem.head _) (by omega) (by omega) ⟨kR + 1, tD2, kl, 0, [], [], aht, _, rfl, law_map (by with_unfolding_all rfl) (by with_unfolding_all rfl) (by with_unfolding_all rfl) (by with_unfolding_all rfl), rfl, Nat.le_refl _, Nat.le_refl _, by k_ne, by k_ne, by k_ne, by k_ne, by omega, by omega⟩ (by walk_at "sub") ?turn ?done
  case turn =>
    clear F1 N1
    rintro i ti m₁ nx I oI h9 tk9 hi ⟨k', tk', kl, kn, ks, as, at', g, rfl, rfl, hae, hks, has, n1, n2, n3, n4, hk0', hk1'⟩ hI F' N'
    have i1 : @Ne Nat dk I := hI _ (List.Mem.head _)
    have i2 : @Ne Nat dd I := hI _ (.tail _ (.head _))
    have i3 : @Ne Nat at' I := hI _ (.tail _ (.tail _ (.head _)))
    have i4 : @Ne Nat kl I := hI _ (.tail _ (.tail _ (.tail _ (.head _))))
    have i5 : @Ne Nat rd I := hI _ (.tail _ (.tail _ (.tail _ (.tail _ (.head _)))))
    have i6 : @Ne Nat fk I := hI _ (.tail _ (.tail _ (.tail _ (.tail _ (.tail _ (.head _))))))
    have i7 : @Ne Nat fd I := hI _ (.tail _ (.tail _ (.tail _ (.tail _ (.tail _ (.tail _ (.head _)))))))
    have i8 : Off I rest := fun q hq => hI q (.tail _ (.tail _ (.tail _ (.tail _ (.tail _ (.tail _ (.tail _ hq)))))))
    clear hI
    (with_reducible show wpAny _ _ _ _ _ _)
    k_fold
    repeat' ((fail_if_success (with_reducible show wpAny _ _ (exec (Stmt.If (Expr.BoolOp _ _ _) _ _ _) _) _ _ _)); first | ((with_reducible ((with_reducible show wpAny _ _ (call (Value.ref 91) _) _ _ _); k_here; k_dflt (refine' push_rem (by k_room) (by ke_room) (by rfl) (by rfl) (by k_asm) (by k_asm) (by k_asm) (by k_asm) (by k_asm) (by k_mem) (by walk_at "rem") (by k_mem) (by k_mem) (by k_mem) (by k_mem) (by k_mem) (by walk_at "rows") (by first | assumption | omega) (by assumption) ?_); intro h' tk' x' xd' tt' a1' a2' a3' a4' tw' kl2' kn' ks' kst' wd' ob' bd' sh' pf' bi' kl1' kl2' F' N' l1 l2 l3 l4 l5 l6; (try simp only [AllLt] at l2 l4); (have hh' := bd_handed bi'); (replace l1 := toN l1); (replace l3 := toN l3); (replace l5 := toN l5); (replace l6 := toN l6); (try k_sweep))); (all_goals (try dsimp only))) | ((with_reducible ((with_reducible show wpAny _ _ (call (Value.ref 159) _) _ _ _); k_here; k_dflt (refine' look_ok (by k_room) (by ke_room) (by rfl) (by rfl) (by k_asm) (by k_asm) (by k_asm) (by k_asm) (by k_asm) (by k_mem) (by walk_at "rows") (by k_mem) (by first | assumption | (simp only [List.length_append, List.length_cons, List.length_nil]; omega)) ?_); intro hX1 tkX1 v0 pv0 FX1 NX1; (have hv0 := ans_handed pv0); (try k_sweep))); (all_goals (try dsimp only))) | ((with_reducible ((with_reducible show wpAny _ _ (call (Value.ref 147) _) _ _ _); k_here; k_dflt (refine' plain_ok (by k_room) (by rfl) (by rfl) (by k_asm) (by k_asm) (by k_asm) (by k_asm) (by k_asm) _ _ ?_); intro hX2 tkX2 v1 pv1 FX2 NX2; (have hv1 := plain_handed pv1); (try k_sweep))); (all_goals (try dsimp only))) | (k_unfold; (try dsimp only)) | (walk1; (all_goals (try dsimp only))) | (dsimp only; walk1))
    rename_i hX3 FX NX
    refine' mid_mono (dk := dk) (dd := dd) (I := I) (rd := rd) (lst := lst) (as := as) (n := i) FX NX (by assumption) (by with_unfolding_all rfl) ?pre ?tail
    case pre =>
      rcases ans_cases pv0 with ⟨q0, rfl⟩ | ⟨q0, t0, rfl⟩ | ⟨nm, q0, t0, rfl⟩
      rotate_left 2
      have qn1 := (look_nm hnmR q0).2.1
      have qn2 := (look_nm hnmR q0).2.2
      rotate_left
      rcases plain_cases pv1 with ⟨q1, rfl⟩ | ⟨e2, q1, t2, rfl⟩
      all_goals (clear pv0)
      all_goals (try clear pv1)
      all_goals (repeat' (first | ((with_reducible ((with_reducible show wpAny _ _ (call (Value.ref 159) _) _ _ _); k_here; k_dflt (refine' look_call (by k_room) (by ke_room) (by rfl) (by rfl) (by k_asm) (by k_asm) (by k_asm) (by k_asm) (by k_asm) (by k_mem) (by walk_at "rows") (by k_mem) (by first | assumption | (simp only [List.length_append, List.length_cons, List.length_nil]; omega)) (by assumption) ?_ ?_ ?_); (all_goals (first | (intro nm' pv' ne' so' h' tk' t' F' N'; first | exact (an_nc (by assumption) pv').elim | exact (an_mc (by assumption) pv').elim | skip) | (intro pv' h' tk' t' F' N'; first | exact (an_nm (by assumption) pv').elim | exact (an_mc pv' (by assumption)).elim | skip) | (intro pv' h' tk' F' N'; first | exact (an_nm pv' (by assumption)).elim | exact (an_nc pv' (by assumption)).elim | skip))); (all_goals (try k_sweep)))); (all_goals (try dsimp only))) | (k_unfold; (try dsimp only)) | (walk1; (all_goals (try dsimp only))) | (dsimp only; walk1)))
      all_goals (refine' MidP.intro (by assumption) (by assumption) (by with_unfolding_all rfl) (by with_unfolding_all rfl) (by with_unfolding_all rfl) (by with_unfolding_all rfl) (by with_unfolding_all rfl) (by with_unfolding_all rfl) (by with_unfolding_all rfl) (by k_mem) (by walk_at "sub") (by first   | exact .inl ⟨rfl, pushL_no (by assumption) (by assumption) (by assumption)⟩ | exact .inr (.inl ⟨_, rfl, pushL_more (by assumption) (by assumption)⟩) | exact .inr (.inr ⟨_, _, rfl, by assumption, by assumption, pushL_cmd (by assumption) (by assumption)⟩)   | (refine' .inl ⟨rfl, pushL_pno ?k1 ?k2 ?k3 ?k4⟩; (case k1 => assumption); (case k4 => assumption); (case k3 => assumption); (case k2 => assumption))   | (refine' .inr (.inl ⟨_, rfl, pushL_pmore ?k1 ?k2 ?k3 ?k4⟩); (case k1 => assumption); (case k4 => assumption); (case k3 => assumption); (case k2 => assumption))   | (refine' .inr (.inr ⟨_, _, rfl, ?k5, ?k6, pushL_pcmd ?k1 ?k2 ?k3 ?k4⟩); (case k1 => assumption); (case k4 => assumption); (case k3 => assumption); (case k2 => assumption); (case k5 => assumption); (case k6 => assumption))) (by assumption) (by k_ne) (by k_ne) (by k_ne))
    case tail =>
      rintro s' ⟨-, h', tk', kt, xs, y, v, sh, g', rfl, F', N', told, hxl, m1, m2, m3⟩
      clear FX NX
      dsimp only
      rcases told with ⟨rfl, pq⟩ | ⟨t, rfl, pq⟩ | ⟨nm, t, rfl, nn, so, pq⟩
      all_goals (repeat' ((fail_if_success (with_reducible show RangePost _ _ _ _ _ _ _ _ _)); first | ((with_reducible ((with_reducible show wpAny _ _ (compareOp CmpOp.NotEq (Value.ref _) (Value.ref _)) _ _ _); k_here; k_dflt (first | ((refine' ne_due (by k_asm) (by k_mem) (by k_mem) (by k_mem) (by k_mem) (by k_asm) (by k_asm) (by k_asm) (by k_asm) (by rfl) (by first | exact rfl | exact ⟨_, rfl⟩) (by first | assumption | decide +kernel) (by first | exact ⟨rfl, rfl⟩ | exact ⟨by assumption, rfl⟩) (by ke_room) ?_); intro kq') | ((refine' ne_kl_cons (by k_asm) (by k_mem) (by k_mem) (by assumption) (by ke_room) ?_)) | ((refine' ne_kl_nil (by k_asm) (by k_mem) (by k_mem) (by assumption) (by ke_room) ?_)) | ((refine' ne_tup_cons (by k_asm) (by k_mem) (by k_mem) (by ke_room) ?_)) | ((refine' ne_tup_nil (by k_asm) (by k_mem) (by k_mem) (by ke_room) ?_))))); (all_goals (try dsimp only))) | (k_unfold; (try dsimp only)) | (walk1; (all_goals (try dsimp only))) | (dsimp only; walk1)))
      all_goals (k_dflt (refine' RangePost.intro (by assumption) (news_of (by assumption) ?sub) ?offI (law_inv (by with_unfolding_all rfl) (by with_unfolding_all rfl) (by with_unfolding_all rfl) (by with_unfolding_all rfl) ?ha ?hk ?hae ?h1 ?h2 ?n1 ?n2 ?n3 ?n4 ?k0 ?k1); (case sub => exact sub8 (by k_mem) (by k_mem) (by k_mem) (by k_mem) (by k_mem) (by k_mem) (by k_mem) (by k_mem) (by walk_at "subs")); (case ha => first | exact kv_nil0 | exact rfl); (case hk => first | exact kv_arr0 | exact rfl); (case hae => first | exact rfl | assumption); (case offI => exact off_law i1 i2 (by k_ne) (by k_ne) i5 i6 i7 i8); (case h1 => first | exact Nat.zero_le _ | omega | (simp only [List.length_append, List.length_cons, List.length_nil]; omega)); (case h2 => first | exact Nat.zero_le _ | omega | (simp only [List.length_append, List.length_cons, List.length_nil]; omega)); (case n1 => k_ne); (case n2 => k_ne); (case n3 => k_ne); (case n4 => k_ne); (case k0 => omega); (case k1 => omega)))
  case done =>
    clear F1 N1
    rintro m₁ nx h9 tk9 ⟨k', tk', kl, kn, ks, as, at', g, rfl, rfl, hae, hks, has, n1, n2, n3, n4, hk0', hk1'⟩ F' N'
    k_steps
    all_goals (try k_data))
end

end Mine
end

theorem PySem.Challenge.cw_np0007_01_holds : PySem.Challenge.rw_np0007_01.Holds :=
  Mine.law_holds
