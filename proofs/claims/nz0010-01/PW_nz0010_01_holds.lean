import PyProof.Rows.All
import Wide.All
import OpenK.AllK
import Wide.FinOn
import Lean
import PySem.Challenge.RW_nz0010_01
open PySem PySem.W PyProof.Rows PySem.Spec PySem.Calls
set_option Elab.async false
set_option maxRecDepth 100000
namespace Mine
set_option maxHeartbeats 8000000 in
open_top hd for PySem.Challenge.rw_nz0010_01
abbrev Led := List (Addr × Obj)
abbrev pw := PySem.Challenge.pw_nz0010_01
def Mark (_ : OpenLaw) (_ : Params → Frag) : Prop := True
def Ct (w : World) (f : Addr) (vs : List Value) (kd ku : Nat) (news : Led) (Post : Value → Led → Prop) : Prop :=
  ∀ (p : Program) (loose : List Str) (mean : ExcName → Option Value) (mg mb : Str → Option Value) (dp un : Nat) (gd : Option (List Code)) (cn : Str) (cs : Scope) (a : Addr) (ccd : Value) (cl : List (Str × Addr)) (outer : List Env) (A₀ : Around) (base h₀ : Heap) (L : Addr) (m : Str → Option Value) (s : Shared)
    (Q E : Value → Shared → Prop),
    Below A₀ base outer h₀ → Fr h₀ L s.heap m → (hd.heap_39 w.params).In h₀ → News h₀ L s.heap news → Top p loose mean mg mb h₀ → cs.kind = .function → dp + kd < recursionLimit → un + ku < cLine →
    (∀ r news' h' tk', Fr h₀ L h' m → News h₀ L h' news' → Post r news' → Q r { s with heap := h', toks := tk' }) →
    wpAny (model pw w) (ktrTop dp un gd cn cs L a ccd cl outer) (call (.ref f) vs) Q E s

theorem ct_use {w : World} {f : Addr} {vs : List Value} {kd ku : Nat} {news : Led} {Post : Value → Led → Prop} {p : Program} {loose : List Str} {mean : ExcName → Option Value} {mg mb : Str → Option Value} {dp un : Nat} {gd : Option (List Code)} {cn : Str} {cs : Scope} {a : Addr} {ccd : Value} {cl : List (Str × Addr)} {outer : List Env} {A₀ : Around} {base h₀ : Heap} {L : Addr} {m : Str → Option Value} {s : Shared}
    {Q E : Value → Shared → Prop} (C : Ct w f vs kd ku news Post) (B : Below A₀ base outer h₀) (F : Fr h₀ L s.heap m) (X : (hd.heap_39 w.params).In h₀) (N : News h₀ L s.heap news) (T : Top p loose mean mg mb h₀) (hk : cs.kind = .function) (hd : dp + kd < recursionLimit) (hu : un + ku < cLine)
    (ret : ∀ r news', Post r news' → ∀ h' tk', Fr h₀ L h' m → News h₀ L h' news' → Q r { s with heap := h', toks := tk' }) :
    wpAny (model pw w) (ktrTop dp un gd cn cs L a ccd cl outer) (call (.ref f) vs) Q E s := C _ _ _ _ _ _ _ _ _ _ _ _ _ _ _ _ _ _ _ _ _ _ B F X N T hk hd hu fun r news' h' tk' F' N' P' => ret r news' P' h' tk' F' N'
theorem e_same {G : Value → Led → Prop} {news : Led} {v : Value} (h : G v news) : ∀ r n, news = n ∧ r = v → G r n := by
  rintro _ _ ⟨rfl, rfl⟩
  exact h
theorem e_trunc {G : Value → Led → Prop} {news : Led} {q : Int} (h : ∀ t, G (.int q t) news) : ∀ r n, (news = n ∧ ∃ t, r = .int q t) → G r n := by
  rintro _ _ ⟨rfl, t, rfl⟩
  exact h t
theorem e_canK {G : Value → Led → Prop} {news : Led} {q : Prop} (h : ∀ b, (b = true ↔ q) → G (.bool b) news) : ∀ r n, (news = n ∧ ∃ b, r = .bool b ∧ (b = true ↔ q)) → G r n := by
  rintro _ _ ⟨rfl, b, rfl, hb⟩
  exact h b hb
theorem e_size {G : Value → Led → Prop} {news : Led} {p q : Int} (h : ∀ n t, 0 ≤ n → n ≤ 100 → -n ≤ p → q ≤ n → G (.int n t) news) : ∀ r n, (news = n ∧ ∃ n t, r = .int n t ∧ 0 ≤ n ∧ n ≤ 100 ∧ -n ≤ p ∧ q ≤ n) → G r n := by
  rintro _ _ ⟨rfl, n, t, rfl, h1, h2, h3, h4⟩
  exact h n t h1 h2 h3 h4
def Stop (P : Prop) : Prop := P
theorem stop_of {P : Prop} (h : Stop P) : P := h
theorem Stop.go {P : Prop} (h : P) : Stop P := h
def CompSrcF (prog : Program) (w : World) (A : Around) (h₀ : Heap) (L : Addr) (m : Str → Option Value) (env : Env) (ct elt : Expr) (x : Str) (scope : Scope) (cl : List (Str × Addr)) (Fin : Shared → List Value → Led → Prop) (xv : Value) (s₁ : Shared) : Prop := LCt.CompSrcT prog w A h₀ L m env ct elt x scope cl Fin xv s₁
def FiltEnd (h₀ : Heap) (L : Addr) (m : Str → Option Value) (need : Led) (s : Shared) (q : Bool) (b : Bool) (s' : Shared) : Prop :=
  b = q ∧ ∃ h' tk' nw, s' = { s with heap := h', toks := tk' } ∧ Fr h₀ L h' m ∧ News h₀ L h' nw ∧ ∀ p ∈ need, p ∈ nw
theorem foldl_filter (q : Int → Bool) : ∀ (ns acc : List Int), ns.foldl (fun l k => if q k = true then l ++ [k] else l) acc = acc ++ ns.filter q
  | [], acc => by simp
  | n :: r, acc => by
    rw [List.foldl_cons, foldl_filter q r, List.filter_cons]
    cases h : q n <;> simp
theorem filt_turn {prog : Program} {w : World} {A : Around} {h₀ : Heap} {L : Addr} {m : Str → Option Value} {env : Env} {ct : Expr} {x : Str} {px : Pos} {scope : Scope} {cl : List (Str × Addr)} {s : Shared} {S : Led → Prop} {news : Led} (q : Int → Bool) (hS : S news)
    (hk : ∀ C, (compEnvC scope cl C env).scope.kind = .function) (hl : ∀ C, (compEnvC scope cl C env).kindOf x = some .local) (hd : (x == ("__debug__" : Str)) = false)
    {k : Int} {t : Tok} {I : Addr} {oI : Obj} {C : Addr} {oC : Obj} {D : Addr} {m₂ : Str → Option Value} {ys : List Value} {l : List Int} {E' : Value → Shared → Prop} (hC : LCg.NsObj oC m₂) (hx : m₂ x = some (.int k t)) (off : LCg.Off3 I C D news)
    {s₁ : Shared} (turn : wpAny (model prog w) A (isTrue ct (compEnvC scope cl C env) (eval ct (compEnvC scope cl C env))) (FiltEnd h₀ L m ((I, oI) :: (C, oC) :: (D, LCg.lst ys) :: news) s (q k)) E' s₁) :
    wpAny (model prog w) A (isTrue ct (compEnvC scope cl C env) (eval ct (compEnvC scope cl C env))) (fun b s' => if b = true then wpAny (model prog w) A (eval (.Name x px) (compEnvC scope cl C env)) (LCg.CompEnd h₀ L m s I oI C oC D (LCg.lst ys) S (fun y news' => KCiEl news l (if q k = true then l ++ [k] else l) y news')) E' s'
        else LCg.CompEnd h₀ L m s I oI C oC D (LCg.lst ys) S (fun _ news' => KCiNo news l (if q k = true then l ++ [k] else l) news') Value.none s') E' s₁ := by
  refine wpAny_mono turn (fun b s' hb => ?_) fun _ _ e => e
  obtain ⟨rfl, h', tk', nw, rfl, F', N', sub⟩ := hb
  cases hq : q k with
  | true =>
    rw [if_pos rfl]
    exact LCgL.ld_own N' (sub (C, oC) (.tail _ (.head _))) hC hx (LCg.CompEnd.intro F' N' news sub off hS ⟨rfl, k, t, rfl, by rw [if_pos rfl]⟩) (hk C) (hl C) hd
  | false =>
    rw [if_neg (by simp)]
    exact LCg.CompEnd.intro F' N' news sub off hS ⟨rfl, by rw [if_neg (by simp)]⟩
theorem filt_grows (q : Int → Bool) : KPfGrows (fun l k => if q k = true then l ++ [k] else l) := by
  intro l k
  dsimp only
  split
  · simp
  · omega
theorem filt_list {prog : Program} {w : World} {A : Around} {h₀ : Heap} {L : Addr} {m : Str → Option Value} {env : Env} {ct : Expr} {x : Str} {px : Pos} {scope : Scope} {cl : List (Str × Addr)} {s : Shared} {news : Led} {Fin : Shared → List Value → Led → Prop} {ax : Addr} {vs : List Value} {ns : List Int} {kk : Nat} (q : Int → Bool)
    (hh : A.handled = none) (F : Fr h₀ L s.heap m) (N : News h₀ L s.heap news) (hm : (ax, listOf vs.toArray kk) ∈ news) (hi : IntsAre vs ns) (hsz : ns.length ≤ sizeLine)
    (hk : ∀ C, (compEnvC scope cl C env).scope.kind = .function) (hl : ∀ C, (compEnvC scope cl C env).kindOf x = some .local) (hd : (x == ("__debug__" : Str)) = false)
    (turn : ∀ k t I oI C oC D m₂ ys h tk (E' : Value → Shared → Prop), k ∈ ns → LCg.NsObj oC m₂ → m₂ x = some (.int k t) → Fr h₀ L h m → News h₀ L h ((I, oI) :: (C, oC) :: (D, LCg.lst ys) :: news) →
      wpAny (model prog w) A (isTrue ct (compEnvC scope cl C env) (eval ct (compEnvC scope cl C env))) (FiltEnd h₀ L m ((I, oI) :: (C, oC) :: (D, LCg.lst ys) :: news) { s with heap := h, toks := tk } (q k)) E' { s with heap := h, toks := tk })
    (fin : ∀ g ys, IntsAre ys (ns.filter q) → Fin { s with heap := g } ys news) : CompSrcF prog w A h₀ L m env ct (.Name x px) x scope cl Fin (.ref ax) s := by
  refine LCt.CompSrcT.ledger hh F N hm (by rw [List.size_toArray, hi.length]; exact hsz) fun g => ?_
  refine kci_list (fun l k => if q k = true then l ++ [k] else l) hi (fun k t I oI C oC D m₂ ys l h tk E' hk' _ hC hx F' N' off _ _ => ?_) (fun ys hy _ => ?_) (filt_grows q)
  · exact filt_turn q (.inr ⟨_, hm, rfl, _, rfl⟩) hk hl hd hC hx off (turn k t I oI C oC D m₂ ys h tk E' hk' hC hx F' N')
  · rw [foldl_filter, List.nil_append] at hy
    exact fin g ys hy
theorem filt_range {prog : Program} {w : World} {A : Around} {h₀ : Heap} {L : Addr} {m : Str → Option Value} {env : Env} {ct : Expr} {x : Str} {px : Pos} {scope : Scope} {cl : List (Str × Addr)} {s : Shared} {news : Led} {Fin : Shared → List Value → Led → Prop} {r : Addr} {a b : Int} {t u v : Tok} (q : Int → Bool)
    (hh : A.handled = none) (F : Fr h₀ L s.heap m) (N : News h₀ L s.heap news) (hr : IsRange s.heap r a b 1 t u v) (hab : -10000 ≤ a ∧ a ≤ 10000 ∧ -10000 ≤ b ∧ b ≤ 10000)
    (hk : ∀ C, (compEnvC scope cl C env).scope.kind = .function) (hl : ∀ C, (compEnvC scope cl C env).kindOf x = some .local) (hd : (x == ("__debug__" : Str)) = false)
    (turn : ∀ k t I oI C oC D m₂ ys h tk (E' : Value → Shared → Prop), a ≤ k → k < b → LCg.NsObj oC m₂ → m₂ x = some (.int k t) → Fr h₀ L h m → News h₀ L h ((I, oI) :: (C, oC) :: (D, LCg.lst ys) :: news) →
      wpAny (model prog w) A (isTrue ct (compEnvC scope cl C env) (eval ct (compEnvC scope cl C env))) (FiltEnd h₀ L m ((I, oI) :: (C, oC) :: (D, LCg.lst ys) :: news) { s with heap := h, toks := tk } (q k)) E' { s with heap := h, toks := tk })
    (fin : ∀ g ys, IntsAre ys ((rangeKs a (b - a).toNat).filter q) → Fin { s with heap := g } ys news) : CompSrcF prog w A h₀ L m env ct (.Name x px) x scope cl Fin (.ref r) s := by
  refine LCt.CompSrcT.range hh F N hr (small_one (by omega) (by omega) (by omega) (by omega)) (rangeSize_nat _ _) (by rw [PySem.sizeLine_eq]; omega) fun g => ?_
  refine kci_range (fun l k => if q k = true then l ++ [k] else l) (fun k t I oI C oC D m₂ ys l h tk E' hlo hhi _ hC hx F' N' off _ _ => ?_) (fun ys hy _ => ?_) (filt_grows q)
  · exact filt_turn q trivial hk hl hd hC hx off (turn k t I oI C oC D m₂ ys h tk E' hlo (by omega) hC hx F' N')
  · rw [foldl_filter, List.nil_append] at hy
    exact fin g ys hy
def CompTup (prog : Program) (w : World) (A : Around) (h₀ : Heap) (L : Addr) (m : Str → Option Value) (env : Env) (elt : Expr) (x : Str) (scope : Scope) (cl : List (Str × Addr)) (Fin : Shared → List Value → Led → Prop) (xv : Value) (s₁ : Shared) : Prop :=
  ∃ ax its k news, xv = .ref ax ∧ A.handled = none ∧ Fr h₀ L s₁.heap m ∧ News h₀ L s₁.heap news ∧ (ax, ({ cls := .type "tuple", data := .seq its k } : Obj)) ∈ news ∧ its.size ≤ sizeLine ∧
    ∀ s₂ : Shared, (∃ h, s₂ = { s₁ with heap := h }) → LCg.CompRest prog w A h₀ L m env elt x scope cl s₂ (fun nw => (ax, ({ cls := .type "tuple", data := .seq its k } : Obj)) ∈ nw) (fun i v => its[i]? = some v) (Fin s₂) its.size 0 [] news
theorem ListComp_Tup {prog : Program} {w : World} {A : Around} {E : Value → Shared → Prop} {s : Shared} {h₀ : Heap} {L : Addr} {m : Str → Option Value} {env : Env} {elt iter : Expr} {x : Str} {px : Pos} {scope : Scope} {cl : List (Str × Addr)} {pos : Pos} {Q : Value → Shared → Prop} (_F₀ : Fr h₀ L s.heap m)
    (hclos : closureFor scope env = pure cl) (hcell : ∀ y ∈ scope.names, y.2 ≠ .cell) (hkind : scope.kind = .function)
    (hnames : ∀ y ∈ scope.names, y.2 = .local → scope.names.lookup y.1 = some .local) (hx : scope.names.lookup x = some .local)
    (h : wpAny (model prog w) A (eval iter env) (CompTup prog w A h₀ L m env elt x scope cl (fun s₂ => LCg.FinE h₀ L m s₂ Q)) E s)
    (hs : ∀ x, foldedSetIterable iter env x = pure x := by intro _; rfl) :
    wpAny (model prog w) A (eval (.ListComp elt [⟨.Name x px, iter, [], 0⟩] scope pos) env) Q E s := by
  rw [eval_ListComp]
  refine wpAny_comprehension_free (use := none) rfl hs hclos hkind hnames (wpAny_mono h (fun xv s₁ h₁ => ?_) fun _ _ e => e)
  obtain ⟨ax, its, k, news, rfl, hh, F, N, hm, hsz, R⟩ := h₁
  have hl : s₁.heap.IsTuple ax its := ⟨_, N.get hm, rfl, _, rfl⟩
  have hlt : ax < s₁.heap.objs.size := Heap.lt_size (N.get hm)
  refine wpAny_pyIter_tuple hl ?_
  have up : ∀ b o, s₁.heap.get? b = some o → (s₁.heap.push { cls := .type "tuple_iterator", data := .fields #[.ref ax, .int 0 0] }).get? b = some o := fun b o e => Heap.get?_push_of_some _ e
  refine LCg.block_U (Walks.tuple hh s₁.heap.objs.size ax (Nat.ne_of_lt hlt) its) hsz (fun i h st => by obtain ⟨o, e, _⟩ := st.1; exact ⟨o, e⟩)
    (fun i h h' o nw st e e' kp N' S' => ⟨by obtain ⟨o', q, r⟩ := st.1; rw [e] at q; cases q; exact ⟨o, e', r⟩, ⟨_, N'.get S', rfl, _, rfl⟩⟩) hcell hkind hx ⟨⟨_, Heap.get?_push_size _ rfl, rfl, rfl⟩, hl.at fun o e => Heap.get?_push_of_some _ e⟩ (fun b hb => ?_)
    (F.keeps up) (N.grown up) (Nat.ne_of_lt F.ns.lt) (next_is_new F) (fun p hp => Nat.ne_of_lt (Heap.lt_size (N p hp).1)) hm (R _ ⟨_, rfl⟩) ?_
  · show b < (s₁.heap.push _).objs.size
    rw [Heap.size_push]
    rcases List.mem_cons.mp hb with rfl | hb
    · exact Nat.lt_succ_self _
    · rw [List.mem_singleton.mp hb]; exact Nat.lt_succ_of_lt hlt
  · intro D C h tk m' ys news' F' N' o1 hn hC₀ hD₀ hCL hDL hCD offC fin
    refine ⟨m', hn, fun h'' hs'' => fin D h'' tk (F'.change hs'' hCL hC₀) (fun p hp => ?_) o1⟩
    refine ⟨hs''.extBut _ _ ?_ (N' p hp).1, (N' p hp).2⟩
    rcases List.mem_cons.mp hp with rfl | hp
    · exact Ne.symm hCD
    · exact offC p hp
def MapEnd (h₀ : Heap) (L : Addr) (m : Str → Option Value) (need : Led) (s : Shared) (q : Int) (v : Value) (s' : Shared) : Prop :=
  ∃ t h' tk' nw, v = .int q t ∧ s' = { s with heap := h', toks := tk' } ∧ Fr h₀ L h' m ∧ News h₀ L h' nw ∧ ∀ p ∈ need, p ∈ nw
theorem map_tup {prog : Program} {w : World} {A : Around} {h₀ : Heap} {L : Addr} {m : Str → Option Value} {env : Env} {elt : Expr} {x : Str} {scope : Scope} {cl : List (Str × Addr)} {s : Shared} {news : Led} {Fin : Shared → List Value → Led → Prop} {ax : Addr} {p q : Int} {tp tq : Tok} {kk : Nat} (g : Int → Int)
    (hh : A.handled = none) (F : Fr h₀ L s.heap m) (N : News h₀ L s.heap news) (hm : (ax, ({ cls := .type "tuple", data := .seq [Value.int p tp, Value.int q tq].toArray kk } : Obj)) ∈ news)
    (turn : ∀ k t I oI C oC D m₂ ys h tk (E' : Value → Shared → Prop), LCg.NsObj oC m₂ → m₂ x = some (.int k t) → Fr h₀ L h m → News h₀ L h ((I, oI) :: (C, oC) :: (D, LCg.lst ys) :: news) →
      wpAny (model prog w) A (eval elt (compEnvC scope cl C env)) (MapEnd h₀ L m ((I, oI) :: (C, oC) :: (D, LCg.lst ys) :: news) { s with heap := h, toks := tk } (g k)) E' { s with heap := h, toks := tk })
    (fin : ∀ h ta tb, Fin { s with heap := h } [Value.int (g p) ta, Value.int (g q) tb] news) : CompTup prog w A h₀ L m env elt x scope cl Fin (.ref ax) s := by
  refine ⟨ax, _, _, news, rfl, hh, F, N, hm, by rw [PySem.sizeLine_eq]; exact Nat.le_of_ble_eq_true rfl, ?_⟩
  rintro s₂ ⟨h₂, rfl⟩
  refine kcf_rest (ks := [p, q]) g rfl (fun i v hi hv => ?_) (fun k t I oI C oC D m₂ ys h tk E' _ hC hx F' N' off _ _ => ?_) (fun ys hy => ?_)
  · match i, hi with
    | 0, _ => exact ⟨p, tp, rfl, (Option.some.inj hv).symm⟩
    | 1, _ => exact ⟨q, tq, rfl, (Option.some.inj hv).symm⟩
  · refine wpAny_mono (turn k t I oI C oC D m₂ ys h tk E' hC hx F' N') (fun v s' hb => ?_) fun _ _ e => e
    obtain ⟨t', h', tk', nw, rfl, rfl, F₂, N₂, sub⟩ := hb
    exact LCg.CompEnd.intro F₂ N₂ news sub off hm ⟨rfl, t', rfl⟩
  · cases hy with
    | cons _ ta hy => cases hy with
      | cons _ tb hy => cases hy with
        | nil => exact fin h₂ ta tb
theorem ListComp_F {prog : Program} {w : World} {A : Around} {E : Value → Shared → Prop} {s : Shared} {h₀ : Heap} {L : Addr} {m : Str → Option Value} {env : Env} {ct elt iter : Expr} {x : Str} {px : Pos} {scope : Scope} {cl : List (Str × Addr)} {pos : Pos} {Q : Value → Shared → Prop} (F₀ : Fr h₀ L s.heap m)
    (hclos : closureFor scope env = pure cl) (hcell : ∀ y ∈ scope.names, y.2 ≠ .cell) (hkind : scope.kind = .function)
    (hnames : ∀ y ∈ scope.names, y.2 = .local → scope.names.lookup y.1 = some .local) (hx : scope.names.lookup x = some .local)
    (h : wpAny (model prog w) A (eval iter env) (CompSrcF prog w A h₀ L m env ct elt x scope cl (fun s₂ => LCg.FinE h₀ L m s₂ Q)) E s)
    (hs : ∀ x, foldedSetIterable iter env x = pure x := by intro _; rfl) :
    wpAny (model prog w) A (eval (.ListComp elt [⟨.Name x px, iter, [ct], 0⟩] scope pos) env) Q E s := LCt.ListComp_T F₀ hclos hcell hkind hnames hx h hs
theorem item_led {w : World} {A : Around} {E : Value → Shared → Prop} {s : Shared} {h₀ : Heap} {L l : Addr} {news : Led} {u : List Value} {n : Nat} {k : Int} {t : Tok} {v : Value} {value slice : PySem.Expr} {Q : Value → Shared → Prop}
    (N : News h₀ L s.heap news) (hm : (l, listOf u.toArray n) ∈ news) (h0 : 0 ≤ k) (hhi : k < 2 ^ 63) (hx : u[k.toNat]? = some v) (h : Q v s)
    (hs : subscripted slice false (.ref l) (.int k t) = operate [.ref l, .int k t] (getItem (.ref l) (.int k t)) := by with_unfolding_all rfl) :
    wpAny (model pw w) A (subscriptTail value slice (.ref l) (.int k t)) Q E s :=
  tail_any (News.isList N hm).typeIs slot_list_getitem.lookup (wpAny_getItem_list (News.isList N hm) h0 hhi (by simpa using hx) h) hs
theorem tup_led {w : World} {A : Around} {E : Value → Shared → Prop} {s : Shared} {h₀ : Heap} {L l : Addr} {news : Led} {u : List Value} {n : Nat} {k : Int} {t : Tok} {v : Value} {value slice : PySem.Expr} {Q : Value → Shared → Prop}
    (N : News h₀ L s.heap news) (hm : (l, ({ cls := .type "tuple", data := .seq u.toArray n } : Obj)) ∈ news) (h0 : 0 ≤ k) (hhi : k < 2 ^ 63) (hx : u[k.toNat]? = some v) (h : Q v s)
    (hs : subscripted slice false (.ref l) (.int k t) = operate [.ref l, .int k t] (getItem (.ref l) (.int k t)) := by with_unfolding_all rfl) :
    wpAny (model pw w) A (subscriptTail value slice (.ref l) (.int k t)) Q E s :=
  item_tupleT (News.isTup N hm) (by omega) hhi (by
    have hlt : k.toNat < u.length := (List.getElem?_eq_some_iff.mp hx).1
    exact PySem.seqIndex_of h0 (by omega)) (by simpa using hx) h hs
abbrev lst2 (p q : Int) (tp tq : Tok) (n : Nat) : Obj := listOf [Value.int p tp, Value.int q tq].toArray n
abbrev tup2 (p q : Int) (tp tq : Tok) : Obj := { cls := .type "tuple", data := .seq [Value.int p tp, Value.int q tq].toArray }
theorem map_end {h₀ : Heap} {L : Addr} {m : Str → Option Value} {need : Led} {s : Shared} {q : Int} {t : Tok} {h' : Heap} {tk' : Nat} {nw : Led} (F : Fr h₀ L h' m) (N : News h₀ L h' nw) (sub : ∀ p ∈ need, p ∈ nw) : MapEnd h₀ L m need s q (.int q t) { s with heap := h', toks := tk' } := ⟨t, h', tk', nw, rfl, rfl, F, N, sub⟩
theorem two_of {v : List Value} {n : List Int} (i : IntsAre v n) (e : n.length = 2) : ∃ a b ta tb, v = [.int a ta, .int b tb] ∧ n = [a, b] := by
  cases i with
  | nil => cases e
  | cons a ta i => cases i with
    | nil => cases e
    | cons b tb i => cases i with
      | nil => exact ⟨a, b, ta, tb, rfl, rfl⟩
      | cons => cases e
abbrev selfD (g1 g2 g3 g4 : Int) (k1 k2 k3 k4 : Tok) (v1 v2 v3 v4 : Value) (nn : Nat) : Obj :=
  dictOf [⟨g1, .str (Str.ofString "number") k1, v1⟩, ⟨g2, .str (Str.ofString "scope") k2, v2⟩, ⟨g3, .str (Str.ofString "strength") k3, v3⟩, ⟨g4, .str (Str.ofString "name") k4, v4⟩] nn
theorem bne_decide {k : Int} : (k != 0) = decide (k ≠ 0) := by
  by_cases h : k = 0 <;> simp [h]
def Same (h₀ : Heap) (L : Addr) (m : Str → Option Value) (news : Led) (s s' : Shared) : Prop := ∃ h tk, s' = { s with heap := h, toks := tk } ∧ Fr h₀ L h m ∧ News h₀ L h news
def TestOut (p : Bool → Prop) (h₀ : Heap) (L : Addr) (m : Str → Option Value) (news : Led) (s : Shared) (b : Bool) (s' : Shared) : Prop := p b ∧ Same h₀ L m news s s'
def IntOut (R : Int → Prop) (h₀ : Heap) (L : Addr) (m : Str → Option Value) (news : Led) (s : Shared) (v : Value) (s' : Shared) : Prop := ∃ a t, v = .int a t ∧ R a ∧ Same h₀ L m news s s'
theorem test_out {p : Bool → Prop} {h₀ h : Heap} {L : Addr} {m : Str → Option Value} {news : Led} {s : Shared} {tk : Nat} {b : Bool} (F : Fr h₀ L h m) (N : News h₀ L h news) (hp : p b) : TestOut p h₀ L m news s b { s with heap := h, toks := tk } := ⟨hp, h, tk, rfl, F, N⟩
theorem int_out {R : Int → Prop} {h₀ h : Heap} {L : Addr} {m : Str → Option Value} {news : Led} {s : Shared} {tk : Nat} {a : Int} {t : Tok} (F : Fr h₀ L h m) (N : News h₀ L h news) (hR : R a) : IntOut R h₀ L m news s (.int a t) { s with heap := h, toks := tk } := ⟨a, t, rfl, hR, h, tk, rfl, F, N⟩
theorem same_of {h₀ h : Heap} {L : Addr} {m : Str → Option Value} {news : Led} {s : Shared} {tk : Nat} (F : Fr h₀ L h m) (N : News h₀ L h news) : Same h₀ L m news s { s with heap := h, toks := tk } := ⟨h, tk, rfl, F, N⟩
section
variable {M : Model} {A : Around} {E : Value → Shared → Prop} {s : Shared} {h₀ : Heap} {L : Addr} {m : Str → Option Value} {news : Led} {env : Env} {test : Expr} {pos : Pos}
theorem IfExp_join {body orelse : Expr} {Q : Value → Shared → Prop} (_F : Fr h₀ L s.heap m) (_N : News h₀ L s.heap news) (c : Prop) [Decidable c] (R : Int → Prop)
    (ht : wpAny M A (isTrue test env (eval test env)) (TestOut (fun b => b = decide c) h₀ L m news s) E s)
    (h1 : c → ∀ h tk, Fr h₀ L h m → News h₀ L h news → wpAny M A (eval body env) (IntOut R h₀ L m news s) E { s with heap := h, toks := tk })
    (h2 : ¬ c → ∀ h tk, Fr h₀ L h m → News h₀ L h news → wpAny M A (eval orelse env) (IntOut R h₀ L m news s) E { s with heap := h, toks := tk })
    (h : ∀ a t h' tk', R a → Fr h₀ L h' m → News h₀ L h' news → Q (.int a t) { s with heap := h', toks := tk' }) : wpAny M A (eval (.IfExp test body orelse pos) env) Q E s := by
  have fin : ∀ v s', IntOut R h₀ L m news s v s' → Q v s' := by
    rintro v s' ⟨a, t, rfl, hR, h', tk', rfl, F', N'⟩
    exact h a t h' tk' hR F' N'
  refine IfExp_ (wpAny_mono ht (fun b s' hb => ?_) fun _ _ e => e)
  obtain ⟨rfl, h', tk', rfl, F', N'⟩ := hb
  by_cases hc : c
  · rw [if_pos (decide_eq_true hc)]
    exact wpAny_mono (h1 hc h' tk' F' N') fin fun _ _ e => e
  · rw [if_neg (by rw [decide_eq_false hc]; exact Bool.false_ne_true)]
    exact wpAny_mono (h2 hc h' tk' F' N') fin fun _ _ e => e
theorem If_join {body orelse : List Stmt} {Q : Flow → Shared → Prop} (_F : Fr h₀ L s.heap m) (_N : News h₀ L s.heap news) (c : Prop)
    (ht : wpAny M A (isTrue test env (eval test env)) (TestOut (fun b => b = true ↔ c) h₀ L m news s) E s)
    (h1 : c → ∀ h tk, Fr h₀ L h m → News h₀ L h news → wpAny M A (execs body env) Q E { s with heap := h, toks := tk })
    (h2 : ¬ c → ∀ h tk, Fr h₀ L h m → News h₀ L h news → wpAny M A (execs orelse env) Q E { s with heap := h, toks := tk }) : wpAny M A (exec (.If test body orelse pos) env) Q E s := by
  refine wpAny_If (wpAny_mono ht (fun b s' hb => ?_) fun _ _ e => e)
  obtain ⟨hb, h', tk', rfl, F', N'⟩ := hb
  cases b with
  | true => rw [if_pos rfl]; exact h1 (hb.mp rfl) h' tk' F' N'
  | false => rw [if_neg Bool.false_ne_true]; exact h2 (fun hc => Bool.false_ne_true (hb.mpr hc)) h' tk' F' N'
end
theorem max_led {prog : Program} {w : World} {A : Around} {E : Value → Shared → Prop} {s : Shared} {h₀ : Heap} {L : Addr} {m : Str → Option Value} {news : Led} {a b : Int} {t u : Tok} {Q : Value → Shared → Prop} (hh : A.handled = none) (F : Fr h₀ L s.heap m) (N : News h₀ L s.heap news)
    (h : ∀ r t h' tk, r = (if b > a then b else a) → Fr h₀ L h' m → News h₀ L h' news → Q (.int r t) { s with heap := h', toks := tk }) : wpAny (model prog w) A (call (.builtin "max") [.int a t, .int b u]) Q E s :=
  max_two_N hh F N fun h' tk F' N' => h _ _ h' tk rfl F' N'
theorem min_led {prog : Program} {w : World} {A : Around} {E : Value → Shared → Prop} {s : Shared} {h₀ : Heap} {L : Addr} {m : Str → Option Value} {news : Led} {a b : Int} {t u : Tok} {Q : Value → Shared → Prop} (hh : A.handled = none) (F : Fr h₀ L s.heap m) (N : News h₀ L s.heap news)
    (h : ∀ r t h' tk, r = (if b < a then b else a) → Fr h₀ L h' m → News h₀ L h' news → Q (.int r t) { s with heap := h', toks := tk }) : wpAny (model prog w) A (call (.builtin "min") [.int a t, .int b u]) Q E s :=
  min_two_N hh F N fun h' tk F' N' => h _ _ h' tk rfl F' N'
theorem max_or {a b r : Int} (h : r = if b > a then b else a) : (r = a ∧ b ≤ a) ∨ (r = b ∧ a ≤ b) := by
  by_cases c : b > a
  · rw [if_pos c] at h; exact .inr ⟨h, by omega⟩
  · rw [if_neg c] at h; exact .inl ⟨h, by omega⟩
theorem min_or {a b r : Int} (h : r = if b < a then b else a) : (r = a ∧ a ≤ b) ∨ (r = b ∧ b ≤ a) := by
  by_cases c : b < a
  · rw [if_pos c] at h; exact .inr ⟨h, by omega⟩
  · rw [if_neg c] at h; exact .inl ⟨h, by omega⟩
theorem meet_eq {p₁ q₁ p₂ q₂ a b : Int} (ha : a = if p₂ > p₁ then p₂ else p₁) (hb : b = if q₂ < q₁ then q₂ else q₁) : decide (a ≤ b) = decide (p₁ ≤ q₂ ∧ p₂ ≤ q₁ ∧ p₁ ≤ q₁ ∧ p₂ ≤ q₂) := by
  refine decide_eq_decide.mpr ?_
  have A : p₁ ≤ a ∧ p₂ ≤ a ∧ (a = p₁ ∨ a = p₂) := (max_or ha).elim (fun h => ⟨Int.le_of_eq h.1.symm, Int.le_trans h.2 (Int.le_of_eq h.1.symm), .inl h.1⟩) fun h => ⟨Int.le_trans h.2 (Int.le_of_eq h.1.symm), Int.le_of_eq h.1.symm, .inr h.1⟩
  have B : b ≤ q₁ ∧ b ≤ q₂ ∧ (b = q₁ ∨ b = q₂) := (min_or hb).elim (fun h => ⟨Int.le_of_eq h.1, Int.le_trans (Int.le_of_eq h.1) h.2, .inl h.1⟩) fun h => ⟨Int.le_trans (Int.le_of_eq h.1) h.2, Int.le_of_eq h.1, .inr h.1⟩
  refine ⟨fun h => ⟨Int.le_trans A.1 (Int.le_trans h B.2.1), Int.le_trans A.2.1 (Int.le_trans h B.1), Int.le_trans A.1 (Int.le_trans h B.1), Int.le_trans A.2.1 (Int.le_trans h B.2.1)⟩, fun h => ?_⟩
  rcases A.2.2 with e | e <;> rcases B.2.2 with e' | e' <;> rw [e, e']
  · exact h.2.2.1
  · exact h.1
  · exact h.2.1
  · exact h.2.2.2
theorem tdiv_pos {x y z : Int} (hy : 0 < y) : Int.tdiv x y = z ↔
    (if z = 0 then -(y - 1) ≤ x ∧ x ≤ y - 1 else if 0 < y * z then y * z ≤ x ∧ x ≤ y * z + (y - 1) else y * z - (y - 1) ≤ x ∧ x ≤ y * z) := by
  have key : ∀ a : Int, 0 ≤ a → ∃ q : Int, a.tdiv y = q ∧ 0 ≤ q ∧ y * q ≤ a ∧ a < y * q + y := by
    intro a ha
    refine ⟨a / y, Int.tdiv_eq_ediv_of_nonneg ha, Int.ediv_nonneg ha (by omega), ?_, ?_⟩
    · have := Int.mul_ediv_add_emod a y; have := Int.emod_nonneg a (show y ≠ 0 by omega); omega
    · have := Int.mul_ediv_add_emod a y; have := Int.emod_lt_of_pos a hy; omega
  have up : ∀ a b : Int, a < b → y * a + y ≤ y * b := by
    intro a b h
    have := Int.mul_le_mul_of_nonneg_left (show a + 1 ≤ b by omega) (show 0 ≤ y by omega)
    rw [Int.mul_add, Int.mul_one] at this
    exact this
  have sgn : ∀ a : Int, 0 < a → 0 < y * a := fun a ha => Int.mul_pos hy ha
  have sgn' : ∀ a : Int, a < 0 → y * a < 0 := fun a ha => Int.mul_neg_of_pos_of_neg hy ha
  by_cases hx : 0 ≤ x
  · obtain ⟨q, hq, h0, h1, h2⟩ := key x hx
    rw [hq]
    constructor
    · rintro rfl
      by_cases hz : q = 0
      · subst hz; rw [if_pos rfl]; omega
      · rw [if_neg hz, if_pos (sgn q (by omega))]; omega
    · intro h
      by_cases hz : z = 0
      · subst hz
        rw [if_pos rfl] at h
        rcases Int.lt_trichotomy q 0 with h' | h' | h'
        · omega
        · exact h'
        · have := up _ _ h'; omega
      · rw [if_neg hz] at h
        by_cases hp : 0 < y * z
        · rw [if_pos hp] at h
          rcases Int.lt_trichotomy q z with h' | h' | h'
          · have := up _ _ h'; omega
          · exact h'
          · have := up _ _ h'; omega
        · rw [if_neg hp] at h
          have := mt (sgn z) hp
          have := sgn' z (by omega)
          omega
  · obtain ⟨q, hq, h0, h1, h2⟩ := key (-x) (by omega)
    rw [Int.neg_tdiv] at hq
    have hq' : x.tdiv y = -q := by omega
    rw [hq']
    have e : ∀ a : Int, y * -a = -(y * a) := fun a => Int.mul_neg _ _
    constructor
    · rintro rfl
      by_cases hz : -q = 0
      · rw [if_pos hz]
        have hq0 : q = 0 := by omega
        subst hq0
        omega
      · rw [if_neg hz, e]
        have := sgn q (by omega)
        rw [if_neg (by omega)]
        omega
    · intro h
      by_cases hz : z = 0
      · subst hz
        rw [if_pos rfl] at h
        rcases Int.lt_trichotomy q 0 with h' | h' | h'
        · omega
        · omega
        · have := up _ _ h'; omega
      · rw [if_neg hz] at h
        by_cases hp : 0 < y * z
        · rw [if_pos hp] at h; omega
        · rw [if_neg hp] at h
          have e' := e z
          rcases Int.lt_trichotomy q (-z) with h' | h' | h'
          · have := up _ _ h'; omega
          · omega
          · have := up _ _ h'; omega
theorem tdiv_iff {x y z : Int} (hy : y ≠ 0) : Int.tdiv x y = z ↔
    (if z = 0 then -((if y < 0 then -y else y) - 1) ≤ x ∧ x ≤ (if y < 0 then -y else y) - 1
     else if 0 < y * z then y * z ≤ x ∧ x ≤ y * z + ((if y < 0 then -y else y) - 1) else y * z - ((if y < 0 then -y else y) - 1) ≤ x ∧ x ≤ y * z) := by
  by_cases hn : y < 0
  · rw [if_pos hn]
    have := @tdiv_pos x (-y) (-z) (by omega)
    rw [Int.tdiv_neg, Int.neg_mul_neg] at this
    rw [show (x.tdiv y = z) = (-x.tdiv y = -z) from propext ⟨fun h => by omega, fun h => by omega⟩, this]
    by_cases hz : z = 0
    · rw [if_pos hz, if_pos (by omega)]
    · rw [if_neg hz, if_neg (by omega)]
  · rw [if_neg hn]
    exact tdiv_pos (by omega)
theorem hit_pos {y z x0 x1 : Int} (hy : 0 < y) (hx : x0 ≤ x1) (h1 : Int.tdiv x0 y ≤ z) (h2 : z ≤ Int.tdiv x1 y) : ∃ x, x0 ≤ x ∧ x ≤ x1 ∧ Int.tdiv x y = z := by
  have e : Int.tdiv (y * z) y = z := Int.mul_tdiv_cancel_left z (by omega)
  by_cases ha : x0 ≤ y * z
  · by_cases hb : y * z ≤ x1
    · exact ⟨y * z, ha, hb, e⟩
    · have := Int.tdiv_le_tdiv hy (show x1 ≤ y * z by omega)
      exact ⟨x1, hx, Int.le_refl _, by omega⟩
  · have := Int.tdiv_le_tdiv hy (show y * z ≤ x0 by omega)
    exact ⟨x0, Int.le_refl _, hx, by omega⟩
theorem can1_pos {y z0 z1 x0 x1 : Int} (hp : 0 < y) (hx : x0 ≤ x1) (hz : z0 ≤ z1) : (Int.tdiv x0 y ≤ z1 ∧ z0 ≤ Int.tdiv x1 y) ↔ ∃ x, x0 ≤ x ∧ x ≤ x1 ∧ z0 ≤ Int.tdiv x y ∧ Int.tdiv x y ≤ z1 := by
  constructor
  · intro h
    obtain ⟨x, k1, k2, k3⟩ := hit_pos hp hx (z := max z0 (Int.tdiv x0 y)) (Int.le_max_right _ _) (Int.max_le.mpr ⟨h.2, Int.tdiv_le_tdiv hp hx⟩)
    exact ⟨x, k1, k2, k3 ▸ Int.le_max_left _ _, k3 ▸ Int.max_le.mpr ⟨hz, h.1⟩⟩
  · rintro ⟨x, k1, k2, k3, k4⟩
    exact ⟨Int.le_trans (Int.tdiv_le_tdiv hp k1) k4, Int.le_trans k3 (Int.tdiv_le_tdiv hp k2)⟩
theorem can1_neg {y z0 z1 x0 x1 : Int} (hp : 0 < -y) (hx : x0 ≤ x1) (hz : z0 ≤ z1) : (Int.tdiv x1 y ≤ z1 ∧ z0 ≤ Int.tdiv x0 y) ↔ ∃ x, x0 ≤ x ∧ x ≤ x1 ∧ z0 ≤ Int.tdiv x y ∧ Int.tdiv x y ≤ z1 := by
  have n : ∀ x, Int.tdiv x (-y) = -Int.tdiv x y := fun x => Int.tdiv_neg _ _
  have k := can1_pos (z0 := -z1) (z1 := -z0) hp hx (Int.neg_le_neg hz)
  rw [n, n] at k
  refine ⟨fun h => ?_, fun ⟨x, k1, k2, k3, k4⟩ => ?_⟩
  · obtain ⟨x, k1, k2, k3, k4⟩ := k.mp ⟨Int.neg_le_neg h.2, Int.neg_le_neg h.1⟩
    rw [n] at k3 k4
    exact ⟨x, k1, k2, Int.neg_le_neg_iff.mp k4, Int.neg_le_neg_iff.mp k3⟩
  · have q := k.mpr ⟨x, k1, k2, by rw [n]; exact Int.neg_le_neg k4, by rw [n]; exact Int.neg_le_neg k3⟩
    exact ⟨Int.neg_le_neg_iff.mp q.2, Int.neg_le_neg_iff.mp q.1⟩
theorem can1_iff {y z0 z1 x0 x1 : Int} (hy : y ≠ 0) (hx : x0 ≤ x1) (hz : z0 ≤ z1) {a b : Int} (hab : (a = Int.tdiv x0 y ∧ b = Int.tdiv x1 y ∧ a ≤ b) ∨ (a = Int.tdiv x1 y ∧ b = Int.tdiv x0 y ∧ a ≤ b)) :
    (a ≤ z1 ∧ z0 ≤ b ∧ a ≤ b ∧ z0 ≤ z1) ↔ ∃ x, x0 ≤ x ∧ x ≤ x1 ∧ z0 ≤ Int.tdiv x y ∧ Int.tdiv x y ≤ z1 := by
  by_cases hp : 0 < y
  · have hm := Int.tdiv_le_tdiv hp hx
    have hc : a = Int.tdiv x0 y ∧ b = Int.tdiv x1 y := hab.elim (fun h => ⟨h.1, h.2.1⟩) fun h => by
      have e : Int.tdiv x0 y = Int.tdiv x1 y := Int.le_antisymm hm (h.1 ▸ h.2.1 ▸ h.2.2)
      exact ⟨h.1.trans e.symm, h.2.1.trans e⟩
    have hab' : a ≤ b := hab.elim (fun h => h.2.2) fun h => h.2.2
    obtain ⟨rfl, rfl⟩ := hc
    exact Iff.trans ⟨fun h => ⟨h.1, h.2.1⟩, fun h => ⟨h.1, h.2, hab', hz⟩⟩ (can1_pos hp hx hz)
  · have hp' : 0 < -y := by omega
    have hm := Int.tdiv_le_tdiv hp' hx
    rw [Int.tdiv_neg, Int.tdiv_neg] at hm
    have hm := Int.neg_le_neg_iff.mp hm
    have hc : a = Int.tdiv x1 y ∧ b = Int.tdiv x0 y := hab.elim (fun h => by
      have e : Int.tdiv x0 y = Int.tdiv x1 y := Int.le_antisymm (h.1 ▸ h.2.1 ▸ h.2.2) hm
      exact ⟨h.1.trans e, h.2.1.trans e.symm⟩) fun h => ⟨h.1, h.2.1⟩
    have hab' : a ≤ b := hab.elim (fun h => h.2.2) fun h => h.2.2
    clear hab
    obtain ⟨rfl, rfl⟩ := hc
    exact Iff.trans ⟨fun h => ⟨h.1, h.2.1⟩, fun h => ⟨h.1, h.2, hab', hz⟩⟩ (can1_neg hp' hx hz)
theorem tdiv_far {x y n : Int} (h1 : -n ≤ x) (h2 : x ≤ n) (h : n < y ∨ y < -n) : Int.tdiv x y = 0 := by
  rcases h with h | h
  · rw [tdiv_pos (by omega), if_pos rfl]; omega
  · rw [← Int.neg_neg y, Int.tdiv_neg, Int.neg_eq_zero, tdiv_pos (by omega), if_pos rfl]; omega
def DivsOK (x0 x1 y0 y1 : Int) (ds : List Int) : Prop :=
  ds.length ≤ 1000 ∧ (∀ d ∈ ds, d ≠ 0 ∧ y0 ≤ d ∧ d ≤ y1) ∧ ∀ y, y0 ≤ y → y ≤ y1 → y ≠ 0 → ∃ d ∈ ds, ∀ x, x0 ≤ x → x ≤ x1 → Int.tdiv x y = Int.tdiv x d
theorem divsOK_one {x0 x1 y0 y1 d n : Int} (hn : -n ≤ x0 ∧ x1 ≤ n) (h0 : 0 ≤ n) (hd : y0 ≤ d ∧ d ≤ y1) (h : n < y0 ∨ y1 < -n) : DivsOK x0 x1 y0 y1 [d] := by
  have far : ∀ y, y0 ≤ y → y ≤ y1 → n < y ∨ y < -n := fun y h1 h2 => h.imp (fun h => by omega) fun h => by omega
  refine ⟨Nat.le_of_ble_eq_true rfl, fun e he => ?_, fun y h1 h2 _ => ⟨d, List.mem_singleton.mpr rfl, fun x hx1 hx2 => ?_⟩⟩
  · rw [List.mem_singleton.mp he]
    have := far d hd.1 hd.2
    exact ⟨by omega, hd⟩
  · have hx : -n ≤ x ∧ x ≤ n := by omega
    rw [tdiv_far hx.1 hx.2 (far y h1 h2), tdiv_far hx.1 hx.2 (far d hd.1 hd.2)]
theorem far2 {x x0 x1 y d n : Int} (hn : -n ≤ x0 ∧ x1 ≤ n) (a : x0 ≤ x) (b : x ≤ x1) (hy : n < y ∨ y < -n) (hd : n < d ∨ d < -n) : Int.tdiv x y = Int.tdiv x d := by
  rw [tdiv_far (Int.le_trans hn.1 a) (Int.le_trans b hn.2) hy, tdiv_far (Int.le_trans hn.1 a) (Int.le_trans b hn.2) hd]
theorem in_far {y0 y1 f l e : Int} (h : y0 ≤ f ∧ l ≤ y1) (h2 : f ≤ e ∧ e < f + ((l + 1 - f).toNat : Int)) (hfl : f ≤ l) : y0 ≤ e ∧ e ≤ y1 := by omega
theorem divsOK_range {x0 x1 y0 y1 n f l : Int} (hy : -100 ≤ y0 ∧ y1 ≤ 100) (hn : -n ≤ x0 ∧ x1 ≤ n) (h0 : 0 ≤ n) (hfl : f ≤ l)
    (hf : (f = y0 ∧ -(n + 1) ≤ y0) ∨ (f = -(n + 1) ∧ y0 ≤ -(n + 1))) (hl : (l = y1 ∧ y1 ≤ n + 1) ∨ (l = n + 1 ∧ n + 1 ≤ y1)) :
    DivsOK x0 x1 y0 y1 ((PySem.W.rangeKs f (l + 1 - f).toNat).filter fun k => decide (k ≠ 0)) := by
  have mem : ∀ k, f ≤ k → k ≤ l → k ≠ 0 → k ∈ (PySem.W.rangeKs f (l + 1 - f).toNat).filter (fun k => decide (k ≠ 0)) := by
    intro k h1 h2 h3
    refine List.mem_filter.mpr ⟨?_, decide_eq_true h3⟩
    unfold PySem.W.rangeKs
    exact List.mem_map.mpr ⟨(k - f).toNat, List.mem_range.mpr (by omega), by omega⟩
  have hA : ∀ y, y0 ≤ y → ¬ f ≤ y → f = -(n + 1) := fun y h1 h2 => hf.elim (fun h => absurd (Int.le_trans (Int.le_of_eq h.1) h1) h2) fun h => h.1
  have hB : ∀ y, y ≤ y1 → ¬ y ≤ l → l = n + 1 := fun y h1 h2 => hl.elim (fun h => absurd (Int.le_trans h1 (Int.le_of_eq h.1.symm)) h2) fun h => h.1
  have hfy : y0 ≤ f ∧ l ≤ y1 := ⟨hf.elim (fun h => Int.le_of_eq h.1.symm) fun h => Int.le_trans h.2 (Int.le_of_eq h.1.symm), hl.elim (fun h => Int.le_of_eq h.1) fun h => Int.le_trans (Int.le_of_eq h.1) h.2⟩
  clear hf hl
  refine ⟨Nat.le_trans (List.length_filter_le _ _) (by rw [PySem.W.rangeKs_length]; omega), fun e he => ?_, fun y h1 h2 h3 => ?_⟩
  · obtain ⟨h1, h2⟩ := List.mem_filter.mp he
    have := PySem.W.mem_rangeKs h1
    exact ⟨of_decide_eq_true h2, in_far hfy this hfl⟩
  · by_cases hin : f ≤ y
    · by_cases hin2 : y ≤ l
      · exact ⟨y, mem y hin hin2 h3, fun _ _ _ => rfl⟩
      · have e := hB y h2 hin2
        subst e
        exact ⟨n + 1, mem _ hfl (Int.le_refl _) (by omega), fun x a b => far2 hn a b (.inl (by omega)) (.inl (Int.lt_succ n))⟩
    · have e := hA y h1 hin
      subst e
      exact ⟨-(n + 1), mem _ (Int.le_refl _) hfl (by omega), fun x a b => far2 hn a b (.inr (by omega)) (.inr (Int.neg_lt_neg (Int.lt_succ n)))⟩
theorem far_of {y0 y1 n f l : Int} (hf : (f = y0 ∧ -(n + 1) ≤ y0) ∨ (f = -(n + 1) ∧ y0 ≤ -(n + 1))) (hl : (l = y1 ∧ y1 ≤ n + 1) ∨ (l = n + 1 ∧ n + 1 ≤ y1)) (h : l < f ∧ y0 ≤ y1 ∧ 0 ≤ n) : n < y0 ∨ y1 < -n := by omega
local macro_rules | `(tactic| walk_at $s:str) => `(tactic| k_extra $s)
local macro_rules | `(tactic| k_mem) => `(tactic| ((repeat (refine List.mem_cons_of_mem _ ?_)); assumption))
theorem setup : True := by
  (k_with "subscriptTail" => first | ((with_reducible show wpAny _ _ (subscriptTail _ _ (Value.ref _) (Value.int _ _)) _ _ _); k_dflt (first | refine item_led (by k_asm) (by k_mem) (by decide) (by decide) (by rfl) ?_ | refine tup_led (by k_asm) (by k_mem) (by decide) (by decide) (by rfl) ?_ | refine stop_of ?_)) | refine stop_of ?_)
  (k_with "eval IfExp" => first | ((with_reducible show wpAny _ _ (eval (Expr.IfExp _ _ (Expr.BinOp (Expr.Constant _ _ _) _ _ _) _) _) _ _ _); refine stop_of ?_) | ((with_reducible show wpAny _ _ (eval (Expr.IfExp _ (Expr.Subscript _ _ _) _ _) _) _ _ _); refine stop_of ?_))
  (k_with "exec If" => (with_reducible show wpAny _ _ (exec (Stmt.If (Expr.BoolOp _ _ _) _ _ _) _) _ _ _); refine stop_of ?_)
  (k_with "call ref" => refine stop_of ?_)
  (k_with "eval ListComp" => refine stop_of ?_)
  (k_with "setItem ref str" => refine stop_of ?_)
  (k_with "setItem ref int" => refine stop_of ?_)
  (k_with "binaryOp FloorDiv int int" => refine stop_of ?_)
  (k_with "compareOp NotEq ref ref" => refine stop_of ?_)
  (k_with "exec For Name Call cons nil" => refine stop_of ?_)
  (k_with "pyIter ref" => refine stop_of ?_)
  (k_with "exec While BoolOp cons nil" => refine stop_of ?_)
  (k_with "compareOp In int ref" => refine stop_of ?_)
  (k_with "InvEndN" => refine stop_of ?_)
  (k_with "KswEnd" => refine stop_of ?_)
  (k_with "call builtin:max" => refine stop_of ?_)
  (k_with "call builtin:min" => refine stop_of ?_)
  trivial
theorem tq_eq {x y : Int} : (if (decide (x < 0) == decide (y < 0)) = true then (if x < 0 then -x else x).fdiv (if y < 0 then -y else y) else -(if x < 0 then -x else x).fdiv (if y < 0 then -y else y)) = Int.tdiv x y := by
  have pos : ∀ a b : Int, 0 ≤ a → 0 ≤ b → a.fdiv b = a.tdiv b := fun a b ha hb => by rw [Int.fdiv_eq_ediv_of_nonneg _ hb, Int.tdiv_eq_ediv_of_nonneg ha]
  by_cases hx : x < 0 <;> by_cases hy' : y < 0
  · rw [if_pos hx, if_pos hy', decide_eq_true hx, decide_eq_true hy', pos _ _ (by omega) (by omega), Int.neg_tdiv_neg]; rfl
  · rw [if_pos hx, if_neg hy', decide_eq_true hx, decide_eq_false hy', pos _ _ (by omega) (by omega), Int.neg_tdiv, Int.neg_neg]; rfl
  · rw [if_neg hx, if_pos hy', decide_eq_false hx, decide_eq_true hy', pos _ _ (by omega) (by omega), Int.tdiv_neg, Int.neg_neg]; rfl
  · rw [if_neg hx, if_neg hy', decide_eq_false hx, decide_eq_false hy', pos _ _ (by omega) (by omega)]; rfl
set_option maxHeartbeats 4000000 in
theorem c_trunc {w : World} {news : Led} {x y : Int} {tx ty : Tok} (hy : y ≠ 0) (hb : -1000 < y ∧ y < 1000) : Ct w 70 [.int x tx, .int y ty] 1 8 news (fun r news' => news = news' ∧ ∃ t, r = .int (Int.tdiv x y) t) := by
  unfold Ct
  intro p loose mean mg mb dp un gd cn cs a ccd cl outer A₀ base h₀ L m s Q E B F X N T hk hd hu hret
  refine wpAny_call ?_
  k_dflt cell_enter
  k_steps
  refine Stop.go ?_
  refine floordiv_int (by omega) ?_ (Or.inl (PyProof.noPylong_small (by omega)))
  k_steps
  all_goals (refine hret _ _ _ _ (by k_asm) (by k_asm) ⟨rfl, _, congrArg (Value.int · _) ?_⟩; rw [← tq_eq, ‹(decide (x < 0) == decide (y < 0)) = _›]; rfl)
theorem abs_ok {a : Int} : -(if a < 0 then -a else a) ≤ a ∧ a ≤ (if a < 0 then -a else a) ∧ 0 ≤ (if a < 0 then -a else a) ∧ ((if a < 0 then -a else a) = a ∨ (if a < 0 then -a else a) = -a) := by
  by_cases h : a < 0
  · rw [if_pos h]; omega
  · rw [if_neg h]; omega
theorem size_ok {p q n : Int} (hp : -100 ≤ p ∧ p ≤ q ∧ q ≤ 100) (h : n = if (if q < 0 then -q else q) > (if p < 0 then -p else p) then (if q < 0 then -q else q) else (if p < 0 then -p else p)) : 0 ≤ n ∧ n ≤ 100 ∧ -n ≤ p ∧ q ≤ n := by
  have h1 := @abs_ok p
  have h2 := @abs_ok q
  have h3 := max_or h
  generalize (if q < 0 then -q else q) = B at *
  generalize (if p < 0 then -p else p) = A at *
  clear h
  omega
set_option maxHeartbeats 4000000 in
theorem c_size {w : World} {news : Led} {a₁ : Addr} {p₁ q₁ : Int} {t₁ t₂ : Tok} (ha : (a₁, tup2 p₁ q₁ t₁ t₂) ∈ news) (hp : -100 ≤ p₁ ∧ p₁ ≤ q₁ ∧ q₁ ≤ 100) : Ct w 77 [.ref a₁] 1 8 news (fun r news' => news = news' ∧ ∃ n t, r = .int n t ∧ 0 ≤ n ∧ n ≤ 100 ∧ -n ≤ p₁ ∧ q₁ ≤ n) := by
  unfold Ct
  intro p loose mean mg mb dp un gd cn cs a ccd cl outer A₀ base h₀ L m s Q E B F X N T hk hd hu hret
  refine wpAny_call ?_
  k_dflt cell_enter
  k_steps
  refine Stop.go ?_
  k_dflt (refine max_led (by rfl) (by k_asm) (by k_asm) ?_)
  intro a t' h' tk' ha F' N'
  (try k_sweep)
  k_steps
  exact hret _ _ _ _ (by k_asm) (by k_asm) ⟨rfl, _, _, rfl, size_ok hp ha⟩
set_option maxHeartbeats 4000000 in
theorem c_meet {w : World} {news : Led} {a₁ a₂ : Addr} {p₁ q₁ p₂ q₂ : Int} {t₁ t₂ t₃ t₄ : Tok} (h1 : (a₁, tup2 p₁ q₁ t₁ t₂) ∈ news) (h2 : (a₂, tup2 p₂ q₂ t₃ t₄) ∈ news) : Ct w 84 [.ref a₁, .ref a₂] 1 8 news (fun r news' => news = news' ∧ r = .bool (decide (p₁ ≤ q₂ ∧ p₂ ≤ q₁ ∧ p₁ ≤ q₁ ∧ p₂ ≤ q₂))) := by
  unfold Ct
  intro p loose mean mg mb dp un gd cn cs a ccd cl outer A₀ base h₀ L m s Q E B F X N T hk hd hu hret
  refine wpAny_call ?_
  k_dflt cell_enter
  k_steps
  refine Stop.go ?_
  k_dflt (refine max_led (by rfl) (by k_asm) (by k_asm) ?_)
  intro a t' h' tk' ha F' N'
  (try k_sweep)
  k_steps
  refine Stop.go ?_
  k_dflt (refine min_led (by rfl) (by k_asm) (by k_asm) ?_)
  intro b t' h' tk' hb F' N'
  (try k_sweep)
  k_steps
  exact hret _ _ _ _ (by k_asm) (by k_asm) ⟨rfl, congrArg Value.bool (meet_eq ha hb)⟩
set_option maxHeartbeats 4000000 in
theorem c_meetL {w : World} {news : Led} {a₁ a₂ : Addr} {n : Nat} {p₁ q₁ p₂ q₂ : Int} {t₁ t₂ t₃ t₄ : Tok} (h1 : (a₁, lst2 p₁ q₁ t₁ t₂ n) ∈ news) (h2 : (a₂, tup2 p₂ q₂ t₃ t₄) ∈ news) : Ct w 84 [.ref a₁, .ref a₂] 1 8 news (fun r news' => news = news' ∧ r = .bool (decide (p₁ ≤ q₂ ∧ p₂ ≤ q₁ ∧ p₁ ≤ q₁ ∧ p₂ ≤ q₂))) := by
  unfold Ct
  intro p loose mean mg mb dp un gd cn cs a ccd cl outer A₀ base h₀ L m s Q E B F X N T hk hd hu hret
  refine wpAny_call ?_
  k_dflt cell_enter
  k_steps
  refine Stop.go ?_
  k_dflt (refine max_led (by rfl) (by k_asm) (by k_asm) ?_)
  intro a t' h' tk' ha F' N'
  (try k_sweep)
  k_steps
  refine Stop.go ?_
  k_dflt (refine min_led (by rfl) (by k_asm) (by k_asm) ?_)
  intro b t' h' tk' hb F' N'
  (try k_sweep)
  k_steps
  exact hret _ _ _ _ (by k_asm) (by k_asm) ⟨rfl, congrArg Value.bool (meet_eq ha hb)⟩
set_option maxHeartbeats 4000000 in
theorem c_divby {w : World} {news : Led} {self : Addr} {y z : Int} {t₁ t₂ : Tok} (hy : y ≠ 0) (hb : -1000 < y ∧ y < 1000) : Ct w 206 [.ref self, .int y t₁, .int z t₂] 1 8 news (fun r news' => ∃ a lo hi t₃ t₄, news' = (a, tup2 lo hi t₃ t₄) :: news ∧ r = .ref a ∧ lo ≤ hi ∧ ∀ x, Int.tdiv x y = z ↔ lo ≤ x ∧ x ≤ hi) := by
  have hm : 1 ≤ (if y < 0 then -y else y) := by split <;> omega
  unfold Ct
  intro p loose mean mg mb dp un gd cn cs a ccd cl outer A₀ base h₀ L m s Q E B F X N T hk hd hu hret
  refine wpAny_call ?_
  k_dflt cell_enter
  k_steps
  · exact hret _ _ _ _ (by k_asm) (by k_asm) ⟨_, _, _, _, _, rfl, rfl, by omega, fun x => by rw [tdiv_iff hy, if_pos (by assumption)]⟩
  · exact hret _ _ _ _ (by k_asm) (by k_asm) ⟨_, _, _, _, _, rfl, rfl, by omega, fun x => by rw [tdiv_iff hy, if_neg (by assumption), if_pos (by assumption)]⟩
  · exact hret _ _ _ _ (by k_asm) (by k_asm) ⟨_, _, _, _, _, rfl, rfl, by omega, fun x => by rw [tdiv_iff hy, if_neg (by assumption), if_neg (by assumption)]⟩
theorem e_divby {G : Value → Led → Prop} {news : Led} {q : Int → Int → Prop} (h : ∀ a lo hi t u, lo ≤ hi → q lo hi → G (.ref a) ((a, tup2 lo hi t u) :: news)) : ∀ r n, (∃ a lo hi t u, n = (a, tup2 lo hi t u) :: news ∧ r = .ref a ∧ lo ≤ hi ∧ q lo hi) → G r n := by
  rintro _ _ ⟨a, lo, hi, t, u, rfl, rfl, h1, h2⟩
  exact h a lo hi t u h1 h2
set_option maxHeartbeats 8000000 in
theorem c_divs {w : World} {news : Led} {self lr ax ay az : Addr} {n : Nat} {x0 x1 y0 y1 : Int} {t₁ t₂ t₃ t₄ : Tok} (h1 : (lr, listOf [Value.ref ax, Value.ref ay, Value.ref az].toArray n) ∈ news) (h2 : (ax, tup2 x0 x1 t₁ t₂) ∈ news) (h3 : (ay, tup2 y0 y1 t₃ t₄) ∈ news)
    (hx : -100 ≤ x0 ∧ x0 ≤ x1 ∧ x1 ≤ 100) (hy : -100 ≤ y0 ∧ y0 ≤ y1 ∧ y1 ≤ 100) :
    Ct w 166 [.ref self, .ref lr] 4 24 news (fun r news' => ∃ l us ds nn, r = .ref l ∧ news' = (l, listOf us.toArray nn) :: news ∧ IntsAre us ds ∧ DivsOK x0 x1 y0 y1 ds) := by
  unfold Ct
  intro p loose mean mg mb dp un gd cn cs a ccd cl outer A₀ base h₀ L m s Q E B F X N T hk hd hu hret
  refine wpAny_call ?_
  k_dflt cell_enter
  k_steps
  refine Stop.go ?_
  k_dflt (refine' ct_use (c_size ?c1 ?c2) ?k1 ?k2 ?k3 ?k4 ?k5 ?kK ?kd ?ku ?_)
  case k1 => k_asm
  case k2 => k_asm
  case k3 => k_asm
  case k4 => k_asm
  case k5 => k_asm
  case kK => first | exact rfl | assumption
  case c1 => k_mem
  case c2 => assumption
  case kd => ktr_room
  case ku => ktr_units
  refine e_size ?_
  intro n' t' hn0 hn1 hn2 hn3 h' tk' F' N'
  try dsimp only
  try k_fold
  k_steps
  refine Stop.go ?_
  k_dflt (refine max_led (by rfl) (by k_asm) (by k_asm) ?_)
  intro f t' h' tk' hf F' N'
  (try k_sweep)
  k_steps
  refine Stop.go ?_
  k_dflt (refine min_led (by rfl) (by k_asm) (by k_asm) ?_)
  intro l t' h' tk' hl F' N'
  (try k_sweep)
  k_steps
  · refine hret _ _ _ _ (by k_asm) (kst_newsOf (by k_asm) (by kst_allIn)) ⟨_, _, _, _, rfl, rfl, .cons _ _ .nil, divsOK_one ⟨hn2, hn3⟩ hn0 (by omega) (far_of (max_or hf) (min_or hl) (by omega))⟩
  · refine hret _ _ _ _ (by k_asm) (kst_newsOf (by k_asm) (by kst_allIn)) ⟨_, _, _, _, rfl, rfl, .cons _ _ .nil, divsOK_one ⟨hn2, hn3⟩ hn0 (by omega) (far_of (max_or hf) (min_or hl) (by omega))⟩
  refine Stop.go ?_
  k_dflt (refine ListComp_F (by k_asm) (by with_unfolding_all rfl) (by decide) (by rfl) (by decide) (by rfl) ?_)
  k_steps
  k_dflt (refine' filt_range (fun k => decide (k ≠ 0)) ?s0 ?k1 ?k2 ?k3 ?s1 ?s2 ?s3 ?s4 (fun k' t' I' oI' C' oC' D' m' ys' h' tk' E' hlo' hhi' hC' hx' F' N' => ?_) ?_)
  case s0 => rfl
  case k1 => k_asm
  case k2 => k_asm
  case k3 => assumption
  case s1 => omega
  case s2 => intro _; rfl
  case s3 => intro _; rfl
  case s4 => decide
  · k_steps
    exact ⟨bne_decide, _, _, _, rfl, by k_asm, by k_asm, fun _ h => h⟩
  · intro g' ys' hy'
    k_steps
    exact hret _ ((_, LCg.lst ys') :: news) _ _ (by k_asm) (kst_newsOf (by k_asm) (by kst_allIn)) ⟨_, _, _, _, rfl, rfl, hy', divsOK_range ⟨hy.1, hy.2.2⟩ ⟨hn2, hn3⟩ hn0 (by omega) (max_or hf) (min_or hl)⟩
theorem e_divs {G : Value → Led → Prop} {news : Led} {q : List Int → Prop} (h : ∀ l us ds nn, IntsAre us ds → q ds → G (.ref l) ((l, listOf us.toArray nn) :: news)) : ∀ r n, (∃ l us ds nn, r = .ref l ∧ n = (l, listOf us.toArray nn) :: news ∧ IntsAre us ds ∧ q ds) → G r n := by
  rintro _ _ ⟨l, us, ds, nn, rfl, rfl, h1, h2⟩
  exact h l us ds nn h1 h2
set_option maxHeartbeats 8000000 in
theorem c_outer1 {w : World} {news : Led} {self lr ax ay az : Addr} {n : Nat} {t : Tok} (h1 : (lr, listOf [Value.ref ax, Value.ref ay, Value.ref az].toArray n) ∈ news) :
    Ct w 213 [.ref self, .ref lr, .int 1 t] 4 24 news (fun r news' => news = news' ∧ r = .ref ay) := by
  unfold Ct
  intro p loose mean mg mb dp un gd cn cs a ccd cl outer A₀ base h₀ L m s Q E B F X N T hk hd hu hret
  refine wpAny_call ?_
  k_dflt cell_enter
  k_steps
  exact hret _ _ _ _ (by k_asm) (by k_asm) ⟨rfl, rfl⟩
set_option maxHeartbeats 8000000 in
theorem c_outer2 {w : World} {news : Led} {self lr ax ay az : Addr} {n : Nat} {x0 x1 : Int} {t t₁ t₂ : Tok} (h1 : (lr, listOf [Value.ref ax, Value.ref ay, Value.ref az].toArray n) ∈ news) (h2 : (ax, tup2 x0 x1 t₁ t₂) ∈ news)
    (hx : -100 ≤ x0 ∧ x0 ≤ x1 ∧ x1 ≤ 100) :
    Ct w 213 [.ref self, .ref lr, .int 2 t] 4 24 news (fun r news' => ∃ d hi t₃ t₄, r = .ref d ∧ news' = (d, tup2 (-hi) hi t₃ t₄) :: news ∧ -hi ≤ x0 ∧ x1 ≤ hi) := by
  unfold Ct
  intro p loose mean mg mb dp un gd cn cs a ccd cl outer A₀ base h₀ L m s Q E B F X N T hk hd hu hret
  refine wpAny_call ?_
  k_dflt cell_enter
  k_steps
  refine Stop.go ?_
  k_dflt (refine' ct_use (c_size ?c1 ?c2) ?k1 ?k2 ?k3 ?k4 ?k5 ?kK ?kd ?ku ?_)
  case k1 => k_asm
  case k2 => k_asm
  case k3 => k_asm
  case k4 => k_asm
  case k5 => k_asm
  case kK => first | exact rfl | assumption
  case c1 => k_mem
  case c2 => assumption
  case kd => ktr_room
  case ku => ktr_units
  refine e_size ?_
  intro n' t' hn0 hn1 hn2 hn3 h' tk' F' N'
  try dsimp only
  try k_fold
  k_steps
  exact hret _ _ _ _ (by k_asm) (by k_asm) ⟨_, _, _, _, rfl, rfl, hn2, hn3⟩
set_option maxHeartbeats 8000000 in
theorem c_outer0 {w : World} {news : Led} {self lr ax ay az : Addr} {n : Nat} {y0 y1 z0 z1 : Int} {t t₁ t₂ t₃ t₄ : Tok} (h1 : (lr, listOf [Value.ref ax, Value.ref ay, Value.ref az].toArray n) ∈ news) (h2 : (ay, tup2 y0 y1 t₁ t₂) ∈ news) (h3 : (az, tup2 z0 z1 t₃ t₄) ∈ news)
    (hy : -100 ≤ y0 ∧ y0 ≤ y1 ∧ y1 ≤ 100) (hz : -100 ≤ z0 ∧ z0 ≤ z1 ∧ z1 ≤ 100) :
    Ct w 213 [.ref self, .ref lr, .int 0 t] 4 24 news (fun r news' => ∃ d p q hi t₃ t₄, r = .ref d ∧ news' = (d, tup2 (-hi) hi t₃ t₄) :: news ∧ hi = (p + 1) * q - 1 ∧ -p ≤ z0 ∧ z1 ≤ p ∧ -q ≤ y0 ∧ y1 ≤ q) := by
  unfold Ct
  intro p loose mean mg mb dp un gd cn cs a ccd cl outer A₀ base h₀ L m s Q E B F X N T hk hd hu hret
  refine wpAny_call ?_
  k_dflt cell_enter
  k_steps
  refine Stop.go ?_
  k_dflt (refine' ct_use (c_size ?c1 ?c2) ?k1 ?k2 ?k3 ?k4 ?k5 ?kK ?kd ?ku ?_)
  case k1 => k_asm
  case k2 => k_asm
  case k3 => k_asm
  case k4 => k_asm
  case k5 => k_asm
  case kK => first | exact rfl | assumption
  case c1 => k_mem
  case c2 => exact hz
  case kd => ktr_room
  case ku => ktr_units
  refine e_size ?_
  intro n' t' hn0 hn1 hn2 hn3 h' tk' F' N'
  try dsimp only
  try k_fold
  k_steps
  refine Stop.go ?_
  k_dflt (refine' ct_use (c_size ?c1 ?c2) ?k1 ?k2 ?k3 ?k4 ?k5 ?kK ?kd ?ku ?_)
  case k1 => k_asm
  case k2 => k_asm
  case k3 => k_asm
  case k4 => k_asm
  case k5 => k_asm
  case kK => first | exact rfl | assumption
  case c1 => k_mem
  case c2 => exact hy
  case kd => ktr_room
  case ku => ktr_units
  refine e_size ?_
  intro p' u' hp0 hp1 hp2 hp3 h' tk' F' N'
  try dsimp only
  try k_fold
  k_steps
  exact hret _ _ _ _ (by k_asm) (by k_asm) ⟨_, _, _, _, _, _, rfl, rfl, rfl, hn2, hn3, hp2, hp3⟩
def Can0 (y0 y1 z0 z1 x : Int) : Prop := ∃ y, y0 ≤ y ∧ y ≤ y1 ∧ y ≠ 0 ∧ z0 ≤ Int.tdiv x y ∧ Int.tdiv x y ≤ z1
theorem can0_of {x0 x1 y0 y1 z0 z1 x : Int} {ds : List Int} (h : DivsOK x0 x1 y0 y1 ds) (hx : x0 ≤ x ∧ x ≤ x1) :
    (!decide (ds.filter (fun k => decide (z0 ≤ Int.tdiv x k ∧ Int.tdiv x k ≤ z1)) = [])) = true ↔ Can0 y0 y1 z0 z1 x := by
  rw [Bool.not_eq_true', decide_eq_false_iff_not, List.filter_eq_nil_iff]
  constructor
  · intro hn
    refine Classical.byContradiction fun hc => hn fun d hd hq => hc ?_
    have := h.2.1 d hd
    have hq' := of_decide_eq_true hq
    exact ⟨d, this.2.1, this.2.2, this.1, hq'.1, hq'.2⟩
  · rintro ⟨y, h1, h2, h3, h4, h5⟩ hn
    obtain ⟨d, hd, hx'⟩ := h.2.2 y h1 h2 h3
    exact hn d hd (decide_eq_true (by rw [← hx' x hx.1 hx.2]; exact ⟨h4, h5⟩))
set_option maxHeartbeats 8000000 in
theorem c_can0 {w : World} {news : Led} {self sd lr ax ay az : Addr} {n : Nat} {x0 x1 y0 y1 z0 z1 x : Int} {t tx t₁ t₂ t₃ t₄ t₅ t₆ : Tok} {g1 g2 g3 g4 : Int} {k1 k2 k3 k4 : Tok} {v1 v2 v3 v4 : Value} {nn : Nat}
    (i1 : (self, instObj 223 sd) ∈ news) (i2 : (sd, selfD g1 g2 g3 g4 k1 k2 k3 k4 v1 v2 v3 v4 nn) ∈ news)
    (h1 : (lr, listOf [Value.ref ax, Value.ref ay, Value.ref az].toArray n) ∈ news) (h2 : (ax, tup2 x0 x1 t₁ t₂) ∈ news) (h3 : (ay, tup2 y0 y1 t₃ t₄) ∈ news) (h4 : (az, tup2 z0 z1 t₅ t₆) ∈ news)
    (hx : -100 ≤ x0 ∧ x0 ≤ x1 ∧ x1 ≤ 100) (hy : -100 ≤ y0 ∧ y0 ≤ y1 ∧ y1 ≤ 100) (hz : z0 ≤ z1) (hv : x0 ≤ x ∧ x ≤ x1) :
    Ct w 199 [.ref self, .ref lr, .int 0 t, .int x tx] 10 80 news (fun r news' => news = news' ∧ ∃ b, r = .bool b ∧ (b = true ↔ Can0 y0 y1 z0 z1 x)) := by
  unfold Ct
  intro p loose mean mg mb dp un gd cn cs a ccd cl outer A₀ base h₀ L m s Q E B F X N T hk hd hu hret
  refine wpAny_call ?_
  k_dflt (refine' code_defC ?k1 ?k2 ?k3 ?k4 ?k5 ?kA ?kF ?kK ?k6 ?k7 ?k8 ?k9 ?kB ?kD ?_ ?c2 ?c3 ?c4; (case kA => exact rfl); (case kF => exact rfl); (case kK => assumption); (case k1 => k_asm); (case k2 => k_asm); (case k3 => k_asm); (case k4 => k_asm); (case k5 => k_asm); (case k6 => k_is); (case k7 => k_is); (case k8 => ktr_room); (case k9 => exact BindsTo.of_eq rfl); (case kB => exact rfl); (case kD => decide +kernel); (case c2 => exact rfl); (case c3 => exact rfl); (case c4 => exact rfl); k_whole; intro g' L' h' tk' cells' FG' F' N' Y' B' X' T' l1; (try k_lt l1); k_cells Y'; (try simp only [List.cons_append, List.nil_append] at N'); (try dsimp only); (try k_lift B'); (try k_fold))
  k_steps
  refine Stop.go ?_
  k_dflt (refine ListComp_F (by k_asm) (by with_unfolding_all rfl) (by decide) (by rfl) (by decide) (by rfl) ?_)
  k_steps
  refine Stop.go ?_
  k_dflt (refine' ct_use (c_divs ?c1 ?c2 ?c3 ?c4 ?c5) ?k1 ?k2 ?k3 ?k4 ?k5 ?kK ?kd ?ku ?_)
  case k1 => k_asm
  case k2 => k_asm
  case k3 => k_asm
  case k4 => k_asm
  case k5 => k_asm
  case kK => first | exact rfl | assumption
  case c1 => k_mem
  case c2 => k_mem
  case c3 => k_mem
  case c4 => exact hx
  case c5 => exact hy
  case kd => ktr_room
  case ku => ktr_units
  refine e_divs ?_
  intro l' us' ds' nn' hds' hok' h' tk' F' N'
  try dsimp only
  try k_fold
  k_dflt (refine' filt_list (fun k => decide (z0 ≤ Int.tdiv x k ∧ Int.tdiv x k ≤ z1)) ?s0 ?k1 ?k2 ?k3 ?k4 ?s1 ?s2 ?s3 ?s4 (fun k' t' I' oI' C' oC' D' m' ys' h' tk' E' hmem' hC' hx' F' N' => ?_) ?_)
  case s0 => rfl
  case k1 => k_asm
  case k2 => k_asm
  case k3 => k_mem
  case k4 => exact hds'
  case s1 => rw [PySem.sizeLine_eq]; have := hok'.1; omega
  case s2 => intro _; rfl
  case s3 => intro _; rfl
  case s4 => decide
  · have hk0 := hok'.2.1 _ hmem'
    k_steps
    refine Stop.go ?_
    k_dflt (refine' ct_use (c_trunc ?c1 ?c2) ?k1 ?k2 ?k3 ?k4 ?k5 ?kK ?kd ?ku ?_)
    case k1 => k_asm
    case k2 => k_asm
    case k3 => k_asm
    case k4 => k_asm
    case k5 => k_asm
    case kK => first | exact rfl | assumption
    case c1 => exact hk0.1
    case c2 => omega
    case kd => ktr_room
    case ku => ktr_units
    refine e_trunc ?_
    intro t1' h' tk' F' N'
    try dsimp only
    try k_fold
    k_steps
    refine Stop.go ?_
    k_dflt (refine' ct_use (c_trunc ?c1 ?c2) ?k1 ?k2 ?k3 ?k4 ?k5 ?kK ?kd ?ku ?_)
    case k1 => k_asm
    case k2 => k_asm
    case k3 => k_asm
    case k4 => k_asm
    case k5 => k_asm
    case kK => first | exact rfl | assumption
    case c1 => exact hk0.1
    case c2 => omega
    case kd => ktr_room
    case ku => ktr_units
    refine e_trunc ?_
    intro t2' h' tk' F' N'
    try dsimp only
    try k_fold
    k_steps
    refine Stop.go ?_
    k_dflt (refine' ct_use (c_meet ?c1 ?c2) ?k1 ?k2 ?k3 ?k4 ?k5 ?kK ?kd ?ku ?_)
    case k1 => k_asm
    case k2 => k_asm
    case k3 => k_asm
    case k4 => k_asm
    case k5 => k_asm
    case kK => first | exact rfl | assumption
    case c1 => k_mem
    case c2 => k_mem
    case kd => ktr_room
    case ku => ktr_units
    refine e_same ?_
    intro  h' tk' F' N'
    try dsimp only
    try k_fold
    k_steps
    refine ⟨decide_eq_decide.mpr ⟨fun h => ⟨h.1, h.2.1⟩, fun h => ⟨h.1, h.2, hz, Int.le_refl _⟩⟩, _, _, _, rfl, by k_asm, by k_asm, by kst_allIn⟩
  · intro g' ys' hy'
    k_steps
    refine Stop.go ?_
    k_dflt (refine ne_intsK (News.isList (by k_asm) (.tail _ (.head _))) hy' (News.isList (by k_asm) (.head _)) .nil (by ktr_units) ?_)
    k_steps
    exact hret _ _ _ _ (by k_asm) (kst_newsOf (by k_asm) (by kst_allIn)) ⟨rfl, _, rfl, can0_of hok' hv⟩
def Can2 (x0 x1 y0 y1 z : Int) : Prop := ∃ y, y0 ≤ y ∧ y ≤ y1 ∧ y ≠ 0 ∧ ∃ x, x0 ≤ x ∧ x ≤ x1 ∧ Int.tdiv x y = z
noncomputable def can2q (x0 x1 z k : Int) : Bool := @decide (∃ x, x0 ≤ x ∧ x ≤ x1 ∧ Int.tdiv x k = z) (Classical.propDecidable _)
theorem can2_of {x0 x1 y0 y1 z : Int} {ds : List Int} (h : DivsOK x0 x1 y0 y1 ds) :
    (!decide (ds.filter (can2q x0 x1 z) = [])) = true ↔ Can2 x0 x1 y0 y1 z := by
  rw [Bool.not_eq_true', decide_eq_false_iff_not, List.filter_eq_nil_iff]
  constructor
  · intro hn
    refine Classical.byContradiction fun hc => hn fun d hd hq => hc ?_
    have := h.2.1 d hd
    exact ⟨d, this.2.1, this.2.2, this.1, @of_decide_eq_true _ (Classical.propDecidable _) hq⟩
  · rintro ⟨y, h1, h2, h3, x, h4, h5, h6⟩ hn
    obtain ⟨d, hd, hx'⟩ := h.2.2 y h1 h2 h3
    exact hn d hd (@decide_eq_true _ (Classical.propDecidable _) ⟨x, h4, h5, by rw [← hx' x h4 h5]; exact h6⟩)
theorem can2q_eq {x0 x1 z k lo hi : Int} (hx : x0 ≤ x1) (hl : lo ≤ hi) (h : ∀ x, Int.tdiv x k = z ↔ lo ≤ x ∧ x ≤ hi) : decide (lo ≤ x1 ∧ x0 ≤ hi ∧ lo ≤ hi ∧ x0 ≤ x1) = can2q x0 x1 z k := by
  unfold can2q
  refine decide_eq_decide.mpr ⟨fun hh => ?_, fun ⟨x, h1, h2, h3⟩ => ?_⟩
  · by_cases hc : x0 ≤ lo
    · exact ⟨lo, hc, hh.1, (h lo).mpr ⟨Int.le_refl _, hl⟩⟩
    · exact ⟨x0, Int.le_refl _, hx, (h x0).mpr ⟨by omega, hh.2.1⟩⟩
  · have := (h x).mp h3
    exact ⟨Int.le_trans this.1 h2, Int.le_trans h1 this.2, hl, hx⟩
set_option maxHeartbeats 8000000 in
theorem c_can2 {w : World} {news : Led} {self sd lr ax ay az : Addr} {n : Nat} {x0 x1 y0 y1 z : Int} {t tx t₁ t₂ t₃ t₄ : Tok} {g1 g2 g3 g4 : Int} {k1 k2 k3 k4 : Tok} {v1 v2 v3 v4 : Value} {nn : Nat}
    (i1 : (self, instObj 223 sd) ∈ news) (i2 : (sd, selfD g1 g2 g3 g4 k1 k2 k3 k4 v1 v2 v3 v4 nn) ∈ news)
    (h1 : (lr, listOf [Value.ref ax, Value.ref ay, Value.ref az].toArray n) ∈ news) (h2 : (ax, tup2 x0 x1 t₁ t₂) ∈ news) (h3 : (ay, tup2 y0 y1 t₃ t₄) ∈ news)
    (hx : -100 ≤ x0 ∧ x0 ≤ x1 ∧ x1 ≤ 100) (hy : -100 ≤ y0 ∧ y0 ≤ y1 ∧ y1 ≤ 100) :
    Ct w 199 [.ref self, .ref lr, .int 2 t, .int z tx] 10 80 news (fun r news' => news = news' ∧ ∃ b, r = .bool b ∧ (b = true ↔ Can2 x0 x1 y0 y1 z)) := by
  unfold Ct
  intro p loose mean mg mb dp un gd cn cs a ccd cl outer A₀ base h₀ L m s Q E B F X N T hk hd hu hret
  refine wpAny_call ?_
  k_dflt (refine' code_defC ?k1 ?k2 ?k3 ?k4 ?k5 ?kA ?kF ?kK ?k6 ?k7 ?k8 ?k9 ?kB ?kD ?_ ?c2 ?c3 ?c4; (case kA => exact rfl); (case kF => exact rfl); (case kK => assumption); (case k1 => k_asm); (case k2 => k_asm); (case k3 => k_asm); (case k4 => k_asm); (case k5 => k_asm); (case k6 => k_is); (case k7 => k_is); (case k8 => ktr_room); (case k9 => exact BindsTo.of_eq rfl); (case kB => exact rfl); (case kD => decide +kernel); (case c2 => exact rfl); (case c3 => exact rfl); (case c4 => exact rfl); k_whole; intro g' L' h' tk' cells' FG' F' N' Y' B' X' T' l1; (try k_lt l1); k_cells Y'; (try simp only [List.cons_append, List.nil_append] at N'); (try dsimp only); (try k_lift B'); (try k_fold))
  k_steps
  refine Stop.go ?_
  k_dflt (refine ListComp_F (by k_asm) (by with_unfolding_all rfl) (by decide) (by rfl) (by decide) (by rfl) ?_)
  k_steps
  refine Stop.go ?_
  k_dflt (refine' ct_use (c_divs ?c1 ?c2 ?c3 ?c4 ?c5) ?k1 ?k2 ?k3 ?k4 ?k5 ?kK ?kd ?ku ?_)
  case k1 => k_asm
  case k2 => k_asm
  case k3 => k_asm
  case k4 => k_asm
  case k5 => k_asm
  case kK => first | exact rfl | assumption
  case c1 => k_mem
  case c2 => k_mem
  case c3 => k_mem
  case c4 => exact hx
  case c5 => exact hy
  case kd => ktr_room
  case ku => ktr_units
  refine e_divs ?_
  intro l' us' ds' nn' hds' hok' h' tk' F' N'
  try dsimp only
  try k_fold
  k_dflt (refine' filt_list (can2q x0 x1 z) ?s0 ?k1 ?k2 ?k3 ?k4 ?s1 ?s2 ?s3 ?s4 (fun k' t' I' oI' C' oC' D' m' ys' h' tk' E' hmem' hC' hx' F' N' => ?_) ?_)
  case s0 => rfl
  case k1 => k_asm
  case k2 => k_asm
  case k3 => k_mem
  case k4 => exact hds'
  case s1 => rw [PySem.sizeLine_eq]; have := hok'.1; omega
  case s2 => intro _; rfl
  case s3 => intro _; rfl
  case s4 => decide
  · have hk0 := hok'.2.1 _ hmem'
    k_steps
    refine Stop.go ?_
    k_dflt (refine' ct_use (c_divby ?c1 ?c2) ?k1 ?k2 ?k3 ?k4 ?k5 ?kK ?kd ?ku ?_)
    case k1 => k_asm
    case k2 => k_asm
    case k3 => k_asm
    case k4 => k_asm
    case k5 => k_asm
    case kK => first | exact rfl | assumption
    case c1 => exact hk0.1
    case c2 => omega
    case kd => ktr_room
    case ku => ktr_units
    refine e_divby ?_
    intro a' lo' hi' t1' u1' hlh' hdv' h' tk' F' N'
    try dsimp only
    try k_fold
    k_steps
    refine Stop.go ?_
    k_dflt (refine' ct_use (c_meet ?c1 ?c2) ?k1 ?k2 ?k3 ?k4 ?k5 ?kK ?kd ?ku ?_)
    case k1 => k_asm
    case k2 => k_asm
    case k3 => k_asm
    case k4 => k_asm
    case k5 => k_asm
    case kK => first | exact rfl | assumption
    case c1 => k_mem
    case c2 => k_mem
    case kd => ktr_room
    case ku => ktr_units
    refine e_same ?_
    intro  h' tk' F' N'
    try dsimp only
    try k_fold
    k_steps
    exact ⟨can2q_eq hx.2.1 hlh' hdv', _, _, _, rfl, by k_asm, by k_asm, by kst_allIn⟩
  · intro g' ys' hy'
    k_steps
    refine Stop.go ?_
    k_dflt (refine ne_intsK (News.isList (by k_asm) (.tail _ (.head _))) hy' (News.isList (by k_asm) (.head _)) .nil (by ktr_units) ?_)
    k_steps
    exact hret _ _ _ _ (by k_asm) (kst_newsOf (by k_asm) (by kst_allIn)) ⟨rfl, _, rfl, can2_of hok'⟩
def Can1 (x0 x1 z0 z1 y : Int) : Prop := y ≠ 0 ∧ ∃ x, x0 ≤ x ∧ x ≤ x1 ∧ z0 ≤ Int.tdiv x y ∧ Int.tdiv x y ≤ z1
theorem perm_two {a b c d : Int} (p : [a, b].Perm [c, d]) : (a = c ∧ b = d) ∨ (a = d ∧ b = c) := by
  have h1 : a ∈ [c, d] := p.subset (.head _)
  rcases List.mem_cons.mp h1 with rfl | e
  · exact .inl ⟨rfl, List.mem_singleton.mp (((List.perm_cons _).mp p).subset (.head _))⟩
  · obtain rfl := List.mem_singleton.mp e
    exact .inr ⟨rfl, List.mem_singleton.mp (((List.perm_cons _).mp (p.trans (List.Perm.swap _ _ _))).subset (.head _))⟩
set_option maxHeartbeats 8000000 in
theorem c_can1 {w : World} {news : Led} {self lr ax ay az : Addr} {n : Nat} {x0 x1 z0 z1 y : Int} {t tx t₁ t₂ t₃ t₄ : Tok}
    (h1 : (lr, listOf [Value.ref ax, Value.ref ay, Value.ref az].toArray n) ∈ news) (h2 : (ax, tup2 x0 x1 t₁ t₂) ∈ news) (h3 : (az, tup2 z0 z1 t₃ t₄) ∈ news)
    (hx : -100 ≤ x0 ∧ x0 ≤ x1 ∧ x1 ≤ 100) (hz : -100 ≤ z0 ∧ z0 ≤ z1 ∧ z1 ≤ 100) (hv : -100 ≤ y ∧ y ≤ 100) :
    Ct w 199 [.ref self, .ref lr, .int 1 t, .int y tx] 10 80 news (fun r news' => news = news' ∧ ∃ b, r = .bool b ∧ (b = true ↔ Can1 x0 x1 z0 z1 y)) := by
  unfold Ct
  intro p loose mean mg mb dp un gd cn cs a ccd cl outer A₀ base h₀ L m s Q E B F X N T hk hd hu hret
  refine wpAny_call ?_
  k_dflt (refine' code_defC ?k1 ?k2 ?k3 ?k4 ?k5 ?kA ?kF ?kK ?k6 ?k7 ?k8 ?k9 ?kB ?kD ?_ ?c2 ?c3 ?c4; (case kA => exact rfl); (case kF => exact rfl); (case kK => assumption); (case k1 => k_asm); (case k2 => k_asm); (case k3 => k_asm); (case k4 => k_asm); (case k5 => k_asm); (case k6 => k_is); (case k7 => k_is); (case k8 => ktr_room); (case k9 => exact BindsTo.of_eq rfl); (case kB => exact rfl); (case kD => decide +kernel); (case c2 => exact rfl); (case c3 => exact rfl); (case c4 => exact rfl); k_whole; intro g' L' h' tk' cells' FG' F' N' Y' B' X' T' l1; (try k_lt l1); k_cells Y'; (try simp only [List.cons_append, List.nil_append] at N'); (try dsimp only); (try k_lift B'); (try k_fold))
  k_steps
  · refine Stop.go ?_
    k_dflt (refine ListComp_Tup (by k_asm) (by with_unfolding_all rfl) (by decide) (by rfl) (by decide) (by rfl) ?_)
    k_steps
    k_dflt (refine' map_tup (fun k => Int.tdiv k y) ?s0 ?k1 ?k2 ?k3 (fun k' t' I' oI' C' oC' D' m' ys' h' tk' E' hC' hx' F' N' => ?_) ?_)
    case s0 => rfl
    case k1 => k_asm
    case k2 => k_asm
    case k3 => k_mem
    · k_steps
      refine Stop.go ?_
      k_dflt (refine' ct_use (c_trunc ?c1 ?c2) ?k1 ?k2 ?k3 ?k4 ?k5 ?kK ?kd ?ku ?_)
      case k1 => k_asm
      case k2 => k_asm
      case k3 => k_asm
      case k4 => k_asm
      case k5 => k_asm
      case kK => first | exact rfl | assumption
      case c1 => assumption
      case c2 => omega
      case kd => ktr_room
      case ku => ktr_units
      refine e_trunc ?_
      intro t1' h' tk' F' N'
      try dsimp only
      try k_fold
      k_steps
      exact map_end (by k_asm) (by k_asm) (by kst_allIn)
    · intro g' ta' tb'
      k_steps
      with_reducible rename List.length _ = 0 + 1 + 1 => e'
      with_reducible rename List.Pairwise _ _ => o'
      with_reducible rename List.Perm _ _ => p'
      obtain ⟨a', b', ua', ub', rfl, rfl⟩ := two_of (by assumption) e'
      have hab : a' ≤ b' := List.rel_of_pairwise_cons o' (List.mem_singleton.mpr rfl)
      refine Stop.go ?_
      k_dflt (refine' ct_use (c_meetL ?c1 ?c2) ?k1 ?k2 ?k3 ?k4 ?k5 ?kK ?kd ?ku ?_)
      case k1 => k_asm
      case k2 => k_asm
      case k3 => k_asm
      case k4 => k_asm
      case k5 => k_asm
      case kK => first | exact rfl | assumption
      case c1 => k_mem
      case c2 => k_mem
      case kd => ktr_room
      case ku => ktr_units
      refine e_same ?_
      intro  h' tk' F' N'
      try dsimp only
      try k_fold
      k_steps
      refine hret _ _ _ _ (by k_asm) (kst_newsOf (by k_asm) (by kst_allIn)) ⟨rfl, _, rfl, ?_⟩
      rw [decide_eq_true_iff]
      refine (can1_iff (by assumption) hx.2.1 hz.2.1 ((perm_two p').imp (fun h => ⟨h.1, h.2, hab⟩) fun h => ⟨h.1, h.2, hab⟩)).trans ?_
      exact ⟨fun h => ⟨by assumption, h⟩, fun h => h.2⟩
  · k_steps
    refine Stop.go ?_
    k_dflt (refine' ct_use (c_meetL ?c1 ?c2) ?k1 ?k2 ?k3 ?k4 ?k5 ?kK ?kd ?ku ?_)
    case k1 => k_asm
    case k2 => k_asm
    case k3 => k_asm
    case k4 => k_asm
    case k5 => k_asm
    case kK => first | exact rfl | assumption
    case c1 => k_mem
    case c2 => k_mem
    case kd => ktr_room
    case ku => ktr_units
    refine e_same ?_
    intro  h' tk' F' N'
    try dsimp only
    try k_fold
    k_steps
    refine hret _ _ _ _ (by k_asm) (kst_newsOf (by k_asm) (by kst_allIn)) ⟨rfl, _, rfl, ?_⟩
    rw [decide_eq_true_iff]
    exact ⟨fun h => absurd h.2.2.1 (by decide), fun h => absurd (by assumption) h.1⟩
abbrev SrcD (w : World) (o : Obj) (lc : Addr) (k : Int) (tk : Tok) : Prop := o.IsDictOf (PySem.strKind pw w) [(Str.ofString "cells", Value.ref lc), (Str.ofString "spot", Value.int k tk)]
theorem stored_spot {a b c : Value} : stored [(Str.ofString "cells", a), (Str.ofString "spot", b)] (Str.ofString "spot") c = [(Str.ofString "cells", a), (Str.ofString "spot", c)] := by rfl
theorem len_led {w : World} {A : Around} {E : Value → Shared → Prop} {s : Shared} {h₀ : Heap} {L l : Addr} {news : Led} {us : List Value} {ns : List Int} {n : Nat} {Q : Value → Shared → Prop}
    (N : News h₀ L s.heap news) (hm : (l, listOf us.toArray n) ∈ news) (hi : IntsAre us ns) (hN : ns.length ≤ 100) (h : Q (.int ns.length (s.toks + 1)) { s with toks := s.toks + 1 + 1 }) :
    wpAny (model pw w) A (call (.builtin "len") [.ref l]) Q E s := by
  have e : us.toArray.size = ns.length := by rw [List.size_toArray, hi.length]
  refine len_list (News.isList N hm) (by rw [e]; omega) ?_
  rw [e]
  exact h
set_option maxHeartbeats 250000 in
theorem c_draw {w : World} {d lc : Addr} {o : Obj} {rest : Led} {us : List Value} {ns : List Int} {n : Nat} {k many : Int} {tk tm : Tok} (hD : SrcD w o lc k tk) (hR : ∀ p ∈ rest, p.1 ≠ d) (hC : (lc, listOf us.toArray n) ∈ rest) (hI : IntsAre us ns)
    (hN : ns.length ≤ 100) (hK : 0 ≤ k ∧ k ≤ 1000) (hW : 1 ≤ many ∧ many ≤ 100) :
    Ct w 237 [.ref d, .int many tm] 1 100 ((d, o) :: rest) (fun r news' => ∃ v t o' tk', r = .int v t ∧ 0 ≤ v ∧ v < many ∧ news' = (d, o') :: rest ∧ SrcD w o' lc (k + 1) tk') := by
  unfold Ct
  intro p loose mean mg mb dp un gd cn cs a ccd cl outer A₀ base h₀ L m s Q E B F X N T hk hd hu hret
  refine wpAny_call ?_
  k_dflt cell_enter
  k_steps
  refine Stop.go ?_
  k_dflt (refine kda_item (knd := PySem.strKind _ _) (by k_asm) (by exact .head _) hD (strKind_is _ _ _ _) (by rfl) ?_)
  k_steps
  refine Stop.go ?_
  k_dflt (refine kda_item (knd := PySem.strKind _ _) (by k_asm) (by exact .head _) hD (strKind_is _ _ _ _) (by rfl) ?_)
  k_steps
  refine Stop.go ?_
  k_dflt (refine kda_set (knd := PySem.strKind _ _) (by k_asm) (kst_newsOf (by k_asm) (by kst_allIn)) (UpdF.head hR) hD (strKind_is _ _ _ _) (by rw [sizeLine_eq]; exact Nat.le_of_ble_eq_true rfl) ?_)
  intro h' o' F' N' hD'
  k_steps
  k_dflt (refine len_led (by k_asm) (.tail _ hC) hI hN ?_)
  k_steps
  refine Stop.go ?_
  k_dflt (refine max_led (by rfl) (by k_asm) (by k_asm) ?_)
  intro M t' h' tk' hM F' N'
  (try k_sweep)
  k_steps
  replace hM := max_or hM
  refine Stop.go ?_
  refine floordiv_int (by omega) ?_ (Or.inl (PyProof.noPylong_small (by omega)))
  k_steps
  refine Stop.go ?_
  rename Fr _ _ _ _ => lF'
  rename News _ _ _ _ => lN'
  k_dflt (refine IfExp_join lF' lN' (¬ ns = []) (fun _ => True) ?t1 ?t2 ?t3 ?t4)
  case t1 =>
    k_steps
    refine Stop.go ?_
    k_dflt (refine ne_intsK (News.isList (by k_asm) (.tail _ (.tail _ hC))) hI (News.isList (by k_asm) (.head _)) .nil (by ktr_units) ?_)
    k_steps
    exact test_out (by k_asm) (kst_newsOf (by k_asm) (by kst_allIn)) (by rw [decide_not])
  case t2 =>
    clear lF' lN'
    intro hne h' tk' F' N'
    have hne : 0 < (ns.length : Int) := Int.natCast_pos.mpr (List.length_pos_iff.mpr hne)
    k_steps
    k_dflt (refine len_led (by k_asm) (.tail _ hC) hI hN ?_)
    k_steps
    refine Stop.go ?_
    have i0 : 0 ≤ k.fmod ns.length := Int.fmod_nonneg_of_pos _ hne
    have i1 : k.fmod ns.length < ns.length := Int.fmod_lt_of_pos _ hne
    obtain ⟨t', ht'⟩ := hI.get (k.fmod ns.length).toNat (ns[(k.fmod ns.length).toNat]'(by omega)) (List.getElem?_eq_getElem _)
    k_dflt (refine item_led (by k_asm) (.tail _ hC) i0 (by omega) ht' ?_)
    k_steps
    exact int_out (by k_asm) (by k_asm) trivial
  case t3 =>
    clear lF' lN'
    intro _ h' tk' F' N'
    k_steps
    exact int_out (by k_asm) (by k_asm) trivial
  case t4 =>
    clear lF' lN'
    intro a t' h' tk' _ F' N'
    k_steps
    exact hret _ _ _ _ (by k_asm) (by k_asm) ⟨_, _, _, _, rfl, Int.fmod_nonneg_of_pos _ (by omega), Int.fmod_lt_of_pos _ (by omega), rfl, stored_spot ▸ hD'⟩
theorem e_draw {w : World} {G : Value → Led → Prop} {rest : Led} {d lc : Addr} {k many : Int} (h : ∀ v t o' tk', 0 ≤ v → v < many → SrcD w o' lc (k + 1) tk' → G (.int v t) ((d, o') :: rest)) : ∀ r n, (∃ v t o' tk', r = .int v t ∧ 0 ≤ v ∧ v < many ∧ n = (d, o') :: rest ∧ SrcD w o' lc (k + 1) tk') → G r n := by
  rintro _ _ ⟨v, t, o', tk', rfl, h1, h2, rfl, h3⟩
  exact h v t o' tk' h1 h2 h3
theorem kr {k : Int} (h : 0 ≤ k ∧ k ≤ 900) : (0 ≤ k ∧ k ≤ 1000) ∧ (0 ≤ k + 1 ∧ k + 1 ≤ 1000) ∧ k + 2 = k + 1 + 1 := by omega
theorem rr {low v many u wide : Int} (h0 : 0 ≤ v) (h1 : v < many) (h2 : 0 ≤ u) (h3 : u < wide) : low ≤ low + v ∧ low + v < low + many ∧ low + v ≤ low + v + u ∧ low + v + u < low + v + wide := by omega
theorem kb {k : Int} (h : 0 ≤ k ∧ k ≤ 800) : (0 ≤ k ∧ k ≤ 1000) ∧ (0 ≤ k + 1 ∧ k + 1 ≤ 900) ∧ (0 ≤ k + 1 ∧ k + 1 ≤ 1000) ∧ (0 ≤ k + 1 + 1 ∧ k + 1 + 1 ≤ 1000) ∧ (0 ≤ k + 1 + 2 ∧ k + 1 + 2 ≤ k + 3) ∧ 0 ≤ k + 1 + 1 + 1 ∧ k + 1 + 1 + 1 ≤ k + 3 := by omega
theorem rd0 {a b : Int} (h0 : -5 ≤ a) (h1 : a < -5 + 11) (h3 : b < a + 6) : -100 ≤ a ∧ b ≤ 100 := by omega
theorem rd1 {v u : Int} (h0 : 0 ≤ v) (h1 : v < 8) (h2 : 0 ≤ u) (h3 : u < 8) : -100 ≤ -3 - v ∧ -3 - v ≤ 3 + u ∧ 3 + u ≤ 100 := by omega
theorem rd2 {a b : Int} (h0 : 6 ≤ a) (h1 : a < 6 + 9) (h2 : a ≤ b) (h3 : b < a + 4) : (-100 ≤ a ∧ b ≤ 100) ∧ -100 ≤ 0 - b ∧ 0 - b ≤ 0 - a ∧ 0 - a ≤ 100 := by omega
set_option maxHeartbeats 1000000 in
theorem c_range {w : World} {d lc : Addr} {o : Obj} {rest : Led} {us : List Value} {ns : List Int} {n : Nat} {k low many wide : Int} {tk tl tm tw : Tok} (hD : SrcD w o lc k tk) (hR : ∀ p ∈ rest, p.1 ≠ d) (hC : (lc, listOf us.toArray n) ∈ rest) (hI : IntsAre us ns)
    (hN : ns.length ≤ 100) (hK : 0 ≤ k ∧ k ≤ 900) (hM : 1 ≤ many ∧ many ≤ 100) (hW : 1 ≤ wide ∧ wide ≤ 100) :
    Ct w 244 [.ref d, .int low tl, .int many tm, .int wide tw] 3 120 ((d, o) :: rest) (fun r news' => ∃ t a b ta tb o' tk', r = .ref t ∧ low ≤ a ∧ a < low + many ∧ a ≤ b ∧ b < a + wide ∧ news' = (t, tup2 a b ta tb) :: (d, o') :: rest ∧ SrcD w o' lc (k + 2) tk' ∧ t ≠ d) := by
  unfold Ct
  intro p loose mean mg mb dp un gd cn cs a ccd cl outer A₀ base h₀ L m s Q E B F X N T hk hd hu hret
  refine wpAny_call ?_
  k_dflt cell_enter
  k_steps
  refine Stop.go ?_
  k_dflt (refine' ct_use (c_draw ?c1 ?c2 ?c3 ?c4 ?c5 ?c6 ?c7) ?k1 ?k2 ?k3 ?k4 ?k5 ?kK ?kd ?ku ?_)
  case k1 => k_asm
  case k2 => k_asm
  case k3 => k_asm
  case k4 => k_asm
  case k5 => k_asm
  case kK => first | exact rfl | assumption
  case c1 => exact hD
  case c2 => exact hR
  case c3 => exact hC
  case c4 => exact hI
  case c5 => exact hN
  case c6 => exact (kr hK).1
  case c7 => exact hM
  case kd => ktr_room
  case ku => ktr_units
  refine e_draw ?_
  intro v1 t1 o1 tk1 hv0 hv1 hD1 h' tk' F' N'
  try dsimp only
  try k_fold
  k_steps
  refine Stop.go ?_
  k_dflt (refine' ct_use (c_draw ?c1 ?c2 ?c3 ?c4 ?c5 ?c6 ?c7) ?k1 ?k2 ?k3 ?k4 ?k5 ?kK ?kd ?ku ?_)
  case k1 => k_asm
  case k2 => k_asm
  case k3 => k_asm
  case k4 => k_asm
  case k5 => k_asm
  case kK => first | exact rfl | assumption
  case c1 => exact hD1
  case c2 => exact hR
  case c3 => exact hC
  case c4 => exact hI
  case c5 => exact hN
  case c6 => exact (kr hK).2.1
  case c7 => exact hW
  case kd => ktr_room
  case ku => ktr_units
  refine e_draw ?_
  intro v2 t2 o2 tk2 hw0 hw1 hD2 h' tk' F' N'
  try dsimp only
  try k_fold
  k_steps
  have hD3 : SrcD w o2 lc (k + 2) tk2 := by rw [(kr hK).2.2]; exact hD2
  have q := @rr low _ _ _ _ hv0 hv1 hw0 hw1
  rename _ < _ ∧ _ => l9
  exact hret _ _ _ _ (by k_asm) (by k_asm) ⟨_, _, _, _, _, _, _, rfl, q.1, q.2.1, q.2.2.1, q.2.2.2, rfl, hD3, Nat.ne_of_gt l9.1⟩
theorem e_range {w : World} {G : Value → Led → Prop} {rest : Led} {d lc : Addr} {k low many wide : Int} (h : ∀ t a b ta tb o' tk', low ≤ a → a < low + many → a ≤ b → b < a + wide → SrcD w o' lc (k + 2) tk' → t ≠ d → G (.ref t) ((t, tup2 a b ta tb) :: (d, o') :: rest)) :
    ∀ r n, (∃ t a b ta tb o' tk', r = .ref t ∧ low ≤ a ∧ a < low + many ∧ a ≤ b ∧ b < a + wide ∧ n = (t, tup2 a b ta tb) :: (d, o') :: rest ∧ SrcD w o' lc (k + 2) tk' ∧ t ≠ d) → G r n := by
  rintro _ _ ⟨t, a, b, ta, tb, o', tk', rfl, h1, h2, h3, h4, rfl, h5, h6⟩
  exact h t a b ta tb o' tk' h1 h2 h3 h4 h5 h6
theorem e_lawdiv {w : World} {G : Value → Led → Prop} {rest : Led} {d lc : Addr} {k : Int} (h : ∀ t a b ta tb o' k' tk', -100 ≤ a → a ≤ b → b ≤ 100 → 0 ≤ k' → k' ≤ k + 3 → SrcD w o' lc k' tk' → t ≠ d → G (.ref t) ((t, tup2 a b ta tb) :: (d, o') :: rest)) :
    ∀ r n, (∃ t a b ta tb o' k' tk', r = .ref t ∧ -100 ≤ a ∧ a ≤ b ∧ b ≤ 100 ∧ 0 ≤ k' ∧ k' ≤ k + 3 ∧ n = (t, tup2 a b ta tb) :: (d, o') :: rest ∧ SrcD w o' lc k' tk' ∧ t ≠ d) → G r n := by
  rintro _ _ ⟨t, a, b, ta, tb, o', k', tk', rfl, h1, h2, h3, h4, h5, rfl, h6, h7⟩
  exact h t a b ta tb o' k' tk' h1 h2 h3 h4 h5 h6 h7
set_option maxHeartbeats 1000000 in
theorem c_lawdiv {w : World} {d lc : Addr} {o : Obj} {rest : Led} {us : List Value} {ns : List Int} {n : Nat} {k : Int} {tk : Tok} (hD : SrcD w o lc k tk) (hR : ∀ p ∈ rest, p.1 ≠ d) (hC : (lc, listOf us.toArray n) ∈ rest) (hI : IntsAre us ns)
    (hN : ns.length ≤ 100) (hK : 0 ≤ k ∧ k ≤ 800) :
    Ct w 251 [.ref d] 5 140 ((d, o) :: rest) (fun r news' => ∃ t a b ta tb o' k' tk', r = .ref t ∧ -100 ≤ a ∧ a ≤ b ∧ b ≤ 100 ∧ 0 ≤ k' ∧ k' ≤ k + 3 ∧ news' = (t, tup2 a b ta tb) :: (d, o') :: rest ∧ SrcD w o' lc k' tk' ∧ t ≠ d) := by
  unfold Ct
  intro p loose mean mg mb dp un gd cn cs a ccd cl outer A₀ base h₀ L m s Q E B F X N T hk hd hu hret
  refine wpAny_call ?_
  k_dflt cell_enter
  k_steps
  refine Stop.go ?_
  k_dflt (refine' ct_use (c_draw ?c1 ?c2 ?c3 ?c4 ?c5 ?c6 ?c7) ?k1 ?k2 ?k3 ?k4 ?k5 ?kK ?kd ?ku ?_)
  case k1 => k_asm
  case k2 => k_asm
  case k3 => k_asm
  case k4 => k_asm
  case k5 => k_asm
  case kK => first | exact rfl | assumption
  case c1 => exact hD
  case c2 => exact hR
  case c3 => exact hC
  case c4 => exact hI
  case c5 => exact hN
  case c6 => exact (kb hK).1
  case c7 => decide
  case kd => ktr_room
  case ku => ktr_units
  refine e_draw ?_
  intro v1 t1 o1 tk1 hv0 hv1 hD1 h' tk' F' N'
  try dsimp only
  try k_fold
  k_steps
  · refine Stop.go ?_
    k_dflt (refine' ct_use (c_range ?c1 ?c2 ?c3 ?c4 ?c5 ?c6 ?c7 ?c8) ?k1 ?k2 ?k3 ?k4 ?k5 ?kK ?kd ?ku ?_)
    case k1 => k_asm
    case k2 => k_asm
    case k3 => k_asm
    case k4 => k_asm
    case k5 => k_asm
    case kK => first | exact rfl | assumption
    case c1 => exact hD1
    case c2 => exact hR
    case c3 => exact hC
    case c4 => exact hI
    case c5 => exact hN
    case c6 => exact (kb hK).2.1
    case c7 => decide
    case c8 => decide
    case kd => ktr_room
    case ku => ktr_units
    refine e_range ?_
    intro t2 a2 b2 ta2 tb2 o2 tk2 ha0 ha1 hb0 hb1 hD2 hne h' tk' F' N'
    try dsimp only
    try k_fold
    k_steps
    exact hret _ _ _ _ (by k_asm) (by k_asm) ⟨_, _, _, _, _, _, _, _, rfl, (rd0 ha0 ha1 hb1).1, hb0, (rd0 ha0 ha1 hb1).2, (kb hK).2.2.2.2.1.1, (kb hK).2.2.2.2.1.2, rfl, hD2, hne⟩
  · refine Stop.go ?_
    k_dflt (refine' ct_use (c_draw ?c1 ?c2 ?c3 ?c4 ?c5 ?c6 ?c7) ?k1 ?k2 ?k3 ?k4 ?k5 ?kK ?kd ?ku ?_)
    case k1 => k_asm
    case k2 => k_asm
    case k3 => k_asm
    case k4 => k_asm
    case k5 => k_asm
    case kK => first | exact rfl | assumption
    case c1 => exact hD1
    case c2 => exact hR
    case c3 => exact hC
    case c4 => exact hI
    case c5 => exact hN
    case c6 => exact (kb hK).2.2.1
    case c7 => decide
    case kd => ktr_room
    case ku => ktr_units
    refine e_draw ?_
    intro v2 t2 o2 tk2 hw0 hw1 hD2 h' tk' F' N'
    try dsimp only
    try k_fold
    k_steps
    refine Stop.go ?_
    k_dflt (refine' ct_use (c_draw ?c1 ?c2 ?c3 ?c4 ?c5 ?c6 ?c7) ?k1 ?k2 ?k3 ?k4 ?k5 ?kK ?kd ?ku ?_)
    case k1 => k_asm
    case k2 => k_asm
    case k3 => k_asm
    case k4 => k_asm
    case k5 => k_asm
    case kK => first | exact rfl | assumption
    case c1 => exact hD2
    case c2 => exact hR
    case c3 => exact hC
    case c4 => exact hI
    case c5 => exact hN
    case c6 => exact (kb hK).2.2.2.1
    case c7 => decide
    case kd => ktr_room
    case ku => ktr_units
    refine e_draw ?_
    intro v3 t3 o3 tk3 hx0 hx1 hD3 h' tk' F' N'
    try dsimp only
    try k_fold
    k_steps
    rename _ < _ ∧ _ => l9
    exact hret _ _ _ _ (by k_asm) (by k_asm) ⟨_, _, _, _, _, _, _, _, rfl, (rd1 hw0 hw1 hx0 hx1).1, (rd1 hw0 hw1 hx0 hx1).2.1, (rd1 hw0 hw1 hx0 hx1).2.2, (kb hK).2.2.2.2.2.1, (kb hK).2.2.2.2.2.2, rfl, hD3, Nat.ne_of_gt l9.1⟩
  · refine Stop.go ?_
    k_dflt (refine' ct_use (c_range ?c1 ?c2 ?c3 ?c4 ?c5 ?c6 ?c7 ?c8) ?k1 ?k2 ?k3 ?k4 ?k5 ?kK ?kd ?ku ?_)
    case k1 => k_asm
    case k2 => k_asm
    case k3 => k_asm
    case k4 => k_asm
    case k5 => k_asm
    case kK => first | exact rfl | assumption
    case c1 => exact hD1
    case c2 => exact hR
    case c3 => exact hC
    case c4 => exact hI
    case c5 => exact hN
    case c6 => exact (kb hK).2.1
    case c7 => decide
    case c8 => decide
    case kd => ktr_room
    case ku => ktr_units
    refine e_range ?_
    intro t2 a2 b2 ta2 tb2 o2 tk2 ha0 ha1 hb0 hb1 hD2 hne h' tk' F' N'
    try dsimp only
    try k_fold
    k_steps
    · rename _ < _ ∧ _ => l9
      exact hret _ _ _ _ (by k_asm) (kst_newsOf (by k_asm) (by kst_allIn)) ⟨_, _, _, _, _, _, _, _, rfl, (rd2 ha0 ha1 hb0 hb1).1.1, hb0, (rd2 ha0 ha1 hb0 hb1).1.2, (kb hK).2.2.2.2.1.1, (kb hK).2.2.2.2.1.2, rfl, hD2, Nat.ne_of_gt l9.2.1⟩
    · rename _ < _ ∧ _ => l9
      exact hret _ _ _ _ (by k_asm) (kst_newsOf (by k_asm) (by kst_allIn)) ⟨_, _, _, _, _, _, _, _, rfl, (rd2 ha0 ha1 hb0 hb1).2.1, (rd2 ha0 ha1 hb0 hb1).2.2.1, (rd2 ha0 ha1 hb0 hb1).2.2.2, (kb hK).2.2.2.2.1.1, (kb hK).2.2.2.2.1.2, rfl, hD2, Nat.ne_of_gt l9.2.1⟩
theorem va_iff {kvs : List (Int × Value)} {k : Int} : (valueAt kvs k).isSome = true ↔ ∃ kv ∈ kvs, kv.1 = k := by
  unfold valueAt
  rw [Option.isSome_map, List.find?_isSome]
  simp only [decide_eq_true_eq]
theorem va_stored {kvs : List (Int × Value)} {k k' : Int} {v : Value} : (valueAt (stored kvs k v) k').isSome = true ↔ (valueAt kvs k').isSome = true ∨ k' = k := by
  rw [va_iff, va_iff]
  unfold stored
  split
  · rename_i h
    obtain ⟨kv, hm, hk⟩ := List.any_eq_true.mp h
    have hk := of_decide_eq_true hk
    constructor
    · rintro ⟨e, he, rfl⟩
      obtain ⟨e', he', rfl⟩ := List.mem_map.mp he
      refine .inl ⟨e', he', ?_⟩
      split <;> rfl
    · rintro (⟨e, he, rfl⟩ | rfl)
      · refine ⟨_, List.mem_map_of_mem he, ?_⟩
        split <;> rfl
      · refine ⟨_, List.mem_map_of_mem hm, ?_⟩
        rw [if_pos hk]; exact hk
  · constructor
    · rintro ⟨e, he, rfl⟩
      rcases List.mem_append.mp he with he | he
      · exact .inl ⟨e, he, rfl⟩
      · exact .inr (by rw [List.mem_singleton.mp he])
    · rintro (⟨e, he, rfl⟩ | rfl)
      · exact ⟨e, List.mem_append_left _ he, rfl⟩
      · exact ⟨_, List.mem_append_right _ (List.mem_singleton.mpr rfl), rfl⟩
def Ok (z0 z1 x y : Int) : Prop := y ≠ 0 ∧ z0 ≤ Int.tdiv x y ∧ Int.tdiv x y ≤ z1
structure HS where
  o0 : Obj
  o1 : Obj
  o2 : Obj
  k0 : List (Int × Value)
  k1 : List (Int × Value)
  k2 : List (Int × Value)
def Held (w : World) (z0 z1 : Int) (S : Int → Int → Prop) (n : Nat) (c : HS) : Prop :=
  (c.o0.IsDictOf (PySem.intKind pw w) c.k0 ∧ c.o1.IsDictOf (PySem.intKind pw w) c.k1 ∧ c.o2.IsDictOf (PySem.intKind pw w) c.k2) ∧ (c.k0.length ≤ n ∧ c.k1.length ≤ n ∧ c.k2.length ≤ n) ∧
  (∀ v, (valueAt c.k0 v).isSome = true ↔ ∃ x y, S x y ∧ Ok z0 z1 x y ∧ v = x) ∧ (∀ v, (valueAt c.k1 v).isSome = true ↔ ∃ x y, S x y ∧ Ok z0 z1 x y ∧ v = y) ∧ ∀ v, (valueAt c.k2 v).isSome = true ↔ ∃ x y, S x y ∧ Ok z0 z1 x y ∧ v = Int.tdiv x y
theorem held_nil {w : World} {z0 z1 : Int} {S : Int → Int → Prop} {n : Nat} {o0 o1 o2 : Obj} (h0 : o0.IsDictOf (PySem.intKind pw w) []) (h1 : o1.IsDictOf (PySem.intKind pw w) []) (h2 : o2.IsDictOf (PySem.intKind pw w) []) (hS : ∀ x y, ¬ S x y) : Held w z0 z1 S n ⟨o0, o1, o2, [], [], []⟩ :=
  ⟨⟨h0, h1, h2⟩, ⟨Nat.zero_le _, Nat.zero_le _, Nat.zero_le _⟩, fun v => ⟨fun h => (nomatch h), fun ⟨x, y, h, _⟩ => absurd h (hS x y)⟩, fun v => ⟨fun h => (nomatch h), fun ⟨x, y, h, _⟩ => absurd h (hS x y)⟩, fun v => ⟨fun h => (nomatch h), fun ⟨x, y, h, _⟩ => absurd h (hS x y)⟩⟩
theorem Held.congr {w : World} {z0 z1 : Int} {S S' : Int → Int → Prop} {n n' : Nat} {c : HS} (h : Held w z0 z1 S n c) (hS : ∀ x y, S x y ↔ S' x y) (hn : n ≤ n') : Held w z0 z1 S' n' c := by
  obtain rfl : S = S' := funext fun x => funext fun y => propext (hS x y)
  exact ⟨h.1, ⟨Nat.le_trans h.2.1.1 hn, Nat.le_trans h.2.1.2.1 hn, Nat.le_trans h.2.1.2.2 hn⟩, h.2.2⟩
theorem skip_iff {S S' : Int → Int → Prop} {z0 z1 a b : Int} {f : Int → Int → Int} (hS : ∀ x y, S' x y ↔ S x y ∨ (x = a ∧ y = b)) (hno : ¬ Ok z0 z1 a b) (v : Int) : (∃ x y, S x y ∧ Ok z0 z1 x y ∧ v = f x y) ↔ ∃ x y, S' x y ∧ Ok z0 z1 x y ∧ v = f x y := by
  constructor
  · rintro ⟨x, y, h1, h2, h3⟩
    exact ⟨x, y, (hS x y).mpr (.inl h1), h2, h3⟩
  · rintro ⟨x, y, h1, h2, h3⟩
    rcases (hS x y).mp h1 with h | ⟨rfl, rfl⟩
    · exact ⟨x, y, h, h2, h3⟩
    · exact absurd h2 hno
theorem put_iff {S S' : Int → Int → Prop} {z0 z1 a b : Int} {f : Int → Int → Int} (hS : ∀ x y, S' x y ↔ S x y ∨ (x = a ∧ y = b)) (hok : Ok z0 z1 a b) (v : Int) : ((∃ x y, S x y ∧ Ok z0 z1 x y ∧ v = f x y) ∨ v = f a b) ↔ ∃ x y, S' x y ∧ Ok z0 z1 x y ∧ v = f x y := by
  constructor
  · rintro (⟨x, y, h1, h2, h3⟩ | h)
    · exact ⟨x, y, (hS x y).mpr (.inl h1), h2, h3⟩
    · exact ⟨a, b, (hS a b).mpr (.inr ⟨rfl, rfl⟩), hok, h⟩
  · rintro ⟨x, y, h1, h2, h3⟩
    rcases (hS x y).mp h1 with h | ⟨rfl, rfl⟩
    · exact .inl ⟨x, y, h, h2, h3⟩
    · exact .inr h3
theorem Held.skip {w : World} {z0 z1 a b : Int} {S S' : Int → Int → Prop} {n : Nat} {c : HS} (h : Held w z0 z1 S n c) (hS : ∀ x y, S' x y ↔ S x y ∨ (x = a ∧ y = b)) (hno : ¬ Ok z0 z1 a b) : Held w z0 z1 S' (n + 1) c :=
  ⟨h.1, ⟨Nat.le_succ_of_le h.2.1.1, Nat.le_succ_of_le h.2.1.2.1, Nat.le_succ_of_le h.2.1.2.2⟩, fun v => (h.2.2.1 v).trans (skip_iff hS hno v), fun v => (h.2.2.2.1 v).trans (skip_iff (f := fun _ y => y) hS hno v), fun v => (h.2.2.2.2 v).trans (skip_iff hS hno v)⟩
theorem Held.put {w : World} {z0 z1 a b z : Int} {S S' : Int → Int → Prop} {n : Nat} {c : HS} {p0 p1 p2 : Obj} {v0 v1 v2 : Value} (h : Held w z0 z1 S n c) (hS : ∀ x y, S' x y ↔ S x y ∨ (x = a ∧ y = b)) (hok : Ok z0 z1 a b) (hz : z = Int.tdiv a b)
    (h0 : p0.IsDictOf (PySem.intKind pw w) (stored c.k0 a v0)) (h1 : p1.IsDictOf (PySem.intKind pw w) (stored c.k1 b v1)) (h2 : p2.IsDictOf (PySem.intKind pw w) (stored c.k2 z v2)) : Held w z0 z1 S' (n + 1) ⟨p0, p1, p2, stored c.k0 a v0, stored c.k1 b v1, stored c.k2 z v2⟩ := by
  subst hz
  have l := fun (k : List (Int × Value)) (a : Int) (v : Value) (hk : k.length ≤ n) => Nat.le_trans (stored_length_le k a v) (Nat.succ_le_succ hk)
  exact ⟨⟨h0, h1, h2⟩, ⟨l _ _ _ h.2.1.1, l _ _ _ h.2.1.2.1, l _ _ _ h.2.1.2.2⟩, fun v => (va_stored.trans (or_congr_left (h.2.2.1 v))).trans (put_iff hS hok v), fun v => (va_stored.trans (or_congr_left (h.2.2.2.1 v))).trans (put_iff (f := fun _ y => y) hS hok v),
    fun v => (va_stored.trans (or_congr_left (h.2.2.2.2 v))).trans (put_iff hS hok v)⟩
theorem often_tdiv {x y o : Int} (hy : y ≠ 0) (h1 : o * (if y < 0 then -y else y) ≤ if x < 0 then -x else x) (h2 : ¬ (o + 1) * (if y < 0 then -y else y) ≤ if x < 0 then -x else x) :
    (if (decide (x < 0) == decide (y < 0)) = true then o else 0 - o) = Int.tdiv x y := by
  rw [← tq_eq]
  have ha : 0 < (if y < 0 then -y else y) := by split <;> omega
  generalize (if y < 0 then -y else y) = ay at *
  generalize (if x < 0 then -x else x) = ax at *
  have e : ax.fdiv ay = o := by
    rw [Int.fdiv_eq_ediv_of_nonneg _ (by omega)]
    have k1 := Int.le_ediv_of_mul_le ha h1
    have k2 := Int.ediv_lt_of_lt_mul ha (Int.not_le.mp h2)
    omega
  rw [e, Int.zero_sub]
theorem often_room {x y o : Int} (hx : -100 ≤ x ∧ x ≤ 100) (hy : y ≠ 0) (h : (o + 1) * (if y < 0 then -y else y) ≤ if x < 0 then -x else x) (h0 : 0 ≤ o) : o < 100 := by
  have ha : 1 ≤ (if y < 0 then -y else y) := by split <;> omega
  have hb : (if x < 0 then -x else x) ≤ 100 := by split <;> omega
  have := Int.mul_le_mul_of_nonneg_left ha (show 0 ≤ o + 1 by omega)
  rw [Int.mul_one] at this
  omega
def WOut (R : Int → Prop) (h₀ : Heap) (L : Addr) (m : Str → Option Value) (news : Led) (s : Shared) (f : Flow) (s' : Shared) : Prop :=
  f = .next ∧ ∃ (o : Int) (t : Tok) (h : Heap) (tk : Nat) (u : Str → Option Value), s' = { s with heap := h, toks := tk } ∧ R o ∧ Fr h₀ L h (kstB (fun z => if List.contains ([] : List Str) z then u z else m z) [(Str.ofString "often", .int o t)]) ∧ News h₀ L h news
theorem w_out {R : Int → Prop} {h₀ h : Heap} {L : Addr} {m : Str → Option Value} {news : Led} {s : Shared} {tk : Nat} {o : Int} {t : Tok} {u : Str → Option Value} (F : Fr h₀ L h (kstB (fun z => if List.contains ([] : List Str) z then u z else m z) [(Str.ofString "often", .int o t)])) (N : News h₀ L h news) (hR : R o) :
    WOut R h₀ L m news s .next { s with heap := h, toks := tk } := ⟨rfl, o, t, h, tk, u, rfl, hR, F, N⟩
def Often (x y o : Int) : Prop := (0 ≤ o ∧ o ≤ 100) ∧ (y ≠ 0 → o * (if y < 0 then -y else y) ≤ (if x < 0 then -x else x) ∧ ¬ (o + 1) * (if y < 0 then -y else y) ≤ if x < 0 then -x else x)
theorem while_join {w : World} {A : Around} {E : Value → Shared → Prop} {Q : Flow → Shared → Prop} {s : Shared} {env : Env} {h₀ : Heap} {L : Addr} {test : Expr} {body : List Stmt} {pos : Pos} {m₀ : Str → Option Value} {news : Led} {t₀ : Tok} (R P : Int → Prop)
    (F : Fr h₀ L s.heap m₀) (N : News h₀ L s.heap news) (hm : m₀ (Str.ofString "often") = some (.int 0 t₀)) (h0 : P 0)
    (turn : ∀ (o : Int) (to : Tok) (u : Str → Option Value) h tk, P o → Fr h₀ L h (kstB (fun z => if List.contains ([] : List Str) z then u z else m₀ z) [(Str.ofString "often", .int o to)]) → News h₀ L h news →
      wpAny (model pw w) A (isTrue test env (eval test env)) (fun b s₂ =>
        if b = true then wpAny (model pw w) A (execs body env) (KswPost h₀ L s (fun _ : Int × Tok => news) (fun c => [(Str.ofString "often", .int c.1 c.2)]) (fun _ => True) [] m₀ (fun c => P c.1) (fun c => (100 - c.1).toNat) (WOut R h₀ L m₀ news s) (o, to)) E s₂ else WOut R h₀ L m₀ news s .next s₂) E { s with heap := h, toks := tk })
    (done : ∀ (o : Int) (t : Tok) h tk (u : Str → Option Value), R o → Fr h₀ L h (kstB (fun z => if List.contains ([] : List Str) z then u z else m₀ z) [(Str.ofString "often", .int o t)]) → News h₀ L h news → Q .next { s with heap := h, toks := tk })
    (hE : PassesOwn (model pw w) A env E := by passes_own) : wpAny (model pw w) A (exec (.While test body [] pos) env) Q E s := by
  refine wpAny_mono (ksw_while (σ := Int × Tok) (fun _ => news) (fun c => [(Str.ofString "often", .int c.1 c.2)]) (fun _ => True) [] (fun c => P c.1) (fun c => (100 - c.1).toNat) (0, t₀) F N trivial (List.forall_mem_cons.mpr ⟨hm, List.forall_mem_nil _⟩) h0 (fun c u h tk _ hp F' N' => turn c.1 c.2 u h tk hp F' N') hE) (fun f s' hw => ?_) fun _ _ e => e
  obtain ⟨rfl, o, t, h, tk, u, rfl, hR, F', N'⟩ := hw
  exact done o t h tk u hR F' N'
theorem ok_iff {x y o z z0 z1 : Int} (hO : Often x y o) (hz : z = if (decide (x < 0) == decide (y < 0)) = true then o else 0 - o) : (y ≠ 0 ∧ z0 ≤ z ∧ z ≤ z1) ↔ Ok z0 z1 x y := by
  unfold Ok
  refine and_congr_right fun hy => ?_
  rw [hz, often_tdiv hy (hO.2 hy).1 (hO.2 hy).2]
theorem ok_eq {x y o z : Int} (hO : Often x y o) (hz : z = if (decide (x < 0) == decide (y < 0)) = true then o else 0 - o) (hy : y ≠ 0) : z = Int.tdiv x y := by
  rw [hz, often_tdiv hy (hO.2 hy).1 (hO.2 hy).2]
theorem seen_snoc {pre pre2 : List Int} {x y : Int} {B : Int → Prop} (a b : Int) : ((a ∈ pre ∧ B b) ∨ (a = x ∧ b ∈ pre2 ++ [y])) ↔ ((a ∈ pre ∧ B b) ∨ (a = x ∧ b ∈ pre2)) ∨ (a = x ∧ b = y) := by
  rw [List.mem_append, List.mem_singleton, and_or_left, or_assoc]
theorem seen_row {pre : List Int} {x y0 y1 : Int} (a b : Int) : ((a ∈ pre ∧ y0 ≤ b ∧ b ≤ y1) ∨ (a = x ∧ b ∈ rangeKs y0 (y1 + 1 - y0).toNat)) ↔ a ∈ pre ++ [x] ∧ y0 ≤ b ∧ b ≤ y1 := by
  have e : b ∈ rangeKs y0 (y1 + 1 - y0).toNat ↔ y0 ≤ b ∧ b ≤ y1 := by
    constructor
    · intro h; have := mem_rangeKs h; omega
    · intro h
      unfold rangeKs
      exact List.mem_map.mpr ⟨(b - y0).toNat, List.mem_range.mpr (by omega), by omega⟩
  rw [List.mem_append, List.mem_singleton, e, or_and_right]
theorem seen_all {x0 x1 y0 y1 : Int} (a b : Int) : (a ∈ rangeKs x0 (x1 + 1 - x0).toNat ∧ y0 ≤ b ∧ b ≤ y1) ↔ (x0 ≤ a ∧ a ≤ x1) ∧ y0 ≤ b ∧ b ≤ y1 := by
  refine and_congr_left fun _ => ⟨fun h => ?_, fun h => ?_⟩
  · have := mem_rangeKs h; omega
  · unfold rangeKs
    exact List.mem_map.mpr ⟨(a - x0).toNat, List.mem_range.mpr (by omega), by omega⟩
theorem led_sub {a b c d : Addr × Obj} {R R2 : Led} (h : ∀ p ∈ R, p ∈ R2) : ∀ p ∈ a :: b :: c :: d :: R, p ∈ a :: b :: c :: d :: R2 := by
  intro p hp
  rcases List.mem_cons.mp hp with rfl | hp
  · exact .head _
  · rcases List.mem_cons.mp hp with rfl | hp
    · exact .tail _ (.head _)
    · rcases List.mem_cons.mp hp with rfl | hp
      · exact .tail _ (.tail _ (.head _))
      · rcases List.mem_cons.mp hp with rfl | hp
        · exact .tail _ (.tail _ (.tail _ (.head _)))
        · exact .tail _ (.tail _ (.tail _ (.tail _ (h p hp))))
theorem led_own {a b c d : Addr × Obj} {R own : Led} (h : ∀ p ∈ own, p ∈ R) : ∀ p ∈ own, p ∈ a :: b :: c :: d :: R := fun p hp => .tail _ (.tail _ (.tail _ (.tail _ (h p hp))))
theorem e_held {w : World} {G : Value → Led → Prop} {news : Led} {z0 z1 : Int} {Seen : Int → Int → Prop} {m : Nat} (h : ∀ lh d0 d1 d2 n c, (d0 == sysModules) = false → (d1 == sysModules) = false → (d2 == sysModules) = false → Held w z0 z1 Seen m c → G (.ref lh) ((lh, listOf [Value.ref d0, Value.ref d1, Value.ref d2].toArray n) :: (d2, c.o2) :: (d1, c.o1) :: (d0, c.o0) :: news)) :
    ∀ r n', (∃ lh d0 d1 d2 n c, r = .ref lh ∧ n' = (lh, listOf [Value.ref d0, Value.ref d1, Value.ref d2].toArray n) :: (d2, c.o2) :: (d1, c.o1) :: (d0, c.o0) :: news ∧ (d0 == sysModules) = false ∧ (d1 == sysModules) = false ∧ (d2 == sysModules) = false ∧ Held w z0 z1 Seen m c) → G r n' := by
  rintro _ _ ⟨lh, d0, d1, d2, n, c, rfl, rfl, h1, h2, h3, h4⟩
  exact h lh d0 d1 d2 n c h1 h2 h3 h4
theorem small_box {a b : Int} (h : -100 ≤ a ∧ a ≤ b ∧ b ≤ 100) : Builtin.Range.small a (b + 1) 1 = true := small_one (Int.le_trans (by decide) h.1) (Int.lt_of_le_of_lt (Int.le_trans h.2.1 h.2.2) (by decide)) (by omega) (by omega)
theorem held_room {p q : Nat} {x0 x1 y0 y1 : Int} (h1 : p < (x1 + 1 - x0).toNat) (h2 : q < (y1 + 1 - y0).toNat) (hx : -100 ≤ x0 ∧ x0 ≤ x1 ∧ x1 ≤ 100) (hy : -100 ≤ y0 ∧ y0 ≤ y1 ∧ y1 ≤ 100) : p * 201 + q ≤ sizeLine := by
  rw [sizeLine_eq]
  omega
theorem in_box {x0 x1 x : Int} {p : Nat} (hx : -100 ≤ x0 ∧ x0 ≤ x1 ∧ x1 ≤ 100) (e : x = x0 + (p : Int)) (h : p < (x1 + 1 - x0).toNat) : -100 ≤ x ∧ x ≤ 100 := by omega
theorem often_step {o : Int} (h0 : 0 ≤ o ∧ o ≤ 100) (hr : o < 100) : (0 ≤ o + 1 ∧ o + 1 ≤ 100) ∧ (100 - (o + 1)).toNat < (100 - o).toNat := by omega
theorem row_room {p : Nat} {y0 y1 : Int} (hy : -100 ≤ y0 ∧ y0 ≤ y1 ∧ y1 ≤ 100) : p * 201 + (y1 + 1 - y0).toNat ≤ (p + 1) * 201 := by omega
theorem all_room {x0 x1 : Int} (hx : -100 ≤ x0 ∧ x0 ≤ x1 ∧ x1 ≤ 100) : (x1 + 1 - x0).toNat * 201 ≤ 100000 := by omega
set_option maxHeartbeats 1000000 in
theorem c_held {w : World} {news : Led} {lr ax ay az : Addr} {n : Nat} {x0 x1 y0 y1 z0 z1 : Int} {t₁ t₂ t₃ t₄ t₅ t₆ : Tok}
    (h1 : (lr, listOf [Value.ref ax, Value.ref ay, Value.ref az].toArray n) ∈ news) (h2 : (ax, tup2 x0 x1 t₁ t₂) ∈ news) (h3 : (ay, tup2 y0 y1 t₃ t₄) ∈ news) (h4 : (az, tup2 z0 z1 t₅ t₆) ∈ news)
    (hx : -100 ≤ x0 ∧ x0 ≤ x1 ∧ x1 ≤ 100) (hy : -100 ≤ y0 ∧ y0 ≤ y1 ∧ y1 ≤ 100) (hz : -100 ≤ z0 ∧ z0 ≤ z1 ∧ z1 ≤ 100) :
    Ct w 258 [.ref lr] 5 100 news (fun r news' => ∃ lh d0 d1 d2 n c, r = .ref lh ∧ news' = (lh, listOf [Value.ref d0, Value.ref d1, Value.ref d2].toArray n) :: (d2, c.o2) :: (d1, c.o1) :: (d0, c.o0) :: news ∧ (d0 == sysModules) = false ∧ (d1 == sysModules) = false ∧ (d2 == sysModules) = false ∧ Held w z0 z1 (fun a b => (x0 ≤ a ∧ a ≤ x1) ∧ y0 ≤ b ∧ b ≤ y1) 100000 c) := by
  unfold Ct
  intro p loose mean mg mb dp un gd cn cs a ccd cl outer A₀ base h₀ L m s Q E B F X N T hk hd hu hret
  refine wpAny_call ?_
  k_dflt cell_enter
  k_steps
  refine Stop.go ?_
  rename_i d0 _ o0 l0 q0 _ _ i0 _ d1 _ o1 q1 _ _ i1 _ l1 d2 _ o2 q2 _ _ i2 _ l2 lh _ l3 _ lF' lN'
  with_unfolding_all refine' For_invVF lF' ?k1 ?k2 ?_
  case k1 => exact rfl
  case k2 => exact rfl
  k_steps
  refine Stop.go ?_
  rename Fr _ _ _ _ => lF'
  rename News _ _ _ _ => lN'
  rename IsRange _ _ _ _ _ _ _ _ => rgX
  with_unfolding_all refine' kst_range (fun c : HS => (lh, listOf [Value.ref d0, Value.ref d1, Value.ref d2].toArray 0) :: (d2, c.o2) :: (d1, c.o1) :: (d0, c.o0) :: news) (fun _ => []) (fun _ => True) [Str.ofString "y", Str.ofString "often", Str.ofString "z"] (fun pre c => Held w z0 z1 (fun a b => a ∈ pre ∧ y0 ≤ b ∧ b ≤ y1) (pre.length * 201) c) ⟨o0, o1, o2, [], [], []⟩ (by rfl) rgX (small_box hx) (rangeSize_nat _ _) lF' lN' trivial (fun _ h => nomatch h) (held_nil i0 i1 i2 (fun _ _ h => nomatch h.1)) ?_ ?_
  · intro c pre x tx u h tk own hxe hlt hoff _ hP F N
    clear lF' lN' rgX
    simp only [List.cons_append] at N
    have hR : ∀ p ∈ news ++ own, p.1 ≠ d0 ∧ p.1 ≠ d1 ∧ p.1 ≠ d2 := by
      intro p hp
      rcases List.mem_append.mp hp with h | h
      · exact ⟨Nat.ne_of_lt (l0 p h), Nat.ne_of_lt (ktn_ltOf l1.2 p h), Nat.ne_of_lt (ktn_ltOf l2.2.2 p h)⟩
      · exact ⟨hoff p h _ (.tail _ (.tail _ (.tail _ (.head _)))), hoff p h _ (.tail _ (.tail _ (.head _))), hoff p h _ (.tail _ (.head _))⟩
    have e1 := List.mem_append_left own h1
    have e2 := List.mem_append_left own h2
    have e3 := List.mem_append_left own h3
    have e4 := List.mem_append_left own h4
    have s1 : ∀ p ∈ news, p ∈ news ++ own := fun p h => List.mem_append_left _ h
    have s2 : ∀ p ∈ own, p ∈ news ++ own := fun p h => List.mem_append_right _ h
    generalize news ++ own = R at N hR e1 e2 e3 e4 s1 s2
    k_steps
    refine Stop.go ?_
    rename Fr _ _ _ _ => lF'
    with_unfolding_all refine' For_invVF lF' ?k1 ?k2 ?_
    case k1 => exact rfl
    case k2 => exact rfl
    k_steps
    refine Stop.go ?_
    rename Fr _ _ _ _ => lF'
    rename News _ _ _ _ => lN'
    rename IsRange _ _ _ _ _ _ _ _ => rgX
    with_unfolding_all refine' kst_range (fun c : HS => (lh, listOf [Value.ref d0, Value.ref d1, Value.ref d2].toArray 0) :: (d2, c.o2) :: (d1, c.o1) :: (d0, c.o0) :: R) (fun _ => []) (fun _ => True) [Str.ofString "often", Str.ofString "z"] (fun pre2 c => Held w z0 z1 (fun a b => (a ∈ pre ∧ y0 ≤ b ∧ b ≤ y1) ∨ (a = x ∧ b ∈ pre2)) (pre.length * 201 + pre2.length) c) c (by rfl) rgX (small_box hy) (rangeSize_nat _ _) lF' lN' trivial (fun _ h => nomatch h) (hP.congr (fun a b => ⟨.inl, fun h => h.resolve_right fun h => nomatch h.2⟩) (Nat.le_refl _)) ?_ ?_
    · intro c2 pre2 y ty u2 h2 tk2 own2 hye hlt2 hoff2 _ hP2 F2 N2
      clear lF' lN' rgX
      simp only [List.cons_append] at N2
      have hR2 : ∀ p ∈ R ++ own2, p.1 ≠ d0 ∧ p.1 ≠ d1 ∧ p.1 ≠ d2 := by
        intro p hp
        rcases List.mem_append.mp hp with h | h
        · exact hR p h
        · exact ⟨hoff2 p h _ (.tail _ (.tail _ (.tail _ (.head _)))), hoff2 p h _ (.tail _ (.tail _ (.head _))), hoff2 p h _ (.tail _ (.head _))⟩
      replace e1 := List.mem_append_left own2 e1
      replace e2 := List.mem_append_left own2 e2
      replace e3 := List.mem_append_left own2 e3
      replace e4 := List.mem_append_left own2 e4
      have s3 : ∀ p ∈ R, p ∈ R ++ own2 := fun p h => List.mem_append_left _ h
      have s4 : ∀ p ∈ own2, p ∈ R ++ own2 := fun p h => List.mem_append_right _ h
      generalize R ++ own2 = R2 at N2 hR2 e1 e2 e3 e4 s3 s4
      have hx' := in_box hx hxe hlt
      have hsz := held_room hlt hlt2 hx hy
      k_steps
      refine Stop.go ?_
      rename Fr _ _ _ _ => lF'
      rename News _ _ _ _ => lN'
      with_unfolding_all refine' while_join (Often x y) (fun o => (0 ≤ o ∧ o ≤ 100) ∧ (y ≠ 0 → o * (if y < 0 then -y else y) ≤ if x < 0 then -x else x)) lF' lN' ?wm ⟨⟨Int.le_refl _, by decide⟩, fun _ => by rw [Int.zero_mul]; exact abs_ok.2.2.1⟩ ?_ ?_
      case wm => exact rfl
      · intro o to u3 h3' tk3 ⟨ho, hoy⟩ F3 N3
        clear lF' lN'
        k_steps
        · have hr := often_room hx' (by assumption) (by assumption) ho.1
          exact Stop.go (ksw_end (o + 1, _) (by k_asm) (by k_asm) (fun _ h => h) trivial (List.forall_mem_cons.mpr ⟨by with_unfolding_all rfl, List.forall_mem_nil _⟩) (fun z hz _ => (if_neg (hz _ (.head _))).trans ((if_neg (hz _ (.head _))).trans rfl)) ⟨(often_step ho hr).1, fun _ => by assumption⟩ (often_step ho hr).2)
        · exact w_out F3 N3 ⟨ho, fun hy0 => ⟨hoy hy0, by assumption⟩⟩
        · exact w_out F3 N3 ⟨ho, fun h => absurd (by assumption) h⟩
      · clear lF' lN'
        intro o to h' tk' u' hO F' N'
        k_steps
        refine Stop.go ?_
        k_dflt (refine IfExp_join F' N' ((decide (x < 0) == decide (y < 0)) = true) (fun z => z = if (decide (x < 0) == decide (y < 0)) = true then o else 0 - o) ?t1 ?t2 ?t3 ?t4)
        case t1 =>
          k_steps
          exact test_out (by k_asm) (by k_asm) (Bool.decide_eq_true).symm
        case t2 =>
          clear F' N'
          intro hc h' tk' F' N'
          k_steps
          exact int_out (by k_asm) (by k_asm) (by rw [if_pos hc])
        case t3 =>
          clear F' N'
          intro hc h' tk' F' N'
          k_steps
          exact int_out (by k_asm) (by k_asm) (by rw [if_neg hc])
        case t4 =>
          clear F' N'
          intro z tz h' tk' hz' F' N'
          k_steps
          rename Fr _ _ _ _ => lF'
          rename News _ _ _ _ => lN'
          refine Stop.go ?_
          k_dflt (refine If_join lF' lN' (y ≠ 0 ∧ z0 ≤ z ∧ z ≤ z1) ?t1 ?t2 ?t3)
          case t1 =>
            k_steps
            all_goals first
              | exact test_out (by k_asm) (by k_asm) ⟨fun h => absurd h Bool.false_ne_true, fun h => absurd ‹y = 0› h.1⟩
              | exact test_out (by k_asm) (by k_asm) ⟨fun h => absurd h Bool.false_ne_true, fun h => absurd h.2.1 ‹¬ z0 ≤ z›⟩
              | exact test_out (by k_asm) (by k_asm) ⟨fun h => absurd h Bool.false_ne_true, fun h => absurd h.2.2 ‹¬ z ≤ z1›⟩
              | exact test_out (by k_asm) (by k_asm) ⟨fun _ => ⟨‹y ≠ 0›, ‹z0 ≤ z›, ‹z ≤ z1›⟩, fun _ => rfl⟩
          case t2 =>
            clear lF' lN'
            intro hc h' tk' F' N'
            k_steps
            refine Stop.go ?_
            k_dflt (refine kda_set (knd := PySem.intKind _ _) (by k_asm) (kst_newsOf (by k_asm) (fun p h => .tail _ h)) (.tail (Nat.ne_of_gt l3.2.2.1) (.tail (Nat.ne_of_gt l2.2.1) (.tail (Nat.ne_of_gt l1.1) (.head fun p h => (hR2 p h).1)))) hP2.1.1 (intKind_is _ _ _ _) (Nat.le_trans hP2.2.1.1 hsz) ?_)
            intro h0' p0 F' N' j0
            try dsimp only at N'
            k_steps
            refine Stop.go ?_
            k_dflt (refine kda_set (knd := PySem.intKind _ _) (by k_asm) (kst_newsOf (by k_asm) (fun p h => h)) (.tail (Nat.ne_of_gt l3.2.1) (.tail (Nat.ne_of_gt l2.1) (.head (List.forall_mem_cons.mpr ⟨Nat.ne_of_lt l1.1, fun p h => (hR2 p h).2.1⟩)))) hP2.1.2.1 (intKind_is _ _ _ _) (Nat.le_trans hP2.2.1.2.1 hsz) ?_)
            intro h1' p1 F' N' j1
            try dsimp only at N'
            k_steps
            refine Stop.go ?_
            k_dflt (refine kda_set (knd := PySem.intKind _ _) (by k_asm) (kst_newsOf (by k_asm) (fun p h => h)) (.tail (Nat.ne_of_gt l3.1) (.head (List.forall_mem_cons.mpr ⟨Nat.ne_of_lt l2.1, List.forall_mem_cons.mpr ⟨Nat.ne_of_lt l2.2.1, fun p h => (hR2 p h).2.2⟩⟩))) hP2.1.2.2 (intKind_is _ _ _ _) (Nat.le_trans hP2.2.1.2.2 hsz) ?_)
            intro h2' p2 F' N' j2
            try dsimp only at N'
            k_steps
            exact Stop.go (kst_end ⟨p0, p1, p2, _, _, _⟩ (by k_asm) N' (led_sub s3) (led_own s4) rfl trivial (fun _ h => nomatch h) (by
              intro z h1 _ h3
              have h4 := h3
              simp only [List.contains_cons, List.contains_nil, Bool.or_false, Bool.or_eq_false_iff, beq_eq_false_iff_ne, ne_eq] at h4
              exact (if_neg h4.2).trans ((if_neg h4.1).trans ((if_neg h4.1).trans ((if_neg h1).trans (if_neg (by rw [h3]; exact Bool.false_ne_true)))))) ((hP2.put seen_snoc ((ok_iff hO hz').mp hc) (ok_eq hO hz' hc.1) j0 j1 j2).congr (fun _ _ => Iff.rfl) (by rw [List.length_append]; exact Nat.le_refl _)))
          case t3 =>
            clear lF' lN'
            intro hc h' tk' F' N'
            k_steps
            exact Stop.go (kst_end c2 (by k_asm) N' (led_sub s3) (led_own s4) rfl trivial (fun _ h => nomatch h) (by
              intro z h1 _ h3
              have h4 := h3
              simp only [List.contains_cons, List.contains_nil, Bool.or_false, Bool.or_eq_false_iff, beq_eq_false_iff_ne, ne_eq] at h4
              exact (if_neg h4.2).trans ((if_neg h4.1).trans ((if_neg h4.1).trans ((if_neg h1).trans (if_neg (by rw [h3]; exact Bool.false_ne_true)))))) ((hP2.skip seen_snoc (fun h => hc ((ok_iff hO hz').mpr h))).congr (fun _ _ => Iff.rfl) (by rw [List.length_append]; exact Nat.le_refl _)))
    · intro c3 u3 h3' tk3 _ hP3 F3 N3
      clear lF' lN' rgX
      k_steps
      exact Stop.go (kst_end c3 (by k_asm) N3 (led_sub s1) (led_own s2) rfl trivial (fun _ h => nomatch h) (by
        intro z h1 _ h3
        have h4 := h3
        simp only [List.contains_cons, List.contains_nil, Bool.or_false, Bool.or_eq_false_iff, beq_eq_false_iff_ne, ne_eq] at h4
        exact (if_neg h4.1).trans ((if_neg (by simp [h4.2.1, h4.2.2])).trans ((if_neg h1).trans (if_neg (by rw [h3]; exact Bool.false_ne_true))))) (hP3.congr seen_row (by rw [rangeKs_length, List.length_append]; exact row_room hy)))
  · intro c3 u3 h3' tk3 _ hP3 F3 N3
    clear lF' lN' rgX
    k_steps
    exact hret _ _ _ _ (by k_asm) (by k_asm) ⟨lh, d0, d1, d2, _, c3, rfl, rfl, q0, q1, q2, hP3.congr seen_all (by rw [rangeKs_length]; exact all_room hx)⟩
def sel {α : Type} (i : Nat) (a b c : α) : α := match i with
  | 0 => a
  | 1 => b
  | _ => c
def CanK (i : Nat) (x0 x1 y0 y1 z0 z1 v : Int) : Prop := sel i (Can0 y0 y1 z0 z1 v) (Can1 x0 x1 z0 z1 v) (Can2 x0 x1 y0 y1 v)
theorem Ct.mono {w : World} {f : Addr} {vs : List Value} {kd ku : Nat} {news : Led} {P P' : Value → Led → Prop} (C : Ct w f vs kd ku news P) (h : ∀ r n, P r n → P' r n) : Ct w f vs kd ku news P' := by
  unfold Ct at *
  intro p loose mean mg mb dp un gd cn cs a ccd cl outer A₀ base h₀ L m s Q E B F X N T hk hd hu hret
  exact C _ _ _ _ _ _ _ _ _ _ _ _ _ _ _ _ _ _ _ _ _ _ B F X N T hk hd hu fun r news' h' tk' F' N' P => hret r news' h' tk' F' N' (h r news' P)
theorem mul_box {y z p q : Int} (hy : -q ≤ y ∧ y ≤ q) (hz : -p ≤ z ∧ z ≤ p) : -(p * q) ≤ y * z ∧ y * z ≤ p * q := by
  have h1 : (y * z).natAbs ≤ p.toNat * q.toNat := by
    rw [Int.natAbs_mul, Nat.mul_comm]
    exact Nat.mul_le_mul (by omega) (by omega)
  have h2 : ((p.toNat * q.toNat : Nat) : Int) = p * q := by
    rw [Int.natCast_mul, Int.toNat_of_nonneg (by omega), Int.toNat_of_nonneg (by omega)]
  omega
theorem outer0_ok {y0 y1 z0 z1 p q x : Int} (hp : -p ≤ z0 ∧ z1 ≤ p) (hq : -q ≤ y0 ∧ y1 ≤ q) (h : Can0 y0 y1 z0 z1 x) : -((p + 1) * q - 1) ≤ x ∧ x ≤ (p + 1) * q - 1 := by
  obtain ⟨y, h1, h2, h3, h4, h5⟩ := h
  have hb := @mul_box y (Int.tdiv x y) p q (by omega) (by omega)
  have e := (tdiv_iff (x := x) (z := Int.tdiv x y) h3).mp rfl
  have hy := @abs_ok y
  have e2 : (p + 1) * q = p * q + q := by rw [Int.add_mul, Int.one_mul]
  rw [e2]
  generalize (if y < 0 then -y else y) = ay at *
  generalize y * Int.tdiv x y = yt at *
  split at e
  · omega
  · split at e <;> omega
theorem outer2_ok {x0 x1 y0 y1 n z : Int} (hn : -n ≤ x0 ∧ x1 ≤ n) (h : Can2 x0 x1 y0 y1 z) : -n ≤ z ∧ z ≤ n := by
  obtain ⟨y, h1, h2, h3, x, h4, h5, rfl⟩ := h
  have : (Int.tdiv x y).natAbs ≤ x.natAbs := by
    rw [Int.natAbs_tdiv]
    exact Nat.div_le_self _ _
  omega
theorem held0 {w : World} {x0 x1 y0 y1 z0 z1 v : Int} {n : Nat} {c : HS} (H : Held w z0 z1 (fun a b => (x0 ≤ a ∧ a ≤ x1) ∧ y0 ≤ b ∧ b ≤ y1) n c) (hv : x0 ≤ v ∧ v ≤ x1) : (valueAt c.k0 v).isSome = true ↔ Can0 y0 y1 z0 z1 v := by
  refine (H.2.2.1 v).trans ⟨?_, ?_⟩
  · rintro ⟨x, y, h1, h2, rfl⟩
    exact ⟨y, h1.2.1, h1.2.2, h2.1, h2.2.1, h2.2.2⟩
  · rintro ⟨y, h1, h2, h3, h4, h5⟩
    exact ⟨v, y, ⟨hv, h1, h2⟩, ⟨h3, h4, h5⟩, rfl⟩
theorem held1 {w : World} {x0 x1 y0 y1 z0 z1 v : Int} {n : Nat} {c : HS} (H : Held w z0 z1 (fun a b => (x0 ≤ a ∧ a ≤ x1) ∧ y0 ≤ b ∧ b ≤ y1) n c) (hv : y0 ≤ v ∧ v ≤ y1) : (valueAt c.k1 v).isSome = true ↔ Can1 x0 x1 z0 z1 v := by
  refine (H.2.2.2.1 v).trans ⟨?_, ?_⟩
  · rintro ⟨x, y, h1, h2, rfl⟩
    exact ⟨h2.1, x, h1.1.1, h1.1.2, h2.2.1, h2.2.2⟩
  · rintro ⟨h0, x, h1, h2, h3, h4⟩
    exact ⟨x, v, ⟨⟨h1, h2⟩, hv⟩, ⟨h0, h3, h4⟩, rfl⟩
theorem held2 {w : World} {x0 x1 y0 y1 z0 z1 v : Int} {n : Nat} {c : HS} (H : Held w z0 z1 (fun a b => (x0 ≤ a ∧ a ≤ x1) ∧ y0 ≤ b ∧ b ≤ y1) n c) (hv : z0 ≤ v ∧ v ≤ z1) : (valueAt c.k2 v).isSome = true ↔ Can2 x0 x1 y0 y1 v := by
  refine (H.2.2.2.2 v).trans ⟨?_, ?_⟩
  · rintro ⟨x, y, h1, h2, rfl⟩
    exact ⟨y, h1.2.1, h1.2.2, h2.1, x, h1.1.1, h1.1.2, rfl⟩
  · rintro ⟨y, h1, h2, h3, x, h4, h5, rfl⟩
    exact ⟨x, y, ⟨⟨h4, h5⟩, h1, h2⟩, ⟨h3, hv.1, hv.2⟩, rfl⟩
theorem spot_facts {w : World} {news : Led} {ax ay az d0 d1 d2 : Addr} {x0 x1 y0 y1 z0 z1 : Int} {t₁ t₂ t₃ t₄ t₅ t₆ : Tok} {n : Nat} {c : HS} (i : Nat) (hi : i < 3)
    (h2 : (ax, tup2 x0 x1 t₁ t₂) ∈ news) (h3 : (ay, tup2 y0 y1 t₃ t₄) ∈ news) (h4 : (az, tup2 z0 z1 t₅ t₆) ∈ news) (m0 : (d0, c.o0) ∈ news) (m1 : (d1, c.o1) ∈ news) (m2 : (d2, c.o2) ∈ news)
    (hx : -100 ≤ x0 ∧ x0 ≤ x1 ∧ x1 ≤ 100) (hy : -100 ≤ y0 ∧ y0 ≤ y1 ∧ y1 ≤ 100) (hz : -100 ≤ z0 ∧ z0 ≤ z1 ∧ z1 ≤ 100)
    (q0 : (d0 == sysModules) = false) (q1 : (d1 == sysModules) = false) (q2 : (d2 == sysModules) = false) (H : Held w z0 z1 (fun a b => (x0 ≤ a ∧ a ≤ x1) ∧ y0 ≤ b ∧ b ≤ y1) n c) :
    ∀ {G : Prop}, (∀ (a d : Addr) (ta tb : Tok) (o : Obj) (kv : List (Int × Value)), [Value.ref ax, Value.ref ay, Value.ref az][i]? = some (.ref a) → (a, tup2 (sel i x0 y0 z0) (sel i x1 y1 z1) ta tb) ∈ news → (-100 ≤ sel i x0 y0 z0 ∧ sel i x0 y0 z0 ≤ sel i x1 y1 z1 ∧ sel i x1 y1 z1 ≤ 100) →
      [Value.ref d0, Value.ref d1, Value.ref d2][i]? = some (.ref d) → (d, o) ∈ news → o.IsDictOf (PySem.intKind pw w) kv → (d == sysModules) = false → (∀ v, sel i x0 y0 z0 ≤ v ∧ v ≤ sel i x1 y1 z1 → ((valueAt kv v).isSome = true ↔ CanK i x0 x1 y0 y1 z0 z1 v)) → G) → G := by
  intro G h
  match i, hi with
  | 0, _ => exact h ax d0 t₁ t₂ c.o0 c.k0 rfl h2 hx rfl m0 H.1.1 q0 fun v hv => held0 H hv
  | 1, _ => exact h ay d1 t₃ t₄ c.o1 c.k1 rfl h3 hy rfl m1 H.1.2.1 q1 fun v hv => held1 H hv
  | 2, _ => exact h az d2 t₅ t₆ c.o2 c.k2 rfl h4 hz rfl m2 H.1.2.2 q2 fun v hv => held2 H hv
theorem c_outerK {w : World} {news : Led} {self lr ax ay az : Addr} {n : Nat} {x0 x1 y0 y1 z0 z1 : Int} {t t₁ t₂ t₃ t₄ t₅ t₆ : Tok} (i : Nat) (hi : i < 3) (h1 : (lr, listOf [Value.ref ax, Value.ref ay, Value.ref az].toArray n) ∈ news) (h2 : (ax, tup2 x0 x1 t₁ t₂) ∈ news) (h3 : (ay, tup2 y0 y1 t₃ t₄) ∈ news) (h4 : (az, tup2 z0 z1 t₅ t₆) ∈ news)
    (hx : -100 ≤ x0 ∧ x0 ≤ x1 ∧ x1 ≤ 100) (hy : -100 ≤ y0 ∧ y0 ≤ y1 ∧ y1 ≤ 100) (hz : -100 ≤ z0 ∧ z0 ≤ z1 ∧ z1 ≤ 100) :
    Ct w 213 [.ref self, .ref lr, .int (i : Int) t] 4 24 news (fun r news' => ∃ d lo hi t₃ t₄, r = .ref d ∧ (d, tup2 lo hi t₃ t₄) ∈ news' ∧ (∀ p ∈ news, p ∈ news') ∧ ∀ v, sel i x0 y0 z0 ≤ v ∧ v ≤ sel i x1 y1 z1 → CanK i x0 x1 y0 y1 z0 z1 v → lo ≤ v ∧ v ≤ hi) := by
  match i, hi with
  | 0, _ =>
    refine (c_outer0 h1 h3 h4 hy hz).mono ?_
    rintro r n ⟨d, p, q, hi, t, u, rfl, rfl, rfl, e1, e2, e3, e4⟩
    exact ⟨d, _, _, _, _, rfl, .head _, fun _ h => .tail _ h, fun v _ hc => outer0_ok ⟨e1, e2⟩ ⟨e3, e4⟩ hc⟩
  | 1, _ =>
    refine (c_outer1 h1).mono ?_
    rintro r n ⟨rfl, rfl⟩
    exact ⟨_, _, _, _, _, rfl, h3, fun _ h => h, fun v hv _ => hv⟩
  | 2, _ =>
    refine (c_outer2 h1 h2 hx).mono ?_
    rintro r n ⟨d, hi, t, u, rfl, rfl, e1, e2⟩
    exact ⟨d, _, _, _, _, rfl, .head _, fun _ h => .tail _ h, fun v _ hc => outer2_ok ⟨e1, e2⟩ hc⟩
theorem c_canK {w : World} {news : Led} {self sd lr ax ay az : Addr} {n : Nat} {x0 x1 y0 y1 z0 z1 v : Int} {t tx t₁ t₂ t₃ t₄ t₅ t₆ : Tok} {g1 g2 g3 g4 : Int} {k1 k2 k3 k4 : Tok} {v1 v2 v3 v4 : Value} {nn : Nat} (i : Nat) (hi : i < 3)
    (i1 : (self, instObj 223 sd) ∈ news) (i2 : (sd, selfD g1 g2 g3 g4 k1 k2 k3 k4 v1 v2 v3 v4 nn) ∈ news)
    (h1 : (lr, listOf [Value.ref ax, Value.ref ay, Value.ref az].toArray n) ∈ news) (h2 : (ax, tup2 x0 x1 t₁ t₂) ∈ news) (h3 : (ay, tup2 y0 y1 t₃ t₄) ∈ news) (h4 : (az, tup2 z0 z1 t₅ t₆) ∈ news)
    (hx : -100 ≤ x0 ∧ x0 ≤ x1 ∧ x1 ≤ 100) (hy : -100 ≤ y0 ∧ y0 ≤ y1 ∧ y1 ≤ 100) (hz : -100 ≤ z0 ∧ z0 ≤ z1 ∧ z1 ≤ 100) (hv : sel i x0 y0 z0 ≤ v ∧ v ≤ sel i x1 y1 z1) :
    Ct w 199 [.ref self, .ref lr, .int (i : Int) t, .int v tx] 10 80 news (fun r news' => news = news' ∧ ∃ b, r = .bool b ∧ (b = true ↔ CanK i x0 x1 y0 y1 z0 z1 v)) := by
  match i, hi with
  | 0, _ => exact c_can0 i1 i2 h1 h2 h3 h4 hx hy hz.2.1 hv
  | 1, _ => exact c_can1 h1 h2 h4 hx hz ⟨Int.le_trans hy.1 hv.1, Int.le_trans hv.2 hy.2.2⟩
  | 2, _ => exact c_can2 i1 i2 h1 h2 h3 hx hy
theorem e_outerK {G : Value → Led → Prop} {news : Led} {q : Int → Int → Prop} (h : ∀ n d lo hi t u, (d, tup2 lo hi t u) ∈ n → (∀ p ∈ news, p ∈ n) → q lo hi → G (.ref d) n) : ∀ r n, (∃ d lo hi t u, r = .ref d ∧ (d, tup2 lo hi t u) ∈ n ∧ (∀ p ∈ news, p ∈ n) ∧ q lo hi) → G r n := by
  rintro _ n ⟨d, lo, hi, t, u, rfl, h1, h2, h3⟩
  exact h n d lo hi t u h1 h2 h3
theorem in_row {x0 x1 x : Int} {p : Nat} (e : x = x0 + (p : Int)) (h : p < (x1 + 1 - x0).toNat) : x0 ≤ x ∧ x ≤ x1 := by omega
set_option maxHeartbeats 1000000 in
theorem c_right {w : World} {news : Led} {self sd lr lh ax ay az d0 d1 d2 : Addr} {n nl N9 : Nat} {x0 x1 y0 y1 z0 z1 : Int} {t₁ t₂ t₃ t₄ t₅ t₆ : Tok} {g1 g2 g3 g4 : Int} {k1 k2 k3 k4 : Tok} {v1 v2 v3 v4 : Value} {nn : Nat} {c : HS}
    (i1 : (self, instObj 223 sd) ∈ news) (i2 : (sd, selfD g1 g2 g3 g4 k1 k2 k3 k4 v1 v2 v3 v4 nn) ∈ news)
    (h1 : (lr, listOf [Value.ref ax, Value.ref ay, Value.ref az].toArray n) ∈ news) (h2 : (ax, tup2 x0 x1 t₁ t₂) ∈ news) (h3 : (ay, tup2 y0 y1 t₃ t₄) ∈ news) (h4 : (az, tup2 z0 z1 t₅ t₆) ∈ news)
    (hl : (lh, listOf [Value.ref d0, Value.ref d1, Value.ref d2].toArray nl) ∈ news) (m0 : (d0, c.o0) ∈ news) (m1 : (d1, c.o1) ∈ news) (m2 : (d2, c.o2) ∈ news)
    (hx : -100 ≤ x0 ∧ x0 ≤ x1 ∧ x1 ≤ 100) (hy : -100 ≤ y0 ∧ y0 ≤ y1 ∧ y1 ≤ 100) (hz : -100 ≤ z0 ∧ z0 ≤ z1 ∧ z1 ≤ 100)
    (q0 : (d0 == sysModules) = false) (q1 : (d1 == sysModules) = false) (q2 : (d2 == sysModules) = false) (H : Held w z0 z1 (fun a b => (x0 ≤ a ∧ a ≤ x1) ∧ y0 ≤ b ∧ b ≤ y1) N9 c) :
    Ct w 265 [.ref self, .ref lr, .ref lh] 15 150 news (fun r news' => news = news' ∧ r = .bool true) := by
  unfold Ct
  intro p loose mean mg mb dp un gd cn cs a ccd cl outer A₀ base h₀ L m s Q E B F X N T hk hd hu hret
  refine wpAny_call ?_
  k_dflt cell_enter
  k_steps
  refine Stop.go ?_
  rename Fr _ _ _ _ => lF'
  with_unfolding_all refine' For_invVF lF' ?k1 ?k2 ?_
  case k1 => exact rfl
  case k2 => exact rfl
  k_steps
  refine Stop.go ?_
  rename Fr _ _ _ _ => lF'
  rename News _ _ _ _ => lN'
  rename IsRange _ _ _ _ _ _ _ _ => rgX
  with_unfolding_all refine' kst_range (fun _ : Unit => news) (fun _ => []) (fun _ => True) [Str.ofString "low", Str.ofString "high", Str.ofString "v"] (fun _ _ => True) () (by rfl) rgX (by decide) (rangeSize_nat _ _) lF' lN' trivial (fun _ h => nomatch h) trivial ?_ ?_
  · intro _ pre sp ts u h tk own hsp hlt hoff _ _ F' N'
    clear lF' lN' rgX
    have hi : pre.length < 3 := hlt
    obtain rfl : sp = (pre.length : Int) := hsp.trans (Int.zero_add _)
    have s1 : ∀ p ∈ news, p ∈ news ++ own := fun p h => List.mem_append_left _ h
    have s2 : ∀ p ∈ own, p ∈ news ++ own := fun p h => List.mem_append_right _ h
    replace i1 := s1 _ i1
    replace i2 := s1 _ i2
    replace h1 := s1 _ h1
    replace h2 := s1 _ h2
    replace h3 := s1 _ h3
    replace h4 := s1 _ h4
    replace hl := s1 _ hl
    replace m0 := s1 _ m0
    replace m1 := s1 _ m1
    replace m2 := s1 _ m2
    generalize news ++ own = R at N' s1 s2 i1 i2 h1 h2 h3 h4 hl m0 m1 m2
    k_steps
    refine Stop.go ?_
    k_dflt (refine' ct_use (c_outerK pre.length hi ?c1 ?c2 ?c3 ?c4 ?c5 ?c6 ?c7) ?k1 ?k2 ?k3 ?k4 ?k5 ?kK ?kd ?ku ?_)
    case k1 => k_asm
    case k2 => k_asm
    case k3 => k_asm
    case k4 => k_asm
    case k5 => k_asm
    case kK => first | exact rfl | assumption
    case c1 => exact h1
    case c2 => exact h2
    case c3 => exact h3
    case c4 => exact h4
    case c5 => exact hx
    case c6 => exact hy
    case c7 => exact hz
    case kd => ktr_room
    case ku => ktr_units
    refine e_outerK ?_
    intro news' d9 lo hi9 t9 u9 hm9 hsub hbox h' tk' F' N'
    try dsimp only
    try k_fold
    refine spot_facts pre.length hi h2 h3 h4 m0 m1 m2 hx hy hz q0 q1 q2 H ?_
    intro a9 b9 ta tb o9 kv e1 e2 e3 e4 e5 e6 e7 e8
    replace s1 : ∀ p ∈ news, p ∈ news' := fun p h => hsub p (s1 p h)
    replace s2 : ∀ p ∈ own, p ∈ news' := fun p h => hsub p (s2 p h)
    replace i1 := hsub _ i1
    replace i2 := hsub _ i2
    replace h1 := hsub _ h1
    replace h2 := hsub _ h2
    replace h3 := hsub _ h3
    replace h4 := hsub _ h4
    replace hl := hsub _ hl
    replace e2 := hsub _ e2
    replace e5 := hsub _ e5
    have p0 : 0 ≤ (pre.length : Int) := Int.natCast_nonneg _
    have p1 : (pre.length : Int) < 2 ^ 63 := Int.lt_trans (Int.ofNat_lt.mpr hi) (by decide)
    k_steps
    refine Stop.go ?_
    rename Fr _ _ _ _ => lF'
    with_unfolding_all refine' For_invVF lF' ?k1 ?k2 ?_
    case k1 => exact rfl
    case k2 => exact rfl
    k_steps
    refine Stop.go ?_
    k_dflt (refine item_led (by k_asm) h1 p0 p1 (by rw [Int.toNat_natCast]; exact e1) ?_)
    k_steps
    refine Stop.go ?_
    k_dflt (refine item_led (by k_asm) h1 p0 p1 (by rw [Int.toNat_natCast]; exact e1) ?_)
    k_steps
    refine Stop.go ?_
    rename Fr _ _ _ _ => lF'
    rename News _ _ _ _ => lN'
    rename IsRange _ _ _ _ _ _ _ _ => rgX
    with_unfolding_all refine' kst_range (fun _ : Unit => news') (fun _ => []) (fun _ => True) [] (fun _ _ => True) () (by rfl) rgX (small_box e3) (rangeSize_nat _ _) lF' lN' trivial (fun _ h => nomatch h) trivial ?_ ?_
    · intro _ pre2 v tv u2 h2' tk2 own2 hv2 hlt2 hoff2 _ _ F' N'
      clear lF' lN' rgX
      have hvr := in_row hv2 hlt2
      have s3 : ∀ p ∈ news', p ∈ news' ++ own2 := fun p h => List.mem_append_left _ h
      have s4 : ∀ p ∈ own2, p ∈ news' ++ own2 := fun p h => List.mem_append_right _ h
      replace i1 := s3 _ i1
      replace i2 := s3 _ i2
      replace h1 := s3 _ h1
      replace h2 := s3 _ h2
      replace h3 := s3 _ h3
      replace h4 := s3 _ h4
      replace hl := s3 _ hl
      replace e5 := s3 _ e5
      generalize news' ++ own2 = R2 at N' s3 s4 i1 i2 h1 h2 h3 h4 hl e5
      k_steps
      refine Stop.go ?_
      rename Fr _ _ _ _ => lF'
      rename News _ _ _ _ => lN'
      k_dflt (refine If_join lF' lN' False ?t1 ?t2 ?t3)
      case t1 =>
        k_steps
        refine Stop.go ?_
        k_dflt (refine' ct_use (c_canK pre.length hi ?c1 ?c2 ?c3 ?c4 ?c5 ?c6 ?c7 ?c8 ?c9 ?c10) ?k1 ?k2 ?k3 ?k4 ?k5 ?kK ?kd ?ku ?_)
        case k1 => k_asm
        case k2 => k_asm
        case k3 => k_asm
        case k4 => k_asm
        case k5 => k_asm
        case kK => first | exact rfl | assumption
        case c1 => exact i1
        case c2 => exact i2
        case c3 => exact h1
        case c4 => exact h2
        case c5 => exact h3
        case c6 => exact h4
        case c7 => exact hx
        case c8 => exact hy
        case c9 => exact hz
        case c10 => exact hvr
        case kd => ktr_room
        case ku => ktr_units
        refine e_canK ?_
        intro b hb h' tk' F' N'
        try dsimp only
        try k_fold
        k_steps
        refine Stop.go ?_
        k_dflt (refine item_led (by k_asm) hl p0 p1 (by rw [Int.toNat_natCast]; exact e4) ?_)
        k_steps
        refine Stop.go ?_
        have hb2 : (valueAt kv v).isSome = b := Bool.eq_iff_iff.mpr ((e8 v hvr).trans hb.symm)
        k_dflt (refine kda_in (knd := PySem.intKind _ _) (by k_asm) e5 e6 e7 (intKind_is _ _ _ _) b hb2 ?_)
        k_steps
        · exact absurd ((bne_self_eq_false b).symm.trans ‹(b != b) = true›) Bool.false_ne_true
        · refine Stop.go ?_
          k_dflt (refine item_led (by k_asm) hl p0 p1 (by rw [Int.toNat_natCast]; exact e4) ?_)
          k_steps
          refine Stop.go ?_
          k_dflt (refine kda_in (knd := PySem.intKind _ _) (by k_asm) e5 e6 e7 (intKind_is _ _ _ _) b hb2 ?_)
          k_steps
          all_goals first
            | exact test_out (by k_asm) (by k_asm) ⟨fun h => absurd h Bool.false_ne_true, False.elim⟩
            | exact absurd (hbox v hvr (hb.mp ‹b = true›)).1 ‹_›
            | exact absurd (hbox v hvr (hb.mp ‹b = true›)).2 ‹_›
      case t2 => exact fun h => h.elim
      case t3 =>
        clear lF' lN'
        intro _ h' tk' F' N'
        k_steps
        exact Stop.go (kst_end () (by k_asm) N' s3 s4 rfl trivial (fun _ h => nomatch h) (by
          intro z h1 _ h3
          exact (if_neg h1)) trivial)
    · intro _ u3 h3' tk3 _ _ F3 N3
      clear lF' lN' rgX
      k_steps
      exact Stop.go (kst_end () (by k_asm) N3 s1 s2 rfl trivial (fun _ h => nomatch h) (by
        intro z h1 _ h3
        have h4 := h3
        simp only [List.contains_cons, List.contains_nil, Bool.or_false, Bool.or_eq_false_iff, beq_eq_false_iff_ne, ne_eq] at h4
        exact (if_neg h4.2.2).trans ((if_neg h4.2.1).trans ((if_neg h4.1).trans ((if_neg h1).trans (if_neg (by rw [h3]; exact Bool.false_ne_true)))))) trivial)
  · intro _ u3 h3' tk3 _ _ F3 N3
    clear lF' lN' rgX
    k_steps
    exact hret _ _ _ _ (by k_asm) (by k_asm) ⟨rfl, rfl⟩
theorem pickE {h₀ hp : Heap} {L : Addr} {p1 p2 p3 p4 p5 p6 p10 : Addr × Obj} {x dd lc d d3 : Addr} {ol od : Obj} {g1 g2 g3 g4 : Int} {k1 k2 k3 k4 : Tok} {v1 v2 v3 v4 : Value} {nn : Nat} (e1 : d3 ≠ lc ∧ d ≠ lc) (e2 : lc < dd ∧ d3 < dd ∧ d < dd) (e3 : dd < x)
    (N : News h₀ L hp [p1, p2, p3, p4, p5, p6, (x, instObj 223 dd), (dd, selfD g1 g2 g3 g4 k1 k2 k3 k4 v1 v2 v3 v4 nn), (lc, ol), p10, (d, od)])
    {G : Prop} (h : ∀ R g1 g2 g3 g4 k1 k2 k3 k4 v1 v2 v3 v4 nn, News h₀ L hp ((d, od) :: R) → (∀ p ∈ R, p.1 ≠ d) → (lc, ol) ∈ R → (x, instObj 223 dd) ∈ R → (dd, selfD g1 g2 g3 g4 k1 k2 k3 k4 v1 v2 v3 v4 nn) ∈ R → G) : G := by
  refine h [(lc, ol), (x, instObj 223 dd), (dd, selfD g1 g2 g3 g4 k1 k2 k3 k4 v1 v2 v3 v4 nn)] g1 g2 g3 g4 k1 k2 k3 k4 v1 v2 v3 v4 nn (kst_newsOf N ?_) ?_ (.head _) (.tail _ (.head _)) (.tail _ (.tail _ (.head _)))
  · exact List.forall_mem_cons.mpr ⟨.tail _ (.tail _ (.tail _ (.tail _ (.tail _ (.tail _ (.tail _ (.tail _ (.tail _ (.tail _ (.head _)))))))))), List.forall_mem_cons.mpr ⟨.tail _ (.tail _ (.tail _ (.tail _ (.tail _ (.tail _ (.tail _ (.tail _ (.head _)))))))), List.forall_mem_cons.mpr ⟨.tail _ (.tail _ (.tail _ (.tail _ (.tail _ (.tail _ (.head _)))))), List.forall_mem_cons.mpr ⟨.tail _ (.tail _ (.tail _ (.tail _ (.tail _ (.tail _ (.tail _ (.head _))))))), List.forall_mem_nil _⟩⟩⟩⟩
  · exact List.forall_mem_cons.mpr ⟨Ne.symm e1.2, List.forall_mem_cons.mpr ⟨Nat.ne_of_gt (Nat.lt_trans e2.2.2 e3), List.forall_mem_cons.mpr ⟨Nat.ne_of_gt e2.2.2, List.forall_mem_nil _⟩⟩⟩
theorem led_swap {a b : Addr × Obj} {R : Led} : ∀ p ∈ b :: a :: R, p ∈ a :: b :: R := fun p hp => by
  rcases List.mem_cons.mp hp with rfl | hp
  · exact .tail _ (.head _)
  · rcases List.mem_cons.mp hp with rfl | hp
    · exact .head _
    · exact .tail _ (.tail _ hp)
theorem boxX {a b : Int} (h0 : -7 ≤ a) (h1 : a < -7 + 15) (h2 : a ≤ b) (h3 : b < a + 7) : -100 ≤ a ∧ a ≤ b ∧ b ≤ 100 := ⟨by omega, h2, by omega⟩
theorem boxZ {a b : Int} (h0 : -4 ≤ a) (h1 : a < -4 + 9) (h2 : a ≤ b) (h3 : b < a + 4) : -100 ≤ a ∧ a ≤ b ∧ b ≤ 100 := ⟨by omega, h2, by omega⟩
theorem len40 {l : List Int} {f : Int → Int} : (List.map f (List.take 40 l)).length ≤ 100 := by
  rw [List.length_map, List.length_take]
  exact Nat.le_trans (Nat.min_le_left _ _) (by decide)
theorem lap_nums {k : Int} {n : Nat} (h0 : 0 ≤ k) (h1 : k ≤ 7 * (n : Int)) (hn : n < 3) : (0 ≤ k ∧ k ≤ 900) ∧ (0 ≤ k + 2 ∧ k + 2 ≤ 800) ∧ ∀ kk : Int, 0 ≤ kk → kk ≤ k + 2 + 3 → (0 ≤ kk ∧ kk ≤ 900) ∧ 0 ≤ kk + 2 ∧ kk + 2 ≤ 7 * ((n + 1 : Nat) : Int) := by
  have : k ≤ 14 := by omega
  exact ⟨⟨h0, by omega⟩, ⟨by omega, by omega⟩, fun kk h2 h3 => ⟨⟨h2, by omega⟩, by omega, by omega⟩⟩
set_option maxHeartbeats 1000000 in
theorem main_holds : PySem.Challenge.rw_nz0010_01.Holds := by
  k_with_none
  (k_with "call ref" => first | ((with_reducible show wpAny _ _ (call (Value.ref 244) _) _ _ _); refine stop_of ?_) | ((with_reducible show wpAny _ _ (call (Value.ref 251) _) _ _ _); refine stop_of ?_) | ((with_reducible show wpAny _ _ (call (Value.ref 258) _) _ _ _); refine stop_of ?_) | ((with_reducible show wpAny _ _ (call (Value.ref 265) _) _ _ _); refine stop_of ?_))
  (k_with "exec For Name Call cons nil" => refine stop_of ?_)
  (k_with "InvEndN" => refine stop_of ?_)
  (k_with "pyIter ref" => rename IsRange _ _ _ _ _ _ _ _ => rgX; refine stop_of ?_)
  refine hd ?_
  k_go0
  rename Glob _ _ _ _ _ _ _ _ => gl
  clear gl
  rename BMod _ _ _ _ _ => bm
  clear bm
  rename ReadsAll _ _ _ _ => ra
  clear ra
  all_goals try k_fold
  k_steps
  rename Fr _ _ _ _ => lF
  rename News _ _ _ _ => lN
  rename Obj.IsDictOf _ _ _ => hD
  rename IntsAre _ _ => hI
  rename _ ≠ _ ∧ _ ≠ _ => ne
  rename _ < _ ∧ _ < _ ∧ _ < _ => l1
  rename _ < _ => l2
  refine pickE ne l1 l2 lN ?_
  intro R g1 g2 g3 g4 k1 k2 k3 k4 v1 v2 v3 v4 nn N0 hR m1 m2 m3
  replace hD : SrcD _ _ _ 0 _ := hD
  clear lN
  refine Stop.go ?_
  with_unfolding_all refine' For_invVF lF ?k1 ?k2 ?_
  case k1 => exact rfl
  case k2 => exact rfl
  k_steps
  refine Stop.go ?_
  rename Fr _ _ _ _ => lF'
  rename News _ _ _ _ => lN'
  rename IsRange _ _ _ _ _ _ _ _ => rgX
  with_unfolding_all refine' kst_range (fun c : Obj × Int × Tok => (_, c.1) :: R) (fun _ => []) (fun _ => True) [Str.ofString "first", Str.ofString "second", Str.ofString "ranges"] (fun pre c => SrcD _ c.1 _ c.2.1 c.2.2 ∧ 0 ≤ c.2.1 ∧ c.2.1 ≤ 7 * pre.length) (_, 0, _) (by rfl) rgX (by decide) (rangeSize_nat _ _) lF' lN' trivial (fun _ h => nomatch h) ⟨hD, Int.le_refl _, Int.le_refl _⟩ ?_ ?_
  · intro c pre sp ts u h tk own hsp hlt hoff _ hP F' N'
    clear lF' lN' rgX
    obtain ⟨hD, hk0, hk1⟩ := hP
    have lap := lap_nums hk0 hk1 hlt
    have s1 : ∀ p ∈ R, p ∈ R ++ own := fun p h => List.mem_append_left _ h
    have s2 : ∀ p ∈ own, p ∈ R ++ own := fun p h => List.mem_append_right _ h
    replace m1 := s1 _ m1
    replace m2 := s1 _ m2
    replace m3 := s1 _ m3
    replace hR := List.forall_mem_append.mpr ⟨hR, fun p h => hoff p h _ (.head _)⟩
    simp only [List.cons_append] at N'
    generalize R ++ own = R2 at N' s1 s2 m1 m2 m3 hR
    k_steps
    refine Stop.go ?_
    k_dflt (refine' ct_use (c_range ?c1 ?c2 ?c3 ?c4 ?c5 ?c6 ?c7 ?c8) ?k1 ?k2 ?k3 ?k4 ?k5 ?kK ?kd ?ku ?_)
    case k1 => k_asm
    case k2 => k_asm
    case k3 => k_asm
    case k4 => k_asm
    case k5 => k_asm
    case kK => first | exact rfl | assumption
    case c1 => exact hD
    case c2 => exact hR
    case c3 => exact m1
    case c4 => exact hI
    case c5 => exact len40
    case c6 => exact lap.1
    case c7 => decide
    case c8 => decide
    case kd => ktr_room
    case ku => ktr_units
    refine e_range ?_
    intro t1 a1 b1 ta1 tb1 o1 tk1 ha0 ha1 hb0 hb1 hD1 ne1 h' tk' F' N'
    try dsimp only
    try k_fold
    have N1 := kst_newsOf N' led_swap
    clear N'
    k_steps
    refine Stop.go ?_
    k_dflt (refine' ct_use (c_lawdiv ?c1 ?c2 ?c3 ?c4 ?c5 ?c6) ?k1 ?k2 ?k3 ?k4 ?k5 ?kK ?kd ?ku ?_)
    case k1 => k_asm
    case k2 => k_asm
    case k3 => k_asm
    case k4 => k_asm
    case k5 => k_asm
    case kK => first | exact rfl | assumption
    case c1 => exact hD1
    case c2 => exact List.forall_mem_cons.mpr ⟨ne1, hR⟩
    case c3 => exact .tail _ m1
    case c4 => exact hI
    case c5 => exact len40
    case c6 => exact lap.2.1
    case kd => ktr_room
    case ku => ktr_units
    refine e_lawdiv ?_
    intro t2 a2 b2 ta2 tb2 o2 kk2 tk2 hc0 hc1 hc2 hc3 hc4 hD2 ne2 h' tk' F' N'
    try dsimp only
    try k_fold
    have N2 := kst_newsOf N' led_swap
    clear N' N1
    k_steps
    rename News _ _ _ _ => N2
    rename _ < _ ∧ _ => l9
    replace N2 := kst_newsOf N2 led_swap
    refine Stop.go ?_
    k_dflt (refine' ct_use (c_range ?c1 ?c2 ?c3 ?c4 ?c5 ?c6 ?c7 ?c8) ?k1 ?k2 ?k3 ?k4 ?k5 ?kK ?kd ?ku ?_)
    case k1 => k_asm
    case k2 => k_asm
    case k3 => k_asm
    case k4 => k_asm
    case k5 => k_asm
    case kK => first | exact rfl | assumption
    case c1 => exact hD2
    case c2 => exact List.forall_mem_cons.mpr ⟨Nat.ne_of_gt l9.1, List.forall_mem_cons.mpr ⟨ne2, List.forall_mem_cons.mpr ⟨ne1, hR⟩⟩⟩
    case c3 => exact .tail _ (.tail _ (.tail _ m1))
    case c4 => exact hI
    case c5 => exact len40
    case c6 => exact (lap.2.2 kk2 hc3 hc4).1
    case c7 => decide
    case c8 => decide
    case kd => ktr_room
    case ku => ktr_units
    refine e_range ?_
    intro t3 a3 b3 ta3 tb3 o3 tk3 hd0 hd1 he0 he1 hD3 ne3 h' tk' F' N'
    try dsimp only
    try k_fold
    k_steps
    have xx := boxX ha0 ha1 hb0 hb1
    have zz := boxZ hd0 hd1 he0 he1
    refine Stop.go ?_
    k_dflt (refine' ct_use (c_held ?c1 ?c2 ?c3 ?c4 ?c5 ?c6 ?c7) ?k1 ?k2 ?k3 ?k4 ?k5 ?kK ?kd ?ku ?_)
    case k1 => k_asm
    case k2 => k_asm
    case k3 => k_asm
    case k4 => k_asm
    case k5 => k_asm
    case kK => first | exact rfl | assumption
    case c1 => exact (.head _)
    case c2 => exact (.tail _ (.tail _ (.tail _ (.tail _ (.tail _ (.head _))))))
    case c3 => exact (.tail _ (.tail _ (.tail _ (.tail _ (.head _)))))
    case c4 => exact (.tail _ (.head _))
    case c5 => exact xx
    case c6 => exact ⟨hc0, hc1, hc2⟩
    case c7 => exact zz
    case kd => ktr_room
    case ku => ktr_units
    refine e_held ?_
    intro lh d0 d1 d2 nh c9 q0 q1 q2 H h' tk' F' N'
    try dsimp only
    try k_fold
    k_steps
    refine Stop.go ?_
    k_dflt (refine' ct_use (c_right ?i1 ?i2 ?c1 ?c2 ?c3 ?c4 ?c8 ?m0 ?m1 ?m2 ?c5 ?c6 ?c7 q0 q1 q2 H) ?k1 ?k2 ?k3 ?k4 ?k5 ?kK ?kd ?ku ?_)
    case k1 => k_asm
    case k2 => k_asm
    case k3 => k_asm
    case k4 => k_asm
    case k5 => k_asm
    case kK => first | exact rfl | assumption
    case i1 => exact (.tail _ (.tail _ (.tail _ (.tail _ (.tail _ (.tail _ (.tail _ (.tail _ (.tail _ (.tail _ m2))))))))))
    case i2 => exact (.tail _ (.tail _ (.tail _ (.tail _ (.tail _ (.tail _ (.tail _ (.tail _ (.tail _ (.tail _ m3))))))))))
    case c1 => exact (.tail _ (.tail _ (.tail _ (.tail _ (.head _)))))
    case c2 => exact (.tail _ (.tail _ (.tail _ (.tail _ (.tail _ (.tail _ (.tail _ (.tail _ (.tail _ (.head _))))))))))
    case c3 => exact (.tail _ (.tail _ (.tail _ (.tail _ (.tail _ (.tail _ (.tail _ (.tail _ (.head _)))))))))
    case c4 => exact (.tail _ (.tail _ (.tail _ (.tail _ (.tail _ (.head _))))))
    case c8 => exact (.head _)
    case m0 => exact (.tail _ (.tail _ (.tail _ (.head _))))
    case m1 => exact (.tail _ (.tail _ (.head _)))
    case m2 => exact (.tail _ (.head _))
    case c5 => exact xx
    case c6 => exact ⟨hc0, hc1, hc2⟩
    case c7 => exact zz
    case kd => ktr_room
    case ku => ktr_units
    refine e_same ?_
    intro  h' tk' F' N'
    try dsimp only
    try k_fold
    k_steps
    exact Stop.go (kst_end (_, _, _) (by k_asm) N' (List.forall_mem_cons.mpr ⟨(.tail _ (.tail _ (.tail _ (.tail _ (.tail _ (.tail _ (.head _))))))), fun p h => (.tail _ (.tail _ (.tail _ (.tail _ (.tail _ (.tail _ (.tail _ (.tail _ (.tail _ (.tail _ (s1 p h)))))))))))⟩) (fun p h => (.tail _ (.tail _ (.tail _ (.tail _ (.tail _ (.tail _ (.tail _ (.tail _ (.tail _ (.tail _ (s2 p h)))))))))))) rfl trivial (fun _ h => nomatch h) (by
      intro z h1 _ h3
      have h4 := h3
      simp only [List.contains_cons, List.contains_nil, Bool.or_false, Bool.or_eq_false_iff, beq_eq_false_iff_ne, ne_eq] at h4
      exact (if_neg h4.2.2).trans ((if_neg h4.1).trans ((if_neg h4.2.1).trans ((if_neg h1).trans (if_neg (by rw [h3]; exact Bool.false_ne_true)))))) ⟨hD3, (lap.2.2 kk2 hc3 hc4).2.1, by rw [List.length_append]; exact (lap.2.2 kk2 hc3 hc4).2.2⟩)
  · intro c u h tk _ _ F' N'
    clear lF' lN' rgX
    k_steps
end Mine
theorem PySem.Challenge.cw_nz0010_01_holds : PySem.Challenge.rw_nz0010_01.Holds := by
  exact Mine.main_holds
