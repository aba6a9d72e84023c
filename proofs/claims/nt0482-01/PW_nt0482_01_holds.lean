import PyProof.Rows.All
import Wide.All
import OpenK.AllK
import Wide.FinOn
import PySem.Challenge.RW_nt0482_01
set_option Elab.async false
/-! Z1 -/
section
open PySem PySem.W PyProof.Rows PySem.Calls
open PySem.Sem (wp)
namespace Mine
/-! A logic over CLEAN contexts: no guard code and no decoder lies on the stack. Nothing raises. -/
def bad : Code → Bool
  | .builtin id _ => guardIds.contains id || Builtin.Bytes.decodersThatHold.contains id
  | _ => false
def Clean (Γ : Ctx) : Prop := bad Γ.code = false ∧ ∀ x ∈ Γ.below, bad x.1 = false
def wpZ {α : Type} (M : Model) (A : Around) (t : Sem α) (Q : α → Shared → Prop) (s : Shared) : Prop :=
  ∀ Γ p, Γ.In A → Clean Γ → wp M Γ t (fun a _ s' => Q a s') (fun _ _ _ => False) p s
def codeZ (M : Model) (A : Around) (c : Code) (R : Flow → Shared → Prop) (s : Shared) : Prop :=
  ∀ Γ p, Γ.code = c → Γ.Below A → (∀ x ∈ Γ.below, bad x.1 = false) →
    wpCode M Γ (fun r s' => match r with | .ok f => R f s' | .error _ => False) p s
section
variable {α β : Type} {M : Model} {A : Around} {s : Shared}
theorem z_of_any {t : Sem α} {Q : α → Shared → Prop} {E : Value → Shared → Prop} (h : wpAny M A t Q E s) (hE : ∀ e s', E e s' → False) : wpZ M A t Q s :=
  fun Γ p hΓ _ => Sem.wp_mono M Γ t (fun _ _ _ x => x) (fun e _ s' x => hE e s' x) p s (h Γ p hΓ)
theorem z_any {t : Sem α} {Q : α → Shared → Prop} (h : wpAny M A t Q (fun _ _ => False) s) : wpZ M A t Q s := z_of_any h fun _ _ x => x
theorem z_code_any {c : Code} {R : Flow → Shared → Prop} (h : codeAny M A c (fun r s' => match r with | .ok f => R f s' | .error _ => False) s) : codeZ M A c R s :=
  fun Γ p hc hΓ _ => h Γ p hc hΓ
theorem z_pure {a : α} {Q : α → Shared → Prop} (h : Q a s) : wpZ M A (pure a) Q s := fun _ _ _ _ => h
theorem z_mono {t : Sem α} {Q Q' : α → Shared → Prop} (h : wpZ M A t Q s) (hQ : ∀ a s, Q a s → Q' a s) : wpZ M A t Q' s :=
  fun Γ p hΓ hc => Sem.wp_mono M Γ t (fun a _ s => hQ a s) (fun _ _ _ x => x) p s (h Γ p hΓ hc)
theorem z_bind {m : Sem α} {f : α → Sem β} {Q : β → Shared → Prop} (h : wpZ M A m (fun a s' => wpZ M A (f a) Q s') s) : wpZ M A (m >>= f) Q s :=
  fun Γ p hΓ hc => by
    rw [Sem.wp_bind']
    exact Sem.wp_mono M Γ m (fun a p' s' h' => h' Γ p' hΓ hc) (fun _ _ _ h' => h') p s (h Γ p hΓ hc)
theorem z_map {m : Sem α} {f : α → β} {Q : β → Shared → Prop} (h : wpZ M A m (fun a s' => Q (f a) s') s) : wpZ M A (f <$> m) Q s :=
  fun Γ p hΓ hc => by rw [Sem.wp_map]; exact h Γ p hΓ hc
theorem z_standAt {pos : Pos} {Q : Unit → Shared → Prop} (h : Q () s) : wpZ M A (standAt pos) Q s := fun _ _ _ _ => h
theorem z_point {Q : Unit → Shared → Prop} (h : Q () s) : wpZ M A point Q s := fun _ _ _ _ => h
theorem z_rule {tag : String} {Q : Unit → Shared → Prop} (h : Q () s) : wpZ M A (rule tag) Q s := fun _ _ _ _ => h
theorem z_holding {vs : List Value} {m : Sem α} {Q : α → Shared → Prop} (h : wpZ M A m Q s) : wpZ M A (holding vs m) Q s :=
  fun Γ p hΓ hc => by rw [Sem.wp_holding]; exact h Γ p hΓ hc
theorem z_keep {vs : List Value} {m : Sem α} {Q : α → Shared → Prop} (h : wpZ M A m Q s) : wpZ M A (m.keep vs) Q s :=
  fun Γ p hΓ hc => by rw [Sem.wp_keep]; exact h Γ p hΓ hc
theorem z_operate {vs : List Value} {m : Sem Value} {Q : Value → Shared → Prop} (h : wpZ M A m Q s) : wpZ M A (operate vs m) Q s :=
  fun Γ p hΓ hc => by rw [Sem.wp_operate]; exact h Γ p hΓ hc
theorem z_release {vs keep : List Value} {Q : Unit → Shared → Prop} (h : Q () s) : wpZ M A (release vs keep) Q s :=
  fun Γ p _ _ => by rw [Sem.wp_release]; exact h
theorem z_onRaise {m : Sem α} {k : Value → Sem Unit} {Q : α → Shared → Prop} (h : wpZ M A m Q s) : wpZ M A (m.onRaise k) Q s := fun Γ p hΓ hc => by
  rw [Sem.wp_onRaise]
  exact Sem.wp_mono M Γ m (fun _ _ _ h' => h') (fun _ _ _ h' => h'.elim) p s (h Γ p hΓ hc)
theorem z_attempt {m : Sem α} {Q : Except Value α → Shared → Prop} (h : wpZ M A m (fun a => Q (.ok a)) s) : wpZ M A m.attempt Q s := fun Γ p hΓ hc => by
  rw [Sem.wp_attempt]
  exact Sem.wp_mono M Γ m (fun _ _ _ h' => h') (fun _ _ _ h' => h'.elim) p s (h Γ p hΓ hc)
theorem z_units_le {t : Sem α} {Q : α → Shared → Prop} (h : wpZ M A.in1 t Q s) : wpZ M A t Q s :=
  fun Γ p hΓ hc => h Γ p ⟨hΓ.1, hΓ.2.1, hΓ.2.2.1, hΓ.2.2.2.1, Nat.le_succ_of_le hΓ.2.2.2.2⟩ hc
theorem z_code_mono {c : Code} {R R' : Flow → Shared → Prop} (h : codeZ M A c R s) (hR : ∀ r s, R r s → R' r s) : codeZ M A c R' s :=
  fun Γ p hc hΓ hb => wpCode_mono (fun r s' x => by cases r with | ok f => exact hR _ _ x | error e => exact x) (h Γ p hc hΓ hb)
theorem z_run {c : Code} {h : Option Value} {Q : Flow → Shared → Prop} (hc : codeZ M (A.mark h) c Q s) (hnb : h ≠ some byPass := by intro x; cases x) :
    wpZ M A (run c h) Q s := fun Γ p hΓ hcl => by
  rw [Sem.wp_run]
  refine wpCode_mono (fun r s' x => ?_) (hc _ p rfl (hΓ.enter c h p hnb) fun x hx => ?_)
  · cases r with
    | ok f => exact x
    | error e => exact x
  · rcases List.mem_cons.mp hx with rfl | hx
    · exact hcl.1
    · exact hcl.2 x hx
theorem z_runValue {c : Code} {Q : Value → Shared → Prop} (hc : codeZ M A c (fun f s' => match f with | .ret v => Q v s' | _ => False) s) : wpZ M A (runValue c) Q s := by
  refine z_bind (z_run (z_code_mono hc fun f s' x => ?_))
  cases f with
  | ret v => exact z_pure x
  | _ => exact x.elim
theorem z_call {f : Value} {pos : List Value} {kw : List (Str × Value)} {Q : Value → Shared → Prop}
    (hc : codeZ M A (.call f ⟨pos, kw⟩) (fun f s' => match f with | .ret v => Q v s' | _ => False) s) : wpZ M A (call f pos kw) Q s := z_runValue hc
theorem z_code_of_tree {c : Code} {R : Flow → Shared → Prop} (hb : bad c = false)
    (h : wpZ M (A.under c) (M.den c) (fun fin s' => match fin with | .done f => R f s' | .again c' => c'.quiet = true ∧ codeZ M A c' R s') s) : codeZ M A c R s :=
  fun Γ p hc hΓ hbel => by
    rw [wpCode_iff_wp, hc]
    refine Sem.wp_mono M Γ _ (fun fin p' s' h' => ?_) (fun _ _ _ h' => h'.elim) p s (h Γ p (hc ▸ hΓ.in) ⟨by rw [hc]; exact hb, hbel⟩)
    cases fin with
    | done f => exact h'
    | again c' => exact ⟨h'.1, h'.2 (Γ.goto c') p' rfl (hΓ.goto c') hbel⟩
theorem z_code_loop {c : Code} {R : Flow → Shared → Prop} (hb : bad c = false) (hq : c.quiet = true) (I : Nat → Shared → Prop)
    (turn : ∀ n s, I n s → wpZ M (A.under c) (M.den c)
      (fun fin s' => match fin with | .done f => R f s' | .again c' => (c' = c ∧ ∃ m, m < n ∧ I m s') ∨ (c'.quiet = true ∧ codeZ M A c' R s')) s)
    (n : Nat) (h : I n s) : codeZ M A c R s := by
  induction n using Nat.strongRecOn generalizing s with
  | ind n ih =>
    refine z_code_of_tree hb (z_mono (turn n s h) fun fin s' hf => ?_)
    cases fin with
    | done f => exact hf
    | again c' =>
      rcases hf with ⟨rfl, m, hm, hI⟩ | hf
      · exact ⟨hq, ih m hm hI⟩
      · exact hf
/-- a clean stack exports no array -/
theorem z_exported {self : Value} {Q : Bool → Shared → Prop} (h : Q false s) : wpZ M A (Builtin.Bytes.exported self) Q s := fun Γ p _ hc => by
  unfold Builtin.Bytes.exported
  show Q _ s
  refine (show ∀ b, b = false → Q b s from fun b e => e ▸ h) _ ?_
  refine List.any_eq_false.mpr fun x hx => ?_
  have hb : bad x.1 = false := by
    rcases List.mem_cons.mp hx with rfl | hx
    · exact hc.1
    · exact hc.2 x hx
  obtain ⟨c, q⟩ := x
  dsimp only at hb ⊢
  unfold bad at hb
  split at hb
  · rename_i id args
    rw [Bool.or_eq_false_iff] at hb
    obtain ⟨hg, hd⟩ := hb
    split
    · rename_i e; cases e; exact absurd hg (by decide)
    · rename_i e; cases e; exact absurd hg (by decide)
    · rename_i e; cases e; exact absurd hg (by decide)
    · rename_i e; cases e; exact absurd hg (by decide)
    · rename_i e; cases e; exact absurd hg (by decide)
    · rename_i e; cases e; rw [hd, Bool.and_false]; exact Bool.false_ne_true
    · exact Bool.false_ne_true
  · split <;> first | exact Bool.false_ne_true | (rename_i h9 _ _ _ _ _; exact absurd rfl (h9 _ _)) | skip
    all_goals (rename_i e; cases e; rename_i h9; exact absurd rfl (h9 _ _))
end
end Mine
end
/-! Z2 -/
section
open PySem PySem.W PyProof.Rows PySem.Calls
open PySem.Sem (wp)
namespace Mine
/-! The head, for the logic over clean contexts: the claim's caller alone lies below the call. -/
theorem caller_clean : Clean ⟨.builtin "claim.caller" {}, none, none, [], none⟩ := ⟨by decide +kernel, fun _ h => nomatch h⟩
theorem thread_endsZ {prog : Program} {w : World} {t : Sem Fin} {s : Shared} {R : Flow → Shared → Prop} (hreg : s.asleep)
    (h : wpZ (model prog w) callerA t (fun fin s' => ∃ f, fin = .done f ∧ R f s' ∧ leftWithCleanup s'.gens = false) s) :
    ∃ n f s' s'', runN (denote table) prog w n s ⟨t, .builtin "claim.caller" {}, default, []⟩ = .halted (outcomeOf (.ok f)) s' ∧
      schedN (denote table) prog w n (.single s ⟨t, .builtin "claim.caller" {}, default, []⟩) = .halted (outcomeOf (.ok f)) s' ∧ s'.forget = s''.forget ∧ R f s'' := by
  have h1 : wp (model prog w) ⟨.builtin "claim.caller" {}, none, none, [], none⟩ t
      (Sem.finPost (model prog w) ⟨.builtin "claim.caller" {}, none, none, [], none⟩ (fun r s' => (∃ f, r = .ok f ∧ R f s') ∧ leftWithCleanup s'.gens = false))
      (fun e _ s' => (∃ f, Except.error e = .ok f ∧ R f s') ∧ leftWithCleanup s'.gens = false) default s :=
    Sem.wp_mono (model prog w) _ t (fun fin p s' x => by obtain ⟨f, rfl, hR, hg⟩ := x; exact ⟨⟨f, rfl, hR⟩, hg⟩)
      (fun e p s' (x : False) => x.elim) default s (h _ default caller_in caller_clean)
  obtain ⟨n, r, s₁, s₂, hs, hn, hfo, ⟨f, rfl, hR⟩⟩ := wp_halts_full (M := model prog w) (R := fun r s' => ∃ f, r = .ok f ∧ R f s') hreg h1
  exact ⟨n, f, s₂, s₁, hn, hs, hfo, hR⟩
/-- what the walk of the law's call is to show -/
abbrev WalkZ (q : Program) (loose : List Str) (XP : (Str → Option Value) → Heap → Prop) (YP : World → Heap → Prop) (r : RowW) (d : DefRec) (kwd : List (Str × Expr)) : Prop :=
  ∀ (w : World) (s₀ s₁ : Shared) (mg mb : Str → Option Value), Ground q loose r.records XP w s₀ mg mb s₁.heap → YP w s₁.heap → ∀ (a : Addr) (o : Obj) (pm cd doc dV kV : Value), s₁.heap.get? a = some o →
    o.data = .func { docDef d.name d.params d.body d.scope pm cd doc with defaults := dV, kwdefaults := kV } → s₁.heap.CodeRec cd d.name → Dflts mg s₁.heap d.params kwd dV kV → mg d.name = some (.ref a) → s₁.gens = #[] →
    ∀ (args : List WData) (vals : List Value) (as : List Addr), r.claim.pre args = true → WData.layableAll args = true → ReadsAllW r.records (classAt s₀.heap) s₁.heap vals args as → WellAll w.params s₁.heap vals args → (∀ a ∈ as, (a == sysModules) = false) →
      wpZ (model r.prog w) callerA (PySem.call (.ref a) vals) (fun v s' => GoodW r.claim (classAt s₀.heap) (ExcName.means s₀.heap) args s₁ (.ok (.ret v)) s') s₁
theorem callFromZ {c : ClaimW} {tree : List Value → Sem Fin} {w : World} {s : Shared} {free : Addr → Prop} {gens : Prop} {kept : Heap → Prop} (hz : s.asleep) (hgens : s.gens = #[])
    (hspec : ∀ args, c.pre args = true → WData.layableAll args = true → ∀ ord : List DictEntry → List DictEntry, (∀ l, (ord l).Perm l) →
      ∃ vs s₁, layAllW c.records (classAt s.heap) w.params ord args s = some (vs, s₁) ∧
        wpZ (model c.prog w) callerA (tree vs) (fun fin s' => ∃ f, fin = .done f ∧ c.Ends s args vs s₁ (.ok f) s' ∧ s'.os = s.os ∧ AllBare s'.gens ∧ kept s'.heap) s₁) :
    c.CallFrom (fun vs => ⟨tree vs, .builtin "claim.caller" {}, default, []⟩) w free gens kept s := by
  intro args hpre hlay ord hord
  obtain ⟨vs, s₁, hlaid, hcode⟩ := hspec args hpre hlay ord hord
  have hal := layAllW_rest _ _ _ hlaid
  obtain ⟨k, f, s', s'', hrun, hsched, hfo, hcase, hos, hkp⟩ := thread_endsZ (prog := c.prog) (w := w) (t := tree vs) (s := s₁)
    (R := fun f s' => c.Ends s args vs s₁ (.ok f) s' ∧ s'.os = s.os ∧ kept s'.heap) (Shared.asleep_of_life hal.2.2.2 hz)
    (z_mono hcode fun fin s' ⟨f, e, h1, h2, h3, h4⟩ => ⟨f, e, ⟨h1, h2, h4⟩, leftWithCleanup_false_of_bare h3⟩)
  obtain ⟨eh, _, _, eo, _⟩ := Shared.forget_eq hfo
  have hcase := hcase.congr eh
  have hkp : kept s'.heap := by rw [eh]; exact hkp
  have hos : s'.os = s.os := eo.trans hos
  have hlife : s'.heap.life = s.heap.life := (runN_life _ _ _ hrun).trans hal.2.2.2
  refine ⟨vs, s₁, hlaid, k, _, s', hsched, ?_, (fun _ i x hx => by rw [hgens] at hx; simp at hx), hkp, by rw [hlife], Shared.rest_eq hos⟩
  rcases hcase with ⟨v, e, d1, d2, d3, d4, d5⟩ | ⟨e, ob, cls, he, _⟩
  · cases e; exact .inl ⟨v, rfl, d1, d2, d3, fun b o y _ => d4 b o y, d5⟩
  · cases he
theorem holds_openZ {r : OpenRow} {q : Program} {loose : List Str} {Xt : Shared → Bool} {XP : (Str → Option Value) → Heap → Prop} {α : Type} {Yf : Shared → α} {Ya : World → α} {YP : World → Heap → Prop} {d : DefRec} {kwd : List (Str × Expr)} {N : Nat}
    (left : LeftO r.prog q loose Xt Yf Ya N) (hY : ∀ w s, Yf s = Ya w → YP w s.heap) (hYk : ∀ w h h', YP w h → (∀ b o, h.get? b = some o → h'.get? b = some o) → YP w h')
    (hX : ∀ s, Xt s = true → XP (s.heap.nsMap mainGlobals) s.heap) (hXk : ∀ mg h h', XP mg h → (∀ b o, h.get? b = some o → h'.get? b = some o) → XP mg h')
    (hdef : defOf q r.name = some (d, kwd)) (hp : r.prog.theDef r.name = some (d.params, d.body, d.scope)) (hk : kwWritten? d.params.kwonlyargs d.params.kw_defaults = some kwd) (hRf : ∀ s, Xt s = true → RecFacts r.records s.heap) (hwr : (!r.writes || r.records.isEmpty) = true)
    (k1 : r.wellSaid = true) (ok : (chainsOk q && opensWell r.prog && (frees r.toRowW && r.within.isEmpty)) = true) (hb : r.prog.bare) (hw : r.toRowW.promised)
    (call : WalkZ q loose XP YP r.toRowW d kwd) : r.Holds := by
  obtain ⟨ok, k5⟩ := Bool.and_eq_true_iff.mp ok
  obtain ⟨hch, o1⟩ := Bool.and_eq_true_iff.mp ok
  obtain ⟨k5, k6⟩ := Bool.and_eq_true_iff.mp k5
  obtain ⟨hsame, hu, ha, hap, hm⟩ := frees_parts k5
  refine ⟨k1, hw, ⟨hb, o1, by show r.makers.map _ = []; rw [hm]; rfl⟩, hw.witness, fun w => ⟨(left.behind hX hch w).1, fun s' hs' => ?_⟩⟩
  obtain ⟨s₀, hf, hg0, s, hT, hz, hgens, hg, G00, y⟩ := (left.behind (XP := fun mg h => XP mg h ∧ RecFacts r.records h) (fun s hs => ⟨hX s hs, hRf s hs⟩) hch w).2 s' hs'
  have G0 : Ground q loose [] XP w s (s.heap.nsMap mainGlobals) (s.heap.nsMap builtinsNs) s.heap := ⟨G00.T, G00.B, G00.D, G00.TE, G00.TD, G00.W, G00.X.1, G00.cls, G00.has, G00.apart, G00.once, G00.K⟩
  have RF := G00.X.2
  refine ⟨s₀, hf, hg0, s, hT, fun n hn => ?_, RF.1, RF.2.1, ?_⟩
  · obtain rfl : n = r.name := by split at hn <;> simp_all
    exact pinned_of_view hg G0 hdef hp hk
  have hgens : s.gens = #[] := Array.eq_empty_of_size_eq_zero (beq_iff_eq.mp hgens)
  have G : Ground q loose r.records XP w s _ _ s.heap := RF.ground G0
  refine callFromZ (c := r.toRowW.claim) hz hgens fun args hpre hlay ord hord => ?_
  obtain ⟨⟨vs, s₁⟩, hlaid⟩ := Option.isSome_iff_exists.mp (layAllW_isSome (P := w.params) (ord := ord) G.has args r.args s (pre_splitW hpre).1)
  have keeps := layAllW_keeps _ _ _ hlaid
  have hal := layAllW_rest _ _ _ hlaid
  obtain ⟨as, hrd, hin, hold⟩ := reads_layAllW hord _ _ _ hlaid hlay s₁.heap (fun _ _ e => e)
  have L : Laid r.records w s s₁ args vs as := ⟨⟨ord, hord, hlaid⟩, hrd, hin, hold, keeps, hal.1.trans hgens, hal.2.2.1⟩
  have G₁ := G.keeps hXk keeps
  obtain ⟨a, o, pm, cd, doc, dV, kV, h1, h2, h3, h4, h5⟩ := G₁.fn hdef
  have h := call w s s₁ _ _ G₁ (hYk _ _ _ (hY w s y) keeps) a o pm cd doc dV kV h2 h3 h4 h5 (defOf_name hdef ▸ h1) L.gens args vs as hpre hlay L.reads L.well (L.low G.low)
  have hi := ident_freeW hu ha hap
  have hwi : r.toRowW.claim.within = [] := List.isEmpty_iff.mp k6
  refine ⟨vs, s₁, hlaid, z_bind (z_any (wpAny_nsGet G₁.T.g ?_))⟩
  rw [h1]
  refine z_bind (z_mono h fun v s' g => z_pure ⟨_, rfl, ?_⟩)
  have z := (GoodW.toG g).laid (c := r.toRowW.claim) hsame hwi hi L
  exact ⟨z.1, z.2.1, z.2.2, fun q => ⟨namesKept_of hT hg r.keeps keeps (OldK.of_keep g.2.1).1, noTable hwr q⟩⟩
end Mine
namespace Mine.H.PySem.W
theorem holds_open {r : OpenRow} {q : Program} {loose : List Str} {Xt : Shared → Bool} {XP : (Str → Option Value) → Heap → Prop} {α : Type} {Yf : Shared → α} {Ya : World → α} {YP : World → Heap → Prop} {d : DefRec} {kwd : List (Str × Expr)} {N : Nat}
    (left : LeftO r.prog q loose Xt Yf Ya N) (hY : ∀ w s, Yf s = Ya w → YP w s.heap) (hYk : ∀ w h h', YP w h → (∀ b o, h.get? b = some o → h'.get? b = some o) → YP w h')
    (hX : ∀ s, Xt s = true → XP (s.heap.nsMap mainGlobals) s.heap) (hXk : ∀ mg h h', XP mg h → (∀ b o, h.get? b = some o → h'.get? b = some o) → XP mg h')
    (hdef : defOf q r.name = some (d, kwd)) (hp : r.prog.theDef r.name = some (d.params, d.body, d.scope)) (hk : kwWritten? d.params.kwonlyargs d.params.kw_defaults = some kwd) (hRf : ∀ s, Xt s = true → RecFacts r.records s.heap) (hwr : (!r.writes || r.records.isEmpty) = true)
    (k1 : r.wellSaid = true) (ok : (chainsOk q && opensWell r.prog && (frees r.toRowW && r.within.isEmpty)) = true) (hb : r.prog.bare) (hw : r.toRowW.promised)
    (call : WalkZ q loose XP YP r.toRowW d kwd) : r.Holds :=
  Mine.holds_openZ left hY hYk hX hXk hdef hp hk hRf hwr k1 ok hb hw call
end Mine.H.PySem.W
end
/-! HZ -/
section
open PySem PySem.W PyProof.Rows
namespace Mine.H
set_option maxRecDepth 100000 in
set_option maxHeartbeats 8000000 in
open_top hd for PySem.Challenge.rw_nt0482_01
end Mine.H
end
/-! Z3 -/
section
open PySem PySem.W PyProof.Rows PySem.Calls
open PySem.Sem (wp)
namespace Mine
/-! The statements and expressions over clean contexts. -/
section
variable {M : Model} {A : Around} {s : Shared} {env : Env}
theorem z_ite {α : Type} {c : Prop} [Decidable c] {a b : Sem α} {Q : α → Shared → Prop} (h : if c then wpZ M A a Q s else wpZ M A b Q s) :
    wpZ M A (if c then a else b) Q s := by split <;> simp_all
theorem z_execs_nil {Q : Flow → Shared → Prop} (h : Q .next s) : wpZ M A (execs [] env) Q s := fun _ _ _ _ => h
theorem z_execs_cons {st : Stmt} {rest : List Stmt} {Q : Flow → Shared → Prop}
    (h : wpZ M A (exec st env) (fun f s' => match f with | .next => wpZ M A (execs rest env) Q s' | f => Q f s') s) : wpZ M A (execs (st :: rest) env) Q s := by
  rw [PySem.execs_cons]
  refine z_bind (z_mono h fun f s' h' => ?_)
  cases f with
  | next => exact h'
  | _ => exact z_pure h'
/-- a statement that goes on, and one that may leave -/
theorem z_next {st : Stmt} {rest : List Stmt} {Q : Flow → Shared → Prop}
    (h : wpZ M A (exec st env) (fun f s' => f = .next ∧ wpZ M A (execs rest env) Q s') s) : wpZ M A (execs (st :: rest) env) Q s :=
  z_execs_cons (z_mono h fun f s' ⟨e, h'⟩ => by subst e; exact h')
theorem z_If {test : Expr} {body orelse : List Stmt} {pos : Pos} {Q : Flow → Shared → Prop}
    (h : wpZ M A (isTrue test env (eval test env)) (fun b s₂ => (b = true → wpZ M A (execs body env) Q s₂) ∧ (b = false → wpZ M A (execs orelse env) Q s₂)) s) :
    wpZ M A (exec (.If test body orelse pos) env) Q s := by
  rw [exec_If]
  refine z_bind (z_standAt (z_bind (z_mono h fun b s₂ h₂ => z_ite ?_)))
  cases b with
  | true => exact h₂.1 rfl
  | false => exact h₂.2 rfl
theorem z_Return {e : Expr} {pos : Pos} {Q : Flow → Shared → Prop} (h : wpZ M A (eval e env) (fun v => Q (.ret v)) s) :
    wpZ M A (exec (.Return (some e) pos) env) Q s := by
  rw [exec_Return_some]
  exact z_bind (z_standAt (z_bind (z_mono h fun v s' h' => z_pure h')))
/-- an expression's statement whose value is none -/
theorem z_Expr {e : Expr} {pos : Pos} {Q : Flow → Shared → Prop} (h : wpZ M A (eval e env) (fun v s' => v = .none ∧ Q .next s') s)
    (hi : interactive env = false := by rfl) (hs : swapsWith e none pos.line env = pure false := by rfl) : wpZ M A (exec (.Expr e pos) env) Q s := by
  rw [exec_Expr env e pos hi hs]
  refine z_bind (z_standAt (z_bind (z_mono h fun v s' h' => ?_)))
  obtain ⟨rfl, h'⟩ := h'
  rw [dropValue_plain (fun a x => by cases x)]
  exact z_pure h'
theorem z_Assign_one {t value : Expr} {pos : Pos} {Q : Flow → Shared → Prop}
    (h : wpZ M A (eval value env) (fun v s₁ => wpZ M A (assign t env v) (fun _ => Q .next) s₁) s)
    (hs : swapsWithSole [t] value pos.line env = pure false := by rfl) (hw : swappedStores [t] value env = pure none := by rfl)
    (he : (assignEach [t] env).map (·.2) = [assign t env] := by rfl) : wpZ M A (exec (.Assign [t] value pos) env) Q s := by
  rw [exec_Assign_arm]
  refine z_bind (z_standAt ?_)
  rw [hs]
  refine z_bind (z_pure ?_)
  rw [if_neg (by decide)]
  refine z_bind (z_mono h fun v s₁ h₁ => ?_)
  rw [hw, he]
  refine z_bind (z_pure ?_)
  exact z_bind (z_mono h₁ fun _ s₂ h₂ => z_pure h₂)
theorem z_Assign_swapped {elts : List Expr} {k : Nat} {tpos pos : Pos} {value : Expr} {names : List Str} {Q : Flow → Shared → Prop}
    (h : wpZ M A (eval value env) (fun v s₁ => wpAny M A (unpackItems v names.length none) (fun items s₂ =>
      wpAny M A (assignInOrder (names.reverse.map fun n => bindName env n) items.reverse) (fun _ => Q .next) (fun _ _ => False) s₂) (fun _ _ => False) s₁) s)
    (hs : swapsWithSole [.Tuple elts k tpos] value pos.line env = pure false := by rfl)
    (hw : swappedStores [.Tuple elts k tpos] value env = pure (some names) := by rfl) :
    wpZ M A (exec (.Assign [.Tuple elts k tpos] value pos) env) Q s := by
  rw [exec_Assign_arm]
  refine z_bind (z_standAt ?_)
  rw [hs]
  refine z_bind (z_pure ?_)
  rw [if_neg (by decide)]
  refine z_bind (z_mono h fun v s₁ h₁ => ?_)
  rw [hw]
  refine z_bind (z_pure ?_)
  refine z_any ?_
  exact wpAny_bind (wpAny_rule (wpAny_bind (wpAny_mono h₁ (fun items s₂ h₂ => wpAny_bind (wpAny_mono h₂ (fun _ s₃ h₃ => wpAny_pure h₃) fun _ _ x => x)) fun _ _ x => x)))
theorem z_assign_Attr {o : Expr} {attr : Str} {pos : Pos} {v : Value} {Q : Unit → Shared → Prop}
    (h : wpAny M A (eval o env) (fun ov s₁ => wpAny M A (setAttr ov attr v) Q (fun _ _ => False) s₁) (fun _ _ => False) s) :
    wpZ M A (assign (.Attribute o attr pos) env v) Q s := by
  rw [assign_Attribute]
  refine z_any (wpAny_bind (wpAny_holding (wpAny_mono h (fun ov s₁ h₁ => wpAny_bind (wpAny_standAt (wpAny_bind (wpAny_holding (wpAny_mono h₁ (fun _ s₂ h₂ => ?_) fun _ _ x => x))))) fun _ _ x => x)))
  exact fun Γ p _ => by rw [Sem.wp_release]; exact h₂
theorem z_runOwn {c : Code} {Q : Flow → Shared → Prop} (hc : codeZ M A c Q s) : wpZ M A (runOwn c env) Q s := by
  unfold PySem.runOwn
  exact z_onRaise (z_run (by
    obtain ⟨hd, d, fr, g, u⟩ := A
    exact hc))
theorem z_While {test : Expr} {body orelse : List Stmt} {pos : Pos} {Q : Flow → Shared → Prop} (h : codeZ M A (.whileLoop test body orelse env) Q s) :
    wpZ M A (exec (.While test body orelse pos) env) Q s := by
  rw [exec_While]; exact z_bind (z_standAt (z_runOwn h))
theorem z_For {target iter : Expr} {body orelse : List Stmt} {pos : Pos} {Q : Flow → Shared → Prop}
    (h : wpZ M A (eval iter env) (fun x s₁ => wpZ M A (pyIter x) (fun it s₂ => codeZ M A (.forLoop target it body orelse env) Q s₂) s₁) s)
    (hs : ∀ x, foldedSetIterable iter env x = pure x := by intro _; rfl) : wpZ M A (exec (.For target iter body orelse pos) env) Q s := by
  rw [exec_For]
  refine z_bind (z_standAt (z_bind (z_mono h fun x s₁ h₁ => z_bind ?_)))
  rw [hs x]
  exact z_pure (z_bind (z_standAt (z_bind (z_holding (z_mono h₁ fun it s₂ h₂ => z_runOwn h₂)))))
theorem z_spliced_nil {Q : List Value → Shared → Prop} (h : Q [] s) : wpZ M A (spliced []) Q s := z_pure h
theorem z_spliced_cons {x : Sem Value} {rest : List (Bool × Sem Value)} {Q : List Value → Shared → Prop}
    (h : wpZ M A x (fun v s₁ => wpZ M A (spliced rest) (fun vs s₂ => Q (v :: vs) s₂) s₁) s) : wpZ M A (spliced ((false, x) :: rest)) Q s := by
  rw [spliced]
  refine z_bind (z_mono h fun v s₁ h₁ => ?_)
  simp only [Bool.false_eq_true, if_false]
  exact z_bind (z_pure (z_bind (z_holding (z_mono h₁ fun vs s₂ h₂ => z_pure h₂))))
theorem z_evalArgs {f : Value} {x : Sem Value} {rest : List (Bool × Sem Value)} {Q : Args → Shared → Prop}
    (h : wpZ M A (spliced ((false, x) :: rest)) (fun vs s' => Q ⟨vs, []⟩ s') s) : wpZ M A (evalArgs f true ((false, x) :: rest) []) Q s := by
  unfold PySem.evalArgs
  show wpZ M A (spliced ((false, x) :: rest) >>= _) Q s
  exact z_bind (z_mono h fun vs s' h' => z_holding (z_bind (z_pure (z_bind (z_pure (z_pure h'))))))
theorem z_evalArgs_nil {f : Value} {Q : Args → Shared → Prop} (h : Q ⟨[], []⟩ s) : wpZ M A (evalArgs f true [] []) Q s := z_any (evalArgs_nil3 h)
theorem z_callWith {P : Heap → Prop} {pos : Pos} {f : Value} {first : List Value} {args : List (Bool × Sem Value)} {Q : Value → Shared → Prop} (hplain : args.any (·.1) = false)
    (hk : ∀ h, P h → ∃ k, (k = Keeper.frame ∨ k = Keeper.machine ∨ k = Keeper.boundFrame) ∧ Looks M h (keeperOf f) k)
    (h : wpZ M A (PySem.evalArgs f true args []) (fun a s₁ => P s₁.heap ∧ wpZ M A (call f (first ++ a.pos) a.kw) Q s₁) s) : wpZ M A (PySem.callWith pos f first args []) Q s := by
  unfold PySem.callWith
  refine z_bind (z_holding (z_mono h fun a s₁ h₁ => z_bind (z_standAt ?_)))
  obtain ⟨k, hk', L⟩ := hk _ h₁.1
  simp only [hplain, List.any_nil, Bool.or_false]
  refine z_bind (z_any (L.here ?_))
  have tail : ∀ {t : Sem Value}, wpZ M A t Q s₁ → wpZ M A (t >>= fun r => PySem.holding [r] point >>= fun _ => pure r) Q s₁ :=
    fun ht => z_bind (z_mono ht fun r s₂ hr => z_bind (z_holding (z_point (z_pure hr))))
  have marked (mk : Value) : wpZ M A (callMarked mk f (first ++ a.pos) a.kw) Q s₁ := by unfold callMarked; exact z_keep h₁.2
  rcases hk' with rfl | rfl | rfl <;> dsimp only <;> first | exact tail h₁.2 | (split <;> first | exact tail h₁.2 | exact tail (marked _))
/-- a builtin, a type: the machine keeps its arguments -/
theorem z_keeps_builtin (id : String) (h : Heap) (_ : True) : ∃ k, (k = Keeper.frame ∨ k = Keeper.machine ∨ k = Keeper.boundFrame) ∧ Looks M h (keeperOf (.builtin id)) k := ⟨.machine, .inr (.inl rfl), Looks.of_pure rfl⟩
theorem z_keeps_type (T : String) (h : Heap) (_ : True) : ∃ k, (k = Keeper.frame ∨ k = Keeper.machine ∨ k = Keeper.boundFrame) ∧ Looks M h (keeperOf (.type T)) k := ⟨.machine, .inr (.inl rfl), Looks.of_pure rfl⟩
theorem z_methodCall {o : Expr} {name : Str} {apos pos : Pos} {args : List Expr} {pl : Sem Bool} {Q : Value → Shared → Prop}
    (h : wpZ M A (eval o env) (fun ov s₁ => wpZ M A (getMethod ov name pl) (fun fx s₂ => wpZ M A (PySem.callWith pos fx.1 fx.2 (backTo pos (starEach args env)) []) Q s₂) s₁) s)
    (he : eval (.Call (.Attribute o name apos) args [] pos) env = (do
      let ov ← eval o env
      standAt apos.atName
      let (f, first) ← holding [ov] (getMethod ov name pl)
      PySem.callWith pos f first (backTo pos (starEach args env)) []) := by rfl) :
    wpZ M A (eval (.Call (.Attribute o name apos) args [] pos) env) Q s := by
  rw [he]
  exact z_bind (z_mono h fun ov s₁ h₁ => z_bind (z_standAt (z_bind (z_holding (z_mono h₁ fun fx s₂ h₂ => h₂)))))
theorem z_callName {id : Str} {p pos : Pos} {args : List Expr} {Q : Value → Shared → Prop}
    (h : wpZ M A (eval (.Name id p) env) (fun f s₁ => wpZ M A (PySem.callWith pos f [] (backTo pos (starEach args env)) []) Q s₁) s) :
    wpZ M A (eval (.Call (.Name id p) args [] pos) env) Q s := by
  rw [arm_eval_Call_Name']
  exact z_bind h
theorem z_BinOp {l r : Expr} {op : Operator} {pos : Pos} {Q : Value → Shared → Prop}
    (h : wpZ M A (eval l env) (fun a s₁ => wpZ M A (eval r env) (fun b s₂ => wpZ M A (binaryOp op a b) Q s₂) s₁) s) : wpZ M A (eval (.BinOp l op r pos) env) Q s := by
  rw [eval_BinOp]
  exact z_bind (z_mono h fun a s₁ h₁ => z_bind (z_holding (z_mono h₁ fun b s₂ h₂ => z_bind (z_standAt (z_operate h₂)))))
theorem z_Tuple {elts : List Expr} {k : Nat} {pos : Pos} {Q : Value → Shared → Prop}
    (h : wpZ M A (spliced (backTo pos (starEach elts env))) (fun vs s₁ => wpZ M A (newTuple vs) Q s₁) s) : wpZ M A (eval (.Tuple elts k pos) env) Q s := by
  show wpZ M A (do standAt pos; newTuple (← spliced (backTo pos (starEach elts env)))) Q s
  exact z_bind (z_standAt (z_bind h))
theorem z_isTrue_Compare1 {l r : Expr} {op : CmpOp} {pos : Pos} {whole : Sem Value} {Q : Bool → Shared → Prop}
    (h : wpZ M A (eval l env) (fun a s₁ => wpZ M A (eval r env) (fun b s₂ => wpZ M A (compareOp op a b) (fun c s₃ => wpZ M A (truthy c) Q s₃) s₂) s₁) s)
    (hm : behindInMarks op r = false := by with_unfolding_all rfl) : wpZ M A (isTrue (.Compare l [op] [r] pos) env whole) Q s := by
  rw [PySem.isTrue_Compare1, markedBehindIn_of_false hm]
  exact z_bind (z_mono h fun a s₁ h₁ => z_bind (z_holding (z_mono h₁ fun b s₂ h₂ => z_bind (z_standAt (z_bind (z_operate (z_mono h₂ fun c s₃ h₃ => z_holding h₃)))))))
end
section
variable {prog : Program} {w : World} {A : Around} {R : Flow → Shared → Prop} {s : Shared}
theorem z_whileLoop {test : Expr} {body orelse : List Stmt} {env : Env} (I : Nat → Shared → Prop)
    (turn : ∀ n s, I n s → wpZ (model prog w) A (isTrue test env (eval test env)) (fun b s₂ =>
        (b = true → wpZ (model prog w) A (execs body env) (fun f s₃ => match f with
            | .next | .cont => ∃ m, m < n ∧ I m s₃
            | .brk => R .next s₃
            | .ret v => R (.ret v) s₃) s₂) ∧
        (b = false → wpZ (model prog w) A (execs orelse env) R s₂)) s)
    (n : Nat) (h : I n s) : codeZ (model prog w) A (.whileLoop test body orelse env) R s := by
  refine z_code_loop rfl rfl I (fun n s hI => ?_) n h
  rw [Around.under_of_weight rfl]
  show wpZ _ A ((whileTurn test body orelse env).onRaise (fun x => do noteFrame x env; theTreesLotGoes x)) _ s
  refine z_onRaise ?_
  simp only [whileTurn]
  refine z_bind (z_mono (turn n s hI) fun b s₂ h₂ => ?_)
  cases b with
  | false =>
    simp only [Bool.false_eq_true, if_false]
    exact z_bind (z_mono (h₂.2 rfl) fun f s₃ h₃ => z_pure h₃)
  | true =>
    simp only [if_true]
    refine z_bind (z_mono (h₂.1 rfl) fun f s₃ h₃ => ?_)
    cases f with
    | next => exact z_pure (.inl ⟨rfl, h₃⟩)
    | cont => exact z_pure (.inl ⟨rfl, h₃⟩)
    | brk => exact z_pure h₃
    | ret v => exact z_pure h₃
theorem z_block {body : List Stmt} {env : Env} (h : wpZ (model prog w) A (execs body env) R s) : codeZ (model prog w) A (.block body env) R s := by
  refine z_code_of_tree rfl ?_
  rw [Around.under_of_weight rfl]
  show wpZ _ A (do return Fin.done (← (execs body env).onRaise _)) _ s
  exact z_bind (z_onRaise (z_mono h fun f s' h' => z_pure h'))
theorem z_forLoop {target : Expr} {it : Value} {body orelse : List Stmt} {env : Env} (I : Nat → Shared → Prop)
    (turn : ∀ n s, I n s → wpAny (model prog w) A (pyNext it) (fun r s₁ => match r with
      | none => wpZ (model prog w) A (execs orelse env) R s₁
      | some v => wpAny (model prog w) A (letOwnedTupleGo target it v) (fun _ s₁' =>
          wpAny (model prog w) A (assign target env v) (fun _ s₂ => wpZ (model prog w) A (execs body env) (fun f s₃ => match f with
            | .next | .cont => ∃ m, m < n ∧ I m s₃
            | .brk => R .next s₃
            | .ret v => R (.ret v) s₃) s₂) (fun _ _ => False) s₁') (fun _ _ => False) s₁) (fun _ _ => False) s)
    (n : Nat) (h : I n s) : codeZ (model prog w) A (.forLoop target it body orelse env) R s := by
  refine z_code_loop rfl rfl I (fun n s hI => ?_) n h
  rw [Around.under_of_weight rfl]
  show wpZ _ A ((forTurn target it body orelse env).onRaise (fun x => do noteFrame x env; theTreesLotGoes x)) _ s
  refine z_onRaise ?_
  simp only [forTurn]
  refine z_bind (z_standAt (z_bind (z_onRaise (z_mono (z_any (turn n s hI)) fun r s₁ h₁ => ?_))))
  cases r with
  | none => exact z_pure (.inr ⟨rfl, z_block h₁⟩)
  | some v =>
    refine z_bind (z_mono (z_any h₁) fun _ s₁' h₁' => ?_)
    refine z_bind (z_mono (z_any h₁') fun _ s₂ h₂ => z_bind (z_mono h₂ fun f s₃ h₃ => ?_))
    cases f with
    | next => exact z_pure (.inl ⟨rfl, h₃⟩)
    | cont => exact z_pure (.inl ⟨rfl, h₃⟩)
    | brk => exact z_pure h₃
    | ret v => exact z_pure h₃
theorem z_func {body : List Stmt} {env : Env}
    (h : wpZ (model prog w) (A.deeper env) (execs body env) (fun f s' => R (.ret (match f with | .ret v => v | _ => .none)) s') s) : codeZ (model prog w) A (.func body env) R s := by
  refine z_code_of_tree rfl ?_
  show wpZ _ (A.deeper env) (do point; match ← (execs body env).onRaise (leaving env) with | .ret v => ret v | _ => ret .none) _ s
  refine z_bind (z_point (z_bind (z_onRaise (z_mono h fun f s' h' => ?_))))
  cases f <;> exact z_pure h'
theorem z_call_function {a : Addr} {args : Args} {o : Obj} {fd : FuncData} {body : List Stmt} (hroom : A.depth < recursionLimit)
    (ho : s.heap.get? a = some o) (hd' : o.data = .func fd) (hco : fd.scope.isCoroutine = false) (hgen : fd.scope.isGenerator = false) (hbody : fd.body = .stmts body) (hcd : s.heap.CodeRec fd.code fd.qualname)
    (h : wpAny (model prog w) A.in1 (bindArgs fd args) (fun binds s₁ =>
      wpAny (model prog w) A.in1 (newFunctionEnv fd.scope fd.globals fd.closure binds (fd.qualname ++ ".<locals>.") (some a) fd.code none fd.builtins)
        (fun env s₂ => s₂.heap.NoLimit ∧ codeZ (model prog w) A (.func body env) R s₂) (fun _ _ => False) s₁) (fun _ _ => False) s) :
    codeZ (model prog w) A (.call (.ref a) args) R s := by
  refine z_code_of_tree rfl ?_
  show wpZ _ A.in1 (callAny (.ref a) args) _ s
  refine z_any ?_
  simp only [callAny]
  refine wpAny_bind (wpAny_load ho ?_)
  obtain ⟨c, oc, vs, tq, hc, hoc, hdc, hq⟩ := hcd
  simp only [hd', callFunction, hco, hgen, hbody, hc]
  rw [hc] at h
  refine wpAny_bind (m := field (.ref c) 1) (wpAny_field hoc hdc hq (wpAny_bind (wpAny_pure ?_)))
  exact wpAny_bind (wpAny_mono h (fun binds s₁ h₁ => wpAny_bind (wpAny_mono h₁ (fun env s₂ h₂ => wpAny_bind (wpAny_enterFrame h₂.1 hroom
    (wpAny_pure (And.intro rfl h₂.2)))) fun _ _ h' => h')) fun _ _ h' => h')
end
end Mine
end
/-! Z4 -/
section
open PySem PySem.W PyProof.Rows PySem.Calls
open PySem.Sem (wp)
set_option maxRecDepth 100000
namespace Mine
/-! Calls of the text's own defs and classes over clean contexts. -/
def resZ (R : Flow → Shared → Prop) : Result → Shared → Prop := fun r s' => match r with | .ok f => R f s' | .error _ => False
section
variable {prog : Program} {w : World} {A A₀ : Around} {s : Shared} {K : Frag} {L : Addr} {h₀ base : Heap} {m mg mb : Str → Option Value} {news : List (Addr × Obj)} {p : Program} {loose : List Str} {mean : ExcName → Option Value}
theorem z_def {env : Env} {outer : List Env} {R : Flow → Shared → Prop} {name qual : Str} {params : Arguments} {body : List Stmt} {scope : Scope} {dV kV doc pm cdv ct oc : Value} {an od : Option Addr} {osl : Array (Option Value)} {f : Addr} {args : Args} {binds : List (Str × Value)}
    (B : Below A₀ base outer h₀) (F : Fr h₀ L s.heap m) (X₀ : K.In h₀) (N : News h₀ L s.heap news) (T : Top p loose mean mg mb h₀) (hA : A.frames = some (env :: outer)) (hf : env.frame = some L) (hke : env.scope.kind = .function)
    (ho : K.lookup f = some ⟨oc, od, .func (fnOf name qual params body scope dV kV doc pm an cdv ct), osl⟩) (hcd : codeIn K cdv qual = true) (hroom : A.depth < recursionLimit)
    (hbind : BindsTo s (fnOf name qual params body scope dV kV doc pm an cdv ct) args binds) (hloc : ∀ y ∈ binds, scope.names.lookup y.1 = some .local)
    (h : ∀ g L' h₁, Fr h₀ L g m → Fr g L' h₁ (fun y => binds.reverse.lookup y) → News g L' h₁ news → Below A base (env :: outer) g → K.In g → Top p loose mean mg mb g → (∀ p ∈ news, p.1 < L') →
      wpZ (model prog w) (A.deeper (envOf qual scope L' f cdv)) (execs body (envOf qual scope L' f cdv))
        (fun fl s' => LeaveK h₀ L m g (resZ R) (match fl with | .ret v => v | _ => .none) s') { s with heap := h₁, toks := s.toks + binds.length })
    (hco : scope.isCoroutine = false) (hgen : scope.isGenerator = false) (hk : scope.kind = .function)
    (hcell : ∀ x ∈ scope.names, x.2 ≠ .cell) : codeZ (model prog w) A (.call (.ref f) args) R s := by
  obtain ⟨FG, BG, st, lv⟩ := groundX (R := resZ R) B F N hA hf hke
  refine z_call_function hroom ((X₀.keeps F.keep) _ _ ho) rfl hco hgen rfl (codeRec_of (X₀.keeps F.keep) hcd) (hbind _ _ _ _ ?_)
  refine wpAny_newFunctionEnv hcell hloc (fun h₁ hns₁ hsb₁ => ⟨(T.nolimit.keeps F.keep).fresh _ hsb₁, z_func ?_⟩) hk
  have hk₁ : ∀ b o, s.heap.get? b = some o → h₁.get? b = some o := fun b o e => hsb₁.extBut b o (Nat.ne_of_lt (Heap.lt_size e)) (Heap.get?_push_of_some _ e)
  exact z_mono (h _ s.heap.objs.size h₁ FG ⟨hns₁, fun b o e => hk₁ b o (of_hideAll _ e), Nat.le_of_eq (hideAll_size _ _)⟩
    (fun p hp => ⟨hk₁ _ _ (N p hp).1, Nat.ne_of_lt (Heap.lt_size (N p hp).1), hideAll_none _ (List.mem_map_of_mem hp)⟩) BG (X₀.keeps st) (T.keeps st) (fun p hp => Heap.lt_size (N p hp).1)) (fun fl s' hl => lv _ _ hl)
/-- a call of a built-in by the machine -/
theorem z_builtin_at {R : Flow → Shared → Prop} {id : String} {args : Args} {b : Builtin} (hb : entryFor table id = some b) (hbad : bad (.builtin id args) = false)
    (h : wpZ (model prog w) (A.under (.builtin id args)) (b args) (fun fin s' => match fin with | .done f => R f s' | .again c' => c'.quiet = true ∧ codeZ (model prog w) A c' R s') s) :
    codeZ (model prog w) A (.builtin id args) R s := by
  refine z_code_of_tree hbad ?_
  show wpZ _ _ (match entryFor table id with | some b => b args | none => unsupported ((withoutEnding? id "#data").getD id)) _ s
  rw [hb]; exact h
theorem z_call_builtin {R : Flow → Shared → Prop} {id : String} {args : Args} {b : Builtin} (hq : (Code.builtin id args).quiet = true) (hb : entryFor table id = some b) (hbad : bad (.builtin id args) = false)
    (h : wpAny (model prog w) A.in1 (checkBuiltinCall id args) (fun _ s₁ => wpZ (model prog w) (A.under (.builtin id args)) (b args)
      (fun fin s' => match fin with | .done f => R f s' | .again c' => c'.quiet = true ∧ codeZ (model prog w) A c' R s') s₁) (fun _ _ => False) s) :
    codeZ (model prog w) A (.call (.builtin id) args) R s := by
  refine z_code_of_tree rfl ?_
  show wpZ _ A.in1 (do checkBuiltinCall id args; again (.builtin id args)) _ s
  exact z_any (wpAny_bind (wpAny_mono h (fun _ s₁ h₁ => wpAny_pure (And.intro hq (z_builtin_at hb hbad h₁))) fun _ _ h' => h'))
/-- what an __init__ gives back -/
def InitZ (x : Addr) (R : Flow → Shared → Prop) (f : Flow) (s' : Shared) : Prop := match f with
  | .ret v => v = .none ∧ R (.ret (.ref x)) s'
  | _ => False
section
variable {h : Heap} {g : Array GenState} {d : Drawn} {t : Nat} {os : OsState} {R : Flow → Shared → Prop} {C : Addr}
theorem z_make_core {rest : List Value} {kw : List (Str × Value)} {init : Value} (Y : Makes (model prog w) h C) (hi : Looks (model prog w) h (typeLookup (.ref C) "__init__") (some init))
    (hb : ∀ self, Looks (model prog w) h (bindSpecial init self) (init, [self])) (hne : (some init != some (Value.builtin "object.__init__")) = true ∨ (rest = [] ∧ kw = []))
    (hq : codeZ (model prog w) (A.under (.builtin "type.__call__" ⟨.ref C :: rest, kw⟩)) (.call init ⟨.ref (h.objs.size + 1) :: rest, kw⟩) (InitZ (h.objs.size + 1) R) ⟨(h.push emptyDict).push (instObj C h.objs.size), g, d, t, os⟩) :
    codeZ (model prog w) A (.call (.ref C) ⟨rest, kw⟩) R ⟨h, g, d, t, os⟩ := by
  have Y' := Y
  obtain ⟨⟨oc, od, cd, sl, hC, e1, e2, e4⟩, made, base, self, top, call, typ⟩ := Y
  refine z_code_of_tree rfl ?_
  show wpZ _ _ (callAny (.ref C) _) _ _
  refine z_any (nd_load hC ?_)
  show wpAny _ _ (callAny.viaDunder (.ref C) _) _ _ _
  unfold callAny.viaDunder
  refine wpAny_bind (call.at ?_)
  dsimp only
  rw [tc_bind]
  refine wpAny_bind (wpAny_pure (wpAny_bind (wpAny_pure ?_)))
  refine wpAny_pure (a := Fin.again (.call (.builtin "type.__call__") ⟨.ref C :: rest, kw⟩)) (And.intro rfl ?_)
  refine z_call_builtin (Code.quiet_builtin _ (by decide +kernel)) entry_typeCall (show (guardIds.contains "type.__call__" || Builtin.Bytes.decodersThatHold.contains "type.__call__") = false by decide +kernel) (check_slot tc_kind tc_split typ (tc_args _ _ _) ?_)
  unfold Builtin.«type.__call__»
  have hm : Looks (model prog w) h (mroOf (.ref C)) cd.mro := ((Looks.ld (part := none) hC).andThen .now).andThen .now
  have k : ∀ b o, h.get? b = some o → ((h.push emptyDict).push (instObj C h.objs.size)).get? b = some o := fun b o e => Heap.get?_push_of_some _ (Heap.get?_push_of_some _ e)
  have hx : ((h.push emptyDict).push (instObj C h.objs.size)).get? (h.objs.size + 1) = some (instObj C h.objs.size) := by heap_get
  have t1 : Looks (model prog w) ((h.push emptyDict).push (instObj C h.objs.size)) (typeOf (.ref (h.objs.size + 1))) (.ref C) := (Looks.ld hx).andThen .now
  have s1 := self.keeps k
  have i1 := hi.keeps k
  have b1 := (hb (.ref (h.objs.size + 1))).keeps k
  refine z_bind (m := mroOf (.ref C)) (z_any (hm.at ?_))
  dsimp only
  rw [if_neg (by rw [e4]; exact Bool.false_ne_true)]
  refine z_bind (m := Bind.madeBy (.ref C)) (z_any (made.at ?_))
  dsimp only
  refine z_bind (z_pure (z_bind (z_holding (z_any ?_))))
  refine wpAny_call (new_K Y' hi hne ?_)
  dsimp only
  have t2 : Looks (model prog w) ((h.push emptyDict).push (instObj C h.objs.size)) (isInstance (.ref (h.objs.size + 1)) (.ref C)) true := t1.andThen s1
  have t3 : Looks (model prog w) ((h.push emptyDict).push (instObj C h.objs.size)) (specialOf (.ref (h.objs.size + 1)) "__init__") (some init) := t1.andThen i1
  refine z_bind (m := isInstance (.ref (h.objs.size + 1)) (.ref C)) (z_any (t2.at ?_))
  rw [if_neg (by decide)]
  refine z_bind (z_holding (m := callSpecial? _ _ _ _) ?_)
  unfold callSpecial?
  refine z_bind (m := specialOf _ _) (z_any (t3.at ?_))
  dsimp only
  refine z_holding (z_bind (m := bindSpecial _ _) (z_any (b1.at ?_)))
  dsimp only
  refine z_bind (z_call (z_code_mono hq fun f s' z => ?_))
  rcases f with _ | _ | _ | v
  · exact z.elim
  · exact z.elim
  · exact z.elim
  · obtain ⟨rfl, z⟩ := z
    refine z_pure ?_
    dsimp only
    rw [if_neg (by decide)]
    exact z_pure z
end
end
end Mine
end
/-! Z5 -/
section
open PySem PySem.W PyProof.Rows PySem.Calls
open PySem.Sem (wp)
set_option maxRecDepth 100000
namespace Mine
/-! bytearray: its slots, and its operations over clean contexts. -/
theorem ba_attrs : PlainAttrs "bytearray" :=
  ⟨⟨"bytearray.__getattribute__", by rw [typeLookup_type, builtinLookup_eq_fast]; kernel_rfl, by decide +kernel⟩, by rw [typeLookup_type, builtinLookup_eq_fast]; kernel_rfl⟩
theorem ba_slot_append : Slot "bytearray" "append" "bytearray.append" :=
  .of (owner := "bytearray") (n := "append") (by rw [typeLookup_type, builtinLookup_eq_fast]; kernel_rfl) (by decide +kernel) (by decide +kernel) (by decide +kernel) (.inr (by decide +kernel)) (by rw [isSubtype_type]; kernel_rfl)
theorem ba_slot_extend : Slot "bytearray" "extend" "bytearray.extend" :=
  .of (owner := "bytearray") (n := "extend") (by rw [typeLookup_type, builtinLookup_eq_fast]; kernel_rfl) (by decide +kernel) (by decide +kernel) (by decide +kernel) (.inr (by decide +kernel)) (by rw [isSubtype_type]; kernel_rfl)
theorem ba_slot_pop : Slot "bytearray" "pop" "bytearray.pop" :=
  .of (owner := "bytearray") (n := "pop") (by rw [typeLookup_type, builtinLookup_eq_fast]; kernel_rfl) (by decide +kernel) (by decide +kernel) (by decide +kernel) (.inr (by decide +kernel)) (by rw [isSubtype_type]; kernel_rfl)
theorem ba_slot_init : Slot "bytearray" "__init__" "bytearray.__init__" :=
  .of (owner := "bytearray") (n := "__init__") (by rw [typeLookup_type, builtinLookup_eq_fast]; kernel_rfl) (by decide +kernel) (by decide +kernel) (by decide +kernel) (.inl (by decide +kernel)) (by rw [isSubtype_type]; kernel_rfl)
theorem ba_type_append : typeOf (.builtin "bytearray.append") = pure (.type "method_descriptor") := by show builtinType _ = _; rw [builtinType_eq_fast]; kernel_rfl
theorem ba_type_extend : typeOf (.builtin "bytearray.extend") = pure (.type "method_descriptor") := by show builtinType _ = _; rw [builtinType_eq_fast]; kernel_rfl
theorem ba_type_pop : typeOf (.builtin "bytearray.pop") = pure (.type "method_descriptor") := by show builtinType _ = _; rw [builtinType_eq_fast]; kernel_rfl
theorem ba_entry_append : entryFor table "bytearray.append" = some Builtin.«bytearray.append» := entryFor_of_tree (by kernel_rfl)
theorem ba_entry_extend : entryFor table "bytearray.extend" = some Builtin.«bytearray.extend» := entryFor_of_tree (by kernel_rfl)
theorem ba_entry_pop : entryFor table "bytearray.pop" = some Builtin.«bytearray.pop» := entryFor_of_tree (by kernel_rfl)
theorem ba_entry_init : entryFor table "bytearray.__init__" = some Builtin.«bytearray.__init__» := entryFor_of_tree (by kernel_rfl)
theorem ba_entry_new : entryFor table "bytearray.__new__" = some Builtin.«list.__new__» := entryFor_alias (id' := "list.__new__") (by kernel_rfl) rfl (by decide +kernel) (by kernel_rfl)
theorem ba_args_append (a b : Value) : argsOk "bytearray.append" ⟨[a, b], []⟩ := by unfold argsOk; kernel_rfl
theorem ba_args_extend (a b : Value) : argsOk "bytearray.extend" ⟨[a, b], []⟩ := by unfold argsOk; kernel_rfl
theorem ba_args_pop (a b : Value) : argsOk "bytearray.pop" ⟨[a, b], []⟩ := by unfold argsOk; kernel_rfl
theorem ba_args_init (a : Value) : argsOk "bytearray.__init__" ⟨[a], []⟩ := by unfold argsOk; kernel_rfl
theorem ba_mro : mroOf (.type "bytearray") = pure [.type "bytearray", .type "object"] := by rw [mroOf_type]; kernel_rfl
theorem ba_lookup_new : typeLookup (.type "bytearray") "__new__" = pure (some (.builtin "bytearray.__new__")) := by rw [typeLookup_type, builtinLookup_eq_fast]; kernel_rfl
theorem ba_called : TypeCalled "bytearray" "bytearray.__new__" "bytearray.__init__" :=
  ⟨by decide +kernel, by decide +kernel, ⟨_, _, ba_mro⟩, madeBy_type ba_mro ba_lookup_new (by decide +kernel), by decide +kernel, by rw [isSubtype_type]; kernel_rfl, ba_slot_init⟩
theorem ba_typeCall : checkTypeCall "bytearray" ⟨[], []⟩ = pure () := by kernel_rfl
theorem ba_newCall : checkBuiltinCall "bytearray.__new__" ⟨[.type "bytearray"], []⟩ = pure () := by kernel_rfl
theorem ba_buffer : typeLookup (.type "bytearray") "__buffer__" = pure (some (.builtin "bytearray.__buffer__")) := by rw [typeLookup_type, builtinLookup_eq_fast]; kernel_rfl
theorem ba_release : typeLookup (.type "bytearray") "__release_buffer__" = pure (some (.builtin "bytearray.__release_buffer__")) := by rw [typeLookup_type, builtinLookup_eq_fast]; kernel_rfl
theorem ba_no_bytes : typeLookup (.type "bytearray") "__bytes__" = pure none := by rw [typeLookup_type, builtinLookup_eq_fast]; kernel_rfl
theorem ba_no_index : typeLookup (.type "bytearray") "__index__" = pure none := by rw [typeLookup_type, builtinLookup_eq_fast]; kernel_rfl
theorem ba_sub : isSubtype (.type "bytearray") (.type "bytearray") = pure true := by rw [isSubtype_type]; kernel_rfl
theorem bad_of {id : String} {a : Args} (h : (guardIds.contains id || Builtin.Bytes.decodersThatHold.contains id) = false) : bad (.builtin id a) = false := h
theorem ba_clean_append (a : Args) : bad (.builtin "bytearray.append" a) = false := bad_of (by decide +kernel)
theorem ba_clean_extend (a : Args) : bad (.builtin "bytearray.extend" a) = false := bad_of (by decide +kernel)
theorem ba_clean_pop (a : Args) : bad (.builtin "bytearray.pop" a) = false := bad_of (by decide +kernel)
theorem ba_clean_init (a : Args) : bad (.builtin "bytearray.__init__" a) = false := bad_of (by decide +kernel)
theorem ba_clean_new (a : Args) : bad (.builtin "bytearray.__new__" a) = false := bad_of (by decide +kernel)
theorem ba_clean_call (a : Args) : bad (.builtin "type.__call__" a) = false := bad_of (by decide +kernel)
abbrev ba (b : List UInt8) : Obj := { cls := .type "bytearray", data := .bytearray b.toArray }
section
variable {prog : Program} {w : World} {A : Around} {s : Shared}
theorem ba_typeIs {a : Addr} {b : List UInt8} (h : s.heap.get? a = some (ba b)) : s.TypeIs (.ref a) "bytearray" := ⟨_, h, rfl⟩
theorem z_ba_method {name : Str} {id : String} {Bn : Builtin} {a : Addr} {rest : List Value} {Q : Value → Shared → Prop} (slot : Slot "bytearray" name id) (entry : entryFor table id = some Bn) (clean : bad (.builtin id ⟨.ref a :: rest, []⟩) = false)
    (hT : s.TypeIs (.ref a) "bytearray") (ok : argsOk id ⟨.ref a :: rest, []⟩)
    (h : wpZ (model prog w) A.in1 (Bn ⟨.ref a :: rest, []⟩) (fun fin s' => ∃ v, fin = .done (.ret v) ∧ Q v s') s) : wpZ (model prog w) A (call (.builtin id) (.ref a :: rest)) Q s := by
  refine z_call (z_call_builtin (plainId_quiet slot.plain _) entry clean (slot.check _ _ _ _ _ _ _ _ hT ok ?_))
  rw [Around.under_plainId slot.plain]
  exact z_mono h fun fin s' ⟨v, e, q⟩ => by subst e; exact q
end
end Mine
end
/-! Z6 -/
section
open PySem PySem.W PyProof.Rows PySem.Calls
open PySem.Sem (wp)
set_option maxRecDepth 100000
namespace Mine
section
variable {prog : Program} {w : World} {A : Around} {s : Shared}
theorem z_checkResize {a : Addr} {b : List UInt8} {Q : Unit → Shared → Prop} (h : s.heap.get? a = some (ba b)) (q : Q () s) : wpZ (model prog w) A (Builtin.Bytes.checkResize (.ref a)) Q s := by
  unfold Builtin.Bytes.checkResize
  refine z_bind (z_bind (z_exported ?_))
  show wpZ _ _ (Builtin.Bytes.exportsOf (.ref a) >>= _) _ _
  refine z_bind ?_
  unfold Builtin.Bytes.exportsOf
  refine z_bind (z_any (wpAny_load h ?_))
  refine z_pure (z_pure ?_)
  rw [if_neg (by decide)]
  exact z_pure q
theorem ba_update {a : Addr} {b c : List UInt8} {f : Array UInt8 → Array UInt8} {Q : Unit → Shared → Prop} {E : Value → Shared → Prop} (h : s.heap.get? a = some (ba b)) (hf : f b.toArray = c.toArray) (hz : c.length ≤ sizeLine)
    (q : ∀ h', h'.get? a = some (ba c) → Heap.SameBut a s.heap h' → Q () { s with heap := h' }) : wpAny (model prog w) A (Builtin.Bytes.write (.ref a) f) Q E s := by
  show wpAny _ _ (updateBytearray a f) _ _ _
  unfold updateBytearray
  refine wpAny_bind (wpAny_load h ?_)
  show wpAny _ _ (update a (Obj.mapBytearray f) >>= fun _ => lookBehind a) _ _ _
  refine wpAny_bind (wpAny_update h ?_)
  have h2 : (s.heap.update a (Obj.mapBytearray f)).get? a = some (ba c) := by
    have := Heap.get?_update_self (Obj.mapBytearray f) h rfl
    rw [this]
    show some (Obj.mk _ _ (Data.bytearray (f b.toArray) 0) _) = _
    rw [hf]
  refine wpAny_lookBehind h2 ?_ (q _ h2 (Heap.SameBut.update ..))
  show (if c.toArray.size > sizeLine then some "bytearray:memory" else none) = none
  rw [if_neg]
  rw [List.size_toArray]
  omega
theorem ba_payload {a : Addr} {b : List UInt8} {Q : Array UInt8 → Shared → Prop} {E : Value → Shared → Prop} (h : s.heap.get? a = some (ba b)) (q : Q b.toArray s) : wpAny (model prog w) A (Builtin.Bytes.payload (.ref a)) Q E s := by
  unfold Builtin.Bytes.payload Builtin.Bytes.payload?
  exact wpAny_bind (wpAny_bind (wpAny_load h (wpAny_pure (wpAny_pure q))))
theorem byte_value {n : Int} {t : Tok} {Q : UInt8 → Shared → Prop} {E : Value → Shared → Prop} (h0 : 0 ≤ n) (h1 : n < 256) (q : Q n.toNat.toUInt8 s) : wpAny (model prog w) A (Builtin.Bytes.byteValue (.int n t)) Q E s := by
  unfold Builtin.Bytes.byteValue
  refine wpAny_bind (wpAny_of_eq (rfl : asIndex (.int n t) = pure n) ?_)
  refine bm_if_false (by simp only [Bool.or_eq_false_iff, decide_eq_false_iff_not]; omega) ?_
  exact wpAny_pure q
/-- self.out.append(octet) -/
theorem z_append {a : Addr} {b : List UInt8} {n : Int} {t : Tok} {Q : Value → Shared → Prop} (h : s.heap.get? a = some (ba b)) (h0 : 0 ≤ n) (h1 : n < 256) (hz : b.length < sizeLine)
    (q : ∀ h', h'.get? a = some (ba (b ++ [n.toNat.toUInt8])) → Heap.SameBut a s.heap h' → Q .none { s with heap := h' }) :
    wpZ (model prog w) A (call (.builtin "bytearray.append") [.ref a, .int n t]) Q s := by
  refine z_ba_method ba_slot_append ba_entry_append (ba_clean_append _) (ba_typeIs h) (ba_args_append _ _) ?_
  unfold Builtin.«bytearray.append»
  refine z_bind (z_any (wpAny_of_eq (a := (Value.ref a, Value.int n t)) rfl ?_))
  refine z_bind (z_any (byte_value h0 h1 ?_))
  refine z_bind (z_checkResize h ?_)
  refine z_bind (z_any (ba_update h (c := b ++ [n.toNat.toUInt8]) (by simp) (by simp; omega) fun h' e1 e2 => ?_))
  exact z_pure ⟨_, rfl, q h' e1 e2⟩
theorem z_pop0 {a : Addr} {c : UInt8} {b : List UInt8} {t : Tok} {Q : Value → Shared → Prop} (h : s.heap.get? a = some (ba (c :: b))) (hz : b.length < sizeLine)
    (q : ∀ h' u k, h'.get? a = some (ba b) → Heap.SameBut a s.heap h' → Q (.int c.toNat u) { s with heap := h', toks := k }) :
    wpZ (model prog w) A (call (.builtin "bytearray.pop") [.ref a, .int 0 t]) Q s := by
  refine z_ba_method ba_slot_pop ba_entry_pop (ba_clean_pop _) (ba_typeIs h) (ba_args_pop _ _) ?_
  unfold Builtin.«bytearray.pop»
  refine z_bind (z_any (wpAny_of_eq (a := (Value.ref a, [Value.int 0 t])) rfl ?_))
  refine z_bind (z_any (wpAny_of_eq (a := (0 : Int)) rfl ?_))
  refine z_bind (z_any (ba_payload h ?_))
  rw [if_neg (by simp)]
  have e0 : ((seqIndex? 0 (c :: b).toArray.size).bind fun k => (c :: b).toArray[k]?.map (k, ·)) = some (0, c) := by
    unfold seqIndex?
    simp
  dsimp only
  rw [e0]
  dsimp only
  refine z_bind (z_checkResize h ?_)
  refine z_bind (z_any (ba_update h (c := b) (by simp) (by omega) fun h' e1 e2 => ?_))
  exact z_bind (z_any (wpAny_mkInt (z_pure ⟨_, rfl, q h' _ _ e1 e2⟩)))
theorem ba_special {a : Addr} {b : List UInt8} {name : Str} {r : Option Value} {Q : Option Value → Shared → Prop} {E : Value → Shared → Prop} (h : s.heap.get? a = some (ba b)) (hl : typeLookup (.type "bytearray") name = pure r) (q : Q r s) :
    wpAny (model prog w) A (specialOf (.ref a) name) Q E s := wpAny_specialOf (ba_typeIs h) hl q
theorem ba_isInstance {a : Addr} {b : List UInt8} {Q : Bool → Shared → Prop} {E : Value → Shared → Prop} (h : s.heap.get? a = some (ba b)) (q : Q true s) : wpAny (model prog w) A (isInstance (.ref a) (.type "bytearray")) Q E s := wpAny_isInstance (ba_typeIs h) ba_sub q
theorem ba_own {a : Addr} {b : List UInt8} {Q : Bool → Shared → Prop} {E : Value → Shared → Prop} (h : s.heap.get? a = some (ba b)) (q : Q true s) : wpAny (model prog w) A (Builtin.Bytes.slotIsOwn (.ref a) "__buffer__") Q E s := by
  unfold Builtin.Bytes.slotIsOwn
  refine wpAny_bind (ba_special h ba_buffer ?_)
  dsimp only
  rw [if_neg (by decide +kernel)]
  rw [show (String.dropRight "bytearray.__buffer__" ("__buffer__".length + 1)) = "bytearray" by decide +kernel]
  exact ba_isInstance h q
theorem ba_ownRel {a : Addr} {b : List UInt8} {Q : Bool → Shared → Prop} {E : Value → Shared → Prop} (h : s.heap.get? a = some (ba b)) (q : Q false s) : wpAny (model prog w) A (Builtin.Bytes.ownRelease (.ref a)) Q E s := by
  unfold Builtin.Bytes.ownRelease
  refine wpAny_bind ?_
  unfold Builtin.Bytes.slotIsOwn
  refine wpAny_bind (ba_special h ba_release ?_)
  dsimp only
  rw [if_neg (by decide +kernel)]
  rw [show (String.dropRight "bytearray.__release_buffer__" ("__release_buffer__".length + 1)) = "bytearray" by decide +kernel]
  exact ba_isInstance h (wpAny_pure q)
theorem ba_buf {id : String} {full : Bool} {a : Addr} {b : List UInt8} {Q : Option (Array UInt8) → Shared → Prop} {E : Value → Shared → Prop} (h : s.heap.get? a = some (ba b)) (q : Q (some b.toArray) s) :
    wpAny (model prog w) A (Builtin.Bytes.buffer? id (.ref a) full) Q E s := by
  unfold Builtin.Bytes.buffer?
  refine wpAny_bind (ba_special h ba_buffer ?_)
  refine wpAny_bind (ba_own h ?_)
  rw [if_neg (by decide)]
  refine wpAny_bind (ba_special h ba_buffer ?_)
  dsimp only
  refine wpAny_bind (ba_ownRel h ?_)
  rw [if_neg (by decide)]
  exact wpAny_bind (ba_payload h (wpAny_pure q))
/-- self.out.extend(self.held) -/
theorem z_extend {a c : Addr} {b e : List UInt8} {Q : Value → Shared → Prop} (h : s.heap.get? a = some (ba b)) (hc : s.heap.get? c = some (ba e)) (hz : b.length + e.length ≤ sizeLine)
    (q : ∀ h', h'.get? a = some (ba (b ++ e)) → Heap.SameBut a s.heap h' → Q .none { s with heap := h' }) :
    wpZ (model prog w) A (call (.builtin "bytearray.extend") [.ref a, .ref c]) Q s := by
  refine z_ba_method ba_slot_extend ba_entry_extend (ba_clean_extend _) (ba_typeIs h) (ba_args_extend _ _) ?_
  unfold Builtin.«bytearray.extend»
  refine z_bind (z_any (wpAny_of_eq (a := (Value.ref a, Value.ref c)) rfl ?_))
  dsimp only
  refine z_bind (z_any (ba_special hc ba_buffer ?_))
  rw [if_pos (by rfl)]
  refine z_bind (z_rule ?_)
  refine z_bind (z_any (ba_payload h ?_))
  have tk : ∀ {Q' : Option (Array UInt8 × Option Value) → Shared → Prop} {E : Value → Shared → Prop}, Q' (some (e.toArray, none)) s → wpAny (model prog w) A.in1 (Builtin.Bytes.takeBufferQuiet? "bytearray.extend" (.ref c) 0) Q' E s := by
    intro Q' E q'
    unfold Builtin.Bytes.takeBufferQuiet? Builtin.Bytes.takeBuffer?
    refine wpAny_bind (wpAny_attempt ?_)
    refine wpAny_bind (ba_special hc ba_buffer ?_)
    refine wpAny_bind (ba_own hc ?_)
    rw [if_neg (by decide)]
    refine wpAny_bind (ba_special hc ba_buffer ?_)
    dsimp only
    exact wpAny_bind (ba_buf hc (wpAny_pure (wpAny_pure q')))
  refine z_bind (z_any (tk ?_))
  dsimp only
  rw [if_pos (by rfl)]
  cases e with
  | nil =>
    show wpZ _ _ (Builtin.Bytes.write (.ref a) (· ++ #[]) >>= fun _ => ret .none) _ _
    exact z_bind (z_any (ba_update h (c := b ++ []) (by simp) (by simpa using hz) fun h' e1 e2 => z_pure ⟨_, rfl, q h' e1 e2⟩))
  | cons x r =>
    show wpZ _ _ (Builtin.Bytes.checkResize (.ref a) >>= fun _ => Builtin.Bytes.write (.ref a) (· ++ (x :: r).toArray) >>= fun _ => ret .none) _ _
    exact z_bind (z_checkResize h (z_bind (z_any (ba_update h (c := b ++ (x :: r)) (by simp) (by simpa using hz) fun h' e1 e2 => z_pure ⟨_, rfl, q h' e1 e2⟩))))
end
end Mine
end
/-! Z7 -/
section
open PySem PySem.W PyProof.Rows PySem.Calls
open PySem.Sem (wp)
set_option maxRecDepth 100000
namespace Mine
section
variable {prog : Program} {w : World} {A : Around} {s : Shared}
/-- a code's tree, its own place on the stack known -/
def ownZ {α : Type} (M : Model) (A : Around) (c : Code) (t : Sem α) (Q : α → Shared → Prop) (s : Shared) : Prop :=
  ∀ Γ p, Γ.code = c → Γ.Below A → (∀ x ∈ Γ.below, bad x.1 = false) → wp M Γ t (fun a _ s' => Q a s') (fun _ _ _ => False) p s
theorem own_bind {α β : Type} {M : Model} {c : Code} {m : Sem α} {f : α → Sem β} {Q : β → Shared → Prop} (h : ownZ M A c m (fun a s' => ownZ M A c (f a) Q s') s) : ownZ M A c (m >>= f) Q s :=
  fun Γ p hc hΓ hb => by
    rw [Sem.wp_bind']
    exact Sem.wp_mono M Γ m (fun a p' s' h' => h' Γ p' hc hΓ hb) (fun _ _ _ h' => h') p s (h Γ p hc hΓ hb)
theorem own_stack {M : Model} {c : Code} {Q : List (Code × Pos) → Shared → Prop} (h : ∀ p below, Q ((c, p) :: below) s) : ownZ M A c stack Q s := fun Γ p hc _ _ => by
  show Q ((Γ.code, p) :: Γ.below) s
  rw [hc]; exact h p Γ.below
theorem own_of {α : Type} {M : Model} {c : Code} {t : Sem α} {Q : α → Shared → Prop} (hb : bad c = false) (h : wpZ M (A.under c) t Q s) : ownZ M A c t Q s :=
  fun Γ p hc hΓ hbel => h Γ p (hc ▸ hΓ.in) ⟨by rw [hc]; exact hb, hbel⟩
theorem z_builtin_own {R : Flow → Shared → Prop} {id : String} {args : Args} {b : Builtin} (hb : entryFor table id = some b)
    (h : ownZ (model prog w) A (.builtin id args) (b args) (fun fin s' => match fin with | .done f => R f s' | .again c' => c'.quiet = true ∧ codeZ (model prog w) A c' R s') s) :
    codeZ (model prog w) A (.builtin id args) R s := fun Γ p hc hΓ hbel => by
  rw [wpCode_iff_wp, hc]
  show wp _ Γ (match entryFor table id with | some b => b args | none => unsupported ((withoutEnding? id "#data").getD id)) _ _ p s
  rw [hb]
  refine Sem.wp_mono _ Γ _ (fun fin p' s' h' => ?_) (fun _ _ _ h' => h'.elim) p s (h Γ p hc hΓ hbel)
  cases fin with
  | done f => exact h'
  | again c' => exact ⟨h'.1, h'.2 (Γ.goto c') p' rfl (hΓ.goto c') hbel⟩
theorem z_ba_new {R : Flow → Shared → Prop} (q : R (.ret (.ref s.heap.objs.size)) { s with heap := s.heap.push (ba []) }) :
    codeZ (model prog w) A (.call (.builtin "bytearray.__new__") ⟨[.type "bytearray"], []⟩) R s := by
  refine z_code_of_tree rfl ?_
  show wpZ _ A.in1 (do checkBuiltinCall "bytearray.__new__" ⟨[.type "bytearray"], []⟩; again (.builtin "bytearray.__new__" ⟨[.type "bytearray"], []⟩)) _ s
  refine z_bind (z_any (wpAny_of_eq ba_newCall (z_pure ⟨plainId_quiet (by decide +kernel) _, ?_⟩)))
  refine z_builtin_own ba_entry_new ?_
  unfold Builtin.«list.__new__»
  refine own_bind (own_stack fun p below => own_of (ba_clean_new _) ?_)
  dsimp only
  rw [show ("bytearray.__new__".splitOn ".__new__").headD "" = "bytearray" by simp +decide [String.splitOn, String.splitOnAux]]
  have h1 : isType (.type "bytearray") = pure true := by kernel_rfl
  refine z_bind (z_any (wpAny_of_eq h1 ?_))
  rw [if_neg (by decide)]
  refine z_bind (z_any (wpAny_of_eq ba_sub ?_))
  rw [if_neg (by decide)]
  show wpZ _ _ ((pure (Data.bytearray #[]) : Sem Data) >>= _) _ _
  refine z_bind (z_pure ?_)
  rw [if_pos (by decide +kernel)]
  exact z_bind (z_any (wpAny_newObj_type (z_pure q) (by show (0 : Nat) ≤ sizeLine; exact Nat.zero_le _)))
theorem z_ba_init {a : Addr} {Q : Value → Shared → Prop} (h : s.heap.get? a = some (ba [])) (q : ∀ h', h'.get? a = some (ba []) → Heap.SameBut a s.heap h' → Q .none { s with heap := h' }) :
    wpZ (model prog w) A (call (.builtin "bytearray.__init__") [.ref a]) Q s := by
  refine z_ba_method ba_slot_init ba_entry_init (ba_clean_init _) (ba_typeIs h) (ba_args_init _) ?_
  unfold Builtin.«bytearray.__init__»
  dsimp only
  refine z_bind (z_any (ba_ownRel h ?_))
  rw [if_neg (by decide)]
  refine z_bind (z_any (wpAny_of_eq (a := [none, none, none]) (by kernel_rfl) ?_))
  dsimp only
  refine z_bind (z_any (wpAny_of_eq (a := ()) rfl ?_))
  refine z_bind (z_any (wpAny_of_eq (a := ()) rfl ?_))
  refine z_bind (z_bind (z_exported ?_))
  show wpZ _ _ (Builtin.Bytes.exportsOf (.ref a) >>= _) _ _
  refine z_bind ?_
  unfold Builtin.Bytes.exportsOf
  refine z_bind (z_any (wpAny_load h ?_))
  refine z_pure (z_pure ?_)
  rw [if_neg (by decide)]
  refine z_bind (z_any (ba_update h (c := []) rfl (Nat.zero_le _) fun h' e1 e2 => ?_))
  rw [if_neg (by decide), if_neg (by decide)]
  exact z_bind (z_pure (z_pure ⟨_, rfl, q h' e1 e2⟩))
/-- bytearray() -/
theorem z_bytearray {Q : Value → Shared → Prop}
    (q : ∀ h', h'.get? s.heap.objs.size = some (ba []) → (∀ b o, s.heap.get? b = some o → h'.get? b = some o) → h'.objs.size = s.heap.objs.size + 1 → Q (.ref s.heap.objs.size) { s with heap := h' }) :
    wpZ (model prog w) A (call (.type "bytearray") []) Q s := by
  refine z_call (z_code_of_tree rfl ?_)
  show wpZ _ _ (callAny (.type "bytearray") _) _ _
  refine z_pure ⟨Code.quiet_builtin _ (by decide +kernel), z_builtin_at F.entry_type_call (ba_clean_call _) ?_⟩
  rw [Around.under_plain (weight_type_call_type "bytearray" [] []) rfl]
  have h2 := ba_called.canCreate
  unfold Builtin.«type.__call__»
  dsimp only
  rw [if_neg (by decide +kernel)]
  rw [if_neg (show ¬ (_ = true) from fun e => by rw [h2] at e; cases e)]
  refine z_bind (z_any (wpAny_of_eq ba_typeCall ?_))
  refine z_bind (z_any (wpAny_of_eq ba_mro ?_))
  rw [if_neg (by decide)]
  refine z_bind (z_any (wpAny_of_eq ba_called.made ?_))
  dsimp only
  refine z_bind (z_pure ?_)
  refine z_bind (z_holding (z_call (z_ba_new ?_)))
  have h0 : (s.heap.push (ba [])).get? s.heap.objs.size = some (ba []) := Heap.get?_push_size _ rfl
  refine z_bind (z_any (ba_isInstance (s := { s with heap := s.heap.push (ba []) }) h0 ?_))
  rw [if_neg (by decide)]
  refine z_bind (z_holding (m := callSpecial? _ _ _ _) ?_)
  unfold callSpecial?
  refine z_bind (m := specialOf _ _) (z_any (ba_special (s := { s with heap := s.heap.push (ba []) }) h0 ba_slot_init.lookup ?_))
  dsimp only
  refine z_holding (z_bind (z_any (wpAny_of_eq (ba_slot_init.bind _) ?_)))
  dsimp only
  refine z_bind (z_ba_init (s := { s with heap := s.heap.push (ba []) }) h0 fun h' e1 e2 => z_pure ?_)
  dsimp only
  rw [if_neg (by decide)]
  refine z_pure (q h' e1 (fun b o e => (e2.2 b (Nat.ne_of_lt (Heap.lt_size e))).trans (Heap.get?_push_of_some _ e)) ?_)
  rw [e2.1, Heap.size_push]
theorem bytes_of_ba {a : Addr} {b : List UInt8} {Q : Value → Shared → Prop} {E : Value → Shared → Prop} (h : s.heap.get? a = some (ba b)) (hz : b.length ≤ sizeLine)
    (q : ∀ t k, Q (.bytes b.toArray t) { s with toks := k }) : wpAny (model prog w) A (call (.type "bytes") [.ref a]) Q E s := by
  have new : codeAny (model prog w) A.in1 (.call (.builtin "bytes.__new__") ⟨[.type "bytes", .ref a], []⟩) (wants (fun obj s₁ => s₁.TypeIs obj "bytes" ∧ Q obj s₁) E) s := by
    refine codeAny_of_tree ?_
    show wpAny _ A.in1.in1 (do checkBuiltinCall "bytes.__new__" ⟨[.type "bytes", .ref a], []⟩; again (.builtin "bytes.__new__" ⟨[.type "bytes", .ref a], []⟩)) _ _ s
    refine wpAny_bind (wpAny_of_eq (PySem.F.bm_newCall _) (wpAny_pure ⟨plainId_quiet PySem.F.bm_plain _, codeAny_builtin PySem.F.bm_entry ?_⟩))
    rw [Around.under_plainId PySem.F.bm_plain _]
    unfold Builtin.«bytes.__new__»
    refine wpAny_bind (wpAny_of_eq (a := true) rfl ?_)
    refine bm_if_false rfl ?_
    refine wpAny_bind (wpAny_of_eq PySem.F.bm_sub ?_)
    refine bm_if_false rfl ?_
    refine wpAny_bind (wpAny_of_eq (PySem.F.bm_bind _) ?_)
    refine wpAny_bind (wpAny_of_eq (a := ()) rfl ?_)
    refine wpAny_bind (wpAny_of_eq (a := ()) rfl ?_)
    refine bm_if_false rfl ?_
    refine wpAny_bind (ba_special h ba_no_bytes ?_)
    refine wpAny_bind (wpAny_bind ?_)
    show wpAny _ _ (load a >>= _) _ _ _
    refine wpAny_bind (wpAny_load h ?_)
    refine wpAny_pure (wpAny_pure ?_)
    refine bm_if_false rfl ?_
    refine wpAny_bind (ba_special h ba_no_index ?_)
    refine bm_if_true rfl ?_
    show wpAny _ _ (Builtin.Bytes.buffer? "bytes.__new__" (.ref a) true >>= _) _ _ _
    refine wpAny_bind (ba_buf h ?_)
    dsimp only
    refine wpAny_bind (wpAny_rule ?_)
    refine wpAny_bind (wpAny_mkBytes ?_ (by rw [List.size_toArray]; exact hz))
    show wpAny _ _ (if (Value.type "bytes" == Value.type "bytes") = true then _ else _) _ _ _
    refine bm_if_true (by decide) ?_
    first
      | exact wpAny_pure ⟨PySem.W.typeIs_bytes _ _ _, q _ _⟩
      | exact wpAny_bind (wpAny_pure (wpAny_pure ⟨PySem.W.typeIs_bytes _ _ _, q _ _⟩))
  exact callType_codes (Q₁ := fun obj s₁ => s₁.TypeIs obj "bytes" ∧ Q obj s₁) PySem.F.bm_called (PySem.F.bm_typeCall _) F.entry_object_init new fun obj s₁ h₁ =>
    ⟨h₁.1, F.args_object_init_2 obj _, object_init_meets PySem.F.bm_called.init.lookup PySem.F.bm_called.made (by decide) prog w A.in1 _ s₁ ⟨h₁.1, rfl, h₁.2⟩⟩
theorem prefix_bool (m x : List UInt8) : (if min (m.toArray.size : Int) (m.toArray.size : Int) - 0 < (x.toArray.size : Int) then false
    else (m.toArray.extract 0 (0 + x.toArray.size) == x.toArray)) = x.isPrefixOf m := by
  simp only [List.size_toArray, Int.min_self, Int.sub_zero, Nat.zero_add]
  split
  · rename_i h
    symm
    rw [Bool.eq_false_iff]
    intro e
    have := (List.isPrefixOf_iff_prefix.mp e).length_le
    omega
  · rename_i h
    have e : m.toArray.extract 0 x.length = (m.take x.length).toArray := by simp
    rw [e]
    rw [Bool.eq_iff_iff, beq_iff_eq, List.isPrefixOf_iff_prefix, List.prefix_iff_eq_take]
    constructor
    · intro q
      have := congrArg Array.toList q
      simpa using this.symm
    · intro q
      rw [← q]
/-- m.startswith(x) -/
theorem bytes_startswith {m x : List UInt8} {t u : Tok} {Q : Value → Shared → Prop} {E : Value → Shared → Prop} (q : Q (.bool (x.isPrefixOf m)) s) :
    wpAny (model prog w) A (call (.builtin "bytes.startswith") [.bytes m.toArray t, .bytes x.toArray u]) Q E s := by
  have hT : s.TypeIs (.bytes m.toArray t) "bytes" := PySem.W.typeIs_bytes _ _ _
  have S := PySem.W.FB.slot_bytes_startswith
  refine wpAny_call (codeAny_call_builtin S.plain PySem.W.FB.entry_bytes_startswith (S.check _ _ _ _ _ _ _ _ hT (PySem.W.FB.args_bytes_startswith_2 _ _) ?_))
  unfold Builtin.«bytes.startswith» Builtin.Bytes.tailMatchM
  refine wpAny_bind (wpAny_of_eq (a := (Value.bytes m.toArray t, [Value.bytes x.toArray u])) rfl ?_)
  dsimp only
  refine wpAny_bind (wpAny_of_eq (a := none) rfl ?_)
  refine wpAny_bind (wpAny_of_eq (a := none) rfl ?_)
  refine wpAny_bind (wpAny_of_eq (a := m.toArray) rfl ?_)
  have hx : s.TypeIs (.bytes x.toArray u) "bytes" := PySem.W.typeIs_bytes _ _ _
  refine wpAny_bind (wpAny_isInstance (T := "bytes") hx (b := false) (by rw [isSubtype_type]; kernel_rfl) ?_)
  refine bm_if_false rfl ?_
  refine wpAny_bind (wpAny_of_eq PySem.W.KBy.buffer_eq ?_)
  dsimp only
  have e := prefix_bool m x
  refine wpAny_pure ?_
  dsimp only
  have e2 : (if (Builtin.Bytes.window m.toArray.size none none).snd - (Builtin.Bytes.window m.toArray.size none none).fst < (x.toArray.size : Int) then false
        else
          if false = true then m.toArray.extract ((Builtin.Bytes.window m.toArray.size none none).snd.toNat - x.toArray.size) (Builtin.Bytes.window m.toArray.size none none).snd.toNat == x.toArray
          else m.toArray.extract (Builtin.Bytes.window m.toArray.size none none).fst.toNat ((Builtin.Bytes.window m.toArray.size none none).fst.toNat + x.toArray.size) == x.toArray) = x.isPrefixOf m := by
    have ew : Builtin.Bytes.window m.toArray.size none none = (0, min (m.toArray.size : Int) (m.toArray.size : Int)) := by
      unfold Builtin.Bytes.window
      simp only [Option.getD_none, List.size_toArray]
      rw [if_neg (by omega), if_neg (by omega)]
    rw [ew]
    exact e
  rw [e2]
  exact q
/-- a method of a bytearray, met through a name -/
theorem ba_getMethod {a : Addr} {b : List UInt8} {name : Str} {id : String} {pl : Sem Bool} {Q : Value × List Value → Shared → Prop} {E : Value → Shared → Prop} (h : s.heap.get? a = some (ba b)) (slot : Slot "bytearray" name id)
    (hty : typeOf (.builtin id) = pure (.type "method_descriptor")) (q : Q (.builtin id, [.ref a]) s) : wpAny (model prog w) A (getMethod (.ref a) name pl) Q E s :=
  getMethod_builtin (ba_typeIs h) ba_attrs slot hty (fun c e => by cases e; exact ⟨_, h, rfl⟩) q
theorem bytes_getMethod {b : Array UInt8} {t : Tok} {pl : Sem Bool} {Q : Value × List Value → Shared → Prop} {E : Value → Shared → Prop} (q : Q (.builtin "bytes.startswith", [.bytes b t]) s) :
    wpAny (model prog w) A (getMethod (.bytes b t) "startswith" pl) Q E s := by
  with_reducible exact PySem.W.KBd.method_of (.bytes b t) (PySem.W.typeIs_bytes _ _ _) PySem.W.FB.slot_bytes_startswith PySem.W.FB.type_bytes_startswith PySem.W.KBd.noRef q
end
end Mine
end
/-! Z8 -/
section
open PySem PySem.W PyProof.Rows PySem.Calls
open PySem.Sem (wp)
set_option maxRecDepth 100000
namespace Mine
section
variable {prog : Program} {w : World} {A : Around} {s : Shared} {h₀ : Heap} {L : Addr} {m : Str → Option Value} {news news' : List (Addr × Obj)}
theorem fn_upd {d : Addr} {o o' : Obj} {h h' : Heap} (F : Fr h₀ L h m) (N : News h₀ L h news) (U : Upd d o o' news news') (hs : Heap.SameBut d h h') (ho : h'.get? d = some o') : Fr h₀ L h' m ∧ News h₀ L h' news' := by
  obtain ⟨pre, post, rfl, rfl, h1, h2⟩ := U.split
  exact ⟨F.update N (List.mem_append_right _ (.head _)) hs, News.setAt N h1 h2 hs ho⟩
theorem upd_get {d : Addr} {o o' : Obj} {h : Heap} (N : News h₀ L h news) (U : Upd d o o' news news') : h.get? d = some o := by
  obtain ⟨pre, post, rfl, rfl, h1, h2⟩ := U.split
  exact (N (d, o) (List.mem_append_right _ (.head _))).1
theorem zb_append {a : Addr} {b : List UInt8} {c : UInt8} {t : Tok} {Q : Value → Shared → Prop} (F : Fr h₀ L s.heap m) (N : News h₀ L s.heap news) (U : Upd a (ba b) (ba (b ++ [c])) news news') (hz : b.length < 1000)
    (q : ∀ h', Fr h₀ L h' m → News h₀ L h' news' → Q .none { s with heap := h' }) :
    wpZ (model prog w) A (call (.builtin "bytearray.append") [.ref a, .int (c.toNat : Int) t]) Q s := by
  refine z_append (upd_get N U) (by omega) (by have := c.toNat_lt; omega) (by rw [sizeLine_eq]; omega) fun h' e1 e2 => ?_
  have e : ((c.toNat : Int)).toNat.toUInt8 = c := by simp
  rw [e] at e1
  have := fn_upd F N U e2 e1
  exact q h' this.1 this.2
theorem zb_pop0 {a : Addr} {c : UInt8} {b : List UInt8} {t : Tok} {Q : Value → Shared → Prop} (F : Fr h₀ L s.heap m) (N : News h₀ L s.heap news) (U : Upd a (ba (c :: b)) (ba b) news news') (hz : b.length < 1000)
    (q : ∀ h' u k, Fr h₀ L h' m → News h₀ L h' news' → Q (.int c.toNat u) { s with heap := h', toks := k }) :
    wpZ (model prog w) A (call (.builtin "bytearray.pop") [.ref a, .int 0 t]) Q s := by
  refine z_pop0 (upd_get N U) (by rw [sizeLine_eq]; omega) fun h' u k e1 e2 => ?_
  have := fn_upd F N U e2 e1
  exact q h' u k this.1 this.2
theorem zb_extend {a c : Addr} {b e : List UInt8} {Q : Value → Shared → Prop} (F : Fr h₀ L s.heap m) (N : News h₀ L s.heap news) (U : Upd a (ba b) (ba (b ++ e)) news news') (hc : (c, ba e) ∈ news) (hz : b.length + e.length ≤ 2000)
    (q : ∀ h', Fr h₀ L h' m → News h₀ L h' news' → Q .none { s with heap := h' }) :
    wpZ (model prog w) A (call (.builtin "bytearray.extend") [.ref a, .ref c]) Q s := by
  refine z_extend (upd_get N U) (N _ hc).1 (by rw [sizeLine_eq]; omega) fun h' e1 e2 => ?_
  have := fn_upd F N U e2 e1
  exact q h' this.1 this.2
theorem fr_grow {h' : Heap} (F : Fr h₀ L s.heap m) (k : ∀ b o, s.heap.get? b = some o → h'.get? b = some o) : Fr h₀ L h' m := by
  obtain ⟨oL, a1, a2, hL, a3⟩ := F.ns
  exact ⟨⟨oL, a1, a2, k _ _ hL, a3⟩, fun b o' e => k _ _ (F.keep b o' e), F.above⟩
theorem zb_new {Q : Value → Shared → Prop} (F : Fr h₀ L s.heap m) (N : News h₀ L s.heap news)
    (q : ∀ D h', Fr h₀ L h' m → News h₀ L h' ((D, ba []) :: news) → (∀ p ∈ news, p.1 < D) → Q (.ref D) { s with heap := h' }) :
    wpZ (model prog w) A (call (.type "bytearray") []) Q s := by
  refine z_bytearray fun h' e1 e2 e3 => q _ h' (fr_grow F e2) (fun p hp => ?_) (fun p hp => Heap.lt_size (N p hp).1)
  rcases List.mem_cons.mp hp with rfl | hp
  · obtain ⟨oL, _, _, hL, _⟩ := F.ns
    refine ⟨e1, Nat.ne_of_gt (Heap.lt_size hL), ?_⟩
    cases g : h₀.get? s.heap.objs.size with
    | none => rfl
    | some o => exact absurd (Heap.lt_size (F.keep _ _ g)) (Nat.lt_irrefl _)
  · exact ⟨e2 _ _ (N p hp).1, (N p hp).2.1, (N p hp).2.2⟩
theorem z_Return_none {env : Env} {pos : Pos} {Q : Flow → Shared → Prop} (h : Q (.ret .none) s) : wpZ (model prog w) A (exec (.Return none pos) env) Q s := z_any (wpAny_Return_none h)
theorem z_up {α : Type} {M : Model} {t : Sem α} {Q : α → Shared → Prop} {dp un dp' un' : Nat} {gd : Option (List Code)} {cn : Str} {cs : Scope} {a : Addr} {ccd : Value} {cl : List (Str × Addr)} {outer : List Env}
    (h : wpZ M (ktrTop dp' un' gd cn cs L a ccd cl outer) t Q s) (h1 : dp ≤ dp') (h2 : un ≤ un') : wpZ M (ktrTop dp un gd cn cs L a ccd cl outer) t Q s :=
  fun Γ p hΓ hc => h Γ p ⟨hΓ.1, Nat.le_trans hΓ.2.1 h1, hΓ.2.2.1, hΓ.2.2.2.1, Nat.le_trans hΓ.2.2.2.2 h2⟩ hc
theorem z_code_up {M : Model} {c : Code} {R : Flow → Shared → Prop} {dp un dp' un' : Nat} {gd : Option (List Code)} {cn : Str} {cs : Scope} {a : Addr} {ccd : Value} {cl : List (Str × Addr)} {outer : List Env}
    (h : codeZ M (ktrTop dp' un' gd cn cs L a ccd cl outer) c R s) (h1 : dp ≤ dp') (h2 : un ≤ un') : codeZ M (ktrTop dp un gd cn cs L a ccd cl outer) c R s :=
  fun Γ p hcd hΓ hc => h Γ p hcd ⟨hΓ.1, Nat.le_trans hΓ.2.1 h1, hΓ.2.2.1, hΓ.2.2.2.1, Nat.le_trans hΓ.2.2.2.2 h2⟩ hc
theorem any_up {α : Type} {M : Model} {t : Sem α} {Q : α → Shared → Prop} {E : Value → Shared → Prop} {dp un dp' un' : Nat} {gd : Option (List Code)} {cn : Str} {cs : Scope} {a : Addr} {ccd : Value} {cl : List (Str × Addr)} {outer : List Env}
    (h : wpAny M (ktrTop dp' un' gd cn cs L a ccd cl outer) t Q E s) (h1 : dp ≤ dp') (h2 : un ≤ un') : wpAny M (ktrTop dp un gd cn cs L a ccd cl outer) t Q E s :=
  fun Γ p hΓ => h Γ p ⟨hΓ.1, Nat.le_trans hΓ.2.1 h1, hΓ.2.2.1, hΓ.2.2.2.1, Nat.le_trans hΓ.2.2.2.2 h2⟩
end
section
variable {prog : Program} {w : World} {A : Around} {K : Frag} {C x : Addr} {s : Shared} {h₀ : Heap} {L : Addr} {m : Str → Option Value} {news : List (Addr × Obj)} {R : Flow → Shared → Prop}
theorem z_make {rest : List Value} {kw : List (Str × Value)} {fI : Addr} (F : Fr h₀ L s.heap m) (N : News h₀ L s.heap news) (X : K.In s.heap) (hm : makesIn K C = true)
    (hi : findIn K (.ref C) "__init__" = some (some (.ref fI))) (hf : typeIn K (.ref fI) = some (.type "function"))
    (h : ∀ x dx h', Fr h₀ L h' m → News h₀ L h' ((x, instObj C dx) :: (dx, emptyDict) :: news) → (∀ p ∈ news, p.1 < dx) → dx < x →
      codeZ (model prog w) (A.under (.builtin "type.__call__" ⟨.ref C :: rest, kw⟩)) (.call (.ref fI) ⟨.ref x :: rest, kw⟩) (InitZ x R) { s with heap := h' }) :
    codeZ (model prog w) A (.call (.ref C) ⟨rest, kw⟩) R s := by
  obtain ⟨hh, g, d, t, os⟩ := s
  refine z_make_core (makes_of X hm) (looks_findIn X hi) (fun self => bind_fn X self hf) (.inl rfl) (h _ hh.objs.size _ ((F.push _).push _) ?_ (fun p hp => Heap.lt_size (N p hp).1) (Nat.lt_succ_self _))
  have := (N.push F emptyDict).push (F.push _) (instObj C hh.objs.size)
  rwa [Heap.size_push] at this
end
end Mine
end
/-! P1 -/
section
/-! The plain law: a decoder that takes octet by octet against the looking from place to place. No program in sight. -/
namespace Mine
structure St where
  done : Bool
  left : List UInt8
  out : List UInt8
  seen : Int
  held : List UInt8
noncomputable def drain (m : List UInt8) : List UInt8 → List UInt8 × List UInt8
  | [] => ([], [])
  | c :: h => if (c :: h).isPrefixOf m = true then ([], c :: h) else (c :: (drain m h).1, (drain m h).2)
def noteF (count : Int) (m : List UInt8) (st : St) : St :=
  { st with seen := st.seen + 1, done := if (m ≠ [] ∧ count = 0) ∨ st.seen + 1 = count then true else st.done }
noncomputable def takeF (count : Int) (m : List UInt8) (st : St) (c : UInt8) : St :=
  if m = [] then noteF count m { st with out := st.out ++ [c] }
  else if st.held ++ [c] = m then noteF count m { st with out := if count > 0 then st.out ++ (st.held ++ [c]) else st.out, held := [] }
  else { st with out := st.out ++ (drain m (st.held ++ [c])).1, held := (drain m (st.held ++ [c])).2 }
noncomputable def feedF (count : Int) (m : List UInt8) : St → List UInt8 → St
  | st, [] => st
  | st, c :: r => if st.done = true then { st with left := st.left ++ c :: r } else feedF count m (takeF count m st c) r
def finishF (st : St) : St := if st.done = true then st else { st with out := st.out ++ st.held, held := [], done := true }
def st0 : St := ⟨false, [], [], 0, []⟩
noncomputable def go (o m : List UInt8) (count : Int) : Nat → Nat → Int → List UInt8 × List UInt8 × Bool
  | 0, _, _ => (o, [], false)
  | n + 1, at_, left =>
    if at_ + m.length ≤ o.length then
      if (o.drop at_).take m.length = m then
        if left - 1 = 0 then ((if count = 0 then o.take at_ else o.take (at_ + m.length)), o.drop (at_ + m.length), true)
        else go o m count n (at_ + m.length) (left - 1)
      else go o m count n (at_ + 1) left
    else (o, [], false)
noncomputable def partF (o : List UInt8) (count : Int) (m : List UInt8) : List UInt8 × List UInt8 × Bool :=
  if m = [] then (if count = 0 ∨ count > o.length then (o, [], false) else (o.take count.toNat, o.drop count.toNat, true))
  else go o m count (o.length + 1) 0 (max 1 count)
/-! suffixes and prefixes -/
theorem nil_or_snoc (l : List UInt8) : l = [] ∨ ∃ l' c, l = l' ++ [c] := by
  rcases List.eq_nil_or_concat l with e | ⟨l', c, e⟩
  · exact .inl e
  · exact .inr ⟨l', c, by rw [e, List.concat_eq_append]⟩
theorem suffix_snoc {a b : List UInt8} {c : UInt8} (h : a <:+ b ++ [c]) : a = [] ∨ ∃ a', a = a' ++ [c] ∧ a' <:+ b := by
  obtain ⟨t, e⟩ := h
  rcases nil_or_snoc a with rfl | ⟨a', d, rfl⟩
  · exact .inl rfl
  · right
    rw [← List.append_assoc] at e
    have := List.append_inj' e rfl
    exact ⟨a', by rw [(List.singleton_inj.mp this.2)], ⟨t, this.1⟩⟩
theorem suffix_of_len {a b y : List UInt8} (ha : a <:+ y) (hb : b <:+ y) (h : a.length ≤ b.length) : a <:+ b :=
  List.suffix_of_suffix_length_le ha hb h
theorem prefix_eq_of_len {a b y : List UInt8} (ha : a <+: y) (hb : b <+: y) (h : a.length = b.length) : a = b :=
  List.IsPrefix.eq_of_length (List.prefix_of_prefix_length_le ha hb (Nat.le_of_eq h)) h
def NoOcc (m z : List UInt8) : Prop := ∀ p, p <+: z → ¬ m <:+ p
def FirstOcc (m y : List UInt8) : Prop := m <:+ y ∧ ∀ p, p <+: y → p ≠ y → ¬ m <:+ p
theorem NoOcc.left {m a b : List UInt8} (h : NoOcc m (a ++ b)) : NoOcc m a := fun p hp => h p (hp.trans (List.prefix_append a b))
theorem prefix_snoc {p z : List UInt8} {c : UInt8} (h : p <+: z ++ [c]) : p = z ++ [c] ∨ p <+: z := by
  have := List.prefix_concat_iff.mp h
  simpa using this
theorem occ_cases (m : List UInt8) : ∀ (n : Nat) (z : List UInt8), z.length = n → m ≠ [] → NoOcc m z ∨ ∃ y w, z = y ++ w ∧ FirstOcc m y := by
  intro n
  induction n with
  | zero =>
    intro z hz hm
    left
    intro p hp hs
    have e := List.eq_nil_of_length_eq_zero hz
    subst e
    rw [List.prefix_nil] at hp
    subst hp
    exact hm (List.suffix_nil.mp hs)
  | succ n ih =>
    intro z hz hm
    rcases nil_or_snoc z with rfl | ⟨z', c, rfl⟩
    · cases hz
    · have hz' : z'.length = n := by simpa using hz
      rcases ih z' hz' hm with h | ⟨y, w, rfl, hy⟩
      · by_cases hs : m <:+ z' ++ [c]
        · right
          refine ⟨z' ++ [c], [], by simp, hs, fun p hp hne => ?_⟩
          rcases prefix_snoc hp with e | e
          · exact absurd e hne
          · exact h p e
        · left
          intro p hp
          rcases prefix_snoc hp with e | e
          · rw [e]; exact hs
          · exact h p e
      · exact .inr ⟨y, w ++ [c], by simp, hy⟩
/-! what the decoder holds -/
theorem drain_spec (m : List UInt8) : ∀ x : List UInt8, (drain m x).1 ++ (drain m x).2 = x ∧ (drain m x).2 <+: m ∧ ∀ g, g <:+ x → g <+: m → g.length ≤ (drain m x).2.length := by
  intro x
  induction x with
  | nil =>
    refine ⟨rfl, List.nil_prefix, fun g hg _ => ?_⟩
    rw [List.suffix_nil.mp hg]
    exact Nat.le_refl _
  | cons c h ih =>
    unfold drain
    by_cases hp : (c :: h).isPrefixOf m = true
    · rw [if_pos hp]
      exact ⟨rfl, List.isPrefixOf_iff_prefix.mp hp, fun g hg _ => hg.length_le⟩
    · rw [if_neg hp]
      refine ⟨by simp [ih.1], ih.2.1, fun g hg hgm => ?_⟩
      rcases List.suffix_cons_iff.mp hg with e | e
      · exact absurd (List.isPrefixOf_iff_prefix.mpr (e ▸ hgm)) hp
      · exact ih.2.2 g e hgm
def LS (m y h : List UInt8) : Prop := h <:+ y ∧ h <+: m ∧ ∀ g, g <:+ y → g <+: m → g.length ≤ h.length
theorem LS.nil (m : List UInt8) : LS m [] [] := ⟨List.suffix_refl _, List.nil_prefix, fun g hg _ => by rw [List.suffix_nil.mp hg]; exact Nat.le_refl _⟩
theorem held_full {m y h : List UInt8} {c : UInt8} (hm : m ≠ []) (ls : LS m y h) (no : NoOcc m y) : m <:+ y ++ [c] ↔ h ++ [c] = m := by
  constructor
  · intro hs
    rcases suffix_snoc hs with e | ⟨m', e, hm'⟩
    · exact absurd e hm
    · have hpm : m' <+: m := ⟨[c], e.symm⟩
      have h1 := ls.2.2 m' hm' hpm
      have h2 : h.length ≤ m.length := ls.2.1.length_le
      have h3 : h.length ≠ m.length := fun q => by
        have := List.IsPrefix.eq_of_length ls.2.1 q
        exact no y (List.prefix_refl _) (this ▸ ls.1)
      have h4 : m.length = m'.length + 1 := by rw [e]; simp
      have : h = m' := prefix_eq_of_len ls.2.1 hpm (by omega)
      rw [this, e]
  · intro e
    obtain ⟨t, ht⟩ := ls.1
    exact ⟨t, by rw [← e, ← ht]; simp⟩
theorem ls_step {m y h : List UInt8} {c : UInt8} (ls : LS m y h) : LS m (y ++ [c]) (drain m (h ++ [c])).2 := by
  obtain ⟨d1, d2, d3⟩ := drain_spec m (h ++ [c])
  have hx : h ++ [c] <:+ y ++ [c] := by
    obtain ⟨t, ht⟩ := ls.1
    exact ⟨t, by rw [← ht]; simp⟩
  refine ⟨List.IsSuffix.trans ⟨_, d1⟩ hx, d2, fun g hg hgm => ?_⟩
  rcases suffix_snoc hg with e | ⟨g', e, hg'⟩
  · rw [e]; exact Nat.zero_le _
  · refine d3 g ?_ hgm
    have hgm' : g' <+: m := List.IsPrefix.trans ⟨[c], e.symm⟩ hgm
    have := suffix_of_len hg' ls.1 (ls.2.2 g' hg' hgm')
    obtain ⟨t, ht⟩ := this
    exact ⟨t, by rw [e, ← ht]; simp⟩
theorem feed_none {count : Int} {m : List UInt8} (hm : m ≠ []) : ∀ (z y : List UInt8) (st : St), st.done = false → LS m y st.held → NoOcc m (y ++ z) →
    ∃ o h, feedF count m st z = { st with out := st.out ++ o, held := h } ∧ o ++ h = st.held ++ z ∧ LS m (y ++ z) h := by
  intro z
  induction z with
  | nil =>
    intro y st hd ls _
    refine ⟨[], st.held, ?_, by simp, by simpa using ls⟩
    simp [feedF]
  | cons c r ih =>
    intro y st hd ls no
    have no1 : NoOcc m (y ++ [c]) := by
      have : y ++ c :: r = (y ++ [c]) ++ r := by simp
      rw [this] at no
      exact no.left
    have hne : ¬ (st.held ++ [c] = m) := fun e => no1 _ (List.prefix_refl _) ((held_full hm ls no1.left).mpr e)
    have ht : takeF count m st c = { st with out := st.out ++ (drain m (st.held ++ [c])).1, held := (drain m (st.held ++ [c])).2 } := by
      unfold takeF
      rw [if_neg hm, if_neg hne]
    have hf : feedF count m st (c :: r) = feedF count m (takeF count m st c) r := by
      rw [feedF, if_neg (by rw [hd]; exact Bool.false_ne_true)]
    have d := drain_spec m (st.held ++ [c])
    obtain ⟨o, h, e1, e2, e3⟩ := ih (y ++ [c]) (takeF count m st c) (by rw [ht]; exact hd) (by rw [ht]; exact ls_step ls) (by simpa using no)
    refine ⟨(drain m (st.held ++ [c])).1 ++ o, h, ?_, ?_, by simpa using e3⟩
    · rw [hf, e1, ht]; simp
    · rw [List.append_assoc, e2, ht]
      show (drain m (st.held ++ [c])).1 ++ ((drain m (st.held ++ [c])).2 ++ r) = _
      rw [← List.append_assoc, d.1]; simp
theorem feed_app {count : Int} {m : List UInt8} : ∀ (a b : List UInt8) (st : St), feedF count m st (a ++ b) = feedF count m (feedF count m st a) b := by
  intro a
  induction a with
  | nil => intro b st; rfl
  | cons c r ih =>
    intro b st
    rw [List.cons_append, feedF]
    by_cases hd : st.done = true
    · rw [if_pos hd]
      have e : feedF count m st (c :: r) = { st with left := st.left ++ c :: r } := by rw [feedF, if_pos hd]
      rw [e]
      cases b with
      | nil => simp [feedF]
      | cons x y => rw [feedF, if_pos (by exact hd)]; simp
    · rw [if_neg hd, ih]
      rw [feedF, if_neg hd]
theorem feed_done {count : Int} {m : List UInt8} {st : St} (hd : st.done = true) (w : List UInt8) : feedF count m st w = { st with left := st.left ++ w } := by
  cases w with
  | nil => simp [feedF]
  | cons c r => rw [feedF, if_pos hd]
theorem feed_first {count : Int} {m y w : List UInt8} {st : St} (hm : m ≠ []) (hf : FirstOcc m y) (hd : st.done = false) (hh : st.held = []) :
    feedF count m st (y ++ w) = feedF count m (noteF count m { st with out := if count > 0 then st.out ++ y else st.out ++ y.take (y.length - m.length), held := [] }) w := by
  rcases nil_or_snoc y with rfl | ⟨y', c, rfl⟩
  · exact absurd (List.suffix_nil.mp hf.1) hm
  have no : NoOcc m y' := fun p hp => hf.2 p (hp.trans (List.prefix_append _ _)) fun e => by
    have := hp.length_le
    rw [e] at this
    simp at this
    omega
  obtain ⟨o, h, e1, e2, e3⟩ := feed_none (count := count) hm y' [] st hd (by rw [hh]; exact LS.nil m) (by simpa using no)
  have e3' : LS m y' h := by simpa using e3
  have hfull := (held_full hm e3' no (c := c)).mp hf.1
  rw [feed_app, feed_app, e1]
  have ht : takeF count m { st with out := st.out ++ o, held := h } c = noteF count m { st with out := if count > 0 then (st.out ++ o) ++ (h ++ [c]) else st.out ++ o, held := [] } := by
    unfold takeF
    rw [if_neg hm, if_pos hfull]
  have hs : feedF count m { st with out := st.out ++ o, held := h } [c] = takeF count m { st with out := st.out ++ o, held := h } c := by
    rw [feedF, if_neg (by show ¬ st.done = true; rw [hd]; exact Bool.false_ne_true)]
    rfl
  rw [hs, ht]
  have ey : y' = o ++ h := by rw [e2, hh]; rfl
  have el : (y' ++ [c]).length - m.length = o.length := by rw [← hfull, ey]; simp
  have et : (y' ++ [c]).take ((y' ++ [c]).length - m.length) = o := by rw [el, ey]; simp
  rw [et]
  have ea : (st.out ++ o) ++ (h ++ [c]) = st.out ++ (y' ++ [c]) := by rw [ey]; simp
  rw [ea]
/-! the looking from place to place -/
theorem noOcc_tail {m r : List UInt8} {c : UInt8} (h : NoOcc m (c :: r)) : NoOcc m r := fun p hp hs =>
  h (c :: p) ((List.cons_prefix_cons).mpr ⟨rfl, hp⟩) (hs.trans (List.suffix_cons c p))
theorem go_none {o m : List UInt8} {count : Int} (hm : m ≠ []) : ∀ (n at_ : Nat) (left : Int), NoOcc m (o.drop at_) → go o m count n at_ left = (o, [], false) := by
  intro n
  induction n with
  | zero => intro at_ left _; rfl
  | succ n ih =>
    intro at_ left no
    rw [go]
    by_cases h : at_ + m.length ≤ o.length
    · rw [if_pos h]
      rw [if_neg (fun e => no ((o.drop at_).take m.length) (List.take_prefix m.length (o.drop at_)) (by rw [e]; exact List.suffix_refl _))]
      refine ih (at_ + 1) left ?_
      have hpos : 0 < m.length := List.length_pos_iff.mpr hm
      have : o.drop at_ = o[at_] :: o.drop (at_ + 1) := by
        rw [List.drop_eq_getElem_cons]
      rw [this] at no
      exact noOcc_tail no
    · rw [if_neg h]
theorem go_first {o m : List UInt8} {count : Int} (hm : m ≠ []) : ∀ (k n at_ : Nat) (left : Int) (y w : List UInt8), y.length = k → o.drop at_ = y ++ w → FirstOcc m y → w.length + y.length < n →
    ∃ n', w.length < n' ∧ go o m count n at_ left =
      if left - 1 = 0 then ((if count = 0 then o.take (at_ + y.length - m.length) else o.take (at_ + y.length)), w, true) else go o m count n' (at_ + y.length) (left - 1) := by
  intro k
  induction k with
  | zero =>
    intro n at_ left y w hk _ hf _
    have := List.eq_nil_of_length_eq_zero hk
    subst this
    exact absurd (List.suffix_nil.mp hf.1) hm
  | succ k ih =>
    intro n at_ left y w hk hz hf hn
    have hml : m.length ≤ y.length := hf.1.length_le
    have hlen : at_ + y.length ≤ o.length := by
      have := congrArg List.length hz
      rw [List.length_drop, List.length_append] at this
      have hpos : 0 < m.length := List.length_pos_iff.mpr hm
      omega
    cases n with
    | zero => omega
    | succ n =>
      rw [go, if_pos (by omega)]
      by_cases hy : y = m
      · subst hy
        refine ⟨n, by have : 0 < y.length := List.length_pos_iff.mpr hm; omega, ?_⟩
        rw [if_pos (by rw [hz]; simp)]
        have hdrop : o.drop (at_ + y.length) = w := by
          rw [← List.drop_drop, hz]; simp
        rw [hdrop, Nat.add_sub_cancel]
      · have hlt : m.length < y.length := by
          rcases Nat.lt_or_ge m.length y.length with h | h
          · exact h
          · exact absurd (hf.1.eq_of_length (Nat.le_antisymm hml h)).symm hy
        have hne : ¬ (o.drop at_).take m.length = m := by
          rw [hz, List.take_append_of_le_length hml]
          intro e
          refine hf.2 (y.take m.length) (List.take_prefix _ _) (fun q => ?_) (by rw [e]; exact List.suffix_refl _)
          have := congrArg List.length q
          rw [List.length_take] at this
          omega
        rw [if_neg hne]
        cases y with
        | nil => simp at hk
        | cons c r =>
          have hf' : FirstOcc m r := by
            refine ⟨?_, fun p hp hne' hs => hf.2 (c :: p) ((List.cons_prefix_cons).mpr ⟨rfl, hp⟩) (fun e => hne' (List.cons.inj e).2) (hs.trans (List.suffix_cons c p))⟩
            rcases List.suffix_cons_iff.mp hf.1 with e | e
            · exact absurd e.symm hy
            · exact e
          have hz' : o.drop (at_ + 1) = r ++ w := by
            rw [← List.drop_drop, hz]; simp
          obtain ⟨n', h1, h2⟩ := ih n (at_ + 1) left r w (by simpa using hk) hz' hf' (by simp at hn; omega)
          refine ⟨n', h1, ?_⟩
          rw [h2]
          have e1 : at_ + 1 + r.length = at_ + (c :: r).length := by simp; omega
          rw [e1]
/-! both -/
theorem part_feed {o m : List UInt8} {count : Int} (hm : m ≠ []) (hc : 0 ≤ count) : ∀ (k : Nat) (z : List UInt8) (n at_ : Nat) (st : St), z.length = k → z = o.drop at_ → at_ ≤ o.length → st.done = false → st.held = [] →
    st.out = o.take at_ → st.left = [] → 0 ≤ st.seen → (st.seen < count ∨ (count = 0 ∧ st.seen = 0)) → (count = 0 → at_ = 0) → z.length < n →
    let r := go o m count n at_ (max 1 count - st.seen)
    let S := feedF count m st z
    S.done = r.2.2 ∧ (S.done = true → S.out = r.1 ∧ S.left = r.2.1 ∧ S.held = []) ∧ (S.done = false → S.left = [] ∧ S.out ++ S.held = o ∧ r = (o, [], false)) := by
  intro k
  induction k using Nat.strongRecOn with
  | ind k ih =>
    intro z n at_ st hk hz hat hd hh hout hleft hs0 hseen h0 hn
    dsimp only
    rcases occ_cases m z.length z rfl hm with no | ⟨y, w, e, hf⟩
    · obtain ⟨a, h, e1, e2, _⟩ := feed_none (count := count) hm z [] st hd (by rw [hh]; exact LS.nil m) (by simpa using no)
      have hg := go_none (count := count) hm n at_ (max 1 count - st.seen) (hz ▸ no)
      rw [hg, e1]
      refine ⟨hd, fun q => ?_, fun _ => ⟨hleft, ?_, rfl⟩⟩
      · rw [show ({ st with out := st.out ++ a, held := h } : St).done = st.done from rfl, hd] at q; cases q
      · show (st.out ++ a) ++ h = o
        rw [List.append_assoc, e2, hh, hout, hz]; simp
    · subst e
      obtain ⟨n', hn', hg⟩ := go_first (count := count) (o := o) hm y.length n at_ (max 1 count - st.seen) y w rfl hz.symm hf (by simp at hn; omega)
      rw [hg, feed_first hm hf hd hh]
      have hylen : at_ + y.length ≤ o.length := by
        have := congrArg List.length hz
        rw [List.length_drop, List.length_append] at this
        omega
      have htake : o.take (at_ + y.length) = o.take at_ ++ y := by
        rw [List.take_add, ← hz, List.take_left']
        rfl
      have hdrop : w = o.drop (at_ + y.length) := by rw [← List.drop_drop, ← hz]; simp
      by_cases hl : max 1 count - st.seen - 1 = 0
      · rw [if_pos hl]
        have hdone : (noteF count m { st with out := if count > 0 then st.out ++ y else st.out ++ y.take (y.length - m.length), held := [] }).done = true := by
          show (if (m ≠ [] ∧ count = 0) ∨ st.seen + 1 = count then true else st.done) = true
          rw [if_pos]
          rcases hseen with q | q
          · right; omega
          · left; exact ⟨hm, q.1⟩
        rw [feed_done hdone]
        refine ⟨hdone, fun _ => ⟨?_, ?_, rfl⟩, fun q => ?_⟩
        · show (if count > 0 then st.out ++ y else st.out ++ y.take (y.length - m.length)) = if count = 0 then o.take (at_ + y.length - m.length) else o.take (at_ + y.length)
          by_cases hc0 : count = 0
          · rw [if_neg (by omega), if_pos hc0, hout]
            have := h0 hc0
            subst this
            have ho : o = y ++ w := by simpa using hz.symm
            rw [ho]
            simp only [List.take_zero, List.nil_append, Nat.zero_add]
            rw [List.take_append_of_le_length (by omega)]
          · rw [if_pos (by omega), if_neg hc0, hout, htake]
        · show st.left ++ w = w
          rw [hleft]; rfl
        · have : ({ noteF count m { st with out := if count > 0 then st.out ++ y else st.out ++ y.take (y.length - m.length), held := [] } with left := _ } : St).done = true := hdone
          rw [this] at q; cases q
      · rw [if_neg hl]
        have hcpos : count > 0 := by
          rcases hseen with q | q
          · omega
          · exfalso; apply hl; omega
        have hs1 : st.seen + 1 ≠ count := by omega
        have e2 : (noteF count m { st with out := if count > 0 then st.out ++ y else st.out ++ y.take (y.length - m.length), held := [] }) = { st with out := st.out ++ y, held := [], seen := st.seen + 1 } := by
          unfold noteF
          rw [if_pos hcpos]
          dsimp only
          rw [if_neg]
          rintro (q | q)
          · omega
          · exact hs1 q
        rw [e2]
        have hyn : y ≠ [] := fun q => hm (List.suffix_nil.mp (q ▸ hf.1))
        have hyp : 0 < y.length := List.length_pos_iff.mpr hyn
        have := ih w.length (by rw [← hk]; simp; omega) w n' (at_ + y.length) { st with out := st.out ++ y, held := [], seen := st.seen + 1 } rfl hdrop hylen hd rfl (by rw [htake, ← hout]) hleft
          (by show 0 ≤ st.seen + 1; omega) (by left; show st.seen + 1 < count; rcases hseen with q | q <;> omega) (by omega) hn'
        dsimp only at this
        have el : max 1 count - (st.seen + 1) = max 1 count - st.seen - 1 := by omega
        rw [el] at this
        exact this
theorem feed_count {count : Int} : ∀ (z : List UInt8) (st : St), st.done = false → st.held = [] → st.left = [] → 0 ≤ st.seen → (count = 0 ∨ st.seen < count) →
    let S := feedF count [] st z
    if count = 0 ∨ count - st.seen > z.length then S.done = false ∧ S.out = st.out ++ z ∧ S.left = [] ∧ S.held = []
    else S.done = true ∧ S.out = st.out ++ z.take (count - st.seen).toNat ∧ S.left = z.drop (count - st.seen).toNat ∧ S.held = [] := by
  intro z
  induction z with
  | nil =>
    intro st hd hh hl h0 hs
    dsimp only
    rw [if_pos (by rcases hs with q | q; exact .inl q; right; simp; omega)]
    simp [feedF, hd, hh, hl]
  | cons c r ih =>
    intro st hd hh hl h0 hs
    dsimp only
    have ef : feedF count [] st (c :: r) = feedF count [] (noteF count [] { st with out := st.out ++ [c] }) r := by
      rw [feedF, if_neg (by rw [hd]; exact Bool.false_ne_true)]
      rfl
    rw [ef]
    by_cases hq : st.seen + 1 = count
    · have hdone : (noteF count [] { st with out := st.out ++ [c] }).done = true := by
        show (if _ then true else st.done) = true
        rw [if_pos (.inr hq)]
      rw [feed_done hdone]
      rw [if_neg (by simp only [List.length_cons]; omega)]
      have e1 : (count - st.seen).toNat = 1 := by omega
      rw [e1]
      refine ⟨hdone, by simp [noteF], ?_, hh⟩
      show st.left ++ r = _
      rw [hl]; rfl
    · have e2 : noteF count [] { st with out := st.out ++ [c] } = { st with out := st.out ++ [c], seen := st.seen + 1 } := by
        unfold noteF
        dsimp only
        rw [if_neg]
        rintro (q | q)
        · exact q.1 rfl
        · exact hq q
      rw [e2]
      have := ih { st with out := st.out ++ [c], seen := st.seen + 1 } hd hh hl (by show 0 ≤ st.seen + 1; omega) (by show count = 0 ∨ st.seen + 1 < count; omega)
      dsimp only at this
      by_cases hcnd : count = 0 ∨ count - st.seen > (c :: r).length
      · rw [if_pos hcnd]
        rw [if_pos (by simp only [List.length_cons] at hcnd; omega)] at this
        obtain ⟨a, b, c', d⟩ := this
        exact ⟨a, by rw [b]; simp, c', d⟩
      · rw [if_neg hcnd]
        rw [if_neg (by simp only [List.length_cons] at hcnd; omega)] at this
        obtain ⟨a, b, c', d⟩ := this
        have e3 : (count - st.seen).toNat = (count - (st.seen + 1)).toNat + 1 := by omega
        rw [e3]
        exact ⟨a, by rw [b]; simp, by rw [c']; simp, d⟩
/-- what a fresh decoder makes of octets is what the looking from place to place tells -/
theorem decoder_law {o m : List UInt8} {count : Int} (hc : 0 ≤ count) :
    let r := partF o count m
    let S := feedF count m st0 o
    S.done = r.2.2 ∧ (S.done = true → S.out = r.1 ∧ S.left = r.2.1) ∧ (S.done = false → S.left = [] ∧ S.out ++ S.held = o ∧ r = (o, [], false)) := by
  dsimp only
  unfold partF
  by_cases hm : m = []
  · subst hm
    rw [if_pos rfl]
    have := feed_count (count := count) o st0 rfl rfl rfl (Int.le_refl 0) (by show count = 0 ∨ 0 < count; omega)
    dsimp only at this
    have e0 : count - st0.seen = count := by show count - 0 = count; omega
    rw [e0] at this
    by_cases hq : count = 0 ∨ count > o.length
    · rw [if_pos hq] at this ⊢
      obtain ⟨a, b, c, d⟩ := this
      refine ⟨a, fun q => ?_, fun _ => ⟨c, ?_, rfl⟩⟩
      · rw [a] at q; cases q
      · rw [b, d]; simp [st0]
    · rw [if_neg hq] at this ⊢
      obtain ⟨a, b, c, d⟩ := this
      refine ⟨a, fun _ => ⟨?_, c⟩, fun q => ?_⟩
      · rw [b]; simp [st0]
      · rw [a] at q; cases q
  · rw [if_neg hm]
    have := part_feed (o := o) hm hc o.length o (o.length + 1) 0 st0 rfl (by simp) (Nat.zero_le _) rfl rfl (by simp [st0]) rfl (Int.le_refl 0) (by show (0 : Int) < count ∨ count = 0 ∧ (0 : Int) = 0; omega) (fun _ => rfl) (by omega)
    dsimp only at this
    have e0 : max 1 count - st0.seen = max 1 count := by show max 1 count - 0 = _; omega
    rw [e0] at this
    exact ⟨this.1, fun q => ⟨(this.2.1 q).1, (this.2.1 q).2.1⟩, this.2.2⟩
theorem take_shift {count : Int} {m : List UInt8} (st : St) (a : List UInt8) (c : UInt8) : takeF count m { st with out := a ++ st.out } c = { takeF count m st c with out := a ++ (takeF count m st c).out } := by
  unfold takeF
  dsimp only
  split
  · simp [noteF]
  · split
    · split <;> simp [noteF]
    · simp
theorem feed_shift {count : Int} {m : List UInt8} : ∀ (z : List UInt8) (st : St) (a : List UInt8), feedF count m { st with out := a ++ st.out } z = { feedF count m st z with out := a ++ (feedF count m st z).out } := by
  intro z
  induction z with
  | nil => intro st a; rfl
  | cons c r ih =>
    intro st a
    rw [feedF, feedF]
    dsimp only
    by_cases hd : st.done = true
    · rw [if_pos hd, if_pos hd]
    · rw [if_neg hd, if_neg hd, take_shift, ih]
/-- one more piece, after what was told before -/
theorem feed_piece {count : Int} {m : List UInt8} (fed piece : List UInt8) :
    let S := feedF count m st0 fed
    let D := feedF count m { S with out := [] } piece
    { D with out := S.out ++ D.out } = feedF count m st0 (fed ++ piece) := by
  dsimp only
  rw [feed_app, ← feed_shift]
  simp
/-- the end of the law -/
theorem law_end {o m : List UInt8} {count : Int} (hc : 0 ≤ count) :
    let S := feedF count m st0 o
    S.out ++ (finishF { S with out := [] }).out = (partF o count m).1 ∧ (finishF { S with out := [] }).left = (partF o count m).2.1 := by
  dsimp only
  obtain ⟨h1, h2, h3⟩ := decoder_law (o := o) (m := m) hc
  unfold finishF
  dsimp only
  by_cases hd : (feedF count m st0 o).done = true
  · rw [if_pos hd]
    obtain ⟨a, b⟩ := h2 hd
    exact ⟨by rw [a]; simp, b⟩
  · rw [if_neg hd]
    obtain ⟨a, b, c⟩ := h3 (by simpa using hd)
    rw [c]
    exact ⟨by simpa using b, a⟩
end Mine
end
/-! C0 -/
section
open PySem PySem.W PyProof.Rows PySem.Calls
set_option maxRecDepth 100000
namespace Mine
theorem picked_to (o : List UInt8) {k : Int} (hk : 0 ≤ k) : KBy.picked o.toArray none (some k) = (o.take k.toNat).toArray := by
  rw [KBc.picked_eq]
  obtain ⟨n, rfl⟩ := Int.eq_ofNat_of_zero_le hk
  simp only [Option.elim, clipAt_nat, List.drop_zero, Nat.sub_zero, List.size_toArray, Int.toNat_natCast]
  congr 1
  rw [List.take_eq_take_iff]
  omega
theorem picked_from (o : List UInt8) {k : Int} (hk : 0 ≤ k) : KBy.picked o.toArray (some k) none = (o.drop k.toNat).toArray := by
  rw [KBc.picked_eq]
  obtain ⟨n, rfl⟩ := Int.eq_ofNat_of_zero_le hk
  simp only [Option.elim, clipAt_nat, List.size_toArray, Int.toNat_natCast]
  congr 1
  rw [List.take_of_length_le (by simp)]
  by_cases h : n ≤ o.length
  · rw [Nat.min_eq_left h]
  · rw [Nat.min_eq_right (by omega), List.drop_of_length_le (by simp), List.drop_of_length_le (by omega)]
theorem picked_mid (o : List UInt8) {j k : Int} (hj : 0 ≤ j) (hk : 0 ≤ k) : KBy.picked o.toArray (some j) (some k) = ((o.drop j.toNat).take (k.toNat - j.toNat)).toArray := by
  rw [KBc.picked_eq]
  obtain ⟨n, rfl⟩ := Int.eq_ofNat_of_zero_le hj
  obtain ⟨p, rfl⟩ := Int.eq_ofNat_of_zero_le hk
  simp only [Option.elim, clipAt_nat, List.size_toArray, Int.toNat_natCast]
  congr 1
  by_cases h : n ≤ o.length
  · rw [Nat.min_eq_left h, List.take_eq_take_iff, List.length_drop]
    omega
  · rw [Nat.min_eq_right (a := n) (by omega), List.drop_of_length_le (Nat.le_refl _), List.drop_of_length_le (by omega), List.take_nil, List.take_nil]
section
variable {prog : Program} {w : World} {A : Around} {E : Value → Shared → Prop} {s : Shared} {value slice : PySem.Expr} {o : List UInt8} {t : Tok} {h₀ : Heap} {L : Addr} {m : PySem.Str → Option Value} {news : List (Addr × Obj)} {l u : Value} {j k : Int} {Q : Value → Shared → Prop}
theorem slice_to {tk : Tok} (hF : Fr h₀ L s.heap m) (hN : News h₀ L s.heap news) (hk : 0 ≤ k) (hz : o.length ≤ 16777216)
    (h : ∀ h' t' tk', Fr h₀ L h' m → News h₀ L h' news → Q (.bytes (o.take k.toNat).toArray t') { s with heap := h', toks := tk' })
    (hs : subscripted slice false (.bytes o.toArray t) (.ref s.heap.objs.size) = operate [.ref s.heap.objs.size, .bytes o.toArray t] (getItem (.bytes o.toArray t) (.ref s.heap.objs.size)) := by with_unfolding_all rfl)
    (ht : ∀ r, letTemporaryGo value (.bytes o.toArray t) r = pure () := by intro _; with_unfolding_all rfl) :
    wpAny (model prog w) A (subscriptTail value slice (.bytes o.toArray t) (.ref s.heap.objs.size)) Q E { s with heap := s.heap.push { cls := .type "slice", data := .fields #[.none, .int k tk, .none] } } := by
  refine KBc.slice_K (lo := none) (hi := some k) hF hN rfl (by constructor) (by constructor) (by rw [KBw.ints_length]; simpa using hz) (fun h' t' tk' f n _ => ?_) hs ht
  rw [picked_to o hk]
  exact h _ _ _ f n
theorem slice_from {tk : Tok} (hF : Fr h₀ L s.heap m) (hN : News h₀ L s.heap news) (hk : 0 ≤ k) (hz : o.length ≤ 16777216)
    (h : ∀ h' t' tk', Fr h₀ L h' m → News h₀ L h' news → Q (.bytes (o.drop k.toNat).toArray t') { s with heap := h', toks := tk' })
    (hs : subscripted slice false (.bytes o.toArray t) (.ref s.heap.objs.size) = operate [.ref s.heap.objs.size, .bytes o.toArray t] (getItem (.bytes o.toArray t) (.ref s.heap.objs.size)) := by with_unfolding_all rfl)
    (ht : ∀ r, letTemporaryGo value (.bytes o.toArray t) r = pure () := by intro _; with_unfolding_all rfl) :
    wpAny (model prog w) A (subscriptTail value slice (.bytes o.toArray t) (.ref s.heap.objs.size)) Q E { s with heap := s.heap.push { cls := .type "slice", data := .fields #[.int k tk, .none, .none] } } := by
  refine KBc.slice_K (lo := some k) (hi := none) hF hN rfl (by constructor) (by constructor) (by rw [KBw.ints_length]; simpa using hz) (fun h' t' tk' f n _ => ?_) hs ht
  rw [picked_from o hk]
  exact h _ _ _ f n
theorem slice_mid {tj tk : Tok} (hF : Fr h₀ L s.heap m) (hN : News h₀ L s.heap news) (hj : 0 ≤ j) (hk : 0 ≤ k) (hz : o.length ≤ 16777216)
    (h : ∀ h' t' tk', Fr h₀ L h' m → News h₀ L h' news → Q (.bytes ((o.drop j.toNat).take (k.toNat - j.toNat)).toArray t') { s with heap := h', toks := tk' })
    (hs : subscripted slice false (.bytes o.toArray t) (.ref s.heap.objs.size) = operate [.ref s.heap.objs.size, .bytes o.toArray t] (getItem (.bytes o.toArray t) (.ref s.heap.objs.size)) := by with_unfolding_all rfl)
    (ht : ∀ r, letTemporaryGo value (.bytes o.toArray t) r = pure () := by intro _; with_unfolding_all rfl) :
    wpAny (model prog w) A (subscriptTail value slice (.bytes o.toArray t) (.ref s.heap.objs.size)) Q E { s with heap := s.heap.push { cls := .type "slice", data := .fields #[.int j tj, .int k tk, .none] } } := by
  refine KBc.slice_K (lo := some j) (hi := some k) hF hN rfl (by constructor) (by constructor) (by rw [KBw.ints_length]; simpa using hz) (fun h' t' tk' f n _ => ?_) hs ht
  rw [picked_mid o hj hk]
  exact h _ _ _ f n
end
end Mine
end
/-! M0 -/
section
open PySem PySem.W PyProof.Rows PySem.Calls
set_option maxRecDepth 100000
namespace Mine
theorem z_tok {α : Type} {M : Model} {A : Around} {t : Sem α} {Q : α → Shared → Prop} {s : Shared} (h : ∀ tk, wpZ M A t Q { s with toks := tk }) : wpZ M A t Q s := h s.toks
theorem z_newBa {prog : Program} {w : World} {A : Around} {s : Shared} {env : Env} {pos : Pos} {h₀ : Heap} {L : Addr} {m : Str → Option Value} {news : List (Addr × Obj)} {Q : Value → Shared → Prop} (F : Fr h₀ L s.heap m) (N : News h₀ L s.heap news)
    (q : ∀ D h', Fr h₀ L h' m → News h₀ L h' ((D, ba []) :: news) → (∀ p ∈ news, p.1 < D) → Q (.ref D) { s with heap := h' }) :
    wpZ (model prog w) A (PySem.callWith pos (.type "bytearray") [] (backTo pos (starEach [] env)) []) Q s :=
  z_callWith (P := fun _ => True) rfl (z_keeps_type _) (z_evalArgs_nil ⟨trivial, zb_new F N q⟩)
abbrev ent (w : World) (n : String) (k : Tok) (v : Value) : DictEntry := { hash := PyData.keyHash w.params (Str.ofString n), key := .str (Str.ofString n) k, val := v }
/-- the decoder's own dict -/
def IsDec (w : World) (od : Obj) (d : Bool) (left : List UInt8) (oa : Addr) (count : Int) (mk : List UInt8) (seen : Int) (ha : Addr) : Prop :=
  ∃ k1 k2 k3 k4 k5 k6 k7 t2 t4 t5 t6, od = dictOf [ent w "is_done" k1 (.bool d), ent w "left" k2 (.bytes left.toArray t2), ent w "out" k3 (.ref oa), ent w "count" k4 (.int count t4), ent w "marker" k5 (.bytes mk.toArray t5), ent w "seen" k6 (.int seen t6), ent w "held" k7 (.ref ha)] 7
/-- a decoder's ledger stands apart -/
structure Apart (x dx oa ha : Addr) (rest : List (Addr × Obj)) : Prop where
  n1 : @Ne Nat x dx
  n2 : @Ne Nat x oa
  n3 : @Ne Nat x ha
  n4 : @Ne Nat dx oa
  n5 : @Ne Nat dx ha
  n6 : @Ne Nat oa ha
  off : OwnOff rest [x, dx, oa, ha]
theorem off_sub {rest : List (Addr × Obj)} {l l' : List Addr} (h : OwnOff rest l) (hs : ∀ b ∈ l', b ∈ l) : OwnOff rest l' := fun p hp b hb => h p hp b (hs b hb)
theorem off_lt {rest : List (Addr × Obj)} {d : Addr} (h : AllLt d rest) : OwnOff rest [d] := fun p hp b hb => by
  rw [List.mem_singleton.mp hb]
  have : ∀ {l : List (Addr × Obj)}, AllLt d l → ∀ p ∈ l, @LT.lt Nat _ p.1 d := by
    intro l
    induction l with
    | nil => intro _ p hp; cases hp
    | cons q r ih =>
      intro h p hp
      rcases List.mem_cons.mp hp with rfl | hp
      · exact h.1
      · exact ih h.2 p hp
  exact Nat.ne_of_lt (this h p hp)
theorem off_cons {rest : List (Addr × Obj)} {d : Addr} {l : List Addr} (h1 : OwnOff rest [d]) (h2 : OwnOff rest l) : OwnOff rest (d :: l) := fun p hp b hb => by
  rcases List.mem_cons.mp hb with rfl | hb
  · exact h1 p hp _ (.head _)
  · exact h2 p hp b hb
theorem off_nil {rest : List (Addr × Obj)} : OwnOff rest [] := fun _ _ _ hb => nomatch hb
theorem off_put {q : Addr × Obj} {rest : List (Addr × Obj)} {l : List Addr} (h1 : ∀ b ∈ l, q.1 ≠ b) (h2 : OwnOff rest l) : OwnOff (q :: rest) l := fun p hp b hb => by
  rcases List.mem_cons.mp hp with rfl | hp
  · exact h1 b hb
  · exact h2 p hp b hb
theorem z_sort_held {prog : Program} {w : World} {A : Around} {α : Type} {t : Sem α} {Q : α → Shared → Prop} {s : Shared} {g : Heap} {L : Addr} {D x dx oa ha : Addr} {o0 ix od o1 o2 : Obj} {rest : List (Addr × Obj)} (N : News g L s.heap ((D, o0) :: (x, ix) :: (dx, od) :: (oa, o1) :: (ha, o2) :: rest))
    (h : News g L s.heap ((x, ix) :: (dx, od) :: (oa, o1) :: (D, o0) :: rest) → wpZ (model prog w) A t Q s) : wpZ (model prog w) A t Q s :=
  h (cb_drop N fun p hp => by
    simp only [List.mem_cons] at hp ⊢
    rcases hp with h | h | h | h | h <;> simp [h])
theorem zb_bytes {prog : Program} {w : World} {A : Around} {s : Shared} {h₀ : Heap} {L : Addr} {news : List (Addr × Obj)} {a : Addr} {b : List UInt8} {Q : Value → Shared → Prop} {E : Value → Shared → Prop} (N : News h₀ L s.heap news) (hm : (a, ba b) ∈ news) (hz : b.length ≤ 1000)
    (q : ∀ t k, Q (.bytes b.toArray t) { s with toks := k }) : wpAny (model prog w) A (call (.type "bytes") [.ref a]) Q E s :=
  bytes_of_ba (N _ hm).1 (by rw [sizeLine_eq]; omega) q
section
variable {prog : Program} {w : World} {A : Around} {s : Shared} {h₀ : Heap} {L : Addr} {news : List (Addr × Obj)} {env : Env} {pos : Pos}
theorem zb_getMethod {a : Addr} {b : List UInt8} {name : Str} {id : String} {pl : Sem Bool} {Q : Value × List Value → Shared → Prop} (N : News h₀ L s.heap news) (hm : (a, ba b) ∈ news) (slot : Slot "bytearray" name id)
    (hty : typeOf (.builtin id) = pure (.type "method_descriptor")) (q : Q (.builtin id, [.ref a]) s) : wpZ (model prog w) A (getMethod (.ref a) name pl) Q s :=
  z_any (ba_getMethod (N _ hm).1 slot hty q)
theorem z_callBuiltin {id : String} {first : List Value} {e : Expr} {rest : List Expr} {Q : Value → Shared → Prop}
    (h : wpZ (model prog w) A (spliced (backTo pos (starEach (e :: rest) env))) (fun vs s₁ => wpZ (model prog w) A (call (.builtin id) (first ++ vs)) Q s₁) s)
    (he : starEach (e :: rest) env = (false, eval e env) :: starEach rest env := by rfl) (hplain : (backTo pos (starEach rest env)).any (·.1) = false := by rfl) :
    wpZ (model prog w) A (PySem.callWith pos (.builtin id) first (backTo pos (starEach (e :: rest) env)) []) Q s := by
  rw [he] at h ⊢
  exact z_callWith (P := fun _ => True) (by show (false || (backTo pos (starEach rest env)).any (·.1)) = false; rw [hplain]; rfl) (z_keeps_builtin _) (z_evalArgs (z_mono h fun vs s₁ h₁ => ⟨trivial, h₁⟩))
theorem z_callFn {K : Frag} {f : Value} {first : List Value} {e : Expr} {rest : List Expr} {Q : Value → Shared → Prop} (_X : K.In h₀) (hk : keepIn K f = true)
    (h : wpZ (model prog w) A (spliced (backTo pos (starEach (e :: rest) env))) (fun vs s₁ => K.In s₁.heap ∧ wpZ (model prog w) A (call f (first ++ vs)) Q s₁) s)
    (he : starEach (e :: rest) env = (false, eval e env) :: starEach rest env := by rfl) (hplain : (backTo pos (starEach rest env)).any (·.1) = false := by rfl) :
    wpZ (model prog w) A (PySem.callWith pos f first (backTo pos (starEach (e :: rest) env)) []) Q s := by
  rw [he] at h ⊢
  exact z_callWith (P := K.In) (by show (false || (backTo pos (starEach rest env)).any (·.1)) = false; rw [hplain]; rfl) (keeps_K hk) (z_evalArgs h)
theorem z_callFn0 {K : Frag} {f : Value} {first : List Value} {Q : Value → Shared → Prop} (X : K.In s.heap) (hk : keepIn K f = true) (h : wpZ (model prog w) A (call f (first ++ [])) Q s) :
    wpZ (model prog w) A (PySem.callWith pos f first (backTo pos (starEach [] env)) []) Q s :=
  z_callWith (P := K.In) rfl (keeps_K hk) (z_evalArgs_nil ⟨X, h⟩)
theorem z_spl1 {e : Expr} {Q : List Value → Shared → Prop} (h : wpZ (model prog w) A (eval e env) (fun v s₁ => Q [v] s₁) s) (he : starEach [e] env = [(false, eval e env)] := by rfl) :
    wpZ (model prog w) A (spliced (backTo pos (starEach [e] env))) Q s := by
  rw [he]
  exact z_spliced_cons (z_mono h fun v s₁ h₁ => z_spliced_nil h₁)
end
theorem off_new {rest : List (Addr × Obj)} {l l' : List Addr} {d : Addr} (h : OwnOff rest l) (h1 : OwnOff rest [d]) (hs : ∀ b ∈ l', b = d ∨ b ∈ l) : OwnOff rest l' := fun p hp b hb =>
  (hs b hb).elim (fun e => e ▸ h1 p hp d (.head _)) fun e => h p hp b e
theorem Apart.out {x dx oa ha D : Addr} {rest : List (Addr × Obj)} (h : Apart x dx oa ha rest) (l : @LT.lt Nat _ x D ∧ @LT.lt Nat _ dx D ∧ @LT.lt Nat _ oa D ∧ @LT.lt Nat _ ha D ∧ AllLt D rest) : Apart x dx D ha rest := by
  obtain ⟨n1, n2, n3, n4, n5, n6, off⟩ := h
  obtain ⟨l1, l2, l3, l4, l5⟩ := l
  refine ⟨n1, by omega, n3, by omega, n5, by omega, off_new off (off_lt l5) fun b hb => ?_⟩
  simp only [List.mem_cons, List.not_mem_nil, or_false] at hb ⊢
  rcases hb with h | h | h | h <;> simp [h]
theorem Apart.held {x dx oa ha D : Addr} {rest : List (Addr × Obj)} (h : Apart x dx oa ha rest) (l : @LT.lt Nat _ x D ∧ @LT.lt Nat _ dx D ∧ @LT.lt Nat _ oa D ∧ @LT.lt Nat _ ha D ∧ AllLt D rest) : Apart x dx oa D rest := by
  obtain ⟨n1, n2, n3, n4, n5, n6, off⟩ := h
  obtain ⟨l1, l2, l3, l4, l5⟩ := l
  refine ⟨n1, n2, by omega, n4, by omega, by omega, off_new off (off_lt l5) fun b hb => ?_⟩
  simp only [List.mem_cons, List.not_mem_nil, or_false] at hb ⊢
  rcases hb with h | h | h | h <;> simp [h]
theorem Apart.in1 {x dx oa ha : Addr} {rest : List (Addr × Obj)} (h : Apart x dx oa ha rest) {o1 o2 : Obj} : OwnOff ((oa, o1) :: (ha, o2) :: rest) [x, dx] := by
  obtain ⟨n1, n2, n3, n4, n5, n6, off⟩ := h
  refine off_put (fun b hb => ?_) (off_put (fun b hb => ?_) (off_sub off fun b hb => ?_))
  · simp only [List.mem_cons, List.not_mem_nil, or_false] at hb
    rcases hb with h | h <;> subst h <;> first | exact Ne.symm n2 | exact Ne.symm n4
  · simp only [List.mem_cons, List.not_mem_nil, or_false] at hb
    rcases hb with h | h <;> subst h <;> first | exact Ne.symm n3 | exact Ne.symm n5
  · simp only [List.mem_cons, List.not_mem_nil, or_false] at hb ⊢
    rcases hb with h | h <;> simp [h]
theorem off_make {news : List (Addr × Obj)} {x dx : Addr} (l1 : ∀ p ∈ news, @LT.lt Nat _ p.1 dx) (l2 : @LT.lt Nat _ dx x) : OwnOff news [x, dx] := fun p hp b hb => by
  have := l1 p hp
  simp only [List.mem_cons, List.not_mem_nil, or_false] at hb
  rcases hb with h | h <;> subst h
  · exact Nat.ne_of_lt (Nat.lt_trans this l2)
  · exact Nat.ne_of_lt this
theorem z_make_top {prog : Program} {w : World} {K : Frag} {C : Addr} {s : Shared} {h₀ : Heap} {L : Addr} {m : Str → Option Value} {news : List (Addr × Obj)} {Q : Value → Shared → Prop} {dp un : Nat} {cn : Str} {cs : Scope} {a : Addr} {ccd : Value} {cl : List (Str × Addr)} {outer : List Env}
    {rest : List Value} {fI : Addr} (F : Fr h₀ L s.heap m) (N : News h₀ L s.heap news) (X : K.In h₀) (hm : makesIn K C = true)
    (hi : findIn K (.ref C) "__init__" = some (some (.ref fI))) (hf : isFn K (.ref fI) = true)
    (h : ∀ x dx h', Fr h₀ L h' m → News h₀ L h' ((x, instObj C dx) :: (dx, emptyDict) :: news) → (∀ p ∈ news, @LT.lt Nat _ p.1 dx) → @LT.lt Nat _ dx x →
      codeZ (model prog w) (ktrTop (dp + 1) (un + 1) (some []) cn cs L a ccd cl outer) (.call (.ref fI) ⟨.ref x :: rest, []⟩) (InitZ x fun f s' => match f with | .ret v => Q v s' | _ => False) { s with heap := h' }) :
    wpZ (model prog w) (ktrTop dp un (some []) cn cs L a ccd cl outer) (call (.ref C) rest) Q s :=
  z_call (z_make F N (X.keeps F.keep) hm hi (beq_iff_eq.mp hf) h)
theorem Apart.fresh {x dx oa ha : Addr} {rest : List (Addr × Obj)} (n1 : @Ne Nat x dx) (off : OwnOff rest [x, dx]) (l : @LT.lt Nat _ x oa ∧ @LT.lt Nat _ dx oa ∧ AllLt oa rest) (k : @LT.lt Nat _ oa ha ∧ @LT.lt Nat _ x ha ∧ @LT.lt Nat _ dx ha ∧ AllLt ha rest) : Apart x dx oa ha rest := by
  obtain ⟨l1, l2, l3⟩ := l
  obtain ⟨k1, k2, k3, k4⟩ := k
  refine ⟨n1, by omega, by omega, by omega, by omega, by omega, off_new (off_new off (off_lt l3) (l' := [x, dx, oa]) fun b hb => ?_) (off_lt k4) fun b hb => ?_⟩
  · simp only [List.mem_cons, List.not_mem_nil, or_false] at hb ⊢
    rcases hb with h | h | h <;> simp [h]
  · simp only [List.mem_cons, List.not_mem_nil, or_false] at hb ⊢
    rcases hb with h | h | h | h <;> simp [h]
theorem mk_eq' {mk : List UInt8} (h : (mk.toArray.toList != (#[] : Array UInt8).toList) = false) : mk = [] := by simpa using h
theorem mk_ne' {mk : List UInt8} (h : (mk.toArray.toList != (#[] : Array UInt8).toList) = true) : mk ≠ [] := by intro e; subst e; simp at h
theorem mk_eq {mk : List UInt8} (h : (mk.toArray.toList == (#[] : Array UInt8).toList) = true) : mk = [] := by simpa using h
theorem mk_ne {mk : List UInt8} (h : (mk.toArray.toList == (#[] : Array UInt8).toList) = false) : mk ≠ [] := by intro e; subst e; simp at h
end Mine
end
/-! M5a -/
section
open PySem PySem.W PyProof.Rows PySem.Calls
set_option maxRecDepth 100000
namespace Mine
/-- where the marker's test in take leaves the decoder -/
def Mid (w : World) (g : Heap) (L : Addr) (m : Str → Option Value) (x dx oa : Addr) (rest : List (Addr × Obj)) (left : List UInt8) (count : Int) (mk : List UInt8) (lft : List UInt8) (tgt : St) (s : Shared) (f : Flow) (s' : Shared) : Prop :=
  f = .next ∧ ∃ od' ha' d2 o2 seen2 h2 hp tk, s' = { s with heap := hp, toks := tk } ∧ Fr g L hp m ∧ News g L hp ((x, instObj 108 dx) :: (dx, od') :: (oa, ba o2) :: (ha', ba h2) :: rest) ∧ IsDec w od' d2 left oa count mk seen2 ha' ∧ Apart x dx oa ha' rest ∧
    tgt = ⟨d2, lft, o2 ++ (drain mk h2).1, seen2, (drain mk h2).2⟩ ∧ o2.length + h2.length ≤ 401
/-- a turn of the loop that drains -/
def StepZ (g : Heap) (L : Addr) (m : Str → Option Value) (x dx oa ha : Addr) (od : Obj) (rest : List (Addr × Obj)) (mk O H : List UInt8) (s : Shared) (n : Nat) (f : Flow) (s' : Shared) : Prop :=
  f = .next ∧ ∃ o2 h2 hp tk, s' = { s with heap := hp, toks := tk } ∧ Fr g L hp m ∧ News g L hp ((x, instObj 108 dx) :: (dx, od) :: (oa, ba o2) :: (ha, ba h2) :: rest) ∧ h2.length < n ∧ o2 ++ (drain mk h2).1 = O ∧ (drain mk h2).2 = H ∧ o2.length + h2.length ≤ 401
section
variable {prog : Program} {w : World} {A : Around} {s : Shared} {env : Env} {g : Heap} {L : Addr} {m : Str → Option Value} {Q : Flow → Shared → Prop} {x dx oa ha : Addr} {od : Obj} {rest : List (Addr × Obj)}
theorem mid_cons {left mk lft : List UInt8} {count : Int} {tgt : St} {st : Stmt} {sts : List Stmt} (_F : Fr g L s.heap m) (h1 : wpZ (model prog w) A (exec st env) (Mid w g L m x dx oa rest left count mk lft tgt s) s)
    (h2 : ∀ od' ha' d2 o2 seen2 h2 hp tk, Fr g L hp m → News g L hp ((x, instObj 108 dx) :: (dx, od') :: (oa, ba o2) :: (ha', ba h2) :: rest) → IsDec w od' d2 left oa count mk seen2 ha' → Apart x dx oa ha' rest →
      tgt = ⟨d2, lft, o2 ++ (drain mk h2).1, seen2, (drain mk h2).2⟩ → o2.length + h2.length ≤ 401 → wpZ (model prog w) A (execs sts env) Q { s with heap := hp, toks := tk }) : wpZ (model prog w) A (execs (st :: sts) env) Q s := by
  refine z_execs_cons (z_mono h1 fun f s' hm => ?_)
  obtain ⟨rfl, od', ha', d2, o2, seen2, hh, hp, tk, rfl, F', N', D', ap, e, z⟩ := hm
  exact h2 _ _ _ _ _ _ _ _ F' N' D' ap e z
theorem while_drain {test : Expr} {body : List Stmt} {pos : Pos} {mk O H o h : List UInt8} (F : Fr g L s.heap m) (N : News g L s.heap ((x, instObj 108 dx) :: (dx, od) :: (oa, ba o) :: (ha, ba h) :: rest)) (e1 : o ++ (drain mk h).1 = O) (e2 : (drain mk h).2 = H) (hz : o.length + h.length ≤ 401)
    (turn : ∀ o2 h2 hp tk, Fr g L hp m → News g L hp ((x, instObj 108 dx) :: (dx, od) :: (oa, ba o2) :: (ha, ba h2) :: rest) → o2 ++ (drain mk h2).1 = O → (drain mk h2).2 = H → o2.length + h2.length ≤ 401 →
      wpZ (model prog w) A (isTrue test env (eval test env)) (fun b s₂ => (b = true → wpZ (model prog w) A (execs body env) (StepZ g L m x dx oa ha od rest mk O H s h2.length) s₂) ∧ (b = false → Q .next s₂)) { s with heap := hp, toks := tk }) :
    wpZ (model prog w) A (exec (.While test body [] pos) env) Q s := by
  refine z_While (z_whileLoop (fun n s' => ∃ o2 h2 hp tk, s' = { s with heap := hp, toks := tk } ∧ Fr g L hp m ∧ News g L hp ((x, instObj 108 dx) :: (dx, od) :: (oa, ba o2) :: (ha, ba h2) :: rest) ∧ h2.length = n ∧ o2 ++ (drain mk h2).1 = O ∧ (drain mk h2).2 = H ∧ o2.length + h2.length ≤ 401) ?_ h.length ⟨o, h, s.heap, s.toks, rfl, F, N, rfl, e1, e2, hz⟩)
  rintro n s' ⟨o2, h2, hp, tk, rfl, F2, N2, rfl, e3, e4, hz2⟩
  refine z_mono (turn o2 h2 hp tk F2 N2 e3 e4 hz2) fun b s₂ hb => ⟨fun e => z_mono (hb.1 e) fun f s₃ hs => ?_, fun e => z_execs_nil (hb.2 e)⟩
  obtain ⟨rfl, o3, h3, hp3, tk3, rfl, F3, N3, lt, e5, e6, hz3⟩ := hs
  exact ⟨_, lt, o3, h3, hp3, tk3, rfl, F3, N3, rfl, e5, e6, hz3⟩
end
theorem take_nil {count : Int} {mk : List UInt8} {d : Bool} {lft out held : List UInt8} {seen : Int} {c : UInt8} (e : mk = []) :
    takeF count mk ⟨d, lft, out, seen, held⟩ c = ⟨if (mk ≠ [] ∧ count = 0) ∨ seen + 1 = count then true else d, lft, out ++ [c], seen + 1, held⟩ := by
  simp only [takeF, if_pos e, noteF]
theorem held_eq {a b : List UInt8} {r : Bool} (h : (a.toArray.toList == b.toArray.toList) = r) : (a == b) = r := by simpa using h
theorem take_hit {count : Int} {mk : List UInt8} {d : Bool} {lft out held : List UInt8} {seen : Int} {c : UInt8} (e : mk ≠ []) (h : held ++ [c] = mk) :
    takeF count mk ⟨d, lft, out, seen, held⟩ c = ⟨if (mk ≠ [] ∧ count = 0) ∨ seen + 1 = count then true else d, lft, (if count > 0 then out ++ (held ++ [c]) else out) ++ (drain mk []).1, seen + 1, (drain mk []).2⟩ := by
  simp only [takeF, if_neg e, if_pos h, noteF, drain, List.append_nil]
theorem take_miss {count : Int} {mk : List UInt8} {d : Bool} {lft out held : List UInt8} {seen : Int} {c : UInt8} (e : mk ≠ []) (h : ¬ held ++ [c] = mk) :
    takeF count mk ⟨d, lft, out, seen, held⟩ c = ⟨d, lft, out ++ (drain mk (held ++ [c])).1, seen, (drain mk (held ++ [c])).2⟩ := by
  simp only [takeF, if_neg e, if_neg h]
end Mine
end
/-! E1 -/
section
open PySem PySem.W PyProof.Rows PySem.Calls
open PySem.Sem (wp)
set_option maxRecDepth 100000
namespace Mine
theorem pyIter_bytesU {prog : Program} {w : World} {A : Around} {E : Value → Shared → Prop} {b : Array UInt8} {t : Tok} {hp : Heap} {g : Array GenState} {d : Drawn} {tk : Nat} {os : OsState} {Q : Value → Shared → Prop}
    (hQ : Q (.ref hp.objs.size) ⟨hp.push { cls := .type "bytes_iterator", data := .fields #[.bytes b t, .int 0 0] }, g, d, tk, os⟩) : wpAny (model prog w) A (pyIter (.bytes b t)) Q E ⟨hp, g, d, tk, os⟩ := KBw.pyIter_bytes hQ
set_option maxHeartbeats 4000000 in
theorem meets_enumB (x : Array UInt8) (t : Tok) :
    Meets (Builtin.«enumerate.__new__» ⟨[.type "enumerate", .bytes x t], []⟩) (fun _ R s =>
      R (.ok (.ret (.ref (s.heap.push { cls := .type "bytes_iterator", data := .fields #[.bytes x t, .int 0 0] }).objs.size)))
        { s with heap := (s.heap.push { cls := .type "bytes_iterator", data := .fields #[.bytes x t, .int 0 0] }).push { cls := .type "enumerate", data := .fields #[.none, .bool false, .ref s.heap.objs.size, rawInt 0, .none, .none] } }) :=
  .of_wp fun prog w A R s h => by
    obtain ⟨hp, g, d, tk, os⟩ := s
    have hsub := sub_enumerate
    wp_walk
    refine wpAny_stack_any fun st => wpAny_pure ?_
    split
    · rename_i c _ _ _ _ _
      cases (c == Value.type "enumerate")
      · wp_walk using pyIter_bytesU
        exact ⟨_, rfl, h⟩
      · wp_walk using pyIter_bytesU
        exact ⟨_, rfl, h⟩
    · wp_walk using pyIter_bytesU
      exact ⟨_, rfl, h⟩
section
variable {prog : Program} {w : World} {A : Around} {E : Value → Shared → Prop} {s : Shared}
theorem call_enumB {x : Array UInt8} {t : Tok} {Q : Value → Shared → Prop}
    (h : ∀ h', IsEnum h' (s.heap.objs.size + 1) s.heap.objs.size 0 .none → KBw.IsBytesIter h' s.heap.objs.size x t 0 → h'.objs.size = s.heap.objs.size + 2 →
      (∀ b o, s.heap.get? b = some o → h'.get? b = some o) → Q (.ref (s.heap.objs.size + 1)) { s with heap := h' }) :
    wpAny (model prog w) A (call (.type "enumerate") [.bytes x t]) Q E s := by
  refine callType_new F.called_enumerate (by decide) (F.typeCall_enumerate_1 _) (F.newCall_enumerate_1 _) (fun obj => F.args_object_init_2 obj _) F.entry_enumerate_new
    (meets_enumB x t) ?_
  have hz : (s.heap.push { cls := .type "bytes_iterator", data := .fields #[.bytes x t, .int 0 0] }).objs.size = s.heap.objs.size + 1 := Heap.size_push ..
  show _ ∧ _
  rw [hz]
  have he : IsEnum ((s.heap.push { cls := .type "bytes_iterator", data := .fields #[.bytes x t, .int 0 0] }).push
      { cls := .type "enumerate", data := .fields #[.none, .bool false, .ref s.heap.objs.size, rawInt 0, .none, .none] }) (s.heap.objs.size + 1) s.heap.objs.size 0 .none := by
    have := Heap.get?_push_size (s.heap.push { cls := .type "bytes_iterator", data := .fields #[.bytes x t, .int 0 0] })
      (o := { cls := .type "enumerate", data := .fields #[.none, .bool false, .ref s.heap.objs.size, rawInt 0, .none, .none] }) rfl
    rw [hz] at this; exact this
  refine ⟨⟨_, he, rfl⟩, h _ he ⟨_, Heap.get?_push_of_some _ (Heap.get?_push_size _ rfl), rfl, rfl⟩ (by rw [Heap.size_push, hz]) fun b o y => Heap.get?_push_of_some _ (Heap.get?_push_of_some _ y)⟩
theorem nextOf_item {it : Addr} {b : Array UInt8} {t : Tok} {i : Nat} {c : UInt8} {Q : Value → Shared → Prop} (hit : KBw.IsBytesIter s.heap it b t i) (hx : b[i]? = some c)
    (hQ : ∀ h', KBw.IsBytesIter h' it b t (i + 1) → Heap.SameBut it s.heap h' → Q (.int (c.toNat : Int) s.toks) { s with heap := h', toks := s.toks + 1 }) : wpAny (model prog w) A (Builtin.SmallTypes.nextOf (.ref it)) Q E s := by
  obtain ⟨o, ho, hc, hd⟩ := id hit
  unfold Builtin.SmallTypes.nextOf
  refine wpAny_bind (wpAny_callSpecial?_slot (name := PySem.Str.ofString "__next__") (KBw.iter_typeIs hit) KBw.slot_next
    (wpAny_call_entry KBw.slot_next (KBw.iter_typeIs hit) KBw.entry_next ?_ (KBw.args_next _)))
  show wpAny _ _ (field (.ref it) 0 >>= _) _ _ s
  refine wpAny_bind (wpAny_field ho hd (x := .bytes b t) rfl ?_)
  show wpAny _ _ (if (Value.bytes b t == Value.none) = true then _ else _) _ _ s
  rw [if_neg (show ¬ ((Value.bytes b t == Value.none) = true) from Bool.false_ne_true)]
  show wpAny _ _ (field (.ref it) 1 >>= _) _ _ s
  refine wpAny_bind (wpAny_field ho hd (x := .int i 0) rfl ?_)
  refine wpAny_bind (wpAny_of_eq (a := b) rfl ?_)
  simp only [Int.toNat_natCast, hx]
  refine wpAny_bind (wpAny_setField ho hd (by simp) (wpAny_bind (wpAny_mkInt (wpAny_pure ⟨_, rfl, wpAny_pure (hQ _ ?_ (Heap.SameBut.update ..))⟩))))
  exact ⟨_, Heap.get?_update_self _ ho (Obj.isFreed_of_fields (Obj.data_mapFields hd _)), (Obj.cls_mapFields ..).trans hc, by
    rw [Obj.data_mapFields hd]; simp [rawInt]⟩
theorem nextOf_end {it : Addr} {b : Array UInt8} {t : Tok} {i : Nat} {Q : Value → Shared → Prop} (hh : A.handled = none) (hit : KBw.IsBytesIter s.heap it b t i) (hx : b[i]? = none)
    (hE : ∀ h' e, Heap.ExtBut it s.heap h' → (∃ o, h'.get? e = some o ∧ o.cls = .type "StopIteration") → E (.ref e) { s with heap := h' }) : wpAny (model prog w) A (Builtin.SmallTypes.nextOf (.ref it)) Q E s := by
  obtain ⟨o, ho, hc, hd⟩ := id hit
  unfold Builtin.SmallTypes.nextOf
  refine wpAny_bind (wpAny_callSpecial?_slot (name := PySem.Str.ofString "__next__") (KBw.iter_typeIs hit) KBw.slot_next
    (wpAny_call_entry KBw.slot_next (KBw.iter_typeIs hit) KBw.entry_next ?_ (KBw.args_next _)))
  show wpAny _ _ (field (.ref it) 0 >>= _) _ _ s
  refine wpAny_bind (wpAny_field ho hd (x := .bytes b t) rfl ?_)
  show wpAny _ _ (if (Value.bytes b t == Value.none) = true then _ else _) _ _ s
  rw [if_neg (show ¬ ((Value.bytes b t == Value.none) = true) from Bool.false_ne_true)]
  show wpAny _ _ (field (.ref it) 1 >>= _) _ _ s
  refine wpAny_bind (wpAny_field ho hd (x := .int i 0) rfl ?_)
  refine wpAny_bind (wpAny_of_eq (a := b) rfl ?_)
  simp only [Int.toNat_natCast, hx]
  refine wpAny_bind (wpAny_rule (wpAny_bind (wpAny_setField ho hd (by simp) ?_)))
  show wpAny _ _ (newExc (.type "StopIteration") [] >>= _) _ _ _
  refine wpAny_bind ?_
  simp only [newExc, newTuple]
  refine wpAny_bind (wpAny_newObj_type ?_ (by size_fits))
  refine wpAny_bind (m := firstArgMember _ _) (wpAny_of_eq (a := Value.none) (by first | rfl | (simp only [firstArgMember]; rfl)) ?_)
  refine wpAny_newObj_type ?_ (by size_fits)
  simp only [raiseNew]
  refine wpAny_bind (wpAny_handled ?_)
  first | rw [show A.in1.handled = none from hh] | rw [hh]
  refine wpAny_bind (wpAny_pure (wpAny_throw ?_))
  exact hE _ _ (((Heap.SameBut.update ..).extBut.push _).push _) ⟨_, Heap.get?_push_size _ rfl, rfl⟩
end
theorem draws_bytes {prog : Program} {w : World} {A : Around} (hh : A.handled = none) (it : Addr) (x : List UInt8) (t : Tok) :
    Draws prog w A it [it] x.length (fun i v => ∃ c u, x[i]? = some c ∧ v = .int (c.toNat : Int) u) (fun i h => KBw.IsBytesIter h it x.toArray t i) where
  live := fun _ _ st => let ⟨o, ho, _⟩ := st; ⟨o, ho⟩
  frame := fun _ _ _ st hk => let ⟨o, ho, r⟩ := st; ⟨o, hk it (by simp) o ho, r⟩
  item := fun i s Q E hi st hQ => by
    refine nextOf_item st (c := x[i]) (by simp [hi]) fun h' hit' hs' => ?_
    exact hQ _ h' (s.toks + 1) ⟨_, _, by simp [hi], rfl⟩ hit' hs'
  done := fun s Q E st hE => nextOf_end hh st (by simp) hE
end Mine
end
/-! E2 -/
section
open PySem PySem.W PyProof.Rows PySem.Calls
open PySem.Sem (wp)
set_option maxRecDepth 100000
namespace Mine
section
variable {prog : Program} {w : World} {A : Around} {s : Shared} {env : Env} {h₀ : Heap}
theorem call_enumK {L : Addr} {m : Str → Option Value} {news : List (Addr × Obj)} {o : List UInt8} {t : Tok} {Q : Value → Shared → Prop} {E : Value → Shared → Prop} (F : Fr h₀ L s.heap m) (N : News h₀ L s.heap news)
    (h : ∀ e it h', Fr h₀ L h' m → News h₀ L h' news → IsEnum h' e it 0 .none → KBw.IsBytesIter h' it o.toArray t 0 → L ≠ e → L ≠ it → e ≠ it → h₀.get? e = none → h₀.get? it = none → OwnOff news [e, it] → Q (.ref e) { s with heap := h' }) :
    wpAny (model prog w) A (call (.type "enumerate") [.bytes o.toArray t]) Q E s := by
  refine call_enumB fun h' he hit hsz hk => ?_
  have hLs : L < s.heap.objs.size := F.ns.lt
  have hab : h₀.objs.size ≤ L := F.above
  refine h _ _ h' (fr_grow F hk) (fun p hp => ⟨hk _ _ (N p hp).1, (N p hp).2⟩) he hit (Nat.ne_of_lt (Nat.lt_succ_of_lt hLs)) (Nat.ne_of_lt hLs) (Nat.succ_ne_self _)
    (Heap.get?_none_of_le (Nat.le_trans hab (Nat.le_of_lt (Nat.lt_succ_of_lt hLs)))) (Heap.get?_none_of_le (Nat.le_trans hab (Nat.le_of_lt hLs))) fun p hp b hb => ?_
  have hq : p.1 < s.heap.objs.size := Heap.lt_size (N p hp).1
  simp only [List.mem_cons, List.not_mem_nil, or_false] at hb
  rcases hb with h | h <;> subst h
  · exact Nat.ne_of_lt (Nat.lt_succ_of_lt hq)
  · exact Nat.ne_of_lt hq
/-- a turn's end -/
def StepO (h₀ : Heap) (L : Addr) (s : Shared) (own : List (Addr × Obj)) (e it : Addr) (J : (Str → Option Value) → List (Addr × Obj) → Prop) (R : Flow → Shared → Prop) (f : Flow) (s' : Shared) : Prop :=
  match f with
  | .next | .cont => ∃ h' tk' m₂ news₂, s' = { s with heap := h', toks := tk' } ∧ Fr h₀ L h' m₂ ∧ News h₀ L h' (news₂ ++ own) ∧ OwnOff news₂ [e, it] ∧ J m₂ news₂
  | .brk => R .next s'
  | .ret v => R (.ret v) s'
theorem z_for_oct {R : Flow → Shared → Prop} {xi xc : Str} {pk pv pt : Pos} {x1 : Nat} {body : List Stmt} {e it : Addr} {o : List UInt8} {t : Tok} {m : Str → Option Value} {news : List (Addr × Obj)} (hh : A.handled = none)
    (hxi : env.kindOf xi = some .local) (hxc : env.kindOf xc = some .local)
    (hp : (env.scope.kind == .class || (env.scope.kind == .module && env.locals != env.globals)) = false)
    (hLe : env.locals ≠ e) (hLi : env.locals ≠ it) (hei : e ≠ it) (hne : h₀.get? e = none) (hni : h₀.get? it = none)
    (J : Nat → (Str → Option Value) → List (Addr × Obj) → Prop)
    (F : Fr h₀ env.locals s.heap m) (N : News h₀ env.locals s.heap news) (he : IsEnum s.heap e it 0 .none) (hit : KBw.IsBytesIter s.heap it o.toArray t 0) (h0 : J 0 m news) (hn : OwnOff news [e, it])
    (step : ∀ i c t1 t2 m₁ news₁ h tk oe oi, o[i]? = some c → J i m₁ news₁ → OwnOff news₁ [e, it] → Fr h₀ env.locals h (fun y => if y = xc then some (.int (c.toNat : Int) t2) else if y = xi then some (.int (i : Int) t1) else m₁ y) → News h₀ env.locals h (news₁ ++ [(e, oe), (it, oi)]) →
      wpZ (model prog w) A (execs body env) (StepO h₀ env.locals s [(e, oe), (it, oi)] e it (J (i + 1)) R) { s with heap := h, toks := tk })
    (done : ∀ h' tk m' news', Fr h₀ env.locals h' m' → News h₀ env.locals h' news' → J o.length m' news' → R .next { s with heap := h', toks := tk }) :
    codeZ (model prog w) A (.forLoop (.Tuple [.Name xi pk, .Name xc pv] x1 pt) (.ref e) body [] env) R s := by
  have hef : e ∉ [it] := fun h => hei (List.mem_singleton.mp h)
  have W := WalksT.enumerateD (draws_bytes (prog := prog) (w := w) (A := A.in1) hh it o t) e hei hef (by simp)
  have hLf : env.locals ∉ [e, it] := by simp [hLe, hLi]
  have offn : ∀ {ns : List (Addr × Obj)}, OwnOff ns [e, it] → ∀ p ∈ ns, p.1 ∉ [e, it] := fun ho p hp hb => ho p hp _ hb rfl
  have old : ∀ b o, h₀.get? b = some o → b ∉ [e, it] := fun b o x hb => by
    simp only [List.mem_cons, List.not_mem_nil, or_false] at hb
    rcases hb with h | h <;> subst h
    · rw [hne] at x; cases x
    · rw [hni] at x; cases x
  refine z_forLoop (fun k s' => ∃ h' tk m' news' i, s' = { s with heap := h', toks := tk } ∧ ((∃ old, IsEnum h' e it (i : Nat) old) ∧ KBw.IsBytesIter h' it o.toArray t i) ∧ Fr h₀ env.locals h' m' ∧ News h₀ env.locals h' news' ∧ OwnOff news' [e, it] ∧ J i m' news' ∧ i ≤ o.length ∧ k = o.length + 1 - i) ?_ (o.length + 1)
    ⟨s.heap, s.toks, m, news, 0, rfl, ⟨⟨_, he⟩, hit⟩, F, N, hn, h0, Nat.zero_le _, rfl⟩
  rintro k s' ⟨H, tk, m', news', i, rfl, hst', F', N', ho', hJ, hi, rfl⟩
  have next : ∀ h₁ : Heap, (∀ b o, b ∉ [e, it] → H.get? b = some o → h₁.get? b = some o) → Fr h₀ env.locals h₁ m' ∧ News h₀ env.locals h₁ news' := fun h₁ hk₁ =>
    ⟨⟨F'.ns.at' fun o x => hk₁ _ o hLf x, fun b o x => hk₁ b o (old b o x) (F'.keep b o x), F'.above⟩, fun p hp => ⟨hk₁ _ _ (offn ho' p hp) (N' p hp).1, (N' p hp).2⟩⟩
  by_cases hlt : i < o.length
  · refine W.item i _ _ _ hlt hst' fun T vals h₁ tk₁ hPt _ hT hMid hk₁ => ?_
    obtain ⟨t1, x, ⟨c, t2, hc, rfl⟩, rfl⟩ := hPt
    refine W.go _ x1 pt i T _ _ _ hMid fun h₂ hst₂ hk₂ => ?_
    have ht₂ : h₂.IsTuple T #[.int (i : Int) t1, .int (c.toNat : Int) t2] := hT.at fun o x => hk₂ T o (W.apart i T h₁ hMid) x
    refine wpAny_assign_Tuple hh ht₂ rfl rfl fun h₃ hx₃ => ?_
    replace hx₃ : Heap.ExtBut h₂.objs.size h₂ h₃ := hx₃
    have up₃ : ∀ b o, h₂.get? b = some o → h₃.get? b = some o := fun b o x => hx₃ b o (Nat.ne_of_lt (Heap.lt_size x)) x
    obtain ⟨F₃, N₃⟩ := next h₃ fun b o hb x => up₃ b o (hk₂ b o hb (hk₁ b o hb x))
    show wpAny _ A (do holding [.int (c.toNat : Int) t2] (assign (.Name xi pk) env (.int (i : Int) t1)); do holding [] (assign (.Name xc pv) env (.int (c.toNat : Int) t2)); pure ()) _ _ _
    refine wpAny_bind (wpAny_holding (wpAny_assign_Name (wpAny_storeName_local hxi F₃.ns (fun h₄ hn₄ hs₄ => ?_) hp)))
    replace hs₄ : Heap.SameBut env.locals h₃ h₄ := hs₄
    have F₄ := F₃.set hn₄ hs₄
    refine wpAny_bind (wpAny_holding (wpAny_assign_Name (wpAny_storeName_local hxc F₄.ns (fun h₅ hn₅ hs₅ => wpAny_pure ?_) hp)))
    replace hs₅ : Heap.SameBut env.locals h₄ h₅ := hs₅
    have F₅ := F₄.set hn₅ hs₅
    have N₅ : News h₀ env.locals h₅ news' := (N₃.set hs₄).set hs₅
    have hst₅ := W.frame _ _ _ hst₂ fun b hb o x => hs₅.extBut b o (fun q => hLf (q ▸ hb)) (hs₄.extBut b o (fun q => hLf (q ▸ hb)) (up₃ b o x))
    obtain ⟨⟨oldv, he5⟩, oi, hoi, hic⟩ := hst₅
    have N₆ : ∃ oe, News h₀ env.locals h₅ (news' ++ [(e, oe), (it, oi)]) ∧ IsEnum h₅ e it ((i + 1 : Nat) : Int) oldv ∧ h₅.get? e = some oe := by
      refine ⟨_, fun p hp => ?_, he5, he5⟩
      rcases List.mem_append.mp hp with hp | hp
      · exact N₅ p hp
      · simp only [List.mem_cons, List.not_mem_nil, or_false] at hp
        rcases hp with h | h <;> subst h
        · exact ⟨he5, Ne.symm hLe, hne⟩
        · exact ⟨hoi, Ne.symm hLi, hni⟩
    obtain ⟨oe, N₆, heq, hoe⟩ := N₆
    refine z_mono (step i c t1 t2 m' news' h₅ _ oe oi hc hJ ho' F₅ N₆) fun f s₃ h₆ => ?_
    have cont : (∃ h' tk' m₂ news₂, s₃ = { s with heap := h', toks := tk' } ∧ Fr h₀ env.locals h' m₂ ∧ News h₀ env.locals h' (news₂ ++ [(e, oe), (it, oi)]) ∧ OwnOff news₂ [e, it] ∧ J (i + 1) m₂ news₂) →
        ∃ k', k' < o.length + 1 - i ∧ ∃ h' tk m' news' i, s₃ = { s with heap := h', toks := tk } ∧ ((∃ old, IsEnum h' e it (i : Nat) old) ∧ KBw.IsBytesIter h' it o.toArray t i) ∧ Fr h₀ env.locals h' m' ∧ News h₀ env.locals h' news' ∧ OwnOff news' [e, it] ∧ J i m' news' ∧ i ≤ o.length ∧ k' = o.length + 1 - i := by
      rintro ⟨h', tk', m₂, news₂, rfl, F₇, N₇, off₇, J₇⟩
      have ge := (N₇ (e, oe) (List.mem_append_right _ (.head _))).1
      have gi := (N₇ (it, oi) (List.mem_append_right _ (.tail _ (.head _)))).1
      refine ⟨o.length + 1 - (i + 1), by omega, h', tk', m₂, news₂, i + 1, rfl, ⟨⟨oldv, ?_⟩, oi, gi, hic⟩, F₇, fun p hp => N₇ p (List.mem_append_left _ hp), off₇, J₇, hlt, rfl⟩
      have e1 : some oe = some _ := hoe.symm.trans heq
      show h'.get? e = _
      exact ge.trans e1
    cases f with
    | next => exact cont h₆
    | cont => exact cont h₆
    | brk => exact h₆
    | ret v => exact h₆
  · have hi' : i = o.length := by omega
    subst hi'
    refine W.done _ _ _ hst' fun h₁ tk₁ hk₁ => ?_
    obtain ⟨F₃, N₃⟩ := next h₁ hk₁
    exact z_execs_nil (done h₁ tk₁ m' news' F₃ N₃ hJ)
end
end Mine
end
/-! E3 -/
section
open PySem PySem.W PyProof.Rows PySem.Calls
namespace Mine
section
variable {x dx oa ha e it : Addr} {rest : List (Addr × Obj)} {ix od o1 o2 oe oi : Obj}
theorem Apart.app (h : Apart x dx oa ha rest) (ho : OwnOff ((x, ix) :: (dx, od) :: (oa, o1) :: (ha, o2) :: rest) [e, it]) : Apart x dx oa ha (rest ++ [(e, oe), (it, oi)]) := by
  refine ⟨h.n1, h.n2, h.n3, h.n4, h.n5, h.n6, fun p hp b hb => ?_⟩
  rcases List.mem_append.mp hp with hp | hp
  · exact h.off p hp b hb
  · have key : ∀ c ∈ [e, it], c ≠ b := fun c hc => by
      simp only [List.mem_cons, List.not_mem_nil, or_false] at hb
      rcases hb with g | g | g | g <;> subst g
      · exact Ne.symm (ho (b, ix) (by simp) c hc)
      · exact Ne.symm (ho (b, od) (by simp) c hc)
      · exact Ne.symm (ho (b, o1) (by simp) c hc)
      · exact Ne.symm (ho (b, o2) (by simp) c hc)
    simp only [List.mem_cons, List.not_mem_nil, or_false] at hp
    rcases hp with g | g <;> subst g
    · exact key e (by simp)
    · exact key it (by simp)
theorem Apart.less (h : Apart x dx oa ha (rest ++ [(e, oe), (it, oi)])) : Apart x dx oa ha rest :=
  ⟨h.n1, h.n2, h.n3, h.n4, h.n5, h.n6, fun p hp => h.off p (List.mem_append_left _ hp)⟩
theorem Apart.off2 (h : Apart x dx oa ha (rest ++ [(e, oe), (it, oi)])) (ho : OwnOff rest [e, it]) : OwnOff ((x, ix) :: (dx, od) :: (oa, o1) :: (ha, o2) :: rest) [e, it] := by
  have key : ∀ b ∈ [x, dx, oa, ha], ∀ c ∈ [e, it], b ≠ c := fun b hb c hc => by
    simp only [List.mem_cons, List.not_mem_nil, or_false] at hc
    rcases hc with g | g <;> subst g
    · exact Ne.symm (h.off (c, oe) (by simp) b hb)
    · exact Ne.symm (h.off (c, oi) (by simp) b hb)
  intro p hp c hc
  simp only [List.mem_cons] at hp
  rcases hp with g | g | g | g | g
  · subst g; exact key x (by simp) c hc
  · subst g; exact key dx (by simp) c hc
  · subst g; exact key oa (by simp) c hc
  · subst g; exact key ha (by simp) c hc
  · exact ho p g c hc
theorem off_tail {l : List Addr} {p : Addr × Obj} (h : OwnOff (p :: rest) l) : OwnOff rest l := fun q hq => h q (.tail _ hq)
theorem led_less {h₀ h : Heap} {L : Addr} {own : List (Addr × Obj)} {a b c d : Addr × Obj} (N : News h₀ L h (a :: b :: c :: d :: (rest ++ own))) : News h₀ L h (a :: b :: c :: d :: rest) := cb_drop N fun p hp => by
  simp only [List.mem_cons, List.mem_append] at hp ⊢
  rcases hp with g | g | g | g | g <;> simp [g]
end
theorem map_two {m m₁ : Str → Option Value} {a b : Option Value} {xi xc : Str} (h : ∀ y, y ≠ xc → y ≠ xi → m₁ y = m y) : (fun y => if y = xc then a else if y = xi then b else m₁ y) = (fun y => if y = xc then a else if y = xi then b else m y) := by
  funext y
  by_cases h1 : y = xc
  · rw [if_pos h1, if_pos h1]
  · by_cases h2 : y = xi
    · rw [if_neg h1, if_neg h1, if_pos h2, if_pos h2]
    · rw [if_neg h1, if_neg h1, if_neg h2, if_neg h2, h y h1 h2]
def StepM (h₀ : Heap) (L : Addr) (s : Shared) (own : List (Addr × Obj)) (e it : Addr) (xi xc : Str) (m : Str → Option Value) (J : List (Addr × Obj) → Prop) (R : Flow → Shared → Prop) (f : Flow) (s' : Shared) : Prop :=
  match f with
  | .next | .cont => ∃ h' tk' a b news₂, s' = { s with heap := h', toks := tk' } ∧ Fr h₀ L h' (fun y => if y = xc then a else if y = xi then b else m y) ∧ News h₀ L h' (news₂ ++ own) ∧ OwnOff news₂ [e, it] ∧ J news₂
  | .brk => R .next s'
  | .ret v => R (.ret v) s'
theorem z_for_octM {prog : Program} {w : World} {A : Around} {s : Shared} {env : Env} {h₀ : Heap} {R : Flow → Shared → Prop} {xi xc : Str} {pk pv pt : Pos} {x1 : Nat} {body : List Stmt} {e it : Addr} {o : List UInt8} {t : Tok} {m : Str → Option Value} {news : List (Addr × Obj)} (hh : A.handled = none)
    (hxi : env.kindOf xi = some .local) (hxc : env.kindOf xc = some .local)
    (hp : (env.scope.kind == .class || (env.scope.kind == .module && env.locals != env.globals)) = false)
    (hLe : env.locals ≠ e) (hLi : env.locals ≠ it) (hei : e ≠ it) (hne : h₀.get? e = none) (hni : h₀.get? it = none)
    (J : Nat → List (Addr × Obj) → Prop)
    (F : Fr h₀ env.locals s.heap m) (N : News h₀ env.locals s.heap news) (he : IsEnum s.heap e it 0 .none) (hit : KBw.IsBytesIter s.heap it o.toArray t 0) (h0 : J 0 news) (hn : OwnOff news [e, it])
    (step : ∀ i c t1 t2 news₁ h tk oe oi, o[i]? = some c → J i news₁ → OwnOff news₁ [e, it] → Fr h₀ env.locals h (fun y => if y = xc then some (.int (c.toNat : Int) t2) else if y = xi then some (.int (i : Int) t1) else m y) → News h₀ env.locals h (news₁ ++ [(e, oe), (it, oi)]) →
      wpZ (model prog w) A (execs body env) (StepM h₀ env.locals s [(e, oe), (it, oi)] e it xi xc m (J (i + 1)) R) { s with heap := h, toks := tk })
    (done : ∀ h' tk a b news', Fr h₀ env.locals h' (fun y => if y = xc then a else if y = xi then b else m y) → News h₀ env.locals h' news' → J o.length news' → R .next { s with heap := h', toks := tk }) :
    codeZ (model prog w) A (.forLoop (.Tuple [.Name xi pk, .Name xc pv] x1 pt) (.ref e) body [] env) R s := by
  refine z_for_oct hh hxi hxc hp hLe hLi hei hne hni (fun i m₁ news₁ => (∀ y, y ≠ xc → y ≠ xi → m₁ y = m y) ∧ J i news₁) F N he hit ⟨fun _ _ _ => rfl, h0⟩ hn ?_ ?_
  · rintro i c t1 t2 m₁ news₁ h tk oe oi hc ⟨hm, hJ⟩ ho F9 N9
    rw [map_two hm] at F9
    refine z_mono (step i c t1 t2 news₁ h tk oe oi hc hJ ho F9 N9) fun f s' hs => ?_
    have go : (∃ h' tk' a b news₂, s' = { s with heap := h', toks := tk' } ∧ Fr h₀ env.locals h' (fun y => if y = xc then a else if y = xi then b else m y) ∧ News h₀ env.locals h' (news₂ ++ [(e, oe), (it, oi)]) ∧ OwnOff news₂ [e, it] ∧ J (i + 1) news₂) →
        ∃ h' tk' m₂ news₂, s' = { s with heap := h', toks := tk' } ∧ Fr h₀ env.locals h' m₂ ∧ News h₀ env.locals h' (news₂ ++ [(e, oe), (it, oi)]) ∧ OwnOff news₂ [e, it] ∧ ((∀ y, y ≠ xc → y ≠ xi → m₂ y = m y) ∧ J (i + 1) news₂) := by
      rintro ⟨h', tk', a, b, news₂, e1, F1, N1, o1, J1⟩
      exact ⟨h', tk', _, news₂, e1, F1, N1, o1, fun y h1 h2 => by show (if y = xc then a else if y = xi then b else m y) = m y; rw [if_neg h1, if_neg h2], J1⟩
    cases f with
    | next => exact go hs
    | cont => exact go hs
    | brk => exact hs
    | ret v => exact hs
  · rintro h' tk m' news' F9 N9 ⟨hm, hJ⟩
    have e9 : m' = (fun y => if y = xc then m' xc else if y = xi then m' xi else m y) := by
      funext y
      by_cases h1 : y = xc
      · rw [if_pos h1, h1]
      · by_cases h2 : y = xi
        · rw [if_neg h1, if_pos h2, h2]
        · rw [if_neg h1, if_neg h2, hm y h1 h2]
    rw [e9] at F9
    exact done h' tk _ _ news' F9 N9 hJ
theorem bytes_add {prog : Program} {w : World} {A : Around} {E : Value → Shared → Prop} {s : Shared} {l r : List UInt8} {t u : Tok} {Q : Value → Shared → Prop} (hsz : l.length + r.length ≤ 100000) (h : ∀ t' k, Q (.bytes (l ++ r).toArray t') { s with toks := k }) :
    wpAny (model prog w) A (binaryOp .Add (.bytes l.toArray t) (.bytes r.toArray u)) Q E s := by
  refine KBy.add_bytes (by simp only [List.size_toArray]; omega) fun t' k => ?_
  have e : l.toArray ++ r.toArray = (l ++ r).toArray := by simp
  rw [e]
  exact h t' k
theorem drain_len (m : List UInt8) : ∀ h : List UInt8, (drain m h).1.length + (drain m h).2.length = h.length
  | [] => rfl
  | c :: h => by
    unfold drain
    split
    · simp
    · have := drain_len m h
      simp only [List.length_cons]
      omega
theorem take_len (count : Int) (m : List UInt8) (st : St) (c : UInt8) : (takeF count m st c).out.length + (takeF count m st c).held.length ≤ st.out.length + st.held.length + 1 := by
  unfold takeF
  split
  · simp [noteF]; omega
  · split
    · simp only [noteF]
      split <;> simp <;> omega
    · have := drain_len m (st.held ++ [c])
      simp only [List.length_append, List.length_cons, List.length_nil] at this ⊢
      omega
theorem take_left (count : Int) (m : List UInt8) (st : St) (c : UInt8) : (takeF count m st c).left = st.left := by
  unfold takeF
  split
  · rfl
  · split <;> rfl
theorem feed_step {count : Int} {m : List UInt8} {st : St} {o : List UInt8} {i : Nat} {c : UInt8} (hc : o[i]? = some c) (hd : st.done = false) : feedF count m st (o.drop i) = feedF count m (takeF count m st c) (o.drop (i + 1)) := by
  obtain ⟨hi, e⟩ := List.getElem?_eq_some_iff.mp hc
  rw [List.drop_eq_getElem_cons hi, e, feedF, if_neg (by rw [hd]; decide)]
theorem feed_stop {count : Int} {m : List UInt8} {st : St} {o : List UInt8} {i : Nat} {c : UInt8} (hc : o[i]? = some c) (hd : st.done = true) : feedF count m st (o.drop i) = { st with left := st.left ++ o.drop i } := by
  obtain ⟨hi, e⟩ := List.getElem?_eq_some_iff.mp hc
  rw [List.drop_eq_getElem_cons hi, e, feedF, if_pos hd]
end Mine
end
/-! E4 -/
section
open PySem PySem.W PyProof.Rows PySem.Calls
namespace Mine
theorem feed_len {count : Int} {m : List UInt8} : ∀ (o : List UInt8) (st : St), (feedF count m st o).out.length + (feedF count m st o).held.length ≤ st.out.length + st.held.length + o.length ∧ (feedF count m st o).left.length ≤ st.left.length + o.length
  | [], st => by rw [feedF]; simp
  | c :: r, st => by
    rw [feedF]
    split
    · simp
    · have h1 := feed_len (count := count) (m := m) r (takeF count m st c)
      have h2 := take_len count m st c
      have h3 := take_left count m st c
      rw [h3] at h1
      simp only [List.length_cons]
      omega
theorem finish_len (st : St) : (finishF st).out.length ≤ st.out.length + st.held.length := by
  unfold finishF
  split
  · omega
  · simp
theorem z_splc {prog : Program} {w : World} {A : Around} {s : Shared} {env : Env} {pos : Pos} {e : Expr} {rest : List Expr} {Q : List Value → Shared → Prop} (h : wpZ (model prog w) A (eval e env) (fun v s₁ => wpZ (model prog w) A (spliced (backTo pos (starEach rest env))) (fun vs s₂ => Q (v :: vs) s₂) s₁) s)
    (he : starEach (e :: rest) env = (false, eval e env) :: starEach rest env := by rfl) : wpZ (model prog w) A (spliced (backTo pos (starEach (e :: rest) env))) Q s := by
  rw [he]
  exact z_spliced_cons h
end Mine
end
/-! C1 -/
section
open PySem PySem.W PyProof.Rows PySem.Calls
set_option maxRecDepth 100000
namespace Mine
set_option maxHeartbeats 2000000 in
theorem draw_c {w : World} {mean : ExcName → Option Value} {mg mb : Str → Option Value} (cn : Str) (cs : Scope) (a : Addr) (ccd : Value) (cl : List (Str × Addr)) (outer : List Env) (A₀ : Around) (base h₀ : Heap) (L : Addr) (m : Str → Option Value) (s : Shared) (Q E : Value → Shared → Prop)
    (B : Below A₀ base outer h₀) (F : Fr h₀ L s.heap m) (X : (H.hd.heap_39 w.params).In h₀) (T : Top H.hd.view_39 (looseW H.hd.view_39 []) mean mg mb h₀) (hk : cs.kind = .function)
    {d l : Addr} {od : Obj} {ys : List Value} {ns : List Int} {ep : Nat} {mx many : Int} {t1 t2 t3 tm : Tok} {rest : List (Addr × Obj)}
    (N : News h₀ L s.heap ((d, od) :: (l, W.listOf ys.toArray ep) :: rest))
    (lo : (d == sysModules) = false) (hd : od.IsDictOf (PySem.strKind PySem.Challenge.rw_nt0482_01.row.prog w) (strPairs [(.str (Str.ofString "left") t1, .ref l), (.str (Str.ofString "mixed") t2, .int mx t3)]))
    (hne : @Ne Nat d l) (off : OwnOff rest [d, l]) (hi : IntsAre ys ns) (hns : ∀ n ∈ ns, 0 ≤ n ∧ n < 1000003) (hmx : 0 ≤ mx ∧ mx < 1000003) (hmany : 1 ≤ many ∧ many ≤ 100) (hlen : ns.length ≤ 24)
    (ret : ∀ (r : Int) t h' tk' od' ys' ns' ep' mx' t3', od'.IsDictOf (PySem.strKind PySem.Challenge.rw_nt0482_01.row.prog w) (strPairs [(.str (Str.ofString "left") t1, .ref l), (.str (Str.ofString "mixed") t2, .int mx' t3')]) → IntsAre ys' ns' → (∀ n ∈ ns', 0 ≤ n ∧ n < 1000003) → 0 ≤ mx' ∧ mx' < 1000003 → ns'.length ≤ 24 →
      0 ≤ r → r < many → Fr h₀ L h' m → News h₀ L h' ((d, od') :: (l, W.listOf ys'.toArray ep') :: rest) → Q (.int r t) { s with heap := h', toks := tk' }) :
    wpAny (model PySem.Challenge.rw_nt0482_01.row.prog w) (ktrTop 420 40 (some []) cn cs L a ccd cl outer) (call (.ref 129) [.ref d, .int many tm]) Q E s := by
  revert X
  k_fill
  intro X
  refine wpAny_call ?_
  k_dflt cell_enter
  k_steps
  · refine ret _ _ _ _ _ _ _ _ _ _ (by assumption) hi hns ?_ hlen ?_ ?_ (by assumption) (cb_drop (by assumption) (by kcj_all))
    · exact ⟨Int.fmod_nonneg_of_pos _ (by omega), Int.fmod_lt_of_pos _ (by omega)⟩
    · exact Int.fmod_nonneg_of_pos _ (by omega)
    · exact Int.fmod_lt_of_pos _ (by omega)
  · rename decide (ns = []) = false => hne2
    cases hi with
    | nil => simp at hne2
    | @cons n0 t0 vs0 ns0 hi0 =>
    k_dflt (refine' kl_popAt (its := (Value.int n0 t0 :: vs0).toArray) (n := ep) (k := 0) (p := []) (q := vs0) (y := .int n0 t0) ?F ?N rfl ?hk rfl ?U ?z ?_)
    (case F => k_asm)
    (case N => k_asm)
    (case hk => simp [seqIndex?])
    (case U => k_upd)
    (case z => rw [sizeLine_eq]; have := hi0.length; simp at hlen ⊢; omega)
    intro h' F' N'
    try dsimp only [List.nil_append, List.cons_append] at N'
    have hn0 := hns n0 (.head _)
    k_steps
    refine ret _ _ _ _ _ _ _ _ _ _ hd hi0 (fun n hn => hns n (.tail _ hn)) hmx (by simp at hlen; omega) ?_ ?_ (by assumption) (cb_drop (by assumption) (by kcj_all))
    · exact Int.fmod_nonneg_of_pos _ (by omega)
    · exact Int.fmod_lt_of_pos _ (by omega)
/-- the deck: a dict of a list of ints below 1000003 and of such an int -/
def Deck (w : World) (d l : Addr) (od ol : Obj) : Prop :=
  ∃ (ys : List Value) (ns : List Int) (ep : Nat) (mx : Int) (t1 t2 t3 : Tok), ol = W.listOf ys.toArray ep ∧ (d == sysModules) = false ∧
    od.IsDictOf (PySem.strKind PySem.Challenge.rw_nt0482_01.row.prog w) (strPairs [(.str (Str.ofString "left") t1, .ref l), (.str (Str.ofString "mixed") t2, .int mx t3)]) ∧
    @Ne Nat d l ∧ IntsAre ys ns ∧ (∀ n ∈ ns, 0 ≤ n ∧ n < 1000003) ∧ (0 ≤ mx ∧ mx < 1000003) ∧ ns.length ≤ 24
theorem draw_d {w : World} {mean : ExcName → Option Value} {mg mb : Str → Option Value} (cn : Str) (cs : Scope) (a : Addr) (ccd : Value) (cl : List (Str × Addr)) (outer : List Env) (A₀ : Around) (base h₀ : Heap) (L : Addr) (m : Str → Option Value) (s : Shared) (Q : Value → Shared → Prop) {E : Value → Shared → Prop}
    (B : Below A₀ base outer h₀) (F : Fr h₀ L s.heap m) (X : (H.hd.heap_39 w.params).In h₀) (T : Top H.hd.view_39 (looseW H.hd.view_39 []) mean mg mb h₀) (hk : cs.kind = .function)
    {d l : Addr} {od ol : Obj} {many : Int} {tm : Tok} {rest : List (Addr × Obj)}
    (N : News h₀ L s.heap ((d, od) :: (l, ol) :: rest)) (K : Deck w d l od ol) (off : OwnOff rest [d, l]) (hmany : 1 ≤ many ∧ many ≤ 100)
    (ret : ∀ (r : Int) t h' tk' od' ol', Deck w d l od' ol' → 0 ≤ r → r < many → Fr h₀ L h' m → News h₀ L h' ((d, od') :: (l, ol') :: rest) → Q (.int r t) { s with heap := h', toks := tk' }) :
    wpAny (model PySem.Challenge.rw_nt0482_01.row.prog w) (ktrTop 420 40 (some []) cn cs L a ccd cl outer) (call (.ref 129) [.ref d, .int many tm]) Q E s := by
  obtain ⟨ys, ns, ep, mx, t1, t2, t3, rfl, lo, hd, hne, hi, hns, hmx, hlen⟩ := K
  refine draw_c cn cs a ccd cl outer A₀ base h₀ L m s Q E B F X T hk N lo hd hne off hi hns hmx hmany hlen fun r t h' tk' od' ys' ns' ep' mx' t3' hd' hi' hns' hmx' hlen' h0 h1 F' N' => ?_
  exact ret r t h' tk' od' _ ⟨ys', ns', ep', mx', t1, t2, t3', rfl, lo, hd', hne, hi', hns', hmx', hlen'⟩ h0 h1 F' N'
end Mine
end
/-! C2 -/
section
open PySem PySem.W PyProof.Rows PySem.Calls
set_option maxRecDepth 100000
namespace Mine
/-- the walk halts where a goal is held -/
def Hold (P : Prop) : Prop := P
theorem hold {P : Prop} (h : Hold P) : P := h
def StepR (h₀ : Heap) (L : Addr) (s : Shared) (J : Nat → (Str → Option Value) → List (Addr × Obj) → Prop) (Q : Flow → Shared → Prop) (n : Nat) (f : Flow) (s₃ : Shared) : Prop :=
  match f with
  | .next | .cont => ∃ h' tk m₂ news₂ n', s₃ = { s with heap := h', toks := tk } ∧ Fr h₀ L h' m₂ ∧ News h₀ L h' news₂ ∧ n' < n ∧ J n' m₂ news₂
  | .brk => Q .next s₃
  | .ret v => Q (.ret v) s₃
theorem While_ret {prog : Program} {w : World} {A : Around} {E : Value → Shared → Prop} {Q : Flow → Shared → Prop} {s : Shared} {env : Env} {h₀ : Heap} {L : Addr} {test : Expr} {body : List Stmt} {pos : Pos} {m : Str → Option Value} {news : List (Addr × Obj)} (J : Nat → (Str → Option Value) → List (Addr × Obj) → Prop) {n₀ : Nat}
    (F : Fr h₀ L s.heap m) (N : News h₀ L s.heap news) (hJ : J n₀ m news)
    (turn : ∀ n m₁ news₁ h₁ tk₁, Fr h₀ L h₁ m₁ → News h₀ L h₁ news₁ → J n m₁ news₁ →
      wpAny (model prog w) A (isTrue test env (eval test env)) (fun b s₂ =>
        if b = true then wpAny (model prog w) A (execs body env) (StepR h₀ L s J Q n) E s₂ else Q .next s₂) E { s with heap := h₁, toks := tk₁ })
    (hE : PassesOwn (model prog w) A env E := by passes_own) :
    wpAny (model prog w) A (exec (.While test body [] pos) env) Q E s := by
  refine wpAny_While (codeAny_whileLoop (fun n s' => ∃ h₁ tk₁ m₁ news₁, s' = { s with heap := h₁, toks := tk₁ } ∧ Fr h₀ L h₁ m₁ ∧ News h₀ L h₁ news₁ ∧ J n m₁ news₁) ?_ n₀ ⟨s.heap, s.toks, m, news, rfl, F, N, hJ⟩)
  rintro n s' ⟨h₁, tk₁, m₁, news₁, rfl, F₁, N₁, J₁⟩
  refine wpAny_mono (turn n m₁ news₁ h₁ tk₁ F₁ N₁ J₁) (fun b s₂ h₂ => ?_) hE
  cases b with
  | false =>
    simp only [Bool.false_eq_true, if_false] at h₂ ⊢
    exact wpAny_execs_nil h₂
  | true =>
    simp only [if_true] at h₂ ⊢
    refine wpAny_mono h₂ (fun f s₃ h₃ => ?_) hE
    cases f with
    | next =>
      obtain ⟨h', tk, m₂, news₂, n', rfl, F₂, N₂, hn, J₂⟩ := h₃
      exact ⟨n', hn, h', tk, m₂, news₂, rfl, F₂, N₂, J₂⟩
    | cont =>
      obtain ⟨h', tk, m₂, news₂, n', rfl, F₂, N₂, hn, J₂⟩ := h₃
      exact ⟨n', hn, h', tk, m₂, news₂, rfl, F₂, N₂, J₂⟩
    | brk => exact h₃
    | ret v => exact h₃
def mapW (mb : Str → Option Value) (many : Option Value) (a l : Int) (ta tl : Tok) : Str → Option Value :=
  fun y => if y = Str.ofString "at" then some (.int a ta) else if y = Str.ofString "many" then many else if y = Str.ofString "left" then some (.int l tl) else mb y
theorem lt_all {d : Addr} : ∀ {l : List (Addr × Obj)}, AllLt d l → ∀ p ∈ l, p.1 < d
  | [], _ => fun _ hp => nomatch hp
  | _ :: _, h => fun q hq => by
    cases hq with
    | head => exact h.1
    | tail _ hq => exact lt_all h.2 q hq
theorem mapW_turn (mb : Str → Option Value) (many : Option Value) (a l a' l' : Int) (ta tl ta' tl' : Tok) :
    (fun y => if y = Str.ofString "left" then some (Value.int l' tl') else if y = Str.ofString "at" then some (.int a' ta') else if y = Str.ofString "at" then some (.int a ta) else if y = Str.ofString "many" then many else if y = Str.ofString "left" then some (.int l tl) else mb y) = mapW mb many a' l' ta' tl' := by
  funext y
  unfold mapW
  by_cases h1 : y = Str.ofString "left"
  · subst h1
    rw [if_pos rfl, if_neg (by decide), if_neg (by decide), if_pos rfl]
  · by_cases h2 : y = Str.ofString "at"
    · rw [if_neg h1, if_pos h2, if_pos h2]
    · by_cases h3 : y = Str.ofString "many"
      · rw [if_neg h1, if_neg h2, if_neg h2, if_neg h2, if_pos h3, if_pos h3]
      · rw [if_neg h1, if_neg h2, if_neg h2, if_neg h2, if_neg h3, if_neg h3, if_neg h1, if_neg h1]
theorem mapW_at (mb : Str → Option Value) (many : Option Value) (a l a' : Int) (ta tl ta' : Tok) :
    (fun y => if y = Str.ofString "at" then some (.int a' ta') else if y = Str.ofString "at" then some (.int a ta) else if y = Str.ofString "many" then many else if y = Str.ofString "left" then some (.int l tl) else mb y) = mapW mb many a' l ta' tl := by
  funext y
  unfold mapW
  by_cases h2 : y = Str.ofString "at"
  · rw [if_pos h2, if_pos h2]
  · rw [if_neg h2, if_neg h2, if_neg h2]
section
variable {o mk : List UInt8} {count left : Int} {n k : Nat} {r : List UInt8 × List UInt8 × Bool}
theorem cut_eq {b : Bool} (hq : ((List.take (((k : Int) + ((mk.toArray.size : Nat) : Int)).toNat - (k : Int).toNat) (List.drop (k : Int).toNat o)).toArray.toList == mk.toArray.toList) = b) : ((o.drop k).take mk.length == mk) = b := by
  have e : ((k : Int) + ((mk.toArray.size : Nat) : Int)).toNat - (k : Int).toNat = mk.length := by simp; omega
  rw [e] at hq
  simpa using hq
theorem go_hit (hs : (k : Int) + ((mk.toArray.size : Nat) : Int) ≤ ((o.toArray.size : Nat) : Int)) (hq : ((List.take (((k : Int) + ((mk.toArray.size : Nat) : Int)).toNat - (k : Int).toNat) (List.drop (k : Int).toNat o)).toArray.toList == mk.toArray.toList) = true)
    (hnk : o.length + 1 ≤ n + k) (hg : go o mk count n k left = r) (hl0 : left - 1 = 0) :
    r = ((if count = 0 then o.take ((k : Int) + ((mk.toArray.size : Nat) : Int) - ((mk.toArray.size : Nat) : Int)).toNat else o.take ((k : Int) + ((mk.toArray.size : Nat) : Int)).toNat), o.drop ((k : Int) + ((mk.toArray.size : Nat) : Int)).toNat, true) := by
  have hq' := eq_of_beq (cut_eq hq)
  simp only [List.size_toArray] at hs
  cases n with
  | zero => omega
  | succ n =>
  rw [go, if_pos (by omega), if_pos hq', if_pos hl0] at hg
  have ea : ((k : Int) + ((mk.toArray.size : Nat) : Int) - ((mk.toArray.size : Nat) : Int)).toNat = k := by omega
  have eb : ((k : Int) + ((mk.toArray.size : Nat) : Int)).toNat = k + mk.length := by simp; omega
  rw [← hg, ea, eb]
theorem go_on (hs : (k : Int) + ((mk.toArray.size : Nat) : Int) ≤ ((o.toArray.size : Nat) : Int)) (hq : ((List.take (((k : Int) + ((mk.toArray.size : Nat) : Int)).toNat - (k : Int).toNat) (List.drop (k : Int).toNat o)).toArray.toList == mk.toArray.toList) = true)
    (hnk : o.length + 1 ≤ n + k) (hg : go o mk count n k left = r) (hl0 : left - 1 ≠ 0) (e1 : mk ≠ []) :
    ∃ n', n' < n ∧ o.length + 1 ≤ n' + (k + mk.length) ∧ go o mk count n' (k + mk.length) (left - 1) = r := by
  have hq' := eq_of_beq (cut_eq hq)
  simp only [List.size_toArray] at hs
  have hm0 : 1 ≤ mk.length := by cases mk with | nil => exact absurd rfl e1 | cons x y => simp
  cases n with
  | zero => omega
  | succ n =>
  rw [go, if_pos (by omega), if_pos hq', if_neg hl0] at hg
  exact ⟨n, by omega, by omega, hg⟩
theorem go_step (hs : (k : Int) + ((mk.toArray.size : Nat) : Int) ≤ ((o.toArray.size : Nat) : Int)) (hq : ((List.take (((k : Int) + ((mk.toArray.size : Nat) : Int)).toNat - (k : Int).toNat) (List.drop (k : Int).toNat o)).toArray.toList == mk.toArray.toList) = false)
    (hnk : o.length + 1 ≤ n + k) (hg : go o mk count n k left = r) :
    ∃ n', n' < n ∧ o.length + 1 ≤ n' + (k + 1) ∧ go o mk count n' (k + 1) left = r := by
  have hq' : ¬ (o.drop k).take mk.length = mk := fun e => by
    have := cut_eq hq
    rw [beq_eq_false_iff_ne] at this
    exact this e
  simp only [List.size_toArray] at hs
  cases n with
  | zero => omega
  | succ n =>
  rw [go, if_pos (by omega), if_neg hq'] at hg
  exact ⟨n, by omega, by omega, hg⟩
theorem go_end (hs : ¬ (k : Int) + ((mk.toArray.size : Nat) : Int) ≤ ((o.toArray.size : Nat) : Int)) (hg : go o mk count n k left = r) : r = (o, [], false) := by
  simp only [List.size_toArray] at hs
  cases n with
  | zero => rw [go] at hg; exact hg.symm
  | succ n =>
  rw [go, if_neg (by omega)] at hg
  exact hg.symm
end
theorem while_two {prog : Program} {w : World} {A : Around} {E : Value → Shared → Prop} {Q : Flow → Shared → Prop} {s : Shared} {env : Env} {h₀ : Heap} {L : Addr} {test : Expr} {body : List Stmt} {pos : Pos} {mb : Str → Option Value} {many : Option Value} {rest : List (Addr × Obj)} {D : Addr × Obj} (I : Nat → Int → Int → Prop) {n₀ : Nat} {a0 l0 : Int} {ta0 tl0 : Tok}
    (F : Fr h₀ L s.heap (fun y => if y = Str.ofString "at" then some (.int a0 ta0) else if y = Str.ofString "many" then many else if y = Str.ofString "left" then some (.int l0 tl0) else mb y)) (N : News h₀ L s.heap (D :: rest)) (hI : I n₀ a0 l0)
    (turn : ∀ n a l ta tl h₁ tk₁, Fr h₀ L h₁ (fun y => if y = Str.ofString "at" then some (.int a ta) else if y = Str.ofString "many" then many else if y = Str.ofString "left" then some (.int l tl) else mb y) → News h₀ L h₁ rest → I n a l →
      wpAny (model prog w) A (isTrue test env (eval test env)) (fun b s₂ =>
        if b = true then wpAny (model prog w) A (execs body env) (StepR h₀ L s (fun n m₁ news₁ => ∃ a l ta tl, m₁ = mapW mb many a l ta tl ∧ news₁ = rest ∧ I n a l) Q n) E s₂ else Q .next s₂) E { s with heap := h₁, toks := tk₁ })
    (hE : PassesOwn (model prog w) A env E := by passes_own) :
    wpAny (model prog w) A (exec (.While test body [] pos) env) Q E s := by
  refine While_ret (fun n m₁ news₁ => ∃ a l ta tl, m₁ = mapW mb many a l ta tl ∧ news₁ = rest ∧ I n a l) (n₀ := n₀) F (cb_drop N (by kcj_all)) ⟨a0, l0, ta0, tl0, rfl, rfl, hI⟩ ?_ hE
  rintro n m₁ news₁ h₁ tk₁ F₁ N₁ ⟨a, l, ta, tl, rfl, rfl, J⟩
  exact turn n a l ta tl h₁ tk₁ F₁ N₁ J
local macro_rules | `(tactic| walk_at "exec While Compare cons nil") => `(tactic| (k_here; refine hold ?_))
local macro_rules | `(tactic| walk_at "subscriptTail") => `(tactic| (k_here; (with_reducible show wpAny _ _ (subscriptTail _ (Expr.Slice none (some _) none _) (Value.bytes _ _) (Value.ref _)) _ _ _); (with_reducible rename Fr _ _ _ _ => F'); (with_reducible rename News _ _ _ _ => N'); (refine slice_to (s := ⟨_, _, _, _, _⟩) F' N' (by omega) (by omega) ?_); intro _ _ _ _ _))
local macro_rules | `(tactic| walk_at "subscriptTail") => `(tactic| (k_here; (with_reducible show wpAny _ _ (subscriptTail _ (Expr.Slice (some _) none none _) (Value.bytes _ _) (Value.ref _)) _ _ _); (with_reducible rename Fr _ _ _ _ => F'); (with_reducible rename News _ _ _ _ => N'); (refine slice_from (s := ⟨_, _, _, _, _⟩) F' N' (by omega) (by omega) ?_); intro _ _ _ _ _))
local macro_rules | `(tactic| walk_at "subscriptTail") => `(tactic| (k_here; (with_reducible show wpAny _ _ (subscriptTail _ (Expr.Slice (some _) (some _) none _) (Value.bytes _ _) (Value.ref _)) _ _ _); (with_reducible rename Fr _ _ _ _ => F'); (with_reducible rename News _ _ _ _ => N'); (refine slice_mid (s := ⟨_, _, _, _, _⟩) F' N' (by omega) (by omega) (by omega) ?_); intro _ _ _ _ _))
set_option maxHeartbeats 2000000 in
theorem part_c {w : World} {mean : ExcName → Option Value} {mg mb : Str → Option Value} (cn : Str) (cs : Scope) (a : Addr) (ccd : Value) (cl : List (Str × Addr)) (outer : List Env) (A₀ : Around) (base h₀ : Heap) (L : Addr) (m : Str → Option Value) (s : Shared) (Q E : Value → Shared → Prop)
    (B : Below A₀ base outer h₀) (F : Fr h₀ L s.heap m) (X : (H.hd.heap_39 w.params).In h₀) (T : Top H.hd.view_39 (looseW H.hd.view_39 []) mean mg mb h₀) (hk : cs.kind = .function)
    {o mk : List UInt8} {count : Int} {t1 t2 t3 : Tok} {rest : List (Addr × Obj)}
    (N : News h₀ L s.heap rest) (hc : 0 ≤ count ∧ count ≤ 100) (ho : o.length ≤ 100) (hm : mk.length ≤ 100)
    (ret : ∀ D u1 u2 h' tk', Fr h₀ L h' m → News h₀ L h' ((D, ({ cls := .type "tuple", data := .seq #[.bytes (partF o count mk).1.toArray u1, .bytes (partF o count mk).2.1.toArray u2, .bool (partF o count mk).2.2] } : Obj)) :: rest) → (∀ p ∈ rest, p.1 < D) → Q (.ref D) { s with heap := h', toks := tk' }) :
    wpAny (model PySem.Challenge.rw_nt0482_01.row.prog w) (ktrTop 420 40 (some []) cn cs L a ccd cl outer) (call (.ref 136) [.bytes o.toArray t1, .int count t2, .bytes mk.toArray t3]) Q E s := by
  revert X
  k_fill
  intro X
  refine wpAny_call ?_
  k_dflt cell_enter
  k_steps
  · have e1 : mk = [] := by simp_all
    have hp : partF o count mk = (o, [], false) := by simp only [partF, if_pos e1]; rw [if_pos (.inl (by assumption))]
    rw [hp] at ret
    exact ret _ _ _ _ _ (by assumption) (by assumption) (by assumption)
  · have e1 : mk = [] := by simp_all
    have hp : partF o count mk = (o, [], false) := by simp only [partF, if_pos e1]; rw [if_pos (.inr (by rename _ < count => g; simpa using g))]
    rw [hp] at ret
    exact ret _ _ _ _ _ (by assumption) (by assumption) (by assumption)
  · have e1 : mk = [] := by simp_all
    have hp : partF o count mk = (o.take count.toNat, o.drop count.toNat, true) := by
      simp only [partF, if_pos e1]; rw [if_neg]; rename ¬ (_ < count) => g; simp at g; omega
    rw [hp] at ret
    exact ret _ _ _ _ _ (by assumption) (by assumption) (by assumption)
  · have e1 : mk ≠ [] := by intro e; subst e; simp at *
    have hp : partF o count mk = go o mk count (o.length + 1) 0 (max 1 count) := by simp only [partF, if_neg e1]
    unfold Hold
    rename Fr _ _ _ (fun y => if y = Str.ofString "at" then _ else _) => FW
    rename News _ _ _ ((_, _) :: rest) => NW
    refine while_two (fun n at_ left => n ≤ o.length + 1 ∧ ∃ k : Nat, at_ = k ∧ o.length + 1 ≤ n + k ∧ 1 ≤ left ∧ left ≤ 100 ∧ go o mk count n k left = partF o count mk) (s := ⟨_, _, _, _, _⟩) (n₀ := o.length + 1) FW NW ⟨Nat.le_refl _, 0, rfl, Nat.le_refl _, ?_, ?_, ?_⟩ ?_
    · split <;> omega
    · split <;> omega
    · rw [hp]; congr 1; split <;> omega
    · rintro n at_ left ta tl h₁ tk₁ F₁ N₁ ⟨hn, k, rfl, hnk, hl1, hl2, hg⟩
      dsimp only at F₁ ⊢
      clear FW NW
      k_steps
      · rename _ ≤ _ => hs
        rename (_ == _) = true => hq
        rename count = 0 => hz
        rename left - 1 = 0 => hl0
        have hit := go_hit (count := count) hs hq hnk hg hl0
        rw [if_pos hz] at hit
        rw [hit] at ret
        simp only [StepR]
        k_steps
        exact ret _ _ _ _ _ (by assumption) (cb_drop (by assumption) (by kcj_all)) (by rename _ ∧ AllLt _ _ => hl; exact lt_all hl.2)
      · rename _ ≤ _ => hs
        rename (_ == _) = true => hq
        rename count ≠ 0 => hz
        rename left - 1 = 0 => hl0
        have hit := go_hit (count := count) hs hq hnk hg hl0
        rw [if_neg hz] at hit
        rw [hit] at ret
        simp only [StepR]
        k_steps
        exact ret _ _ _ _ _ (by assumption) (cb_drop (by assumption) (by kcj_all)) (by rename _ ∧ AllLt _ _ => hl; exact lt_all hl.2)
      · rename _ ≤ _ => hs
        rename (_ == _) = true => hq
        rename left - 1 ≠ 0 => hl0
        obtain ⟨n', hn', hnk', hg'⟩ := go_on (count := count) hs hq hnk hg hl0 e1
        exact ⟨_, _, _, _, n', rfl, by assumption, cb_drop (by assumption) (by kcj_all), by omega, _, _, _, _, mapW_turn _ _ _ _ _ _ _ _ _ _, rfl, by omega, k + mk.length, by simp, hnk', by omega, by omega, hg'⟩
      · rename _ ≤ _ => hs
        rename (_ == _) = false => hq
        obtain ⟨n', hn', hnk', hg'⟩ := go_step (count := count) hs hq hnk hg
        exact ⟨_, _, _, _, n', rfl, by assumption, by assumption, by omega, _, _, _, _, mapW_at _ _ _ _ _ _ _ _, rfl, by omega, k + 1, by simp, hnk', by omega, by omega, hg'⟩
      · rename ¬ (_ ≤ _) => hs
        have hit := go_end (count := count) hs hg
        rw [hit] at ret
        exact ret _ _ _ _ _ (by assumption) (by assumption) (by assumption)
end Mine
end
/-! C4 -/
section
open PySem PySem.W PyProof.Rows PySem.Calls
set_option maxRecDepth 100000
namespace Mine
theorem mod_bounds {ns : List Int} : ∀ n ∈ (ns.map fun k => k.fmod 1000003), 0 ≤ n ∧ n < 1000003 := fun n hn => by
  obtain ⟨k, _, rfl⟩ := List.mem_map.mp hn
  exact ⟨Int.fmod_nonneg_of_pos _ (by omega), Int.fmod_lt_of_pos _ (by omega)⟩
theorem z_deck {w : World} {prog : Program} {A : Around} {α : Type} {t : Sem α} {Q : α → Shared → Prop} {s : Shared} {h₀ : Heap} {L d tA l l2 cS cD : Addr} {o ot ol2 oS oD : Obj} {ys : List Value} {ns : List Int} {mx : Int} {t1 t2 t3 : Tok}
    (N : News h₀ L s.heap [(d, o), (tA, ot), (l, LCg.lst ys), (l2, ol2), (cS, oS), (cD, oD)]) (lo : (d == sysModules) = false)
    (hd : o.IsDictOf (PySem.strKind PySem.Challenge.rw_nt0482_01.row.prog w) (strPairs [(.str (Str.ofString "left") t1, .ref l), (.str (Str.ofString "mixed") t2, .int mx t3)]))
    (hI : IntsAre ys ((ns.take 24).map fun k => k.fmod 1000003)) (hmx : 0 ≤ mx ∧ mx < 1000003)
    (n1 : @Ne Nat d l) (n2 : @Ne Nat cS d) (n3 : @Ne Nat cS l) (n4 : @Ne Nat cD d) (n5 : @Ne Nat cD l)
    (K : ∀ ol, Deck w d l o ol → News h₀ L s.heap [(d, o), (l, ol), (cS, oS), (cD, oD)] → OwnOff [(cS, oS), (cD, oD)] [d, l] → wpZ (model prog w) A t Q s) : wpZ (model prog w) A t Q s := by
  refine K (LCg.lst ys) ⟨ys, _, ys.length, mx, t1, t2, t3, rfl, lo, hd, n1, hI, mod_bounds, hmx, by simp; omega⟩ (cb_drop N fun p hp => ?_) fun p hp b hb => ?_
  · simp only [List.mem_cons, List.not_mem_nil, or_false] at hp ⊢
    rcases hp with h | h | h | h <;> simp [h]
  · simp only [List.mem_cons, List.not_mem_nil, or_false] at hp hb
    rcases hp with h | h <;> rcases hb with g | g <;> subst h <;> subst g
    · exact n2
    · exact n3
    · exact n4
    · exact n5
theorem mix_bounds : ∀ (l : List Int) (a : Int), 0 ≤ a ∧ a < 1000003 → 0 ≤ l.foldl (fun a' n' => (a' * 31 + n' + 1).fmod 1000003) a ∧ l.foldl (fun a' n' => (a' * 31 + n' + 1).fmod 1000003) a < 1000003
  | [], _, h => h
  | x :: r, a, _ => mix_bounds r _ ⟨Int.fmod_nonneg_of_pos _ (by omega), Int.fmod_lt_of_pos _ (by omega)⟩
section
variable {prog : Program} {w : World} {A : Around} {s : Shared} {env : Env} {st : Stmt} {sts : List Stmt} {Q : Flow → Shared → Prop} {h₀ : Heap} {L d l cS cD : Addr} {m : Str → Option Value} {o ol oS oD : Obj}
/-- the signs: three octets -/
theorem z_signs (_F : Fr h₀ L s.heap m) (_N : News h₀ L s.heap [(d, o), (l, ol), (cS, oS), (cD, oD)])
    (h1 : wpZ (model prog w) A (exec st env) (fun f s' => f = .next ∧ ∃ h' tk, ∃ sg : List UInt8, ∃ t oS', s' = { s with heap := h', toks := tk } ∧ Fr h₀ L h' m ∧ News h₀ L h' [(d, o), (l, ol), (cS, oS'), (cD, oD)] ∧ oS'.data = .cell (some (.bytes sg.toArray t)) ∧ sg.length = 3) s)
    (h2 : ∀ h' tk (sg : List UInt8) t oS', Fr h₀ L h' m → News h₀ L h' [(d, o), (l, ol), (cS, oS'), (cD, oD)] → oS'.data = .cell (some (.bytes sg.toArray t)) → sg.length = 3 → wpZ (model prog w) A (execs sts env) Q { s with heap := h', toks := tk }) :
    wpZ (model prog w) A (execs (st :: sts) env) Q s := by
  refine z_execs_cons (z_mono h1 fun f s' hf => ?_)
  obtain ⟨rfl, h', tk, sg, t, oS', rfl, F', N', d', z⟩ := hf
  exact h2 h' tk sg t oS' F' N' d' z
end
/-- a statement whose outcomes are merged -/
theorem z_merge {prog : Program} {w : World} {A : Around} {s : Shared} {env : Env} {st : Stmt} {sts : List Stmt} {Q : Flow → Shared → Prop} (P : Heap → Prop)
    (h1 : wpZ (model prog w) A (exec st env) (fun f s' => f = .next ∧ ∃ h' tk, s' = { s with heap := h', toks := tk } ∧ P h') s)
    (h2 : ∀ h' tk, P h' → wpZ (model prog w) A (execs sts env) Q { s with heap := h', toks := tk }) : wpZ (model prog w) A (execs (st :: sts) env) Q s := by
  refine z_execs_cons (z_mono h1 fun f s' hf => ?_)
  obtain ⟨rfl, h', tk, rfl, p⟩ := hf
  exact h2 h' tk p
end Mine
end
/-! C5 -/
section
open PySem PySem.W PyProof.Rows PySem.Calls
open PyProof.Rows.LCg
set_option maxRecDepth 100000
namespace Mine
theorem ints_snoc {ys : List Value} {ns : List Int} {c : Int} {t : Tok} (h : IntsAre ys ns) : IntsAre (ys ++ [.int c t]) (ns ++ [c]) := by
  induction h with
  | nil => exact IntsAre.cons c t IntsAre.nil
  | cons n t' _ ih => exact IntsAre.cons n t' ih
theorem off3_same {I C D d l : Addr} {od ol od' ol' : Obj} {rest : List (Addr × Obj)} (h : Off3 I C D ((d, od) :: (l, ol) :: rest)) : Off3 I C D ((d, od') :: (l, ol') :: rest) := ⟨h.1, h.2.1, h.2.2⟩
section
variable {w : World} {A : Around} {s : Shared} {h₀ : Heap} {L : Addr} {m : Str → Option Value} {env : Env} {d l : Addr} {rest : List (Addr × Obj)} {elt : Expr} {x : Str} {scope : Scope} {cl : List (Str × Addr)} {P : Nat → Value → Prop} {Fin : List Value → List (Addr × Obj) → Prop} {n : Nat}
theorem comp_octets {prog : Program}
    (step : ∀ od ol I oI C oC D ys h tk (Q' : Value → Shared → Prop) (E' : Value → Shared → Prop), Deck w d l od ol → Fr h₀ L h m → News h₀ L h ((I, oI) :: (C, oC) :: (D, lst ys) :: (d, od) :: (l, ol) :: rest) → Off3 I C D ((d, od) :: (l, ol) :: rest) →
      (∀ (c : Int) t' h' tk' od' ol', Deck w d l od' ol' → Fr h₀ L h' m → News h₀ L h' ((d, od') :: (l, ol') :: (I, oI) :: (C, oC) :: (D, lst ys) :: rest) → 0 ≤ c → c < 256 → Q' (.int c t') { s with heap := h', toks := tk' }) →
      wpAny (model prog w) A (eval elt (compEnvC scope cl C env)) Q' E' { s with heap := h, toks := tk })
    (fin : ∀ ys ns od ol, IntsAre ys ns → KBa.In ns → ns.length = n → Deck w d l od ol → Fin ys ((d, od) :: (l, ol) :: rest)) :
    ∀ k i ys ns od ol, Deck w d l od ol → IntsAre ys ns → KBa.In ns → ns.length + k = n →
      CompRest prog w A h₀ L m env elt x scope cl s (fun _ => True) P Fin k i ys ((d, od) :: (l, ol) :: rest) := by
  intro k
  induction k with
  | zero => intro i ys ns od ol K hi hin hn; exact fin ys ns od ol hi hin hn K
  | succ k ih =>
    intro i ys ns od ol K hi hin hn v I oI C oC D m₂ h tk E' _ _ _ F N off ne
    refine step od ol I oI C oC D ys h tk _ E' K F N off fun c t' h' tk' od' ol' K' F' N' c0 c1 => ?_
    refine CompEnd.intro F' N' ((d, od') :: (l, ol') :: rest) (fun p hp => ?_) (off3_same off) trivial (ih (i + 1) _ (ns ++ [c]) od' ol' K' (ints_snoc hi) ?_ ?_)
    · simp only [List.mem_cons] at hp ⊢
      rcases hp with g | g | g | g | g | g <;> simp [g]
    · intro z hz
      rcases List.mem_append.mp hz with hz | hz
      · exact hin z hz
      · rw [List.mem_singleton.mp hz]; exact ⟨c0, c1⟩
    · simp only [List.length_append, List.length_cons, List.length_nil]; omega
end
theorem range_small {r : Int} (h0 : 0 ≤ r) (h1 : r < 20) : Builtin.Range.small 0 r 1 = true := by
  obtain ⟨n, rfl⟩ := Int.eq_ofNat_of_zero_le h0
  have h : ∀ k : Fin 20, Builtin.Range.small 0 (k.val : Int) 1 = true := by decide
  exact h ⟨n, by omega⟩
theorem range_size {r : Int} (h0 : 0 ≤ r) (h1 : r < 20) : Builtin.Range.rangeSize 0 r 1 = ((r.toNat : Nat) : Int) := by
  obtain ⟨n, rfl⟩ := Int.eq_ofNat_of_zero_le h0
  have h : ∀ k : Fin 20, Builtin.Range.rangeSize 0 (k.val : Int) 1 = ((k.val : Nat) : Int) := by decide
  have := h ⟨n, by omega⟩
  simpa using this
theorem own_cons2 {p : Addr × Obj} {r : List (Addr × Obj)} {a b : Addr} (h1 : @Ne Nat p.1 a) (h2 : @Ne Nat p.1 b) (h : OwnOff r [a, b]) : OwnOff (p :: r) [a, b] := fun q hq c hc => by
  rcases List.mem_cons.mp hq with g | g
  · subst g
    simp only [List.mem_cons, List.not_mem_nil, or_false] at hc
    rcases hc with e | e <;> subst e
    · exact h1
    · exact h2
  · exact h q g c hc
/-- an octet at a place within -/
theorem bytes_item {prog : Program} {w : World} {A : Around} {E : Value → Shared → Prop} {s : Shared} {value slice : Expr} {sg : List UInt8} {t ui : Tok} {i : Int} {Q : Value → Shared → Prop} (h0 : 0 ≤ i) (h1 : i < sg.length) (hz : sg.length ≤ 1000)
    (h : ∀ (c : Int) t' k, 0 ≤ c → c < 256 → Q (.int c t') { s with toks := k })
    (hs : subscripted slice false (.bytes sg.toArray t) (.int i ui) = operate [.bytes sg.toArray t, .int i ui] (getItem (.bytes sg.toArray t) (.int i ui)) := by with_unfolding_all rfl)
    (ht : ∀ r, letTemporaryGo value (.bytes sg.toArray t) r = pure () := by intro _; with_unfolding_all rfl) : wpAny (model prog w) A (subscriptTail value slice (.bytes sg.toArray t) (.int i ui)) Q E s := by
  obtain ⟨j, rfl⟩ := Int.eq_ofNat_of_zero_le h0
  have hj : j < sg.length := by omega
  have g : wpAny (model prog w) A (getItem (.bytes sg.toArray t) (.int j ui)) Q E s := by
    refine getItem_gives (typeIs_bytes s _ t) (by decide) FB.slot_bytes_getitem FB.entry_bytes_getitem (FB.args_bytes_getitem_2 _ _) (gives_bytes_getitem _ _ t ui sg[j] ?_ ?_) ?_
    · simp only [Builtin.Bytes.fitsIndex, Bool.and_eq_true, decide_eq_true_eq]; omega
    · have e : seqIndex? (j : Int) sg.toArray.size = some j := by
        rw [List.size_toArray]
        simp [seqIndex?, h0, h1, show ¬ (j : Int) < 0 by omega]
      rw [e]
      simp [hj]
    · exact h _ _ _ (by omega) (by have := (sg[j]).toNat_lt; omega)
  exact tail_of_ItemOn ⟨"bytes", _, FB.slot_bytes_getitem.lookup, typeIs_bytes _ _ _, g⟩ hs ht
end Mine
end
/-! E5 -/
section
open PySem PySem.W PyProof.Rows PySem.Calls
open PySem.Sem (wp)
set_option maxRecDepth 100000
namespace Mine
section
variable {prog : Program} {w : World} {A : Around} {s : Shared} {env : Env} {h₀ : Heap}
theorem z_for_tup0 {R : Flow → Shared → Prop} {x : Str} {pk : Pos} {body : List Stmt} {T I : Addr} {oT : Obj} {its : List Value} {m : Str → Option Value} {news : List (Addr × Obj)} (hh : A.handled = none)
    (hx : env.kindOf x = some .local)
    (hp : (env.scope.kind == .class || (env.scope.kind == .module && env.locals != env.globals)) = false)
    (hLT : env.locals ≠ T) (hLI : env.locals ≠ I) (hne : T ≠ I) (hnI : h₀.get? I = none) (hnT : h₀.get? T = none)
    (J : Nat → (Str → Option Value) → List (Addr × Obj) → Prop)
    (F : Fr h₀ env.locals s.heap m) (N : News h₀ env.locals s.heap news) (gT : s.heap.get? T = some oT) (ht : s.heap.IsTuple T its.toArray) (hit : s.heap.IsTupleIter I T 0) (off : OwnOff news [I, T]) (h0 : J 0 m news)
    (step : ∀ oI i v m₁ news₁ h tk, its[i]? = some v → J i m₁ news₁ → OwnOff news₁ [I, T] → Fr h₀ env.locals h (fun y => if y = x then some v else m₁ y) → News h₀ env.locals h (news₁ ++ [(I, oI), (T, oT)]) →
      wpZ (model prog w) A (execs body env) (StepO h₀ env.locals s [(I, oI), (T, oT)] I T (J (i + 1)) R) { s with heap := h, toks := tk })
    (done : ∀ h' tk m' news', Fr h₀ env.locals h' m' → News h₀ env.locals h' news' → J its.length m' news' → R .next { s with heap := h', toks := tk }) :
    codeZ (model prog w) A (.forLoop (.Name x pk) (.ref I) body [] env) R s := by
  have W := Walks.tuple (prog := prog) (w := w) (A := A) hh I T hne its.toArray
  have hlen : its.toArray.size = its.length := by simp
  rw [hlen] at W
  have hLf : env.locals ∉ [I] := by simpa using hLI
  have offn : ∀ {ns : List (Addr × Obj)}, OwnOff ns [I, T] → ∀ p ∈ ns, p.1 ∉ [I] := fun ho p hp hb => ho p hp _ (.head _) (List.mem_singleton.mp hb)
  have old : ∀ b o, h₀.get? b = some o → b ∉ [I] := fun b o y hb => by
    rw [List.mem_singleton.mp hb, hnI] at y; cases y
  have hTI : T ∉ [I] := by simpa using hne
  refine z_forLoop (fun k s' => ∃ h' tk m' news' i, s' = { s with heap := h', toks := tk } ∧ (h'.IsTupleIter I T i ∧ h'.IsTuple T its.toArray) ∧ h'.get? T = some oT ∧ Fr h₀ env.locals h' m' ∧ News h₀ env.locals h' news' ∧ OwnOff news' [I, T] ∧ J i m' news' ∧ i ≤ its.length ∧ k = its.length + 1 - i) ?_ (its.length + 1)
    ⟨s.heap, s.toks, m, news, 0, rfl, ⟨hit, ht⟩, gT, F, N, off, h0, Nat.zero_le _, rfl⟩
  rintro k s' ⟨H, tk, m', news', i, rfl, hst', gT', F', N', ho', hJ, hi, rfl⟩
  have next : ∀ h₁ : Heap, (∀ b o, b ∉ [I] → H.get? b = some o → h₁.get? b = some o) → Fr h₀ env.locals h₁ m' ∧ News h₀ env.locals h₁ news' ∧ h₁.get? T = some oT := fun h₁ hk₁ =>
    ⟨⟨F'.ns.at' fun o x => hk₁ _ o hLf x, fun b o x => hk₁ b o (old b o x) (F'.keep b o x), F'.above⟩, fun p hp => ⟨hk₁ _ _ (offn ho' p hp) (N' p hp).1, (N' p hp).2⟩, hk₁ _ _ hTI gT'⟩
  by_cases hlt : i < its.length
  · refine W.item i _ _ _ hlt hst' fun v h₁ tk₁ hPt hst₁ hk₁ => ?_
    have hv : its[i]? = some v := by simpa using hPt
    obtain ⟨F₁, N₁, gT₁⟩ := next h₁ hk₁
    show wpAny _ A (pure ()) _ _ _
    refine wpAny_pure ?_
    refine wpAny_assign_Name (wpAny_storeName_local hx F₁.ns (fun h₄ hn₄ hs₄ => ?_) hp)
    replace hs₄ : Heap.SameBut env.locals h₁ h₄ := hs₄
    have F₄ := F₁.set hn₄ hs₄
    have N₄ : News h₀ env.locals h₄ news' := N₁.set hs₄
    have hst₄ := W.frame _ _ _ hst₁ fun b hb o y => hs₄.extBut b o (fun q => by
      subst q
      simp only [List.mem_cons, List.not_mem_nil, or_false] at hb
      rcases hb with g | g
      · exact hLI g
      · exact hLT g) y
    have gT₄ : h₄.get? T = some oT := hs₄.extBut T oT (fun q => hLT q.symm) gT₁
    obtain ⟨⟨oI, goI, hIc⟩, htT⟩ := hst₄
    have N₆ : News h₀ env.locals h₄ (news' ++ [(I, oI), (T, oT)]) := fun p hp => by
      rcases List.mem_append.mp hp with hp | hp
      · exact N₄ p hp
      · simp only [List.mem_cons, List.not_mem_nil, or_false] at hp
        rcases hp with h | h <;> subst h
        · exact ⟨goI, Ne.symm hLI, hnI⟩
        · exact ⟨gT₄, Ne.symm hLT, hnT⟩
    refine z_mono (step oI i v m' news' h₄ _ hv hJ ho' F₄ N₆) fun f s₃ h₆ => ?_
    have cont : (∃ h' tk' m₂ news₂, s₃ = { s with heap := h', toks := tk' } ∧ Fr h₀ env.locals h' m₂ ∧ News h₀ env.locals h' (news₂ ++ [(I, oI), (T, oT)]) ∧ OwnOff news₂ [I, T] ∧ J (i + 1) m₂ news₂) →
        ∃ k', k' < its.length + 1 - i ∧ ∃ h' tk m' news' i, s₃ = { s with heap := h', toks := tk } ∧ (h'.IsTupleIter I T i ∧ h'.IsTuple T its.toArray) ∧ h'.get? T = some oT ∧ Fr h₀ env.locals h' m' ∧ News h₀ env.locals h' news' ∧ OwnOff news' [I, T] ∧ J i m' news' ∧ i ≤ its.length ∧ k' = its.length + 1 - i := by
      rintro ⟨h', tk', m₂, news₂, rfl, F₇, N₇, off₇, J₇⟩
      have gi := (N₇ (I, oI) (List.mem_append_right _ (.head _))).1
      have gt := (N₇ (T, oT) (List.mem_append_right _ (.tail _ (.head _)))).1
      refine ⟨its.length + 1 - (i + 1), by omega, h', tk', m₂, news₂, i + 1, rfl, ⟨⟨oI, gi, hIc⟩, ?_⟩, gt, F₇, fun p hp => N₇ p (List.mem_append_left _ hp), off₇, J₇, hlt, rfl⟩
      obtain ⟨o', g', c'⟩ := htT
      rw [gT₄] at g'
      cases g'
      exact ⟨oT, gt, c'⟩
    cases f with
    | next => exact cont h₆
    | cont => exact cont h₆
    | brk => exact h₆
    | ret v => exact h₆
  · have hi' : i = its.length := by omega
    subst hi'
    refine W.done _ _ _ hst' fun h₁ tk₁ hk₁ => ?_
    obtain ⟨F₃, N₃, _⟩ := next h₁ hk₁
    exact z_execs_nil (done h₁ tk₁ m' news' F₃ N₃ hJ)
/-- a loop over a tuple of the call's own, turn by turn -/
theorem z_for_tup {R : Flow → Shared → Prop} {x : Str} {pk : Pos} {body : List Stmt} {T : Addr} {oT : Obj} {its : List Value} {ep : Nat} {m : Str → Option Value} {news : List (Addr × Obj)} (hh : A.handled = none)
    (hx : env.kindOf x = some .local)
    (hp : (env.scope.kind == .class || (env.scope.kind == .module && env.locals != env.globals)) = false)
    (J : Nat → (Str → Option Value) → List (Addr × Obj) → Prop)
    (F : Fr h₀ env.locals s.heap m) (N : News h₀ env.locals s.heap ((T, oT) :: news)) (hc : oT.cls = .type "tuple") (hd : oT.data = .seq its.toArray ep) (off : OwnOff news [T]) (h0 : J 0 m news)
    (step : ∀ I oI i v m₁ news₁ h tk, its[i]? = some v → J i m₁ news₁ → OwnOff news₁ [I, T] → Fr h₀ env.locals h (fun y => if y = x then some v else m₁ y) → News h₀ env.locals h (news₁ ++ [(I, oI), (T, oT)]) →
      wpZ (model prog w) A (execs body env) (StepO h₀ env.locals s [(I, oI), (T, oT)] I T (J (i + 1)) R) { s with heap := h, toks := tk })
    (done : ∀ h' tk m' news', Fr h₀ env.locals h' m' → News h₀ env.locals h' news' → J its.length m' news' → R .next { s with heap := h', toks := tk }) :
    wpZ (model prog w) A (pyIter (.ref T)) (fun it s₂ => codeZ (model prog w) A (.forLoop (.Name x pk) it body [] env) R s₂) s := by
  obtain ⟨gT, hLT, hnT⟩ := N (T, oT) (.head _)
  have ht : s.heap.IsTuple T its.toArray := ⟨oT, gT, hc, ep, hd⟩
  have hnew := next_is_new F
  refine z_any (wpAny_pyIter_tuple ht ?_)
  have gT' : (s.heap.push { cls := .type "tuple_iterator", data := .fields #[.ref T, .int 0 0] }).get? T = some oT := Heap.get?_push_of_some _ gT
  refine z_for_tup0 (s := { s with heap := s.heap.push { cls := .type "tuple_iterator", data := .fields #[.ref T, .int 0 0] } }) hh hx hp (Ne.symm hLT) (Nat.ne_of_lt F.ns.lt) (Nat.ne_of_lt (Heap.lt_size gT)) hnew hnT J (F.push _) (fun p hp => ⟨Heap.get?_push_of_some _ (N p (.tail _ hp)).1, (N p (.tail _ hp)).2⟩) gT' ⟨oT, gT', hc, ep, hd⟩ ⟨_, Heap.get?_push_size _ rfl, rfl, rfl⟩ ?_ h0 (fun oI i v m₁ news₁ h tk a b c d e => step _ oI i v m₁ news₁ h tk a b c d e) done
  intro p hp b hb
  have hq : p.1 < s.heap.objs.size := Heap.lt_size (N p (.tail _ hp)).1
  simp only [List.mem_cons, List.not_mem_nil, or_false] at hb
  rcases hb with h | h <;> subst h
  · exact Nat.ne_of_lt hq
  · exact off p hp _ (.head _)
end
end Mine
end
section
open PySem PySem.W PyProof.Rows PySem.Calls
namespace Mine
local macro_rules | `(tactic| walk_at "zdef") => `(tactic| (refine' z_call (z_def ?k1 ?k2 ?k3 ?k4 ?k5 ?kA ?kF ?kK ?k6 ?k7 ?k8 ?k9 ?kB ?_ ?c2 ?c3 ?c4 ?c5); (case kA => exact rfl); (case kF => exact rfl); (case kK => assumption); (case k1 => k_asm); (case k2 => k_asm); (case k3 => k_asm); (case k4 => k_asm); (case k5 => k_asm); (case k6 => k_is); (case k7 => k_is); (case k8 => ktr_room); (case k9 => exact BindsTo.of_eq rfl); (case c5 => decide); (case kB => exact locs rfl); (case c2 => exact rfl); (case c3 => exact rfl); (case c4 => exact rfl); intro g' L' h' FG' F' N' B' X' T' Lt'; (try dsimp only); (try k_fold); walk_at "zclean"))
local macro_rules | `(tactic| walk_at "zclean") => `(tactic| ((try dsimp only); refine z_tok ?_; intro _; (try dsimp only)))
local macro_rules | `(tactic| walk_at "zany") => `(tactic| (refine z_execs_cons (z_any ?_); k_steps; (try walk_at "zclean")))
local macro_rules | `(tactic| walk_at "zba") => `(tactic| (refine z_callName (z_any ?_); k_steps; (try dsimp only); refine' z_newBa ?F ?N ?_; (case F => k_asm); (case N => k_asm); intro D' h' F' N' Lt'; (try k_lt Lt'); (try dsimp only); walk_at "zclean"))
local macro_rules | `(tactic| walk_at "zmeth") => `(tactic| (refine z_execs_cons (z_Expr (z_methodCall (z_any ?_))); k_steps; (try dsimp only)))
local macro_rules | `(tactic| walk_at "zcall0") => `(tactic| (refine z_any ?_; k_steps; (try dsimp only); k_dflt (refine' z_callFn0 ?k1 ?k2 ?_; (case k1 => k_in); (case k2 => k_is)); (try dsimp only [List.nil_append, List.cons_append])))
local macro_rules | `(tactic| walk_at "zcall") => `(tactic| (refine z_any ?_; k_steps; (try dsimp only); k_dflt (refine' z_callFn ?k1 ?k2 ?_; (case k1 => k_asm); (case k2 => k_is)); (try dsimp only [List.nil_append, List.cons_append])))
local macro_rules | `(tactic| walk_at "zleave") => `(tactic| ((try dsimp only); refine' leaveK_ ?F ?N ?_; (case F => k_asm); (case N => k_asm); intro F'' N''; (try simp only [resZ]); (try dsimp only)))
local macro_rules | `(tactic| walk_at "call type:bytes") => `(tactic| (k_here; (with_reducible show wpAny _ _ (call (Value.type "bytes") [Value.ref _]) _ _ _); refine' zb_bytes ?N ?M ?Z ?_; (case N => k_asm); (case M => k_mem); (case Z => (first | assumption | omega | (simp only [List.length_append, List.length_cons, List.length_nil]; omega))); intro _ _))
local macro_rules | `(tactic| walk_at "call builtin:bytes.startswith") => `(tactic| (k_here; refine bytes_startswith ?_))
local macro_rules | `(tactic| walk_at "getMethod bytes") => `(tactic| (k_here; refine bytes_getMethod ?_))
local macro_rules | `(tactic| walk_at "subscriptTail") => `(tactic| (k_here; (with_reducible show wpAny _ _ (subscriptTail _ (Expr.Slice none (some _) none _) (Value.bytes _ _) (Value.ref _)) _ _ _); (refine' slice_to (s := ⟨_, _, _, _, _⟩) ?F ?N ?k ?z ?_); (case F => k_asm); (case N => k_asm); (case k => first | omega | assumption); (case z => omega); intro _ _ _ _ _))
local macro_rules | `(tactic| walk_at "subscriptTail") => `(tactic| (k_here; (with_reducible show wpAny _ _ (subscriptTail _ (Expr.Slice (some _) none none _) (Value.bytes _ _) (Value.ref _)) _ _ _); (refine' slice_from (s := ⟨_, _, _, _, _⟩) ?F ?N ?k ?z ?_); (case F => k_asm); (case N => k_asm); (case k => first | omega | assumption); (case z => omega); intro _ _ _ _ _))
local macro_rules | `(tactic| walk_at "subscriptTail") => `(tactic| (k_here; (with_reducible show wpAny _ _ (subscriptTail _ (Expr.Slice (some _) (some _) none _) (Value.bytes _ _) (Value.ref _)) _ _ _); (refine' slice_mid (s := ⟨_, _, _, _, _⟩) ?F ?N ?j ?k ?z ?_); (case F => k_asm); (case N => k_asm); (case j => first | omega | assumption); (case k => first | omega | assumption); (case z => omega); intro _ _ _ _ _))
local macro_rules | `(tactic| walk_at "binaryOp Add bytes bytes") => `(tactic| (k_here; refine bytes_add (by first | omega | (simp only [List.length_drop, List.length_take, List.length_append]; omega)) ?_; intro _ _))
/-! M1 -/
section
open PySem PySem.W PyProof.Rows PySem.Calls
set_option maxRecDepth 100000
set_option maxHeartbeats 2000000 in
theorem begin_z {w : World} {mean : ExcName → Option Value} {mg mb : Str → Option Value} (cn : Str) (cs : Scope) (a : Addr) (ccd : Value) (cl : List (Str × Addr)) (outer : List Env) (A₀ : Around) (base h₀ : Heap) (L : Addr) (m : Str → Option Value) (s : Shared) (Q : Value → Shared → Prop)
    (B : Below A₀ base outer h₀) (F : Fr h₀ L s.heap m) (X : (H.hd.heap_39 w.params).In h₀) (T : Top H.hd.view_39 (looseW H.hd.view_39 []) mean mg mb h₀) (hk : cs.kind = .function)
    {x dx : Addr} {rest : List (Addr × Obj)}
    (N : News h₀ L s.heap ((x, instObj 108 dx) :: (dx, emptyDict) :: rest)) (n1 : @Ne Nat x dx) (off : OwnOff rest [x, dx])
    (ret : ∀ oa k1 k2 k3 t2 h' tk', Fr h₀ L h' m → News h₀ L h' ((oa, ba []) :: (x, instObj 108 dx) :: (dx, dictOf [ent w "is_done" k1 (.bool false), ent w "left" k2 (.bytes (List.nil (α := UInt8)).toArray t2), ent w "out" k3 (.ref oa)] 3) :: rest) → (@LT.lt Nat _ x oa ∧ @LT.lt Nat _ dx oa ∧ AllLt oa rest) → Q .none { s with heap := h', toks := tk' }) :
    wpZ (model PySem.Challenge.rw_nt0482_01.row.prog w) (ktrTop 460 60 (some []) cn cs L a ccd cl outer) (call (.ref 28) [.ref x]) Q s := by
  revert X
  k_fill
  intro X
  walk_at "zdef"
  walk_at "zany"
  walk_at "zany"
  refine z_execs_cons (z_Assign_one ?_)
  walk_at "zba"
  refine z_any ?_
  k_steps
  refine z_execs_nil ?_
  walk_at "zleave"
  exact ret _ _ _ _ _ _ _ (by assumption) (by assumption) (by assumption)
end
/-! M2 -/
section
open PySem PySem.W PyProof.Rows PySem.Calls
set_option maxRecDepth 100000
set_option maxHeartbeats 2000000 in
theorem told_z {w : World} {mean : ExcName → Option Value} {mg mb : Str → Option Value} (cn : Str) (cs : Scope) (a : Addr) (ccd : Value) (cl : List (Str × Addr)) (outer : List Env) (A₀ : Around) (base h₀ : Heap) (L : Addr) (m : Str → Option Value) (s : Shared) (Q : Value → Shared → Prop)
    (B : Below A₀ base outer h₀) (F : Fr h₀ L s.heap m) (X : (H.hd.heap_39 w.params).In h₀) (T : Top H.hd.view_39 (looseW H.hd.view_39 []) mean mg mb h₀) (hk : cs.kind = .function)
    {x dx oa ha : Addr} {od : Obj} {d : Bool} {left out held mk : List UInt8} {count seen : Int} {rest : List (Addr × Obj)}
    (N : News h₀ L s.heap ((x, instObj 108 dx) :: (dx, od) :: (oa, ba out) :: (ha, ba held) :: rest)) (hd : IsDec w od d left oa count mk seen ha) (ap : Apart x dx oa ha rest) (hz : out.length ≤ 500)
    (ret : ∀ od' oa' t h' tk', Fr h₀ L h' m → News h₀ L h' ((x, instObj 108 dx) :: (dx, od') :: (oa', ba []) :: (ha, ba held) :: rest) → IsDec w od' d left oa' count mk seen ha → Apart x dx oa' ha rest → Q (.bytes out.toArray t) { s with heap := h', toks := tk' }) :
    wpZ (model PySem.Challenge.rw_nt0482_01.row.prog w) (ktrTop 460 60 (some []) cn cs L a ccd cl outer) (call (.ref 49) [.ref x]) Q s := by
  obtain ⟨k1, k2, k3, k4, k5, k6, k7, t2, t4, t5, t6, rfl⟩ := hd
  obtain ⟨n1, n2, n3, n4, n5, n6, off⟩ := ap
  revert X
  k_fill
  intro X
  walk_at "zdef"
  walk_at "zany"
  refine z_execs_cons (z_Assign_one ?_)
  walk_at "zba"
  refine z_any ?_
  k_steps
  walk_at "zclean"
  walk_at "zany"
  simp only [resZ]
  refine ret _ _ _ _ _ (by assumption) (cb_drop (by assumption) (by kcj_all)) ?_ (Apart.out ⟨n1, n2, n3, n4, n5, n6, off⟩ (by assumption))
  exact ⟨_, _, _, _, _, _, _, _, _, _, _, rfl⟩
end
/-! M3 -/
section
open PySem PySem.W PyProof.Rows PySem.Calls
set_option maxRecDepth 100000
set_option maxHeartbeats 2000000 in
theorem end_z {w : World} {mean : ExcName → Option Value} {mg mb : Str → Option Value} (cn : Str) (cs : Scope) (a : Addr) (ccd : Value) (cl : List (Str × Addr)) (outer : List Env) (A₀ : Around) (base h₀ : Heap) (L : Addr) (m : Str → Option Value) (s : Shared) (Q : Value → Shared → Prop)
    (B : Below A₀ base outer h₀) (F : Fr h₀ L s.heap m) (X : (H.hd.heap_39 w.params).In h₀) (T : Top H.hd.view_39 (looseW H.hd.view_39 []) mean mg mb h₀) (hk : cs.kind = .function)
    {x dx oa ha : Addr} {od : Obj} {d : Bool} {left out held mk : List UInt8} {count seen : Int} {rest : List (Addr × Obj)}
    (N : News h₀ L s.heap ((x, instObj 108 dx) :: (dx, od) :: (oa, ba out) :: (ha, ba held) :: rest)) (hd : IsDec w od d left oa count mk seen ha) (ap : Apart x dx oa ha rest) (hz : out.length + held.length ≤ 500)
    (ret : ∀ od' ha' h' tk', Fr h₀ L h' m → News h₀ L h' ((x, instObj 108 dx) :: (dx, od') :: (oa, ba (out ++ held)) :: (ha', ba []) :: rest) → IsDec w od' d left oa count mk seen ha' → Apart x dx oa ha' rest → Q .none { s with heap := h', toks := tk' }) :
    wpZ (model PySem.Challenge.rw_nt0482_01.row.prog w) (ktrTop 460 60 (some []) cn cs L a ccd cl outer) (call (.ref 105) [.ref x]) Q s := by
  obtain ⟨k1, k2, k3, k4, k5, k6, k7, t2, t4, t5, t6, rfl⟩ := hd
  obtain ⟨n1, n2, n3, n4, n5, n6, off⟩ := ap
  revert X
  k_fill
  intro X
  walk_at "zdef"
  walk_at "zmeth"
  refine' zb_getMethod ?N ?M ba_slot_extend ba_type_extend ?_
  case N => k_asm
  case M => k_mem
  refine z_callBuiltin (z_any ?_)
  k_steps
  try dsimp only
  refine' zb_extend ?F ?N (b := out) (e := held) ?U ?M ?Z ?_
  case F => k_asm
  case N => k_asm
  case U => k_upd
  case M => k_mem
  case Z => omega
  intro h' F' N'
  refine ⟨rfl, ?_⟩
  walk_at "zclean"
  refine z_execs_cons (z_Assign_one ?_)
  walk_at "zba"
  refine z_any ?_
  k_steps
  refine z_execs_nil ?_
  walk_at "zleave"
  refine ret _ _ _ _ (by assumption) (cb_drop (by assumption) (by kcj_all)) ?_ (Apart.held ⟨n1, n2, n3, n4, n5, n6, off⟩ (by assumption))
  exact ⟨_, _, _, _, _, _, _, _, _, _, _, rfl⟩
end
/-! M4 -/
section
open PySem PySem.W PyProof.Rows PySem.Calls
set_option maxRecDepth 100000
set_option maxHeartbeats 2000000 in
theorem note_c {w : World} {mean : ExcName → Option Value} {mg mb : Str → Option Value} (cn : Str) (cs : Scope) (a : Addr) (ccd : Value) (cl : List (Str × Addr)) (outer : List Env) (A₀ : Around) (base h₀ : Heap) (L : Addr) (m : Str → Option Value) (s : Shared) (Q : Value → Shared → Prop)
    (B : Below A₀ base outer h₀) (F : Fr h₀ L s.heap m) (X : (H.hd.heap_39 w.params).In h₀) (T : Top H.hd.view_39 (looseW H.hd.view_39 []) mean mg mb h₀) (hk : cs.kind = .function) {E : Value → Shared → Prop}
    {x dx oa ha : Addr} {od : Obj} {d : Bool} {left mk : List UInt8} {count seen : Int} {rest : List (Addr × Obj)}
    (N : News h₀ L s.heap ((x, instObj 108 dx) :: (dx, od) :: rest)) (hd : IsDec w od d left oa count mk seen ha) (n1 : @Ne Nat x dx) (off : OwnOff rest [x, dx])
    (ret : ∀ od' h' tk', Fr h₀ L h' m → News h₀ L h' ((x, instObj 108 dx) :: (dx, od') :: rest) → IsDec w od' (if (mk ≠ [] ∧ count = 0) ∨ seen + 1 = count then true else d) left oa count mk (seen + 1) ha → Q .none { s with heap := h', toks := tk' }) :
    wpAny (model PySem.Challenge.rw_nt0482_01.row.prog w) (ktrTop 460 60 (some []) cn cs L a ccd cl outer) (call (.ref 98) [.ref x]) Q E s := by
  obtain ⟨k1, k2, k3, k4, k5, k6, k7, t2, t4, t5, t6, rfl⟩ := hd
  revert X
  k_fill
  intro X
  refine wpAny_call ?_
  k_dflt cell_enter
  k_steps
  all_goals first
    | (have hb : (if (mk ≠ [] ∧ count = 0) ∨ seen + 1 = count then true else d) = true := if_pos (by first | exact .inr (by omega) | exact .inl ⟨mk_ne' (by assumption), by omega⟩)
       rw [hb] at ret
       refine ret _ _ _ (by assumption) (by assumption) ?_
       exact ⟨_, _, _, _, _, _, _, _, _, _, _, rfl⟩)
    | (have hb : (if (mk ≠ [] ∧ count = 0) ∨ seen + 1 = count then true else d) = d := if_neg (fun h => h.elim (fun ⟨x, y⟩ => by first | exact x (mk_eq' (by assumption)) | omega) (fun z => by omega))
       rw [hb] at ret
       refine ret _ _ _ (by assumption) (by assumption) ?_
       exact ⟨_, _, _, _, _, _, _, _, _, _, _, rfl⟩)
end
/-! M5 -/
section
open PySem PySem.W PyProof.Rows PySem.Calls
set_option maxRecDepth 100000
local macro_rules | `(tactic| walk_at "zhit") => `(tactic| (refine z_execs_cons (z_Assign_one ?_); walk_at "zba"; refine z_any ?_; k_steps; walk_at "zclean"; refine' z_sort_held ?N ?_; (case N => k_asm); intro N9))
local macro_rules | `(tactic| walk_at "call ref") => `(tactic| (k_here; k_dflt (refine' any_up (dp' := 460) (un' := 60) (note_c _ _ _ _ _ _ _ _ _ _ _ _ _ ?B ?F ?X ?T ?hk ?N ?hd ?n1 ?off ?_) ?l1 ?l2; (case hk => exact rfl); (case B => k_asm); (case F => k_asm); (case X => k_asm); (case T => k_asm); (case N => k_asm); (case hd => exact ⟨_, _, _, _, _, _, _, _, _, _, _, rfl⟩); (case n1 => assumption); (case off => exact Apart.in1 (by assumption)); (case l1 => (dsimp only [Around.deeper, ktrTop]; decide)); (case l2 => (dsimp only [Around.deeper, ktrTop]; decide))); intro od' h' tk' F' N' hd'; k_dflt (obtain ⟨k1', k2', k3', k4', k5', k6', k7', t2', t4', t5', t6', ee'⟩ := hd'; subst ee')))
set_option maxHeartbeats 2000000 in
theorem take_z {w : World} {mean : ExcName → Option Value} {mg mb : Str → Option Value} (cn : Str) (cs : Scope) (a : Addr) (ccd : Value) (cl : List (Str × Addr)) (outer : List Env) (A₀ : Around) (base h₀ : Heap) (L : Addr) (m : Str → Option Value) (s : Shared) (Q : Value → Shared → Prop)
    (B : Below A₀ base outer h₀) (F : Fr h₀ L s.heap m) (X : (H.hd.heap_39 w.params).In h₀) (T : Top H.hd.view_39 (looseW H.hd.view_39 []) mean mg mb h₀) (hk : cs.kind = .function)
    {x dx oa ha : Addr} {od : Obj} {c : UInt8} {tc : Tok} {st : St} {left mk : List UInt8} {count : Int} {rest : List (Addr × Obj)}
    (N : News h₀ L s.heap ((x, instObj 108 dx) :: (dx, od) :: (oa, ba st.out) :: (ha, ba st.held) :: rest)) (hd : IsDec w od st.done left oa count mk st.seen ha) (ap : Apart x dx oa ha rest) (hz : st.out.length + st.held.length ≤ 400)
    (ret : ∀ od' ha' h' tk', Fr h₀ L h' m → News h₀ L h' ((x, instObj 108 dx) :: (dx, od') :: (oa, ba (takeF count mk st c).out) :: (ha', ba (takeF count mk st c).held) :: rest) → IsDec w od' (takeF count mk st c).done left oa count mk (takeF count mk st c).seen ha' → Apart x dx oa ha' rest → Q .none { s with heap := h', toks := tk' }) :
    wpZ (model PySem.Challenge.rw_nt0482_01.row.prog w) (ktrTop 455 55 (some []) cn cs L a ccd cl outer) (call (.ref 91) [.ref x, .int (c.toNat : Int) tc]) Q s := by
  obtain ⟨k1, k2, k3, k4, k5, k6, k7, t2, t4, t5, t6, rfl⟩ := hd
  have ap0 := ap
  obtain ⟨n1, n2, n3, n4, n5, n6, off⟩ := ap
  obtain ⟨d, lft, out, seen, held⟩ := st
  dsimp only at N hz
  revert X
  k_fill
  intro X
  walk_at "zdef"
  refine z_execs_cons (z_If (z_any ?_))
  k_steps
  · -- no marker
    have e0 : mk = [] := mk_eq (by assumption)
    rw [take_nil e0] at ret
    dsimp only at ret
    walk_at "zclean"
    walk_at "zmeth"
    refine' zb_getMethod ?N ?M ba_slot_append ba_type_append ?_
    case N => k_asm
    case M => k_mem
    refine z_callBuiltin (z_any ?_)
    k_steps
    try dsimp only
    refine' zb_append ?F ?N (b := out) ?U ?Z ?_
    case F => k_asm
    case N => k_asm
    case U => k_upd
    case Z => omega
    intro h' F' N'
    refine ⟨rfl, ?_⟩
    walk_at "zclean"
    walk_at "zany"
    walk_at "zany"
    simp only [resZ]
    refine ret _ _ _ _ (by assumption) (cb_drop (by assumption) (by kcj_all)) ?_ ap0
    exact ⟨_, _, _, _, _, _, _, _, _, _, _, rfl⟩
  · -- a marker
    have e0 : mk ≠ [] := mk_ne (by assumption)
    refine z_execs_nil ?_
    walk_at "zclean"
    walk_at "zmeth"
    refine' zb_getMethod ?N ?M ba_slot_append ba_type_append ?_
    case N => k_asm
    case M => k_mem
    refine z_callBuiltin (z_any ?_)
    k_steps
    try dsimp only
    refine' zb_append ?F ?N (b := held) ?U ?Z ?_
    case F => k_asm
    case N => k_asm
    case U => k_upd
    case Z => omega
    intro h' F' N'
    refine ⟨rfl, ?_⟩
    walk_at "zclean"
    refine mid_cons (x := x) (dx := dx) (oa := oa) (rest := rest) (left := left) (count := count) (mk := mk) (lft := lft) (tgt := takeF count mk ⟨d, lft, out, seen, held⟩ c) (by assumption) ?_ ?_
    · refine z_If (z_any ?_)
      k_steps
      · -- the marker is met
        have e1 : held ++ [c] = mk := eq_of_beq (held_eq (by assumption))
        rw [take_hit e0 e1]
        refine z_execs_cons (z_If (z_any ?_))
        k_steps
        · -- told too
          have hc : count > 0 := of_decide_eq_true (by assumption)
          rw [if_pos hc]
          walk_at "zclean"
          walk_at "zmeth"
          refine' zb_getMethod ?N ?M ba_slot_extend ba_type_extend ?_
          case N => k_asm
          case M => k_mem
          refine z_callBuiltin (z_any ?_)
          k_steps
          try dsimp only
          refine' zb_extend ?F ?N (b := out) (e := held ++ [c]) ?U ?M ?Z ?_
          case F => k_asm
          case N => k_asm
          case U => k_upd
          case M => k_mem
          case Z => simp; omega
          intro h' F' N'
          refine ⟨rfl, z_execs_nil ?_⟩
          walk_at "zclean"
          walk_at "zhit"
          have ap9 := Apart.held ap0 (by assumption)
          walk_at "zany"
          refine z_execs_nil ?_
          refine ⟨rfl, _, _, _, _, _, _, _, _, rfl, by assumption, cb_drop (by assumption) (by kcj_all), ?_, ap9, rfl, by simp; omega⟩
          exact ⟨_, _, _, _, _, _, _, _, _, _, _, rfl⟩
        · have hc : ¬ count > 0 := of_decide_eq_false (by assumption)
          rw [if_neg hc]
          refine z_execs_nil ?_
          walk_at "zclean"
          walk_at "zhit"
          have ap9 := Apart.held ap0 (by assumption)
          walk_at "zany"
          refine z_execs_nil ?_
          refine ⟨rfl, _, _, _, _, _, _, _, _, rfl, by assumption, cb_drop (by assumption) (by kcj_all), ?_, ap9, rfl, by simp; omega⟩
          exact ⟨_, _, _, _, _, _, _, _, _, _, _, rfl⟩
      · -- not yet
        have e1 : ¬ held ++ [c] = mk := fun e => Bool.eq_false_iff.mp (held_eq (by assumption)) (by rw [e]; exact beq_self_eq_true _)
        rw [take_miss e0 e1]
        refine z_execs_nil ?_
        refine ⟨rfl, _, _, _, _, _, _, _, _, rfl, by assumption, by assumption, ?_, ap0, rfl, by simp; omega⟩
        exact ⟨_, _, _, _, _, _, _, _, _, _, _, rfl⟩
    · intro od' ha' d2 o2 seen2 h2 hp tk F2 N2 D2 ap2 et hz2
      have ap3 := ap2
      obtain ⟨k1', k2', k3', k4', k5', k6', k7', t2', t4', t5', t6', rfl⟩ := D2
      obtain ⟨n1', n2', n3', n4', n5', n6', off'⟩ := ap2
      walk_at "zclean"
      refine z_execs_cons (while_drain (mk := mk) (O := o2 ++ (drain mk h2).1) (H := (drain mk h2).2) F2 N2 rfl rfl hz2 ?_)
      intro o3 h3 hp3 tk3 F3 N3 q1 q2 hz3
      walk_at "zclean"
      cases h3 with
      | nil =>
        refine z_any ?_
        k_steps
        · rename (!List.isPrefixOf _ _) = true => hp9
          exact absurd hp9 (by simp)
        · refine z_execs_nil ?_
          walk_at "zleave"
          rw [et, ← q1, ← q2] at ret
          simp only [drain, List.append_nil] at ret
          refine ret _ _ _ _ (by assumption) (cb_drop (by assumption) (by kcj_all)) ?_ ap3
          exact ⟨_, _, _, _, _, _, _, _, _, _, _, rfl⟩
      | cons c' h4 =>
        refine z_any ?_
        k_steps
        · rename (!List.isPrefixOf _ _) = true => hp9
          have hp9 : ¬ (c' :: h4).isPrefixOf mk = true := fun e => by rw [e] at hp9; cases hp9
          simp only [drain, if_neg hp9] at q1 q2
          simp only [List.length_cons] at hz3
          walk_at "zclean"
          walk_at "zmeth"
          refine' zb_getMethod ?N ?M ba_slot_append ba_type_append ?_
          case N => k_asm
          case M => k_mem
          refine z_callBuiltin (z_spl1 (z_methodCall (z_any ?_)))
          k_steps
          try dsimp only
          refine' zb_getMethod ?N ?M ba_slot_pop ba_type_pop ?_
          case N => k_asm
          case M => k_mem
          refine z_callBuiltin (z_any ?_)
          k_steps
          try dsimp only
          refine' zb_pop0 ?F ?N (c := c') (b := h4) ?U ?Z ?_
          case F => k_asm
          case N => k_asm
          case U => k_upd
          case Z => omega
          intro h' u k F' N'
          try dsimp only
          refine' zb_append ?F ?N (b := o3) ?U ?Z ?_
          case F => k_asm
          case N => k_asm
          case U => k_upd
          case Z => omega
          intro h' F' N'
          refine ⟨rfl, z_execs_nil ?_⟩
          refine ⟨rfl, o3 ++ [c'], h4, _, _, rfl, by assumption, by assumption, by simp, by rw [← q1]; simp, q2, by simp; omega⟩
        · rename (!List.isPrefixOf _ _) = false => hp9
          have hp9 : (c' :: h4).isPrefixOf mk = true := by cases e : (c' :: h4).isPrefixOf mk with | true => rfl | false => rw [e] at hp9; cases hp9
          refine z_execs_nil ?_
          walk_at "zleave"
          rw [et, ← q1, ← q2] at ret
          simp only [drain, if_pos hp9, List.append_nil] at ret
          refine ret _ _ _ _ (by assumption) (cb_drop (by assumption) (by kcj_all)) ?_ ap3
          exact ⟨_, _, _, _, _, _, _, _, _, _, _, rfl⟩
end
/-! M6 -/
section
open PySem PySem.W PyProof.Rows PySem.Calls
set_option maxRecDepth 100000
set_option maxHeartbeats 2000000 in
theorem new_z {w : World} {mean : ExcName → Option Value} {mg mb : Str → Option Value} (cn : Str) (cs : Scope) (a : Addr) (ccd : Value) (cl : List (Str × Addr)) (outer : List Env) (A₀ : Around) (base h₀ : Heap) (L : Addr) (m : Str → Option Value) (s : Shared) (Q : Value → Shared → Prop)
    (B : Below A₀ base outer h₀) (F : Fr h₀ L s.heap m) (X : (H.hd.heap_39 w.params).In h₀) (T : Top H.hd.view_39 (looseW H.hd.view_39 []) mean mg mb h₀) (hk : cs.kind = .function)
    {count : Int} {mk : List UInt8} {tc tm : Tok} {rest : List (Addr × Obj)}
    (N : News h₀ L s.heap rest)
    (ret : ∀ x dx oa ha od h' tk', Fr h₀ L h' m → News h₀ L h' ((x, instObj 108 dx) :: (dx, od) :: (oa, ba []) :: (ha, ba []) :: rest) → IsDec w od false [] oa count mk 0 ha → Apart x dx oa ha rest → Q (.ref x) { s with heap := h', toks := tk' }) :
    wpZ (model PySem.Challenge.rw_nt0482_01.row.prog w) (ktrTop 445 45 (some []) cn cs L a ccd cl outer) (call (.ref 108) [.int count tc, .bytes mk.toArray tm]) Q s := by
  revert X
  k_fill
  intro X
  refine' z_make_top F N X ?hm ?hi ?hf ?_
  case hm => k_is
  case hi => k_is
  case hf => k_is
  intro x dx h' F' N' l1 l2
  have off := off_make l1 l2
  have n1 : @Ne Nat x dx := by omega
  clear l1
  (refine' z_def ?k1 ?k2 ?k3 ?k4 ?k5 ?kA ?kF ?kK ?k6 ?k7 ?k8 ?k9 ?kB ?_ ?c2 ?c3 ?c4 ?c5; (case kA => exact rfl); (case kF => exact rfl); (case kK => assumption); (case k1 => k_asm); (case k2 => k_asm); (case k3 => k_asm); (case k4 => k_asm); (case k5 => k_asm); (case k6 => k_is); (case k7 => k_is); (case k8 => ktr_room); (case k9 => exact BindsTo.of_eq rfl); (case c5 => decide); (case kB => exact locs rfl); (case c2 => exact rfl); (case c3 => exact rfl); (case c4 => exact rfl); intro g' L' h' FG' F' N' B' X' T' Lt'; (try dsimp only); (try k_fold); walk_at "zclean")
  walk_at "zmeth"
  walk_at "zcall0"
  (k_dflt (refine' z_up (dp' := 460) (un' := 60) (begin_z _ _ _ _ _ _ _ _ _ _ _ _ _ ?B ?F ?X ?T ?hk ?N ?n1 ?off ?_) ?l1 ?l2; (case hk => exact rfl); (case B => k_asm); (case F => k_asm); (case X => k_asm); (case T => k_asm); (case N => k_asm); (case n1 => first | assumption | omega); (case off => assumption); (case l1 => (dsimp only [Around.deeper, ktrTop]; decide)); (case l2 => (dsimp only [Around.deeper, ktrTop]; decide))))
  intro oa k1 k2 k3 t2 h' tk' F' N' lt
  refine ⟨rfl, ?_⟩
  walk_at "zclean"
  walk_at "zany"
  walk_at "zany"
  walk_at "zany"
  refine z_execs_cons (z_Assign_one ?_)
  walk_at "zba"
  refine z_any ?_
  k_steps
  refine z_execs_nil ?_
  walk_at "zleave"
  refine ⟨rfl, ?_⟩
  refine ret _ _ _ _ _ _ _ (by assumption) (cb_drop (by assumption) (by kcj_all)) ?_ (Apart.fresh n1 off lt (by assumption))
  exact ⟨_, _, _, _, _, _, _, _, _, _, _, rfl⟩
end
/-! M7 -/
section
open PySem PySem.W PyProof.Rows PySem.Calls
set_option maxRecDepth 100000
local macro_rules | `(tactic| walk_at "z.told") => `(tactic| (k_dflt (refine' z_up (dp' := 460) (un' := 60) (told_z _ _ _ _ _ _ _ _ _ _ _ _ _ ?B ?F ?X ?T ?hk ?N ?hd ?ap ?hz ?_) ?l1 ?l2; (case hk => exact rfl); (case B => k_asm); (case F => k_asm); (case X => k_asm); (case T => k_asm); (case N => k_asm); (case hd => first | assumption | exact ⟨_, _, _, _, _, _, _, _, _, _, _, rfl⟩); (case ap => assumption); (case hz => first | assumption | omega | (simp only [List.length_append]; omega)); (case l1 => (dsimp only [Around.deeper, ktrTop]; decide)); (case l2 => (dsimp only [Around.deeper, ktrTop]; decide)))))
set_option maxHeartbeats 2000000 in
theorem finish_z {w : World} {mean : ExcName → Option Value} {mg mb : Str → Option Value} (cn : Str) (cs : Scope) (a : Addr) (ccd : Value) (cl : List (Str × Addr)) (outer : List Env) (A₀ : Around) (base h₀ : Heap) (L : Addr) (m : Str → Option Value) (s : Shared) (Q : Value → Shared → Prop)
    (B : Below A₀ base outer h₀) (F : Fr h₀ L s.heap m) (X : (H.hd.heap_39 w.params).In h₀) (T : Top H.hd.view_39 (looseW H.hd.view_39 []) mean mg mb h₀) (hk : cs.kind = .function)
    {x dx oa ha : Addr} {od : Obj} {st : St} {mk : List UInt8} {count : Int} {rest : List (Addr × Obj)}
    (N : News h₀ L s.heap ((x, instObj 108 dx) :: (dx, od) :: (oa, ba st.out) :: (ha, ba st.held) :: rest)) (hd : IsDec w od st.done st.left oa count mk st.seen ha) (ap : Apart x dx oa ha rest) (hz : st.out.length + st.held.length ≤ 400)
    (ret : ∀ od' oa' ha' t h' tk', Fr h₀ L h' m → News h₀ L h' ((x, instObj 108 dx) :: (dx, od') :: (oa', ba []) :: (ha', ba (finishF st).held) :: rest) → IsDec w od' (finishF st).done (finishF st).left oa' count mk (finishF st).seen ha' → Apart x dx oa' ha' rest → Q (.bytes (finishF st).out.toArray t) { s with heap := h', toks := tk' }) :
    wpZ (model PySem.Challenge.rw_nt0482_01.row.prog w) (ktrTop 450 50 (some []) cn cs L a ccd cl outer) (call (.ref 42) [.ref x]) Q s := by
  obtain ⟨k1, k2, k3, k4, k5, k6, k7, t2, t4, t5, t6, rfl⟩ := hd
  have ap0 := ap
  obtain ⟨n1, n2, n3, n4, n5, n6, off⟩ := ap
  obtain ⟨d, left, out, seen, held⟩ := st
  dsimp only at N hz
  revert X
  k_fill
  intro X
  walk_at "zdef"
  refine z_execs_cons (z_If (z_any ?_))
  k_steps
  · rename (!d) = true => hd9
    have hd8 : d = false := by cases d with | false => rfl | true => cases hd9
    subst hd8
    walk_at "zclean"
    walk_at "zmeth"
    walk_at "zcall0"
    (k_dflt (refine' z_up (dp' := 460) (un' := 60) (end_z _ _ _ _ _ _ _ _ _ _ _ _ _ ?B ?F ?X ?T ?hk ?N ?hd ?ap ?hz ?_) ?l1 ?l2; (case hk => exact rfl); (case B => k_asm); (case F => k_asm); (case X => k_asm); (case T => k_asm); (case N => k_asm); (case hd => first | assumption | exact ⟨_, _, _, _, _, _, _, _, _, _, _, rfl⟩); (case ap => assumption); (case hz => first | assumption | omega); (case l1 => (dsimp only [Around.deeper, ktrTop]; decide)); (case l2 => (dsimp only [Around.deeper, ktrTop]; decide))))
    intro od' ha' h' tk' F' N' D9 ap9
    obtain ⟨k1', k2', k3', k4', k5', k6', k7', t2', t4', t5', t6', rfl⟩ := D9
    have ap8 := ap9
    obtain ⟨n1', n2', n3', n4', n5', n6', off'⟩ := ap9
    refine ⟨rfl, ?_⟩
    walk_at "zclean"
    walk_at "zany"
    refine z_execs_nil ?_
    try dsimp only
    refine z_execs_cons (z_Return (z_methodCall (z_any ?_)))
    k_steps
    walk_at "zcall0"
    walk_at "z.told"
    intro od' oa' t h' tk' F' N' D9 ap9
    walk_at "zleave"
    exact ret _ _ _ _ _ _ (by assumption) (by assumption) D9 ap9
  · rename (!d) = false => hd9
    have hd8 : d = true := by cases d with | true => rfl | false => cases hd9
    subst hd8
    refine z_execs_nil ?_
    try dsimp only
    walk_at "zclean"
    refine z_execs_cons (z_Return (z_methodCall (z_any ?_)))
    k_steps
    walk_at "zcall0"
    walk_at "z.told"
    intro od' oa' t h' tk' F' N' D9 ap9
    walk_at "zleave"
    exact ret _ _ _ _ _ _ (by assumption) (by assumption) D9 ap9
end
/-! M8 -/
section
open PySem PySem.W PyProof.Rows PySem.Calls
set_option maxRecDepth 100000
local macro_rules | `(tactic| walk_at "z.told") => `(tactic| (k_dflt (refine' z_up (dp' := 460) (un' := 60) (told_z _ _ _ _ _ _ _ _ _ _ _ _ _ ?B ?F ?X ?T ?hk ?N ?hd ?ap ?hz ?_) ?l1 ?l2; (case hk => exact rfl); (case B => k_asm); (case F => k_asm); (case X => k_asm); (case T => k_asm); (case N => k_asm); (case hd => first | assumption | exact ⟨_, _, _, _, _, _, _, _, _, _, _, rfl⟩); (case ap => assumption); (case hz => first | assumption | omega); (case l1 => (dsimp only [Around.deeper, ktrTop]; decide)); (case l2 => (dsimp only [Around.deeper, ktrTop]; decide)))))
set_option maxHeartbeats 2000000 in
theorem feed_z {w : World} {mean : ExcName → Option Value} {mg mb : Str → Option Value} (cn : Str) (cs : Scope) (a : Addr) (ccd : Value) (cl : List (Str × Addr)) (outer : List Env) (A₀ : Around) (base h₀ : Heap) (L : Addr) (m : Str → Option Value) (s : Shared) (Q : Value → Shared → Prop)
    (B : Below A₀ base outer h₀) (F : Fr h₀ L s.heap m) (X : (H.hd.heap_39 w.params).In h₀) (T : Top H.hd.view_39 (looseW H.hd.view_39 []) mean mg mb h₀) (hk : cs.kind = .function)
    {x dx oa ha : Addr} {od : Obj} {st : St} {mk : List UInt8} {count : Int} {rest : List (Addr × Obj)} {o : List UInt8} {to : Tok}
    (N : News h₀ L s.heap ((x, instObj 108 dx) :: (dx, od) :: (oa, ba st.out) :: (ha, ba st.held) :: rest)) (hd : IsDec w od st.done st.left oa count mk st.seen ha) (ap : Apart x dx oa ha rest) (hz : st.out.length + st.held.length + o.length ≤ 400) (hl : st.left.length + o.length ≤ 400)
    (ret : ∀ od' oa' ha' t h' tk', Fr h₀ L h' m → News h₀ L h' ((x, instObj 108 dx) :: (dx, od') :: (oa', ba []) :: (ha', ba (feedF count mk st o).held) :: rest) → IsDec w od' (feedF count mk st o).done (feedF count mk st o).left oa' count mk (feedF count mk st o).seen ha' → Apart x dx oa' ha' rest → Q (.bytes (feedF count mk st o).out.toArray t) { s with heap := h', toks := tk' }) :
    wpZ (model PySem.Challenge.rw_nt0482_01.row.prog w) (ktrTop 450 50 (some []) cn cs L a ccd cl outer) (call (.ref 35) [.ref x, .bytes o.toArray to]) Q s := by
  obtain ⟨k1, k2, k3, k4, k5, k6, k7, t2, t4, t5, t6, rfl⟩ := hd
  have ap0 := ap
  obtain ⟨n1, n2, n3, n4, n5, n6, off⟩ := ap
  obtain ⟨d, left, out, seen, held⟩ := st
  dsimp only at N hz
  revert X
  k_fill
  intro X
  walk_at "zdef"
  rename Fr _ _ _ _ => FE
  rename News _ _ _ _ => NE
  refine z_execs_cons (z_For (z_any ?_))
  k_steps
  refine call_enumK FE NE fun e it h' F9 N9 he hit hLe hLi hei hne hni hn => ?_
  refine z_any (wpAny_pyIter_enum he ?_)
  refine z_for_octM rfl rfl rfl rfl hLe hLi hei hne hni (fun i news₁ => ∃ od' ha' st', news₁ = (x, instObj 108 dx) :: (dx, od') :: (oa, ba st'.out) :: (ha', ba st'.held) :: rest ∧ IsDec w od' st'.done st'.left oa count mk st'.seen ha' ∧ Apart x dx oa ha' rest ∧
    feedF count mk st' (o.drop i) = feedF count mk ⟨d, left, out, seen, held⟩ o ∧ st'.out.length + st'.held.length + (o.length - i) ≤ 400 ∧ st'.left = left) F9 N9 he hit
    ⟨_, _, ⟨d, left, out, seen, held⟩, rfl, ⟨_, _, _, _, _, _, _, _, _, _, _, rfl⟩, ap0, rfl, by simp only [Nat.sub_zero]; exact hz, rfl⟩ hn ?_ ?_
  · rintro i c t1 t2 news₁ h tk oe oi hc ⟨od', ha', st', rfl, D9, ap9, hf9, hz9, hl9⟩ ho9 F8 N8
    obtain ⟨k1', k2', k3', k4', k5', k6', k7', t2', t4', t5', t6', rfl⟩ := D9
    have ap7 := Apart.app (oe := oe) (oi := oi) ap9 ho9
    have ap6 := ap7
    obtain ⟨n1', n2', n3', n4', n5', n6', off'⟩ := ap7
    obtain ⟨d', left', out', seen', held'⟩ := st'
    dsimp only [List.cons_append, envOf] at N8 hz9 hl9 hf9 F8
    dsimp only at hl
    subst hl9
    have hi9 : i < o.length := (List.getElem?_eq_some_iff.mp hc).1
    walk_at "zclean"
    refine z_execs_cons (z_If (z_any ?_))
    k_steps
    · rename d' = true => hd9
      rw [feed_stop hc hd9] at hf9
      rw [← hf9] at ret
      walk_at "zclean"
      walk_at "zany"
      refine z_execs_cons (z_any ?_)
      k_steps
      simp only [StepM]
      walk_at "zclean"
      refine z_execs_cons (z_Return (z_methodCall (z_any ?_)))
      k_steps
      walk_at "zcall0"
      walk_at "z.told"
      intro od' oa' t h' tk' F' N' D9 ap9
      walk_at "zleave"
      exact ret _ _ _ _ _ _ (by assumption) (led_less (by assumption)) D9 (Apart.less ap9)
    · rename d' = false => hd9
      refine z_execs_nil ?_
      walk_at "zclean"
      walk_at "zmeth"
      walk_at "zcall"
      refine z_any ?_
      k_steps
      refine' z_up (dp' := 455) (un' := 55) (take_z (st := ⟨d', left', out', seen', held'⟩) (left := left') _ _ _ _ _ _ _ _ _ _ _ _ _ ?B ?F ?X ?T ?hk ?N ?hd ?ap ?hz ?_) ?l1 ?l2
      case B => k_asm
      case F => k_asm
      case X => k_asm
      case T => k_asm
      case hk => exact rfl
      case N => k_asm
      case hd => exact ⟨_, _, _, _, _, _, _, _, _, _, _, rfl⟩
      case ap => assumption
      case hz => dsimp only; omega
      case l1 => dsimp only [Around.deeper, ktrTop]; decide
      case l2 => dsimp only [Around.deeper, ktrTop]; decide
      intro od' ha' h' tk' F' N' D' ap'
      refine ⟨rfl, z_execs_nil ?_⟩
      refine ⟨h', tk', _, _, _ :: _ :: _ :: _ :: rest, rfl, F', N', Apart.off2 ap' (off_tail (off_tail (off_tail (off_tail ho9)))), od', ha', takeF count mk ⟨d', left', out', seen', held'⟩ c, rfl, by rw [take_left]; exact D', Apart.less ap', ?_, ?_, take_left _ _ _ _⟩
      · rw [← hf9, feed_step hc hd9]
      · have := take_len count mk ⟨d', left', out', seen', held'⟩ c
        dsimp only at this
        omega
  · rintro h' tk va vb news' F8 N8 ⟨od', ha', st', rfl, D9, ap9, hf9, hz9, hl9⟩
    dsimp only
    rw [List.drop_length, feedF] at hf9
    rw [← hf9] at ret
    obtain ⟨k1', k2', k3', k4', k5', k6', k7', t2', t4', t5', t6', rfl⟩ := D9
    have ap6 := ap9
    obtain ⟨n1', n2', n3', n4', n5', n6', off'⟩ := ap9
    obtain ⟨d', left', out', seen', held'⟩ := st'
    dsimp only [envOf] at N8 hz9 hl9 F8 ret
    walk_at "zclean"
    refine z_execs_cons (z_Return (z_methodCall (z_any ?_)))
    k_steps
    walk_at "zcall0"
    walk_at "z.told"
    intro od' oa' t h' tk' F' N' D9 ap9
    walk_at "zleave"
    exact ret _ _ _ _ _ _ (by assumption) (by assumption) D9 ap9
end
/-! M9 -/
section
open PySem PySem.W PyProof.Rows PySem.Calls
set_option maxRecDepth 100000
set_option maxHeartbeats 2000000 in
theorem codings_z {w : World} {mean : ExcName → Option Value} {mg mb : Str → Option Value} (cn : Str) (cs : Scope) (a : Addr) (ccd : Value) (cl : List (Str × Addr)) (outer : List Env) (A₀ : Around) (base h₀ : Heap) (L : Addr) (m : Str → Option Value) (s : Shared) (Q : Value → Shared → Prop)
    (B : Below A₀ base outer h₀) (F : Fr h₀ L s.heap m) (X : (H.hd.heap_39 w.params).In h₀) (T : Top H.hd.view_39 (looseW H.hd.view_39 []) mean mg mb h₀) (hk : cs.kind = .function)
    {x dx oa ha : Addr} {od : Obj} {mk o : List UInt8} {count : Int} {to : Tok} {rest : List (Addr × Obj)}
    (N : News h₀ L s.heap ((x, instObj 108 dx) :: (dx, od) :: (oa, ba []) :: (ha, ba []) :: rest)) (hd : IsDec w od false [] oa count mk 0 ha) (ap : Apart x dx oa ha rest) (hz : o.length ≤ 100) (hc : 0 ≤ count)
    (ret : ∀ D u1 u2 h' tk', Fr h₀ L h' m → News h₀ L h' ((D, ({ cls := .type "tuple", data := .seq #[.bytes (partF o count mk).1.toArray u1, .bytes (partF o count mk).2.1.toArray u2] } : Obj)) :: rest) → AllLt D rest → Q (.ref D) { s with heap := h', toks := tk' }) :
    wpZ (model PySem.Challenge.rw_nt0482_01.row.prog w) (ktrTop 440 40 (some []) cn cs L a ccd cl outer) (call (.ref 70) [.ref x, .bytes o.toArray to]) Q s := by
  obtain ⟨k1, k2, k3, k4, k5, k6, k7, t2, t4, t5, t6, rfl⟩ := hd
  have ap0 := ap
  obtain ⟨n1, n2, n3, n4, n5, n6, off⟩ := ap
  have fl := feed_len (count := count) (m := mk) o st0
  have le := law_end (o := o) (m := mk) hc
  simp only [st0, List.length_nil, Nat.zero_add] at fl
  revert X
  k_fill
  intro X
  walk_at "zdef"
  refine z_execs_cons (z_Assign_one (z_methodCall (z_any ?_)))
  k_steps
  walk_at "zcall"
  refine z_any ?_
  k_steps
  refine' z_up (dp' := 450) (un' := 50) (feed_z (st := st0) _ _ _ _ _ _ _ _ _ _ _ _ _ ?B ?F ?X ?T ?hk ?N ?hd ?ap ?hz ?hl ?_) ?l1 ?l2
  case B => k_asm
  case F => k_asm
  case X => k_asm
  case T => k_asm
  case hk => exact rfl
  case N => k_asm
  case hd => exact ⟨_, _, _, _, _, _, _, _, _, _, _, rfl⟩
  case ap => assumption
  case hz => simp only [st0, List.length_nil]; omega
  case hl => simp only [st0, List.length_nil]; omega
  case l1 => dsimp only [Around.deeper, ktrTop]; decide
  case l2 => dsimp only [Around.deeper, ktrTop]; decide
  intro od' oa' ha' t h' tk' F' N' D9 ap9
  try dsimp only
  refine z_any ?_
  k_steps
  walk_at "zclean"
  obtain ⟨k1', k2', k3', k4', k5', k6', k7', t2', t4', t5', t6', rfl⟩ := D9
  have ap6 := ap9
  obtain ⟨n1', n2', n3', n4', n5', n6', off'⟩ := ap9
  refine z_execs_cons (z_Return (z_Tuple (z_splc (z_BinOp (z_any ?_)))))
  k_steps
  try dsimp only
  refine z_methodCall (z_any ?_)
  k_steps
  walk_at "zcall0"
  refine' z_up (dp' := 450) (un' := 50) (finish_z (st := { feedF count mk st0 o with out := [] }) _ _ _ _ _ _ _ _ _ _ _ _ _ ?B ?F ?X ?T ?hk ?N ?hd ?ap ?hz ?_) ?l1 ?l2
  case B => k_asm
  case F => k_asm
  case X => k_asm
  case T => k_asm
  case hk => exact rfl
  case N => k_asm
  case hd => exact ⟨_, _, _, _, _, _, _, _, _, _, _, rfl⟩
  case ap => assumption
  case hz => simp only [List.length_nil, st0]; omega
  case l1 => dsimp only [Around.deeper, ktrTop]; decide
  case l2 => dsimp only [Around.deeper, ktrTop]; decide
  intro od' oa' ha' t h' tk' F' N' D9 ap9
  try dsimp only
  have fl2 := finish_len { feedF count mk st0 o with out := [] }
  dsimp only [List.length_nil] at fl2 le
  have fl3 := fl.1
  change (feedF count mk st0 o).out.length + (feedF count mk st0 o).held.length ≤ o.length at fl3
  obtain ⟨k1'', k2'', k3'', k4'', k5'', k6'', k7'', t2'', t4'', t5'', t6'', rfl⟩ := D9
  obtain ⟨n1'', n2'', n3'', n4'', n5'', n6'', off''⟩ := ap9
  refine z_any ?_
  k_steps
  rw [le.1]
  walk_at "zclean"
  refine z_any ?_
  k_steps
  try dsimp only
  refine z_any ?_
  k_steps
  simp only [resZ]
  rw [← le.2] at ret
  exact ret _ _ _ _ _ (by assumption) (cb_drop (by assumption) (by kcj_all)) (by rename _ ∧ _ ∧ _ ∧ _ ∧ AllLt _ _ => hl; exact hl.2.2.2.2)
end
/-! M10 -/
section
open PySem PySem.W PyProof.Rows PySem.Calls
set_option maxRecDepth 100000
set_option maxHeartbeats 2000000 in
theorem subfile_z {w : World} {mean : ExcName → Option Value} {mg mb : Str → Option Value} (cn : Str) (cs : Scope) (a : Addr) (ccd : Value) (cl : List (Str × Addr)) (outer : List Env) (A₀ : Around) (base h₀ : Heap) (L : Addr) (m : Str → Option Value) (s : Shared) (Q : Value → Shared → Prop)
    (B : Below A₀ base outer h₀) (F : Fr h₀ L s.heap m) (X : (H.hd.heap_39 w.params).In h₀) (T : Top H.hd.view_39 (looseW H.hd.view_39 []) mean mg mb h₀) (hk : cs.kind = .function)
    {mk o : List UInt8} {count : Int} {to tc tm : Tok} {rest : List (Addr × Obj)}
    (N : News h₀ L s.heap rest) (hz : o.length ≤ 100) (hc : 0 ≤ count)
    (ret : ∀ D u1 u2 h' tk', Fr h₀ L h' m → News h₀ L h' ((D, ({ cls := .type "tuple", data := .seq #[.bytes (partF o count mk).1.toArray u1, .bytes (partF o count mk).2.1.toArray u2] } : Obj)) :: rest) → AllLt D rest → Q (.ref D) { s with heap := h', toks := tk' }) :
    wpZ (model PySem.Challenge.rw_nt0482_01.row.prog w) (ktrTop 430 30 (some []) cn cs L a ccd cl outer) (call (.ref 117) [.bytes o.toArray to, .int count tc, .bytes mk.toArray tm]) Q s := by
  revert X
  k_fill
  intro X
  walk_at "zdef"
  refine z_execs_cons (z_Return (z_callName (z_any ?_)))
  k_steps
  k_dflt (refine' z_callFn ?k1 ?k2 ?_; (case k1 => k_asm); (case k2 => k_is))
  refine z_splc (z_callName (z_any ?_))
  k_steps
  k_dflt (refine' z_callFn ?k3 ?k4 ?_; (case k3 => k_asm); (case k4 => k_is))
  refine z_any ?_
  k_steps
  refine' z_up (dp' := 445) (un' := 45) (new_z  _ _ _ _ _ _ _ _ _ _ _ _ _ ?B ?F ?X ?T ?hk ?N ?_) ?l1 ?l2
  case B => k_asm
  case F => k_asm
  case X => k_asm
  case T => k_asm
  case hk => exact rfl
  case N => k_asm
  case l1 => dsimp only [Around.deeper, ktrTop]; decide
  case l2 => dsimp only [Around.deeper, ktrTop]; decide
  intro x dx oa ha od h' tk' F' N' D9 ap9
  try dsimp only
  walk_at "zclean"
  refine z_any ?_
  k_steps
  refine' z_up (dp' := 440) (un' := 40) (codings_z  _ _ _ _ _ _ _ _ _ _ _ _ _ ?B ?F ?X ?T ?hk ?N ?hd ?ap ?hz ?hc ?_) ?l1 ?l2
  case B => k_asm
  case F => k_asm
  case X => k_asm
  case T => k_asm
  case hk => exact rfl
  case N => k_asm
  case hd => exact D9
  case ap => exact ap9
  case hz => exact hz
  case hc => exact hc
  case l1 => dsimp only [Around.deeper, ktrTop]; decide
  case l2 => dsimp only [Around.deeper, ktrTop]; decide
  intro D u1 u2 h' tk' F' N' lt
  walk_at "zleave"
  exact ret _ _ _ _ _ (by assumption) (by assumption) lt
end
/-! L0 -/
section
open PySem PySem.W PyProof.Rows PySem.Calls
open PyProof.Rows.LCg
theorem call_cellsZ {prog : Program} {w : World} {A : Around} {Q : Value → Shared → Prop} {s : Shared} {name : Str} {params : Arguments} {body : List Stmt} {scope : Scope}
    {pm cd doc : Value} {a : Addr} {o : Obj} {args : List Value} {binds : List (Str × Value)}
    (hroom : A.depth < recursionLimit) (ho : s.heap.get? a = some o) (hdata : o.data = .func (Calls.docDef name params body scope pm cd doc)) (hlim : s.heap.NoLimit) (hcd : s.heap.CodeRec cd name)
    (hbind : bindArgs (Calls.docDef name params body scope pm cd doc) ⟨args, []⟩ = pure binds)
    (hkind : ∀ x ∈ binds, scope.names.lookup x.1 = some .local ∨ (scope.names.lookup x.1 = some .cell ∧ ((cellsFrom (s.heap.objs.size + 1) scope.names []).lookup x.1).isSome = true))
    (hnd : ((cellsFrom 0 scope.names []).map (·.1)).Nodup)
    (h : ∀ h₁ tk cells, Fr s.heap s.heap.objs.size h₁ (bindL (envOfC name scope s.heap.objs.size a cd).kindOf binds fun _ => none) → News s.heap s.heap.objs.size h₁ cells →
      CellsAre (bindC (envOfC name scope s.heap.objs.size a cd).kindOf binds fun _ => none) (cellsFrom (s.heap.objs.size + 1) scope.names []) cells →
      wpZ (model prog w) (A.deeper (envOfC name scope s.heap.objs.size a cd)) (execs body (envOfC name scope s.heap.objs.size a cd))
        (fun f s' => Q (match f with | .ret v => v | _ => .none) s')
        { s with heap := h₁, toks := tk })
    (hco : scope.isCoroutine = false := by rfl) (hgen : scope.isGenerator = false := by rfl) (hk : scope.kind = .function := by rfl) :
    wpZ (model prog w) A (call (.ref a) args) Q s := by
  refine z_call (z_call_function hroom ho hdata hco hgen rfl hcd (wpAny_of_eq hbind ?_))
  refine wpAny_newFunctionEnv_cells hk hkind fun env' he s' x => ?_
  subst he
  refine ⟨hlim.keeps x.toInCall.keep, z_func ?_⟩
  obtain ⟨h₁, tk, rfl, _⟩ := x.done
  obtain ⟨cells, N, Y⟩ := Cl.news (h₀ := s.heap) (Nat.le_refl _) fun n c hm => ⟨x.cell n c (lookup_of_mem_nodup (cellsFrom_names scope.names 0 (s.heap.objs.size + 1) [] [] rfl ▸ hnd) hm), x.above n c hm⟩
  exact h h₁ tk cells ⟨x.toInCall.ns, x.toInCall.keep, x.toInCall.fresh⟩ N Y
/-- a statement that goes on -/
def NextP (P : Shared → Prop) (f : Flow) (s' : Shared) : Prop := f = .next ∧ P s'
theorem z_seg {prog : Program} {w : World} {A : Around} {s : Shared} {env : Env} {st : Stmt} {sts : List Stmt} {Q : Flow → Shared → Prop} (P : Shared → Prop)
    (h1 : wpZ (model prog w) A (exec st env) (NextP P) s) (h2 : ∀ s', P s' → wpZ (model prog w) A (execs sts env) Q s') : wpZ (model prog w) A (execs (st :: sts) env) Q s :=
  z_execs_cons (z_mono h1 fun f s' hf => by obtain ⟨rfl, p⟩ := hf; exact h2 s' p)
/-- where the law stands: its frame, its deck, its two cells, and what else it has made -/
def LawMid (w : World) (h₀ : Heap) (L d l : Addr) (M : (Str → Option Value) → List (Addr × Obj) → Prop) (s s' : Shared) : Prop :=
  ∃ h' tk od ol m rest, s' = { s with heap := h', toks := tk } ∧ Fr h₀ L h' m ∧ M m rest ∧ News h₀ L h' ((d, od) :: (l, ol) :: rest) ∧ Deck w d l od ol
def lawDef : List Stmt × Scope := match PySem.Challenge.pw_nt0482_01.main.body.getLast? with | some (.FunctionDef _ _ body _ _ _ scope _ _ _) => (body, scope) | _ => ([], default)
theorem draw_d1 {w : World} {mean : ExcName → Option Value} {mg mb : Str → Option Value} (cn : Str) (cs : Scope) (a : Addr) (ccd : Value) (cl : List (Str × Addr)) (outer : List Env) (A₀ : Around) (base h₀ : Heap) (L : Addr) (m : Str → Option Value) (s : Shared) (Q : Value → Shared → Prop) {E : Value → Shared → Prop}
    (B : Below A₀ base outer h₀) (F : Fr h₀ L s.heap m) (X : (H.hd.heap_39 w.params).In h₀) (T : Top H.hd.view_39 (looseW H.hd.view_39 []) mean mg mb h₀) (hk : cs.kind = .function)
    {d l D : Addr} {od ol o0 : Obj} {many : Int} {tm : Tok} {rest : List (Addr × Obj)}
    (N : News h₀ L s.heap ((D, o0) :: (d, od) :: (l, ol) :: rest)) (K : Deck w d l od ol) (off : OwnOff ((D, o0) :: rest) [d, l]) (hmany : 1 ≤ many ∧ many ≤ 100)
    (ret : ∀ (r : Int) t h' tk' od' ol', Deck w d l od' ol' → 0 ≤ r → r < many → Fr h₀ L h' m → News h₀ L h' ((D, o0) :: (d, od') :: (l, ol') :: rest) → Q (.int r t) { s with heap := h', toks := tk' }) :
    wpAny (model PySem.Challenge.rw_nt0482_01.row.prog w) (ktrTop 420 40 (some []) cn cs L a ccd cl outer) (call (.ref 129) [.ref d, .int many tm]) Q E s := by
  refine draw_d cn cs a ccd cl outer A₀ base h₀ L m s Q B F X T hk (rest := (D, o0) :: rest) (cb_drop N fun p hp => ?_) K off hmany fun r t h' tk' od' ol' K' h0 h1 F' N' => ret r t h' tk' od' ol' K' h0 h1 F' (cb_drop N' fun p hp => ?_)
  · simp only [List.mem_cons] at hp ⊢
    rcases hp with h | h | h | h <;> simp [h]
  · simp only [List.mem_cons] at hp ⊢
    rcases hp with h | h | h | h <;> simp [h]
theorem menu_b : ∀ k : Nat, 0 ≤ [(0 : Int), 0, 1, 2, 3, 7].getD k 0 ∧ [(0 : Int), 0, 1, 2, 3, 7].getD k 0 ≤ 7
  | 0 | 1 | 2 | 3 | 4 | 5 => by decide
  | n + 6 => by simp
end
/-! E6 -/
section
open PySem PySem.W PyProof.Rows PySem.Calls
set_option maxRecDepth 100000
section
variable {prog : Program} {w : World} {A : Around} {s : Shared} {h₀ : Heap} {L : Addr} {news : List (Addr × Obj)} {env : Env} {pos : Pos}
theorem z_callType {id : String} {first : List Value} {e : Expr} {rest : List Expr} {Q : Value → Shared → Prop}
    (h : wpZ (model prog w) A (spliced (backTo pos (starEach (e :: rest) env))) (fun vs s₁ => wpZ (model prog w) A (call (.type id) (first ++ vs)) Q s₁) s)
    (he : starEach (e :: rest) env = (false, eval e env) :: starEach rest env := by rfl) (hplain : (backTo pos (starEach rest env)).any (·.1) = false := by rfl) :
    wpZ (model prog w) A (PySem.callWith pos (.type id) first (backTo pos (starEach (e :: rest) env)) []) Q s := by
  rw [he] at h ⊢
  exact z_callWith (P := fun _ => True) (by show (false || (backTo pos (starEach rest env)).any (·.1)) = false; rw [hplain]; rfl) (z_keeps_type _) (z_evalArgs (z_mono h fun vs s₁ h₁ => ⟨trivial, h₁⟩))
end
theorem eqAt_bytes {A : Around} {s : Shared} (x : Array UInt8) (t u : Tok) : PySem.SeqAt.EqAt A s (.bytes x t) (.bytes x u) true := fun prog w E Q h => by
  unfold eqBool
  refine wpAny_holding ?_
  refine wpAny_ite_split (fun hab => ?_) (fun _ => ?_)
  · exact wpAny_bind (wpAny_rule (wpAny_pure h))
  · refine wpAny_bind ?_
    show wpAny _ _ (compareOp .Eq (.bytes x t) (.bytes x u)) _ _ _
    refine eq_bytes (wpAny_truthy_bool ?_)
    rw [beq_self_eq_true]
    exact h
/-- two pairs of the same octets -/
theorem ne_pairs {prog : Program} {w : World} {A : Around} {E : Value → Shared → Prop} {s : Shared} {Q : Value → Shared → Prop} {a b : Addr} {x y : Array UInt8} {t1 t2 u1 u2 : Tok}
    (ha : s.heap.IsTuple a #[.bytes x t1, .bytes y t2]) (hb : s.heap.IsTuple b #[.bytes x u1, .bytes y u2]) (hu : A.units < cLine) (h : Q (.bool false) s) :
    wpAny (model prog w) A (compareOp .NotEq (.ref a) (.ref b)) Q E s := by
  show wpAny _ _ (richCompare .NotEq (.ref a) (.ref b)) _ _ _
  refine PySem.SeqAt.RcNeAt.tuples (e := fun _ => true) ha hb hu (fun j h1 h2 => ?_) prog w E Q h
  match j, h1, h2 with
  | 0, _, _ => exact eqAt_bytes _ _ _
  | 1, _, _ => exact eqAt_bytes _ _ _
/-- where the law stands, its deck put away -/
def LawAt (h₀ : Heap) (L : Addr) (M : (Str → Option Value) → List (Addr × Obj) → Prop) (s s' : Shared) : Prop :=
  ∃ h' tk m rest, s' = { s with heap := h', toks := tk } ∧ Fr h₀ L h' m ∧ M m rest ∧ News h₀ L h' rest
theorem cuts_two {vs : List Value} {ns : List Int} {r1 r2 n : Int} (hi : IntsAre vs ns) (he : ns.length = 0 + 1 + 1) (hp : ns.Perm [r1, r2]) (ho : ns.Pairwise (· ≤ ·)) (h1 : 0 ≤ r1) (h2 : r1 < n + 1) (h3 : 0 ≤ r2) (h4 : r2 < n + 1) :
    ∃ (c0 c1 : Int) (ta tb : Tok), vs = [.int c0 ta, .int c1 tb] ∧ 0 ≤ c0 ∧ c0 ≤ c1 ∧ c1 ≤ n := by
  cases hi with
  | nil => simp at he
  | cons c0 ta hi =>
    cases hi with
    | nil => simp at he
    | cons c1 tb hi =>
      cases hi with
      | nil =>
        have m0 := hp.mem_iff.mp (List.mem_cons_self (a := c0) (l := [c1]))
        have m1 := hp.mem_iff.mp (List.mem_cons_of_mem c0 (List.mem_cons_self (a := c1) (l := [])))
        have hle : c0 ≤ c1 := by
          rw [List.pairwise_cons] at ho
          exact ho.1 c1 (List.mem_cons_self ..)
        simp only [List.mem_cons, List.not_mem_nil, or_false] at m0 m1
        exact ⟨c0, c1, ta, tb, rfl, by omega, hle, by omega⟩
      | cons _ _ _ => simp at he
end
section
open PyProof.Rows.LCg
local macro_rules | `(tactic| walk_at "call ref") => `(tactic| (k_here; k_dflt (refine' any_up (dp' := 420) (un' := 40) (part_c _ _ _ _ _ _ _ _ _ _ _ _ _ _ ?B ?F ?X ?T ?hk ?N ?hc ?ho ?hm ?_) ?l1 ?l2; (case hk => exact rfl); (case B => k_asm); (case F => k_asm); (case X => k_asm); (case T => k_asm); (case N => k_asm); (case hc => exact ⟨by omega, by omega⟩); (case ho => omega); (case hm => omega); (case l1 => exact (by decide : callerA.depth + 1 ≤ 420)); (case l2 => exact (by decide : callerA.units + 3 ≤ 40))); intro D' u1' u2' h' tk' F' N' lt'))
local macro_rules | `(tactic| walk_at "call ref") => `(tactic| (k_here; k_dflt (refine' any_up (dp' := 420) (un' := 40) (draw_d _ _ _ _ _ _ _ _ _ _ _ _ _ ?B ?F ?X ?T ?hk ?N ?K ?off ?hm ?_) ?l1 ?l2; (case hk => exact rfl); (case B => k_asm); (case F => k_asm); (case X => k_asm); (case T => k_asm); (case N => k_asm); (case K => assumption); (case off => walk_at "offs"); (case hm => first | omega | (simp only [List.size_toArray]; omega)); (case l1 => exact (by decide : callerA.depth + 1 ≤ 420)); (case l2 => exact (by decide : callerA.units + 3 ≤ 40))); intro r' t' h' tk' od' ol' K' hr0' hr1' F' N'))
local macro_rules | `(tactic| walk_at "call ref") => `(tactic| (k_here; k_dflt (refine' any_up (dp' := 420) (un' := 40) (draw_d1 _ _ _ _ _ _ _ _ _ _ _ _ _ ?B ?F ?X ?T ?hk ?N ?K ?off ?hm ?_) ?l1 ?l2; (case hk => exact rfl); (case B => k_asm); (case F => k_asm); (case X => k_asm); (case T => k_asm); (case N => k_asm); (case K => assumption); (case off => walk_at "offs"); (case hm => first | omega | (simp only [List.size_toArray]; omega)); (case l1 => exact (by decide : callerA.depth + 1 ≤ 420)); (case l2 => exact (by decide : callerA.units + 3 ≤ 40))); intro r' t' h' tk' od' ol' K' hr0' hr1' F' N'))
local macro_rules | `(tactic| walk_at "offs") => `(tactic| first | assumption | ((repeat (refine own_cons2 (by (try dsimp only); omega) (by (try dsimp only); omega) ?_)); exact fun _ hp => nomatch hp))
local macro_rules | `(tactic| walk_at "subscriptTail") => `(tactic| (k_here; (with_reducible show wpAny _ _ (subscriptTail _ _ (Value.bytes _ _) (Value.int _ _)) _ _ _); (refine' bytes_item ?h0 ?h1 ?hz ?_); (case h0 => omega); (case h1 => omega); (case hz => omega); intro c' t' k' c0' c1'))
local macro_rules | `(tactic| walk_at "eval ListComp") => `(tactic| (k_here; (with_reducible show wpAny _ _ (eval (Expr.ListComp (Expr.Subscript _ _ _) _ _ _) _) _ _ _); refine hold ?_))
/-! L7 -/
section
set_option maxRecDepth 100000 in
set_option maxHeartbeats 8000000 in
theorem tail7_z {w : World} {mean : ExcName → Option Value} {mg mb : Str → Option Value} (a : Addr) (ccd : Value) (h₀ : Heap) (m : Str → Option Value) (s : Shared) (Q : Flow → Shared → Prop)
    (B : Below callerA h₀ [] h₀) {o mk : List UInt8} {count : Int} {b : Bool} {t1 t2 t3 u1 u2 : Tok} (F : Fr h₀ h₀.objs.size s.heap (fun y => if y = Str.ofString "is_met" then some (.bool b) else if y = Str.ofString "behind" then some (.bytes (partF o count mk).2.1.toArray u2) else if y = Str.ofString "part" then some (.bytes (partF o count mk).1.toArray u1) else if y = Str.ofString "count" then some (.int count t3) else if y = Str.ofString "marker" then some (.bytes mk.toArray t2) else if y = Str.ofString "octets" then some (.bytes o.toArray t1) else m y)) (X : (H.hd.heap_39 w.params).In h₀) (T : Top H.hd.view_39 (looseW H.hd.view_39 []) mean mg mb h₀)
    {d l : Addr} {od ol oD : Obj}
    (N : News h₀ h₀.objs.size s.heap [(d, od), (l, ol), (h₀.objs.size + 1, oD)]) (K : Deck w d l od ol) (ho : o.length ≤ 20) (hm : mk.length ≤ 10) (hc0 : 0 ≤ count) (hc1 : count ≤ 7)
    (next : ∀ s', LawMid w h₀ h₀.objs.size d l (fun m' rest => m' = (fun y => if y = Str.ofString "is_met" then some (.bool b) else if y = Str.ofString "behind" then some (.bytes (partF o count mk).2.1.toArray u2) else if y = Str.ofString "part" then some (.bytes (partF o count mk).1.toArray u1) else if y = Str.ofString "count" then some (.int count t3) else if y = Str.ofString "marker" then some (.bytes mk.toArray t2) else if y = Str.ofString "octets" then some (.bytes o.toArray t1) else m y) ∧ rest = [(h₀.objs.size + 1, oD)]) s s' → wpZ (model PySem.Challenge.rw_nt0482_01.row.prog w) (callerA.deeper (envOfC (Str.ofString "law") lawDef.2 h₀.objs.size a ccd)) (execs (lawDef.1.drop 8) (envOfC (Str.ofString "law") lawDef.2 h₀.objs.size a ccd)) Q s') :
    wpZ (model PySem.Challenge.rw_nt0482_01.row.prog w) (callerA.deeper (envOfC (Str.ofString "law") lawDef.2 h₀.objs.size a ccd)) (execs (lawDef.1.drop 7) (envOfC (Str.ofString "law") lawDef.2 h₀.objs.size a ccd)) Q s := by
  simp only [lawDef, PySem.Challenge.pw_nt0482_01, List.getLast?_cons_cons, List.getLast?_singleton, List.drop_succ_cons, List.drop_zero] at next ⊢
  revert X
  k_fill
  intro X
  refine z_seg _ ?_ next
  clear next
  walk_at "zclean"
  refine z_If (z_isTrue_Compare1 (z_callName (z_any ?_)))
  k_steps
  try dsimp only
  refine z_callType (z_spl1 (z_callName (z_any ?_)))
  k_steps
  try dsimp only
  k_dflt (refine' z_callFn ?k1 ?k2 ?_; (case k1 => k_asm); (case k2 => k_is))
  refine z_any ?_
  k_steps
  refine' z_up (dp' := 430) (un' := 30) (subfile_z _ _ _ _ _ _ _ _ _ _ _ _ _ ?B ?F ?X ?T ?hk ?N ?hz ?hc ?_) ?l1 ?l2
  case B => k_asm
  case F => k_asm
  case X => k_asm
  case T => k_asm
  case hk => exact rfl
  case N => k_asm
  case hz => omega
  case hc => omega
  case l1 => exact (by decide : callerA.depth + 1 ≤ 430)
  case l2 => exact (by decide : callerA.units + 3 ≤ 30)
  intro D v1 v2 h' tk' F' N' lt'
  clear F N
  dsimp only [AllLt] at lt'
  try dsimp only
  walk_at "zclean"
  refine z_any ?_
  k_steps
  walk_at "zclean"
  refine z_any ?_
  k_steps
  rename News _ _ _ _ => NN
  refine z_any (ne_pairs ⟨_, (NN (D, _) (.tail _ (.head _))).1, rfl, _, rfl⟩ ⟨_, (NN (_, _) (.head _)).1, rfl, _, rfl⟩ (by ke_room) ?_)
  refine z_any (wpAny_truthy_bool ?_)
  refine ⟨fun h => (nomatch h), fun _ => z_execs_nil ?_⟩
  exact ⟨rfl, _, _, _, _, _, _, rfl, by k_asm, ⟨rfl, rfl⟩, cb_drop (by assumption) (by kcj_all), K⟩
end
/-! L8 -/
section
set_option maxRecDepth 100000 in
set_option maxHeartbeats 8000000 in
theorem tail8_z {w : World} {mean : ExcName → Option Value} {mg mb : Str → Option Value} (a : Addr) (ccd : Value) (h₀ : Heap) (m : Str → Option Value) (s : Shared) (Q : Flow → Shared → Prop)
    (B : Below callerA h₀ [] h₀) {o mk : List UInt8} {count : Int} {b : Bool} {t1 t2 t3 u1 u2 : Tok}  (F : Fr h₀ h₀.objs.size s.heap (fun y => if y = Str.ofString "is_met" then some (.bool b) else if y = Str.ofString "behind" then some (.bytes (partF o count mk).2.1.toArray u2) else if y = Str.ofString "part" then some (.bytes (partF o count mk).1.toArray u1) else if y = Str.ofString "count" then some (.int count t3) else if y = Str.ofString "marker" then some (.bytes mk.toArray t2) else if y = Str.ofString "octets" then some (.bytes o.toArray t1) else m y)) (X : (H.hd.heap_39 w.params).In h₀) (T : Top H.hd.view_39 (looseW H.hd.view_39 []) mean mg mb h₀)
    {d l : Addr} {od ol oD : Obj}
    (N : News h₀ h₀.objs.size s.heap [(d, od), (l, ol), (h₀.objs.size + 1, oD)]) (K : Deck w d l od ol) (dD : oD.data = .cell (some (.ref d))) (n3 : @Ne Nat (h₀.objs.size + 1) d) (n4 : @Ne Nat (h₀.objs.size + 1) l) (ho : o.length ≤ 20) (hm : mk.length ≤ 10) (hc0 : 0 ≤ count) (hc1 : count ≤ 7)
    (next : ∀ s', LawAt h₀ h₀.objs.size (fun m' rest => ∃ (c : Addr) (c0 c1 : Int) (ta tb : Tok) (ep : Nat), m' = (fun y => if y = Str.ofString "cuts" then some (.ref c) else if y = Str.ofString "is_met" then some (.bool b) else if y = Str.ofString "behind" then some (.bytes (partF o count mk).2.1.toArray u2) else if y = Str.ofString "part" then some (.bytes (partF o count mk).1.toArray u1) else if y = Str.ofString "count" then some (.int count t3) else if y = Str.ofString "marker" then some (.bytes mk.toArray t2) else if y = Str.ofString "octets" then some (.bytes o.toArray t1) else m y) ∧ rest = [(c, W.listOf #[.int c0 ta, .int c1 tb] ep)] ∧ 0 ≤ c0 ∧ c0 ≤ c1 ∧ c1 ≤ o.length) s s' → wpZ (model PySem.Challenge.rw_nt0482_01.row.prog w) (callerA.deeper (envOfC (Str.ofString "law") lawDef.2 h₀.objs.size a ccd)) (execs (lawDef.1.drop 9) (envOfC (Str.ofString "law") lawDef.2 h₀.objs.size a ccd)) Q s') :
    wpZ (model PySem.Challenge.rw_nt0482_01.row.prog w) (callerA.deeper (envOfC (Str.ofString "law") lawDef.2 h₀.objs.size a ccd)) (execs (lawDef.1.drop 8) (envOfC (Str.ofString "law") lawDef.2 h₀.objs.size a ccd)) Q s := by
  simp only [lawDef, PySem.Challenge.pw_nt0482_01, List.getLast?_cons_cons, List.getLast?_singleton, List.drop_succ_cons, List.drop_zero] at next ⊢
  revert X
  k_fill
  intro X
  refine z_seg _ ?_ next
  clear next
  walk_at "zclean"
  refine z_any ?_
  k_steps
  all_goals (
    rename IntsAre _ _ => hi
    rename List.Perm _ _ => hp
    rename List.Pairwise _ _ => hs
    rename List.length _ = 0 + 1 + 1 => he
    obtain ⟨c0, c1, ta, tb, rfl, hc⟩ := cuts_two (n := o.length) hi he hp hs (by omega) (by simp only [List.size_toArray] at *; omega) (by omega) (by simp only [List.size_toArray] at *; omega)
    exact ⟨rfl, _, _, _, _, rfl, by k_asm, ⟨_, _, _, _, _, _, rfl, rfl, hc⟩, cb_drop (by assumption) (by kcj_all)⟩)
end
/-! L9 -/
section
set_option maxRecDepth 100000 in
set_option maxHeartbeats 8000000 in
theorem tail9_z {w : World} {mean : ExcName → Option Value} {mg mb : Str → Option Value} (a : Addr) (ccd : Value) (h₀ : Heap) (m : Str → Option Value) (s : Shared) (Q : Flow → Shared → Prop)
    (B : Below callerA h₀ [] h₀) {o mk : List UInt8} {count : Int} {b : Bool} {t1 t2 t3 u1 u2 : Tok} {c : Addr} {c0 c1 : Int} {ta tb : Tok} {ep : Nat}  (F : Fr h₀ h₀.objs.size s.heap (fun y => if y = Str.ofString "cuts" then some (.ref c) else if y = Str.ofString "is_met" then some (.bool b) else if y = Str.ofString "behind" then some (.bytes (partF o count mk).2.1.toArray u2) else if y = Str.ofString "part" then some (.bytes (partF o count mk).1.toArray u1) else if y = Str.ofString "count" then some (.int count t3) else if y = Str.ofString "marker" then some (.bytes mk.toArray t2) else if y = Str.ofString "octets" then some (.bytes o.toArray t1) else m y)) (X : (H.hd.heap_39 w.params).In h₀) (T : Top H.hd.view_39 (looseW H.hd.view_39 []) mean mg mb h₀)
    (N : News h₀ h₀.objs.size s.heap [(c, W.listOf #[.int c0 ta, .int c1 tb] ep)]) (ho : o.length ≤ 20) (hm : mk.length ≤ 10) (hc0 : 0 ≤ count) (hc1 : count ≤ 7)
    (next : ∀ s', LawAt h₀ h₀.objs.size (fun m' rest => ∃ (x dx oa ha : Addr) (od : Obj) (v1 v2 : Tok), m' = (fun y => if y = Str.ofString "decoder" then some (.ref x) else if y = Str.ofString "told" then some (.bytes ([] : List UInt8).toArray v1) else if y = Str.ofString "fed" then some (.bytes ([] : List UInt8).toArray v2) else if y = Str.ofString "cuts" then some (.ref c) else if y = Str.ofString "is_met" then some (.bool b) else if y = Str.ofString "behind" then some (.bytes (partF o count mk).2.1.toArray u2) else if y = Str.ofString "part" then some (.bytes (partF o count mk).1.toArray u1) else if y = Str.ofString "count" then some (.int count t3) else if y = Str.ofString "marker" then some (.bytes mk.toArray t2) else if y = Str.ofString "octets" then some (.bytes o.toArray t1) else m y) ∧ rest = [(x, instObj 108 dx), (dx, od), (oa, ba []), (ha, ba []), (c, W.listOf #[.int c0 ta, .int c1 tb] ep)] ∧ IsDec w od false [] oa count mk 0 ha ∧ Apart x dx oa ha [(c, W.listOf #[.int c0 ta, .int c1 tb] ep)]) s s' → wpZ (model PySem.Challenge.rw_nt0482_01.row.prog w) (callerA.deeper (envOfC (Str.ofString "law") lawDef.2 h₀.objs.size a ccd)) (execs (lawDef.1.drop 10) (envOfC (Str.ofString "law") lawDef.2 h₀.objs.size a ccd)) Q s') :
    wpZ (model PySem.Challenge.rw_nt0482_01.row.prog w) (callerA.deeper (envOfC (Str.ofString "law") lawDef.2 h₀.objs.size a ccd)) (execs (lawDef.1.drop 9) (envOfC (Str.ofString "law") lawDef.2 h₀.objs.size a ccd)) Q s := by
  simp only [lawDef, PySem.Challenge.pw_nt0482_01, List.getLast?_cons_cons, List.getLast?_singleton, List.drop_succ_cons, List.drop_zero] at next ⊢
  revert X
  k_fill
  intro X
  refine z_seg _ ?_ next
  clear next
  walk_at "zclean"
  refine z_Assign_swapped (names := [Str.ofString "decoder", Str.ofString "told", Str.ofString "fed"]) (z_Tuple (z_splc (z_callName (z_any ?_))))
  k_steps
  try dsimp only
  k_dflt (refine' z_callFn ?k1 ?k2 ?_; (case k1 => k_asm); (case k2 => k_is))
  refine z_any ?_
  k_steps
  refine' z_up (dp' := 445) (un' := 45) (new_z _ _ _ _ _ _ _ _ _ _ _ _ _ ?B ?F ?X ?T ?hk ?N ?_) ?l1 ?l2
  case B => k_asm
  case F => k_asm
  case X => k_asm
  case T => k_asm
  case hk => exact rfl
  case N => k_asm
  case l1 => exact (by decide : callerA.depth + 1 ≤ 445)
  case l2 => exact (by decide : callerA.units + 3 ≤ 45)
  intro x dx oa ha od h' tk' F' N' D9 ap9
  clear F N
  try dsimp only
  walk_at "zclean"
  refine z_any ?_
  k_steps
  try dsimp only
  refine z_any ?_
  k_steps
  exact ⟨rfl, _, _, _, _, rfl, by k_asm, ⟨_, _, _, _, _, _, _, rfl, rfl, D9, ap9⟩, cb_drop (by assumption) (by kcj_all)⟩
end
/-! L10a -/
section
def loopBody : List Stmt := match (lawDef.1.drop 10).head? with | some (.For _ _ b _ _) => b | _ => []
theorem map_norm {m : Str → Option Value} {a b c d : Str} {A B C D A' B' C' D' : Option Value} : (fun y => if y = a then A else if y = b then B else if y = c then C else if y = d then D else if y = a then A' else if y = b then B' else if y = c then C' else if y = d then D' else m y) = (fun y => if y = a then A else if y = b then B else if y = c then C else if y = d then D else m y) := by
  funext y
  by_cases h1 : y = a
  · simp only [if_pos h1]
  · by_cases h2 : y = b
    · simp only [if_neg h1, if_pos h2]
    · by_cases h3 : y = c
      · simp only [if_neg h1, if_neg h2, if_pos h3]
      · by_cases h4 : y = d
        · simp only [if_neg h1, if_neg h2, if_neg h3, if_pos h4]
        · simp only [if_neg h1, if_neg h2, if_neg h3, if_neg h4]
def TurnEnd (w : World) (h₀ : Heap) (L x dx : Addr) (rest : List (Addr × Obj)) (count : Int) (mk : List UInt8) (S : St) (M : Option Value → Tok → Tok → Str → Option Value) (s : Shared) (f : Flow) (s' : Shared) : Prop :=
  f = .next ∧ ∃ h' tk' od oa ha tt tf wv, s' = { s with heap := h', toks := tk' } ∧ Fr h₀ L h' (M wv tt tf) ∧ News h₀ L h' ((x, instObj 108 dx) :: (dx, od) :: (oa, ba []) :: (ha, ba S.held) :: rest) ∧
    IsDec w od S.done S.left oa count mk S.seen ha ∧ Apart x dx oa ha rest
set_option maxRecDepth 100000 in
set_option maxHeartbeats 8000000 in
theorem turn_z {w : World} {mean : ExcName → Option Value} {mg mb : Str → Option Value} (a : Addr) (ccd : Value) (h₀ : Heap) (m : Str → Option Value) (s : Shared)
    (B : Below callerA h₀ [] h₀) {o mk fed p left out held : List UInt8} {d : Bool} {seen : Int} {count : Int} {b : Bool} {t1 t2 t3 u1 u2 v1 v2 tp tt tf : Tok} {c x dx oa ha I T0 : Addr} {od oI oT : Obj} {wv pv : Option Value}
    (F : Fr h₀ h₀.objs.size s.heap (fun y => if y = Str.ofString "piece" then some (.bytes p.toArray tp) else if y = Str.ofString "told" then some (.bytes out.toArray tt) else if y = Str.ofString "fed" then some (.bytes fed.toArray tf) else if y = Str.ofString "was" then wv else if y = Str.ofString "piece" then pv else if y = Str.ofString "decoder" then some (.ref x) else if y = Str.ofString "told" then some (.bytes ([] : List UInt8).toArray v1) else if y = Str.ofString "fed" then some (.bytes ([] : List UInt8).toArray v2) else if y = Str.ofString "cuts" then some (.ref c) else if y = Str.ofString "is_met" then some (.bool b) else if y = Str.ofString "behind" then some (.bytes (partF o count mk).2.1.toArray u2) else if y = Str.ofString "part" then some (.bytes (partF o count mk).1.toArray u1) else if y = Str.ofString "count" then some (.int count t3) else if y = Str.ofString "marker" then some (.bytes mk.toArray t2) else if y = Str.ofString "octets" then some (.bytes o.toArray t1) else m y)) (X : (H.hd.heap_39 w.params).In h₀) (T : Top H.hd.view_39 (looseW H.hd.view_39 []) mean mg mb h₀)
    (hS : feedF count mk st0 fed = ⟨d, left, out, seen, held⟩)
    (N : News h₀ h₀.objs.size s.heap [(x, instObj 108 dx), (dx, od), (oa, ba []), (ha, ba held), (I, oI), (T0, oT)]) (hd : IsDec w od d left oa count mk seen ha) (ap : Apart x dx oa ha [(I, oI), (T0, oT)]) (hl : fed.length + p.length ≤ 20) (hm : mk.length ≤ 10) (hc0 : 0 ≤ count) (hc1 : count ≤ 7) :
    wpZ (model PySem.Challenge.rw_nt0482_01.row.prog w) (callerA.deeper (envOfC (Str.ofString "law") lawDef.2 h₀.objs.size a ccd)) (execs loopBody (envOfC (Str.ofString "law") lawDef.2 h₀.objs.size a ccd)) (TurnEnd w h₀ h₀.objs.size x dx [(I, oI), (T0, oT)] count mk (feedF count mk st0 (fed ++ p)) (fun wv' tt' tf' => (fun y => if y = Str.ofString "told" then some (.bytes (feedF count mk st0 (fed ++ p)).out.toArray tt') else if y = Str.ofString "fed" then some (.bytes (fed ++ p).toArray tf') else if y = Str.ofString "was" then wv' else if y = Str.ofString "piece" then some (.bytes p.toArray tp) else if y = Str.ofString "decoder" then some (.ref x) else if y = Str.ofString "told" then some (.bytes ([] : List UInt8).toArray v1) else if y = Str.ofString "fed" then some (.bytes ([] : List UInt8).toArray v2) else if y = Str.ofString "cuts" then some (.ref c) else if y = Str.ofString "is_met" then some (.bool b) else if y = Str.ofString "behind" then some (.bytes (partF o count mk).2.1.toArray u2) else if y = Str.ofString "part" then some (.bytes (partF o count mk).1.toArray u1) else if y = Str.ofString "count" then some (.int count t3) else if y = Str.ofString "marker" then some (.bytes mk.toArray t2) else if y = Str.ofString "octets" then some (.bytes o.toArray t1) else m y)) s) s := by
  obtain ⟨k1, k2, k3, k4, k5, k6, k7, s2, s4, s5, s6, rfl⟩ := hd
  have ap0 := ap
  obtain ⟨n1, n2, n3, n4, n5, n6, off⟩ := ap
  have key := feed_piece (count := count) (m := mk) fed p
  dsimp only at key
  rw [hS] at key
  dsimp only at key
  have fl := feed_len (count := count) (m := mk) fed st0
  have fl' := feed_len (count := count) (m := mk) (fed ++ p) st0
  rw [hS] at fl
  have law1 := decoder_law (o := fed ++ p) (m := mk) hc0
  dsimp only at law1
  rw [← key] at fl' law1 ⊢
  clear key hS
  generalize hD : feedF count mk ⟨d, left, [], seen, held⟩ p = D at fl' law1 ⊢
  obtain ⟨d', left', out', seen', held'⟩ := D
  dsimp only at law1
  simp only [st0, List.length_nil, Nat.zero_add, List.length_append] at fl fl'
  have hfp : (fed ++ p).length ≤ 20 := by rw [List.length_append]; exact hl
  simp only [loopBody, lawDef, PySem.Challenge.pw_nt0482_01, List.getLast?_cons_cons, List.getLast?_singleton, List.drop_succ_cons, List.drop_zero, List.head?_cons]
  revert X
  k_fill
  intro X
  refine z_execs_cons (z_any ?_)
  k_steps
  walk_at "zclean"
  refine z_execs_cons (z_Assign_swapped (names := [Str.ofString "told", Str.ofString "fed"]) (z_Tuple (z_splc (z_BinOp (z_any ?_)))))
  k_steps
  try dsimp only
  refine z_methodCall (z_any ?_)
  k_steps
  walk_at "zcall"
  refine z_any ?_
  k_steps
  refine' z_up (dp' := 450) (un' := 50) (feed_z (st := ⟨d, left, [], seen, held⟩) (o := p) (to := tp) _ _ _ _ _ _ _ _ _ _ _ _ _ ?B ?F ?X ?T ?hk ?N ?hd ?ap ?hz ?hl ?_) ?l1 ?l2
  case B => k_asm
  case F => k_asm
  case X => k_asm
  case T => k_asm
  case hk => exact rfl
  case N => k_asm
  case hd => exact ⟨_, _, _, _, _, _, _, _, _, _, _, rfl⟩
  case ap => assumption
  case hz => simp only [List.length_nil]; omega
  case hl => dsimp only; omega
  case l1 => exact (by decide : callerA.depth + 1 ≤ 450)
  case l2 => exact (by decide : callerA.units + 3 ≤ 50)
  rw [hD]
  dsimp only
  intro od' oa' ha' t h' tk' F' N' D9 ap9
  try dsimp only
  obtain ⟨k1', k2', k3', k4', k5', k6', k7', s2', s4', s5', s6', rfl⟩ := D9
  have ap6 := ap9
  obtain ⟨n1', n2', n3', n4', n5', n6', off'⟩ := ap9
  refine z_any ?_
  k_steps
  walk_at "zclean"
  refine z_any ?_
  k_steps
  try dsimp only
  refine z_any ?_
  k_steps
  rename Fr _ _ _ _ => FE
  rw [map_norm] at FE
  walk_at "zclean"
  refine z_execs_cons (z_any ?_)
  k_steps
  · rename (d' != _) = true => g
    rw [← law1.1] at g
    simp at g
  try dsimp only
  walk_at "zclean"
  refine z_execs_cons (z_any ?_)
  k_steps
  rotate_left
  · rename (left'.toArray.toList != _) = true => g
    rw [(law1.2.1 (by assumption)).2] at g
    simp at g
  all_goals (
    refine z_execs_nil ?_
    refine ⟨rfl, _, _, dictOf [ent w "is_done" k1' (.bool d'), ent w "left" k2' (.bytes left'.toArray s2'), ent w "out" k3' (.ref oa'), ent w "count" k4' (.int count s4'), ent w "marker" k5' (.bytes mk.toArray s5'), ent w "seen" k6' (.int seen' s6'), ent w "held" k7' (.ref ha')] 7, oa', ha', _, _, _, rfl, by assumption, cb_drop (by assumption) (by kcj_all), ⟨_, _, _, _, _, _, _, _, _, _, _, rfl⟩, ap6⟩)
end
/-! L10 -/
section
def LoopSt (w : World) (x dx : Addr) (count : Int) (mk fed : List UInt8) (S : St) (M : List UInt8 → St → Option Value → Option Value → Tok → Tok → Str → Option Value) (m' : Str → Option Value) (rest : List (Addr × Obj)) : Prop :=
  ∃ od oa ha tt tf wv pv, m' = M fed S wv pv tt tf ∧ rest = [(x, instObj 108 dx), (dx, od), (oa, ba []), (ha, ba S.held)] ∧ IsDec w od S.done S.left oa count mk S.seen ha ∧ Apart x dx oa ha []
def fedN (o : List UInt8) (c0 c1 : Int) : Nat → List UInt8
  | 0 => []
  | 1 => o.take c0.toNat
  | 2 => o.take c1.toNat
  | _ => o
theorem fed_piece {o : List UInt8} {c0 c1 : Int} {t1 t2 t3 : Tok} {i : Nat} {v : Value} (k0 : 0 ≤ c0) (k1 : c0 ≤ c1)
    (h : [Value.bytes (o.take c0.toNat).toArray t1, .bytes ((o.drop c0.toNat).take (c1.toNat - c0.toNat)).toArray t2, .bytes (o.drop c1.toNat).toArray t3][i]? = some v) :
    ∃ p t, v = .bytes (List.toArray p) t ∧ fedN o c0 c1 (i + 1) = fedN o c0 c1 i ++ p := by
  match i, h with
  | 0, h => cases h; exact ⟨_, _, rfl, rfl⟩
  | 1, h =>
    cases h
    refine ⟨_, _, rfl, ?_⟩
    show o.take c1.toNat = o.take c0.toNat ++ _
    rw [← List.take_add]
    congr 1
    omega
  | 2, h => cases h; exact ⟨_, _, rfl, (List.take_append_drop _ _).symm⟩
  | n + 3, h => cases h
theorem fed_len {o : List UInt8} {c0 c1 : Int} : ∀ i, (fedN o c0 c1 i).length ≤ o.length
  | 0 => Nat.zero_le _
  | 1 => List.length_take_le' _ _
  | 2 => List.length_take_le' _ _
  | _ + 3 => Nat.le_refl _
theorem map_start {m : Str → Option Value} {a b c d : Str} {A B : Option Value} (h1 : m a = A) (h2 : m b = B) : m = (fun y => if y = a then A else if y = b then B else if y = c then m c else if y = d then m d else m y) := by
  funext y
  by_cases g1 : y = a
  · rw [if_pos g1, g1, h1]
  · by_cases g2 : y = b
    · rw [if_neg g1, if_pos g2, g2, h2]
    · by_cases g3 : y = c
      · rw [if_neg g1, if_neg g2, if_pos g3, g3]
      · by_cases g4 : y = d
        · rw [if_neg g1, if_neg g2, if_neg g3, if_pos g4, g4]
        · rw [if_neg g1, if_neg g2, if_neg g3, if_neg g4]
theorem own_nil {l : List Addr} : OwnOff [] l := fun _ hp => nomatch hp
theorem news_drop5 {h₀ : Heap} {L : Addr} {h : Heap} {p1 p2 p3 p4 p5 p6 : Addr × Obj} (N : News h₀ L h [p1, p2, p3, p4, p5, p6]) : News h₀ L h [p1, p2, p3, p4, p5] := cb_drop N fun p hp => by
  simp only [List.mem_cons, List.not_mem_nil, or_false] at hp ⊢
  rcases hp with g | g | g | g | g <;> simp [g]
set_option maxRecDepth 100000 in
set_option maxHeartbeats 8000000 in
theorem tail10_z {w : World} {mean : ExcName → Option Value} {mg mb : Str → Option Value} (a : Addr) (ccd : Value) (h₀ : Heap) (m : Str → Option Value) (s : Shared) (Q : Flow → Shared → Prop)
    (B : Below callerA h₀ [] h₀) {o mk : List UInt8} {count : Int} {b : Bool} {t1 t2 t3 u1 u2 : Tok} {c : Addr} {c0 c1 : Int} {ta tb : Tok} {ep : Nat} {x dx oa ha : Addr} {od : Obj} {v1 v2 : Tok}  (F : Fr h₀ h₀.objs.size s.heap (fun y => if y = Str.ofString "decoder" then some (.ref x) else if y = Str.ofString "told" then some (.bytes ([] : List UInt8).toArray v1) else if y = Str.ofString "fed" then some (.bytes ([] : List UInt8).toArray v2) else if y = Str.ofString "cuts" then some (.ref c) else if y = Str.ofString "is_met" then some (.bool b) else if y = Str.ofString "behind" then some (.bytes (partF o count mk).2.1.toArray u2) else if y = Str.ofString "part" then some (.bytes (partF o count mk).1.toArray u1) else if y = Str.ofString "count" then some (.int count t3) else if y = Str.ofString "marker" then some (.bytes mk.toArray t2) else if y = Str.ofString "octets" then some (.bytes o.toArray t1) else m y)) (X : (H.hd.heap_39 w.params).In h₀) (T : Top H.hd.view_39 (looseW H.hd.view_39 []) mean mg mb h₀)
    (N : News h₀ h₀.objs.size s.heap [(x, instObj 108 dx), (dx, od), (oa, ba []), (ha, ba []), (c, W.listOf #[.int c0 ta, .int c1 tb] ep)]) (hd : IsDec w od false [] oa count mk 0 ha) (ap : Apart x dx oa ha [(c, W.listOf #[.int c0 ta, .int c1 tb] ep)]) (k0 : 0 ≤ c0) (k1 : c0 ≤ c1) (k2 : c1 ≤ o.length) (ho : o.length ≤ 20) (hm : mk.length ≤ 10) (hc0 : 0 ≤ count) (hc1 : count ≤ 7)
    (next : ∀ s', LawAt h₀ h₀.objs.size (LoopSt w x dx count mk o (feedF count mk st0 o) (fun fed S wv pv tt tf => (fun y => if y = Str.ofString "told" then some (.bytes (St.out S).toArray tt) else if y = Str.ofString "fed" then some (.bytes (List.toArray fed) tf) else if y = Str.ofString "was" then wv else if y = Str.ofString "piece" then pv else if y = Str.ofString "decoder" then some (.ref x) else if y = Str.ofString "told" then some (.bytes ([] : List UInt8).toArray v1) else if y = Str.ofString "fed" then some (.bytes ([] : List UInt8).toArray v2) else if y = Str.ofString "cuts" then some (.ref c) else if y = Str.ofString "is_met" then some (.bool b) else if y = Str.ofString "behind" then some (.bytes (partF o count mk).2.1.toArray u2) else if y = Str.ofString "part" then some (.bytes (partF o count mk).1.toArray u1) else if y = Str.ofString "count" then some (.int count t3) else if y = Str.ofString "marker" then some (.bytes mk.toArray t2) else if y = Str.ofString "octets" then some (.bytes o.toArray t1) else m y))) s s' → wpZ (model PySem.Challenge.rw_nt0482_01.row.prog w) (callerA.deeper (envOfC (Str.ofString "law") lawDef.2 h₀.objs.size a ccd)) (execs (lawDef.1.drop 11) (envOfC (Str.ofString "law") lawDef.2 h₀.objs.size a ccd)) Q s') :
    wpZ (model PySem.Challenge.rw_nt0482_01.row.prog w) (callerA.deeper (envOfC (Str.ofString "law") lawDef.2 h₀.objs.size a ccd)) (execs (lawDef.1.drop 10) (envOfC (Str.ofString "law") lawDef.2 h₀.objs.size a ccd)) Q s := by
  simp only [lawDef, PySem.Challenge.pw_nt0482_01, List.getLast?_cons_cons, List.getLast?_singleton, List.drop_succ_cons, List.drop_zero] at next ⊢
  revert X
  k_fill
  intro X
  refine z_seg _ ?_ next
  clear next
  have k3 : 0 ≤ c1 := Int.le_trans k0 k1
  walk_at "zclean"
  refine z_For (z_any ?_)
  k_steps
  rename Fr _ _ _ _ => FF
  rename News _ _ _ _ => NN
  rename _ ∧ _ ∧ _ ∧ _ ∧ _ => ll
  have NT := news_drop5 NN
  refine z_for_tup rfl rfl rfl (fun i => LoopSt w x dx count mk (fedN o c0 c1 i) (feedF count mk st0 (fedN o c0 c1 i)) (fun fed S wv pv tt tf => (fun y => if y = Str.ofString "told" then some (.bytes (St.out S).toArray tt) else if y = Str.ofString "fed" then some (.bytes (List.toArray fed) tf) else if y = Str.ofString "was" then wv else if y = Str.ofString "piece" then pv else if y = Str.ofString "decoder" then some (.ref x) else if y = Str.ofString "told" then some (.bytes ([] : List UInt8).toArray v1) else if y = Str.ofString "fed" then some (.bytes ([] : List UInt8).toArray v2) else if y = Str.ofString "cuts" then some (.ref c) else if y = Str.ofString "is_met" then some (.bool b) else if y = Str.ofString "behind" then some (.bytes (partF o count mk).2.1.toArray u2) else if y = Str.ofString "part" then some (.bytes (partF o count mk).1.toArray u1) else if y = Str.ofString "count" then some (.int count t3) else if y = Str.ofString "marker" then some (.bytes mk.toArray t2) else if y = Str.ofString "octets" then some (.bytes o.toArray t1) else m y))) FF NT rfl rfl ?_ ?_ ?_ ?_
  · exact off_lt ⟨ll.1, ll.2.1, ll.2.2.1, ll.2.2.2.1, trivial⟩
  · exact ⟨od, oa, ha, v1, v2, _, _, map_start (by with_unfolding_all rfl) (by with_unfolding_all rfl), rfl, hd, ⟨ap.n1, ap.n2, ap.n3, ap.n4, ap.n5, ap.n6, own_nil⟩⟩
  · rintro I oI i v m₁ news₁ h tk hv ⟨od', oa', ha', tt, tf, wv, pv, rfl, rfl, D9, ap9⟩ ho9 F9 N9
    obtain ⟨p, tp, rfl, hfed⟩ := fed_piece k0 k1 hv
    have hlen : (fedN o c0 c1 i).length + p.length ≤ 20 := by
      rw [← List.length_append, ← hfed]
      exact Nat.le_trans (fed_len _) ho
    refine z_mono (turn_z (d := (feedF count mk st0 (fedN o c0 c1 i)).done) (left := (feedF count mk st0 (fedN o c0 c1 i)).left) (out := (feedF count mk st0 (fedN o c0 c1 i)).out) (seen := (feedF count mk st0 (fedN o c0 c1 i)).seen) (held := (feedF count mk st0 (fedN o c0 c1 i)).held) a ccd h₀ m _ B F9 X T rfl N9 D9 (Apart.app (rest := []) ap9 ho9) hlen hm hc0 hc1) fun f s' hs => ?_
    obtain ⟨rfl, h', tk', od2, oa2, ha2, tt', tf', wv', rfl, F7, N7, D7, ap7⟩ := hs
    refine ⟨h', tk', _, [_, _, _, _], rfl, F7, N7, Apart.off2 (rest := []) ap7 own_nil, ?_⟩
    dsimp only
    rw [hfed]
    exact ⟨od2, oa2, ha2, tt', tf', wv', _, rfl, rfl, D7, ⟨ap7.n1, ap7.n2, ap7.n3, ap7.n4, ap7.n5, ap7.n6, own_nil⟩⟩
  · intro h' tk m' news' F9 N9 hJ
    exact ⟨rfl, h', tk, m', news', rfl, F9, hJ, N9⟩
end
/-! L11 -/
section
set_option maxRecDepth 100000 in
set_option maxHeartbeats 8000000 in
theorem tail11_z {w : World} {mean : ExcName → Option Value} {mg mb : Str → Option Value} (a : Addr) (ccd : Value) (h₀ : Heap) (m : Str → Option Value) (s : Shared) (Q : Flow → Shared → Prop)
    (B : Below callerA h₀ [] h₀) {o mk : List UInt8} {count : Int} {b : Bool} {t1 t2 t3 u1 u2 : Tok} {c : Addr} {x dx oa ha : Addr} {od : Obj} {v1 v2 tt tf : Tok} {wv pv : Option Value} {d : Bool} {left out held : List UInt8} {seen : Int}  (F : Fr h₀ h₀.objs.size s.heap (fun y => if y = Str.ofString "told" then some (.bytes out.toArray tt) else if y = Str.ofString "fed" then some (.bytes o.toArray tf) else if y = Str.ofString "was" then wv else if y = Str.ofString "piece" then pv else if y = Str.ofString "decoder" then some (.ref x) else if y = Str.ofString "told" then some (.bytes ([] : List UInt8).toArray v1) else if y = Str.ofString "fed" then some (.bytes ([] : List UInt8).toArray v2) else if y = Str.ofString "cuts" then some (.ref c) else if y = Str.ofString "is_met" then some (.bool b) else if y = Str.ofString "behind" then some (.bytes (partF o count mk).2.1.toArray u2) else if y = Str.ofString "part" then some (.bytes (partF o count mk).1.toArray u1) else if y = Str.ofString "count" then some (.int count t3) else if y = Str.ofString "marker" then some (.bytes mk.toArray t2) else if y = Str.ofString "octets" then some (.bytes o.toArray t1) else m y)) (X : (H.hd.heap_39 w.params).In h₀) (T : Top H.hd.view_39 (looseW H.hd.view_39 []) mean mg mb h₀)
    (hS : feedF count mk st0 o = ⟨d, left, out, seen, held⟩) (N : News h₀ h₀.objs.size s.heap [(x, instObj 108 dx), (dx, od), (oa, ba []), (ha, ba held)]) (hd : IsDec w od d left oa count mk seen ha) (ap : Apart x dx oa ha []) (ho : o.length ≤ 20) (hm : mk.length ≤ 10) (hc0 : 0 ≤ count) (hc1 : count ≤ 7)
    (ret : ∀ h' tk' m', Fr h₀ h₀.objs.size h' m' → Q (.ret (.bool true)) { s with heap := h', toks := tk' }) :
    wpZ (model PySem.Challenge.rw_nt0482_01.row.prog w) (callerA.deeper (envOfC (Str.ofString "law") lawDef.2 h₀.objs.size a ccd)) (execs (lawDef.1.drop 11) (envOfC (Str.ofString "law") lawDef.2 h₀.objs.size a ccd)) Q s := by
  simp only [lawDef, PySem.Challenge.pw_nt0482_01, List.getLast?_cons_cons, List.getLast?_singleton, List.drop_succ_cons, List.drop_zero] at ⊢
  revert X
  k_fill
  intro X
  obtain ⟨k1, k2, k3, k4, k5, k6, k7, s2, s4, s5, s6, rfl⟩ := hd
  have ap0 := ap
  obtain ⟨n1, n2, n3, n4, n5, n6, off⟩ := ap
  have fl := feed_len (count := count) (m := mk) o st0
  have le := law_end (o := o) (m := mk) hc0
  dsimp only at le
  rw [hS] at le fl
  dsimp only at le
  simp only [st0, List.length_nil, Nat.zero_add] at fl
  have fl2 := finish_len ⟨d, left, [], seen, held⟩
  simp only [List.length_nil, Nat.zero_add] at fl2
  walk_at "zclean"
  refine z_execs_cons (z_Assign_one (z_BinOp (z_any ?_)))
  k_steps
  try dsimp only
  refine z_methodCall (z_any ?_)
  k_steps
  walk_at "zcall0"
  refine' z_up (dp' := 450) (un' := 50) (finish_z (st := ⟨d, left, [], seen, held⟩) _ _ _ _ _ _ _ _ _ _ _ _ _ ?B ?F ?X ?T ?hk ?N ?hd ?ap ?hz ?_) ?l1 ?l2
  case B => k_asm
  case F => k_asm
  case X => k_asm
  case T => k_asm
  case hk => exact rfl
  case N => k_asm
  case hd => exact ⟨_, _, _, _, _, _, _, _, _, _, _, rfl⟩
  case ap => assumption
  case hz => simp only [List.length_nil]; omega
  case l1 => exact (by decide : callerA.depth + 1 ≤ 450)
  case l2 => exact (by decide : callerA.units + 3 ≤ 50)
  generalize finishF ⟨d, left, [], seen, held⟩ = D at le fl2 ⊢
  obtain ⟨d', left', out', seen', held'⟩ := D
  dsimp only at le fl2 ⊢
  intro od' oa' ha' t h' tk' F' N' D9 ap9
  try dsimp only
  obtain ⟨k1', k2', k3', k4', k5', k6', k7', s2', s4', s5', s6', rfl⟩ := D9
  have ap6 := ap9
  obtain ⟨n1', n2', n3', n4', n5', n6', off'⟩ := ap9
  refine z_any ?_
  k_steps
  walk_at "zclean"
  refine z_any ?_
  k_steps
  try dsimp only
  walk_at "zclean"
  refine z_execs_cons (z_any ?_)
  k_steps
  · rw [le.2, beq_self_eq_true]
    exact ret _ _ _ (by assumption)
  · rename (_ == _) = false => g
    rw [le.1, beq_self_eq_true] at g
    exact absurd g (by decide)
end
/-! L4 -/
section
set_option maxRecDepth 100000 in
set_option maxHeartbeats 8000000 in
theorem tail4_z {w : World} {mean : ExcName → Option Value} {mg mb : Str → Option Value} (a : Addr) (ccd : Value) (h₀ : Heap) (m : Str → Option Value) (s : Shared) (Q : Flow → Shared → Prop)
    (B : Below callerA h₀ [] h₀) {o mk : List UInt8} {count : Int} {t1 t2 t3 : Tok} (F : Fr h₀ h₀.objs.size s.heap (fun y => if y = Str.ofString "count" then some (.int count t3) else if y = Str.ofString "marker" then some (.bytes mk.toArray t2) else if y = Str.ofString "octets" then some (.bytes o.toArray t1) else m y)) (X : (H.hd.heap_39 w.params).In h₀) (T : Top H.hd.view_39 (looseW H.hd.view_39 []) mean mg mb h₀)
    {d l : Addr} {od ol oD : Obj}
    (N : News h₀ h₀.objs.size s.heap [(d, od), (l, ol), (h₀.objs.size + 1, oD)]) (K : Deck w d l od ol) (dD : oD.data = .cell (some (.ref d))) (ho : o.length ≤ 20) (hm : mk.length ≤ 10) (hc0 : 0 ≤ count) (hc1 : count ≤ 7)
    (n3 : @Ne Nat (h₀.objs.size + 1) d) (n4 : @Ne Nat (h₀.objs.size + 1) l)
    (ret : ∀ h' tk' m', Fr h₀ h₀.objs.size h' m' → Q (.ret (.bool true)) { s with heap := h', toks := tk' }) :
    wpZ (model PySem.Challenge.rw_nt0482_01.row.prog w) (callerA.deeper (envOfC (Str.ofString "law") lawDef.2 h₀.objs.size a ccd)) (execs (lawDef.1.drop 6) (envOfC (Str.ofString "law") lawDef.2 h₀.objs.size a ccd)) Q s := by
  simp only [lawDef, PySem.Challenge.pw_nt0482_01, List.getLast?_cons_cons, List.getLast?_singleton, List.drop_succ_cons, List.drop_zero]
  revert X
  k_fill
  intro X
  refine z_seg (LawMid w h₀ h₀.objs.size d l (fun m' rest => (∃ (u1 u2 : Tok), m' = (fun y => if y = Str.ofString "is_met" then some (.bool (partF o count mk).2.2) else if y = Str.ofString "behind" then some (.bytes (partF o count mk).2.1.toArray u2) else if y = Str.ofString "part" then some (.bytes (partF o count mk).1.toArray u1) else if y = Str.ofString "count" then some (.int count t3) else if y = Str.ofString "marker" then some (.bytes mk.toArray t2) else if y = Str.ofString "octets" then some (.bytes o.toArray t1) else m y)) ∧ rest = [(h₀.objs.size + 1, oD)]) s) ?_ ?_
  · refine z_any ?_
    k_steps
    all_goals exact ⟨rfl, _, _, _, _, _, _, rfl, by k_asm, ⟨⟨_, _, rfl⟩, rfl⟩, cb_drop (by assumption) (by kcj_all), by assumption⟩
  clear F N K
  rintro s' ⟨h', tk, od', ol', m', rest, rfl, F, ⟨⟨u1, u2, rfl⟩, rfl⟩, N, K⟩
  refine tail7_z a ccd h₀ m _ Q B F X T N K ho hm hc0 hc1 ?_
  rintro s' ⟨h', tk, od', ol', m', rest, rfl, F, ⟨rfl, rfl⟩, N, K⟩
  refine tail8_z a ccd h₀ m _ Q B F X T N K dD n3 n4 ho hm hc0 hc1 ?_
  clear N F K
  rintro s' ⟨h', tk, m', rest, rfl, F, ⟨c, c0, c1, ta, tb, ep, rfl, rfl, k0, k1, k2⟩, N⟩
  refine tail9_z a ccd h₀ m _ Q B F X T N ho hm hc0 hc1 ?_
  clear N F
  rintro s' ⟨h', tk, m', rest, rfl, F, ⟨x, dx, oa, ha, od, v1, v2, rfl, rfl, D, ap⟩, N⟩
  refine tail10_z a ccd h₀ m _ Q B F X T N D ap k0 k1 k2 ho hm hc0 hc1 ?_
  clear N F D ap
  rintro s' ⟨h', tk, m', rest, rfl, F, ⟨od, oa, ha, tt, tf, wv, pv, rfl, rfl, D, ap⟩, N⟩
  exact tail11_z (d := (feedF count mk st0 o).done) (left := (feedF count mk st0 o).left) (out := (feedF count mk st0 o).out) (seen := (feedF count mk st0 o).seen) (held := (feedF count mk st0 o).held) a ccd h₀ m _ Q B F X T rfl N D ap ho hm hc0 hc1 ret
end
/-! L3 -/
section
set_option maxRecDepth 100000 in
set_option maxHeartbeats 8000000 in
theorem tail3_z {w : World} {mean : ExcName → Option Value} {mg mb : Str → Option Value} (a : Addr) (ccd : Value) (h₀ : Heap) (m : Str → Option Value) (s : Shared) (Q : Flow → Shared → Prop)
    (B : Below callerA h₀ [] h₀) {o : List UInt8} {t1 : Tok} (F : Fr h₀ h₀.objs.size s.heap (fun y => if y = Str.ofString "octets" then some (.bytes o.toArray t1) else m y)) (X : (H.hd.heap_39 w.params).In h₀) (T : Top H.hd.view_39 (looseW H.hd.view_39 []) mean mg mb h₀)
    {d l : Addr} {od ol oS oD : Obj}
    (N : News h₀ h₀.objs.size s.heap [(d, od), (l, ol), (h₀.objs.size + 1 + 1, oS), (h₀.objs.size + 1, oD)]) (K : Deck w d l od ol) (dD : oD.data = .cell (some (.ref d))) (ho : o.length ≤ 20)
    (n1 : @Ne Nat (h₀.objs.size + 1 + 1) d) (n2 : @Ne Nat (h₀.objs.size + 1 + 1) l) (n3 : @Ne Nat (h₀.objs.size + 1) d) (n4 : @Ne Nat (h₀.objs.size + 1) l)
    (ret : ∀ h' tk' m', Fr h₀ h₀.objs.size h' m' → Q (.ret (.bool true)) { s with heap := h', toks := tk' }) :
    wpZ (model PySem.Challenge.rw_nt0482_01.row.prog w) (callerA.deeper (envOfC (Str.ofString "law") lawDef.2 h₀.objs.size a ccd)) (execs (lawDef.1.drop 4) (envOfC (Str.ofString "law") lawDef.2 h₀.objs.size a ccd)) Q s := by
  simp only [lawDef, PySem.Challenge.pw_nt0482_01, List.getLast?_cons_cons, List.getLast?_singleton, List.drop_succ_cons, List.drop_zero]
  revert X
  k_fill
  intro X
  refine z_seg (LawMid w h₀ h₀.objs.size d l (fun m' rest => (∃ (mk : List UInt8) (t : Tok), m' = (fun y => if y = Str.ofString "marker" then some (.bytes mk.toArray t) else if y = Str.ofString "octets" then some (.bytes o.toArray t1) else m y) ∧ mk.length ≤ 10) ∧ rest = [(h₀.objs.size + 1, oD)]) s) ?_ ?_
  · refine z_any ?_
    k_steps
    all_goals exact ⟨rfl, _, _, _, _, _, _, rfl, by k_asm, ⟨⟨_, _, rfl, by decide⟩, rfl⟩, cb_drop (by assumption) (by kcj_all), by assumption⟩
  clear F N K
  rintro s' ⟨h', tk, od', ol', m', rest, rfl, F, ⟨⟨mk, t2, rfl, hm⟩, rfl⟩, N, K⟩
  refine z_seg (LawMid w h₀ h₀.objs.size d l (fun m' rest => (∃ (count : Int) (t : Tok), m' = (fun y => if y = Str.ofString "count" then some (.int count t) else if y = Str.ofString "marker" then some (.bytes mk.toArray t2) else if y = Str.ofString "octets" then some (.bytes o.toArray t1) else m y) ∧ 0 ≤ count ∧ count ≤ 7) ∧ rest = [(h₀.objs.size + 1, oD)]) s) ?_ ?_
  · walk_at "zclean"
    refine z_any ?_
    k_steps
    all_goals exact ⟨rfl, _, _, _, _, _, _, rfl, by k_asm, ⟨⟨_, _, rfl, (menu_b _).1, (menu_b _).2⟩, rfl⟩, cb_drop (by assumption) (by kcj_all), by assumption⟩
  clear F N K
  rintro s' ⟨h', tk, od', ol', m', rest, rfl, F, ⟨⟨count, t3, rfl, hc0, hc1⟩, rfl⟩, N, K⟩
  exact tail4_z a ccd h₀ m _ Q B F X T N K dD ho hm hc0 hc1 n3 n4 ret
end
/-! L2 -/
section
local macro_rules | `(tactic| walk_at "CompSrc") => `(tactic| (refine hold ?_))
set_option maxRecDepth 100000 in
set_option maxHeartbeats 8000000 in
theorem tail_z {w : World} {mean : ExcName → Option Value} {mg mb : Str → Option Value} (a : Addr) (ccd : Value) (h₀ : Heap) (m : Str → Option Value) (s : Shared) (Q : Flow → Shared → Prop)
    (B : Below callerA h₀ [] h₀) (F : Fr h₀ h₀.objs.size s.heap m) (X : (H.hd.heap_39 w.params).In h₀) (T : Top H.hd.view_39 (looseW H.hd.view_39 []) mean mg mb h₀)
    {d l : Addr} {od ol oS oD : Obj} {sg : List UInt8} {t1 : Tok}
    (N : News h₀ h₀.objs.size s.heap [(d, od), (l, ol), (h₀.objs.size + 1 + 1, oS), (h₀.objs.size + 1, oD)]) (K : Deck w d l od ol) (dS : oS.data = .cell (some (.bytes sg.toArray t1))) (hS : sg.length = 3) (dD : oD.data = .cell (some (.ref d)))
    (n1 : @Ne Nat (h₀.objs.size + 1 + 1) d) (n2 : @Ne Nat (h₀.objs.size + 1 + 1) l) (n3 : @Ne Nat (h₀.objs.size + 1) d) (n4 : @Ne Nat (h₀.objs.size + 1) l)
    (ret : ∀ h' tk' m', Fr h₀ h₀.objs.size h' m' → Q (.ret (.bool true)) { s with heap := h', toks := tk' }) :
    wpZ (model PySem.Challenge.rw_nt0482_01.row.prog w) (callerA.deeper (envOfC (Str.ofString "law") lawDef.2 h₀.objs.size a ccd)) (execs (lawDef.1.drop 3) (envOfC (Str.ofString "law") lawDef.2 h₀.objs.size a ccd)) Q s := by
  simp only [lawDef, PySem.Challenge.pw_nt0482_01, List.getLast?_cons_cons, List.getLast?_singleton, List.drop_succ_cons, List.drop_zero]
  revert X
  k_fill
  intro X
  refine z_seg (LawMid w h₀ h₀.objs.size d l (fun m' rest => (∃ (o : List UInt8) (t : Tok), m' = (fun y => if y = Str.ofString "octets" then some (.bytes o.toArray t) else m y) ∧ o.length ≤ 20) ∧ ∃ oS', rest = [(h₀.objs.size + 1 + 1, oS'), (h₀.objs.size + 1, oD)]) s) ?_ ?_
  · refine z_any ?_
    k_steps
    unfold Hold
    refine ListComp_U (F₀ := by k_asm) (by with_unfolding_all rfl) (by decide) (by rfl) (by decide) (by rfl) ?_
    k_dflt lcg_toSrc
    unfold Hold
    rename IsRange _ _ _ _ _ _ _ _ => hR
    rename Deck _ _ _ _ _ => KD
    rename 0 ≤ _ => r0
    rename _ < 20 => r1
    refine CompSrc.range rfl (by k_asm) (by k_asm) hR (range_small r0 r1) (range_size r0 r1) (by rw [sizeLine_eq]; omega) fun g => ?_
    refine comp_octets ?_ ?_ _ _ [] [] _ _ KD .nil (fun _ h => nomatch h) (Nat.zero_add _)
    · intro od ol I oI C oC D ys h tk Q' E' KD' F' N' o3 ret'
      simp only [LCg.Off3, and_true] at o3
      obtain ⟨o31, o32, o33, o34⟩ := o3
      have N2 : News h₀ h₀.objs.size h ((d, od) :: (l, ol) :: [(I, oI), (C, oC), (D, lst ys), (h₀.objs.size + 1 + 1, oS), (h₀.objs.size + 1, oD)]) := cb_drop N' (by kcj_all)
      clear N'
      k_steps
      exact ret' _ _ _ _ _ _ (by assumption) (by assumption) (by assumption) (by assumption) (by assumption)
    · intro ys ns od ol hi hin hn KD'
      k_steps
      exact ⟨rfl, _, _, _, _, _, _, rfl, by k_asm, ⟨⟨_, _, rfl, by show (ns.map _).toArray.toList.length ≤ 20; rw [List.toList_toArray, List.length_map, hn]; omega⟩, _, rfl⟩, cb_drop (by assumption) (by kcj_all), KD'⟩
  · rintro s' ⟨h', tk, od', ol', m', rest, rfl, F', ⟨⟨o, t, rfl, ho⟩, oS', rfl⟩, N', K'⟩
    refine tail3_z a ccd h₀ m _ Q B F' X T N' K' dD ho n1 n2 n3 n4 ret
end
/-! L1 -/
section
set_option maxRecDepth 100000 in
set_option maxHeartbeats 8000000 in
theorem law_z : PySem.Challenge.rw_nt0482_01.Holds := H.hd (by
  k_fill
  intro w s₀ s₁ mg mb G Y fa o pm cd doc dV kV ho hd hcd hD hmg hg args vals as hpre hlay hrd hwl hlo
  have KX := kIn_of Y
  have X := (Ground.X G).1
  have V := (Ground.X G).2
  refine Ground.open G ?_
  intro T B D TE TW
  try (refine guard_noD D (by decide +kernel) ?_; clear D)
  wrow_args hpre hlay hrd hwl hlo
  have K0 := below_caller s₁.heap
  have he := Dflts.none hD rfl
  subst he
  have he := Dflts.noKw hD
  subst he
  refine call_cellsZ (by decide) ho (fd_plain hd) (Top.nolimit T) hcd rfl (kinds_of (by kinds_ok)) (by decide) fun h₁ tk₁ cells F N0 X0 => ?_
  cells_open X0
  clear hd
  k_drop
  (try k_fold)
  walk_at "zclean"
  refine z_execs_cons (z_any ?_)
  k_steps
  try dsimp only
  refine' z_deck ?N ?lo ?hd ?hI ?hmx ?n1 ?n2 ?n3 ?n4 ?n5 ?_
  case N => k_asm
  case lo => assumption
  case hd => assumption
  case hI => assumption
  case n1 => omega
  case n2 => omega
  case n3 => omega
  case n4 => omega
  case n5 => omega
  case hmx => exact mix_bounds _ _ (by decide)
  intro ol1 K1 N1 off1
  walk_at "zclean"
  walk_at "zany"
  rename Fr _ _ _ _ => FS
  rename News _ _ _ _ => NS
  refine z_signs FS NS ?_ ?_
  · refine z_any ?_
    k_steps
    all_goals first | assumption | rfl
  · intro h' tk sg tS oS' F' N' dS hS
    refine tail_z _ _ _ _ _ _ K0 F' KX T N' (by assumption) dS hS (by assumption) ?_ ?_ ?_ ?_ ?_
    · omega
    · omega
    · omega
    · omega
    · intro h9 tk9 m9 F9
      try dsimp only
      k_end
      wrow_close)
end
end
end Mine
end
theorem PySem.Challenge.cw_nt0482_01_holds : PySem.Challenge.rw_nt0482_01.Holds := by
  exact Mine.law_z
