import PyProof.Rows.All
import Wide.All
import OpenK.AllK
import Wide.FinOn
import PySem.Challenge.RW_og0235_01
set_option maxRecDepth 100000
set_option Elab.async false
set_option linter.unusedVariables false

section
namespace Og
open PySem PySem.W PySem.Calls PyProof.Rows
open PySem.Sem (wp)

/-! A logic over clean stacks: no decoder holds a bytearray. -/
def holdIds : List String := ["bytearray.__contains__", "bytearray.__mod__", "bytearray.__rmod__", "_struct.pack_into.held", "bytearray.find.held"] ++ Builtin.Bytes.decodersThatHold
def holder : Code → Bool
  | .builtin id _ => holdIds.contains id
  | _ => false
def CleanL (l : List (Code × Pos)) : Prop := ∀ x ∈ l, holder x.1 = false
structure Clean (Γ : Ctx) : Prop where
  here : holder Γ.code = false
  below : CleanL Γ.below

def wpC (H : Prop) {α : Type} (M : Model) (A : Around) (t : Sem α) (Q : α → Shared → Prop) (s : Shared) : Prop :=
  ∀ Γ p, Γ.In A → (H → Clean Γ) → wp M Γ t (fun a _ s' => Q a s') (fun _ _ _ => False) p s
def codeC (H : Prop) (M : Model) (A : Around) (c : Code) (R : Flow → Shared → Prop) (s : Shared) : Prop :=
  ∀ Γ p, Γ.code = c → Γ.Below A → (H → CleanL Γ.below) → wpCode M Γ (fun r s' => match r with | .ok f => R f s' | .error _ => False) p s

section
variable {H : Prop} {α β : Type} {M : Model} {A : Around} {s : Shared}
theorem wpC.ofAny {t : Sem α} {Q : α → Shared → Prop} (h : wpAny M A t Q (fun _ _ => False) s) : wpC H M A t Q s := fun Γ p hΓ _ => h Γ p hΓ
theorem wpC.mono {t : Sem α} {Q Q' : α → Shared → Prop} (h : wpC H M A t Q s) (hQ : ∀ a s, Q a s → Q' a s) : wpC H M A t Q' s :=
  fun Γ p hΓ hc => Sem.wp_mono M Γ t (fun a _ s => hQ a s) (fun _ _ _ h => h) p s (h Γ p hΓ hc)
theorem wpC.pure {a : α} {Q : α → Shared → Prop} (h : Q a s) : wpC H M A (Pure.pure a) Q s := fun _ _ _ _ => h
theorem wpC.bind {m : Sem α} {f : α → Sem β} {Q : β → Shared → Prop} (h : wpC H M A m (fun a s' => wpC H M A (f a) Q s') s) : wpC H M A (m >>= f) Q s := fun Γ p hΓ hc => by
  rw [Sem.wp_bind']
  exact Sem.wp_mono M Γ m (fun a p' s' h' => h' Γ p' hΓ hc) (fun _ _ _ h' => h') p s (h Γ p hΓ hc)
theorem wpC.holding {vs : List Value} {m : Sem α} {Q : α → Shared → Prop} (h : wpC H M A m Q s) : wpC H M A (holding vs m) Q s :=
  fun Γ p hΓ hc => by rw [Sem.wp_holding]; exact h Γ p hΓ hc
theorem wpC.keep {vs : List Value} {m : Sem α} {Q : α → Shared → Prop} (h : wpC H M A m Q s) : wpC H M A (m.keep vs) Q s :=
  fun Γ p hΓ hc => by rw [Sem.wp_keep]; exact h Γ p hΓ hc
theorem wpC.standAt {pos : Pos} {Q : Unit → Shared → Prop} (h : Q () s) : wpC H M A (standAt pos) Q s := fun _ _ _ _ => h
theorem wpC.rule {tag : String} {Q : Unit → Shared → Prop} (h : Q () s) : wpC H M A (rule tag) Q s := fun _ _ _ _ => h
theorem wpC.point {Q : Unit → Shared → Prop} (h : Q () s) : wpC H M A point Q s := fun _ _ _ _ => h
theorem wpC.operate {vs : List Value} {m : Sem Value} {Q : Value → Shared → Prop} (h : wpC H M A m Q s) : wpC H M A (operate vs m) Q s :=
  fun Γ p hΓ hc => by rw [Sem.wp_operate]; exact h Γ p hΓ hc
theorem wpC.release {vs ks : List Value} {Q : Unit → Shared → Prop} (h : Q () s) : wpC H M A (release vs ks) Q s :=
  fun Γ p _ _ => by rw [Sem.wp_release]; exact h
theorem wpC.bindName {env : Env} {x : Str} {v : Value} {Q : Unit → Shared → Prop} (h : wpC H M A (storeName env x v) Q s) : wpC H M A (bindName env x v) Q s :=
  fun Γ p hΓ hc => by rw [Sem.wp_bindName]; exact h Γ p hΓ hc
theorem wpC.onRaise {m : Sem α} {k : Value → Sem Unit} {Q : α → Shared → Prop} (h : wpC H M A m Q s) : wpC H M A (m.onRaise k) Q s := fun Γ p hΓ hc => by
  rw [Sem.wp_onRaise]
  exact Sem.wp_mono M Γ m (fun _ _ _ h' => h') (fun _ _ _ h' => h'.elim) p s (h Γ p hΓ hc)
theorem wpC.tryCatch {m : Sem α} {k : Value → Sem α} {Q : α → Shared → Prop} (h : wpC H M A m Q s) : wpC H M A (tryCatch m k) Q s := fun Γ p hΓ hc => by
  rw [Sem.wp_tryCatch']
  exact Sem.wp_mono M Γ m (fun _ _ _ h' => h') (fun _ _ _ h' => h'.elim) p s (h Γ p hΓ hc)
theorem wpC.attempt {m : Sem α} {Q : Except Value α → Shared → Prop} (h : wpC H M A m (fun a => Q (.ok a)) s) : wpC H M A m.attempt Q s := fun Γ p hΓ hc => by
  rw [Sem.wp_attempt]
  exact Sem.wp_mono M Γ m (fun _ _ _ h' => h') (fun _ _ _ h' => h'.elim) p s (h Γ p hΓ hc)
theorem wpC.ite {c : Prop} [Decidable c] {a b : Sem α} {Q : α → Shared → Prop} (h1 : c → wpC H M A a Q s) (h2 : ¬ c → wpC H M A b Q s) : wpC H M A (if c then a else b) Q s := by
  split
  · exact h1 ‹_›
  · exact h2 ‹_›
theorem wpC.load {a : Addr} {o : Obj} {Q : Obj → Shared → Prop} (ho : s.heap.get? a = some o) (h : Q o s) : wpC H M A (load a) Q s := .ofAny (wpAny_load ho h)
theorem wpC.stack {Q : List (Code × Pos) → Shared → Prop} (h : ∀ l, (H → CleanL l) → Q l s) : wpC H M A stack Q s := fun Γ p _ hc => by
  show Q ((Γ.code, p) :: Γ.below) s
  refine h _ fun hH x hx => ?_
  rcases List.mem_cons.mp hx with rfl | hx
  · exact (hc hH).here
  · exact (hc hH).below x hx

theorem codeC.mono {c : Code} {R R' : Flow → Shared → Prop} (h : codeC H M A c R s) (hR : ∀ f s, R f s → R' f s) : codeC H M A c R' s :=
  fun Γ p hc hΓ hl => wpCode_mono (fun r s' h' => by cases r with | ok f => exact hR f s' h' | error e => exact h') (h Γ p hc hΓ hl)
theorem codeC.ofAny {c : Code} {R : Flow → Shared → Prop} (h : codeAny M A c (fun r s' => match r with | .ok f => R f s' | .error _ => False) s) : codeC H M A c R s :=
  fun Γ p hc hΓ _ => h Γ p hc hΓ
theorem codeC.ofTree {c : Code} {R : Flow → Shared → Prop} (hh : holder c = false)
    (h : wpC H M (A.under c) (M.den c) (fun fin s' => match fin with | .done f => R f s' | .again c' => c'.quiet = true ∧ codeC H M A c' R s') s) : codeC H M A c R s := fun Γ p hc hΓ hl => by
  rw [wpCode_iff_wp, hc]
  refine Sem.wp_mono M Γ _ (fun fin p' s' h' => ?_) (fun _ _ _ h' => h') p s (h Γ p (hc ▸ hΓ.in) (fun h => ⟨hc ▸ hh, hl h⟩))
  cases fin with
  | done f => exact h'
  | again c' => exact ⟨h'.1, h'.2 (Γ.goto c') p' rfl (hΓ.goto c') hl⟩

theorem enters {Γ : Ctx} (h : Clean Γ) (c : Code) (hd : Option Value) (p : Pos) : CleanL (Γ.enter c hd p).below := fun x hx => by
  rcases List.mem_cons.mp hx with rfl | hx
  · exact h.here
  · exact h.below x hx
theorem mark_none (A : Around) : A.mark none = A := by cases A; rfl
theorem wpC.run {c : Code} {Q : Flow → Shared → Prop} (h : codeC H M A c Q s) : wpC H M A (run c) Q s := fun Γ p hΓ hc => by
  rw [Sem.wp_run]
  refine wpCode_mono (fun r s' h' => ?_) (h _ p rfl (by have := hΓ.enter c none p (by intro x; cases x); rwa [mark_none] at this) (fun h => enters (hc h) c none p))
  cases r <;> exact h'
theorem wpC.runOwn {c : Code} {env : Env} {Q : Flow → Shared → Prop} (h : codeC H M A c Q s) : wpC H M A (runOwn c env) Q s := by
  unfold PySem.runOwn
  exact .onRaise (.run h)
theorem wpC.runValue {c : Code} {Q : Value → Shared → Prop} (h : codeC H M A c (fun f s' => ∃ v, f = .ret v ∧ Q v s') s) : wpC H M A (runValue c) Q s := fun Γ p hΓ hc => by
  rw [Sem.wp_runValue]
  refine wpCode_mono (fun r s' h' => ?_) (h _ p rfl (by have := hΓ.enter c none p (by intro x; cases x); rwa [mark_none] at this) (fun h => enters (hc h) c none p))
  cases r with
  | ok f => obtain ⟨v, rfl, hq⟩ := h'; exact hq
  | error e => exact h'.elim
theorem wpC.call {f : Value} {pos : List Value} {kw : List (Str × Value)} {Q : Value → Shared → Prop} (h : codeC H M A (.call f ⟨pos, kw⟩) (fun f s' => ∃ v, f = .ret v ∧ Q v s') s) : wpC H M A (call f pos kw) Q s := .runValue h
end
end Og
end

section
open PySem PySem.W PySem.Calls PyProof.Rows Og
open PySem.Sem (wp)
namespace OgTop

/-- What the clean walk has to show of the law's own def. -/
def WalkC (q : Program) (loose : List Str) (XP : (Str → Option Value) → Heap → Prop) (YP : World → Heap → Prop) (r : RowW) (d : DefRec) (kwd : List (Str × Expr)) : Prop :=
  ∀ (w : World) (s₀ s₁ : Shared) (mg mb : Str → Option Value), Ground q loose r.records XP w s₀ mg mb s₁.heap → YP w s₁.heap → ∀ (a : Addr) (o : Obj) (pm cd doc dV kV : Value), s₁.heap.get? a = some o →
    o.data = .func { docDef d.name d.params d.body d.scope pm cd doc with defaults := dV, kwdefaults := kV } → s₁.heap.CodeRec cd d.name → Dflts mg s₁.heap d.params kwd dV kV → mg d.name = some (.ref a) → s₁.gens = #[] →
    ∀ (args : List WData) (vals : List Value) (as : List Addr), r.claim.pre args = true → WData.layableAll args = true → ReadsAllW r.records (classAt s₀.heap) s₁.heap vals args as → WellAll w.params s₁.heap vals args → (∀ a ∈ as, (a == sysModules) = false) →
      wpC True (model r.prog w) callerA (PySem.call (.ref a) vals) (fun v s' => GoodWG r.claim (classAt s₀.heap) (ExcName.means s₀.heap) args s₁ (.ok (.ret v)) s') s₁

/-- The caller's own stack holds no decoder, so a clean walk is a run. -/
theorem clean_runs {prog : Program} {w : World} {t : Sem Fin} {s : Shared} {P : Flow → Shared → Prop} (hreg : s.asleep)
    (h : wpC True (model prog w) callerA t (fun fin s' => ∃ f, fin = .done f ∧ P f s' ∧ AllBare s'.gens) s) :
    ∃ n f s' s'', runN (denote table) prog w n s ⟨t, .builtin "claim.caller" {}, default, []⟩ = .halted (outcomeOf (.ok f)) s' ∧
      schedN (denote table) prog w n (.single s ⟨t, .builtin "claim.caller" {}, default, []⟩) = .halted (outcomeOf (.ok f)) s' ∧ s'.forget = s''.forget ∧ P f s'' := by
  have h1 := h ⟨.builtin "claim.caller" {}, none, none, [], none⟩ default caller_in (fun _ => ⟨by decide +kernel, fun x hx => nomatch hx⟩)
  have h2 : wp (model prog w) ⟨.builtin "claim.caller" {}, none, none, [], none⟩ t
      (Sem.finPost (model prog w) ⟨.builtin "claim.caller" {}, none, none, [], none⟩ fun r s' => (∃ f, r = .ok f ∧ P f s') ∧ leftWithCleanup s'.gens = false)
      (fun e _ s' => (∃ f, (Except.error e : Result) = .ok f ∧ P f s') ∧ leftWithCleanup s'.gens = false) default s :=
    Sem.wp_mono _ _ t (fun fin p' s' ⟨f, e, hp, hb⟩ => by subst e; exact ⟨⟨f, rfl, hp⟩, leftWithCleanup_false_of_bare hb⟩) (fun _ _ _ z => z.elim) _ _ h1
  obtain ⟨n, r, s₁, s₂, hs, hn, hfo, f, rfl, hR⟩ := wp_halts_full (M := model prog w) (R := fun r s' => ∃ f, r = .ok f ∧ P f s') hreg h2
  exact ⟨n, f, s₂, s₁, hn, hs, hfo, hR⟩

/-- The library's head, entered with the caller's own stack. -/
theorem PySem.W.holds_open {r : OpenRow} {q : Program} {loose : List Str} {Xt : Shared → Bool} {XP : (Str → Option Value) → Heap → Prop} {α : Type} {Yf : Shared → α} {Ya : World → α} {YP : World → Heap → Prop} {d : DefRec} {kwd : List (Str × Expr)} {N : Nat}
    (left : ∀ w, (openEnds treeTable r.prog w N).map (fun s => (openSeen q loose (importedModules r.prog.main.body) Xt true s, Yf s)) = some (openGood q loose, Ya w)) (hY : ∀ w s, Yf s = Ya w → YP w s.heap) (hYk : ∀ w h h', YP w h → (∀ b o, h.get? b = some o → h'.get? b = some o) → YP w h')
    (hX : ∀ s, Xt s = true → XP (s.heap.nsMap mainGlobals) s.heap) (hXk : ∀ mg h h', XP mg h → (∀ b o, h.get? b = some o → h'.get? b = some o) → XP mg h')
    (hdef : defOf q r.name = some (d, kwd)) (hp : r.prog.theDef r.name = some (d.params, d.body, d.scope)) (hk : kwWritten? d.params.kwonlyargs d.params.kw_defaults = some kwd) (hRf : ∀ s, Xt s = true → RecFacts r.records s.heap) (hwr : (!r.writes || r.records.isEmpty) = true)
    (k1 : r.wellSaid = true) (ok : (chainsOk q && opensWell r.prog && (frees r.toRowW && r.within.isEmpty)) = true) (hb : r.prog.bare) (hw : r.toRowW.promised)
    (call : WalkC q loose XP YP r.toRowW d kwd) : r.Holds := by
  obtain ⟨ok, k5⟩ := Bool.and_eq_true_iff.mp ok
  obtain ⟨hch, o1⟩ := Bool.and_eq_true_iff.mp ok
  obtain ⟨k5, k6⟩ := Bool.and_eq_true_iff.mp k5
  obtain ⟨hsame, hu, ha, hap, hm⟩ := frees_parts k5
  refine ⟨k1, hw, ⟨hb, o1, by show r.makers.map _ = []; rw [hm]; rfl⟩, hw.witness, fun w => ⟨(LeftO.behind left hX hch w).1, fun s' hs' => ?_⟩⟩
  obtain ⟨s₀, hf, hg0, s, hT, hz, hgens, hg, G00, y⟩ := (LeftO.behind left (XP := fun mg h => XP mg h ∧ RecFacts r.records h) (fun s hs => ⟨hX s hs, hRf s hs⟩) hch w).2 s' hs'
  have G0 : Ground q loose [] XP w s (s.heap.nsMap mainGlobals) (s.heap.nsMap builtinsNs) s.heap := ⟨G00.T, G00.B, G00.D, G00.TE, G00.TD, G00.W, G00.X.1, G00.cls, G00.has, G00.apart, G00.once, G00.K⟩
  have RF := G00.X.2
  have hT' := hT
  refine ⟨s₀, hf, hg0, s, hT, fun n hn => ?_, RF.1, RF.2.1, ?_⟩
  · obtain rfl : n = r.name := by split at hn <;> simp_all
    exact pinned_of_view hg G0 hdef hp hk
  have hgens : s.gens = #[] := Array.eq_empty_of_size_eq_zero (beq_iff_eq.mp hgens)
  have G : Ground q loose r.records XP w s _ _ s.heap := RF.ground G0
  intro args hpre hlay ord hord
  obtain ⟨⟨vs, s₁⟩, hlaid⟩ := Option.isSome_iff_exists.mp (layAllW_isSome (P := w.params) (ord := ord) G.has args r.args s (pre_splitW hpre).1)
  have keeps := layAllW_keeps _ _ _ hlaid
  have hal := layAllW_rest _ _ _ hlaid
  obtain ⟨as, hrd, hin, hold⟩ := reads_layAllW hord _ _ _ hlaid hlay s₁.heap (fun _ _ e => e)
  have L : Laid r.records w s s₁ args vs as := ⟨⟨ord, hord, hlaid⟩, hrd, hin, hold, keeps, hal.1.trans hgens, hal.2.2.1⟩
  have G₁ := G.keeps hXk keeps
  obtain ⟨a, o, pm, cd, doc, dV, kV, h1, h2, h3, h4, h5⟩ := G₁.fn hdef
  have body := call w s s₁ _ _ G₁ (hYk _ _ _ (hY w s y) keeps) a o pm cd doc dV kV h2 h3 h4 h5 (defOf_name hdef ▸ h1) L.gens args vs as hpre hlay L.reads L.well (L.low G.low)
  have hi := ident_freeW hu ha hap
  have hwi : r.claim.within = [] := List.isEmpty_iff.mp k6
  have run := clean_runs (prog := r.prog) (w := w) (s := s₁) (t := do match ← nsGet mainNs r.name with
      | some f => do ret (← PySem.call f vs)
      | none => unsupported "claim.caller:no-such-global")
    (P := fun f s' => r.claim.Ends s args vs s₁ (.ok f) s' ∧ s'.os = s.os ∧ (r.writes = true → namesKept r.prog r.keeps s.heap s'.heap ∧ ∀ x ∈ r.claim.records, ∀ a, classAt s.heap x.1 = some a → recordClass s'.heap a x.1 (x.2.map (·.1)) = true)) (Shared.asleep_of_life hal.2.2.2 hz) ?_
  · obtain ⟨k, f, s', s'', hrun, hsched, hfo, hcase, hos, hkp⟩ := run
    obtain ⟨eh, _, _, eo, _⟩ := Shared.forget_eq hfo
    have hcase := hcase.congr eh
    rw [← eh] at hkp
    rw [← eo] at hos
    have hlife : s'.heap.life = s.heap.life := (runN_life _ _ _ hrun).trans hal.2.2.2
    refine ⟨vs, s₁, hlaid, k, _, s', hsched, ?_, (fun _ i x hx => by rw [hgens] at hx; simp at hx), hkp, by rw [hlife], Shared.rest_eq hos⟩
    rcases hcase with ⟨v, e, d1, d2, d3, d4, d5⟩ | ⟨e, ob, cls, e', _⟩
    · cases e; exact .inl ⟨v, rfl, d1, d2, d3, fun b o y _ => d4 b o y, d5⟩
    · cases e'
  · refine wpC.bind (.ofAny (wpAny_nsGet G₁.T.g ?_))
    rw [h1]
    refine wpC.bind (body.mono fun v s' g => wpC.pure ?_)
    have z := g.laid (c := r.claim) hsame hwi hi L
    exact ⟨_, rfl, ⟨z.1, z.2.1, fun q => ⟨namesKept_of hT' hg r.keeps keeps g.2.1.old, noTable hwr q⟩⟩, z.2.2⟩
end OgTop
end

section
open PySem PySem.W PyProof.Rows
namespace OgTop
theorem said : PySem.Challenge.rw_og0235_01.wellSaid = true := by kernel_rfl
set_option maxHeartbeats 8000000 in
open_top hd for PySem.Challenge.rw_og0235_01.row
end OgTop
end

section
open PySem PySem.W PySem.Calls PyProof.Rows
open PySem.Sem (wp)
namespace Og

/-- What stays through the whole call of the law. -/
structure Cx where
  H : Prop
  prog : Program
  w : World
  K : Frag
  h₀ : Heap
  s₀ : Shared
  p : Program
  loose : List Str
  mg : Str → Option Value
  mb : Str → Option Value
  X : K.In h₀
  T : TopRead p loose mg mb h₀
  nolim : h₀.NoLimit

abbrev Loc := List (Str × Value)
abbrev Led := List (Addr × Obj)

/-- The frame's names and the made objects, as far as they are known. -/
structure St (C : Cx) (L : Addr) (ls : Loc) (σ : Led) (s : Shared) : Prop where
  base : ∃ h tk, s = { C.s₀ with heap := h, toks := tk }
  fr : ∃ m, Fr C.h₀ L s.heap m ∧ ∀ x v, ls.lookup x = some v → m x = some v
  news : News C.h₀ L s.heap σ
  nodup : (σ.map (·.1)).Nodup

def W (C : Cx) (A : Around) (L : Addr) {α : Type} (t : Sem α) (ls : Loc) (σ : Led) (Q : α → Loc → Led → Prop) : Prop :=
  ∀ s, St C L ls σ s → wpC C.H (model C.prog C.w) A t (fun a s' => ∃ ls' σ', St C L ls' σ' s' ∧ Q a ls' σ') s

structure Ok (A : Around) (n : Nat) : Prop where
  handled : A.handled = none
  depth : A.depth + n < recursionLimit
  units : A.units + 8 * n < cLine

section
variable {C : Cx} {A : Around} {L : Addr} {ls : Loc} {σ : Led} {s : Shared}

theorem St.eq {h : Heap} {tk : Nat} (S : St C L ls σ s) : ({ s with heap := h, toks := tk } : Shared) = { C.s₀ with heap := h, toks := tk } := by
  obtain ⟨h', tk', e⟩ := S.base
  rw [e]
theorem St.toks {tk : Nat} (S : St C L ls σ s) : St C L ls σ { s with toks := tk } := by
  obtain ⟨⟨h', tk', e⟩, f, n, d⟩ := S
  exact ⟨⟨h', tk, by rw [e]⟩, f, n, d⟩
theorem St.get {a : Addr} {o : Obj} (S : St C L ls σ s) (hm : (a, o) ∈ σ) : s.heap.get? a = some o := (S.news _ hm).1
theorem St.lt {p : Addr × Obj} (S : St C L ls σ s) (hm : p ∈ σ) : p.1 < s.heap.objs.size := Heap.lt_size (S.news _ hm).1
theorem St.kin (S : St C L ls σ s) : C.K.In s.heap := by
  obtain ⟨m, F, _⟩ := S.fr
  exact C.X.keeps F.keep
theorem St.keeps {h' : Heap} {tk : Nat} (S : St C L ls σ s) (hk : ∀ b o, s.heap.get? b = some o → h'.get? b = some o) : St C L ls σ { s with heap := h', toks := tk } := by
  obtain ⟨b, ⟨m, F, hl⟩, n, d⟩ := id S
  exact ⟨⟨h', tk, S.eq⟩, ⟨m, F.keeps hk, hl⟩, fun p hp => ⟨hk _ _ (n p hp).1, (n p hp).2⟩, d⟩
theorem St.add {h' : Heap} {tk : Nat} {a : Addr} {o : Obj} (S : St C L ls σ s) (hk : ∀ b o, s.heap.get? b = some o → h'.get? b = some o) (ha : s.heap.objs.size ≤ a) (ho : h'.get? a = some o) :
    St C L ls ((a, o) :: σ) { s with heap := h', toks := tk } := by
  have S' := S.keeps (tk := tk) hk
  obtain ⟨m, F, _⟩ := S.fr
  refine ⟨S'.base, S'.fr, fun p hp => ?_, ?_⟩
  · rcases List.mem_cons.mp hp with rfl | hp
    · refine ⟨ho, Nat.ne_of_gt (Nat.lt_of_lt_of_le F.ns.lt ha), ?_⟩
      cases q : C.h₀.get? a with
      | none => rfl
      | some o' => exact absurd (Heap.lt_size (F.keep _ _ q)) (Nat.not_lt.mpr ha)
    · exact S'.news p hp
  · rw [List.map_cons, List.nodup_cons]
    refine ⟨fun hm => ?_, S.nodup⟩
    obtain ⟨p, hp, e⟩ := List.mem_map.mp hm
    exact absurd (S.lt hp) (by rw [e]; exact Nat.not_lt.mpr ha)
theorem St.push {tk : Nat} {o : Obj} (S : St C L ls σ s) (hf : o.isFreed = false) : St C L ls ((s.heap.objs.size, o) :: σ) { s with heap := s.heap.push o, toks := tk } :=
  S.add (fun _ _ e => Heap.get?_push_of_some _ e) (Nat.le_refl _) (Heap.get?_push_size _ hf)
theorem St.sub {τ : Led} (S : St C L ls σ s) (hs : ∀ p ∈ τ, p ∈ σ) (hd : (τ.map (·.1)).Nodup) : St C L ls τ s := ⟨S.base, S.fr, fun p hp => S.news p (hs p hp), hd⟩
theorem St.perm {τ : Led} (S : St C L ls σ s) (h : σ.Perm τ) : St C L ls τ s := S.sub (fun _ hp => h.mem_iff.mpr hp) ((h.map _).nodup_iff.mp S.nodup)
theorem St.tail {p : Addr × Obj} (S : St C L ls (p :: σ) s) : St C L ls σ s := S.sub (fun _ h => .tail _ h) (List.nodup_cons.mp S.nodup).2
theorem St.drop {τ : Led} (S : St C L ls (τ ++ σ) s) : St C L ls σ s := by
  refine S.sub (fun _ h => List.mem_append_right _ h) ?_
  have := S.nodup
  rw [List.map_append, List.nodup_append] at this
  exact this.2.1
theorem St.locs {ls' : Loc} (S : St C L ls σ s) (h : ∀ x v, ls'.lookup x = some v → ls.lookup x = some v) : St C L ls' σ s := by
  obtain ⟨m, F, hl⟩ := S.fr
  exact ⟨S.base, ⟨m, F, fun x v e => hl x v (h x v e)⟩, S.news, S.nodup⟩

/-- An object of the ledger is changed. -/
theorem St.upd {h' : Heap} {tk : Nat} {pre post : Led} {a : Addr} {o o' : Obj} (S : St C L ls (pre ++ (a, o) :: post) s) (hb : Heap.SameBut a s.heap h') (ho : h'.get? a = some o') :
    St C L ls (pre ++ (a, o') :: post) { s with heap := h', toks := tk } := by
  have D := S.news (a, o) (by simp)
  have nd := S.nodup
  simp only [List.map_append, List.map_cons] at nd
  have na : ∀ p ∈ pre ++ post, p.1 ≠ a := by
    intro p hp e
    have hp' : a ∈ pre.map (·.1) ++ post.map (·.1) := by
      rw [← List.map_append, ← e]
      exact List.mem_map_of_mem hp
    have := (List.perm_middle.nodup_iff).mp nd
    exact (List.nodup_cons.mp this).1 hp'
  obtain ⟨m, F, hl⟩ := S.fr
  refine ⟨⟨h', tk, S.eq⟩, ⟨m, ?_, hl⟩, fun p hp => ?_, ?_⟩
  · refine ⟨?_, fun b x q => (hb.2 b fun z => ?_).trans (F.keep b x q), F.above⟩
    · obtain ⟨oL, es, ep, hL, r⟩ := F.ns
      exact ⟨oL, es, ep, (hb.2 L (Ne.symm D.2.1)).trans hL, r⟩
    · have := D.2.2; rw [← z, q] at this; cases this
  · rcases List.mem_append.mp hp with q | q
    · have P := S.news p (List.mem_append_left _ q)
      exact ⟨(hb.2 _ (na p (List.mem_append_left _ q))).trans P.1, P.2⟩
    · rcases List.mem_cons.mp q with rfl | q
      · exact ⟨ho, D.2⟩
      · have P := S.news p (List.mem_append_right _ (.tail _ q))
        exact ⟨(hb.2 _ (na p (List.mem_append_right _ q))).trans P.1, P.2⟩
  · simpa only [List.map_append, List.map_cons] using nd

def setL (x : Str) (v : Value) : Loc → Loc
  | [] => [(x, v)]
  | (y, u) :: r => if x = y then (x, v) :: r else (y, u) :: setL x v r
theorem setL_lookup (x y : Str) (v : Value) : ∀ ls : Loc, (setL x v ls).lookup y = if y = x then some v else ls.lookup y
  | [] => by
    unfold setL
    by_cases h : y = x
    · subst h; simp
    · have : (y == x) = false := beq_eq_false_iff_ne.mpr h
      simp [List.lookup_cons, this, h]
  | (z, u) :: r => by
    unfold setL
    by_cases h : x = z
    · subst h
      rw [if_pos rfl]
      by_cases h' : y = x
      · subst h'; simp
      · have : (y == x) = false := beq_eq_false_iff_ne.mpr h'
        simp [List.lookup_cons, this, h']
    · rw [if_neg h]
      by_cases h' : y = z
      · subst h'
        have : ¬ y = x := fun e => h e.symm
        simp [this]
      · have : (y == z) = false := beq_eq_false_iff_ne.mpr h'
        simp only [List.lookup_cons, this]
        exact setL_lookup x y v r
theorem St.store {h' : Heap} {tk : Nat} {x : Str} {v : Value} {m : Str → Option Value} (S : St C L ls σ s) (F : Fr C.h₀ L s.heap m) (hl : ∀ x v, ls.lookup x = some v → m x = some v)
    (hn : h'.Ns L (fun y => if y = x then some v else m y)) (hb : Heap.SameBut L s.heap h') : St C L (setL x v ls) σ { s with heap := h', toks := tk } := by
  refine ⟨⟨h', tk, S.eq⟩, ⟨_, F.set hn hb, fun y u e => ?_⟩, S.news.set hb, S.nodup⟩
  rw [setL_lookup] at e
  by_cases h : y = x
  · rw [if_pos h] at e ⊢; exact e
  · rw [if_neg h] at e ⊢; exact hl y u e
end

section
variable {C : Cx} {A : Around} {L : Addr} {ls : Loc} {σ : Led} {α β : Type}
theorem W.mono {t : Sem α} {Q Q' : α → Loc → Led → Prop} (h : W C A L t ls σ Q) (hq : ∀ a ls' σ', Q a ls' σ' → Q' a ls' σ') : W C A L t ls σ Q' :=
  fun s S => (h s S).mono fun a s' ⟨ls', σ', S', q⟩ => ⟨ls', σ', S', hq _ _ _ q⟩
theorem W.pure {a : α} {Q : α → Loc → Led → Prop} (h : Q a ls σ) : W C A L (Pure.pure a) ls σ Q := fun s S => .pure ⟨ls, σ, S, h⟩
theorem W.bind {m : Sem α} {f : α → Sem β} {Q : β → Loc → Led → Prop} (h : W C A L m ls σ fun a ls' σ' => W C A L (f a) ls' σ' Q) : W C A L (m >>= f) ls σ Q :=
  fun s S => .bind ((h s S).mono fun a s' ⟨_, _, S', q⟩ => q s' S')
theorem W.leaf {t : Sem α} {Q : α → Loc → Led → Prop}
    (h : ∀ s (R : α → Shared → Prop), St C L ls σ s → (∀ a ls' σ' s', St C L ls' σ' s' → Q a ls' σ' → R a s') → wpAny (model C.prog C.w) A t R (fun _ _ => False) s) : W C A L t ls σ Q :=
  fun s S => .ofAny (h s _ S fun _ ls' σ' _ S' q => ⟨ls', σ', S', q⟩)
theorem W.holding {vs : List Value} {m : Sem α} {Q : α → Loc → Led → Prop} (h : W C A L m ls σ Q) : W C A L (holding vs m) ls σ Q := fun s S => .holding (h s S)
theorem W.keep {vs : List Value} {m : Sem α} {Q : α → Loc → Led → Prop} (h : W C A L m ls σ Q) : W C A L (m.keep vs) ls σ Q := fun s S => .keep (h s S)
theorem W.standAt {pos : Pos} {Q : Unit → Loc → Led → Prop} (h : Q () ls σ) : W C A L (standAt pos) ls σ Q := fun _ S => .standAt ⟨_, _, S, h⟩
theorem W.rule {tag : String} {Q : Unit → Loc → Led → Prop} (h : Q () ls σ) : W C A L (rule tag) ls σ Q := fun _ S => .rule ⟨_, _, S, h⟩
theorem W.point {Q : Unit → Loc → Led → Prop} (h : Q () ls σ) : W C A L point ls σ Q := fun _ S => .point ⟨_, _, S, h⟩
theorem W.operate {vs : List Value} {m : Sem Value} {Q : Value → Loc → Led → Prop} (h : W C A L m ls σ Q) : W C A L (operate vs m) ls σ Q := fun s S => .operate (h s S)
theorem W.release {vs ks : List Value} {Q : Unit → Loc → Led → Prop} (h : Q () ls σ) : W C A L (release vs ks) ls σ Q := fun _ S => .release ⟨_, _, S, h⟩
theorem W.bindName {env : Env} {x : Str} {v : Value} {Q : Unit → Loc → Led → Prop} (h : W C A L (storeName env x v) ls σ Q) : W C A L (bindName env x v) ls σ Q := fun s S => .bindName (h s S)
theorem W.onRaise {m : Sem α} {k : Value → Sem Unit} {Q : α → Loc → Led → Prop} (h : W C A L m ls σ Q) : W C A L (m.onRaise k) ls σ Q := fun s S => .onRaise (h s S)
theorem W.tryCatch {m : Sem α} {k : Value → Sem α} {Q : α → Loc → Led → Prop} (h : W C A L m ls σ Q) : W C A L (tryCatch m k) ls σ Q := fun s S => .tryCatch (h s S)
theorem W.attempt {m : Sem α} {Q : Except Value α → Loc → Led → Prop} (h : W C A L m ls σ fun a => Q (.ok a)) : W C A L m.attempt ls σ Q := fun s S => .attempt (h s S)
theorem W.ite {c : Prop} [Decidable c] {a b : Sem α} {Q : α → Loc → Led → Prop} (h1 : c → W C A L a ls σ Q) (h2 : ¬ c → W C A L b ls σ Q) : W C A L (if c then a else b) ls σ Q :=
  fun s S => .ite (fun hc => h1 hc s S) fun hc => h2 hc s S
theorem W.perm {t : Sem α} {τ : Led} {Q : α → Loc → Led → Prop} (h : σ.Perm τ) (h' : W C A L t ls τ Q) : W C A L t ls σ Q := fun s S => h' s (S.perm h)
theorem W.dropTo {t : Sem α} {τ : Led} {Q : α → Loc → Led → Prop} (h : W C A L t ls σ Q) : W C A L t ls (τ ++ σ) Q := fun s S => h s S.drop
theorem W.drop1 {t : Sem α} {p : Addr × Obj} {Q : α → Loc → Led → Prop} (h : W C A L t ls σ Q) : W C A L t ls (p :: σ) Q := fun s S => h s S.tail
theorem W.locs {t : Sem α} {ls' : Loc} {Q : α → Loc → Led → Prop} (hl : ∀ x v, ls'.lookup x = some v → ls.lookup x = some v) (h : W C A L t ls' σ Q) : W C A L t ls σ Q := fun s S => h s (S.locs hl)
theorem W.nodup {t : Sem α} {Q : α → Loc → Led → Prop} (h : (σ.map (·.1)).Nodup → W C A L t ls σ Q) : W C A L t ls σ Q := fun s S => h S.nodup s S
end
end Og
end

section
open PySem PySem.W PySem.Calls PyProof.Rows
open PySem.Sem (wp)
namespace Og

structure Ev (L : Addr) (env : Env) : Prop where
  loc : env.locals = L
  kind : env.scope.kind = .function
  glob : env.globals = mainGlobals
  blt : env.builtins = builtinsNs

section
variable {C : Cx} {A : Around} {L : Addr} {ls : Loc} {σ : Led} {α β : Type} {env : Env}

/-! ### names -/
theorem wStoreLocal {x : Str} {v : Value} {Q : Unit → Loc → Led → Prop} (ev : Ev L env) (hx : env.kindOf x = some .local) (h : Q () (setL x v ls) σ) : W C A L (storeName env x v) ls σ Q := by
  refine .leaf fun s R S k => ?_
  obtain ⟨m, F, hl⟩ := S.fr
  have F' : Fr C.h₀ env.locals s.heap m := by rw [ev.loc]; exact F
  refine wpAny_storeName_local hx F'.ns (fun h' hn hb => ?_) (by rw [ev.kind]; rfl)
  rw [ev.loc] at hn hb
  exact k _ _ _ _ (S.store F hl hn hb) h
theorem wLoadLocal {x : Str} {v : Value} {Q : Value → Loc → Led → Prop} (ev : Ev L env) (hx : env.kindOf x = some .local) (hv : ls.lookup x = some v) (h : Q v ls σ) : W C A L (loadName env x) ls σ Q := by
  refine .leaf fun s R S k => ?_
  obtain ⟨m, F, hl⟩ := S.fr
  have F' : Fr C.h₀ env.locals s.heap m := by rw [ev.loc]; exact F
  exact wpAny_loadName_local ev.kind hx F'.ns (hl _ _ hv) (k _ _ _ _ S h)
theorem wName {x : Str} {pos : Pos} {Q : Value → Loc → Led → Prop} (hd : (x == ("__debug__" : Str)) = false) (h : W C A L (loadName env x) ls σ Q) : W C A L (eval (.Name x pos) env) ls σ Q := by
  rw [eval_Name env x pos hd]
  exact .bind (.standAt h)
theorem wNameL {x : Str} {pos : Pos} {v : Value} {Q : Value → Loc → Led → Prop} (ev : Ev L env) (hx : env.kindOf x = some .local) (hv : ls.lookup x = some v) (hd : (x == ("__debug__" : Str)) = false) (h : Q v ls σ) :
    W C A L (eval (.Name x pos) env) ls σ Q := wName hd (wLoadLocal ev hx hv h)
theorem wNameG {x : Str} {pos : Pos} {v : Value} {Q : Value → Loc → Led → Prop} (ev : Ev L env) (hx : env.kindOf x = some .globalImplicit) (hv : nsIn C.K mainGlobals x = some (some v)) (hd : (x == ("__debug__" : Str)) = false) (h : Q v ls σ) :
    W C A L (eval (.Name x pos) env) ls σ Q := .leaf fun s R S k => by
  obtain ⟨m, F, hl⟩ := S.fr
  refine Calls.Name_function_global ev.kind hx (Calls.loadGlobal_global (mg := C.mg) ?_ (mg_of C.X C.T.g hv) (k _ _ _ _ S h)) hd
  rw [ev.glob]; exact C.T.g.keeps F.keep
theorem wNameB {x : Str} {pos : Pos} {v : Value} {Q : Value → Loc → Led → Prop} (ev : Ev L env) (hx : env.kindOf x = some .globalImplicit) (hv : nsIn C.K mainGlobals x = some none) (hb : bootBuiltins x = some v) (hn : x ≠ "__name__") (hd : (x == ("__debug__" : Str)) = false) (h : Q v ls σ) :
    W C A L (eval (.Name x pos) env) ls σ Q := .leaf fun s R S k => by
  obtain ⟨m, F, hl⟩ := S.fr
  refine Calls.Name_function_global ev.kind hx (Calls.loadGlobal_builtin (mg := C.mg) (mb := C.mb) ?_ (mg_none_of C.X C.T.g hv) ?_ ((C.T.builtins x hn).trans hb) (k _ _ _ _ S h)) hd
  · rw [ev.glob]; exact C.T.g.keeps F.keep
  · rw [ev.blt]; exact C.T.b.keeps F.keep

/-! ### written values -/
theorem wConstInt {i : Int} {k : Nat} {pos : Pos} {Q : Value → Loc → Led → Prop} (h : ∀ t, Q (.int i t) ls σ) : W C A L (eval (.Constant (.int i) k pos) env) ls σ Q :=
  .leaf fun s R S kk => wpAny_Constant_int (kk _ _ _ _ S.toks (h _))
theorem wConstStr {x : Str} {k : Nat} {pos : Pos} {Q : Value → Loc → Led → Prop} (h : ∀ t, Q (.str x t) ls σ) : W C A L (eval (.Constant (.str x) k pos) env) ls σ Q :=
  .leaf fun s R S kk => Calls.Constant_str (kk _ _ _ _ S.toks (h _))
theorem wConstBytes {b : List UInt8} {k : Nat} {pos : Pos} {Q : Value → Loc → Led → Prop} (h : ∀ t, Q (.bytes b.toArray t) ls σ) : W C A L (eval (.Constant (.bytes b) k pos) env) ls σ Q :=
  .leaf fun s R S kk => fun _ _ _ => kk _ _ _ _ S.toks (h _)
theorem wConstBool {c : Bool} {k : Nat} {pos : Pos} {Q : Value → Loc → Led → Prop} (h : Q (.bool c) ls σ) : W C A L (eval (.Constant (.bool c) k pos) env) ls σ Q := .pure h
theorem wConstNone {k : Nat} {pos : Pos} {Q : Value → Loc → Led → Prop} (h : Q .none ls σ) : W C A L (eval (.Constant .none k pos) env) ls σ Q := .pure h

/-! ### operators -/
theorem wBinOp {l r : Expr} {op : Operator} {pos : Pos} {Q : Value → Loc → Led → Prop}
    (h : W C A L (eval l env) ls σ fun a ls σ => W C A L (eval r env) ls σ fun b ls σ => W C A L (binaryOp op a b) ls σ Q) : W C A L (eval (.BinOp l op r pos) env) ls σ Q := by
  rw [eval_BinOp]
  exact .bind (h.mono fun a _ _ h => .bind (.holding (h.mono fun b _ _ h => .bind (.standAt (.operate h)))))
theorem wUnaryOp {x : Expr} {op : UnaryOp} {pos : Pos} {Q : Value → Loc → Led → Prop} (h : W C A L (eval x env) ls σ fun v ls σ => W C A L (unaryOp op v) ls σ Q) : W C A L (eval (.UnaryOp op x pos) env) ls σ Q := by
  rw [PyProof.Rows.eval_UnaryOp]
  exact .bind (h.mono fun v _ _ h => .bind (.standAt (.holding h)))
theorem wNotBool {b : Bool} {Q : Value → Loc → Led → Prop} (h : Q (.bool (!b)) ls σ) : W C A L (unaryOp .Not (.bool b)) ls σ Q :=
  .leaf fun s R S k => PyProof.Rows.not_of (wpAny_truthy_bool (k _ _ _ _ S h))
theorem wIfExp {test body orelse : Expr} {pos : Pos} {Q : Value → Loc → Led → Prop}
    (h : W C A L (isTrue test env (eval test env)) ls σ fun c ls σ => if c then W C A L (eval body env) ls σ Q else W C A L (eval orelse env) ls σ Q) : W C A L (eval (.IfExp test body orelse pos) env) ls σ Q := by
  rw [PyProof.Rows.eval_IfExp]
  refine .bind (h.mono fun c _ _ h => ?_)
  cases c <;> exact h
theorem wCompare {l r : Expr} {op : CmpOp} {pos : Pos} {Q : Value → Loc → Led → Prop} (hm : behindInMarks op r = false)
    (h : W C A L (eval l env) ls σ fun a ls σ => W C A L (eval r env) ls σ fun b ls σ => W C A L (compareOp op a b) ls σ Q) : W C A L (eval (.Compare l [op] [r] pos) env) ls σ Q := by
  rw [eval_Compare1, markedBehindIn_of_false hm]
  exact .bind (h.mono fun a _ _ h => .bind (.holding (h.mono fun b _ _ h => .bind (.standAt (.operate h)))))
theorem wIsTrueCompare {l r : Expr} {op : CmpOp} {pos : Pos} {whole : Sem Value} {Q : Bool → Loc → Led → Prop} (hm : behindInMarks op r = false)
    (h : W C A L (eval l env) ls σ fun a ls σ => W C A L (eval r env) ls σ fun b ls σ => W C A L (compareOp op a b) ls σ fun c ls σ => W C A L (truthy c) ls σ Q) : W C A L (isTrue (.Compare l [op] [r] pos) env whole) ls σ Q := by
  rw [isTrue_Compare1, markedBehindIn_of_false hm]
  exact .bind (h.mono fun a _ _ h => .bind (.holding (h.mono fun b _ _ h => .bind (.standAt (.bind (.operate (h.mono fun c _ _ h => .holding h)))))))
/-- a < b < c and its like. -/
theorem wIsTrueChain {l r₁ r₂ : Expr} {o₁ o₂ : CmpOp} {pos : Pos} {whole : Sem Value} {Q : Bool → Loc → Led → Prop} (hm : behindInMarks o₂ r₂ = false)
    (h : W C A L (eval l env) ls σ fun a ls σ => W C A L (eval r₁ env) ls σ fun b ls σ => W C A L (compareOp o₁ a b) ls σ fun c ls σ => W C A L (truthy c) ls σ fun t ls σ =>
      if t then W C A L (eval r₂ env) ls σ fun d ls σ => W C A L (compareOp o₂ b d) ls σ fun e ls σ => W C A L (truthy e) ls σ Q else Q false ls σ) : W C A L (isTrue (.Compare l [o₁, o₂] [r₁, r₂] pos) env whole) ls σ Q := by
  have e : isTrue (.Compare l [o₁, o₂] [r₁, r₂] pos) env whole = (do
      let a ← eval l env
      let b ← PySem.holding [a] (eval r₁ env)
      PySem.standAt pos
      let c ← PySem.holding [a, b] (compareOp o₁ a b)
      PySem.release [a, b] [c]
      if ← PySem.holding [c, b] (truthy c) then do
        let d ← PySem.holding [b] (markedBehindIn o₂ r₂ (eval r₂ env))
        PySem.standAt pos
        let e ← PySem.operate [b, d] (compareOp o₂ b d)
        PySem.holding [e] (truthy e)
      else Pure.pure false) := rfl
  rw [e, markedBehindIn_of_false hm]
  refine .bind (h.mono fun a _ _ h => .bind (.holding (h.mono fun b _ _ h => .bind (.standAt (.bind (.holding (h.mono fun c _ _ h => .bind (.release (.bind (.holding (h.mono fun t _ _ h => ?_))))))))))) 
  cases t
  · exact .pure h
  · exact .bind (.holding ((show W C A L (eval r₂ env) _ _ _ from h).mono fun d _ _ h => .bind (.standAt (.bind (.operate (h.mono fun e _ _ h => .holding h))))))
theorem wIsTrueNot {x : Expr} {pos : Pos} {whole : Sem Value} {Q : Bool → Loc → Led → Prop} (h : W C A L (isTrue x env (eval x env)) ls σ fun c ls σ => Q (!c) ls σ) : W C A L (isTrue (.UnaryOp .Not x pos) env whole) ls σ Q := by
  show W C A L (do return !(← isTrue x env (eval x env))) ls σ Q
  exact .bind (h.mono fun c _ _ h => .pure h)
theorem wIsTrueAnd {x : Expr} {rest : List Expr} {pos : Pos} {whole : Sem Value} {Q : Bool → Loc → Led → Prop}
    (h : W C A L (isTrue x env (eval x env)) ls σ fun c ls σ => if c then W C A L (isTrue (.BoolOp .And rest pos) env whole) ls σ Q else Q false ls σ) : W C A L (isTrue (.BoolOp .And (x :: rest) pos) env whole) ls σ Q := by
  show W C A L (do
    match BoolOp.And, ← isTrue x env (eval x env) with
    | .And, false => Pure.pure false
    | .Or, true => Pure.pure true
    | _, _ => allTrue .And rest env) ls σ Q
  refine .bind (h.mono fun c _ _ h => ?_)
  cases c with
  | false => exact .pure h
  | true => exact h
theorem wIsTrueAndNil {pos : Pos} {whole : Sem Value} {Q : Bool → Loc → Led → Prop} (h : Q true ls σ) : W C A L (isTrue (.BoolOp .And [] pos) env whole) ls σ Q := .pure (a := true) h
theorem wIsTrueOr {x : Expr} {rest : List Expr} {pos : Pos} {whole : Sem Value} {Q : Bool → Loc → Led → Prop}
    (h : W C A L (isTrue x env (eval x env)) ls σ fun c ls σ => if c then Q true ls σ else W C A L (isTrue (.BoolOp .Or rest pos) env whole) ls σ Q) : W C A L (isTrue (.BoolOp .Or (x :: rest) pos) env whole) ls σ Q := by
  show W C A L (do
    match BoolOp.Or, ← isTrue x env (eval x env) with
    | .And, false => Pure.pure false
    | .Or, true => Pure.pure true
    | _, _ => allTrue .Or rest env) ls σ Q
  refine .bind (h.mono fun c _ _ h => ?_)
  cases c with
  | false => exact h
  | true => exact .pure h
theorem wIsTrueOrNil {pos : Pos} {whole : Sem Value} {Q : Bool → Loc → Led → Prop} (h : Q false ls σ) : W C A L (isTrue (.BoolOp .Or [] pos) env whole) ls σ Q := .pure (a := false) h
theorem wIsTruePlain {e : Expr} {whole : Sem Value} {Q : Bool → Loc → Led → Prop} (he : isTrue e env whole = (do let v ← whole; PySem.standAt e.pos; PySem.holding [v] (truthy v)))
    (h : W C A L whole ls σ fun v ls σ => W C A L (truthy v) ls σ Q) : W C A L (isTrue e env whole) ls σ Q := by
  rw [he]
  exact .bind (h.mono fun v _ _ h => .bind (.standAt (.holding h)))
theorem wTruthyBool {b : Bool} {Q : Bool → Loc → Led → Prop} (h : Q b ls σ) : W C A L (truthy (.bool b)) ls σ Q := .leaf fun s R S k => wpAny_truthy_bool (k _ _ _ _ S h)
theorem wBoolOpOne {op : BoolOp} {e : Expr} {pos : Pos} {Q : Value → Loc → Led → Prop} (h : W C A L (eval e env) ls σ Q) : W C A L (eval (.BoolOp op [e] pos) env) ls σ Q := h
theorem wBoolOpAnd {e₁ e₂ : Expr} {rest : List Expr} {pos : Pos} {Q : Value → Loc → Led → Prop}
    (h : W C A L (eval e₁ env) ls σ fun v ls σ => W C A L (truthy v) ls σ fun c ls σ => if c then W C A L (eval (.BoolOp .And (e₂ :: rest) pos) env) ls σ Q else Q v ls σ) : W C A L (eval (.BoolOp .And (e₁ :: e₂ :: rest) pos) env) ls σ Q := by
  show W C A L (do
    let v ← eval e₁ env
    PySem.standAt pos
    let c ← PySem.holding [v] (truthy v)
    match BoolOp.And, c with
    | .And, false | .Or, true => Pure.pure v
    | _, _ => boolOp pos .And (eval e₂ env :: evalEach rest env)) ls σ Q
  refine .bind (h.mono fun v _ _ h => .bind (.standAt (.bind (.holding (h.mono fun c _ _ h => ?_)))))
  cases c with
  | false => exact .pure h
  | true => exact h
theorem wBoolOpOr {e₁ e₂ : Expr} {rest : List Expr} {pos : Pos} {Q : Value → Loc → Led → Prop}
    (h : W C A L (eval e₁ env) ls σ fun v ls σ => W C A L (truthy v) ls σ fun c ls σ => if c then Q v ls σ else W C A L (eval (.BoolOp .Or (e₂ :: rest) pos) env) ls σ Q) : W C A L (eval (.BoolOp .Or (e₁ :: e₂ :: rest) pos) env) ls σ Q := by
  show W C A L (do
    let v ← eval e₁ env
    PySem.standAt pos
    let c ← PySem.holding [v] (truthy v)
    match BoolOp.Or, c with
    | .And, false | .Or, true => Pure.pure v
    | _, _ => boolOp pos .Or (eval e₂ env :: evalEach rest env)) ls σ Q
  refine .bind (h.mono fun v _ _ h => .bind (.standAt (.bind (.holding (h.mono fun c _ _ h => ?_)))))
  cases c with
  | false => exact h
  | true => exact .pure h

/-! ### displays, attributes, places -/
theorem wArgsNil {Q : List Value → Loc → Led → Prop} {pos : Pos} (h : Q [] ls σ) : W C A L (spliced (backTo pos (starEach [] env))) ls σ Q := .pure h
theorem wArgsCons {e : Expr} {rest : List Expr} {pos : Pos} {Q : List Value → Loc → Led → Prop} (he : starEach (e :: rest) env = (false, eval e env) :: starEach rest env)
    (h : W C A L (eval e env) ls σ fun v ls σ => W C A L (spliced (backTo pos (starEach rest env))) ls σ fun vs ls σ => Q (v :: vs) ls σ) : W C A L (spliced (backTo pos (starEach (e :: rest) env))) ls σ Q := by
  rw [he]
  show W C A L (do
    let v ← eval e env
    let here ← (Pure.pure [v] : Sem (List Value))
    return here ++ (← PySem.holding here (spliced (backTo pos (starEach rest env))))) ls σ Q
  exact .bind (h.mono fun v _ _ h => .bind (.pure (.bind (.holding (h.mono fun vs _ _ h => .pure h)))))
theorem wListD {elts : List Expr} {pos : Pos} {Q : Value → Loc → Led → Prop} (h : W C A L (spliced (backTo pos (starEach elts env))) ls σ fun vs ls σ => W C A L (newList vs) ls σ Q) : W C A L (eval (.List elts pos) env) ls σ Q := by
  show W C A L (do PySem.standAt pos; newList (← spliced (backTo pos (starEach elts env)))) ls σ Q
  exact .bind (.standAt (.bind h))
theorem wTupleD {elts : List Expr} {k : Nat} {pos : Pos} {Q : Value → Loc → Led → Prop} (h : W C A L (spliced (backTo pos (starEach elts env))) ls σ fun vs ls σ => W C A L (newTuple vs) ls σ Q) : W C A L (eval (.Tuple elts k pos) env) ls σ Q := by
  show W C A L (do PySem.standAt pos; newTuple (← spliced (backTo pos (starEach elts env)))) ls σ Q
  exact .bind (.standAt (.bind h))
theorem wNewObj {cls : String} {d : Data} {v : Sem Value} {Q : Value → Loc → Led → Prop} (hv : ∀ (s : Shared) (R : Value → Shared → Prop), R (.ref s.heap.objs.size) { s with heap := s.heap.push { cls := .type cls, data := d } } → wpAny (model C.prog C.w) A v R (fun _ _ => False) s)
    (hf : ({ cls := .type cls, data := d } : Obj).isFreed = false) (h : ∀ a, Q (.ref a) ls ((a, { cls := .type cls, data := d }) :: σ)) : W C A L v ls σ Q :=
  .leaf fun s R S k => hv s R (k _ _ _ _ (S.push (tk := s.toks) hf) (h _))
theorem wNewList {vs : List Value} {Q : Value → Loc → Led → Prop} (hsz : vs.length ≤ sizeLine) (h : ∀ a, Q (.ref a) ls ((a, { cls := .type "list", data := .seq vs.toArray }) :: σ)) : W C A L (newList vs) ls σ Q :=
  wNewObj (fun s R h => wpAny_newObj_type h (by show vs.toArray.size ≤ sizeLine; rw [List.size_toArray]; exact hsz)) rfl h
theorem wNewTuple {vs : List Value} {Q : Value → Loc → Led → Prop} (hsz : vs.length ≤ sizeLine) (h : ∀ a, Q (.ref a) ls ((a, { cls := .type "tuple", data := .seq vs.toArray }) :: σ)) : W C A L (newTuple vs) ls σ Q :=
  wNewObj (fun s R h => wpAny_newObj_type h (by show vs.toArray.size ≤ sizeLine; rw [List.size_toArray]; exact hsz)) rfl h
theorem wLetTemporaryGo {b : Expr} {o r : Value} {Q : Unit → Loc → Led → Prop} (h : Q () ls σ) : W C A L (letTemporaryGo b o r) ls σ Q := .leaf fun s R S k => wpAny_letTemporaryGo (k _ _ _ _ S h)
theorem wAttribute {value : Expr} {attr : Str} {pos : Pos} {Q : Value → Loc → Led → Prop}
    (he : eval (.Attribute value attr pos) env = (do
      let o ← eval value env
      PySem.standAt pos.atName
      let r ← PySem.holding [o] (getAttr o attr true)
      PySem.letTemporaryGo value o r
      Pure.pure r))
    (h : W C A L (eval value env) ls σ fun o ls σ => W C A L (getAttr o attr true) ls σ Q) : W C A L (eval (.Attribute value attr pos) env) ls σ Q := by
  rw [he]
  exact .bind (h.mono fun o _ _ h => .bind (.standAt (.bind (.holding (h.mono fun r _ _ h => .bind (wLetTemporaryGo (.pure h)))))))
theorem wSubscript {value slice : Expr} {pos : Pos} {Q : Value → Loc → Led → Prop}
    (h : W C A L (eval value env) ls σ fun o ls σ => W C A L (eval slice env) ls σ fun i ls σ => W C A L (subscriptTail value slice o i) ls σ Q) : W C A L (eval (.Subscript value slice pos) env) ls σ Q := by
  rw [eval_Subscript]
  exact .bind (h.mono fun o _ _ h => .bind (.holding (h.mono fun i _ _ h => .bind (.standAt h))))
theorem wSlice {lo up st : Option Expr} {pos : Pos} {Q : Value → Loc → Led → Prop}
    (h : W C A L (evalPart lo env) ls σ fun l ls σ => W C A L (evalPart up env) ls σ fun u ls σ => W C A L (evalPart st env) ls σ fun t ls σ => ∀ a, Q (.ref a) ls ((a, { cls := .type "slice", data := .fields #[l, u, t] }) :: σ)) :
    W C A L (eval (.Slice lo up st pos) env) ls σ Q := by
  rw [arm_eval_Slice]
  exact .bind (h.mono fun l _ _ h => .bind (.holding (h.mono fun u _ _ h => .bind (.holding (h.mono fun t _ _ h => wNewObj (fun s R h => wpAny_newObj_type h) rfl h)))))
theorem wPartNone {Q : Value → Loc → Led → Prop} (h : Q .none ls σ) : W C A L (evalPart none env) ls σ Q := .pure h
theorem wPartSome {e : Expr} {Q : Value → Loc → Led → Prop} (h : W C A L (eval e env) ls σ Q) : W C A L (evalPart (some e) env) ls σ Q := h

/-! ### calls -/
theorem wEvalArgs {f : Value} {args : List (Bool × Sem Value)} {Q : Args → Loc → Led → Prop} (hp : args.any (·.1) = false) (h : W C A L (spliced args) ls σ fun vs ls σ => Q ⟨vs, []⟩ ls σ) : W C A L (evalArgs f true args []) ls σ Q := by
  have e : evalArgs f true args [] = (do
      let pos ← spliced args
      PySem.holding (pos ++ []) (do
        let kw ← (do let x ← evalAll []; Pure.pure (([] : List Str).zip x) : Sem (List (Str × Value)))
        let p ← (Pure.pure pos : Sem (List Value))
        return ⟨p, kw⟩)) := by
    unfold PySem.evalArgs
    match args, hp with
    | [], _ => rfl
    | [(false, x)], _ => rfl
    | (false, _) :: _ :: _, _ => rfl
    | (true, _) :: _, hp => simp at hp
  rw [e]
  exact .bind (h.mono fun vs _ _ h => .holding (.bind (.bind (.pure (.pure (.bind (.pure (.pure h))))))))
/-- What keeps the callee while it is called: no more than a look. -/
def Kept (C : Cx) (f : Value) : Prop := ∀ (A : Around) (E : Value → Shared → Prop) (s : Shared) (Q : Keeper → Shared → Prop), C.K.In s.heap → (∀ k, (k = .frame ∨ k = .machine) → Q k s) → wpAny (model C.prog C.w) A (keeperOf f) Q E s
theorem kept_K {f : Value} (h : keepIn C.K f = true) : Kept C f := fun A E s Q X hq => by
  obtain ⟨k, hk, L⟩ := looks_keep (M := model C.prog C.w) h X
  exact L.here (hq k hk)
theorem kept_builtin {id : String} : Kept C (.builtin id) := fun _ _ _ _ _ hq => wpAny_pure (hq _ (.inr rfl))
theorem kept_type {id : String} : Kept C (.type id) := fun _ _ _ _ _ hq => wpAny_pure (hq _ (.inr rfl))
theorem wCallWith {pos : Pos} {f : Value} {first : List Value} {args : List Expr} {Q : Value → Loc → Led → Prop} (hk : Kept C f) (hp : (backTo pos (starEach args env)).any (·.1) = false)
    (h : W C A L (spliced (backTo pos (starEach args env))) ls σ fun vs ls σ => W C A L (call f (first ++ vs)) ls σ Q) : W C A L (callWith pos f first (backTo pos (starEach args env)) []) ls σ Q := by
  unfold PySem.callWith
  refine .bind (.holding (wEvalArgs hp (h.mono fun vs ls σ h => .bind (.standAt ?_))))
  simp only [hp, List.any_nil, Bool.or_false]
  refine .bind fun s S => ?_
  refine wpC.ofAny (hk _ _ _ _ S.kin fun k hkk => ⟨_, _, S, ?_⟩)
  have tail : ∀ {t : Sem Value}, W C A L t ls σ Q → W C A L (t >>= fun r => PySem.holding [r] point >>= fun _ => Pure.pure r) ls σ Q :=
    fun ht => .bind (ht.mono fun r _ _ hr => .bind (.holding (.point (.pure hr))))
  have marked (mk : Value) : W C A L (callMarked mk f (first ++ vs) []) ls σ Q := by unfold callMarked; exact .keep h
  rcases hkk with rfl | rfl <;> dsimp only
  · split
    · exact tail h
    · exact tail (marked _)
  · exact tail h
theorem wCall {func : Expr} {args : List Expr} {pos : Pos} {Q : Value → Loc → Led → Prop}
    (he : eval (.Call func args [] pos) env = (do PySem.callWith pos (← eval func env) [] (backTo pos (starEach args env)) []))
    (h : W C A L (eval func env) ls σ fun f ls σ => W C A L (PySem.callWith pos f [] (backTo pos (starEach args env)) []) ls σ Q) : W C A L (eval (.Call func args [] pos) env) ls σ Q := by
  rw [he]; exact .bind h
theorem wMethodCall {o : Expr} {name : Str} {apos pos : Pos} {args : List Expr} {pl : Sem Bool} {Q : Value → Loc → Led → Prop}
    (he : eval (.Call (.Attribute o name apos) args [] pos) env = (do
      let ov ← eval o env
      PySem.standAt apos.atName
      let (f, first) ← PySem.holding [ov] (getMethod ov name pl)
      PySem.callWith pos f first (backTo pos (starEach args env)) []))
    (h : W C A L (eval o env) ls σ fun ov ls σ => W C A L (getMethod ov name pl) ls σ fun fx ls σ => W C A L (PySem.callWith pos fx.1 fx.2 (backTo pos (starEach args env)) []) ls σ Q) :
    W C A L (eval (.Call (.Attribute o name apos) args [] pos) env) ls σ Q := by
  rw [he]
  exact .bind (h.mono fun ov _ _ h => .bind (.standAt (.bind (.holding (h.mono fun fx _ _ h => h)))))

/-! ### statements -/
theorem wNil {Q : Flow → Loc → Led → Prop} (h : Q .next ls σ) : W C A L (execs [] env) ls σ Q := .pure h
theorem wCons {st : Stmt} {rest : List Stmt} {Q : Flow → Loc → Led → Prop} (h : W C A L (exec st env) ls σ fun f ls σ => match f with | .next => W C A L (execs rest env) ls σ Q | f => Q f ls σ) : W C A L (execs (st :: rest) env) ls σ Q := by
  rw [execs_cons]
  refine .bind (h.mono fun f _ _ h => ?_)
  cases f <;> first | exact h | exact .pure h
theorem execs_append (rest : List Stmt) (env : Env) : ∀ b : List Stmt, execs (b ++ rest) env = (do match ← execs b env with | .next => execs rest env | f => Pure.pure f)
  | [] => by rw [List.nil_append, execs_nil]; rfl
  | st :: b => by
    rw [List.cons_append, execs_cons, execs_cons, bind_assoc]
    congr 1
    funext f
    cases f <;> first | exact execs_append rest env b | rfl
end
end Og
end

section
open PySem PySem.W PySem.Calls PyProof.Rows
open PySem.Sem (wp)
namespace Og

section
variable {C : Cx} {A : Around} {L : Addr} {ls : Loc} {σ : Led} {env : Env} {rest : List Stmt} {Q : Flow → Loc → Led → Prop}

theorem wDone {m : Sem Unit} (h : W C A L m ls σ fun _ ls σ => W C A L (execs rest env) ls σ Q) : W C A L (do m; Pure.pure Flow.next) ls σ fun f ls σ => match f with | .next => W C A L (execs rest env) ls σ Q | f => Q f ls σ :=
  .bind (h.mono fun _ _ _ h => .pure h)

theorem wAssignName {x : Str} {pos' pos : Pos} {value : Expr} (hs : swapsWith value (some (.Name x pos')) pos.line env = pure false)
    (h : W C A L (eval value env) ls σ fun v ls σ => W C A L (storeName env x v) ls σ fun _ ls σ => W C A L (execs rest env) ls σ Q) : W C A L (execs (.Assign [.Name x pos'] value pos :: rest) env) ls σ Q := by
  refine wCons ?_
  rw [exec_Assign_Name _ _ _ _ _ hs]
  exact .bind (.standAt (.bind (h.mono fun v _ _ h => .bind (.standAt (.bind (.bindName (h.mono fun _ _ _ h => .pure h)))))))

theorem wAssignStores {targets : List Expr} {value : Expr} {pos : Pos} (hs : swapsWithSole targets value pos.line env = pure false) (hw : swappedStores targets value env = pure none)
    (h : W C A L (eval value env) ls σ fun v ls σ => W C A L (assignAll v ((assignEach targets env).map (·.2))) ls σ fun _ ls σ => W C A L (execs rest env) ls σ Q) : W C A L (execs (.Assign targets value pos :: rest) env) ls σ Q := by
  refine wCons ?_
  rw [exec_Assign_arm, hs]
  refine .bind (.standAt (.bind (.pure ?_)))
  rw [if_neg (by decide)]
  refine .bind (h.mono fun v _ _ h => ?_)
  rw [hw]
  refine .bind (.pure ?_)
  show W C A L (do assignAll v ((assignEach targets env).map (·.2)); Pure.pure Flow.next) _ _ _
  exact wDone h
theorem wAssignSwap {targets : List Expr} {value : Expr} {pos : Pos} {names : List Str} (hs : swapsWithSole targets value pos.line env = pure false) (hw : swappedStores targets value env = pure (some names))
    (h : W C A L (eval value env) ls σ fun v ls σ => W C A L (unpackItems v names.length none) ls σ fun items ls σ => W C A L (assignInOrder (names.reverse.map fun n => bindName env n) items.reverse) ls σ fun _ ls σ => W C A L (execs rest env) ls σ Q) : W C A L (execs (.Assign targets value pos :: rest) env) ls σ Q := by
  refine wCons ?_
  rw [exec_Assign_arm, hs]
  refine .bind (.standAt (.bind (.pure ?_)))
  rw [if_neg (by decide)]
  refine .bind (h.mono fun v _ _ h => ?_)
  rw [hw]
  refine .bind (.pure ?_)
  show W C A L (do
    PySem.rule "assign.swapped-stores"
    let items ← unpackItems v names.length none
    assignInOrder (names.reverse.map fun n => bindName env n) items.reverse
    Pure.pure Flow.next) _ _ _
  exact .bind (.rule (.bind (h.mono fun items _ _ h => wDone h)))
/-- a, b = .. -/
theorem wTarget {elts : List Expr} {pos : Pos} {v : Value} {Q : Unit → Loc → Led → Prop}
    (h : W C A L (unpackItems v (assignEach elts env).length ((assignEach elts env).findIdx? (·.1))) ls σ fun items ls σ => W C A L (assignInOrder ((assignEach elts env).map (·.2)) items) ls σ Q) :
    W C A L (assignAll v ((assignEach [.Tuple elts 1 pos] env).map (·.2))) ls σ Q := by
  show W C A L (do PySem.standAt pos; unpack v (assignEach elts env)) ls σ Q
  refine .bind (.standAt ?_)
  unfold unpack
  exact .bind (.holding h)
theorem wOrderNil {Q : Unit → Loc → Led → Prop} {ts : List (Value → Sem Unit)} (h : Q () ls σ) : W C A L (assignInOrder [] []) ls σ Q := .pure h
theorem wOrderName {x : Str} {v : Value} {vs : List Value} {ts : List (Value → Sem Unit)} {Q : Unit → Loc → Led → Prop} (h : W C A L (storeName env x v) ls σ fun _ ls σ => W C A L (assignInOrder ts vs) ls σ Q) :
    W C A L (assignInOrder ((fun v => bindName env x v) :: ts) (v :: vs)) ls σ Q := by
  show W C A L (do PySem.holding vs (bindName env x v); assignInOrder ts vs) ls σ Q
  exact .bind (.holding (.bindName h))
theorem wOrderTarget {x : Str} {p : Pos} {v : Value} {vs : List Value} {ts : List (Value → Sem Unit)} {Q : Unit → Loc → Led → Prop} (h : W C A L (storeName env x v) ls σ fun _ ls σ => W C A L (assignInOrder ts vs) ls σ Q) :
    W C A L (assignInOrder (assign (.Name x p) env :: ts) (v :: vs)) ls σ Q := by
  show W C A L (do PySem.holding vs (do PySem.standAt p; bindName env x v); assignInOrder ts vs) ls σ Q
  exact .bind (.holding (.bind (.standAt (.bindName h))))

theorem wAssignAttr {o : Expr} {attr : Str} {pos' pos : Pos} {value : Expr} (hs : swapsWith value (some (.Attribute o attr pos')) pos.line env = pure false)
    (h : W C A L (eval value env) ls σ fun v ls σ => W C A L (eval o env) ls σ fun ov ls σ => W C A L (setAttr ov attr v) ls σ fun _ ls σ => W C A L (execs rest env) ls σ Q) :
    W C A L (execs (.Assign [.Attribute o attr pos'] value pos :: rest) env) ls σ Q := by
  refine wCons ?_
  rw [plainObj_exec_Assign_Attribute o attr pos' value pos hs]
  refine .bind (.standAt (.bind (h.mono fun v _ _ h => wDone ?_)))
  rw [assign_Attribute]
  exact .bind (.holding (h.mono fun ov _ _ h => .bind (.standAt (.bind (.holding (h.mono fun _ _ _ h => .release h))))))
theorem exec_Assign_Sub {o i : Expr} {pos' pos : Pos} {value : Expr} (env : Env) (hs : swapsWith value (some (.Subscript o i pos')) pos.line env = pure false) : exec (.Assign [.Subscript o i pos'] value pos) env = (do
    PySem.standAt pos
    let v ← eval value env
    assign (.Subscript o i pos') env v
    Pure.pure .next) := by
  have e : exec (.Assign [.Subscript o i pos'] value pos) env = (do
      PySem.standAt pos
      if ← swapsWith value (some (.Subscript o i pos')) pos.line env then
        evalThenUse value env (assign (.Subscript o i pos') env)
        return .next
      let v ← eval value env
      assign (.Subscript o i pos') env v
      Pure.pure .next) := rfl
  rw [e, hs]; rfl
theorem wAssignSub {o i : Expr} {pos' pos : Pos} {value : Expr} (hs : swapsWith value (some (.Subscript o i pos')) pos.line env = pure false)
    (h : W C A L (eval value env) ls σ fun v ls σ => W C A L (eval o env) ls σ fun ov ls σ => W C A L (eval i env) ls σ fun iv ls σ => W C A L (setItem ov iv v) ls σ fun _ ls σ => W C A L (execs rest env) ls σ Q) :
    W C A L (execs (.Assign [.Subscript o i pos'] value pos :: rest) env) ls σ Q := by
  refine wCons ?_
  rw [exec_Assign_Sub env hs]
  refine .bind (.standAt (.bind (h.mono fun v _ _ h => wDone ?_)))
  rw [assign_Subscript]
  exact .bind (.holding (h.mono fun ov _ _ h => .bind (.holding (h.mono fun iv _ _ h => .bind (.standAt (.bind (.holding (h.mono fun _ _ _ h => .release h))))))))
theorem wAugName {x : Str} {op : Operator} {pos' pos : Pos} {value : Expr}
    (h : W C A L (loadName env x) ls σ fun old ls σ => W C A L (eval value env) ls σ fun v ls σ => W C A L (inplaceOp op old v) ls σ fun r ls σ => W C A L (storeName env x r) ls σ fun _ ls σ => W C A L (execs rest env) ls σ Q) :
    W C A L (execs (.AugAssign (.Name x pos') op value pos :: rest) env) ls σ Q := by
  refine wCons ?_
  rw [exec_AugAssign_Name]
  exact .bind (.standAt (.bind (h.mono fun old _ _ h => .bind (.holding (h.mono fun v _ _ h => .bind (.standAt (.bind (.operate (h.mono fun r _ _ h => .bind (.standAt (.bind (.bindName (h.mono fun _ _ _ h => .pure h))))))))))))) 
theorem wExpr {e : Expr} {pos : Pos} (hi : interactive env = false) (hs : swapsWith e none pos.line env = pure false)
    (h : W C A L (eval e env) ls σ fun v ls σ => (∀ a, v ≠ .ref a) ∧ W C A L (execs rest env) ls σ Q) : W C A L (execs (.Expr e pos :: rest) env) ls σ Q := by
  refine wCons ?_
  rw [exec_Expr env e pos hi hs]
  refine .bind (.standAt (.bind (h.mono fun v _ _ h => ?_)))
  rw [dropValue_plain h.1]
  exact .pure h.2
theorem wIf {test : Expr} {body orelse : List Stmt} {pos : Pos}
    (h : W C A L (isTrue test env (eval test env)) ls σ fun b ls σ => if b then W C A L (execs (body ++ rest) env) ls σ Q else W C A L (execs (orelse ++ rest) env) ls σ Q) :
    W C A L (execs (.If test body orelse pos :: rest) env) ls σ Q := by
  have e : execs (.If test body orelse pos :: rest) env = (do
      PySem.standAt pos
      if ← isTrue test env (eval test env) then execs (body ++ rest) env else execs (orelse ++ rest) env) := by
    rw [execs_cons, exec_If, bind_assoc]
    congr 1
    funext _
    rw [bind_assoc]
    congr 1
    funext b
    cases b
    · exact (execs_append rest env orelse).symm
    · exact (execs_append rest env body).symm
  rw [e]
  refine .bind (.standAt (.bind (h.mono fun b _ _ h => ?_)))
  cases b <;> exact h
theorem wReturn {e : Expr} {pos : Pos} (h : W C A L (eval e env) ls σ fun v ls σ => Q (.ret v) ls σ) : W C A L (execs (.Return (some e) pos :: rest) env) ls σ Q := by
  refine wCons ?_
  rw [exec_Return_some]
  exact .bind (.standAt (.bind (h.mono fun v _ _ h => .pure h)))
theorem wBreak {pos : Pos} (h : Q .brk ls σ) : W C A L (execs (.Break pos :: rest) env) ls σ Q := by
  refine wCons ?_
  show W C A L (do PySem.standAt pos; Pure.pure Flow.brk) _ _ _
  exact .bind (.standAt (.pure h))

/-! ### loops -/
/-- What a turn's end has to show. -/
def TurnEnd (C : Cx) (A : Around) (L : Addr) (rest : List Stmt) (env : Env) (Q : Flow → Loc → Led → Prop) (next : Loc → Led → Prop) : Flow → Loc → Led → Prop
  | .next, ls, σ => next ls σ
  | .cont, ls, σ => next ls σ
  | .brk, ls, σ => W C A L (execs rest env) ls σ Q
  | .ret v, ls, σ => Q (.ret v) ls σ

theorem under_loop (A : Around) {c : Code} (hw : c.weight = 0) (hu : c.cUnits = 0) : A.under c = A := Around.under_of_weight hw hu

theorem wWhile {test : Expr} {body : List Stmt} {pos : Pos} (I : Nat → Loc → Led → Prop)
    (turn : ∀ n ls σ, I n ls σ → W C A L (isTrue test env (eval test env)) ls σ fun b ls σ => if b then W C A L (execs body env) ls σ (TurnEnd C A L rest env Q fun ls σ => ∃ m, m < n ∧ I m ls σ) else W C A L (execs rest env) ls σ Q)
    {n : Nat} (h : I n ls σ) : W C A L (execs (.While test body [] pos :: rest) env) ls σ Q := by
  refine wCons ?_
  rw [exec_While]
  refine .bind (.standAt fun s S => .runOwn ?_)
  induction n using Nat.strongRecOn generalizing ls σ s with
  | ind n ih =>
    refine .ofTree rfl ?_
    rw [under_loop A rfl rfl]
    refine wpC.onRaise ?_
    have hw : whileTurn test body [] env = (do
        if ← isTrue test env (eval test env) then
          match ← execs body env with
          | .next | .cont => again (.whileLoop test body [] env)
          | .brk => Pure.pure (.done .next)
          | .ret v => Pure.pure (.done (.ret v))
        else return .done (← execs [] env)) := rfl
    rw [hw]
    refine wpC.bind ((turn n ls σ h s S).mono fun b s' ⟨ls', σ', S', q⟩ => ?_)
    cases b with
    | false => exact wpC.bind (wpC.pure (wpC.pure ⟨ls', σ', S', q⟩))
    | true =>
      refine wpC.bind ((show W C A L (execs body env) ls' σ' _ from q) s' S' |>.mono fun f s'' ⟨ls'', σ'', S'', q⟩ => ?_)
      cases f with
      | next => obtain ⟨m, hm, hI⟩ := q; exact wpC.pure ⟨rfl, ih m hm hI s'' S''⟩
      | cont => obtain ⟨m, hm, hI⟩ := q; exact wpC.pure ⟨rfl, ih m hm hI s'' S''⟩
      | brk => exact wpC.pure ⟨ls'', σ'', S'', q⟩
      | ret v => exact wpC.pure ⟨ls'', σ'', S'', q⟩

theorem letOwned_Name {x : Str} {p : Pos} {it v : Value} : letOwnedTupleGo (.Name x p) it v = pure () := rfl
theorem wForLoop {x : Str} {tp : Pos} {body : List Stmt} {it : Value} (I : Nat → Loc → Led → Prop) {R : Flow → Loc → Led → Prop}
    (turn : ∀ n ls σ, I n ls σ → W C A L (pyNext it) ls σ fun r ls σ => match r with
      | none => R .next ls σ
      | some v => W C A L (storeName env x v) ls σ fun _ ls σ => W C A L (execs body env) ls σ fun f ls σ => match f with
        | .next | .cont => ∃ m, m < n ∧ I m ls σ
        | .brk => R .next ls σ
        | .ret v => R (.ret v) ls σ)
    {n : Nat} (h : I n ls σ) : W C A L (runOwn (.forLoop (.Name x tp) it body [] env) env) ls σ R := by
  refine fun s S => .runOwn ?_
  induction n using Nat.strongRecOn generalizing ls σ s with
  | ind n ih =>
    refine .ofTree rfl ?_
    rw [under_loop A rfl rfl]
    refine wpC.onRaise ?_
    show wpC _ _ _ (do
      PySem.standAt tp
      match ← (pyNext it).onRaise (fun _ => PySem.standAt { tp with line := 0 }) with
      | none => again (.block [] env)
      | some v =>
        letOwnedTupleGo (.Name x tp) it v
        assign (.Name x tp) env v
        match ← execs body env with
        | .next | .cont => again (.forLoop (.Name x tp) it body [] env)
        | .brk => Pure.pure (.done .next)
        | .ret v => Pure.pure (.done (.ret v))) _ _
    refine wpC.bind (wpC.standAt (wpC.bind (wpC.onRaise ((turn n ls σ h s S).mono fun r s' ⟨ls', σ', S', q⟩ => ?_))))
    cases r with
    | none =>
      refine wpC.pure ⟨rfl, codeC.ofTree rfl ?_⟩
      rw [under_loop A rfl rfl]
      show wpC _ _ _ (do return Fin.done (← (execs [] env).onRaise _)) _ _
      exact wpC.bind (wpC.onRaise (wpC.pure (wpC.pure ⟨ls', σ', S', q⟩)))
    | some v =>
      refine wpC.bind (wpC.pure ?_)
      rw [PySem.assign_Name]
      refine wpC.bind (wpC.bind (wpC.standAt (wpC.bindName ((show W C A L (storeName env x v) ls' σ' _ from q) s' S' |>.mono fun _ s'' ⟨ls'', σ'', S'', q⟩ => ?_))))
      refine wpC.bind (q s'' S'' |>.mono fun f s₃ ⟨ls₃, σ₃, S₃, q⟩ => ?_)
      cases f with
      | next => obtain ⟨m, hm, hI⟩ := q; exact wpC.pure ⟨rfl, ih m hm hI s₃ S₃⟩
      | cont => obtain ⟨m, hm, hI⟩ := q; exact wpC.pure ⟨rfl, ih m hm hI s₃ S₃⟩
      | brk => exact wpC.pure ⟨ls₃, σ₃, S₃, q⟩
      | ret v => exact wpC.pure ⟨ls₃, σ₃, S₃, q⟩
theorem wFor {x : Str} {tp : Pos} {iter : Expr} {body : List Stmt} {pos : Pos} (hf : ∀ v, foldedSetIterable iter env v = pure v)
    (h : W C A L (eval iter env) ls σ fun v ls σ => W C A L (pyIter v) ls σ fun it ls σ => W C A L (runOwn (.forLoop (.Name x tp) it body [] env) env) ls σ fun f ls σ => match f with | .next => W C A L (execs rest env) ls σ Q | f => Q f ls σ) :
    W C A L (execs (.For (.Name x tp) iter body [] pos :: rest) env) ls σ Q := by
  refine wCons ?_
  have e : exec (.For (.Name x tp) iter body [] pos) env = (do
    PySem.standAt pos
    let v ← foldedSetIterable iter env (← eval iter env)
    PySem.standAt iter.pos
    runOwn (.forLoop (.Name x tp) (← PySem.holding [v] (pyIter v)) body [] env) env) := rfl
  rw [e]
  refine .bind (.standAt (.bind (h.mono fun v _ _ h => ?_)))
  rw [hf]
  exact .bind (.pure (.bind (.standAt (.bind (.holding h)))))
end
end Og
end

section
open PySem PySem.W PySem.Calls PyProof.Rows
namespace Og

/-! ### places in a ledger -/
inductive Swap (a : Addr) (o o' : Obj) : Led → Led → Prop
  | here {r : Led} : Swap a o o' ((a, o) :: r) ((a, o') :: r)
  | there {p : Addr × Obj} {r r' : Led} : Swap a o o' r r' → Swap a o o' (p :: r) (p :: r')
  | skip {l r r' : Led} : Swap a o o' r r' → Swap a o o' (l ++ r) (l ++ r')
  | left {l l' r : Led} : Swap a o o' l l' → Swap a o o' (l ++ r) (l' ++ r)
theorem Swap.split {a : Addr} {o o' : Obj} {σ σ' : Led} (h : Swap a o o' σ σ') : ∃ pre post, σ = pre ++ (a, o) :: post ∧ σ' = pre ++ (a, o') :: post := by
  induction h with
  | here => exact ⟨[], _, rfl, rfl⟩
  | there _ ih => obtain ⟨pre, post, rfl, rfl⟩ := ih; exact ⟨_ :: pre, post, rfl, rfl⟩
  | @skip l r r' _ ih => obtain ⟨pre, post, rfl, rfl⟩ := ih; exact ⟨l ++ pre, post, by simp, by simp⟩
  | @left l l' r _ ih => obtain ⟨pre, post, rfl, rfl⟩ := ih; exact ⟨pre, post ++ r, by simp, by simp⟩
theorem Swap.mem {a : Addr} {o o' : Obj} {σ σ' : Led} (h : Swap a o o' σ σ') : (a, o) ∈ σ := by
  obtain ⟨pre, post, rfl, rfl⟩ := h.split; exact List.mem_append_right _ (.head _)
/-- One pair is taken out. -/
inductive Take (p : Addr × Obj) : Led → Led → Prop
  | here {r : Led} : Take p (p :: r) r
  | there {q : Addr × Obj} {r r' : Led} : Take p r r' → Take p (q :: r) (q :: r')
  | skip {l r r' : Led} : Take p r r' → Take p (l ++ r) (l ++ r')
  | left {l l' r : Led} : Take p l l' → Take p (l ++ r) (l' ++ r)
theorem Take.perm {p : Addr × Obj} {σ σ' : Led} (h : Take p σ σ') : σ.Perm (p :: σ') := by
  induction h with
  | here => exact .refl _
  | there _ ih => exact (ih.cons _).trans (.swap ..)
  | skip _ ih => exact (ih.append_left _).trans List.perm_middle
  | left _ ih => exact ih.append_right _
inductive Lift (b : Led) : Led → Led → Prop
  | here {r : Led} : Lift b (b ++ r) r
  | whole : Lift b b []
  | there {q : Addr × Obj} {r r' : Led} : Lift b r r' → Lift b (q :: r) (q :: r')
  | skip {l r r' : Led} : Lift b r r' → Lift b (l ++ r) (l ++ r')
  | left {l l' r : Led} : Lift b l l' → Lift b (l ++ r) (l' ++ r)
theorem Lift.perm {b σ σ' : Led} (h : Lift b σ σ') : σ.Perm (b ++ σ') := by
  induction h with
  | here => exact .refl _
  | whole => rw [List.append_nil]
  | there _ ih => exact (ih.cons _).trans List.perm_middle.symm
  | skip _ ih =>
    refine (ih.append_left _).trans ?_
    rw [← List.append_assoc, ← List.append_assoc]
    exact List.perm_append_comm.append_right _
  | left _ ih => rw [← List.append_assoc]; exact ih.append_right _
/-- τ is a part of σ, in any order. -/
def Part (τ σ : Led) : Prop := ∃ l, σ.Perm (l ++ τ)
theorem Part.nil {σ : Led} : Part [] σ := ⟨σ, by rw [List.append_nil]⟩
theorem Part.refl {σ : Led} : Part σ σ := ⟨[], .refl _⟩
theorem Part.cons {p : Addr × Obj} {τ σ σ' : Led} (t : Take p σ σ') (h : Part τ σ') : Part (p :: τ) σ := by
  obtain ⟨l, hl⟩ := h
  exact ⟨l, t.perm.trans ((hl.cons p).trans List.perm_middle.symm)⟩
theorem Part.block {b τ σ σ' : Led} (t : Lift b σ σ') (h : Part τ σ') : Part (b ++ τ) σ := by
  obtain ⟨l, hl⟩ := h
  refine ⟨l, t.perm.trans ((hl.append_left b).trans ?_)⟩
  rw [← List.append_assoc, ← List.append_assoc]
  exact List.perm_append_comm.append_right _
theorem Part.last {b σ σ' : Led} (t : Lift b σ σ') : Part b σ := ⟨σ', t.perm.trans List.perm_append_comm⟩
theorem Part.trans {ρ τ σ : Led} (h : Part ρ τ) (h' : Part τ σ) : Part ρ σ := by
  obtain ⟨l, hl⟩ := h
  obtain ⟨k, hk⟩ := h'
  exact ⟨k ++ l, hk.trans (by rw [List.append_assoc]; exact hl.append_left k)⟩
theorem Part.drop {τ σ l : Led} (h : Part τ σ) : Part τ (l ++ σ) := by
  obtain ⟨k, hk⟩ := h
  exact ⟨l ++ k, by rw [List.append_assoc]; exact hk.append_left l⟩
theorem Part.drop1 {τ σ : Led} {p : Addr × Obj} (h : Part τ σ) : Part τ (p :: σ) := Part.drop (l := [p]) h
theorem Part.app {τ σ τ' σ' : Led} (h : Part τ σ) (h' : Part τ' σ') : Part (τ ++ τ') (σ ++ σ') := by
  obtain ⟨l, hl⟩ := h
  obtain ⟨k, hk⟩ := h'
  refine ⟨l ++ k, (hl.append hk).trans ?_⟩
  rw [List.append_assoc, List.append_assoc]
  refine List.Perm.append_left l ?_
  rw [← List.append_assoc, ← List.append_assoc]
  exact List.perm_append_comm.append_right _

section
variable {C : Cx} {A : Around} {L : Addr} {ls : Loc} {σ σ' : Led} {s : Shared} {α : Type}
theorem St.part {τ : Led} (S : St C L ls σ s) (h : Part τ σ) : St C L ls τ s := by
  obtain ⟨l, hl⟩ := h
  exact (S.perm hl).drop
theorem W.part {t : Sem α} {τ : Led} {Q : α → Loc → Led → Prop} (h : Part τ σ) (h' : W C A L t ls τ Q) : W C A L t ls σ Q := fun s S => h' s (S.part h)
theorem St.swap {h' : Heap} {tk : Nat} {a : Addr} {o o' : Obj} (S : St C L ls σ s) (sw : Swap a o o' σ σ') (hb : Heap.SameBut a s.heap h') (ho : h'.get? a = some o') : St C L ls σ' { s with heap := h', toks := tk } := by
  obtain ⟨pre, post, rfl, rfl⟩ := sw.split
  exact S.upd hb ho
theorem St.again {h' : Heap} {tk : Nat} {m : Str → Option Value} {τ : Led} (S : St C L ls σ s) (hl : ∀ x v, ls.lookup x = some v → m x = some v) (F : Fr C.h₀ L h' m) (N : News C.h₀ L h' τ) (hd : (τ.map (·.1)).Nodup) : St C L ls τ { s with heap := h', toks := tk } :=
  ⟨⟨h', tk, S.eq⟩, ⟨m, F, hl⟩, N, hd⟩
theorem St.more {h' : Heap} {tk : Nat} {m : Str → Option Value} {a : Addr} {o : Obj} (S : St C L ls σ s) (hl : ∀ x v, ls.lookup x = some v → m x = some v) (F : Fr C.h₀ L h' m) (N : News C.h₀ L h' ((a, o) :: σ)) (hlt : ∀ p ∈ σ, p.1 < a) : St C L ls ((a, o) :: σ) { s with heap := h', toks := tk } := by
  refine S.again hl F N ?_
  rw [List.map_cons, List.nodup_cons]
  refine ⟨fun hm => ?_, S.nodup⟩
  obtain ⟨p, hp, e⟩ := List.mem_map.mp hm
  exact absurd (hlt p hp) (by rw [e]; exact Nat.lt_irrefl _)
theorem nodup_swap {a : Addr} {o o' : Obj} (sw : Swap a o o' σ σ') (h : (σ.map (·.1)).Nodup) : (σ'.map (·.1)).Nodup := by
  obtain ⟨pre, post, rfl, rfl⟩ := sw.split
  simpa only [List.map_append, List.map_cons] using h
theorem upd_of {pre post : Led} {a : Addr} {o o' : Obj} (h : ((pre ++ (a, o) :: post).map (·.1)).Nodup) : Upd a o o' (pre ++ (a, o) :: post) (pre ++ (a, o') :: post) := by
  induction pre with
  | nil =>
    refine .head fun p hp e => ?_
    rw [List.nil_append, List.map_cons, List.nodup_cons] at h
    exact h.1 (by rw [show ((a, o) : Addr × Obj).1 = p.1 from e.symm]; exact List.mem_map_of_mem hp)
  | cons q pre ih =>
    rw [List.cons_append, List.map_cons, List.nodup_cons] at h
    refine .tail (fun e => h.1 ?_) (ih h.2)
    rw [e, List.map_append, List.map_cons]
    exact List.mem_append_right _ (.head _)
theorem St.updOf {a : Addr} {o o' : Obj} (S : St C L ls σ s) (sw : Swap a o o' σ σ') : Upd a o o' σ σ' := by
  have nd := S.nodup
  obtain ⟨pre, post, rfl, rfl⟩ := sw.split
  exact upd_of nd

end
end Og
end

section
open PySem PySem.W PySem.Calls PyProof.Rows
open PySem.Sem (wp)
namespace Og

def retOf : Flow → Value
  | .ret v => v
  | _ => .none
/-- What a def gives back: the value and its part of the ledger; what it made besides is dropped. -/
def Ends (post : Value → Led → Prop) (rest : Led) (fl : Flow) (_ : Loc) (σ : Led) : Prop := ∃ pr, post (retOf fl) pr ∧ Part (pr ++ rest) σ

/-- The contract of a def: its arguments, the depth that it needs, the part of the ledger that it reads and turns. -/
def Fn (C : Cx) (f : Addr) (args : List Value) (k : Nat) (pre : Led) (post : Value → Led → Prop) : Prop :=
  ∀ (A : Around) (L : Addr) (ls : Loc) (rest : Led) (s : Shared), Ok A k → St C L ls (pre ++ rest) s →
    codeC C.H (model C.prog C.w) A (.call (.ref f) ⟨args, []⟩) (fun fl s' => ∃ v, fl = .ret v ∧ ∃ pr, St C L ls (pr ++ rest) s' ∧ post v pr) s

theorem Ok.deeper {A : Around} {k : Nat} {env : Env} (h : Ok A (k + 1)) : Ok (A.deeper env) k :=
  ⟨h.handled, by have := h.depth; show A.depth + 1 + k < _; omega, by have := h.units; show A.units + 3 + 8 * k < _; omega⟩
theorem Ok.less {A : Around} {k j : Nat} (h : Ok A k) (hj : j ≤ k) : Ok A j := ⟨h.handled, by have := h.depth; omega, by have := h.units; omega⟩
theorem Ok.in1 {A : Around} {k : Nat} (h : Ok A (k + 1)) : Ok A.in1 k := ⟨h.handled, by have := h.depth; show A.depth + k < _; omega, by have := h.units; show A.units + 1 + 8 * k < _; omega⟩

section
variable {prog : Program} {w : World} {A : Around} {s : Shared}
theorem callDef_any {E : Value → Shared → Prop} {a : Addr} {o : Obj} {fd : FuncData} {body : List Stmt} {args : Args} {binds : List (Str × Value)} (hroom : A.depth < recursionLimit) (ho : s.heap.get? a = some o) (hd' : o.data = .func fd) (hlim : s.heap.NoLimit) (hcd : s.heap.CodeRec fd.code fd.qualname)
    (hbody : fd.body = .stmts body) (hbind : bindArgs fd args = pure binds) (hcell : ∀ x ∈ fd.scope.names, x.2 ≠ .cell) (hloc : ∀ x ∈ binds, fd.scope.names.lookup x.1 = some .local)
    (hco : fd.scope.isCoroutine = false) (hgen : fd.scope.isGenerator = false) (hk : fd.scope.kind = .function) :
    wpAny (model prog w) A.in1 (callAny (.ref a) args) (fun fin s' => fin = .again (.func body (callEnv fd s.heap.objs.size a)) ∧ ∃ h₁, s' = { s with heap := h₁, toks := s.toks + binds.length } ∧
      h₁.Ns s.heap.objs.size (fun x => binds.reverse.lookup x) ∧ ∀ b o, s.heap.get? b = some o → h₁.get? b = some o) E s := by
  simp only [callAny]
  refine wpAny_bind (wpAny_load ho ?_)
  obtain ⟨c, oc, vs, tq, hc, hoc, hdc, hq⟩ := hcd
  simp only [hd', callFunction, hco, hgen, hbody, hc]
  refine wpAny_bind (m := field (.ref c) 1) (wpAny_field hoc hdc hq (wpAny_bind (wpAny_pure ?_)))
  rw [hbind]
  refine wpAny_bind (wpAny_pure (wpAny_bind (wpAny_newFunctionEnv hcell hloc (fun h₁ hn hb => wpAny_bind (wpAny_enterFrame (hlim.fresh _ hb) hroom (wpAny_pure ?_))) hk)))
  exact ⟨by rw [← hc]; rfl, h₁, rfl, hn, fun b o e => hb.extBut b o (Nat.ne_of_lt (Heap.lt_size e)) (Heap.get?_push_of_some _ e)⟩
end

section
variable {C : Cx}
theorem func_code {A : Around} {body : List Stmt} {env : Env} {R : Flow → Shared → Prop} {s : Shared} (h : wpC C.H (model C.prog C.w) (A.deeper env) (execs body env) (fun f s' => R (.ret (retOf f)) s') s) :
    codeC C.H (model C.prog C.w) A (.func body env) R s := by
  refine .ofTree rfl ?_
  show wpC _ _ (A.deeper env) (do point; match ← (execs body env).onRaise (leaving env) with | .ret v => ret v | _ => ret .none) _ s
  refine .bind (.point (.bind (.onRaise (h.mono fun f s' h' => ?_))))
  cases f <;> exact .pure h'

/-- The callee's frame beside the caller's. -/
theorem St.enter {L : Addr} {ls : Loc} {pre rest : Led} {s : Shared} {h₁ : Heap} {tk : Nat} {binds : List (Str × Value)} (S : St C L ls (pre ++ rest) s) (hn : h₁.Ns s.heap.objs.size (fun x => binds.reverse.lookup x)) (hk : ∀ b o, s.heap.get? b = some o → h₁.get? b = some o) :
    ∃ oL, s.heap.get? L = some oL ∧ St C s.heap.objs.size binds.reverse (pre ++ ((L, oL) :: rest)) { s with heap := h₁, toks := tk } := by
  obtain ⟨m, F, hl⟩ := S.fr
  obtain ⟨oL, es, ep, hL, r⟩ := F.ns
  have hL0 : C.h₀.get? L = none := Heap.get?_none_of_le F.above
  refine ⟨oL, hL, ⟨⟨h₁, tk, S.eq⟩, ⟨_, ⟨hn, fun b o e => hk b o (F.keep b o e), Nat.le_of_lt (Nat.lt_of_le_of_lt F.above (Heap.lt_size hL))⟩, fun x v e => e⟩, fun p hp => ?_, ?_⟩⟩
  · have hp' : p = (L, oL) ∨ p ∈ pre ++ rest := by
      rcases List.mem_append.mp hp with q | q
      · exact .inr (List.mem_append_left _ q)
      · rcases List.mem_cons.mp q with q | q
        · exact .inl q
        · exact .inr (List.mem_append_right _ q)
    rcases hp' with rfl | q
    · exact ⟨hk _ _ hL, Nat.ne_of_lt (Heap.lt_size hL), hL0⟩
    · exact ⟨hk _ _ (S.news p q).1, Nat.ne_of_lt (S.lt q), (S.news p q).2.2⟩
  · have P : (pre ++ (L, oL) :: rest).Perm ((L, oL) :: (pre ++ rest)) := List.perm_middle
    rw [(P.map _).nodup_iff, List.map_cons, List.nodup_cons]
    refine ⟨fun hm => ?_, S.nodup⟩
    obtain ⟨p, hp, e⟩ := List.mem_map.mp hm
    exact (S.news p hp).2.1 e
/-- Back in the caller's frame. -/
theorem St.leave {L L' : Addr} {ls ls' : Loc} {pre pr rest tmp : Led} {s s' : Shared} {oL : Obj} (S : St C L ls (pre ++ rest) s) (hL : s.heap.get? L = some oL) (S' : St C L' ls' (tmp ++ (pr ++ ((L, oL) :: rest))) s') : St C L ls (pr ++ rest) s' := by
  obtain ⟨m, F, hl⟩ := S.fr
  obtain ⟨m', F', _⟩ := S'.fr
  obtain ⟨oL', es, ep, hL', r⟩ := F.ns
  rw [hL] at hL'; cases hL'
  have S₂ := S'.drop
  have P : (pr ++ (L, oL) :: rest).Perm ((L, oL) :: (pr ++ rest)) := List.perm_middle
  have S₃ := S₂.perm P
  have nd := S₃.nodup
  rw [List.map_cons, List.nodup_cons] at nd
  refine ⟨S'.base, ⟨m, ⟨⟨oL, es, ep, (S₃.news _ (.head _)).1, r⟩, F'.keep, F.above⟩, hl⟩, fun p hp => ?_, nd.2⟩
  have N := S₃.news p (.tail _ hp)
  exact ⟨N.1, fun e => nd.1 (by rw [show ((L, oL) : Addr × Obj).1 = p.1 from e.symm]; exact List.mem_map_of_mem hp), N.2.2⟩

theorem Fn.of_body {f : Addr} {args : List Value} {k : Nat} {pre : Led} {post : Value → Led → Prop} {name qual : Str} {params : Arguments} {body : List Stmt} {scope : Scope} {dV kV doc pm cdv ct oc : Value} {an od : Option Addr} {osl : Array (Option Value)} {binds : List (Str × Value)}
    (ho : C.K.lookup f = some ⟨oc, od, .func (fnX name qual params body scope [] dV kV doc pm an cdv ct), osl⟩) (hcd : codeIn C.K cdv qual = true)
    (hbind : bindArgs (fnX name qual params body scope [] dV kV doc pm an cdv ct) ⟨args, []⟩ = Pure.pure binds) (hloc : ∀ y ∈ binds, scope.names.lookup y.1 = some .local) (hcell : ∀ x ∈ scope.names, x.2 ≠ .cell) (hk : scope.kind = .function)
    (hco : scope.isCoroutine = false) (hgen : scope.isGenerator = false)
    (hb : ∀ A L rest, Ok A k → W C A L (execs body (envX qual scope L f cdv [])) binds.reverse (pre ++ rest) (Ends post rest)) : Fn C f args (k + 1) pre post := by
  intro A L ls rest s ok S
  refine codeC.ofTree rfl ?_
  show wpC _ _ A.in1 (callAny (.ref f) ⟨args, []⟩) _ s
  have X := S.kin
  obtain ⟨m, F, hl⟩ := S.fr
  refine (wpC.ofAny (callDef_any (by have := ok.depth; omega) (X _ _ ho) rfl (C.nolim.keeps F.keep) (codeRec_of X hcd) rfl hbind hcell hloc hco hgen hk)).mono fun fin s₁ h => ?_
  obtain ⟨rfl, h₁, rfl, hn, hk₁⟩ := h
  refine ⟨rfl, func_code ?_⟩
  obtain ⟨oL, hL, S₁⟩ := S.enter (tk := s.toks + binds.length) hn hk₁
  refine (hb (A.deeper (envX qual scope s.heap.objs.size f cdv [])) s.heap.objs.size ((L, oL) :: rest) ok.deeper _ S₁).mono fun fl s₂ h => ?_
  obtain ⟨ls₂, σ₂, S₂, pr, hp, hpart⟩ := h
  exact ⟨_, rfl, pr, S.leave (tmp := []) hL (S₂.part hpart), hp⟩

/-- A call whose contract is at hand; x: what stands ahead of its part of the ledger. -/
theorem Fn.use {f : Addr} {args : List Value} {k : Nat} {pre : Led} {post : Value → Led → Prop} {A : Around} {L : Addr} {ls : Loc} {Q : Value → Loc → Led → Prop} (c : Fn C f args k pre post) (x y : Led) (ok : Ok A k)
    (h : ∀ v pr, post v pr → Q v ls (x ++ (pr ++ y))) : W C A L (call (.ref f) args) ls (x ++ (pre ++ y)) Q := by
  have P : ∀ p : Led, (x ++ (p ++ y)).Perm (p ++ (x ++ y)) := fun p => by
    rw [← List.append_assoc, ← List.append_assoc]
    exact (List.perm_append_comm).append_right _
  intro s S
  refine wpC.call ((c A L ls (x ++ y) s ok (S.perm (P pre))).mono fun fl s' h' => ?_)
  obtain ⟨v, rfl, pr, S', hp⟩ := h'
  exact ⟨v, rfl, ls, _, S'.perm (P pr).symm, h v pr hp⟩
end
end Og
end

section
open PySem PySem.W PySem.Calls PyProof.Rows
namespace Og

section
variable {C : Cx} {A : Around} {L : Addr} {ls : Loc} {σ : Led} {a b : Int} {t u : Tok} {Q : Value → Loc → Led → Prop}

/-! ### ints -/
theorem wAdd (h : ∀ t, Q (.int (a + b) t) ls σ) : W C A L (binaryOp .Add (.int a t) (.int b u)) ls σ Q := .leaf fun s R S k => PyProof.Rows.add_int (k _ _ _ _ S.toks (h _))
theorem wSub (h : ∀ t, Q (.int (a - b) t) ls σ) : W C A L (binaryOp .Sub (.int a t) (.int b u)) ls σ Q := .leaf fun s R S k => PyProof.Rows.sub_int (k _ _ _ _ S.toks (h _))
theorem wMul (hm : IntMulOk a b) (h : ∀ t, Q (.int (a * b) t) ls σ) : W C A L (binaryOp .Mult (.int a t) (.int b u)) ls σ Q := .leaf fun s R S k => PyProof.Rows.mul_int (k _ _ _ _ S.toks (h _)) hm
theorem wMod (hb : b ≠ 0) (h : ∀ t, Q (.int (a.fmod b) t) ls σ) : W C A L (binaryOp .Mod (.int a t) (.int b u)) ls σ Q := .leaf fun s R S k => PyProof.Rows.mod_int hb (k _ _ _ _ S.toks (h _))
theorem wDiv (hb : b ≠ 0) (hp : Builtin.divisionGoesByPylong a b = false) (h : ∀ t, Q (.int (a.fdiv b) t) ls σ) : W C A L (binaryOp .FloorDiv (.int a t) (.int b u)) ls σ Q :=
  .leaf fun s R S k => PyProof.Rows.floordiv_int hb (k _ _ _ _ S.toks (h _)) (.inl hp)
theorem wShr (hn : 0 ≤ b) (h : ∀ t, Q (.int (a.fdiv (2 ^ b.toNat)) t) ls σ) : W C A L (binaryOp .RShift (.int a t) (.int b u)) ls σ Q := .leaf fun s R S k => PyProof.Rows.rshift_int hn (k _ _ _ _ S.toks (h _))
theorem wAnd (h : ∀ t, Q (.int (Builtin.bitAnd a b) t) ls σ) : W C A L (binaryOp .BitAnd (.int a t) (.int b u)) ls σ Q := .leaf fun s R S k => PyProof.Rows.and_int (k _ _ _ _ S.toks (h _))
theorem wLt (h : Q (.bool (decide (a < b))) ls σ) : W C A L (compareOp .Lt (.int a t) (.int b u)) ls σ Q := .leaf fun s R S k => PyProof.Rows.lt_int (k _ _ _ _ S h)
theorem wLe (h : Q (.bool (decide (a ≤ b))) ls σ) : W C A L (compareOp .LtE (.int a t) (.int b u)) ls σ Q := .leaf fun s R S k => PyProof.Rows.le_int (k _ _ _ _ S h)
theorem wGt (h : Q (.bool (decide (b < a))) ls σ) : W C A L (compareOp .Gt (.int a t) (.int b u)) ls σ Q := .leaf fun s R S k => PyProof.Rows.gt_int (k _ _ _ _ S h)
theorem wGe (h : Q (.bool (decide (b ≤ a))) ls σ) : W C A L (compareOp .GtE (.int a t) (.int b u)) ls σ Q := .leaf fun s R S k => PyProof.Rows.ge_int (k _ _ _ _ S h)
theorem wEq (h : Q (.bool (decide (a = b))) ls σ) : W C A L (compareOp .Eq (.int a t) (.int b u)) ls σ Q := .leaf fun s R S k => PyProof.Rows.eq_int (k _ _ _ _ S h)
theorem wNe (h : Q (.bool (decide (a ≠ b))) ls σ) : W C A L (compareOp .NotEq (.int a t) (.int b u)) ls σ Q := .leaf fun s R S k => PyProof.Rows.ne_int (k _ _ _ _ S (by
  have e : (a != b) = decide (a ≠ b) := by by_cases h : a = b <;> simp [h]
  rw [e]; exact h))

/-! ### octets -/
variable {x y : List UInt8}
theorem wBAdd (hsz : x.length + y.length ≤ 16777216) (h : ∀ t, Q (.bytes (x ++ y).toArray t) ls σ) : W C A L (binaryOp .Add (.bytes x.toArray t) (.bytes y.toArray u)) ls σ Q :=
  .leaf fun s R S k => KBy.add_bytes (by simpa using hsz) fun t' n => by
    rw [List.append_toArray]
    exact k _ _ _ _ S.toks (h _)
theorem wBEq (h : Q (.bool (decide (x = y))) ls σ) : W C A L (compareOp .Eq (.bytes x.toArray t) (.bytes y.toArray u)) ls σ Q :=
  .leaf fun s R S k => PySem.W.eq_bytes (k _ _ _ _ S (by
    have e : (x.toArray.toList == y.toArray.toList) = decide (x = y) := by by_cases h : x = y <;> simp [h]
    rw [e]; exact h))
theorem wBNe (h : Q (.bool (decide (x ≠ y))) ls σ) : W C A L (compareOp .NotEq (.bytes x.toArray t) (.bytes y.toArray u)) ls σ Q :=
  .leaf fun s R S k => PySem.W.ne_bytes (k _ _ _ _ S (by
    have e : (x.toArray.toList != y.toArray.toList) = decide (x ≠ y) := by by_cases h : x = y <;> simp [h]
    rw [e]; exact h))
theorem wBLen (hfit : x.length ≤ 1099511627776) (h : ∀ t, Q (.int x.length t) ls σ) : W C A L (call (.builtin "len") [.bytes x.toArray t]) ls σ Q :=
  .leaf fun s R S k => PySem.W.len_bytes (by simpa using hfit) (k _ _ _ _ S.toks (by simpa using h _))
end
end Og
end

section
open PySem PySem.W PySem.Calls PyProof.Rows
namespace Og
namespace BA
theorem mro : mroOf (.type "bytearray") = pure [.type "bytearray", .type "object"] := by rw [mroOf_type]; kernel_rfl
theorem lookup_new : typeLookup (.type "bytearray") "__new__" = pure (some (.builtin "bytearray.__new__")) := by rw [typeLookup_type, builtinLookup_eq_fast]; kernel_rfl
theorem slot_init : Slot "bytearray" "__init__" "bytearray.__init__" :=
  .of (owner := "bytearray") (n := "__init__") (by rw [typeLookup_type, builtinLookup_eq_fast]; kernel_rfl) (by decide +kernel) (by decide +kernel) (by decide +kernel)
    (by first | exact .inl (by decide +kernel) | exact .inr (by decide +kernel)) (by rw [isSubtype_type]; kernel_rfl)
theorem sub : isSubtype (.type "bytearray") (.type "bytearray") = pure true := by rw [isSubtype_type]; kernel_rfl
theorem called : TypeCalled "bytearray" "bytearray.__new__" "bytearray.__init__" :=
  ⟨by decide +kernel, by decide +kernel, ⟨_, _, mro⟩, madeBy_type mro lookup_new (by decide +kernel), by decide +kernel, sub, slot_init⟩
theorem entry_init : entryFor table "bytearray.__init__" = some Builtin.«bytearray.__init__» := entryFor_of_tree (by kernel_rfl)
theorem entry_new : entryFor table "bytearray.__new__" = some Builtin.«list.__new__» := entryFor_alias (id' := "list.__new__") (by kernel_rfl) rfl (by decide +kernel) (by kernel_rfl)
theorem typeCall : checkTypeCall "bytearray" ⟨[], []⟩ = pure () := by kernel_rfl
theorem newCall : checkBuiltinCall "bytearray.__new__" ⟨[.type "bytearray"], []⟩ = pure () := by kernel_rfl
set_option maxHeartbeats 4000000 in
theorem owner : ("bytearray.__new__".splitOn ".__new__").headD "" = "bytearray" := by simp +decide [String.splitOn, String.splitOnAux]
theorem args_init (a : Value) : argsOk "bytearray.__init__" ⟨[a], []⟩ := by unfold argsOk; kernel_rfl
end BA
section
variable {H : Prop} {prog : Program} {w : World} {A : Around} {s : Shared}
theorem ba_new {E : Value → Shared → Prop} {Q₁ : Value → Shared → Prop} (h : Q₁ (.ref s.heap.objs.size) { s with heap := s.heap.push { cls := .type "bytearray", data := .bytearray #[] } }) :
    codeAny (model prog w) A (.call (.builtin "bytearray.__new__") ⟨[.type "bytearray"], []⟩) (wants Q₁ E) s := by
  refine codeAny_of_tree ?_
  show wpAny _ A.in1 (do checkBuiltinCall "bytearray.__new__" ⟨[.type "bytearray"], []⟩; again (.builtin "bytearray.__new__" ⟨[.type "bytearray"], []⟩)) _ _ s
  have pl : plainId "bytearray.__new__" = true := by decide +kernel
  refine wpAny_bind (wpAny_of_eq BA.newCall (wpAny_pure ⟨plainId_quiet pl _, codeAny_builtin_stack BA.entry_new rfl fun p st => ?_⟩))
  rw [Around.under_plainId pl _]
  have hsub := BA.sub
  have hown := BA.owner
  obtain ⟨hp, g, d, tk, os⟩ := s
  simp only [hown]
  wp_walk
  exact h
theorem codeC.builtin {id : String} {args : Args} {b : Builtin} {R : Flow → Shared → Prop} (hb : entryFor table id = some b) (hh : holder (.builtin id args) = false)
    (h : wpC H (model prog w) (A.under (.builtin id args)) (b args) (fun fin s' => match fin with | .done f => R f s' | .again c' => c'.quiet = true ∧ codeC H (model prog w) A c' R s') s) : codeC H (model prog w) A (.builtin id args) R s := by
  refine codeC.ofTree hh ?_
  have e : (model prog w).den (.builtin id args) = b args := by
    show (match entryFor table id with | some b => b args | none => unsupported ((withoutEnding? id "#data").getD id)) = _
    rw [hb]
  rw [e]; exact h
theorem wpC.ofEq {α : Type} {M : Model} {t : Sem α} {a : α} {Q : α → Shared → Prop} (e : t = Pure.pure a) (h : Q a s) : wpC H M A t Q s := by rw [e]; exact .pure h
theorem wpC.skip {α : Type} {M : Model} {t : Sem α} {Q : α → Shared → Prop} (h : wpC H M A t Q s) : wpC H M A t Q s := h
theorem wpC.no {α : Type} {M : Model} {c : Bool} {a b : Sem α} {Q : α → Shared → Prop} (hc : c = false) (h : wpC H M A b Q s) : wpC H M A (if c = true then a else b) Q s := by subst hc; exact h
theorem wpC.yes {α : Type} {M : Model} {c : Bool} {a b : Sem α} {Q : α → Shared → Prop} (hc : c = true) (h : wpC H M A a Q s) : wpC H M A (if c = true then a else b) Q s := by subst hc; exact h
theorem typeCall_C {T : String} {newId initId : String} {Q : Value → Shared → Prop} (ft : TypeCalled T newId initId) (hc : checkTypeCall T ⟨[], []⟩ = pure ())
    (h : wpC H (model prog w) A.in1 (call (.builtin newId) [.type T]) (fun obj s₁ => s₁.TypeIs obj T ∧ wpC H (model prog w) A.in1 (callSpecial? obj "__init__" []) (fun r s₂ => r = some .none ∧ Q obj s₂) s₁) s) :
    wpC H (model prog w) A (call (.type T) []) Q s := by
  refine wpC.call (codeC.ofTree rfl ?_)
  refine wpC.pure ⟨Code.quiet_builtin _ (by decide +kernel), codeC.builtin F.entry_type_call (show holdIds.contains "type.__call__" = false by decide +kernel) ?_⟩
  rw [Around.under_plain (weight_type_call_type T [] []) rfl]
  obtain ⟨c, tl, hm⟩ := ft.mro
  unfold Builtin.«type.__call__»
  refine wpC.no ft.notType ?_
  refine wpC.no ft.canCreate ?_
  refine wpC.bind (wpC.ofEq hc ?_)
  refine wpC.bind (wpC.ofEq hm ?_)
  refine wpC.no rfl ?_
  refine wpC.bind (wpC.ofEq ft.made ?_)
  refine wpC.bind (wpC.pure ?_)
  refine wpC.bind (wpC.holding (h.mono fun obj s₁ h => ?_))
  refine wpC.bind (wpC.ofAny (wpAny_isInstance h.1 ft.sub ?_))
  refine wpC.no rfl ?_
  refine wpC.bind (wpC.holding (h.2.mono fun r s₂ h => ?_))
  obtain ⟨rfl, hq⟩ := h
  refine wpC.no rfl ?_
  exact wpC.pure ⟨_, rfl, hq⟩

theorem cSpecial {self : Value} {T : String} {name : Str} {id : String} {args : List Value} {kw : List (Str × Value)} {Q : Option Value → Shared → Prop} {M : Model} (hT : s.TypeIs self T) (h : Slot T name id)
    (hc : wpC H M A (call (.builtin id) (self :: args) kw) (fun v => Q (some v)) s) : wpC H M A (callSpecial? self name args kw) Q s := by
  simp only [callSpecial?]
  refine wpC.bind (wpC.ofAny (wpAny_specialOf hT h.lookup ?_))
  simp only [h.bind]
  exact wpC.holding (wpC.bind (wpC.pure (wpC.bind (hc.mono fun v s' h' => wpC.pure h'))))
/-- A built-in is called. -/
theorem cCallB {id : String} {args : List Value} {b : Builtin} {Q : Value → Shared → Prop} (hb : entryFor table id = some b) (hh : holdIds.contains id = false) (hp : plainId id = true)
    (hc : ∀ (E : Value → Shared → Prop) (Q : Unit → Shared → Prop), Q () s → wpAny (model prog w) A.in1 (checkBuiltinCall id ⟨args, []⟩) Q E s)
    (h : wpC H (model prog w) A.in1 (b ⟨args, []⟩) (fun fin s' => ∃ v, fin = .done (.ret v) ∧ Q v s') s) : wpC H (model prog w) A (call (.builtin id) args) Q s := by
  refine wpC.call (codeC.ofTree rfl ?_)
  show wpC _ _ A.in1 (do checkBuiltinCall id ⟨args, []⟩; again (.builtin id ⟨args, []⟩)) _ s
  refine wpC.bind (wpC.ofAny (hc _ _ (wpC.pure ⟨plainId_quiet hp _, codeC.builtin hb hh ?_⟩)))
  rw [Around.under_plainId hp _]
  exact h.mono fun fin s' ⟨v, e, q⟩ => by subst e; exact ⟨v, rfl, q⟩
theorem dno {p : Prop} [Decidable p] {t : p → Bool} {e : ¬p → Bool} (h : ¬p) (he : e h = false) : dite p t e = false := (dif_neg h).trans he
theorem not_exported {M : Model} {v : Value} {Q : Bool → Shared → Prop} (hH : H) (h : Q false s) : wpC H M A (Builtin.Bytes.exported v) Q s := by
  unfold Builtin.Bytes.exported
  refine wpC.bind (wpC.stack fun l hl => wpC.pure ?_)
  have e : ∀ b, b = false → Q b s := fun b hb => hb ▸ h
  refine e _ (List.any_eq_false.mpr fun x hx => ?_)
  have hn := hl hH x hx
  obtain ⟨c, p⟩ := x
  cases c with
  | builtin id args =>
    obtain ⟨pos, kw⟩ := args
    have hn : holdIds.contains id = false := hn
    have no : ∀ y, holdIds.contains y = true → ¬ id = y := fun y hy e => by rw [e, hy] at hn; cases hn
    have hd : Builtin.Bytes.decodersThatHold.contains id = false := by
      rw [Bool.eq_false_iff] at hn ⊢
      intro hc
      apply hn
      rw [List.contains_iff_mem] at hc ⊢
      exact List.mem_append_right _ hc
    delta PySem.Builtin.Bytes.exported.match_1
    refine Bool.eq_false_iff.mp (dno (no _ (by decide +kernel)) (dno (no _ (by decide +kernel)) (dno (no _ (by decide +kernel)) (dno (no _ (by decide +kernel)) (dno (no _ (by decide +kernel)) ?_)))))
    cases pos with
    | nil => rfl
    | cons y r => exact (congrArg (Builtin.Bytes.sameRef y v && ·) hd).trans (Bool.and_false _)
  | _ => exact Bool.false_ne_true
theorem may_resize {M : Model} {a : Addr} {o : Obj} {b : Array UInt8} {Q : Unit → Shared → Prop} (hH : H) (ho : s.heap.get? a = some o) (hd : o.data = .bytearray b) (h : Q () s) : wpC H M A (Builtin.Bytes.checkResize (.ref a)) Q s := by
  unfold Builtin.Bytes.checkResize
  refine wpC.bind ?_
  unfold orM
  refine wpC.bind (not_exported hH ?_)
  show wpC H M A (Builtin.Bytes.exportsOf (.ref a) >>= fun n => Pure.pure (decide (n > 0))) _ s
  refine wpC.bind ?_
  show wpC H M A (load a >>= fun o => match o.data with | .bytearray _ n => Pure.pure n | _ => Pure.pure 0) _ s
  refine wpC.bind (wpC.load ho ?_)
  rw [hd]
  exact wpC.pure (wpC.pure (wpC.no rfl (wpC.pure h)))

theorem checkedBy {T : String} {name : Str} {id : String} {self : Value} {rest : List Value} {M : Model} (slot : Slot T name id) (hT : s.TypeIs self T) (ha : argsOk id ⟨self :: rest, []⟩) (E : Value → Shared → Prop) (Q : Unit → Shared → Prop) (h : Q () s) :
    wpAny M A (checkBuiltinCall id ⟨self :: rest, []⟩) Q E s := slot.check _ _ _ _ _ _ _ _ hT ha h
end
/-! ### a bytearray of the ledger -/
def baObj (x : List UInt8) : Obj := { cls := .type "bytearray", data := .bytearray x.toArray }
namespace BA
theorem look_buffer : typeLookup (.type "bytearray") "__buffer__" = pure (some (.builtin "bytearray.__buffer__")) := by rw [typeLookup_type, builtinLookup_eq_fast]; kernel_rfl
theorem look_release : typeLookup (.type "bytearray") "__release_buffer__" = pure (some (.builtin "bytearray.__release_buffer__")) := by rw [typeLookup_type, builtinLookup_eq_fast]; kernel_rfl
theorem slot_append : Slot "bytearray" "append" "bytearray.append" :=
  .of (owner := "bytearray") (n := "append") (by rw [typeLookup_type, builtinLookup_eq_fast]; kernel_rfl) (by decide +kernel) (by decide +kernel) (by decide +kernel)
    (by first | exact .inl (by decide +kernel) | exact .inr (by decide +kernel)) (by rw [isSubtype_type]; kernel_rfl)
theorem slot_iadd : Slot "bytearray" "__iadd__" "bytearray.__iadd__" :=
  .of (owner := "bytearray") (n := "__iadd__") (by rw [typeLookup_type, builtinLookup_eq_fast]; kernel_rfl) (by decide +kernel) (by decide +kernel) (by decide +kernel)
    (by first | exact .inl (by decide +kernel) | exact .inr (by decide +kernel)) (by rw [isSubtype_type]; kernel_rfl)
theorem slot_len : Slot "bytearray" "__len__" "bytearray.__len__" :=
  .of (owner := "bytearray") (n := "__len__") (by rw [typeLookup_type, builtinLookup_eq_fast]; kernel_rfl) (by decide +kernel) (by decide +kernel) (by decide +kernel)
    (by first | exact .inl (by decide +kernel) | exact .inr (by decide +kernel)) (by rw [isSubtype_type]; kernel_rfl)
theorem entry_append : entryFor table "bytearray.append" = some Builtin.«bytearray.append» := entryFor_of_tree (by kernel_rfl)
theorem entry_iadd : entryFor table "bytearray.__iadd__" = some Builtin.«bytearray.__iadd__» := entryFor_of_tree (by kernel_rfl)
theorem entry_len : entryFor table "bytearray.__len__" = some Builtin.«bytearray.__len__» := entryFor_of_tree (by kernel_rfl)
theorem args_append (a b : Value) : argsOk "bytearray.append" ⟨[a, b], []⟩ := by unfold argsOk; kernel_rfl
theorem args_iadd (a b : Value) : argsOk "bytearray.__iadd__" ⟨[a, b], []⟩ := by unfold argsOk; kernel_rfl
theorem args_len (a : Value) : argsOk "bytearray.__len__" ⟨[a], []⟩ := by unfold argsOk; kernel_rfl
theorem ga : typeLookup (.type "bytearray") "__getattribute__" = pure (some (.builtin "bytearray.__getattribute__")) := by rw [typeLookup_type, builtinLookup_eq_fast]; kernel_rfl
theorem attrs : PlainAttrs "bytearray" := ⟨⟨_, ga, by decide +kernel⟩, by rw [typeLookup_type, builtinLookup_eq_fast]; kernel_rfl⟩
theorem kind_append : typeOf (.builtin "bytearray.append") = pure (.type "method_descriptor") := by kernel_rfl
theorem bind_init : Builtin.Bytes.bindOptional "bytearray.__init__" "bytearray" ["source", "encoding", "errors"] [] [] = pure [none, none, none] := by kernel_rfl
end BA
section
variable {H : Prop} {M : Model} {A : Around} {s : Shared} {a : Addr} {x : List UInt8}
theorem baTypeIs (h : s.heap.get? a = some (baObj x)) : s.TypeIs (.ref a) "bytearray" := ⟨_, h, rfl⟩
theorem baOwn {E : Value → Shared → Prop} {name id : String} {Q : Bool → Shared → Prop} (h : s.heap.get? a = some (baObj x)) (hl : typeLookup (.type "bytearray") (name : Str) = pure (some (.builtin id)))
    (h1 : id.endsWith ("." ++ name) = true) (h2 : id.dropRight (name.length + 1) = "bytearray") (hq : Q true s) : wpAny M A (Builtin.Bytes.slotIsOwn (.ref a) name) Q E s := by
  unfold Builtin.Bytes.slotIsOwn
  refine wpAny_bind (wpAny_specialOf (baTypeIs h) hl ?_)
  show wpAny M A (if (!id.endsWith ("." ++ name)) = true then _ else _) Q E s
  rw [h1, if_neg (by decide), h2]
  exact wpAny_isInstance (baTypeIs h) BA.sub hq
theorem baRelease {E : Value → Shared → Prop} {Q : Bool → Shared → Prop} (h : s.heap.get? a = some (baObj x)) (hq : Q false s) : wpAny M A (Builtin.Bytes.ownRelease (.ref a)) Q E s := by
  unfold Builtin.Bytes.ownRelease
  exact wpAny_bind (baOwn h BA.look_release (by decide +kernel) (by decide +kernel) (wpAny_pure hq))
theorem baPayload {E : Value → Shared → Prop} {Q : Array UInt8 → Shared → Prop} (h : s.heap.get? a = some (baObj x)) (hq : Q x.toArray s) : wpAny M A (Builtin.Bytes.payload (.ref a)) Q E s := by
  unfold Builtin.Bytes.payload Builtin.Bytes.payload?
  exact wpAny_bind (wpAny_bind (wpAny_load h (wpAny_pure (wpAny_pure hq))))
theorem baWrite {E : Value → Shared → Prop} {f : Array UInt8 → Array UInt8} {y : List UInt8} {Q : Unit → Shared → Prop} (h : s.heap.get? a = some (baObj x)) (hf : f x.toArray = y.toArray) (hz : y.length ≤ 16777216)
    (hq : ∀ h', h'.get? a = some (baObj y) → Heap.SameBut a s.heap h' → Q () { s with heap := h' }) : wpAny M A (Builtin.Bytes.write (.ref a) f) Q E s := by
  show wpAny M A (updateBytearray a f) Q E s
  unfold updateBytearray
  refine wpAny_bind (wpAny_load h ?_)
  show wpAny M A (update a (Obj.mapBytearray f) >>= fun _ => lookBehind a) Q E s
  have e : Obj.mapBytearray f (baObj x) = baObj y := by
    show ({ cls := .type "bytearray", data := .bytearray (f x.toArray) } : Obj) = _
    rw [hf]; rfl
  have h2 : (s.heap.update a (Obj.mapBytearray f)).get? a = some (baObj y) := e ▸ Heap.get?_update_self (Obj.mapBytearray f) h (by rw [e]; rfl)
  refine wpAny_bind (wpAny_update h ?_)
  refine wpAny_lookBehind h2 ?_ (hq _ h2 (Heap.SameBut.update ..))
  show (if y.toArray.size > sizeLine then some "bytearray:memory" else none) = none
  rw [if_neg]
  rw [sizeLine_eq, List.size_toArray]; omega
end


section
variable {H : Prop} {M : Model} {A : Around} {s : Shared} {a : Addr} {x : List UInt8}
theorem baInit {Q : Fin → Shared → Prop} (hH : H) (hg : s.heap.get? a = some (baObj [])) (h : ∀ h', h'.get? a = some (baObj []) → Heap.SameBut a s.heap h' → Q (.done (.ret .none)) { s with heap := h' }) :
    wpC H M A (Builtin.«bytearray.__init__» ⟨[.ref a], []⟩) Q s := by
  unfold Builtin.«bytearray.__init__»
  refine wpC.bind (wpC.ofAny (baRelease hg (wpC.no rfl ?_)))
  refine wpC.bind (wpC.ofEq BA.bind_init ?_)
  refine wpC.bind (wpC.ofEq (a := ()) rfl ?_)
  refine wpC.bind (wpC.ofEq (a := ()) rfl ?_)
  refine wpC.bind ?_
  unfold orM
  refine wpC.bind (not_exported hH ?_)
  show wpC _ _ _ (Builtin.Bytes.exportsOf (.ref a) >>= fun n => Pure.pure (decide (n > 0))) _ _
  refine wpC.bind ?_
  show wpC _ _ _ (load a >>= fun o => match o.data with | .bytearray _ n => Pure.pure n | _ => Pure.pure 0) _ _
  refine wpC.bind (wpC.load hg (wpC.pure (wpC.pure (wpC.no rfl ?_))))
  refine wpC.bind (wpC.ofAny (baWrite (y := []) hg rfl (by simp) fun h' hh hb => ?_))
  exact wpC.ofEq (a := .done (.ret .none)) rfl (h _ hh hb)
theorem baAppend {Q : Fin → Shared → Prop} {n : Int} {t : Tok} (hH : H) (h0 : 0 ≤ n) (h1 : n < 256) (hz : x.length < 16777216) (hg : s.heap.get? a = some (baObj x))
    (h : ∀ h', h'.get? a = some (baObj (x ++ [n.toNat.toUInt8])) → Heap.SameBut a s.heap h' → Q (.done (.ret .none)) { s with heap := h' }) :
    wpC H M A (Builtin.«bytearray.append» ⟨[.ref a, .int n t], []⟩) Q s := by
  unfold Builtin.«bytearray.append»
  refine wpC.bind (wpC.ofEq (a := (.ref a, .int n t)) rfl ?_)
  show wpC _ _ _ (Builtin.Bytes.byteValue (.int n t) >>= fun c => _) _ _
  refine wpC.bind ?_
  unfold Builtin.Bytes.byteValue
  refine wpC.bind (wpC.ofEq (a := n) rfl ?_)
  refine wpC.no (by simp only [Bool.or_eq_false_iff, decide_eq_false_iff_not]; omega) (wpC.pure ?_)
  refine wpC.bind (may_resize hH hg rfl ?_)
  refine wpC.bind (wpC.ofAny (baWrite (y := x ++ [n.toNat.toUInt8]) hg (by simp) (by simp; omega) fun h' hh hb => ?_))
  exact wpC.ofEq (a := .done (.ret .none)) rfl (h _ hh hb)
end

section
variable {C : Cx} {A : Around} {L : Addr} {ls : Loc} {σ : Led} {Q : Value → Loc → Led → Prop}
theorem wBAMeth {a : Addr} {x : List UInt8} {pl : Sem Bool} {Q : Value × List Value → Loc → Led → Prop} (hm : (a, baObj x) ∈ σ) (h : Q (.builtin "bytearray.append", [.ref a]) ls σ) : W C A L (getMethod (.ref a) "append" pl) ls σ Q :=
  .leaf fun s R S k => getMethod_builtin (baTypeIs (S.get hm)) BA.attrs BA.slot_append BA.kind_append (fun b e => by cases e; exact ⟨_, S.get hm, rfl⟩) (k _ _ _ _ S h)
theorem baCallAppend {s : Shared} {a : Addr} {x : List UInt8} {prog : Program} {w : World} {n : Int} {t : Tok} {Q : Value → Shared → Prop} (hH : H) (h0 : 0 ≤ n) (h1 : n < 256) (hz : x.length < 16777216) (hg : s.heap.get? a = some (baObj x))
    (h : ∀ h', h'.get? a = some (baObj (x ++ [n.toNat.toUInt8])) → Heap.SameBut a s.heap h' → Q .none { s with heap := h' }) : wpC H (model prog w) A (call (.builtin "bytearray.append") [.ref a, .int n t]) Q s :=
  cCallB BA.entry_append (by decide +kernel) BA.slot_append.plain (fun _ _ hq => BA.slot_append.check _ _ _ _ _ _ _ _ (baTypeIs hg) (BA.args_append (.ref a) (.int n t)) hq)
    (baAppend hH h0 h1 hz hg fun h' hh hb => ⟨_, rfl, h h' hh hb⟩)
theorem wBAAppend {a : Addr} {x : List UInt8} {n : Int} {t : Tok} {pre post : Led} (hH : C.H) (h0 : 0 ≤ n) (h1 : n < 256) (hz : x.length < 16777216) (h : Q .none ls (pre ++ (a, baObj (x ++ [n.toNat.toUInt8])) :: post)) :
    W C A L (call (.builtin "bytearray.append") [.ref a, .int n t]) ls (pre ++ (a, baObj x) :: post) Q := fun s S =>
  baCallAppend hH h0 h1 hz (S.get (a := a) (o := baObj x) (by simp)) fun h' hh hb => ⟨ls, _, S.upd (tk := s.toks) hb hh, h⟩
theorem baCallNew {s : Shared} {prog : Program} {w : World} {Q : Value → Shared → Prop} (hH : H) (h : ∀ h', h'.get? s.heap.objs.size = some (baObj []) → (∀ b o, s.heap.get? b = some o → h'.get? b = some o) → Q (.ref s.heap.objs.size) { s with heap := h' }) :
    wpC H (model prog w) A (call (.type "bytearray") []) Q s := by
  refine typeCall_C BA.called BA.typeCall (wpC.ofAny (wpAny_call (codeAny_mono (ba_new (E := fun _ _ => False) (Q₁ := fun v s' => v = .ref s.heap.objs.size ∧ s' = { s with heap := s.heap.push (baObj []) }) ⟨rfl, rfl⟩) fun r s' hr => ?_)))
  cases r with
  | error e => exact hr.elim
  | ok f =>
    cases f with
    | ret v =>
      obtain ⟨rfl, rfl⟩ := hr
      have hg : ({ s with heap := s.heap.push (baObj []) } : Shared).heap.get? s.heap.objs.size = some (baObj []) := Heap.get?_push_size _ rfl
      refine ⟨baTypeIs hg, cSpecial (baTypeIs hg) BA.slot_init (cCallB BA.entry_init (by decide +kernel) BA.slot_init.plain (fun _ _ hq => BA.slot_init.check _ _ _ _ _ _ _ _ (baTypeIs hg) (BA.args_init (.ref s.heap.objs.size)) hq) ?_)⟩
      refine baInit hH hg fun h' hh hb => ⟨_, rfl, rfl, h h' hh fun b o e => ?_⟩
      exact (hb.2 b (Nat.ne_of_lt (Heap.lt_size e))).trans (Heap.get?_push_of_some _ e)
    | next => exact hr.elim
    | brk => exact hr.elim
    | cont => exact hr.elim
theorem wBANew (hH : C.H) (h : ∀ a, Q (.ref a) ls ((a, baObj []) :: σ)) : W C A L (call (.type "bytearray") []) ls σ Q := fun s S =>
  baCallNew hH fun h' hh hk => ⟨ls, _, S.add (tk := s.toks) hk (Nat.le_refl _) hh, h _⟩
end
end Og
end

section
open PySem PySem.W PySem.Calls PyProof.Rows
namespace Og
namespace BA
theorem no_fill : fillsNumberSlot (.type "bytearray") "add" = pure false := by
  refine PySem.fillsNumberSlot_seq (id := "bytearray.__add__") (r := none) ?_ (by decide +kernel) ?_ rfl <;> (rw [typeLookup_type, builtinLookup_eq_fast]; kernel_rfl)
theorem no_inplace : fillsInplaceSlot (.type "bytearray") "add" (Operator.Add == .Add) = pure false := by
  unfold fillsInplaceSlot
  show (typeLookup (.type "bytearray") (dunderI "add") >>= fun fi => pure (fi.isSome && !isSeqSlot fi)) = pure false
  rw [show typeLookup (.type "bytearray") (dunderI "add") = pure (some (.builtin "bytearray.__iadd__")) from slot_iadd.lookup]
  kernel_rfl
theorem seq_iadd : seqSlot? (.type "bytearray") (dunderI "add") = pure (some (.builtin "bytearray.__iadd__")) := PySem.seqSlot_of slot_iadd.lookup (by decide +kernel)
theorem take_bytes (b : Array UInt8) (t : Tok) : Builtin.Bytes.takeBufferQuiet? "bytearray.__iadd__" (.bytes b t) 0 = pure (some (b, none)) := by
  have h : Builtin.Bytes.takeBuffer? "bytearray.__iadd__" (.bytes b t) 0 = pure (some (b, none)) := by
    unfold Builtin.Bytes.takeBuffer?
    rw [KBy.special_eq KBy.look_buffer, KBy.own_buffer]
    have e : ((0 : Int) == Builtin.Bytes.fullReadOnly) = false := by decide +kernel
    rw [e, KBy.buffer_eq]
    kernel_rfl
  unfold Builtin.Bytes.takeBufferQuiet?
  rw [h]
  rfl
theorem noBytes : typeLookup (.type "bytearray") "__bytes__" = pure none := by rw [typeLookup_type, builtinLookup_eq_fast]; kernel_rfl
theorem noIndex : typeLookup (.type "bytearray") "__index__" = pure none := by rw [typeLookup_type, builtinLookup_eq_fast]; kernel_rfl
end BA
section
variable {H : Prop} {prog : Program} {w : World} {A : Around} {s : Shared} {a : Addr} {x y : List UInt8} {t : Tok}
theorem baIadd {M : Model} {Q : Fin → Shared → Prop} (hH : H) (hz : x.length + y.length ≤ 16777216) (hg : s.heap.get? a = some (baObj x))
    (h : ∀ h', h'.get? a = some (baObj (x ++ y)) → Heap.SameBut a s.heap h' → Q (.done (.ret (.ref a))) { s with heap := h' }) :
    wpC H M A (Builtin.«bytearray.__iadd__» ⟨[.ref a, .bytes y.toArray t], []⟩) Q s := by
  unfold Builtin.«bytearray.__iadd__»
  refine wpC.bind (wpC.ofEq (a := (.ref a, [.bytes y.toArray t])) rfl ?_)
  show wpC _ _ _ (Builtin.Bytes.takeBufferQuiet? "bytearray.__iadd__" (.bytes y.toArray t) 0 >>= _) _ _
  refine wpC.bind (wpC.ofEq (BA.take_bytes _ _) ?_)
  have fin : wpC H M A (Builtin.Bytes.payload (.ref a) >>= fun p => if Builtin.Bytes.tooLong (p.size + y.toArray.size) = true then (unsupported "bytearray.__iadd__:memory" : Sem Unit) >>= fun _ => Builtin.Bytes.write (.ref a) (· ++ y.toArray) >>= fun _ => ret (.ref a) else Builtin.Bytes.write (.ref a) (· ++ y.toArray) >>= fun _ => ret (.ref a)) Q s := by
    refine wpC.bind (wpC.ofAny (baPayload hg ?_))
    refine wpC.no (KBy.tooLong_not (by simpa using hz)) ?_
    refine wpC.bind (wpC.ofAny (baWrite (y := x ++ y) hg (by simp) (by simp; omega) fun h' hh hb => ?_))
    exact wpC.ofEq (a := .done (.ret (.ref a))) rfl (h _ hh hb)
  show wpC H M A (if (!y.toArray.isEmpty) = true then _ else _) Q s
  cases he : (!y.toArray.isEmpty) with
  | false => exact wpC.no rfl fin
  | true =>
    refine wpC.yes rfl ?_
    refine wpC.no (show Builtin.Bytes.sameRef (.ref a) (.bytes y.toArray t) = false from rfl) ?_
    exact wpC.bind (may_resize hH hg rfl fin)
theorem baInplace {Q : Value → Shared → Prop} (hH : H) (hz : x.length + y.length ≤ 16777216) (hg : s.heap.get? a = some (baObj x))
    (h : ∀ h', h'.get? a = some (baObj (x ++ y)) → Heap.SameBut a s.heap h' → Q (.ref a) { s with heap := h' }) : wpC H (model prog w) A (inplaceOp .Add (.ref a) (.bytes y.toArray t)) Q s := by
  unfold inplaceOp
  refine wpC.holding ?_
  refine wpC.bind (wpC.ofAny (wpAny_typeOf (baTypeIs hg) ?_))
  refine wpC.bind (wpC.ofEq BA.no_inplace ?_)
  refine wpC.no rfl ?_
  refine wpC.bind (wpC.ofAny ?_)
  have one : ∀ (E : Value → Shared → Prop) (Q' : Option Value → Shared → Prop), Q' none s → wpAny (model prog w) A (binaryOp1 "add" (.ref a) (.bytes y.toArray t)) Q' E s := by
    intro E Q' hq
    unfold binaryOp1
    dsimp only
    refine wpAny_bind (wpAny_typeOf (baTypeIs hg) (wpAny_bind (wpAny_typeOf (PySem.W.typeIs_bytes s _ _) (wpAny_bind (wpAny_of_eq BA.no_fill ?_)))))
    have e : (Value.type "bytearray" == Value.type "bytes") = false := by decide +kernel
    refine bm_if_false e ?_
    refine wpAny_bind (wpAny_of_eq KBy.noFill_bytes_add ?_)
    refine bm_if_false rfl ?_
    refine bm_if_false rfl ?_
    refine bm_if_false rfl ?_
    refine wpAny_bind (wpAny_pure ?_)
    refine bm_if_false rfl ?_
    refine bm_if_false rfl ?_
    exact bm_if_false rfl (bm_if_false rfl (wpAny_pure hq))
  refine one _ _ ?_
  show wpC _ _ _ (seqSlot? (.type "bytearray") (dunderI "add") >>= _) _ _
  refine wpC.bind (wpC.ofEq BA.seq_iadd ?_)
  refine wpC.bind (wpC.rule ?_)
  refine cCallB BA.entry_iadd (by decide +kernel) BA.slot_iadd.plain (fun _ _ hq => BA.slot_iadd.check _ _ _ _ _ _ _ _ (baTypeIs hg) (BA.args_iadd (.ref a) (.bytes y.toArray t)) hq) ?_
  exact baIadd hH hz hg fun h' hh hb => ⟨_, rfl, h h' hh hb⟩
theorem baLen {E : Value → Shared → Prop} {Q : Value → Shared → Prop} (hz : x.length ≤ 1099511627776) (hg : s.heap.get? a = some (baObj x)) (h : ∀ t n, Q (.int x.length t) { s with toks := n }) : wpAny (model prog w) A (call (.builtin "len") [.ref a]) Q E s := by
  refine call_len_meets (n := x.length) (S := fun _ R s => s.heap.get? a = some (baObj x) ∧ R (.ok (.ret (.int x.length s.toks))) { s with toks := s.toks + 1 }) (baTypeIs hg) BA.slot_len BA.entry_len (BA.args_len _) (.of_wp fun prog w A R s hs => ?_) (by omega) (by omega) (fun Q' hq => ⟨hg, hq⟩) (h _ _)
  obtain ⟨hg, hR⟩ := hs
  unfold Builtin.«bytearray.__len__»
  refine wpAny_bind (wpAny_of_eq (a := (.ref a, [])) rfl ?_)
  refine wpAny_bind (baPayload hg ?_)
  rw [List.size_toArray]
  exact wpAny_bind (wpAny_mkInt (wpAny_pure ⟨_, rfl, hR⟩))
theorem baToBytes {E : Value → Shared → Prop} {Q : Value → Shared → Prop} (hz : x.length ≤ 16777216) (hg : s.heap.get? a = some (baObj x)) (h : ∀ t n, Q (.bytes x.toArray t) { s with toks := n }) : wpAny (model prog w) A (call (.type "bytes") [.ref a]) Q E s := by
  refine callType_codes (Q₁ := fun obj s₁ => s₁.TypeIs obj "bytes" ∧ Q obj s₁) F.bm_called (F.bm_typeCall _) F.entry_object_init ?_ fun obj s₁ h₁ =>
    ⟨h₁.1, F.args_object_init_2 obj _, object_init_meets F.bm_called.init.lookup F.bm_called.made (by decide) prog w A.in1 _ s₁ ⟨h₁.1, rfl, h₁.2⟩⟩
  refine codeAny_of_tree ?_
  show wpAny _ A.in1.in1 (do checkBuiltinCall "bytes.__new__" ⟨[.type "bytes", .ref a], []⟩; again (.builtin "bytes.__new__" ⟨[.type "bytes", .ref a], []⟩)) _ _ s
  refine wpAny_bind (wpAny_of_eq (F.bm_newCall _) (wpAny_pure ⟨plainId_quiet F.bm_plain _, codeAny_builtin F.bm_entry ?_⟩))
  rw [Around.under_plainId F.bm_plain _]
  have hT := baTypeIs hg
  unfold Builtin.«bytes.__new__»
  refine wpAny_bind (wpAny_of_eq (a := true) rfl ?_)
  refine bm_if_false rfl ?_
  refine wpAny_bind (wpAny_of_eq F.bm_sub ?_)
  refine bm_if_false rfl ?_
  refine wpAny_bind (wpAny_of_eq (F.bm_bind _) ?_)
  refine wpAny_bind (wpAny_of_eq (a := ()) rfl ?_)
  refine wpAny_bind (wpAny_of_eq (a := ()) rfl ?_)
  refine bm_if_false rfl ?_
  refine wpAny_bind (wpAny_specialOf hT BA.noBytes ?_)
  refine wpAny_bind (wpAny_bind ?_)
  show wpAny _ _ (load a >>= _) _ _ _
  refine wpAny_bind (wpAny_load hg ?_)
  refine wpAny_pure (wpAny_pure ?_)
  refine bm_if_false rfl ?_
  refine wpAny_bind (wpAny_specialOf hT BA.noIndex ?_)
  refine bm_if_true rfl ?_
  first
    | show wpAny _ _ (Builtin.Bytes.buffer? "bytes.__new__" (.ref a) true >>= _) _ _ _
    | (refine wpAny_bind ?_; show wpAny _ _ (Builtin.Bytes.buffer? "bytes.__new__" (.ref a) true >>= _) _ _ _)
  refine wpAny_bind ?_
  unfold Builtin.Bytes.buffer?
  refine wpAny_bind (wpAny_specialOf hT BA.look_buffer ?_)
  refine wpAny_bind (baOwn hg BA.look_buffer (by decide +kernel) (by decide +kernel) ?_)
  refine bm_if_false rfl ?_
  refine wpAny_bind (wpAny_specialOf hT BA.look_buffer ?_)
  refine wpAny_bind (baRelease hg ?_)
  refine bm_if_false rfl ?_
  refine wpAny_bind (baPayload hg (wpAny_pure ?_))
  refine wpAny_bind (wpAny_rule ?_)
  refine wpAny_bind (wpAny_mkBytes ?_ (by rw [List.size_toArray]; exact hz))
  show wpAny _ _ (if (Value.type "bytes" == Value.type "bytes") = true then _ else _) _ _ _
  refine bm_if_true (by decide) ?_
  first
    | exact wpAny_pure ⟨PySem.W.typeIs_bytes _ _ _, h _ _⟩
    | exact wpAny_bind (wpAny_pure (wpAny_pure ⟨PySem.W.typeIs_bytes _ _ _, h _ _⟩))
end
section
variable {C : Cx} {A : Around} {L : Addr} {ls : Loc} {σ : Led} {Q : Value → Loc → Led → Prop} {a : Addr} {x y : List UInt8} {t : Tok}
theorem wBAIadd {pre post : Led} (hH : C.H) (hz : x.length + y.length ≤ 16777216) (h : Q (.ref a) ls (pre ++ (a, baObj (x ++ y)) :: post)) : W C A L (inplaceOp .Add (.ref a) (.bytes y.toArray t)) ls (pre ++ (a, baObj x) :: post) Q := fun s S =>
  baInplace hH hz (S.get (a := a) (o := baObj x) (by simp)) fun h' hh hb => ⟨ls, _, S.upd (tk := s.toks) hb hh, h⟩
theorem wBALen (hm : (a, baObj x) ∈ σ) (hz : x.length ≤ 1099511627776) (h : ∀ t, Q (.int x.length t) ls σ) : W C A L (call (.builtin "len") [.ref a]) ls σ Q :=
  .leaf fun s R S k => baLen hz (S.get hm) fun t n => k _ _ _ _ S.toks (h t)
theorem wBABytes (hm : (a, baObj x) ∈ σ) (hz : x.length ≤ 16777216) (h : ∀ t, Q (.bytes x.toArray t) ls σ) : W C A L (call (.type "bytes") [.ref a]) ls σ Q :=
  .leaf fun s R S k => baToBytes hz (S.get hm) fun t n => k _ _ _ _ S.toks (h t)
end
end Og
end

section
open PySem PySem.W PySem.Calls PyProof.Rows
namespace Og

section
variable {C : Cx} {A : Around} {L : Addr} {ls : Loc} {σ σ' : Led} {s : Shared} {α : Type}
/-! ### lists -/
def lst (vs : List Value) (n : Nat) : Obj := { cls := .type "list", data := .seq vs.toArray n }
def tup (vs : List Value) : Obj := { cls := .type "tuple", data := .seq vs.toArray }
def slc (l u t : Value) : Obj := { cls := .type "slice", data := .fields #[l, u, t] }
variable {a b : Addr} {vs us : List Value} {n k : Nat} {Q : Value → Loc → Led → Prop} {v : Value}
theorem St.list (S : St C L ls σ s) (hm : (a, lst vs n) ∈ σ) : s.heap.IsList a vs.toArray := ⟨_, S.get hm, rfl, n, rfl⟩
theorem St.tup (S : St C L ls σ s) (hm : (a, Og.tup vs) ∈ σ) : IsTup s.heap a vs.toArray := ⟨_, S.get hm, rfl, _, rfl⟩
theorem St.slc {l u t : Value} (S : St C L ls σ s) (hm : (a, Og.slc l u t) ∈ σ) : s.heap.IsSliceOf a l u t := ⟨_, S.get hm, rfl, rfl⟩
theorem wLNew (hsz : vs.length ≤ sizeLine) (h : ∀ a, Q (.ref a) ls ((a, lst vs 0) :: σ)) : W C A L (newList vs) ls σ Q := wNewList hsz h
theorem wTNew (hsz : vs.length ≤ sizeLine) (h : ∀ a, Q (.ref a) ls ((a, Og.tup vs) :: σ)) : W C A L (newTuple vs) ls σ Q := wNewTuple hsz h
theorem wListMeth {id name : String} {pl : Sem Bool} {Q : Value × List Value → Loc → Led → Prop} (slot : Slot "list" (name : Str) id) (hty : typeOf (.builtin id) = pure (.type "method_descriptor")) (hm : (a, lst vs n) ∈ σ) (h : Q (.builtin id, [.ref a]) ls σ) :
    W C A L (getMethod (.ref a) (name : Str) pl) ls σ Q :=
  .leaf fun s R S kk => getMethod_builtin (S.list hm).typeIs PySem.F.plainAttrs_list slot hty (fun c e => by cases e; exact ⟨_, S.get hm, rfl⟩) (kk _ _ _ _ S h)
theorem wAppend (sw : Swap a (lst vs n) (lst (vs ++ [v]) (n + 1)) σ σ') (hz : vs.length ≤ sizeLine) (h : Q .none ls σ') : W C A L (call (.builtin "list.append") [.ref a, v]) ls σ Q :=
  .leaf fun s R S kk => by
    obtain ⟨m, F, hl⟩ := S.fr
    have U := S.updOf sw
    refine append_K (its := vs.toArray) (n := n) (news' := σ') F S.news ?_ (fun h' F' N' => kk _ _ _ _ (S.again hl F' (tk := s.toks) N' (nodup_swap sw S.nodup)) h) (by simpa using hz)
    simpa [lst] using U
theorem wInsert1 {x y : Value} {t : Tok} {r : List Value} (sw : Swap a (lst (x :: r) n) (lst (x :: y :: r) (n + 1)) σ σ') (hz : r.length < sizeLine) (h : Q .none ls σ') : W C A L (call (.builtin "list.insert") [.ref a, .int 1 t, y]) ls σ Q :=
  .leaf fun s R S kk => by
    obtain ⟨m, F, hl⟩ := S.fr
    refine kl_insert (its := (x :: r).toArray) (l := x :: y :: r) F S.news (by decide +kernel) ?_ (S.updOf sw) (by simp only [List.length_cons]; omega) fun h' F' N' => kk _ _ _ _ (S.again hl F' (tk := s.toks) N' (nodup_swap sw S.nodup)) h
    simp [kl_ins]
theorem wPop0 {x : Value} {t : Tok} {r : List Value} (sw : Swap a (lst (x :: r) n) (lst r (n + 1)) σ σ') (hz : r.length < sizeLine) (h : Q x ls σ') : W C A L (call (.builtin "list.pop") [.ref a, .int 0 t]) ls σ Q :=
  .leaf fun s R S kk => by
    obtain ⟨m, F, hl⟩ := S.fr
    refine kl_popAt (its := (x :: r).toArray) (k := 0) (p := []) (q := r) (y := x) F S.news (by decide +kernel) ?_ rfl (S.updOf sw) (by simp only [List.length_cons]; omega) fun h' F' N' => kk _ _ _ _ (S.again hl F' (tk := s.toks) N' (nodup_swap sw S.nodup)) h
    simp [seqIndex?]
theorem wExtend {m : Nat} (sw : Swap a (lst vs n) (lst (vs ++ us) (n + 1)) σ σ') (hb : (b, lst us m) ∈ σ) (hne : us ≠ []) (hz : vs.length + us.length ≤ 1048576) (h : Q .none ls σ') : W C A L (call (.builtin "list.extend") [.ref a, .ref b]) ls σ Q :=
  .leaf fun s R S kk => by
    obtain ⟨mm, F, hl⟩ := S.fr
    refine kl_extend (its := vs.toArray) (its2 := us.toArray) (n2 := m) (l := vs ++ us) F S.news hb rfl (by simpa using hne) (S.updOf sw) ?_ (by simp only [List.size_toArray, sizeLine_eq]; omega) (by simp only [List.size_toArray, sizeLine_eq]; omega) fun h' F' N' => kk _ _ _ _ (S.again hl F' (tk := s.toks) N' (nodup_swap sw S.nodup)) h
    have e : Builtin.List.listTooLong (vs.toArray.size + us.toArray.size) = false := by
      unfold Builtin.List.listTooLong
      simp only [List.size_toArray, sizeLine_eq, decide_eq_false_iff_not]; omega
    rw [e, Bool.and_false]; exact Bool.false_ne_true
theorem wListLen (hm : (a, lst vs n) ∈ σ) (hz : vs.length ≤ 1048576) (h : ∀ t, Q (.int vs.length t) ls σ) : W C A L (call (.builtin "len") [.ref a]) ls σ Q :=
  .leaf fun s R S kk => call_len_list (S.list hm) (by simp only [List.size_toArray]; omega) (kk _ _ _ _ S.toks (by simpa using h _))
theorem wListGet {i : Int} {t : Tok} {x : Value} (hm : (a, lst vs n) ∈ σ) (h0 : 0 ≤ i) (hi : i < 2 ^ 63) (hx : vs[i.toNat]? = some x) (h : Q x ls σ) : W C A L (getItem (.ref a) (.int i t)) ls σ Q :=
  .leaf fun s R S kk => wpAny_getItem_list (S.list hm) h0 hi (by simpa using hx) (kk _ _ _ _ S h)
theorem wTupGet {i : Int} {t : Tok} {x : Value} (hm : (a, Og.tup vs) ∈ σ) (h0 : 0 ≤ i) (hi : i < 2 ^ 63) (hx : vs[i.toNat]? = some x) (h : Q x ls σ) : W C A L (getItem (.ref a) (.int i t)) ls σ Q :=
  .leaf fun s R S kk => getItem_tuple (S.tup hm) (by omega) hi (j := i.toNat) (by
    have hlt : i.toNat < vs.length := by
      rw [List.getElem?_eq_some_iff] at hx; exact hx.1
    exact seqIndex_of h0 (by simp only [List.size_toArray]; omega)) (by simpa using hx) (kk _ _ _ _ S h)
theorem wListSlice {sl : Addr} {l u t : Value} {lo hi st : Option Int} (hm : (a, lst vs n) ∈ σ) (hs : (sl, Og.slc l u t) ∈ σ) (pl : IsPart l lo) (pu : IsPart u hi) (pt : IsPart t st) (h0 : st ≠ some 0) (hz : vs.length ≤ sizeLine)
    (h : ∀ b, Q (.ref b) ls ((b, lst (slicePick vs.toArray lo hi st).toList 0) :: σ)) : W C A L (getItem (.ref a) (.ref sl)) ls σ Q :=
  .leaf fun s R S kk => wpAny_getItem_list_slice (S.list hm) (S.slc hs) pl pu pt h0 (kk _ _ _ _ (S.push (tk := s.toks) rfl) (by
    have := h s.heap.objs.size
    unfold lst at this
    rwa [Array.toArray_toList] at this)) (by simpa using hz)
end
end Og
end

section
open PySem PySem.W PySem.Calls PyProof.Rows
namespace Og

/-- An iterator over n items: what it is at each place, what it needs, what it gives. -/
structure Iter (C : Cx) (it : Addr) (is : Nat → Obj → Prop) (n : Nat) (P : Led → Prop) (val : Nat → Value → Prop) : Prop where
  more : ∀ (l : Led) {τ : Led}, P τ → P (l ++ τ)
  item : ∀ {A : Around} {L : Addr} {ls : Loc} {τ : Led} {i : Nat} {o : Obj} {R : Option Value → Loc → Led → Prop}, i < n → is i o → P τ → (∀ v o', val i v → is (i + 1) o' → R (some v) ls ((it, o') :: τ)) → W C A L (pyNext (.ref it)) ls ((it, o) :: τ) R
  done : ∀ {A : Around} {L : Addr} {ls : Loc} {τ : Led} {o : Obj} {R : Option Value → Loc → Led → Prop}, A.handled = none → is n o → P τ → R none ls τ → W C A L (pyNext (.ref it)) ls ((it, o) :: τ) R
  self : ∀ {A : Around} {L : Addr} {ls : Loc} {τ : Led} {o : Obj} {R : Value → Loc → Led → Prop}, is 0 o → P τ → R (.ref it) ls ((it, o) :: τ) → W C A L (pyIter (.ref it)) ls ((it, o) :: τ) R

section
variable {C : Cx} {A : Around} {L : Addr} {ls : Loc} {σ τ : Led} {s : Shared}
theorem St.hd {a : Addr} {o : Obj} (S : St C L ls ((a, o) :: τ) s) : s.heap.get? a = some o := S.get (.head _)
theorem St.next {h' : Heap} {tk : Nat} {a : Addr} {o o' : Obj} (S : St C L ls ((a, o) :: τ) s) (hb : Heap.SameBut a s.heap h') (ho : h'.get? a = some o') : St C L ls ((a, o') :: τ) { s with heap := h', toks := tk } := S.swap .here hb ho
/-- All but one object is kept; that one is let go. -/
theorem St.lose {h' : Heap} {tk : Nat} {a : Addr} {o : Obj} (S : St C L ls ((a, o) :: τ) s) (hk : ∀ b o, b ≠ a → s.heap.get? b = some o → h'.get? b = some o) : St C L ls τ { s with heap := h', toks := tk } := by
  have D := S.news (a, o) (.head _)
  have nd := S.nodup
  rw [List.map_cons, List.nodup_cons] at nd
  obtain ⟨m, F, hl⟩ := S.fr
  refine ⟨⟨h', tk, S.eq⟩, ⟨m, ?_, hl⟩, fun p hp => ?_, nd.2⟩
  · refine ⟨?_, fun b x q => hk b x (fun z => ?_) (F.keep b x q), F.above⟩
    · obtain ⟨oL, es, ep, hL, r⟩ := F.ns
      exact ⟨oL, es, ep, hk _ _ (Ne.symm D.2.1) hL, r⟩
    · have := D.2.2; rw [← z, q] at this; cases this
  · have P := S.news p (.tail _ hp)
    exact ⟨hk _ _ (fun e => nd.1 (by rw [show ((a, o) : Addr × Obj).1 = p.1 from e.symm]; exact List.mem_map_of_mem hp)) P.1, P.2⟩
end

/-! ### lists -/
def isLI (l : Addr) (i : Nat) (o : Obj) : Prop := o.cls = .type "list_iterator" ∧ o.data = .fields #[.ref l, .int i 0]
theorem Iter.list {C : Cx} {it l : Addr} {vs : List Value} {n : Nat} : Iter C it (isLI l) vs.length (fun τ => (l, lst vs n) ∈ τ) (fun i v => vs[i]? = some v) where
  more := fun _ _ h => List.mem_append_right _ h
  item := fun {A L ls τ i o R} hi ho hp h => .leaf fun s R' S k => by
    have hx : vs.toArray[i]? = some vs[i] := by simp [hi]
    refine wpAny_pyNext_list_item (i := i) ⟨o, S.hd, ho.1, ho.2⟩ (S.list (.tail _ hp)) hx fun h' ⟨o', hg, hc, hd⟩ hb => k _ _ _ _ (S.next (tk := s.toks) hb hg) (h _ _ (by simp [hi]) ⟨hc, hd⟩)
  done := fun {A L ls τ o R} hh ho hp h => .leaf fun s R' S k => 
    wpAny_pyNext_list_end (i := vs.length) hh ⟨o, S.hd, ho.1, ho.2⟩ (S.list (.tail _ hp)) (by simp) fun h' hb => k _ _ _ _ (S.lose (tk := s.toks) fun b o hn e => hb b o hn e) h
  self := fun {A L ls τ o R} ho hp h => .leaf fun s R' S k => wpAny_pyIter_listiter (i := 0) ⟨o, S.hd, ho.1, ho.2⟩ (k _ _ _ _ S h)
theorem wIterList {C : Cx} {A : Around} {L : Addr} {ls : Loc} {σ : Led} {l : Addr} {vs : List Value} {n : Nat} {Q : Value → Loc → Led → Prop} (hm : (l, lst vs n) ∈ σ) (h : ∀ it o, isLI l 0 o → Q (.ref it) ls ((it, o) :: σ)) : W C A L (pyIter (.ref l)) ls σ Q :=
  .leaf fun s R S k => wpAny_pyIter_list (S.list hm) (k _ _ _ _ (S.push (tk := s.toks) rfl) (h _ _ ⟨rfl, rfl⟩))
/-! ### tuples -/
def isTI (l : Addr) (i : Nat) (o : Obj) : Prop := o.cls = .type "tuple_iterator" ∧ o.data = .fields #[.ref l, .int i 0]
theorem Iter.tup {C : Cx} {it l : Addr} {vs : List Value} : Iter C it (isTI l) vs.length (fun τ => (l, Og.tup vs) ∈ τ) (fun i v => vs[i]? = some v) where
  more := fun _ _ h => List.mem_append_right _ h
  item := fun {A L ls τ i o R} hi ho hp h => .leaf fun s R' S k => by
    have hx : vs.toArray[i]? = some vs[i] := by simp [hi]
    refine next_tuple_item (i := i) ⟨o, S.hd, ho.1, ho.2⟩ (S.tup (.tail _ hp)) hx fun h' ⟨o', hg, hc, hd⟩ hb => k _ _ _ _ (S.next (tk := s.toks) hb hg) (h _ _ (by simp [hi]) ⟨hc, hd⟩)
  done := fun {A L ls τ o R} hh ho hp h => .leaf fun s R' S k => 
    next_tuple_end (i := vs.length) hh ⟨o, S.hd, ho.1, ho.2⟩ (S.tup (.tail _ hp)) (by simp) fun h' hb => k _ _ _ _ (S.lose (tk := s.toks) fun b o hn e => hb b o hn e) h
  self := fun {A L ls τ o R} ho hp h => .leaf fun s R' S k => wpAny_pyIter_tupleiter (i := 0) ⟨o, S.hd, ho.1, ho.2⟩ (k _ _ _ _ S h)
theorem wIterTup {C : Cx} {A : Around} {L : Addr} {ls : Loc} {σ : Led} {l : Addr} {vs : List Value} {Q : Value → Loc → Led → Prop} (hm : (l, Og.tup vs) ∈ σ) (h : ∀ it o, isTI l 0 o → Q (.ref it) ls ((it, o) :: σ)) : W C A L (pyIter (.ref l)) ls σ Q :=
  .leaf fun s R S k => iter_tuple (S.tup hm) (k _ _ _ _ (S.push (tk := s.toks) rfl) (h _ _ ⟨rfl, rfl⟩))
/-! ### bytes -/
def isBI (b : List UInt8) (t : Tok) (i : Nat) (o : Obj) : Prop := o.cls = .type "bytes_iterator" ∧ o.data = .fields #[.bytes b.toArray t, .int i 0]
theorem Iter.bytes {C : Cx} {it : Addr} {b : List UInt8} {t : Tok} : Iter C it (isBI b t) b.length (fun _ => True) (fun i v => ∃ c u, b[i]? = some c ∧ v = .int (c.toNat : Int) u) where
  more := fun _ _ h => h
  item := fun {A L ls τ i o R} hi ho hp h => .leaf fun s R' S k => by
    have hx : b.toArray[i]? = some b[i] := by simp [hi]
    refine KBw.next_item (i := i) ⟨o, S.hd, ho.1, ho.2⟩ hx fun h' ⟨o', hg, hc, hd⟩ hb => k _ _ _ _ (S.next (tk := s.toks + 1) hb hg) (h _ _ ⟨b[i], _, by simp [hi], rfl⟩ ⟨hc, hd⟩)
  done := fun {A L ls τ o R} hh ho hp h => .leaf fun s R' S k => 
    KBw.next_end (i := b.length) hh ⟨o, S.hd, ho.1, ho.2⟩ (by simp) fun h' hb => k _ _ _ _ (S.lose (tk := s.toks) fun b o hn e => hb b o hn e) h
  self := fun {A L ls τ o R} ho hp h => .leaf fun s R' S k => KBw.pyIter_self (i := 0) ⟨o, S.hd, ho.1, ho.2⟩ (k _ _ _ _ S h)
theorem wIterBytes {C : Cx} {A : Around} {L : Addr} {ls : Loc} {σ : Led} {b : List UInt8} {t : Tok} {Q : Value → Loc → Led → Prop} (h : ∀ it o, isBI b t 0 o → Q (.ref it) ls ((it, o) :: σ)) : W C A L (pyIter (.bytes b.toArray t)) ls σ Q :=
  .leaf fun s R S k => KBw.pyIter_bytes (k _ _ _ _ (S.push (tk := s.toks) rfl) (h _ _ ⟨rfl, rfl⟩))
/-! ### ascii texts -/
def isSI (x : Str) (t : Tok) (i : Nat) (o : Obj) : Prop := o.cls = .type "str_ascii_iterator" ∧ o.data = .fields #[.str x t, .int i 0]
theorem Iter.str {C : Cx} {it : Addr} {x : Str} {t : Tok} : Iter C it (isSI x t) x.cps.size (fun _ => True) (fun i v => ∃ c u, x.cps[i]? = some c ∧ v = .str ⟨#[c]⟩ u) where
  more := fun _ _ h => h
  item := fun {A L ls τ i o R} hi ho hp h => .leaf fun s R' S k => by
    have hx : x.cps[i]? = some x.cps[i] := by simp [hi]
    refine wpAny_pyNext_ascii_item (i := i) ⟨o, S.hd, ho.1, ho.2⟩ hx fun h' ⟨o', hg, hc, hd⟩ hb => k _ _ _ _ (S.next (tk := s.toks + 1) hb hg) (h _ _ ⟨x.cps[i], _, hx, rfl⟩ ⟨hc, hd⟩)
  done := fun {A L ls τ o R} hh ho hp h => .leaf fun s R' S k => 
    wpAny_pyNext_ascii_end (i := x.cps.size) hh ⟨o, S.hd, ho.1, ho.2⟩ (by simp) fun h' hb => k _ _ _ _ (S.lose (tk := s.toks) fun b o hn e => hb b o hn e) h
  self := fun {A L ls τ o R} ho hp h => .leaf fun s R' S k => wpAny_pyIter_striter_ascii (i := 0) ⟨o, S.hd, ho.1, ho.2⟩ (k _ _ _ _ S h)
theorem wIterStr {C : Cx} {A : Around} {L : Addr} {ls : Loc} {σ : Led} {x : Str} {t : Tok} {Q : Value → Loc → Led → Prop} (ha : x.cps.all (· < 128) = true) (h : ∀ it o, isSI x t 0 o → Q (.ref it) ls ((it, o) :: σ)) : W C A L (pyIter (.str x t)) ls σ Q :=
  .leaf fun s R S k => wpAny_pyIter_ascii ha (k _ _ _ _ (S.push (tk := s.toks) rfl) (h _ _ ⟨rfl, rfl⟩))
/-! ### ranges -/
def rng (a b : Int) (t u v : Tok) : Obj := { cls := .type "range", data := .fields #[.int a t, .int b u, .int 1 v] }
def isRI (a : Int) (n : Nat) (i : Nat) (o : Obj) : Prop := o = { cls := .type "range_iterator", data := .fields #[rawInt (a + i), rawInt ((n : Int) - i), rawInt 1] }
theorem Iter.range {C : Cx} {it : Addr} {a : Int} {n : Nat} : Iter C it (isRI a n) n (fun _ => True) (fun i v => ∃ u, v = .int (a + i) u) where
  more := fun _ _ h => h
  item := fun {A L ls τ i o R} hi ho hp h => .leaf fun s R' S k => by
    cases ho
    refine wpAny_pyNext_range_item (it := it) (x := a + i) (left := (n : Int) - i) (step := 1) S.hd (by omega) fun h' hg hb => k _ _ _ _ (S.next (tk := s.toks + 1) hb hg) (h _ _ ⟨_, rfl⟩ ?_)
    show _ = _
    have e1 : a + (i : Int) + 1 = a + ((i + 1 : Nat) : Int) := by omega
    have e2 : (n : Int) - i - 1 = (n : Int) - ((i + 1 : Nat) : Int) := by omega
    rw [e1, e2]
  done := fun {A L ls τ o R} hh ho hp h => .leaf fun s R' S k => by
    cases ho
    exact wpAny_pyNext_range_end (it := it) (x := a + n) (left := (n : Int) - n) (step := 1) hh S.hd (by omega) fun h' hb => k _ _ _ _ (S.lose (tk := s.toks) fun b o hn e => hb b o hn e) h
  self := fun {A L ls τ o R} ho hp h => .leaf fun s R' S k => by
    cases ho
    exact wpAny_pyIter_rangeiter (it := it) S.hd (k _ _ _ _ S h)
theorem wRange1 {C : Cx} {A : Around} {L : Addr} {ls : Loc} {σ : Led} {b : Int} {u : Tok} {Q : Value → Loc → Led → Prop} (h : ∀ r t v, Q (.ref r) ls ((r, rng 0 b t u v) :: σ)) : W C A L (call (.type "range") [.int b u]) ls σ Q :=
  .leaf fun s R S k => call_range_1 (k _ _ _ _ (S.push rfl) (h _ _ _))
theorem wRange2 {C : Cx} {A : Around} {L : Addr} {ls : Loc} {σ : Led} {a b : Int} {t u : Tok} {Q : Value → Loc → Led → Prop} (h : ∀ r v, Q (.ref r) ls ((r, rng a b t u v) :: σ)) : W C A L (call (.type "range") [.int a t, .int b u]) ls σ Q :=
  .leaf fun s R S k => call_range_2 (k _ _ _ _ (S.push rfl) (h _ _))
theorem wIterRange {C : Cx} {A : Around} {L : Addr} {ls : Loc} {σ : Led} {r : Addr} {a b : Int} {n : Nat} {t u v : Tok} {Q : Value → Loc → Led → Prop} (hm : (r, rng a b t u v) ∈ σ) (hn : b = a + n) (ha : 0 ≤ a) (hb : b ≤ 1000000) (h : ∀ it o, isRI a n 0 o → Q (.ref it) ls ((it, o) :: σ)) : W C A L (pyIter (.ref r)) ls σ Q :=
  .leaf fun s R S k => by
    have hsz : Builtin.Range.rangeSize a b 1 = n := by
      subst hn
      unfold Builtin.Range.rangeSize
      rw [if_pos (by decide)]
      split <;> omega
    refine wpAny_pyIter_range (a := a) (b := b) (c := 1) (S.get hm) ?_ (k _ _ _ _ (S.push (tk := s.toks) rfl) (h _ _ ?_))
    · unfold Builtin.Range.small
      rw [hsz]
      simp [Builtin.Range.rangeFitsLong]
      omega
    · show _ = _
      rw [hsz]; simp
end Og
end

section
open PySem PySem.W PySem.Calls PyProof.Rows
namespace Og

section
variable {C : Cx} {A : Around} {L : Addr} {ls : Loc} {σ τ : Led} {env : Env} {s s' : Shared}
theorem wForIter {x : Str} {tp : Pos} {body : List Stmt} {it : Addr} {is : Nat → Obj → Prop} {n : Nat} {P : Led → Prop} {val : Nat → Value → Prop} {o : Obj} {R : Flow → Loc → Led → Prop} (IT : Iter C it is n P val) (hh : A.handled = none)
    (I : Nat → Loc → Led → Prop) (hP : ∀ i ls τ, I i ls τ → P τ)
    (turn : ∀ i v ls τ p, i < n → val i v → I i ls τ → W C A L (storeName env x v) ls (p :: τ) fun _ ls σ => W C A L (execs body env) ls σ fun f ls σ => match f with
      | .next | .cont => ∃ τ', Part (p :: τ') σ ∧ I (i + 1) ls τ'
      | .brk => R .next ls σ
      | .ret v => R (.ret v) ls σ)
    (fin : ∀ ls τ, I n ls τ → R .next ls τ) (ho : is 0 o) (h0 : I 0 ls τ) : W C A L (runOwn (.forLoop (.Name x tp) (.ref it) body [] env) env) ls ((it, o) :: τ) R := by
  refine wForLoop (n := n) (fun k ls σ => ∃ i τ o, k + i = n ∧ is i o ∧ I i ls τ ∧ Part ((it, o) :: τ) σ) ?_ ⟨0, τ, o, by omega, ho, h0, .refl⟩
  rintro k ls σ ⟨i, τ, o, hk, ho, hI, hp⟩
  refine W.part hp ?_
  by_cases hi : i < n
  · refine IT.item hi ho (hP _ _ _ hI) fun v o' hv ho' => ?_
    refine (turn i v ls τ (it, o') hi hv hI).mono fun _ ls σ h => h.mono fun f ls σ h => ?_
    cases f with
    | next => obtain ⟨τ', hp, hI⟩ := h; exact ⟨k - 1, by omega, i + 1, τ', o', by omega, ho', hI, hp⟩
    | cont => obtain ⟨τ', hp, hI⟩ := h; exact ⟨k - 1, by omega, i + 1, τ', o', by omega, ho', hI, hp⟩
    | brk => exact h
    | ret v => exact h
  · obtain rfl : i = n := by omega
    exact IT.done hh ho (hP _ _ _ hI) (fin _ _ hI)

/-! ### comprehensions -/
theorem Ev.comp {scope : Scope} {cl : List (Str × Addr)} {L' : Addr} (ev : Ev L env) (hk : scope.kind = .function) : Ev L' (compEnvC scope cl L' env) := ⟨rfl, hk, ev.glob, ev.blt⟩
theorem St.flip {L' : Addr} {ls' : Loc} {oL : Obj} (S : St C L ls σ s) (hL : s.heap.get? L = some oL) (S' : St C L' ls' ((L, oL) :: τ) s') : ∃ oL' m', s'.heap.get? L' = some oL' ∧ s'.heap.Ns L' m' ∧ St C L ls ((L', oL') :: τ) s' := by
  obtain ⟨m, F, hl⟩ := S.fr
  obtain ⟨m', F', _⟩ := S'.fr
  obtain ⟨oL₁, es, ep, hL₁, r⟩ := F.ns
  rw [hL] at hL₁; cases hL₁
  obtain ⟨oL', es', ep', hL', r'⟩ := id F'.ns
  have nd := S'.nodup
  rw [List.map_cons, List.nodup_cons] at nd
  refine ⟨oL', m', hL', F'.ns, S'.base, ⟨m, ⟨⟨oL, es, ep, S'.hd, r⟩, F'.keep, F.above⟩, hl⟩, fun p hp => ?_, ?_⟩
  · rcases List.mem_cons.mp hp with rfl | hp
    · refine ⟨hL', Ne.symm (S'.news _ (.head _)).2.1, ?_⟩
      exact Heap.get?_none_of_le F'.above
    · have N := S'.news p (.tail _ hp)
      exact ⟨N.1, fun e => nd.1 (by rw [show ((L, oL) : Addr × Obj).1 = p.1 from e.symm]; exact List.mem_map_of_mem hp), N.2.2⟩
  · rw [List.map_cons, List.nodup_cons]
    refine ⟨fun hm => ?_, nd.2⟩
    obtain ⟨p, hp, e⟩ := List.mem_map.mp hm
    exact (S'.news p (.tail _ hp)).2.1 e
/-- The comprehension's frame beside the caller's. -/
theorem St.enterC {h₁ : Heap} {tk : Nat} {b : Obj} (S : St C L ls σ s) (hn : h₁.Ns s.heap.objs.size (fun x => ([] : List (Str × Value)).reverse.lookup x)) (hb : Heap.SameBut s.heap.objs.size (s.heap.push b) h₁) :
    ∃ oL, s.heap.get? L = some oL ∧ St C s.heap.objs.size [] ((L, oL) :: σ) { s with heap := h₁, toks := tk } := by
  have hk : ∀ b o, s.heap.get? b = some o → h₁.get? b = some o := fun b o e => hb.extBut b o (Nat.ne_of_lt (Heap.lt_size e)) (Heap.get?_push_of_some _ e)
  obtain ⟨oL, hL, S'⟩ := St.enter (pre := []) (rest := σ) (binds := []) (tk := tk) S hn hk
  exact ⟨oL, hL, S'⟩

structure CompFacts (x : Str) (scope : Scope) (cl : List (Str × Addr)) (iter : Expr) (env : Env) : Prop where
  clos : closureFor scope env = pure cl
  cell : ∀ y ∈ scope.names, y.2 ≠ .cell
  kind : scope.kind = .function
  names : ∀ y ∈ scope.names, y.2 = .local → scope.names.lookup y.1 = some .local
  loc : scope.names.lookup x = some .local
  fold : ∀ v, foldedSetIterable iter env v = pure v

/-- The turns of a comprehension. -/
structure CompTurns (C : Cx) (A : Around) (env : Env) (elt : Expr) (x : Str) (ifs : List Expr) (scope : Scope) (cl : List (Str × Addr)) (itv : Value) (σ : Led) (Q : Addr → Nat → List Value → Led → Prop) : Prop where
  all : ∃ it is n P val τ o, ∃ I : Nat → List Value → Led → Prop, itv = .ref it ∧ σ = (it, o) :: τ ∧ is 0 o ∧ Iter C it is n P val ∧ n ≤ sizeLine ∧ (∀ i ys τ, I i ys τ → P τ) ∧ I 0 [] τ ∧
    (∀ i v ys τ J L', Ev L' (compEnvC scope cl L' env) → i < n → val i v → I i ys τ → W C A L' (compTests ifs (compEnvC scope cl L' env)) [(x, v)] (J ++ τ) fun ok ls' σ' =>
      if ok = true then W C A L' (eval elt (compEnvC scope cl L' env)) ls' σ' fun y _ σ'' => ∃ τ', Part (J ++ τ') σ'' ∧ I (i + 1) (ys ++ [y]) τ'
      else ∃ τ', Part (J ++ τ') σ' ∧ I (i + 1) ys τ') ∧
    ∀ ys τ D m, I n ys τ → Q D m ys τ

theorem wpC_standIf {H : Prop} {α : Type} {M : Model} {A : Around} {s : Shared} {c : Bool} {pos : Pos} {k : Unit → Sem α} {Q : α → Shared → Prop} (h : wpC H M A (k ()) Q s) : wpC H M A (if c then (standAt pos >>= k) else k ()) Q s := by
  split
  · exact .bind (.standAt h)
  · exact h
/-- The loop of a comprehension, in its own frame. -/
theorem comp_loop {elt iter : Expr} {x : Str} {px : Pos} {ifs : List Expr} {scope : Scope} {cl : List (Str × Addr)} {pos : Pos} {it D L' : Addr} {is : Nat → Obj → Prop} {n : Nat} {P : Led → Prop} {val : Nat → Value → Prop}
    {I : Nat → List Value → Led → Prop} {k : Led} (IT : Iter C it is n P val) (hh : A.handled = none) (hz : n ≤ sizeLine) (hx : scope.names.lookup x = some .local) (ev : Ev L env) (hk : scope.kind = .function) (hP : ∀ i ys τ, I i ys τ → P τ)
    (turn : ∀ i v ys τ J L', i < n → val i v → I i ys τ → W C A L' (compTests ifs (compEnvC scope cl L' env)) [(x, v)] (J ++ τ) fun ok ls' σ' =>
      if ok = true then W C A L' (eval elt (compEnvC scope cl L' env)) ls' σ' fun y _ σ'' => ∃ τ', Part (J ++ τ') σ'' ∧ I (i + 1) (ys ++ [y]) τ'
      else ∃ τ', Part (J ++ τ') σ' ∧ I (i + 1) ys τ')
    {R : Flow → Shared → Prop} (hR : ∀ s ys m τ ls', St C L' ls' ((D, lst ys m) :: (k ++ τ)) s → I n ys τ → R .next s) :
    ∀ (c i : Nat) (ys : List Value) (m : Nat) (τ : Led) (o : Obj) (ls' : Loc) (s : Shared), c + i = n → ys.length ≤ i → is i o → I i ys τ → St C L' ls' ((it, o) :: (D, lst ys m) :: (k ++ τ)) s →
      (∀ ys m τ, P τ → P ((D, lst ys m) :: (k ++ τ))) →
      codeC C.H (model C.prog C.w) A (.compLoop (.ListComp elt [⟨.Name x px, iter, ifs, 0⟩] scope pos) 0 (.ref it) (.ref D) (compEnvC scope cl L' env)) R s := by
  intro c
  induction c with
  | zero =>
    intro i ys m τ o ls' s hc hy ho hI S hPk
    obtain rfl : i = n := by omega
    refine codeC.ofTree rfl ?_
    rw [under_loop A rfl rfl]
    refine wpC.onRaise ?_
    rw [compTurn_list]
    refine wpC.bind (wpC.standAt (wpC.bind ?_))
    refine (IT.done (R := fun r _ σ => r = none ∧ σ = (D, lst ys m) :: (k ++ τ)) hh ho (hPk _ _ _ (hP _ _ _ hI)) ⟨rfl, rfl⟩ s S).mono fun r s' h => ?_
    obtain ⟨ls₂, σ₂, S₂, rfl, rfl⟩ := h
    exact wpC.pure (hR _ _ _ _ _ S₂ hI)
  | succ c ih =>
    intro i ys m τ o ls' s hc hy ho hI S hPk
    have hi : i < n := by omega
    refine codeC.ofTree rfl ?_
    rw [under_loop A rfl rfl]
    refine wpC.onRaise ?_
    rw [compTurn_list]
    refine wpC.bind (wpC.standAt (wpC.bind ?_))
    refine (IT.item (R := fun r _ σ => ∃ v o', r = some v ∧ val i v ∧ is (i + 1) o' ∧ σ = (it, o') :: (D, lst ys m) :: (k ++ τ)) hi ho (hPk _ _ _ (hP _ _ _ hI)) (fun v o' hv ho' => ⟨v, o', rfl, hv, ho', rfl⟩) s S).mono fun r s₁ h => ?_
    obtain ⟨ls₁, σ₁, S₁, v, o', rfl, hv, ho', rfl⟩ := h
    refine wpC.bind (wpC.pure ?_)
    have ev' : Ev L' (compEnvC scope cl L' env) := ev.comp hk
    refine wpC.bind ?_
    rw [PySem.assign_Name]
    refine wpC.bind (wpC.standAt (wpC.bindName ?_))
    refine (wStoreLocal (Q := fun _ ls σ => ls = setL x v ls₁ ∧ σ = (it, o') :: (D, lst ys m) :: (k ++ τ)) ev' (lookup_relabel_local hx) ⟨rfl, rfl⟩ _ S₁).mono fun _ s₂ h => ?_
    obtain ⟨ls₂, σ₂, S₂, rfl, rfl⟩ := h
    have S₂' : St C L' [(x, v)] (((it, o') :: (D, lst ys m) :: k) ++ τ) s₂ := S₂.locs fun y u e => by
      rw [setL_lookup]
      rw [List.lookup_cons] at e
      by_cases h : y = x
      · subst h; simpa using e
      · have : (y == x) = false := beq_eq_false_iff_ne.mpr h
        rw [this] at e; cases e
    have T := turn i v ys τ ((it, o') :: (D, lst ys m) :: k) L' hi hv hI _ S₂'
    have e : compTests ifs (compEnvC scope cl L' env) = (forIn ifs true fun c r => if r = true then do let ok ← isTrue c (compEnvC scope cl L' env) (eval c (compEnvC scope cl L' env)); Pure.pure (ForInStep.yield ok) else Pure.pure (ForInStep.yield r)) := by
      unfold compTests
      simp
    rw [e] at T
    refine wpC.bind (T.mono fun ok s₃ h => ?_)
    obtain ⟨ls₃, σ₃, S₃, h⟩ := h
    cases ok with
    | false =>
      obtain ⟨τ', hp, hI'⟩ := h
      have S₄ := S₃.part hp
      refine wpC.pure ⟨rfl, ih (i + 1) ys m τ' o' ls₃ s₃ (by omega) (by omega) ho' hI' S₄ hPk⟩
    | true =>
      rw [if_pos rfl] at h ⊢
      refine wpC.bind (wpC.bind ((h _ S₃).mono fun y s₄ h => ?_))
      obtain ⟨ls₄, σ₄, S₄, τ', hp, hI'⟩ := h
      have S₅ : St C L' ls₄ ((it, o') :: (D, lst ys m) :: (k ++ τ')) s₄ := S₄.part hp
      refine wpC.bind ((wAppend (Q := fun _ ls σ => ls = ls₄ ∧ σ = (it, o') :: (D, lst (ys ++ [y]) (m + 1)) :: (k ++ τ')) (.there .here) (by omega) ⟨rfl, rfl⟩ s₄ S₅).mono fun _ s₅ h => ?_)
      obtain ⟨ls₅, σ₅, S₆, rfl, rfl⟩ := h
      exact wpC.pure (wpC.pure ⟨rfl, ih (i + 1) (ys ++ [y]) (m + 1) τ' o' ls₅ s₅ (by omega) (by rw [List.length_append]; simp; omega) ho' hI' S₆ hPk⟩)
end
end Og
end

section
open PySem PySem.W PySem.Calls PyProof.Rows
namespace Og
section
variable {C : Cx} {A : Around} {L : Addr} {ls : Loc} {σ τ : Led} {env : Env} {s s' : Shared}
theorem clauses_ListComp {elt : Expr} {gens : List Comprehension} {scope : Scope} {pos : Pos} : clausesOf (.ListComp elt gens scope pos) = gens := rfl
theorem comp_core {elt iter : Expr} {x : Str} {px : Pos} {ifs : List Expr} {scope : Scope} {cl : List (Str × Addr)} {pos pos' : Pos} {use : Option (Value → Sem Unit)} (cf : CompFacts x scope cl iter env) (ev : Ev L env) (hh : A.handled = none) {Q : Value → Loc → Led → Prop} {Z : Addr → Nat → List Value → Led → Prop} {ls₀ : Loc}
    (hZ : ∀ D m ys τ s, Z D m ys τ → ∀ L' oL', St C L ls₀ ((L', oL') :: (D, lst ys m) :: τ) s → match use with
      | none => Q (.ref D) ls₀ ((D, lst ys m) :: τ)
      | some u => wpC C.H (model C.prog C.w) A (u (.ref D)) (fun _ s' => ∃ ls' σ', St C L ls' ((L', oL') :: σ') s' ∧ Q .none ls' σ') s)
    (h : W C A L (eval iter env) ls σ fun xv ls σ => W C A L (pyIter xv) ls σ fun itv ls σ => ls = ls₀ ∧ CompTurns C A env elt x ifs scope cl itv σ Z) :
    W C A L (comprehension (.ListComp elt [⟨.Name x px, iter, ifs, 0⟩] scope pos) scope env pos' (newList []) false (eval iter env) use) ls σ Q := by
  intro s S
  unfold comprehension
  rw [cf.clos]
  refine wpC.bind ((h s S).mono fun xv s₁ h₁ => wpC.bind (wpC.standAt ?_))
  obtain ⟨ls₁, σ₁, S₁, h₁⟩ := h₁
  refine wpC.bind (wpC.ofEq (cf.fold xv) (wpC.bind (wpC.holding ((h₁ s₁ S₁).mono fun itv s₂ h₂ => wpC_standIf ?_))))
  obtain ⟨ls₂, σ₂, S₂, rfl, T⟩ := h₂
  obtain ⟨it, is, n, P, val, τ, o, I, rfl, rfl, ho, IT, hz, hP, hI, turn, hQ⟩ := T.all
  refine wpC.bind ((wLNew (vs := []) (Q := fun acc ls σ => ∃ D, acc = .ref D ∧ ls = ls₂ ∧ σ = (D, lst [] 0) :: (it, o) :: τ) (by decide) (fun a => ⟨a, rfl, rfl, rfl⟩) s₂ S₂).mono fun acc s₃ h₃ => ?_)
  obtain ⟨ls₃, σ₃, S₃, D, rfl, rfl, rfl⟩ := h₃
  refine wpC.bind (wpC.pure (wpC.bind (wpC.ofAny (wpAny_newFunctionEnv cf.cell (by intro y hy; cases hy) (fun h₁ hn hb => ?_) cf.kind))))
  obtain ⟨oL, hL, S₄⟩ := S₃.enterC (tk := s₃.toks + ([] : List (Str × Value)).length) hn hb
  refine wpC.holding (wpC.bind (wpC.attempt (wpC.holding (wpC.run ?_))))
  have hv : ∀ y ∈ (scope.names.filter fun x => (x.2 == .local || x.2 == .cell) && x.1 != (".0" : Str)).reverse, y.2 = .local →
      Env.kindOf (compEnvC scope cl s₃.heap.objs.size env) y.1 = some .local := fun y hy hl => lookup_relabel_local (cf.names y (List.mem_filter.mp (List.mem_reverse.mp hy)).1 hl)
  have hv' : ∀ y ∈ (scope.names.filter fun x => (x.2 == .local || x.2 == .cell) && x.1 != (".0" : Str)).reverse.drop 1 ++ (scope.names.filter fun x => (x.2 == .local || x.2 == .cell) && x.1 != (".0" : Str)).reverse.take 1,
      y.2 = .local → Env.kindOf (compEnvC scope cl s₃.heap.objs.size env) y.1 = some .local := fun y hy hl => by
    rcases List.mem_append.mp hy with h1 | h1
    · exact hv y (List.mem_of_mem_drop h1) hl
    · exact hv y (List.mem_of_mem_take h1) hl
  have S₅ : St C s₃.heap.objs.size [] ((it, o) :: (D, lst [] 0) :: ([(L, oL)] ++ τ)) _ := S₄.part (.cons (.there (.there .here)) (.cons (.there .here) (.cons .here .refl)))
  have hPk : ∀ ys m τ, P τ → P ((D, lst ys m) :: ([(L, oL)] ++ τ)) := fun ys m τ h => IT.more [(D, lst ys m), (L, oL)] h
  have loop := comp_loop (k := [(L, oL)]) (elt := elt) (iter := iter) (x := x) (px := px) (ifs := ifs) (scope := scope) (cl := cl) (pos := pos) (D := D) (L' := s₃.heap.objs.size) IT hh hz cf.loc ev cf.kind hP (fun i v ys τ J L' => turn i v ys τ J L' (ev.comp cf.kind))
    (R := fun f s' => wpC C.H (model C.prog C.w) A (match (Except.ok f : Except Value Flow), use with
      | .ok _, none => (do PySem.holding [.ref D] (comprehension.letGo (compEnvC scope cl s₃.heap.objs.size env) (fun vs => vs.flatMap fun (n, k) => if k == .cell then (((compEnvC scope cl s₃.heap.objs.size env).cells.lookup n).map Value.ref).toList else []) (scope.names.filter fun x => (x.2 == .local || x.2 == .cell) && x.1 != (".0" : Str)).reverse); Pure.pure (.ref D) : Sem Value)
      | .ok _, some u => do
        PySem.rule "comprehension.stores-exchanged"
        PySem.holding ((fun vs => vs.flatMap fun (n, k) => if k == .cell then (((compEnvC scope cl s₃.heap.objs.size env).cells.lookup n).map Value.ref).toList else []) (scope.names.filter fun x => (x.2 == .local || x.2 == .cell) && x.1 != (".0" : Str))) (u (.ref D))
        comprehension.letGo (compEnvC scope cl s₃.heap.objs.size env) (fun vs => vs.flatMap fun (n, k) => if k == .cell then (((compEnvC scope cl s₃.heap.objs.size env).cells.lookup n).map Value.ref).toList else []) ((scope.names.filter fun x => (x.2 == .local || x.2 == .cell) && x.1 != (".0" : Str)).reverse.drop 1 ++ (scope.names.filter fun x => (x.2 == .local || x.2 == .cell) && x.1 != (".0" : Str)).reverse.take 1)
        Pure.pure .none
      | .error x, _ => do PySem.holding [x] (comprehension.letGo (compEnvC scope cl s₃.heap.objs.size env) (fun vs => vs.flatMap fun (n, k) => if k == .cell then (((compEnvC scope cl s₃.heap.objs.size env).cells.lookup n).map Value.ref).toList else []) (scope.names.filter fun x => (x.2 == .local || x.2 == .cell) && x.1 != (".0" : Str)).reverse); passOn "comprehension.variables-let-go" x (compEnvC scope cl s₃.heap.objs.size env))
      (fun a s' => ∃ ls' σ', St C L ls' σ' s' ∧ Q a ls' σ') s') ?_
  · refine codeC.ofTree rfl ?_
    rw [under_loop A rfl rfl]
    refine wpC.onRaise ?_
    unfold compStart
    show wpC _ _ _ (ask >>= _) _ _
    refine wpC.bind (wpC.ofAny (wpAny_askSetting ?_))
    have L0 := loop n 0 [] 0 τ o [] _ (by omega) (by simp) ho hI S₅ hPk
    refine wpC.ite (fun _ => ?_) fun _ => ?_
    · first
        | exact wpC.bind (wpC.pure (wpC.pure ⟨rfl, L0⟩))
        | exact wpC.pure ⟨rfl, L0⟩
    · refine wpC.bind (wpC.rule ?_)
      show wpC _ _ _ (standAt iter.pos >>= _) _ _
      refine wpC.bind (wpC.standAt (wpC.bind ?_))
      refine (IT.self (R := fun v _ σ => v = .ref it ∧ σ = (it, o) :: (D, lst [] 0) :: ([(L, oL)] ++ τ)) ho (hPk _ _ _ (hP _ _ _ hI)) ⟨rfl, rfl⟩ _ S₅).mono fun v s₆ h₆ => ?_
      obtain ⟨ls₆, σ₆, S₆, rfl, rfl⟩ := h₆
      exact wpC.pure ⟨rfl, loop n 0 [] 0 τ o _ _ (by omega) (by simp) ho hI S₆ hPk⟩
  · intro s₇ ys m τ' ls₇ S₇ hI₇
    obtain ⟨oL', m', hL', hn', S₈⟩ := S₃.flip (τ := (D, lst ys m) :: τ') hL (S₇.part (.cons (.there .here) (.cons .here .refl)))
    have hz' := hZ D m ys τ' s₇ (hQ _ _ _ _ hI₇) _ _ S₈
    cases use with
    | none =>
      refine wpC.bind (wpC.holding (wpC.ofAny (wpAny_comp_letGo (cenv := compEnvC scope cl s₃.heap.objs.size env) cf.kind _ s₇ m' hv hn' fun h' m'' _ hs' => ?_)))
      exact wpC.pure ⟨_, _, S₈.lose (tk := s₇.toks) (fun b o hb e => (hs'.2 b hb).trans e), hz'⟩
    | some u =>
      refine wpC.bind (wpC.rule (wpC.bind (wpC.holding (wpC.mono hz' fun _ s₈ h₈ => ?_))))
      obtain ⟨ls₈, σ₈, S₉, hq⟩ := h₈
      have hn₉ : s₈.heap.Ns s₃.heap.objs.size m' := by
        obtain ⟨oo, es, ep, hL₂, r⟩ := hn'
        rw [hL'] at hL₂; cases hL₂
        exact ⟨oL', es, ep, S₉.hd, r⟩
      refine wpC.bind (wpC.ofAny (wpAny_comp_letGo (cenv := compEnvC scope cl s₃.heap.objs.size env) cf.kind _ s₈ m' hv' hn₉ fun h' m'' _ hs' => ?_))
      exact wpC.pure ⟨_, _, S₉.lose (tk := s₈.toks) (fun b o hb e => (hs'.2 b hb).trans e), hq⟩
theorem wTests0 {Q : Bool → Loc → Led → Prop} (h : Q true ls σ) : W C A L (compTests [] env) ls σ Q := .pure h
theorem wTests1 {c : Expr} {Q : Bool → Loc → Led → Prop} (h : W C A L (isTrue c env (eval c env)) ls σ Q) : W C A L (compTests [c] env) ls σ Q := by
  have e : compTests [c] env = (isTrue c env (eval c env) >>= fun b => Pure.pure b) := by
    unfold compTests
    simp
  rw [e]
  exact .bind (h.mono fun b _ _ h => .pure h)
/-- A list comprehension for its value. -/
theorem wListComp {elt iter : Expr} {x : Str} {px : Pos} {ifs : List Expr} {scope : Scope} {cl : List (Str × Addr)} {pos : Pos} {Q : Value → Loc → Led → Prop} (cf : CompFacts x scope cl iter env) (ev : Ev L env) (hh : A.handled = none)
    (h : W C A L (eval iter env) ls σ fun xv ls' σ => W C A L (pyIter xv) ls' σ fun itv ls' σ => ls' = ls ∧ CompTurns C A env elt x ifs scope cl itv σ fun D m ys τ => Q (.ref D) ls ((D, lst ys m) :: τ)) :
    W C A L (eval (.ListComp elt [⟨.Name x px, iter, ifs, 0⟩] scope pos) env) ls σ Q := by
  rw [eval_ListComp]
  exact comp_core (use := none) cf ev hh (Z := fun D m ys τ => Q (.ref D) ls ((D, lst ys m) :: τ)) (ls₀ := ls) (fun D m ys τ s hz L' oL' S => hz) h
/-- A name is bound to a list comprehension. -/
theorem wAssignComp {elt iter : Expr} {x y : Str} {px py : Pos} {ifs : List Expr} {scope : Scope} {cl : List (Str × Addr)} {pos spos : Pos} {rest : List Stmt} {Q : Flow → Loc → Led → Prop}
    (hs : swapsWith (.ListComp elt [⟨.Name x px, iter, ifs, 0⟩] scope pos) (some (.Name y py)) spos.line env = pure true) (hy : env.kindOf y = some .local) (cf : CompFacts x scope cl iter env) (ev : Ev L env) (hh : A.handled = none)
    (h : W C A L (eval iter env) ls σ fun xv ls' σ => W C A L (pyIter xv) ls' σ fun itv ls' σ => ls' = ls ∧ CompTurns C A env elt x ifs scope cl itv σ fun D m ys τ => W C A L (execs rest env) (setL y (.ref D) ls) ((D, lst ys m) :: τ) Q) :
    W C A L (execs (.Assign [.Name y py] (.ListComp elt [⟨.Name x px, iter, ifs, 0⟩] scope pos) spos :: rest) env) ls σ Q := by
  refine wCons ?_
  have e : exec (.Assign [.Name y py] (.ListComp elt [⟨.Name x px, iter, ifs, 0⟩] scope pos) spos) env = (do
      PySem.standAt spos
      if ← swapsWith (.ListComp elt [⟨.Name x px, iter, ifs, 0⟩] scope pos) (some (.Name y py)) spos.line env then
        evalThenUse (.ListComp elt [⟨.Name x px, iter, ifs, 0⟩] scope pos) env (assign (.Name y py) env)
        return .next
      let v ← eval (.ListComp elt [⟨.Name x px, iter, ifs, 0⟩] scope pos) env
      assign (.Name y py) env v
      Pure.pure .next) := rfl
  rw [e, hs]
  refine .bind (.standAt (.bind (.pure ?_)))
  rw [if_pos rfl]
  show W C A L (evalThenUse (.ListComp elt [⟨.Name x px, iter, ifs, 0⟩] scope pos) env (assign (.Name y py) env) >>= fun _ => Pure.pure Flow.next) _ _ _
  refine wDone ?_
  show W C A L (comprehension (.ListComp elt [⟨.Name x px, iter, ifs, 0⟩] scope pos) scope env (firstIterPos _ _) (newList []) false (eval iter env) (some (assign (.Name y py) env)) >>= fun _ => Pure.pure ()) _ _ _
  refine .bind ((comp_core (use := some (assign (.Name y py) env)) cf ev hh (Z := fun D m ys τ => W C A L (execs rest env) (setL y (.ref D) ls) ((D, lst ys m) :: τ) Q) (ls₀ := ls) (Q := fun _ ls σ => W C A L (execs rest env) ls σ Q) ?_ h).mono fun _ _ _ h => .pure h)
  intro D m ys τ s hz L' oL' S
  dsimp only
  rw [PySem.assign_Name]
  refine wpC.bind (wpC.standAt (wpC.bindName ?_))
  exact (wStoreLocal (Q := fun _ ls' σ' => ls' = setL y (.ref D) ls ∧ σ' = (L', oL') :: (D, lst ys m) :: τ) ev hy ⟨rfl, rfl⟩ s S).mono fun _ s' ⟨ls', σ', S', e₁, e₂⟩ => by
    subst e₁ e₂
    exact ⟨_, _, S', hz⟩
end
end Og
end

section
open PySem PySem.W PySem.Calls PyProof.Rows
namespace Og
namespace BA
theorem slot_join : Slot "bytes" "join" "bytes.join" :=
  .of (owner := "bytes") (n := "join") (by rw [typeLookup_type, builtinLookup_eq_fast]; kernel_rfl) (by decide +kernel) (by decide +kernel) (by decide +kernel)
    (by first | exact .inl (by decide +kernel) | exact .inr (by decide +kernel)) (by rw [isSubtype_type]; kernel_rfl)
theorem entry_join : entryFor table "bytes.join" = some Builtin.«bytes.join» := entryFor_of_tree (by kernel_rfl)
theorem args_join (a b : Value) : argsOk "bytes.join" ⟨[a, b], []⟩ := by unfold argsOk; kernel_rfl
theorem kind_join : typeOf (.builtin "bytes.join") = pure (.type "method_descriptor") := by kernel_rfl
theorem bga : typeLookup (.type "bytes") "__getattribute__" = pure (some (.builtin "bytes.__getattribute__")) := by rw [typeLookup_type, builtinLookup_eq_fast]; kernel_rfl
theorem battrs : PlainAttrs "bytes" := ⟨⟨_, bga, by decide +kernel⟩, by rw [typeLookup_type, builtinLookup_eq_fast]; kernel_rfl⟩
theorem take_join (b : Array UInt8) (t : Tok) : Builtin.Bytes.takeBufferQuiet? "bytes.join" (.bytes b t) 0 = pure (some (b, none)) := by
  have h : Builtin.Bytes.takeBuffer? "bytes.join" (.bytes b t) 0 = pure (some (b, none)) := by
    unfold Builtin.Bytes.takeBuffer?
    rw [KBy.special_eq KBy.look_buffer, KBy.own_buffer]
    have e : ((0 : Int) == Builtin.Bytes.fullReadOnly) = false := by decide +kernel
    rw [e, KBy.buffer_eq]
    kernel_rfl
  unfold Builtin.Bytes.takeBufferQuiet?
  rw [h]
  rfl
end BA
theorem any_range {M : Model} {A : Around} {E : Value → Shared → Prop} {s : Shared} {β : Type} {f : Nat → β → Sem (ForInStep β)} {Q : β → Shared → Prop} (I : Nat → β → Prop) {n : Nat} 
    (turn : ∀ i b, i < n → I i b → wpAny M A (f i b) (fun r s' => s' = s ∧ ∃ b', r = .yield b' ∧ I (i + 1) b') E s) {b : β} (h0 : I 0 b) (fin : ∀ b, I n b → Q b s) : wpAny M A (forIn [0:n] b f) Q E s := by
  rw [Std.Legacy.Range.forIn_eq_forIn_range']
  simp only [Std.Legacy.Range.size, Nat.sub_zero, Nat.add_sub_cancel, Nat.div_one]
  have : ∀ (c i : Nat) (b : β), i + c = n → I i b → wpAny M A (forIn (List.range' i c) b f) Q E s := by
    intro c
    induction c with
    | zero => intro i b hi hb; obtain rfl : i = n := by omega
              exact wpAny_pure (fin b hb)
    | succ c ih =>
      intro i b hi hb
      rw [List.range'_succ, List.forIn_cons]
      refine wpAny_bind (wpAny_mono (turn i b (by omega) hb) (fun r s' h => ?_) fun _ _ x => x)
      obtain ⟨rfl, b', rfl, hb'⟩ := h
      exact ih (i + 1) b' (by omega) hb'
  exact this n 0 b (by omega) h0
def bVals (bs : List (List UInt8 × Tok)) : List Value := bs.map fun b => .bytes b.1.toArray b.2
theorem any_letGo {M : Model} {A : Around} {E : Value → Shared → Prop} {s : Shared} {keep : List Value} {Q : Unit → Shared → Prop} (h : Q () s) : ∀ taken : List (Value × Option Value), (∀ p ∈ taken, p.2 = none) → wpAny M A (Builtin.Bytes.joinLetGo taken keep) Q E s
  | [], _ => wpAny_pure h
  | (x, w) :: r, hp => by
    obtain rfl : w = none := hp (x, w) (.head _)
    unfold Builtin.Bytes.joinLetGo
    exact wpAny_bind (wpAny_letGo (any_letGo h r fun p hp' => hp p (.tail _ hp')))
theorem baJoin {M : Model} {A : Around} {E : Value → Shared → Prop} {s : Shared} {l : Addr} {sep : List UInt8} {t : Tok} {bs : List (List UInt8 × Tok)} {n : Nat} {Q : Fin → Shared → Prop} (hl : s.heap.get? l = some (lst (bVals bs) n)) (h2 : 2 ≤ bs.length)
    (hz : (bs.map fun b => b.1.toArray).foldl (· + ·.size) (sep.length * (bs.length - 1)) ≤ 16777216)
    (hj : (Builtin.Bytes.joined sep.toArray (bs.map fun b => b.1.toArray)).size ≤ 16777216)
    (h : ∀ u, Q (.done (.ret (.bytes (Builtin.Bytes.joined sep.toArray (bs.map fun b => b.1.toArray)) u))) { s with toks := s.toks + 1 }) : wpAny M A (Builtin.«bytes.join» ⟨[.bytes sep.toArray t, .ref l], []⟩) Q E s := by
  unfold Builtin.«bytes.join» Builtin.Bytes.joinM
  refine wpAny_bind (wpAny_of_eq (a := (.bytes sep.toArray t, .ref l)) rfl ?_)
  have hT : s.TypeIs (.ref l) "list" := ⟨_, hl, rfl⟩
  refine wpAny_bind ?_
  show wpAny _ _ (Builtin.Bytes.joinItems (.ref l)) _ _ _
  unfold Builtin.Bytes.joinItems
  refine wpAny_bind (wpAny_typeOf hT ?_)
  refine wpAny_pure ?_
  refine wpAny_bind (wpAny_seqItems hl rfl ?_)
  have en : (toString Builtin.Bytes.Kind.bytes.name ++ toString ".join") = "bytes.join" := by decide +kernel
  dsimp only
  rw [if_pos (by decide)]
  rw [en]
  have fin : ∀ (parts : Array (Array UInt8)) (taken : List (Value × Option Value)), parts.toList = bs.map (fun b => b.1.toArray) → (∀ p ∈ taken, p.2 = none) →
      wpAny M A (do
        let sep ← Builtin.Bytes.payload (.bytes sep.toArray t)
        if Builtin.Bytes.tooLong (parts.foldl (· + ·.size) (sep.size * (parts.size - 1))) then unsupported "bytes.join:memory"
        let result ← Builtin.Bytes.Kind.bytes.new (Builtin.Bytes.joined sep parts.toList)
        PySem.holding (result :: taken.flatMap fun (y, u) => y :: u.toList) point
        Builtin.Bytes.joinLetGo taken [result]
        ret result) Q E s := by
    intro parts taken hp ht
    refine wpAny_bind (wpAny_of_eq (a := sep.toArray) rfl ?_)
    have e : Builtin.Bytes.tooLong (parts.foldl (· + ·.size) (sep.toArray.size * (parts.size - 1))) = false := by
      apply KBy.tooLong_not
      have hs : parts.size = bs.length := by rw [← Array.length_toList, hp, List.length_map]
      rw [← Array.foldl_toList, hp, hs, List.size_toArray]
      exact hz
    rw [e, if_neg (by decide), hp]
    refine wpAny_bind (wpAny_mkBytes ?_ hj)
    exact wpAny_bind (wpAny_holding (wpAny_point (wpAny_bind (any_letGo (wpAny_pure (h _)) _ ht))))
  have hm : ∀ (f : Value → Sem PySem.Fin) (g : Array Value → Sem PySem.Fin), PySem.Builtin.Bytes.joinM.match_1 (fun _ => Sem PySem.Fin) (bVals bs).toArray f g = g (bVals bs).toArray := by
    intro f g
    match bs, h2 with
    | b₁ :: b₂ :: r, _ => rfl
  rw [hm]
  · refine wpAny_bind (any_range (fun i st => st.1.toList = (bs.take i).map (fun b => b.1.toArray) ∧ ∀ p ∈ st.2, p.2 = none ∧ p.1.onHeap = false) (fun i st hi hI => ?_) ⟨by simp, fun p hp => nomatch hp⟩ fun st hI => ?_)
    · refine wpAny_bind (wpAny_seqItems hl rfl ?_)
      dsimp only
      have hi' : i < bs.length := by simpa [bVals] using hi
      have hx : (bVals bs).toArray.getD i .none = .bytes (bs[i].1.toArray) bs[i].2 := by
        simp [bVals, hi']
      rw [hx]
      have hno : (Builtin.Bytes.Kind.bytes == Builtin.Bytes.Kind.bytearray || st.2.any fun x => x.1.onHeap) = false := by
        rw [show (Builtin.Bytes.Kind.bytes == Builtin.Bytes.Kind.bytearray) = false from by decide, Bool.false_or, List.any_eq_false]
        intro p hp; rw [(hI.2 p hp).2]; decide
      rw [hno, if_neg (by decide)]
      refine wpAny_bind (wpAny_holding (wpAny_of_eq (BA.take_join _ _) ?_))
      dsimp only
      refine wpAny_bind (wpAny_seqItems hl rfl ?_)
      dsimp only
      rw [if_neg (by simp)]
      refine wpAny_pure ⟨rfl, _, rfl, ?_, ?_⟩
      · dsimp only
        rw [Array.toList_push, hI.1, List.take_add_one, List.getElem?_eq_getElem hi', List.map_append]
        rfl
      · intro p hp
        rcases List.mem_append.mp hp with hp | hp
        · exact hI.2 p hp
        · obtain rfl : p = _ := List.mem_singleton.mp hp
          exact ⟨rfl, rfl⟩
    · obtain ⟨hp, ht⟩ := hI
      refine fin st.1 st.2 ?_ fun p hp => (ht p hp).1
      rw [hp]
      simp [bVals]
end Og
end

section
open PySem PySem.W PySem.Calls PyProof.Rows
namespace Og

section
variable {C : Cx} {A : Around} {L : Addr} {ls : Loc} {σ σ' : Led} {env : Env} {Q : Value → Loc → Led → Prop} {a b : Addr} {vs us : List Value} {n k : Nat} {v : Value} {t u : Tok}

/-! ### join -/
theorem wBJoinMeth {sep : List UInt8} {pl : Sem Bool} {Q : Value × List Value → Loc → Led → Prop} (h : Q (.builtin "bytes.join", [.bytes sep.toArray t]) ls σ) : W C A L (getMethod (.bytes sep.toArray t) "join" pl) ls σ Q :=
  .leaf fun s R S k => getMethod_builtin (PySem.W.typeIs_bytes s sep.toArray t) BA.battrs BA.slot_join BA.kind_join (fun b e => nomatch e) (k _ _ _ _ S h)
theorem wBJoin {l : Addr} {sep z : List UInt8} {bs : List (List UInt8 × Tok)} (hm : (l, lst (bVals bs) n) ∈ σ) (h2 : 2 ≤ bs.length)
    (hz : (bs.map fun b => b.1.toArray).foldl (· + ·.size) (sep.length * (bs.length - 1)) ≤ 16777216) (e : Builtin.Bytes.joined sep.toArray (bs.map fun b => b.1.toArray) = z.toArray) (hj : z.length ≤ 16777216)
    (h : ∀ u, Q (.bytes z.toArray u) ls σ) : W C A L (call (.builtin "bytes.join") [.bytes sep.toArray t, .ref l]) ls σ Q :=
  .leaf fun s R S k => call_meets (S := fun A R s => s.heap.get? l = some (lst (bVals bs) n) ∧ ∀ u, R (.ok (.ret (.bytes z.toArray u))) { s with toks := s.toks + 1 }) BA.slot_join (PySem.W.typeIs_bytes s sep.toArray t) BA.entry_join (BA.args_join _ _)
    (.of_wp fun prog w A R s hs => baJoin hs.1 h2 hz (by rw [e]; simpa using hj) fun u => ⟨_, rfl, by rw [e]; exact hs.2 u⟩) ⟨S.get hm, fun u => k _ _ _ _ S.toks (h u)⟩

/-! ### places -/
theorem wTail {value slice : Expr} {o i : Value} {ops : List Value} {T id : String} (hT : ∀ s, St C L ls σ s → s.TypeIs o T) (hl : typeLookup (.type T) "__getitem__" = pure (some (.builtin id)))
    (hs : subscripted slice false o i = PySem.operate ops (getItem o i)) (h : W C A L (getItem o i) ls σ Q) : W C A L (subscriptTail value slice o i) ls σ Q := by
  intro s S
  have hT' := hT s S
  unfold subscriptTail
  refine wpC.bind ?_
  rw [getitemInPython_of_ne hT'.not_modules]
  refine wpC.bind (wpC.ofAny (wpAny_specialOf hT' hl ?_))
  have fin : wpC C.H (model C.prog C.w) A (subscripted slice false o i) (fun r s₃ => wpC C.H (model C.prog C.w) A (letTemporaryGo value o r >>= fun _ => Pure.pure r) (fun a s' => ∃ ls' σ', St C L ls' σ' s' ∧ Q a ls' σ') s₃) s := by
    rw [hs]
    refine wpC.operate ((h s S).mono fun r s₃ h₃ => ?_)
    obtain ⟨ls', σ', S', q⟩ := h₃
    exact wpC.bind (wpC.ofAny (wpAny_letTemporaryGo (wpC.pure ⟨ls', σ', S', q⟩)))
  first
    | exact wpC.pure (wpC.bind fin)
    | exact wpC.bind (wpC.pure (wpC.bind fin))
    | exact wpC.bind fin
theorem wTailList {value slice : Expr} {i : Value} {ops : List Value} (hm : (a, lst vs n) ∈ σ) (hs : subscripted slice false (.ref a) i = PySem.operate ops (getItem (.ref a) i)) (h : W C A L (getItem (.ref a) i) ls σ Q) : W C A L (subscriptTail value slice (.ref a) i) ls σ Q :=
  wTail (fun s S => (S.list hm).typeIs) slot_list_getitem.lookup hs h
theorem wTailTup {value slice : Expr} {i : Value} {ops : List Value} (hm : (a, Og.tup vs) ∈ σ) (hs : subscripted slice false (.ref a) i = PySem.operate ops (getItem (.ref a) i)) (h : W C A L (getItem (.ref a) i) ls σ Q) : W C A L (subscriptTail value slice (.ref a) i) ls σ Q :=
  wTail (fun s S => (S.tup hm).typeIs) slot_tuple_getitem.lookup hs h
theorem wTailBytes {value slice : Expr} {i : Value} {ops : List Value} {x : Array UInt8} (hs : subscripted slice false (.bytes x t) i = PySem.operate ops (getItem (.bytes x t) i)) (h : W C A L (getItem (.bytes x t) i) ls σ Q) : W C A L (subscriptTail value slice (.bytes x t) i) ls σ Q :=
  wTail (fun s S => PySem.W.typeIs_bytes s x t) FB.slot_bytes_getitem.lookup hs h
theorem wSliceD {lo up st : Option Expr} {pos : Pos}
    (h : W C A L (evalPart lo env) ls σ fun l ls σ => W C A L (evalPart up env) ls σ fun u ls σ => W C A L (evalPart st env) ls σ fun t ls σ => ∀ a, Q (.ref a) ls ((a, Og.slc l u t) :: σ)) :
    W C A L (eval (.Slice lo up st pos) env) ls σ Q := wSlice h
def cutB (b : List UInt8) (lo hi : Option Int) : List UInt8 := (b.drop (lo.elim 0 (clipAt b.length))).take (hi.elim b.length (clipAt b.length) - lo.elim 0 (clipAt b.length))
theorem wBSlice {sl : Addr} {x : List UInt8} {l u : Value} {lo hi : Option Int} (hs : (sl, Og.slc l u .none) ∈ σ) (pl : IsPart l lo) (pu : IsPart u hi) (hz : x.length ≤ 16777216) (h : ∀ t, Q (.bytes (cutB x lo hi).toArray t) ls σ) :
    W C A L (getItem (.bytes x.toArray t) (.ref sl)) ls σ Q :=
  .leaf fun s R S k => by
    have e : KBy.picked x.toArray lo hi = (cutB x lo hi).toArray := by
      rw [KBc.picked_eq]; unfold cutB; simp only [List.size_toArray]
    refine getItem_meets (typeIs_bytes _ _ _) (by decide) FB.slot_bytes_getitem FB.entry_bytes_getitem (FB.args_bytes_getitem_2 _ _) (KBc.meets_slice2 x.toArray t sl pl pu)
      ⟨S.slc hs, Nat.le_trans (KBc.size_picked_le x.toArray lo hi) (by rw [sizeLine_eq]; simpa using hz), fun t' kk => by rw [e]; exact k _ _ _ _ S.toks (h t')⟩

/-! ### unpacking -/
theorem wUnpackTup (hm : (a, Og.tup vs) ∈ σ) (hh : A.handled = none) {Q : List Value → Loc → Led → Prop} (hn : k = vs.length) (h : Q vs ls σ) : W C A L (unpackItems (.ref a) k none) ls σ Q :=
  .leaf fun s R S kk => by
    obtain ⟨m, F, hl⟩ := S.fr
    exact unpackItemsN_ F S.news (S.tup hm) hh (by simpa using hn) fun h' F' N' => by simpa using kk _ _ _ _ (S.again hl F' (tk := s.toks) N' S.nodup) h
theorem wUnpackList (hm : (a, lst vs n) ∈ σ) (hh : A.handled = none) {Q : List Value → Loc → Led → Prop} (hn : k = vs.length) (h : Q vs ls σ) : W C A L (unpackItems (.ref a) k none) ls σ Q :=
  .leaf fun s R S kk => by
    obtain ⟨m, F, hl⟩ := S.fr
    exact kun_items F S.news (S.list hm) hh (by simpa using hn) fun h' F' N' => by simpa using kk _ _ _ _ (S.again hl F' (tk := s.toks) N' S.nodup) h

/-! ### more -/
theorem wListAdd {m : Nat} (ha : (a, lst vs n) ∈ σ) (hb : (b, lst us m) ∈ σ) (hz : vs.length + us.length ≤ 1048576) (h : ∀ d, Q (.ref d) ls ((d, lst (vs ++ us) 0) :: σ)) : W C A L (binaryOp .Add (.ref a) (.ref b)) ls σ Q :=
  .leaf fun s R S kk => by
    obtain ⟨mm, F, hl⟩ := S.fr
    exact kmk_add_lit F S.news (S.list ha) (S.list hb) rfl (fun D h' F' N' hlt => kk _ _ _ _ (S.more (tk := s.toks) hl F' N' hlt) (h D)) (by simp only [sizeLine_eq]; omega)
theorem wMax {x y : Int} (hh : A.handled = none) (h : ∀ t, Q (.int (max x y) t) ls σ) : W C A L (call (.builtin "max") [.int x t, .int y u]) ls σ Q :=
  .leaf fun s R S kk => by
    obtain ⟨mm, F, hl⟩ := S.fr
    refine max_two_N hh F S.news fun h' tk F' N' => ?_
    have e : (if y > x then y else x) = max x y := by rw [Int.max_def]; split <;> split <;> omega
    rw [e]
    exact kk _ _ _ _ (S.again hl F' N' S.nodup) (h _)
theorem wIsNone {v : Value} (h : Q (.bool (v == .none)) ls σ) : W C A L (compareOp .Is v .none) ls σ Q := .leaf fun s R S kk => PyProof.Rows.is_none_gen (kk _ _ _ _ S h)
theorem wIsNotNone {v : Value} (h : Q (.bool (!(v == .none))) ls σ) : W C A L (compareOp .IsNot v .none) ls σ Q := .leaf fun s R S kk => isNot_none (kk _ _ _ _ S h)
theorem wStr {i : Int} (hi : i.natAbs.log2 < 1920) (h : ∀ t, Q (.str (toString i) t) ls σ) : W C A L (call (.type "str") [.int i t]) ls σ Q := .leaf fun s R S kk => P.str_of_int hi (kk _ _ _ _ S.toks (h _))
theorem wOrd {c : Nat} (h : ∀ t, Q (.int c t) ls σ) : W C A L (call (.builtin "ord") [.str ⟨#[c]⟩ t]) ls σ Q := .leaf fun s R S kk => P.ord_of_char (kk _ _ _ _ S.toks (h _))
theorem wBytesInts {ns : List Int} (hm : (a, lst vs n) ∈ σ) (hh : A.handled = none) (hi : IntsAre vs ns) (hr : ∀ n ∈ ns, 0 ≤ n ∧ n < 256) (hz : vs.length ≤ sizeLine) (h : ∀ t, Q (.bytes (byteArr ns) t) ls σ) : W C A L (call (.type "bytes") [.ref a]) ls σ Q :=
  .leaf fun s R S kk => call_bytes_ints (S.list hm) hi hr hz hh fun h' t k hk => kk _ _ _ _ (S.keeps hk) (h t)
theorem wEqBool {p q : Bool} (h : Q (.bool (p == q)) ls σ) : W C A L (compareOp .Eq (.bool p) (.bool q)) ls σ Q := .leaf fun s R S kk => PyProof.Rows.eq_bool (kk _ _ _ _ S h)

/-! ### cells -/
def isCell (v : Option Value) (o : Obj) : Prop := o.data = .cell v
theorem wLoadCell {x : Str} {c : Addr} {o : Obj} (ev : Ev L env) (hx : env.kindOf x = some .cell) (hc : env.cells.lookup x = some c) (hm : (c, o) ∈ σ) (ho : isCell (some v) o) (h : Q v ls σ) : W C A L (loadName env x) ls σ Q :=
  .leaf fun s R S kk => wpAny_loadName_cell ev.kind hx hc ⟨o, S.get hm, ho⟩ (kk _ _ _ _ S h)
theorem wStoreCell {x : Str} {c : Addr} {o : Obj} {v₀ : Option Value} {Q : Unit → Loc → Led → Prop} (ev : Ev L env) (hx : env.kindOf x = some .cell) (hc : env.cells.lookup x = some c) (sw : ∀ o', ∃ σ', Swap c o o' σ σ' ∧ (isCell (some v) o' → Q () ls σ')) (ho : isCell v₀ o) : W C A L (storeName env x v) ls σ Q := fun s S => by
  obtain ⟨σ₁, sw₁, _⟩ := sw o
  refine wpC.ofAny (wpAny_storeName_cell ev.kind hx hc ⟨o, S.get sw₁.mem, ho⟩ fun h' hv hb => ?_)
  obtain ⟨o', hg, hd⟩ := hv
  obtain ⟨σ₂, sw₂, hq⟩ := sw o'
  exact ⟨ls, σ₂, S.swap (tk := s.toks) sw₂ hb hg, hq hd⟩
end
end Og
end

section
open PySem PySem.W PySem.Calls PyProof.Rows
namespace Og

namespace BA
theorem dga : typeLookup (.type "dict") "__getattribute__" = pure (some (.builtin "dict.__getattribute__")) := by rw [typeLookup_type, builtinLookup_eq_fast]; kernel_rfl
theorem dattrs : PlainAttrs "dict" := ⟨⟨_, dga, by decide +kernel⟩, by rw [typeLookup_type, builtinLookup_eq_fast]; kernel_rfl⟩
end BA
section
variable {C : Cx} {A : Around} {L : Addr} {ls : Loc} {σ σ' : Led} {env : Env} {Q : Value → Loc → Led → Prop} {d : Addr} {o : Obj} {K : Type} [DecidableEq K] {knd : KeyKind C.prog C.w K} {kvs : List (K × Value)} {k : K} {key v : Value} {s : Shared}
theorem St.fresh (S : St C L ls σ s) : (s.heap.objs.size == sysModules) = false := by
  obtain ⟨m, F, _⟩ := S.fr
  obtain ⟨o, es, ep, h, _⟩ := C.T.g
  have h1 : (3 : Nat) < C.h₀.objs.size := Heap.lt_size h
  have h2 := F.ns.lt
  have h3 := F.above
  have h4 : (1 : Nat) < s.heap.objs.size := Nat.lt_of_lt_of_le (Nat.lt_trans (by decide) h1) (Nat.le_of_lt (Nat.lt_of_le_of_lt h3 h2))
  exact beq_eq_false_iff_ne.mpr (Nat.ne_of_gt h4)
theorem St.dict (S : St C L ls σ s) (hm : (d, o) ∈ σ) (hd : o.IsDictOf knd kvs) : s.heap.DictOf knd d kvs := Heap.dictOf_iff.mpr ⟨o, S.get hm, hd⟩
theorem isDict_new : ({ cls := .type "dict", data := .dict #[] } : Obj).IsDictOf knd [] := ⟨#[], 0, ⟨rfl, rfl, rfl⟩, rfl, fun _ he => by simp at he, Pairs.nil, List.nodup_nil⟩
theorem wDNew {pos : Pos} (h : ∀ d o, (d == sysModules) = false → o.IsDictOf knd [] → Q (.ref d) ls ((d, o) :: σ)) : W C A L (eval (.Dict [] [] pos) env) ls σ Q :=
  .leaf fun s R S kk => wpAny_Dict_empty (kk _ _ _ _ (S.push (tk := s.toks) rfl) (h _ _ S.fresh isDict_new))
theorem wDIn (hm : (d, o) ∈ σ) (hd : o.IsDictOf knd kvs) (lo : (d == sysModules) = false) (hk : knd.is k key = true) (h : Q (.bool (valueAt kvs k).isSome) ls σ) : W C A L (compareOp .In key (.ref d)) ls σ Q :=
  .leaf fun s R S kk => wpAny_in_of hk lo (S.dict hm hd).mapOf (kk _ _ _ _ S.toks h)
theorem wDNotIn (hm : (d, o) ∈ σ) (hd : o.IsDictOf knd kvs) (lo : (d == sysModules) = false) (hk : knd.is k key = true) (h : Q (.bool (!(valueAt kvs k).isSome)) ls σ) : W C A L (compareOp .NotIn key (.ref d)) ls σ Q :=
  .leaf fun s R S kk => wpAny_notIn_of hk lo (S.dict hm hd).mapOf (kk _ _ _ _ S.toks h)
theorem wDGet (hm : (d, o) ∈ σ) (hd : o.IsDictOf knd kvs) (hk : knd.is k key = true) (hv : valueAt kvs k = some v) (h : Q v ls σ) : W C A L (getItem (.ref d) key) ls σ Q :=
  .leaf fun s R S kk => wpAny_getItem_of hk (S.dict hm hd).mapOf hv (kk _ _ _ _ S.toks h)
theorem wTailDict {value slice : Expr} {i : Value} {ops : List Value} (hm : (d, o) ∈ σ) (hd : o.IsDictOf knd kvs) (hs : subscripted slice false (.ref d) i = PySem.operate ops (getItem (.ref d) i)) (h : W C A L (getItem (.ref d) i) ls σ Q) : W C A L (subscriptTail value slice (.ref d) i) ls σ Q :=
  wTail (fun s S => (S.dict hm hd).typeIs) slot_dict_getitem.lookup hs h
theorem wDSet {Q : Unit → Loc → Led → Prop} (hd : o.IsDictOf knd kvs) (hk : knd.is k key = true) (hz : kvs.length ≤ sizeLine) (h : ∀ o', ∃ σ', Swap d o o' σ σ' ∧ (o'.IsDictOf knd (stored kvs k v) → Q () ls σ')) : W C A L (setItem (.ref d) key v) ls σ Q :=
  .leaf fun s R S kk => by
    obtain ⟨σ₁, sw₁, _⟩ := h o
    refine wpAny_setItem_pairs hk (S.dict sw₁.mem hd) (fun h' hm hb => ?_) hz
    obtain ⟨o', ho', hd'⟩ := Heap.dictOf_iff.mp hm
    obtain ⟨σ₂, sw₂, hq⟩ := h o'
    exact kk _ _ _ _ (S.swap sw₂ hb ho') (hq hd')
theorem wDPop {more : List Value} (hmore : more = [] ∨ ∃ x, more = [x]) (hpart : (keyPart key).isSome = true) (hd : o.IsDictOf knd kvs) (hk : knd.is k key = true) (hz : kvs.length ≤ sizeLine) (hv : valueAt kvs k = some v)
    (h : ∀ o', ∃ σ', Swap d o o' σ σ' ∧ (o'.IsDictOf knd (without kvs k) → Q v ls σ')) : W C A L (call (.builtin "dict.pop") (.ref d :: key :: more)) ls σ Q :=
  .leaf fun s R S kk => by
    obtain ⟨σ₁, sw₁, _⟩ := h o
    have hD := S.dict sw₁.mem hd
    have ha : argsOk "dict.pop" ⟨.ref d :: key :: more, []⟩ := by
      rcases hmore with rfl | ⟨x, rfl⟩
      · exact PySem.F.args_dict_pop_2 _ _
      · exact PySem.F.args_dict_pop_3 _ _ _
    refine call_meetsIn PySem.F.slot_dict_pop hD.typeIs PySem.F.entry_dict_pop ha (meets_dict_pop_there knd d hk more hmore hpart) ⟨kvs, v, hD, hz, hv, fun h' hm hb => ?_⟩
    obtain ⟨o', ho', hd'⟩ := Heap.dictOf_iff.mp hm
    obtain ⟨σ₂, sw₂, hq⟩ := h o'
    exact kk _ _ _ _ (S.swap sw₂ hb ho') (hq hd')
theorem wDPopNone {dflt : Value} (hm : (d, o) ∈ σ) (lo : (d == sysModules) = false) (hpart : (keyPart key).isSome = true) (hd : o.IsDictOf knd kvs) (hk : knd.is k key = true) (hv : valueAt kvs k = none) (h : Q dflt ls σ) : W C A L (call (.builtin "dict.pop") [.ref d, key, dflt]) ls σ Q :=
  .leaf fun s R S kk => call_meetsIn PySem.F.slot_dict_pop (S.dict hm hd).typeIs PySem.F.entry_dict_pop (PySem.F.args_dict_pop_3 _ _ _) (meets_dict_pop_default knd d hk lo hpart dflt) ⟨kvs, S.dict hm hd, hv, kk _ _ _ _ S.toks h⟩
theorem wDPopMeth {pl : Sem Bool} {Q : Value × List Value → Loc → Led → Prop} (hm : (d, o) ∈ σ) (hd : o.IsDictOf knd kvs) (h : Q (.builtin "dict.pop", [.ref d]) ls σ) : W C A L (getMethod (.ref d) "pop" pl) ls σ Q :=
  .leaf fun s R S kk => getMethod_builtin (S.dict hm hd).typeIs BA.dattrs PySem.F.slot_dict_pop PySem.F.type_dict_pop (fun c e => by
    cases e
    obtain ⟨es, ep, hx, _⟩ := hd
    exact ⟨o, S.get hm, hx.2.1⟩) (kk _ _ _ _ S h)

/-! ### dicts of panes: every value is True -/
def kvT (ks : List Int) : List (Int × Value) := ks.map fun k => (k, .bool true)
theorem kvT_at (ks : List Int) (k : Int) : valueAt (kvT ks) k = if k ∈ ks then some (.bool true) else none := by
  unfold valueAt kvT
  induction ks with
  | nil => rfl
  | cons x r ih =>
    simp only [List.map_cons, List.find?_cons]
    by_cases h : x = k
    · subst h; simp
    · simp only [h, decide_false]
      rw [ih]
      simp [Ne.symm h]
theorem kvT_nodup {o : Obj} {ks : List Int} (hd : o.IsDictOf (intKind C.prog C.w) (kvT ks)) : ks.Nodup := by
  obtain ⟨es, ep, _, _, _, _, hn⟩ := hd
  simpa [kvT, Function.comp_def] using hn
def putK (ks : List Int) (k : Int) : List Int := if k ∈ ks then ks else ks ++ [k]
theorem kvT_stored (ks : List Int) (k : Int) : stored (kvT ks) k (.bool true) = kvT (putK ks k) := by
  unfold stored putK
  by_cases h : k ∈ ks
  · rw [if_pos h, if_pos (by simp [kvT, h])]
    unfold kvT
    rw [List.map_map]
    refine List.map_congr_left fun x _ => ?_
    simp only [Function.comp]
    split <;> rfl
  · rw [if_neg h, if_neg (by
      intro hc
      obtain ⟨p, hp, e⟩ := List.any_eq_true.mp hc
      obtain ⟨x, hx, rfl⟩ := List.mem_map.mp hp
      have e' : x = k := of_decide_eq_true e
      exact h (e' ▸ hx))]
    simp [kvT]
theorem kvT_without (ks : List Int) (k : Int) : without (kvT ks) k = kvT (ks.filter (· ≠ k)) := by
  unfold without kvT
  rw [List.filter_map]
  congr 1
theorem hits_kvT {A : Around} {s : Shared} (ka kb : List Int) : KeqHits A s (kvT kb) (kvT ka) (decide (∀ x ∈ ka, x ∈ kb)) := by
  induction ka with
  | nil => exact .nil
  | cons x r ih =>
    by_cases h : x ∈ kb
    · have e : decide (∀ y ∈ x :: r, y ∈ kb) = (true && decide (∀ y ∈ r, y ∈ kb)) := by simp [h]
      rw [e]
      exact .hit (y := .bool true) (by rw [kvT_at, if_pos h]) (SeqAt.EqAt.bool_bool true true) ih
    · have e : decide (∀ y ∈ x :: r, y ∈ kb) = false := by simp [h]
      rw [e]
      exact .miss (by rw [kvT_at, if_neg h])
theorem wDEq {a b : Addr} {oa ob : Obj} {ka kb : List Int} (ha : (a, oa) ∈ σ) (hb : (b, ob) ∈ σ) (da : oa.IsDictOf (intKind C.prog C.w) (kvT ka)) (db : ob.IsDictOf (intKind C.prog C.w) (kvT kb)) (la : (a == sysModules) = false) (lb : (b == sysModules) = false) (hu : A.units < cLine)
    (h : Q (.bool (ka.length == kb.length && decide (∀ x ∈ ka, x ∈ kb))) ls σ) : W C A L (compareOp .Eq (.ref a) (.ref b)) ls σ Q :=
  .leaf fun s R S kk => keq_eq la lb (S.dict ha da) (S.dict hb db) hu (fun _ => hits_kvT _ _) (kk _ _ _ _ S (by simpa [kvT] using h))
theorem wDNe {a b : Addr} {oa ob : Obj} {ka kb : List Int} (ha : (a, oa) ∈ σ) (hb : (b, ob) ∈ σ) (da : oa.IsDictOf (intKind C.prog C.w) (kvT ka)) (db : ob.IsDictOf (intKind C.prog C.w) (kvT kb)) (la : (a == sysModules) = false) (lb : (b == sysModules) = false) (hu : A.units < cLine)
    (h : Q (.bool (!(ka.length == kb.length && decide (∀ x ∈ ka, x ∈ kb)))) ls σ) : W C A L (compareOp .NotEq (.ref a) (.ref b)) ls σ Q :=
  .leaf fun s R S kk => keq_ne la lb (S.dict ha da) (S.dict hb db) hu (fun _ => hits_kvT _ _) (kk _ _ _ _ S (by simpa [kvT] using h))
end
end Og
end

section
open PySem PySem.W PySem.Calls PyProof.Rows
namespace Og

/-- A field's entry in an object's own dict. -/
def fld (P : Params) (name : Str) (t : Tok) (v : Value) : DictEntry := ⟨PyData.keyHash P name, .str name t, v⟩
section
variable {C : Cx} {A : Around} {L : Addr} {ls : Loc} {σ σ' : Led} {env : Env} {Q : Value → Loc → Led → Prop} {x dx c : Addr} {es es' : List DictEntry} {n n' : Nat} {v : Value} {s : Shared} {name : Str}
theorem St.inst (S : St C L ls σ s) (hx : (x, instObj c dx) ∈ σ) (hd : (dx, dictOf es n) ∈ σ) : PySem.W.InstAt s.heap x (instObj c dx) c (some (dictOf es n)) := ⟨S.get hx, rfl, rfl, S.get hd⟩
theorem wGetOwn {expr : Bool} {attr : Option Value} (hx : (x, instObj c dx) ∈ σ) (hd : (dx, dictOf es n) ∈ σ) (hg : plainGet C.K c name = true) (hh : hasDictIn C.K c = true)
    (ha : findIn C.K (.ref c) name = some attr) (hn : noGet C.K attr = true) (hl : getL name es = some (some v)) (hv : handedIn v = true) (h : Q v ls σ) : W C A L (getAttr (.ref x) name expr) ls σ Q :=
  .leaf fun s R S kk => by
    obtain ⟨m, F, _⟩ := S.fr
    exact get_own F C.X (S.inst hx hd) hg hh ha hn hl hv (kk _ _ _ _ S.toks h)
theorem wMethInst {pl : Sem Bool} {Q : Value × List Value → Loc → Led → Prop} {f : Addr} (hx : (x, instObj c dx) ∈ σ) (hd : (dx, dictOf es n) ∈ σ) (hg : plainGet C.K c name = true)
    (hf : findIn C.K (.ref c) name = some (some (.ref f))) (ht : isFn C.K (.ref f) = true) (hl : getL name es = some none) (h : Q (.ref f, [.ref x]) ls σ) : W C A L (getMethod (.ref x) name pl) ls σ Q :=
  .leaf fun s R S kk => by
    obtain ⟨m, F, _⟩ := S.fr
    exact method_inst F C.X (S.inst hx hd) hg hf ht hl (kk _ _ _ _ S h)
/-- A field is set; t: the token of its key, where it is a new one. -/
theorem wSetField {Q : Unit → Loc → Led → Prop} (hx : (x, instObj c dx) ∈ σ)
    (hs : findIn C.K (.ref c) "__setattr__" = some (some (.builtin "object.__setattr__"))) (hp : plainOver C.K c = true) (ht : takerIn C.K c name = some none) (hh : hasDictIn C.K c = true) (hl : (getL name es).isSome = true) (hz : es.length < 1000)
    (h : ∀ t, ∃ σ', Swap dx (dictOf es n) (dictOf (putL name (PyData.keyHash C.w.params name) (.str name t) v es) (putN name es n)) σ σ' ∧ Q () ls σ') : W C A L (setAttr (.ref x) name v) ls σ Q :=
  .leaf fun s R S kk => by
    obtain ⟨m, F, hloc⟩ := S.fr
    obtain ⟨σ', sw, hq⟩ := h (s.toks + 1)
    have hlen : (putL name (PyData.keyHash C.w.params name) (.str name (s.toks + 1)) v es).length ≤ es.length + 1 := by
      have : ∀ es : List DictEntry, (putL name (PyData.keyHash C.w.params name) (.str name (s.toks + 1)) v es).length ≤ es.length + 1 := by
        intro es
        induction es with
        | nil => simp [putL]
        | cons e r ih => unfold putL; split <;> simp; omega
      exact this es
    exact set_dict F C.X S.news (S.inst hx sw.mem) rfl hs hp ht hh hl rfl (S.updOf sw) (by omega) fun h' F' N' => kk _ _ _ _ (S.again hloc F' N' (nodup_swap sw S.nodup)) hq

/-! ### making an object of a class -/
def Cx.soft (C : Cx) : Cx := { C with H := False }
theorem St.soft (S : St C L ls σ s) : St C.soft L ls σ s := ⟨S.base, S.fr, S.news, S.nodup⟩
theorem St.hard (S : St C.soft L ls σ s) : St C L ls σ s := ⟨S.base, S.fr, S.news, S.nodup⟩
theorem codeC.any {M : Model} {A : Around} {c : Code} {R : Flow → Shared → Prop} {s : Shared} (h : codeC False M A c R s) : codeAny M A c (fun r s' => match r with | .ok f => R f s' | .error _ => False) s :=
  fun Γ p hc hΓ => h Γ p hc hΓ fun x => x.elim
theorem wpC.any {α : Type} {M : Model} {A : Around} {t : Sem α} {Q : α → Shared → Prop} {s : Shared} (h : wpC False M A t Q s) : wpAny M A t Q (fun _ _ => False) s := fun Γ p hΓ => h Γ p hΓ fun x => x.elim
theorem wMake {rest : List Value} {fI : Addr} {k : Nat} {post : Addr → Addr → Led → Prop} (ok : Ok A (k + 1)) (hm : makesIn C.K c = true) (hi : findIn C.K (.ref c) "__init__" = some (some (.ref fI))) (hf : isFn C.K (.ref fI) = true)
    (fn : ∀ x dx, Fn C.soft fI (.ref x :: rest) k [(x, instObj c dx), (dx, dictOf [] 0)] fun v pr => v = .none ∧ post x dx pr) (h : ∀ x dx pr, post x dx pr → Q (.ref x) ls (pr ++ σ)) : W C A L (call (.ref c) rest) ls σ Q :=
  .leaf fun s R S kk => by
    obtain ⟨m, F, hloc⟩ := S.fr
    refine call_cls F C.X S.news hm hi hf fun x dx h' F' N' l1 l2 => ?_
    have S' : St C L ls ([(x, instObj c dx), (dx, dictOf [] 0)] ++ σ) { s with heap := h' } := S.again hloc F' (tk := s.toks) N' (by
      simp only [List.cons_append, List.nil_append, List.map_cons, List.nodup_cons, List.mem_cons, List.mem_map, not_or, not_exists, not_and]
      refine ⟨⟨Nat.ne_of_gt l2, fun p hp e => ?_⟩, fun p hp e => ?_, S.nodup⟩
      · have h1 := l1 p hp
        rw [e] at h1
        exact Nat.lt_irrefl _ (Nat.lt_trans h1 l2)
      · have h1 := l1 p hp
        rw [e] at h1
        exact Nat.lt_irrefl _ h1)
    have hw : (Code.builtin "type.__call__" ⟨.ref c :: rest, []⟩).weight ≤ 1 := by
      have e : (Code.builtin "type.__call__" ⟨.ref c :: rest, []⟩).weight = 1 := rfl
      exact Nat.le_of_eq e
    have hu : (Code.builtin "type.__call__" ⟨.ref c :: rest, []⟩).cUnits = 1 := rfl
    have ok' : Ok (A.under (.builtin "type.__call__" ⟨.ref c :: rest, []⟩)) k :=
      ⟨ok.handled, by have := ok.depth; show A.depth + _ + k < _; omega, by have := ok.units; show A.units + (Code.builtin "type.__call__" ⟨.ref c :: rest, []⟩).cUnits + 8 * k < _; rw [hu]; omega⟩
    have r := (fn x dx _ L ls σ _ ok' S'.soft).any
    refine codeAny_mono r fun fl s' hr => ?_
    cases fl with
    | error e => exact hr.elim
    | ok fl =>
      obtain ⟨v, rfl, pr, S₂, rfl, hp⟩ := hr
      exact ⟨rfl, kk _ _ _ _ S₂.hard (h x dx pr hp)⟩

/-! ### mutation, by place -/
theorem wBApp {a : Addr} {y : List UInt8} {i : Int} {t : Tok} (hH : C.H) (sw : Swap a (baObj y) (baObj (y ++ [i.toNat.toUInt8])) σ σ') (h0 : 0 ≤ i) (h1 : i < 256) (hz : y.length < 16777216) (h : Q .none ls σ') : W C A L (call (.builtin "bytearray.append") [.ref a, .int i t]) ls σ Q := by
  obtain ⟨pre, post, rfl, rfl⟩ := sw.split
  exact wBAAppend hH h0 h1 hz h
theorem wBInc {a : Addr} {y z : List UInt8} {t : Tok} (hH : C.H) (sw : Swap a (baObj y) (baObj (y ++ z)) σ σ') (hz : y.length + z.length ≤ 16777216) (h : Q (.ref a) ls σ') : W C A L (inplaceOp .Add (.ref a) (.bytes z.toArray t)) ls σ Q := by
  obtain ⟨pre, post, rfl, rfl⟩ := sw.split
  exact wBAIadd hH hz h
end

/-! ### a def with one cell -/
section
variable {C : Cx}
theorem bindL_at (kd : Str → Option NameKind) (x : Str) : ∀ (binds : List (Str × Value)) (m : Str → Option Value), bindL kd binds m x = ((binds.filter fun b => kd b.1 == some .local).reverse.lookup x).or (m x) := by
  intro binds
  induction binds with
  | nil => intro m; rfl
  | cons b r ih =>
    intro m
    obtain ⟨y, u⟩ := b
    unfold bindL
    rw [ih]
    by_cases h : kd y = some .local
    · rw [if_pos h, List.filter_cons_of_pos (by simpa using h), List.reverse_cons, List.lookup_append]
      by_cases hx : x = y
      · subst hx
        simp
      · have : (x == y) = false := beq_eq_false_iff_ne.mpr hx
        simp [hx, List.lookup_cons, this]
    · rw [if_neg h, List.filter_cons_of_neg (by simpa using h)]
theorem callDef_cells {prog : Program} {w : World} {A : Around} {s : Shared} {E : Value → Shared → Prop} {a : Addr} {o : Obj} {fd : FuncData} {body : List Stmt} {args : Args} {binds : List (Str × Value)} (hroom : A.depth < recursionLimit) (ho : s.heap.get? a = some o) (hd' : o.data = .func fd) (hlim : s.heap.NoLimit) (hcd : s.heap.CodeRec fd.code fd.qualname)
    (hbody : fd.body = .stmts body) (hbind : bindArgs fd args = pure binds) (hcl : fd.closure = [])
    (hkind : ∀ x ∈ binds, fd.scope.names.lookup x.1 = some .local ∨ (fd.scope.names.lookup x.1 = some .cell ∧ ((cellsFrom (s.heap.objs.size + 1) fd.scope.names []).lookup x.1).isSome = true))
    (hco : fd.scope.isCoroutine = false) (hgen : fd.scope.isGenerator = false) (hk : fd.scope.kind = .function) :
    wpAny (model prog w) A.in1 (callAny (.ref a) args) (fun fin s' => fin = .again (.func body (callEnvC fd s.heap.objs.size a)) ∧
      InCallC s s.heap.objs.size (bindL (callEnvC fd s.heap.objs.size a).kindOf binds fun _ => none) (callEnvC fd s.heap.objs.size a).cells (bindC (callEnvC fd s.heap.objs.size a).kindOf binds fun _ => none) s') E s := by
  simp only [callAny]
  refine wpAny_bind (wpAny_load ho ?_)
  obtain ⟨c, oc, vs, tq, hc, hoc, hdc, hq⟩ := hcd
  simp only [hd', callFunction, hco, hgen, hbody, hc]
  refine wpAny_bind (m := field (.ref c) 1) (wpAny_field hoc hdc hq (wpAny_bind (wpAny_pure ?_)))
  rw [hbind, hcl]
  refine wpAny_bind (wpAny_pure (wpAny_bind (wpAny_newFunctionEnv_cells hk hkind fun env he s' hi => ?_)))
  have he' : env = callEnvC fd s.heap.objs.size a := by rw [he]; unfold callEnvC; rw [hc]
  have hl : env.locals = s.heap.objs.size := by rw [he]; rfl
  refine wpAny_bind (wpAny_enterFrame (hlim.keeps hi.toInCall.keep) hroom (wpAny_pure ?_))
  refine ⟨by rw [he'], ?_⟩
  rw [he'] at hi
  exact hi

theorem Fn.of_body1 {f : Addr} {args : List Value} {k : Nat} {pre : Led} {post : Value → Led → Prop} {name qual z : Str} {params : Arguments} {body : List Stmt} {scope : Scope} {dV kV doc pm cdv ct oc : Value} {an od : Option Addr} {osl : Array (Option Value)} {binds : List (Str × Value)} {ls' : Loc} {v₀ : Option Value}
    (ho : C.K.lookup f = some ⟨oc, od, .func (fnX name qual params body scope [] dV kV doc pm an cdv ct), osl⟩) (hcd : codeIn C.K cdv qual = true)
    (hbind : bindArgs (fnX name qual params body scope [] dV kV doc pm an cdv ct) ⟨args, []⟩ = Pure.pure binds) (hk : scope.kind = .function)
    (hco : scope.isCoroutine = false) (hgen : scope.isGenerator = false) (hc1 : ∀ n, cellsFrom n scope.names [] = [(z, n)])
    (hkind : ∀ x ∈ binds, scope.names.lookup x.1 = some .local ∨ (scope.names.lookup x.1 = some .cell ∧ x.1 = z))
    (hls : ls' = (binds.filter fun b => scope.names.lookup b.1 == some .local).reverse) (hv₀ : bindC (fun x => scope.names.lookup x) binds (fun _ => none) z = v₀)
    (hb : ∀ A L c o rest, Ok A k → isCell v₀ o → W C A L (execs body (envX qual scope L f cdv [(z, c)])) ls' ((c, o) :: (pre ++ rest)) (Ends post rest)) : Fn C f args (k + 1) pre post := by
  intro A L ls rest s ok S
  refine codeC.ofTree rfl ?_
  show wpC _ _ A.in1 (callAny (.ref f) ⟨args, []⟩) _ s
  have X := S.kin
  obtain ⟨m, F, hl⟩ := S.fr
  refine (wpC.ofAny (callDef_cells (by have := ok.depth; omega) (X _ _ ho) rfl (C.nolim.keeps F.keep) (codeRec_of X hcd) rfl hbind rfl (fun x hx => (hkind x hx).imp id fun h => ⟨h.1, by
    show ((cellsFrom _ scope.names []).lookup x.1).isSome = true
    rw [hc1, h.2]; simp⟩) hco hgen hk)).mono fun fin s₁ h => ?_
  obtain ⟨rfl, I⟩ := h
  refine ⟨rfl, func_code ?_⟩
  obtain ⟨h₁, tk, rfl⟩ := I.toInCall.same
  have hk₁ := I.toInCall.keep
  have ecells : (callEnvC (fnX name qual params body scope [] dV kV doc pm an cdv ct) s.heap.objs.size f).cells = [(z, s.heap.objs.size + 1)] := hc1 _
  have ekind : (callEnvC (fnX name qual params body scope [] dV kV doc pm an cdv ct) s.heap.objs.size f).kindOf = fun x => scope.names.lookup x := rfl
  have eenv : callEnvC (fnX name qual params body scope [] dV kV doc pm an cdv ct) s.heap.objs.size f = envX qual scope s.heap.objs.size f cdv [(z, s.heap.objs.size + 1)] := by
    unfold callEnvC
    show newEnv scope _ _ (cellsFrom _ scope.names []) _ _ _ _ _ = _
    rw [hc1]; rfl
  rw [ecells, ekind] at I
  obtain ⟨oc', hoc, hdc⟩ := I.cell z (s.heap.objs.size + 1) (by simp)
  rw [hv₀] at hdc
  have E := St.enter (tk := tk) (h₁ := h₁) (binds := ls'.reverse) S (by
    have ns := I.toInCall.ns
    have e : (fun x => ls'.reverse.reverse.lookup x) = bindL (fun x => scope.names.lookup x) binds (fun _ => none) := by
      funext x
      rw [bindL_at, hls, List.reverse_reverse]
      simp
    rw [e]
    exact ns) hk₁
  obtain ⟨oL, hL, S₁⟩ := E
  rw [List.reverse_reverse] at S₁
  have S₂ : St C s.heap.objs.size ls' ((s.heap.objs.size + 1, oc') :: (pre ++ ((L, oL) :: rest))) { s with heap := h₁, toks := tk } := by
    refine ⟨S₁.base, S₁.fr, fun p hp => ?_, ?_⟩
    · rcases List.mem_cons.mp hp with rfl | hp
      · refine ⟨hoc, Nat.succ_ne_self _, Heap.get?_none_of_le ?_⟩
        exact Nat.le_succ_of_le (Nat.le_of_lt (Nat.lt_of_le_of_lt F.above F.ns.lt))
      · exact S₁.news p hp
    · rw [List.map_cons, List.nodup_cons]
      refine ⟨fun hm => ?_, S₁.nodup⟩
      obtain ⟨p, hp, e⟩ := List.mem_map.mp hm
      have e' : p.1 = s.heap.objs.size + 1 := e
      have hlt : p.1 < s.heap.objs.size := by
        rcases List.mem_append.mp hp with q | q
        · exact S.lt (List.mem_append_left _ q)
        · rcases List.mem_cons.mp q with rfl | q
          · exact Heap.lt_size hL
          · exact S.lt (List.mem_append_right _ q)
      rw [e'] at hlt
      exact absurd hlt (Nat.not_lt.mpr (Nat.le_succ _))
  rw [eenv]
  refine (hb (A.deeper (envX qual scope s.heap.objs.size f cdv [(z, s.heap.objs.size + 1)])) s.heap.objs.size (s.heap.objs.size + 1) oc' ((L, oL) :: rest) ok.deeper hdc _ S₂).mono fun fl s₂ h => ?_
  obtain ⟨ls₂, σ₂, S₃, pr, hp, hpart⟩ := h
  exact ⟨_, rfl, pr, S.leave (tmp := []) hL (S₃.part hpart), hp⟩
end
end Og
end

section
open PySem PySem.W PySem.Calls PyProof.Rows
namespace Og
/-- The context is that of this program. -/
def Kx (C : Cx) : Prop := C.K = OgTop.hd.heap_1 C.w.params
section
variable {C : Cx}

theorem gdecimal_octets (hK : Kx C) : nsIn C.K mainGlobals (Str.ofString "decimal_octets") = some (some (.ref 21)) := by rw [hK]; kernel_rfl
theorem kdecimal_octets (hK : Kx C) : keepIn C.K (.ref 21) = true := by rw [hK]; kernel_rfl
theorem gcontrol_escaped (hK : Kx C) : nsIn C.K mainGlobals (Str.ofString "control_escaped") = some (some (.ref 28)) := by rw [hK]; kernel_rfl
theorem kcontrol_escaped (hK : Kx C) : keepIn C.K (.ref 28) = true := by rw [hK]; kernel_rfl
theorem gcontrol_fitting (hK : Kx C) : nsIn C.K mainGlobals (Str.ofString "control_fitting") = some (some (.ref 35)) := by rw [hK]; kernel_rfl
theorem kcontrol_fitting (hK : Kx C) : keepIn C.K (.ref 35) = true := by rw [hK]; kernel_rfl
theorem gcontrol_row (hK : Kx C) : nsIn C.K mainGlobals (Str.ofString "control_row") = some (some (.ref 42)) := by rw [hK]; kernel_rfl
theorem kcontrol_row (hK : Kx C) : keepIn C.K (.ref 42) = true := by rw [hK]; kernel_rfl
theorem gcontrol_named (hK : Kx C) : nsIn C.K mainGlobals (Str.ofString "control_named") = some (some (.ref 49)) := by rw [hK]; kernel_rfl
theorem kcontrol_named (hK : Kx C) : keepIn C.K (.ref 49) = true := by rw [hK]; kernel_rfl
theorem gControlWaiting (hK : Kx C) : nsIn C.K mainGlobals (Str.ofString "ControlWaiting") = some (some (.ref 66)) := by rw [hK]; kernel_rfl
theorem kControlWaiting (hK : Kx C) : keepIn C.K (.ref 66) = true := by rw [hK]; kernel_rfl
theorem gControlFlow (hK : Kx C) : nsIn C.K mainGlobals (Str.ofString "ControlFlow") = some (some (.ref 134)) := by rw [hK]; kernel_rfl
theorem kControlFlow (hK : Kx C) : keepIn C.K (.ref 134) = true := by rw [hK]; kernel_rfl
theorem g_law_octets (hK : Kx C) : nsIn C.K mainGlobals (Str.ofString "_law_octets") = some (some (.ref 139)) := by rw [hK]; kernel_rfl

theorem g_law_draw (hK : Kx C) : nsIn C.K mainGlobals (Str.ofString "_law_draw") = some (some (.ref 146)) := by rw [hK]; kernel_rfl
theorem k_law_draw (hK : Kx C) : keepIn C.K (.ref 146) = true := by rw [hK]; kernel_rfl
theorem g_law_figures (hK : Kx C) : nsIn C.K mainGlobals (Str.ofString "_law_figures") = some (some (.ref 151)) := by rw [hK]; kernel_rfl
theorem k_law_figures (hK : Kx C) : keepIn C.K (.ref 151) = true := by rw [hK]; kernel_rfl
theorem g_law_row (hK : Kx C) : nsIn C.K mainGlobals (Str.ofString "_law_row") = some (some (.ref 158)) := by rw [hK]; kernel_rfl
theorem k_law_row (hK : Kx C) : keepIn C.K (.ref 158) = true := by rw [hK]; kernel_rfl
theorem g_law_fits (hK : Kx C) : nsIn C.K mainGlobals (Str.ofString "_law_fits") = some (some (.ref 165)) := by rw [hK]; kernel_rfl
theorem k_law_fits (hK : Kx C) : keepIn C.K (.ref 165) = true := by rw [hK]; kernel_rfl
theorem g_law_taken (hK : Kx C) : nsIn C.K mainGlobals (Str.ofString "_law_taken") = some (some (.ref 170)) := by rw [hK]; kernel_rfl
theorem k_law_taken (hK : Kx C) : keepIn C.K (.ref 170) = true := by rw [hK]; kernel_rfl
theorem g_law_put (hK : Kx C) : nsIn C.K mainGlobals (Str.ofString "_law_put") = some (some (.ref 175)) := by rw [hK]; kernel_rfl
theorem k_law_put (hK : Kx C) : keepIn C.K (.ref 175) = true := by rw [hK]; kernel_rfl
theorem g_law_stopped (hK : Kx C) : nsIn C.K mainGlobals (Str.ofString "_law_stopped") = some (some (.ref 180)) := by rw [hK]; kernel_rfl
theorem k_law_stopped (hK : Kx C) : keepIn C.K (.ref 180) = true := by rw [hK]; kernel_rfl
theorem g_law_let (hK : Kx C) : nsIn C.K mainGlobals (Str.ofString "_law_let") = some (some (.ref 187)) := by rw [hK]; kernel_rfl
theorem k_law_let (hK : Kx C) : keepIn C.K (.ref 187) = true := by rw [hK]; kernel_rfl
theorem g_law_rows (hK : Kx C) : nsIn C.K mainGlobals (Str.ofString "_law_rows") = some (some (.ref 194)) := by rw [hK]; kernel_rfl
theorem k_law_rows (hK : Kx C) : keepIn C.K (.ref 194) = true := by rw [hK]; kernel_rfl
theorem gCONTROL_BACKSLASH (hK : Kx C) : nsIn C.K mainGlobals (Str.ofString "CONTROL_BACKSLASH") = some (some (.int 92 200)) := by rw [hK]; kernel_rfl
theorem gCONTROL_LEAST (hK : Kx C) : nsIn C.K mainGlobals (Str.ofString "CONTROL_LEAST") = some (some (.int 32 202)) := by rw [hK]; kernel_rfl
theorem gCONTROL_PANE (hK : Kx C) : nsIn C.K mainGlobals (Str.ofString "CONTROL_PANE") = some (some (.bytes #[37] 204)) := by rw [hK]; kernel_rfl
theorem b_bytes (hK : Kx C) : nsIn C.K mainGlobals (Str.ofString "bytes") = some none := by rw [hK]; kernel_rfl
theorem b_bytearray (hK : Kx C) : nsIn C.K mainGlobals (Str.ofString "bytearray") = some none := by rw [hK]; kernel_rfl
theorem b_len (hK : Kx C) : nsIn C.K mainGlobals (Str.ofString "len") = some none := by rw [hK]; kernel_rfl
theorem b_range (hK : Kx C) : nsIn C.K mainGlobals (Str.ofString "range") = some none := by rw [hK]; kernel_rfl
theorem b_max (hK : Kx C) : nsIn C.K mainGlobals (Str.ofString "max") = some none := by rw [hK]; kernel_rfl
theorem b_str (hK : Kx C) : nsIn C.K mainGlobals (Str.ofString "str") = some none := by rw [hK]; kernel_rfl
theorem b_ord (hK : Kx C) : nsIn C.K mainGlobals (Str.ofString "ord") = some none := by rw [hK]; kernel_rfl
theorem c66_dict (hK : Kx C) : hasDictIn C.K 66 = true := by rw [hK]; kernel_rfl
theorem c66_set (hK : Kx C) : findIn C.K (.ref 66) "__setattr__" = some (some (.builtin "object.__setattr__")) := by rw [hK]; kernel_rfl
theorem c66_over (hK : Kx C) : plainOver C.K 66 = true := by rw [hK]; kernel_rfl
theorem c66_make (hK : Kx C) : makesIn C.K 66 = true := by rw [hK]; kernel_rfl
theorem c66_get_pane (hK : Kx C) : plainGet C.K 66 (Str.ofString "pane") = true := by rw [hK]; kernel_rfl
theorem c66_no_pane (hK : Kx C) : findIn C.K (.ref 66) (Str.ofString "pane") = some none := by rw [hK]; kernel_rfl
theorem c66_take_pane (hK : Kx C) : takerIn C.K 66 (Str.ofString "pane") = some none := by rw [hK]; kernel_rfl
theorem c66_get_octets (hK : Kx C) : plainGet C.K 66 (Str.ofString "octets") = true := by rw [hK]; kernel_rfl
theorem c66_no_octets (hK : Kx C) : findIn C.K (.ref 66) (Str.ofString "octets") = some none := by rw [hK]; kernel_rfl
theorem c66_take_octets (hK : Kx C) : takerIn C.K 66 (Str.ofString "octets") = some none := by rw [hK]; kernel_rfl
theorem c66_get_time (hK : Kx C) : plainGet C.K 66 (Str.ofString "time") = true := by rw [hK]; kernel_rfl
theorem c66_no_time (hK : Kx C) : findIn C.K (.ref 66) (Str.ofString "time") = some none := by rw [hK]; kernel_rfl
theorem c66_take_time (hK : Kx C) : takerIn C.K 66 (Str.ofString "time") = some none := by rw [hK]; kernel_rfl
theorem c134_dict (hK : Kx C) : hasDictIn C.K 134 = true := by rw [hK]; kernel_rfl
theorem c134_set (hK : Kx C) : findIn C.K (.ref 134) "__setattr__" = some (some (.builtin "object.__setattr__")) := by rw [hK]; kernel_rfl
theorem c134_over (hK : Kx C) : plainOver C.K 134 = true := by rw [hK]; kernel_rfl
theorem c134_make (hK : Kx C) : makesIn C.K 134 = true := by rw [hK]; kernel_rfl
theorem c134_get_waiting (hK : Kx C) : plainGet C.K 134 (Str.ofString "waiting") = true := by rw [hK]; kernel_rfl
theorem c134_no_waiting (hK : Kx C) : findIn C.K (.ref 134) (Str.ofString "waiting") = some none := by rw [hK]; kernel_rfl
theorem c134_take_waiting (hK : Kx C) : takerIn C.K 134 (Str.ofString "waiting") = some none := by rw [hK]; kernel_rfl
theorem c134_get_most_age (hK : Kx C) : plainGet C.K 134 (Str.ofString "most_age") = true := by rw [hK]; kernel_rfl
theorem c134_no_most_age (hK : Kx C) : findIn C.K (.ref 134) (Str.ofString "most_age") = some none := by rw [hK]; kernel_rfl
theorem c134_take_most_age (hK : Kx C) : takerIn C.K 134 (Str.ofString "most_age") = some none := by rw [hK]; kernel_rfl
theorem c134_get_is_silent (hK : Kx C) : plainGet C.K 134 (Str.ofString "is_silent") = true := by rw [hK]; kernel_rfl
theorem c134_no_is_silent (hK : Kx C) : findIn C.K (.ref 134) (Str.ofString "is_silent") = some none := by rw [hK]; kernel_rfl
theorem c134_take_is_silent (hK : Kx C) : takerIn C.K 134 (Str.ofString "is_silent") = some none := by rw [hK]; kernel_rfl
theorem c134_get_paused (hK : Kx C) : plainGet C.K 134 (Str.ofString "paused") = true := by rw [hK]; kernel_rfl
theorem c134_no_paused (hK : Kx C) : findIn C.K (.ref 134) (Str.ofString "paused") = some none := by rw [hK]; kernel_rfl
theorem c134_take_paused (hK : Kx C) : takerIn C.K 134 (Str.ofString "paused") = some none := by rw [hK]; kernel_rfl
theorem c134_get_off (hK : Kx C) : plainGet C.K 134 (Str.ofString "off") = true := by rw [hK]; kernel_rfl
theorem c134_no_off (hK : Kx C) : findIn C.K (.ref 134) (Str.ofString "off") = some none := by rw [hK]; kernel_rfl
theorem c134_take_off (hK : Kx C) : takerIn C.K 134 (Str.ofString "off") = some none := by rw [hK]; kernel_rfl
theorem c134_get_put (hK : Kx C) : plainGet C.K 134 (Str.ofString "put") = true := by rw [hK]; kernel_rfl
theorem c134_get_leave_out (hK : Kx C) : plainGet C.K 134 (Str.ofString "leave_out") = true := by rw [hK]; kernel_rfl
theorem c134_get_pause (hK : Kx C) : plainGet C.K 134 (Str.ofString "pause") = true := by rw [hK]; kernel_rfl
theorem c134_get_go_on (hK : Kx C) : plainGet C.K 134 (Str.ofString "go_on") = true := by rw [hK]; kernel_rfl
theorem c134_get_row_of (hK : Kx C) : plainGet C.K 134 (Str.ofString "row_of") = true := by rw [hK]; kernel_rfl
theorem c134_get_cut (hK : Kx C) : plainGet C.K 134 (Str.ofString "cut") = true := by rw [hK]; kernel_rfl
theorem c134_get_taken (hK : Kx C) : plainGet C.K 134 (Str.ofString "taken") = true := by rw [hK]; kernel_rfl
theorem c134_m_put (hK : Kx C) : findIn C.K (.ref 134) (Str.ofString "put") = some (some (.ref 91)) := by rw [hK]; kernel_rfl
theorem f91 (hK : Kx C) : isFn C.K (.ref 91) = true := by rw [hK]; kernel_rfl
theorem k91 (hK : Kx C) : keepIn C.K (.ref 91) = true := by rw [hK]; kernel_rfl
theorem c134_m_leave_out (hK : Kx C) : findIn C.K (.ref 134) (Str.ofString "leave_out") = some (some (.ref 96)) := by rw [hK]; kernel_rfl
theorem f96 (hK : Kx C) : isFn C.K (.ref 96) = true := by rw [hK]; kernel_rfl
theorem k96 (hK : Kx C) : keepIn C.K (.ref 96) = true := by rw [hK]; kernel_rfl
theorem c134_m_pause (hK : Kx C) : findIn C.K (.ref 134) (Str.ofString "pause") = some (some (.ref 103)) := by rw [hK]; kernel_rfl
theorem f103 (hK : Kx C) : isFn C.K (.ref 103) = true := by rw [hK]; kernel_rfl
theorem k103 (hK : Kx C) : keepIn C.K (.ref 103) = true := by rw [hK]; kernel_rfl
theorem c134_m_go_on (hK : Kx C) : findIn C.K (.ref 134) (Str.ofString "go_on") = some (some (.ref 110)) := by rw [hK]; kernel_rfl
theorem f110 (hK : Kx C) : isFn C.K (.ref 110) = true := by rw [hK]; kernel_rfl
theorem k110 (hK : Kx C) : keepIn C.K (.ref 110) = true := by rw [hK]; kernel_rfl
theorem c134_m_row_of (hK : Kx C) : findIn C.K (.ref 134) (Str.ofString "row_of") = some (some (.ref 117)) := by rw [hK]; kernel_rfl
theorem f117 (hK : Kx C) : isFn C.K (.ref 117) = true := by rw [hK]; kernel_rfl
theorem k117 (hK : Kx C) : keepIn C.K (.ref 117) = true := by rw [hK]; kernel_rfl
theorem c134_m_cut (hK : Kx C) : findIn C.K (.ref 134) (Str.ofString "cut") = some (some (.ref 124)) := by rw [hK]; kernel_rfl
theorem f124 (hK : Kx C) : isFn C.K (.ref 124) = true := by rw [hK]; kernel_rfl
theorem k124 (hK : Kx C) : keepIn C.K (.ref 124) = true := by rw [hK]; kernel_rfl
theorem c134_m_taken (hK : Kx C) : findIn C.K (.ref 134) (Str.ofString "taken") = some (some (.ref 131)) := by rw [hK]; kernel_rfl
theorem f131 (hK : Kx C) : isFn C.K (.ref 131) = true := by rw [hK]; kernel_rfl
theorem k131 (hK : Kx C) : keepIn C.K (.ref 131) = true := by rw [hK]; kernel_rfl
theorem c66_init (hK : Kx C) : findIn C.K (.ref 66) "__init__" = some (some (.ref 63)) := by rw [hK]; kernel_rfl
theorem f63 (hK : Kx C) : isFn C.K (.ref 63) = true := by rw [hK]; kernel_rfl
theorem c134_init (hK : Kx C) : findIn C.K (.ref 134) "__init__" = some (some (.ref 84)) := by rw [hK]; kernel_rfl
theorem f84 (hK : Kx C) : isFn C.K (.ref 84) = true := by rw [hK]; kernel_rfl
end
end Og
namespace Og
theorem kindE {qual : Str} {scope : Scope} {L f : Addr} {cdv : Value} {cl : List (Str × Addr)} {env : Env} (hE : envX qual scope L f cdv cl = env) {x : Str} {k : Option NameKind} (h : scope.names.lookup x = k) : env.kindOf x = k := by subst hE; exact h
theorem cellE {qual : Str} {scope : Scope} {L f : Addr} {cdv : Value} {cl : List (Str × Addr)} {env : Env} (hE : envX qual scope L f cdv cl = env) {x : Str} {k : Option Addr} (h : cl.lookup x = k) : env.cells.lookup x = k := by subst hE; exact h
end Og
end

section
open PySem PySem.W PySem.Calls PyProof.Rows
namespace Og
theorem kLook {C : Cx} (hK : Kx C) {a : Addr} {o : Obj} (h : List.lookup a (OgTop.hd.heap_1 C.w.params) = some o) : C.K.lookup a = some o := by rw [hK]; exact h
theorem iteB {b : Bool} {P Q : Prop} (h1 : b = true → P) (h2 : b = false → Q) : if b = true then P else Q := by
  cases b
  · rw [if_neg (by decide)]; exact h2 rfl
  · rw [if_pos rfl]; exact h1 rfl
theorem iteD {p : Prop} [Decidable p] {P Q : Prop} (h1 : p → P) (h2 : ¬ p → Q) : if decide p = true then P else Q := iteB (fun h => h1 (of_decide_eq_true h)) fun h => h2 (of_decide_eq_false h)
theorem iteT {P Q : Prop} (h : P) : if true = true then P else Q := by rw [if_pos rfl]; exact h
theorem iteF {P Q : Prop} (h : Q) : if false = true then P else Q := by rw [if_neg Bool.false_ne_true]; exact h
section
variable {C : Cx} {A : Around} {L : Addr} {ls : Loc} {σ σ' : Led} {env : Env} {Q : Value → Loc → Led → Prop}
theorem wCW0 {pos : Pos} {f : Value} {args : List Expr} (hk : Kept C f) (hp : (backTo pos (starEach args env)).any (·.1) = false)
    (h : W C A L (spliced (backTo pos (starEach args env))) ls σ fun vs ls σ => W C A L (call f vs) ls σ Q) : W C A L (callWith pos f [] (backTo pos (starEach args env)) []) ls σ Q := wCallWith hk hp h
theorem wCW1 {pos : Pos} {f x : Value} {args : List Expr} (hk : Kept C f) (hp : (backTo pos (starEach args env)).any (·.1) = false)
    (h : W C A L (spliced (backTo pos (starEach args env))) ls σ fun vs ls σ => W C A L (call f (x :: vs)) ls σ Q) : W C A L (callWith pos f [x] (backTo pos (starEach args env)) []) ls σ Q := wCallWith hk hp h
theorem wTarget' {elts : List Expr} {k : Nat} {pos : Pos} {v : Value} {Q : Unit → Loc → Led → Prop}
    (h : W C A L (unpackItems v (assignEach elts env).length ((assignEach elts env).findIdx? (·.1))) ls σ fun items ls σ => W C A L (assignInOrder ((assignEach elts env).map (·.2)) items) ls σ Q) :
    W C A L (assignAll v ((assignEach [.Tuple elts k pos] env).map (·.2))) ls σ Q := by
  show W C A L (do PySem.standAt pos; unpack v (assignEach elts env)) ls σ Q
  refine .bind (.standAt ?_)
  unfold unpack
  exact .bind (.holding h)
theorem wNeg {a : Int} {t : Tok} (h : ∀ t, Q (.int (-a) t) ls σ) : W C A L (unaryOp .USub (.int a t)) ls σ Q := .leaf fun s R S k => PyProof.Rows.neg_int (k _ _ _ _ S.toks (h _))
theorem wFnUse {f : Addr} {args : List Value} {k : Nat} {post : Value → Led → Prop} {pre rest : Led} (c : Fn C f args k pre post) (ok : Ok A k) (p : Part (pre ++ rest) σ) (h : ∀ v pr, post v pr → Q v ls (pr ++ rest)) : W C A L (call (.ref f) args) ls σ Q :=
  W.part p (c.use [] rest ok h)
end
end Og
namespace Og
/-- A name's value is set, the others kept. -/
inductive SetL (x : Str) (v : Value) : Loc → Loc → Prop
  | nil : SetL x v [] [(x, v)]
  | here {u : Value} {r : Loc} : SetL x v ((x, u) :: r) ((x, v) :: r)
  | there {y : Str} {u : Value} {r r' : Loc} : (x == y) = false → SetL x v r r' → SetL x v ((y, u) :: r) ((y, u) :: r')
theorem SetL.eq {x : Str} {v : Value} {ls ls' : Loc} (h : SetL x v ls ls') : setL x v ls = ls' := by
  induction h with
  | nil => rfl
  | here => unfold setL; rw [if_pos rfl]
  | there hne _ ih => unfold setL; rw [if_neg (beq_eq_false_iff_ne.mp hne), ih]
/-- What is taken out of a ledger, and what is left. -/
inductive Rem : Led → Led → Led → Prop
  | nil {σ : Led} : Rem [] σ σ
  | cons {p : Addr × Obj} {pre σ σ' rest : Led} : Take p σ σ' → Rem pre σ' rest → Rem (p :: pre) σ rest
  | block {b pre σ σ' rest : Led} : Lift b σ σ' → Rem pre σ' rest → Rem (b ++ pre) σ rest
  | last {b σ rest : Led} : Lift b σ rest → Rem b σ rest
theorem Rem.perm {pre σ rest : Led} (h : Rem pre σ rest) : σ.Perm (pre ++ rest) := by
  induction h with
  | nil => exact .refl _
  | cons t _ ih => exact t.perm.trans (ih.cons _)
  | block t _ ih => rw [List.append_assoc]; exact t.perm.trans (ih.append_left _)
  | last t => exact t.perm
section
variable {C : Cx} {A : Around} {L : Addr} {ls ls' : Loc} {σ σ' : Led} {env : Env} {Q : Value → Loc → Led → Prop}
theorem wStoreL {x : Str} {v : Value} {Q : Unit → Loc → Led → Prop} (ev : Ev L env) (hx : env.kindOf x = some .local) (hs : SetL x v ls ls') (h : Q () ls' σ) : W C A L (storeName env x v) ls σ Q := wStoreLocal ev hx (by rw [hs.eq]; exact h)
theorem wFn {f : Addr} {args : List Value} {k j : Nat} {post : Value → Led → Prop} {pre rest : Led} (c : Fn C f args k pre post) (ok : Ok A j) (hj : k ≤ j) (p : Rem pre σ rest) (h : ∀ v pr, post v pr → Q v ls (pr ++ rest)) : W C A L (call (.ref f) args) ls σ Q :=
  W.perm p.perm (c.use [] rest (ok.less hj) h)
end
end Og
namespace Og
section
variable {C : Cx} {A : Around} {L : Addr} {ls : Loc} {σ : Led} {a b : Int} {t u : Tok} {Q : Value → Loc → Led → Prop}
theorem wModP (hb : 0 < b) (h : ∀ t, Q (.int (a % b) t) ls σ) : W C A L (binaryOp .Mod (.int a t) (.int b u)) ls σ Q := wMod (by omega) fun t => by rw [Int.fmod_eq_emod_of_nonneg _ (by omega)]; exact h t
theorem wDivP (hb : 0 < b) (hp : Builtin.divisionGoesByPylong a b = false) (h : ∀ t, Q (.int (a / b) t) ls σ) : W C A L (binaryOp .FloorDiv (.int a t) (.int b u)) ls σ Q := wDiv (by omega) hp fun t => by rw [Int.fdiv_eq_ediv_of_nonneg _ (by omega)]; exact h t
theorem wShrP (hb : 0 ≤ b) (h : ∀ t, Q (.int (a / 2 ^ b.toNat) t) ls σ) : W C A L (binaryOp .RShift (.int a t) (.int b u)) ls σ Q := wShr hb fun t => by rw [Int.fdiv_eq_ediv_of_nonneg _ (by exact Int.le_of_lt (Int.pow_pos (by decide)))]; exact h t
theorem wAnd7 (h : ∀ t, Q (.int (a % 8) t) ls σ) : W C A L (binaryOp .BitAnd (.int a t) (.int 7 u)) ls σ Q := wAnd fun t => by rw [bitAnd_m3]; exact h t
end
/-- A number's figures. -/
def dig (n : Nat) : List UInt8 := if n < 10 then [(48 + n).toUInt8] else [(48 + n / 10).toUInt8, (48 + n % 10).toUInt8]
end Og
namespace Og
section
variable {C : Cx} {A : Around} {L : Addr} {ls : Loc} {σ : Led} {a : Addr} {vs : List Value} {n : Nat} {pl : Sem Bool} {Q : Value × List Value → Loc → Led → Prop}
theorem wMAppend (hm : (a, lst vs n) ∈ σ) (h : Q (.builtin "list.append", [.ref a]) ls σ) : W C A L (getMethod (.ref a) (Str.ofString "append") pl) ls σ Q := wListMeth PySem.slot_list_append PySem.type_list_append hm h
theorem wMInsert (hm : (a, lst vs n) ∈ σ) (h : Q (.builtin "list.insert", [.ref a]) ls σ) : W C A L (getMethod (.ref a) (Str.ofString "insert") pl) ls σ Q := wListMeth PySem.F.slot_list_insert PySem.F.type_list_insert hm h
theorem wMPop (hm : (a, lst vs n) ∈ σ) (h : Q (.builtin "list.pop", [.ref a]) ls σ) : W C A L (getMethod (.ref a) (Str.ofString "pop") pl) ls σ Q := wListMeth PySem.F.slot_list_pop PySem.F.type_list_pop hm h
theorem wMExtend (hm : (a, lst vs n) ∈ σ) (h : Q (.builtin "list.extend", [.ref a]) ls σ) : W C A L (getMethod (.ref a) (Str.ofString "extend") pl) ls σ Q := wListMeth PySem.F.slot_list_extend PySem.F.type_list_extend hm h
theorem wMJoin {sep : List UInt8} {t : Tok} (h : Q (.builtin "bytes.join", [.bytes sep.toArray t]) ls σ) : W C A L (getMethod (.bytes sep.toArray t) (Str.ofString "join") pl) ls σ Q := wBJoinMeth h
theorem wMBAppend {x : List UInt8} (hm : (a, baObj x) ∈ σ) (h : Q (.builtin "bytearray.append", [.ref a]) ls σ) : W C A L (getMethod (.ref a) (Str.ofString "append") pl) ls σ Q := wBAMeth hm h
theorem wMDPop {o : Obj} {K : Type} [DecidableEq K] {knd : KeyKind C.prog C.w K} {kvs : List (K × Value)} (hm : (a, o) ∈ σ) (hd : o.IsDictOf knd kvs) (h : Q (.builtin "dict.pop", [.ref a]) ls σ) : W C A L (getMethod (.ref a) (Str.ofString "pop") pl) ls σ Q := wDPopMeth hm hd h
end
end Og
namespace Og
section
variable {C : Cx} {A : Around} {L : Addr} {ls : Loc} {σ : Led} {env : Env} {Q : Flow → Loc → Led → Prop}
theorem wAppNil {r : List Stmt} (h : W C A L (execs r env) ls σ Q) : W C A L (execs ([] ++ r) env) ls σ Q := h
theorem wAppCons {s : Stmt} {b r : List Stmt} (h : W C A L (execs (s :: (b ++ r)) env) ls σ Q) : W C A L (execs ((s :: b) ++ r) env) ls σ Q := h
end
end Og
namespace Og
section
variable {C : Cx} {A : Around} {L : Addr} {ls : Loc} {σ : Led} {Q : Value → Loc → Led → Prop} {a sl : Addr} {vs : List Value} {n : Nat} {t : Tok}
theorem wListRev (hm : (a, lst vs n) ∈ σ) (hs : (sl, Og.slc .none .none (.int (-1) t)) ∈ σ) (hz : vs.length ≤ sizeLine) (h : ∀ b, Q (.ref b) ls ((b, lst vs.reverse 0) :: σ)) : W C A L (getItem (.ref a) (.ref sl)) ls σ Q :=
  wListSlice hm hs .none .none (.int _ _) (by decide) hz fun b => by rw [krv_pick]; exact h b
theorem wListTail1 {x : Value} (hm : (a, lst (x :: vs) n) ∈ σ) (hs : (sl, Og.slc (.int 1 t) .none .none) ∈ σ) (hz : vs.length < sizeLine) (h : ∀ b, Q (.ref b) ls ((b, lst vs 0) :: σ)) : W C A L (getItem (.ref a) (.ref sl)) ls σ Q :=
  wListSlice hm hs (.int _ _) .none .none (by decide) (by simp only [List.length_cons]; omega) fun b => by
    rw [kms_pick_eq]
    have e : kms_pick (x :: vs).toArray.toList (some 1) none = vs := by
      unfold kms_pick
      have e1 : kms_lo (some 1) (x :: vs).toArray.toList.length = 1 := by simp [kms_lo]
      have e2 : kms_hi none (x :: vs).toArray.toList.length = vs.length + 1 := by simp [kms_hi]
      rw [e1, e2]; simp
    rw [e]; exact h b
theorem wListTake {k : Nat} (hm : (a, lst vs n) ∈ σ) (hs : (sl, Og.slc .none (.int (k : Int) t) .none) ∈ σ) (hz : vs.length ≤ sizeLine) (h : ∀ b, Q (.ref b) ls ((b, lst (vs.take k) 0) :: σ)) : W C A L (getItem (.ref a) (.ref sl)) ls σ Q :=
  wListSlice hm hs .none (.int _ _) .none (by decide) hz fun b => by
    rw [kms_pick_eq]
    have e : kms_pick vs.toArray.toList none (some (k : Int)) = vs.take k := by
      unfold kms_pick
      have e1 : kms_lo none vs.toArray.toList.length = 0 := by simp [kms_lo]
      have e2 : kms_hi (some (k : Int)) vs.toArray.toList.length = min k vs.length := by simp [kms_hi]; omega
      rw [e1, e2]; simp [List.take_eq_take_iff]
    rw [e]; exact h b
theorem wBytesInts' {ns : List Int} {z : List UInt8} (hm : (a, lst vs n) ∈ σ) (hh : A.handled = none) (hi : IntsAre vs ns) (hr : ∀ n ∈ ns, 0 ≤ n ∧ n < 256) (hz : vs.length ≤ sizeLine) (e : ns.map (fun n => n.toNat.toUInt8) = z) (h : ∀ t, Q (.bytes z.toArray t) ls σ) : W C A L (call (.type "bytes") [.ref a]) ls σ Q :=
  wBytesInts hm hh hi hr hz fun t => by subst e; exact h t
end
end Og
namespace Og
theorem le_line {n : Nat} (h : n ≤ 1048576) : n ≤ sizeLine := by rw [sizeLine_eq]; omega
theorem ends {post : Value → Led → Prop} {rest pr σ : Led} {v : Value} {ls : Loc} (h : post v pr) (p : Part (pr ++ rest) σ) : Ends post rest (.ret v) ls σ := ⟨pr, h, p⟩
end Og
namespace Og
/-- One octet, escaped. -/
def esc1 (c : UInt8) : List UInt8 := if c.toNat < 32 ∨ c.toNat = 92 then [92, (48 + c.toNat / 64).toUInt8, (48 + c.toNat / 8 % 8).toUInt8, (48 + c.toNat % 8).toUInt8] else [c]
def esc (x : List UInt8) : List UInt8 := x.flatMap esc1
theorem esc1_len (c : UInt8) : (esc1 c).length ≤ 4 := by unfold esc1; split <;> simp
theorem esc_len (x : List UInt8) : (esc x).length ≤ 4 * x.length := by
  induction x with
  | nil => simp [esc]
  | cons c r ih =>
    have := esc1_len c
    unfold esc at ih ⊢
    rw [List.flatMap_cons, List.length_append, List.length_cons]; omega
theorem dig_len (n : Nat) : (dig n).length ≤ 2 := by unfold dig; split <;> simp
end Og
namespace Og
/-- The names that are known here are known there. -/
def SubL (a b : Loc) : Prop := ∀ x v, a.lookup x = some v → b.lookup x = some v
theorem SubL.nil {b : Loc} : SubL [] b := fun _ _ h => nomatch h
theorem SubL.cons {x : Str} {v : Value} {a b : Loc} (h : b.lookup x = some v) (t : SubL a b) : SubL ((x, v) :: a) b := fun y u e => by
  rw [List.lookup_cons] at e
  by_cases hx : y = x
  · subst hx; simp only [beq_self_eq_true] at e; cases e; exact h
  · have : (y == x) = false := beq_eq_false_iff_ne.mpr hx
    rw [this] at e; exact t y u e
/-- How many octets fit, by taking one after another. -/
def fitG : List UInt8 → Int → Nat
  | [], _ => 0
  | c :: r, room => if ((esc1 c).length : Int) ≤ room then 1 + fitG r (room - (esc1 c).length) else 0
theorem fitG_le : ∀ (x : List UInt8) (r : Int), fitG x r ≤ x.length
  | [], _ => Nat.le_refl _
  | c :: x, r => by
    unfold fitG
    split
    · have := fitG_le x (r - (esc1 c).length)
      rw [List.length_cons]; omega
    · exact Nat.zero_le _
theorem cut_one {x : List UInt8} {m : Nat} (h : m < x.length) : cutB x (some (m : Int)) (some ((m : Int) + 1)) = [x[m]] := by
  unfold cutB
  have e1 : clipAt x.length (m : Int) = m := by unfold clipAt; omega
  have e2 : clipAt x.length ((m : Int) + 1) = m + 1 := by unfold clipAt; omega
  simp only [Option.elim, e1, e2]
  rw [Nat.add_sub_cancel_left, List.drop_eq_getElem_cons h, List.take_succ_cons, List.take_zero]
theorem esc_one (c : UInt8) : esc [c] = esc1 c := by simp [esc]
theorem esc_snoc (x : List UInt8) (c : UInt8) : esc (x ++ [c]) = esc x ++ esc1 c := by simp [esc]
theorem esc_take (x : List UInt8) {i : Nat} (h : i < x.length) : esc (x.take (i + 1)) = esc (x.take i) ++ esc1 x[i] := by
  rw [List.take_add_one, List.getElem?_eq_getElem h, ← esc_snoc]; rfl
end Og
namespace Og
theorem fitG_cons (c : UInt8) (r : List UInt8) (room : Int) : fitG (c :: r) room = if ((esc1 c).length : Int) ≤ room then 1 + fitG r (room - (esc1 c).length) else 0 := rfl
theorem drop_cons {x : List UInt8} {m : Nat} (h : m < x.length) : ∃ c d, x.drop m = c :: d ∧ x.drop (m + 1) = d ∧ cutB x (some (m : Int)) (some ((m : Int) + 1)) = [c] :=
  ⟨x[m], x.drop (m + 1), List.drop_eq_getElem_cons h, rfl, cut_one h⟩
end Og
namespace Og
theorem wWhileP {C : Cx} {A : Around} {L : Addr} {ls : Loc} {σ : Led} {env : Env} {rest : List Stmt} {Q : Flow → Loc → Led → Prop} {test : Expr} {body : List Stmt} {pos : Pos} (I : Nat → Loc → Led → Prop)
    (turn : ∀ n ls σ, I n ls σ → W C A L (isTrue test env (eval test env)) ls σ fun b ls σ => if b then W C A L (execs body env) ls σ (TurnEnd C A L rest env Q fun ls σ => ∃ m, m < n ∧ ∃ τ, Part τ σ ∧ I m ls τ) else W C A L (execs rest env) ls σ Q)
    {n : Nat} (h : I n ls σ) : W C A L (execs (.While test body [] pos :: rest) env) ls σ Q :=
  wWhile (fun n ls σ => ∃ τ, Part τ σ ∧ I n ls τ) (fun n ls σ ⟨τ, hp, hI⟩ => W.part hp (turn n ls τ hI)) ⟨σ, .refl, h⟩
end Og
namespace Og
theorem wMulS {C : Cx} {A : Around} {L : Addr} {ls : Loc} {σ : Led} {a b : Int} {t u : Tok} {Q : Value → Loc → Led → Prop} (ha : a.natAbs < 1000000) (h : ∀ t, Q (.int (a * b) t) ls σ) : W C A L (binaryOp .Mult (.int a t) (.int b u)) ls σ Q :=
  wMul (.of_left (intBits_le_iff.mpr (Nat.lt_trans ha (by decide)))) h
/-- What the well gives next. -/
def drawV (ns : List Int) (p : Nat) (m : Int) : Int := if h : p < ns.length then ns[p] % m else ((p * p + 3 * p + 5 : Nat) : Int) / 2 % m
end Og
namespace Og
theorem wListSet {C : Cx} {A : Around} {L : Addr} {ls : Loc} {σ σ' : Led} {a : Addr} {vs q : List Value} {n : Nat} {k : Int} {t : Tok} {v : Value} {Q : Unit → Loc → Led → Prop} (sw : Swap a (lst vs n) (lst q n) σ σ') (h0 : 0 ≤ k) (hfit : k < 2 ^ 63) (e : ki_setL vs k.toNat v = some q) (h : Q () ls σ') : W C A L (setItem (.ref a) (.int k t) v) ls σ Q :=
  .leaf fun s R S kk => by
    obtain ⟨m, F, hl⟩ := S.fr
    exact ki_set (its := vs.toArray) F S.news h0 hfit e (S.updOf sw) fun h' F' N' => kk _ _ _ _ (S.again hl F' (tk := s.toks) N' (nodup_swap sw S.nodup)) h
/-- A row of the law. -/
def headB (pane : Nat) (age : Option Nat) : List UInt8 := match age with
  | none => [37, 111, 117, 116, 112, 117, 116, 32, 37] ++ dig pane ++ [32]
  | some a => [37, 101, 120, 116, 101, 110, 100, 101, 100, 45, 111, 117, 116, 112, 117, 116, 32, 37] ++ dig pane ++ [32] ++ dig a ++ [32, 58, 32]
def rowB (pane : Nat) (x : List UInt8) (age : Option Nat) : List UInt8 := headB pane age ++ esc x ++ [10]
theorem headB_len (p : Nat) (a : Option Nat) : (headB p a).length ≤ 30 := by
  have := dig_len p
  cases a with
  | none => simp only [headB, List.length_append, List.length_cons, List.length_nil]; omega
  | some a =>
    have := dig_len a
    simp only [headB, List.length_append, List.length_cons, List.length_nil]; omega
theorem rowB_len (p : Nat) (x : List UInt8) (a : Option Nat) : (rowB p x a).length ≤ 31 + 4 * x.length := by
  have h1 := headB_len p a
  have h2 := esc_len x
  simp only [rowB, List.length_append, List.length_cons, List.length_nil]; omega
/-- An age, as a value. -/
def isAge (v : Value) : Option Nat → Prop
  | none => v = .none
  | some a => ∃ t, v = .int a t
end Og
namespace Og
section
variable {C : Cx} {A : Around} {L : Addr} {ls : Loc} {σ : Led} {env : Env} {Q : Unit → Loc → Led → Prop}
theorem wTarget2 {x y : Str} {p q pos : Pos} {k : Nat} {v : Value}
    (h : W C A L (unpackItems v 2 none) ls σ fun items ls σ => match items with
      | [a, b] => W C A L (storeName env x a) ls σ fun _ ls σ => W C A L (storeName env y b) ls σ Q
      | _ => False) : W C A L (assignAll v ((assignEach [.Tuple [.Name x p, .Name y q] k pos] env).map (·.2))) ls σ Q := by
  refine wTarget' (elts := [.Name x p, .Name y q]) ?_
  refine (show W C A L (unpackItems v 2 none) ls σ _ from h).mono fun items ls σ h => ?_
  match items, h with
  | [a, b], h => exact wOrderTarget (h.mono fun _ _ _ h => wOrderTarget (h.mono fun _ _ _ h => wOrderNil (ts := []) h))
theorem wTarget3 {x y z : Str} {p q r pos : Pos} {k : Nat} {v : Value}
    (h : W C A L (unpackItems v 3 none) ls σ fun items ls σ => match items with
      | [a, b, c] => W C A L (storeName env x a) ls σ fun _ ls σ => W C A L (storeName env y b) ls σ fun _ ls σ => W C A L (storeName env z c) ls σ Q
      | _ => False) : W C A L (assignAll v ((assignEach [.Tuple [.Name x p, .Name y q, .Name z r] k pos] env).map (·.2))) ls σ Q := by
  refine wTarget' (elts := [.Name x p, .Name y q, .Name z r]) ?_
  refine (show W C A L (unpackItems v 3 none) ls σ _ from h).mono fun items ls σ h => ?_
  match items, h with
  | [a, b, c], h => exact wOrderTarget (h.mono fun _ _ _ h => wOrderTarget (h.mono fun _ _ _ h => wOrderTarget (h.mono fun _ _ _ h => wOrderNil (ts := []) h)))
end
end Og
namespace Og
theorem ints_at {vs : List Value} {ns : List Int} (h : IntsAre vs ns) : ∀ {p : Nat} (hp : p < ns.length), ∃ z, vs[p]? = some (.int ns[p] z) := by
  induction h with
  | nil => intro p hp; simp at hp
  | cons n t h ih =>
    intro p hp
    cases p with
    | zero => exact ⟨t, rfl⟩
    | succ p => simpa using ih (by simpa using hp)
theorem drawV_lt {ns : List Int} {p : Nat} {m : Int} (h : p < ns.length) : drawV ns p m = ns[p] % m := by unfold drawV; rw [dif_pos h]
theorem drawV_ge {ns : List Int} {p : Nat} {m : Int} (h : ns.length ≤ p) : drawV ns p m = ((p : Int) * p + 3 * p + 5) / 2 % m := by
  unfold drawV; rw [dif_neg (by omega)]; rfl
theorem drawV_nonneg {ns : List Int} {p : Nat} {m : Int} (h : 0 < m) : 0 ≤ drawV ns p m ∧ drawV ns p m < m := by
  unfold drawV
  split
  · exact ⟨Int.emod_nonneg _ (by omega), Int.emod_lt_of_pos _ h⟩
  · exact ⟨Int.emod_nonneg _ (by omega), Int.emod_lt_of_pos _ h⟩
end Og
end

section
open PySem PySem.W PySem.Calls PyProof.Rows
namespace Og

theorem endsN {post : Value → Led → Prop} {rest pr σ : Led} {ls : Loc} (h : post .none pr) (p : Part (pr ++ rest) σ) : Ends post rest .next ls σ := ⟨pr, h, p⟩
/-! ### the objects of the law -/
/-- A waiting entry. -/
structure WR where
  x : Addr
  dx : Addr
  t1 : Tok
  t2 : Tok
  t3 : Tok
  pane : Nat
  pt : Tok
  oct : List UInt8
  ot : Tok
  time : Nat
  tt : Tok
def waitD (P : Params) (t1 t2 t3 : Tok) (a b c : Value) : Obj := dictOf [fld P (Str.ofString "pane") t1 a, fld P (Str.ofString "octets") t2 b, fld P (Str.ofString "time") t3 c] 3
def WR.dict (P : Params) (r : WR) : Obj := waitD P r.t1 r.t2 r.t3 (.int r.pane r.pt) (.bytes r.oct.toArray r.ot) (.int r.time r.tt)
def wrs (P : Params) : List WR → Led
  | [] => []
  | r :: l => (r.x, instObj 66 r.dx) :: (r.dx, r.dict P) :: wrs P l
theorem wrs_cons (P : Params) (r : WR) (l : List WR) : wrs P (r :: l) = (r.x, instObj 66 r.dx) :: (r.dx, r.dict P) :: wrs P l := rfl
theorem wrs_append (P : Params) (l k : List WR) : wrs P (l ++ k) = wrs P l ++ wrs P k := by
  induction l with
  | nil => rfl
  | cons r l ih => rw [List.cons_append, wrs_cons, wrs_cons, ih]; rfl
def refs (l : List WR) : List Value := l.map fun r => .ref r.x
/-- What a waiting entry says. -/
def WR.says (r : WR) : Nat × List UInt8 × Nat := (r.pane, r.oct, r.time)
def flowD (P : Params) (t1 t2 t3 t4 t5 : Tok) (a b c d e : Value) : Obj :=
  dictOf [fld P (Str.ofString "waiting") t1 a, fld P (Str.ofString "most_age") t2 b, fld P (Str.ofString "is_silent") t3 c, fld P (Str.ofString "paused") t4 d, fld P (Str.ofString "off") t5 e] 5

section
variable {C : Cx} {A : Around} {L : Addr} {ls : Loc} {σ σ' : Led} {env : Env} {Q : Value → Loc → Led → Prop} {x dx : Addr} {t1 t2 t3 t4 t5 : Tok} {a b c d e v : Value} {ex : Bool}
/-! ### reading fields -/
theorem wGW_pane (hK : Kx C) (hx : (x, instObj 66 dx) ∈ σ) (hd : (dx, waitD C.w.params t1 t2 t3 a b c) ∈ σ) (hv : handedIn a = true) (h : Q a ls σ) : W C A L (getAttr (.ref x) (Str.ofString "pane") ex) ls σ Q :=
  wGetOwn (attr := none) hx hd (c66_get_pane hK) (c66_dict hK) (c66_no_pane hK) rfl rfl hv h
theorem wGW_octets (hK : Kx C) (hx : (x, instObj 66 dx) ∈ σ) (hd : (dx, waitD C.w.params t1 t2 t3 a b c) ∈ σ) (hv : handedIn b = true) (h : Q b ls σ) : W C A L (getAttr (.ref x) (Str.ofString "octets") ex) ls σ Q :=
  wGetOwn (attr := none) hx hd (c66_get_octets hK) (c66_dict hK) (c66_no_octets hK) rfl rfl hv h
theorem wGW_time (hK : Kx C) (hx : (x, instObj 66 dx) ∈ σ) (hd : (dx, waitD C.w.params t1 t2 t3 a b c) ∈ σ) (hv : handedIn c = true) (h : Q c ls σ) : W C A L (getAttr (.ref x) (Str.ofString "time") ex) ls σ Q :=
  wGetOwn (attr := none) hx hd (c66_get_time hK) (c66_dict hK) (c66_no_time hK) rfl rfl hv h
theorem wGF_waiting (hK : Kx C) (hx : (x, instObj 134 dx) ∈ σ) (hd : (dx, flowD C.w.params t1 t2 t3 t4 t5 a b c d e) ∈ σ) (hv : handedIn a = true) (h : Q a ls σ) : W C A L (getAttr (.ref x) (Str.ofString "waiting") ex) ls σ Q :=
  wGetOwn (attr := none) hx hd (c134_get_waiting hK) (c134_dict hK) (c134_no_waiting hK) rfl rfl hv h
theorem wGF_age (hK : Kx C) (hx : (x, instObj 134 dx) ∈ σ) (hd : (dx, flowD C.w.params t1 t2 t3 t4 t5 a b c d e) ∈ σ) (hv : handedIn b = true) (h : Q b ls σ) : W C A L (getAttr (.ref x) (Str.ofString "most_age") ex) ls σ Q :=
  wGetOwn (attr := none) hx hd (c134_get_most_age hK) (c134_dict hK) (c134_no_most_age hK) rfl rfl hv h
theorem wGF_silent (hK : Kx C) (hx : (x, instObj 134 dx) ∈ σ) (hd : (dx, flowD C.w.params t1 t2 t3 t4 t5 a b c d e) ∈ σ) (hv : handedIn c = true) (h : Q c ls σ) : W C A L (getAttr (.ref x) (Str.ofString "is_silent") ex) ls σ Q :=
  wGetOwn (attr := none) hx hd (c134_get_is_silent hK) (c134_dict hK) (c134_no_is_silent hK) rfl rfl hv h
theorem wGF_paused (hK : Kx C) (hx : (x, instObj 134 dx) ∈ σ) (hd : (dx, flowD C.w.params t1 t2 t3 t4 t5 a b c d e) ∈ σ) (hv : handedIn d = true) (h : Q d ls σ) : W C A L (getAttr (.ref x) (Str.ofString "paused") ex) ls σ Q :=
  wGetOwn (attr := none) hx hd (c134_get_paused hK) (c134_dict hK) (c134_no_paused hK) rfl rfl hv h
theorem wGF_off (hK : Kx C) (hx : (x, instObj 134 dx) ∈ σ) (hd : (dx, flowD C.w.params t1 t2 t3 t4 t5 a b c d e) ∈ σ) (hv : handedIn e = true) (h : Q e ls σ) : W C A L (getAttr (.ref x) (Str.ofString "off") ex) ls σ Q :=
  wGetOwn (attr := none) hx hd (c134_get_off hK) (c134_dict hK) (c134_no_off hK) rfl rfl hv h
/-! ### methods -/
section
variable {pl : Sem Bool} {Q : Value × List Value → Loc → Led → Prop}
theorem wM_put (hK : Kx C) (hx : (x, instObj 134 dx) ∈ σ) (hd : (dx, flowD C.w.params t1 t2 t3 t4 t5 a b c d e) ∈ σ) (h : Q (.ref 91, [.ref x]) ls σ) : W C A L (getMethod (.ref x) (Str.ofString "put") pl) ls σ Q :=
  wMethInst hx hd (c134_get_put hK) (c134_m_put hK) (f91 hK) rfl h
theorem wM_leave (hK : Kx C) (hx : (x, instObj 134 dx) ∈ σ) (hd : (dx, flowD C.w.params t1 t2 t3 t4 t5 a b c d e) ∈ σ) (h : Q (.ref 96, [.ref x]) ls σ) : W C A L (getMethod (.ref x) (Str.ofString "leave_out") pl) ls σ Q :=
  wMethInst hx hd (c134_get_leave_out hK) (c134_m_leave_out hK) (f96 hK) rfl h
theorem wM_pause (hK : Kx C) (hx : (x, instObj 134 dx) ∈ σ) (hd : (dx, flowD C.w.params t1 t2 t3 t4 t5 a b c d e) ∈ σ) (h : Q (.ref 103, [.ref x]) ls σ) : W C A L (getMethod (.ref x) (Str.ofString "pause") pl) ls σ Q :=
  wMethInst hx hd (c134_get_pause hK) (c134_m_pause hK) (f103 hK) rfl h
theorem wM_go_on (hK : Kx C) (hx : (x, instObj 134 dx) ∈ σ) (hd : (dx, flowD C.w.params t1 t2 t3 t4 t5 a b c d e) ∈ σ) (h : Q (.ref 110, [.ref x]) ls σ) : W C A L (getMethod (.ref x) (Str.ofString "go_on") pl) ls σ Q :=
  wMethInst hx hd (c134_get_go_on hK) (c134_m_go_on hK) (f110 hK) rfl h
theorem wM_row_of (hK : Kx C) (hx : (x, instObj 134 dx) ∈ σ) (hd : (dx, flowD C.w.params t1 t2 t3 t4 t5 a b c d e) ∈ σ) (h : Q (.ref 117, [.ref x]) ls σ) : W C A L (getMethod (.ref x) (Str.ofString "row_of") pl) ls σ Q :=
  wMethInst hx hd (c134_get_row_of hK) (c134_m_row_of hK) (f117 hK) rfl h
theorem wM_cut (hK : Kx C) (hx : (x, instObj 134 dx) ∈ σ) (hd : (dx, flowD C.w.params t1 t2 t3 t4 t5 a b c d e) ∈ σ) (h : Q (.ref 124, [.ref x]) ls σ) : W C A L (getMethod (.ref x) (Str.ofString "cut") pl) ls σ Q :=
  wMethInst hx hd (c134_get_cut hK) (c134_m_cut hK) (f124 hK) rfl h
theorem wM_taken (hK : Kx C) (hx : (x, instObj 134 dx) ∈ σ) (hd : (dx, flowD C.w.params t1 t2 t3 t4 t5 a b c d e) ∈ σ) (h : Q (.ref 131, [.ref x]) ls σ) : W C A L (getMethod (.ref x) (Str.ofString "taken") pl) ls σ Q :=
  wMethInst hx hd (c134_get_taken hK) (c134_m_taken hK) (f131 hK) rfl h
end
/-! ### setting fields -/
section
variable {Q : Unit → Loc → Led → Prop}
theorem wSW_octets (hK : Kx C) (hx : (x, instObj 66 dx) ∈ σ) (sw : Swap dx (waitD C.w.params t1 t2 t3 a b c) (waitD C.w.params t1 t2 t3 a v c) σ σ') (h : Q () ls σ') : W C A L (setAttr (.ref x) (Str.ofString "octets") v) ls σ Q :=
  wSetField (es := [fld C.w.params (Str.ofString "pane") t1 a, fld C.w.params (Str.ofString "octets") t2 b, fld C.w.params (Str.ofString "time") t3 c]) (n := 3) hx (c66_set hK) (c66_over hK) (c66_take_octets hK) (c66_dict hK) rfl (by simp only [List.length_cons, List.length_nil]; decide) fun t => ⟨σ', sw, h⟩
theorem wSF_waiting (hK : Kx C) (hx : (x, instObj 134 dx) ∈ σ) (sw : Swap dx (flowD C.w.params t1 t2 t3 t4 t5 a b c d e) (flowD C.w.params t1 t2 t3 t4 t5 v b c d e) σ σ') (h : Q () ls σ') : W C A L (setAttr (.ref x) (Str.ofString "waiting") v) ls σ Q :=
  wSetField (es := [fld C.w.params (Str.ofString "waiting") t1 a, fld C.w.params (Str.ofString "most_age") t2 b, fld C.w.params (Str.ofString "is_silent") t3 c, fld C.w.params (Str.ofString "paused") t4 d, fld C.w.params (Str.ofString "off") t5 e]) (n := 5) hx (c134_set hK) (c134_over hK) (c134_take_waiting hK) (c134_dict hK) rfl (by simp only [List.length_cons, List.length_nil]; decide) fun t => ⟨σ', sw, h⟩
theorem wSF_age (hK : Kx C) (hx : (x, instObj 134 dx) ∈ σ) (sw : Swap dx (flowD C.w.params t1 t2 t3 t4 t5 a b c d e) (flowD C.w.params t1 t2 t3 t4 t5 a v c d e) σ σ') (h : Q () ls σ') : W C A L (setAttr (.ref x) (Str.ofString "most_age") v) ls σ Q :=
  wSetField (es := [fld C.w.params (Str.ofString "waiting") t1 a, fld C.w.params (Str.ofString "most_age") t2 b, fld C.w.params (Str.ofString "is_silent") t3 c, fld C.w.params (Str.ofString "paused") t4 d, fld C.w.params (Str.ofString "off") t5 e]) (n := 5) hx (c134_set hK) (c134_over hK) (c134_take_most_age hK) (c134_dict hK) rfl (by simp only [List.length_cons, List.length_nil]; decide) fun t => ⟨σ', sw, h⟩
theorem wSF_silent (hK : Kx C) (hx : (x, instObj 134 dx) ∈ σ) (sw : Swap dx (flowD C.w.params t1 t2 t3 t4 t5 a b c d e) (flowD C.w.params t1 t2 t3 t4 t5 a b v d e) σ σ') (h : Q () ls σ') : W C A L (setAttr (.ref x) (Str.ofString "is_silent") v) ls σ Q :=
  wSetField (es := [fld C.w.params (Str.ofString "waiting") t1 a, fld C.w.params (Str.ofString "most_age") t2 b, fld C.w.params (Str.ofString "is_silent") t3 c, fld C.w.params (Str.ofString "paused") t4 d, fld C.w.params (Str.ofString "off") t5 e]) (n := 5) hx (c134_set hK) (c134_over hK) (c134_take_is_silent hK) (c134_dict hK) rfl (by simp only [List.length_cons, List.length_nil]; decide) fun t => ⟨σ', sw, h⟩
/-- A new field is set. -/
theorem wSNew {c : Addr} {es : List DictEntry} {n : Nat} {name : Str} (hx : (x, instObj c dx) ∈ σ)
    (hs : findIn C.K (.ref c) "__setattr__" = some (some (.builtin "object.__setattr__"))) (hp : plainOver C.K c = true) (ht : takerIn C.K c name = some none) (hh : hasDictIn C.K c = true) (hl : (getL name es).isSome = true) (hz : es.length < 1000)
    (hnew : ∀ h k, putL name h k v es = es ++ [⟨h, k, v⟩]) (hn : putN name es n = n + 1)
    (h : ∀ t, ∃ σ', Swap dx (dictOf es n) (dictOf (es ++ [fld C.w.params name t v]) (n + 1)) σ σ' ∧ Q () ls σ') : W C A L (setAttr (.ref x) name v) ls σ Q :=
  wSetField hx hs hp ht hh hl hz fun t => by rw [hnew, hn]; exact h t
end
end
end Og
end

section
open PySem PySem.W PySem.Calls PyProof.Rows
namespace Og
/-- The flow's objects. -/
structure FL where
  x : Addr
  dx : Addr
  t1 : Tok
  t2 : Tok
  t3 : Tok
  t4 : Tok
  t5 : Tok
  wl : Addr
  wn : Nat
  ws : List WR
  agv : Value
  silent : Bool
  pd : Addr
  po : Obj
  paused : List Int
  od : Addr
  oo : Obj
  off : List Int
def FL.led (P : Params) (f : FL) : Led :=
  (f.x, instObj 134 f.dx) :: (f.dx, flowD P f.t1 f.t2 f.t3 f.t4 f.t5 (.ref f.wl) f.agv (.bool f.silent) (.ref f.pd) (.ref f.od)) :: (f.pd, f.po) :: (f.od, f.oo) :: (f.wl, lst (refs f.ws) f.wn) :: wrs P f.ws
structure FL.Ok (C : Cx) (f : FL) : Prop where
  lp : (f.pd == sysModules) = false
  lo : (f.od == sysModules) = false
  dp : f.po.IsDictOf (intKind C.prog C.w) (kvT f.paused)
  dof : f.oo.IsDictOf (intKind C.prog C.w) (kvT f.off)
/-- What the flow says. -/
structure FA where
  ws : List (Nat × List UInt8 × Nat)
  age : Option Nat
  silent : Bool
  paused : List Int
  off : List Int
structure FL.Says (C : Cx) (f : FL) (a : FA) : Prop where
  ok : f.Ok C
  ws : f.ws.map WR.says = a.ws
  age : isAge f.agv a.age
  silent : f.silent = a.silent
  paused : f.paused = a.paused
  off : f.off = a.off
theorem wrs_mem {P : Params} {l : List WR} {r : WR} (h : r ∈ l) : (r.x, instObj 66 r.dx) ∈ wrs P l ∧ (r.dx, r.dict P) ∈ wrs P l := by
  induction l with
  | nil => cases h
  | cons y l ih =>
    rw [wrs_cons]
    rcases List.mem_cons.mp h with rfl | h
    · exact ⟨List.mem_cons_self, List.mem_cons_of_mem _ List.mem_cons_self⟩
    · exact ⟨List.mem_cons_of_mem _ (List.mem_cons_of_mem _ (ih h).1), List.mem_cons_of_mem _ (List.mem_cons_of_mem _ (ih h).2)⟩
theorem wrs_filter (P : Params) (p : WR → Bool) : ∀ l : List WR, Part (wrs P (l.filter p)) (wrs P l)
  | [] => .refl
  | r :: l => by
    by_cases h : p r = true
    · rw [List.filter_cons_of_pos h, wrs_cons, wrs_cons]
      exact .cons .here (.cons .here (wrs_filter P p l))
    · rw [List.filter_cons_of_neg h, wrs_cons]
      exact .drop1 (.drop1 (wrs_filter P p l))
theorem age_handed {v : Value} {a : Option Nat} (h : isAge v a) : handedIn v = true := by
  cases a with
  | none => cases (show v = .none from h); rfl
  | some a => obtain ⟨t, rfl⟩ := (show ∃ t, v = .int a t from h); rfl
section
variable {C : Cx} {A : Around} {L : Addr} {ls : Loc} {σ : Led} {Q : Value → Loc → Led → Prop} {d : Addr} {o : Obj} {ks : List Int} {k : Int} {t : Tok}
theorem wDInT (hm : (d, o) ∈ σ) (hd : o.IsDictOf (intKind C.prog C.w) (kvT ks)) (lo : (d == sysModules) = false) (h : Q (.bool (decide (k ∈ ks))) ls σ) : W C A L (compareOp .In (.int k t) (.ref d)) ls σ Q :=
  wDIn hm hd lo (intKind_is _ _ k t) (by
    rw [kvT_at]
    by_cases hk : k ∈ ks
    · rw [if_pos hk]; simpa [hk] using h
    · rw [if_neg hk]; simpa [hk] using h)
theorem wDNotInT (hm : (d, o) ∈ σ) (hd : o.IsDictOf (intKind C.prog C.w) (kvT ks)) (lo : (d == sysModules) = false) (h : Q (.bool (decide (k ∉ ks))) ls σ) : W C A L (compareOp .NotIn (.int k t) (.ref d)) ls σ Q :=
  wDNotIn hm hd lo (intKind_is _ _ k t) (by
    rw [kvT_at]
    by_cases hk : k ∈ ks
    · rw [if_pos hk]; simpa [hk] using h
    · rw [if_neg hk]; simpa [hk] using h)
theorem wDSetT {Q : Unit → Loc → Led → Prop} (hd : o.IsDictOf (intKind C.prog C.w) (kvT ks)) (hz : ks.length ≤ 1000) (h : ∀ o', ∃ σ', Swap d o o' σ σ' ∧ (o'.IsDictOf (intKind C.prog C.w) (kvT (putK ks k)) → Q () ls σ')) : W C A L (setItem (.ref d) (.int k t) (.bool true)) ls σ Q :=
  wDSet hd (intKind_is _ _ k t) (le_line (by simp [kvT]; omega)) fun o' => by rw [kvT_stored]; exact h o'
theorem wDPopT {more : List Value} (hmore : more = [] ∨ ∃ x, more = [x]) (hd : o.IsDictOf (intKind C.prog C.w) (kvT ks)) (hz : ks.length ≤ 1000) (hk : k ∈ ks)
    (h : ∀ o', ∃ σ', Swap d o o' σ σ' ∧ (o'.IsDictOf (intKind C.prog C.w) (kvT (ks.filter (· ≠ k))) → Q (.bool true) ls σ')) : W C A L (call (.builtin "dict.pop") (.ref d :: .int k t :: more)) ls σ Q :=
  wDPop hmore rfl hd (intKind_is _ _ k t) (le_line (by simp [kvT]; omega)) (by rw [kvT_at, if_pos hk]) fun o' => by rw [kvT_without]; exact h o'
theorem wDPopNoneT {dflt : Value} (hm : (d, o) ∈ σ) (lo : (d == sysModules) = false) (hd : o.IsDictOf (intKind C.prog C.w) (kvT ks)) (hk : k ∉ ks) (h : Q dflt ls σ) : W C A L (call (.builtin "dict.pop") [.ref d, .int k t, dflt]) ls σ Q :=
  wDPopNone hm lo rfl hd (intKind_is _ _ k t) (by rw [kvT_at, if_neg hk]) h
end
end Og
namespace Og
theorem refs_snoc (ws : List WR) (w : WR) : refs (ws ++ [w]) = refs ws ++ [.ref w.x] := by simp [refs]
theorem wrs_snoc (P : Params) (ws : List WR) (w : WR) (rest : Led) : wrs P (ws ++ [w]) ++ rest = wrs P ws ++ ((w.x, instObj 66 w.dx) :: (w.dx, w.dict P) :: rest) := by
  rw [wrs_append, List.append_assoc]; rfl
end Og
namespace Og
theorem refs_append (a b : List WR) : refs (a ++ b) = refs a ++ refs b := by simp [refs]
theorem refs_length (a : List WR) : (refs a).length = a.length := by simp [refs]
theorem refs_get {ws : List WR} {i : Nat} {v : Value} (h : (refs ws)[i]? = some v) : ∃ r, r ∈ ws ∧ ws.take (i + 1) = ws.take i ++ [r] ∧ v = .ref r.x := by
  unfold refs at h
  rw [List.getElem?_map] at h
  cases e : ws[i]? with
  | none => rw [e] at h; cases h
  | some r =>
    rw [e] at h
    exact ⟨r, List.mem_of_getElem? e, by rw [List.take_add_one, e]; rfl, (Option.some.inj h).symm⟩
theorem says_filter (ws : List WR) (p : Nat) : (ws.filter (·.pane ≠ p)).map WR.says = (ws.map WR.says).filter (·.1 ≠ p) := by
  rw [List.filter_map]; rfl
theorem shrink (P : Params) (p : WR → Bool) (ws : List WR) (rest : Led) : Part (wrs P (ws.filter p) ++ rest) (wrs P ws ++ rest) := (wrs_filter P p ws).app .refl
end Og
namespace Og
theorem wMDPopT {C : Cx} {A : Around} {L : Addr} {ls : Loc} {σ : Led} {a : Addr} {o : Obj} {ks : List Int} {pl : Sem Bool} {Q : Value × List Value → Loc → Led → Prop} (hm : (a, o) ∈ σ) (hd : o.IsDictOf (intKind C.prog C.w) (kvT ks)) (h : Q (.builtin "dict.pop", [.ref a]) ls σ) : W C A L (getMethod (.ref a) (Str.ofString "pop") pl) ls σ Q := wDPopMeth hm hd h
end Og
namespace Og
theorem wAssignSwap2 {C : Cx} {A : Around} {L : Addr} {ls : Loc} {σ : Led} {env : Env} {rest : List Stmt} {Q : Flow → Loc → Led → Prop} {x y : Str} {p q pos pos' : Pos} {k : Nat} {value : Expr} (hs : swapsWithSole [.Tuple [.Name x p, .Name y q] k pos'] value pos.line env = pure false) (hw : swappedStores [.Tuple [.Name x p, .Name y q] k pos'] value env = pure (some [x, y]))
    (h : W C A L (eval value env) ls σ fun v ls σ => W C A L (unpackItems v 2 none) ls σ fun items ls σ => match items with
      | [a, b] => W C A L (storeName env y b) ls σ fun _ ls σ => W C A L (storeName env x a) ls σ fun _ ls σ => W C A L (execs rest env) ls σ Q
      | _ => False) : W C A L (execs (.Assign [.Tuple [.Name x p, .Name y q] k pos'] value pos :: rest) env) ls σ Q := by
  refine wAssignSwap hs hw (h.mono fun v ls σ h => ?_)
  refine (show W C A L (unpackItems v 2 none) ls σ _ from h).mono fun items ls σ h => ?_
  match items, h with
  | [a, b], h => exact wOrderName (h.mono fun _ _ _ h => wOrderName (h.mono fun _ _ _ h => wOrderNil (ts := []) h))
end Og
namespace Og
theorem joined2 (a b : List UInt8) : Builtin.Bytes.joined [32].toArray [a.toArray, b.toArray] = (a ++ 32 :: b).toArray := by simp [Builtin.Bytes.joined, List.zipIdx]
theorem joined3 (a b c : List UInt8) : Builtin.Bytes.joined [32].toArray [a.toArray, b.toArray, c.toArray] = (a ++ 32 :: (b ++ 32 :: c)).toArray := by simp [Builtin.Bytes.joined, List.zipIdx]
theorem joined5 (a b c d e : List UInt8) : Builtin.Bytes.joined [32].toArray [a.toArray, b.toArray, c.toArray, d.toArray, e.toArray] = (a ++ 32 :: (b ++ 32 :: (c ++ 32 :: (d ++ 32 :: e)))).toArray := by simp [Builtin.Bytes.joined, List.zipIdx]
end Og
namespace Og
theorem cut_from {x : List UInt8} {m : Nat} (h : m ≤ x.length) : cutB x (some (m : Int)) none = x.drop m := by
  unfold cutB
  have e1 : clipAt x.length (m : Int) = m := by unfold clipAt; omega
  simp only [Option.elim, e1]
  rw [List.take_of_length_le (by rw [List.length_drop]; exact Nat.le_refl _)]
theorem cut_to {x : List UInt8} {m : Nat} (h : m ≤ x.length) : cutB x none (some (m : Int)) = x.take m := by
  unfold cutB
  have e1 : clipAt x.length (m : Int) = m := by unfold clipAt; omega
  simp only [Option.elim, e1, List.drop_zero, Nat.sub_zero]
/-- How many octets of the first entry fit into the room. -/
def manyA (p : Nat) (o : List UInt8) (age : Option Nat) (room : Int) : Nat := fitG o (room - (rowB p [] age).length)
end Og
namespace Og
theorem Part.of_perm {τ σ : Led} (h : σ.Perm τ) : Part τ σ := ⟨[], h⟩
theorem wrs_split (P : Params) (p : WR → Bool) : ∀ l : List WR, (wrs P l).Perm (wrs P (l.filter p) ++ wrs P (l.filter fun r => !p r))
  | [] => .refl _
  | r :: l => by
    have ih := wrs_split P p l
    by_cases h : p r = true
    · rw [List.filter_cons_of_pos h, List.filter_cons_of_neg (by simp [h]), wrs_cons, wrs_cons]
      exact (ih.cons _).cons _
    · rw [List.filter_cons_of_neg h, List.filter_cons_of_pos (by simp [h]), wrs_cons, wrs_cons]
      exact ((ih.cons _).cons _).trans ((List.perm_middle.symm.cons _).trans List.perm_middle.symm)
theorem split2 (P : Params) (p : WR → Bool) (ws : List WR) (rest : Led) : Part (wrs P (ws.filter p) ++ (wrs P (ws.filter fun r => !p r) ++ rest)) (wrs P ws ++ rest) :=
  .of_perm (by rw [← List.append_assoc]; exact (wrs_split P p ws).append_right rest)
end Og
end

section
open PySem PySem.W PySem.Calls PyProof.Rows
namespace Og
abbrev Ent := Nat × List UInt8 × Nat
/-- The row that says that a pane is paused. -/
def pauseB (p : Nat) : List UInt8 := [37, 112, 97, 117, 115, 101, 32, 37] ++ dig p ++ [10]
def late (age : Option Nat) (now t : Nat) : Bool := match age with
  | none => false
  | some g => decide ((g : Int) < (now : Int) - (t : Int))
/-- What is taken: the entries left, the paused panes, the octets. -/
def takeA (age : Option Nat) (now : Nat) (room : Option Int) : Nat → List Ent → List Int → List UInt8 → List Ent × List Int × List UInt8
  | 0, ws, p, f => (ws, p, f)
  | _ + 1, [], p, f => ([], p, f)
  | n + 1, (pane, o, t) :: r, p, f =>
    if late age now t = true then takeA age now room n (((pane, o, t) :: r).filter (·.1 ≠ pane)) (putK p pane) (f ++ pauseB pane)
    else match room with
      | none => takeA age now room n r p (f ++ rowB pane o (age.map fun _ => now - t))
      | some m =>
        if manyA pane o (age.map fun _ => now - t) (m - f.length) = 0 then ((pane, o, t) :: r, p, f)
        else takeA age now room n (if manyA pane o (age.map fun _ => now - t) (m - f.length) < o.length then (pane, o.drop (manyA pane o (age.map fun _ => now - t) (m - f.length)), t) :: r else r) p
          (f ++ rowB pane (o.take (manyA pane o (age.map fun _ => now - t) (m - f.length))) (age.map fun _ => now - t))
theorem takeA_nil {age : Option Nat} {now : Nat} {room : Option Int} (n : Nat) (p : List Int) (f : List UInt8) : takeA age now room n [] p f = ([], p, f) := by cases n <;> rfl
/-- The measure of the entries. -/
def meas (ws : List Ent) : Nat := (ws.map fun e => e.2.1.length + 1).sum
theorem meas_cons (e : Ent) (r : List Ent) : meas (e :: r) = e.2.1.length + 1 + meas r := by simp [meas]
theorem meas_filter (p : Ent → Bool) : ∀ ws : List Ent, meas (ws.filter p) ≤ meas ws
  | [] => Nat.le_refl _
  | e :: r => by
    have ih := meas_filter p r
    by_cases h : p e = true
    · rw [List.filter_cons_of_pos h, meas_cons, meas_cons]; omega
    · rw [List.filter_cons_of_neg h, meas_cons]; omega
theorem meas_late {pane : Nat} {o : List UInt8} {t : Nat} {r : List Ent} : meas (((pane, o, t) :: r).filter (·.1 ≠ pane)) < meas ((pane, o, t) :: r) := by
  rw [List.filter_cons_of_neg (by simp), meas_cons]
  have := meas_filter (fun e => decide (e.1 ≠ pane)) r
  omega
/-- What holds of the waiting entries and the paused panes. -/
structure Fine (ws : List Ent) (p : List Int) : Prop where
  ent : ∀ e ∈ ws, e.1 < 100 ∧ e.2.1.length ≤ 200 ∧ (e.1 : Int) ∉ p
theorem putK_mem {p : List Int} {k x : Int} : x ∈ putK p k ↔ x ∈ p ∨ x = k := by
  unfold putK
  split
  · constructor
    · exact .inl
    · rintro (h | rfl)
      · exact h
      · assumption
  · simp
theorem putK_len (p : List Int) (k : Int) : (putK p k).length ≤ p.length + 1 := by unfold putK; split <;> simp
theorem Fine.late {pane : Nat} {o : List UInt8} {t : Nat} {r : List Ent} {p : List Int} (h : Fine ((pane, o, t) :: r) p) : Fine (((pane, o, t) :: r).filter (·.1 ≠ pane)) (putK p pane) := ⟨fun e he => by
  rw [List.mem_filter] at he
  obtain ⟨h1, h2, h3⟩ := h.ent e he.1
  refine ⟨h1, h2, fun hm => ?_⟩
  rcases putK_mem.mp hm with hm | hm
  · exact h3 hm
  · have : e.1 ≠ pane := by simpa using he.2
    omega⟩
theorem Fine.tail {e : Ent} {r : List Ent} {p : List Int} (h : Fine (e :: r) p) : Fine r p := ⟨fun x hx => h.ent x (.tail _ hx)⟩
theorem Fine.cut {pane : Nat} {o o' : List UInt8} {t : Nat} {r : List Ent} {p : List Int} (h : Fine ((pane, o, t) :: r) p) (ho : o'.length ≤ o.length) : Fine ((pane, o', t) :: r) p := ⟨fun x hx => by
  rcases List.mem_cons.mp hx with rfl | hx
  · obtain ⟨h1, h2, h3⟩ := h.ent _ (.head _)
    exact ⟨h1, Nat.le_trans ho h2, h3⟩
  · exact h.ent x (.tail _ hx)⟩
theorem meas_len (ws : List Ent) : ws.length ≤ meas ws := by
  induction ws with
  | nil => exact Nat.le_refl _
  | cons e r ih => rw [meas_cons, List.length_cons]; omega
end Og
namespace Og
section
variable {C : Cx} {A : Around} {L : Addr} {ls : Loc} {σ : Led} {Q : Value → Loc → Led → Prop} {a b : Addr} {vs us : List Value} {n m : Nat}
theorem rcne {C : Cx} {y x : Value} {k : Bool} {s : Shared} (h : SeqAt.RcNeAt A s y x k) {R : Value → Shared → Prop} (hr : R (.bool k) s) : wpAny (model C.prog C.w) A (compareOp .NotEq y x) R (fun _ _ => False) s := h _ _ _ _ hr
/-- A list against the empty one. -/
theorem wNeNil (ha : (a, lst vs n) ∈ σ) (hb : (b, lst [] m) ∈ σ) (hu : A.units < cLine) (h : Q (.bool (!vs.isEmpty)) ls σ) : W C A L (compareOp .NotEq (.ref a) (.ref b)) ls σ Q :=
  .leaf fun s R S k => by
    cases vs with
    | nil => exact rcne (SeqAt.RcNeAt.lists (e := fun _ => true) (S.list ha) (S.list hb) rfl hu (fun j h1 _ => by simp at h1)) (k _ _ _ _ S h)
    | cons x r => exact rcne (SeqAt.RcNeAt.lists_lengths (S.list ha) (S.list hb) (by simp) hu) (k _ _ _ _ S h)
theorem wEqNil (ha : (a, lst vs n) ∈ σ) (hb : (b, lst [] m) ∈ σ) (hu : A.units < cLine) (h : Q (.bool vs.isEmpty) ls σ) : W C A L (compareOp .Eq (.ref a) (.ref b)) ls σ Q :=
  .leaf fun s R S k => by
    cases vs with
    | nil => exact SeqAt.eq_listAt (e := fun _ => true) (S.list ha) (S.list hb) rfl hu (fun j h1 _ => by simp at h1) (k _ _ _ _ S h)
    | cons x r => exact SeqAt.eq_list_lengthsAt (S.list ha) (S.list hb) (by simp) hu (k _ _ _ _ S h)
end
end Og
namespace Og
def isRoom (v : Value) : Option Int → Prop
  | none => v = .none
  | some m => ∃ t, v = .int m t
theorem late_none {now t : Nat} : late none now t = false := rfl
theorem late_some {g now t : Nat} : late (some g) now t = decide ((g : Int) < (now : Int) - (t : Int)) := rfl
end Og
end

section
open PySem PySem.W PySem.Calls PyProof.Rows
namespace Og
/-! ### the law's own list -/
structure TR where
  x : Addr
  pane : Nat
  pt : Tok
  oct : List UInt8
  ot : Tok
  time : Nat
  tt : Tok
def TR.obj (r : TR) : Obj := Og.tup [.int r.pane r.pt, .bytes r.oct.toArray r.ot, .int r.time r.tt]
def TR.says (r : TR) : Ent := (r.pane, r.oct, r.time)
def trs : List TR → Led
  | [] => []
  | r :: l => (r.x, r.obj) :: trs l
theorem trs_cons (r : TR) (l : List TR) : trs (r :: l) = (r.x, r.obj) :: trs l := rfl
theorem trs_append (l k : List TR) : trs (l ++ k) = trs l ++ trs k := by
  induction l with
  | nil => rfl
  | cons r l ih => rw [List.cons_append, trs_cons, trs_cons, ih]; rfl
def trefs (l : List TR) : List Value := l.map fun r => .ref r.x
theorem trefs_append (a b : List TR) : trefs (a ++ b) = trefs a ++ trefs b := by simp [trefs]
theorem trefs_length (a : List TR) : (trefs a).length = a.length := by simp [trefs]
theorem trs_mem {l : List TR} {r : TR} (h : r ∈ l) : (r.x, r.obj) ∈ trs l := by
  induction l with
  | nil => cases h
  | cons y l ih =>
    rw [trs_cons]
    rcases List.mem_cons.mp h with rfl | h
    · exact List.mem_cons_self
    · exact List.mem_cons_of_mem _ (ih h)
theorem trefs_get {ws : List TR} {i : Nat} {v : Value} (h : (trefs ws)[i]? = some v) : ∃ r, r ∈ ws ∧ ws.take (i + 1) = ws.take i ++ [r] ∧ v = .ref r.x := by
  unfold trefs at h
  rw [List.getElem?_map] at h
  cases e : ws[i]? with
  | none => rw [e] at h; cases h
  | some r =>
    rw [e] at h
    exact ⟨r, List.mem_of_getElem? e, by rw [List.take_add_one, e]; rfl, (Option.some.inj h).symm⟩
theorem tsays_filter (ws : List TR) (p : Nat) : (ws.filter (·.pane ≠ p)).map TR.says = (ws.map TR.says).filter (·.1 ≠ p) := by
  rw [List.filter_map]; rfl
theorem trs_filter (p : TR → Bool) : ∀ l : List TR, Part (trs (l.filter p)) (trs l)
  | [] => .refl
  | r :: l => by
    by_cases h : p r = true
    · rw [List.filter_cons_of_pos h, trs_cons, trs_cons]
      exact .cons .here (trs_filter p l)
    · rw [List.filter_cons_of_neg h, trs_cons]
      exact .drop1 (trs_filter p l)
theorem tshrink (p : TR → Bool) (ws : List TR) (rest : Led) : Part (trs (ws.filter p) ++ rest) (trs ws ++ rest) := (trs_filter p ws).app .refl
theorem trs_snoc (ws : List TR) (w : TR) (rest : Led) : trs (ws ++ [w]) ++ rest = trs ws ++ ((w.x, w.obj) :: rest) := by
  rw [trs_append, List.append_assoc]; rfl
theorem trefs_snoc (ws : List TR) (w : TR) : trefs (ws ++ [w]) = trefs ws ++ [.ref w.x] := by simp [trefs]
/-- What the book holds. -/
def bkv (a b c d e : Value) : List (Str × Value) := [(Str.ofString "wait", a), (Str.ofString "paused", b), (Str.ofString "off", c), (Str.ofString "silent", d), (Str.ofString "age", e)]
structure BL where
  x : Addr
  o : Obj
  wl : Addr
  wn : Nat
  ws : List TR
  agv : Value
  silent : Bool
  pd : Addr
  po : Obj
  paused : List Int
  od : Addr
  oo : Obj
  off : List Int
def BL.led (f : BL) : Led := (f.x, f.o) :: (f.pd, f.po) :: (f.od, f.oo) :: (f.wl, lst (trefs f.ws) f.wn) :: trs f.ws
abbrev BkD (C : Cx) (o : Obj) (a b c d e : Value) : Prop := o.IsDictOf (strKind C.prog C.w) (bkv a b c d e)
structure BL.Ok (C : Cx) (f : BL) : Prop where
  lp : (f.pd == sysModules) = false
  lo : (f.od == sysModules) = false
  dx : BkD C f.o (.ref f.wl) (.ref f.pd) (.ref f.od) (.bool f.silent) f.agv
  dp : f.po.IsDictOf (intKind C.prog C.w) (kvT f.paused)
  dof : f.oo.IsDictOf (intKind C.prog C.w) (kvT f.off)
structure BL.Says (C : Cx) (f : BL) (a : FA) : Prop where
  ok : f.Ok C
  ws : f.ws.map TR.says = a.ws
  age : isAge f.agv a.age
  silent : f.silent = a.silent
  paused : f.paused = a.paused
  off : f.off = a.off
section
variable {C : Cx} {A : Around} {L : Addr} {ls : Loc} {σ : Led} {x : Addr} {o : Obj} {a b c d e v : Value} {t : Tok}
section
variable {Q : Value → Loc → Led → Prop}
theorem wBG_wait (hm : (x, o) ∈ σ) (hd : BkD C o a b c d e) (h : Q a ls σ) : W C A L (getItem (.ref x) (.str (Str.ofString "wait") t)) ls σ Q := wDGet hm hd (strKind_is _ _ _ t) (by kernel_rfl) h
theorem wBG_paused (hm : (x, o) ∈ σ) (hd : BkD C o a b c d e) (h : Q b ls σ) : W C A L (getItem (.ref x) (.str (Str.ofString "paused") t)) ls σ Q := wDGet hm hd (strKind_is _ _ _ t) (by kernel_rfl) h
theorem wBG_off (hm : (x, o) ∈ σ) (hd : BkD C o a b c d e) (h : Q c ls σ) : W C A L (getItem (.ref x) (.str (Str.ofString "off") t)) ls σ Q := wDGet hm hd (strKind_is _ _ _ t) (by kernel_rfl) h
theorem wBG_silent (hm : (x, o) ∈ σ) (hd : BkD C o a b c d e) (h : Q d ls σ) : W C A L (getItem (.ref x) (.str (Str.ofString "silent") t)) ls σ Q := wDGet hm hd (strKind_is _ _ _ t) (by kernel_rfl) h
theorem wBG_age (hm : (x, o) ∈ σ) (hd : BkD C o a b c d e) (h : Q e ls σ) : W C A L (getItem (.ref x) (.str (Str.ofString "age") t)) ls σ Q := wDGet hm hd (strKind_is _ _ _ t) (by kernel_rfl) h
theorem wTailBk {value slice : Expr} {i : Value} {ops : List Value} (hm : (x, o) ∈ σ) (hd : BkD C o a b c d e) (hs : subscripted slice false (.ref x) i = PySem.operate ops (getItem (.ref x) i)) (h : W C A L (getItem (.ref x) i) ls σ Q) : W C A L (subscriptTail value slice (.ref x) i) ls σ Q := wTailDict hm hd hs h
end
section
variable {Q : Unit → Loc → Led → Prop}
theorem bkv_len : (bkv a b c d e).length ≤ sizeLine := le_line (by simp [bkv])
theorem wBS_wait (hd : BkD C o a b c d e) (h : ∀ o', ∃ σ', Swap x o o' σ σ' ∧ (BkD C o' v b c d e → Q () ls σ')) : W C A L (setItem (.ref x) (.str (Str.ofString "wait") t) v) ls σ Q :=
  wDSet hd (strKind_is _ _ _ t) bkv_len fun o' => by
    rw [show stored (bkv a b c d e) (Str.ofString "wait") v = bkv v b c d e from by kernel_rfl]
    exact h o'
theorem wBS_silent (hd : BkD C o a b c d e) (h : ∀ o', ∃ σ', Swap x o o' σ σ' ∧ (BkD C o' a b c v e → Q () ls σ')) : W C A L (setItem (.ref x) (.str (Str.ofString "silent") t) v) ls σ Q :=
  wDSet hd (strKind_is _ _ _ t) bkv_len fun o' => by
    rw [show stored (bkv a b c d e) (Str.ofString "silent") v = bkv a b c v e from by kernel_rfl]
    exact h o'
theorem wBS_age (hd : BkD C o a b c d e) (h : ∀ o', ∃ σ', Swap x o o' σ σ' ∧ (BkD C o' a b c d v → Q () ls σ')) : W C A L (setItem (.ref x) (.str (Str.ofString "age") t) v) ls σ Q :=
  wDSet hd (strKind_is _ _ _ t) bkv_len fun o' => by
    rw [show stored (bkv a b c d e) (Str.ofString "age") v = bkv a b c d v from by kernel_rfl]
    exact h o'
end
end
/-! ### the longest start that fits -/
def bestA (p : Nat) (o : List UInt8) (age : Option Nat) (room : Option Int) : Nat → Nat
  | 0 => 0
  | i + 1 => match room with
    | none => i + 1
    | some m => if ((rowB p (o.take (i + 1)) age).length : Int) ≤ m then i + 1 else bestA p o age room i
theorem fit_iff : ∀ (x : List UInt8) (r : Int) (k : Nat), k + 1 ≤ x.length → (k + 1 ≤ fitG x r ↔ ((esc (x.take (k + 1))).length : Int) ≤ r)
  | [], _, _, h => by simp at h
  | c :: x, r, k, h => by
    rw [fitG_cons, List.take_succ_cons]
    have e : esc (c :: x.take k) = esc1 c ++ esc (x.take k) := by simp [esc]
    rw [e, List.length_append]
    cases k with
    | zero =>
      simp only [List.take_zero]
      have e0 : (esc []).length = 0 := rfl
      rw [e0]
      split
      · constructor <;> intro _ <;> omega
      · constructor <;> intro _ <;> omega
    | succ k =>
      have ih := fit_iff x (r - (esc1 c).length) k (by rw [List.length_cons] at h; omega)
      split
      · rename_i h1
        constructor
        · intro h2
          have := ih.mp (by omega)
          omega
        · intro h2
          have := ih.mpr (by omega)
          omega
      · rename_i h1
        constructor
        · intro h2; omega
        · intro h2; omega
theorem rowB_split (p : Nat) (x : List UInt8) (a : Option Nat) : (rowB p x a).length = (rowB p [] a).length + (esc x).length := by
  have e0 : (esc []).length = 0 := rfl
  simp only [rowB, List.length_append, e0]; omega
theorem bestA_some (p : Nat) (o : List UInt8) (age : Option Nat) (m : Int) : ∀ i, i ≤ o.length → bestA p o age (some m) i = min i (manyA p o age m)
  | 0, _ => by simp [bestA]
  | i + 1, h => by
    have ih := bestA_some p o age m i (by omega)
    have hf := fit_iff o (m - (rowB p [] age).length) i h
    have hs := rowB_split p (o.take (i + 1)) age
    unfold bestA
    unfold manyA at ih ⊢
    dsimp only
    split
    · rename_i h1
      have := hf.mpr (by omega)
      omega
    · rename_i h1
      rw [ih]
      have : ¬ (i + 1 ≤ fitG o (m - (rowB p [] age).length)) := fun h2 => h1 (by have := hf.mp h2; omega)
      omega
theorem bestA_none (p : Nat) (o : List UInt8) (age : Option Nat) : ∀ i, bestA p o age none i = i
  | 0 => rfl
  | i + 1 => rfl
theorem bestA_all (p : Nat) (o : List UInt8) (age : Option Nat) (m : Int) : bestA p o age (some m) o.length = manyA p o age m := by
  rw [bestA_some p o age m _ (Nat.le_refl _)]
  have : manyA p o age m ≤ o.length := fitG_le _ _
  omega
end Og
namespace Og
theorem wIteVal {C : Cx} {A : Around} {L : Addr} {ls : Loc} {σ : Led} {t1 t2 : Sem Value} {c : Bool} {R : Value → Prop} {Q : Value → Loc → Led → Prop} (h1 : c = true → W C A L t1 ls σ fun v ls' σ' => R v ∧ ls' = ls ∧ σ' = σ) (h2 : c = false → W C A L t2 ls σ fun v ls' σ' => R v ∧ ls' = ls ∧ σ' = σ) (h : ∀ v, R v → Q v ls σ) :
    if c = true then W C A L t1 ls σ Q else W C A L t2 ls σ Q := by
  cases c
  · rw [if_neg (by decide)]
    exact (h2 rfl).mono fun v ls' σ' ⟨hr, e1, e2⟩ => by subst e1 e2; exact h v hr
  · rw [if_pos rfl]
    exact (h1 rfl).mono fun v ls' σ' ⟨hr, e1, e2⟩ => by subst e1 e2; exact h v hr
end Og
namespace Og
def Full (ws : List Ent) : Prop := ∀ e ∈ ws, e.2.1 ≠ []
/-- The law's own reckoning of one turn. -/
theorem takeA_late {age : Option Nat} {now : Nat} {room : Option Int} {n pane t : Nat} {o : List UInt8} {r : List Ent} {p : List Int} {f : List UInt8} (hl : late age now t = true) :
    takeA age now room (n + 1) ((pane, o, t) :: r) p f = takeA age now room n (((pane, o, t) :: r).filter (·.1 ≠ pane)) (putK p pane) (f ++ pauseB pane) := by
  conv => lhs; unfold takeA
  rw [if_pos hl]
theorem takeA_step {age : Option Nat} {now : Nat} {room : Option Int} {n pane t : Nat} {o : List UInt8} {r : List Ent} {p : List Int} {f : List UInt8} (hl : late age now t = false) (ho : o ≠ []) :
    takeA age now room (n + 1) ((pane, o, t) :: r) p f =
      if bestA pane o (age.map fun _ => now - t) (room.map (· - (f.length : Int))) o.length = 0 then ((pane, o, t) :: r, p, f)
      else takeA age now room n (if bestA pane o (age.map fun _ => now - t) (room.map (· - (f.length : Int))) o.length < o.length then (pane, o.drop (bestA pane o (age.map fun _ => now - t) (room.map (· - (f.length : Int))) o.length), t) :: r else r) p
        (f ++ rowB pane (o.take (bestA pane o (age.map fun _ => now - t) (room.map (· - (f.length : Int))) o.length)) (age.map fun _ => now - t)) := by
  conv => lhs; unfold takeA
  rw [if_neg (by rw [hl]; decide)]
  have h0 : o.length ≠ 0 := fun h => ho (List.length_eq_zero_iff.mp h)
  cases room with
  | none =>
    have e : bestA pane o (age.map fun _ => now - t) ((none : Option Int).map (· - (f.length : Int))) o.length = o.length := bestA_none _ _ _ _
    generalize bestA pane o (age.map fun _ => now - t) ((none : Option Int).map (· - (f.length : Int))) o.length = F at e ⊢
    subst e
    rw [if_neg h0, if_neg (Nat.lt_irrefl _), List.take_length]
  | some m =>
    have e : bestA pane o (age.map fun _ => now - t) ((some m).map (· - (f.length : Int))) o.length = manyA pane o (age.map fun _ => now - t) (m - f.length) := bestA_all _ _ _ _
    generalize bestA pane o (age.map fun _ => now - t) ((some m).map (· - (f.length : Int))) o.length = F at e ⊢
    subst e
    rfl
structure Good (ws : List Ent) (p : List Int) : Prop where
  fine : Fine ws p
  full : Full ws
theorem Good.late {pane : Nat} {o : List UInt8} {t : Nat} {r : List Ent} {p : List Int} (h : Good ((pane, o, t) :: r) p) : Good (((pane, o, t) :: r).filter (·.1 ≠ pane)) (putK p pane) :=
  ⟨h.fine.late, fun e he => h.full e (List.mem_filter.mp he).1⟩
theorem Good.tail {e : Ent} {r : List Ent} {p : List Int} (h : Good (e :: r) p) : Good r p := ⟨h.fine.tail, fun x hx => h.full x (.tail _ hx)⟩
theorem Good.rest {pane : Nat} {o : List UInt8} {t F : Nat} {r : List Ent} {p : List Int} (h : Good ((pane, o, t) :: r) p) : Good (if F < o.length then (pane, o.drop F, t) :: r else r) p := by
  split
  · rename_i hF
    refine ⟨h.fine.cut (by rw [List.length_drop]; omega), fun x hx => ?_⟩
    rcases List.mem_cons.mp hx with rfl | hx
    · intro e
      have := congrArg List.length e
      rw [List.length_drop, List.length_nil] at this; omega
    · exact h.full x (.tail _ hx)
  · exact h.tail
theorem meas_rest {pane : Nat} {o : List UInt8} {t F : Nat} {r : List Ent} (hF : 0 < F) : meas (if F < o.length then (pane, o.drop F, t) :: r else r) < meas ((pane, o, t) :: r) := by
  rw [meas_cons]
  split
  · rw [meas_cons]
    dsimp only
    rw [List.length_drop]; omega
  · dsimp only; omega
/-- What holds of the entries and the panes is kept by the taking; with the entries' times within now, and the panes within some. -/
theorem takeA_keeps {age : Option Nat} {now : Nat} {room : Option Int} {T : Nat} {S : Int → Prop} : ∀ (n : Nat) (ws : List Ent) (p : List Int) (f : List UInt8), Good ws p → (∀ e ∈ ws, e.2.2 ≤ T ∧ S e.1) → (∀ x ∈ p, S x) → p.Nodup → meas ws ≤ n →
    Good (takeA age now room n ws p f).1 (takeA age now room n ws p f).2.1 ∧ (∀ e ∈ (takeA age now room n ws p f).1, e.2.2 ≤ T ∧ S e.1) ∧ (∀ x ∈ (takeA age now room n ws p f).2.1, S x) ∧ (takeA age now room n ws p f).2.1.Nodup ∧ meas (takeA age now room n ws p f).1 ≤ meas ws ∧ (room = none → (takeA age now room n ws p f).1 = [])
  | 0, ws, p, f, hg, ht, hp, hn, hm => by
    refine ⟨hg, ht, hp, hn, Nat.le_refl _, fun _ => ?_⟩
    cases ws with
    | nil => rfl
    | cons e r => rw [meas_cons] at hm; omega
  | n + 1, [], p, f, hg, ht, hp, hn, hm => ⟨hg, ht, hp, hn, Nat.le_refl _, fun _ => rfl⟩
  | n + 1, (pane, o, t) :: r, p, f, hg, ht, hp, hn, hm => by
    have hS : S (pane : Int) := (ht _ (.head _)).2
    cases hl : late age now t with
    | true =>
      rw [takeA_late hl]
      have hml := meas_late (pane := pane) (o := o) (t := t) (r := r)
      obtain ⟨h1, h2, h3, h4, h5, h6⟩ := takeA_keeps (age := age) (now := now) (room := room) (T := T) (S := S) n (((pane, o, t) :: r).filter (·.1 ≠ pane)) (putK p pane) (f ++ pauseB pane) hg.late (fun e he => ht e (List.mem_filter.mp he).1)
        (fun x hx => by
          rcases putK_mem.mp hx with hx | rfl
          · exact hp x hx
          · exact hS)
        (by
          unfold putK
          split
          · exact hn
          · rename_i hk
            refine List.nodup_append.mpr ⟨hn, by simp, fun a ha b hb => ?_⟩
            rw [List.mem_singleton] at hb
            subst hb
            rintro rfl
            exact hk ha)
        (by omega)
      exact ⟨h1, h2, h3, h4, by omega, h6⟩
    | false =>
      have ho : o ≠ [] := hg.full _ (.head _)
      rw [takeA_step hl ho]
      split
      · rename_i h0
        refine ⟨hg, ht, hp, hn, Nat.le_refl _, fun hr => ?_⟩
        subst hr
        dsimp only [Option.map_none] at h0
        rw [bestA_none] at h0
        exact absurd (List.length_eq_zero_iff.mp h0) (hg.full _ (.head _))
      · rename_i h0
        generalize hF : bestA pane o (age.map fun _ => now - t) (room.map (· - (f.length : Int))) o.length = F at h0 ⊢
        have hmr := meas_rest (pane := pane) (o := o) (t := t) (r := r) (F := F) (by omega)
        obtain ⟨h1, h2, h3, h4, h5, h6⟩ := takeA_keeps (age := age) (now := now) (room := room) (T := T) (S := S) n (if F < o.length then (pane, o.drop F, t) :: r else r) p (f ++ rowB pane (o.take F) (age.map fun _ => now - t)) hg.rest (fun e he => by
            split at he
            · rcases List.mem_cons.mp he with rfl | he
              · exact ht (pane, o, t) (.head _)
              · exact ht _ (.tail _ he)
            · exact ht _ (.tail _ he)) hp hn (by omega)
        exact ⟨h1, h2, h3, h4, by omega, h6⟩
end Og
namespace Og
theorem wIteAnd {C : Cx} {A : Around} {L : Addr} {ls : Loc} {σ : Led} {t : Sem Bool} {c : Bool} (b : Bool) {Q : Bool → Loc → Led → Prop} (h1 : c = true → W C A L t ls σ fun b' ls' σ' => b' = b ∧ ls' = ls ∧ σ' = σ) (h2 : c = false → b = false) (h : Q b ls σ) :
    if c = true then W C A L t ls σ Q else Q false ls σ := by
  cases c
  · rw [if_neg (by decide), ← h2 rfl]; exact h
  · rw [if_pos rfl]
    exact (h1 rfl).mono fun v ls' σ' ⟨hr, e1, e2⟩ => by subst hr e1 e2; exact h
end Og
namespace Og
theorem wIteMono {C : Cx} {A : Around} {L : Addr} {ls : Loc} {σ : Led} {α : Type} {t1 t2 : Sem α} {c : Prop} [Decidable c] {Q Q' : α → Loc → Led → Prop} (h : if c then W C A L t1 ls σ Q' else W C A L t2 ls σ Q') (hq : ∀ a ls σ, Q' a ls σ → Q a ls σ) :
    if c then W C A L t1 ls σ Q else W C A L t2 ls σ Q := by
  split
  · rename_i hc
    rw [if_pos hc] at h; exact h.mono hq
  · rename_i hc
    rw [if_neg hc] at h; exact h.mono hq
theorem bestA_le (p : Nat) (o : List UInt8) (age : Option Nat) (room : Option Int) : ∀ i, bestA p o age room i ≤ i
  | 0 => Nat.le_refl _
  | i + 1 => by
    have := bestA_le p o age room i
    unfold bestA
    cases room with
    | none => exact Nat.le_refl _
    | some m =>
      dsimp only
      split
      · exact Nat.le_refl _
      · omega
end Og
end

section
open PySem PySem.W PySem.Calls PyProof.Rows
namespace Og
theorem Fn.mono {C : Cx} {f : Addr} {args : List Value} {k : Nat} {pre : Led} {post post' : Value → Led → Prop} (c : Fn C f args k pre post) (h : ∀ v pr, post v pr → post' v pr) : Fn C f args k pre post' :=
  fun A L ls rest s ok S => (c A L ls rest s ok S).mono fun fl s' ⟨v, e, pr, S', hp⟩ => ⟨v, e, pr, S', h _ _ hp⟩
/-- The law's octets. -/
def octL : List Value := [.int 97 372, .int 92 373, .int 31 374, .int 32 375, .int 200 376, .int 0 377, .int 10 378, .int 126 379]
section
variable {C : Cx} {A : Around} {L : Addr} {ls : Loc} {σ : Led} {Q : Value → Loc → Led → Prop}
theorem kOct (hK : Kx C) : C.K.lookup 139 = some (lst octL 0) := kLook hK rfl
theorem St.oct (hK : Kx C) {s : Shared} (S : St C L ls σ s) : s.heap.IsList 139 octL.toArray := ⟨_, S.kin _ _ (kOct hK), rfl, _, rfl⟩
theorem wGOct (hK : Kx C) {m : Int} {t : Tok} (h0 : 0 ≤ m) (h1 : m < 8) (h : ∀ z u, 0 ≤ z → z < 256 → Q (.int z u) ls σ) : W C A L (getItem (.ref 139) (.int m t)) ls σ Q := by
  have hx : ∃ z u, octL[m.toNat]? = some (.int z u) ∧ 0 ≤ z ∧ z < 256 := by
    have : m = 0 ∨ m = 1 ∨ m = 2 ∨ m = 3 ∨ m = 4 ∨ m = 5 ∨ m = 6 ∨ m = 7 := by omega
    rcases this with rfl | rfl | rfl | rfl | rfl | rfl | rfl | rfl
    all_goals exact ⟨_, _, rfl, by decide, by decide⟩
  obtain ⟨z, u, hx, h2, h3⟩ := hx
  exact .leaf fun s R S kk => wpAny_getItem_list (S.oct hK) h0 (by omega) (by simpa using hx) (kk _ _ _ _ S (h z u h2 h3))
theorem wTailOct (hK : Kx C) {value slice : Expr} {i : Value} {ops : List Value} (hs : subscripted slice false (.ref 139) i = PySem.operate ops (getItem (.ref 139) i)) (h : W C A L (getItem (.ref 139) i) ls σ Q) : W C A L (subscriptTail value slice (.ref 139) i) ls σ Q :=
  wTail (fun s S => (S.oct hK).typeIs) slot_list_getitem.lookup hs h
end
/-! ### the well -/
structure WL where
  w : Addr
  nl : Addr
  vs : List Value
  p : Nat
  pt : Tok
  i : Nat
  j : Nat
def WL.led (g : WL) : Led := [(g.w, lst [.ref g.nl, .int g.p g.pt] g.i), (g.nl, lst g.vs g.j)]
/-- The well stands no deeper than q. -/
def WOk (g : WL) (w : Addr) (q : Nat) : Prop := g.w = w ∧ g.p ≤ q ∧ ∃ ns, IntsAre g.vs ns ∧ ns.length ≤ 100
theorem WOk.le {g : WL} {w : Addr} {q r : Nat} (h : WOk g w q) (hr : q ≤ r) : WOk g w r := ⟨h.1, Nat.le_trans h.2.1 hr, h.2.2⟩
/-! ### the book's display -/
end Og
namespace Og
theorem wIteAndV {C : Cx} {A : Around} {L : Addr} {ls : Loc} {σ : Led} {t : Sem Value} {c : Bool} (K : Bool) {Q : Value → Loc → Led → Prop} (h1 : c = true → W C A L t ls σ fun v ls' σ' => v = .bool K ∧ ls' = ls ∧ σ' = σ) (h2 : c = false → K = false) (h : Q (.bool K) ls σ) :
    if c = true then W C A L t ls σ Q else Q (.bool c) ls σ := by
  cases c
  · rw [if_neg (by decide), ← h2 rfl]; exact h
  · rw [if_pos rfl]
    exact (h1 rfl).mono fun v ls' σ' ⟨hr, e1, e2⟩ => by subst hr e1 e2; exact h
end Og
namespace Og
theorem wIteOrV {C : Cx} {A : Around} {L : Addr} {ls : Loc} {σ : Led} {t : Sem Value} {c : Bool} (K : Bool) {Q : Value → Loc → Led → Prop} (h1 : c = true → K = true) (h2 : c = false → W C A L t ls σ fun v ls' σ' => v = .bool K ∧ ls' = ls ∧ σ' = σ) (h : Q (.bool K) ls σ) :
    if c = true then Q (.bool c) ls σ else W C A L t ls σ Q := by
  cases c
  · rw [if_neg (by decide)]
    exact (h2 rfl).mono fun v ls' σ' ⟨hr, e1, e2⟩ => by subst hr e1 e2; exact h
  · rw [if_pos rfl, ← h1 rfl]; exact h
/-- An if without else, ahead of what follows. -/
theorem wIteThen {C : Cx} {A : Around} {L : Addr} {ls : Loc} {σ : Led} {env : Env} {b rest : List Stmt} {c : Prop} [Decidable c] {Q : Flow → Loc → Led → Prop} (Mid : Loc → Led → Prop) (h1 : c → W C A L (execs b env) ls σ fun fl ls' σ' => fl = .next ∧ Mid ls' σ') (h2 : ¬ c → Mid ls σ)
    (h : ∀ ls' σ', Mid ls' σ' → W C A L (execs rest env) ls' σ' Q) : if c then W C A L (execs (b ++ rest) env) ls σ Q else W C A L (execs ([] ++ rest) env) ls σ Q := by
  split
  · rename_i hc
    rw [execs_append]
    refine .bind ((h1 hc).mono fun fl ls' σ' ⟨e, hm⟩ => ?_)
    subst e
    exact h _ _ hm
  · rename_i hc
    exact h _ _ (h2 hc)
end Og
end

section
open PySem PySem.W PySem.Calls PyProof.Rows
open PySem.Sem (wp)
namespace Og
/-! ### bytes of bytes -/
theorem BA.bybytes : typeLookup (.type "bytes") "__bytes__" = pure (some (.builtin "bytes.__bytes__")) := by rw [typeLookup_type, builtinLookup_eq_fast]; kernel_rfl
section
variable {prog : Program} {w : World} {A : Around} {s : Shared} {x y : List UInt8} {t u : Tok}
theorem bbToBytes {E : Value → Shared → Prop} {Q : Value → Shared → Prop} (h : Q (.bytes x.toArray t) s) : wpAny (model prog w) A (call (.type "bytes") [.bytes x.toArray t]) Q E s := by
  refine callType_codes (Q₁ := fun obj s₁ => s₁.TypeIs obj "bytes" ∧ Q obj s₁) F.bm_called (F.bm_typeCall _) F.entry_object_init ?_ fun obj s₁ h₁ =>
    ⟨h₁.1, F.args_object_init_2 obj _, object_init_meets F.bm_called.init.lookup F.bm_called.made (by decide) prog w A.in1 _ s₁ ⟨h₁.1, rfl, h₁.2⟩⟩
  refine codeAny_of_tree ?_
  show wpAny _ A.in1.in1 (do checkBuiltinCall "bytes.__new__" ⟨[.type "bytes", .bytes x.toArray t], []⟩; again (.builtin "bytes.__new__" ⟨[.type "bytes", .bytes x.toArray t], []⟩)) _ _ s
  refine wpAny_bind (wpAny_of_eq (F.bm_newCall _) (wpAny_pure ⟨plainId_quiet F.bm_plain _, codeAny_builtin F.bm_entry ?_⟩))
  rw [Around.under_plainId F.bm_plain _]
  have hT := PySem.W.typeIs_bytes s x.toArray t
  unfold Builtin.«bytes.__new__»
  refine wpAny_bind (wpAny_of_eq (a := true) rfl ?_)
  refine bm_if_false rfl ?_
  refine wpAny_bind (wpAny_of_eq F.bm_sub ?_)
  refine bm_if_false rfl ?_
  refine wpAny_bind (wpAny_of_eq (F.bm_bind _) ?_)
  refine wpAny_bind (wpAny_of_eq (a := ()) rfl ?_)
  refine wpAny_bind (wpAny_of_eq (a := ()) rfl ?_)
  refine bm_if_false rfl ?_
  refine wpAny_bind (wpAny_specialOf hT BA.bybytes ?_)
  refine wpAny_bind (wpAny_rule ?_)
  refine wpAny_bind (wpAny_of_eq (a := .type "bytes") rfl ?_)
  refine bm_if_true (by decide) ?_
  show wpAny _ _ (if (Value.type "bytes" == Value.type "bytes") = true then _ else _) _ _ _
  refine bm_if_true (by decide) ?_
  first
    | exact wpAny_pure ⟨PySem.W.typeIs_bytes _ _ _, h⟩
    | exact wpAny_bind (wpAny_pure (wpAny_pure ⟨PySem.W.typeIs_bytes _ _ _, h⟩))
theorem eqAt_bytes : SeqAt.EqAt A s (.bytes x.toArray t) (.bytes x.toArray u) true := fun prog w E Q h => by
  unfold eqBool
  refine wpAny_holding ?_
  refine wpAny_ite_split (fun hab => ?_) (fun hab => ?_)
  · exact wpAny_bind (wpAny_rule (wpAny_pure h))
  · refine wpAny_bind (richCompare_gives (typeIs_bytes s x.toArray t) (typeIs_bytes s x.toArray u) FB.slot_bytes_eq FB.entry_bytes_eq (FB.args_bytes_eq_2 _ _) (gives_bytes_eq x.toArray x.toArray t u) (fun e => nomatch e) (wpAny_truthy_bool ?_))
    rw [beq_self_eq_true]; exact h
end
section
variable {C : Cx} {A : Around} {L : Addr} {ls : Loc} {σ : Led} {env : Env} {Q : Value → Loc → Led → Prop}
theorem wBB {x : List UInt8} {t : Tok} (h : Q (.bytes x.toArray t) ls σ) : W C A L (call (.type "bytes") [.bytes x.toArray t]) ls σ Q :=
  .leaf fun s R S kk => bbToBytes (kk _ _ _ _ S h)
theorem trs_get {ws : List TR} {i : Nat} (h : i < ws.length) : (trefs ws)[i]'(by rw [trefs_length]; exact h) = .ref ws[i].x := by simp [trefs]
/-- Two lists of rows, of which the one is told as the other. -/
theorem wNeRows {a b : Addr} {ts ws : List TR} {n m : Nat} (ha : (a, lst (trefs ts) n) ∈ σ) (hb : (b, lst (trefs ws) m) ∈ σ) (hp : Part (trs ts ++ trs ws) σ) (e : ts.map TR.says = ws.map TR.says) (hu : A.units + 4 < cLine) (h : Q (.bool false) ls σ) : W C A L (compareOp .NotEq (.ref a) (.ref b)) ls σ Q :=
  .leaf fun s R S k => by
    have hl : ts.length = ws.length := by have := congrArg List.length e; rwa [List.length_map, List.length_map] at this
    have P := S.part hp
    have nd := P.nodup
    rw [List.map_append, List.nodup_append] at nd
    refine rcne (SeqAt.RcNeAt.lists (e := fun _ => true) (S.list ha) (S.list hb) (by simp only [List.size_toArray, trefs_length, hl]) (by omega) ?_) ?_
    · intro j h1 h2
      have j1 : j < ts.length := by simpa [trefs_length] using h1
      have j2 : j < ws.length := by simpa [trefs_length] using h2
      have g1 : (trefs ts).toArray[j] = .ref ts[j].x := by simpa using trs_get j1
      have g2 : (trefs ws).toArray[j] = .ref ws[j].x := by simpa using trs_get j2
      rw [g1, g2]
      have m1 := trs_mem (List.getElem_mem j1)
      have m2 := trs_mem (List.getElem_mem j2)
      have es : ts[j].says = ws[j].says := by
        have h3 : (ts.map TR.says)[j]? = (ws.map TR.says)[j]? := by rw [e]
        rw [List.getElem?_map, List.getElem?_map, List.getElem?_eq_getElem j1, List.getElem?_eq_getElem j2] at h3
        exact Option.some.inj h3
      have hne : ts[j].x ≠ ws[j].x := fun e' => by
        have h4 := nd.2.2 _ (List.mem_map_of_mem m1) _ (List.mem_map_of_mem m2)
        exact h4 e'
      generalize ts[j] = p at *
      generalize ws[j] = q at *
      obtain ⟨px, ppane, ppt, poct, pot, ptime, ptt⟩ := p
      obtain ⟨qx, qpane, qpt, qoct, qot, qtime, qtt⟩ := q
      simp only [TR.says, Prod.mk.injEq] at es
      obtain ⟨rfl, rfl, rfl⟩ := es
      have t1 := P.tup (List.mem_append_left _ m1)
      have t2 := P.tup (List.mem_append_right _ m2)
      refine SeqAt.EqAt.of_refs hne (SeqAt.RcAt.tuples (e := fun _ => true) t1 t2 (by show A.units + 1 < _; omega) ?_)
      intro i i1 i2
      have i3 : i < 3 := by simpa using i1
      match i, i3 with
      | 0, _ =>
        have := SeqAt.EqAt.int_int (A := A.in1.in1) (s := s) (ppane : Int) ppt (ppane : Int) qpt
        rwa [beq_self_eq_true] at this
      | 1, _ => exact eqAt_bytes
      | 2, _ =>
        have := SeqAt.EqAt.int_int (A := A.in1.in1) (s := s) (ptime : Int) ptt (ptime : Int) qtt
        rwa [beq_self_eq_true] at this
    · have e1 : (!(List.range (trefs ts).toArray.size).all fun _ => true) = false := by simp
      rw [e1]
      exact k _ _ _ _ S h
end
end Og
end

section
open PySem PySem.W PySem.Calls PyProof.Rows
open PySem.Sem (wp)
namespace Og
section
variable {C : Cx} {A : Around} {L : Addr} {ls : Loc} {σ : Led} {env : Env}
/-! ### the dict display -/
theorem wDict {Q : Value → Loc → Led → Prop} {keys : List (Option Expr)} {values : List Expr} {pos : Pos} {K : Type} [DecidableEq K] {knd : KeyKind C.prog C.w K} (hall : keys.all (·.isSome) = true) (hl : keys.length = values.length) (h0 : keys ≠ []) (hlen : keys.length ≤ 15)
    (h : ∀ d o, (d == sysModules) = false → o.IsDictOf knd [] → W C A L (evalPairs (pairTrees keys values env pos)) ls ((d, o) :: σ) fun vs ls σ' => ∃ kvs, Carries knd vs kvs ∧ kvs.length ≤ 15 ∧ o.IsDictOf knd [] ∧ (∃ σ'', Swap d o o σ' σ'') ∧
      ∀ o', ∃ σ'', Swap d o o' σ' σ'' ∧ (o'.IsDictOf knd (merged [] kvs) → Q (.ref d) ls σ'')) : W C A L (eval (.Dict keys values pos) env) ls σ Q := by
  intro s S
  have hn := pairTrees_length keys values env pos hall hl
  have hne : pairTrees keys values env pos ≠ [] := fun he => by
    rw [he] at hn
    exact h0 (List.length_eq_zero_iff.mp hn.symm)
  rw [arm_eval_Dict, zip_pairTrees keys values env pos hall hl, dictDisplay_pairs _ hne (by omega)]
  refine wpC.bind (wpC.standAt (wpC.bind ?_))
  unfold subDict
  refine wpC.bind (wpC.ofAny (wpAny_alloc ?_))
  refine wpC.bind (wpC.holding ?_)
  rw [if_pos (by omega)]
  have S1 := S.push (tk := s.toks) (o := { cls := .type "dict", data := .dict #[] }) rfl
  refine wpC.bind ((h _ _ S.fresh isDict_new _ S1).mono fun vs s1 h1 => ?_)
  obtain ⟨ls1, σ1, S2, kvs, hc, hk, hd, ⟨_, sw₁⟩, hq⟩ := h1
  refine wpC.holding ?_
  have fin : ∀ h', h'.DictOf knd s.heap.objs.size (merged [] kvs) → Heap.SameBut s.heap.objs.size s1.heap h' → ∃ ls' σ', St C L ls' σ' { s1 with heap := h', toks := s1.toks + vs.length } ∧ Q (.ref s.heap.objs.size) ls' σ' := fun h' hm hb => by
    obtain ⟨o', ho', hd'⟩ := Heap.dictOf_iff.mp hm
    obtain ⟨σ₂, sw₂, hq⟩ := hq o'
    exact ⟨_, _, S2.swap sw₂ hb ho', hq hd'⟩
  have hsz : ([] : List (K × Value)).length + kvs.length ≤ sizeLine := le_line (by rw [List.length_nil]; omega)
  refine wpC.bind (wpC.ofAny (wpAny_storeAll (knd := knd) vs kvs [] s1 _ hc (S2.dict sw₁.mem hd) hsz fun h' hm hb => ?_))
  first
    | exact wpC.pure (wpC.pure (wpC.pure (fin h' hm hb)))
    | exact wpC.pure (wpC.pure (fin h' hm hb))
theorem wPair {k v : Expr} {ks : List (Option Expr)} {vs : List Expr} {pos : Pos} {Q : List (Value × Value) → Loc → Led → Prop}
    (h : W C A L (eval k env) ls σ fun kv ls σ => W C A L (eval v env) ls σ fun vv ls σ => W C A L (evalPairs (pairTrees ks vs env pos)) ls σ fun r ls σ => Q ((kv, vv) :: r) ls σ) : W C A L (evalPairs (pairTrees (some k :: ks) (v :: vs) env pos)) ls σ Q := by
  show W C A L (do
    let kv ← eval k env
    let vv ← holding [kv] (do let x ← eval v env; standAt pos; pure x)
    return (kv, vv) :: (← holding [kv, vv] (evalPairs (pairTrees ks vs env pos)))) ls σ Q
  exact .bind (h.mono fun kv _ _ h => .bind (.holding (.bind (h.mono fun vv _ _ h => .bind (.standAt (.pure (.bind (.holding (h.mono fun r _ _ h => .pure h)))))))))
theorem wPairNil {pos : Pos} {Q : List (Value × Value) → Loc → Led → Prop} (h : Q [] ls σ) : W C A L (evalPairs (pairTrees [] [] env pos)) ls σ Q := .pure h
/-! ### the script -/
theorem St.hlist {s : Shared} {a : Addr} {vs : List Value} (hs : C.h₀.IsList a vs.toArray) (S : St C L ls σ s) : s.heap.IsList a vs.toArray := by
  obtain ⟨m, F, hl⟩ := S.fr
  obtain ⟨o, ho, r⟩ := hs
  exact ⟨o, F.keep _ _ ho, r⟩
theorem wHTake {Q : Value → Loc → Led → Prop} {a sl : Addr} {vs : List Value} {t : Tok} {z : Int} (k : Nat) (hs : C.h₀.IsList a vs.toArray) (hm : (sl, Og.slc .none (.int z t) .none) ∈ σ) (hk : z = k) (hz : vs.length ≤ sizeLine) (h : ∀ b, Q (.ref b) ls ((b, lst (vs.take k) 0) :: σ)) : W C A L (getItem (.ref a) (.ref sl)) ls σ Q :=
  .leaf fun s R S kk => by
    subst hk
    have e : (slicePick vs.toArray none (some (k : Int)) none).toList = vs.take k := by
      rw [kms_pick_eq]
      unfold kms_pick
      have e1 : kms_lo none vs.toArray.toList.length = 0 := by simp [kms_lo]
      have e2 : kms_hi (some (k : Int)) vs.toArray.toList.length = min k vs.length := by simp [kms_hi]; omega
      rw [e1, e2]; simp [List.take_eq_take_iff]
    exact wpAny_getItem_list_slice (S.hlist hs) (S.slc hm) .none (.int _ _) .none (by decide) (kk _ _ _ _ (S.push (tk := s.toks) rfl) (by
      have := h s.heap.objs.size
      rw [← e] at this
      unfold lst at this
      rwa [Array.toArray_toList] at this)) (by simpa using hz)
theorem wTailH {Q : Value → Loc → Led → Prop} {a : Addr} {vs : List Value} (hl : C.h₀.IsList a vs.toArray) {value slice : Expr} {i : Value} {ops : List Value} (hs : subscripted slice false (.ref a) i = PySem.operate ops (getItem (.ref a) i)) (h : W C A L (getItem (.ref a) i) ls σ Q) : W C A L (subscriptTail value slice (.ref a) i) ls σ Q :=
  wTail (fun s S => (S.hlist hl).typeIs) slot_list_getitem.lookup hs h
end
end Og
namespace Og
/-- An if with else, ahead of what follows. -/
theorem wIteJoin {C : Cx} {A : Around} {L : Addr} {ls : Loc} {σ : Led} {env : Env} {b1 b2 rest : List Stmt} {c : Prop} [Decidable c] {Q : Flow → Loc → Led → Prop} (Mid : Loc → Led → Prop) (h1 : c → W C A L (execs b1 env) ls σ fun fl ls' σ' => fl = .next ∧ Mid ls' σ')
    (h2 : ¬ c → W C A L (execs b2 env) ls σ fun fl ls' σ' => fl = .next ∧ Mid ls' σ') (h : ∀ ls' σ', Mid ls' σ' → W C A L (execs rest env) ls' σ' Q) : if c then W C A L (execs (b1 ++ rest) env) ls σ Q else W C A L (execs (b2 ++ rest) env) ls σ Q := by
  have go : ∀ b, W C A L (execs b env) ls σ (fun fl ls' σ' => fl = .next ∧ Mid ls' σ') → W C A L (execs (b ++ rest) env) ls σ Q := fun b hb => by
    rw [execs_append]
    refine .bind (hb.mono fun fl ls' σ' ⟨e, hm⟩ => ?_)
    subst e
    exact h _ _ hm
  split
  · rename_i hc
    exact go _ (h1 hc)
  · rename_i hc
    exact go _ (h2 hc)
/-- One of the two panes. -/
def Pane (x : Int) : Prop := x = 1 ∨ x = 11
/-- What holds ahead of turn i. -/
structure Inv (i : Nat) (a : FA) (nw : Nat) : Prop where
  now : nw ≤ 2 * i
  good : Good a.ws a.paused
  ents : ∀ e ∈ a.ws, e.2.2 ≤ 100 ∧ Pane e.1
  meas : meas a.ws ≤ 7 * i
  panes : ∀ x ∈ a.paused, Pane x
  once : a.paused.Nodup
  off : a.off.length ≤ i
theorem panes_len {p : List Int} (h : ∀ x ∈ p, Pane x) (hn : p.Nodup) : p.length ≤ 2 := by
  match p, h, hn with
  | [], _, _ => simp
  | [_], _, _ => simp
  | [_, _], _, _ => simp
  | x :: y :: z :: r, h, hn =>
    exfalso
    have hx := h x (by simp)
    have hy := h y (by simp)
    have hz := h z (by simp)
    simp only [List.nodup_cons, List.mem_cons, not_or] at hn
    unfold Pane at hx hy hz
    omega
theorem Inv.plen {i nw : Nat} {a : FA} (h : Inv i a nw) : a.paused.length ≤ 2 := panes_len h.panes h.once
theorem Inv.wlen {i nw : Nat} {a : FA} (h : Inv i a nw) : a.ws.length ≤ 7 * i := Nat.le_trans (meas_len _) h.meas
theorem meas_snoc (ws : List Ent) (e : Ent) : Og.meas (ws ++ [e]) = Og.meas ws + (e.2.1.length + 1) := by simp [Og.meas]
theorem Inv.step {i nw n2 : Nat} {a a' : FA} (h : Inv i a nw) (hn : n2 ≤ nw + 2) (h1 : a'.ws = a.ws) (h2 : a'.paused = a.paused) (h3 : a'.off.length ≤ a.off.length + 1) : Inv (i + 1) a' n2 := by
  obtain ⟨a1, a2, a3, a4, a5, a6, a7⟩ := h
  refine ⟨by omega, ?_, ?_, ?_, ?_, ?_, by omega⟩
  · rw [h1, h2]; exact a2
  · rw [h1]; exact a3
  · rw [h1]; omega
  · rw [h2]; exact a5
  · rw [h2]; exact a6
theorem Inv.put {i nw n2 pane : Nat} {oct : List UInt8} {a : FA} (h : Inv i a nw) (hn : n2 ≤ nw + 2) (h100 : n2 ≤ 100) (hp : Pane pane) (ho : oct ≠ []) (hl : oct.length ≤ 6) (hk : (pane : Int) ∉ a.paused) : Inv (i + 1) { a with ws := a.ws ++ [(pane, oct, n2)] } n2 := by
  obtain ⟨a1, ⟨⟨a2⟩, a2'⟩, a3, a4, a5, a6, a7⟩ := h
  have hp' : pane < 100 := by unfold Pane at hp; omega
  refine ⟨by omega, ⟨⟨fun e he => ?_⟩, fun e he => ?_⟩, fun e he => ?_, ?_, a5, a6, Nat.le_succ_of_le a7⟩
  · rcases List.mem_append.mp he with he | he
    · exact a2 e he
    · rw [List.mem_singleton] at he; subst he; exact ⟨hp', by show oct.length ≤ 200; omega, hk⟩
  · rcases List.mem_append.mp he with he | he
    · exact a2' e he
    · rw [List.mem_singleton] at he; subst he; exact ho
  · rcases List.mem_append.mp he with he | he
    · exact a3 e he
    · rw [List.mem_singleton] at he; subst he; exact ⟨h100, hp⟩
  · show Og.meas (a.ws ++ [(pane, oct, n2)]) ≤ _
    rw [meas_snoc]
    show Og.meas a.ws + (oct.length + 1) ≤ _
    omega
theorem Inv.stop {i nw n2 pane : Nat} {a a' : FA} (h : Inv i a nw) (hn : n2 ≤ nw + 2) (hp : Pane pane)
    (ha : a' = { a with paused := a.paused.filter (· ≠ (pane : Int)) } ∨ a' = { a with ws := a.ws.filter (·.1 ≠ pane) } ∨ a' = { a with ws := a.ws.filter (·.1 ≠ pane), paused := putK a.paused pane }) : Inv (i + 1) a' n2 := by
  obtain ⟨a1, ⟨⟨a2⟩, a2'⟩, a3, a4, a5, a6, a7⟩ := h
  have hmf := meas_filter (fun e => decide (e.1 ≠ pane)) a.ws
  rcases ha with rfl | rfl | rfl
  · refine ⟨by omega, ⟨⟨fun e he => ?_⟩, a2'⟩, a3, (by show Og.meas a.ws ≤ _; omega), fun x hx => a5 x (List.mem_filter.mp hx).1, a6.filter _, Nat.le_succ_of_le a7⟩
    obtain ⟨h1, h2, h3⟩ := a2 e he
    exact ⟨h1, h2, fun hm => h3 (List.mem_filter.mp hm).1⟩
  · exact ⟨by omega, ⟨⟨fun e he => a2 e (List.mem_filter.mp he).1⟩, fun e he => a2' e (List.mem_filter.mp he).1⟩, fun e he => a3 e (List.mem_filter.mp he).1, (by show Og.meas (a.ws.filter (·.1 ≠ pane)) ≤ _; omega), a5, a6, Nat.le_succ_of_le a7⟩
  · refine ⟨by omega, ⟨⟨fun e he => ?_⟩, fun e he => a2' e (List.mem_filter.mp he).1⟩, fun e he => a3 e (List.mem_filter.mp he).1, (by show Og.meas (a.ws.filter (·.1 ≠ pane)) ≤ _; omega), fun x hx => ?_, ?_, Nat.le_succ_of_le a7⟩
    · have he2 := List.mem_filter.mp he
      obtain ⟨h1, h2, h3⟩ := a2 e he2.1
      refine ⟨h1, h2, fun hm => ?_⟩
      rcases putK_mem.mp hm with hm | hm
      · exact h3 hm
      · have : e.1 ≠ pane := by simpa using he2.2
        omega
    · rcases putK_mem.mp hx with hx | rfl
      · exact a5 x hx
      · exact hp
    · show (putK a.paused (pane : Int)).Nodup
      unfold putK
      split
      · exact a6
      · rename_i hk
        refine List.nodup_append.mpr ⟨a6, by simp, fun x hx y hy => ?_⟩
        rw [List.mem_singleton] at hy
        subst hy
        rintro rfl
        exact hk hx
theorem Inv.rows {i nw n2 : Nat} {a : FA} {room : Option Int} (h : Inv i a nw) (hn : n2 ≤ nw + 2) : Inv (i + 1) { a with ws := (takeA a.age n2 room (Og.meas a.ws) a.ws a.paused []).1, paused := (takeA a.age n2 room (Og.meas a.ws) a.ws a.paused []).2.1 } n2 := by
  obtain ⟨a1, a2, a3, a4, a5, a6, a7⟩ := h
  obtain ⟨h1, h2, h3, h4, h5, h6⟩ := takeA_keeps (age := a.age) (now := n2) (room := room) (T := 100) (S := Pane) (Og.meas a.ws) a.ws a.paused [] a2 a3 a5 a6 (Nat.le_refl _)
  exact ⟨by omega, h1, h2, (by show Og.meas (takeA a.age n2 room (Og.meas a.ws) a.ws a.paused []).1 ≤ _; omega), h3, h4, Nat.le_succ_of_le a7⟩
theorem takeA_end {i nw now : Nat} {a : FA} (h : Inv i a nw) : (takeA a.age now none (Og.meas a.ws) a.ws a.paused []).1 = [] :=
  (takeA_keeps (age := a.age) (now := now) (room := none) (T := 100) (S := Pane) (Og.meas a.ws) a.ws a.paused [] h.good h.ents h.panes h.once (Nat.le_refl _)).2.2.2.2.2 rfl
end Og
end

section
open PySem PySem.W PySem.Calls PyProof.Rows
open PySem.Sem (wp)
namespace Og
/-- What a call from the top gives: a value, and what stood stands. -/
def Fn0 (C : Cx) (f : Addr) (args : List Value) (k : Nat) (P : Value → Prop) : Prop :=
  ∀ A : Around, Ok A k → C.s₀.heap = C.h₀ →
    codeC C.H (model C.prog C.w) A (.call (.ref f) ⟨args, []⟩) (fun fl s' => ∃ v, fl = .ret v ∧ P v ∧ (∃ h tk, s' = { C.s₀ with heap := h, toks := tk }) ∧ ∃ L m, Fr C.h₀ L s'.heap m) C.s₀
theorem Fn0.of_body {C : Cx} {f : Addr} {args : List Value} {k : Nat} {P : Value → Prop} {name qual : Str} {params : Arguments} {body : List Stmt} {scope : Scope} {dV kV doc pm cdv ct oc : Value} {an od : Option Addr} {osl : Array (Option Value)} {binds : List (Str × Value)}
    (ho : C.K.lookup f = some ⟨oc, od, .func (fnX name qual params body scope [] dV kV doc pm an cdv ct), osl⟩) (hcd : codeIn C.K cdv qual = true)
    (hbind : bindArgs (fnX name qual params body scope [] dV kV doc pm an cdv ct) ⟨args, []⟩ = Pure.pure binds) (hloc : ∀ y ∈ binds, scope.names.lookup y.1 = some .local) (hcell : ∀ x ∈ scope.names, x.2 ≠ .cell) (hk : scope.kind = .function)
    (hco : scope.isCoroutine = false) (hgen : scope.isGenerator = false)
    (hb : ∀ A L rest, Ok A k → W C A L (execs body (envX qual scope L f cdv [])) binds.reverse rest (Ends (fun v _ => P v) rest)) : Fn0 C f args (k + 1) P := by
  intro A ok hh
  refine codeC.ofTree rfl ?_
  show wpC _ _ A.in1 (callAny (.ref f) ⟨args, []⟩) _ C.s₀
  have X : C.K.In C.s₀.heap := by rw [hh]; exact C.X
  have hlim : C.s₀.heap.NoLimit := by rw [hh]; exact C.nolim
  refine (wpC.ofAny (callDef_any (by have := ok.depth; omega) (X _ _ ho) rfl hlim (codeRec_of X hcd) rfl hbind hcell hloc hco hgen hk)).mono fun fin s₁ h => ?_
  obtain ⟨rfl, h₁, rfl, hn, hk₁⟩ := h
  refine ⟨rfl, func_code ?_⟩
  have S : St C C.s₀.heap.objs.size binds.reverse [] { C.s₀ with heap := h₁, toks := C.s₀.toks + binds.length } :=
    ⟨⟨_, _, rfl⟩, ⟨_, ⟨hn, fun b o e => hk₁ b o (by rw [hh]; exact e), by rw [hh]; exact Nat.le_refl _⟩, fun _ _ e => e⟩, fun _ h => (nomatch h), List.nodup_nil⟩
  refine (hb (A.deeper (envX qual scope C.s₀.heap.objs.size f cdv [])) C.s₀.heap.objs.size [] ok.deeper _ S).mono fun fl s₂ h => ?_
  obtain ⟨ls₂, σ₂, S₂, pr, hp, hpart⟩ := h
  obtain ⟨m, F, _⟩ := S₂.fr
  exact ⟨_, rfl, hp, S₂.base, _, m, F⟩
end Og
end

section
open PySem PySem.W PySem.Calls PyProof.Rows
namespace Og
set_option compiler.extract_closed false
local macro_rules | `(tactic| kbo_bools) => `(tactic| first
  | with_reducible exact List.mem_cons_self
  | ((with_reducible refine' List.mem_cons_of_mem _ ?hz); case hz => kbo_bools)
  | ((with_reducible refine' List.mem_append_right _ ?hz); case hz => kbo_bools)
  | ((with_reducible refine' List.mem_append_left _ ?hz); case hz => kbo_bools)
  | with_reducible exact Swap.here
  | ((with_reducible refine' Swap.there ?hz); case hz => kbo_bools)
  | ((with_reducible refine' Swap.skip ?hz); case hz => kbo_bools)
  | ((with_reducible refine' Swap.left ?hz); case hz => kbo_bools)
  | with_reducible exact Take.here
  | ((with_reducible refine' Take.there ?hz); case hz => kbo_bools)
  | ((with_reducible refine' Take.skip ?hz); case hz => kbo_bools)
  | ((with_reducible refine' Take.left ?hz); case hz => kbo_bools)
  | (with_reducible first | exact Lift.here | exact Lift.whole)
  | ((with_reducible refine' Lift.there ?hz); case hz => kbo_bools)
  | ((with_reducible refine' Lift.skip ?hz); case hz => kbo_bools)
  | ((with_reducible refine' Lift.left ?hz); case hz => kbo_bools)
  | with_reducible assumption)
local macro_rules | `(tactic| keq_rows) => `(tactic| first
  | ((simp only [List.cons_append, List.nil_append]); keq_rows)
  | with_reducible exact Rem.nil
  | ((with_reducible refine' Rem.cons ?hy ?hz); (case hy => kbo_bools); case hz => keq_rows)
  | ((with_reducible refine' Rem.block ?hy ?hz); (case hy => kbo_bools); case hz => keq_rows)
  | ((with_reducible refine' Rem.last ?hz); case hz => kbo_bools)
  | (with_reducible first | exact Part.refl | exact Part.nil)
  | ((with_reducible refine' Part.cons ?hy ?hz); (case hy => kbo_bools); case hz => keq_rows)
  | ((with_reducible refine' Part.block ?hy ?hz); (case hy => kbo_bools); case hz => keq_rows)
  | ((with_reducible refine' Part.last ?hz); case hz => kbo_bools))
local macro_rules | `(tactic| w_end) => `(tactic| first
  | exact rfl
  | exact kindE ‹envX _ _ _ _ _ _ = _› rfl
  | exact cellE ‹envX _ _ _ _ _ _ = _› rfl
  | (subst_vars; exact rfl))
local macro_rules | `(tactic| kat_tups) => `(tactic| first
  | exact kept_builtin
  | exact kept_type
  | exact kept_K (kdecimal_octets ‹Kx _›)
  | exact kept_K (kcontrol_escaped ‹Kx _›)
  | exact kept_K (kcontrol_fitting ‹Kx _›)
  | exact kept_K (kcontrol_row ‹Kx _›)
  | exact kept_K (kcontrol_named ‹Kx _›)
  | exact kept_K (kControlWaiting ‹Kx _›)
  | exact kept_K (kControlFlow ‹Kx _›)
  | exact kept_K (k_law_draw ‹Kx _›)
  | exact kept_K (k_law_figures ‹Kx _›)
  | exact kept_K (k_law_row ‹Kx _›)
  | exact kept_K (k_law_fits ‹Kx _›)
  | exact kept_K (k_law_taken ‹Kx _›)
  | exact kept_K (k_law_put ‹Kx _›)
  | exact kept_K (k_law_stopped ‹Kx _›)
  | exact kept_K (k_law_let ‹Kx _›)
  | exact kept_K (k_law_rows ‹Kx _›)
  | exact kept_K (k91 ‹Kx _›)
  | exact kept_K (k96 ‹Kx _›)
  | exact kept_K (k103 ‹Kx _›)
  | exact kept_K (k110 ‹Kx _›)
  | exact kept_K (k117 ‹Kx _›)
  | exact kept_K (k124 ‹Kx _›)
  | exact kept_K (k131 ‹Kx _›))
local macro_rules | `(tactic| w_once) => `(tactic| first
  | (with_reducible first | exact gdecimal_octets ‹Kx _› | exact gcontrol_escaped ‹Kx _› | exact gcontrol_fitting ‹Kx _› | exact gcontrol_row ‹Kx _› | exact gcontrol_named ‹Kx _› | exact gControlWaiting ‹Kx _› | exact gControlFlow ‹Kx _› | exact g_law_octets ‹Kx _› | exact g_law_draw ‹Kx _› | exact g_law_figures ‹Kx _› | exact g_law_row ‹Kx _› | exact g_law_fits ‹Kx _› | exact g_law_taken ‹Kx _› | exact g_law_put ‹Kx _› | exact g_law_stopped ‹Kx _› | exact g_law_let ‹Kx _› | exact g_law_rows ‹Kx _› | exact gCONTROL_BACKSLASH ‹Kx _› | exact gCONTROL_LEAST ‹Kx _› | exact gCONTROL_PANE ‹Kx _› | exact b_bytes ‹Kx _› | exact b_bytearray ‹Kx _› | exact b_len ‹Kx _› | exact b_range ‹Kx _› | exact b_max ‹Kx _› | exact b_str ‹Kx _› | exact b_ord ‹Kx _›))
local macro_rules | `(tactic| kct_strs) => `(tactic| first
  | (with_reducible first | exact SetL.nil | exact SetL.here)
  | ((with_reducible refine' SetL.there ?hy ?hz); (case hy => kernel_rfl); case hz => kct_strs))
local macro_rules | `(tactic| k_data) => `(tactic| first
  | omega
  | exact le_line (by omega)
  | (simp only [List.length_cons, List.length_nil, List.length_append, List.length_map]; omega)
  | exact le_line (by simp only [List.length_cons, List.length_nil, List.length_append, List.length_map]; omega)
  | decide)
local macro_rules | `(tactic| cell_call) => `(tactic| first
  | with_reducible intro _
  | ((with_reducible show W _ _ _ (eval _ _) _ _ _); first
    | ((with_reducible refine' wNameL ‹Ev _ _› ?a ?b ?c ?_); (case a => w_end); (case b => exact rfl); (case c => exact rfl))
    | ((with_reducible refine' wNameB ‹Ev _ _› ?a ?b ?e ?d ?c ?_); (case a => w_end); (case b => w_once); (case e => boot_by_name); (case d => decide); (case c => exact rfl))
    | ((with_reducible refine' wNameG ‹Ev _ _› ?a ?b ?c ?_); (case a => w_end); (case b => w_once); (case c => exact rfl))
    | ((with_reducible refine' wName ?d (wLoadCell ‹Ev _ _› ?a ?b ?m ‹isCell _ _› ?_)); (case d => exact rfl); (case a => w_end); (case b => w_end); (case m => kbo_bools))
    | (with_reducible first | refine' wConstInt ?_ | refine' wBinOp ?_ | refine' wSubscript ?_)
    | ((with_reducible refine' wAttribute ?a ?_); (case a => exact rfl))
    | ((with_reducible refine' wMethodCall ?a ?_); (case a => exact rfl))
    | ((with_reducible refine' wCall ?a ?_); (case a => exact rfl))
    | ((with_reducible refine' wCompare ?a ?_); (case a => exact rfl))
    | (with_reducible first | refine' wConstBytes ?_ | refine' wConstStr ?_ | refine' wConstBool ?_ | refine' wConstNone ?_ | refine' wUnaryOp ?_ | refine' wIfExp ?_ | refine' wListD ?_ | refine' wTupleD ?_ | refine' wSliceD ?_ | refine' wBoolOpOne ?_ | refine' wBoolOpAnd ?_ | refine' wBoolOpOr ?_))
  | ((with_reducible show W _ _ _ (execs _ _) _ _ _); first
    | (with_reducible first | refine' wAppNil ?_ | refine' wAppCons ?_)
    | ((with_reducible refine' wAssignName ?a ?_); (case a => exact rfl))
    | ((with_reducible refine' wExpr ?a ?b ?_); (case a => w_end); (case b => exact rfl))
    | (with_reducible first | refine' wIf ?_ | refine' wReturn ?_ | refine' wAugName ?_)
    | ((with_reducible refine' wAssignAttr ?a ?_); (case a => exact rfl))
    | ((with_reducible refine' wAssignSub ?a ?_); (case a => exact rfl))
    | ((with_reducible refine' wAssignSwap2 ?a ?b ?_); (case a => exact rfl); (case b => w_end))
    | ((with_reducible refine' wAssignStores ?a ?b ?_); (case a => exact rfl); (case b => w_end))
    | (with_reducible first | refine' wBreak ?_ | refine' wNil ?_))
  | ((with_reducible refine' wStoreL ‹Ev _ _› ?a ?b ?_); (case a => w_end); (case b => kct_strs))
  | ((with_reducible refine' wLoadLocal ‹Ev _ _› ?a ?b ?_); (case a => w_end); (case b => exact rfl))
  | ((with_reducible refine' wCW0 ?a ?b ?_); (case a => kat_tups); (case b => exact rfl))
  | ((with_reducible refine' wCW1 ?a ?b ?_); (case a => kat_tups); (case b => exact rfl))
  | with_reducible refine' wArgsNil ?_
  | ((with_reducible refine' wArgsCons ?a ?_); (case a => exact rfl))
  | ((with_reducible show W _ _ _ (isTrue _ _ _) _ _ _); first
    | ((with_reducible refine' wIsTrueCompare ?a ?_); (case a => exact rfl))
    | with_reducible refine' wIsTrueNot ?_
    | ((with_reducible refine' wIsTrueChain ?a ?_); (case a => exact rfl))
    | (with_reducible first | refine' wIsTrueAndNil ?_ | refine' wIsTrueAnd ?_ | refine' wIsTrueOrNil ?_ | refine' wIsTrueOr ?_)
    | ((with_reducible refine' wIsTruePlain ?a ?_); (case a => exact rfl)))
  | with_reducible refine' wTruthyBool ?_
  | ((with_reducible show W _ _ _ (binaryOp _ _ _) _ _ _); first
    | (with_reducible first | refine' wAdd ?_ | refine' wSub ?_)
    | ((with_reducible refine' wModP ?a ?_); (case a => first | decide | omega))
    | ((with_reducible refine' wDivP ?a ?b ?_); (case a => first | decide | omega); (case b => exact rfl))
    | ((with_reducible refine' wShrP ?a ?_); (case a => first | decide | omega))
    | with_reducible refine' wAnd7 ?_
    | ((with_reducible refine' wBAdd ?a ?_); (case a => k_data))
    | ((with_reducible refine' wListAdd ?m ?b ?z ?_); (case m => kbo_bools); (case b => kbo_bools); (case z => k_data)))
  | ((with_reducible show W _ _ _ (compareOp _ _ _) _ _ _); first
    | (with_reducible first | refine' wLt ?_ | refine' wLe ?_ | refine' wGt ?_ | refine' wGe ?_ | refine' wEq ?_ | refine' wNe ?_ | refine' wBEq ?_ | refine' wBNe ?_ | refine' wIsNone ?_ | refine' wIsNotNone ?_ | refine' wEqBool ?_)
    | ((with_reducible refine' wDInT ?m ?d ?l ?_); (case m => kbo_bools); (case d => assumption); (case l => assumption))
    | ((with_reducible refine' wDNotInT ?m ?d ?l ?_); (case m => kbo_bools); (case d => assumption); (case l => assumption))
    | ((with_reducible refine' wNeNil ?m ?b ?u ?_); (case m => kbo_bools); (case b => kbo_bools); (case u => (have := (‹Ok _ _› : Ok _ _).units; omega)))
    | ((with_reducible refine' wEqNil ?m ?b ?u ?_); (case m => kbo_bools); (case b => kbo_bools); (case u => (have := (‹Ok _ _› : Ok _ _).units; omega))))
  | (with_reducible first | refine' wNeg ?_ | refine' wNotBool ?_)
  | ((with_reducible show W _ _ _ (call _ _) _ _ _); first
    | ((with_reducible refine' wMax ?h ?_); (case h => exact (‹Ok _ _› : Ok _ _).handled))
    | ((with_reducible refine' wBApp ‹Cx.H _› ?m ?a ?b ?c ?_); (case m => kbo_bools); (case a => omega); (case b => omega); (case c => first | omega | k_data))
    | with_reducible refine' wBANew ‹Cx.H _› ?_
    | ((with_reducible refine' wAppend ?m ?a ?_); (case m => kbo_bools); (case a => k_data))
    | ((with_reducible refine' wListLen ?m ?a ?_); (case m => kbo_bools); (case a => k_data))
    | ((with_reducible refine' wBLen ?a ?_); (case a => k_data))
    | ((with_reducible refine' wBALen ?m ?a ?_); (case m => kbo_bools); (case a => k_data))
    | ((with_reducible refine' wBABytes ?m ?a ?_); (case m => kbo_bools); (case a => k_data))
    | (with_reducible first | refine' wRange1 ?_ | refine' wRange2 ?_))
  | ((with_reducible show W _ _ _ (getItem _ _) _ _ _); first
    | ((with_reducible refine' wListRev ?m ?s ?a ?_); (case m => kbo_bools); (case s => kbo_bools); (case a => k_data))
    | ((with_reducible refine' wListTail1 ?m ?s ?a ?_); (case m => kbo_bools); (case s => kbo_bools); (case a => k_data))
    | ((with_reducible refine' wListTake ?m ?s ?a ?_); (case m => kbo_bools); (case s => kbo_bools); (case a => k_data))
    | ((with_reducible refine' wBG_wait ?m ?d ?_); (case m => kbo_bools); (case d => assumption))
    | ((with_reducible refine' wBG_paused ?m ?d ?_); (case m => kbo_bools); (case d => assumption))
    | ((with_reducible refine' wBG_off ?m ?d ?_); (case m => kbo_bools); (case d => assumption))
    | ((with_reducible refine' wBG_silent ?m ?d ?_); (case m => kbo_bools); (case d => assumption))
    | ((with_reducible refine' wBG_age ?m ?d ?_); (case m => kbo_bools); (case d => assumption))
    | ((with_reducible refine' wListGet ?m ?a ?b ?c ?_); (case m => kbo_bools); (case a => decide); (case b => decide); (case c => exact rfl))
    | ((with_reducible refine' wTupGet ?m ?a ?b ?c ?_); (case m => kbo_bools); (case a => decide); (case b => decide); (case c => exact rfl)))
  | ((with_reducible show W _ _ _ (getAttr _ _ _) _ _ _); first
    | ((with_reducible refine' wGW_pane ‹Kx _› ?x ?d ?v ?_); (case x => kbo_bools); (case d => kbo_bools); (case v => first | exact rfl | exact age_handed (by assumption)))
    | ((with_reducible refine' wGW_octets ‹Kx _› ?x ?d ?v ?_); (case x => kbo_bools); (case d => kbo_bools); (case v => first | exact rfl | exact age_handed (by assumption)))
    | ((with_reducible refine' wGW_time ‹Kx _› ?x ?d ?v ?_); (case x => kbo_bools); (case d => kbo_bools); (case v => first | exact rfl | exact age_handed (by assumption)))
    | ((with_reducible refine' wGF_waiting ‹Kx _› ?x ?d ?v ?_); (case x => kbo_bools); (case d => kbo_bools); (case v => first | exact rfl | exact age_handed (by assumption)))
    | ((with_reducible refine' wGF_age ‹Kx _› ?x ?d ?v ?_); (case x => kbo_bools); (case d => kbo_bools); (case v => first | exact rfl | exact age_handed (by assumption)))
    | ((with_reducible refine' wGF_silent ‹Kx _› ?x ?d ?v ?_); (case x => kbo_bools); (case d => kbo_bools); (case v => first | exact rfl | exact age_handed (by assumption)))
    | ((with_reducible refine' wGF_paused ‹Kx _› ?x ?d ?v ?_); (case x => kbo_bools); (case d => kbo_bools); (case v => first | exact rfl | exact age_handed (by assumption)))
    | ((with_reducible refine' wGF_off ‹Kx _› ?x ?d ?v ?_); (case x => kbo_bools); (case d => kbo_bools); (case v => first | exact rfl | exact age_handed (by assumption))))
  | ((with_reducible show W _ _ _ (setAttr _ _ _) _ _ _); first
    | ((with_reducible refine' wSW_octets ‹Kx _› ?x ?d ?_); (case x => kbo_bools); (case d => kbo_bools))
    | ((with_reducible refine' wSF_waiting ‹Kx _› ?x ?d ?_); (case x => kbo_bools); (case d => kbo_bools))
    | ((with_reducible refine' wSF_age ‹Kx _› ?x ?d ?_); (case x => kbo_bools); (case d => kbo_bools))
    | ((with_reducible refine' wSF_silent ‹Kx _› ?x ?d ?_); (case x => kbo_bools); (case d => kbo_bools)))
  | ((with_reducible show W _ _ _ (getMethod _ _ _) _ _ _); first
    | ((with_reducible refine' wMAppend ?m ?_); (case m => kbo_bools))
    | ((with_reducible refine' wMBAppend ?m ?_); (case m => kbo_bools))
    | ((with_reducible refine' wMInsert ?m ?_); (case m => kbo_bools))
    | ((with_reducible refine' wMPop ?m ?_); (case m => kbo_bools))
    | ((with_reducible refine' wMExtend ?m ?_); (case m => kbo_bools))
    | with_reducible refine' wMJoin ?_
    | ((with_reducible refine' wM_put ‹Kx _› ?x ?d ?_); (case x => kbo_bools); (case d => kbo_bools))
    | ((with_reducible refine' wM_leave ‹Kx _› ?x ?d ?_); (case x => kbo_bools); (case d => kbo_bools))
    | ((with_reducible refine' wM_pause ‹Kx _› ?x ?d ?_); (case x => kbo_bools); (case d => kbo_bools))
    | ((with_reducible refine' wM_go_on ‹Kx _› ?x ?d ?_); (case x => kbo_bools); (case d => kbo_bools))
    | ((with_reducible refine' wM_row_of ‹Kx _› ?x ?d ?_); (case x => kbo_bools); (case d => kbo_bools))
    | ((with_reducible refine' wM_cut ‹Kx _› ?x ?d ?_); (case x => kbo_bools); (case d => kbo_bools))
    | ((with_reducible refine' wM_taken ‹Kx _› ?x ?d ?_); (case x => kbo_bools); (case d => kbo_bools))
    | ((with_reducible refine' wMDPopT ?m ?d ?_); (case m => kbo_bools); (case d => assumption)))
  | ((with_reducible refine' wLNew ?a ?_); (case a => k_data))
  | ((with_reducible refine' wTNew ?a ?_); (case a => k_data))
  | (with_reducible first | refine' wPartNone ?_ | refine' wPartSome ?_)
  | ((with_reducible refine' wTailList ?m ?s ?_); (case m => kbo_bools); (case s => with_unfolding_all rfl))
  | ((with_reducible refine' wTailBk ?m ?d ?s ?_); (case m => kbo_bools); (case d => assumption); (case s => with_unfolding_all rfl))
  | ((with_reducible refine' wTailTup ?m ?s ?_); (case m => kbo_bools); (case s => with_unfolding_all rfl))
  | ((with_reducible refine' wTailBytes ?s ?_); (case s => with_unfolding_all rfl))
  | (with_reducible first | refine' wTarget2 ?_ | refine' wTarget3 ?_)
  | ((with_reducible refine' wUnpackTup ?m ?h ?n ?_); (case m => kbo_bools); (case h => exact (‹Ok _ _› : Ok _ _).handled); (case n => exact rfl))
  | ((with_reducible refine' wUnpackList ?m ?h ?n ?_); (case m => kbo_bools); (case h => exact (‹Ok _ _› : Ok _ _).handled); (case n => exact rfl))
  | (with_reducible first | refine' wOrderNil ?_ | refine' wOrderTarget ?_ | refine' wOrderName ?_)
  | (refine And.intro (fun _ e => nomatch e) ?_)
  | ((with_reducible refine' iteT ?_))
  | ((with_reducible refine' iteF ?_)))
set_option maxHeartbeats 2000000
theorem dig_rev (n : Nat) (h : 10 ≤ n) : [48 + ((n / 10 : Nat) : Int), 48 + ((n % 10 : Nat) : Int)].map (fun n => n.toNat.toUInt8) = dig n := by
  unfold dig
  rw [if_neg (by omega)]
  rfl
theorem fn_decimal {C : Cx} (hK : Kx C) {n : Nat} (hn : n < 100) {t : Tok} : Fn C 21 [.int n t] 1 [] fun v pr => pr = [] ∧ ∃ u, v = .bytes (dig n).toArray u := by
  refine Fn.of_body (binds := [(Str.ofString "number", .int n t)]) (kLook hK rfl) (by rw [hK]; kernel_rfl) rfl ?_ ?_ rfl rfl rfl ?_
  · intro y hy; simp at hy; subst hy; rfl
  · decide
  · intro A L rest ok
    generalize hE : envX _ _ L _ _ _ = env
    have ev : Ev L env := by subst hE; exact ⟨rfl, rfl, rfl, rfl⟩
    show W C A L _ [(Str.ofString "number", .int n t)] rest _
    repeat cell_call
    refine iteD (fun h => ?_) fun h => absurd h (by omega)
    repeat cell_call
    refine wWhile (fun k ls σ => ∃ (r : Int) (a m : Nat) (vs : List Value) (u : Tok), (k : Int) = r ∧ ((r = n / 10 ∧ IntsAre vs [48 + ((n % 10 : Nat) : Int)]) ∨ (r = 0 ∧ 10 ≤ n ∧ IntsAre vs [48 + ((n % 10 : Nat) : Int), 48 + ((n / 10 : Nat) : Int)])) ∧
      ls = [(Str.ofString "number", .int n t), (Str.ofString "rest", .int r u), (Str.ofString "found", .ref a)] ∧ σ = (a, lst vs m) :: rest) (n := n / 10) ?_ ?_
    · rintro k ls σ ⟨r, a, m, vs, u, hk, hr, rfl, rfl⟩
      have hl : vs.length ≤ 2 := by rcases hr with ⟨_, h⟩ | ⟨_, _, h⟩ <;> (rw [h.length]; simp)
      repeat cell_call
      refine iteD (fun h => ?_) fun h => ?_
      · repeat cell_call
        refine ⟨(r / 10).toNat, by omega, r / 10, a, _, _, _, by omega, ?_, rfl, rfl⟩
        rcases hr with ⟨h1, h2⟩ | ⟨h1, _, _⟩
        · refine .inr ⟨by omega, by omega, ?_⟩
          have e : (48 + r % 10 : Int) = 48 + ((n / 10 : Nat) : Int) := by omega
          rw [e]
          exact h2.append (.cons _ _ .nil)
        · omega
      · repeat cell_call
        refine iteD (fun h => absurd h (by omega)) fun h => ?_
        repeat cell_call
        rcases hr with ⟨h1, h2⟩ | ⟨h1, h3, h2⟩
        · have e : [48 + ((n % 10 : Nat) : Int)].map (fun n => n.toNat.toUInt8) = dig n := by
            unfold dig
            rw [if_pos (by omega)]
            have : n % 10 = n := by omega
            rw [this]; rfl
          refine wBytesInts' (by kbo_bools) ok.handled h2.reverse ?_ (le_line (by simp only [List.length_reverse]; omega)) (by simpa using e) fun u => ends ⟨rfl, u, rfl⟩ (by keq_rows)
          intro x hx; simp at hx; omega
        · refine wBytesInts' (by kbo_bools) ok.handled h2.reverse ?_ (le_line (by simp only [List.length_reverse]; omega)) (dig_rev n h3) fun u => ends ⟨rfl, u, rfl⟩ (by keq_rows)
          intro x hx; simp at hx; omega
    · refine ⟨(n : Int) / 10, _, _, _, _, by omega, .inl ⟨rfl, ?_⟩, rfl, rfl⟩
      exact .cons _ _ .nil

set_option maxHeartbeats 2000000
theorem fn_named {C : Cx} (hK : Kx C) {m : List UInt8} {n : Nat} (hm : m.length ≤ 1000) (hn : n < 100) {t u : Tok} : Fn C 49 [.bytes m.toArray t, .int n u] 2 [] fun v pr => pr = [] ∧ ∃ u, v = .bytes (m ++ dig n).toArray u := by
  refine Fn.of_body (binds := [(Str.ofString "mark", .bytes m.toArray t), (Str.ofString "number", .int n u)]) (kLook hK rfl) (by rw [hK]; kernel_rfl) rfl ?_ ?_ rfl rfl rfl ?_
  · intro y hy; simp at hy; rcases hy with rfl | rfl <;> rfl
  · decide
  · intro A L rest ok
    generalize hE : envX _ _ L _ _ _ = env
    have ev : Ev L env := by subst hE; exact ⟨rfl, rfl, rfl, rfl⟩
    show W C A L _ [(Str.ofString "number", .int n u), (Str.ofString "mark", .bytes m.toArray t)] rest _
    repeat cell_call
    refine wFn (fn_decimal hK hn) ok (by decide) .nil ?_
    rintro v pr ⟨rfl, w, rfl⟩
    have := dig_len n
    refine wBAdd (by omega) fun w' => ends ⟨rfl, w', rfl⟩ (by keq_rows)
theorem fn_row {C : Cx} (hK : Kx C) {l : Addr} {k : Nat} {z : List UInt8} {bs : List (List UInt8 × Tok)} (h2 : 2 ≤ bs.length)
    (hz : (bs.map fun b => b.1.toArray).foldl (· + ·.size) (1 * (bs.length - 1)) ≤ 16777216) (e : Builtin.Bytes.joined [32].toArray (bs.map fun b => b.1.toArray) = z.toArray) (hj : z.length ≤ 1000) :
    Fn C 42 [.ref l] 1 [(l, lst (bVals bs) k)] fun v pr => pr = [] ∧ ∃ u, v = .bytes (z ++ [10]).toArray u := by
  refine Fn.of_body (binds := [(Str.ofString "words", .ref l)]) (kLook hK rfl) (by rw [hK]; kernel_rfl) rfl ?_ ?_ rfl rfl rfl ?_
  · intro y hy; simp at hy; subst hy; rfl
  · decide
  · intro A L rest ok
    generalize hE : envX _ _ L _ _ _ = env
    have ev : Ev L env := by subst hE; exact ⟨rfl, rfl, rfl, rfl⟩
    show W C A L _ [(Str.ofString "words", .ref l)] ((l, lst (bVals bs) k) :: rest) _
    repeat cell_call
    refine wBJoin (bs := bs) (by kbo_bools) h2 hz e (by omega) fun u => ?_
    repeat cell_call
    exact ends ⟨rfl, _, rfl⟩ (by keq_rows)
theorem figs : ∀ n : Fin 100, (((Str.ofString (toString (n.val : Int))).cps.toList.map fun c => c.toUInt8) == dig n.val && (Str.ofString (toString (n.val : Int))).cps.all (· < 128)) = true := by decide +kernel
theorem fn_figures {C : Cx} (hK : Kx C) {n : Nat} (hn : n < 100) {t : Tok} : Fn C 151 [.int n t] 1 [] fun v pr => pr = [] ∧ ∃ u, v = .bytes (dig n).toArray u := by
  refine Fn.of_body (binds := [(Str.ofString "number", .int n t)]) (kLook hK rfl) (by rw [hK]; kernel_rfl) rfl ?_ ?_ rfl rfl rfl ?_
  · intro y hy; simp at hy; subst hy; rfl
  · decide
  · intro A L rest ok
    generalize hE : envX _ _ L _ _ _ = env
    have ev : Ev L env := by subst hE; exact ⟨rfl, rfl, rfl, rfl⟩
    show W C A L _ [(Str.ofString "number", .int n t)] rest _
    repeat cell_call
    have hf := figs ⟨n, hn⟩
    rw [Bool.and_eq_true, beq_iff_eq] at hf
    refine wListComp (cl := []) ⟨rfl, by decide, rfl, by decide, rfl, fun _ => rfl⟩ ev ok.handled ?_
    repeat cell_call
    refine wStr (by
      have : (n : Int).natAbs < 2 ^ 7 := by omega
      have h2 : (n : Int).natAbs.log2 < 7 := by
        by_cases h0 : (n : Int).natAbs = 0
        · rw [h0]; decide
        · exact (Nat.log2_lt h0).mpr this
      omega) fun u => ?_
    repeat cell_call
    refine wIterStr hf.2 fun it o ho => ⟨rfl, ⟨it, _, _, _, _, _, o, fun i ys τ => τ = rest ∧ IntsAre ys (((Str.ofString (toString (n : Int))).cps.toList.take i).map Int.ofNat), rfl, rfl, ho, Iter.str, ?_, fun _ _ _ _ => trivial, ⟨rfl, by simpa using IntsAre.nil⟩, ?_, ?_⟩⟩
    · have h3 := dig_len n
      have h4 : (Str.ofString (toString (n : Int))).cps.toList.length = (dig n).length := by rw [← hf.1, List.length_map]
      exact le_line (by rw [← Array.length_toList, h4]; omega)
    · rintro i v ys τ J L' ev' hi ⟨c, w, hc, rfl⟩ ⟨rfl, hys⟩
      refine wTests0 (iteT ?_)
      repeat cell_call
      refine wOrd fun u' => ?_
      refine ⟨τ, .refl, rfl, ?_⟩
      have hc' : (Str.ofString (toString (n : Int))).cps.toList[i]? = some c := by rw [Array.getElem?_toList]; exact hc
      rw [List.take_add_one, hc', List.map_append]
      exact hys.append (.cons _ _ .nil)
    · rintro ys τ D m ⟨rfl, hys⟩
      repeat cell_call
      have hz : ys.length ≤ 1048576 := by
        have h3 := dig_len n
        have h4 : (Str.ofString (toString (n : Int))).cps.toList.length = (dig n).length := by rw [← hf.1, List.length_map]
        have h5 := hys.length
        rw [List.length_map, List.length_take] at h5
        omega
      rw [List.take_of_length_le (by rw [Array.length_toList]; exact Nat.le_refl _)] at hys
      refine wBytesInts' (by kbo_bools) ok.handled hys ?_ (le_line hz) (z := dig n) ?_ fun u => ends ⟨rfl, u, rfl⟩ (by keq_rows)
      · intro x hx
        obtain ⟨c, hc, rfl⟩ := List.mem_map.mp hx
        have h6 : ∀ c ∈ (Str.ofString (toString (n : Int))).cps.toList, c < 128 := by
          intro c hc
          have := hf.2
          rw [Array.all_eq_true'] at this
          simpa using this c (by simpa using hc)
        have := h6 c hc
        simp only [Int.ofNat_eq_natCast]; omega
      · rw [List.map_map, ← hf.1]
        exact List.map_congr_left fun c _ => rfl

set_option maxHeartbeats 2000000
theorem fn_escaped {C : Cx} (hK : Kx C) (hH : C.H) {x : List UInt8} (hx : x.length ≤ 1000) {t : Tok} : Fn C 28 [.bytes x.toArray t] 1 [] fun v pr => pr = [] ∧ ∃ u, v = .bytes (esc x).toArray u := by
  refine Fn.of_body (binds := [(Str.ofString "octets", .bytes x.toArray t)]) (kLook hK rfl) (by rw [hK]; kernel_rfl) rfl ?_ ?_ rfl rfl rfl ?_
  · intro y hy; simp at hy; subst hy; rfl
  · decide
  · intro A L rest ok
    generalize hE : envX _ _ L _ _ _ = env
    have ev : Ev L env := by subst hE; exact ⟨rfl, rfl, rfl, rfl⟩
    show W C A L _ [(Str.ofString "octets", .bytes x.toArray t)] rest _
    repeat cell_call
    rename_i a
    refine wFor (fun _ => rfl) ?_
    repeat cell_call
    refine wIterBytes fun it o ho => ?_
    refine wForIter Iter.bytes ok.handled (fun i ls τ => SubL [(Str.ofString "found", .ref a)] ls ∧ τ = (a, baObj (esc (x.take i))) :: rest) (fun _ _ _ _ => trivial) ?_ ?_ ho ⟨.cons rfl .nil, rfl⟩
    · rintro i v ls τ p hi ⟨c, u, hc, rfl⟩ ⟨hs, rfl⟩
      refine W.locs hs ?_
      have hlen : (esc (x.take i)).length ≤ 4000 := by have := esc_len (x.take i); rw [List.length_take] at this; omega
      have hc' : c = x[i] := by rw [List.getElem?_eq_getElem hi] at hc; exact (Option.some.inj hc).symm
      have hlt := c.toNat_lt
      repeat cell_call
      refine iteD (fun h => ?_) fun h => ?_
      · skip
        have hyes : c.toNat < 32 ∨ c.toNat = 92 := by omega
        repeat cell_call
        refine wFor (fun _ => rfl) ?_
        repeat cell_call
        rename_i w6 w3 w0 tp
        refine wIterTup (by kbo_bools) fun it' o' ho' => ?_
        refine wForIter Iter.tup ok.handled (fun i' ls τ => SubL [(Str.ofString "found", .ref a), (Str.ofString "octet", .int (c.toNat : Int) u)] ls ∧
            τ = (tp, Og.tup [.int 6 w6, .int 3 w3, .int 0 w0]) :: p :: (a, baObj (esc (x.take i) ++ [92] ++ [(48 + c.toNat / 64).toUInt8, (48 + c.toNat / 8 % 8).toUInt8, (48 + c.toNat % 8).toUInt8].take i')) :: rest)
          (fun _ _ _ h => by rw [h.2]; exact List.mem_cons_self) ?_ ?_ ho' ⟨.cons rfl (.cons rfl .nil), by simp⟩
        · rintro i' v ls τ q hi' hv ⟨hs', rfl⟩
          refine W.locs hs' ?_
          have hcase : i' = 0 ∨ i' = 1 ∨ i' = 2 := by simp at hi'; omega
          have hlen2 : (esc (x.take i) ++ [92] ++ [(48 + c.toNat / 64).toUInt8, (48 + c.toNat / 8 % 8).toUInt8, (48 + c.toNat % 8).toUInt8].take i').length ≤ 5000 := by simp only [List.length_append, List.length_take, List.length_cons, List.length_nil]; omega
          rcases hcase with rfl | rfl | rfl
          · obtain rfl : v = .int 6 w6 := (Option.some.inj hv).symm
            repeat cell_call
            refine ⟨_, .refl, .cons rfl (.cons rfl .nil), ?_⟩
            have e : (48 + (c.toNat : Int) / 2 ^ (6 : Int).toNat % 8).toNat = 48 + c.toNat / 64 := by
              have : (2 : Int) ^ (6 : Int).toNat = 64 := rfl
              rw [this]; omega
            rw [e]; simp only [List.take_succ_cons, List.take_zero, List.append_assoc, List.cons_append, List.nil_append, List.append_nil]
          · obtain rfl : v = .int 3 w3 := (Option.some.inj hv).symm
            repeat cell_call
            refine ⟨_, .refl, .cons rfl (.cons rfl .nil), ?_⟩
            have e : (48 + (c.toNat : Int) / 2 ^ (3 : Int).toNat % 8).toNat = 48 + c.toNat / 8 % 8 := by
              have : (2 : Int) ^ (3 : Int).toNat = 8 := rfl
              rw [this]; omega
            rw [e]; simp only [List.take_succ_cons, List.take_zero, List.append_assoc, List.cons_append, List.nil_append, List.append_nil]
          · obtain rfl : v = .int 0 w0 := (Option.some.inj hv).symm
            repeat cell_call
            refine ⟨_, .refl, .cons rfl (.cons rfl .nil), ?_⟩
            have e : (48 + (c.toNat : Int) / 2 ^ (0 : Int).toNat % 8).toNat = 48 + c.toNat % 8 := by
              have : (2 : Int) ^ (0 : Int).toNat = 1 := rfl
              rw [this]; omega
            rw [e]; simp only [List.take_succ_cons, List.take_zero, List.append_assoc, List.cons_append, List.nil_append, List.append_nil]
        · rintro ls τ ⟨hs', rfl⟩
          repeat cell_call
          refine ⟨(a, baObj (esc (x.take (i + 1)))) :: rest, ?_, fun y w e => hs' y w (by revert e; exact SubL.cons rfl .nil y w), rfl⟩
          rw [esc_take x hi, ← hc']
          have e : esc (x.take i) ++ [92] ++ [(48 + c.toNat / 64).toUInt8, (48 + c.toNat / 8 % 8).toUInt8, (48 + c.toNat % 8).toUInt8].take [Value.int 6 w6, .int 3 w3, .int 0 w0].length = esc (x.take i) ++ esc1 c := by
            unfold esc1; rw [if_pos hyes, List.append_assoc]; rfl
          rw [e]
          keq_rows
      · repeat cell_call
        refine iteD (fun h => ?_) fun h => ?_
        · skip
          have hyes : c.toNat < 32 ∨ c.toNat = 92 := by omega
          repeat cell_call
          refine wFor (fun _ => rfl) ?_
          repeat cell_call
          rename_i w6 w3 w0 tp
          refine wIterTup (by kbo_bools) fun it' o' ho' => ?_
          refine wForIter Iter.tup ok.handled (fun i' ls τ => SubL [(Str.ofString "found", .ref a), (Str.ofString "octet", .int (c.toNat : Int) u)] ls ∧
              τ = (tp, Og.tup [.int 6 w6, .int 3 w3, .int 0 w0]) :: p :: (a, baObj (esc (x.take i) ++ [92] ++ [(48 + c.toNat / 64).toUInt8, (48 + c.toNat / 8 % 8).toUInt8, (48 + c.toNat % 8).toUInt8].take i')) :: rest)
            (fun _ _ _ h => by rw [h.2]; exact List.mem_cons_self) ?_ ?_ ho' ⟨.cons rfl (.cons rfl .nil), by simp⟩
          · rintro i' v ls τ q hi' hv ⟨hs', rfl⟩
            refine W.locs hs' ?_
            have hcase : i' = 0 ∨ i' = 1 ∨ i' = 2 := by simp at hi'; omega
            have hlen2 : (esc (x.take i) ++ [92] ++ [(48 + c.toNat / 64).toUInt8, (48 + c.toNat / 8 % 8).toUInt8, (48 + c.toNat % 8).toUInt8].take i').length ≤ 5000 := by simp only [List.length_append, List.length_take, List.length_cons, List.length_nil]; omega
            rcases hcase with rfl | rfl | rfl
            · obtain rfl : v = .int 6 w6 := (Option.some.inj hv).symm
              repeat cell_call
              refine ⟨_, .refl, .cons rfl (.cons rfl .nil), ?_⟩
              have e : (48 + (c.toNat : Int) / 2 ^ (6 : Int).toNat % 8).toNat = 48 + c.toNat / 64 := by
                have : (2 : Int) ^ (6 : Int).toNat = 64 := rfl
                rw [this]; omega
              rw [e]; simp only [List.take_succ_cons, List.take_zero, List.append_assoc, List.cons_append, List.nil_append, List.append_nil]
            · obtain rfl : v = .int 3 w3 := (Option.some.inj hv).symm
              repeat cell_call
              refine ⟨_, .refl, .cons rfl (.cons rfl .nil), ?_⟩
              have e : (48 + (c.toNat : Int) / 2 ^ (3 : Int).toNat % 8).toNat = 48 + c.toNat / 8 % 8 := by
                have : (2 : Int) ^ (3 : Int).toNat = 8 := rfl
                rw [this]; omega
              rw [e]; simp only [List.take_succ_cons, List.take_zero, List.append_assoc, List.cons_append, List.nil_append, List.append_nil]
            · obtain rfl : v = .int 0 w0 := (Option.some.inj hv).symm
              repeat cell_call
              refine ⟨_, .refl, .cons rfl (.cons rfl .nil), ?_⟩
              have e : (48 + (c.toNat : Int) / 2 ^ (0 : Int).toNat % 8).toNat = 48 + c.toNat % 8 := by
                have : (2 : Int) ^ (0 : Int).toNat = 1 := rfl
                rw [this]; omega
              rw [e]; simp only [List.take_succ_cons, List.take_zero, List.append_assoc, List.cons_append, List.nil_append, List.append_nil]
          · rintro ls τ ⟨hs', rfl⟩
            repeat cell_call
            refine ⟨(a, baObj (esc (x.take (i + 1)))) :: rest, ?_, fun y w e => hs' y w (by revert e; exact SubL.cons rfl .nil y w), rfl⟩
            rw [esc_take x hi, ← hc']
            have e : esc (x.take i) ++ [92] ++ [(48 + c.toNat / 64).toUInt8, (48 + c.toNat / 8 % 8).toUInt8, (48 + c.toNat % 8).toUInt8].take [Value.int 6 w6, .int 3 w3, .int 0 w0].length = esc (x.take i) ++ esc1 c := by
              unfold esc1; rw [if_pos hyes, List.append_assoc]; rfl
            rw [e]
            keq_rows
        · repeat cell_call
          refine ⟨_, .refl, .cons rfl .nil, ?_⟩
          rw [esc_take x hi, ← hc']
          unfold esc1
          rw [if_neg (by omega)]
          have : (c.toNat : Int).toNat.toUInt8 = c := by
            rw [Int.toNat_natCast]
            exact UInt8.ofNat_toNat
          rw [this]
    · rintro ls τ ⟨hs, rfl⟩
      have hlen := esc_len x
      refine W.locs hs ?_
      rw [List.take_length]
      repeat cell_call
      exact ends ⟨rfl, _, rfl⟩ (by keq_rows)

set_option maxHeartbeats 2000000
theorem fn_fitting {C : Cx} (hK : Kx C) (hH : C.H) {x : List UInt8} (hx : x.length ≤ 1000) {room : Int} {t u : Tok} : Fn C 35 [.bytes x.toArray t, .int room u] 2 [] fun v pr => pr = [] ∧ ∃ w, v = .int (fitG x room) w := by
  refine Fn.of_body (binds := [(Str.ofString "octets", .bytes x.toArray t), (Str.ofString "room", .int room u)]) (kLook hK rfl) (by rw [hK]; kernel_rfl) rfl ?_ ?_ rfl rfl rfl ?_
  · intro y hy; simp at hy; rcases hy with rfl | rfl <;> rfl
  · decide
  · intro A L rest ok
    generalize hE : envX _ _ L _ _ _ = env
    have ev : Ev L env := by subst hE; exact ⟨rfl, rfl, rfl, rfl⟩
    show W C A L _ [(Str.ofString "room", .int room u), (Str.ofString "octets", .bytes x.toArray t)] rest _
    repeat cell_call
    refine wWhileP (fun k ls σ => ∃ (m : Nat) (r : Int) (w1 w2 : Tok), m ≤ x.length ∧ k = x.length - m ∧ fitG x room = m + fitG (x.drop m) r ∧
      ls = [(Str.ofString "room", .int r w1), (Str.ofString "octets", .bytes x.toArray t), (Str.ofString "many", .int (m : Int) w2)] ∧ rest = σ) (n := x.length) ?_ ⟨0, room, u, _, Nat.zero_le _, rfl, by simp, rfl, rfl⟩
    rintro k ls σ ⟨m, r, w1, w2, hm, rfl, hfit, rfl, hσ⟩
    subst hσ
    repeat cell_call
    refine iteD (fun h => ?_) fun h => ?_
    · have hlt : m < x.length := by omega
      obtain ⟨c, d, hd, hd', hcut⟩ := drop_cons hlt
      have h4 := esc1_len c
      repeat cell_call
      refine wBSlice (by kbo_bools) (.int _ _) (.int _ _) (by omega) fun y => ?_
      rw [hcut]
      repeat cell_call
      refine wFn (fn_escaped hK hH (x := [c]) (by rw [List.length_singleton]; omega)) ok (by decide) .nil ?_
      rintro v pr ⟨rfl, y2, rfl⟩
      rw [esc_one]
      repeat cell_call
      refine iteD (fun h2 => ?_) fun h2 => ?_
      · repeat cell_call
        refine wBSlice (by kbo_bools) (.int _ _) (.int _ _) (by omega) fun y3 => ?_
        rw [hcut]
        repeat cell_call
        refine wFn (fn_escaped hK hH (x := [c]) (by rw [List.length_singleton]; omega)) ok (by decide) .nil ?_
        rintro v pr ⟨rfl, y4, rfl⟩
        rw [esc_one]
        repeat cell_call
        rw [hd, fitG_cons, if_pos h2] at hfit
        rw [← hd'] at hfit
        exact ⟨_, by omega, rest, by keq_rows, m + 1, _, _, _, by omega, rfl, by rw [hfit]; omega, rfl, rfl⟩
      · repeat cell_call
        rw [hd, fitG_cons, if_neg h2] at hfit
        exact ends ⟨rfl, _, by rw [hfit]; rfl⟩ (by keq_rows)
    · repeat cell_call
      have hd : x.drop m = [] := List.drop_eq_nil_of_le (by omega)
      rw [hd] at hfit
      exact ends ⟨rfl, _, by rw [hfit]; rfl⟩ (by keq_rows)

set_option maxHeartbeats 2000000
theorem fn_draw {C : Cx} (hK : Kx C) {w nl : Addr} {vs : List Value} {ns : List Int} {p i j : Nat} {m : Int} {pt t : Tok} (hi : IntsAre vs ns) (hp : p < 900) (hn : ns.length ≤ 100) (hm : 0 < m) :
    Fn C 146 [.ref w, .int m t] 1 [(w, lst [.ref nl, .int p pt] i), (nl, lst vs j)] fun v pr => (∃ u, v = .int (drawV ns p m) u) ∧ ∃ pt', pr = [(w, lst [.ref nl, .int (p + 1 : Nat) pt'] i), (nl, lst vs j)] := by
  refine Fn.of_body (binds := [(Str.ofString "well", .ref w), (Str.ofString "many", .int m t)]) (kLook hK rfl) (by rw [hK]; kernel_rfl) rfl ?_ ?_ rfl rfl rfl ?_
  · intro y hy; simp at hy; rcases hy with rfl | rfl <;> rfl
  · decide
  · intro A L rest ok
    generalize hE : envX _ _ L _ _ _ = env
    have ev : Ev L env := by subst hE; exact ⟨rfl, rfl, rfl, rfl⟩
    show W C A L _ [(Str.ofString "many", .int m t), (Str.ofString "well", .ref w)] ((w, lst [.ref nl, .int p pt] i) :: (nl, lst vs j) :: rest) _
    have hl := hi.length
    repeat cell_call
    rw [show (p : Int) + 1 = ((p + 1 : Nat) : Int) from rfl]
    refine wListSet (k := 1) .here (by decide) (by decide) (by exact rfl) ?_
    repeat cell_call
    refine iteD (fun h => ?_) fun h => ?_
    · repeat cell_call
      have hlt : p < vs.length := by omega
      have hlt' : p < ns.length := by omega
      obtain ⟨z, hz⟩ := ints_at hi hlt'
      refine wListGet (by kbo_bools) (by omega) (by omega) (x := .int (ns[p]'hlt') z) (by simpa using hz) ?_
      repeat cell_call
      exact ends ⟨⟨_, by rw [drawV_lt hlt']⟩, _, rfl⟩ (by keq_rows)
    · repeat cell_call
      refine wMulS (by omega) fun t1 => ?_
      repeat cell_call
      refine wMulS (by omega) fun t2 => ?_
      repeat cell_call
      exact ends ⟨⟨_, by rw [drawV_ge (by omega)]⟩, _, rfl⟩ (by keq_rows)

set_option maxHeartbeats 2000000
theorem fn_lrow {C : Cx} (hK : Kx C) {pane : Nat} {x : List UInt8} {age : Option Nat} {av : Value} (hp : pane < 100) (hx : x.length ≤ 1000) (ha : ∀ a, age = some a → a < 100) (hav : isAge av age) {t u : Tok} :
    Fn C 158 [.int pane t, .bytes x.toArray u, av] 2 [] fun v pr => pr = [] ∧ ∃ u, v = .bytes (rowB pane x age).toArray u := by
  refine Fn.of_body (binds := [(Str.ofString "pane", .int pane t), (Str.ofString "octets", .bytes x.toArray u), (Str.ofString "age", av)]) (kLook hK rfl) (by rw [hK]; kernel_rfl) rfl ?_ ?_ rfl rfl rfl ?_
  · intro y hy; simp at hy; rcases hy with rfl | rfl | rfl <;> rfl
  · decide
  · intro A L rest ok
    generalize hE : envX _ _ L _ _ _ = env
    have ev : Ev L env := by subst hE; exact ⟨rfl, rfl, rfl, rfl⟩
    show W C A L _ [(Str.ofString "age", av), (Str.ofString "octets", .bytes x.toArray u), (Str.ofString "pane", .int pane t)] rest _
    repeat cell_call
    rename_i a
    refine wFor (fun _ => rfl) ?_
    repeat cell_call
    refine wIterBytes fun it o ho => ?_
    refine wForIter Iter.bytes ok.handled (fun i ls τ => SubL [(Str.ofString "age", av), (Str.ofString "octets", .bytes x.toArray u), (Str.ofString "pane", .int pane t), (Str.ofString "text", .ref a)] ls ∧
      ∃ vs n, IntsAre vs ((esc (x.take i)).map fun c => (c.toNat : Int)) ∧ τ = (a, lst vs n) :: rest) (fun _ _ _ _ => trivial) ?_ ?_ ho ⟨.cons rfl (.cons rfl (.cons rfl (.cons rfl .nil))), _, _, .nil, rfl⟩
    · rintro i v ls τ p hi ⟨c, w, hc, rfl⟩ ⟨hs, vs, n, hvs, rfl⟩
      refine W.locs hs ?_
      have hlv : vs.length ≤ 4000 := by
        have h1 := hvs.length
        have h2 := esc_len (x.take i)
        rw [List.length_map] at h1; rw [List.length_take] at h2; omega
      have hc' : c = x[i] := by rw [List.getElem?_eq_getElem hi] at hc; exact (Option.some.inj hc).symm
      have het := esc_take x hi
      rw [← hc'] at het
      clear hc'
      have hlt := c.toNat_lt
      repeat cell_call
      refine iteD (fun h => ?_) fun h => ?_
      · skip
        repeat cell_call
        refine wExtend (.there (.there .here)) (by kbo_bools) (by simp only [ne_eq, reduceCtorEq, not_false_eq_true]) (by simp only [List.length_cons, List.length_nil]; omega) ?_
        repeat cell_call
        refine ⟨(a, lst _ _) :: rest, by keq_rows, .cons rfl (.cons rfl (.cons rfl (.cons rfl .nil))), _, _, ?_, rfl⟩
        rw [het, List.map_append]
        refine hvs.append ?_
        unfold esc1
        rw [if_pos (by omega)]
        have e1 : (48 + c.toNat / 64).toUInt8.toNat = 48 + c.toNat / 64 := by rw [UInt8.toNat_ofNat']; omega
        have e2 : (48 + c.toNat / 8 % 8).toUInt8.toNat = 48 + c.toNat / 8 % 8 := by rw [UInt8.toNat_ofNat']; omega
        have e3 : (48 + c.toNat % 8).toUInt8.toNat = 48 + c.toNat % 8 := by rw [UInt8.toNat_ofNat']; omega
        simp only [List.map_cons, List.map_nil, e1, e2, e3]
        exact .cons _ _ (.cons _ _ (.cons _ _ (.cons _ _ .nil)))
      · repeat cell_call
        refine iteD (fun h => ?_) fun h => ?_
        · skip
          repeat cell_call
          refine wExtend (.there (.there .here)) (by kbo_bools) (by simp only [ne_eq, reduceCtorEq, not_false_eq_true]) (by simp only [List.length_cons, List.length_nil]; omega) ?_
          repeat cell_call
          refine ⟨(a, lst _ _) :: rest, by keq_rows, .cons rfl (.cons rfl (.cons rfl (.cons rfl .nil))), _, _, ?_, rfl⟩
          rw [het, List.map_append]
          refine hvs.append ?_
          unfold esc1
          rw [if_pos (by omega)]
          have e1 : (48 + c.toNat / 64).toUInt8.toNat = 48 + c.toNat / 64 := by rw [UInt8.toNat_ofNat']; omega
          have e2 : (48 + c.toNat / 8 % 8).toUInt8.toNat = 48 + c.toNat / 8 % 8 := by rw [UInt8.toNat_ofNat']; omega
          have e3 : (48 + c.toNat % 8).toUInt8.toNat = 48 + c.toNat % 8 := by rw [UInt8.toNat_ofNat']; omega
          simp only [List.map_cons, List.map_nil, e1, e2, e3]
          exact .cons _ _ (.cons _ _ (.cons _ _ (.cons _ _ .nil)))
        · repeat cell_call
          refine ⟨_, .refl, .cons rfl (.cons rfl (.cons rfl (.cons rfl .nil))), _, _, ?_, rfl⟩
          rw [het, List.map_append]
          refine hvs.append ?_
          unfold esc1
          rw [if_neg (by omega)]
          exact .cons _ _ .nil
    · rintro ls τ ⟨hs, vs, n, hvs, rfl⟩
      rw [List.take_length] at hvs
      refine W.locs hs ?_
      repeat cell_call
      refine wFn (fn_figures hK hp) ok (by decide) .nil ?_
      rintro v pr ⟨rfl, w1, rfl⟩
      have hd := dig_len pane
      have hbytes : ∀ (σ : Led) (ls : Loc) (Q : Value → Loc → Led → Prop), (a, lst vs n) ∈ σ → (∀ t, Q (.bytes (esc x).toArray t) ls σ) → W C A L (call (.type "bytes") [.ref a]) ls σ Q := by
        intro σ ls Q hm hq
        have h2 := esc_len x
        refine wBytesInts' hm ok.handled hvs ?_ (le_line (by rw [hvs.length, List.length_map]; omega)) ?_ hq
        · intro y hy
          obtain ⟨c, _, rfl⟩ := List.mem_map.mp hy
          have := c.toNat_lt
          omega
        · rw [List.map_map]
          refine (List.map_congr_left fun c _ => ?_).trans (List.map_id _)
          show ((c.toNat : Int).toNat).toUInt8 = c
          rw [Int.toNat_natCast]
          exact UInt8.ofNat_toNat
      have hesc := esc_len x
      repeat cell_call
      cases age with
      | none =>
        obtain rfl : av = .none := hav
        refine iteB (fun h => absurd h (by decide)) fun _ => ?_
        repeat cell_call
        refine hbytes _ _ _ (by kbo_bools) fun t3 => ?_
        repeat cell_call
        exact ends ⟨rfl, _, rfl⟩ (by keq_rows)
      | some ag =>
        obtain ⟨tt, rfl⟩ := hav
        have hag := ha ag rfl
        have hda := dig_len ag
        refine iteB (fun _ => ?_) fun h => by rw [show (Value.int (ag : Int) tt == Value.none) = false from rfl] at h; cases h
        repeat cell_call
        refine wFn (fn_figures hK hp) ok (by decide) .nil ?_
        rintro v pr ⟨rfl, w2, rfl⟩
        repeat cell_call
        refine wFn (fn_figures hK hag) ok (by decide) .nil ?_
        rintro v pr ⟨rfl, w3, rfl⟩
        repeat cell_call
        refine hbytes _ _ _ (by kbo_bools) fun t3 => ?_
        repeat cell_call
        exact ends ⟨rfl, _, rfl⟩ (by keq_rows)

set_option maxHeartbeats 2000000
theorem fn_initW {C : Cx} (hK : Kx C) {x dx : Addr} {a b c : Value} : Fn C 63 [.ref x, a, b, c] 1 [(x, instObj 66 dx), (dx, dictOf [] 0)] fun v pr => v = .none ∧ ∃ t1 t2 t3, pr = [(x, instObj 66 dx), (dx, waitD C.w.params t1 t2 t3 a b c)] := by
  refine Fn.of_body (binds := [(Str.ofString "self", .ref x), (Str.ofString "pane", a), (Str.ofString "octets", b), (Str.ofString "time", c)]) (kLook hK rfl) (by rw [hK]; kernel_rfl) rfl ?_ ?_ rfl rfl rfl ?_
  · intro y hy; simp at hy; rcases hy with rfl | rfl | rfl | rfl <;> rfl
  · decide
  · intro A L rest ok
    generalize hE : envX _ _ L _ _ _ = env
    have ev : Ev L env := by subst hE; exact ⟨rfl, rfl, rfl, rfl⟩
    show W C A L _ [(Str.ofString "time", c), (Str.ofString "octets", b), (Str.ofString "pane", a), (Str.ofString "self", .ref x)] ((x, instObj 66 dx) :: (dx, dictOf [] 0) :: rest) _
    repeat cell_call
    refine wSNew (es := []) (n := 0) (by kbo_bools) (c66_set hK) (c66_over hK) (c66_take_pane hK) (c66_dict hK) rfl (by decide) (fun _ _ => rfl) rfl fun t1 => ⟨_, .there .here, ?_⟩
    repeat cell_call
    refine wSNew (es := [fld C.w.params (Str.ofString "pane") t1 a]) (n := 1) (by kbo_bools) (c66_set hK) (c66_over hK) (c66_take_octets hK) (c66_dict hK) rfl (by simp only [List.length_cons, List.length_nil]; decide) (fun _ _ => rfl) rfl fun t2 => ⟨_, .there .here, ?_⟩
    repeat cell_call
    refine wSNew (es := [fld C.w.params (Str.ofString "pane") t1 a, fld C.w.params (Str.ofString "octets") t2 b]) (n := 2) (by kbo_bools) (c66_set hK) (c66_over hK) (c66_take_time hK) (c66_dict hK) rfl (by simp only [List.length_cons, List.length_nil]; decide) (fun _ _ => rfl) rfl fun t3 => ⟨_, .there .here, ?_⟩
    repeat cell_call
    exact endsN (pr := [(x, instObj 66 dx), (dx, waitD C.w.params t1 t2 t3 a b c)]) ⟨rfl, t1, t2, t3, rfl⟩ .refl
/-- A new waiting entry. -/
theorem wNewWait {C : Cx} {A : Around} {L : Addr} {ls : Loc} {σ : Led} {Q : Value → Loc → Led → Prop} (hK : Kx C) {n : Nat} (ok : Ok A n) (hn : 2 ≤ n) {a b c : Value} (h : ∀ x dx t1 t2 t3, Q (.ref x) ls ((x, instObj 66 dx) :: (dx, waitD C.w.params t1 t2 t3 a b c) :: σ)) :
    W C A L (call (.ref 66) [a, b, c]) ls σ Q :=
  wMake (k := 1) (post := fun x dx pr => ∃ t1 t2 t3, pr = [(x, instObj 66 dx), (dx, waitD C.w.params t1 t2 t3 a b c)]) (ok.less hn) (c66_make hK) (c66_init hK) (f63 hK) (fun x dx => fn_initW (C := C.soft) hK) fun x dx pr ⟨t1, t2, t3, e⟩ => by subst e; exact h _ _ _ _ _
theorem fn_initF {C : Cx} (hK : Kx C) {x dx : Addr} : Fn C 84 [.ref x] 1 [(x, instObj 134 dx), (dx, dictOf [] 0)] fun v pr => v = .none ∧ ∃ t1 t2 t3 t4 t5 wl pd po od oo, pr = [(x, instObj 134 dx), (dx, flowD C.w.params t1 t2 t3 t4 t5 (.ref wl) .none (.bool false) (.ref pd) (.ref od)), (pd, po), (od, oo), (wl, lst [] 0)] ∧
    (pd == sysModules) = false ∧ (od == sysModules) = false ∧ po.IsDictOf (intKind C.prog C.w) (kvT []) ∧ oo.IsDictOf (intKind C.prog C.w) (kvT []) := by
  refine Fn.of_body (binds := [(Str.ofString "self", .ref x)]) (kLook hK rfl) (by rw [hK]; kernel_rfl) rfl ?_ ?_ rfl rfl rfl ?_
  · intro y hy; simp at hy; subst hy; rfl
  · decide
  · intro A L rest ok
    generalize hE : envX _ _ L _ _ _ = env
    have ev : Ev L env := by subst hE; exact ⟨rfl, rfl, rfl, rfl⟩
    show W C A L _ [(Str.ofString "self", .ref x)] ((x, instObj 134 dx) :: (dx, dictOf [] 0) :: rest) _
    repeat cell_call
    rename_i wl
    refine wSNew (es := []) (n := 0) (by kbo_bools) (c134_set hK) (c134_over hK) (c134_take_waiting hK) (c134_dict hK) rfl (by decide) (fun _ _ => rfl) rfl fun t1 => ⟨_, .there (.there .here), ?_⟩
    repeat cell_call
    refine wSNew (es := [fld C.w.params (Str.ofString "waiting") t1 (.ref wl)]) (n := 1) (by kbo_bools) (c134_set hK) (c134_over hK) (c134_take_most_age hK) (c134_dict hK) rfl (by simp only [List.length_cons, List.length_nil]; decide) (fun _ _ => rfl) rfl fun t2 => ⟨_, .there (.there .here), ?_⟩
    repeat cell_call
    refine wSNew (es := [fld C.w.params (Str.ofString "waiting") t1 (.ref wl), fld C.w.params (Str.ofString "most_age") t2 .none]) (n := 2) (by kbo_bools) (c134_set hK) (c134_over hK) (c134_take_is_silent hK) (c134_dict hK) rfl (by simp only [List.length_cons, List.length_nil]; decide) (fun _ _ => rfl) rfl fun t3 => ⟨_, .there (.there .here), ?_⟩
    repeat cell_call
    refine wDNew (knd := intKind C.prog C.w) fun pd po lo1 hd1 => ?_
    repeat cell_call
    refine wSNew (es := [fld C.w.params (Str.ofString "waiting") t1 (.ref wl), fld C.w.params (Str.ofString "most_age") t2 .none, fld C.w.params (Str.ofString "is_silent") t3 (.bool false)]) (n := 3) (by kbo_bools) (c134_set hK) (c134_over hK) (c134_take_paused hK) (c134_dict hK) rfl (by simp only [List.length_cons, List.length_nil]; decide) (fun _ _ => rfl) rfl fun t4 => ⟨_, .there (.there (.there .here)), ?_⟩
    repeat cell_call
    refine wDNew (knd := intKind C.prog C.w) fun od oo lo2 hd2 => ?_
    repeat cell_call
    refine wSNew (es := [fld C.w.params (Str.ofString "waiting") t1 (.ref wl), fld C.w.params (Str.ofString "most_age") t2 .none, fld C.w.params (Str.ofString "is_silent") t3 (.bool false), fld C.w.params (Str.ofString "paused") t4 (.ref pd)]) (n := 4) (by kbo_bools) (c134_set hK) (c134_over hK) (c134_take_off hK) (c134_dict hK) rfl (by simp only [List.length_cons, List.length_nil]; decide) (fun _ _ => rfl) rfl fun t5 => ⟨_, .there (.there (.there (.there .here))), ?_⟩
    repeat cell_call
    refine endsN (pr := [(x, instObj 134 dx), (dx, flowD C.w.params t1 t2 t3 t4 t5 (.ref wl) .none (.bool false) (.ref pd) (.ref od)), (pd, po), (od, oo), (wl, lst [] 0)]) ⟨rfl, t1, t2, t3, t4, t5, wl, pd, po, od, oo, rfl, lo1, lo2, hd1, hd2⟩ ?_
    show Part ((x, instObj 134 dx) :: (dx, dictOf ([fld C.w.params (Str.ofString "waiting") t1 (.ref wl), fld C.w.params (Str.ofString "most_age") t2 .none, fld C.w.params (Str.ofString "is_silent") t3 (.bool false), fld C.w.params (Str.ofString "paused") t4 (.ref pd)] ++ [fld C.w.params (Str.ofString "off") t5 (.ref od)]) (4 + 1)) :: (pd, po) :: (od, oo) :: (wl, lst [] 0) :: rest) _
    keq_rows

set_option maxHeartbeats 2000000
theorem fn_put {C : Cx} (hK : Kx C) {f : FL} {a : FA} (hf : f.Says C a) {pane time : Nat} {oct : List UInt8} {t1 t2 t3 : Tok} (hz : f.ws.length ≤ 1000) :
    Fn C 91 [.ref f.x, .int pane t1, .bytes oct.toArray t2, .int time t3] 3 (f.led C.w.params) fun v pr => v = .none ∧ ∃ f' : FL, pr = f'.led C.w.params ∧ f'.x = f.x ∧
      f'.Says C { a with ws := if a.silent = false ∧ (pane : Int) ∉ a.paused ∧ (pane : Int) ∉ a.off ∧ oct ≠ [] then a.ws ++ [(pane, oct, time)] else a.ws } := by
  obtain ⟨aws, aage, asil, apau, aoff⟩ := a
  obtain ⟨x, dx, k1, k2, k3, k4, k5, wl, wn, ws, agv, silent, pd, po, paused, od, oo, off⟩ := f
  obtain ⟨⟨lp, lo, dp, dof⟩, hws, hage, hsil, hpau, hoff⟩ := hf
  dsimp only at lp lo dp dof hws hage hsil hpau hoff hz
  subst hws hsil hpau hoff
  refine Fn.of_body (binds := [(Str.ofString "self", .ref x), (Str.ofString "pane", .int pane t1), (Str.ofString "octets", .bytes oct.toArray t2), (Str.ofString "time", .int time t3)]) (kLook hK rfl) (by rw [hK]; kernel_rfl) rfl ?_ ?_ rfl rfl rfl ?_
  · intro y hy; simp at hy; rcases hy with rfl | rfl | rfl | rfl <;> rfl
  · decide
  · intro A L rest ok
    generalize hE : envX _ _ L _ _ _ = env
    have ev : Ev L env := by subst hE; exact ⟨rfl, rfl, rfl, rfl⟩
    show W C A L _ [(Str.ofString "time", .int time t3), (Str.ofString "octets", .bytes oct.toArray t2), (Str.ofString "pane", .int pane t1), (Str.ofString "self", .ref x)]
      ((x, instObj 134 dx) :: (dx, flowD C.w.params k1 k2 k3 k4 k5 (.ref wl) agv (.bool silent) (.ref pd) (.ref od)) :: (pd, po) :: (od, oo) :: (wl, lst (refs ws) wn) :: (wrs C.w.params ws ++ rest)) _
    have hlen : (refs ws).length ≤ 1000 := by unfold refs; rw [List.length_map]; exact hz
    have out : ∀ ls, ¬ (silent = false ∧ (pane : Int) ∉ paused ∧ (pane : Int) ∉ off ∧ oct ≠ []) → Ends (fun v pr => v = .none ∧ ∃ f' : FL, pr = f'.led C.w.params ∧ f'.x = x ∧
        f'.Says C { ws := if silent = false ∧ (pane : Int) ∉ paused ∧ (pane : Int) ∉ off ∧ oct ≠ [] then ws.map WR.says ++ [(pane, oct, time)] else ws.map WR.says, age := aage, silent := silent, paused := paused, off := off }) rest .next ls
        ((x, instObj 134 dx) :: (dx, flowD C.w.params k1 k2 k3 k4 k5 (.ref wl) agv (.bool silent) (.ref pd) (.ref od)) :: (pd, po) :: (od, oo) :: (wl, lst (refs ws) wn) :: (wrs C.w.params ws ++ rest)) := by
      intro ls hno
      refine endsN ⟨rfl, ⟨x, dx, k1, k2, k3, k4, k5, wl, wn, ws, agv, silent, pd, po, paused, od, oo, off⟩, rfl, rfl, ⟨lp, lo, dp, dof⟩, ?_, hage, rfl, rfl, rfl⟩ .refl
      rw [if_neg hno]
    repeat cell_call
    refine iteB (fun h1 => ?_) fun h1 => ?_
    · have h1 : silent = false := by simpa using h1
      repeat cell_call
      refine iteD (fun h2 => ?_) fun h2 => ?_
      · repeat cell_call
        refine iteD (fun h3 => ?_) fun h3 => ?_
        · repeat cell_call
          refine iteD (fun h4 => ?_) fun h4 => ?_
          · repeat cell_call
            refine wNewWait hK ok (by decide) fun r dr q1 q2 q3 => ?_
            repeat cell_call
            refine endsN ⟨rfl, ⟨x, dx, k1, k2, k3, k4, k5, wl, wn + 1, ws ++ [⟨r, dr, q1, q2, q3, pane, t1, oct, t2, time, t3⟩], agv, silent, pd, po, paused, od, oo, off⟩, rfl, rfl, ⟨lp, lo, dp, dof⟩, ?_, hage, rfl, rfl, rfl⟩ ?_
            · rw [if_pos ⟨h1, h2, h3, h4⟩, List.map_append]; rfl
            · show Part ((x, instObj 134 dx) :: (dx, flowD C.w.params k1 k2 k3 k4 k5 (.ref wl) agv (.bool silent) (.ref pd) (.ref od)) :: (pd, po) :: (od, oo) :: (wl, lst (refs (ws ++ [⟨r, dr, q1, q2, q3, pane, t1, oct, t2, time, t3⟩])) (wn + 1)) :: (wrs C.w.params (ws ++ [⟨r, dr, q1, q2, q3, pane, t1, oct, t2, time, t3⟩]) ++ rest)) _
              rw [refs_snoc, wrs_snoc]
              simp only [WR.dict]
              keq_rows
          · repeat cell_call
            exact out _ fun h => h4 h.2.2.2
        · repeat cell_call
          exact out _ fun h => h3 h.2.2.1
      · repeat cell_call
        exact out _ fun h => h2 h.2.1
    · repeat cell_call
      exact out _ fun h => by rw [h.1] at h1; cases h1

set_option maxHeartbeats 2000000
theorem fn_leave {C : Cx} (hK : Kx C) {f : FL} {a : FA} (hf : f.Says C a) {pane : Nat} {t1 : Tok} (hz : f.ws.length ≤ 1000) :
    Fn C 96 [.ref f.x, .int pane t1] 1 (f.led C.w.params) fun v pr => v = .none ∧ ∃ f' : FL, pr = f'.led C.w.params ++ wrs C.w.params (f.ws.filter fun r => !decide (r.pane ≠ pane)) ∧ f'.x = f.x ∧ f'.Says C { a with ws := a.ws.filter (·.1 ≠ pane) } := by
  obtain ⟨aws, aage, asil, apau, aoff⟩ := a
  obtain ⟨x, dx, k1, k2, k3, k4, k5, wl, wn, ws, agv, silent, pd, po, paused, od, oo, off⟩ := f
  obtain ⟨⟨lp, lo, dp, dof⟩, hws, hage, hsil, hpau, hoff⟩ := hf
  dsimp only at lp lo dp dof hws hage hsil hpau hoff hz
  subst hws hsil hpau hoff
  refine Fn.of_body1 (z := Str.ofString "pane") (v₀ := some (.int pane t1)) (ls' := [(Str.ofString "self", .ref x)]) (binds := [(Str.ofString "self", .ref x), (Str.ofString "pane", .int pane t1)]) (kLook hK rfl) (by rw [hK]; kernel_rfl) rfl rfl rfl rfl (fun _ => rfl) ?_ rfl rfl ?_
  · intro y hy; simp at hy; rcases hy with rfl | rfl
    · exact .inl rfl
    · exact .inr ⟨rfl, rfl⟩
  · intro A L c oc rest ok hc
    generalize hE : envX _ _ L _ _ _ = env
    have ev : Ev L env := by subst hE; exact ⟨rfl, rfl, rfl, rfl⟩
    show W C A L _ _ ((c, oc) :: (x, instObj 134 dx) :: (dx, flowD C.w.params k1 k2 k3 k4 k5 (.ref wl) agv (.bool silent) (.ref pd) (.ref od)) :: (pd, po) :: (od, oo) :: (wl, lst (refs ws) wn) :: (wrs C.w.params ws ++ rest)) _
    repeat cell_call
    refine wListComp (cl := [(Str.ofString "pane", c)]) ⟨by subst hE; rfl, by decide, rfl, by decide, rfl, fun _ => rfl⟩ ev ok.handled ?_
    repeat cell_call
    refine wIterList (by kbo_bools) fun it o ho => ⟨rfl, ⟨it, _, _, _, _, _, o, fun i ys τ => τ = (c, oc) :: (x, instObj 134 dx) :: (dx, flowD C.w.params k1 k2 k3 k4 k5 (.ref wl) agv (.bool silent) (.ref pd) (.ref od)) :: (pd, po) :: (od, oo) :: (wl, lst (refs ws) wn) :: (wrs C.w.params ws ++ rest) ∧
        ys = refs ((ws.take i).filter (·.pane ≠ pane)), rfl, rfl, ho, Iter.list (vs := refs ws) (n := wn), ?_, ?_, ⟨rfl, rfl⟩, ?_, ?_⟩⟩
    · exact le_line (by unfold refs; rw [List.length_map]; omega)
    · rintro i ys τ ⟨rfl, _⟩
      kbo_bools
    · rintro i v ys τ J L' ev' hi hv ⟨rfl, rfl⟩
      obtain ⟨r, hmem, htake, rfl⟩ := refs_get hv
      have hm1 := (wrs_mem (P := C.w.params) hmem).1
      have hm2 : (r.dx, waitD C.w.params r.t1 r.t2 r.t3 (.int r.pane r.pt) (.bytes r.oct.toArray r.ot) (.int r.time r.tt)) ∈ wrs C.w.params ws := (wrs_mem hmem).2
      refine wTests1 ?_
      repeat cell_call
      refine iteD (fun h => ?_) fun h => ?_
      · repeat cell_call
        refine ⟨_, .refl, rfl, ?_⟩
        rw [htake, List.filter_append, refs_append, List.filter_cons_of_pos (by simp only [ne_eq, decide_not, Bool.not_eq_true', decide_eq_false_iff_not]; omega)]
        rfl
      · refine ⟨_, .refl, rfl, ?_⟩
        rw [htake, List.filter_append, refs_append, List.filter_cons_of_neg (by simp only [ne_eq, decide_not, Bool.not_eq_true', decide_eq_false_iff_not]; omega)]
        simp [refs]
    · rintro ys τ D m ⟨rfl, rfl⟩
      rw [List.take_of_length_le (by rw [refs_length]; exact Nat.le_refl _)]
      repeat cell_call
      refine endsN ⟨rfl, ⟨x, dx, k1, k2, k3, k4, k5, D, m, ws.filter (·.pane ≠ pane), agv, silent, pd, po, paused, od, oo, off⟩, rfl, rfl, ⟨lp, lo, dp, dof⟩, says_filter ws pane, hage, rfl, rfl, rfl⟩ ?_
      refine Part.trans (τ := (x, instObj 134 dx) :: (dx, flowD C.w.params k1 k2 k3 k4 k5 (.ref D) agv (.bool silent) (.ref pd) (.ref od)) :: (pd, po) :: (od, oo) :: (D, lst (refs (ws.filter (·.pane ≠ pane))) m) :: (wrs C.w.params ws ++ rest)) ?_ (by keq_rows)
      rw [List.append_assoc]
      exact .cons .here (.cons .here (.cons .here (.cons .here (.cons .here (split2 _ _ _ _)))))

set_option maxHeartbeats 2000000
theorem fn_pause {C : Cx} (hK : Kx C) {f : FL} {a : FA} (hf : f.Says C a) {pane : Nat} {t1 : Tok} (hz : f.ws.length ≤ 1000) (hp : f.paused.length ≤ 900) :
    Fn C 103 [.ref f.x, .int pane t1] 2 (f.led C.w.params) fun v pr => v = .bool (decide ((pane : Int) ∉ a.paused)) ∧ ∃ (f' : FL) (gone : List WR), pr = f'.led C.w.params ++ wrs C.w.params gone ∧ ((pane : Int) ∉ a.paused → gone = f.ws.filter fun r => !decide (r.pane ≠ pane)) ∧ f'.x = f.x ∧
      f'.Says C (if (pane : Int) ∈ a.paused then a else { a with ws := a.ws.filter (·.1 ≠ pane), paused := putK a.paused pane }) := by
  obtain ⟨aws, aage, asil, apau, aoff⟩ := a
  obtain ⟨x, dx, k1, k2, k3, k4, k5, wl, wn, ws, agv, silent, pd, po, paused, od, oo, off⟩ := f
  obtain ⟨⟨lp, lo, dp, dof⟩, hws, hage, hsil, hpau, hoff⟩ := hf
  dsimp only at lp lo dp dof hws hage hsil hpau hoff hz hp
  subst hws hsil hpau hoff
  refine Fn.of_body (binds := [(Str.ofString "self", .ref x), (Str.ofString "pane", .int pane t1)]) (kLook hK rfl) (by rw [hK]; kernel_rfl) rfl ?_ ?_ rfl rfl rfl ?_
  · intro y hy; simp at hy; rcases hy with rfl | rfl <;> rfl
  · decide
  · intro A L rest ok
    generalize hE : envX _ _ L _ _ _ = env
    have ev : Ev L env := by subst hE; exact ⟨rfl, rfl, rfl, rfl⟩
    show W C A L _ [(Str.ofString "pane", .int pane t1), (Str.ofString "self", .ref x)]
      ((x, instObj 134 dx) :: (dx, flowD C.w.params k1 k2 k3 k4 k5 (.ref wl) agv (.bool silent) (.ref pd) (.ref od)) :: (pd, po) :: (od, oo) :: (wl, lst (refs ws) wn) :: (wrs C.w.params ws ++ rest)) _
    repeat cell_call
    refine iteD (fun h => ?_) fun h => ?_
    · repeat cell_call
      refine ends ⟨by rw [decide_eq_false (by simpa using h)], ⟨x, dx, k1, k2, k3, k4, k5, wl, wn, ws, agv, silent, pd, po, paused, od, oo, off⟩, [], (List.append_nil _).symm, fun hh => absurd h hh, rfl, ?_⟩ .refl
      rw [if_pos h]
      exact ⟨⟨lp, lo, dp, dof⟩, rfl, hage, rfl, rfl, rfl⟩
    · repeat cell_call
      refine wDSetT dp (by omega) fun po' => ⟨_, by kbo_bools, fun dp' => ?_⟩
      repeat cell_call
      refine wFn (fn_leave hK (f := ⟨x, dx, k1, k2, k3, k4, k5, wl, wn, ws, agv, silent, pd, po', putK paused pane, od, oo, off⟩) (a := { ws := ws.map WR.says, age := aage, silent := silent, paused := putK paused pane, off := off }) ⟨⟨lp, lo, dp', dof⟩, rfl, hage, rfl, rfl, rfl⟩ hz) ok (by decide) (rest := rest) ?_ ?_
      · show Rem ((x, instObj 134 dx) :: (dx, flowD C.w.params k1 k2 k3 k4 k5 (.ref wl) agv (.bool silent) (.ref pd) (.ref od)) :: (pd, po') :: (od, oo) :: (wl, lst (refs ws) wn) :: wrs C.w.params ws) _ _
        keq_rows
      · rintro v pr ⟨rfl, f', rfl, hx, hs⟩
        repeat cell_call
        refine ends ⟨by rw [decide_eq_true h], f', _, rfl, fun _ => rfl, hx, ?_⟩ .refl
        rw [if_neg h]
        exact hs

set_option maxHeartbeats 2000000
theorem fn_go_on {C : Cx} (hK : Kx C) {f : FL} {a : FA} (hf : f.Says C a) {pane : Nat} {t1 : Tok} (hp : f.paused.length ≤ 900) :
    Fn C 110 [.ref f.x, .int pane t1] 1 (f.led C.w.params) fun v pr => v = .bool (decide ((pane : Int) ∈ a.paused)) ∧ ∃ f' : FL, pr = f'.led C.w.params ∧ f'.x = f.x ∧
      f'.Says C { a with paused := a.paused.filter (· ≠ (pane : Int)) } := by
  obtain ⟨aws, aage, asil, apau, aoff⟩ := a
  obtain ⟨x, dx, k1, k2, k3, k4, k5, wl, wn, ws, agv, silent, pd, po, paused, od, oo, off⟩ := f
  obtain ⟨⟨lp, lo, dp, dof⟩, hws, hage, hsil, hpau, hoff⟩ := hf
  dsimp only at lp lo dp dof hws hage hsil hpau hoff hp
  subst hws hsil hpau hoff
  refine Fn.of_body (binds := [(Str.ofString "self", .ref x), (Str.ofString "pane", .int pane t1)]) (kLook hK rfl) (by rw [hK]; kernel_rfl) rfl ?_ ?_ rfl rfl rfl ?_
  · intro y hy; simp at hy; rcases hy with rfl | rfl <;> rfl
  · decide
  · intro A L rest ok
    generalize hE : envX _ _ L _ _ _ = env
    have ev : Ev L env := by subst hE; exact ⟨rfl, rfl, rfl, rfl⟩
    show W C A L _ [(Str.ofString "pane", .int pane t1), (Str.ofString "self", .ref x)]
      ((x, instObj 134 dx) :: (dx, flowD C.w.params k1 k2 k3 k4 k5 (.ref wl) agv (.bool silent) (.ref pd) (.ref od)) :: (pd, po) :: (od, oo) :: (wl, lst (refs ws) wn) :: (wrs C.w.params ws ++ rest)) _
    repeat cell_call
    by_cases h : (pane : Int) ∈ paused
    · refine wDPopT (.inr ⟨_, rfl⟩) dp (by omega) h fun po' => ⟨_, by kbo_bools, fun dp' => ?_⟩
      refine ends ⟨by rw [decide_eq_true h], ⟨x, dx, k1, k2, k3, k4, k5, wl, wn, ws, agv, silent, pd, po', paused.filter (· ≠ (pane : Int)), od, oo, off⟩, rfl, rfl, ⟨⟨lp, lo, dp', dof⟩, rfl, hage, rfl, rfl, rfl⟩⟩ .refl
    · refine wDPopNoneT (by kbo_bools) lp dp h ?_
      refine ends ⟨by rw [decide_eq_false h], ⟨x, dx, k1, k2, k3, k4, k5, wl, wn, ws, agv, silent, pd, po, paused, od, oo, off⟩, rfl, rfl, ⟨⟨lp, lo, dp, dof⟩, rfl, hage, rfl, ?_, rfl⟩⟩ .refl
      exact (List.filter_eq_self.mpr fun y hy => by simp only [ne_eq, decide_not, Bool.not_eq_true', decide_eq_false_iff_not]; rintro rfl; exact h hy).symm

set_option maxHeartbeats 2000000
theorem isTrue_name {x : Str} {pos : Pos} {env : Env} {whole : Sem Value} : isTrue (.Name x pos) env whole = (do let v ← whole; PySem.standAt (Expr.Name x pos).pos; PySem.holding [v] (truthy v)) := rfl
/-- The head of a flow's row is the head of the law's. -/
theorem fn_row_of {C : Cx} (hK : Kx C) (hH : C.H) {f : FL} {a : FA} (hf : f.Says C a) {r : WR} {now : Nat} {t1 : Tok} (hp : r.pane < 100) (hx : r.oct.length ≤ 200) (hn : now < 100) {own : Led} (ho : (r.x, instObj 66 r.dx) ∈ own ++ f.led C.w.params) (hd : (r.dx, r.dict C.w.params) ∈ own ++ f.led C.w.params) :
    Fn C 117 [.ref f.x, .ref r.x, .int now t1] 3 (own ++ f.led C.w.params) fun v pr => pr = own ++ f.led C.w.params ∧ ∃ u, v = .bytes (rowB r.pane r.oct (a.age.map fun _ => now - r.time)).toArray u := by
  obtain ⟨aws, aage, asil, apau, aoff⟩ := a
  obtain ⟨x, dx, k1, k2, k3, k4, k5, wl, wn, ws, agv, silent, pd, po, paused, od, oo, off⟩ := f
  obtain ⟨⟨lp, lo, dp, dof⟩, hws, hage, hsil, hpau, hoff⟩ := hf
  obtain ⟨rx, rdx, q1, q2, q3, pane, pt, oct, ot, time, tt⟩ := r
  dsimp only at lp lo dp dof hws hage hsil hpau hoff hp hx
  simp only [WR.dict] at ho hd
  refine Fn.of_body (binds := [(Str.ofString "self", .ref x), (Str.ofString "one", .ref rx), (Str.ofString "now", .int now t1)]) (kLook hK rfl) (by rw [hK]; kernel_rfl) rfl ?_ ?_ rfl rfl rfl ?_
  · intro y hy; simp at hy; rcases hy with rfl | rfl | rfl <;> rfl
  · decide
  · intro A L rest ok
    generalize hE : envX _ _ L _ _ _ = env
    have ev : Ev L env := by subst hE; exact ⟨rfl, rfl, rfl, rfl⟩
    have hfx : (x, instObj 134 dx) ∈ own ++ FL.led C.w.params ⟨x, dx, k1, k2, k3, k4, k5, wl, wn, ws, agv, silent, pd, po, paused, od, oo, off⟩ := List.mem_append_right _ List.mem_cons_self
    have hfd : (dx, flowD C.w.params k1 k2 k3 k4 k5 (.ref wl) agv (.bool silent) (.ref pd) (.ref od)) ∈ own ++ FL.led C.w.params ⟨x, dx, k1, k2, k3, k4, k5, wl, wn, ws, agv, silent, pd, po, paused, od, oo, off⟩ := List.mem_append_right _ (List.mem_cons_of_mem _ List.mem_cons_self)
    generalize own ++ FL.led C.w.params ⟨x, dx, k1, k2, k3, k4, k5, wl, wn, ws, agv, silent, pd, po, paused, od, oo, off⟩ = B at ho hd hfx hfd
    show W C A L _ [(Str.ofString "now", .int now t1), (Str.ofString "one", .ref rx), (Str.ofString "self", .ref x)] (B ++ rest) _
    repeat cell_call
    refine wFn (fn_named hK (m := [37]) (by decide) hp) ok (by decide) .nil ?_
    rintro v pr ⟨rfl, w1, rfl⟩
    have hdp := dig_len pane
    have hesc := esc_len oct
    repeat cell_call
    refine wFn (fn_escaped hK hH (by omega)) ok (by decide) .nil ?_
    rintro v pr ⟨rfl, w2, rfl⟩
    repeat cell_call
    cases aage with
    | none =>
      obtain rfl : agv = .none := hage
      refine iteB (fun _ => ?_) fun h => absurd h (by decide)
      repeat cell_call
      rename_i u0 l
      refine wFn (fn_row hK (k := 0) (bs := [([37, 111, 117, 116, 112, 117, 116], u0), ([37] ++ dig pane, w1), (esc oct, w2)]) (z := _) (by simp only [List.length_cons, List.length_nil]; omega) ?_ (joined3 _ _ _) ?_) ok (by decide) (.cons .here .nil) ?_
      · simp only [List.map_cons, List.map_nil, List.foldl_cons, List.foldl_nil, List.size_toArray, List.length_append, List.length_cons, List.length_nil]; omega
      · simp only [List.length_append, List.length_cons, List.length_nil]; omega
      · rintro v pr ⟨rfl, w3, rfl⟩
        refine ends ⟨rfl, w3, ?_⟩ (by keq_rows)
        simp [rowB, headB]
    | some ag =>
      obtain ⟨tt2, rfl⟩ := hage
      refine iteB (fun h => by rw [show (Value.int (ag : Int) tt2 == Value.none) = false from rfl] at h; cases h) fun _ => ?_
      repeat cell_call
      rw [show max 0 ((now : Int) - (time : Int)) = ((now - time : Nat) : Int) by omega]
      have hdn := dig_len (now - time)
      refine wFn (fn_decimal hK (n := now - time) (by omega)) ok (by decide) .nil ?_
      rintro v pr ⟨rfl, w4, rfl⟩
      repeat cell_call
      rename_i u0 u1 u2 u3 u4 l
      refine wFn (fn_row hK (k := 0) (bs := [([37, 101, 120, 116, 101, 110, 100, 101, 100, 45, 111, 117, 116, 112, 117, 116], _), ([37] ++ dig pane, w1), (dig (now - time), w4), ([58], _), (esc oct, w2)]) (z := _) (by simp only [List.length_cons, List.length_nil]; omega) ?_ (joined5 _ _ _ _ _) ?_) ok (by decide) (.cons .here .nil) ?_
      · simp only [List.map_cons, List.map_nil, List.foldl_cons, List.foldl_nil, List.size_toArray, List.length_append, List.length_cons, List.length_nil]; omega
      · simp only [List.length_append, List.length_cons, List.length_nil]; omega
      · rintro v pr ⟨rfl, w3, rfl⟩
        refine ends ⟨rfl, w3, ?_⟩ (by keq_rows)
        simp [rowB, headB]

set_option maxHeartbeats 4000000
theorem fn_cut {C : Cx} (hK : Kx C) (hH : C.H) {f : FL} {a : FA} (hf : f.Says C a) {r : WR} {ws' : List WR} (hr : f.ws = r :: ws') {now : Nat} {room : Int} {t1 t2 : Tok} (hp : r.pane < 100) (hx : r.oct.length ≤ 200) (hn : now < 100) (hz : f.ws.length ≤ 1000) :
    Fn C 124 [.ref f.x, .int now t1, .int room t2] 4 (f.led C.w.params) fun v pr => v = .bool (decide (0 < manyA r.pane r.oct (a.age.map fun _ => now - r.time) room)) ∧ ∃ f' : FL, pr = f'.led C.w.params ∧ f'.x = f.x ∧
      f'.Says C { a with ws := if 0 < manyA r.pane r.oct (a.age.map fun _ => now - r.time) room ∧ manyA r.pane r.oct (a.age.map fun _ => now - r.time) room < r.oct.length
        then (r.pane, r.oct.take (manyA r.pane r.oct (a.age.map fun _ => now - r.time) room), r.time) :: (r.pane, r.oct.drop (manyA r.pane r.oct (a.age.map fun _ => now - r.time) room), r.time) :: ws'.map WR.says else a.ws } := by
  obtain ⟨aws, aage, asil, apau, aoff⟩ := a
  obtain ⟨x, dx, k1, k2, k3, k4, k5, wl, wn, ws, agv, silent, pd, po, paused, od, oo, off⟩ := f
  dsimp only at hr hz
  subst hr
  have hf0 := hf
  obtain ⟨⟨lp, lo, dp, dof⟩, hws, hage, hsil, hpau, hoff⟩ := hf
  obtain ⟨rx, rdx, q1, q2, q3, pane, pt, oct, ot, time, tt⟩ := r
  dsimp only at lp lo dp dof hws hage hsil hpau hoff hp hx ⊢
  refine Fn.of_body (binds := [(Str.ofString "self", .ref x), (Str.ofString "now", .int now t1), (Str.ofString "room", .int room t2)]) (kLook hK rfl) (by rw [hK]; kernel_rfl) rfl ?_ ?_ rfl rfl rfl ?_
  · intro y hy; simp at hy; rcases hy with rfl | rfl | rfl <;> rfl
  · decide
  · intro A L rest ok
    generalize hE : envX _ _ L _ _ _ = env
    have ev : Ev L env := by subst hE; exact ⟨rfl, rfl, rfl, rfl⟩
    show W C A L _ [(Str.ofString "room", .int room t2), (Str.ofString "now", .int now t1), (Str.ofString "self", .ref x)]
      ((x, instObj 134 dx) :: (dx, flowD C.w.params k1 k2 k3 k4 k5 (.ref wl) agv (.bool silent) (.ref pd) (.ref od)) :: (pd, po) :: (od, oo) :: (wl, lst (.ref rx :: refs ws') wn) ::
        (rx, instObj 66 rdx) :: (rdx, waitD C.w.params q1 q2 q3 (.int pane pt) (.bytes oct.toArray ot) (.int time tt)) :: (wrs C.w.params ws' ++ rest)) _
    have hlen : (refs ws').length ≤ 1000 := by rw [refs_length]; simp only [List.length_cons] at hz; omega
    repeat cell_call
    refine wNewWait hK ok (by decide) fun nx ndx u1 u2 u3 => ?_
    repeat cell_call
    rename_i tb
    refine wFn (fn_row_of hK hH hf0 (r := ⟨nx, ndx, u1, u2, u3, pane, pt, [], tb, time, tt⟩) (own := [(nx, instObj 66 ndx), (ndx, waitD C.w.params u1 u2 u3 (.int pane pt) (.bytes #[] tb) (.int time tt))]) hp (Nat.zero_le _) hn List.mem_cons_self (List.mem_cons_of_mem _ List.mem_cons_self)) ok (by decide) (rest := rest) ?_ ?_
    · show Rem ((nx, instObj 66 ndx) :: (ndx, waitD C.w.params u1 u2 u3 (.int pane pt) (.bytes #[] tb) (.int time tt)) :: (x, instObj 134 dx) :: (dx, flowD C.w.params k1 k2 k3 k4 k5 (.ref wl) agv (.bool silent) (.ref pd) (.ref od)) :: (pd, po) :: (od, oo) :: (wl, lst (.ref rx :: refs ws') wn) ::
        (rx, instObj 66 rdx) :: (rdx, waitD C.w.params q1 q2 q3 (.int pane pt) (.bytes oct.toArray ot) (.int time tt)) :: wrs C.w.params ws') _ _
      keq_rows
    rintro v pr ⟨rfl, u5, rfl⟩
    show W C A L _ _ ((nx, instObj 66 ndx) :: (ndx, waitD C.w.params u1 u2 u3 (.int pane pt) (.bytes #[] tb) (.int time tt)) :: (x, instObj 134 dx) :: (dx, flowD C.w.params k1 k2 k3 k4 k5 (.ref wl) agv (.bool silent) (.ref pd) (.ref od)) :: (pd, po) :: (od, oo) :: (wl, lst (.ref rx :: refs ws') wn) ::
        (rx, instObj 66 rdx) :: (rdx, waitD C.w.params q1 q2 q3 (.int pane pt) (.bytes oct.toArray ot) (.int time tt)) :: (wrs C.w.params ws' ++ rest)) _
    dsimp only
    have hrl := rowB_len pane [] (aage.map fun _ => now - time)
    generalize hage' : (aage.map fun _ => now - time) = age' at hrl ⊢
    rw [List.length_nil] at hrl
    repeat cell_call
    refine wFn (fn_fitting hK hH (by omega)) ok (by decide) .nil ?_
    rintro v pr ⟨rfl, u6, rfl⟩
    show W C A L _ _ ((nx, instObj 66 ndx) :: (ndx, waitD C.w.params u1 u2 u3 (.int pane pt) (.bytes #[] tb) (.int time tt)) :: (x, instObj 134 dx) :: (dx, flowD C.w.params k1 k2 k3 k4 k5 (.ref wl) agv (.bool silent) (.ref pd) (.ref od)) :: (pd, po) :: (od, oo) :: (wl, lst (.ref rx :: refs ws') wn) ::
        (rx, instObj 66 rdx) :: (rdx, waitD C.w.params q1 q2 q3 (.int pane pt) (.bytes oct.toArray ot) (.int time tt)) :: (wrs C.w.params ws' ++ rest)) _
    have hmle := fitG_le oct (room - (rowB pane [] age').length)
    have hmA : manyA pane oct age' room = fitG oct (room - (rowB pane [] age').length) := rfl
    rw [hmA]
    generalize fitG oct (room - (rowB pane [] age').length) = m at hmle ⊢
    repeat cell_call
    have same : ∀ (ls : Loc) (z : Value), z = .bool (decide (0 < m)) → ¬ (0 < m ∧ m < oct.length) → Ends (fun v pr => v = .bool (decide (0 < m)) ∧ ∃ f' : FL, pr = f'.led C.w.params ∧ f'.x = x ∧
        f'.Says C { ws := if 0 < m ∧ m < oct.length then (pane, oct.take m, time) :: (pane, oct.drop m, time) :: ws'.map WR.says else aws, age := aage, silent := asil, paused := apau, off := aoff }) rest (.ret z) ls
        ((nx, instObj 66 ndx) :: (ndx, waitD C.w.params u1 u2 u3 (.int pane pt) (.bytes #[] tb) (.int time tt)) :: (x, instObj 134 dx) :: (dx, flowD C.w.params k1 k2 k3 k4 k5 (.ref wl) agv (.bool silent) (.ref pd) (.ref od)) :: (pd, po) :: (od, oo) :: (wl, lst (.ref rx :: refs ws') wn) ::
        (rx, instObj 66 rdx) :: (rdx, waitD C.w.params q1 q2 q3 (.int pane pt) (.bytes oct.toArray ot) (.int time tt)) :: (wrs C.w.params ws' ++ rest)) := by
      intro ls z hz' hno
      refine ends ⟨hz', ⟨x, dx, k1, k2, k3, k4, k5, wl, wn, ⟨rx, rdx, q1, q2, q3, pane, pt, oct, ot, time, tt⟩ :: ws', agv, silent, pd, po, paused, od, oo, off⟩, rfl, rfl, ⟨⟨lp, lo, dp, dof⟩, ?_, hage, hsil, hpau, hoff⟩⟩ (.drop1 (.drop1 .refl))
      rw [if_neg hno]; exact hws
    have hdec : ∀ k : Nat, decide ((0 : Int) < (k : Int)) = decide (0 < k) := fun k => decide_eq_decide.mpr (by omega)
    refine iteD (fun h1 => ?_) fun h1 => ?_
    · repeat cell_call
      refine iteD (fun h2 => ?_) fun h2 => ?_
      · repeat cell_call
        refine wBSlice (by kbo_bools) (.int _ _) .none (by omega) fun y1 => ?_
        rw [cut_from hmle]
        repeat cell_call
        refine wNewWait hK ok (by decide) fun mx mdx v1 v2 v3 => ?_
        repeat cell_call
        refine wInsert1 (by kbo_bools) (Nat.lt_of_le_of_lt hlen (by rw [sizeLine_eq]; decide)) ?_
        repeat cell_call
        refine wBSlice (by kbo_bools) .none (.int _ _) (by omega) fun y2 => ?_
        rw [cut_to hmle]
        repeat cell_call
        refine ends ⟨by rw [hdec], ⟨x, dx, k1, k2, k3, k4, k5, wl, wn + 1, ⟨rx, rdx, q1, q2, q3, pane, pt, oct.take m, y2, time, tt⟩ :: ⟨mx, mdx, v1, v2, v3, pane, pt, oct.drop m, y1, time, tt⟩ :: ws', agv, silent, pd, po, paused, od, oo, off⟩, rfl, rfl, ⟨⟨lp, lo, dp, dof⟩, ?_, hage, hsil, hpau, hoff⟩⟩ ?_
        · rw [if_pos (by omega)]; rfl
        · show Part ((x, instObj 134 dx) :: (dx, flowD C.w.params k1 k2 k3 k4 k5 (.ref wl) agv (.bool silent) (.ref pd) (.ref od)) :: (pd, po) :: (od, oo) :: (wl, lst (.ref rx :: .ref mx :: refs ws') (wn + 1)) ::
            (rx, instObj 66 rdx) :: (rdx, waitD C.w.params q1 q2 q3 (.int pane pt) (.bytes (oct.take m).toArray y2) (.int time tt)) :: (mx, instObj 66 mdx) :: (mdx, waitD C.w.params v1 v2 v3 (.int pane pt) (.bytes (oct.drop m).toArray y1) (.int time tt)) :: (wrs C.w.params ws' ++ rest)) _
          keq_rows
      · repeat cell_call
        exact same _ _ (by rw [hdec]) (by omega)
    · repeat cell_call
      exact same _ _ (by rw [hdec]) (by omega)

set_option maxHeartbeats 4000000
theorem fn_taken {C : Cx} (hK : Kx C) (hH : C.H) {f : FL} {a : FA} (hf : f.Says C a) {now : Nat} {room : Option Int} {rv : Value} (hrv : isRoom rv room) {t1 : Tok} (hn : now < 100) (hfine : Fine a.ws a.paused) (hm : meas a.ws ≤ 200) (hpl : a.paused.length ≤ 500) :
    Fn C 131 [.ref f.x, .int now t1, rv] 5 (f.led C.w.params) fun v pr => ∃ f' : FL, pr = f'.led C.w.params ∧ f'.x = f.x ∧ (∃ u, v = .bytes (takeA a.age now room (meas a.ws) a.ws a.paused []).2.2.toArray u) ∧
      f'.Says C { a with ws := (takeA a.age now room (meas a.ws) a.ws a.paused []).1, paused := (takeA a.age now room (meas a.ws) a.ws a.paused []).2.1 } := by
  obtain ⟨aws, aage, asil, apau, aoff⟩ := a
  dsimp only at hfine hm hpl ⊢
  generalize hx : f.x = x
  refine Fn.of_body (binds := [(Str.ofString "self", .ref x), (Str.ofString "now", .int now t1), (Str.ofString "room", rv)]) (kLook hK rfl) (by rw [hK]; kernel_rfl) rfl ?_ ?_ rfl rfl rfl ?_
  · intro y hy; simp at hy; rcases hy with rfl | rfl | rfl <;> rfl
  · decide
  · intro A L rest ok
    generalize hE : envX _ _ L _ _ _ = env
    have ev : Ev L env := by subst hE; exact ⟨rfl, rfl, rfl, rfl⟩
    show W C A L _ [(Str.ofString "room", rv), (Str.ofString "now", .int now t1), (Str.ofString "self", .ref x)] (f.led C.w.params ++ rest) _
    repeat cell_call
    rename_i fo
    refine wWhileP (fun k ls σ => ∃ (f' : FL) (ws : List Ent) (p : List Int) (fd : List UInt8), SubL [(Str.ofString "room", rv), (Str.ofString "now", .int now t1), (Str.ofString "self", .ref x), (Str.ofString "found", .ref fo)] ls ∧
      σ = (fo, baObj fd) :: (f'.led C.w.params ++ rest) ∧ f'.x = x ∧ f'.Says C { ws := ws, age := aage, silent := asil, paused := p, off := aoff } ∧ Fine ws p ∧ meas ws ≤ k ∧
      takeA aage now room k ws p fd = takeA aage now room (meas aws) aws apau [] ∧ fd.length + 900 * k ≤ 900 * meas aws ∧ p.length + k ≤ 900) (n := meas aws) ?_
      ⟨f, aws, apau, [], .cons rfl (.cons rfl (.cons rfl (.cons rfl .nil))), rfl, hx, hf, hfine, Nat.le_refl _, rfl, by simp, by omega⟩
    rintro k ls σ ⟨f', ws, p, fd, hsub, rfl, hfx, hs, hfi, hmk, htk, hfl, hplk⟩
    refine W.locs hsub ?_
    have hs0 := hs
    obtain ⟨fx, dx, k1, k2, k3, k4, k5, wl, wn, rs, agv, silent, pd, po, paused, od, oo, off⟩ := f'
    obtain ⟨⟨lp, lo, dp, dof⟩, hws, hage, hsil, hpau, hoff⟩ := hs
    dsimp only at lp lo dp dof hws hage hsil hpau hoff hfx
    subst hfx hws hsil hpau hoff
    show W C A L _ _ ((fo, baObj fd) :: (fx, instObj 134 dx) :: (dx, flowD C.w.params k1 k2 k3 k4 k5 (.ref wl) agv (.bool silent) (.ref pd) (.ref od)) :: (pd, po) :: (od, oo) :: (wl, lst (refs rs) wn) :: (wrs C.w.params rs ++ rest)) _
    repeat cell_call
    repeat cell_call
    cases rs with
    | nil =>
      refine iteB (fun h => by cases h) fun _ => ?_
      have hlf : fd.length ≤ 180000 := by omega
      repeat cell_call
      have e : takeA aage now room k [] paused fd = _ := htk
      rw [takeA_nil] at e
      rw [← e]
      exact ends ⟨⟨fx, dx, k1, k2, k3, k4, k5, wl, wn, [], agv, silent, pd, po, paused, od, oo, off⟩, rfl, rfl, ⟨_, rfl⟩, ⟨⟨lp, lo, dp, dof⟩, rfl, hage, rfl, rfl, rfl⟩⟩ (.drop1 (.drop1 .refl))
    | cons r rs' =>
      refine iteB (fun _ => ?_) fun h => by cases h
      obtain ⟨rx, rdx, q1, q2, q3, pane, pt, oct, ot, time, tt⟩ := r
      rw [List.map_cons] at hfi hmk htk
      simp only [WR.says] at hfi hmk htk
      obtain ⟨hp100, ho200, hnp⟩ := hfi.ent _ (.head _)
      dsimp only at hp100 ho200 hnp
      have hmc := meas_cons (pane, oct, time) (rs'.map WR.says)
      dsimp only at hmc
      obtain ⟨k, rfl⟩ : ∃ k', k = k' + 1 := ⟨k - 1, by omega⟩
      have hlf : fd.length ≤ 180000 := by omega
      refine W.part (τ := (fo, baObj fd) :: (fx, instObj 134 dx) :: (dx, flowD C.w.params k1 k2 k3 k4 k5 (.ref wl) agv (.bool silent) (.ref pd) (.ref od)) :: (pd, po) :: (od, oo) :: (wl, lst (.ref rx :: refs rs') wn) ::
        (rx, instObj 66 rdx) :: (rdx, waitD C.w.params q1 q2 q3 (.int pane pt) (.bytes oct.toArray ot) (.int time tt)) :: (wrs C.w.params rs' ++ rest)) (.drop1 .refl) ?_
      have hrl : (refs rs').length ≤ 1000 := by
        rw [refs_length]
        have h1 := meas_len (rs'.map WR.says)
        rw [List.length_map] at h1; omega
      repeat ((fail_if_success (with_reducible show W _ _ _ (execs (Stmt.If _ _ _ _ :: _) _) _ _ _)); cell_call)
      refine wIf ?_
      refine W.mono (Q := fun b ls' σ' => b = late aage now time ∧ ls' = [(Str.ofString "room", rv), (Str.ofString "now", .int now t1), (Str.ofString "self", .ref fx), (Str.ofString "found", .ref fo), (Str.ofString "one", .ref rx)] ∧ σ' = (fo, baObj fd) :: (fx, instObj 134 dx) :: (dx, flowD C.w.params k1 k2 k3 k4 k5 (.ref wl) agv (.bool silent) (.ref pd) (.ref od)) :: (pd, po) :: (od, oo) :: (wl, lst (.ref rx :: refs rs') wn) ::
        (rx, instObj 66 rdx) :: (rdx, waitD C.w.params q1 q2 q3 (.int pane pt) (.bytes oct.toArray ot) (.int time tt)) :: (wrs C.w.params rs' ++ rest)) ?_ ?_
      · repeat cell_call
        cases aage with
        | none =>
          obtain rfl : agv = .none := hage
          refine iteB (fun h => absurd h (by decide)) fun _ => ?_
          exact ⟨rfl, rfl, rfl⟩
        | some g =>
          obtain ⟨tg, rfl⟩ := hage
          refine iteB (fun _ => ?_) fun h => by rw [show (Value.int (g : Int) tg == Value.none) = false from rfl] at h; cases h
          repeat cell_call
          refine iteB (fun h => ?_) fun h => ?_
          · repeat cell_call
            exact ⟨h.symm, rfl, rfl⟩
          · exact ⟨h.symm, rfl, rfl⟩
      · rintro b ls' σ' ⟨rfl, rfl, rfl⟩
        refine iteB (fun hl => ?_) fun hl => ?_
        · repeat cell_call
          have hzz : (({ x := rx, dx := rdx, t1 := q1, t2 := q2, t3 := q3, pane := pane, pt := pt, oct := oct, ot := ot, time := time, tt := tt } : WR) :: rs').length ≤ 1000 := by
            have h1 := meas_len (rs'.map WR.says)
            rw [List.length_map] at h1; rw [List.length_cons]; omega
          refine wFn (fn_pause hK hs0 (pane := pane) hzz (by show paused.length ≤ 900; omega)) ok (by decide) (rest := (fo, baObj fd) :: rest) ?_ ?_
          · show Rem ((fx, instObj 134 dx) :: (dx, flowD C.w.params k1 k2 k3 k4 k5 (.ref wl) agv (.bool silent) (.ref pd) (.ref od)) :: (pd, po) :: (od, oo) :: (wl, lst (.ref rx :: refs rs') wn) ::
              (rx, instObj 66 rdx) :: (rdx, waitD C.w.params q1 q2 q3 (.int pane pt) (.bytes oct.toArray ot) (.int time tt)) :: wrs C.w.params rs') _ _
            keq_rows
          rintro v pr ⟨rfl, f2, gone, rfl, hgone, hx2, hs2⟩
          rw [if_neg hnp] at hs2
          have hgone := hgone hnp
          dsimp only at hgone hx2
          rw [List.filter_cons_of_pos (by simp)] at hgone
          subst hgone
          refine And.intro (fun _ e => nomatch e) ?_
          refine W.part (τ := (rx, instObj 66 rdx) :: (rdx, waitD C.w.params q1 q2 q3 (.int pane pt) (.bytes oct.toArray ot) (.int time tt)) :: (fo, baObj fd) :: (f2.led C.w.params ++ rest)) ?_ ?_
          · rw [wrs_cons, List.append_assoc]
            simp only [List.cons_append, WR.dict]
            refine .cons (.skip .here) (.cons (.skip .here) (.cons (.skip (.skip .here)) ?_))
            exact Part.app .refl (.drop .refl)
          repeat cell_call
          refine wFn (fn_named hK (m := [37]) (by decide) hp100) ok (by decide) .nil ?_
          rintro v pr ⟨rfl, w1, rfl⟩
          have hdp := dig_len pane
          repeat cell_call
          rename_i u0 l
          refine wFn (fn_row hK (k := 0) (bs := [([37, 112, 97, 117, 115, 101], u0), ([37] ++ dig pane, w1)]) (z := _) (by simp only [List.length_cons, List.length_nil]; omega) ?_ (joined2 _ _) ?_) ok (by decide) (.cons .here .nil) ?_
          · simp only [List.map_cons, List.map_nil, List.foldl_cons, List.foldl_nil, List.size_toArray, List.length_append, List.length_cons, List.length_nil]; omega
          · simp only [List.length_append, List.length_cons, List.length_nil]; omega
          rintro v pr ⟨rfl, w3, rfl⟩
          have hpb : ([37, 112, 97, 117, 115, 101] : List UInt8) ++ 32 :: ([37] ++ dig pane) ++ [10] = pauseB pane := by simp [pauseB]
          dsimp only
          rw [hpb]
          have hpl2 : (pauseB pane).length ≤ 20 := by rw [← hpb]; simp only [List.length_append, List.length_cons, List.length_nil]; omega
          repeat cell_call
          refine wBInc hH (by kbo_bools) (by omega) ?_
          repeat cell_call
          have hml := meas_late (pane := pane) (o := oct) (t := time) (r := rs'.map WR.says)
          have hpk := putK_len paused pane
          refine ⟨k, by omega, (fo, baObj (fd ++ pauseB pane)) :: (f2.led C.w.params ++ rest), ?_, f2, _, _, _, .cons rfl (.cons rfl (.cons rfl (.cons rfl .nil))), rfl, hx2, hs2, hfi.late, ?_, ?_, ?_, ?_⟩
          · keq_rows
          · show meas (((pane, oct, time) :: rs'.map WR.says).filter (·.1 ≠ pane)) ≤ k
            omega
          · rw [← htk]
            show _ = takeA aage now room (k + 1) ((pane, oct, time) :: rs'.map WR.says) paused fd
            conv => rhs; unfold takeA
            rw [if_pos hl]; rfl
          · rw [List.length_append]; omega
          · show (putK paused pane).length + k ≤ 900
            omega
        · cases room with
          | none =>
            obtain rfl : rv = .none := hrv
            repeat cell_call
            refine iteB (fun h => absurd h (by decide)) fun _ => ?_
            repeat cell_call
            refine wPop0 (by kbo_bools) (Nat.lt_of_le_of_lt hrl (by rw [sizeLine_eq]; decide)) ?_
            repeat cell_call
            refine wFn (fn_row_of hK hH (f := ⟨fx, dx, k1, k2, k3, k4, k5, wl, wn + 1, rs', agv, silent, pd, po, paused, od, oo, off⟩) (a := { ws := rs'.map WR.says, age := aage, silent := silent, paused := paused, off := off }) ⟨⟨lp, lo, dp, dof⟩, rfl, hage, rfl, rfl, rfl⟩ (r := ⟨rx, rdx, q1, q2, q3, pane, pt, oct, ot, time, tt⟩)
              (own := (rx, instObj 66 rdx) :: (rdx, waitD C.w.params q1 q2 q3 (.int pane pt) (.bytes oct.toArray ot) (.int time tt)) :: []) hp100 ho200 hn List.mem_cons_self (List.mem_cons_of_mem _ List.mem_cons_self)) ok (by decide) (rest := (fo, baObj fd) :: rest) ?_ ?_
            · show Rem ((rx, instObj 66 rdx) :: (rdx, waitD C.w.params q1 q2 q3 (.int pane pt) (.bytes oct.toArray ot) (.int time tt)) :: (fx, instObj 134 dx) :: (dx, flowD C.w.params k1 k2 k3 k4 k5 (.ref wl) agv (.bool silent) (.ref pd) (.ref od)) :: (pd, po) :: (od, oo) :: (wl, lst (refs rs') (wn + 1)) :: wrs C.w.params rs') _ _
              keq_rows
            rintro v pr ⟨rfl, u9, rfl⟩
            dsimp only
            refine W.part (τ := (fo, baObj fd) :: (FL.led C.w.params ⟨fx, dx, k1, k2, k3, k4, k5, wl, wn + 1, rs', agv, silent, pd, po, paused, od, oo, off⟩ ++ rest)) ?_ ?_
            · simp only [List.cons_append, List.nil_append]
              exact .drop1 (.drop1 (.cons (.skip .here) .refl))
            have hrow := rowB_len pane oct (aage.map fun _ => now - time)
            repeat cell_call
            refine wBInc hH (by kbo_bools) (by omega) ?_
            repeat cell_call
            refine ⟨k, by omega, _, .refl, ⟨fx, dx, k1, k2, k3, k4, k5, wl, wn + 1, rs', agv, silent, pd, po, paused, od, oo, off⟩, _, _, _, .cons rfl (.cons rfl (.cons rfl (.cons rfl .nil))), rfl, rfl, ⟨⟨lp, lo, dp, dof⟩, rfl, hage, rfl, rfl, rfl⟩, hfi.tail, (by show meas (rs'.map WR.says) ≤ k; omega), ?_, ?_, (by show paused.length + k ≤ 900; omega)⟩
            · rw [← htk]
              show _ = takeA aage now none (k + 1) ((pane, oct, time) :: rs'.map WR.says) paused fd
              conv => rhs; unfold takeA
              rw [if_neg (by rw [hl]; decide)]
            · rw [List.length_append]; omega
          | some m =>
            obtain ⟨tr, rfl⟩ := hrv
            have hzz : (({ x := rx, dx := rdx, t1 := q1, t2 := q2, t3 := q3, pane := pane, pt := pt, oct := oct, ot := ot, time := time, tt := tt } : WR) :: rs').length ≤ 1000 := by
              have h1 := meas_len (rs'.map WR.says)
              rw [List.length_map] at h1; rw [List.length_cons]; omega
            repeat cell_call
            refine iteB (fun _ => ?_) fun h => by rw [show (Value.int m tr == Value.none) = false from rfl] at h; cases h
            repeat cell_call
            refine wFn (fn_cut hK hH hs0 rfl (now := now) (room := m - fd.length) hp100 ho200 hn hzz) ok (by decide) (rest := (fo, baObj fd) :: rest) ?_ ?_
            · show Rem ((fx, instObj 134 dx) :: (dx, flowD C.w.params k1 k2 k3 k4 k5 (.ref wl) agv (.bool silent) (.ref pd) (.ref od)) :: (pd, po) :: (od, oo) :: (wl, lst (.ref rx :: refs rs') wn) :: (rx, instObj 66 rdx) :: (rdx, waitD C.w.params q1 q2 q3 (.int pane pt) (.bytes oct.toArray ot) (.int time tt)) :: wrs C.w.params rs') _ _
              keq_rows
            rintro v pr ⟨rfl, f2, rfl, hx2, hs2⟩
            dsimp only at hs2 hx2
            dsimp only
            generalize hmn : manyA pane oct (aage.map fun _ => now - time) (m - fd.length) = j at hs2 ⊢
            have hjle : j ≤ oct.length := by rw [← hmn]; exact fitG_le _ _
            have htk' : takeA aage now (some m) (meas aws) aws apau [] = takeA aage now (some m) (k + 1) ((pane, oct, time) :: rs'.map WR.says) paused fd := htk.symm
            repeat cell_call
            refine iteB (fun h => ?_) fun h => ?_
            · have hj0 : j = 0 := by simpa using h
              subst hj0
              repeat cell_call
              show W C A L _ _ _ _
              repeat cell_call
              rw [if_neg (by omega)] at hs2
              have e : takeA aage now (some m) (k + 1) ((pane, oct, time) :: rs'.map WR.says) paused fd = ((pane, oct, time) :: rs'.map WR.says, paused, fd) := by
                conv => lhs; unfold takeA
                rw [if_neg (by rw [hl]; decide)]
                dsimp only
                rw [if_pos hmn]
              rw [htk', e]
              exact ends ⟨f2, rfl, hx2, ⟨_, rfl⟩, hs2⟩ (by keq_rows)
            · have hj : 0 < j := by simpa using h
              obtain ⟨r2, rs2, hf2, hr2, hrs2⟩ : ∃ r2 rs2, f2.ws = r2 :: rs2 ∧ r2.says = (pane, oct.take j, time) ∧ rs2.map WR.says = (if j < oct.length then (pane, oct.drop j, time) :: rs'.map WR.says else rs'.map WR.says) := by
                have hw := hs2.ws
                dsimp only at hw
                by_cases hjl : j < oct.length
                · rw [if_pos ⟨hj, hjl⟩] at hw
                  cases hfw : f2.ws with
                  | nil => rw [hfw] at hw; cases hw
                  | cons r2 rs2 =>
                    rw [hfw, List.map_cons] at hw
                    injection hw with h1 h2
                    exact ⟨r2, rs2, rfl, h1, by rw [h2, if_pos hjl]⟩
                · rw [if_neg (fun hh => hjl hh.2)] at hw
                  cases hfw : f2.ws with
                  | nil => rw [hfw] at hw; cases hw
                  | cons r2 rs2 =>
                    rw [hfw, List.map_cons] at hw
                    injection hw with h1 h2
                    exact ⟨r2, rs2, rfl, by rw [h1, List.take_of_length_le (by omega)]; rfl, by rw [h2, if_neg hjl]⟩
              obtain ⟨gx, gdx, j1, j2, j3, j4, j5, vl, vn, gs, gv, gsil, gpd, gpo, gpau, god, goo, goff⟩ := f2
              obtain ⟨⟨lp2, lo2, dp2, dof2⟩, hws2, hage2, hsil2, hpau2, hoff2⟩ := hs2
              dsimp only at lp2 lo2 dp2 dof2 hws2 hage2 hsil2 hpau2 hoff2 hf2 hx2
              subst hf2
              obtain ⟨sx, sdx, y1, y2, y3, sp, spt, so, sot, st, stt⟩ := r2
              have hr3 : sp = pane ∧ so = oct.take j ∧ st = time := by simpa [WR.says] using hr2
              obtain ⟨e1, e2, e3⟩ := hr3
              subst hx2 hsil2 hpau2 hoff2
              have hrs2l : (refs rs2).length ≤ 1001 := by
                have h1 := congrArg List.length hrs2
                rw [List.length_map] at h1
                rw [refs_length] at hrl
                rw [refs_length, h1]
                split
                · rw [List.length_cons, List.length_map]; omega
                · rw [List.length_map]; omega
              repeat cell_call
              show W C A L _ _ ((gx, instObj 134 gdx) :: (gdx, flowD C.w.params j1 j2 j3 j4 j5 (.ref vl) gv (.bool gsil) (.ref gpd) (.ref god)) :: (gpd, gpo) :: (god, goo) :: (vl, lst (.ref sx :: refs rs2) vn) :: (sx, instObj 66 sdx) :: (sdx, waitD C.w.params y1 y2 y3 (.int sp spt) (.bytes so.toArray sot) (.int st stt)) :: (wrs C.w.params rs2 ++ ((fo, baObj fd) :: rest))) _
              repeat cell_call
              refine wPop0 (by kbo_bools) (Nat.lt_of_le_of_lt hrs2l (by rw [sizeLine_eq]; decide)) ?_
              repeat cell_call
              refine wFn (fn_row_of hK hH (f := ⟨gx, gdx, j1, j2, j3, j4, j5, vl, vn + 1, rs2, gv, gsil, gpd, gpo, gpau, god, goo, goff⟩) (a := { ws := rs2.map WR.says, age := aage, silent := gsil, paused := gpau, off := goff }) ⟨⟨lp2, lo2, dp2, dof2⟩, rfl, hage2, rfl, rfl, rfl⟩ (r := ⟨sx, sdx, y1, y2, y3, sp, spt, so, sot, st, stt⟩)
                (own := (sx, instObj 66 sdx) :: (sdx, waitD C.w.params y1 y2 y3 (.int sp spt) (.bytes so.toArray sot) (.int st stt)) :: []) (by show sp < 100; omega) (by rw [e2, List.length_take]; omega) hn List.mem_cons_self (List.mem_cons_of_mem _ List.mem_cons_self)) ok (by decide) (rest := (fo, baObj fd) :: rest) ?_ ?_
              · show Rem ((sx, instObj 66 sdx) :: (sdx, waitD C.w.params y1 y2 y3 (.int sp spt) (.bytes so.toArray sot) (.int st stt)) :: (gx, instObj 134 gdx) :: (gdx, flowD C.w.params j1 j2 j3 j4 j5 (.ref vl) gv (.bool gsil) (.ref gpd) (.ref god)) :: (gpd, gpo) :: (god, goo) :: (vl, lst (refs rs2) (vn + 1)) :: wrs C.w.params rs2) _ _
                keq_rows
              rintro v pr ⟨rfl, u9, rfl⟩
              dsimp only
              refine W.part (τ := (fo, baObj fd) :: (FL.led C.w.params ⟨gx, gdx, j1, j2, j3, j4, j5, vl, vn + 1, rs2, gv, gsil, gpd, gpo, gpau, god, goo, goff⟩ ++ rest)) ?_ ?_
              · simp only [List.cons_append, List.nil_append]
                exact .drop1 (.drop1 (.cons (.skip .here) .refl))
              have hrow := rowB_len sp so (aage.map fun _ => now - st)
              have hso : so.length ≤ 200 := by rw [e2, List.length_take]; omega
              repeat cell_call
              refine wBInc hH (by kbo_bools) (by omega) ?_
              repeat cell_call
              have hme : meas (rs2.map WR.says) ≤ k := by
                rw [hrs2]
                split
                · have h1 := meas_cons (pane, oct.drop j, time) (rs'.map WR.says)
                  dsimp only at h1
                  rw [List.length_drop] at h1
                  omega
                · omega
              refine ⟨k, by omega, _, .refl, ⟨gx, gdx, j1, j2, j3, j4, j5, vl, vn + 1, rs2, gv, gsil, gpd, gpo, gpau, god, goo, goff⟩, rs2.map WR.says, gpau, fd ++ rowB sp so (aage.map fun _ => now - st), .cons rfl (.cons rfl (.cons rfl (.cons rfl .nil))), rfl, rfl, ⟨⟨lp2, lo2, dp2, dof2⟩, rfl, hage2, rfl, rfl, rfl⟩, ?_, hme, ?_, ?_, (by omega)⟩
              · rw [hrs2]
                split
                · exact hfi.cut (by rw [List.length_drop]; omega)
                · exact hfi.tail
              · rw [htk']
                conv => rhs; unfold takeA
                rw [if_neg (by rw [hl]; decide)]
                dsimp only
                rw [hmn, if_neg (by omega), hrs2, e1, e2, e3]
              · rw [List.length_append]; omega

set_option maxHeartbeats 2000000
theorem fn_lfits {C : Cx} (hK : Kx C) {b : BL} {a : FA} (hb : b.Says C a) {now : Nat} {room : Option Int} {rv : Value} (hrv : isRoom rv room) {t1 : Tok} (hn : now < 100) {pane time : Nat} {oct : List UInt8} {r : List Ent} (hws : a.ws = (pane, oct, time) :: r) (hp : pane < 100) (ho : oct.length ≤ 200) :
    Fn C 165 [.ref b.x, rv, .int now t1] 3 b.led fun v pr => ∃ tp w agv, v = .ref tp ∧ pr = (tp, Og.tup [.int (bestA pane oct (a.age.map fun _ => now - time) room oct.length : Nat) w, agv]) :: b.led ∧ isAge agv (a.age.map fun _ => now - time) := by
  obtain ⟨aws, aage, asil, apau, aoff⟩ := a
  dsimp only at hws ⊢
  subst hws
  obtain ⟨x, o, wl, wn, ws, agv, silent, pd, po, paused, od, oo, off⟩ := b
  obtain ⟨⟨lp, lo, dx, dp, dof⟩, hws, hage, hsil, hpau, hoff⟩ := hb
  dsimp only at lp lo dx dp dof hws hage hsil hpau hoff
  subst hsil hpau hoff
  cases ws with
  | nil => cases hws
  | cons w ws =>
  obtain ⟨wx, wpane, wpt, woct, wot, wtime, wtt⟩ := w
  rw [List.map_cons] at hws
  injection hws with h1 h2
  have h1 : wpane = pane ∧ woct = oct ∧ wtime = time := by simpa [TR.says] using h1
  obtain ⟨rfl, rfl, rfl⟩ := h1
  subst h2
  refine Fn.of_body (binds := [(Str.ofString "book", .ref x), (Str.ofString "room", rv), (Str.ofString "now", .int now t1)]) (kLook hK rfl) (by rw [hK]; kernel_rfl) rfl ?_ ?_ rfl rfl rfl ?_
  · intro y hy; simp at hy; rcases hy with rfl | rfl | rfl <;> rfl
  · decide
  · intro A L rest ok
    generalize hE : envX _ _ L _ _ _ = env
    have ev : Ev L env := by subst hE; exact ⟨rfl, rfl, rfl, rfl⟩
    show W C A L _ [(Str.ofString "now", .int now t1), (Str.ofString "room", rv), (Str.ofString "book", .ref x)]
      ((x, o) :: (pd, po) :: (od, oo) :: (wl, lst (.ref wx :: trefs ws) wn) :: (wx, Og.tup [.int wpane wpt, .bytes woct.toArray wot, .int wtime wtt]) :: (trs ws ++ rest)) _
    repeat cell_call
    refine wIteVal (R := fun v => isAge v (aage.map fun _ => now - wtime)) (fun h => ?_) (fun h => ?_) fun agv' hage' => ?_
    · cases aage with
      | none => repeat cell_call
                exact ⟨rfl, rfl, rfl⟩
      | some g =>
        obtain ⟨tg, rfl⟩ := hage
        rw [show (Value.int (g : Int) tg == Value.none) = false from rfl] at h; cases h
    · cases aage with
      | none =>
        obtain rfl : agv = .none := hage
        exact absurd h (by decide)
      | some g =>
        repeat cell_call
        refine ⟨?_, rfl, rfl⟩
        rw [show max 0 ((now : Int) - (wtime : Int)) = ((now - wtime : Nat) : Int) from by omega]
        exact ⟨_, rfl⟩
    repeat cell_call
    refine wFor (fun _ => rfl) ?_
    repeat cell_call
    refine wIterRange (n := woct.length) (by kbo_bools) (by omega) (by decide) (by omega) fun it io hio => ?_
    refine W.part (τ := (it, io) :: (x, o) :: (pd, po) :: (od, oo) :: (wl, lst (.ref wx :: trefs ws) wn) :: (wx, Og.tup [.int wpane wpt, .bytes woct.toArray wot, .int wtime wtt]) :: (trs ws ++ rest)) (by keq_rows) ?_
    refine wForIter Iter.range ok.handled (fun i ls τ => ∃ w, SubL [(Str.ofString "now", .int now t1), (Str.ofString "room", rv), (Str.ofString "pane", .int wpane wpt), (Str.ofString "octets", .bytes woct.toArray wot), (Str.ofString "age", agv'), (Str.ofString "fit", .int (bestA wpane woct (aage.map fun _ => now - wtime) room i : Nat) w)] ls ∧
      τ = ((x, o) :: (pd, po) :: (od, oo) :: (wl, lst (.ref wx :: trefs ws) wn) :: (wx, Og.tup [.int wpane wpt, .bytes woct.toArray wot, .int wtime wtt]) :: (trs ws ++ rest))) (fun _ _ _ _ => trivial) ?_ ?_ hio ?_
    · rintro i v ls τ p hi ⟨u, rfl⟩ ⟨w, hs, rfl⟩
      refine W.locs hs ?_
      rw [show (1 : Int) + (i : Int) = ((i + 1 : Nat) : Int) from by omega]
      have hyes : ∀ b : Bool, ((b = true) ↔ (match room with | none => True | some m => ((rowB wpane (woct.take (i + 1)) (aage.map fun _ => now - wtime)).length : Int) ≤ m)) → (bestA wpane woct (aage.map fun _ => now - wtime) room (i + 1)) = if b = true then i + 1 else bestA wpane woct (aage.map fun _ => now - wtime) room i := by
        intro b hb
        conv => lhs; unfold bestA
        cases room with
        | none => rw [if_pos (hb.mpr trivial)]
        | some m =>
          dsimp only at hb ⊢
          by_cases hq : b = true
          · rw [if_pos hq, if_pos (hb.mp hq)]
          · rw [if_neg hq, if_neg (fun h => hq (hb.mpr h))]
      have hl1 : ∀ y ∈ woct.take (i + 1), True := fun _ _ => trivial
      have htl : (woct.take (i + 1)).length ≤ 1000 := by rw [List.length_take]; omega
      have hcut : cutB woct none (some ((i + 1 : Nat) : Int)) = woct.take (i + 1) := cut_to (by omega)
      have ha100 : ∀ g, (aage.map fun _ => now - wtime) = some g → g < 100 := by
        intro g hg
        cases aage with
        | none => cases hg
        | some q => simp at hg; omega
      repeat cell_call
      cases room with
      | none =>
        obtain rfl : rv = .none := hrv
        refine iteB (fun _ => ?_) fun h => absurd h (by decide)
        repeat cell_call
        exact ⟨_, .refl, _, .cons rfl (.cons rfl (.cons rfl (.cons rfl (.cons rfl (.cons rfl .nil))))), rfl⟩
      | some m =>
        obtain ⟨tr, rfl⟩ := hrv
        refine iteB (fun h => by rw [show (Value.int m tr == Value.none) = false from rfl] at h; cases h) fun _ => ?_
        repeat cell_call
        refine wBSlice (by kbo_bools) .none (.int _ _) (by omega) fun y => ?_
        rw [hcut]
        repeat cell_call
        refine wFn (fn_lrow hK (by omega) htl ha100 hage') ok (by decide) .nil ?_
        rintro v pr ⟨rfl, y4, rfl⟩
        have hrl := rowB_len wpane (woct.take (i + 1)) (aage.map fun _ => now - wtime)
        repeat cell_call
        refine iteD (fun h => ?_) fun h => ?_
        · repeat cell_call
          refine ⟨_, .drop1 .refl, u, .cons rfl (.cons rfl (.cons rfl (.cons rfl (.cons rfl (.cons ?_ .nil))))), rfl⟩
          rw [hyes true (by simpa using h), if_pos rfl]
          rfl
        · repeat cell_call
          refine ⟨_, .drop1 .refl, w, .cons rfl (.cons rfl (.cons rfl (.cons rfl (.cons rfl (.cons ?_ .nil))))), rfl⟩
          rw [hyes false (by simpa using h), if_neg (by decide)]
          rfl
    · rintro ls τ ⟨w, hs, rfl⟩
      refine W.locs hs ?_
      repeat cell_call
      refine ends ⟨_, w, agv', rfl, rfl, hage'⟩ ?_
      show Part ((_, Og.tup [.int (bestA wpane woct (aage.map fun _ => now - wtime) room woct.length : Nat) w, agv']) :: (x, o) :: (pd, po) :: (od, oo) :: (wl, lst (.ref wx :: trefs ws) wn) :: (wx, Og.tup [.int wpane wpt, .bytes woct.toArray wot, .int wtime wtt]) :: (trs ws ++ rest)) _
      keq_rows
    · exact ⟨_, .cons rfl (.cons rfl (.cons rfl (.cons rfl (.cons rfl (.cons rfl .nil))))), rfl⟩

set_option maxHeartbeats 4000000
theorem fn_ltaken {C : Cx} (hK : Kx C) {b : BL} {a : FA} (hb : b.Says C a) {now : Nat} {room : Option Int} {rv : Value} (hrv : isRoom rv room) {t1 : Tok} (hn : now < 100) (hfine : Good a.ws a.paused) (hm : meas a.ws ≤ 200) (hpl : a.paused.length ≤ 500) :
    Fn C 170 [.ref b.x, .int now t1, rv] 4 b.led fun v pr => ∃ b' : BL, pr = b'.led ∧ b'.x = b.x ∧ (∃ u, v = .bytes (takeA a.age now room (meas a.ws) a.ws a.paused []).2.2.toArray u) ∧
      b'.Says C { a with ws := (takeA a.age now room (meas a.ws) a.ws a.paused []).1, paused := (takeA a.age now room (meas a.ws) a.ws a.paused []).2.1 } := by
  obtain ⟨aws, aage, asil, apau, aoff⟩ := a
  dsimp only at hfine hm hpl ⊢
  generalize hx : b.x = x
  refine Fn.of_body1 (z := Str.ofString "pane") (v₀ := none) (ls' := [(Str.ofString "room", rv), (Str.ofString "now", .int now t1), (Str.ofString "book", .ref x)]) (binds := [(Str.ofString "book", .ref x), (Str.ofString "now", .int now t1), (Str.ofString "room", rv)]) (kLook hK rfl) (by rw [hK]; kernel_rfl) rfl rfl rfl rfl (fun _ => rfl) ?_ rfl rfl ?_
  · intro y hy; simp at hy; rcases hy with rfl | rfl | rfl
    · exact .inl rfl
    · exact .inl rfl
    · exact .inl rfl
  · intro A L c oc rest ok hc
    generalize hE : envX _ _ L _ _ _ = env
    have ev : Ev L env := by subst hE; exact ⟨rfl, rfl, rfl, rfl⟩
    show W C A L _ _ ((c, oc) :: (b.led ++ rest)) _
    repeat cell_call
    refine W.drop1 ?_
    refine wWhileP (fun k ls σ => ∃ (b' : BL) (ws : List Ent) (p : List Int) (fd : List UInt8) (u : Tok) (ov : Bool) (cv : Option Value) (oc' : Obj), SubL [(Str.ofString "room", rv), (Str.ofString "now", .int now t1), (Str.ofString "book", .ref x), (Str.ofString "found", .bytes fd.toArray u), (Str.ofString "is_over", .bool ov)] ls ∧
      σ = (c, oc') :: (b'.led ++ rest) ∧ isCell cv oc' ∧ b'.x = x ∧ b'.Says C { ws := ws, age := aage, silent := asil, paused := p, off := aoff } ∧ Good ws p ∧ (ov = false → meas ws ≤ k) ∧
      takeA aage now room (if ov = true then 0 else k) ws p fd = takeA aage now room (meas aws) aws apau [] ∧ fd.length + 900 * k ≤ 900 * meas aws ∧ p.length + k ≤ 900) (n := meas aws) ?_
      ⟨b, aws, apau, [], _, false, none, oc, .cons rfl (.cons rfl (.cons rfl (.cons rfl (.cons rfl .nil)))), rfl, hc, hx, hb, hfine, fun _ => Nat.le_refl _, rfl, by simp, by omega⟩
    clear hc
    rintro k ls σ ⟨b', ws, p, fd, u, ov, cv, oc', hsub, rfl, hc, hbx, hs, hfi, hmk, htk, hfl, hplk⟩
    refine W.locs hsub ?_
    have hs0 := hs
    obtain ⟨bx, o, wl, wn, rs, agv, silent, pd, po, paused, od, oo, off⟩ := b'
    obtain ⟨⟨lp, lo, dx, dp, dof⟩, hws, hage, hsil, hpau, hoff⟩ := hs
    dsimp only at lp lo dx dp dof hws hage hsil hpau hoff hbx
    subst hbx hws hsil hpau hoff
    have hlf : fd.length ≤ 180000 := by omega
    show W C A L _ _ ((c, oc') :: (bx, o) :: (pd, po) :: (od, oo) :: (wl, lst (trefs rs) wn) :: (trs rs ++ rest)) _
    repeat cell_call
    cases rs with
    | nil =>
      refine iteB (fun h => by cases h) fun _ => ?_
      repeat cell_call
      have e : takeA aage now room (if ov = true then 0 else k) [] paused fd = _ := htk
      rw [takeA_nil] at e
      rw [← e]
      exact ends ⟨⟨bx, o, wl, wn, [], agv, silent, pd, po, paused, od, oo, off⟩, rfl, rfl, ⟨_, rfl⟩, ⟨⟨lp, lo, dx, dp, dof⟩, rfl, hage, rfl, rfl, rfl⟩⟩ (.drop1 (.drop1 .refl))
    | cons r rs' =>
      refine iteB (fun _ => ?_) fun h => by cases h
      repeat cell_call
      cases ov with
      | true =>
        refine iteB (fun h => by cases h) fun _ => ?_
        repeat cell_call
        have e : ((r :: rs').map TR.says, paused, fd) = _ := htk
        rw [← e]
        exact ends ⟨⟨bx, o, wl, wn, r :: rs', agv, silent, pd, po, paused, od, oo, off⟩, rfl, rfl, ⟨_, rfl⟩, ⟨⟨lp, lo, dx, dp, dof⟩, rfl, hage, rfl, rfl, rfl⟩⟩ (.drop1 (.drop1 .refl))
      | false =>
        obtain ⟨rx, pane, pt, oct, ot, time, tt⟩ := r
        have hmk := hmk rfl
        rw [if_neg (by decide)] at htk
        rw [List.map_cons] at hfi hmk htk
        simp only [TR.says] at hfi hmk htk
        obtain ⟨hp100, ho200, hnp⟩ := hfi.fine.ent _ (.head _)
        have hfull : oct ≠ [] := hfi.full _ (.head _)
        dsimp only at hp100 ho200 hnp
        have hmc := meas_cons (pane, oct, time) (rs'.map TR.says)
        dsimp only at hmc
        obtain ⟨k, rfl⟩ : ∃ k', k = k' + 1 := ⟨k - 1, by omega⟩
        have hrl : (trefs rs').length ≤ 1000 := by
          rw [trefs_length]
          have h1 := meas_len (rs'.map TR.says)
          rw [List.length_map] at h1; omega
        repeat cell_call
        refine W.part (τ := (c, oc') :: (bx, o) :: (pd, po) :: (od, oo) :: (wl, lst (.ref rx :: trefs rs') wn) :: (rx, Og.tup [.int pane pt, .bytes oct.toArray ot, .int time tt]) :: (trs rs' ++ rest)) (.drop1 .refl) ?_
        repeat cell_call
        refine wStoreCell ev (by w_end) (by w_end) (fun oc2 => ⟨_, by kbo_bools, fun hc2 => ?_⟩) hc
        repeat cell_call
        refine wIteAnd (late aage now time) (fun h => ?_) (fun h => ?_) ?_
        · cases aage with
          | none =>
            obtain rfl : agv = .none := hage
            exact absurd h (by decide)
          | some g =>
            obtain ⟨tg, rfl⟩ := hage
            repeat cell_call
            refine iteB (fun h => ?_) fun h => ?_
            · repeat cell_call
              exact ⟨h.symm, rfl, rfl⟩
            · exact ⟨h.symm, rfl, rfl⟩
        · cases aage with
          | none => rfl
          | some g =>
            obtain ⟨tg, rfl⟩ := hage
            rw [show (Value.int (g : Int) tg == Value.none) = false from rfl] at h; cases h
        refine iteB (fun hl => ?_) fun hl => ?_
        · repeat cell_call
          refine wDSetT dp (by omega) fun po' => ⟨_, by kbo_bools, fun dp' => ?_⟩
          repeat cell_call
          refine wListComp (cl := [(Str.ofString "pane", c)]) ⟨by subst hE; rfl, by decide, rfl, by decide, rfl, fun _ => rfl⟩ ev ok.handled ?_
          repeat cell_call
          refine wIterList (by kbo_bools) fun it io hio => ⟨rfl, ⟨it, _, _, _, _, _, io, fun i ys τ => τ = (c, oc2) :: (bx, o) :: (pd, po') :: (od, oo) :: (wl, lst (trefs ((⟨rx, pane, pt, oct, ot, time, tt⟩ : TR) :: rs')) wn) :: (trs ((⟨rx, pane, pt, oct, ot, time, tt⟩ : TR) :: rs') ++ rest) ∧
              ys = trefs ((List.take i ((⟨rx, pane, pt, oct, ot, time, tt⟩ : TR) :: rs')).filter (·.pane ≠ pane)), rfl, rfl, hio, Iter.list (vs := trefs ((⟨rx, pane, pt, oct, ot, time, tt⟩ : TR) :: rs')) (n := wn), ?_, ?_, ⟨rfl, rfl⟩, ?_, ?_⟩⟩
          · exact le_line (by have := trefs_length ((⟨rx, pane, pt, oct, ot, time, tt⟩ : TR) :: rs'); rw [List.length_cons] at this; rw [trefs_length] at hrl; omega)
          · rintro i ys τ ⟨rfl, _⟩
            kbo_bools
          · rintro i v ys τ J L' ev' hi hv ⟨rfl, rfl⟩
            obtain ⟨q, hmem, htake, rfl⟩ := trefs_get hv
            have hm1 : (q.x, Og.tup [.int q.pane q.pt, .bytes q.oct.toArray q.ot, .int q.time q.tt]) ∈ trs ((⟨rx, pane, pt, oct, ot, time, tt⟩ : TR) :: rs') := trs_mem hmem
            refine wTests1 ?_
            repeat cell_call
            refine iteD (fun h => ?_) fun h => ?_
            · repeat cell_call
              refine ⟨_, .refl, rfl, ?_⟩
              rw [htake, List.filter_append, trefs_append, List.filter_cons_of_pos (by simp only [ne_eq, decide_not, Bool.not_eq_true', decide_eq_false_iff_not]; omega)]
              rfl
            · refine ⟨_, .refl, rfl, ?_⟩
              rw [htake, List.filter_append, trefs_append, List.filter_cons_of_neg (by simp only [ne_eq, decide_not, Bool.not_eq_true', decide_eq_false_iff_not]; omega)]
              simp [trefs]
          · rintro ys τ D m ⟨rfl, rfl⟩
            rw [List.take_of_length_le (by rw [trefs_length]; exact Nat.le_refl _)]
            repeat cell_call
            refine wBS_wait dx fun o2 => ⟨_, by kbo_bools, fun dx2 => ?_⟩
            repeat cell_call
            refine wFn (fn_figures hK hp100) ok (by decide) .nil ?_
            rintro v pr ⟨rfl, w1, rfl⟩
            have hdp := dig_len pane
            repeat cell_call
            have hpb : fd ++ [37, 112, 97, 117, 115, 101, 32, 37] ++ dig pane ++ [10] = fd ++ pauseB pane := by simp [pauseB]
            have hpl2 : (pauseB pane).length ≤ 20 := by simp only [pauseB, List.length_append, List.length_cons, List.length_nil]; omega
            rw [hpb]
            have hml := meas_late (pane := pane) (o := oct) (t := time) (r := rs'.map TR.says)
            have hpk := putK_len paused pane
            rw [takeA_late hl] at htk
            refine ⟨k, by omega, _, ?_, ⟨bx, o2, D, m, List.filter (·.pane ≠ pane) ((⟨rx, pane, pt, oct, ot, time, tt⟩ : TR) :: rs'), agv, silent, pd, po', putK paused pane, od, oo, off⟩, _, _, fd ++ pauseB pane, _, false, _, oc2, .cons rfl (.cons rfl (.cons rfl (.cons rfl (.cons rfl .nil)))), rfl, hc2, rfl,
              ⟨⟨lp, lo, dx2, dp', dof⟩, tsays_filter ((⟨rx, pane, pt, oct, ot, time, tt⟩ : TR) :: rs') pane, hage, rfl, rfl, rfl⟩, hfi.late, ?_, htk, ?_, ?_⟩
            · refine Part.trans (τ := (c, oc2) :: (bx, o2) :: (pd, po') :: (od, oo) :: (D, lst (trefs (List.filter (·.pane ≠ pane) ((⟨rx, pane, pt, oct, ot, time, tt⟩ : TR) :: rs'))) m) :: (trs ((⟨rx, pane, pt, oct, ot, time, tt⟩ : TR) :: rs') ++ rest)) ?_ (by keq_rows)
              exact .cons .here (.cons .here (.cons .here (.cons .here (.cons .here (tshrink _ _ _)))))
            · intro _
              show meas (((pane, oct, time) :: rs'.map TR.says).filter (·.1 ≠ pane)) ≤ k
              omega
            · rw [List.length_append]; omega
            · show (putK paused pane).length + k ≤ 900
              omega
        · repeat cell_call
          have ha100 : ∀ g, (aage.map fun _ => now - time) = some g → g < 100 := by
            intro g hg
            cases aage with
            | none => cases hg
            | some q => simp at hg; omega
          refine wIteVal (R := fun v => isRoom v (room.map (· - (fd.length : Int)))) (fun h => ?_) (fun h => ?_) fun rv2 hrv2 => ?_
          · cases room with
            | none =>
              repeat cell_call
              exact ⟨rfl, rfl, rfl⟩
            | some m =>
              obtain ⟨tr, rfl⟩ := hrv
              rw [show (Value.int m tr == Value.none) = false from rfl] at h; cases h
          · cases room with
            | none =>
              obtain rfl : rv = .none := hrv
              exact absurd h (by decide)
            | some m =>
              obtain ⟨tr, rfl⟩ := hrv
              repeat cell_call
              exact ⟨⟨_, rfl⟩, rfl, rfl⟩
          repeat cell_call
          refine wFn (fn_lfits hK hs0 hrv2 hn rfl hp100 ho200) ok (by decide) (rest := (c, oc2) :: rest) ?_ ?_
          · show Rem ((bx, o) :: (pd, po) :: (od, oo) :: (wl, lst (.ref rx :: trefs rs') wn) :: (rx, Og.tup [.int pane pt, .bytes oct.toArray ot, .int time tt]) :: trs rs') _ _
            keq_rows
          have hstep := takeA_step (room := room) (n := k) (p := paused) (f := fd) (r := rs'.map TR.says) (pane := pane) (t := time) (age := aage) (now := now) hl hfull
          rw [hstep] at htk
          have hFle := bestA_le pane oct (aage.map fun _ => now - time) (room.map (· - (fd.length : Int))) oct.length
          rintro v pr ⟨tp, w, agv2, rfl, rfl, hage2⟩
          dsimp only at hage2 ⊢
          generalize bestA pane oct (aage.map fun _ => now - time) (room.map (· - (fd.length : Int))) oct.length = F at htk hFle ⊢
          show W C A L _ _ ((tp, Og.tup [.int (F : Nat) w, agv2]) :: (bx, o) :: (pd, po) :: (od, oo) :: (wl, lst (.ref rx :: trefs rs') wn) :: (rx, Og.tup [.int pane pt, .bytes oct.toArray ot, .int time tt]) :: (trs rs' ++ ((c, oc2) :: rest))) _
          have htl : (oct.take F).length ≤ 1000 := by rw [List.length_take]; omega
          repeat cell_call
          refine iteD (fun hF => ?_) fun hF => ?_
          · have hF : 0 < F := by omega
            rw [if_neg (by omega)] at htk
            have hcut1 : cutB oct none (some (F : Int)) = oct.take F := cut_to hFle
            have hcut2 : cutB oct (some (F : Int)) none = oct.drop F := cut_from hFle
            have hrow := rowB_len pane (oct.take F) (aage.map fun _ => now - time)
            have htl2 : (oct.take F).length ≤ 200 := by rw [List.length_take]; omega
            have hmr := meas_rest (pane := pane) (o := oct) (t := time) (r := rs'.map TR.says) (F := F) hF
            repeat cell_call
            refine wBSlice (by kbo_bools) .none (.int _ _) (by omega) fun y => ?_
            rw [hcut1]
            repeat cell_call
            refine wFn (fn_lrow hK hp100 htl ha100 hage2) ok (by decide) .nil ?_
            rintro v pr ⟨rfl, y4, rfl⟩
            repeat cell_call
            refine wIteMono (Q' := fun v ls' σ' => ∃ l extra, v = .ref l ∧ extra.map TR.says = (if F < oct.length then [(pane, oct.drop F, time)] else []) ∧
              (∃ u2, ls' = [(Str.ofString "room", rv), (Str.ofString "now", .int now t1), (Str.ofString "book", .ref bx), (Str.ofString "found", .bytes (fd ++ rowB pane (oct.take F) (aage.map fun _ => now - time)).toArray u2), (Str.ofString "is_over", .bool (decide ((F : Int) = 0))), (Str.ofString "octets", .bytes oct.toArray ot), (Str.ofString "time", .int time tt), (Str.ofString "fit", .int (F : Nat) w), (Str.ofString "age", agv2)]) ∧
              ∃ τ, Part τ σ' ∧ τ = (l, lst (trefs extra) 0) :: (trs extra ++ ((c, oc2) :: (bx, o) :: (pd, po) :: (od, oo) :: (wl, lst (.ref rx :: trefs rs') wn) :: (rx, Og.tup [.int pane pt, .bytes oct.toArray ot, .int time tt]) :: (trs rs' ++ rest)))) ?_ ?_
            · refine iteD (fun hlt => ?_) fun hlt => ?_
              · repeat cell_call
                refine wBSlice (by kbo_bools) (.int _ _) .none (by omega) fun y => ?_
                rw [hcut2]
                repeat cell_call
                rename_i ta la
                refine ⟨la, [⟨ta, pane, pt, oct.drop F, y, time, tt⟩], rfl, ?_, ⟨_, rfl⟩, _, ?_, rfl⟩
                · rw [if_pos (by omega)]; rfl
                · show Part ((la, lst [.ref ta] 0) :: (ta, Og.tup [.int pane pt, .bytes (oct.drop F).toArray y, .int time tt]) :: (c, oc2) :: (bx, o) :: (pd, po) :: (od, oo) :: (wl, lst (.ref rx :: trefs rs') wn) :: (rx, Og.tup [.int pane pt, .bytes oct.toArray ot, .int time tt]) :: (trs rs' ++ rest)) _
                  keq_rows
              · repeat cell_call
                rename_i la
                refine ⟨la, [], rfl, ?_, ⟨_, rfl⟩, _, ?_, rfl⟩
                · rw [if_neg (by omega)]; rfl
                · show Part ((la, lst [] 0) :: (c, oc2) :: (bx, o) :: (pd, po) :: (od, oo) :: (wl, lst (.ref rx :: trefs rs') wn) :: (rx, Og.tup [.int pane pt, .bytes oct.toArray ot, .int time tt]) :: (trs rs' ++ rest)) _
                  keq_rows
            · rintro v ls' σ' ⟨la, extra, rfl, hextra, ⟨u2, rfl⟩, τ, hpart, rfl⟩
              refine W.part hpart ?_
              have hex : (trefs extra).length ≤ 1 := by
                have h1 := congrArg List.length hextra
                rw [List.length_map] at h1
                rw [trefs_length, h1]
                split <;> simp
              repeat cell_call
              refine wBS_wait dx fun o2 => ⟨_, by kbo_bools, fun dx2 => ?_⟩
              repeat cell_call
              refine ⟨k, by omega, _, ?_, ⟨bx, o2, _, 0, extra ++ rs', agv, silent, pd, po, paused, od, oo, off⟩, _, _, fd ++ rowB pane (oct.take F) (aage.map fun _ => now - time), u2, decide ((F : Int) = 0), _, oc2, .cons rfl (.cons rfl (.cons rfl (.cons rfl (.cons rfl .nil)))), rfl, hc2, rfl,
                ⟨⟨lp, lo, dx2, dp, dof⟩, ?_, hage, rfl, rfl, rfl⟩, hfi.rest (F := F), (fun _ => by omega), ?_, ?_, (by show paused.length + k ≤ 900; omega)⟩
              · show Part ((c, oc2) :: (bx, o2) :: (pd, po) :: (od, oo) :: (_, lst (trefs (extra ++ rs')) 0) :: (trs (extra ++ rs') ++ rest)) _
                rw [trefs_append, trs_append, List.append_assoc]
                keq_rows
              · show (extra ++ rs').map TR.says = _
                rw [List.map_append, hextra]
                split <;> rfl
              · rw [if_neg (by simp; omega)]
                exact htk
              · rw [List.length_append]; omega
          · obtain rfl : F = 0 := by omega
            rw [if_pos rfl] at htk
            repeat cell_call
            refine ⟨k, by omega, _, ?_, ⟨bx, o, wl, wn, (⟨rx, pane, pt, oct, ot, time, tt⟩ : TR) :: rs', agv, silent, pd, po, paused, od, oo, off⟩, _, _, fd, _, true, _, oc2, .cons rfl (.cons rfl (.cons rfl (.cons rfl (.cons rfl .nil)))), rfl, hc2, rfl,
              hs0, hfi, (fun h => by cases h), htk, (by omega), (by show paused.length + k ≤ 900; omega)⟩
            show Part ((c, oc2) :: (bx, o) :: (pd, po) :: (od, oo) :: (wl, lst (.ref rx :: trefs rs') wn) :: (rx, Og.tup [.int pane pt, .bytes oct.toArray ot, .int time tt]) :: (trs rs' ++ rest)) _
            keq_rows

set_option maxHeartbeats 4000000
theorem fn_drawW {C : Cx} (hK : Kx C) {g : WL} {w : Addr} {q : Nat} (hg : WOk g w q) (hq : q < 900) {m : Int} (hm : 0 < m) {t : Tok} :
    Fn C 146 [.ref w, .int m t] 1 g.led fun v pr => (∃ z u, v = .int z u ∧ 0 ≤ z ∧ z < m) ∧ ∃ g' : WL, pr = g'.led ∧ WOk g' w (q + 1) := by
  obtain ⟨gw, nl, vs, p, pt, i, j⟩ := g
  obtain ⟨h1, h2, ns, h3, h4⟩ := hg
  dsimp only at h1 h2 h3
  subst h1
  refine (fn_draw hK (w := gw) (nl := nl) (i := i) (j := j) (pt := pt) (t := t) h3 (show p < 900 by omega) h4 hm).mono ?_
  rintro v pr ⟨⟨u, rfl⟩, pt', rfl⟩
  have hd := drawV_nonneg (ns := ns) (p := p) hm
  exact ⟨⟨_, _, rfl, hd.1, hd.2⟩, ⟨gw, nl, vs, p + 1, pt', i, j⟩, rfl, rfl, (by show p + 1 ≤ q + 1; omega), ns, h3, h4⟩
theorem fn_lput {C : Cx} (hK : Kx C) {g : WL} {w : Addr} {q : Nat} (hg : WOk g w q) (hq : q < 800) {f : FL} {b : BL} {a : FA} (hf : f.Says C a) (hb : b.Says C a) {pane now : Nat} {t1 t2 : Tok} (hz : a.ws.length ≤ 900) (hp : a.paused.length ≤ 900) :
    Fn C 175 [.ref w, .ref f.x, .ref b.x, .int pane t1, .int now t2] 4 (g.led ++ (f.led C.w.params ++ b.led)) fun v pr => v = .bool true ∧ ∃ (g' : WL) (f' : FL) (b' : BL) (a' : FA), pr = g'.led ++ (f'.led C.w.params ++ b'.led) ∧ WOk g' w (q + 8) ∧ f'.x = f.x ∧ b'.x = b.x ∧ f'.Says C a' ∧ b'.Says C a' ∧
      (a' = a ∨ ∃ oct : List UInt8, oct ≠ [] ∧ oct.length ≤ 6 ∧ (pane : Int) ∉ a.paused ∧ a' = { a with ws := a.ws ++ [(pane, oct, now)] }) := by
  generalize hfx : f.x = fx
  generalize hbx : b.x = bx
  refine Fn.of_body1 (z := Str.ofString "well") (v₀ := some (.ref w)) (ls' := [(Str.ofString "now", .int now t2), (Str.ofString "pane", .int pane t1), (Str.ofString "book", .ref bx), (Str.ofString "flow", .ref fx)]) (binds := [(Str.ofString "well", .ref w), (Str.ofString "flow", .ref fx), (Str.ofString "book", .ref bx), (Str.ofString "pane", .int pane t1), (Str.ofString "now", .int now t2)]) (kLook hK rfl) (by rw [hK]; kernel_rfl) rfl rfl rfl rfl (fun _ => rfl) ?_ rfl rfl ?_
  · intro y hy; simp at hy; rcases hy with rfl | rfl | rfl | rfl | rfl
    · exact .inr ⟨rfl, rfl⟩
    · exact .inl rfl
    · exact .inl rfl
    · exact .inl rfl
    · exact .inl rfl
  · intro A L c oc rest ok hc
    generalize hE : envX _ _ L _ _ _ = env
    have ev : Ev L env := by subst hE; exact ⟨rfl, rfl, rfl, rfl⟩
    refine W.part (τ := (c, oc) :: (g.led ++ (f.led C.w.params ++ (b.led ++ rest)))) (by rw [List.append_assoc, List.append_assoc]; exact .refl) ?_
    repeat cell_call
    refine wListComp (cl := [(Str.ofString "well", c)]) ⟨by subst hE; rfl, by decide, rfl, by decide, rfl, fun _ => rfl⟩ ev ok.handled ?_
    repeat cell_call
    refine wFn (fn_drawW hK hg (by omega) (by decide)) ok (by decide) (rest := (c, oc) :: (f.led C.w.params ++ (b.led ++ rest))) (by keq_rows) ?_
    rintro v pr ⟨⟨z, u, rfl, hz0, hz1⟩, g1, rfl, hg1⟩
    repeat cell_call
    obtain ⟨n, rfl⟩ : ∃ n : Nat, z = n := ⟨z.toNat, by omega⟩
    refine wIterRange (n := n) (by kbo_bools) (by omega) (by decide) (by omega) fun it io hio => ?_
    refine ⟨rfl, ⟨it, _, _, _, _, _, io, fun i ys τ => ∃ (g' : WL) (zs : List Int), Part ((c, oc) :: (g'.led ++ (f.led C.w.params ++ (b.led ++ rest)))) τ ∧ WOk g' w (q + 1 + i) ∧ IntsAre ys zs ∧ zs.length = i ∧ ∀ z ∈ zs, 0 ≤ z ∧ z < 256, rfl, rfl, hio, Iter.range, ?_, ?_, ?_, ?_, ?_⟩⟩
    · exact le_line (by omega)
    · intros; trivial
    · exact ⟨g1, [], by keq_rows, hg1, .nil, rfl, fun _ h => nomatch h⟩
    · rintro i v ys τ J L' ev' hi ⟨u1, rfl⟩ ⟨g2, zs, hpt, hg2, hys, hzl, hzb⟩
      refine W.part (τ := J ++ ((c, oc) :: (g2.led ++ (f.led C.w.params ++ (b.led ++ rest))))) (Part.app .refl hpt) ?_
      refine wTests0 (iteT ?_)
      repeat cell_call
      refine wFn (fn_drawW hK hg2 (by omega) (by decide)) ok (by decide) (rest := J ++ ((c, oc) :: (f.led C.w.params ++ (b.led ++ rest)))) (by keq_rows) ?_
      rintro v pr ⟨⟨z, u, rfl, hz2, hz3⟩, g3, rfl, hg3⟩
      repeat cell_call
      refine wTailOct hK (by with_unfolding_all rfl) (wGOct hK hz2 hz3 fun y u2 hy0 hy1 => ?_)
      refine ⟨(c, oc) :: (g3.led ++ (f.led C.w.params ++ (b.led ++ rest))), by keq_rows, g3, zs ++ [y], .refl, hg3, hys.append (.cons _ _ .nil), by rw [List.length_append, hzl]; rfl, fun x hx => ?_⟩
      rcases List.mem_append.mp hx with hx | hx
      · exact hzb x hx
      · rw [List.mem_singleton] at hx; subst hx; exact ⟨hy0, hy1⟩
    · rintro ys τ D m ⟨g2, zs, hpt, hg2, hys, hzl, hzb⟩
      refine W.part (τ := (D, lst ys m) :: (c, oc) :: (g2.led ++ (f.led C.w.params ++ (b.led ++ rest)))) (Part.cons .here hpt) ?_
      repeat cell_call
      have hyl := hys.length
      refine wBytesInts' (by kbo_bools) ok.handled hys hzb (le_line (by omega)) rfl fun u => ?_
      have hol : (zs.map fun n => n.toNat.toUInt8).length ≤ 6 := by rw [List.length_map]; omega
      generalize (zs.map fun n => n.toNat.toUInt8) = oct at hol ⊢
      subst hfx hbx
      have mf1 : (f.x, instObj 134 f.dx) ∈ f.led C.w.params := List.mem_cons_self
      have mf2 : (f.dx, flowD C.w.params f.t1 f.t2 f.t3 f.t4 f.t5 (.ref f.wl) f.agv (.bool f.silent) (.ref f.pd) (.ref f.od)) ∈ f.led C.w.params := List.mem_cons_of_mem _ List.mem_cons_self
      repeat cell_call
      have hfz : f.ws.length ≤ 1000 := by have := congrArg List.length hf.ws; rw [List.length_map] at this; omega
      refine wFn (fn_put hK hf (pane := pane) (oct := oct) (time := now) hfz) ok (by decide) (rest := (D, lst ys m) :: (c, oc) :: (g2.led ++ (b.led ++ rest))) (by keq_rows) ?_
      rintro v pr ⟨rfl, f2, rfl, hx2, hs2⟩
      have hbd := hb.ok.dx
      have hbp := hb.ok.dp
      have hbo := hb.ok.dof
      have hlp := hb.ok.lp
      have hlo := hb.ok.lo
      have mb1 : (b.x, b.o) ∈ b.led := List.mem_cons_self
      have mb2 : (b.pd, b.po) ∈ b.led := List.mem_cons_of_mem _ List.mem_cons_self
      have mb3 : (b.od, b.oo) ∈ b.led := List.mem_cons_of_mem _ (List.mem_cons_of_mem _ List.mem_cons_self)
      have mb4 : (b.wl, lst (trefs b.ws) b.wn) ∈ b.led := List.mem_cons_of_mem _ (List.mem_cons_of_mem _ (List.mem_cons_of_mem _ List.mem_cons_self))
      repeat cell_call
      have same : ¬ (a.silent = false ∧ (pane : Int) ∉ a.paused ∧ (pane : Int) ∉ a.off ∧ oct ≠ []) → f2.Says C a := fun h => by
        rw [if_neg h] at hs2; exact hs2
      refine wIteAndV (decide ((pane : Int) ∉ b.paused) && (decide ((pane : Int) ∉ b.off) && !b.silent)) (fun h1 => ?_) (fun h1 => by rw [h1]; rfl) ?_
      · repeat cell_call
        refine iteB (fun h2 => ?_) fun h2 => ?_
        · repeat cell_call
          exact ⟨by rw [h1, h2]; rfl, rfl, rfl⟩
        · exact ⟨by rw [h1, h2]; rfl, rfl, rfl⟩
      repeat cell_call
      have eK : (decide ((pane : Int) ∉ b.paused) && (decide ((pane : Int) ∉ b.off) && !b.silent)) = true ↔ (a.silent = false ∧ (pane : Int) ∉ a.paused ∧ (pane : Int) ∉ a.off) := by
        rw [hb.paused, hb.off, hb.silent, Bool.and_eq_true, Bool.and_eq_true, decide_eq_true_iff, decide_eq_true_iff, Bool.not_eq_true']
        exact ⟨fun h => ⟨h.2.2, h.1, h.2.1⟩, fun h => ⟨h.2.1, h.2.2, h.1⟩⟩
      refine iteB (fun h3 => ?_) fun h3 => ?_
      · have h3 := eK.mp h3
        repeat cell_call
        refine iteD (fun h4 => ?_) fun h4 => ?_
        · show W C A L _ _ (f2.led C.w.params ++ (D, lst ys m) :: (c, oc) :: (g2.led ++ ((b.x, b.o) :: (b.pd, b.po) :: (b.od, b.oo) :: (b.wl, lst (trefs b.ws) b.wn) :: (trs b.ws ++ rest)))) _
          have hbz : (trefs b.ws).length ≤ 1000 := by have := congrArg List.length hb.ws; rw [List.length_map] at this; rw [trefs_length]; omega
          repeat cell_call
          refine wBS_wait hbd fun o2 => ⟨_, by kbo_bools, fun hbd2 => ?_⟩
          repeat cell_call
          rename_i xa ta la lb
          rw [if_pos ⟨h3.1, h3.2.1, h3.2.2, h4⟩] at hs2
          refine ends ⟨rfl, g2, f2, ⟨b.x, o2, _, 0, b.ws ++ [⟨xa, pane, t1, oct, u, now, t2⟩], b.agv, b.silent, b.pd, b.po, b.paused, b.od, b.oo, b.off⟩, _, rfl, hg2.le (by omega), hx2, rfl, hs2,
            ⟨⟨hlp, hlo, hbd2, hbp, hbo⟩, ?_, hb.age, hb.silent, hb.paused, hb.off⟩, .inr ⟨oct, h4, hol, h3.2.1, rfl⟩⟩ ?_
          · show (b.ws ++ [_]).map TR.says = _
            rw [List.map_append, hb.ws]; rfl
          · show Part ((g2.led ++ (f2.led C.w.params ++ ((b.x, o2) :: (b.pd, b.po) :: (b.od, b.oo) :: (_, lst (trefs (b.ws ++ [⟨xa, pane, t1, oct, u, now, t2⟩])) 0) :: trs (b.ws ++ [⟨xa, pane, t1, oct, u, now, t2⟩])))) ++ rest) _
            rw [trefs_snoc, List.append_assoc, List.append_assoc]
            simp only [List.cons_append]
            rw [trs_snoc]
            simp only [TR.obj]
            keq_rows
        · repeat cell_call
          exact ends ⟨rfl, g2, f2, b, a, rfl, hg2.le (by omega), hx2, rfl, same fun h => h4 h.2.2.2, hb, .inl rfl⟩ (by rw [List.append_assoc, List.append_assoc]; keq_rows)
      · repeat cell_call
        exact ends ⟨rfl, g2, f2, b, a, rfl, hg2.le (by omega), hx2, rfl, same fun h => (by rw [eK.mpr ⟨h.1, h.2.1, h.2.2.1⟩] at h3; cases h3), hb, .inl rfl⟩ (by rw [List.append_assoc, List.append_assoc]; keq_rows)

set_option maxHeartbeats 4000000
theorem fn_lstopped {C : Cx} (hK : Kx C) {f : FL} {b : BL} {a : FA} (hf : f.Says C a) (hb : b.Says C a) {pane : Nat} {act : Int} (hact : act = 3 ∨ act = 4 ∨ act = 5) {t1 t2 : Tok} (hz : a.ws.length ≤ 900) (hp : a.paused.length ≤ 900) (hgood : Good a.ws a.paused) :
    Fn C 180 [.ref f.x, .ref b.x, .int pane t1, .int act t2] 4 (f.led C.w.params ++ b.led) fun v pr => v = .bool true ∧ ∃ (f' : FL) (b' : BL) (a' : FA), pr = f'.led C.w.params ++ b'.led ∧ f'.x = f.x ∧ b'.x = b.x ∧ f'.Says C a' ∧ b'.Says C a' ∧
      (a' = { a with paused := a.paused.filter (· ≠ (pane : Int)) } ∨ a' = { a with ws := a.ws.filter (·.1 ≠ pane) } ∨ a' = { a with ws := a.ws.filter (·.1 ≠ pane), paused := putK a.paused pane }) := by
  obtain ⟨bx, o, wl, wn, ws, agv, silent, pd, po, paused, od, oo, off⟩ := b
  dsimp only
  generalize hfx : f.x = fx
  refine Fn.of_body1 (z := Str.ofString "pane") (v₀ := some (.int pane t1)) (ls' := [(Str.ofString "act", .int act t2), (Str.ofString "book", .ref bx), (Str.ofString "flow", .ref fx)]) (binds := [(Str.ofString "flow", .ref fx), (Str.ofString "book", .ref bx), (Str.ofString "pane", .int pane t1), (Str.ofString "act", .int act t2)]) (kLook hK rfl) (by rw [hK]; kernel_rfl) rfl rfl rfl rfl (fun _ => rfl) ?_ rfl rfl ?_
  · intro y hy; simp at hy; rcases hy with rfl | rfl | rfl | rfl
    · exact .inl rfl
    · exact .inl rfl
    · exact .inr ⟨rfl, rfl⟩
    · exact .inl rfl
  · intro A L c oc rest ok hc
    generalize hE : envX _ _ L _ _ _ = env
    have ev : Ev L env := by subst hE; exact ⟨rfl, rfl, rfl, rfl⟩
    subst hfx
    have mf1 : (f.x, instObj 134 f.dx) ∈ f.led C.w.params := List.mem_cons_self
    have mf2 : (f.dx, flowD C.w.params f.t1 f.t2 f.t3 f.t4 f.t5 (.ref f.wl) f.agv (.bool f.silent) (.ref f.pd) (.ref f.od)) ∈ f.led C.w.params := List.mem_cons_of_mem _ List.mem_cons_self
    obtain ⟨⟨lp, lo, dx, dp, dof⟩, hws, hage, hsil, hpau, hoff⟩ := hb
    dsimp only at lp lo dx dp dof hws hage hsil hpau hoff
    have hfz : f.ws.length ≤ 1000 := by have := congrArg List.length hf.ws; rw [List.length_map] at this; omega
    have hfp : f.paused.length ≤ 900 := by rw [hf.paused]; exact hp
    have hbz : (trefs ws).length ≤ 1000 := by have := congrArg List.length hws; rw [List.length_map] at this; rw [trefs_length]; omega
    have hbp : paused.length ≤ 900 := by rw [hpau]; exact hp
    refine W.part (τ := (c, oc) :: (f.led C.w.params ++ ((bx, o) :: (pd, po) :: (od, oo) :: (wl, lst (trefs ws) wn) :: (trs ws ++ rest)))) (by rw [List.append_assoc]; exact .refl) ?_
    repeat cell_call
    refine iteD (fun h4 => ?_) fun h4 => ?_
    · repeat cell_call
      refine wFn (fn_go_on hK hf (pane := pane) hfp) ok (by decide) (rest := (c, oc) :: ((bx, o) :: (pd, po) :: (od, oo) :: (wl, lst (trefs ws) wn) :: (trs ws ++ rest))) (by keq_rows) ?_
      rintro v pr ⟨rfl, f2, rfl, hx2, hs2⟩
      repeat cell_call
      by_cases hin : (pane : Int) ∈ paused
      · refine wDPopT (.inr ⟨_, rfl⟩) dp (by omega) hin fun po' => ⟨_, by kbo_bools, fun dp' => ?_⟩
        repeat cell_call
        have e : (decide ((pane : Int) ∈ a.paused) == !(Value.bool true == Value.none)) = true := by rw [← hpau, decide_eq_true hin]; rfl
        refine ends ⟨by rw [e], f2, ⟨bx, o, wl, wn, ws, agv, silent, pd, po', paused.filter (· ≠ (pane : Int)), od, oo, off⟩, _, rfl, hx2, rfl, hs2, ⟨⟨lp, lo, dx, dp', dof⟩, hws, hage, hsil, by rw [hpau], hoff⟩, .inl rfl⟩ ?_
        show Part ((f2.led C.w.params ++ ((bx, o) :: (pd, po') :: (od, oo) :: (wl, lst (trefs ws) wn) :: trs ws)) ++ rest) _
        rw [List.append_assoc]
        keq_rows
      · refine wDPopNoneT (by kbo_bools) lp dp hin ?_
        repeat cell_call
        have e : (decide ((pane : Int) ∈ a.paused) == !(Value.none == Value.none)) = true := by rw [← hpau, decide_eq_false hin]; rfl
        refine ends ⟨by rw [e], f2, ⟨bx, o, wl, wn, ws, agv, silent, pd, po, paused, od, oo, off⟩, _, rfl, hx2, rfl, hs2, ⟨⟨lp, lo, dx, dp, dof⟩, hws, hage, hsil, ?_, hoff⟩, .inl rfl⟩ ?_
        · show paused = a.paused.filter (· ≠ (pane : Int))
          rw [← hpau]
          exact (List.filter_eq_self.mpr fun y hy => by simp only [ne_eq, decide_not, Bool.not_eq_true', decide_eq_false_iff_not]; rintro rfl; exact hin hy).symm
        · show Part ((f2.led C.w.params ++ ((bx, o) :: (pd, po) :: (od, oo) :: (wl, lst (trefs ws) wn) :: trs ws)) ++ rest) _
          rw [List.append_assoc]
          keq_rows
    · repeat cell_call
      refine wIteOrV (decide (act = 5) || decide ((pane : Int) ∉ paused)) (fun h => by rw [h]; rfl) (fun h => ?_) ?_
      · repeat cell_call
        exact ⟨by rw [h]; rfl, rfl, rfl⟩
      repeat cell_call
      refine wIteThen (fun ls' σ' => ls' = [(Str.ofString "act", .int act t2), (Str.ofString "book", .ref bx), (Str.ofString "flow", .ref f.x), (Str.ofString "due", .bool (decide (act = 5) || decide ((pane : Int) ∉ paused)))] ∧
        ∃ po', po'.IsDictOf (intKind C.prog C.w) (kvT (if act = 3 then putK paused pane else paused)) ∧ σ' = (c, oc) :: (f.led C.w.params ++ ((bx, o) :: (pd, po') :: (od, oo) :: (wl, lst (trefs ws) wn) :: (trs ws ++ rest)))) (fun h3 => ?_) (fun h3 => ?_) ?_
      · have h3 : act = 3 := of_decide_eq_true h3
        repeat cell_call
        refine wDSetT dp (by omega) fun po' => ⟨_, by kbo_bools, fun dp' => ?_⟩
        repeat cell_call
        exact ⟨rfl, rfl, po', by rw [if_pos h3]; exact dp', rfl⟩
      · exact ⟨rfl, po, by rw [if_neg (fun h => h3 (decide_eq_true h))]; exact dp, rfl⟩
      · rintro ls' σ' ⟨rfl, po', dp', rfl⟩
        generalize hp2 : (if act = 3 then putK paused (pane : Int) else paused) = paused2 at dp'
        repeat cell_call
        refine wListComp (cl := [(Str.ofString "pane", c)]) ⟨by subst hE; rfl, by decide, rfl, by decide, rfl, fun _ => rfl⟩ ev ok.handled ?_
        repeat cell_call
        refine wIterList (by kbo_bools) fun it io hio => ⟨rfl, ⟨it, _, _, _, _, _, io, fun i ys τ => τ = (c, oc) :: (f.led C.w.params ++ ((bx, o) :: (pd, po') :: (od, oo) :: (wl, lst (trefs ws) wn) :: (trs ws ++ rest))) ∧
            ys = trefs ((List.take i ws).filter (·.pane ≠ pane)), rfl, rfl, hio, Iter.list (vs := trefs ws) (n := wn), ?_, ?_, ⟨rfl, rfl⟩, ?_, ?_⟩⟩
        · exact le_line (by omega)
        · rintro i ys τ ⟨rfl, _⟩
          kbo_bools
        · rintro i v ys τ J L' ev' hi hv ⟨rfl, rfl⟩
          obtain ⟨q, hmem, htake, rfl⟩ := trefs_get hv
          have hm1 : (q.x, Og.tup [.int q.pane q.pt, .bytes q.oct.toArray q.ot, .int q.time q.tt]) ∈ trs ws := trs_mem hmem
          refine wTests1 ?_
          repeat cell_call
          refine iteD (fun h => ?_) fun h => ?_
          · repeat cell_call
            refine ⟨_, .refl, rfl, ?_⟩
            rw [htake, List.filter_append, trefs_append, List.filter_cons_of_pos (by simp only [ne_eq, decide_not, Bool.not_eq_true', decide_eq_false_iff_not]; omega)]
            rfl
          · refine ⟨_, .refl, rfl, ?_⟩
            rw [htake, List.filter_append, trefs_append, List.filter_cons_of_neg (by simp only [ne_eq, decide_not, Bool.not_eq_true', decide_eq_false_iff_not]; omega)]
            simp [trefs]
        · rintro ys τ D m ⟨rfl, rfl⟩
          rw [List.take_of_length_le (by rw [trefs_length]; exact Nat.le_refl _)]
          repeat cell_call
          refine wBS_wait dx fun o2 => ⟨_, by kbo_bools, fun dx2 => ?_⟩
          repeat cell_call
          have hb2 : BL.Says C ⟨bx, o2, D, m, ws.filter (·.pane ≠ pane), agv, silent, pd, po', paused2, od, oo, off⟩ { a with ws := a.ws.filter (·.1 ≠ pane), paused := paused2 } :=
            ⟨⟨lp, lo, dx2, dp', dof⟩, by rw [← hws]; exact tsays_filter ws pane, hage, hsil, rfl, hoff⟩
          refine iteD (fun h5 => ?_) fun h5 => ?_
          · repeat cell_call
            obtain rfl : paused2 = a.paused := by rw [← hp2, if_neg (by omega), hpau]
            refine wFn (fn_leave hK hf (pane := pane) hfz) ok (by decide) (rest := (D, lst (trefs (ws.filter (·.pane ≠ pane))) m) :: (c, oc) :: ((bx, o2) :: (pd, po') :: (od, oo) :: (wl, lst (trefs ws) wn) :: (trs ws ++ rest))) (by keq_rows) ?_
            rintro v pr ⟨rfl, f2, rfl, hx2, hs2⟩
            repeat cell_call
            refine ends ⟨rfl, f2, _, _, rfl, hx2, rfl, hs2, hb2, .inr (.inl rfl)⟩ ?_
            show Part ((f2.led C.w.params ++ ((bx, o2) :: (pd, po') :: (od, oo) :: (D, lst (trefs (ws.filter (·.pane ≠ pane))) m) :: trs (ws.filter (·.pane ≠ pane)))) ++ rest) _
            refine Part.trans (τ := (f2.led C.w.params ++ ((bx, o2) :: (pd, po') :: (od, oo) :: (D, lst (trefs (ws.filter (·.pane ≠ pane))) m) :: (trs ws ++ rest)))) ?_ (by rw [List.append_assoc]; keq_rows)
            rw [List.append_assoc]
            exact Part.app .refl (.cons .here (.cons .here (.cons .here (.cons .here (tshrink _ _ _)))))
          · repeat cell_call
            obtain rfl : act = 3 := by omega
            obtain rfl : paused2 = putK a.paused pane := by rw [← hp2, if_pos rfl, hpau]
            refine wFn (fn_pause hK hf (pane := pane) hfz hfp) ok (by decide) (rest := (D, lst (trefs (ws.filter (·.pane ≠ pane))) m) :: (c, oc) :: ((bx, o2) :: (pd, po') :: (od, oo) :: (wl, lst (trefs ws) wn) :: (trs ws ++ rest))) (by keq_rows) ?_
            rintro v pr ⟨rfl, f2, gone, rfl, _, hx2, hs2⟩
            repeat cell_call
            have e : (decide ((pane : Int) ∉ a.paused) == (decide ((3 : Int) = 5) || decide ((pane : Int) ∉ paused))) = true := by rw [hpau, decide_eq_false h5, Bool.false_or]; exact beq_self_eq_true _
            have hs3 : f2.Says C { a with ws := a.ws.filter (·.1 ≠ pane), paused := putK a.paused pane } := by
              by_cases hin : (pane : Int) ∈ a.paused
              · rw [if_pos hin] at hs2
                have e1 : a.ws.filter (·.1 ≠ pane) = a.ws := List.filter_eq_self.mpr fun e he => by
                  have h := (hgood.fine.ent e he).2.2
                  simp only [ne_eq, decide_not, Bool.not_eq_true', decide_eq_false_iff_not]
                  rintro h9
                  rw [h9] at h
                  exact h hin
                have e2 : putK a.paused (pane : Int) = a.paused := if_pos hin
                rw [e1, e2]
                exact hs2
              · rw [if_neg hin] at hs2
                exact hs2
            refine ends ⟨by rw [e], f2, _, _, rfl, hx2, rfl, hs3, hb2, .inr (.inr rfl)⟩ ?_
            show Part ((f2.led C.w.params ++ ((bx, o2) :: (pd, po') :: (od, oo) :: (D, lst (trefs (ws.filter (·.pane ≠ pane))) m) :: trs (ws.filter (·.pane ≠ pane)))) ++ rest) _
            refine Part.trans (τ := (f2.led C.w.params ++ ((bx, o2) :: (pd, po') :: (od, oo) :: (D, lst (trefs (ws.filter (·.pane ≠ pane))) m) :: (trs ws ++ rest)))) ?_ (by rw [List.append_assoc]; keq_rows)
            rw [List.append_assoc]
            exact Part.app .refl (.cons .here (.cons .here (.cons .here (.cons .here (tshrink _ _ _)))))

set_option maxHeartbeats 4000000
theorem fn_llet {C : Cx} (hK : Kx C) {g : WL} {w : Addr} {q : Nat} (hg : WOk g w q) (hq : q < 800) {f : FL} {b : BL} {a : FA} (hf : f.Says C a) (hb : b.Says C a) {pane : Nat} {act : Int} {t1 t2 : Tok} (ho : a.off.length ≤ 900) :
    Fn C 187 [.ref w, .ref f.x, .ref b.x, .int pane t1, .int act t2] 2 (g.led ++ (f.led C.w.params ++ b.led)) fun v pr => v = .bool true ∧ ∃ (g' : WL) (f' : FL) (b' : BL) (a' : FA), pr = g'.led ++ (f'.led C.w.params ++ b'.led) ∧ WOk g' w (q + 1) ∧ f'.x = f.x ∧ b'.x = b.x ∧ f'.Says C a' ∧ b'.Says C a' ∧
      a'.ws = a.ws ∧ a'.paused = a.paused ∧ a'.off.length ≤ a.off.length + 1 := by
  obtain ⟨bx, o, wl, wn, ws, agv, silent, pd, po, paused, od, oo, off⟩ := b
  obtain ⟨x, dx, k1, k2, k3, k4, k5, fwl, fwn, fws, fagv, fsilent, fpd, fpo, fpaused, fod, foo, foff⟩ := f
  dsimp only
  refine Fn.of_body (binds := [(Str.ofString "well", .ref w), (Str.ofString "flow", .ref x), (Str.ofString "book", .ref bx), (Str.ofString "pane", .int pane t1), (Str.ofString "act", .int act t2)]) (kLook hK rfl) (by rw [hK]; kernel_rfl) rfl ?_ ?_ rfl rfl rfl ?_
  · intro y hy; simp at hy; rcases hy with rfl | rfl | rfl | rfl | rfl <;> rfl
  · decide
  · intro A L rest ok
    generalize hE : envX _ _ L _ _ _ = env
    have ev : Ev L env := by subst hE; exact ⟨rfl, rfl, rfl, rfl⟩
    show W C A L _ [(Str.ofString "act", .int act t2), (Str.ofString "pane", .int pane t1), (Str.ofString "book", .ref bx), (Str.ofString "flow", .ref x), (Str.ofString "well", .ref w)] _ _
    obtain ⟨⟨lp, lo, dxk, dp, dof⟩, hws, hage, hsil, hpau, hoff⟩ := hb
    obtain ⟨⟨flp, flo, fdp, fdof⟩, hfws, hfage, hfsil, hfpau, hfoff⟩ := hf
    dsimp only at lp lo dxk dp dof hws hage hsil hpau hoff flp flo fdp fdof hfws hfage hfsil hfpau hfoff
    refine W.part (τ := g.led ++ ((x, instObj 134 dx) :: (dx, flowD C.w.params k1 k2 k3 k4 k5 (.ref fwl) fagv (.bool fsilent) (.ref fpd) (.ref fod)) :: (fpd, fpo) :: (fod, foo) :: (fwl, lst (refs fws) fwn) :: (wrs C.w.params fws ++ ((bx, o) :: (pd, po) :: (od, oo) :: (wl, lst (trefs ws) wn) :: (trs ws ++ rest))))) (by rw [List.append_assoc, List.append_assoc]; exact .refl) ?_
    repeat cell_call
    refine wFn (fn_drawW hK hg (by omega) (by decide)) ok (by decide) (rest := ((x, instObj 134 dx) :: (dx, flowD C.w.params k1 k2 k3 k4 k5 (.ref fwl) fagv (.bool fsilent) (.ref fpd) (.ref fod)) :: (fpd, fpo) :: (fod, foo) :: (fwl, lst (refs fws) fwn) :: (wrs C.w.params fws ++ ((bx, o) :: (pd, po) :: (od, oo) :: (wl, lst (trefs ws) wn) :: (trs ws ++ rest))))) (by keq_rows) ?_
    rintro v pr ⟨⟨z, u, rfl, hz0, hz1⟩, g1, rfl, hg1⟩
    repeat cell_call
    refine iteD (fun h6 => ?_) fun h6 => ?_
    · repeat cell_call
      refine wIteVal (R := fun v => ∃ ag, isAge v ag) (fun h => ?_) (fun h => ?_) fun v hv => ?_
      · repeat cell_call
        exact ⟨⟨none, rfl⟩, rfl, rfl⟩
      · have h := of_decide_eq_false h
        repeat cell_call
        refine ⟨⟨some (z - 1).toNat, ?_⟩, rfl, rfl⟩
        rw [show z - 1 = (((z - 1).toNat : Nat) : Int) from by omega]
        exact ⟨_, rfl⟩
      obtain ⟨ag, hag⟩ := hv
      repeat cell_call
      refine wBS_age dxk fun o2 => ⟨_, by kbo_bools, fun dxk2 => ?_⟩
      repeat cell_call
      refine ends ⟨rfl, g1, ⟨x, dx, k1, k2, k3, k4, k5, fwl, fwn, fws, v, fsilent, fpd, fpo, fpaused, fod, foo, foff⟩, ⟨bx, o2, wl, wn, ws, v, silent, pd, po, paused, od, oo, off⟩, { a with age := ag }, rfl, hg1, rfl, rfl, ⟨⟨flp, flo, fdp, fdof⟩, hfws, hag, hfsil, hfpau, hfoff⟩, ⟨⟨lp, lo, dxk2, dp, dof⟩, hws, hag, hsil, hpau, hoff⟩, rfl, rfl, Nat.le_succ _⟩ ?_
      rw [List.append_assoc, List.append_assoc]
      exact .refl
    · repeat cell_call
      refine iteD (fun h2 => ?_) fun h2 => ?_
      · repeat cell_call
        refine wBS_silent dxk fun o2 => ⟨_, by kbo_bools, fun dxk2 => ?_⟩
        repeat cell_call
        refine ends ⟨rfl, g1, ⟨x, dx, k1, k2, k3, k4, k5, fwl, fwn, fws, fagv, decide (z = 1), fpd, fpo, fpaused, fod, foo, foff⟩, ⟨bx, o2, wl, wn, ws, agv, decide (z = 1), pd, po, paused, od, oo, off⟩, { a with silent := decide (z = 1) }, rfl, hg1, rfl, rfl, ⟨⟨flp, flo, fdp, fdof⟩, hfws, hfage, rfl, hfpau, hfoff⟩, ⟨⟨lp, lo, dxk2, dp, dof⟩, hws, hage, rfl, hpau, hoff⟩, rfl, rfl, Nat.le_succ _⟩ ?_
        rw [List.append_assoc, List.append_assoc]
        exact .refl
      · repeat cell_call
        have hol : off.length ≤ 900 := by rw [hoff]; exact ho
        have hfol : foff.length ≤ 900 := by rw [hfoff]; exact ho
        refine iteD (fun h3 => ?_) fun h3 => ?_
        · repeat cell_call
          refine wDPopT (.inl rfl) dof (by omega) h3 fun oo' => ⟨_, by kbo_bools, fun dof' => ?_⟩
          repeat cell_call
          refine wDPopT (.inl rfl) fdof (by omega) (by rw [hfoff, ← hoff]; exact h3) fun foo' => ⟨_, by kbo_bools, fun fdof' => ?_⟩
          repeat cell_call
          refine ends ⟨rfl, g1, ⟨x, dx, k1, k2, k3, k4, k5, fwl, fwn, fws, fagv, fsilent, fpd, fpo, fpaused, fod, foo', foff.filter (· ≠ (pane : Int))⟩, ⟨bx, o, wl, wn, ws, agv, silent, pd, po, paused, od, oo', off.filter (· ≠ (pane : Int))⟩, { a with off := a.off.filter (· ≠ (pane : Int)) }, rfl, hg1, rfl, rfl, ⟨⟨flp, flo, fdp, fdof'⟩, hfws, hfage, hfsil, hfpau, by rw [hfoff]⟩, ⟨⟨lp, lo, dxk, dp, dof'⟩, hws, hage, hsil, hpau, by rw [hoff]⟩, rfl, rfl, Nat.le_succ_of_le (List.length_filter_le _ _)⟩ ?_
          rw [List.append_assoc, List.append_assoc]
          exact .refl
        · repeat cell_call
          refine wDSetT dof (by omega) fun oo' => ⟨_, by kbo_bools, fun dof' => ?_⟩
          repeat cell_call
          refine wDSetT fdof (by omega) fun foo' => ⟨_, by kbo_bools, fun fdof' => ?_⟩
          repeat cell_call
          refine ends ⟨rfl, g1, ⟨x, dx, k1, k2, k3, k4, k5, fwl, fwn, fws, fagv, fsilent, fpd, fpo, fpaused, fod, foo', putK foff pane⟩, ⟨bx, o, wl, wn, ws, agv, silent, pd, po, paused, od, oo', putK off pane⟩, { a with off := putK a.off pane }, rfl, hg1, rfl, rfl, ⟨⟨flp, flo, fdp, fdof'⟩, hfws, hfage, hfsil, hfpau, by rw [hfoff]⟩, ⟨⟨lp, lo, dxk, dp, dof'⟩, hws, hage, hsil, hpau, by rw [hoff]⟩, rfl, rfl, putK_len _ _⟩ ?_
          rw [List.append_assoc, List.append_assoc]
          exact .refl

set_option maxHeartbeats 4000000
theorem fn_lrows {C : Cx} (hK : Kx C) (hH : C.H) {g : WL} {w : Addr} {q : Nat} (hg : WOk g w q) (hq : q < 800) {f : FL} {b : BL} {a : FA} (hf : f.Says C a) (hb : b.Says C a) {now : Nat} {t1 : Tok} (hn : now < 100) (hgood : Good a.ws a.paused) (hm : meas a.ws ≤ 200) (hp : a.paused.length ≤ 500) :
    Fn C 194 [.ref w, .ref f.x, .ref b.x, .int now t1] 6 (g.led ++ (f.led C.w.params ++ b.led)) fun v pr => v = .bool true ∧ ∃ (g' : WL) (f' : FL) (b' : BL) (room : Option Int), pr = g'.led ++ (f'.led C.w.params ++ b'.led) ∧ WOk g' w (q + 1) ∧ f'.x = f.x ∧ b'.x = b.x ∧
      f'.Says C { a with ws := (takeA a.age now room (meas a.ws) a.ws a.paused []).1, paused := (takeA a.age now room (meas a.ws) a.ws a.paused []).2.1 } ∧
      b'.Says C { a with ws := (takeA a.age now room (meas a.ws) a.ws a.paused []).1, paused := (takeA a.age now room (meas a.ws) a.ws a.paused []).2.1 } := by
  generalize hfx : f.x = fx
  generalize hbx : b.x = bx
  refine Fn.of_body (binds := [(Str.ofString "well", .ref w), (Str.ofString "flow", .ref fx), (Str.ofString "book", .ref bx), (Str.ofString "now", .int now t1)]) (kLook hK rfl) (by rw [hK]; kernel_rfl) rfl ?_ ?_ rfl rfl rfl ?_
  · intro y hy; simp at hy; rcases hy with rfl | rfl | rfl | rfl <;> rfl
  · decide
  · intro A L rest ok
    generalize hE : envX _ _ L _ _ _ = env
    have ev : Ev L env := by subst hE; exact ⟨rfl, rfl, rfl, rfl⟩
    subst hfx hbx
    show W C A L _ [(Str.ofString "now", .int now t1), (Str.ofString "book", .ref b.x), (Str.ofString "flow", .ref f.x), (Str.ofString "well", .ref w)] _ _
    have mf1 : (f.x, instObj 134 f.dx) ∈ f.led C.w.params := List.mem_cons_self
    have mf2 : (f.dx, flowD C.w.params f.t1 f.t2 f.t3 f.t4 f.t5 (.ref f.wl) f.agv (.bool f.silent) (.ref f.pd) (.ref f.od)) ∈ f.led C.w.params := List.mem_cons_of_mem _ List.mem_cons_self
    refine W.part (τ := g.led ++ (f.led C.w.params ++ (b.led ++ rest))) (by rw [List.append_assoc, List.append_assoc]; exact .refl) ?_
    repeat cell_call
    refine wFn (fn_drawW hK hg (by omega) (by decide)) ok (by decide) (rest := f.led C.w.params ++ (b.led ++ rest)) (by keq_rows) ?_
    rintro v pr ⟨⟨z, u, rfl, hz0, hz1⟩, g1, rfl, hg1⟩
    repeat cell_call
    refine iteD (fun h0 => ?_) fun h0 => ?_
    · repeat cell_call
      refine wFn (fn_taken hK hH hf (room := none) (rv := .none) rfl (now := now) hn hgood.fine hm hp) ok (by decide) (rest := g1.led ++ (b.led ++ rest)) (by keq_rows) ?_
      rintro v pr ⟨f2, rfl, hx2, ⟨u1, rfl⟩, hs2⟩
      repeat cell_call
      refine wFn (fn_ltaken hK hb (room := none) (rv := .none) rfl (now := now) hn hgood hm hp) ok (by decide) (rest := f2.led C.w.params ++ (g1.led ++ rest)) (by keq_rows) ?_
      rintro v pr ⟨b2, rfl, hbx2, ⟨u2, rfl⟩, hbs2⟩
      repeat cell_call
      refine ends ⟨by rw [decide_eq_true rfl], g1, f2, b2, none, rfl, hg1, hx2, hbx2, hs2, hbs2⟩ ?_
      rw [List.append_assoc, List.append_assoc]
      keq_rows
    · repeat cell_call
      refine wFn (fn_taken hK hH hf (room := some (z - 1)) ⟨_, rfl⟩ (now := now) hn hgood.fine hm hp) ok (by decide) (rest := g1.led ++ (b.led ++ rest)) (by keq_rows) ?_
      rintro v pr ⟨f2, rfl, hx2, ⟨u1, rfl⟩, hs2⟩
      repeat cell_call
      refine wFn (fn_ltaken hK hb (room := some (z - 1)) ⟨_, rfl⟩ (now := now) hn hgood hm hp) ok (by decide) (rest := f2.led C.w.params ++ (g1.led ++ rest)) (by keq_rows) ?_
      rintro v pr ⟨b2, rfl, hbx2, ⟨u2, rfl⟩, hbs2⟩
      repeat cell_call
      refine ends ⟨by rw [decide_eq_true rfl], g1, f2, b2, some (z - 1), rfl, hg1, hx2, hbx2, hs2, hbs2⟩ ?_
      rw [List.append_assoc, List.append_assoc]
      keq_rows

set_option maxHeartbeats 4000000
/-- A new flow. -/
theorem wNewFlow {C : Cx} {A : Around} {L : Addr} {ls : Loc} {σ : Led} {Q : Value → Loc → Led → Prop} (hK : Kx C) {n : Nat} (ok : Ok A n) (hn : 2 ≤ n) (h : ∀ f : FL, f.Says C { ws := [], age := none, silent := false, paused := [], off := [] } → Q (.ref f.x) ls (f.led C.w.params ++ σ)) :
    W C A L (call (.ref 134) []) ls σ Q :=
  wMake (k := 1) (post := fun x dx pr => ∃ f : FL, f.x = x ∧ f.Says C { ws := [], age := none, silent := false, paused := [], off := [] } ∧ pr = f.led C.w.params) (ok.less hn) (c134_make hK) (c134_init hK) (f84 hK)
    (fun x dx => (fn_initF (C := C.soft) hK).mono fun v pr ⟨hv, t1, t2, t3, t4, t5, wl, pd, po, od, oo, e, l1, l2, d1, d2⟩ => ⟨hv, ⟨x, dx, t1, t2, t3, t4, t5, wl, 0, [], .none, false, pd, po, [], od, oo, []⟩, rfl, ⟨⟨l1, l2, d1, d2⟩, rfl, rfl, rfl, rfl, rfl⟩, e⟩)
    fun x dx pr ⟨f, e1, e2, e3⟩ => by subst e1 e3; exact h f e2
theorem fn_law {C : Cx} (hK : Kx C) (hH : C.H) {sa : Addr} {vs : List Value} {ns : List Int} (hs : C.h₀.IsList sa vs.toArray) (hi : IntsAre vs ns) (hlen : vs.length ≤ 63) : Fn0 C 199 [.ref sa] 7 fun v => v = .bool true := by
  refine Fn0.of_body (binds := [(Str.ofString "script", .ref sa)]) (kLook hK rfl) (by rw [hK]; kernel_rfl) rfl ?_ ?_ rfl rfl rfl ?_
  · intro y hy; simp at hy; subst hy; rfl
  · decide
  · intro A L rest ok
    generalize hE : envX _ _ L _ _ _ = env
    have ev : Ev L env := by subst hE; exact ⟨rfl, rfl, rfl, rfl⟩
    show W C A L _ [(Str.ofString "script", .ref sa)] rest _
    repeat cell_call
    refine wListComp (cl := []) ⟨by subst hE; rfl, by decide, rfl, by decide, rfl, fun _ => rfl⟩ ev ok.handled ?_
    repeat cell_call
    refine wTailH hs (by with_unfolding_all rfl) (wHTake (vs := vs) (z := 60) 60 hs (by kbo_bools) rfl (le_line (by omega)) fun sb => ?_)
    repeat cell_call
    have hi2 := hi.take 60
    have hl2 : (vs.take 60).length ≤ 60 := by rw [List.length_take]; omega
    refine W.part (τ := (sb, lst (vs.take 60) 0) :: rest) (by keq_rows) ?_
    refine wIterList (by kbo_bools) fun it io hio => ⟨rfl, ⟨it, _, _, _, _, _, io, fun i ys τ => ∃ zs, τ = (sb, lst (vs.take 60) 0) :: rest ∧ IntsAre ys zs ∧ zs.length = i, rfl, rfl, hio, Iter.list (vs := vs.take 60) (n := 0), ?_, ?_, ?_, ?_, ?_⟩⟩
    · exact le_line (by omega)
    · rintro i ys τ ⟨zs, rfl, _⟩
      exact List.mem_cons_self
    · exact ⟨[], rfl, .nil, rfl⟩
    · rintro i v ys τ J L' ev' hlt hv ⟨zs, rfl, hys, hzl⟩
      obtain ⟨n, t, rfl, _⟩ := IntsAre.at hi2 i v hv
      refine wTests0 (iteT ?_)
      repeat cell_call
      exact ⟨_, .refl, zs ++ [_], rfl, hys.append (.cons _ _ .nil), by rw [List.length_append, hzl]; rfl⟩
    · rintro ys τ D m ⟨zs, rfl, hys, hzl⟩
      repeat cell_call
      rename_i tw w
      refine wNewFlow hK ok (by decide) fun f0 hf0 => ?_
      generalize hfx : f0.x = fx
      refine W.part (τ := f0.led C.w.params ++ (WL.led ⟨w, D, ys, 0, tw, 0, m⟩ ++ rest)) (Part.app .refl (.cons .here (.cons .here (.drop1 .refl)))) ?_
      repeat cell_call
      with_reducible refine' wDict (K := Str) (knd := strKind C.prog C.w) ?k1 ?k2 ?k3 ?k4 fun bx bo blo bd => ?_
      case k1 => rfl
      case k2 => rfl
      case k3 => simp
      case k4 => decide
      refine wPair ?_
      repeat cell_call
      rename_i wl
      refine wPair ?_
      repeat cell_call
      refine wDNew (knd := intKind C.prog C.w) fun pd po lo1 hd1 => ?_
      refine wPair ?_
      repeat cell_call
      refine wDNew (knd := intKind C.prog C.w) fun od oo lo2 hd2 => ?_
      refine wPair ?_
      repeat cell_call
      refine wPair ?_
      repeat cell_call
      refine wPairNil ?_
      refine ⟨bkv (.ref wl) (.ref pd) (.ref od) (.bool false) .none, ⟨strKind_is _ _ _ _, rfl, strKind_is _ _ _ _, rfl, strKind_is _ _ _ _, rfl, strKind_is _ _ _ _, rfl, strKind_is _ _ _ _, rfl, trivial⟩, by simp [bkv], bd, ⟨_, by kbo_bools⟩, fun bo2 => ⟨_, by kbo_bools, fun hbk => ?_⟩⟩
      rw [show merged [] (bkv (.ref wl) (.ref pd) (.ref od) (.bool false) .none) = bkv (.ref wl) (.ref pd) (.ref od) (.bool false) .none from by kernel_rfl] at hbk
      repeat cell_call
      refine wFor (fun _ => rfl) ?_
      repeat cell_call
      refine wIterRange (n := 12) (by kbo_bools) (by omega) (by decide) (by decide) fun it io hio => ?_
      refine W.part (τ := (it, io) :: (WL.led ⟨w, D, ys, 0, tw, 0, m⟩ ++ (f0.led C.w.params ++ (BL.led ⟨bx, bo2, wl, 0, [], .none, false, pd, po, [], od, oo, []⟩ ++ rest)))) ?_ ?_
      · show Part ((it, io) :: (WL.led ⟨w, D, ys, 0, tw, 0, m⟩ ++ (f0.led C.w.params ++ ((bx, bo2) :: (pd, po) :: (od, oo) :: (wl, lst [] 0) :: rest)))) _
        keq_rows
      refine wForIter Iter.range ok.handled (fun i ls τ => ∃ (nw : Nat) (tn : Tok) (g : WL) (f : FL) (b : BL) (a : FA), SubL [(Str.ofString "well", .ref w), (Str.ofString "flow", .ref fx), (Str.ofString "book", .ref bx), (Str.ofString "now", .int nw tn)] ls ∧
        τ = g.led ++ (f.led C.w.params ++ (b.led ++ rest)) ∧ WOk g w (20 * i) ∧ f.x = fx ∧ b.x = bx ∧ f.Says C a ∧ b.Says C a ∧ Inv i a nw) (fun _ _ _ _ => trivial) ?_ ?_ hio ?_
      · rintro i v ls τ p hi ⟨u, rfl⟩ ⟨nw, tn, g, f, b, a, hs, rfl, hg, hx, hbx, hf, hb, hinv⟩
        refine W.locs hs ?_
        subst hx hbx
        have hnw := hinv.now
        have hms := hinv.meas
        have hpl := hinv.plen
        have hwl := hinv.wlen
        have hol := hinv.off
        repeat cell_call
        refine wFn (fn_drawW hK hg (by omega) (by decide)) ok (by decide) (rest := p :: (f.led C.w.params ++ (b.led ++ rest))) (by keq_rows) ?_
        rintro v pr ⟨⟨act, u1, rfl, ha0, ha1⟩, g1, rfl, hg1⟩
        repeat cell_call
        refine wFn (fn_drawW hK hg1 (by omega) (by decide)) ok (by decide) (rest := p :: (f.led C.w.params ++ (b.led ++ rest))) (by keq_rows) ?_
        rintro v pr ⟨⟨z2, u2, rfl, hz0, hz1⟩, g2, rfl, hg2⟩
        obtain ⟨n2, rfl⟩ : ∃ n : Nat, z2 = n := ⟨z2.toNat, by omega⟩
        repeat cell_call
        refine wFn (fn_drawW hK hg2 (by omega) (by decide)) ok (by decide) (rest := p :: (f.led C.w.params ++ (b.led ++ rest))) (by keq_rows) ?_
        rintro v pr ⟨⟨z3, u3, rfl, hy0, hy1⟩, g3, rfl, hg3⟩
        repeat cell_call
        refine wMulS (by decide) fun t10 => ?_
        repeat cell_call
        obtain ⟨pane, e3, hP⟩ : ∃ pane : Nat, (1 + 10 * z3 : Int) = pane ∧ Pane pane := by
          have : z3 = 0 ∨ z3 = 1 := by omega
          rcases this with rfl | rfl
          · exact ⟨1, rfl, .inl rfl⟩
          · exact ⟨11, rfl, .inr rfl⟩
        have e2 : (nw : Int) + (n2 : Int) = ((nw + n2 : Nat) : Int) := by omega
        rw [e2, e3]
        generalize hnn : nw + n2 = nn
        refine wIteJoin (fun ls' σ' => ∃ (tq : Tok) (g' : WL) (f' : FL) (b' : BL) (a' : FA), SubL [(Str.ofString "well", .ref w), (Str.ofString "flow", .ref f.x), (Str.ofString "book", .ref b.x), (Str.ofString "now", .int nn tq), (Str.ofString "is_right", .bool true)] ls' ∧
          Part (p :: (g'.led ++ (f'.led C.w.params ++ (b'.led ++ rest)))) σ' ∧ WOk g' w (20 * (i + 1)) ∧ f'.x = f.x ∧ b'.x = b.x ∧ f'.Says C a' ∧ b'.Says C a' ∧ Inv (i + 1) a' nn) (fun h1 => ?_) (fun h1 => ?_) ?_
        · repeat cell_call
          refine wFn (fn_lput hK hg3 (by omega) hf hb (pane := pane) (now := nn) (by omega) (by omega)) ok (by decide) (rest := p :: rest) (by keq_rows) ?_
          rintro v pr ⟨rfl, g', f', b', a', rfl, hg', hx', hbx', hf', hb', ha'⟩
          repeat cell_call
          refine ⟨rfl, _, g', f', b', a', .cons rfl (.cons rfl (.cons rfl (.cons rfl (.cons rfl .nil)))), (by rw [List.append_assoc, List.append_assoc]; keq_rows), hg'.le (by omega), hx', hbx', hf', hb', ?_⟩
          rcases ha' with rfl | ⟨oct, h2, h3, h4, rfl⟩
          · exact hinv.step (by omega) rfl rfl (by omega)
          · exact hinv.put (by omega) (by omega) hP h2 h3 h4
        · have h1 := mt (decide_eq_true (p := act < 3)) h1
          repeat cell_call
          refine iteD (fun h2 => ?_) fun h2 => ?_
          · repeat cell_call
            refine wFn (fn_lstopped hK hf hb (pane := pane) (act := act) (by omega) (by omega) (by omega) hinv.good) ok (by decide) (rest := g3.led ++ (p :: rest)) (by keq_rows) ?_
            rintro v pr ⟨rfl, f', b', a', rfl, hx', hbx', hf', hb', ha'⟩
            repeat cell_call
            exact ⟨rfl, _, g3, f', b', a', .cons rfl (.cons rfl (.cons rfl (.cons rfl (.cons rfl .nil)))), (by rw [List.append_assoc]; keq_rows), hg3.le (by omega), hx', hbx', hf', hb', hinv.stop (by omega) hP ha'⟩
          · repeat cell_call
            refine iteD (fun h3 => ?_) fun h3 => ?_
            · repeat cell_call
              refine wFn (fn_lrows hK hH hg3 (by omega) hf hb (now := nn) (by omega) hinv.good (by omega) (by omega)) ok (by decide) (rest := p :: rest) (by keq_rows) ?_
              rintro v pr ⟨rfl, g', f', b', room, rfl, hg', hx', hbx', hf', hb'⟩
              repeat cell_call
              exact ⟨rfl, _, g', f', b', _, .cons rfl (.cons rfl (.cons rfl (.cons rfl (.cons rfl .nil)))), (by rw [List.append_assoc, List.append_assoc]; keq_rows), hg'.le (by omega), hx', hbx', hf', hb', hinv.rows (by omega)⟩
            · repeat cell_call
              refine wFn (fn_llet hK hg3 (by omega) hf hb (pane := pane) (act := act) (by omega)) ok (by decide) (rest := p :: rest) (by keq_rows) ?_
              rintro v pr ⟨rfl, g', f', b', a', rfl, hg', hx', hbx', hf', hb', h4, h5, h6⟩
              repeat cell_call
              exact ⟨rfl, _, g', f', b', a', .cons rfl (.cons rfl (.cons rfl (.cons rfl (.cons rfl .nil)))), (by rw [List.append_assoc, List.append_assoc]; keq_rows), hg'.le (by omega), hx', hbx', hf', hb', hinv.step (by omega) h4 h5 h6⟩
        · rintro ls' σ' ⟨tq, g', f', b', a', hs', hp', hg', hx', hbx', hf', hb', hinv'⟩
          refine W.part hp' (W.locs hs' ?_)
          rw [← hx', ← hbx']
          have mf1 : (f'.x, instObj 134 f'.dx) ∈ f'.led C.w.params := List.mem_cons_self
          have mf2 : (f'.dx, flowD C.w.params f'.t1 f'.t2 f'.t3 f'.t4 f'.t5 (.ref f'.wl) f'.agv (.bool f'.silent) (.ref f'.pd) (.ref f'.od)) ∈ f'.led C.w.params := List.mem_cons_of_mem _ List.mem_cons_self
          have mf3 : (f'.pd, f'.po) ∈ f'.led C.w.params := List.mem_cons_of_mem _ (List.mem_cons_of_mem _ List.mem_cons_self)
          have mf5 : (f'.wl, lst (refs f'.ws) f'.wn) ∈ f'.led C.w.params := List.mem_cons_of_mem _ (List.mem_cons_of_mem _ (List.mem_cons_of_mem _ (List.mem_cons_of_mem _ List.mem_cons_self)))
          have mb1 : (b'.x, b'.o) ∈ b'.led := List.mem_cons_self
          have mb2 : (b'.pd, b'.po) ∈ b'.led := List.mem_cons_of_mem _ List.mem_cons_self
          have mb4 : (b'.wl, lst (trefs b'.ws) b'.wn) ∈ b'.led := List.mem_cons_of_mem _ (List.mem_cons_of_mem _ (List.mem_cons_of_mem _ List.mem_cons_self))
          have hbd := hb'.ok.dx
          have hfw : f'.ws.length ≤ 84 := by
            have h1 := congrArg List.length hf'.ws
            rw [List.length_map] at h1
            have h2 := hinv'.wlen
            omega
          refine wAssignComp (cl := []) (by subst hE; rfl) (by subst hE; rfl) ⟨by subst hE; rfl, by decide, rfl, by decide, rfl, fun _ => rfl⟩ ev ok.handled ?_
          repeat cell_call
          refine wIterList (by kbo_bools) fun it2 io2 hio2 => ⟨rfl, ⟨it2, _, _, _, _, _, io2, fun j ys τ => ∃ ts : List TR, τ = trs ts ++ (p :: (g'.led ++ (f'.led C.w.params ++ (b'.led ++ rest)))) ∧ ys = trefs ts ∧ ts.map TR.says = (f'.ws.take j).map WR.says, rfl, rfl, hio2, Iter.list (vs := refs f'.ws) (n := f'.wn), ?_, ?_, ?_, ?_, ?_⟩⟩
          · exact le_line (by rw [refs_length]; omega)
          · rintro j ys τ ⟨ts, rfl, _, _⟩
            kbo_bools
          · exact ⟨[], rfl, rfl, rfl⟩
          · rintro j v ys τ J L' ev' hj hv ⟨ts, rfl, rfl, hts⟩
            obtain ⟨q, hmem, htake, rfl⟩ := refs_get hv
            have hm0 : ∀ x ∈ wrs C.w.params f'.ws, x ∈ f'.led C.w.params := fun x hx => List.mem_cons_of_mem _ (List.mem_cons_of_mem _ (List.mem_cons_of_mem _ (List.mem_cons_of_mem _ (List.mem_cons_of_mem _ hx))))
            have hm1 : (q.x, instObj 66 q.dx) ∈ f'.led C.w.params := hm0 _ (wrs_mem hmem).1
            have hm2 : (q.dx, waitD C.w.params q.t1 q.t2 q.t3 (.int q.pane q.pt) (.bytes q.oct.toArray q.ot) (.int q.time q.tt)) ∈ f'.led C.w.params := hm0 _ (wrs_mem hmem).2
            refine wTests0 (iteT ?_)
            repeat cell_call
            refine wBB ?_
            repeat cell_call
            rename_i xa
            refine ⟨trs (ts ++ [⟨xa, q.pane, q.pt, q.oct, q.ot, q.time, q.tt⟩]) ++ (p :: (g'.led ++ (f'.led C.w.params ++ (b'.led ++ rest)))), ?_, _, rfl, ?_, ?_⟩
            · rw [trs_snoc]
              simp only [TR.obj]
              keq_rows
            · rw [trefs_snoc]
            · rw [List.map_append, hts, htake, List.map_append]; rfl
          · rintro ys τ D2 m2 ⟨ts, rfl, rfl, hts⟩
            rw [List.take_of_length_le (by rw [refs_length]; exact Nat.le_refl _)] at hts
            show W C A L _ [(Str.ofString "well", .ref w), (Str.ofString "flow", .ref f'.x), (Str.ofString "book", .ref b'.x), (Str.ofString "now", .int nn tq), (Str.ofString "is_right", .bool true), (Str.ofString "left", .ref D2)] _ _
            repeat cell_call
            refine iteB (fun h => by cases h) fun _ => ?_
            repeat cell_call
            refine wNeRows (ts := ts) (ws := b'.ws) (by kbo_bools) (by kbo_bools) ?_ (hts.trans (hf'.ws.trans hb'.ws.symm)) (by have := ok.units; omega) ?_
            · refine .drop1 (Part.app .refl (.drop1 (.drop (.drop ?_))))
              show Part (trs b'.ws) ((b'.x, b'.o) :: (b'.pd, b'.po) :: (b'.od, b'.oo) :: (b'.wl, lst (trefs b'.ws) b'.wn) :: (trs b'.ws ++ rest))
              exact .drop1 (.drop1 (.drop1 (.drop1 (.last .here))))
            repeat cell_call
            refine wDNe (by kbo_bools) (by kbo_bools) hf'.ok.dp hb'.ok.dp hf'.ok.lp hb'.ok.lp (by have := ok.units; omega) ?_
            have e5 : (!(f'.paused.length == b'.paused.length && decide (∀ x ∈ f'.paused, x ∈ b'.paused))) = false := by rw [hf'.paused, hb'.paused]; simp
            rw [e5]
            repeat cell_call
            exact ⟨_, .drop1 (.drop .refl), nn, tq, g', f', b', a', .cons rfl (.cons rfl (.cons rfl (.cons rfl .nil))), rfl, hg', rfl, rfl, hf', hb', hinv'⟩
      · rintro ls τ ⟨nw, tn, g, f, b, a, hs, rfl, hg, hx, hbx, hf, hb, hinv⟩
        refine W.locs hs ?_
        subst hx hbx
        have mf1 : (f.x, instObj 134 f.dx) ∈ f.led C.w.params := List.mem_cons_self
        have mf2 : (f.dx, flowD C.w.params f.t1 f.t2 f.t3 f.t4 f.t5 (.ref f.wl) f.agv (.bool f.silent) (.ref f.pd) (.ref f.od)) ∈ f.led C.w.params := List.mem_cons_of_mem _ List.mem_cons_self
        have hnw := hinv.now
        have hms := hinv.meas
        have hpl := hinv.plen
        repeat cell_call
        refine wFn (fn_taken hK hH hf (room := none) (rv := .none) rfl (now := nw) (by omega) hinv.good.fine (by omega) (by omega)) ok (by decide) (rest := g.led ++ (b.led ++ rest)) (by keq_rows) ?_
        rintro v pr ⟨f2, rfl, hx2, ⟨u1, rfl⟩, hs2⟩
        repeat cell_call
        refine wFn (fn_ltaken hK hb (room := none) (rv := .none) rfl (now := nw) (by omega) hinv.good (by omega) (by omega)) ok (by decide) (rest := f2.led C.w.params ++ (g.led ++ rest)) (by keq_rows) ?_
        rintro v pr ⟨b2, rfl, hbx2, ⟨u2, rfl⟩, hbs2⟩
        repeat cell_call
        refine iteD (fun _ => ?_) fun h => absurd rfl h
        have e1 : f2.ws = [] := by
          have h := hs2.ws
          rw [show ({ a with ws := (takeA a.age nw none (meas a.ws) a.ws a.paused []).1, paused := (takeA a.age nw none (meas a.ws) a.ws a.paused []).2.1 } : FA).ws = [] from takeA_end hinv] at h
          exact List.map_eq_nil_iff.mp h
        rw [← hx2, ← hbx2]
        have mg1 : (f2.x, instObj 134 f2.dx) ∈ f2.led C.w.params := List.mem_cons_self
        have mg2 : (f2.dx, flowD C.w.params f2.t1 f2.t2 f2.t3 f2.t4 f2.t5 (.ref f2.wl) f2.agv (.bool f2.silent) (.ref f2.pd) (.ref f2.od)) ∈ f2.led C.w.params := List.mem_cons_of_mem _ List.mem_cons_self
        have mg3 : (f2.pd, f2.po) ∈ f2.led C.w.params := List.mem_cons_of_mem _ (List.mem_cons_of_mem _ List.mem_cons_self)
        have mg5 : (f2.wl, lst (refs f2.ws) f2.wn) ∈ f2.led C.w.params := List.mem_cons_of_mem _ (List.mem_cons_of_mem _ (List.mem_cons_of_mem _ (List.mem_cons_of_mem _ List.mem_cons_self)))
        have mb1 : (b2.x, b2.o) ∈ b2.led := List.mem_cons_self
        have mb2 : (b2.pd, b2.po) ∈ b2.led := List.mem_cons_of_mem _ List.mem_cons_self
        have hbd := hbs2.ok.dx
        repeat cell_call
        refine iteB (fun _ => ?_) fun h => by rw [e1] at h; cases h
        repeat cell_call
        refine wDEq (by kbo_bools) (by kbo_bools) hs2.ok.dp hbs2.ok.dp hs2.ok.lp hbs2.ok.lp (by have := ok.units; omega) ?_
        repeat cell_call
        refine ends (pr := []) ?_ (.drop1 (.drop (.drop (.drop .refl))))
        rw [hs2.paused, hbs2.paused]
        simp
      · refine ⟨0, _, _, _, _, { ws := [], age := none, silent := false, paused := [], off := [] }, .cons rfl (.cons rfl (.cons rfl (.cons rfl .nil))), rfl, ⟨rfl, Nat.le_refl _, zs, hys, ?_⟩, hfx, rfl, hf0, ⟨⟨lo1, lo2, hbk, hd1, hd2⟩, rfl, rfl, rfl, rfl, rfl⟩, ?_⟩
        · omega
        · exact ⟨by omega, ⟨⟨fun e he => (nomatch he)⟩, fun e he => (nomatch he)⟩, fun e he => (nomatch he), Nat.zero_le _, fun e he => (nomatch he), List.nodup_nil, Nat.zero_le _⟩

end Og
end

open PySem PySem.W PySem.Calls PyProof.Rows Og
set_option maxHeartbeats 8000000 in
theorem PySem.Challenge.cw_og0235_01_holds : PySem.Challenge.rw_og0235_01.Holds := by
  refine holds_law OgTop.said fun _ => OgTop.hd ?_
  intro w s₀ s₁ mg mb G Y a o pm cd doc dV kV ho hd hcd hD hmg hg args vals as hpre hlay hrd hwl hlo
  have KX := kIn_of Y
  have T := G.T
  clear ho hd hcd hD Y
  have hmg' : mg (PySem.Str.ofString "law") = some (.ref a) := hmg
  clear hmg
  wrow_args hpre hlay hrd hwl hlo
  rename_i ns _ _ _ _ _ _ _ sa vs _ hL _ _ _ hI _ hc _
  have e199 : mg (PySem.Str.ofString "law") = some (.ref 199) := mg_of KX T.g (by kernel_rfl)
  have ea : a = 199 := Value.ref.inj (Option.some.inj (hmg'.symm.trans e199))
  subst ea
  have hlen : vs.length ≤ 63 := by
    have h1 := hI.length
    omega
  have hf := Og.fn_law (C := ⟨True, PySem.Challenge.rw_og0235_01.row.prog, w, OgTop.hd.heap_1 w.params, s₁.heap, s₁, _, _, mg, mb, KX, topRead_of T, T.nolimit⟩) rfl trivial hL hI hlen
  refine Og.wpC.call ((hf callerA ⟨rfl, by decide, by decide⟩ rfl).mono fun fl s' h => ?_)
  obtain ⟨v, e1, hp, ⟨h, tk, e2⟩, L, m, F⟩ := h
  refine ⟨v, e1, ?_⟩
  subst hp
  exact GoodW.toG (goodW_bool F (by rw [e2]; exact hg) (raisesW_false allW_false_nil) (by wrow_post) (by rw [e2]))
