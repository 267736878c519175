import PyProof.Rows.All
import Wide.All
import OpenK.AllK
import Wide.FinOn
import Lean
import PySem.Challenge.RW_nt0492_01
set_option Elab.async false
open PySem PySem.W PyProof.Rows PySem.Spec PySem.Calls
set_option maxRecDepth 100000
set_option linter.all false
noncomputable section
namespace Mine
local macro_rules | `(tactic| walk_at $s:str) => `(tactic| k_extra $s)
local macro_rules | `(tactic| k_ne) => `(tactic| k_extra "ne")
local macro_rules | `(tactic| size_fits) => `(tactic| k_extra "sz")
local macro_rules | `(tactic| lia) => `(tactic| k_extra "l")
local macro_rules | `(tactic| ktr_room) => `(tactic| k_extra "rm")
local macro_rules | `(tactic| ktr_units) => `(tactic| k_extra "un")
section
noncomputable def holdIds : List String := Builtin.Bytes.decodersThatHold ++ ["bytearray.__contains__", "bytearray.__mod__", "bytearray.__rmod__", "_struct.pack_into.held", "bytearray.find.held"]
noncomputable def offC : Code → Bool
  | .builtin id _ => !holdIds.contains id
  | _ => true
noncomputable def Off (Γ : PySem.Ctx) : Prop := offC Γ.code = true ∧ ∀ x ∈ Γ.below, offC x.1 = true
theorem Off.enter {Γ : PySem.Ctx} {c : Code} {h : Option Value} {p : Pos} (o : Off Γ) (hc : offC c = true) : Off (Γ.enter c h p) :=
  ⟨hc, fun x hx => by
    rcases List.mem_cons.mp hx with rfl | hx
    · exact o.1
    · exact o.2 x hx⟩
theorem Off.goto {Γ : PySem.Ctx} {c : Code} (o : Off Γ) (hc : offC c = true) : Off (Γ.goto c) := ⟨hc, o.2⟩
noncomputable def wpN {α : Type} (M : Model) (A : Around) (t : Sem α) (Q : α → Shared → Prop) (E : Value → Shared → Prop) (s : Shared) : Prop :=
  ∀ Γ p, Γ.In A → Off Γ → Sem.wp M Γ t (fun a _ s' => Q a s') (fun e _ s' => E e s') p s
noncomputable def codeN (M : Model) (A : Around) (c : Code) (R : Result → Shared → Prop) (s : Shared) : Prop :=
  ∀ Γ p, Γ.code = c → Γ.Below A → Off Γ → wpCode M Γ R p s
section
variable {α β : Type} {M : Model} {A : Around} {E : Value → Shared → Prop} {s : Shared}
theorem nOf {t : Sem α} {Q : α → Shared → Prop} (h : wpAny M A t Q E s) : wpN M A t Q E s := fun Γ p hΓ _ => h Γ p hΓ
theorem nPure {a : α} {Q : α → Shared → Prop} (h : Q a s) : wpN M A (pure a) Q E s := fun _ _ _ _ => h
theorem nMono {t : Sem α} {Q Q' : α → Shared → Prop} {E' : Value → Shared → Prop} (h : wpN M A t Q E s) (hQ : ∀ a s, Q a s → Q' a s) (hE : ∀ e s, E e s → E' e s) : wpN M A t Q' E' s :=
  fun Γ p hΓ o => Sem.wp_mono M Γ t (fun a _ s => hQ a s) (fun e _ s => hE e s) p s (h Γ p hΓ o)
theorem nBind {m : Sem α} {f : α → Sem β} {Q : β → Shared → Prop} (h : wpN M A m (fun a s' => wpN M A (f a) Q E s') E s) : wpN M A (m >>= f) Q E s := fun Γ p hΓ o => by
  rw [Sem.wp_bind']
  exact Sem.wp_mono M Γ m (fun a p' s' h' => h' Γ p' hΓ o) (fun _ _ _ h' => h') p s (h Γ p hΓ o)
theorem nOnRaise {m : Sem α} {k : Value → Sem Unit} {Q : α → Shared → Prop} (h : wpN M A m Q (fun e s' => wpN M A (k e) (fun _ s'' => E e s'') E s') s) : wpN M A (m.onRaise k) Q E s := fun Γ p hΓ o => by
  rw [Sem.wp_onRaise]
  exact Sem.wp_mono M Γ m (fun _ _ _ h' => h') (fun e p' s' h' => h' Γ p' hΓ o) p s (h Γ p hΓ o)
theorem nHolding {vs : List Value} {m : Sem α} {Q : α → Shared → Prop} (h : wpN M A m Q E s) : wpN M A (holding vs m) Q E s := fun Γ p hΓ o => by rw [Sem.wp_holding]; exact h Γ p hΓ o
theorem nKeep {vs : List Value} {m : Sem α} {Q : α → Shared → Prop} (h : wpN M A m Q E s) : wpN M A (m.keep vs) Q E s := fun Γ p hΓ o => by rw [Sem.wp_keep]; exact h Γ p hΓ o
theorem nOperate {vs : List Value} {m : Sem Value} {Q : Value → Shared → Prop} (h : wpN M A m Q E s) : wpN M A (operate vs m) Q E s := fun Γ p hΓ o => by rw [Sem.wp_operate]; exact h Γ p hΓ o
theorem nStand {pos : Pos} {Q : Unit → Shared → Prop} (h : Q () s) : wpN M A (standAt pos) Q E s := fun _ _ _ _ => h
theorem nRun {c : Code} {h : Option Value} {Q : Flow → Shared → Prop} (hc : codeN M (A.mark h) c (fun r s' => match r with | .ok f => Q f s' | .error e => E e s') s) (ho : offC c = true) (hnb : h ≠ some byPass := by intro x; cases x) :
    wpN M A (run c h) Q E s := fun Γ p hΓ o => by rw [Sem.wp_run]; exact hc _ p rfl (hΓ.enter c h p hnb) (o.enter ho)
theorem nRunValue {c : Code} {Q : Value → Shared → Prop} (hc : codeN M A c (fun r s' => match r with | .ok (.ret v) => Q v s' | .ok _ => False | .error e => E e s') s) (ho : offC c = true) :
    wpN M A (runValue c) Q E s := fun Γ p hΓ o => by rw [Sem.wp_runValue]; exact hc _ p rfl (hΓ.enter c none p (by intro x; cases x)) (o.enter ho)
theorem nCall {f : Value} {pos : List Value} {kw : List (Str × Value)} {Q : Value → Shared → Prop}
    (hc : codeN M A (.call f ⟨pos, kw⟩) (fun r s' => match r with | .ok (.ret v) => Q v s' | .ok _ => False | .error e => E e s') s) : wpN M A (call f pos kw) Q E s := nRunValue hc rfl
theorem cnMono {c : Code} {R R' : Result → Shared → Prop} (h : codeN M A c R s) (hR : ∀ r s, R r s → R' r s) : codeN M A c R' s := fun Γ p hc hΓ o => wpCode_mono hR (h Γ p hc hΓ o)
theorem cnOf {c : Code} {R : Result → Shared → Prop} (h : codeAny M A c R s) : codeN M A c R s := fun Γ p hc hΓ _ => h Γ p hc hΓ
noncomputable abbrev FinN (M : Model) (A : Around) (R : Result → Shared → Prop) (fin : Fin) (s' : Shared) : Prop := match fin with
  | .done f => R (.ok f) s'
  | .again c' => c'.quiet = true ∧ offC c' = true ∧ codeN M A c' R s'
theorem cnTree {c : Code} {R : Result → Shared → Prop} (h : wpN M (A.under c) (M.den c) (FinN M A R) (fun e s' => R (.error e) s') s) : codeN M A c R s := fun Γ p hc hΓ o => by
  rw [wpCode_iff_wp, hc]
  refine Sem.wp_mono M Γ _ (fun fin p' s' h' => ?_) (fun _ _ _ h' => h') p s (h Γ p (hc ▸ hΓ.in) o)
  cases fin with
  | done f => exact h'
  | again c' => exact ⟨h'.1, h'.2.2 (Γ.goto c') p' rfl (hΓ.goto c') (o.goto h'.2.1)⟩
theorem cnLoop {c : Code} {R : Result → Shared → Prop} (hq : c.quiet = true) (hc : offC c = true) (I : Nat → Shared → Prop)
    (turn : ∀ n s, I n s → wpN M (A.under c) (M.den c) (fun fin s' => match fin with
        | .done f => R (.ok f) s'
        | .again c' => (c' = c ∧ ∃ m, m < n ∧ I m s') ∨ (c'.quiet = true ∧ offC c' = true ∧ codeN M A c' R s')) (fun e s' => R (.error e) s') s)
    (n : Nat) (h : I n s) : codeN M A c R s := by
  induction n using Nat.strongRecOn generalizing s with
  | ind n ih =>
    refine cnTree (nMono (turn n s h) (fun fin s' hf => ?_) fun _ _ h' => h')
    cases fin with
    | done f => exact hf
    | again c' =>
      rcases hf with ⟨rfl, m, hm, hI⟩ | hf
      · exact ⟨hq, hc, ih m hm hI⟩
      · exact hf
theorem nStackAny {f : Code × Pos → Bool} {Q : Bool → Shared → Prop} (hf : ∀ c p, offC c = true → f (c, p) = false) (h : Q false s) : wpN M A (do return (← stack).any f) Q E s := fun Γ p _ o => by
  show Q (((Γ.code, p) :: Γ.below).any f) s
  have e : ((Γ.code, p) :: Γ.below).any f = false := by
    rw [List.any_eq_false]
    intro x hx
    rcases List.mem_cons.mp hx with rfl | hx
    · rw [hf _ _ o.1]; exact Bool.false_ne_true
    · obtain ⟨c, q⟩ := x
      rw [hf c q (o.2 _ hx)]; exact Bool.false_ne_true
  rw [e]; exact h
end
theorem off_caller : Off ⟨.builtin "claim.caller" {}, none, none, [], none⟩ := ⟨by decide +kernel, fun _ hx => nomatch hx⟩
theorem hk_ex {α : Type} (ne : Nonempty α) (P : α → Prop) : ∃ d, P d → ∀ x, P x := by
  by_cases h : ∃ x, ¬ P x
  · obtain ⟨x, hx⟩ := h
    exact ⟨x, fun q => absurd q hx⟩
  · obtain ⟨x⟩ := ne
    exact ⟨x, fun _ y => Classical.byContradiction fun hy => h ⟨y, hy⟩⟩
noncomputable def hk_c {α : Type} (ne : Nonempty α) (P : α → Prop) : α := Classical.choose (hk_ex ne P)
theorem hk_all {α : Type} (ne : Nonempty α) (P : α → Prop) (h : P (hk_c ne P)) (x : α) : P x := Classical.choose_spec (hk_ex ne P) h x
theorem ne2 {α β : Type} (a : Nonempty α) (b : Nonempty β) : Nonempty (α × β) := a.elim fun a => b.elim fun b => ⟨(a, b)⟩
theorem neWorld : Nonempty World := ⟨aWorld 0⟩
theorem neProg : Nonempty Program := ⟨PySem.Challenge.pw_nt0492_01⟩
theorem neAround : Nonempty Around := ⟨callerA⟩
theorem neShared : Nonempty Shared := ⟨(start PySem.Challenge.pw_nt0492_01).1⟩
theorem neModel : Nonempty Model := ⟨model PySem.Challenge.pw_nt0492_01 (aWorld 0)⟩
theorem neOs : Nonempty OsState := ⟨(start PySem.Challenge.pw_nt0492_01).1.os⟩
theorem neClaim : Nonempty ClaimW := ⟨PySem.Challenge.rw_nt0492_01.row.toRowW.claim⟩
theorem neRow : Nonempty OpenRow := ⟨PySem.Challenge.rw_nt0492_01.row⟩
theorem neDef : Nonempty DefRec := ⟨⟨Str.ofString "", default, [], default, default⟩⟩
theorem thread_endsQ {prog : Program} {w : World} {t : Sem Fin} {s : Shared} {R : Result → Shared → Prop} (hreg : s.asleep)
    (h : wpN (model prog w) callerA t (fun fin s' => ∃ f, fin = .done f ∧ (R (.ok f) s' ∧ leftWithCleanup s'.gens = false)) (fun e s' => R (.error e) s' ∧ leftWithCleanup s'.gens = false) s) :
    ∃ n r s' s'', runN (denote table) prog w n s ⟨t, .builtin "claim.caller" {}, default, []⟩ = .halted (outcomeOf r) s' ∧
      schedN (denote table) prog w n (.single s ⟨t, .builtin "claim.caller" {}, default, []⟩) = .halted (outcomeOf r) s' ∧ s'.forget = s''.forget ∧ R r s'' := by
  obtain ⟨n, r, s₁, s₂, hs, hn, hfo, hR⟩ := wp_halts_full (M := model prog w) (R := R) hreg
    (Sem.wp_mono _ _ _ (fun fin _ s' h' => by obtain ⟨f, rfl, hf⟩ := h'; exact hf) (fun _ _ _ h' => h') _ _ (h _ default caller_in off_caller))
  exact ⟨n, r, s₂, s₁, hn, hs, hfo, hR⟩
namespace H_callFromQ
abbrev hkD : Type := (((ClaimW × (List Value → Sem Fin)) × (World × Shared)) × (((Addr → Prop) × Prop) × (Heap → Prop)))
def hkP (c : ClaimW) (tree : List Value → Sem Fin) (w : World) (s : Shared) (free : Addr → Prop) (gens : Prop) (kept : Heap → Prop) : Prop := ∀ (hz : s.asleep) (hgens : s.gens = #[]) (hspec : ∀ args, c.pre args = true → WData.layableAll args = true → ∀ ord : List DictEntry → List DictEntry, (∀ l, (ord l).Perm l) →
      ∃ vs s₁, layAllW c.records (classAt s.heap) w.params ord args s = some (vs, s₁) ∧
        wpN (model c.prog w) callerA (tree vs) (fun fin s' => ∃ f, fin = .done f ∧ (c.Ends s args vs s₁ (.ok f) s' ∧ s'.os = s.os ∧ AllBare s'.gens ∧ kept s'.heap))
          (fun e s' => c.Ends s args vs s₁ (.error e) s' ∧ s'.os = s.os ∧ AllBare s'.gens ∧ kept s'.heap) s₁), c.CallFrom (fun vs => ⟨tree vs, .builtin "claim.caller" {}, default, []⟩) w free gens kept s
def hkU (d : hkD) : Prop := hkP d.1.1.1 d.1.1.2 d.1.2.1 d.1.2.2 d.2.1.1 d.2.1.2 d.2.2
theorem hkN : Nonempty hkD := (ne2 (ne2 (ne2 neClaim ⟨fun _ => Sem.raise .none⟩) (ne2 neWorld neShared)) (ne2 (ne2 ⟨default⟩ ⟨default⟩) ⟨default⟩))
@[irreducible] def hkV : hkD := hk_c hkN hkU
@[irreducible] def c : ClaimW := hkV.1.1.1
@[irreducible] def tree : List Value → Sem Fin := hkV.1.1.2
@[irreducible] def w : World := hkV.1.2.1
@[irreducible] def s : Shared := hkV.1.2.2
@[irreducible] def free : Addr → Prop := hkV.2.1.1
@[irreducible] def gens : Prop := hkV.2.1.2
@[irreducible] def kept : Heap → Prop := hkV.2.2
theorem core : hkP c tree w s free gens kept := by
  unfold hkP
  intro hz hgens hspec
  intro args hpre hlay ord hord
  obtain ⟨vs, s₁, hlaid, hcode⟩ := hspec args hpre hlay ord hord
  have hal := layAllW_rest _ _ _ hlaid
  obtain ⟨k, r, s', s'', hrun, hsched, hfo, hcase, hos, hkp⟩ := thread_endsQ (prog := c.prog) (w := w) (t := tree vs) (s := s₁)
    (R := fun r s' => c.Ends s args vs s₁ r s' ∧ s'.os = s.os ∧ kept s'.heap) (Shared.asleep_of_life hal.2.2.2 hz)
    (nMono hcode (by rintro fin s' ⟨f, e, h1, h2, h3, h4⟩; exact ⟨f, e, ⟨h1, h2, h4⟩, leftWithCleanup_false_of_bare h3⟩)
      (by rintro e s' ⟨h1, h2, h3, h4⟩; exact ⟨⟨h1, h2, h4⟩, leftWithCleanup_false_of_bare h3⟩))
  obtain ⟨eh, _, _, eo, _⟩ := Shared.forget_eq hfo
  have hcase := hcase.congr eh
  have hkp : kept s'.heap := by rw [eh]; exact hkp
  rw [← eo] at hos
  have hlife : s'.heap.life = s.heap.life := (runN_life _ _ _ hrun).trans hal.2.2.2
  refine ⟨vs, s₁, hlaid, k, _, s', hsched, ?_, (fun _ i x hx => by rw [hgens] at hx; simp at hx), hkp, by rw [hlife], Shared.rest_eq hos⟩
  rcases hcase with ⟨v, rfl, d1, d2, d3, d4, d5⟩ | ⟨e, ob, cls, rfl, d1, d2, d3, d4, d5⟩
  · exact .inl ⟨v, rfl, d1, d2, d3, fun b o y _ => d4 b o y, d5⟩
  · exact .inr ⟨e, ob, cls, rfl, d1, d2, d3, d4, fun b o y _ => d5 b o y⟩
end H_callFromQ
theorem callFromQ {c : ClaimW} {tree : List Value → Sem Fin} {w : World} {s : Shared} {free : Addr → Prop} {gens : Prop} {kept : Heap → Prop} (hz : s.asleep) (hgens : s.gens = #[])
    (hspec : ∀ args, c.pre args = true → WData.layableAll args = true → ∀ ord : List DictEntry → List DictEntry, (∀ l, (ord l).Perm l) →
      ∃ vs s₁, layAllW c.records (classAt s.heap) w.params ord args s = some (vs, s₁) ∧
        wpN (model c.prog w) callerA (tree vs) (fun fin s' => ∃ f, fin = .done f ∧ (c.Ends s args vs s₁ (.ok f) s' ∧ s'.os = s.os ∧ AllBare s'.gens ∧ kept s'.heap))
          (fun e s' => c.Ends s args vs s₁ (.error e) s' ∧ s'.os = s.os ∧ AllBare s'.gens ∧ kept s'.heap) s₁) :
    c.CallFrom (fun vs => ⟨tree vs, .builtin "claim.caller" {}, default, []⟩) w free gens kept s :=
  hk_all H_callFromQ.hkN H_callFromQ.hkU (by with_unfolding_all exact H_callFromQ.core) (((c, tree), (w, s)), ((free, gens), kept)) hz hgens hspec
noncomputable abbrev WalkQ (q : Program) (loose : List Str) (XP : (Str → Option Value) → Heap → Prop) (YP : World → Heap → Prop) (r : RowW) (d : DefRec) (kwd : List (Str × Expr)) : Prop :=
  ∀ (w : World) (s₀ s₁ : Shared) (mg mb : Str → Option Value), Ground q loose r.records XP w s₀ mg mb s₁.heap → YP w s₁.heap → ∀ (a : Addr) (o : Obj) (pm cd doc dV kV : Value), s₁.heap.get? a = some o →
    o.data = .func { docDef d.name d.params d.body d.scope pm cd doc with defaults := dV, kwdefaults := kV } → s₁.heap.CodeRec cd d.name → Dflts mg s₁.heap d.params kwd dV kV → mg d.name = some (.ref a) → s₁.gens = #[] →
    ∀ (args : List WData) (vals : List Value) (as : List Addr), r.claim.pre args = true → WData.layableAll args = true → ReadsAllW r.records (classAt s₀.heap) s₁.heap vals args as → WellAll w.params s₁.heap vals args → (∀ a ∈ as, (a == sysModules) = false) →
      wpN (model r.prog w) callerA (PySem.call (.ref a) vals) (fun v s' => GoodWG r.claim (classAt s₀.heap) (ExcName.means s₀.heap) args s₁ (.ok (.ret v)) s')
        (fun e s' => GoodWG r.claim (classAt s₀.heap) (ExcName.means s₀.heap) args s₁ (.error e) s') s₁
namespace H_holdsOpen
abbrev hkD : Type := ((((OpenRow × Program) × (List Str)) × (((Shared → Bool) × ((Str → Option Value) → Heap → Prop)) × (Shared → List (Option Obj)))) × ((((World → List (Option Obj)) × (World → Heap → Prop)) × DefRec) × ((List (Str × Expr)) × Nat)))
def hkP (r : OpenRow) (q : Program) (loose : List Str) (Xt : Shared → Bool) (XP : (Str → Option Value) → Heap → Prop) (Yf : Shared → List (Option Obj)) (Ya : World → List (Option Obj)) (YP : World → Heap → Prop) (d : DefRec) (kwd : List (Str × Expr)) (N : Nat) : Prop := ∀ (left : LeftO r.prog q loose Xt Yf Ya N) (hY : ∀ w s, Yf s = Ya w → YP w s.heap) (hYk : ∀ w h h', YP w h → (∀ b o, h.get? b = some o → h'.get? b = some o) → YP w h') (hX : ∀ s, Xt s = true → XP (s.heap.nsMap mainGlobals) s.heap) (hXk : ∀ mg h h', XP mg h → (∀ b o, h.get? b = some o → h'.get? b = some o) → XP mg h') (hdef : defOf q r.name = some (d, kwd)) (hp : r.prog.theDef r.name = some (d.params, d.body, d.scope)) (hk : kwWritten? d.params.kwonlyargs d.params.kw_defaults = some kwd) (hRf : ∀ s, Xt s = true → RecFacts r.records s.heap) (hwr : (!r.writes || r.records.isEmpty) = true) (k1 : r.wellSaid = true) (ok : (chainsOk q && opensWell r.prog && (frees r.toRowW && r.within.isEmpty)) = true) (hb : r.prog.bare) (hw : r.toRowW.promised) (call : WalkQ q loose XP YP r.toRowW d kwd), r.Holds
def hkU (d : hkD) : Prop := hkP d.1.1.1.1 d.1.1.1.2 d.1.1.2 d.1.2.1.1 d.1.2.1.2 d.1.2.2 d.2.1.1.1 d.2.1.1.2 d.2.1.2 d.2.2.1 d.2.2.2
theorem hkN : Nonempty hkD := (ne2 (ne2 (ne2 (ne2 neRow neProg) ⟨default⟩) (ne2 (ne2 ⟨default⟩ ⟨default⟩) ⟨default⟩)) (ne2 (ne2 (ne2 ⟨default⟩ ⟨default⟩) neDef) (ne2 ⟨default⟩ ⟨default⟩)))
@[irreducible] def hkV : hkD := hk_c hkN hkU
@[irreducible] def r : OpenRow := hkV.1.1.1.1
@[irreducible] def q : Program := hkV.1.1.1.2
@[irreducible] def loose : List Str := hkV.1.1.2
@[irreducible] def Xt : Shared → Bool := hkV.1.2.1.1
@[irreducible] def XP : (Str → Option Value) → Heap → Prop := hkV.1.2.1.2
@[irreducible] def Yf : Shared → List (Option Obj) := hkV.1.2.2
@[irreducible] def Ya : World → List (Option Obj) := hkV.2.1.1.1
@[irreducible] def YP : World → Heap → Prop := hkV.2.1.1.2
@[irreducible] def d : DefRec := hkV.2.1.2
@[irreducible] def kwd : List (Str × Expr) := hkV.2.2.1
@[irreducible] def N : Nat := hkV.2.2.2
theorem core : hkP r q loose Xt XP Yf Ya YP d kwd N := by
  unfold hkP
  intro left hY hYk hX hXk hdef hp hk hRf hwr k1 ok hb hw call
  refine ⟨k1, hw, ?_⟩
  obtain ⟨ok, k5⟩ := Bool.and_eq_true_iff.mp ok
  obtain ⟨hch, o1⟩ := Bool.and_eq_true_iff.mp ok
  obtain ⟨k5, k6⟩ := Bool.and_eq_true_iff.mp k5
  obtain ⟨hsame, hu, ha, hap, hm⟩ := frees_parts k5
  refine ⟨⟨hb, o1, by show r.toRowW.makers.map _ = []; rw [hm]; rfl⟩, hw.witness, fun w => ⟨(left.behind hX hch w).1, fun s' hs' => ?_⟩⟩
  obtain ⟨s₀, hf, hg0, s, hT, hz, hgens, hg, G00, y⟩ := (left.behind (XP := fun mg h => XP mg h ∧ RecFacts r.records h) (fun s hs => ⟨hX s hs, hRf s hs⟩) hch w).2 s' hs'
  have G0 : Ground q loose [] XP w s (s.heap.nsMap mainGlobals) (s.heap.nsMap builtinsNs) s.heap := ⟨G00.T, G00.B, G00.D, G00.TE, G00.TD, G00.W, G00.X.1, G00.cls, G00.has, G00.apart, G00.once, G00.K⟩
  have RF := G00.X.2
  refine ⟨s₀, hf, hg0, s, hT, (fun n hn => ?_), RF.1, RF.2.1, ?_⟩
  · obtain rfl : n = r.name := by split at hn <;> simp_all
    exact pinned_of_view hg G0 hdef hp hk
  have hgens : s.gens = #[] := Array.eq_empty_of_size_eq_zero (beq_iff_eq.mp hgens)
  have G : Ground q loose r.records XP w s _ _ s.heap := RF.ground G0
  refine callFromQ (c := r.toRowW.claim) (tree := fun vs => do match ← nsGet mainNs r.name with
      | some f => do ret (← PySem.call f vs)
      | none => unsupported "claim.caller:no-such-global") hz hgens fun args hpre hlay ord hord => ?_
  obtain ⟨⟨vs, s₁⟩, hlaid⟩ := Option.isSome_iff_exists.mp (layAllW_isSome (P := w.params) (ord := ord) G.has args r.args s (pre_splitW hpre).1)
  have keeps := layAllW_keeps _ _ _ hlaid
  have hal := layAllW_rest _ _ _ hlaid
  obtain ⟨as, hrd, hin, hold⟩ := reads_layAllW hord _ _ _ hlaid hlay s₁.heap (fun _ _ e => e)
  have L : Laid r.records w s s₁ args vs as := ⟨⟨ord, hord, hlaid⟩, hrd, hin, hold, keeps, hal.1.trans hgens, hal.2.2.1⟩
  have G₁ := G.keeps hXk keeps
  obtain ⟨a, o, pm, cd, doc, dV, kV, h1, h2, h3, h4, h5⟩ := G₁.fn hdef
  have hi := ident_freeW hu ha hap
  have hwi : r.toRowW.claim.within = [] := List.isEmpty_iff.mp k6
  have fin : ∀ res s', GoodWG r.toRowW.claim (classAt s.heap) (ExcName.means s.heap) args s₁ res s' → r.toRowW.claim.Ends s args vs s₁ res s' ∧ s'.os = s.os ∧ AllBare s'.gens ∧
      (r.writes = true → namesKept r.prog r.keeps s.heap s'.heap ∧ ∀ x ∈ r.records, ∀ a, classAt s.heap x.1 = some a → recordClass s'.heap a x.1 (x.2.map (·.1)) = true) := fun res s' g => by
    have z := g.laid (c := r.toRowW.claim) hsame hwi hi L
    exact ⟨z.1, z.2.1, z.2.2, fun q => ⟨namesKept_of hT hg r.keeps keeps g.2.1.old, noTable hwr q⟩⟩
  refine ⟨vs, s₁, hlaid, nBind (nOf (wpAny_nsGet G₁.T.g ?_))⟩
  rw [h1]
  refine nBind (nMono (call w s s₁ _ _ G₁ (hYk _ _ _ (hY w s y) keeps) a o pm cd doc dV kV h2 h3 h4 h5 (defOf_name hdef ▸ h1) L.gens args vs as hpre hlay L.reads L.well (L.low G.low)) (fun v s' g => nPure ⟨_, rfl, fin _ _ g⟩) fun e s' g => fin _ _ g)
end H_holdsOpen
theorem holdsOpen {r : OpenRow} {q : Program} {loose : List Str} {Xt : Shared → Bool} {XP : (Str → Option Value) → Heap → Prop} {Yf : Shared → List (Option Obj)} {Ya : World → List (Option Obj)} {YP : World → Heap → Prop} {d : DefRec} {kwd : List (Str × Expr)} {N : Nat}
    (left : LeftO r.prog q loose Xt Yf Ya N) (hY : ∀ w s, Yf s = Ya w → YP w s.heap) (hYk : ∀ w h h', YP w h → (∀ b o, h.get? b = some o → h'.get? b = some o) → YP w h')
    (hX : ∀ s, Xt s = true → XP (s.heap.nsMap mainGlobals) s.heap) (hXk : ∀ mg h h', XP mg h → (∀ b o, h.get? b = some o → h'.get? b = some o) → XP mg h')
    (hdef : defOf q r.name = some (d, kwd)) (hp : r.prog.theDef r.name = some (d.params, d.body, d.scope)) (hk : kwWritten? d.params.kwonlyargs d.params.kw_defaults = some kwd) (hRf : ∀ s, Xt s = true → RecFacts r.records s.heap) (hwr : (!r.writes || r.records.isEmpty) = true)
    (k1 : r.wellSaid = true) (ok : (chainsOk q && opensWell r.prog && (frees r.toRowW && r.within.isEmpty)) = true) (hb : r.prog.bare) (hw : r.toRowW.promised)
    (call : WalkQ q loose XP YP r.toRowW d kwd) : r.Holds :=
  hk_all H_holdsOpen.hkN H_holdsOpen.hkU (by with_unfolding_all exact H_holdsOpen.core) ((((r, q), loose), ((Xt, XP), Yf)), (((Ya, YP), d), (kwd, N))) left hY hYk hX hXk hdef hp hk hRf hwr k1 ok hb hw call
noncomputable def st (i j : Nat) : Stmt := match PySem.Challenge.pw_nt0492_01.main.body.getD i (.Pass default) with
  | .ClassDef _ _ _ b .. => b.getD j (.Pass default)
  | x => x
noncomputable def fPa : Stmt → Arguments
  | .FunctionDef _ a .. => a
  | _ => default
noncomputable def fBo : Stmt → List Stmt
  | .FunctionDef _ _ b .. => b
  | _ => []
noncomputable def fSc : Stmt → Scope
  | .FunctionDef _ _ _ _ _ _ s .. => s
  | _ => default
noncomputable def fPo : Stmt → Pos
  | .FunctionDef _ _ _ _ _ _ _ _ _ p => p
  | _ => default
noncomputable abbrev de (P : Params) (n : String) (t : Tok) (v : Value) : DictEntry := { hash := PyData.keyHash P (Str.ofString n), key := .str (Str.ofString n) t, val := v }
noncomputable abbrev fn (n q : String) (p : Arguments) (b : List Stmt) (s : Scope) (dV : Value) (m : String) (t : Tok) (c : Addr) : Obj := { cls := .type "function", data := .func { name := Str.ofString n, qualname := Str.ofString q, params := p, body := .stmts b, scope := s, globals := 3, closure := [], defaults := dV, kwdefaults := .none, pyModule := .str (Str.ofString m) t, code := .ref c } }
noncomputable abbrev tu (xs : Array Value) : Obj := { cls := .type "tuple", data := .seq xs }
noncomputable abbrev co (xs : Array Value) : Obj := { cls := .type "code", data := .fields xs }
noncomputable def hd.heap_39 : Params → Frag :=
  (fun n1_0 p1_0 b1_0 s1_0 w1_0 (_ : st 1 0 = Stmt.FunctionDef n1_0 p1_0 b1_0 [] none [] s1_0 none n1_0 w1_0)
    n8_0 p8_0 b8_0 s8_0 w8_0 (_ : st 8 0 = Stmt.FunctionDef n8_0 p8_0 b8_0 [] none [] s8_0 none n8_0 w8_0)
    n8_1 p8_1 b8_1 s8_1 w8_1 (_ : st 8 1 = Stmt.FunctionDef n8_1 p8_1 b8_1 [] none [] s8_1 none n8_1 w8_1)
    n8_2 p8_2 b8_2 s8_2 w8_2 (_ : st 8 2 = Stmt.FunctionDef n8_2 p8_2 b8_2 [] none [] s8_2 none n8_2 w8_2)
    n9_0 p9_0 b9_0 s9_0 w9_0 (_ : st 9 0 = Stmt.FunctionDef n9_0 p9_0 b9_0 [] none [] s9_0 none n9_0 w9_0)
    n10_0 p10_0 b10_0 s10_0 w10_0 (_ : st 10 0 = Stmt.FunctionDef n10_0 p10_0 b10_0 [] none [] s10_0 none n10_0 w10_0)
    n11_0 p11_0 b11_0 s11_0 w11_0 (_ : st 11 0 = Stmt.FunctionDef n11_0 p11_0 b11_0 [] none [] s11_0 none n11_0 w11_0)
    n12_0 p12_0 b12_0 s12_0 w12_0 (_ : st 12 0 = Stmt.FunctionDef n12_0 p12_0 b12_0 [] none [] s12_0 none n12_0 w12_0)
    n13_0 p13_0 b13_0 s13_0 w13_0 (_ : st 13 0 = Stmt.FunctionDef n13_0 p13_0 b13_0 [] none [] s13_0 none n13_0 w13_0)
    n14_0 p14_0 b14_0 s14_0 w14_0 (_ : st 14 0 = Stmt.FunctionDef n14_0 p14_0 b14_0 [] none [] s14_0 none n14_0 w14_0)
    n15_0 p15_0 b15_0 s15_0 w15_0 (_ : st 15 0 = Stmt.FunctionDef n15_0 p15_0 b15_0 [] none [] s15_0 none n15_0 w15_0)
    n16_0 p16_0 b16_0 s16_0 w16_0 (_ : st 16 0 = Stmt.FunctionDef n16_0 p16_0 b16_0 [] none [] s16_0 none n16_0 w16_0)
    n17_0 p17_0 b17_0 s17_0 w17_0 (_ : st 17 0 = Stmt.FunctionDef n17_0 p17_0 b17_0 [] none [] s17_0 none n17_0 w17_0)
    n18_0 p18_0 b18_0 s18_0 w18_0 (_ : st 18 0 = Stmt.FunctionDef n18_0 p18_0 b18_0 [] none [] s18_0 none n18_0 w18_0)
    n19_0 p19_0 b19_0 s19_0 w19_0 (_ : st 19 0 = Stmt.FunctionDef n19_0 p19_0 b19_0 [] none [] s19_0 none n19_0 w19_0)
    n19_1 p19_1 b19_1 s19_1 w19_1 (_ : st 19 1 = Stmt.FunctionDef n19_1 p19_1 b19_1 [] none [] s19_1 none n19_1 w19_1)
    n19_2 p19_2 b19_2 s19_2 w19_2 (_ : st 19 2 = Stmt.FunctionDef n19_2 p19_2 b19_2 [] none [] s19_2 none n19_2 w19_2)
    n19_3 p19_3 b19_3 s19_3 w19_3 (_ : st 19 3 = Stmt.FunctionDef n19_3 p19_3 b19_3 [] none [] s19_3 none n19_3 w19_3)
    n20_0 p20_0 b20_0 s20_0 w20_0 (_ : st 20 0 = Stmt.FunctionDef n20_0 p20_0 b20_0 [] none [] s20_0 none n20_0 w20_0)
    n20_1 p20_1 b20_1 s20_1 w20_1 (_ : st 20 1 = Stmt.FunctionDef n20_1 p20_1 b20_1 [] none [] s20_1 none n20_1 w20_1)
    n20_2 p20_2 b20_2 s20_2 w20_2 (_ : st 20 2 = Stmt.FunctionDef n20_2 p20_2 b20_2 [] none [] s20_2 none n20_2 w20_2)
    n20_3 p20_3 b20_3 s20_3 w20_3 (_ : st 20 3 = Stmt.FunctionDef n20_3 p20_3 b20_3 [] none [] s20_3 none n20_3 w20_3)
    n22_0 p22_0 b22_0 s22_0 w22_0 (_ : st 22 0 = Stmt.FunctionDef n22_0 p22_0 b22_0 [] none [] s22_0 none n22_0 w22_0)
    n23_0 p23_0 b23_0 s23_0 w23_0 (_ : st 23 0 = Stmt.FunctionDef n23_0 p23_0 b23_0 [] none [] s23_0 none n23_0 w23_0)
    n24_0 p24_0 b24_0 s24_0 w24_0 (_ : st 24 0 = Stmt.FunctionDef n24_0 p24_0 b24_0 [] none [] s24_0 none n24_0 w24_0)
    n25_0 p25_0 b25_0 s25_0 w25_0 (_ : st 25 0 = Stmt.FunctionDef n25_0 p25_0 b25_0 [] none [] s25_0 none n25_0 w25_0)
    n26_0 p26_0 b26_0 s26_0 w26_0 (_ : st 26 0 = Stmt.FunctionDef n26_0 p26_0 b26_0 [] none [] s26_0 none n26_0 w26_0)
    n27_0 p27_0 b27_0 s27_0 w27_0 (_ : st 27 0 = Stmt.FunctionDef n27_0 p27_0 b27_0 [] none [] s27_0 none n27_0 w27_0)
    n28_0 p28_0 b28_0 s28_0 w28_0 (_ : st 28 0 = Stmt.FunctionDef n28_0 p28_0 b28_0 [] none [] s28_0 none n28_0 w28_0)
    n29_0 p29_0 b29_0 s29_0 w29_0 (_ : st 29 0 = Stmt.FunctionDef n29_0 p29_0 b29_0 [] none [] s29_0 none n29_0 w29_0)
    n30_0 p30_0 b30_0 s30_0 w30_0 (_ : st 30 0 = Stmt.FunctionDef n30_0 p30_0 b30_0 [] none [] s30_0 none n30_0 w30_0)
    n31_0 p31_0 b31_0 s31_0 w31_0 (_ : st 31 0 = Stmt.FunctionDef n31_0 p31_0 b31_0 [] none [] s31_0 none n31_0 w31_0)
    n32_0 p32_0 b32_0 s32_0 w32_0 (_ : st 32 0 = Stmt.FunctionDef n32_0 p32_0 b32_0 [] none [] s32_0 none n32_0 w32_0)
    (P : Params) => ((nat_lit 2, { cls := .none, data := .dict #[de P "type.__subclasses__.Exception.0" 214 (.int 32 0), de P "type.__subclasses__.Exception.n" 215 (.int 1 0)] 2 }) ::
    (nat_lit 3, { cls := .type "dict", data := .dict #[de P "__name__" 165 (.str "law_nt0492_01" 532), de P "__doc__" 166 .none, de P "__package__" 167 .none, de P "__loader__" 168 (.builtin "__main__.__loader__#opaque"), de P "__spec__" 169 .none, de P "__annotations__" 170 (.ref 6), de P "__builtins__" 171 (.ref 4), de P "__file__" 173 (.str "/claim/cut.py" 172), de P "__cached__" 174 .none, de P "PostError" 217 (.ref 32), de P "PsError" 233 (.ref 45), de P "TIFF_WAY" 237 (.int 2 236), de P "PNG_WAYS" 239 (.int 10 238), de P "BEST_WAY" 241 (.int 15 240), de P "WIDTHS" 247 (.ref 48), de P "PredictorShape" 300 (.ref 80), de P "predict_parts" 306 (.ref 89), de P "predict_octets" 320 (.ref 96), de P "tiff_row" 334 (.ref 103), de P "nearest_of" 346 (.ref 110), de P "png_guess" 356 (.ref 117), de P "png_octet" 364 (.ref 124), de P "png_told" 380 (.ref 131), de P "png_back" 396 (.ref 138), de P "png_weight" 402 (.ref 143), de P "png_best" 414 (.ref 150), de P "PredictorEncoder" 474 (.ref 188), de P "PredictorDecoder" 531 (.ref 230), de P "_law_rest" 545 (.ref 241), de P "_law_guess" 559 (.ref 248), de P "_law_tagged" 565 (.ref 253), de P "_law_weight" 571 (.ref 258), de P "_law_told" 577 (.ref 263), de P "_law_parts" 583 (.ref 268), de P "_law_differences" 589 (.ref 273), de P "_law_read" 610 (.ref 280), de P "_law_fed" 621 (.ref 287), de P "_law_is_refused" 632 (.ref 294), de P "law" 638 (.ref 299)] 39 }) ::
    (nat_lit 15, tu #[.type "Exception"]) ::
    (nat_lit 22, tu #[.none]) ::
    (nat_lit 23, tu #[]) ::
    (nat_lit 25, tu #[.str "self" 204, .str "told" 205]) ::
    (nat_lit 26, tu #[]) ::
    (nat_lit 28, co #[.str "__init__" 201, .str "PostError.__init__" 202, .str "/claim/cut.py" 203, .int 4 0, .int 2 0, .int 0 0, .int 0 0, .int 3 0, .ref 23, .bool true, .int 181 0, .ref 24, .none, .ref 25, .ref 26, .ref 27, .int 206 0, .int 4 0, .str "/claim/cut.py" 207]) ::
    (nat_lit 29, fn "__init__" "PostError.__init__" p1_0 b1_0 s1_0 (.ref 22) "postcore.base" 187 28) ::
    (nat_lit 30, tu #[.str "told" 209]) ::
    (nat_lit 31, { cls := .type "dict", data := .dict #[de P "__module__" 196 (.str "postcore.base" 187), de P "__firstlineno__" 200 (.int 2 199), de P "__init__" 208 (.ref 29), de P "__static_attributes__" 210 (.ref 30), de P "__weakref__" 212 (.ref 33), de P "__doc__" 213 .none] 3 }) ::
    (nat_lit 32, { cls := .type "type", data := .cls { name := "PostError", bases := [.type "Exception"], mro := [.ref 32, .type "Exception", .type "BaseException", .type "object"], ns := 31, qualname := "PostError", subclasses := [.ref 45] }, slots := #[some (.ref 15), none, some (.str "PostError" 189), some (.str "PostError" 197), some (.builtin "Exception.__new__"), some (.bool true)] }) ::
    (nat_lit 33, { cls := .type "getset_descriptor", data := .fields #[.str "__weakref__" 211, .ref 32, .builtin "ExceptionGroup.__weakref__", .none] }) ::
    (nat_lit 36, tu #[.ref 32]) ::
    (nat_lit 43, tu #[]) ::
    (nat_lit 44, { cls := .type "dict", data := .dict #[de P "__module__" 225 (.str "postcore.base" 187), de P "__firstlineno__" 229 (.int 6 228), de P "__static_attributes__" 230 (.ref 43), de P "__doc__" 231 .none] 2 }) ::
    (nat_lit 45, { cls := .type "type", data := .cls { name := "PsError", bases := [.ref 32], mro := [.ref 45, .ref 32, .type "Exception", .type "BaseException", .type "object"], ns := 44, qualname := "PsError" }, slots := #[some (.ref 36), none, some (.str "PsError" 218), some (.str "PsError" 226), some (.builtin "Exception.__new__"), some (.bool true)] }) ::
    (nat_lit 48, tu #[.int 1 242, .int 2 243, .int 4 244, .int 8 245, .int 16 246]) ::
    (nat_lit 56, tu #[.int 1 260, .int 1 261, .int 8 262, .int 1 263]) ::
    (nat_lit 57, tu #[]) ::
    (nat_lit 59, tu #[.str "self" 267, .str "predictor" 268, .str "colors" 269, .str "bits" 270, .str "columns" 271]) ::
    (nat_lit 60, tu #[]) ::
    (nat_lit 62, co #[.str "__init__" 264, .str "PredictorShape.__init__" 265, .str "/claim/cut.py" 266, .int 15 0, .int 5 0, .int 0 0, .int 0 0, .int 3 0, .ref 57, .bool true, .int 181 0, .ref 58, .none, .ref 59, .ref 60, .ref 61, .int 272 0, .int 15 0, .str "/claim/cut.py" 273]) ::
    (nat_lit 63, fn "__init__" "PredictorShape.__init__" p8_0 b8_0 s8_0 (.ref 56) "postcore.predictors" 234 62) ::
    (nat_lit 64, tu #[]) ::
    (nat_lit 66, tu #[.str "self" 278]) ::
    (nat_lit 67, tu #[]) ::
    (nat_lit 69, co #[.str "row_octets" 275, .str "PredictorShape.row_octets" 276, .str "/claim/cut.py" 277, .int 25 0, .int 1 0, .int 0 0, .int 0 0, .int 3 0, .ref 64, .bool true, .int 181 0, .ref 65, .none, .ref 66, .ref 67, .ref 68, .int 279 0, .int 25 0, .str "/claim/cut.py" 280]) ::
    (nat_lit 70, fn "row_octets" "PredictorShape.row_octets" p8_1 b8_1 s8_1 (.none) "postcore.predictors" 234 69) ::
    (nat_lit 71, tu #[]) ::
    (nat_lit 73, tu #[.str "self" 285]) ::
    (nat_lit 74, tu #[]) ::
    (nat_lit 76, co #[.str "pixel_octets" 282, .str "PredictorShape.pixel_octets" 283, .str "/claim/cut.py" 284, .int 28 0, .int 1 0, .int 0 0, .int 0 0, .int 3 0, .ref 71, .bool true, .int 181 0, .ref 72, .none, .ref 73, .ref 74, .ref 75, .int 286 0, .int 28 0, .str "/claim/cut.py" 287]) ::
    (nat_lit 77, fn "pixel_octets" "PredictorShape.pixel_octets" p8_2 b8_2 s8_2 (.none) "postcore.predictors" 234 76) ::
    (nat_lit 78, tu #[.str "bits" 289, .str "colors" 290, .str "columns" 291, .str "predictor" 292]) ::
    (nat_lit 79, { cls := .type "dict", data := .dict #[de P "__module__" 255 (.str "postcore.predictors" 234), de P "__firstlineno__" 259 (.int 13 258), de P "__init__" 274 (.ref 63), de P "row_octets" 281 (.ref 70), de P "pixel_octets" 288 (.ref 77), de P "__static_attributes__" 293 (.ref 78), de P "__dict__" 295 (.ref 81), de P "__weakref__" 297 (.ref 82), de P "__doc__" 298 .none] 4 }) ::
    (nat_lit 80, { cls := .type "type", data := .cls { name := "PredictorShape", bases := [.type "object"], mro := [.ref 80, .type "object"], ns := 79, qualname := "PredictorShape" }, slots := #[none, none, some (.str "PredictorShape" 248), some (.str "PredictorShape" 256), some (.builtin "object.__new__"), some (.bool true)] }) ::
    (nat_lit 81, { cls := .type "getset_descriptor", data := .fields #[.str "__dict__" 294, .ref 80, .builtin "function.__dict__", .builtin "function.__dict__#set"] }) ::
    (nat_lit 82, { cls := .type "getset_descriptor", data := .fields #[.str "__weakref__" 296, .ref 80, .builtin "ExceptionGroup.__weakref__", .none] }) ::
    (nat_lit 85, tu #[]) ::
    (nat_lit 88, co #[.str "predict_parts" 301, .str "predict_parts" 302, .str "/claim/cut.py" 303, .int 30 0, .int 2 0, .int 0 0, .int 0 0, .int 3 0, .ref 85, .bool true, .int 181 0, .ref 86, .none, .none, .none, .ref 87, .int 304 0, .int 30 0, .str "/claim/cut.py" 305]) ::
    (nat_lit 89, fn "predict_parts" "predict_parts" p9_0 b9_0 s9_0 (.none) "postcore.predictors" 234 88) ::
    (nat_lit 90, tu #[]) ::
    (nat_lit 92, tu #[.str "parts" 310, .str "bits" 311, .str "row" 312, .str "whole" 313, .str "part" 314, .str "many" 315, .str "found" 316, .str "place" 317]) ::
    (nat_lit 93, tu #[]) ::
    (nat_lit 95, co #[.str "predict_octets" 307, .str "predict_octets" 308, .str "/claim/cut.py" 309, .int 37 0, .int 3 0, .int 0 0, .int 0 0, .int 3 0, .ref 90, .bool true, .int 181 0, .ref 91, .none, .ref 92, .ref 93, .ref 94, .int 318 0, .int 37 0, .str "/claim/cut.py" 319]) ::
    (nat_lit 96, fn "predict_octets" "predict_octets" p10_0 b10_0 s10_0 (.none) "postcore.predictors" 234 95) ::
    (nat_lit 97, tu #[]) ::
    (nat_lit 99, tu #[.str "row" 324, .str "shape" 325, .str "is_back" 326, .str "parts" 327, .str "wide" 328, .str "known" 329, .str "place" 330, .str "part" 331]) ::
    (nat_lit 100, tu #[]) ::
    (nat_lit 102, co #[.str "tiff_row" 321, .str "tiff_row" 322, .str "/claim/cut.py" 323, .int 47 0, .int 3 0, .int 0 0, .int 0 0, .int 3 0, .ref 97, .bool true, .int 181 0, .ref 98, .none, .ref 99, .ref 100, .ref 101, .int 332 0, .int 47 0, .str "/claim/cut.py" 333]) ::
    (nat_lit 103, fn "tiff_row" "tiff_row" p11_0 b11_0 s11_0 (.none) "postcore.predictors" 234 102) ::
    (nat_lit 104, tu #[]) ::
    (nat_lit 106, tu #[.str "left" 338, .str "above" 339, .str "corner" 340, .str "wanted" 341, .str "best" 342, .str "one" 343]) ::
    (nat_lit 107, tu #[]) ::
    (nat_lit 109, co #[.str "nearest_of" 335, .str "nearest_of" 336, .str "/claim/cut.py" 337, .int 58 0, .int 3 0, .int 0 0, .int 0 0, .int 3 0, .ref 104, .bool true, .int 181 0, .ref 105, .none, .ref 106, .ref 107, .ref 108, .int 344 0, .int 58 0, .str "/claim/cut.py" 345]) ::
    (nat_lit 110, fn "nearest_of" "nearest_of" p12_0 b12_0 s12_0 (.none) "postcore.predictors" 234 109) ::
    (nat_lit 111, tu #[]) ::
    (nat_lit 113, tu #[.str "way" 350, .str "left" 351, .str "above" 352, .str "corner" 353]) ::
    (nat_lit 114, tu #[]) ::
    (nat_lit 116, co #[.str "png_guess" 347, .str "png_guess" 348, .str "/claim/cut.py" 349, .int 65 0, .int 4 0, .int 0 0, .int 0 0, .int 3 0, .ref 111, .bool true, .int 181 0, .ref 112, .none, .ref 113, .ref 114, .ref 115, .int 354 0, .int 65 0, .str "/claim/cut.py" 355]) ::
    (nat_lit 117, fn "png_guess" "png_guess" p13_0 b13_0 s13_0 (.none) "postcore.predictors" 234 116) ::
    (nat_lit 118, tu #[]) ::
    (nat_lit 120, tu #[.str "row" 360, .str "place" 361]) ::
    (nat_lit 121, tu #[]) ::
    (nat_lit 123, co #[.str "png_octet" 357, .str "png_octet" 358, .str "/claim/cut.py" 359, .int 73 0, .int 2 0, .int 0 0, .int 0 0, .int 3 0, .ref 118, .bool true, .int 181 0, .ref 119, .none, .ref 120, .ref 121, .ref 122, .int 362 0, .int 73 0, .str "/claim/cut.py" 363]) ::
    (nat_lit 124, fn "png_octet" "png_octet" p14_0 b14_0 s14_0 (.none) "postcore.predictors" 234 123) ::
    (nat_lit 125, tu #[]) ::
    (nat_lit 127, tu #[.str "way" 368, .str "row" 369, .str "ahead" 370, .str "step" 371, .str "found" 372, .str "place" 373, .str "octet" 374, .str "left" 375, .str "above" 376, .str "corner" 377]) ::
    (nat_lit 128, tu #[]) ::
    (nat_lit 130, co #[.str "png_told" 365, .str "png_told" 366, .str "/claim/cut.py" 367, .int 75 0, .int 4 0, .int 0 0, .int 0 0, .int 3 0, .ref 125, .bool true, .int 181 0, .ref 126, .none, .ref 127, .ref 128, .ref 129, .int 378 0, .int 75 0, .str "/claim/cut.py" 379]) ::
    (nat_lit 131, fn "png_told" "png_told" p15_0 b15_0 s15_0 (.none) "postcore.predictors" 234 130) ::
    (nat_lit 132, tu #[]) ::
    (nat_lit 134, tu #[.str "way" 384, .str "octets" 385, .str "ahead" 386, .str "step" 387, .str "row" 388, .str "place" 389, .str "octet" 390, .str "left" 391, .str "above" 392, .str "corner" 393]) ::
    (nat_lit 135, tu #[]) ::
    (nat_lit 137, co #[.str "png_back" 381, .str "png_back" 382, .str "/claim/cut.py" 383, .int 81 0, .int 4 0, .int 0 0, .int 0 0, .int 3 0, .ref 132, .bool true, .int 181 0, .ref 133, .none, .ref 134, .ref 135, .ref 136, .int 394 0, .int 81 0, .str "/claim/cut.py" 395]) ::
    (nat_lit 138, fn "png_back" "png_back" p16_0 b16_0 s16_0 (.none) "postcore.predictors" 234 137) ::
    (nat_lit 139, tu #[]) ::
    (nat_lit 142, co #[.str "png_weight" 397, .str "png_weight" 398, .str "/claim/cut.py" 399, .int 87 0, .int 1 0, .int 0 0, .int 0 0, .int 3 0, .ref 139, .bool true, .int 181 0, .ref 140, .none, .none, .none, .ref 141, .int 400 0, .int 87 0, .str "/claim/cut.py" 401]) ::
    (nat_lit 143, fn "png_weight" "png_weight" p17_0 b17_0 s17_0 (.none) "postcore.predictors" 234 142) ::
    (nat_lit 144, tu #[]) ::
    (nat_lit 146, tu #[.str "row" 406, .str "ahead" 407, .str "step" 408, .str "best" 409, .str "way" 410, .str "told" 411]) ::
    (nat_lit 147, tu #[]) ::
    (nat_lit 149, co #[.str "png_best" 403, .str "png_best" 404, .str "/claim/cut.py" 405, .int 89 0, .int 3 0, .int 0 0, .int 0 0, .int 3 0, .ref 144, .bool true, .int 181 0, .ref 145, .none, .ref 146, .ref 147, .ref 148, .int 412 0, .int 89 0, .str "/claim/cut.py" 413]) ::
    (nat_lit 150, fn "png_best" "png_best" p18_0 b18_0 s18_0 (.none) "postcore.predictors" 234 149) ::
    (nat_lit 158, tu #[]) ::
    (nat_lit 160, tu #[.str "self" 430, .str "shape" 431]) ::
    (nat_lit 161, tu #[]) ::
    (nat_lit 163, co #[.str "__init__" 427, .str "PredictorEncoder.__init__" 428, .str "/claim/cut.py" 429, .int 98 0, .int 2 0, .int 0 0, .int 0 0, .int 3 0, .ref 158, .bool true, .int 181 0, .ref 159, .none, .ref 160, .ref 161, .ref 162, .int 432 0, .int 98 0, .str "/claim/cut.py" 433]) ::
    (nat_lit 164, fn "__init__" "PredictorEncoder.__init__" p19_0 b19_0 s19_0 (.none) "postcore.predictors" 234 163) ::
    (nat_lit 165, tu #[]) ::
    (nat_lit 167, tu #[.str "self" 438, .str "octets" 439, .str "many" 440, .str "found" 441]) ::
    (nat_lit 168, tu #[]) ::
    (nat_lit 170, co #[.str "feed" 435, .str "PredictorEncoder.feed" 436, .str "/claim/cut.py" 437, .int 103 0, .int 2 0, .int 0 0, .int 0 0, .int 3 0, .ref 165, .bool true, .int 181 0, .ref 166, .none, .ref 167, .ref 168, .ref 169, .int 442 0, .int 103 0, .str "/claim/cut.py" 443]) ::
    (nat_lit 171, fn "feed" "PredictorEncoder.feed" p19_1 b19_1 s19_1 (.none) "postcore.predictors" 234 170) ::
    (nat_lit 172, tu #[]) ::
    (nat_lit 174, tu #[.str "self" 448, .str "row" 449, .str "way" 450, .str "step" 451, .str "found" 452]) ::
    (nat_lit 175, tu #[]) ::
    (nat_lit 177, co #[.str "told" 445, .str "PredictorEncoder.told" 446, .str "/claim/cut.py" 447, .int 113 0, .int 2 0, .int 0 0, .int 0 0, .int 3 0, .ref 172, .bool true, .int 181 0, .ref 173, .none, .ref 174, .ref 175, .ref 176, .int 453 0, .int 113 0, .str "/claim/cut.py" 454]) ::
    (nat_lit 178, fn "told" "PredictorEncoder.told" p19_2 b19_2 s19_2 (.none) "postcore.predictors" 234 177) ::
    (nat_lit 179, tu #[]) ::
    (nat_lit 181, tu #[.str "self" 459, .str "found" 460]) ::
    (nat_lit 182, tu #[]) ::
    (nat_lit 184, co #[.str "finish" 456, .str "PredictorEncoder.finish" 457, .str "/claim/cut.py" 458, .int 124 0, .int 1 0, .int 0 0, .int 0 0, .int 3 0, .ref 179, .bool true, .int 181 0, .ref 180, .none, .ref 181, .ref 182, .ref 183, .int 461 0, .int 124 0, .str "/claim/cut.py" 462]) ::
    (nat_lit 185, fn "finish" "PredictorEncoder.finish" p19_3 b19_3 s19_3 (.none) "postcore.predictors" 234 184) ::
    (nat_lit 186, tu #[.str "ahead" 464, .str "rest" 465, .str "shape" 466]) ::
    (nat_lit 187, { cls := .type "dict", data := .dict #[de P "__module__" 422 (.str "postcore.predictors" 234), de P "__firstlineno__" 426 (.int 96 425), de P "__init__" 434 (.ref 164), de P "feed" 444 (.ref 171), de P "told" 455 (.ref 178), de P "finish" 463 (.ref 185), de P "__static_attributes__" 467 (.ref 186), de P "__dict__" 469 (.ref 189), de P "__weakref__" 471 (.ref 190), de P "__doc__" 472 .none] 4 }) ::
    (nat_lit 188, { cls := .type "type", data := .cls { name := "PredictorEncoder", bases := [.type "object"], mro := [.ref 188, .type "object"], ns := 187, qualname := "PredictorEncoder" }, slots := #[none, none, some (.str "PredictorEncoder" 415), some (.str "PredictorEncoder" 423), some (.builtin "object.__new__"), some (.bool true)] }) ::
    (nat_lit 189, { cls := .type "getset_descriptor", data := .fields #[.str "__dict__" 468, .ref 188, .builtin "function.__dict__", .builtin "function.__dict__#set"] }) ::
    (nat_lit 190, { cls := .type "getset_descriptor", data := .fields #[.str "__weakref__" 470, .ref 188, .builtin "ExceptionGroup.__weakref__", .none] }) ::
    (nat_lit 200, tu #[]) ::
    (nat_lit 202, tu #[.str "self" 490, .str "shape" 491]) ::
    (nat_lit 203, tu #[]) ::
    (nat_lit 205, co #[.str "__init__" 487, .str "PredictorDecoder.__init__" 488, .str "/claim/cut.py" 489, .int 130 0, .int 2 0, .int 0 0, .int 0 0, .int 3 0, .ref 200, .bool true, .int 181 0, .ref 201, .none, .ref 202, .ref 203, .ref 204, .int 492 0, .int 130 0, .str "/claim/cut.py" 493]) ::
    (nat_lit 206, fn "__init__" "PredictorDecoder.__init__" p20_0 b20_0 s20_0 (.none) "postcore.predictors" 234 205) ::
    (nat_lit 207, tu #[]) ::
    (nat_lit 209, tu #[.str "self" 498, .str "octets" 499, .str "many" 500, .str "found" 501]) ::
    (nat_lit 210, tu #[]) ::
    (nat_lit 212, co #[.str "feed" 495, .str "PredictorDecoder.feed" 496, .str "/claim/cut.py" 497, .int 135 0, .int 2 0, .int 0 0, .int 0 0, .int 3 0, .ref 207, .bool true, .int 181 0, .ref 208, .none, .ref 209, .ref 210, .ref 211, .int 502 0, .int 135 0, .str "/claim/cut.py" 503]) ::
    (nat_lit 213, fn "feed" "PredictorDecoder.feed" p20_1 b20_1 s20_1 (.none) "postcore.predictors" 234 212) ::
    (nat_lit 214, tu #[]) ::
    (nat_lit 216, tu #[.str "self" 508, .str "octets" 509]) ::
    (nat_lit 217, tu #[]) ::
    (nat_lit 219, co #[.str "row" 505, .str "PredictorDecoder.row" 506, .str "/claim/cut.py" 507, .int 145 0, .int 2 0, .int 0 0, .int 0 0, .int 3 0, .ref 214, .bool true, .int 181 0, .ref 215, .none, .ref 216, .ref 217, .ref 218, .int 510 0, .int 145 0, .str "/claim/cut.py" 511]) ::
    (nat_lit 220, fn "row" "PredictorDecoder.row" p20_2 b20_2 s20_2 (.none) "postcore.predictors" 234 219) ::
    (nat_lit 221, tu #[]) ::
    (nat_lit 223, tu #[.str "self" 516, .str "found" 517]) ::
    (nat_lit 224, tu #[]) ::
    (nat_lit 226, co #[.str "finish" 513, .str "PredictorDecoder.finish" 514, .str "/claim/cut.py" 515, .int 153 0, .int 1 0, .int 0 0, .int 0 0, .int 3 0, .ref 221, .bool true, .int 181 0, .ref 222, .none, .ref 223, .ref 224, .ref 225, .int 518 0, .int 153 0, .str "/claim/cut.py" 519]) ::
    (nat_lit 227, fn "finish" "PredictorDecoder.finish" p20_3 b20_3 s20_3 (.none) "postcore.predictors" 234 226) ::
    (nat_lit 228, tu #[.str "ahead" 521, .str "rest" 522, .str "shape" 523]) ::
    (nat_lit 229, { cls := .type "dict", data := .dict #[de P "__module__" 482 (.str "postcore.predictors" 234), de P "__firstlineno__" 486 (.int 128 485), de P "__init__" 494 (.ref 206), de P "feed" 504 (.ref 213), de P "row" 512 (.ref 220), de P "finish" 520 (.ref 227), de P "__static_attributes__" 524 (.ref 228), de P "__dict__" 526 (.ref 231), de P "__weakref__" 528 (.ref 232), de P "__doc__" 529 .none] 4 }) ::
    (nat_lit 230, { cls := .type "type", data := .cls { name := "PredictorDecoder", bases := [.type "object"], mro := [.ref 230, .type "object"], ns := 229, qualname := "PredictorDecoder" }, slots := #[none, none, some (.str "PredictorDecoder" 475), some (.str "PredictorDecoder" 483), some (.builtin "object.__new__"), some (.bool true)] }) ::
    (nat_lit 231, { cls := .type "getset_descriptor", data := .fields #[.str "__dict__" 525, .ref 230, .builtin "function.__dict__", .builtin "function.__dict__#set"] }) ::
    (nat_lit 232, { cls := .type "getset_descriptor", data := .fields #[.str "__weakref__" 527, .ref 230, .builtin "ExceptionGroup.__weakref__", .none] }) ::
    (nat_lit 235, tu #[]) ::
    (nat_lit 237, tu #[.str "a" 537, .str "b" 538, .str "c" 539, .str "goal" 540, .str "best" 541, .str "other" 542]) ::
    (nat_lit 238, tu #[]) ::
    (nat_lit 240, co #[.str "_law_rest" 534, .str "_law_rest" 535, .str "/claim/cut.py" 536, .int 158 0, .int 3 0, .int 0 0, .int 0 0, .int 3 0, .ref 235, .bool true, .int 181 0, .ref 236, .none, .ref 237, .ref 238, .ref 239, .int 543 0, .int 158 0, .str "/claim/cut.py" 544]) ::
    (nat_lit 241, fn "_law_rest" "_law_rest" p22_0 b22_0 s22_0 (.none) "law_nt0492_01" 532 240) ::
    (nat_lit 242, tu #[]) ::
    (nat_lit 244, tu #[.str "way" 549, .str "row" 550, .str "ahead" 551, .str "place" 552, .str "step" 553, .str "a" 554, .str "b" 555, .str "c" 556]) ::
    (nat_lit 245, tu #[]) ::
    (nat_lit 247, co #[.str "_law_guess" 546, .str "_law_guess" 547, .str "/claim/cut.py" 548, .int 164 0, .int 5 0, .int 0 0, .int 0 0, .int 3 0, .ref 242, .bool true, .int 181 0, .ref 243, .none, .ref 244, .ref 245, .ref 246, .int 557 0, .int 164 0, .str "/claim/cut.py" 558]) ::
    (nat_lit 248, fn "_law_guess" "_law_guess" p23_0 b23_0 s23_0 (.none) "law_nt0492_01" 532 247) ::
    (nat_lit 249, tu #[]) ::
    (nat_lit 252, co #[.str "_law_tagged" 560, .str "_law_tagged" 561, .str "/claim/cut.py" 562, .int 169 0, .int 4 0, .int 0 0, .int 0 0, .int 3 0, .ref 249, .bool true, .int 181 0, .ref 250, .none, .none, .none, .ref 251, .int 563 0, .int 169 0, .str "/claim/cut.py" 564]) ::
    (nat_lit 253, fn "_law_tagged" "_law_tagged" p24_0 b24_0 s24_0 (.none) "law_nt0492_01" 532 252) ::
    (nat_lit 254, tu #[]) ::
    (nat_lit 257, co #[.str "_law_weight" 566, .str "_law_weight" 567, .str "/claim/cut.py" 568, .int 171 0, .int 1 0, .int 0 0, .int 0 0, .int 3 0, .ref 254, .bool true, .int 181 0, .ref 255, .none, .none, .none, .ref 256, .int 569 0, .int 171 0, .str "/claim/cut.py" 570]) ::
    (nat_lit 258, fn "_law_weight" "_law_weight" p25_0 b25_0 s25_0 (.none) "law_nt0492_01" 532 257) ::
    (nat_lit 259, tu #[]) ::
    (nat_lit 262, co #[.str "_law_told" 572, .str "_law_told" 573, .str "/claim/cut.py" 574, .int 173 0, .int 2 0, .int 0 0, .int 0 0, .int 3 0, .ref 259, .bool true, .int 181 0, .ref 260, .none, .none, .none, .ref 261, .int 575 0, .int 173 0, .str "/claim/cut.py" 576]) ::
    (nat_lit 263, fn "_law_told" "_law_told" p26_0 b26_0 s26_0 (.none) "law_nt0492_01" 532 262) ::
    (nat_lit 264, tu #[]) ::
    (nat_lit 267, co #[.str "_law_parts" 578, .str "_law_parts" 579, .str "/claim/cut.py" 580, .int 187 0, .int 2 0, .int 0 0, .int 0 0, .int 3 0, .ref 264, .bool true, .int 181 0, .ref 265, .none, .none, .none, .ref 266, .int 581 0, .int 187 0, .str "/claim/cut.py" 582]) ::
    (nat_lit 268, fn "_law_parts" "_law_parts" p27_0 b27_0 s27_0 (.none) "law_nt0492_01" 532 267) ::
    (nat_lit 269, tu #[]) ::
    (nat_lit 272, co #[.str "_law_differences" 584, .str "_law_differences" 585, .str "/claim/cut.py" 586, .int 193 0, .int 3 0, .int 0 0, .int 0 0, .int 3 0, .ref 269, .bool true, .int 181 0, .ref 270, .none, .none, .none, .ref 271, .int 587 0, .int 193 0, .str "/claim/cut.py" 588]) ::
    (nat_lit 273, fn "_law_differences" "_law_differences" p28_0 b28_0 s28_0 (.none) "law_nt0492_01" 532 272) ::
    (nat_lit 274, tu #[]) ::
    (nat_lit 276, tu #[.str "shape" 593, .str "octets" 594, .str "way" 595, .str "colors" 596, .str "bits" 597, .str "columns" 598, .str "size" 599, .str "step" 600, .str "found" 601, .str "ahead" 602, .str "at" 603, .str "tag" 604, .str "told" 605, .str "row" 606, .str "k" 607]) ::
    (nat_lit 277, tu #[]) ::
    (nat_lit 279, co #[.str "_law_read" 590, .str "_law_read" 591, .str "/claim/cut.py" 592, .int 202 0, .int 2 0, .int 0 0, .int 0 0, .int 3 0, .ref 274, .bool true, .int 181 0, .ref 275, .none, .ref 276, .ref 277, .ref 278, .int 608 0, .int 202 0, .str "/claim/cut.py" 609]) ::
    (nat_lit 280, fn "_law_read" "_law_read" p29_0 b29_0 s29_0 (.none) "law_nt0492_01" 532 279) ::
    (nat_lit 281, tu #[]) ::
    (nat_lit 283, tu #[.str "tool" 614, .str "octets" 615, .str "cut" 616, .str "found" 617, .str "e" 618]) ::
    (nat_lit 284, tu #[]) ::
    (nat_lit 286, co #[.str "_law_fed" 611, .str "_law_fed" 612, .str "/claim/cut.py" 613, .int 213 0, .int 3 0, .int 0 0, .int 0 0, .int 3 0, .ref 281, .bool true, .int 181 0, .ref 282, .none, .ref 283, .ref 284, .ref 285, .int 619 0, .int 213 0, .str "/claim/cut.py" 620]) ::
    (nat_lit 287, fn "_law_fed" "_law_fed" p30_0 b30_0 s30_0 (.none) "law_nt0492_01" 532 286) ::
    (nat_lit 288, tu #[]) ::
    (nat_lit 290, tu #[.str "way" 625, .str "colors" 626, .str "bits" 627, .str "columns" 628, .str "e" 629]) ::
    (nat_lit 291, tu #[]) ::
    (nat_lit 293, co #[.str "_law_is_refused" 622, .str "_law_is_refused" 623, .str "/claim/cut.py" 624, .int 220 0, .int 4 0, .int 0 0, .int 0 0, .int 3 0, .ref 288, .bool true, .int 181 0, .ref 289, .none, .ref 290, .ref 291, .ref 292, .int 630 0, .int 220 0, .str "/claim/cut.py" 631]) ::
    (nat_lit 294, fn "_law_is_refused" "_law_is_refused" p31_0 b31_0 s31_0 (.none) "law_nt0492_01" 532 293) ::
    (nat_lit 295, tu #[]) ::
    (nat_lit 298, co #[.str "law" 633, .str "law" 634, .str "/claim/cut.py" 635, .int 226 0, .int 1 0, .int 0 0, .int 0 0, .int 3 0, .ref 295, .bool true, .int 181 0, .ref 296, .none, .none, .none, .ref 297, .int 636 0, .int 226 0, .str "/claim/cut.py" 637]) ::
    (nat_lit 299, fn "law" "law" p32_0 b32_0 s32_0 (.none) "law_nt0492_01" 532 298) :: [] : Frag)) _ _ _ _ _ rfl _ _ _ _ _ rfl _ _ _ _ _ rfl _ _ _ _ _ rfl _ _ _ _ _ rfl _ _ _ _ _ rfl _ _ _ _ _ rfl _ _ _ _ _ rfl _ _ _ _ _ rfl _ _ _ _ _ rfl _ _ _ _ _ rfl _ _ _ _ _ rfl _ _ _ _ _ rfl _ _ _ _ _ rfl _ _ _ _ _ rfl _ _ _ _ _ rfl _ _ _ _ _ rfl _ _ _ _ _ rfl _ _ _ _ _ rfl _ _ _ _ _ rfl _ _ _ _ _ rfl _ _ _ _ _ rfl _ _ _ _ _ rfl _ _ _ _ _ rfl _ _ _ _ _ rfl _ _ _ _ _ rfl _ _ _ _ _ rfl _ _ _ _ _ rfl _ _ _ _ _ rfl _ _ _ _ _ rfl _ _ _ _ _ rfl _ _ _ _ _ rfl _ _ _ _ _ rfl
noncomputable def hd.view_39 : Program := { PySem.Challenge.pw_nt0492_01 with main := { PySem.Challenge.pw_nt0492_01.main with body := ((PySem.Challenge.pw_nt0492_01.main.body.drop 1).take 2) ++ (((PySem.Challenge.pw_nt0492_01.main.body.drop 4).take 17) ++ PySem.Challenge.pw_nt0492_01.main.body.drop 22) } }
noncomputable def hd.addrs : List Addr := [2, 3, 15, 22, 23, 25, 26, 28, 29, 30, 31, 32, 33, 36, 43, 44, 45, 48, 56, 57, 59, 60, 62, 63, 64, 66, 67, 69, 70, 71, 73, 74, 76, 77, 78, 79, 80, 81, 82, 85, 88, 89, 90, 92, 93, 95, 96, 97, 99, 100, 102, 103, 104, 106, 107, 109, 110, 111, 113, 114, 116, 117, 118, 120, 121, 123, 124, 125, 127, 128, 130, 131, 132, 134, 135, 137, 138, 139, 142, 143, 144, 146, 147, 149, 150, 158, 160, 161, 163, 164, 165, 167, 168, 170, 171, 172, 174, 175, 177, 178, 179, 181, 182, 184, 185, 186, 187, 188, 189, 190, 200, 202, 203, 205, 206, 207, 209, 210, 212, 213, 214, 216, 217, 219, 220, 221, 223, 224, 226, 227, 228, 229, 230, 231, 232, 235, 237, 238, 240, 241, 242, 244, 245, 247, 248, 249, 252, 253, 254, 257, 258, 259, 262, 263, 264, 267, 268, 269, 272, 273, 274, 276, 277, 279, 280, 281, 283, 284, 286, 287, 288, 290, 291, 293, 294, 295, 298, 299]
theorem hd.addrs_e : ∀ P, hd.addrs = (hd.heap_39 P).map (·.1) := fun _ => rfl
noncomputable abbrev hd.hook : Hook := kHook hd.heap_39 hd.addrs hd.addrs_e
noncomputable abbrev hd.Xt (s : Shared) : Bool := xlAt hd.view_39 [] s && recOk (RowW.records PySem.Challenge.rw_nt0492_01.row.toRowW) s
theorem hd.left0 : ∀ w : World, (openEnds PySem.W.Fast.tw14364793385576792824 PySem.Challenge.pw_nt0492_01 w 4362).map (fun s => (PySem.W.Fast.tw4187177175401517315 hd.view_39 [Str.ofString "PostError"] (PySem.W.Fast.tw5923862056798008813 PySem.Challenge.pw_nt0492_01.main.body) hd.Xt true s, hd.hook.obs s)) = some (openGood hd.view_39 [Str.ofString "PostError"], hd.hook.val w) := fun w => by kernel_rfl
theorem hd.left : LeftO PySem.Challenge.rw_nt0492_01.row.toRowW.prog hd.view_39 [Str.ofString "PostError"] hd.Xt hd.hook.obs hd.hook.val 4362 := fun w => by
  show (openEnds treeTable PySem.Challenge.pw_nt0492_01 w 4362).map (fun s => (openSeen hd.view_39 [Str.ofString "PostError"] (importedModules PySem.Challenge.pw_nt0492_01.main.body) hd.Xt true s, hd.hook.obs s)) = _
  rw [PySem.W.Fast.te14364793385576792824, PySem.W.Fast.te4187177175401517315, PySem.W.Fast.te5923862056798008813]
  exact hd.left0 w
noncomputable def hd.d : DefRec := ⟨Str.ofString "law", fPa (st 32 0), fBo (st 32 0), fSc (st 32 0), fPo (st 32 0)⟩
theorem hd.said : OpenLaw.wellSaid PySem.Challenge.rw_nt0492_01 = true := by kernel_rfl
theorem hd.ok : (chainsOk hd.view_39 && opensWell PySem.Challenge.rw_nt0492_01.row.prog && (frees PySem.Challenge.rw_nt0492_01.row.toRowW && PySem.Challenge.rw_nt0492_01.row.within.isEmpty)) = true := by kernel_rfl
theorem hd.df : defOf hd.view_39 PySem.Challenge.rw_nt0492_01.row.name = some (hd.d, []) := by kernel_rfl
theorem hd.dp : PySem.Challenge.rw_nt0492_01.row.prog.theDef PySem.Challenge.rw_nt0492_01.row.name = some (hd.d.params, hd.d.body, hd.d.scope) := by kernel_rfl
theorem hd.dk : kwWritten? hd.d.params.kwonlyargs hd.d.params.kw_defaults = some [] := by kernel_rfl
theorem hd.wr : (!PySem.Challenge.rw_nt0492_01.row.writes || PySem.Challenge.rw_nt0492_01.row.records.isEmpty) = true := by kernel_rfl
theorem hd.bare : PySem.Challenge.rw_nt0492_01.row.prog.bare := ⟨rfl, rfl, rfl, rfl, rfl, by decide +kernel⟩
theorem hd.promised : PySem.Challenge.rw_nt0492_01.row.toRowW.promised := by w_witness2
theorem hd (walk : WalkQ hd.view_39 [Str.ofString "PostError"] (XL hd.view_39 []) hd.hook.says PySem.Challenge.rw_nt0492_01.row.toRowW hd.d []) : PySem.Challenge.rw_nt0492_01.Holds :=
  holds_law hd.said fun said => holdsOpen hd.left hd.hook.of hd.hook.keeps (fun s e => xl_of s (Bool.and_eq_true_iff.mp e).1) XL.keeps hd.df hd.dp hd.dk (fun s e => recFacts_of (Bool.and_eq_true_iff.mp e).2) hd.wr said hd.ok hd.bare hd.promised walk
end
section
theorem rm0 {d k N : Nat} (h : d + k < N) : d < N := Nat.lt_of_le_of_lt (Nat.le_add_right _ _) h
theorem rm1 {d k a N : Nat} (h : d + k < N) (e : Nat.ble a k = true) : d + a < N := Nat.lt_of_le_of_lt (Nat.add_le_add_left (Nat.le_of_ble_eq_true e) _) h
theorem rm2 {d k a b N : Nat} (h : d + k < N) (e : Nat.ble (a + b) k = true) : d + a + b < N := by rw [Nat.add_assoc]; exact rm1 h e
theorem rm3 {d k a b c N : Nat} (h : d + k < N) (e : Nat.ble (a + b + c) k = true) : d + a + b + c < N := by rw [Nat.add_assoc d a b]; exact rm2 h e
theorem un1 {u k b N : Nat} (h : u + 8 * k < N) (e : Nat.ble (8 * b) (8 * k) = true) : u + 8 * b < N := rm1 h e
theorem un2 {u k a b N : Nat} (h : u + 8 * k < N) (e : Nat.ble (a + 8 * b) (8 * k) = true) : u + a + 8 * b < N := rm2 h e
theorem un3 {u k a b c N : Nat} (h : u + 8 * k < N) (e : Nat.ble (a + b + 8 * c) (8 * k) = true) : u + a + b + 8 * c < N := rm3 h e
theorem litI {n m : Nat} (e : Nat.ble n m = true) : (OfNat.ofNat n : Int) ≤ OfNat.ofNat m := Int.ofNat_le.mpr (Nat.le_of_ble_eq_true e)
theorem toksE {M : Model} {A : Around} {l : List Stmt} {env : Env} {Q : Flow → Shared → Prop} {E : Value → Shared → Prop} {h : Heap} {g : Array GenState} {d : Drawn} {n : Nat} {o : OsState}
    (H : ∀ tk, wpAny M A (execs l env) Q E { heap := h, gens := g, drawn := d, toks := tk, os := o }) : wpAny M A (execs l env) Q E { heap := h, gens := g, drawn := d, toks := n, os := o } := H n
theorem szL {α : Type} {vs : List α} (h : Nat.ble vs.length 64 = true) : vs.length ≤ sizeLine := Nat.le_trans (Nat.le_of_ble_eq_true h) (by rw [sizeLine_eq]; decide)
theorem szA {α : Type} {vs : Array α} (h : Nat.ble vs.size 64 = true) : vs.size ≤ sizeLine := Nat.le_trans (Nat.le_of_ble_eq_true h) (by rw [sizeLine_eq]; decide)
theorem szS {vs : Array Value} {n : Nat} (h : Nat.ble vs.size 64 = true) : sizeOk (.seq vs n) := szA h
theorem szF {vs : Array Value} (h : Nat.ble vs.size 64 = true) : sizeOk (.fields vs) := Nat.le_trans (szA h) (Nat.le_add_right _ _)
theorem iLe {a : Int} {n m : Nat} (h : a ≤ OfNat.ofNat n) (e : Nat.ble n m = true) : a ≤ OfNat.ofNat m := Int.le_trans h (litI e)
theorem iLt {a : Int} {n m : Nat} (h : a < OfNat.ofNat n) (e : Nat.ble n m = true) : a < OfNat.ofNat m := Int.lt_of_lt_of_le h (litI e)
theorem iLl {a : Int} {n m : Nat} (h : a ≤ OfNat.ofNat n) (e : Nat.ble (n + 1) m = true) : a < OfNat.ofNat m := Int.lt_of_le_of_lt h (Int.ofNat_lt.mpr (Nat.le_of_ble_eq_true e))
theorem iGe {a : Int} {n m : Nat} (h : OfNat.ofNat n ≤ a) (e : Nat.ble m n = true) : OfNat.ofNat m ≤ a := Int.le_trans (litI e) h
theorem nLe {a n m : Nat} (h : a ≤ OfNat.ofNat n) (e : Nat.ble n m = true) : a ≤ OfNat.ofNat m := Nat.le_trans h (Nat.le_of_ble_eq_true e)
theorem nLt {a n m : Nat} (h : a < OfNat.ofNat n) (e : Nat.ble n m = true) : a < OfNat.ofNat m := Nat.lt_of_lt_of_le h (Nat.le_of_ble_eq_true e)
theorem nLl {a n m : Nat} (h : a ≤ OfNat.ofNat n) (e : Nat.ble (n + 1) m = true) : a < OfNat.ofNat m := Nat.lt_of_le_of_lt h (Nat.le_of_ble_eq_true e)
noncomputable def LeaveR (h₀ : Heap) (L : Addr) (m : Str → Option Value) (g : Heap) (rest : List (Addr × Obj)) (R : Result → Shared → Prop) (v : Value) (s' : Shared) : Prop :=
  ∃ L' m' own', Fr g L' s'.heap m' ∧ News g L' s'.heap own' ∧ (Fr h₀ L s'.heap m → News h₀ L s'.heap (own' ++ rest) → (∀ p ∈ own', ∀ q ∈ rest, p.1 ≠ q.1) → R (.ok (.ret v)) s')
theorem leaveR_ {h₀ g : Heap} {L L' : Addr} {m m' : Str → Option Value} {own' rest : List (Addr × Obj)} {R : Result → Shared → Prop} {v : Value} {s' : Shared} (F' : Fr g L' s'.heap m') (N' : News g L' s'.heap own')
    (k : Fr h₀ L s'.heap m → News h₀ L s'.heap (own' ++ rest) → (∀ p ∈ own', ∀ q ∈ rest, p.1 ≠ q.1) → R (.ok (.ret v)) s') : LeaveR h₀ L m g rest R v s' := ⟨L', m', own', F', N', k⟩
section
variable {prog : Program} {w : World} {A₀ A : Around} {s : Shared} {base h₀ : Heap} {outer : List Env} {L : Addr} {m : Str → Option Value} {env : Env} {own rest : List (Addr × Obj)}
  {R : Result → Shared → Prop}
theorem groundR (B : Below A₀ base outer h₀) (F : Fr h₀ L s.heap m) (N : News h₀ L s.heap own) (Nr : News h₀ L s.heap rest) (hd : ∀ p ∈ own, ∀ q ∈ rest, p.1 ≠ q.1)
    (hA : A.frames = some (env :: outer)) (hf : env.frame = some L) (hke : env.scope.kind = .function) :
    Fr h₀ L (hideAll s.heap (own.map (·.1))) m ∧ Below A base (env :: outer) (hideAll s.heap (own.map (·.1))) ∧ h₀.StaysIn (hideAll s.heap (own.map (·.1))) ∧
      (∀ v s', LeaveR h₀ L m (hideAll s.heap (own.map (·.1))) rest R v s' → R (.ok (.ret v)) s') := by
  obtain ⟨FG, BG, st, _⟩ := groundX (R := R) B F N hA hf hke
  refine ⟨FG, BG, st, fun v s' hl => ?_⟩
  obtain ⟨L', m', own', F', N', k⟩ := hl
  obtain ⟨_, _, _, lv⟩ := groundX (R := fun _ s'' => s'' = s' → Fr h₀ L s'.heap m ∧ News h₀ L s'.heap own') B F N hA hf hke
  obtain ⟨F₁, N₁⟩ := lv v s' ⟨L', m', own', F', N', fun a b _ => ⟨a, b⟩⟩ rfl
  have hr : ∀ q ∈ rest, (hideAll s.heap (own.map (·.1))).get? q.1 = some q.2 := fun q hq => hideAll_get _ (Nr q hq).1 fun hm => by
    obtain ⟨p, hp, e⟩ := List.mem_map.mp hm
    exact hd p hp q hq e
  refine k F₁ (fun p hp => ?_) fun p hp q hq e => ?_
  · rcases List.mem_append.mp hp with hp | hp
    · exact N₁ p hp
    · exact ⟨F'.keep _ _ (hr p hp), (Nr p hp).2⟩
  · have h1 := (N' p hp).2.2
    rw [e, hr q hq] at h1; cases h1
end
section
variable {prog : Program} {w : World} {A₀ A : Around} {s : Shared} {base h₀ : Heap} {outer : List Env} {L : Addr} {m : Str → Option Value} {env : Env} {own rest : List (Addr × Obj)} {K : Frag}
  {p : Program} {loose : List Str} {mean : ExcName → Option Value} {mg mb : Str → Option Value}
  {R : Result → Shared → Prop} {name qual : Str} {params : Arguments} {body : List Stmt} {scope : Scope} {dV kV doc pm cdv ct oc : Value} {an od : Option Addr} {osl : Array (Option Value)} {f : Addr} {args : Args} {binds : List (Str × Value)}
theorem enterR0 (g : Heap) (L' : Addr) (hg : g = hideAll s.heap (own.map (·.1))) (hL' : L' = s.heap.objs.size) (B : Below A₀ base outer h₀) (F : Fr h₀ L s.heap m) (X₀ : K.In h₀) (N : News h₀ L s.heap own) (Nr : News h₀ L s.heap rest) (hdis : ∀ p ∈ own, ∀ q ∈ rest, p.1 ≠ q.1) (T : Top p loose mean mg mb h₀) (hA : A.frames = some (env :: outer)) (hf : env.frame = some L) (hke : env.scope.kind = .function)
    (ho : K.lookup f = some ⟨oc, od, .func (fnOf name qual params body scope dV kV doc pm an cdv ct), osl⟩) (hcd : codeIn K cdv qual = true) (hroom : A.depth < recursionLimit)
    (hbind : BindsTo s (fnOf name qual params body scope dV kV doc pm an cdv ct) args binds) (hloc : ∀ y ∈ binds, scope.names.lookup y.1 = some .local)
    (h : ∀ h₁, Fr h₀ L g m → Fr g L' h₁ (fun y => binds.reverse.lookup y) → News g L' h₁ own → Below A base (env :: outer) g → K.In g → Top p loose mean mg mb g → (∀ p ∈ own, p.1 < L') →
      wpAny (model prog w) (A.deeper (envX qual scope L' f cdv [])) (execs body (envX qual scope L' f cdv []))
        (fun fl s' => LeaveR h₀ L m g rest R (match fl with | .ret v => v | _ => .none) s')
        (fun e s' => wpAny (model prog w) (A.deeper (envX qual scope L' f cdv [])) (leaving (envX qual scope L' f cdv []) e) (fun _ s'' => R (.error e) s'') (fun e' s'' => R (.error e') s'') s')
        { s with heap := h₁, toks := s.toks + binds.length })
    (hcell : ∀ x ∈ scope.names, x.2 ≠ .cell) (hco : scope.isCoroutine = false := by rfl) (hgen : scope.isGenerator = false := by rfl) (hk : scope.kind = .function := by rfl) : codeAny (model prog w) A (.call (.ref f) args) R s := by
  subst hg hL'
  obtain ⟨FG, BG, st, lv⟩ := groundR (R := R) B F N Nr hdis hA hf hke
  refine codeAny_call_def (fd := fnOf name qual params body scope dV kV doc pm an cdv ct) (body := body) (binds := binds) hroom ((X₀.keeps F.keep) _ _ ho) rfl (T.nolimit.keeps F.keep) (codeRec_of (X₀.keeps F.keep) hcd) rfl hbind hcell hloc (fun h₁ hns hk₁ => ?_) hco hgen hk
  exact wpAny_mono (h h₁ FG ⟨hns, fun b o e => hk₁ b o (of_hideAll _ e), Nat.le_of_eq (hideAll_size _ _)⟩
    (fun p hp => ⟨hk₁ _ _ (N p hp).1, Nat.ne_of_lt (Heap.lt_size (N p hp).1), hideAll_none _ (List.mem_map_of_mem hp)⟩) BG (X₀.keeps st) (T.keeps st) (fun p hp => Heap.lt_size (N p hp).1)) (fun fl s' hl => lv _ _ hl) fun _ _ y => y
theorem enterR (B : Below A₀ base outer h₀) (F : Fr h₀ L s.heap m) (X₀ : K.In h₀) (N : News h₀ L s.heap own) (Nr : News h₀ L s.heap rest) (hdis : ∀ p ∈ own, ∀ q ∈ rest, p.1 ≠ q.1) (T : Top p loose mean mg mb h₀) (hA : A.frames = some (env :: outer)) (hf : env.frame = some L) (hke : env.scope.kind = .function)
    (ho : K.lookup f = some ⟨oc, od, .func (fnOf name qual params body scope dV kV doc pm an cdv ct), osl⟩) (hcd : codeIn K cdv qual = true) (hroom : A.depth < recursionLimit)
    (hbind : BindsTo s (fnOf name qual params body scope dV kV doc pm an cdv ct) args binds) (hloc : ∀ y ∈ binds, scope.names.lookup y.1 = some .local)
    (h : ∀ g L' h₁, Fr h₀ L g m → Fr g L' h₁ (fun y => binds.reverse.lookup y) → News g L' h₁ own → Below A base (env :: outer) g → K.In g → Top p loose mean mg mb g → (∀ p ∈ own, p.1 < L') →
      wpAny (model prog w) (A.deeper (envX qual scope L' f cdv [])) (execs body (envX qual scope L' f cdv []))
        (fun fl s' => LeaveR h₀ L m g rest R (match fl with | .ret v => v | _ => .none) s')
        (fun e s' => wpAny (model prog w) (A.deeper (envX qual scope L' f cdv [])) (leaving (envX qual scope L' f cdv []) e) (fun _ s'' => R (.error e) s'') (fun e' s'' => R (.error e') s'') s')
        { s with heap := h₁, toks := s.toks + binds.length })
    (hcell : ∀ x ∈ scope.names, x.2 ≠ .cell) (hco : scope.isCoroutine = false := by rfl) (hgen : scope.isGenerator = false := by rfl) (hk : scope.kind = .function := by rfl) : codeAny (model prog w) A (.call (.ref f) args) R s :=
  enterR0 _ _ rfl rfl B F X₀ N Nr hdis T hA hf hke ho hcd hroom hbind hloc (fun h₁ => h _ _ h₁) hcell hco hgen hk
theorem enterC0 (g : Heap) (L' : Addr) (hg : g = hideAll s.heap (own.map (·.1))) (hL' : L' = s.heap.objs.size) (B : Below A₀ base outer h₀) (F : Fr h₀ L s.heap m) (X₀ : K.In h₀) (N : News h₀ L s.heap own) (Nr : News h₀ L s.heap rest) (hdis : ∀ p ∈ own, ∀ q ∈ rest, p.1 ≠ q.1) (T : Top p loose mean mg mb h₀) (hA : A.frames = some (env :: outer)) (hf : env.frame = some L) (hke : env.scope.kind = .function)
    (ho : K.lookup f = some ⟨oc, od, .func (fnOf name qual params body scope dV kV doc pm an cdv ct), osl⟩) (hcd : codeIn K cdv qual = true) (hroom : A.depth < recursionLimit)
    (hbind : BindsTo s (fnOf name qual params body scope dV kV doc pm an cdv ct) args binds) (hkind : (binds.all fun y => scope.names.lookup y.1 == some .local || scope.names.lookup y.1 == some .cell) = true)
    (hnd : ((cellsFrom 0 scope.names []).map (·.1)).Nodup)
    (h : ∀ h₁ tk cells, Fr h₀ L g m → Fr g L' h₁ (bindL (envOfC qual scope L' f cdv).kindOf binds fun _ => none) → News g L' h₁ (cells ++ own) →
      CellsAre (bindC (envOfC qual scope L' f cdv).kindOf binds fun _ => none) (cellsFrom (L' + 1) scope.names []) cells → Below A base (env :: outer) g → K.In g → Top p loose mean mg mb g → (∀ p ∈ own, p.1 < L') →
      wpAny (model prog w) (A.deeper (envOfC qual scope L' f cdv)) (execs body (envOfC qual scope L' f cdv))
        (fun fl s' => LeaveR h₀ L m g rest R (match fl with | .ret v => v | _ => .none) s')
        (fun e s' => wpAny (model prog w) (A.deeper (envOfC qual scope L' f cdv)) (leaving (envOfC qual scope L' f cdv) e) (fun _ s'' => R (.error e) s'') (fun e' s'' => R (.error e') s'') s')
        { s with heap := h₁, toks := tk })
    (hco : scope.isCoroutine = false := by rfl) (hgen : scope.isGenerator = false := by rfl) (hk : scope.kind = .function := by rfl) : codeAny (model prog w) A (.call (.ref f) args) R s := by
  subst hg hL'
  obtain ⟨FG, BG, st, lv⟩ := groundR (R := R) B F N Nr hdis hA hf hke
  refine codeAny_call_function hroom ((X₀.keeps F.keep) _ _ ho) rfl hco hgen rfl (codeRec_of (X₀.keeps F.keep) hcd) (hbind _ _ _ _ ?_)
  refine wpAny_newFunctionEnv_cells hk (kindsX hkind _) fun env' he s' x => ?_
  subst he
  refine ⟨(T.nolimit.keeps F.keep).keeps x.toInCall.keep, codeAny_func ?_⟩
  obtain ⟨h₁, tk, rfl, _⟩ := x.done
  have hk₁ := x.toInCall.keep
  obtain ⟨cells, NC, Y⟩ := Cl.news (h₀ := s.heap) (Nat.le_refl _) fun n c hm => ⟨x.cell n c (lookup_of_mem_nodup (cellsFrom_names scope.names 0 (s.heap.objs.size + 1) [] [] rfl ▸ hnd) hm), x.above n c hm⟩
  refine wpAny_mono (h h₁ tk cells FG ⟨x.toInCall.ns, fun b o e => hk₁ b o (of_hideAll _ e), Nat.le_of_eq (hideAll_size _ _)⟩ (fun p hp => ?_) Y BG (X₀.keeps st) (T.keeps st) (fun p hp => Heap.lt_size (N p hp).1)) (fun fl s' hl => lv _ _ hl) fun _ _ y => y
  rcases List.mem_append.mp hp with hp | hp
  · refine ⟨(NC p hp).1, (NC p hp).2.1, ?_⟩
    cases q : (hideAll s.heap (own.map (·.1))).get? p.1 with
    | none => rfl
    | some o => have := of_hideAll _ q; rw [(NC p hp).2.2] at this; cases this
  · exact ⟨hk₁ _ _ (N p hp).1, Nat.ne_of_lt (Heap.lt_size (N p hp).1), hideAll_none _ (List.mem_map_of_mem hp)⟩
end
section
variable {prog : Program} {w : World} {A : Around} {R : Result → Shared → Prop} {s : Shared}
theorem cnCallFn {a : Addr} {args : Args} {o : Obj} {fd : FuncData} {body : List Stmt} (hroom : A.depth < recursionLimit) (ho : s.heap.get? a = some o)
    (hd' : o.data = .func fd) (hco : fd.scope.isCoroutine = false) (hgen : fd.scope.isGenerator = false) (hbody : fd.body = .stmts body) (hcd : s.heap.CodeRec fd.code fd.qualname)
    (h : wpAny (model prog w) A.in1 (bindArgs fd args) (fun binds s₁ =>
      wpAny (model prog w) A.in1 (newFunctionEnv fd.scope fd.globals fd.closure binds (fd.qualname ++ ".<locals>.") (some a) fd.code none fd.builtins)
        (fun env s₂ => s₂.heap.NoLimit ∧ codeN (model prog w) A (.func body env) R s₂) (fun e s' => R (.error e) s') s₁) (fun e s' => R (.error e) s') s) :
    codeN (model prog w) A (.call (.ref a) args) R s := by
  refine cnTree (nOf ?_)
  show wpAny _ A.in1 (callAny (.ref a) args) _ _ s
  simp only [callAny]
  refine wpAny_bind (wpAny_load ho ?_)
  obtain ⟨c, oc, vs, tq, hc, hoc, hdc, hq⟩ := hcd
  simp only [hd', callFunction, hco, hgen, hbody, hc]
  rw [hc] at h
  refine wpAny_bind (m := field (.ref c) 1) (wpAny_field hoc hdc hq (wpAny_bind (wpAny_pure ?_)))
  exact wpAny_bind (wpAny_mono h (fun binds s₁ h₁ => wpAny_bind (wpAny_mono h₁ (fun env s₂ h₂ => wpAny_bind (wpAny_enterFrame h₂.1 hroom
    (wpAny_pure ⟨rfl, rfl, h₂.2⟩))) fun _ _ h' => h')) fun _ _ h' => h')
theorem cnFunc {body : List Stmt} {env : Env}
    (h : wpN (model prog w) (A.deeper env) (execs body env) (fun f s' => R (.ok (.ret (match f with | .ret v => v | _ => .none))) s')
      (fun e s' => wpAny (model prog w) (A.deeper env) (leaving env e) (fun _ s'' => R (.error e) s'') (fun e' s'' => R (.error e') s'') s') s) :
    codeN (model prog w) A (.func body env) R s := by
  refine cnTree ?_
  show wpN _ (A.deeper env) (do point; match ← (execs body env).onRaise (leaving env) with | .ret v => ret v | _ => ret .none) _ _ s
  refine nBind (nOf (wpAny_point (nBind (nOnRaise (nMono h (fun f s' h' => ?_) fun _ _ h' => nOf h')))))
  cases f <;> exact nPure h'
end
section
variable {prog : Program} {w : World} {A₀ A : Around} {s : Shared} {base h₀ : Heap} {outer : List Env} {L : Addr} {m : Str → Option Value} {env : Env} {own rest : List (Addr × Obj)} {K : Frag}
  {p : Program} {loose : List Str} {mean : ExcName → Option Value} {mg mb : Str → Option Value}
  {R : Result → Shared → Prop} {name qual : Str} {params : Arguments} {body : List Stmt} {scope : Scope} {dV kV doc pm cdv ct oc : Value} {an od : Option Addr} {osl : Array (Option Value)} {f : Addr} {args : Args} {binds : List (Str × Value)}
theorem enterRN0 (g : Heap) (L' : Addr) (hg : g = hideAll s.heap (own.map (·.1))) (hL' : L' = s.heap.objs.size) (B : Below A₀ base outer h₀) (F : Fr h₀ L s.heap m) (X₀ : K.In h₀) (N : News h₀ L s.heap own) (Nr : News h₀ L s.heap rest) (hdis : ∀ p ∈ own, ∀ q ∈ rest, p.1 ≠ q.1) (T : Top p loose mean mg mb h₀) (hA : A.frames = some (env :: outer)) (hf : env.frame = some L) (hke : env.scope.kind = .function)
    (ho : K.lookup f = some ⟨oc, od, .func (fnOf name qual params body scope dV kV doc pm an cdv ct), osl⟩) (hcd : codeIn K cdv qual = true) (hroom : A.depth < recursionLimit)
    (hbind : BindsTo s (fnOf name qual params body scope dV kV doc pm an cdv ct) args binds) (hloc : ∀ y ∈ binds, scope.names.lookup y.1 = some .local)
    (h : ∀ h₁, Fr h₀ L g m → Fr g L' h₁ (fun y => binds.reverse.lookup y) → News g L' h₁ own → Below A base (env :: outer) g → K.In g → Top p loose mean mg mb g → (∀ p ∈ own, p.1 < L') →
      wpN (model prog w) (A.deeper (envX qual scope L' f cdv [])) (execs body (envX qual scope L' f cdv []))
        (fun fl s' => LeaveR h₀ L m g rest R (match fl with | .ret v => v | _ => .none) s')
        (fun e s' => wpAny (model prog w) (A.deeper (envX qual scope L' f cdv [])) (leaving (envX qual scope L' f cdv []) e) (fun _ s'' => R (.error e) s'') (fun e' s'' => R (.error e') s'') s')
        { s with heap := h₁, toks := s.toks + binds.length })
    (hcell : ∀ x ∈ scope.names, x.2 ≠ .cell) (hco : scope.isCoroutine = false := by rfl) (hgen : scope.isGenerator = false := by rfl) (hk : scope.kind = .function := by rfl) : codeN (model prog w) A (.call (.ref f) args) R s := by
  subst hg hL'
  obtain ⟨FG, BG, st, lv⟩ := groundR (R := R) B F N Nr hdis hA hf hke
  refine cnCallFn (fd := fnOf name qual params body scope dV kV doc pm an cdv ct) hroom ((X₀.keeps F.keep) _ _ ho) rfl hco hgen rfl (codeRec_of (X₀.keeps F.keep) hcd) (hbind _ _ _ _ ?_)
  refine wpAny_newFunctionEnv hcell hloc (fun h₁ hns hsb => ⟨(T.nolimit.keeps F.keep).fresh _ hsb, cnFunc ?_⟩) hk
  have hk₁ : ∀ b o, s.heap.get? b = some o → h₁.get? b = some o := fun b o e => hsb.extBut b o (Nat.ne_of_lt (Heap.lt_size e)) (Heap.get?_push_of_some _ e)
  exact nMono (h h₁ FG ⟨hns, fun b o e => hk₁ b o (of_hideAll _ e), Nat.le_of_eq (hideAll_size _ _)⟩
    (fun p hp => ⟨hk₁ _ _ (N p hp).1, Nat.ne_of_lt (Heap.lt_size (N p hp).1), hideAll_none _ (List.mem_map_of_mem hp)⟩) BG (X₀.keeps st) (T.keeps st) (fun p hp => Heap.lt_size (N p hp).1)) (fun fl s' hl => lv _ _ hl) fun _ _ y => y
end
structure Tele where
  mean : ExcName → Option Value
  mg : Str → Option Value
  mb : Str → Option Value
  dp : Nat
  un : Nat
  gd : Option (List Code)
  cn : Str
  cs : Scope
  fa : Addr
  ccd : Value
  cl : List (Str × Addr)
  outer : List Env
  A₀ : Around
  base : Heap
  h₀ : Heap
  L : Addr
  m : Str → Option Value
  rest : List (Addr × Obj)
  s : Shared
  Q : Value → Shared → Prop
  E : Value → Shared → Prop
theorem neTele : Nonempty Tele := ⟨⟨fun _ => none, fun _ => none, fun _ => none, 0, 0, none, default, default, 0, .none, [], [], callerA, default, default, 0, fun _ => none, [], (start PySem.Challenge.rw_nt0492_01.row.prog).1, fun _ _ => True, fun _ _ => True⟩⟩
noncomputable def SpecN (w : World) (f : Addr) (vs : List Value) (own : List (Addr × Obj)) (room : Nat) (R : Value → List (Addr × Obj) → Prop) : Prop :=
  ∀ (mean : ExcName → Option Value) (mg mb : Str → Option Value) (dp un : Nat) (gd : Option (List Code)) (cn : Str) (cs : Scope) (a : Addr) (ccd : Value) (cl : List (Str × Addr)) (outer : List Env) (A₀ : Around) (base h₀ : Heap) (L : Addr) (m : Str → Option Value) (rest : List (Addr × Obj)) (s : Shared) (Q E : Value → Shared → Prop),
    Below A₀ base outer h₀ → Fr h₀ L s.heap m → (Mine.hd.heap_39 w.params).In h₀ → News h₀ L s.heap own → News h₀ L s.heap rest → (∀ p ∈ own, ∀ q ∈ rest, p.1 ≠ q.1) →
    Top Mine.hd.view_39 (looseW Mine.hd.view_39 [Str.ofString "PostError"]) mean mg mb h₀ → cs.kind = .function → dp + room < recursionLimit → un + 8 * room < cLine →
    (∀ r own' h' tk', Fr h₀ L h' m → News h₀ L h' (own' ++ rest) → (∀ p ∈ own', ∀ q ∈ rest, p.1 ≠ q.1) → R r own' → Q r { s with heap := h', toks := tk' }) →
    wpN (model PySem.Challenge.rw_nt0492_01.row.prog w) (ktrTop dp un gd cn cs L a ccd cl outer) (call (.ref f) vs) Q E s
noncomputable def SpecNAt (w : World) (f : Addr) (vs : List Value) (own : List (Addr × Obj)) (room : Nat) (R : Value → List (Addr × Obj) → Prop) (t : Tele) : Prop :=
    Below t.A₀ t.base t.outer t.h₀ → Fr t.h₀ t.L t.s.heap t.m → (Mine.hd.heap_39 w.params).In t.h₀ → News t.h₀ t.L t.s.heap own → News t.h₀ t.L t.s.heap t.rest → (∀ p ∈ own, ∀ q ∈ t.rest, p.1 ≠ q.1) →
    Top Mine.hd.view_39 (looseW Mine.hd.view_39 [Str.ofString "PostError"]) t.mean t.mg t.mb t.h₀ → t.cs.kind = .function → t.dp + room < recursionLimit → t.un + 8 * room < cLine →
    (∀ r own' h' tk', Fr t.h₀ t.L h' t.m → News t.h₀ t.L h' (own' ++ t.rest) → (∀ p ∈ own', ∀ q ∈ t.rest, p.1 ≠ q.1) → R r own' → t.Q r { t.s with heap := h', toks := tk' }) →
    wpN (model PySem.Challenge.rw_nt0492_01.row.prog w) (ktrTop t.dp t.un t.gd t.cn t.cs t.L t.fa t.ccd t.cl t.outer) (call (.ref f) vs) t.Q t.E t.s
theorem SpecN.mk {w : World} {f : Addr} {vs : List Value} {own : List (Addr × Obj)} {room : Nat} {R : Value → List (Addr × Obj) → Prop} (h : ∀ t : Tele, SpecNAt w f vs own room R t) : SpecN w f vs own room R := fun mean mg mb dp un gd cn cs a ccd cl outer A₀ base h₀ L m rest s Q E => h ⟨mean, mg, mb, dp, un, gd, cn, cs, a, ccd, cl, outer, A₀, base, h₀, L, m, rest, s, Q, E⟩
noncomputable def Spec (w : World) (f : Addr) (vs : List Value) (own : List (Addr × Obj)) (room : Nat) (R : Value → List (Addr × Obj) → Prop) : Prop :=
  ∀ (mean : ExcName → Option Value) (mg mb : Str → Option Value) (dp un : Nat) (gd : Option (List Code)) (cn : Str) (cs : Scope) (a : Addr) (ccd : Value) (cl : List (Str × Addr)) (outer : List Env) (A₀ : Around) (base h₀ : Heap) (L : Addr) (m : Str → Option Value) (rest : List (Addr × Obj)) (s : Shared) (Q E : Value → Shared → Prop),
    Below A₀ base outer h₀ → Fr h₀ L s.heap m → (Mine.hd.heap_39 w.params).In h₀ → News h₀ L s.heap own → News h₀ L s.heap rest → (∀ p ∈ own, ∀ q ∈ rest, p.1 ≠ q.1) →
    Top Mine.hd.view_39 (looseW Mine.hd.view_39 [Str.ofString "PostError"]) mean mg mb h₀ → cs.kind = .function → dp + room < recursionLimit → un + 8 * room < cLine →
    (∀ r own' h' tk', Fr h₀ L h' m → News h₀ L h' (own' ++ rest) → (∀ p ∈ own', ∀ q ∈ rest, p.1 ≠ q.1) → R r own' → Q r { s with heap := h', toks := tk' }) →
    wpAny (model PySem.Challenge.rw_nt0492_01.row.prog w) (ktrTop dp un gd cn cs L a ccd cl outer) (call (.ref f) vs) Q E s
noncomputable def SpecAt (w : World) (f : Addr) (vs : List Value) (own : List (Addr × Obj)) (room : Nat) (R : Value → List (Addr × Obj) → Prop) (t : Tele) : Prop :=
    Below t.A₀ t.base t.outer t.h₀ → Fr t.h₀ t.L t.s.heap t.m → (Mine.hd.heap_39 w.params).In t.h₀ → News t.h₀ t.L t.s.heap own → News t.h₀ t.L t.s.heap t.rest → (∀ p ∈ own, ∀ q ∈ t.rest, p.1 ≠ q.1) →
    Top Mine.hd.view_39 (looseW Mine.hd.view_39 [Str.ofString "PostError"]) t.mean t.mg t.mb t.h₀ → t.cs.kind = .function → t.dp + room < recursionLimit → t.un + 8 * room < cLine →
    (∀ r own' h' tk', Fr t.h₀ t.L h' t.m → News t.h₀ t.L h' (own' ++ t.rest) → (∀ p ∈ own', ∀ q ∈ t.rest, p.1 ≠ q.1) → R r own' → t.Q r { t.s with heap := h', toks := tk' }) →
    wpAny (model PySem.Challenge.rw_nt0492_01.row.prog w) (ktrTop t.dp t.un t.gd t.cn t.cs t.L t.fa t.ccd t.cl t.outer) (call (.ref f) vs) t.Q t.E t.s
theorem Spec.mk {w : World} {f : Addr} {vs : List Value} {own : List (Addr × Obj)} {room : Nat} {R : Value → List (Addr × Obj) → Prop} (h : ∀ t : Tele, SpecAt w f vs own room R t) : Spec w f vs own room R := fun mean mg mb dp un gd cn cs a ccd cl outer A₀ base h₀ L m rest s Q E => h ⟨mean, mg, mb, dp, un, gd, cn, cs, a, ccd, cl, outer, A₀, base, h₀, L, m, rest, s, Q, E⟩
theorem news_sub {h₀ h : Heap} {L : Addr} {l l' : List (Addr × Obj)} (N : News h₀ L h l) (hs : ∀ p ∈ l', p ∈ l) : News h₀ L h l' := fun p hp => N p (hs p hp)
theorem Spec.use0 {w : World} {f : Addr} {vs : List Value} {room : Nat} {R : Value → List (Addr × Obj) → Prop} (C : Spec w f vs [] room R)
    {mean : ExcName → Option Value} {mg mb : Str → Option Value} {dp un : Nat} {gd : Option (List Code)} {cn : Str} {cs : Scope} {a : Addr} {ccd : Value} {cl : List (Str × Addr)} {outer : List Env} {A₀ : Around} {base h₀ : Heap} {L : Addr} {m : Str → Option Value} {news : List (Addr × Obj)} {s : Shared} {Q E : Value → Shared → Prop}
    (B : Below A₀ base outer h₀) (F : Fr h₀ L s.heap m) (X : (Mine.hd.heap_39 w.params).In h₀) (N : News h₀ L s.heap news)
    (T : Top Mine.hd.view_39 (looseW Mine.hd.view_39 [Str.ofString "PostError"]) mean mg mb h₀) (hk : cs.kind = .function) (hd : dp + room < recursionLimit) (hu : un + 8 * room < cLine)
    (h : ∀ r ret h' tk', R r ret → Fr h₀ L h' m → News h₀ L h' (ret ++ news) → (∀ p ∈ ret, ∀ q ∈ news, p.1 ≠ q.1) → Q r { s with heap := h', toks := tk' }) :
    wpAny (model PySem.Challenge.rw_nt0492_01.row.prog w) (ktrTop dp un gd cn cs L a ccd cl outer) (call (.ref f) vs) Q E s :=
  C mean mg mb dp un gd cn cs a ccd cl outer A₀ base h₀ L m news s Q E B F X News.nil N (fun _ hp => nomatch hp) T hk hd hu fun r own' h' tk' F' N' hdis hR => h r own' h' tk' hR F' N' hdis
theorem Spec.useP {w : World} {f : Addr} {vs : List Value} {own : List (Addr × Obj)} {room : Nat} {P : Value → List (Addr × Obj) → Prop} (C : Spec w f vs own room (fun r o => ∃ ret, o = ret ++ own ∧ (∀ p ∈ ret, ∀ q ∈ own, p.1 ≠ q.1) ∧ P r ret))
    {mean : ExcName → Option Value} {mg mb : Str → Option Value} {dp un : Nat} {gd : Option (List Code)} {cn : Str} {cs : Scope} {a : Addr} {ccd : Value} {cl : List (Str × Addr)} {outer : List Env} {A₀ : Around} {base h₀ : Heap} {L : Addr} {m : Str → Option Value} {news : List (Addr × Obj)} {s : Shared} {Q E : Value → Shared → Prop}
    (B : Below A₀ base outer h₀) (F : Fr h₀ L s.heap m) (X : (Mine.hd.heap_39 w.params).In h₀) (N : News h₀ L s.heap news) (hs : ∀ p ∈ own, p ∈ news)
    (T : Top Mine.hd.view_39 (looseW Mine.hd.view_39 [Str.ofString "PostError"]) mean mg mb h₀) (hk : cs.kind = .function) (hd : dp + room < recursionLimit) (hu : un + 8 * room < cLine)
    (h : ∀ r ret h' tk', P r ret → Fr h₀ L h' m → News h₀ L h' (ret ++ news) → (∀ p ∈ ret, ∀ q ∈ news, p.1 ≠ q.1) → Q r { s with heap := h', toks := tk' }) :
    wpAny (model PySem.Challenge.rw_nt0492_01.row.prog w) (ktrTop dp un gd cn cs L a ccd cl outer) (call (.ref f) vs) Q E s := by
  refine C mean mg mb dp un gd cn cs a ccd cl outer A₀ base h₀ L m (news.filter fun q => !(own.map (·.1)).contains q.1) s Q E B F X (news_sub N hs) (news_sub N fun p hp => (List.mem_filter.mp hp).1) (fun p hp q hq e => ?_) T hk hd hu fun r own' h' tk' F' N' hdis hR => ?_
  · have h1 := (List.mem_filter.mp hq).2
    have h2 : q.1 ∈ own.map (·.1) := e ▸ List.mem_map_of_mem hp
    simp [h2] at h1
  · obtain ⟨ret, rfl, hro, hP⟩ := hR
    have hall : ∀ q ∈ news, (∃ p ∈ own, p = q) ∨ q ∈ news.filter fun q => !(own.map (·.1)).contains q.1 := fun q hq => by
      by_cases hm : q.1 ∈ own.map (·.1)
      · obtain ⟨p, hp, e⟩ := List.mem_map.mp hm
        refine .inl ⟨p, hp, ?_⟩
        have h1 := (N p (hs p hp)).1
        have h2 := (N q hq).1
        rw [e, h2] at h1
        exact Prod.ext e (Option.some.inj h1).symm
      · exact .inr (List.mem_filter.mpr ⟨hq, by simpa using hm⟩)
    refine h r ret h' tk' hP F' (fun q hq => ?_) fun p hp q hq => ?_
    · rcases List.mem_append.mp hq with hq | hq
      · exact N' q (List.mem_append_left _ (List.mem_append_left _ hq))
      · rcases hall q hq with ⟨p, hp, rfl⟩ | hq'
        · exact N' p (List.mem_append_left _ (List.mem_append_right _ hp))
        · exact N' q (List.mem_append_right _ hq')
    · rcases hall q hq with ⟨p', hp', rfl⟩ | hq'
      · exact hro p hp p' hp'
      · exact hdis p (List.mem_append_left _ hp) q hq'
theorem fill : PySem.Challenge.rw_nt0492_01 = PySem.Challenge.rw_nt0492_01 ∧ (∀ P, Mine.hd.heap_39 P = Mine.hd.heap_39 P) := by
  k_fill
  exact ⟨rfl, fun _ => rfl⟩
end
section
namespace BA
open Builtin
noncomputable abbrev baOf (b : Array UInt8) : Obj := { cls := .type "bytearray", data := .bytearray b }
theorem slot_append : Slot "bytearray" "append" "bytearray.append" :=
  .of (owner := "bytearray") (n := "append") (by rw [typeLookup_type, builtinLookup_eq_fast]; kernel_rfl) (by decide +kernel) (by decide +kernel) (by decide +kernel)
    (by first | exact .inl (by decide +kernel) | exact .inr (by decide +kernel)) (by rw [isSubtype_type]; kernel_rfl)
theorem slot_extend : Slot "bytearray" "extend" "bytearray.extend" :=
  .of (owner := "bytearray") (n := "extend") (by rw [typeLookup_type, builtinLookup_eq_fast]; kernel_rfl) (by decide +kernel) (by decide +kernel) (by decide +kernel)
    (by first | exact .inl (by decide +kernel) | exact .inr (by decide +kernel)) (by rw [isSubtype_type]; kernel_rfl)
theorem slot_len : Slot "bytearray" "__len__" "bytearray.__len__" :=
  .of (owner := "bytearray") (n := "__len__") (by rw [typeLookup_type, builtinLookup_eq_fast]; kernel_rfl) (by decide +kernel) (by decide +kernel) (by decide +kernel)
    (by first | exact .inl (by decide +kernel) | exact .inr (by decide +kernel)) (by rw [isSubtype_type]; kernel_rfl)
theorem slot_getitem : Slot "bytearray" "__getitem__" "bytearray.__getitem__" :=
  .of (owner := "bytearray") (n := "__getitem__") (by rw [typeLookup_type, builtinLookup_eq_fast]; kernel_rfl) (by decide +kernel) (by decide +kernel) (by decide +kernel)
    (by first | exact .inl (by decide +kernel) | exact .inr (by decide +kernel)) (by rw [isSubtype_type]; kernel_rfl)
theorem slot_setitem : Slot "bytearray" "__setitem__" "bytearray.__setitem__" :=
  .of (owner := "bytearray") (n := "__setitem__") (by rw [typeLookup_type, builtinLookup_eq_fast]; kernel_rfl) (by decide +kernel) (by decide +kernel) (by decide +kernel)
    (by first | exact .inl (by decide +kernel) | exact .inr (by decide +kernel)) (by rw [isSubtype_type]; kernel_rfl)
theorem slot_init : Slot "bytearray" "__init__" "bytearray.__init__" :=
  .of (owner := "bytearray") (n := "__init__") (by rw [typeLookup_type, builtinLookup_eq_fast]; kernel_rfl) (by decide +kernel) (by decide +kernel) (by decide +kernel)
    (by first | exact .inl (by decide +kernel) | exact .inr (by decide +kernel)) (by rw [isSubtype_type]; kernel_rfl)
theorem entry_append : entryFor table "bytearray.append" = some Builtin.«bytearray.append» := entryFor_of_tree (by kernel_rfl)
theorem entry_extend : entryFor table "bytearray.extend" = some Builtin.«bytearray.extend» := entryFor_of_tree (by kernel_rfl)
theorem baEntryLen : entryFor table "bytearray.__len__" = some Builtin.«bytearray.__len__» := entryFor_of_tree (by kernel_rfl)
theorem entry_getitem : entryFor table "bytearray.__getitem__" = some Builtin.«bytearray.__getitem__» := entryFor_of_tree (by kernel_rfl)
theorem entry_setitem : entryFor table "bytearray.__setitem__" = some Builtin.«bytearray.__setitem__» := entryFor_of_tree (by kernel_rfl)
theorem entry_init : entryFor table "bytearray.__init__" = some Builtin.«bytearray.__init__» := entryFor_of_tree (by kernel_rfl)
theorem args_append (a b : Value) : argsOk "bytearray.append" ⟨[a, b], []⟩ := by unfold argsOk; kernel_rfl
theorem args_extend (a b : Value) : argsOk "bytearray.extend" ⟨[a, b], []⟩ := by unfold argsOk; kernel_rfl
theorem args_len (a : Value) : argsOk "bytearray.__len__" ⟨[a], []⟩ := by unfold argsOk; kernel_rfl
theorem args_getitem (a b : Value) : argsOk "bytearray.__getitem__" ⟨[a, b], []⟩ := by unfold argsOk; kernel_rfl
theorem args_setitem (a b c : Value) : argsOk "bytearray.__setitem__" ⟨[a, b, c], []⟩ := by unfold argsOk; kernel_rfl
theorem args_init0 (a : Value) : argsOk "bytearray.__init__" ⟨[a], []⟩ := by unfold argsOk; kernel_rfl
theorem args_init1 (a b : Value) : argsOk "bytearray.__init__" ⟨[a, b], []⟩ := by unfold argsOk; kernel_rfl
theorem getattribute : typeLookup (.type "bytearray") "__getattribute__" = pure (some (.builtin "bytearray.__getattribute__")) := by rw [typeLookup_type, builtinLookup_eq_fast]; kernel_rfl
theorem canon_getattribute : (Manifest.canonical "bytearray.__getattribute__" != "object.__getattribute__") = false := by decide +kernel
theorem getattr_none : typeLookup (.type "bytearray") "__getattr__" = pure none := by rw [typeLookup_type, builtinLookup_eq_fast]; kernel_rfl
theorem type_append : typeOf (.builtin "bytearray.append") = pure (.type "method_descriptor") := by show builtinType _ = _; rw [builtinType_eq_fast]; kernel_rfl
theorem type_extend : typeOf (.builtin "bytearray.extend") = pure (.type "method_descriptor") := by show builtinType _ = _; rw [builtinType_eq_fast]; kernel_rfl
theorem look_buffer : typeLookup (.type "bytearray") "__buffer__" = pure (some (.builtin "bytearray.__buffer__")) := by rw [typeLookup_type, builtinLookup_eq_fast]; kernel_rfl
theorem look_release : typeLookup (.type "bytearray") "__release_buffer__" = pure (some (.builtin "bytearray.__release_buffer__")) := by rw [typeLookup_type, builtinLookup_eq_fast]; kernel_rfl
theorem noBytes : typeLookup (.type "bytearray") "__bytes__" = pure none := by rw [typeLookup_type, builtinLookup_eq_fast]; kernel_rfl
theorem noIndex : typeLookup (.type "bytearray") "__index__" = pure none := by rw [typeLookup_type, builtinLookup_eq_fast]; kernel_rfl
theorem sub_self : isSubtype (.type "bytearray") (.type "bytearray") = pure true := by rw [isSubtype_type]; kernel_rfl
theorem mro : mroOf (.type "bytearray") = pure [.type "bytearray", .type "object"] := by rw [mroOf_type]; kernel_rfl
theorem lookup_new : typeLookup (.type "bytearray") "__new__" = pure (some (.builtin "bytearray.__new__")) := by rw [typeLookup_type, builtinLookup_eq_fast]; kernel_rfl
theorem called : TypeCalled "bytearray" "bytearray.__new__" "bytearray.__init__" :=
  ⟨by decide +kernel, by decide +kernel, ⟨_, _, mro⟩, madeBy_type mro lookup_new (by decide +kernel), by decide +kernel, by rw [isSubtype_type]; kernel_rfl, slot_init⟩
theorem typeCall0 : checkTypeCall "bytearray" ⟨[], []⟩ = pure () := by kernel_rfl
theorem typeCall1 (a : Value) : checkTypeCall "bytearray" ⟨[a], []⟩ = pure () := by kernel_rfl
theorem newCall0 : checkBuiltinCall "bytearray.__new__" ⟨[.type "bytearray"], []⟩ = pure () := by kernel_rfl
theorem newCall1 (a : Value) : checkBuiltinCall "bytearray.__new__" ⟨[.type "bytearray", a], []⟩ = pure () := by kernel_rfl
theorem plain_new : plainId "bytearray.__new__" = true := by decide +kernel
theorem entry_new : entryFor table "bytearray.__new__" = some Builtin.«list.__new__» := entryFor_alias (id' := "list.__new__") (by kernel_rfl) rfl (by decide +kernel) (by kernel_rfl)
end BA
end
section
namespace BA
open Builtin
section
variable {prog : Program} {w : World} {M : Model} {A : Around} {E : Value → Shared → Prop} {s : Shared} {a : Addr} {b : Array UInt8}
theorem typeIs (ho : s.heap.get? a = some (baOf b)) : s.TypeIs (.ref a) "bytearray" := ⟨_, ho, rfl⟩
theorem getMeth {name : Str} {id : String} {pl : Sem Bool} {Q : Value × List Value → Shared → Prop} (slot : Slot "bytearray" name id) (hty : typeOf (.builtin id) = pure (.type "method_descriptor"))
    (ho : s.heap.get? a = some (baOf b)) (h : Q (.builtin id, [.ref a]) s) : wpAny M A (getMethod (.ref a) name pl) Q E s := by
  unfold getMethod
  refine wpAny_bind (wpAny_specialOf (typeIs ho) getattribute ?_)
  show wpAny M A (if (Manifest.canonical "bytearray.__getattribute__" != "object.__getattribute__") = true then _ else _) Q E s
  rw [canon_getattribute, if_neg Bool.false_ne_true]
  refine wpAny_bind (wpAny_specialOf (typeIs ho) getattr_none ?_)
  refine wpAny_bind (wpAny_specialOf (typeIs ho) slot.lookup ?_)
  refine wpAny_bind (wpAny_of_eq hty ?_)
  refine wpAny_bind (wpAny_load ho ?_)
  exact wpAny_bind (wpAny_rule (wpAny_pure h))
theorem payload {Q : Array UInt8 → Shared → Prop} (ho : s.heap.get? a = some (baOf b)) (h : Q b s) : wpAny M A (Bytes.payload (.ref a)) Q E s := by
  unfold Bytes.payload Bytes.payload?
  exact wpAny_bind (wpAny_bind (wpAny_load ho (wpAny_pure (wpAny_pure h))))
theorem write {f : Array UInt8 → Array UInt8} {Q : Unit → Shared → Prop} (ho : s.heap.get? a = some (baOf b)) (hz : (f b).size ≤ sizeLine)
    (h : ∀ h', Heap.SameBut a s.heap h' → h'.get? a = some (baOf (f b)) → Q () { s with heap := h' }) : wpAny M A (Bytes.write (.ref a) f) Q E s := by
  show wpAny M A (updateBytearray a f) Q E s
  unfold updateBytearray
  refine wpAny_bind (wpAny_load ho ?_)
  show wpAny _ _ (update a (Obj.mapBytearray f) >>= fun _ => lookBehind a) _ _ _
  refine wpAny_bind (wpAny_update ho ?_)
  have h2 : (s.heap.update a (Obj.mapBytearray f)).get? a = some (baOf (f b)) := Heap.get?_update_self (Obj.mapBytearray f) ho rfl
  refine wpAny_lookBehind h2 ?_ (h _ (Heap.SameBut.update ..) h2)
  show (if (f b).size > sizeLine then some "bytearray:memory" else none) = none
  rw [if_neg (Nat.not_lt.mpr hz)]
theorem isInst (ho : s.heap.get? a = some (baOf b)) {Q : Bool → Shared → Prop} (h : Q true s) : wpAny M A (isInstance (.ref a) (.type "bytearray")) Q E s := wpAny_isInstance (typeIs ho) sub_self h
theorem ownBuffer (ho : s.heap.get? a = some (baOf b)) {Q : Bool → Shared → Prop} (h : Q true s) : wpAny M A (Bytes.slotIsOwn (.ref a) "__buffer__") Q E s := by
  have key : ∀ x : String, x = "bytearray" → wpAny M A (isInstance (.ref a) (.type x)) Q E s := fun x hx => by rw [hx]; exact isInst ho h
  unfold Bytes.slotIsOwn
  refine wpAny_bind (wpAny_specialOf (typeIs ho) look_buffer ?_)
  show wpAny M A (if (!("bytearray.__buffer__" : String).endsWith ("." ++ "__buffer__")) = true then _ else _) Q E s
  rw [if_neg (by decide +kernel)]
  exact key _ (by decide +kernel)
theorem ownRelease (ho : s.heap.get? a = some (baOf b)) {Q : Bool → Shared → Prop} (h : Q false s) : wpAny M A (Bytes.ownRelease (.ref a)) Q E s := by
  have key : ∀ (Q : Bool → Shared → Prop) (x : String), x = "bytearray" → Q true s → wpAny M A (isInstance (.ref a) (.type x)) Q E s := fun Q x hx hq => by rw [hx]; exact isInst ho hq
  unfold Bytes.ownRelease Bytes.slotIsOwn
  refine wpAny_bind (wpAny_bind (wpAny_specialOf (typeIs ho) look_release ?_))
  show wpAny M A (if (!("bytearray.__release_buffer__" : String).endsWith ("." ++ "__release_buffer__")) = true then _ else _) _ E s
  rw [if_neg (by decide +kernel)]
  exact key _ _ (by decide +kernel) (wpAny_pure h)
theorem buffer {id : String} {full : Bool} {Q : Option (Array UInt8) → Shared → Prop} (ho : s.heap.get? a = some (baOf b)) (h : Q (some b) s) : wpAny M A (Bytes.buffer? id (.ref a) full) Q E s := by
  unfold Bytes.buffer?
  refine wpAny_bind (wpAny_specialOf (typeIs ho) look_buffer ?_)
  refine wpAny_bind (ownBuffer ho ?_)
  show wpAny M A (if (!true) = true then _ else _) _ E s
  rw [if_neg (by decide)]
  refine wpAny_bind (wpAny_specialOf (typeIs ho) look_buffer ?_)
  refine wpAny_bind (ownRelease ho ?_)
  show wpAny M A (if false = true then _ else _) _ E s
  rw [if_neg (by decide)]
  exact wpAny_bind (payload ho (wpAny_pure h))
theorem len {Q : Value → Shared → Prop} (ho : s.heap.get? a = some (baOf b)) (hfit : b.size ≤ 1099511627776) (h : Q (.int b.size (s.toks + 1)) { s with toks := s.toks + 1 + 1 }) :
    wpAny (model prog w) A (call (.builtin "len") [.ref a]) Q E s := by
  refine call_function_entry kind_len plain_len entry_len (args_len1 _) ?_
  unfold Builtin.«len»
  refine wpAny_bind (m := oneArg "len" _) (wpAny_pure ?_)
  refine wpAny_bind (m := callSpecial? (.ref a) (Str.ofString "__len__")) (wpAny_callSpecial?_slot (name := Str.ofString "__len__") (typeIs ho) slot_len
    (wpAny_call_entry slot_len (typeIs ho) baEntryLen ?_ (args_len _)))
  show wpAny _ _ (Bytes.payload (.ref a) >>= fun x => retInt x.size) _ _ s
  refine wpAny_bind (payload ho (wpAny_bind (wpAny_mkInt (wpAny_pure ⟨_, rfl, ?_⟩))))
  show wpAny _ _ _ _ _ { s with toks := s.toks + 1 }
  refine wpAny_bind (wpAny_holding (wpAny_pure ?_))
  refine wpAny_bind (wpAny_letGo ?_)
  show wpAny _ _ (if (b.size : Int) < 0 then _ else _) _ _ _
  rw [if_neg (by lia)]
  show wpAny _ _ (if (b.size : Int) ≥ 2 ^ 63 then _ else _) _ _ _
  rw [if_neg (by lia)]
  exact wpAny_bind (wpAny_mkInt (wpAny_pure ⟨_, rfl, h⟩))
theorem subscript {i : Int} {t : Tok} {Q : Option Int → Shared → Prop} (h0 : 0 ≤ i) (h1 : i < 2 ^ 63) (h : Q (some i) s) : wpAny M A (Bytes.subscript? (.int i t)) Q E s := by
  unfold Bytes.subscript?
  refine wpAny_bind (wpAny_specialOf (typeIs_int s i t) F.slot_int_index.lookup ?_)
  show wpAny M A (if (!Bytes.fitsIndex i) = true then _ else pure (some i)) _ E s
  rw [if_neg (by simp only [Bytes.fitsIndex, Bool.not_eq_true', Bool.and_eq_false_iff, decide_eq_false_iff_not]; lia)]
  exact wpAny_pure h
theorem getItemBA {i : Int} {t : Tok} {c : UInt8} {Q : Value → Shared → Prop} (ho : s.heap.get? a = some (baOf b)) (h0 : 0 ≤ i) (h1 : i < 2 ^ 63) (hx : b[i.toNat]? = some c) (h : Q (.int (c.toNat : Int) s.toks) { s with toks := s.toks + 1 }) :
    wpAny (model prog w) A (getItem (.ref a) (.int i t)) Q E s := by
  refine wpAny_getItem_slot (typeIs ho) (by decide) slot_getitem (wpAny_call_entry slot_getitem (typeIs ho) entry_getitem ?_ (args_getitem _ _))
  show wpAny _ _ (Bytes.subscript? (.int i t) >>= _) _ _ s
  refine wpAny_bind (subscript h0 h1 ?_)
  show wpAny _ _ (Bytes.payload (.ref a) >>= _) _ _ s
  refine wpAny_bind (payload ho ?_)
  have hlt : i.toNat < b.size := by
    have := Array.getElem?_eq_some_iff.mp hx
    exact this.1
  have e : (seqIndex? i b.size).bind (b[·]?) = some c := by
    have hn : ¬ i < 0 := by lia
    have e2 : seqIndex? i b.size = some i.toNat := by simp [seqIndex?, hn, h0]; lia
    rw [e2]; exact hx
  show wpAny _ _ (match (seqIndex? i b.size).bind (b[·]?) with | some x => retInt x.toNat | none => _) _ _ s
  rw [e]
  exact wpAny_bind (wpAny_mkInt (wpAny_pure ⟨_, rfl, h⟩))
theorem byteVal {i : Int} {t : Tok} {Q : UInt8 → Shared → Prop} (h0 : 0 ≤ i) (h1 : i < 256) (h : Q i.toNat.toUInt8 s) : wpAny M A (Bytes.byteValue (.int i t)) Q E s := by
  unfold Bytes.byteValue
  refine wpAny_bind (wpAny_of_eq (rfl : asIndex (.int i t) = pure i) ?_)
  show wpAny M A (if (decide (i < 0) || decide (i ≥ 256)) = true then _ else _) _ E s
  rw [if_neg (by simp only [Bool.or_eq_true, decide_eq_true_eq]; lia)]
  exact wpAny_pure h
theorem setItemBA {i x : Int} {t u : Tok} {Q : Unit → Shared → Prop} (ho : s.heap.get? a = some (baOf b)) (h0 : 0 ≤ i) (h1 : i < b.size) (hz : b.size ≤ sizeLine) (x0 : 0 ≤ x) (x1 : x < 256)
    (h : ∀ h', Heap.SameBut a s.heap h' → h'.get? a = some (baOf (b.setIfInBounds i.toNat x.toNat.toUInt8)) → Q () { s with heap := h' }) :
    wpAny (model prog w) A (setItem (.ref a) (.int i t) (.int x u)) Q E s := by
  have hz' : b.size ≤ 2 ^ 24 := hz
  unfold setItem
  refine wpAny_holding ?_
  refine wpAny_bind (wpAny_sequenceKey (typeIs ho) (by decide) ?_)
  refine wpAny_bind (wpAny_callSpecial?_slot (name := Str.ofString "__setitem__") (typeIs ho) slot_setitem
    (wpAny_call_entry slot_setitem (typeIs ho) entry_setitem ?_ (args_setitem _ _ _)))
  show wpAny _ _ (Bytes.subscript? (.int i t) >>= _) _ _ s
  refine wpAny_bind (subscript h0 (by lia) ?_)
  show wpAny _ _ (Bytes.byteValue (.int x u) >>= _) _ _ s
  refine wpAny_bind (byteVal x0 x1 ?_)
  refine wpAny_bind (payload ho ?_)
  have e : seqIndex? i b.size = some i.toNat := by
    have hn : ¬ i < 0 := by lia
    simp [seqIndex?, hn, h0]; lia
  show wpAny _ _ (match seqIndex? i b.size with | some k => (do Bytes.write (.ref a) (·.setIfInBounds k x.toNat.toUInt8); ret .none) | none => _) _ _ s
  rw [e]
  exact wpAny_bind (write (f := (·.setIfInBounds i.toNat x.toNat.toUInt8)) ho (by rw [Array.size_setIfInBounds]; exact hz) fun h' hs hg => wpAny_pure ⟨_, rfl, wpAny_pure (h h' hs hg)⟩)
theorem bytesNew {Q : Value → Shared → Prop} (ho : s.heap.get? a = some (baOf b)) (hz : b.size ≤ sizeLine) (hQ : ∀ t k, Q (.bytes b t) { s with toks := k }) :
    codeAny (model prog w) A (.call (.builtin "bytes.__new__") ⟨[.type "bytes", .ref a], []⟩) (wants Q E) s := by
  refine codeAny_of_tree ?_
  show wpAny _ A.in1 (do checkBuiltinCall "bytes.__new__" ⟨[.type "bytes", .ref a], []⟩; again (.builtin "bytes.__new__" ⟨[.type "bytes", .ref a], []⟩)) _ _ s
  refine wpAny_bind (wpAny_of_eq (F.bm_newCall _) (wpAny_pure ⟨plainId_quiet F.bm_plain _, codeAny_builtin F.bm_entry ?_⟩))
  rw [Around.under_plainId F.bm_plain _]
  have hT := typeIs ho
  unfold Builtin.«bytes.__new__»
  refine wpAny_bind (wpAny_of_eq (a := true) rfl ?_)
  refine bm_if_false rfl ?_
  refine wpAny_bind (wpAny_of_eq F.bm_sub ?_)
  refine bm_if_false rfl ?_
  refine wpAny_bind (wpAny_of_eq (F.bm_bind _) ?_)
  refine wpAny_bind (wpAny_of_eq (a := ()) rfl ?_)
  refine wpAny_bind (wpAny_of_eq (a := ()) rfl ?_)
  refine bm_if_false rfl ?_
  refine wpAny_bind (wpAny_specialOf hT noBytes ?_)
  refine wpAny_bind (wpAny_bind ?_)
  show wpAny _ _ (load a >>= _) _ _ _
  refine wpAny_bind (wpAny_load ho ?_)
  refine wpAny_pure (wpAny_pure ?_)
  refine bm_if_false rfl ?_
  refine wpAny_bind (wpAny_specialOf hT noIndex ?_)
  refine bm_if_true rfl ?_
  refine wpAny_bind (buffer ho ?_)
  refine wpAny_bind (wpAny_rule ?_)
  refine wpAny_bind (wpAny_mkBytes ?_ hz)
  show wpAny _ _ (if (Value.type "bytes" == Value.type "bytes") = true then _ else _) _ _ _
  refine bm_if_true (by decide) ?_
  first | exact wpAny_pure (hQ _ _) | exact wpAny_bind (wpAny_pure (wpAny_pure (hQ _ _)))
theorem toBytes {Q : Value → Shared → Prop} (ho : s.heap.get? a = some (baOf b)) (hz : b.size ≤ sizeLine) (hQ : ∀ t k, Q (.bytes b t) { s with toks := k }) :
    wpAny (model prog w) A (call (.type "bytes") [.ref a]) Q E s := by
  refine callType_codes (Q₁ := fun obj s₁ => s₁.TypeIs obj "bytes" ∧ Q obj s₁) F.bm_called (F.bm_typeCall _) F.entry_object_init
    (bytesNew ho hz fun t k => ⟨PySem.W.typeIs_bytes _ _ _, hQ t k⟩) fun obj s₁ h₁ => ?_
  exact ⟨h₁.1, F.args_object_init_2 obj _, object_init_meets F.bm_called.init.lookup F.bm_called.made (by decide) prog w A.in1 _ s₁ ⟨h₁.1, rfl, h₁.2⟩⟩
end
end BA
end
section
namespace BA
open Builtin
section
variable {prog : Program} {w : World} {M : Model} {A : Around} {E : Value → Shared → Prop} {s : Shared} {a : Addr} {b : Array UInt8}
theorem nIfT {α : Type} {c : Bool} {x y : Sem α} {Q : α → Shared → Prop} (hc : c = true) (h : wpN M A x Q E s) : wpN M A (if c = true then x else y) Q E s := by
  subst hc; exact h
theorem nIfF {α : Type} {c : Bool} {x y : Sem α} {Q : α → Shared → Prop} (hc : c = false) (h : wpN M A y Q E s) : wpN M A (if c = true then x else y) Q E s := by
  subst hc; exact h
theorem nPos {α : Type} {c : Prop} [Decidable c] {x y : Sem α} {Q : α → Shared → Prop} (hc : c) (h : wpN M A x Q E s) : wpN M A (if c then x else y) Q E s := by
  rw [if_pos hc]; exact h
theorem nNeg {α : Type} {c : Prop} [Decidable c] {x y : Sem α} {Q : α → Shared → Prop} (hc : ¬ c) (h : wpN M A y Q E s) : wpN M A (if c then x else y) Q E s := by
  rw [if_neg hc]; exact h
theorem exportedN {Q : Bool → Shared → Prop} (h : Q false s) : wpN M A (Bytes.exported (.ref a)) Q E s := by
  unfold Bytes.exported
  refine nStackAny (fun c p hc => ?_) h
  cases c with
  | builtin id as =>
    have hn : holdIds.contains id = false := by simpa [offC] using hc
    have hm : ∀ x, x ∈ holdIds → id ≠ x := fun x hx e => by
      rw [e] at hn
      have : holdIds.contains x = true := List.contains_iff_mem.mpr hx
      rw [this] at hn; cases hn
    have hd : Bytes.decodersThatHold.contains id = false := by
      cases q : Bytes.decodersThatHold.contains id with
      | false => rfl
      | true => exact absurd rfl (hm id (List.mem_append_left _ (List.contains_iff_mem.mp q)))
    have n1 := hm "bytearray.__contains__" (by decide +kernel)
    have n2 := hm "bytearray.__mod__" (by decide +kernel)
    have n3 := hm "bytearray.__rmod__" (by decide +kernel)
    have n4 := hm "_struct.pack_into.held" (by decide +kernel)
    have n5 := hm "bytearray.find.held" (by decide +kernel)
    delta PySem.Builtin.Bytes.exported.match_1
    dsimp only
    delta PySem.Builtin.Bytes.exported._sparseCasesOn_1
    dsimp only
    refine (dif_neg n1).trans ?_
    refine (dif_neg n2).trans ?_
    refine (dif_neg n3).trans ?_
    refine (dif_neg n4).trans ?_
    refine (dif_neg n5).trans ?_
    obtain ⟨pos, kw⟩ := as
    cases pos with
    | nil => rfl
    | cons x xs => exact (congrArg (Bytes.sameRef x (.ref a) && ·) hd).trans (Bool.and_false _)
  | _ => rfl
theorem exportsOf {n : Nat} {Q : Nat → Shared → Prop} (ho : s.heap.get? a = some { cls := .type "bytearray", data := .bytearray b n }) (h : Q n s) : wpAny M A (Bytes.exportsOf (.ref a)) Q E s := by
  unfold Bytes.exportsOf
  exact wpAny_bind (wpAny_load ho (wpAny_pure h))
theorem askedN {Q : Bool → Shared → Prop} (ho : s.heap.get? a = some (baOf b)) (h : Q false s) : wpN M A (Bytes.exported (.ref a) <||> (do return (← Bytes.exportsOf (.ref a)) > 0)) Q E s := by
  unfold orM
  refine nBind (exportedN ?_)
  exact nBind (nOf (exportsOf ho (nPure h)))
theorem resizeN {Q : Unit → Shared → Prop} (ho : s.heap.get? a = some (baOf b)) (h : Q () s) : wpN M A (Bytes.checkResize (.ref a)) Q E s := by
  unfold Bytes.checkResize
  refine nBind (askedN ho ?_)
  show wpN M A (if false = true then _ else _) Q E s
  rw [if_neg (by decide)]
  exact nPure h
theorem cnBuiltin {id : String} {args : Args} {B : Builtin} {R : Result → Shared → Prop} (hb : entryFor table id = some B)
    (h : wpN (model prog w) (A.under (.builtin id args)) (B args) (FinN (model prog w) A R) (fun e s' => R (.error e) s') s) : codeN (model prog w) A (.builtin id args) R s := by
  refine cnTree ?_
  show wpN _ _ (match entryFor table id with | some b => b args | none => unsupported ((withoutEnding? id "#data").getD id)) _ _ s
  rw [hb]; exact h
theorem nCallEntry {T : String} {name : Str} {id : String} {B : Builtin} {self : Value} {rest : List Value} {Q : Value → Shared → Prop} (slot : Slot T name id) (hT : s.TypeIs self T) (entry : entryFor table id = some B) (ho : holdIds.contains id = false)
    (hc : wpN (model prog w) A.in1 (B ⟨self :: rest, []⟩) (fun fin s' => ∃ v, fin = .done (.ret v) ∧ Q v s') E s) (ha : argsOk id ⟨self :: rest, []⟩) :
    wpN (model prog w) A (call (.builtin id) (self :: rest)) Q E s := by
  have hoff : offC (.builtin id ⟨self :: rest, []⟩) = true := by simp only [offC, ho]; rfl
  refine nCall (cnTree (nOf ?_))
  show wpAny _ A.in1 (do checkBuiltinCall id ⟨self :: rest, []⟩; again (.builtin id ⟨self :: rest, []⟩)) _ _ s
  refine wpAny_bind (slot.check _ _ _ _ _ _ _ _ hT ha (wpAny_pure ⟨plainId_quiet slot.plain _, hoff, cnBuiltin entry ?_⟩))
  rw [Around.under_plainId slot.plain]
  refine nMono hc (fun fin s' h' => ?_) fun _ _ h' => h'
  obtain ⟨v, rfl, hv⟩ := h'; exact hv
theorem appendN {x : Int} {t : Tok} {Q : Value → Shared → Prop} (ho : s.heap.get? a = some (baOf b)) (hz : b.size < sizeLine) (x0 : 0 ≤ x) (x1 : x < 256)
    (h : ∀ h', Heap.SameBut a s.heap h' → h'.get? a = some (baOf (b.push x.toNat.toUInt8)) → Q .none { s with heap := h' }) :
    wpN (model prog w) A (call (.builtin "bytearray.append") [.ref a, .int x t]) Q E s := by
  refine nCallEntry slot_append (typeIs ho) entry_append (by decide +kernel) ?_ (args_append _ _)
  unfold Builtin.«bytearray.append»
  refine nBind (nOf (wpAny_of_eq (a := (Value.ref a, Value.int x t)) rfl ?_))
  refine nBind (nOf (byteVal x0 x1 ?_))
  refine nBind (resizeN ho ?_)
  refine nBind (nOf (write (f := (·.push x.toNat.toUInt8)) ho (by rw [Array.size_push]; exact hz) fun h' hs hg => ?_))
  exact nPure ⟨_, rfl, h h' hs hg⟩
theorem takeQuiet {id : String} {c : Array UInt8} {u : Tok} {Q : Option (Array UInt8 × Option Value) → Shared → Prop} (h : Q (some (c, none)) s) : wpAny M A (Bytes.takeBufferQuiet? id (.bytes c u) 0) Q E s := by
  unfold Bytes.takeBufferQuiet? Bytes.takeBuffer?
  refine wpAny_bind (wpAny_attempt ?_)
  refine wpAny_bind (wpAny_of_eq (KBy.special_eq KBy.look_buffer) ?_)
  refine wpAny_bind (wpAny_of_eq KBy.own_buffer ?_)
  show wpAny M A (if (!true) = true then _ else _) _ _ s
  rw [if_neg (by decide)]
  refine wpAny_bind (wpAny_of_eq (KBy.special_eq KBy.look_buffer) ?_)
  show wpAny M A (Bytes.buffer? id (.bytes c u) _ >>= _) _ _ s
  refine wpAny_bind ?_
  unfold Bytes.buffer?
  refine wpAny_bind (wpAny_of_eq (KBy.special_eq KBy.look_buffer) ?_)
  refine wpAny_bind (wpAny_of_eq KBy.own_buffer ?_)
  show wpAny M A (if (!true) = true then _ else _) _ _ s
  rw [if_neg (by decide)]
  refine wpAny_bind (wpAny_of_eq (KBy.special_eq KBy.look_buffer) ?_)
  refine wpAny_bind (wpAny_of_eq KBy.own_release ?_)
  show wpAny M A (if false = true then _ else _) _ _ s
  rw [if_neg (by decide)]
  exact wpAny_bind (wpAny_pure (wpAny_pure (wpAny_pure (wpAny_pure h))))
theorem extendN {c : Array UInt8} {u : Tok} {Q : Value → Shared → Prop} (ho : s.heap.get? a = some (baOf b)) (hz : (b ++ c).size ≤ sizeLine)
    (h : ∀ h', Heap.SameBut a s.heap h' → h'.get? a = some (baOf (b ++ c)) → Q .none { s with heap := h' }) :
    wpN (model prog w) A (call (.builtin "bytearray.extend") [.ref a, .bytes c u]) Q E s := by
  refine nCallEntry slot_extend (typeIs ho) entry_extend (by decide +kernel) ?_ (args_extend _ _)
  unfold Builtin.«bytearray.extend»
  refine nBind (nOf (wpAny_of_eq (a := (Value.ref a, Value.bytes c u)) rfl ?_))
  refine nBind (nOf (wpAny_of_eq (KBy.special_eq KBy.look_buffer) ?_))
  refine nIfT rfl ?_
  refine nBind (nOf (wpAny_rule ?_))
  refine nBind (nOf (payload ho ?_))
  refine nBind (nOf (takeQuiet ?_))
  refine nIfT rfl ?_
  have fin : wpN (model prog w) A.in1 (do Bytes.write (.ref a) (· ++ c); ret .none) (fun fin s' => ∃ v, fin = .done (.ret v) ∧ Q v s') E s :=
    nBind (nOf (write (f := (· ++ c)) ho hz fun h' hs hg => nPure ⟨_, rfl, h h' hs hg⟩))
  by_cases hc : (!c.isEmpty) = true
  · first
      | exact nIfT hc (nBind (resizeN ho fin))
      | (show wpN _ _ (if (!c.isEmpty) = true then _ else _) _ _ s; exact nIfT hc (nBind (resizeN ho fin)))
  · first
      | exact nIfF (by simpa using hc) fin
      | (show wpN _ _ (if (!c.isEmpty) = true then _ else _) _ _ s; exact nIfF (by simpa using hc) fin)
end
end BA
end
section
namespace BA
open Builtin
set_option maxHeartbeats 4000000 in
theorem owner : ("bytearray.__new__".splitOn ".__new__").headD "" = "bytearray" := by simp +decide [String.splitOn, String.splitOnAux]
section
variable {prog : Program} {w : World} {M : Model} {A : Around} {E : Value → Shared → Prop} {s : Shared} {a : Addr} {b : Array UInt8}
theorem codeNew {args : List Value} {Q₁ : Value → Shared → Prop} (hc : checkBuiltinCall "bytearray.__new__" ⟨.type "bytearray" :: args, []⟩ = pure ())
    (h : Q₁ (.ref s.heap.objs.size) { s with heap := s.heap.push (baOf #[]) }) :
    codeAny (model prog w) A (.call (.builtin "bytearray.__new__") ⟨.type "bytearray" :: args, []⟩) (wants Q₁ E) s := by
  refine codeAny_of_tree ?_
  show wpAny _ A.in1 (do checkBuiltinCall "bytearray.__new__" ⟨.type "bytearray" :: args, []⟩; again (.builtin "bytearray.__new__" ⟨.type "bytearray" :: args, []⟩)) _ _ s
  refine wpAny_bind (wpAny_of_eq hc (wpAny_pure ⟨plainId_quiet plain_new _, codeAny_builtin_stack entry_new rfl fun p st => ?_⟩))
  rw [Around.under_plainId plain_new _]
  have hsub := sub_self
  have hown := owner
  obtain ⟨hp, g, d, tk, os⟩ := s
  simp only [hown]
  wp_walk
  exact h
theorem nTypeCall {T newId initId : String} {Bi : Builtin} {args : List Value} {Q Q₁ : Value → Shared → Prop} (ft : TypeCalled T newId initId)
    (hct : checkTypeCall T ⟨args, []⟩ = pure ()) (entryI : entryFor table initId = some Bi) (hni : holdIds.contains initId = false)
    (hnew : codeAny (model prog w) A.in1 (.call (.builtin newId) ⟨.type T :: args, []⟩) (wants Q₁ E) s)
    (hnext : ∀ obj s₁, Q₁ obj s₁ → s₁.TypeIs obj T ∧ argsOk initId ⟨obj :: args, []⟩ ∧
      wpN (model prog w) A.in1.in1 (Bi ⟨obj :: args, []⟩) (fun fin s' => ∃ v, fin = .done (.ret v) ∧ v = .none ∧ Q obj s') E s₁) :
    wpN (model prog w) A (call (.type T) args) Q E s := by
  obtain ⟨c, tl, hmro⟩ := ft.mro
  refine nCall (cnTree (nOf ?_))
  show wpAny _ _ (callAny (.type T) _) _ _ _
  refine wpAny_pure ⟨Code.quiet_builtin _ (by decide +kernel), by show (!holdIds.contains "type.__call__") = true; decide +kernel, cnBuiltin F.entry_type_call ?_⟩
  rw [Around.under_plain (weight_type_call_type T args []) rfl]
  unfold Builtin.«type.__call__»
  refine nIfF ft.notType ?_
  refine nIfF ft.canCreate ?_
  refine nBind (nOf (wpAny_of_eq hct ?_))
  refine nBind (nOf (wpAny_of_eq hmro ?_))
  refine nIfF rfl ?_
  refine nBind (nOf (wpAny_of_eq ft.made ?_))
  refine nBind (nPure ?_)
  refine nBind (nHolding (nOf (wpAny_call (codeAny_mono hnew fun r s₁ hr => ?_))))
  cases r with
  | error e => exact hr
  | ok fl =>
    cases fl with
    | ret obj =>
      obtain ⟨hT, hok, hi⟩ := hnext _ _ hr
      refine nBind (nOf (wpAny_isInstance hT ft.sub ?_))
      refine nIfF rfl ?_
      refine nBind (nHolding ?_)
      simp only [callSpecial?]
      refine nBind (nOf (wpAny_specialOf hT ft.init.lookup ?_))
      simp only [ft.init.bind]
      refine nHolding (nBind (nPure (nBind (nMono (nCallEntry ft.init hT entryI hni (Q := fun v s' => v = .none ∧ Q obj s') hi hok) (fun v s' h' => ?_) fun _ _ e => e))))
      obtain ⟨rfl, hq⟩ := h'
      refine nPure ?_
      refine nIfF rfl ?_
      exact nPure hq
    | _ => exact hr.elim
theorem bind0 : Bytes.bindOptional "bytearray.__init__" "bytearray" ["source", "encoding", "errors"] [] [] = pure [none, none, none] := by kernel_rfl
theorem bind1 (v : Value) : Bytes.bindOptional "bytearray.__init__" "bytearray" ["source", "encoding", "errors"] [v] [] = pure [some v, none, none] := by kernel_rfl
theorem init0N {Q : Value → Shared → Prop} (ho : s.heap.get? a = some (baOf #[])) (h : ∀ h', Heap.SameBut a s.heap h' → h'.get? a = some (baOf #[]) → Q .none { s with heap := h' }) :
    wpN (model prog w) A (Builtin.«bytearray.__init__» ⟨[.ref a], []⟩) (fun fin s' => ∃ v, fin = .done (.ret v) ∧ v = .none ∧ Q v s') E s := by
  unfold Builtin.«bytearray.__init__»
  refine nBind (nOf (ownRelease ho ?_))
  refine nIfF rfl ?_
  refine nBind (nOf (wpAny_of_eq bind0 ?_))
  refine nBind (nOf (wpAny_of_eq (a := ()) rfl ?_))
  refine nBind (nOf (wpAny_of_eq (a := ()) rfl ?_))
  refine nBind (askedN ho ?_)
  refine nIfF rfl ?_
  refine nBind (nOf (write (f := fun _ => #[]) ho (Nat.zero_le _) fun h' hs hg => ?_))
  first
    | exact nPure ⟨_, rfl, rfl, h h' hs hg⟩
    | exact nBind (nPure (nPure ⟨_, rfl, rfl, h h' hs hg⟩))
    | (refine nIfF rfl ?_; refine nIfF rfl ?_; exact nPure ⟨_, rfl, rfl, h h' hs hg⟩)
theorem init1N {n : Int} {t : Tok} {Q : Value → Shared → Prop} (ho : s.heap.get? a = some (baOf #[])) (h0 : 0 ≤ n) (h1 : n.toNat ≤ sizeLine)
    (h : ∀ h', Heap.SameBut a s.heap h' → h'.get? a = some (baOf (Array.replicate n.toNat 0)) → Q .none { s with heap := h' }) :
    wpN (model prog w) A (Builtin.«bytearray.__init__» ⟨[.ref a, .int n t], []⟩) (fun fin s' => ∃ v, fin = .done (.ret v) ∧ v = .none ∧ Q v s') E s := by
  have h1' : n.toNat ≤ 2 ^ 24 := h1
  unfold Builtin.«bytearray.__init__»
  refine nBind (nOf (ownRelease ho ?_))
  refine nIfF rfl ?_
  refine nBind (nOf (wpAny_of_eq (bind1 _) ?_))
  refine nBind (nOf (wpAny_of_eq (a := ()) rfl ?_))
  refine nBind (nOf (wpAny_of_eq (a := ()) rfl ?_))
  refine nBind (askedN ho ?_)
  refine nIfF rfl ?_
  refine nBind (nOf (write (f := fun _ => #[]) ho (Nat.zero_le _) fun h' hs hg => ?_))
  refine nBind (nOf (wpAny_of_eq (a := none) rfl ?_))
  refine nIfF rfl ?_
  refine nBind (nOf (wpAny_of_eq (a := ()) rfl ?_))
  refine nBind (nOf (wpAny_specialOf (typeIs_int _ n t) F.slot_int_index.lookup ?_))
  refine nIfT rfl ?_
  refine nBind (nOf (wpAny_of_eq (a := Except.ok n) rfl ?_))
  refine nIfF (by simp only [Bytes.fitsIndex, Bool.not_eq_false', Bool.and_eq_true, decide_eq_true_eq]; lia) ?_
  refine nNeg (c := n < 0) (by lia) ?_
  refine nIfF (beq_eq_false_iff_ne.mpr (show n ≠ 2 ^ 63 - 1 by lia)) ?_
  refine nIfF (KBy.tooLong_not (n := n.toNat) (by lia)) ?_
  refine nBind (nOf (wpAny_rule ?_))
  have fin : ∀ s₁ : Shared, s₁.heap.get? a = some (baOf (Array.replicate n.toNat 0)) → Heap.SameBut a s.heap s₁.heap → s₁ = { s with heap := s₁.heap } → Q .none s₁ := fun s₁ e1 e2 e3 => by rw [e3]; exact h _ e2 e1
  by_cases hp : n > 0
  · refine nPos hp ?_
    refine nBind (nOf (write (f := fun _ => Array.replicate n.toNat 0) hg (by rw [Array.size_replicate]; exact h1) fun h'' hs' hg' => ?_))
    have q := fin { s with heap := h'' } hg' ⟨hs'.1.trans hs.1, fun b hb => (hs'.2 b hb).trans (hs.2 b hb)⟩ rfl
    first | exact nPure ⟨_, rfl, rfl, q⟩ | exact nBind (nPure (nPure ⟨_, rfl, rfl, q⟩))
  · refine nNeg hp ?_
    have e0 : n = 0 := by lia
    subst e0
    have q := fin { s with heap := h' } hg hs rfl
    first | exact nPure ⟨_, rfl, rfl, q⟩ | exact nBind (nPure (nPure ⟨_, rfl, rfl, q⟩))
theorem make0N {Q : Value → Shared → Prop} (h : ∀ h', Heap.SameBut s.heap.objs.size (s.heap.push (baOf #[])) h' → h'.get? s.heap.objs.size = some (baOf #[]) → Q (.ref s.heap.objs.size) { s with heap := h' }) :
    wpN (model prog w) A (call (.type "bytearray") []) Q E s := by
  refine nTypeCall called typeCall0 entry_init (by decide +kernel) (Q₁ := fun obj s₁ => obj = .ref s.heap.objs.size ∧ s₁ = { s with heap := s.heap.push (baOf #[]) }) (codeNew newCall0 ⟨rfl, rfl⟩) fun obj s₁ hq => ?_
  obtain ⟨rfl, rfl⟩ := hq
  have ho : (s.heap.push (baOf #[])).get? s.heap.objs.size = some (baOf #[]) := Heap.get?_push_size _ rfl
  exact ⟨typeIs (s := { s with heap := s.heap.push (baOf #[]) }) ho, args_init0 _, nMono (init0N (s := { s with heap := s.heap.push (baOf #[]) }) (Q := fun _ s' => Q (.ref s.heap.objs.size) s') ho fun h' hs hg => h h' hs hg) (fun _ _ x => x) fun _ _ x => x⟩
theorem make1N {n : Int} {t : Tok} {Q : Value → Shared → Prop} (h0 : 0 ≤ n) (h1 : n.toNat ≤ sizeLine)
    (h : ∀ h', Heap.SameBut s.heap.objs.size (s.heap.push (baOf #[])) h' → h'.get? s.heap.objs.size = some (baOf (Array.replicate n.toNat 0)) → Q (.ref s.heap.objs.size) { s with heap := h' }) :
    wpN (model prog w) A (call (.type "bytearray") [.int n t]) Q E s := by
  refine nTypeCall called (typeCall1 _) entry_init (by decide +kernel) (Q₁ := fun obj s₁ => obj = .ref s.heap.objs.size ∧ s₁ = { s with heap := s.heap.push (baOf #[]) }) (codeNew (newCall1 _) ⟨rfl, rfl⟩) fun obj s₁ hq => ?_
  obtain ⟨rfl, rfl⟩ := hq
  have ho : (s.heap.push (baOf #[])).get? s.heap.objs.size = some (baOf #[]) := Heap.get?_push_size _ rfl
  exact ⟨typeIs (s := { s with heap := s.heap.push (baOf #[]) }) ho, args_init1 _ _, nMono (init1N (s := { s with heap := s.heap.push (baOf #[]) }) (Q := fun _ s' => Q (.ref s.heap.objs.size) s') ho h0 h1 fun h' hs hg => h h' hs hg) (fun _ _ x => x) fun _ _ x => x⟩
end
end BA
end
section
section
variable {M : Model} {A : Around} {E : Value → Shared → Prop} {s : Shared} {env : Env}
theorem nExecsNil {Q : Flow → Shared → Prop} (h : Q .next s) : wpN M A (execs [] env) Q E s := fun _ _ _ _ => h
theorem nExecs {st : Stmt} {rest : List Stmt} {Q : Flow → Shared → Prop} (h : wpN M A (exec st env) (fun f s' => match f with | .next => wpN M A (execs rest env) Q E s' | f => Q f s') E s) :
    wpN M A (execs (st :: rest) env) Q E s := by
  rw [execs_cons]
  refine nBind (nMono h (fun f s' h' => ?_) fun _ _ x => x)
  cases f <;> first | exact h' | exact nPure h'
theorem nStep {st : Stmt} {rest : List Stmt} {Q : Flow → Shared → Prop} (h : wpAny M A (exec st env) (fun f s' => match f with | .next => wpN M A (execs rest env) Q E s' | f => Q f s') E s) :
    wpN M A (execs (st :: rest) env) Q E s := nExecs (nOf h)
theorem nAssign {x : Str} {pos' pos : Pos} {value : Expr} {Q : Flow → Shared → Prop} (h : wpN M A (eval value env) (fun v s₁ => wpAny M A (storeName env x v) (fun _ => Q .next) E s₁) E s)
    (hs : swapsWith value (some (.Name x pos')) pos.line env = pure false := by rfl) : wpN M A (exec (.Assign [.Name x pos'] value pos) env) Q E s := by
  rw [exec_Assign_Name env x pos' value pos hs]
  exact nBind (nStand (nBind (nMono h (fun v s₁ h₁ => nBind (nStand (nBind (nOf (wpAny_bindName (wpAny_mono h₁ (fun _ _ q => nPure q) fun _ _ e => e)))))) fun _ _ e => e)))
theorem nAssignAttr {o : Expr} {attr : Str} {pos' pos : Pos} {value : Expr} {Q : Flow → Shared → Prop}
    (h : wpN M A (eval value env) (fun v s₁ => wpAny M A (eval o env) (fun ov s₂ => wpAny M A (setAttr ov attr v) (fun _ => Q .next) E s₂) E s₁) E s)
    (hs : swapsWith value (some (.Attribute o attr pos')) pos.line env = pure false := by rfl) : wpN M A (exec (.Assign [.Attribute o attr pos'] value pos) env) Q E s := fun Γ p hΓ off => by
  simp only [plainObj_exec_Assign_Attribute o attr pos' value pos hs, assign_Attribute, Sem.wp_bind', Sem.wp_holding, Sem.wp_cmd_standAt, Sem.wp_release, Sem.wp_pure']
  exact Sem.wp_mono M Γ _ (fun v p₁ s₁ h₁ => Sem.wp_mono M Γ _ (fun ov _ s₂ h₂ => h₂ Γ _ hΓ) (fun _ _ _ h' => h') _ _ (h₁ Γ p₁ hΓ)) (fun _ _ _ h' => h') _ _ (h Γ _ hΓ off)
theorem nAssignTuple {elts : List Expr} {k : Nat} {tpos pos : Pos} {value : Expr} {Q : Flow → Shared → Prop} (h : wpN M A (eval value env) (fun v s₁ => wpAny M A (assign (.Tuple elts k tpos) env v) (fun _ => Q .next) E s₁) E s)
    (hs : swapsWithSole [.Tuple elts k tpos] value pos.line env = pure false := by rfl) (hw : swappedStores [.Tuple elts k tpos] value env = pure none := by rfl) :
    wpN M A (exec (.Assign [.Tuple elts k tpos] value pos) env) Q E s := by
  rw [exec_Assign]
  refine nBind (nStand ?_)
  rw [hs]
  refine nBind (nPure ?_)
  rw [if_neg (by decide)]
  refine nBind (nMono h (fun v s₁ h₁ => ?_) fun _ _ x => x)
  rw [hw]
  refine nBind (nPure ?_)
  have q := wpAny_mono h₁ (fun (_ : Unit) s' (x : Q .next s') => (wpAny_pure x : wpAny M A (pure Flow.next) Q E s')) fun _ _ e => e
  first | exact nOf (wpAny_bind q) | exact nBind (nHolding (nOf q)) | exact nBind (nOf (wpAny_bind q)) | (refine nOf ?_; refine wpAny_bind ?_; refine wpAny_mono h₁ (fun _ s' x => ?_) (fun _ _ e => e); first | exact wpAny_pure x | exact wpAny_bind (wpAny_pure (wpAny_pure x)))
theorem nExpr {e : Expr} {pos : Pos} {Q : Flow → Shared → Prop} (h : wpN M A (eval e env) (fun v s' => match v with | .ref _ => False | _ => Q .next s') E s)
    (hi : interactive env = false := by rfl) (hs : swapsWith e none pos.line env = pure false := by rfl) : wpN M A (exec (.Expr e pos) env) Q E s := by
  rw [exec_Expr env e pos hi hs]
  refine nBind (nStand (nBind (nMono h (fun v s' h' => ?_) fun _ _ x => x)))
  have hv : ∀ a, v ≠ .ref a := fun a hva => by subst hva; exact h'
  rw [dropValue_plain hv]
  refine nPure ?_
  cases v <;> first | exact h' | exact (hv _ rfl).elim
theorem nIf {test : Expr} {body orelse : List Stmt} {pos : Pos} {Q : Flow → Shared → Prop}
    (h : wpAny M A (isTrue test env (eval test env)) (fun b s₂ => if b then wpN M A (execs body env) Q E s₂ else wpN M A (execs orelse env) Q E s₂) E s) : wpN M A (exec (.If test body orelse pos) env) Q E s := by
  rw [exec_If]
  refine nBind (nStand (nBind (nOf (wpAny_mono h (fun b s₂ h₂ => ?_) fun _ _ x => x))))
  cases b <;> exact h₂
theorem nReturn {e : Expr} {pos : Pos} {Q : Flow → Shared → Prop} (h : wpN M A (eval e env) (fun v => Q (.ret v)) E s) : wpN M A (exec (.Return (some e) pos) env) Q E s := by
  rw [exec_Return_some]
  exact nBind (nStand (nBind (nMono h (fun v s' h' => nPure h') fun _ _ x => x)))
theorem nIfExp {test body orelse : Expr} {pos : Pos} {Q : Value → Shared → Prop}
    (h : wpAny M A (isTrue test env (eval test env)) (fun c s₂ => if c then wpN M A (eval body env) Q E s₂ else wpN M A (eval orelse env) Q E s₂) E s) : wpN M A (eval (.IfExp test body orelse pos) env) Q E s := by
  rw [eval_IfExp]
  refine nBind (nOf (wpAny_mono h (fun c s₂ h₂ => ?_) fun _ _ x => x))
  cases c <;> exact h₂
theorem nCallE {func : Expr} {args : List Expr} {pos : Pos} {Q : Value → Shared → Prop}
    (h : wpAny M A (eval func env) (fun f s₁ => wpN M A (callWith pos f [] (backTo pos (starEach args env)) []) Q E s₁) E s)
    (he : eval (.Call func args [] pos) env = (do callWith pos (← eval func env) [] (backTo pos (starEach args env)) (backToKw pos (keywordEach [] env))) := by rfl) :
    wpN M A (eval (.Call func args [] pos) env) Q E s := by
  rw [he]; exact nBind (nOf h)
theorem nMeth {o : Expr} {name : Str} {apos pos : Pos} {args : List Expr} {pl : Sem Bool} {Q : Value → Shared → Prop}
    (h : wpAny M A (eval o env) (fun ov s₁ => wpAny M A (getMethod ov name pl) (fun fx s₂ => wpN M A (callWith pos fx.1 fx.2 (backTo pos (starEach args env)) []) Q E s₂) E s₁) E s)
    (he : eval (.Call (.Attribute o name apos) args [] pos) env = (do
      let ov ← eval o env
      standAt apos.atName
      let (f, first) ← holding [ov] (getMethod ov name pl)
      callWith pos f first (backTo pos (starEach args env)) []) := by rfl) : wpN M A (eval (.Call (.Attribute o name apos) args [] pos) env) Q E s := by
  rw [he]
  exact nBind (nOf (wpAny_mono h (fun ov s₁ h₁ => nBind (nStand (nBind (nHolding (nOf h₁))))) fun _ _ x => x))
end
section
namespace H_nCallWithOf
abbrev hkD : Type := ((((Model × Around) × (Value → Shared → Prop)) × ((Shared × Pos) × Value)) × ((((List Value) × (Value → Shared → Prop)) × (Heap → Prop)) × ((List (Bool × Sem Value)) × (List (Option Str × Sem Value)))))
def hkP (M : Model) (A : Around) (E : Value → Shared → Prop) (s : Shared) (pos : Pos) (f : Value) (first : List Value) (Q : Value → Shared → Prop) (P : Heap → Prop) (args : List (Bool × Sem Value)) (keywords : List (Option Str × Sem Value)) : Prop := ∀ (hplain : (args.any (·.1) || keywords.any (·.1.isNone)) = false) (hk : ∀ h, P h → ∃ k, (k = Keeper.frame ∨ k = Keeper.machine ∨ k = Keeper.boundFrame) ∧ Looks M h (keeperOf f) k) (h : wpAny M A (evalArgs f true args keywords) (fun a s₁ => P s₁.heap ∧ wpN M A (call f (first ++ a.pos) a.kw) Q E s₁) E s), wpN M A (callWith pos f first args keywords) Q E s
def hkU (d : hkD) : Prop := hkP d.1.1.1.1 d.1.1.1.2 d.1.1.2 d.1.2.1.1 d.1.2.1.2 d.1.2.2 d.2.1.1.1 d.2.1.1.2 d.2.1.2 d.2.2.1 d.2.2.2
theorem hkN : Nonempty hkD := (ne2 (ne2 (ne2 (ne2 neModel neAround) ⟨default⟩) (ne2 (ne2 neShared ⟨default⟩) ⟨default⟩)) (ne2 (ne2 (ne2 ⟨default⟩ ⟨default⟩) ⟨default⟩) (ne2 ⟨default⟩ ⟨default⟩)))
@[irreducible] def hkV : hkD := hk_c hkN hkU
@[irreducible] def M : Model := hkV.1.1.1.1
@[irreducible] def A : Around := hkV.1.1.1.2
@[irreducible] def E : Value → Shared → Prop := hkV.1.1.2
@[irreducible] def s : Shared := hkV.1.2.1.1
@[irreducible] def pos : Pos := hkV.1.2.1.2
@[irreducible] def f : Value := hkV.1.2.2
@[irreducible] def first : List Value := hkV.2.1.1.1
@[irreducible] def Q : Value → Shared → Prop := hkV.2.1.1.2
@[irreducible] def P : Heap → Prop := hkV.2.1.2
@[irreducible] def args : List (Bool × Sem Value) := hkV.2.2.1
@[irreducible] def keywords : List (Option Str × Sem Value) := hkV.2.2.2
theorem core : hkP M A E s pos f first Q P args keywords := by
  unfold hkP
  intro hplain hk h
  unfold callWith
  refine nBind (nHolding (nOf (wpAny_mono h (fun a s₁ h₁ => nBind (nStand ?_)) fun _ _ x => x)))
  obtain ⟨k, hk', L⟩ := hk _ h₁.1
  simp only [hplain]
  refine nBind (nOf (L.here ?_))
  have tail : ∀ {t : Sem Value}, wpN M A t Q E s₁ → wpN M A (t >>= fun r => holding [r] point >>= fun _ => pure r) Q E s₁ :=
    fun ht => nBind (nMono ht (fun r s₂ hr => nBind (nHolding (nOf (wpAny_point (nPure hr))))) fun _ _ x => x)
  have marked (mk : Value) : wpN M A (callMarked mk f (first ++ a.pos) a.kw) Q E s₁ := by unfold callMarked; exact nKeep h₁.2
  rcases hk' with rfl | rfl | rfl <;> dsimp only <;> first | exact tail h₁.2 | (split <;> first | exact tail h₁.2 | exact tail (marked _))
end H_nCallWithOf
end
section
variable {M : Model} {A : Around} {E : Value → Shared → Prop} {s : Shared} {env : Env}
theorem nCallWithOf {pos : Pos} {f : Value} {first : List Value} {Q : Value → Shared → Prop} {P : Heap → Prop} {args : List (Bool × Sem Value)} {keywords : List (Option Str × Sem Value)} (hplain : (args.any (·.1) || keywords.any (·.1.isNone)) = false)
    (hk : ∀ h, P h → ∃ k, (k = Keeper.frame ∨ k = Keeper.machine ∨ k = Keeper.boundFrame) ∧ Looks M h (keeperOf f) k)
    (h : wpAny M A (evalArgs f true args keywords) (fun a s₁ => P s₁.heap ∧ wpN M A (call f (first ++ a.pos) a.kw) Q E s₁) E s) : wpN M A (callWith pos f first args keywords) Q E s :=
  hk_all H_nCallWithOf.hkN H_nCallWithOf.hkU (by with_unfolding_all exact H_nCallWithOf.core) ((((M, A), E), ((s, pos), f)), (((first, Q), P), (args, keywords))) hplain hk h
theorem nCallFn {K : Frag} {h₀ : Heap} {pos : Pos} {f : Value} {first : List Value} {e : Expr} {rest : List Expr} {Q : Value → Shared → Prop} (_X : K.In h₀) (hk : keepIn K f = true)
    (h : wpAny M A (spliced (backTo pos (starEach (e :: rest) env))) (fun vs s₁ => K.In s₁.heap ∧ wpN M A (call f (first ++ vs)) Q E s₁) E s)
    (he : starEach (e :: rest) env = (false, eval e env) :: starEach rest env := by rfl) (hplain : (backTo pos (starEach rest env)).any (·.1) = false := by rfl) :
    wpN M A (callWith pos f first (backTo pos (starEach (e :: rest) env)) []) Q E s := by
  rw [he] at h ⊢
  exact nCallWithOf (by show ((false || (backTo pos (starEach rest env)).any (·.1)) || false) = false; rw [hplain]; rfl) (keeps_K hk) (evalArgs_plain h)
theorem nCallFn0 {K : Frag} {pos : Pos} {f : Value} {first : List Value} {Q : Value → Shared → Prop} (X : K.In s.heap) (hk : keepIn K f = true) (h : wpN M A (call f (first ++ [])) Q E s) :
    wpN M A (callWith pos f first (backTo pos (starEach [] env)) []) Q E s := nCallWithOf rfl (keeps_K hk) (evalArgs_nil3 ⟨X, h⟩)
theorem nTail {t : Sem Value} {Q : Value → Shared → Prop} (ht : wpN M A t Q E s) : wpN M A (t >>= fun r => holding [r] point >>= fun _ => pure r) Q E s :=
  nBind (nMono ht (fun r s₂ hr => nBind (nHolding (nOf (wpAny_point (nPure hr))))) fun _ _ x => x)
theorem nCallB {pos : Pos} {id : String} {first : List Value} {e : Expr} {rest : List Expr} {Q : Value → Shared → Prop}
    (h : wpAny M A (spliced (backTo pos (starEach (e :: rest) env))) (fun vs s₁ => wpN M A (call (.builtin id) (first ++ vs)) Q E s₁) E s)
    (he : starEach (e :: rest) env = (false, eval e env) :: starEach rest env := by rfl) (hplain : (backTo pos (starEach rest env)).any (·.1) = false := by rfl) :
    wpN M A (callWith pos (.builtin id) first (backTo pos (starEach (e :: rest) env)) []) Q E s := by
  rw [he] at h ⊢
  have hp : ((backTo pos ((false, eval e env) :: starEach rest env)).any (·.1)) = false := by show (false || (backTo pos (starEach rest env)).any (·.1)) = false; rw [hplain]; rfl
  unfold callWith
  refine nBind (nHolding (nOf (evalArgs_plain (wpAny_mono h (fun a s₁ h₁ => nBind (nStand ?_)) fun _ _ x => x))))
  simp only [hp, List.any_nil, Bool.or_false]
  exact nBind (nPure (nTail h₁))
theorem nCallT {pos : Pos} {T : String} {e : Expr} {rest : List Expr} {Q : Value → Shared → Prop}
    (h : wpAny M A (spliced (backTo pos (starEach (e :: rest) env))) (fun vs s₁ => wpN M A (call (.type T) ([] ++ vs)) Q E s₁) E s)
    (he : starEach (e :: rest) env = (false, eval e env) :: starEach rest env := by rfl) (hplain : (backTo pos (starEach rest env)).any (·.1) = false := by rfl) :
    wpN M A (callWith pos (.type T) [] (backTo pos (starEach (e :: rest) env)) []) Q E s := by
  rw [he] at h ⊢
  have hp : ((backTo pos ((false, eval e env) :: starEach rest env)).any (·.1)) = false := by show (false || (backTo pos (starEach rest env)).any (·.1)) = false; rw [hplain]; rfl
  unfold callWith
  refine nBind (nHolding (nOf (evalArgs_plain (wpAny_mono h (fun a s₁ h₁ => nBind (nStand ?_)) fun _ _ x => x))))
  simp only [hp, List.any_nil, Bool.or_false]
  exact nBind (nPure (nTail h₁))
theorem nCallT0 {pos : Pos} {T : String} {Q : Value → Shared → Prop} (h : wpN M A (call (.type T) []) Q E s) : wpN M A (callWith pos (.type T) [] (backTo pos (starEach [] env)) []) Q E s := by
  unfold callWith
  refine nBind (nHolding (nOf (PySem.evalArgs_none (nBind (nStand ?_)))))
  exact nBind (nPure (nTail h))
end
end
section
section
variable {M : Model} {A : Around} {E : Value → Shared → Prop} {s : Shared} {env : Env}
theorem nRunOwn {c : Code} {h : Option Value} {Q : Flow → Shared → Prop} (hc : codeN M (A.mark h) c (fun r s' => match r with | .ok f => Q f s' | .error e => cameBackBy M A env E e s') s) (ho : offC c = true)
    (hnb : h ≠ some byPass := by intro x; cases x) : wpN M A (runOwn c env h) Q E s := by
  unfold runOwn
  exact nOnRaise (nMono (nRun hc ho hnb) (fun _ _ x => x) fun _ _ x => nOf x)
theorem nFor {target iter body orelse pos} {Q : Flow → Shared → Prop}
    (h : wpAny M A (eval iter env) (fun x s₁ => wpAny M A (pyIter x) (fun it s₂ =>
      codeN M A (.forLoop target it body orelse env) (fun r s' => match r with | .ok f => Q f s' | .error e => cameBackBy M A env E e s') s₂) E s₁) E s)
    (hs : ∀ x, foldedSetIterable iter env x = pure x := by intro _; rfl) : wpN M A (exec (.For target iter body orelse pos) env) Q E s := by
  rw [exec_For]
  exact nBind (nStand (nBind (nOf (wpAny_mono h (fun x s₁ h₁ => nBind (nOf (wpAny_of_eq (hs x) (nBind (nStand (nBind (nHolding (nOf (wpAny_mono h₁ (fun it s₂ h₂ => nRunOwn h₂ rfl) fun _ _ h' => h'))))))))) fun _ _ h' => h'))))
theorem nWhile {test body orelse pos} {Q : Flow → Shared → Prop}
    (h : codeN M A (.whileLoop test body orelse env) (fun r s' => match r with | .ok f => Q f s' | .error e => cameBackBy M A env E e s') s) :
    wpN M A (exec (.While test body orelse pos) env) Q E s := by
  rw [exec_While]; exact nBind (nStand (nRunOwn h rfl))
theorem nNoted {m : Sem α} {Q : α → Shared → Prop} (h : wpN M A m Q (notedBy M A env E) s) : wpN M A (m.onRaise fun x => do noteFrame x env; theTreesLotGoes x) Q E s :=
  nOnRaise (nMono h (fun _ _ q => q) fun _ _ hx => nOf (wpAny_bind (wpAny_mono hx (fun _ _ e => wpAny_theTreesLotGoes e) fun _ _ e => e)))
end
section
variable {prog : Program} {w : World} {A : Around} {E : Value → Shared → Prop} {R : Result → Shared → Prop} {s : Shared}
theorem cnForLoop {target it body env} (I : Nat → Shared → Prop)
    (turn : ∀ n s, I n s → wpAny (model prog w) A (pyNext it) (fun r s₁ => match r with
      | none => R (.ok .next) s₁
      | some v => wpAny (model prog w) A (letOwnedTupleGo target it v) (fun _ s₁' =>
          wpAny (model prog w) A (assign target env v) (fun _ s₂ => wpN (model prog w) A (execs body env) (fun f s₃ => match f with
            | .next | .cont => ∃ m, m < n ∧ I m s₃
            | .brk => R (.ok .next) s₃
            | .ret v => R (.ok (.ret v)) s₃) (notedBy (model prog w) A env fun e s' => R (.error e) s') s₂) (notedBy (model prog w) A env fun e s' => R (.error e) s') s₁') (notedBy (model prog w) A env fun e s' => R (.error e) s') s₁) (notedBy (model prog w) A env fun e s' => R (.error e) s') s)
    (n : Nat) (h : I n s) : codeN (model prog w) A (.forLoop target it body [] env) R s := by
  refine cnLoop rfl rfl I (fun n s hI => ?_) n h
  show wpN _ A ((forTurn target it body [] env).onRaise (fun x => do noteFrame x env; theTreesLotGoes x)) _ _ s
  refine nNoted ?_
  simp only [forTurn]
  refine nBind (nStand (nBind (nOf (wpAny_onRaise (wpAny_mono (turn n s hI) (fun r s₁ h₁ => ?_) fun _ _ h' => wpAny_standAt h')))))
  cases r with
  | none => exact nPure (.inr ⟨rfl, rfl, cnOf (codeAny_block (wpAny_execs_nil h₁))⟩)
  | some v =>
    refine nBind (nOf (wpAny_mono h₁ (fun _ s₁' h₁' => ?_) fun _ _ h' => h'))
    refine nBind (nOf (wpAny_mono h₁' (fun _ s₂ h₂ => nBind (nMono h₂ (fun f s₃ h₃ => ?_) fun _ _ h' => h')) fun _ _ h' => h'))
    cases f with
    | next => exact nPure (.inl ⟨rfl, h₃⟩)
    | cont => exact nPure (.inl ⟨rfl, h₃⟩)
    | brk => exact nPure h₃
    | ret v => exact nPure h₃
theorem cnWhileLoop {test body env} (I : Nat → Shared → Prop)
    (turn : ∀ n s, I n s →
      wpAny (model prog w) A (isTrue test env (eval test env)) (fun b s₂ =>
        if b then wpN (model prog w) A (execs body env) (fun f s₃ => match f with
            | .next | .cont => ∃ m, m < n ∧ I m s₃
            | .brk => R (.ok .next) s₃
            | .ret v => R (.ok (.ret v)) s₃) (notedBy (model prog w) A env fun e s' => R (.error e) s') s₂
        else R (.ok .next) s₂)
        (notedBy (model prog w) A env fun e s' => R (.error e) s') s)
    (n : Nat) (h : I n s) : codeN (model prog w) A (.whileLoop test body [] env) R s := by
  refine cnLoop rfl rfl I (fun n s hI => ?_) n h
  show wpN _ A ((whileTurn test body [] env).onRaise (fun x => do noteFrame x env; theTreesLotGoes x)) _ _ s
  refine nNoted ?_
  simp only [whileTurn]
  refine nBind (nOf (wpAny_mono (turn n s hI) (fun b s₂ h₂ => ?_) fun _ _ h' => h'))
  cases b with
  | false =>
    simp only [Bool.false_eq_true, if_false] at h₂ ⊢
    exact nBind (nExecsNil (nPure h₂))
  | true =>
    simp only [if_true] at h₂ ⊢
    refine nBind (nMono h₂ (fun f s₃ h₃ => ?_) fun _ _ h' => h')
    cases f with
    | next => exact nPure (.inl ⟨rfl, h₃⟩)
    | cont => exact nPure (.inl ⟨rfl, h₃⟩)
    | brk => exact nPure h₃
    | ret v => exact nPure h₃
end
end
section
namespace BE
open Builtin
set_option maxHeartbeats 1000000 in
theorem meets_new (b : Array UInt8) (t : Tok) :
    Meets (Builtin.«enumerate.__new__» ⟨[.type "enumerate", .bytes b t], []⟩) (fun _ R s =>
      R (.ok (.ret (.ref (s.heap.push { cls := .type "bytes_iterator", data := .fields #[.bytes b t, .int 0 0] }).objs.size)))
        { s with heap := (s.heap.push { cls := .type "bytes_iterator", data := .fields #[.bytes b t, .int 0 0] }).push { cls := .type "enumerate", data := .fields #[.none, .bool false, .ref s.heap.objs.size, rawInt 0, .none, .none] } }) :=
  .of_wp fun prog w A R s h => by
    obtain ⟨hp, g, d, tk, os⟩ := s
    have hsub := sub_enumerate
    wp_walk
    refine wpAny_stack_any fun st => wpAny_pure ?_
    split
    · rename_i c _ _ _ _ _
      cases (c == Value.type "enumerate")
      · wp_walk using KBw.pyIter_bytes
        exact ⟨_, rfl, h⟩
      · wp_walk using KBw.pyIter_bytes
        exact ⟨_, rfl, h⟩
    · wp_walk using KBw.pyIter_bytes
      exact ⟨_, rfl, h⟩
section
variable {prog : Program} {w : World} {A : Around} {E : Value → Shared → Prop} {s : Shared}
theorem call_enum {b : Array UInt8} {t : Tok} {Q : Value → Shared → Prop}
    (h : ∀ h', IsEnum h' (s.heap.objs.size + 1) s.heap.objs.size 0 .none → KBw.IsBytesIter h' s.heap.objs.size b t 0 → h'.objs.size = s.heap.objs.size + 2 →
      (∀ a o, s.heap.get? a = some o → h'.get? a = some o) → Q (.ref (s.heap.objs.size + 1)) { s with heap := h' }) :
    wpAny (model prog w) A (call (.type "enumerate") [.bytes b t]) Q E s := by
  refine callType_new F.called_enumerate (by decide) (F.typeCall_enumerate_1 _) (F.newCall_enumerate_1 _) (fun obj => F.args_object_init_2 obj _) F.entry_enumerate_new
    (meets_new b t) ?_
  have hz : (s.heap.push { cls := .type "bytes_iterator", data := .fields #[.bytes b t, .int 0 0] }).objs.size = s.heap.objs.size + 1 := Heap.size_push ..
  show _ ∧ _
  rw [hz]
  have he : IsEnum ((s.heap.push { cls := .type "bytes_iterator", data := .fields #[.bytes b t, .int 0 0] }).push
      { cls := .type "enumerate", data := .fields #[.none, .bool false, .ref s.heap.objs.size, rawInt 0, .none, .none] }) (s.heap.objs.size + 1) s.heap.objs.size 0 .none := by
    have := Heap.get?_push_size (s.heap.push { cls := .type "bytes_iterator", data := .fields #[.bytes b t, .int 0 0] })
      (o := { cls := .type "enumerate", data := .fields #[.none, .bool false, .ref s.heap.objs.size, rawInt 0, .none, .none] }) rfl
    rw [hz] at this; exact this
  refine ⟨⟨_, he, rfl⟩, h _ he ⟨_, Heap.get?_push_of_some _ (Heap.get?_push_size _ rfl), rfl, rfl⟩ (by rw [Heap.size_push, hz]) fun b o y => Heap.get?_push_of_some _ (Heap.get?_push_of_some _ y)⟩
theorem next_item {it : Addr} {b : Array UInt8} {t : Tok} {i : Nat} {c : UInt8} {Q : Value → Shared → Prop} (hit : KBw.IsBytesIter s.heap it b t i) (hx : b[i]? = some c)
    (hQ : ∀ h', KBw.IsBytesIter h' it b t (i + 1) → Heap.SameBut it s.heap h' → Q (.int (c.toNat : Int) s.toks) { s with heap := h', toks := s.toks + 1 }) :
    wpAny (model prog w) A (Builtin.SmallTypes.nextOf (.ref it)) Q E s := by
  obtain ⟨o, ho, hc, hd⟩ := id hit
  unfold Builtin.SmallTypes.nextOf
  refine wpAny_bind (wpAny_callSpecial?_slot (name := PySem.Str.ofString "__next__") (KBw.iter_typeIs hit) KBw.slot_next
    (wpAny_call_entry KBw.slot_next (KBw.iter_typeIs hit) KBw.entry_next ?_ (KBw.args_next _)))
  show wpAny _ _ (field (.ref it) 0 >>= _) _ _ s
  refine wpAny_bind (wpAny_field ho hd (x := .bytes b t) rfl ?_)
  show wpAny _ _ (if (Value.bytes b t == Value.none) = true then _ else _) _ _ s
  rw [if_neg (show ¬ ((Value.bytes b t == Value.none) = true) from Bool.false_ne_true)]
  show wpAny _ _ (field (.ref it) 1 >>= _) _ _ s
  refine wpAny_bind (wpAny_field ho hd (x := .int i 0) rfl ?_)
  refine wpAny_bind (wpAny_of_eq (a := b) rfl ?_)
  simp only [Int.toNat_natCast, hx]
  refine wpAny_bind (wpAny_setField ho hd (by simp) (wpAny_bind (wpAny_mkInt (wpAny_pure ⟨_, rfl, wpAny_pure (hQ _ ?_ (Heap.SameBut.update ..))⟩))))
  exact ⟨_, Heap.get?_update_self _ ho (Obj.isFreed_of_fields (Obj.data_mapFields hd _)), (Obj.cls_mapFields ..).trans hc, by
    rw [Obj.data_mapFields hd]; simp [rawInt]⟩
theorem next_end {it : Addr} {b : Array UInt8} {t : Tok} {i : Nat} {Q : Value → Shared → Prop} (hh : A.handled = none) (hit : KBw.IsBytesIter s.heap it b t i) (hx : b[i]? = none)
    (hE : ∀ h' e, Heap.ExtBut it s.heap h' → (∃ o, h'.get? e = some o ∧ o.cls = .type "StopIteration") → E (.ref e) { s with heap := h' }) :
    wpAny (model prog w) A (Builtin.SmallTypes.nextOf (.ref it)) Q E s := by
  obtain ⟨o, ho, hc, hd⟩ := id hit
  unfold Builtin.SmallTypes.nextOf
  refine wpAny_bind (wpAny_callSpecial?_slot (name := PySem.Str.ofString "__next__") (KBw.iter_typeIs hit) KBw.slot_next
    (wpAny_call_entry KBw.slot_next (KBw.iter_typeIs hit) KBw.entry_next ?_ (KBw.args_next _)))
  show wpAny _ _ (field (.ref it) 0 >>= _) _ _ s
  refine wpAny_bind (wpAny_field ho hd (x := .bytes b t) rfl ?_)
  show wpAny _ _ (if (Value.bytes b t == Value.none) = true then _ else _) _ _ s
  rw [if_neg (show ¬ ((Value.bytes b t == Value.none) = true) from Bool.false_ne_true)]
  show wpAny _ _ (field (.ref it) 1 >>= _) _ _ s
  refine wpAny_bind (wpAny_field ho hd (x := .int i 0) rfl ?_)
  refine wpAny_bind (wpAny_of_eq (a := b) rfl ?_)
  simp only [Int.toNat_natCast, hx]
  refine wpAny_bind (wpAny_rule (wpAny_bind (wpAny_setField ho hd (by simp) ?_)))
  show wpAny _ _ (newExc (.type "StopIteration") [] >>= _) _ _ _
  refine wpAny_bind ?_
  simp only [newExc, newTuple]
  refine wpAny_bind (wpAny_newObj_type ?_ (by size_fits))
  refine wpAny_bind (m := firstArgMember _ _) (wpAny_of_eq (a := Value.none) (by first | rfl | (simp only [firstArgMember]; rfl)) ?_)
  refine wpAny_newObj_type ?_ (by size_fits)
  simp only [raiseNew]
  refine wpAny_bind (wpAny_handled ?_)
  first | rw [show A.in1.handled = none from hh] | rw [hh]
  refine wpAny_bind (wpAny_pure (wpAny_throw ?_))
  exact hE _ _ (((Heap.SameBut.update ..).extBut.push _).push _) ⟨_, Heap.get?_push_size _ rfl, rfl⟩
end
theorem draws {prog : Program} {w : World} {A : Around} (hh : A.handled = none) (it : Addr) (b : Array UInt8) (t : Tok) :
    Draws prog w A it [it] b.size (fun i v => ∃ c u, b[i]? = some c ∧ v = .int (c.toNat : Int) u) (fun i h => KBw.IsBytesIter h it b t i) where
  live := fun _ _ st => let ⟨o, ho, _⟩ := st; ⟨o, ho⟩
  frame := fun _ _ _ st hk => let ⟨o, ho, r⟩ := st; ⟨o, hk it (by simp) o ho, r⟩
  item := fun i s Q E hi st hQ => by
    refine next_item st (c := b[i]) (by simp [hi]) fun h' hit' hs' => ?_
    exact hQ _ h' (s.toks + 1) ⟨_, _, by simp [hi], rfl⟩ hit' hs'
  done := fun s Q E st hE => next_end hh st (by simp) hE
end BE
end
section
theorem bInts_push {b : Array UInt8} {x : Int} (x0 : 0 ≤ x) (x1 : x < 256) : KBw.bInts (b.push x.toNat.toUInt8) = KBw.bInts b ++ [x] := by
  have : max x 0 % 256 = x := by lia
  simp [KBw.bInts, this]
theorem bInts_append (b c : Array UInt8) : KBw.bInts (b ++ c) = KBw.bInts b ++ KBw.bInts c := by simp [KBw.bInts]
theorem bInts_nil : KBw.bInts #[] = [] := rfl
theorem bInts_replicate (n : Nat) : KBw.bInts (Array.replicate n 0) = List.replicate n 0 := by simp [KBw.bInts]
theorem bInts_set {b : Array UInt8} {i : Nat} {x : Int} (x0 : 0 ≤ x) (x1 : x < 256) : KBw.bInts (b.setIfInBounds i x.toNat.toUInt8) = (KBw.bInts b).set i x := by
  have : max x 0 % 256 = x := by lia
  simp [KBw.bInts, this, List.map_set]
theorem samebut_split {h₀ h h' : Heap} {L d : Addr} {m : Str → Option Value} {pre post : List (Addr × Obj)} {o o' : Obj} (F : Fr h₀ L h m) (N : News h₀ L h (pre ++ (d, o) :: post))
    (h1 : ∀ p ∈ pre, p.1 ≠ d) (h2 : ∀ p ∈ post, p.1 ≠ d) (hs : Heap.SameBut d h h') (ho : h'.get? d = some o') : Fr h₀ L h' m ∧ News h₀ L h' (pre ++ (d, o') :: post) := by
  have D := N (d, o) (by simp)
  obtain ⟨oL, es, ep, hL, r⟩ := F.ns
  refine ⟨⟨⟨oL, es, ep, (hs.2 _ (Ne.symm D.2.1)).trans hL, r⟩, fun b x q => (hs.2 _ fun z => ?_).trans (F.keep b x q), F.above⟩, fun p hp => ?_⟩
  · have := D.2.2; rw [← z, q] at this; cases this
  · rcases List.mem_append.mp hp with q | q
    · have P := N p (List.mem_append_left _ q); exact ⟨(hs.2 _ (h1 p q)).trans P.1, P.2⟩
    · rcases List.mem_cons.mp q with rfl | q
      · exact ⟨ho, D.2⟩
      · have P := N p (List.mem_append_right _ (.tail _ q)); exact ⟨(hs.2 _ (h2 p q)).trans P.1, P.2⟩
theorem samebut_upd {h₀ h h' : Heap} {L d : Addr} {m : Str → Option Value} {news news' : List (Addr × Obj)} {o o' : Obj} (F : Fr h₀ L h m) (N : News h₀ L h news) (U : Upd d o o' news news')
    (hs : Heap.SameBut d h h') (ho : h'.get? d = some o') : Fr h₀ L h' m ∧ News h₀ L h' news' := by
  obtain ⟨pre, post, rfl, rfl, h1, h2⟩ := U.split
  exact samebut_split F N h1 h2 hs ho
theorem upd_mem {d : Addr} {o o' : Obj} {l l' : List (Addr × Obj)} (U : Upd d o o' l l') : (d, o) ∈ l := by
  obtain ⟨pre, post, rfl, _⟩ := U.split
  simp
namespace BA
section
variable {prog : Program} {w : World} {A : Around} {E : Value → Shared → Prop} {s : Shared} {a : Addr} {b : Array UInt8} {ks : List Int} {h₀ : Heap} {L : Addr} {m : Str → Option Value} {news news' : List (Addr × Obj)} {Q : Value → Shared → Prop}
theorem makeK (F : Fr h₀ L s.heap m) (N : News h₀ L s.heap news)
    (h : ∀ D h', Fr h₀ L h' m → News h₀ L h' ((D, baOf #[]) :: news) → (∀ q ∈ news, q.1 < D) → Q (.ref D) { s with heap := h' }) :
    wpN (model prog w) A (call (.type "bytearray") []) Q E s := by
  refine make0N fun h' hs hg => ?_
  have hk : ∀ b o, s.heap.get? b = some o → h'.get? b = some o := fun b o e => (hs.2 b (Nat.ne_of_lt (Heap.lt_size e))).trans (Heap.get?_push_of_some _ e)
  exact h _ h' (F.keeps hk) (news_pushed F N hk hg rfl) fun q hq => Heap.lt_size (N q hq).1
theorem makeNK {n : Int} {t : Tok} (F : Fr h₀ L s.heap m) (N : News h₀ L s.heap news) (h0 : 0 ≤ n) (h1 : n ≤ 1000)
    (h : ∀ D h', Fr h₀ L h' m → News h₀ L h' ((D, baOf (Array.replicate n.toNat 0)) :: news) → (∀ q ∈ news, q.1 < D) → Q (.ref D) { s with heap := h' }) :
    wpN (model prog w) A (call (.type "bytearray") [.int n t]) Q E s := by
  have hz : n.toNat ≤ sizeLine := by rw [sizeLine_eq]; lia
  refine make1N h0 hz fun h' hs hg => ?_
  have hk : ∀ b o, s.heap.get? b = some o → h'.get? b = some o := fun b o e => (hs.2 b (Nat.ne_of_lt (Heap.lt_size e))).trans (Heap.get?_push_of_some _ e)
  exact h _ h' (F.keeps hk) (news_pushed F N hk hg rfl) fun q hq => Heap.lt_size (N q hq).1
theorem appendK {x : Int} {t : Tok} (F : Fr h₀ L s.heap m) (N : News h₀ L s.heap news) (U : Upd a (baOf b) (baOf (b.push x.toNat.toUInt8)) news news') (hz : b.size ≤ 1000) (x0 : 0 ≤ x) (x1 : x < 256)
    (h : ∀ h', Fr h₀ L h' m → News h₀ L h' news' → Q .none { s with heap := h' }) :
    wpN (model prog w) A (call (.builtin "bytearray.append") [.ref a, .int x t]) Q E s := by
  refine appendN (N _ (upd_mem U)).1 (by rw [sizeLine_eq]; lia) x0 x1 fun h' hs hg => ?_
  obtain ⟨F', N'⟩ := samebut_upd F N U hs hg
  exact h h' F' N'
theorem extendK {c : Array UInt8} {t : Tok} (F : Fr h₀ L s.heap m) (N : News h₀ L s.heap news) (U : Upd a (baOf b) (baOf (b ++ c)) news news') (hz : b.size + c.size ≤ 1000)
    (h : ∀ h', Fr h₀ L h' m → News h₀ L h' news' → Q .none { s with heap := h' }) :
    wpN (model prog w) A (call (.builtin "bytearray.extend") [.ref a, .bytes c t]) Q E s := by
  refine extendN (N _ (upd_mem U)).1 (by rw [sizeLine_eq, Array.size_append]; lia) fun h' hs hg => ?_
  obtain ⟨F', N'⟩ := samebut_upd F N U hs hg
  exact h h' F' N'
theorem setItemK {i x : Int} {t u : Tok} {Q : Unit → Shared → Prop} (F : Fr h₀ L s.heap m) (N : News h₀ L s.heap news) (U : Upd a (baOf b) (baOf (b.setIfInBounds i.toNat x.toNat.toUInt8)) news news') (h0 : 0 ≤ i) (h1 : i < b.size) (hz : b.size ≤ 1000) (x0 : 0 ≤ x) (x1 : x < 256)
    (h : ∀ h', Fr h₀ L h' m → News h₀ L h' news' → Q () { s with heap := h' }) : wpAny (model prog w) A (setItem (.ref a) (.int i t) (.int x u)) Q E s := by
  refine setItemBA (N _ (upd_mem U)).1 h0 h1 (by rw [sizeLine_eq]; lia) x0 x1 fun h' hs hg => ?_
  obtain ⟨F', N'⟩ := samebut_upd F N U hs hg
  exact h h' F' N'
theorem toBytesK (N : News h₀ L s.heap news) (hm : (a, baOf b) ∈ news) (hz : b.size ≤ 1000) (hQ : ∀ t k, Q (.bytes b t) { s with toks := k }) :
    wpAny (model prog w) A (call (.type "bytes") [.ref a]) Q E s := toBytes (N _ hm).1 (by rw [sizeLine_eq]; lia) hQ
theorem getMethK {name : Str} {id : String} {pl : Sem Bool} {Q : Value × List Value → Shared → Prop} (slot : Slot "bytearray" name id) (hty : typeOf (.builtin id) = pure (.type "method_descriptor"))
    (N : News h₀ L s.heap news) (hm : (a, baOf b) ∈ news) (h : Q (.builtin id, [.ref a]) s) : wpAny (model prog w) A (getMethod (.ref a) name pl) Q E s := getMeth slot hty (N _ hm).1 h
end
end BA
namespace BA
open Builtin
theorem look_bytes : typeLookup (.type "bytes") "__bytes__" = pure (some (.builtin "bytes.__bytes__")) := by rw [typeLookup_type, builtinLookup_eq_fast]; kernel_rfl
section
variable {prog : Program} {w : World} {A : Around} {E : Value → Shared → Prop} {s : Shared} {b : Array UInt8} {t : Tok}
theorem bytesNewB {Q : Value → Shared → Prop} (hQ : Q (.bytes b t) s) :
    codeAny (model prog w) A (.call (.builtin "bytes.__new__") ⟨[.type "bytes", .bytes b t], []⟩) (wants Q E) s := by
  refine codeAny_of_tree ?_
  show wpAny _ A.in1 (do checkBuiltinCall "bytes.__new__" ⟨[.type "bytes", .bytes b t], []⟩; again (.builtin "bytes.__new__" ⟨[.type "bytes", .bytes b t], []⟩)) _ _ s
  refine wpAny_bind (wpAny_of_eq (F.bm_newCall _) (wpAny_pure ⟨plainId_quiet F.bm_plain _, codeAny_builtin F.bm_entry ?_⟩))
  rw [Around.under_plainId F.bm_plain _]
  unfold Builtin.«bytes.__new__»
  refine wpAny_bind (wpAny_of_eq (a := true) rfl ?_)
  refine bm_if_false rfl ?_
  refine wpAny_bind (wpAny_of_eq F.bm_sub ?_)
  refine bm_if_false rfl ?_
  refine wpAny_bind (wpAny_of_eq (F.bm_bind _) ?_)
  refine wpAny_bind (wpAny_of_eq (a := ()) rfl ?_)
  refine wpAny_bind (wpAny_of_eq (a := ()) rfl ?_)
  refine bm_if_false rfl ?_
  refine wpAny_bind (wpAny_of_eq (KBy.special_eq look_bytes) ?_)
  refine wpAny_bind (wpAny_rule ?_)
  refine wpAny_bind (wpAny_of_eq (a := .type "bytes") rfl ?_)
  refine bm_if_true (by decide) ?_
  show wpAny _ _ (if (Value.type "bytes" == Value.type "bytes") = true then _ else _) _ _ _
  refine bm_if_true (by decide) ?_
  first | exact wpAny_pure hQ | exact wpAny_bind (wpAny_pure (wpAny_pure hQ))
theorem bytesOfBytes {Q : Value → Shared → Prop} (hQ : Q (.bytes b t) s) : wpAny (model prog w) A (call (.type "bytes") [.bytes b t]) Q E s := by
  refine callType_codes (Q₁ := fun obj s₁ => s₁.TypeIs obj "bytes" ∧ Q obj s₁) F.bm_called (F.bm_typeCall _) F.entry_object_init
    (bytesNewB ⟨PySem.W.typeIs_bytes _ _ _, hQ⟩) fun obj s₁ h₁ => ?_
  exact ⟨h₁.1, F.args_object_init_2 obj _, object_init_meets F.bm_called.init.lookup F.bm_called.made (by decide) prog w A.in1 _ s₁ ⟨h₁.1, rfl, h₁.2⟩⟩
end
end BA
end
section
noncomputable def Kept (stored : List Str) (m m' : Str → Option Value) : Prop := ∀ z, stored.contains z = false → m' z = m z
noncomputable def StepEnd (h₀ : Heap) (L : Addr) (own : List (Addr × Obj)) (stored : List Str) (m : Str → Option Value) (P : (Str → Option Value) → List (Addr × Obj) → Prop) (s₁ : Shared) (Rv : Value → Shared → Prop) (f : Flow) (s₂ : Shared) : Prop :=
  match f with
  | .ret v => Rv v s₂
  | .brk => False
  | _ => ∃ h' tk m' news', s₂ = { s₁ with heap := h', toks := tk } ∧ Fr h₀ L h' m' ∧ News h₀ L h' (news' ++ own) ∧ (∀ p ∈ news', ∀ q ∈ own, q.1 ≠ p.1) ∧ Kept stored m m' ∧ P m' news'
theorem StepEnd.intro {h₀ : Heap} {L : Addr} {own news' : List (Addr × Obj)} {stored : List Str} {m m' : Str → Option Value} {P : (Str → Option Value) → List (Addr × Obj) → Prop} {s₁ : Shared} {Rv : Value → Shared → Prop} {h' : Heap} {tk : Nat}
    (F : Fr h₀ L h' m') (N : News h₀ L h' (news' ++ own)) (ha : ∀ p ∈ news', ∀ q ∈ own, q.1 ≠ p.1) (hk : Kept stored m m') (hp : P m' news') : StepEnd h₀ L own stored m P s₁ Rv .next { s₁ with heap := h', toks := tk } :=
  ⟨h', tk, m', news', rfl, F, N, ha, hk, hp⟩
theorem nGen {α : Type} {M : Model} {A : Around} {t : Sem α} {Q : α → Shared → Prop} {E : Value → Shared → Prop} {s : Shared}
    (h : ∀ (Q' : α → Shared → Prop) (E' : Value → Shared → Prop), (∀ f s', Q f s' → Q' f s') → (∀ e s', E e s' → E' e s') → wpN M A t Q' E' s) : wpN M A t Q E s := h Q E (fun _ _ x => x) fun _ _ x => x
theorem aGen {α : Type} {M : Model} {A : Around} {t : Sem α} {Q : α → Shared → Prop} {E : Value → Shared → Prop} {s : Shared}
    (h : ∀ (Q' : α → Shared → Prop) (E' : Value → Shared → Prop), (∀ f s', Q f s' → Q' f s') → (∀ e s', E e s' → E' e s') → wpAny M A t Q' E' s) : wpAny M A t Q E s := h Q E (fun _ _ x => x) fun _ _ x => x
theorem StepEnd.introQ {h₀ : Heap} {L : Addr} {own news' : List (Addr × Obj)} {stored : List Str} {m m' : Str → Option Value} {P : (Str → Option Value) → List (Addr × Obj) → Prop} {s₁ : Shared} {Rv : Value → Shared → Prop} {h' : Heap} {tk : Nat} {Qv : Flow → Shared → Prop}
    (hQ : ∀ f s', StepEnd h₀ L own stored m P s₁ Rv f s' → Qv f s') (F : Fr h₀ L h' m') (N : News h₀ L h' (news' ++ own)) (ha : ∀ p ∈ news', ∀ q ∈ own, q.1 ≠ p.1) (hk : Kept stored m m') (hp : P m' news') : Qv .next { s₁ with heap := h', toks := tk } :=
  hQ _ _ (.intro F N ha hk hp)
theorem off_same {own l l' : List (Addr × Obj)} (hoff : ∀ p ∈ own, ∀ q ∈ l, p.1 ≠ q.1) (h : l'.map (·.1) = l.map (·.1)) : ∀ p ∈ l', ∀ q ∈ own, q.1 ≠ p.1 := fun p hp q hq e => by
  have h1 : p.1 ∈ l.map (·.1) := h ▸ List.mem_map_of_mem hp
  obtain ⟨r, hr, e2⟩ := List.mem_map.mp h1
  exact hoff q hq r hr (e.trans e2.symm)
theorem not_stored {stored : List Str} {z : Str} (h : stored.contains z = false) : ∀ n ∈ stored, z ≠ n := fun n hn e => by
  subst e
  rw [List.contains_iff_mem.mpr hn] at h
  cases h
theorem kept_map {stored : List Str} {m m₁ : Str → Option Value} (h : Kept stored m m₁) : m₁ = fun y => if stored.contains y then m₁ y else m y := by
  funext y
  cases hy : stored.contains y with
  | true => simp
  | false => simpa using h y hy
theorem news_swap {h₀ h : Heap} {L : Addr} {a b : List (Addr × Obj)} (N : News h₀ L h (a ++ b)) : News h₀ L h (b ++ a) :=
  fun p hp => N p ((List.mem_append.mp hp).elim (fun h => List.mem_append.mpr (.inr h)) fun h => List.mem_append.mpr (.inl h))
theorem fr_known {h₀ h : Heap} {L : Addr} {x n : Str} {v val : Value} {m₁ : Str → Option Value} (hn : m₁ n = some val) (F : Fr h₀ L h (fun y => if y = x then some v else m₁ y)) :
    Fr h₀ L h (fun y => if y = x then some v else if y = n then some val else m₁ y) := by
  have e : (fun y => if y = x then some v else if y = n then some val else m₁ y) = fun y => if y = x then some v else m₁ y := by
    funext y
    by_cases h1 : y = x
    · simp only [if_pos h1]
    · simp only [if_neg h1]
      by_cases h2 : y = n
      · rw [if_pos h2, h2, hn]
      · rw [if_neg h2]
  rw [e]; exact F
theorem fr_known2 {h₀ h : Heap} {L : Addr} {x x' n : Str} {v v' val : Value} {m₁ : Str → Option Value} (hn : m₁ n = some val) (F : Fr h₀ L h (fun y => if y = x then some v else if y = x' then some v' else m₁ y)) :
    Fr h₀ L h (fun y => if y = x then some v else if y = x' then some v' else if y = n then some val else m₁ y) := by
  have e : (fun y => if y = x then some v else if y = x' then some v' else if y = n then some val else m₁ y) = fun y => if y = x then some v else if y = x' then some v' else m₁ y := by
    funext y
    by_cases h1 : y = x
    · simp only [if_pos h1]
    · simp only [if_neg h1]
      by_cases h3 : y = x'
      · simp only [if_pos h3]
      · simp only [if_neg h3]
        by_cases h2 : y = n
        · rw [if_pos h2, h2, hn]
        · rw [if_neg h2]
  rw [e]; exact F
theorem fr_known0 {h₀ h : Heap} {L : Addr} {n : Str} {val : Value} {m₁ : Str → Option Value} (hn : m₁ n = some val) (F : Fr h₀ L h m₁) :
    Fr h₀ L h (fun y => if y = n then some val else m₁ y) := by
  have e : (fun y => if y = n then some val else m₁ y) = m₁ := by
    funext y
    by_cases h2 : y = n
    · rw [if_pos h2, h2, hn]
    · rw [if_neg h2]
  rw [e]; exact F
section
variable {prog : Program} {w : World} {A : Around} {s : Shared} {env : Env} {h₀ : Heap} {E : Value → Shared → Prop}
noncomputable def wpJ (b : Bool) {α : Type} (M : Model) (A : Around) (t : Sem α) (Q : α → Shared → Prop) (E : Value → Shared → Prop) (s : Shared) : Prop := match b with | true => wpN M A t Q E s | false => wpAny M A t Q E s
noncomputable def codeJ (b : Bool) (M : Model) (A : Around) (c : Code) (R : Result → Shared → Prop) (s : Shared) : Prop := match b with | true => codeN M A c R s | false => codeAny M A c R s
theorem jMono {b : Bool} {α : Type} {M : Model} {A : Around} {t : Sem α} {Q Q' : α → Shared → Prop} {E E' : Value → Shared → Prop} {s : Shared} (h : wpJ b M A t Q E s) (hQ : ∀ a s, Q a s → Q' a s) (hE : ∀ e s, E e s → E' e s) : wpJ b M A t Q' E' s := by
  cases b with
  | true => exact nMono h hQ hE
  | false => exact wpAny_mono h hQ hE
theorem jForLoop {b : Bool} {prog : Program} {w : World} {A : Around} {R : Result → Shared → Prop} {target : Expr} {it : Value} {body : List Stmt} {env : Env} {s : Shared} (I : Nat → Shared → Prop)
    (turn : ∀ n s, I n s → wpAny (model prog w) A (pyNext it) (fun r s₁ => match r with
      | none => R (.ok .next) s₁
      | some v => wpAny (model prog w) A (letOwnedTupleGo target it v) (fun _ s₁' =>
          wpAny (model prog w) A (assign target env v) (fun _ s₂ => wpJ b (model prog w) A (execs body env) (fun f s₃ => match f with
            | .next | .cont => ∃ m, m < n ∧ I m s₃
            | .brk => R (.ok .next) s₃
            | .ret v => R (.ok (.ret v)) s₃) (notedBy (model prog w) A env fun e s' => R (.error e) s') s₂) (notedBy (model prog w) A env fun e s' => R (.error e) s') s₁') (notedBy (model prog w) A env fun e s' => R (.error e) s') s₁) (notedBy (model prog w) A env fun e s' => R (.error e) s') s)
    (n : Nat) (h : I n s) : codeJ b (model prog w) A (.forLoop target it body [] env) R s := by
  cases b with
  | true => exact cnForLoop I turn n h
  | false =>
    refine codeAny_forLoop_any I (fun n s hI => wpAny_mono (turn n s hI) (fun r s₁ h => ?_) (fun _ _ e => e)) n h
    cases r with
    | none => exact wpAny_execs_nil h
    | some v => exact h
end
section
namespace H_jPairs
abbrev hkD : Type := (((((Program × World) × (Around × Shared)) × ((Env × Heap) × Bool)) × ((((Result → Shared → Prop) × Str) × (Str × Pos)) × ((Pos × Pos) × Nat))) × (((((List Stmt) × Addr) × ((List Addr) × (List Addr))) × ((Nat × (Nat → Array Value → Prop)) × (Nat → Heap → Prop))) × ((((Nat → Addr → Heap → Prop) × (Nat → Value → Value → Prop)) × (Str → Option Value)) × (((List (Addr × Obj)) × (List Str)) × (Nat → (Str → Option Value) → List (Addr × Obj) → Prop)))))
def hkP (prog : Program) (w : World) (A : Around) (s : Shared) (env : Env) (h₀ : Heap) (b : Bool) (R : Result → Shared → Prop) (xi : Str) (xc : Str) (pk : Pos) (pv : Pos) (pt : Pos) (x1 : Nat) (body : List Stmt) (I : Addr) (fp : List Addr) (wr : List Addr) (n : Nat) (Pt : Nat → Array Value → Prop) (St : Nat → Heap → Prop) (Mid : Nat → Addr → Heap → Prop) (P2 : Nat → Value → Value → Prop) (m : Str → Option Value) (news : List (Addr × Obj)) (stored : List Str) (P : Nat → (Str → Option Value) → List (Addr × Obj) → Prop) : Prop := ∀ (hh : A.handled = none) (W : WalksT prog w A I fp wr n Pt St Mid) (h2 : ∀ i vals, Pt i vals → ∃ v0 v1, vals = #[v0, v1] ∧ P2 i v0 v1) (hlive : ∀ i h, St i h → ∀ b ∈ fp, ∃ o, h.get? b = some o) (hxi : env.kindOf xi = some .local) (hxc : env.kindOf xc = some .local) (hp : (env.scope.kind == .class || (env.scope.kind == .module && env.locals != env.globals)) = false) (hLf : env.locals ∉ fp) (hwr : ∀ b ∈ wr, h₀.get? b = none) (hnw : ∀ p ∈ news, p.1 ∉ fp) (hst : St 0 s.heap) (F : Fr h₀ env.locals s.heap m) (N : News h₀ env.locals s.heap news) (h0 : P 0 m news) (step : ∀ i v0 v1 (u : Str → Option Value) news₁ h tk own, i < n → P2 i v0 v1 → P i u news₁ → Kept stored m u → (∀ p ∈ own, ∀ q ∈ news₁, p.1 ≠ q.1) → St (i + 1) h → (∀ b ∈ fp, ∀ o, h₀.get? b = none → h.get? b = some o → (b, o) ∈ own) →
      Fr h₀ env.locals h (fun y => if y = xc then some v1 else if y = xi then some v0 else if stored.contains y then u y else m y) → News h₀ env.locals h (news₁ ++ own) →
      wpJ b (model prog w) A (execs body env) (StepEnd h₀ env.locals own stored m (P (i + 1)) { s with heap := h, toks := tk } fun v s' => R (.ok (.ret v)) s') (notedBy (model prog w) A env fun e s' => R (.error e) s') { s with heap := h, toks := tk }) (hR : ∀ h' tk (u : Str → Option Value) news', Fr h₀ env.locals h' (fun y => if stored.contains y then u y else m y) → News h₀ env.locals h' news' → P n u news' → Kept stored m u → (∃ H, St n H ∧ ∀ b o, b ∉ wr → H.get? b = some o → h'.get? b = some o) → R (.ok .next) { s with heap := h', toks := tk }), codeJ b (model prog w) A (.forLoop (.Tuple [.Name xi pk, .Name xc pv] x1 pt) (.ref I) body [] env) R s
def hkU (d : hkD) : Prop := hkP d.1.1.1.1.1 d.1.1.1.1.2 d.1.1.1.2.1 d.1.1.1.2.2 d.1.1.2.1.1 d.1.1.2.1.2 d.1.1.2.2 d.1.2.1.1.1 d.1.2.1.1.2 d.1.2.1.2.1 d.1.2.1.2.2 d.1.2.2.1.1 d.1.2.2.1.2 d.1.2.2.2 d.2.1.1.1.1 d.2.1.1.1.2 d.2.1.1.2.1 d.2.1.1.2.2 d.2.1.2.1.1 d.2.1.2.1.2 d.2.1.2.2 d.2.2.1.1.1 d.2.2.1.1.2 d.2.2.1.2 d.2.2.2.1.1 d.2.2.2.1.2 d.2.2.2.2
theorem hkN : Nonempty hkD := (ne2 (ne2 (ne2 (ne2 (ne2 neProg neWorld) (ne2 neAround neShared)) (ne2 (ne2 ⟨default⟩ ⟨default⟩) ⟨default⟩)) (ne2 (ne2 (ne2 ⟨default⟩ ⟨default⟩) (ne2 ⟨default⟩ ⟨default⟩)) (ne2 (ne2 ⟨default⟩ ⟨default⟩) ⟨default⟩))) (ne2 (ne2 (ne2 (ne2 ⟨default⟩ ⟨default⟩) (ne2 ⟨default⟩ ⟨default⟩)) (ne2 (ne2 ⟨default⟩ ⟨default⟩) ⟨default⟩)) (ne2 (ne2 (ne2 ⟨default⟩ ⟨default⟩) ⟨default⟩) (ne2 (ne2 ⟨default⟩ ⟨default⟩) ⟨default⟩))))
@[irreducible] def hkV : hkD := hk_c hkN hkU
@[irreducible] def prog : Program := hkV.1.1.1.1.1
@[irreducible] def w : World := hkV.1.1.1.1.2
@[irreducible] def A : Around := hkV.1.1.1.2.1
@[irreducible] def s : Shared := hkV.1.1.1.2.2
@[irreducible] def env : Env := hkV.1.1.2.1.1
@[irreducible] def h₀ : Heap := hkV.1.1.2.1.2
@[irreducible] def b : Bool := hkV.1.1.2.2
@[irreducible] def R : Result → Shared → Prop := hkV.1.2.1.1.1
@[irreducible] def xi : Str := hkV.1.2.1.1.2
@[irreducible] def xc : Str := hkV.1.2.1.2.1
@[irreducible] def pk : Pos := hkV.1.2.1.2.2
@[irreducible] def pv : Pos := hkV.1.2.2.1.1
@[irreducible] def pt : Pos := hkV.1.2.2.1.2
@[irreducible] def x1 : Nat := hkV.1.2.2.2
@[irreducible] def body : List Stmt := hkV.2.1.1.1.1
@[irreducible] def I : Addr := hkV.2.1.1.1.2
@[irreducible] def fp : List Addr := hkV.2.1.1.2.1
@[irreducible] def wr : List Addr := hkV.2.1.1.2.2
@[irreducible] def n : Nat := hkV.2.1.2.1.1
@[irreducible] def Pt : Nat → Array Value → Prop := hkV.2.1.2.1.2
@[irreducible] def St : Nat → Heap → Prop := hkV.2.1.2.2
@[irreducible] def Mid : Nat → Addr → Heap → Prop := hkV.2.2.1.1.1
@[irreducible] def P2 : Nat → Value → Value → Prop := hkV.2.2.1.1.2
@[irreducible] def m : Str → Option Value := hkV.2.2.1.2
@[irreducible] def news : List (Addr × Obj) := hkV.2.2.2.1.1
@[irreducible] def stored : List Str := hkV.2.2.2.1.2
@[irreducible] def P : Nat → (Str → Option Value) → List (Addr × Obj) → Prop := hkV.2.2.2.2
theorem core : hkP prog w A s env h₀ b R xi xc pk pv pt x1 body I fp wr n Pt St Mid P2 m news stored P := by
  unfold hkP
  intro hh W h2 hlive hxi hxc hp hLf hwr hnw hst F N h0 step hR
  have hLw : env.locals ∉ wr := fun h => hLf (W.sub _ h)
  have old : ∀ b o, h₀.get? b = some o → b ∉ wr := fun b o e hb => by rw [hwr b hb] at e; cases e
  refine jForLoop
    (fun k s' => ∃ h' tk m' news' i, s' = { s with heap := h', toks := tk } ∧ St i h' ∧ Fr h₀ env.locals h' m' ∧ News h₀ env.locals h' news' ∧ (∀ p ∈ news', p.1 ∉ fp) ∧ (Kept stored m m' ∧ P i m' news') ∧ i ≤ n ∧ k = n + 1 - i) ?_ (n + 1)
    ⟨s.heap, s.toks, m, news, 0, rfl, hst, F, N, hnw, ⟨fun _ _ => rfl, h0⟩, Nat.zero_le _, rfl⟩
  rintro k s' ⟨H, tk, m', news', i, rfl, hst', F', N', ha', ⟨hK, hJ⟩, hi, rfl⟩
  have next : ∀ h₁ : Heap, (∀ b o, b ∉ wr → H.get? b = some o → h₁.get? b = some o) → Fr h₀ env.locals h₁ m' ∧ News h₀ env.locals h₁ news' := fun h₁ hk₁ =>
    ⟨⟨F'.ns.at' fun o e => hk₁ _ o hLw e, fun b o e => hk₁ b o (old b o e) (F'.keep b o e), F'.above⟩, fun p hp => ⟨hk₁ _ _ (fun q => ha' p hp (W.sub _ q)) (N' p hp).1, (N' p hp).2⟩⟩
  by_cases hlt : i < n
  · refine W.item i _ _ _ hlt hst' fun T vals h₁ tk₁ hPt _ hT hMid hk₁ => ?_
    obtain ⟨v0, v1, rfl, hP2⟩ := h2 i vals hPt
    refine W.go _ x1 pt i T _ _ _ hMid fun h₂ hst₂ hk₂ => ?_
    have ht₂ : h₂.IsTuple T #[v0, v1] := hT.at fun o e => hk₂ T o (W.apart i T h₁ hMid) e
    refine wpAny_assign_Tuple hh ht₂ rfl rfl fun h₃ hx₃ => ?_
    replace hx₃ : Heap.ExtBut h₂.objs.size h₂ h₃ := hx₃
    have up₃ : ∀ b o, h₂.get? b = some o → h₃.get? b = some o := fun b o x => hx₃ b o (Nat.ne_of_lt (Heap.lt_size x)) x
    obtain ⟨F₃, N₃⟩ := next h₃ fun b o hb x => up₃ b o (hk₂ b o hb (hk₁ b o hb x))
    show wpAny _ A (do holding [v1] (assign (.Name xi pk) env v0); do holding [] (assign (.Name xc pv) env v1); pure ()) _ _ _
    refine wpAny_bind (wpAny_holding (wpAny_assign_Name (wpAny_storeName_local hxi F₃.ns (fun h₄ hn₄ hs₄ => ?_) hp)))
    replace hs₄ : Heap.SameBut env.locals h₃ h₄ := hs₄
    have F₄ := F₃.set hn₄ hs₄
    refine wpAny_bind (wpAny_holding (wpAny_assign_Name (wpAny_storeName_local hxc F₄.ns (fun h₅ hn₅ hs₅ => wpAny_pure ?_) hp)))
    replace hs₅ : Heap.SameBut env.locals h₄ h₅ := hs₅
    have F₅ := F₄.set hn₅ hs₅
    have N₅ : News h₀ env.locals h₅ news' := (N₃.set hs₄).set hs₅
    have hst₅ : St (i + 1) h₅ := W.frame _ _ _ hst₂ fun b hb o e => hs₅.extBut b o (fun q => hLf (q ▸ hb)) (hs₄.extBut b o (fun q => hLf (q ▸ hb)) (up₃ b o e))
    rw [kept_map hK] at F₅
    refine jMono (step i v0 v1 m' news' _ _ (ownOf h₀ fp h₅) hlt hP2 hJ hK (fun p hp q hq e => ha' q hq (e ▸ ownOf_sub p hp)) hst₅ (fun b hb o h1 h2 => mem_ownOf hb h1 h2) F₅ (news_swap ((news_ownOf hLf).append N₅))) (fun f s₃ h₆ => ?_) fun _ _ e => e
    have fin : (∃ h' tk m₁ news₁, s₃ = { s with heap := h', toks := tk } ∧ Fr h₀ env.locals h' m₁ ∧ News h₀ env.locals h' (news₁ ++ ownOf h₀ fp h₅) ∧ (∀ p ∈ news₁, ∀ q ∈ ownOf h₀ fp h₅, q.1 ≠ p.1) ∧ Kept stored m m₁ ∧ P (i + 1) m₁ news₁) →
        ∃ k', k' < n + 1 - i ∧ ∃ h' tk m' news' i', s₃ = { s with heap := h', toks := tk } ∧ St i' h' ∧ Fr h₀ env.locals h' m' ∧ News h₀ env.locals h' news' ∧ (∀ p ∈ news', p.1 ∉ fp) ∧ (Kept stored m m' ∧ P i' m' news') ∧ i' ≤ n ∧ k' = n + 1 - i' := by
      rintro ⟨h₆', tk₆, m₂, news₂, rfl, F₆, N₆, ha₆, hK₆, hP₆⟩
      refine ⟨n + 1 - (i + 1), by lia, h₆', tk₆, m₂, news₂, i + 1, rfl, ?_, F₆, fun p hp => N₆ p (List.mem_append_left _ hp), fun p hp hq => ?_, ⟨hK₆, hP₆⟩, hlt, rfl⟩
      · refine W.frame _ _ _ hst₅ fun b hb o e => ?_
        cases hn : h₀.get? b with
        | some o₀ =>
          have : o₀ = o := by have q := F₅.keep b o₀ hn; rw [e] at q; exact (Option.some.inj q).symm
          exact this ▸ F₆.keep b o₀ hn
        | none => exact (N₆ _ (List.mem_append_right _ (mem_ownOf hb hn e))).1
      · obtain ⟨o, ho⟩ := hlive _ _ hst₅ _ hq
        exact ha₆ p hp _ (mem_ownOf hq (N₆ p (List.mem_append_left _ hp)).2.2 ho) rfl
    cases f with
    | ret v => exact h₆
    | brk => exact h₆.elim
    | next => exact fin h₆
    | cont => exact fin h₆
  · have hin : i = n := by lia
    subst hin
    refine W.done _ _ _ hst' fun h₁ tk₁ hk₁ => ?_
    obtain ⟨F₁, N₁⟩ := next h₁ hk₁
    rw [kept_map hK] at F₁
    exact (hR h₁ tk₁ m' news' F₁ N₁ hJ hK ⟨H, hst', hk₁⟩)
end H_jPairs
end
section
variable {prog : Program} {w : World} {A : Around} {s : Shared} {env : Env} {h₀ : Heap} {E : Value → Shared → Prop}
theorem jPairs {b : Bool} {R : Result → Shared → Prop} {xi xc : Str} {pk pv pt : Pos} {x1 : Nat} {body : List Stmt} {I : Addr} {fp wr : List Addr} {n : Nat} {Pt : Nat → Array Value → Prop} {St : Nat → Heap → Prop} {Mid : Nat → Addr → Heap → Prop}
    {P2 : Nat → Value → Value → Prop} {m : Str → Option Value} {news : List (Addr × Obj)} (stored : List Str) (P : Nat → (Str → Option Value) → List (Addr × Obj) → Prop) (hh : A.handled = none) (W : WalksT prog w A I fp wr n Pt St Mid) (h2 : ∀ i vals, Pt i vals → ∃ v0 v1, vals = #[v0, v1] ∧ P2 i v0 v1)
    (hlive : ∀ i h, St i h → ∀ b ∈ fp, ∃ o, h.get? b = some o)
    (hxi : env.kindOf xi = some .local) (hxc : env.kindOf xc = some .local)
    (hp : (env.scope.kind == .class || (env.scope.kind == .module && env.locals != env.globals)) = false)
    (hLf : env.locals ∉ fp) (hwr : ∀ b ∈ wr, h₀.get? b = none) (hnw : ∀ p ∈ news, p.1 ∉ fp)
    (hst : St 0 s.heap) (F : Fr h₀ env.locals s.heap m) (N : News h₀ env.locals s.heap news) (h0 : P 0 m news)
    (step : ∀ i v0 v1 (u : Str → Option Value) news₁ h tk own, i < n → P2 i v0 v1 → P i u news₁ → Kept stored m u → (∀ p ∈ own, ∀ q ∈ news₁, p.1 ≠ q.1) → St (i + 1) h → (∀ b ∈ fp, ∀ o, h₀.get? b = none → h.get? b = some o → (b, o) ∈ own) →
      Fr h₀ env.locals h (fun y => if y = xc then some v1 else if y = xi then some v0 else if stored.contains y then u y else m y) → News h₀ env.locals h (news₁ ++ own) →
      wpJ b (model prog w) A (execs body env) (StepEnd h₀ env.locals own stored m (P (i + 1)) { s with heap := h, toks := tk } fun v s' => R (.ok (.ret v)) s') (notedBy (model prog w) A env fun e s' => R (.error e) s') { s with heap := h, toks := tk })
    (hR : ∀ h' tk (u : Str → Option Value) news', Fr h₀ env.locals h' (fun y => if stored.contains y then u y else m y) → News h₀ env.locals h' news' → P n u news' → Kept stored m u → (∃ H, St n H ∧ ∀ b o, b ∉ wr → H.get? b = some o → h'.get? b = some o) → R (.ok .next) { s with heap := h', toks := tk }) :
    codeJ b (model prog w) A (.forLoop (.Tuple [.Name xi pk, .Name xc pv] x1 pt) (.ref I) body [] env) R s :=
  hk_all H_jPairs.hkN H_jPairs.hkU (by with_unfolding_all exact H_jPairs.core) (((((prog, w), (A, s)), ((env, h₀), b)), (((R, xi), (xc, pk)), ((pv, pt), x1))), ((((body, I), (fp, wr)), ((n, Pt), St)), (((Mid, P2), m), ((news, stored), P)))) hh W h2 hlive hxi hxc hp hLf hwr hnw hst F N h0 step hR
end
section
namespace H_jName
abbrev hkD : Type := (((((Program × World) × Around) × ((Shared × Env) × Heap)) × (((Bool × (Result → Shared → Prop)) × Str) × (Pos × (List Stmt)))) × ((((Addr × (List Addr)) × (List Addr)) × (Nat × (Nat → Value → Prop))) × ((((Nat → Heap → Prop) × (Str → Option Value)) × (List (Addr × Obj))) × ((List Str) × (Nat → (Str → Option Value) → List (Addr × Obj) → Prop)))))
def hkP (prog : Program) (w : World) (A : Around) (s : Shared) (env : Env) (h₀ : Heap) (b : Bool) (R : Result → Shared → Prop) (x : Str) (pv : Pos) (body : List Stmt) (I : Addr) (fp : List Addr) (wr : List Addr) (n : Nat) (Pv : Nat → Value → Prop) (St : Nat → Heap → Prop) (m : Str → Option Value) (news : List (Addr × Obj)) (stored : List Str) (P : Nat → (Str → Option Value) → List (Addr × Obj) → Prop) : Prop := ∀ (W : Walks prog w A I fp wr n Pv St) (hlive : ∀ i h, St i h → ∀ b ∈ fp, ∃ o, h.get? b = some o) (hx : env.kindOf x = some .local) (hp : (env.scope.kind == .class || (env.scope.kind == .module && env.locals != env.globals)) = false) (hLf : env.locals ∉ fp) (hwr : ∀ b ∈ wr, h₀.get? b = none) (hnw : ∀ p ∈ news, p.1 ∉ fp) (hst : St 0 s.heap) (F : Fr h₀ env.locals s.heap m) (N : News h₀ env.locals s.heap news) (h0 : P 0 m news) (step : ∀ i v (u : Str → Option Value) news₁ h tk own, i < n → Pv i v → P i u news₁ → Kept stored m u → (∀ p ∈ own, ∀ q ∈ news₁, p.1 ≠ q.1) → St (i + 1) h → (∀ b ∈ fp, ∀ o, h₀.get? b = none → h.get? b = some o → (b, o) ∈ own) →
      Fr h₀ env.locals h (fun y => if y = x then some v else if stored.contains y then u y else m y) → News h₀ env.locals h (news₁ ++ own) →
      wpJ b (model prog w) A (execs body env) (StepEnd h₀ env.locals own stored m (P (i + 1)) { s with heap := h, toks := tk } fun v s' => R (.ok (.ret v)) s') (notedBy (model prog w) A env fun e s' => R (.error e) s') { s with heap := h, toks := tk }) (hR : ∀ h' tk (u : Str → Option Value) news', Fr h₀ env.locals h' (fun y => if stored.contains y then u y else m y) → News h₀ env.locals h' news' → P n u news' → Kept stored m u → (∃ H, St n H ∧ ∀ b o, b ∉ wr → H.get? b = some o → h'.get? b = some o) → R (.ok .next) { s with heap := h', toks := tk }), codeJ b (model prog w) A (.forLoop (.Name x pv) (.ref I) body [] env) R s
def hkU (d : hkD) : Prop := hkP d.1.1.1.1.1 d.1.1.1.1.2 d.1.1.1.2 d.1.1.2.1.1 d.1.1.2.1.2 d.1.1.2.2 d.1.2.1.1.1 d.1.2.1.1.2 d.1.2.1.2 d.1.2.2.1 d.1.2.2.2 d.2.1.1.1.1 d.2.1.1.1.2 d.2.1.1.2 d.2.1.2.1 d.2.1.2.2 d.2.2.1.1.1 d.2.2.1.1.2 d.2.2.1.2 d.2.2.2.1 d.2.2.2.2
theorem hkN : Nonempty hkD := (ne2 (ne2 (ne2 (ne2 (ne2 neProg neWorld) neAround) (ne2 (ne2 neShared ⟨default⟩) ⟨default⟩)) (ne2 (ne2 (ne2 ⟨default⟩ ⟨default⟩) ⟨default⟩) (ne2 ⟨default⟩ ⟨default⟩))) (ne2 (ne2 (ne2 (ne2 ⟨default⟩ ⟨default⟩) ⟨default⟩) (ne2 ⟨default⟩ ⟨default⟩)) (ne2 (ne2 (ne2 ⟨default⟩ ⟨default⟩) ⟨default⟩) (ne2 ⟨default⟩ ⟨default⟩))))
@[irreducible] def hkV : hkD := hk_c hkN hkU
@[irreducible] def prog : Program := hkV.1.1.1.1.1
@[irreducible] def w : World := hkV.1.1.1.1.2
@[irreducible] def A : Around := hkV.1.1.1.2
@[irreducible] def s : Shared := hkV.1.1.2.1.1
@[irreducible] def env : Env := hkV.1.1.2.1.2
@[irreducible] def h₀ : Heap := hkV.1.1.2.2
@[irreducible] def b : Bool := hkV.1.2.1.1.1
@[irreducible] def R : Result → Shared → Prop := hkV.1.2.1.1.2
@[irreducible] def x : Str := hkV.1.2.1.2
@[irreducible] def pv : Pos := hkV.1.2.2.1
@[irreducible] def body : List Stmt := hkV.1.2.2.2
@[irreducible] def I : Addr := hkV.2.1.1.1.1
@[irreducible] def fp : List Addr := hkV.2.1.1.1.2
@[irreducible] def wr : List Addr := hkV.2.1.1.2
@[irreducible] def n : Nat := hkV.2.1.2.1
@[irreducible] def Pv : Nat → Value → Prop := hkV.2.1.2.2
@[irreducible] def St : Nat → Heap → Prop := hkV.2.2.1.1.1
@[irreducible] def m : Str → Option Value := hkV.2.2.1.1.2
@[irreducible] def news : List (Addr × Obj) := hkV.2.2.1.2
@[irreducible] def stored : List Str := hkV.2.2.2.1
@[irreducible] def P : Nat → (Str → Option Value) → List (Addr × Obj) → Prop := hkV.2.2.2.2
theorem core : hkP prog w A s env h₀ b R x pv body I fp wr n Pv St m news stored P := by
  unfold hkP
  intro W hlive hx hp hLf hwr hnw hst F N h0 step hR
  have hLw : env.locals ∉ wr := fun h => hLf (W.sub _ h)
  have old : ∀ b o, h₀.get? b = some o → b ∉ wr := fun b o e hb => by rw [hwr b hb] at e; cases e
  refine jForLoop
    (fun k s' => ∃ h' tk m' news' i, s' = { s with heap := h', toks := tk } ∧ St i h' ∧ Fr h₀ env.locals h' m' ∧ News h₀ env.locals h' news' ∧ (∀ p ∈ news', p.1 ∉ fp) ∧ (Kept stored m m' ∧ P i m' news') ∧ i ≤ n ∧ k = n + 1 - i) ?_ (n + 1)
    ⟨s.heap, s.toks, m, news, 0, rfl, hst, F, N, hnw, ⟨fun _ _ => rfl, h0⟩, Nat.zero_le _, rfl⟩
  rintro k s' ⟨H, tk, m', news', i, rfl, hst', F', N', ha', ⟨hK, hJ⟩, hi, rfl⟩
  have next : ∀ h₁ : Heap, (∀ b o, b ∉ wr → H.get? b = some o → h₁.get? b = some o) → Fr h₀ env.locals h₁ m' ∧ News h₀ env.locals h₁ news' := fun h₁ hk₁ =>
    ⟨⟨F'.ns.at' fun o e => hk₁ _ o hLw e, fun b o e => hk₁ b o (old b o e) (F'.keep b o e), F'.above⟩, fun p hp => ⟨hk₁ _ _ (fun q => ha' p hp (W.sub _ q)) (N' p hp).1, (N' p hp).2⟩⟩
  by_cases hlt : i < n
  · refine W.item i _ _ _ hlt hst' fun v h₁ tk₁ hPv hst₁ hk₁ => ?_
    obtain ⟨F₁, N₁⟩ := next h₁ hk₁
    show wpAny _ A (letOwnedTupleGo (.Name x pv) (.ref I) v) _ _ _
    refine wpAny_of_eq (a := ()) rfl ?_
    refine wpAny_assign_Name (wpAny_storeName_local hx F₁.ns (fun h₂ hn₂ hs₂ => ?_) hp)
    replace hs₂ : Heap.SameBut env.locals h₁ h₂ := hs₂
    have F₂ := F₁.set hn₂ hs₂
    have N₂ : News h₀ env.locals h₂ news' := N₁.set hs₂
    have hst₂ : St (i + 1) h₂ := W.frame _ _ _ hst₁ fun b hb o e => hs₂.extBut b o (fun q => hLf (q ▸ hb)) e
    rw [kept_map hK] at F₂
    refine jMono (step i v m' news' _ _ (ownOf h₀ fp h₂) hlt hPv hJ hK (fun p hp q hq e => ha' q hq (e ▸ ownOf_sub p hp)) hst₂ (fun b hb o h1 h2 => mem_ownOf hb h1 h2) F₂ (news_swap ((news_ownOf hLf).append N₂))) (fun f s₃ h₆ => ?_) fun _ _ e => e
    have fin : (∃ h' tk m₁ news₁, s₃ = { s with heap := h', toks := tk } ∧ Fr h₀ env.locals h' m₁ ∧ News h₀ env.locals h' (news₁ ++ ownOf h₀ fp h₂) ∧ (∀ p ∈ news₁, ∀ q ∈ ownOf h₀ fp h₂, q.1 ≠ p.1) ∧ Kept stored m m₁ ∧ P (i + 1) m₁ news₁) →
        ∃ k', k' < n + 1 - i ∧ ∃ h' tk m' news' i', s₃ = { s with heap := h', toks := tk } ∧ St i' h' ∧ Fr h₀ env.locals h' m' ∧ News h₀ env.locals h' news' ∧ (∀ p ∈ news', p.1 ∉ fp) ∧ (Kept stored m m' ∧ P i' m' news') ∧ i' ≤ n ∧ k' = n + 1 - i' := by
      rintro ⟨h₆', tk₆, m₂, news₂, rfl, F₆, N₆, ha₆, hK₆, hP₆⟩
      refine ⟨n + 1 - (i + 1), by lia, h₆', tk₆, m₂, news₂, i + 1, rfl, ?_, F₆, fun p hp => N₆ p (List.mem_append_left _ hp), fun p hp hq => ?_, ⟨hK₆, hP₆⟩, hlt, rfl⟩
      · refine W.frame _ _ _ hst₂ fun b hb o e => ?_
        cases hn : h₀.get? b with
        | some o₀ =>
          have : o₀ = o := by have q := F₂.keep b o₀ hn; rw [e] at q; exact (Option.some.inj q).symm
          exact this ▸ F₆.keep b o₀ hn
        | none => exact (N₆ _ (List.mem_append_right _ (mem_ownOf hb hn e))).1
      · obtain ⟨o, ho⟩ := hlive _ _ hst₂ _ hq
        exact ha₆ p hp _ (mem_ownOf hq (N₆ p (List.mem_append_left _ hp)).2.2 ho) rfl
    cases f with
    | ret v => exact h₆
    | brk => exact h₆.elim
    | next => exact fin h₆
    | cont => exact fin h₆
  · have hin : i = n := by lia
    subst hin
    refine W.done _ _ _ hst' fun h₁ tk₁ hk₁ => ?_
    obtain ⟨F₁, N₁⟩ := next h₁ hk₁
    rw [kept_map hK] at F₁
    exact (hR h₁ tk₁ m' news' F₁ N₁ hJ hK ⟨H, hst', hk₁⟩)
end H_jName
end
section
variable {prog : Program} {w : World} {A : Around} {s : Shared} {env : Env} {h₀ : Heap} {E : Value → Shared → Prop}
theorem jName {b : Bool} {R : Result → Shared → Prop} {x : Str} {pv : Pos} {body : List Stmt} {I : Addr} {fp wr : List Addr} {n : Nat} {Pv : Nat → Value → Prop} {St : Nat → Heap → Prop}
    {m : Str → Option Value} {news : List (Addr × Obj)} (stored : List Str) (P : Nat → (Str → Option Value) → List (Addr × Obj) → Prop) (W : Walks prog w A I fp wr n Pv St)
    (hlive : ∀ i h, St i h → ∀ b ∈ fp, ∃ o, h.get? b = some o)
    (hx : env.kindOf x = some .local) (hp : (env.scope.kind == .class || (env.scope.kind == .module && env.locals != env.globals)) = false)
    (hLf : env.locals ∉ fp) (hwr : ∀ b ∈ wr, h₀.get? b = none) (hnw : ∀ p ∈ news, p.1 ∉ fp)
    (hst : St 0 s.heap) (F : Fr h₀ env.locals s.heap m) (N : News h₀ env.locals s.heap news) (h0 : P 0 m news)
    (step : ∀ i v (u : Str → Option Value) news₁ h tk own, i < n → Pv i v → P i u news₁ → Kept stored m u → (∀ p ∈ own, ∀ q ∈ news₁, p.1 ≠ q.1) → St (i + 1) h → (∀ b ∈ fp, ∀ o, h₀.get? b = none → h.get? b = some o → (b, o) ∈ own) →
      Fr h₀ env.locals h (fun y => if y = x then some v else if stored.contains y then u y else m y) → News h₀ env.locals h (news₁ ++ own) →
      wpJ b (model prog w) A (execs body env) (StepEnd h₀ env.locals own stored m (P (i + 1)) { s with heap := h, toks := tk } fun v s' => R (.ok (.ret v)) s') (notedBy (model prog w) A env fun e s' => R (.error e) s') { s with heap := h, toks := tk })
    (hR : ∀ h' tk (u : Str → Option Value) news', Fr h₀ env.locals h' (fun y => if stored.contains y then u y else m y) → News h₀ env.locals h' news' → P n u news' → Kept stored m u → (∃ H, St n H ∧ ∀ b o, b ∉ wr → H.get? b = some o → h'.get? b = some o) → R (.ok .next) { s with heap := h', toks := tk }) :
    codeJ b (model prog w) A (.forLoop (.Name x pv) (.ref I) body [] env) R s :=
  hk_all H_jName.hkN H_jName.hkU (by with_unfolding_all exact H_jName.core) (((((prog, w), A), ((s, env), h₀)), (((b, R), x), (pv, body))), ((((I, fp), wr), (n, Pv)), (((St, m), news), (stored, P)))) W hlive hx hp hLf hwr hnw hst F N h0 step hR
theorem nEnumB {R : Result → Shared → Prop} {xi xc : Str} {pk pv pt : Pos} {x1 : Nat} {body : List Stmt} {b : Array UInt8} {tb : Tok} {ks : List Int} {m : Str → Option Value} {news : List (Addr × Obj)} (stored : List Str) (P : Nat → (Str → Option Value) → List (Addr × Obj) → Prop)
    (hb : KBw.bInts b = ks) (hh : A.handled = none) (hxi : env.kindOf xi = some .local) (hxc : env.kindOf xc = some .local)
    (hp : (env.scope.kind == .class || (env.scope.kind == .module && env.locals != env.globals)) = false)
    (F : Fr h₀ env.locals s.heap m) (N : News h₀ env.locals s.heap news) (h0 : P 0 m news)
    (step : ∀ i k t0 t1 (u : Str → Option Value) news₁ h tk own, i < ks.length → ks[i]? = some k → 0 ≤ k → k < 256 → P i u news₁ → Kept stored m u → (∀ p ∈ own, ∀ q ∈ news₁, p.1 ≠ q.1) →
      Fr h₀ env.locals h (fun y => if y = xc then some (.int k t1) else if y = xi then some (.int (i : Nat) t0) else if stored.contains y then u y else m y) → News h₀ env.locals h (news₁ ++ own) →
      wpN (model prog w) A (execs body env) (StepEnd h₀ env.locals own stored m (P (i + 1)) { s with heap := h, toks := tk } fun v s' => R (.ok (.ret v)) s') (notedBy (model prog w) A env fun e s' => R (.error e) s') { s with heap := h, toks := tk })
    (hR : ∀ h' tk (u : Str → Option Value) news', Fr h₀ env.locals h' (fun y => if stored.contains y then u y else m y) → News h₀ env.locals h' news' → P ks.length u news' → Kept stored m u → R (.ok .next) { s with heap := h', toks := tk }) :
    wpAny (model prog w) A (call (.type "enumerate") [.bytes b tb]) (fun xv s₁ => wpAny (model prog w) A (pyIter xv) (fun it s₂ => codeN (model prog w) A (.forLoop (.Tuple [.Name xi pk, .Name xc pv] x1 pt) it body [] env) R s₂) E s₁) E s := by
  subst hb
  refine BE.call_enum fun h' he hit hz hk => ?_
  refine wpAny_pyIter_enum he ?_
  have hLs : env.locals < s.heap.objs.size := F.ns.lt
  have hab : h₀.objs.size ≤ env.locals := F.above
  have W := WalksT.enumerateD (BE.draws (prog := prog) (w := w) (A := A.in1) hh s.heap.objs.size b tb) (s.heap.objs.size + 1) (Nat.succ_ne_self _) (by simp) (by simp)
  have hln := KBw.ints_length b
  refine jPairs (b := true) (s := { s with heap := h' }) (P2 := fun i v0 v1 => ∃ (t0 t1 : Tok) (k : Int), (KBw.bInts b)[i]? = some k ∧ v0 = .int (i : Nat) t0 ∧ v1 = .int k t1) stored P hh W ?_ ?_ hxi hxc hp ?_ ?_ ?_ ⟨⟨_, he⟩, hit⟩ ⟨F.ns.keeps hk, fun b o e => hk b o (F.keep b o e), F.above⟩ (fun p hp => ⟨hk _ _ (N p hp).1, (N p hp).2⟩) h0 ?_ ?_
  · rintro i vals ⟨t, x, ⟨c, u, hc, rfl⟩, rfl⟩
    exact ⟨_, _, rfl, t, u, _, KBw.ints_get hc, rfl, rfl⟩
  · rintro i h ⟨⟨_, h1⟩, o, h2, _⟩ b' hb'
    rcases List.mem_cons.mp hb' with rfl | hb'
    · exact ⟨_, h1⟩
    · exact List.mem_singleton.mp hb' ▸ ⟨_, h2⟩
  · intro hm
    rcases List.mem_cons.mp hm with e | hm
    · exact Nat.ne_of_lt (Nat.lt_succ_of_lt hLs) e
    · exact Nat.ne_of_lt hLs (List.mem_singleton.mp hm)
  · intro b hb
    rcases List.mem_cons.mp hb with rfl | hb
    · exact Heap.get?_none_of_le (Nat.le_trans hab (Nat.le_of_lt (Nat.lt_succ_of_lt hLs)))
    · exact List.mem_singleton.mp hb ▸ Heap.get?_none_of_le (Nat.le_trans hab (Nat.le_of_lt hLs))
  · intro p hp hm
    have hq1 : p.1 < s.heap.objs.size := Heap.lt_size (N p hp).1
    rcases List.mem_cons.mp hm with e | hm
    · exact Nat.ne_of_lt (Nat.lt_succ_of_lt hq1) e
    · exact Nat.ne_of_lt hq1 (List.mem_singleton.mp hm)
  · rintro i v0 v1 u news₁ h tk own hi ⟨t0, t1, k, hg, rfl, rfl⟩ hP hK ho _ _ F₁ N₁
    have hb := KBw.ints_in (List.mem_of_getElem? hg)
    exact step i k t0 t1 u news₁ h tk own (by rw [hln]; exact hi) hg hb.1 hb.2 hP hK ho F₁ N₁
  · intro h' tk u news' F' N' hP hK _
    exact hR h' tk u news' F' N' (by rw [hln]; exact hP) hK
theorem nEnumL {R : Result → Shared → Prop} {xi xc : Str} {pk pv pt : Pos} {x1 : Nat} {body : List Stmt} {l : Addr} {items : Array Value} {c : Nat} {m : Str → Option Value} {news : List (Addr × Obj)} (stored : List Str) (P : Nat → (Str → Option Value) → List (Addr × Obj) → Prop)
    (hm : (l, listOf items c) ∈ news) (hh : A.handled = none) (hxi : env.kindOf xi = some .local) (hxc : env.kindOf xc = some .local)
    (hp : (env.scope.kind == .class || (env.scope.kind == .module && env.locals != env.globals)) = false)
    (F : Fr h₀ env.locals s.heap m) (N : News h₀ env.locals s.heap news) (h0 : P 0 m (news.filter fun p => p.1 != l))
    (step : ∀ i v t0 (u : Str → Option Value) news₁ h tk own, i < items.size → items[i]? = some v → P i u news₁ → Kept stored m u → (∀ p ∈ own, ∀ q ∈ news₁, p.1 ≠ q.1) → (l, listOf items c) ∈ own →
      Fr h₀ env.locals h (fun y => if y = xc then some v else if y = xi then some (.int (i : Nat) t0) else if stored.contains y then u y else m y) → News h₀ env.locals h (news₁ ++ own) →
      wpN (model prog w) A (execs body env) (StepEnd h₀ env.locals own stored m (P (i + 1)) { s with heap := h, toks := tk } fun v s' => R (.ok (.ret v)) s') (notedBy (model prog w) A env fun e s' => R (.error e) s') { s with heap := h, toks := tk })
    (hR : ∀ h' tk (u : Str → Option Value) news', Fr h₀ env.locals h' (fun y => if stored.contains y then u y else m y) → News h₀ env.locals h' ((l, listOf items c) :: news') → P items.size u news' → Kept stored m u → R (.ok .next) { s with heap := h', toks := tk }) :
    wpAny (model prog w) A (call (.type "enumerate") [.ref l]) (fun xv s₁ => wpAny (model prog w) A (pyIter xv) (fun it s₂ => codeN (model prog w) A (.forLoop (.Tuple [.Name xi pk, .Name xc pv] x1 pt) it body [] env) R s₂) E s₁) E s := by
  have hL : s.heap.IsList l items := ⟨_, (N _ hm).1, rfl, c, rfl⟩
  refine call_enumerate_list hL fun h' he hit hz hk => ?_
  refine wpAny_pyIter_enum he ?_
  have hl2 : l < s.heap.objs.size := Heap.lt_size (N _ hm).1
  have hLs : env.locals < s.heap.objs.size := F.ns.lt
  have hLl : l ≠ env.locals := (N _ hm).2.1
  have hab : h₀.objs.size ≤ env.locals := F.above
  have hlh : h₀.get? l = none := (N _ hm).2.2
  have W := WalksT.enumerateD (Draws.list (prog := prog) (w := w) (A := A.in1) hh s.heap.objs.size l (Nat.ne_of_lt hl2) items) (s.heap.objs.size + 1) (Nat.succ_ne_self _)
    (by simp only [List.mem_cons, List.not_mem_nil, or_false, not_or]; exact ⟨Nat.succ_ne_self _, Nat.ne_of_gt (Nat.lt_succ_of_lt hl2)⟩) (by simp)
  have hN' : News h₀ env.locals h' news := fun p hp => ⟨hk _ _ (N p hp).1, (N p hp).2⟩
  refine jPairs (b := true) (s := { s with heap := h' }) (fp := (s.heap.objs.size + 1) :: [s.heap.objs.size, l]) (n := items.size) (St := fun i h => ((∃ old, IsEnum h (s.heap.objs.size + 1) s.heap.objs.size i old) ∧ h.IsListIter s.heap.objs.size l i ∧ h.IsList l items) ∧ h.get? l = some (listOf items c)) (P2 := fun i v0 v1 => ∃ (t0 : Tok), items[i]? = some v1 ∧ v0 = .int (i : Nat) t0)
    (Pt := fun i vals => ∃ t x, items[i]? = some x ∧ vals = #[.int i t, x]) (wr := [s.heap.objs.size + 1, s.heap.objs.size])
    (Mid := fun i T h => ((∃ x, IsEnumOut h (s.heap.objs.size + 1) s.heap.objs.size ((i : Int) + 1) x T) ∧ (h.IsListIter s.heap.objs.size l (i + 1) ∧ h.IsList l items) ∧ T ≠ s.heap.objs.size + 1 ∧ T ≠ s.heap.objs.size) ∧ h.get? l = some (listOf items c))
    stored P hh ⟨W.sub, fun i h h' hst hk => ⟨W.frame i h h' hst.1 hk, hk l (by simp) _ hst.2⟩, fun i s' Q E hi hst hQ => W.item i s' Q E hi hst.1 fun T vals h₁ tk a b c d e => hQ T vals h₁ tk a b c ⟨d, e l _ ?_ hst.2⟩ e, fun elts k pos i T s' Q E hmid hQ => W.go elts k pos i T s' Q E hmid.1 fun h₁ a e => hQ h₁ ⟨a, e l _ ?_ hmid.2⟩ e, fun i T h hm => W.apart i T h hm.1, fun s' Q E hst hQ => W.done s' Q E hst.1 hQ, fun i s' Q E hst hQ => W.self i s' Q E hst.1 hQ⟩ ?_ ?_ hxi hxc hp ?_ ?_ ?_
    ⟨⟨⟨_, he⟩, hit, hL.at fun o e => hk _ o e⟩, hk _ _ (N _ hm).1⟩ ⟨F.ns.keeps hk, fun b o e => hk b o (F.keep b o e), F.above⟩ (fun p hp => hN' p (List.mem_filter.mp hp).1) h0 ?_ ?_
  · simp only [List.mem_cons, List.not_mem_nil, or_false, not_or]; exact ⟨Nat.ne_of_lt (Nat.lt_succ_of_lt hl2), Nat.ne_of_lt hl2⟩
  · simp only [List.mem_cons, List.not_mem_nil, or_false, not_or]; exact ⟨Nat.ne_of_lt (Nat.lt_succ_of_lt hl2), Nat.ne_of_lt hl2⟩
  · rintro i vals ⟨t, x, hc, rfl⟩
    exact ⟨_, _, rfl, t, hc, rfl⟩
  · rintro i h ⟨⟨⟨_, h1⟩, ⟨o, h2, _⟩, _⟩, h3⟩ b' hb'
    rcases List.mem_cons.mp hb' with rfl | hb'
    · exact ⟨_, h1⟩
    · rcases List.mem_cons.mp hb' with rfl | hb'
      · exact ⟨_, h2⟩
      · exact List.mem_singleton.mp hb' ▸ ⟨_, h3⟩
  · intro hm'
    rcases List.mem_cons.mp hm' with e | hm'
    · exact Nat.ne_of_lt (Nat.lt_succ_of_lt hLs) e
    · rcases List.mem_cons.mp hm' with e | hm'
      · exact Nat.ne_of_lt hLs e
      · exact hLl (List.mem_singleton.mp hm').symm
  · intro b hb
    rcases List.mem_cons.mp hb with rfl | hb
    · exact Heap.get?_none_of_le (Nat.le_trans hab (Nat.le_of_lt (Nat.lt_succ_of_lt hLs)))
    · exact List.mem_singleton.mp hb ▸ Heap.get?_none_of_le (Nat.le_trans hab (Nat.le_of_lt hLs))
  · intro p hp hm'
    obtain ⟨hp, hpl⟩ := List.mem_filter.mp hp
    have hq1 : p.1 < s.heap.objs.size := Heap.lt_size (N p hp).1
    rcases List.mem_cons.mp hm' with e | hm'
    · exact Nat.ne_of_lt (Nat.lt_succ_of_lt hq1) e
    · rcases List.mem_cons.mp hm' with e | hm'
      · exact Nat.ne_of_lt hq1 e
      · rw [List.mem_singleton.mp hm'] at hpl; simp at hpl
  · rintro i v0 v1 u news₁ h tk own hi ⟨t0, hg, rfl⟩ hP hK ho hst₁ hown F₁ N₁
    exact step i v1 t0 u news₁ h tk own hi hg hP hK ho (hown l (by simp) _ hlh hst₁.2) F₁ N₁
  · rintro h' tk u news' F' N' hP hK ⟨H, hst₁, hk₁⟩
    refine hR h' tk u news' F' (fun p hp => ?_) hP hK
    rcases List.mem_cons.mp hp with rfl | hp
    · exact ⟨hk₁ l _ (by simp only [List.mem_cons, List.not_mem_nil, or_false, not_or]; first | exact ⟨Nat.ne_of_lt (Nat.lt_succ_of_lt hl2), Nat.ne_of_lt hl2⟩ | exact Nat.ne_of_lt hl2) hst₁.2, hLl, hlh⟩
    · exact N' p hp
theorem nRange {R : Result → Shared → Prop} {x : Str} {pv : Pos} {body : List Stmt} {r : Addr} {a₀ b₀ d : Int} {t₀ u₀ v₀ : Tok} {n : Nat} {m : Str → Option Value} {news : List (Addr × Obj)} (stored : List Str) (P : Nat → (Str → Option Value) → List (Addr × Obj) → Prop)
    (hh : A.handled = none) (hr : IsRange s.heap r a₀ b₀ d t₀ u₀ v₀) (hsmall : Builtin.Range.small a₀ b₀ d = true) (hn : Builtin.Range.rangeSize a₀ b₀ d = (n : Int)) (hx : env.kindOf x = some .local)
    (hp : (env.scope.kind == .class || (env.scope.kind == .module && env.locals != env.globals)) = false)
    (F : Fr h₀ env.locals s.heap m) (N : News h₀ env.locals s.heap news) (h0 : P 0 m news)
    (step : ∀ (i : Nat) t (u : Str → Option Value) news₁ h tk own, i < n → P i u news₁ → Kept stored m u → (∀ p ∈ own, ∀ q ∈ news₁, p.1 ≠ q.1) →
      Fr h₀ env.locals h (fun y => if y = x then some (.int (a₀ + (i : Int) * d) t) else if stored.contains y then u y else m y) → News h₀ env.locals h (news₁ ++ own) →
      wpN (model prog w) A (execs body env) (StepEnd h₀ env.locals own stored m (P (i + 1)) { s with heap := h, toks := tk } fun v s' => R (.ok (.ret v)) s') (notedBy (model prog w) A env fun e s' => R (.error e) s') { s with heap := h, toks := tk })
    (hR : ∀ h' tk (u : Str → Option Value) news', Fr h₀ env.locals h' (fun y => if stored.contains y then u y else m y) → News h₀ env.locals h' news' → P n u news' → Kept stored m u → R (.ok .next) { s with heap := h', toks := tk }) :
    wpAny (model prog w) A (pyIter (.ref r)) (fun it s₂ => codeN (model prog w) A (.forLoop (.Name x pv) it body [] env) R s₂) E s := by
  refine wpAny_pyIter_range hr hsmall ?_
  have hLs : env.locals < s.heap.objs.size := F.ns.lt
  have hab : h₀.objs.size ≤ env.locals := F.above
  have W : Walks prog w A s.heap.objs.size [s.heap.objs.size] [s.heap.objs.size] n (fun i v => i < n ∧ ∃ t, v = .int (a₀ + i * d) t)
      (fun i h => IsRangeIter h s.heap.objs.size (a₀ + (i : Nat) * d) ((n : Int) - (i : Nat)) d) := (Walks.range hh _ a₀ d n).bound
  refine jName (b := true) stored P W ?_ hx hp ?_ ?_ ?_ (by show IsRangeIter _ _ _ _ _; rw [hn]; simpa using Heap.get?_push_size _ rfl) (F.push _) (fun p hp => ⟨Heap.get?_push_of_some _ (N p hp).1, (N p hp).2⟩) h0 ?_ ?_
  · intro i h hst b hb
    exact List.mem_singleton.mp hb ▸ ⟨_, hst⟩
  · intro hm
    exact absurd F.ns.lt ((List.mem_singleton.mp hm) ▸ Nat.lt_irrefl _)
  · intro b hb
    rw [List.mem_singleton.mp hb]
    exact next_is_new F
  · intro p hp hI
    exact absurd (Heap.lt_size (N p hp).1) ((List.mem_singleton.mp hI) ▸ Nat.lt_irrefl _)
  · rintro i v u news₁ h tk own hi ⟨_, t, rfl⟩ hP hK ho _ _ F₁ N₁
    exact step i t u news₁ h tk own hi hP hK ho F₁ N₁
  · intro h' tk u news' F' N' hP hK _
    exact hR h' tk u news' F' N' hP hK
theorem nList {R : Result → Shared → Prop} {x : Str} {pv : Pos} {body : List Stmt} {l : Addr} {items : Array Value} {c : Nat} {m : Str → Option Value} {news : List (Addr × Obj)} (stored : List Str) (P : Nat → (Str → Option Value) → List (Addr × Obj) → Prop)
    (hm : (l, listOf items c) ∈ news) (hh : A.handled = none) (hx : env.kindOf x = some .local)
    (hp : (env.scope.kind == .class || (env.scope.kind == .module && env.locals != env.globals)) = false)
    (F : Fr h₀ env.locals s.heap m) (N : News h₀ env.locals s.heap news) (h0 : P 0 m (news.filter fun p => p.1 != l))
    (step : ∀ (i : Nat) v (u : Str → Option Value) news₁ h tk own, i < items.size → items[i]? = some v → P i u news₁ → Kept stored m u → (∀ p ∈ own, ∀ q ∈ news₁, p.1 ≠ q.1) → (l, listOf items c) ∈ own →
      Fr h₀ env.locals h (fun y => if y = x then some v else if stored.contains y then u y else m y) → News h₀ env.locals h (news₁ ++ own) →
      wpN (model prog w) A (execs body env) (StepEnd h₀ env.locals own stored m (P (i + 1)) { s with heap := h, toks := tk } fun v s' => R (.ok (.ret v)) s') (notedBy (model prog w) A env fun e s' => R (.error e) s') { s with heap := h, toks := tk })
    (hR : ∀ h' tk (u : Str → Option Value) news', Fr h₀ env.locals h' (fun y => if stored.contains y then u y else m y) → News h₀ env.locals h' ((l, listOf items c) :: news') → P items.size u news' → Kept stored m u → R (.ok .next) { s with heap := h', toks := tk }) :
    wpAny (model prog w) A (pyIter (.ref l)) (fun it s₂ => codeN (model prog w) A (.forLoop (.Name x pv) it body [] env) R s₂) E s := by
  have hL : s.heap.IsList l items := ⟨_, (N _ hm).1, rfl, c, rfl⟩
  have hl2 : l < s.heap.objs.size := Heap.lt_size (N _ hm).1
  have hLs : env.locals < s.heap.objs.size := F.ns.lt
  have hLl : l ≠ env.locals := (N _ hm).2.1
  have hlh : h₀.get? l = none := (N _ hm).2.2
  refine wpAny_pyIter_list hL ?_
  have W := Walks.list (prog := prog) (w := w) hh s.heap.objs.size l (Nat.ne_of_lt hl2) items
  refine jName (b := true) (St := fun i h => (h.IsListIter s.heap.objs.size l i ∧ h.IsList l items) ∧ h.get? l = some (listOf items c)) stored P
    ⟨W.sub, fun i h h' hst hk => ⟨W.frame i h h' hst.1 hk, hk l (by simp) _ hst.2⟩, fun i s' Q E hi hst hQ => W.item i s' Q E hi hst.1 fun v h₁ tk a b e => hQ v h₁ tk a ⟨b, e l _ ?_ hst.2⟩ e, fun s' Q E hst hQ => W.done s' Q E hst.1 hQ, fun i s' Q E hst hQ => W.self i s' Q E hst.1 hQ⟩ ?_ hx hp ?_ ?_ ?_
    ⟨⟨⟨_, Heap.get?_push_size _ rfl, rfl, rfl⟩, hL.at fun o e => Heap.get?_push_of_some _ e⟩, Heap.get?_push_of_some _ (N _ hm).1⟩ (F.push _) (fun p hp => ⟨Heap.get?_push_of_some _ (N p (List.mem_filter.mp hp).1).1, (N p (List.mem_filter.mp hp).1).2⟩) h0 ?_ ?_
  · simp only [List.mem_cons, List.not_mem_nil, or_false]; exact Nat.ne_of_lt hl2
  · rintro i h ⟨⟨⟨o, h2, _⟩, _⟩, h3⟩ b' hb'
    rcases List.mem_cons.mp hb' with rfl | hb'
    · exact ⟨_, h2⟩
    · exact List.mem_singleton.mp hb' ▸ ⟨_, h3⟩
  · intro hm'
    rcases List.mem_cons.mp hm' with e | hm'
    · exact Nat.ne_of_lt hLs e
    · exact hLl (List.mem_singleton.mp hm').symm
  · intro b hb
    rw [List.mem_singleton.mp hb]
    exact next_is_new F
  · intro p hp hm'
    obtain ⟨hp, hpl⟩ := List.mem_filter.mp hp
    rcases List.mem_cons.mp hm' with e | hm'
    · exact Nat.ne_of_lt (Heap.lt_size (N p hp).1) e
    · rw [List.mem_singleton.mp hm'] at hpl; simp at hpl
  · rintro i v u news₁ h tk own hi hg hP hK ho hst₁ hown F₁ N₁
    exact step i v u news₁ h tk own hi hg hP hK ho (hown l (by simp) _ hlh hst₁.2) F₁ N₁
  · rintro h' tk u news' F' N' hP hK ⟨H, hst₁, hk₁⟩
    refine hR h' tk u news' F' (fun p hp => ?_) hP hK
    rcases List.mem_cons.mp hp with rfl | hp
    · exact ⟨hk₁ l _ (by simp only [List.mem_cons, List.not_mem_nil, or_false, not_or]; first | exact ⟨Nat.ne_of_lt (Nat.lt_succ_of_lt hl2), Nat.ne_of_lt hl2⟩ | exact Nat.ne_of_lt hl2) hst₁.2, hLl, hlh⟩
    · exact N' p hp
end
section
variable {prog : Program} {w : World} {A : Around} {s : Shared} {env : Env} {h₀ : Heap} {E : Value → Shared → Prop}
theorem aEnumL {R : Result → Shared → Prop} {xi xc : Str} {pk pv pt : Pos} {x1 : Nat} {body : List Stmt} {l : Addr} {items : Array Value} {c : Nat} {m : Str → Option Value} {news : List (Addr × Obj)} (stored : List Str) (P : Nat → (Str → Option Value) → List (Addr × Obj) → Prop)
    (hm : (l, listOf items c) ∈ news) (hh : A.handled = none) (hxi : env.kindOf xi = some .local) (hxc : env.kindOf xc = some .local)
    (hp : (env.scope.kind == .class || (env.scope.kind == .module && env.locals != env.globals)) = false)
    (F : Fr h₀ env.locals s.heap m) (N : News h₀ env.locals s.heap news) (h0 : P 0 m (news.filter fun p => p.1 != l))
    (step : ∀ i v t0 (u : Str → Option Value) news₁ h tk own, i < items.size → items[i]? = some v → P i u news₁ → Kept stored m u → (∀ p ∈ own, ∀ q ∈ news₁, p.1 ≠ q.1) → (l, listOf items c) ∈ own →
      Fr h₀ env.locals h (fun y => if y = xc then some v else if y = xi then some (.int (i : Nat) t0) else if stored.contains y then u y else m y) → News h₀ env.locals h (news₁ ++ own) →
      wpAny (model prog w) A (execs body env) (StepEnd h₀ env.locals own stored m (P (i + 1)) { s with heap := h, toks := tk } fun v s' => R (.ok (.ret v)) s') (notedBy (model prog w) A env fun e s' => R (.error e) s') { s with heap := h, toks := tk })
    (hR : ∀ h' tk (u : Str → Option Value) news', Fr h₀ env.locals h' (fun y => if stored.contains y then u y else m y) → News h₀ env.locals h' ((l, listOf items c) :: news') → P items.size u news' → Kept stored m u → R (.ok .next) { s with heap := h', toks := tk }) :
    wpAny (model prog w) A (call (.type "enumerate") [.ref l]) (fun xv s₁ => wpAny (model prog w) A (pyIter xv) (fun it s₂ => codeAny (model prog w) A (.forLoop (.Tuple [.Name xi pk, .Name xc pv] x1 pt) it body [] env) R s₂) E s₁) E s := by
  have hL : s.heap.IsList l items := ⟨_, (N _ hm).1, rfl, c, rfl⟩
  refine call_enumerate_list hL fun h' he hit hz hk => ?_
  refine wpAny_pyIter_enum he ?_
  have hl2 : l < s.heap.objs.size := Heap.lt_size (N _ hm).1
  have hLs : env.locals < s.heap.objs.size := F.ns.lt
  have hLl : l ≠ env.locals := (N _ hm).2.1
  have hab : h₀.objs.size ≤ env.locals := F.above
  have hlh : h₀.get? l = none := (N _ hm).2.2
  have W := WalksT.enumerateD (Draws.list (prog := prog) (w := w) (A := A.in1) hh s.heap.objs.size l (Nat.ne_of_lt hl2) items) (s.heap.objs.size + 1) (Nat.succ_ne_self _)
    (by simp only [List.mem_cons, List.not_mem_nil, or_false, not_or]; exact ⟨Nat.succ_ne_self _, Nat.ne_of_gt (Nat.lt_succ_of_lt hl2)⟩) (by simp)
  have hN' : News h₀ env.locals h' news := fun p hp => ⟨hk _ _ (N p hp).1, (N p hp).2⟩
  refine jPairs (b := false) (s := { s with heap := h' }) (fp := (s.heap.objs.size + 1) :: [s.heap.objs.size, l]) (n := items.size) (St := fun i h => ((∃ old, IsEnum h (s.heap.objs.size + 1) s.heap.objs.size i old) ∧ h.IsListIter s.heap.objs.size l i ∧ h.IsList l items) ∧ h.get? l = some (listOf items c)) (P2 := fun i v0 v1 => ∃ (t0 : Tok), items[i]? = some v1 ∧ v0 = .int (i : Nat) t0)
    (Pt := fun i vals => ∃ t x, items[i]? = some x ∧ vals = #[.int i t, x]) (wr := [s.heap.objs.size + 1, s.heap.objs.size])
    (Mid := fun i T h => ((∃ x, IsEnumOut h (s.heap.objs.size + 1) s.heap.objs.size ((i : Int) + 1) x T) ∧ (h.IsListIter s.heap.objs.size l (i + 1) ∧ h.IsList l items) ∧ T ≠ s.heap.objs.size + 1 ∧ T ≠ s.heap.objs.size) ∧ h.get? l = some (listOf items c))
    stored P hh ⟨W.sub, fun i h h' hst hk => ⟨W.frame i h h' hst.1 hk, hk l (by simp) _ hst.2⟩, fun i s' Q E hi hst hQ => W.item i s' Q E hi hst.1 fun T vals h₁ tk a b c d e => hQ T vals h₁ tk a b c ⟨d, e l _ ?_ hst.2⟩ e, fun elts k pos i T s' Q E hmid hQ => W.go elts k pos i T s' Q E hmid.1 fun h₁ a e => hQ h₁ ⟨a, e l _ ?_ hmid.2⟩ e, fun i T h hm => W.apart i T h hm.1, fun s' Q E hst hQ => W.done s' Q E hst.1 hQ, fun i s' Q E hst hQ => W.self i s' Q E hst.1 hQ⟩ ?_ ?_ hxi hxc hp ?_ ?_ ?_
    ⟨⟨⟨_, he⟩, hit, hL.at fun o e => hk _ o e⟩, hk _ _ (N _ hm).1⟩ ⟨F.ns.keeps hk, fun b o e => hk b o (F.keep b o e), F.above⟩ (fun p hp => hN' p (List.mem_filter.mp hp).1) h0 ?_ ?_
  · simp only [List.mem_cons, List.not_mem_nil, or_false, not_or]; exact ⟨Nat.ne_of_lt (Nat.lt_succ_of_lt hl2), Nat.ne_of_lt hl2⟩
  · simp only [List.mem_cons, List.not_mem_nil, or_false, not_or]; exact ⟨Nat.ne_of_lt (Nat.lt_succ_of_lt hl2), Nat.ne_of_lt hl2⟩
  · rintro i vals ⟨t, x, hc, rfl⟩
    exact ⟨_, _, rfl, t, hc, rfl⟩
  · rintro i h ⟨⟨⟨_, h1⟩, ⟨o, h2, _⟩, _⟩, h3⟩ b' hb'
    rcases List.mem_cons.mp hb' with rfl | hb'
    · exact ⟨_, h1⟩
    · rcases List.mem_cons.mp hb' with rfl | hb'
      · exact ⟨_, h2⟩
      · exact List.mem_singleton.mp hb' ▸ ⟨_, h3⟩
  · intro hm'
    rcases List.mem_cons.mp hm' with e | hm'
    · exact Nat.ne_of_lt (Nat.lt_succ_of_lt hLs) e
    · rcases List.mem_cons.mp hm' with e | hm'
      · exact Nat.ne_of_lt hLs e
      · exact hLl (List.mem_singleton.mp hm').symm
  · intro b hb
    rcases List.mem_cons.mp hb with rfl | hb
    · exact Heap.get?_none_of_le (Nat.le_trans hab (Nat.le_of_lt (Nat.lt_succ_of_lt hLs)))
    · exact List.mem_singleton.mp hb ▸ Heap.get?_none_of_le (Nat.le_trans hab (Nat.le_of_lt hLs))
  · intro p hp hm'
    obtain ⟨hp, hpl⟩ := List.mem_filter.mp hp
    have hq1 : p.1 < s.heap.objs.size := Heap.lt_size (N p hp).1
    rcases List.mem_cons.mp hm' with e | hm'
    · exact Nat.ne_of_lt (Nat.lt_succ_of_lt hq1) e
    · rcases List.mem_cons.mp hm' with e | hm'
      · exact Nat.ne_of_lt hq1 e
      · rw [List.mem_singleton.mp hm'] at hpl; simp at hpl
  · rintro i v0 v1 u news₁ h tk own hi ⟨t0, hg, rfl⟩ hP hK ho hst₁ hown F₁ N₁
    exact step i v1 t0 u news₁ h tk own hi hg hP hK ho (hown l (by simp) _ hlh hst₁.2) F₁ N₁
  · rintro h' tk u news' F' N' hP hK ⟨H, hst₁, hk₁⟩
    refine hR h' tk u news' F' (fun p hp => ?_) hP hK
    rcases List.mem_cons.mp hp with rfl | hp
    · exact ⟨hk₁ l _ (by simp only [List.mem_cons, List.not_mem_nil, or_false, not_or]; first | exact ⟨Nat.ne_of_lt (Nat.lt_succ_of_lt hl2), Nat.ne_of_lt hl2⟩ | exact Nat.ne_of_lt hl2) hst₁.2, hLl, hlh⟩
    · exact N' p hp
theorem aRange {R : Result → Shared → Prop} {x : Str} {pv : Pos} {body : List Stmt} {r : Addr} {a₀ b₀ d : Int} {t₀ u₀ v₀ : Tok} {n : Nat} {m : Str → Option Value} {news : List (Addr × Obj)} (stored : List Str) (P : Nat → (Str → Option Value) → List (Addr × Obj) → Prop)
    (hh : A.handled = none) (hr : IsRange s.heap r a₀ b₀ d t₀ u₀ v₀) (hsmall : Builtin.Range.small a₀ b₀ d = true) (hn : Builtin.Range.rangeSize a₀ b₀ d = (n : Int)) (hx : env.kindOf x = some .local)
    (hp : (env.scope.kind == .class || (env.scope.kind == .module && env.locals != env.globals)) = false)
    (F : Fr h₀ env.locals s.heap m) (N : News h₀ env.locals s.heap news) (h0 : P 0 m news)
    (step : ∀ (i : Nat) t (u : Str → Option Value) news₁ h tk own, i < n → P i u news₁ → Kept stored m u → (∀ p ∈ own, ∀ q ∈ news₁, p.1 ≠ q.1) →
      Fr h₀ env.locals h (fun y => if y = x then some (.int (a₀ + (i : Int) * d) t) else if stored.contains y then u y else m y) → News h₀ env.locals h (news₁ ++ own) →
      wpAny (model prog w) A (execs body env) (StepEnd h₀ env.locals own stored m (P (i + 1)) { s with heap := h, toks := tk } fun v s' => R (.ok (.ret v)) s') (notedBy (model prog w) A env fun e s' => R (.error e) s') { s with heap := h, toks := tk })
    (hR : ∀ h' tk (u : Str → Option Value) news', Fr h₀ env.locals h' (fun y => if stored.contains y then u y else m y) → News h₀ env.locals h' news' → P n u news' → Kept stored m u → R (.ok .next) { s with heap := h', toks := tk }) :
    wpAny (model prog w) A (pyIter (.ref r)) (fun it s₂ => codeAny (model prog w) A (.forLoop (.Name x pv) it body [] env) R s₂) E s := by
  refine wpAny_pyIter_range hr hsmall ?_
  have hLs : env.locals < s.heap.objs.size := F.ns.lt
  have hab : h₀.objs.size ≤ env.locals := F.above
  have W : Walks prog w A s.heap.objs.size [s.heap.objs.size] [s.heap.objs.size] n (fun i v => i < n ∧ ∃ t, v = .int (a₀ + i * d) t)
      (fun i h => IsRangeIter h s.heap.objs.size (a₀ + (i : Nat) * d) ((n : Int) - (i : Nat)) d) := (Walks.range hh _ a₀ d n).bound
  refine jName (b := false) stored P W ?_ hx hp ?_ ?_ ?_ (by show IsRangeIter _ _ _ _ _; rw [hn]; simpa using Heap.get?_push_size _ rfl) (F.push _) (fun p hp => ⟨Heap.get?_push_of_some _ (N p hp).1, (N p hp).2⟩) h0 ?_ ?_
  · intro i h hst b hb
    exact List.mem_singleton.mp hb ▸ ⟨_, hst⟩
  · intro hm
    exact absurd F.ns.lt ((List.mem_singleton.mp hm) ▸ Nat.lt_irrefl _)
  · intro b hb
    rw [List.mem_singleton.mp hb]
    exact next_is_new F
  · intro p hp hI
    exact absurd (Heap.lt_size (N p hp).1) ((List.mem_singleton.mp hI) ▸ Nat.lt_irrefl _)
  · rintro i v u news₁ h tk own hi ⟨_, t, rfl⟩ hP hK ho _ _ F₁ N₁
    exact step i t u news₁ h tk own hi hP hK ho F₁ N₁
  · intro h' tk u news' F' N' hP hK _
    exact hR h' tk u news' F' N' hP hK
theorem aBytes {R : Result → Shared → Prop} {x : Str} {pv : Pos} {body : List Stmt} {b : Array UInt8} {tb : Tok} {ks : List Int} {m : Str → Option Value} {news : List (Addr × Obj)} (stored : List Str) (P : Nat → (Str → Option Value) → List (Addr × Obj) → Prop)
    (hb : KBw.bInts b = ks) (hh : A.handled = none) (hx : env.kindOf x = some .local)
    (hp : (env.scope.kind == .class || (env.scope.kind == .module && env.locals != env.globals)) = false)
    (F : Fr h₀ env.locals s.heap m) (N : News h₀ env.locals s.heap news) (h0 : P 0 m news)
    (step : ∀ (i : Nat) k t (u : Str → Option Value) news₁ h tk own, i < ks.length → ks[i]? = some k → 0 ≤ k → k < 256 → P i u news₁ → Kept stored m u → (∀ p ∈ own, ∀ q ∈ news₁, p.1 ≠ q.1) →
      Fr h₀ env.locals h (fun y => if y = x then some (.int k t) else if stored.contains y then u y else m y) → News h₀ env.locals h (news₁ ++ own) →
      wpAny (model prog w) A (execs body env) (StepEnd h₀ env.locals own stored m (P (i + 1)) { s with heap := h, toks := tk } fun v s' => R (.ok (.ret v)) s') (notedBy (model prog w) A env fun e s' => R (.error e) s') { s with heap := h, toks := tk })
    (hR : ∀ h' tk (u : Str → Option Value) news', Fr h₀ env.locals h' (fun y => if stored.contains y then u y else m y) → News h₀ env.locals h' news' → P ks.length u news' → Kept stored m u → R (.ok .next) { s with heap := h', toks := tk }) :
    wpAny (model prog w) A (pyIter (.bytes b tb)) (fun it s₂ => codeAny (model prog w) A (.forLoop (.Name x pv) it body [] env) R s₂) E s := by
  subst hb
  refine KBw.pyIter_bytes ?_
  have W := KBw.walks (prog := prog) (w := w) hh s.heap.objs.size b tb
  have hln := KBw.ints_length b
  refine jName (b := false) stored P W ?_ hx hp ?_ ?_ ?_ ⟨_, Heap.get?_push_size _ rfl, rfl, rfl⟩ (F.push _) (fun p hp => ⟨Heap.get?_push_of_some _ (N p hp).1, (N p hp).2⟩) h0 ?_ ?_
  · rintro i h ⟨o, hst, _⟩ b hb
    exact List.mem_singleton.mp hb ▸ ⟨_, hst⟩
  · intro hm
    exact absurd F.ns.lt ((List.mem_singleton.mp hm) ▸ Nat.lt_irrefl _)
  · intro b hb
    rw [List.mem_singleton.mp hb]
    exact next_is_new F
  · intro p hp hI
    exact absurd (Heap.lt_size (N p hp).1) ((List.mem_singleton.mp hI) ▸ Nat.lt_irrefl _)
  · rintro i v u news₁ h tk own hi ⟨c, t, hc, rfl⟩ hP hK ho _ _ F₁ N₁
    have hg := KBw.ints_get hc
    have hb := KBw.ints_in (List.mem_of_getElem? hg)
    exact step i _ t u news₁ h tk own (by rw [hln]; exact hi) hg hb.1 hb.2 hP hK ho F₁ N₁
  · intro h' tk u news' F' N' hP hK _
    exact hR h' tk u news' F' N' (by rw [hln]; exact hP) hK
theorem aList {R : Result → Shared → Prop} {x : Str} {pv : Pos} {body : List Stmt} {l : Addr} {items : Array Value} {c : Nat} {m : Str → Option Value} {news : List (Addr × Obj)} (stored : List Str) (P : Nat → (Str → Option Value) → List (Addr × Obj) → Prop)
    (hm : (l, listOf items c) ∈ news) (hh : A.handled = none) (hx : env.kindOf x = some .local)
    (hp : (env.scope.kind == .class || (env.scope.kind == .module && env.locals != env.globals)) = false)
    (F : Fr h₀ env.locals s.heap m) (N : News h₀ env.locals s.heap news) (h0 : P 0 m (news.filter fun p => p.1 != l))
    (step : ∀ (i : Nat) v (u : Str → Option Value) news₁ h tk own, i < items.size → items[i]? = some v → P i u news₁ → Kept stored m u → (∀ p ∈ own, ∀ q ∈ news₁, p.1 ≠ q.1) → (l, listOf items c) ∈ own →
      Fr h₀ env.locals h (fun y => if y = x then some v else if stored.contains y then u y else m y) → News h₀ env.locals h (news₁ ++ own) →
      wpAny (model prog w) A (execs body env) (StepEnd h₀ env.locals own stored m (P (i + 1)) { s with heap := h, toks := tk } fun v s' => R (.ok (.ret v)) s') (notedBy (model prog w) A env fun e s' => R (.error e) s') { s with heap := h, toks := tk })
    (hR : ∀ h' tk (u : Str → Option Value) news', Fr h₀ env.locals h' (fun y => if stored.contains y then u y else m y) → News h₀ env.locals h' ((l, listOf items c) :: news') → P items.size u news' → Kept stored m u → R (.ok .next) { s with heap := h', toks := tk }) :
    wpAny (model prog w) A (pyIter (.ref l)) (fun it s₂ => codeAny (model prog w) A (.forLoop (.Name x pv) it body [] env) R s₂) E s := by
  have hL : s.heap.IsList l items := ⟨_, (N _ hm).1, rfl, c, rfl⟩
  have hl2 : l < s.heap.objs.size := Heap.lt_size (N _ hm).1
  have hLs : env.locals < s.heap.objs.size := F.ns.lt
  have hLl : l ≠ env.locals := (N _ hm).2.1
  have hlh : h₀.get? l = none := (N _ hm).2.2
  refine wpAny_pyIter_list hL ?_
  have W := Walks.list (prog := prog) (w := w) hh s.heap.objs.size l (Nat.ne_of_lt hl2) items
  refine jName (b := false) (St := fun i h => (h.IsListIter s.heap.objs.size l i ∧ h.IsList l items) ∧ h.get? l = some (listOf items c)) stored P
    ⟨W.sub, fun i h h' hst hk => ⟨W.frame i h h' hst.1 hk, hk l (by simp) _ hst.2⟩, fun i s' Q E hi hst hQ => W.item i s' Q E hi hst.1 fun v h₁ tk a b e => hQ v h₁ tk a ⟨b, e l _ ?_ hst.2⟩ e, fun s' Q E hst hQ => W.done s' Q E hst.1 hQ, fun i s' Q E hst hQ => W.self i s' Q E hst.1 hQ⟩ ?_ hx hp ?_ ?_ ?_
    ⟨⟨⟨_, Heap.get?_push_size _ rfl, rfl, rfl⟩, hL.at fun o e => Heap.get?_push_of_some _ e⟩, Heap.get?_push_of_some _ (N _ hm).1⟩ (F.push _) (fun p hp => ⟨Heap.get?_push_of_some _ (N p (List.mem_filter.mp hp).1).1, (N p (List.mem_filter.mp hp).1).2⟩) h0 ?_ ?_
  · simp only [List.mem_cons, List.not_mem_nil, or_false]; exact Nat.ne_of_lt hl2
  · rintro i h ⟨⟨⟨o, h2, _⟩, _⟩, h3⟩ b' hb'
    rcases List.mem_cons.mp hb' with rfl | hb'
    · exact ⟨_, h2⟩
    · exact List.mem_singleton.mp hb' ▸ ⟨_, h3⟩
  · intro hm'
    rcases List.mem_cons.mp hm' with e | hm'
    · exact Nat.ne_of_lt hLs e
    · exact hLl (List.mem_singleton.mp hm').symm
  · intro b hb
    rw [List.mem_singleton.mp hb]
    exact next_is_new F
  · intro p hp hm'
    obtain ⟨hp, hpl⟩ := List.mem_filter.mp hp
    rcases List.mem_cons.mp hm' with e | hm'
    · exact Nat.ne_of_lt (Heap.lt_size (N p hp).1) e
    · rw [List.mem_singleton.mp hm'] at hpl; simp at hpl
  · rintro i v u news₁ h tk own hi hg hP hK ho hst₁ hown F₁ N₁
    exact step i v u news₁ h tk own hi hg hP hK ho (hown l (by simp) _ hlh hst₁.2) F₁ N₁
  · rintro h' tk u news' F' N' hP hK ⟨H, hst₁, hk₁⟩
    refine hR h' tk u news' F' (fun p hp => ?_) hP hK
    rcases List.mem_cons.mp hp with rfl | hp
    · exact ⟨hk₁ l _ (by simp only [List.mem_cons, List.not_mem_nil, or_false, not_or]; first | exact ⟨Nat.ne_of_lt (Nat.lt_succ_of_lt hl2), Nat.ne_of_lt hl2⟩ | exact Nat.ne_of_lt hl2) hst₁.2, hLl, hlh⟩
    · exact N' p hp
end
end
section
section
open LCg
variable {prog : Program} {w : World} {A : Around} {E : Value → Shared → Prop} {s : Shared} {h₀ : Heap} {L : Addr} {m : Str → Option Value} {env : Env}
noncomputable def CompAt (prog : Program) (w : World) (A : Around) (h₀ : Heap) (L : Addr) (m : Str → Option Value) (env : Env) (elt : Expr) (x : Str) (scope : Scope) (cl : List (Str × Addr)) (Fin : Shared → List Value → List (Addr × Obj) → Prop) (xv : Value) (s₁ : Shared) : Prop :=
  ∃ (oIt : Obj) (n : Nat) (P : Nat → Value → Prop) (St : Nat → Heap → Prop) (fp : List Addr) (S : List (Addr × Obj) → Prop) (news : List (Addr × Obj)), Fr h₀ L s₁.heap m ∧ News h₀ L s₁.heap news ∧ n ≤ sizeLine ∧
    (∀ Q E, Q (.ref s₁.heap.objs.size) { s₁ with heap := s₁.heap.push oIt } → wpAny (model prog w) A (pyIter xv) Q E s₁) ∧ Walks prog w A s₁.heap.objs.size fp [s₁.heap.objs.size] n P St ∧ St 0 (s₁.heap.push oIt) ∧
    (∀ i h, St i h → ∃ o, h.get? s₁.heap.objs.size = some o) ∧ (∀ i h h' o nw, St i h → h.get? s₁.heap.objs.size = some o → h'.get? s₁.heap.objs.size = some o → (∀ b o, h₀.get? b = some o → h'.get? b = some o) → News h₀ L h' nw → S nw → St i h') ∧
    (∀ b ∈ fp, b < (s₁.heap.push oIt).objs.size) ∧ S news ∧
    ∀ s₂ : Shared, (∃ h, s₂ = { s₁ with heap := h }) → CompRest prog w A h₀ L m env elt x scope cl s₂ S P (Fin s₂) n 0 [] news
end
section
open LCg
namespace H_comp_core
abbrev hkD : Type := (((((Program × World) × Around) × ((Value → Shared → Prop) × Shared)) × ((Heap × Addr) × ((Str → Option Value) × Env))) × (((Expr × Expr) × (Str × Pos)) × ((Scope × (List (Str × Addr))) × (Pos × (Value → Shared → Prop)))))
def hkP (prog : Program) (w : World) (A : Around) (E : Value → Shared → Prop) (s : Shared) (h₀ : Heap) (L : Addr) (m : Str → Option Value) (env : Env) (elt : Expr) (iter : Expr) (x : Str) (px : Pos) (scope : Scope) (cl : List (Str × Addr)) (pos : Pos) (Q : Value → Shared → Prop) : Prop := ∀ (F₀ : Fr h₀ L s.heap m) (hclos : closureFor scope env = pure cl) (hcell : ∀ y ∈ scope.names, y.2 ≠ .cell) (hkind : scope.kind = .function) (hnames : ∀ y ∈ scope.names, y.2 = .local → scope.names.lookup y.1 = some .local) (hx : scope.names.lookup x = some .local) (h : wpAny (model prog w) A (eval iter env) (CompAt prog w A h₀ L m env elt x scope cl (fun s₂ => FinE h₀ L m s₂ Q)) E s) (hs : ∀ x, foldedSetIterable iter env x = pure x), wpAny (model prog w) A (eval (.ListComp elt [⟨.Name x px, iter, [], 0⟩] scope pos) env) Q E s
def hkU (d : hkD) : Prop := hkP d.1.1.1.1.1 d.1.1.1.1.2 d.1.1.1.2 d.1.1.2.1 d.1.1.2.2 d.1.2.1.1 d.1.2.1.2 d.1.2.2.1 d.1.2.2.2 d.2.1.1.1 d.2.1.1.2 d.2.1.2.1 d.2.1.2.2 d.2.2.1.1 d.2.2.1.2 d.2.2.2.1 d.2.2.2.2
theorem hkN : Nonempty hkD := (ne2 (ne2 (ne2 (ne2 (ne2 neProg neWorld) neAround) (ne2 ⟨default⟩ neShared)) (ne2 (ne2 ⟨default⟩ ⟨default⟩) (ne2 ⟨default⟩ ⟨default⟩))) (ne2 (ne2 (ne2 ⟨default⟩ ⟨default⟩) (ne2 ⟨default⟩ ⟨default⟩)) (ne2 (ne2 ⟨default⟩ ⟨default⟩) (ne2 ⟨default⟩ ⟨default⟩))))
@[irreducible] def hkV : hkD := hk_c hkN hkU
@[irreducible] def prog : Program := hkV.1.1.1.1.1
@[irreducible] def w : World := hkV.1.1.1.1.2
@[irreducible] def A : Around := hkV.1.1.1.2
@[irreducible] def E : Value → Shared → Prop := hkV.1.1.2.1
@[irreducible] def s : Shared := hkV.1.1.2.2
@[irreducible] def h₀ : Heap := hkV.1.2.1.1
@[irreducible] def L : Addr := hkV.1.2.1.2
@[irreducible] def m : Str → Option Value := hkV.1.2.2.1
@[irreducible] def env : Env := hkV.1.2.2.2
@[irreducible] def elt : Expr := hkV.2.1.1.1
@[irreducible] def iter : Expr := hkV.2.1.1.2
@[irreducible] def x : Str := hkV.2.1.2.1
@[irreducible] def px : Pos := hkV.2.1.2.2
@[irreducible] def scope : Scope := hkV.2.2.1.1
@[irreducible] def cl : List (Str × Addr) := hkV.2.2.1.2
@[irreducible] def pos : Pos := hkV.2.2.2.1
@[irreducible] def Q : Value → Shared → Prop := hkV.2.2.2.2
theorem core : hkP prog w A E s h₀ L m env elt iter x px scope cl pos Q := by
  unfold hkP
  intro F₀ hclos hcell hkind hnames hx h hs
  rw [eval_ListComp]
  refine wpAny_comprehension_free (use := none) rfl hs hclos hkind hnames (wpAny_mono h (fun xv s₁ h₁ => ?_) fun _ _ e => e)
  obtain ⟨oIt, n, P, St, fp, S, news, F, N, hsz, hit, W, hst, hlive, hSt, hfp, hS, R⟩ := h₁
  refine hit _ _ ?_
  refine block_U W hsz hlive hSt hcell hkind hx hst hfp
    (F.keeps fun _ _ e => Heap.get?_push_of_some _ e) (N.grown fun _ _ e => Heap.get?_push_of_some _ e) (Nat.ne_of_lt F.ns.lt) (next_is_new F) (fun p hp => Nat.ne_of_lt (Heap.lt_size (N p hp).1)) hS (R _ ⟨_, rfl⟩) ?_
  intro D C h tk m' ys news' F' N' o1 hn hC₀ hD₀ hCL hDL hCD offC fin
  refine ⟨m', hn, fun h'' hs'' => fin D h'' tk (F'.change hs'' hCL hC₀) (fun p hp => ?_) o1⟩
  refine ⟨hs''.extBut _ _ ?_ (N' p hp).1, (N' p hp).2⟩
  rcases List.mem_cons.mp hp with rfl | hp
  · exact Ne.symm hCD
  · exact offC p hp
end H_comp_core
end
section
open LCg
variable {prog : Program} {w : World} {A : Around} {E : Value → Shared → Prop} {s : Shared} {h₀ : Heap} {L : Addr} {m : Str → Option Value} {env : Env}
theorem comp_core {elt iter : Expr} {x : Str} {px : Pos} {scope : Scope} {cl : List (Str × Addr)} {pos : Pos} {Q : Value → Shared → Prop} (F₀ : Fr h₀ L s.heap m)
    (hclos : closureFor scope env = pure cl) (hcell : ∀ y ∈ scope.names, y.2 ≠ .cell) (hkind : scope.kind = .function)
    (hnames : ∀ y ∈ scope.names, y.2 = .local → scope.names.lookup y.1 = some .local) (hx : scope.names.lookup x = some .local)
    (h : wpAny (model prog w) A (eval iter env) (CompAt prog w A h₀ L m env elt x scope cl (fun s₂ => FinE h₀ L m s₂ Q)) E s)
    (hs : ∀ x, foldedSetIterable iter env x = pure x := by intro _; rfl) :
    wpAny (model prog w) A (eval (.ListComp elt [⟨.Name x px, iter, [], 0⟩] scope pos) env) Q E s :=
  hk_all H_comp_core.hkN H_comp_core.hkU (by with_unfolding_all exact H_comp_core.core) (((((prog, w), A), (E, s)), ((h₀, L), (m, env))), (((elt, iter), (x, px)), ((scope, cl), (pos, Q)))) F₀ hclos hcell hkind hnames hx h hs
theorem one_lt_push {h : Heap} {o : Obj} : ∀ b ∈ [h.objs.size], b < (h.push o).objs.size := fun b hb => by
  rw [List.mem_singleton.mp hb, Heap.size_push]; exact Nat.lt_succ_self _
theorem CompAt.list {elt : Expr} {x : Str} {scope : Scope} {cl : List (Str × Addr)} {Fin : Shared → List Value → List (Addr × Obj) → Prop} {l : Addr} {items : Array Value} {c : Nat} {ks : List Int} {news : List (Addr × Obj)} {s₁ : Shared}
    (hm : (l, listOf items c) ∈ news) (hi : IntsAre items.toList ks) (hh : A.handled = none) (F : Fr h₀ L s₁.heap m) (N : News h₀ L s₁.heap news) (hsz : ks.length ≤ 1000)
    (h : ∀ g, CompRest prog w A h₀ L m env elt x scope cl { s₁ with heap := g } (fun nw => (l, listOf items c) ∈ nw) (fun i v => ∃ k t, ks[i]? = some k ∧ v = .int k t) (Fin { s₁ with heap := g }) ks.length 0 [] news) :
    CompAt prog w A h₀ L m env elt x scope cl Fin (.ref l) s₁ := by
  have hL : s₁.heap.IsList l items := ⟨_, (N _ hm).1, rfl, c, rfl⟩
  have hl2 : l < s₁.heap.objs.size := Heap.lt_size (N _ hm).1
  have hsz' : items.size = ks.length := by rw [← Array.length_toList]; exact hi.length
  have W := Walks.list (prog := prog) (w := w) hh s₁.heap.objs.size l (Nat.ne_of_lt hl2) items
  rw [hsz'] at W
  refine ⟨_, ks.length, _, _, [s₁.heap.objs.size, l], fun nw => (l, listOf items c) ∈ nw, news, F, N, by rw [sizeLine_eq]; lia, fun Q E hQ => wpAny_pyIter_list hL hQ, ⟨W.sub, W.frame, fun i s Q E hi' st hQ => W.item i s Q E hi' st (fun v h' tk hP => hQ v h' tk ?_), W.done, W.self⟩,
    ⟨⟨_, Heap.get?_push_size _ rfl, rfl, rfl⟩, hL.at fun o e => Heap.get?_push_of_some _ e⟩, fun i h ⟨⟨o, ho, _⟩, _⟩ => ⟨o, ho⟩, fun i h h' o nw ⟨⟨o', e1, r⟩, _⟩ e2 e3 _ N' hS => ⟨⟨o', by rw [e3, ← e2, e1], r⟩, ⟨_, (N' _ hS).1, rfl, c, rfl⟩⟩, fun b hb => ?_, hm, fun _ ⟨g, e⟩ => e ▸ h g⟩
  · have hii : i < ks.length := hi'
    obtain ⟨t, hx⟩ := hi.get i ks[i] (by simp [hii])
    rw [Array.getElem?_toList] at hx
    refine ⟨ks[i], t, by simp [hii], ?_⟩
    have hP' : items[i]? = some v := hP
    rw [hx] at hP'; exact (Option.some.inj hP').symm
  · rw [Heap.size_push]
    rcases List.mem_cons.mp hb with rfl | hb
    · exact Nat.lt_succ_self _
    · rw [List.mem_singleton.mp hb]; exact Nat.lt_succ_of_lt hl2
theorem CompAt.bytes {elt : Expr} {x : Str} {scope : Scope} {cl : List (Str × Addr)} {Fin : Shared → List Value → List (Addr × Obj) → Prop} {b : Array UInt8} {t : Tok} {ks : List Int} {news : List (Addr × Obj)} {s₁ : Shared}
    (hb : KBw.bInts b = ks) (hh : A.handled = none) (F : Fr h₀ L s₁.heap m) (N : News h₀ L s₁.heap news) (hsz : ks.length ≤ 1000)
    (h : ∀ g, CompRest prog w A h₀ L m env elt x scope cl { s₁ with heap := g } (fun _ => True) (fun i v => ∃ k t, ks[i]? = some k ∧ v = .int k t) (Fin { s₁ with heap := g }) ks.length 0 [] news) :
    CompAt prog w A h₀ L m env elt x scope cl Fin (.bytes b t) s₁ := by
  subst hb
  have e := KBw.ints_length b
  rw [e] at hsz h
  refine ⟨{ cls := .type "bytes_iterator", data := .fields #[.bytes b t, .int 0 0] }, b.size, _, fun i h => KBw.IsBytesIter h s₁.heap.objs.size b t i, [s₁.heap.objs.size], fun _ => True, news, F, N, by rw [sizeLine_eq]; lia, fun Q E hQ => KBw.pyIter_bytes hQ, ?_, ⟨_, Heap.get?_push_size _ rfl, rfl, rfl⟩, fun i h ⟨o, ho, _⟩ => ⟨o, ho⟩,
    fun i h h' o _ ⟨o', e1, r⟩ e2 e3 _ _ _ => ⟨o', by rw [e3, ← e2, e1], r⟩, one_lt_push, trivial, fun _ ⟨g, e⟩ => e ▸ h g⟩
  have W := KBw.walks (prog := prog) (w := w) hh s₁.heap.objs.size b t
  refine ⟨W.sub, W.frame, fun i s Q E hi st hQ => W.item i s Q E hi st (fun v h' tk hP => hQ v h' tk ?_), W.done, W.self⟩
  obtain ⟨c, u, hc, rfl⟩ := hP
  exact ⟨_, u, KBw.ints_get hc, rfl⟩
theorem CompAt.rangeS {elt : Expr} {x : Str} {scope : Scope} {cl : List (Str × Addr)} {Fin : Shared → List Value → List (Addr × Obj) → Prop} {r : Addr} {a b d : Int} {t u v : Tok} {n : Nat} {ks : List Int} {news : List (Addr × Obj)} {s₁ : Shared} {S : List (Addr × Obj) → Prop}
    (hh : A.handled = none) (F : Fr h₀ L s₁.heap m) (N : News h₀ L s₁.heap news) (hr : IsRange s₁.heap r a b d t u v) (hsm : Builtin.Range.small a b d = true) (hn : Builtin.Range.rangeSize a b d = ((n : Nat) : Int)) (hsz : n ≤ 1000)
    (hks : ks = (List.range n).map fun (i : Nat) => a + (i : Int) * d) (hS : S news)
    (h : ∀ g, CompRest prog w A h₀ L m env elt x scope cl { s₁ with heap := g } S (fun i v => ∃ k t, ks[i]? = some k ∧ v = .int k t) (Fin { s₁ with heap := g }) n 0 [] news) :
    CompAt prog w A h₀ L m env elt x scope cl Fin (.ref r) s₁ := by
  refine ⟨{ cls := .type "range_iterator", data := .fields #[rawInt a, rawInt (Builtin.Range.rangeSize a b d), rawInt d] }, n, _, fun i h => IsRangeIter h s₁.heap.objs.size (a + (i : Nat) * d) ((n : Int) - (i : Nat)) d, [s₁.heap.objs.size], S, news, F, N, by rw [sizeLine_eq]; lia, fun Q E hQ => wpAny_pyIter_range hr hsm hQ, ?_,
    by show IsRangeIter _ _ _ _ _; rw [hn]; simpa using Heap.get?_push_size _ rfl, fun i h st => ⟨_, st⟩, fun i h h' o _ st e e' _ _ _ => ?_, one_lt_push, hS, fun _ ⟨g, e⟩ => e ▸ h g⟩
  · have W : Walks prog w A s₁.heap.objs.size [s₁.heap.objs.size] [s₁.heap.objs.size] n (fun i v => i < n ∧ ∃ t, v = .int (a + i * d) t) (fun i h => IsRangeIter h s₁.heap.objs.size (a + (i : Nat) * d) ((n : Int) - (i : Nat)) d) := (Walks.range hh s₁.heap.objs.size a d n).bound
    refine ⟨W.sub, W.frame, fun i s Q E hi st hQ => W.item i s Q E hi st (fun v h' tk hP => hQ v h' tk ?_), W.done, W.self⟩
    obtain ⟨hi, t, rfl⟩ := hP
    exact ⟨_, t, by rw [hks]; simp [hi], rfl⟩
  · have st' : h.get? s₁.heap.objs.size = some _ := st
    have : h'.get? s₁.heap.objs.size = h.get? s₁.heap.objs.size := by rw [e', e]
    exact this.trans st'
noncomputable def CompEl (h₀ : Heap) (L : Addr) (m : Str → Option Value) (s : Shared) (all : List (Addr × Obj)) (r : Int) (y : Value) (s₂ : Shared) : Prop :=
  ∃ t' h' tk', y = .int r t' ∧ s₂ = { s with heap := h', toks := tk' } ∧ Fr h₀ L h' m ∧ News h₀ L h' all
theorem CompEl.intro {h₀ : Heap} {L : Addr} {m : Str → Option Value} {s : Shared} {all : List (Addr × Obj)} {r r' : Int} {t' : Tok} {h' : Heap} {tk' : Nat} (F : Fr h₀ L h' m) (N : News h₀ L h' all) (e : r' = r) :
    CompEl h₀ L m s all r (.int r' t') { s with heap := h', toks := tk' } := ⟨t', h', tk', by rw [e], rfl, F, N⟩
theorem comp_ints {elt : Expr} {x : Str} {scope : Scope} {cl : List (Str × Addr)} {S : List (Addr × Obj) → Prop} {P : Nat → Value → Prop} {Fin : List Value → List (Addr × Obj) → Prop} {news : List (Addr × Obj)} {n : Nat} {ks : List Int} (g : Int → Int) (hks : ks.length = n) (hS : S news)
    (hP : ∀ i v, i < n → P i v → ∃ k t, ks[i]? = some k ∧ v = .int k t)
    (turn : ∀ i k t I oI C oC D m₂ ys h tk (E' : Value → Shared → Prop), i < n → ks[i]? = some k → NsObj oC m₂ → m₂ x = some (.int k t) → Fr h₀ L h m → News h₀ L h ((I, oI) :: (C, oC) :: (D, lst ys) :: news) → Off3 I C D news → ((@Ne Nat I C) ∧ (@Ne Nat I D) ∧ (@Ne Nat C D)) →
      wpAny (model prog w) A (eval elt (compEnvC scope cl C env)) (CompEl h₀ L m s ((I, oI) :: (C, oC) :: (D, lst ys) :: news) (g k)) E' { s with heap := h, toks := tk })
    (fin : ∀ ys, IntsAre ys (ks.map g) → Fin ys news) : CompRest prog w A h₀ L m env elt x scope cl s S P Fin n 0 [] news := by
  have key : ∀ (j i : Nat) (ys : List Value), i + j = n → IntsAre ys ((ks.take i).map g) → CompRest prog w A h₀ L m env elt x scope cl s S P Fin j i ys news := by
    intro j
    induction j with
    | zero =>
      intro i ys hi hy
      have e : i = ks.length := by lia
      subst e
      rw [List.take_length] at hy
      exact CompRest.zero (fin ys hy)
    | succ j ih =>
      intro i ys hi hy
      refine CompRest.succ ?_
      intro v I oI C oC D m₂ h tk E' hv hC hx F N off ne
      obtain ⟨k, t, hk, hv'⟩ := hP i v (by lia) hv
      rw [hv'] at hx
      refine wpAny_mono (turn i k t I oI C oC D m₂ ys h tk E' (by lia) hk hC hx F N off ne) (fun y s₂ hq => ?_) fun _ _ e => e
      obtain ⟨t', h', tk', rfl, rfl, F', N'⟩ := hq
      refine ⟨h', tk', news, rfl, F', N', off, hS, ?_⟩
      refine ih (i + 1) _ (by lia) ?_
      rw [List.take_add_one, hk]
      simpa using IntsAre.append hy (.cons (g k) t' .nil)
  exact key n 0 [] (by lia) (by simp only [List.take_zero, List.map_nil]; exact .nil)
end
end
section
section
variable {M : Model} {A : Around} {E : Value → Shared → Prop} {s : Shared} {env : Env}
theorem nArgs0 {pos : Pos} {Q : List Value → Shared → Prop} (h : Q [] s) : wpN M A (spliced (backTo pos (starEach [] env))) Q E s := nPure h
theorem nArgs {e : Expr} {rest : List Expr} {pos : Pos} {Q : List Value → Shared → Prop}
    (h : wpN M A (eval e env) (fun v s₁ => wpN M A (spliced (backTo pos (starEach rest env))) (fun vs s₂ => Q (v :: vs) s₂) E s₁) E s)
    (he : starEach (e :: rest) env = (false, eval e env) :: starEach rest env := by rfl) : wpN M A (spliced (backTo pos (starEach (e :: rest) env))) Q E s := by
  rw [he]
  show wpN M A (spliced ((false, eval e env) :: backTo pos (starEach rest env))) Q E s
  rw [spliced]
  refine nBind (nMono h (fun v s₁ h₁ => ?_) fun _ _ x => x)
  simp only [Bool.false_eq_true, if_false]
  exact nBind (nPure (nBind (nHolding (nMono h₁ (fun vs s₂ h₂ => nPure h₂) fun _ _ x => x))))
theorem nEvalArgs {f : Value} {x : Sem Value} {rest : List (Bool × Sem Value)} {Q : Args → Shared → Prop}
    (h : wpN M A (spliced ((false, x) :: rest)) (fun vs s' => Q ⟨vs, []⟩ s') E s) : wpN M A (evalArgs f true ((false, x) :: rest) []) Q E s := by
  unfold evalArgs
  show wpN M A (spliced ((false, x) :: rest) >>= _) Q E s
  refine nBind (nMono h (fun vs s' h' => ?_) fun _ _ x => x)
  refine nHolding ?_
  exact nBind (nPure (nBind (nPure (nPure h'))))
theorem nTuple {elts : List Expr} {k : Nat} {pos : Pos} {Q : Value → Shared → Prop} (h : wpN M A (spliced (backTo pos (starEach elts env))) (fun vs s₁ => wpAny M A (newTuple vs) Q E s₁) E s) : wpN M A (eval (.Tuple elts k pos) env) Q E s := by
  rw [arm_eval_Tuple]
  exact nBind (nStand (nBind (nMono h (fun _ _ x => nOf x) fun _ _ x => x)))
theorem nBinOp {l r : Expr} {op : Operator} {pos : Pos} {Q : Value → Shared → Prop} (h : wpN M A (eval l env) (fun a s₁ => wpN M A (eval r env) (fun b s₂ => wpAny M A (binaryOp op a b) Q E s₂) E s₁) E s) : wpN M A (eval (.BinOp l op r pos) env) Q E s := by
  rw [eval_BinOp]
  exact nBind (nMono h (fun a s₁ h₁ => nBind (nHolding (nMono h₁ (fun b s₂ h₂ => nBind (nStand (nOperate (nOf h₂)))) fun _ _ x => x))) fun _ _ x => x)
theorem nCallTn {pos : Pos} {T : String} {e : Expr} {rest : List Expr} {Q : Value → Shared → Prop}
    (h : wpN M A (spliced (backTo pos (starEach (e :: rest) env))) (fun vs s₁ => wpN M A (call (.type T) ([] ++ vs)) Q E s₁) E s)
    (he : starEach (e :: rest) env = (false, eval e env) :: starEach rest env := by rfl) (hplain : (backTo pos (starEach rest env)).any (·.1) = false := by rfl) :
    wpN M A (callWith pos (.type T) [] (backTo pos (starEach (e :: rest) env)) []) Q E s := by
  rw [he] at h ⊢
  have hp : ((backTo pos ((false, eval e env) :: starEach rest env)).any (·.1)) = false := by show (false || (backTo pos (starEach rest env)).any (·.1)) = false; rw [hplain]; rfl
  unfold callWith
  refine nBind (nHolding (nEvalArgs (nMono h (fun a s₁ h₁ => nBind (nStand ?_)) fun _ _ x => x)))
  simp only [hp, List.any_nil, Bool.or_false]
  exact nBind (nPure (nTail h₁))
theorem nCallBn {pos : Pos} {id : String} {first : List Value} {e : Expr} {rest : List Expr} {Q : Value → Shared → Prop}
    (h : wpN M A (spliced (backTo pos (starEach (e :: rest) env))) (fun vs s₁ => wpN M A (call (.builtin id) (first ++ vs)) Q E s₁) E s)
    (he : starEach (e :: rest) env = (false, eval e env) :: starEach rest env := by rfl) (hplain : (backTo pos (starEach rest env)).any (·.1) = false := by rfl) :
    wpN M A (callWith pos (.builtin id) first (backTo pos (starEach (e :: rest) env)) []) Q E s := by
  rw [he] at h ⊢
  have hp : ((backTo pos ((false, eval e env) :: starEach rest env)).any (·.1)) = false := by show (false || (backTo pos (starEach rest env)).any (·.1)) = false; rw [hplain]; rfl
  unfold callWith
  refine nBind (nHolding (nEvalArgs (nMono h (fun a s₁ h₁ => nBind (nStand ?_)) fun _ _ x => x)))
  simp only [hp, List.any_nil, Bool.or_false]
  exact nBind (nPure (nTail h₁))
end
section
variable {w : World} {f : Addr} {vs : List Value} {room : Nat} {mean : ExcName → Option Value} {mg mb : Str → Option Value} {dp un : Nat} {gd : Option (List Code)} {cn : Str} {cs : Scope} {a : Addr} {ccd : Value} {cl : List (Str × Addr)} {outer : List Env} {A₀ : Around} {base h₀ : Heap} {L : Addr} {m : Str → Option Value} {news own : List (Addr × Obj)} {s : Shared} {Q E : Value → Shared → Prop}
theorem SpecN.use0 {R : Value → List (Addr × Obj) → Prop} (C : SpecN w f vs [] room R)
    (B : Below A₀ base outer h₀) (F : Fr h₀ L s.heap m) (X : (Mine.hd.heap_39 w.params).In h₀) (N : News h₀ L s.heap news)
    (T : Top Mine.hd.view_39 (looseW Mine.hd.view_39 [Str.ofString "PostError"]) mean mg mb h₀) (hk : cs.kind = .function) (hd : dp + room < recursionLimit) (hu : un + 8 * room < cLine)
    (h : ∀ r ret h' tk', R r ret → Fr h₀ L h' m → News h₀ L h' (ret ++ news) → (∀ p ∈ ret, ∀ q ∈ news, p.1 ≠ q.1) → Q r { s with heap := h', toks := tk' }) :
    wpN (model PySem.Challenge.rw_nt0492_01.row.prog w) (ktrTop dp un gd cn cs L a ccd cl outer) (call (.ref f) vs) Q E s :=
  C mean mg mb dp un gd cn cs a ccd cl outer A₀ base h₀ L m news s Q E B F X News.nil N (fun _ hp => nomatch hp) T hk hd hu fun r own' h' tk' F' N' hdis hR => h r own' h' tk' hR F' N' hdis
theorem spec_split {h : Heap} (N : News h₀ L h news) (hs : ∀ p ∈ own, p ∈ news) : News h₀ L h own ∧ News h₀ L h (news.filter fun q => !(own.map (·.1)).contains q.1) ∧ (∀ p ∈ own, ∀ q ∈ news.filter fun q => !(own.map (·.1)).contains q.1, p.1 ≠ q.1) ∧
    (∀ q ∈ news, (∃ p ∈ own, p = q) ∨ q ∈ news.filter fun q => !(own.map (·.1)).contains q.1) := by
  refine ⟨news_sub N hs, news_sub N fun p hp => (List.mem_filter.mp hp).1, fun p hp q hq e => ?_, fun q hq => ?_⟩
  · have h1 := (List.mem_filter.mp hq).2
    have h2 : q.1 ∈ own.map (·.1) := e ▸ List.mem_map_of_mem hp
    simp [h2] at h1
  · by_cases hm : q.1 ∈ own.map (·.1)
    · obtain ⟨p, hp, e⟩ := List.mem_map.mp hm
      refine .inl ⟨p, hp, ?_⟩
      have h1 := (N p (hs p hp)).1
      have h2 := (N q hq).1
      rw [e, h2] at h1
      exact Prod.ext e (Option.some.inj h1).symm
    · exact .inr (List.mem_filter.mpr ⟨hq, by simpa using hm⟩)
theorem SpecN.useP {P : Value → List (Addr × Obj) → Prop} (C : SpecN w f vs own room (fun r o => ∃ ret, o = ret ++ own ∧ (∀ p ∈ ret, ∀ q ∈ own, p.1 ≠ q.1) ∧ P r ret))
    (B : Below A₀ base outer h₀) (F : Fr h₀ L s.heap m) (X : (Mine.hd.heap_39 w.params).In h₀) (N : News h₀ L s.heap news) (hs : ∀ p ∈ own, p ∈ news)
    (T : Top Mine.hd.view_39 (looseW Mine.hd.view_39 [Str.ofString "PostError"]) mean mg mb h₀) (hk : cs.kind = .function) (hd : dp + room < recursionLimit) (hu : un + 8 * room < cLine)
    (h : ∀ r ret h' tk', P r ret → Fr h₀ L h' m → News h₀ L h' (ret ++ news) → (∀ p ∈ ret, ∀ q ∈ news, p.1 ≠ q.1) → Q r { s with heap := h', toks := tk' }) :
    wpN (model PySem.Challenge.rw_nt0492_01.row.prog w) (ktrTop dp un gd cn cs L a ccd cl outer) (call (.ref f) vs) Q E s := by
  obtain ⟨z1, z2, z3, hall⟩ := spec_split N hs
  refine C mean mg mb dp un gd cn cs a ccd cl outer A₀ base h₀ L m _ s Q E B F X z1 z2 z3 T hk hd hu fun r own' h' tk' F' N' hdis hR => ?_
  obtain ⟨ret, rfl, hro, hP⟩ := hR
  refine h r ret h' tk' hP F' (fun q hq => ?_) fun p hp q hq => ?_
  · rcases List.mem_append.mp hq with hq | hq
    · exact N' q (List.mem_append_left _ (List.mem_append_left _ hq))
    · rcases hall q hq with ⟨p, hp, rfl⟩ | hq'
      · exact N' p (List.mem_append_left _ (List.mem_append_right _ hp))
      · exact N' q (List.mem_append_right _ hq')
  · rcases hall q hq with ⟨p', hp', rfl⟩ | hq'
    · exact hro p hp p' hp'
    · exact hdis p (List.mem_append_left _ hp) q hq'
theorem SpecN.useM {R : Value → List (Addr × Obj) → Prop} (C : SpecN w f vs own room R) (rest : List (Addr × Obj))
    (B : Below A₀ base outer h₀) (F : Fr h₀ L s.heap m) (X : (Mine.hd.heap_39 w.params).In h₀) (N : News h₀ L s.heap news) (hs : ∀ p ∈ own, p ∈ news) (hr : ∀ p ∈ rest, p ∈ news) (hd' : ∀ p ∈ own, ∀ q ∈ rest, p.1 ≠ q.1)
    (T : Top Mine.hd.view_39 (looseW Mine.hd.view_39 [Str.ofString "PostError"]) mean mg mb h₀) (hk : cs.kind = .function) (hd : dp + room < recursionLimit) (hu : un + 8 * room < cLine)
    (h : ∀ r own' h' tk', R r own' → Fr h₀ L h' m → News h₀ L h' (own' ++ rest) → (∀ p ∈ own', ∀ q ∈ rest, p.1 ≠ q.1) → Q r { s with heap := h', toks := tk' }) :
    wpN (model PySem.Challenge.rw_nt0492_01.row.prog w) (ktrTop dp un gd cn cs L a ccd cl outer) (call (.ref f) vs) Q E s :=
  C mean mg mb dp un gd cn cs a ccd cl outer A₀ base h₀ L m rest s Q E B F X (news_sub N hs) (news_sub N hr) hd' T hk hd hu fun r own' h' tk' F' N' hdis hR => h r own' h' tk' hR F' N' hdis
theorem Spec.useM {R : Value → List (Addr × Obj) → Prop} (C : Spec w f vs own room R) (rest : List (Addr × Obj))
    (B : Below A₀ base outer h₀) (F : Fr h₀ L s.heap m) (X : (Mine.hd.heap_39 w.params).In h₀) (N : News h₀ L s.heap news) (hs : ∀ p ∈ own, p ∈ news) (hr : ∀ p ∈ rest, p ∈ news) (hd' : ∀ p ∈ own, ∀ q ∈ rest, p.1 ≠ q.1)
    (T : Top Mine.hd.view_39 (looseW Mine.hd.view_39 [Str.ofString "PostError"]) mean mg mb h₀) (hk : cs.kind = .function) (hd : dp + room < recursionLimit) (hu : un + 8 * room < cLine)
    (h : ∀ r own' h' tk', R r own' → Fr h₀ L h' m → News h₀ L h' (own' ++ rest) → (∀ p ∈ own', ∀ q ∈ rest, p.1 ≠ q.1) → Q r { s with heap := h', toks := tk' }) :
    wpAny (model PySem.Challenge.rw_nt0492_01.row.prog w) (ktrTop dp un gd cn cs L a ccd cl outer) (call (.ref f) vs) Q E s :=
  C mean mg mb dp un gd cn cs a ccd cl outer A₀ base h₀ L m rest s Q E B F X (news_sub N hs) (news_sub N hr) hd' T hk hd hu fun r own' h' tk' F' N' hdis hR => h r own' h' tk' hR F' N' hdis
end
end
section
noncomputable def num (B : Int) (ds : List Int) : Int := ds.foldl (fun a d => a * B + d) 0
theorem num_snoc (B : Int) (ds : List Int) (d : Int) : num B (ds ++ [d]) = num B ds * B + d := by simp [num]
theorem num_in {B : Int} (hB : 0 < B) {ds : List Int} (h : ∀ d ∈ ds, 0 ≤ d ∧ d < B) : 0 ≤ num B ds ∧ num B ds < B ^ ds.length := by
  have key : ∀ n, ∀ ds : List Int, ds.length = n → (∀ d ∈ ds, 0 ≤ d ∧ d < B) → 0 ≤ num B ds ∧ num B ds < B ^ ds.length := by
    intro n
    induction n with
    | zero => intro ds hl _; rw [List.length_eq_zero_iff.mp hl]; simp [num]
    | succ n ih =>
      intro ds hl hd
      have hne : ds ≠ [] := by intro e; rw [e] at hl; cases hl
      obtain ⟨es, e, rfl⟩ : ∃ es e, ds = es ++ [e] := ⟨ds.dropLast, ds.getLast hne, (List.dropLast_concat_getLast hne).symm⟩
      have hl' : es.length = n := by simpa using hl
      have h1 := ih es hl' fun d hd' => hd d (List.mem_append_left _ hd')
      have h2 := hd e (by simp)
      rw [num_snoc, List.length_append, List.length_singleton, Int.pow_succ]
      have h3 : num B es * B + B ≤ B ^ es.length * B := by
        have := Int.mul_le_mul_of_nonneg_right (show num B es + 1 ≤ B ^ es.length by lia) (Int.le_of_lt hB)
        rw [Int.add_mul, Int.one_mul] at this
        exact this
      have h4 : 0 ≤ num B es * B := Int.mul_nonneg h1.1 (Int.le_of_lt hB)
      lia
  exact key _ ds rfl h
noncomputable def Big (a : Int) : Prop := 0 ≤ a ∧ a < 2 ^ 1000
theorem Big.of_lt {a : Int} {k : Nat} (h0 : 0 ≤ a) (h1 : a < 2 ^ k) (hk : k ≤ 1000) : Big a := ⟨h0, Int.lt_of_lt_of_le h1 (by
  have := Nat.pow_le_pow_right (n := 2) (by decide) hk
  exact_mod_cast this)⟩
theorem Big.of_small {a : Int} (h0 : 0 ≤ a) (h1 : a < 1000000) : Big a := Big.of_lt (k := 20) h0 (by lia) (by decide)
theorem Big.bits {a : Int} (h : Big a) : Builtin.Int.intBits a ≤ 1000 := intBits_le (by
  obtain ⟨h0, h1⟩ := h
  have : (a.natAbs : Int) < ((2 ^ 1000 : Nat) : Int) := by
    rw [Int.natAbs_of_nonneg h0]; push_cast; exact h1
  exact_mod_cast this)
theorem pow256 (k : Nat) : (256 : Int) ^ k = 2 ^ (8 * k) := by
  rw [show (256 : Int) = 2 ^ 8 by rfl, ← Int.pow_mul]
theorem num256_big {ds : List Int} (h : ∀ d ∈ ds, 0 ≤ d ∧ d < 256) (hl : ds.length ≤ 100) : Big (num 256 ds) := by
  have h1 := num_in (by decide : (0 : Int) < 256) h
  rw [pow256] at h1
  exact Big.of_lt h1.1 h1.2 (by lia)
theorem or_low {w o : Int} {n : Nat} (hw : 0 ≤ w) (ho : 0 ≤ o) (ho' : o < 2 ^ n) : Builtin.bitOr (w * 2 ^ n) o = w * 2 ^ n + o := by
  obtain ⟨a, rfl⟩ := Int.eq_ofNat_of_zero_le hw
  obtain ⟨b, rfl⟩ := Int.eq_ofNat_of_zero_le ho
  have hb : b < 2 ^ n := by exact_mod_cast ho'
  have e := Nat.two_pow_add_eq_or_of_lt hb a
  have e1 : ((a : Int) * 2 ^ n) = ((2 ^ n * a : Nat) : Int) := by push_cast; rw [Int.mul_comm]
  rw [e1]
  have key : ∀ x y : Nat, Builtin.bitOr (x : Int) (y : Int) = ((x ||| y : Nat) : Int) := by
    intro x y
    unfold Builtin.bitOr Builtin.bitAnd Builtin.bitNot
    rw [decide_eq_false (show ¬ (0 ≤ -(x : Int) - 1) by lia), decide_eq_false (show ¬ (0 ≤ -(y : Int) - 1) by lia)]
    have ex : (-(-(x : Int) - 1) - 1).toNat = x := by lia
    have ey : (-(-(y : Int) - 1) - 1).toNat = y := by lia
    show -(-(((_ ||| _ : Nat)) : Int) - 1) - 1 = _
    rw [ex, ey]
    lia
  rw [key, ← e]
  push_cast
  lia
theorem and_mask {x bits : Int} (hb : bits ∈ [1, 2, 4, 8, 16]) : Builtin.bitAnd x (1 * 2 ^ bits.toNat - 1) = x % 2 ^ bits.toNat := by
  simp only [List.mem_cons, List.not_mem_nil, or_false] at hb
  rcases hb with rfl | rfl | rfl | rfl | rfl
  · exact bitAnd_m1 x
  · exact bitAnd_m2 x
  · exact bitAnd_m4 x
  · exact bitAnd_m8 x
  · exact bitAnd_m16 x
theorem many_bits {n bits : Int} (hb : bits ∈ [1, 2, 4, 8, 16]) (hn : 0 ≤ n) : 0 ≤ n.fdiv bits ∧ n.fdiv bits ≤ n ∧ 0 ≤ n - n.fdiv bits * bits ∧ n - n.fdiv bits * bits < bits ∧ 1 ≤ bits ∧ bits ≤ 16 := by
  simp only [List.mem_cons, List.not_mem_nil, or_false] at hb
  rcases hb with rfl | rfl | rfl | rfl | rfl <;> rw [Int.fdiv_eq_ediv_of_nonneg _ (by decide)] <;> lia
section
variable {prog : Program} {w : World} {A : Around} {E : Value → Shared → Prop} {s : Shared} {a b n : Int} {t u : Tok} {Q : Value → Shared → Prop}
theorem lshB (ha : Big a) (hn : 0 ≤ n) (hn' : n ≤ 1000) (h : Q (.int (a * 2 ^ n.toNat) s.toks) { s with toks := s.toks + 1 }) : wpAny (model prog w) A (binaryOp .LShift (.int a t) (.int n u)) Q E s :=
  lshift_int hn (by have := ha.bits; lia) h
theorem mulB (ha : Big a) (hb : Big b) (h : Q (.int (a * b) s.toks) { s with toks := s.toks + 1 }) : wpAny (model prog w) A (binaryOp .Mult (.int a t) (.int b u)) Q E s :=
  PyProof.Rows.mul_int h (IntMulOk.of_le ha.bits hb.bits (by decide))
theorem divB (hb : Big b) (h0 : b ≠ 0) (h : Q (.int (a.fdiv b) s.toks) { s with toks := s.toks + 1 }) : wpAny (model prog w) A (binaryOp .FloorDiv (.int a t) (.int b u)) Q E s := by
  refine floordiv_int h0 h (.inl (PyProof.noPylong_of_log2 ?_))
  have := hb.bits
  unfold Builtin.Int.intBits at this
  rw [if_neg (by simpa using h0)] at this
  lia
end
theorem drop_clip {rs : List Int} {y : Int} (h0 : 0 ≤ y) : rs.drop (clipAt rs.length y) = rs.drop y.toNat := by
  have hc := clipAt_min (n := rs.length) h0
  by_cases h : (rs.length : Int) < y
  · rw [if_pos h] at hc
    rw [List.drop_of_length_le (by lia), List.drop_of_length_le (by lia)]
  · rw [if_neg h] at hc
    congr 1; lia
theorem take_clip {rs : List Int} {y : Int} (h0 : 0 ≤ y) : List.take (rs.length - clipAt rs.length y) (rs.drop (clipAt rs.length y)) = rs.drop y.toNat := by
  rw [List.take_of_length_le (by rw [List.length_drop]; exact Nat.le_refl _), drop_clip h0]
theorem numB_big {ds : List Int} {bits : Int} (h : ∀ d ∈ ds, 0 ≤ d ∧ d < 2 ^ bits.toNat) (hl : ds.length * bits.toNat ≤ 1000) : Big (num (2 ^ bits.toNat) ds) := by
  have h1 := num_in (Int.pow_pos (by decide : (0 : Int) < 2)) h
  rw [← Int.pow_mul] at h1
  exact Big.of_lt h1.1 h1.2 (by rw [Nat.mul_comm]; exact hl)
end
section
theorem fillS1 : PySem.Challenge.rw_nt0492_01 = PySem.Challenge.rw_nt0492_01 ∧ (∀ P, Mine.hd.heap_39 P = Mine.hd.heap_39 P) := by
  k_fill
  exact ⟨rfl, fun _ => rfl⟩
set_option maxHeartbeats 8000000
noncomputable def iabs (x : Int) : Int := if x < 0 then -x else x
noncomputable def near2 (w best c : Int) : Int := if iabs (w - c) < iabs (w - best) then c else best
noncomputable def near (a b c : Int) : Int := near2 (a + b - c) (near2 (a + b - c) a b) c
namespace H_near_spec
abbrev hkD : Type := (((World × Int) × (Int × Int)) × ((Tok × Tok) × (Tok × Tele)))
def hkP (w : World) (a : Int) (b : Int) (c : Int) (ta : Tok) (tb : Tok) (tc : Tok) (hkT : Tele) : Prop := ∀ (ha : 0 ≤ a ∧ a < 256) (hb : 0 ≤ b ∧ b < 256) (hc : 0 ≤ c ∧ c < 256), SpecAt w 110 [.int a ta, .int b tb, .int c tc] [] 1 (fun r n => n = [] ∧ ∃ t, r = .int (near a b c) t) hkT
def hkU (d : hkD) : Prop := hkP d.1.1.1 d.1.1.2 d.1.2.1 d.1.2.2 d.2.1.1 d.2.1.2 d.2.2.1 d.2.2.2
theorem hkN : Nonempty hkD := (ne2 (ne2 (ne2 neWorld ⟨default⟩) (ne2 ⟨default⟩ ⟨default⟩)) (ne2 (ne2 ⟨default⟩ ⟨default⟩) (ne2 ⟨default⟩ neTele)))
@[irreducible] def hkV : hkD := hk_c hkN hkU
@[irreducible] def w : World := hkV.1.1.1
@[irreducible] def a : Int := hkV.1.1.2
@[irreducible] def b : Int := hkV.1.2.1
@[irreducible] def c : Int := hkV.1.2.2
@[irreducible] def ta : Tok := hkV.2.1.1
@[irreducible] def tb : Tok := hkV.2.1.2
@[irreducible] def tc : Tok := hkV.2.2.1
@[irreducible] def hkT : Tele := hkV.2.2.2
@[irreducible] def g : Heap := hideAll hkT.s.heap (([] : List (Addr × Obj)).map (·.1))
def L' : Addr := hkT.s.heap.objs.size
theorem g_e : g = hideAll hkT.s.heap (([] : List (Addr × Obj)).map (·.1)) := by delta g; exact rfl
theorem L_e : L' = hkT.s.heap.objs.size := rfl
theorem core : hkP w a b c ta tb tc hkT := by
  unfold hkP SpecAt
  intro ha hb hc
  obtain ⟨_, _⟩ := id ha
  obtain ⟨_, _⟩ := id hb
  obtain ⟨_, _⟩ := id hc
  intro B F X N Nr hdis T hk hd hu hret
  refine wpAny_call ?_
  k_dflt (refine' enterR0 g L' g_e L_e (binds := [(Str.ofString "left", .int a ta), (Str.ofString "above", .int b tb), (Str.ofString "corner", .int c tc)]) B F X N Nr hdis T rfl rfl hk ?k6 ?k7 ?k8 ?k9 ?kB ?_ ?c5 ?c2 ?c3 ?c4; (case k6 => k_is); (case k7 => k_is); (case k8 => ktr_room); (case k9 => exact BindsTo.of_eq rfl); (case c5 => decide); (case kB => exact locs rfl); (case c2 => exact rfl); (case c3 => exact rfl); (case c4 => exact rfl); k_whole)
  intro h' FG F' N' B' X' T' l1
  try dsimp only
  try k_lt l1
  try k_lift B'
  try k_fold
  k_steps
  all_goals dsimp only
  all_goals try k_unfold
  all_goals refine leaveR_ (own' := []) (by assumption) News.nil (fun aF aN aD => hret _ [] _ _ aF aN aD ⟨rfl, _, congrArg (fun z => Value.int z _) ?_⟩)
  all_goals (simp only [near, near2, iabs, *, if_true, if_false]; done)
end H_near_spec
theorem near_spec (w : World) (a b c : Int) (ta tb tc : Tok) (ha : 0 ≤ a ∧ a < 256) (hb : 0 ≤ b ∧ b < 256) (hc : 0 ≤ c ∧ c < 256) :
    Spec w 110 [.int a ta, .int b tb, .int c tc] [] 1 (fun r n => n = [] ∧ ∃ t, r = .int (near a b c) t) :=
  Spec.mk fun t => hk_all H_near_spec.hkN H_near_spec.hkU (by with_unfolding_all exact H_near_spec.core) (((w, a), (b, c)), ((ta, tb), (tc, t))) ha hb hc
namespace H_lawrest_spec
abbrev hkD : Type := (((World × Int) × (Int × Int)) × ((Tok × Tok) × (Tok × Tele)))
def hkP (w : World) (a : Int) (b : Int) (c : Int) (ta : Tok) (tb : Tok) (tc : Tok) (hkT : Tele) : Prop := ∀ (ha : 0 ≤ a ∧ a < 256) (hb : 0 ≤ b ∧ b < 256) (hc : 0 ≤ c ∧ c < 256), SpecAt w 241 [.int a ta, .int b tb, .int c tc] [] 1 (fun r n => n = [] ∧ ∃ t, r = .int (near a b c) t) hkT
def hkU (d : hkD) : Prop := hkP d.1.1.1 d.1.1.2 d.1.2.1 d.1.2.2 d.2.1.1 d.2.1.2 d.2.2.1 d.2.2.2
theorem hkN : Nonempty hkD := (ne2 (ne2 (ne2 neWorld ⟨default⟩) (ne2 ⟨default⟩ ⟨default⟩)) (ne2 (ne2 ⟨default⟩ ⟨default⟩) (ne2 ⟨default⟩ neTele)))
@[irreducible] def hkV : hkD := hk_c hkN hkU
@[irreducible] def w : World := hkV.1.1.1
@[irreducible] def a : Int := hkV.1.1.2
@[irreducible] def b : Int := hkV.1.2.1
@[irreducible] def c : Int := hkV.1.2.2
@[irreducible] def ta : Tok := hkV.2.1.1
@[irreducible] def tb : Tok := hkV.2.1.2
@[irreducible] def tc : Tok := hkV.2.2.1
@[irreducible] def hkT : Tele := hkV.2.2.2
@[irreducible] def g : Heap := hideAll hkT.s.heap (([] : List (Addr × Obj)).map (·.1))
def L' : Addr := hkT.s.heap.objs.size
theorem g_e : g = hideAll hkT.s.heap (([] : List (Addr × Obj)).map (·.1)) := by delta g; exact rfl
theorem L_e : L' = hkT.s.heap.objs.size := rfl
theorem core : hkP w a b c ta tb tc hkT := by
  unfold hkP SpecAt
  intro ha hb hc
  obtain ⟨_, _⟩ := id ha
  obtain ⟨_, _⟩ := id hb
  obtain ⟨_, _⟩ := id hc
  intro B F X N Nr hdis T hk hd hu hret
  refine wpAny_call ?_
  k_dflt (refine' enterR0 g L' g_e L_e (binds := [(Str.ofString "a", .int a ta), (Str.ofString "b", .int b tb), (Str.ofString "c", .int c tc)]) B F X N Nr hdis T rfl rfl hk ?k6 ?k7 ?k8 ?k9 ?kB ?_ ?c5 ?c2 ?c3 ?c4; (case k6 => k_is); (case k7 => k_is); (case k8 => ktr_room); (case k9 => exact BindsTo.of_eq rfl); (case c5 => decide); (case kB => exact locs rfl); (case c2 => exact rfl); (case c3 => exact rfl); (case c4 => exact rfl); k_whole)
  intro h' FG F' N' B' X' T' l1
  try dsimp only
  try k_lt l1
  try k_lift B'
  try k_fold
  k_steps
  all_goals dsimp only
  all_goals try k_unfold
  all_goals refine leaveR_ (own' := []) (by assumption) News.nil (fun aF aN aD => hret _ [] _ _ aF aN aD ⟨rfl, _, congrArg (fun z => Value.int z _) ?_⟩)
  all_goals (simp only [near, near2, iabs, *, if_true, if_false]; done)
end H_lawrest_spec
theorem lawrest_spec (w : World) (a b c : Int) (ta tb tc : Tok) (ha : 0 ≤ a ∧ a < 256) (hb : 0 ≤ b ∧ b < 256) (hc : 0 ≤ c ∧ c < 256) :
    Spec w 241 [.int a ta, .int b tb, .int c tc] [] 1 (fun r n => n = [] ∧ ∃ t, r = .int (near a b c) t) :=
  Spec.mk fun t => hk_all H_lawrest_spec.hkN H_lawrest_spec.hkU (by with_unfolding_all exact H_lawrest_spec.core) (((w, a), (b, c)), ((ta, tb), (tc, t))) ha hb hc
noncomputable def octAt (ks : List Int) (p : Int) : Int := if 0 ≤ p ∧ p < (ks.length : Int) then ks.getD p.toNat 0 else 0
theorem octAt_in {ks : List Int} {p : Int} (h : ∀ k ∈ ks, 0 ≤ k ∧ k < 256) : 0 ≤ octAt ks p ∧ octAt ks p < 256 := by
  unfold octAt
  split
  · exact KBw.getD_in h
  · lia
namespace H_octet_spec
abbrev hkD : Type := (((World × (Array UInt8)) × (Tok × (List Int))) × ((Int × Tok) × Tele))
def hkP (w : World) (b : Array UInt8) (tb : Tok) (ks : List Int) (p : Int) (tp : Tok) (hkT : Tele) : Prop := ∀ (hb : KBw.bInts b = ks) (hl : ks.length ≤ 1000), SpecAt w 124 [.bytes b tb, .int p tp] [] 1 (fun r n => n = [] ∧ ∃ t, r = .int (octAt ks p) t ∧ 0 ≤ octAt ks p ∧ octAt ks p < 256) hkT
def hkU (d : hkD) : Prop := hkP d.1.1.1 d.1.1.2 d.1.2.1 d.1.2.2 d.2.1.1 d.2.1.2 d.2.2
theorem hkN : Nonempty hkD := (ne2 (ne2 (ne2 neWorld ⟨default⟩) (ne2 ⟨default⟩ ⟨default⟩)) (ne2 (ne2 ⟨default⟩ ⟨default⟩) neTele))
@[irreducible] def hkV : hkD := hk_c hkN hkU
@[irreducible] def w : World := hkV.1.1.1
@[irreducible] def b : Array UInt8 := hkV.1.1.2
@[irreducible] def tb : Tok := hkV.1.2.1
@[irreducible] def ks : List Int := hkV.1.2.2
@[irreducible] def p : Int := hkV.2.1.1
@[irreducible] def tp : Tok := hkV.2.1.2
@[irreducible] def hkT : Tele := hkV.2.2
@[irreducible] def g : Heap := hideAll hkT.s.heap (([] : List (Addr × Obj)).map (·.1))
def L' : Addr := hkT.s.heap.objs.size
theorem g_e : g = hideAll hkT.s.heap (([] : List (Addr × Obj)).map (·.1)) := by delta g; exact rfl
theorem L_e : L' = hkT.s.heap.objs.size := rfl
theorem core : hkP w b tb ks p tp hkT := by
  unfold hkP SpecAt
  intro hb hl
  intro B F X N Nr hdis T hk hd hu hret
  refine wpAny_call ?_
  k_dflt (refine' enterR0 g L' g_e L_e (binds := [(Str.ofString "row", .bytes b tb), (Str.ofString "place", .int p tp)]) B F X N Nr hdis T rfl rfl hk ?k6 ?k7 ?k8 ?k9 ?kB ?_ ?c5 ?c2 ?c3 ?c4; (case k6 => k_is); (case k7 => k_is); (case k8 => ktr_room); (case k9 => exact BindsTo.of_eq rfl); (case c5 => decide); (case kB => exact locs rfl); (case c2 => exact rfl); (case c3 => exact rfl); (case c4 => exact rfl); k_whole)
  intro h' FG F' N' B' X' T' l1
  try dsimp only
  try k_lt l1
  try k_lift B'
  try k_fold
  have hin := octAt_in (ks := ks) (p := p) (hb ▸ fun _ hk => KBw.ints_in hk)
  k_steps
  all_goals dsimp only
  all_goals try k_unfold
  all_goals refine leaveR_ (own' := []) (by assumption) News.nil (fun aF aN aD => hret _ [] _ _ aF aN aD ⟨rfl, _, congrArg (fun z => Value.int z _) ?_, hin⟩)
  all_goals (simp only [octAt, *, and_self, and_false, false_and, if_true, if_false]; done)
end H_octet_spec
theorem octet_spec (w : World) (b : Array UInt8) (tb : Tok) (ks : List Int) (p : Int) (tp : Tok) (hb : KBw.bInts b = ks) (hl : ks.length ≤ 1000) :
    Spec w 124 [.bytes b tb, .int p tp] [] 1 (fun r n => n = [] ∧ ∃ t, r = .int (octAt ks p) t ∧ 0 ≤ octAt ks p ∧ octAt ks p < 256) :=
  Spec.mk fun t => hk_all H_octet_spec.hkN H_octet_spec.hkU (by with_unfolding_all exact H_octet_spec.core) (((w, b), (tb, ks)), ((p, tp), t)) hb hl
namespace BA
section
variable {prog : Program} {w : World} {A : Around} {E : Value → Shared → Prop} {s : Shared} {a : Addr} {b : Array UInt8} {ks : List Int} {h₀ : Heap} {L : Addr} {news : List (Addr × Obj)}
theorem lenK {Q : Value → Shared → Prop} (N : News h₀ L s.heap news) (hm : (a, baOf b) ∈ news) (hk : KBw.bInts b = ks) (hfit : ks.length ≤ 1000) (h : Q (.int (ks.length : Nat) (s.toks + 1)) { s with toks := s.toks + 1 + 1 }) :
    wpAny (model prog w) A (call (.builtin "len") [.ref a]) Q E s := by
  subst hk
  rw [KBw.ints_length] at hfit h
  exact len (N _ hm).1 (by lia) h
theorem itemK {value slice : PySem.Expr} {i : Int} {ui : Tok} {Q : Value → Shared → Prop} (N : News h₀ L s.heap news) (hm : (a, baOf b) ∈ news) (hk : KBw.bInts b = ks) (h0 : 0 ≤ i) (h1 : i < (ks.length : Int)) (hfit : ks.length ≤ 1000)
    (h : ∀ t' k, 0 ≤ ks.getD i.toNat 0 → ks.getD i.toNat 0 < 256 → Q (.int (ks.getD i.toNat 0) t') { s with toks := k })
    (hs : subscripted slice false (.ref a) (.int i ui) = operate [.ref a, .int i ui] (getItem (.ref a) (.int i ui)) := by with_unfolding_all rfl) :
    wpAny (model prog w) A (subscriptTail value slice (.ref a) (.int i ui)) Q E s := by
  subst hk
  rw [KBw.ints_length] at hfit h1
  have hin := KBw.getD_in (ks := KBw.bInts b) (j := i.toNat) fun k hk => KBw.ints_in hk
  have hlt : i.toNat < b.size := by lia
  have hx : b[i.toNat]? = some b[i.toNat] := by simp [hlt]
  have e : (KBw.bInts b).getD i.toNat 0 = (b[i.toNat].toNat : Int) := by rw [List.getD_eq_getElem?_getD, KBw.ints_get hx]; rfl
  refine PyProof.Rows.tail_any (typeIs (N _ hm).1) slot_getitem.lookup (getItemBA (N _ hm).1 h0 (by lia) hx ?_) hs
  have q := h s.toks (s.toks + 1) hin.1 hin.2
  rw [e] at q
  exact q
end
end BA
theorem kwS11 : True := by
  k_with "hy" => (with_reducible first | assumption | exact And.left (by assumption) | exact And.right (by assumption) | exact And.left (And.right (by assumption)) | exact And.right (And.right (by assumption)) | exact And.left (And.right (And.right (by assumption))) | exact And.right (And.right (And.right (by assumption))) | exact And.left (And.right (And.right (And.right (by assumption)))) | exact And.right (And.right (And.right (And.right (by assumption)))) | exact And.left (And.right (And.right (And.right (And.right (by assumption))))) | exact And.right (And.right (And.right (And.right (And.right (by assumption))))) | exact And.left (And.right (And.right (And.right (And.right (And.right (by assumption)))))) | exact And.right (And.right (And.right (And.right (And.right (And.right (by assumption)))))) | exact And.left (And.right (And.right (And.right (And.right (And.right (And.right (by assumption))))))) | exact And.right (And.right (And.right (And.right (And.right (And.right (And.right (by assumption))))))) | exact And.left (And.right (And.right (And.right (And.right (And.right (And.right (And.right (by assumption)))))))) | exact And.right (And.right (And.right (And.right (And.right (And.right (And.right (And.right (by assumption)))))))) | exact And.left (And.right (And.right (And.right (And.right (And.right (And.right (And.right (And.right (by assumption))))))))) | exact And.right (And.right (And.right (And.right (And.right (And.right (And.right (And.right (And.right (by assumption))))))))) | exact And.left (And.right (And.right (And.right (And.right (And.right (And.right (And.right (And.right (And.right (by assumption)))))))))) | exact And.right (And.right (And.right (And.right (And.right (And.right (And.right (And.right (And.right (And.right (by assumption)))))))))) | exact And.left (And.right (And.right (And.right (And.right (And.right (And.right (And.right (And.right (And.right (And.right (by assumption))))))))))) | exact And.right (And.right (And.right (And.right (And.right (And.right (And.right (And.right (And.right (And.right (And.right (by assumption))))))))))) | exact And.left (And.right (And.right (And.right (And.right (And.right (And.right (And.right (And.right (And.right (And.right (And.right (by assumption)))))))))))) | exact And.right (And.right (And.right (And.right (And.right (And.right (And.right (And.right (And.right (And.right (And.right (And.right (by assumption)))))))))))))
  k_with "lt" => (with_reducible first | assumption | exact Nat.lt_succ_self _ | exact Nat.lt_succ_of_lt (by k_extra "lt"))
  k_with "ne" => ((try dsimp only); with_reducible first | k_extra "hy" | exact Ne.symm (by k_extra "hy") | exact Nat.ne_of_lt (by k_extra "lt") | exact Nat.ne_of_gt (by k_extra "lt") | exact Nat.ne_of_lt (by k_extra "hy") | exact Nat.ne_of_gt (by k_extra "hy"))
  k_with "l" => (with_reducible first | assumption | (refine And.intro ?_ ?_ <;> assumption) | exact iLe (by assumption) rfl | exact iLt (by assumption) rfl | exact iLl (by assumption) rfl | exact iGe (by assumption) rfl | exact nLe (by assumption) rfl | exact nLt (by assumption) rfl | exact nLl (by assumption) rfl | exact Int.le_of_lt (by assumption) | exact Nat.le_of_lt (by assumption) | exact (show (OfNat.ofNat _ : Int) ≤ OfNat.ofNat _ from litI rfl))
  k_with "rm" => (first | exact rm3 (by assumption) rfl | exact rm2 (by assumption) rfl | exact rm1 (by assumption) rfl | exact rm0 (by assumption))
  k_with "execs cons" => ((with_reducible show wpAny _ _ (execs _ _) _ _ (Shared.mk _ _ _ (_ + _) _)); refine toksE fun tk => ?_)
  k_with "execs nil" => ((with_reducible show wpAny _ _ (execs _ _) _ _ (Shared.mk _ _ _ (_ + _) _)); refine toksE fun tk => ?_)
  k_with "sz" => (first | exact szL rfl | exact szA rfl | exact szS rfl | exact szF rfl)
  k_with "un" => (first | exact un3 (by assumption) rfl | exact un2 (by assumption) rfl | exact un1 (by assumption) rfl)
  k_with "call builtin:len" => (k_here; (with_reducible show wpAny _ _ (call (Value.builtin "len") [Value.ref _]) _ _ _); k_dflt (refine' BA.lenK ?qqk1 ?qqk2 ?qqk3 ?qqk4 ?_; (case qqk1 => k_asm); (case qqk2 => k_mem); (case qqk3 => with_reducible assumption); (case qqk4 => (first | lia | (simp only [List.length_append, List.length_cons, List.length_nil]; lia))); k_whole))
  k_with "subscriptTail" => (k_here; (with_reducible show wpAny _ _ (subscriptTail _ _ (Value.ref _) (Value.int _ _)) _ _ _); k_dflt (refine' BA.itemK ?qqk1 ?qqk2 ?qqk3 ?qqk4 ?qqk5 ?qqk6 ?_ ?qqk7; (case qqk1 => k_asm); (case qqk2 => k_mem); (case qqk3 => with_reducible assumption); (case qqk4 => lia); (case qqk5 => lia); (case qqk6 => lia); (case qqk7 => with_unfolding_all rfl); k_whole); intro _ _ _ _)
  k_with "getMethod ref" => (k_here; (with_reducible show wpAny _ _ (getMethod (Value.ref _) (PySem.Str.ofString "append") _) _ _ _); k_dflt (refine' BA.getMethK BA.slot_append BA.type_append ?qqN ?qqm ?_; (case qqN => k_asm); (case qqm => k_mem)))
  k_with "getMethod ref" => (k_here; (with_reducible show wpAny _ _ (getMethod (Value.ref _) (PySem.Str.ofString "extend") _) _ _ _); k_dflt (refine' BA.getMethK BA.slot_extend BA.type_extend ?qqN ?qqm ?_; (case qqN => k_asm); (case qqm => k_mem)))
  k_with "call type:bytes" => (k_here; (with_reducible show wpAny _ _ (call (Value.type "bytes") [Value.ref _]) _ _ _); k_dflt (refine' BA.toBytesK ?qqN ?qqm ?qqz ?_; (case qqN => k_asm); (case qqm => k_mem); (case qqz => lia)); intro _ _)
  k_with "setItem ref int" => (k_here; k_dflt (refine' BA.setItemK ?qqF ?qqN ?qqU ?qqa ?qqb ?qqc ?qqd ?qqe ?_; (case qqF => k_asm); (case qqN => k_asm); (case qqU => k_upd); (case qqa => lia); (case qqb => lia); (case qqc => lia); (case qqd => first | assumption | lia); (case qqe => first | assumption | lia)); intro _ _ _)
  k_with "call type:bytes" => (k_here; (with_reducible show wpAny _ _ (call (Value.type "bytes") [Value.bytes _ _]) _ _ _); k_dflt (refine BA.bytesOfBytes ?_))
  exact True.intro
namespace H_octetR_spec
abbrev hkD : Type := (((World × Addr) × ((Array UInt8) × (List Int))) × ((Int × Tok) × Tele))
def hkP (w : World) (a : Addr) (b : Array UInt8) (ks : List Int) (p : Int) (tp : Tok) (hkT : Tele) : Prop := ∀ (hb : KBw.bInts b = ks) (hl : ks.length ≤ 1000), SpecAt w 124 [.ref a, .int p tp] [(a, BA.baOf b)] 1 (fun r o => ∃ ret, o = ret ++ [(a, BA.baOf b)] ∧ (∀ p ∈ ret, ∀ q ∈ [(a, BA.baOf b)], p.1 ≠ q.1) ∧ ret = [] ∧ ∃ t, r = .int (octAt ks p) t ∧ 0 ≤ octAt ks p ∧ octAt ks p < 256) hkT
def hkU (d : hkD) : Prop := hkP d.1.1.1 d.1.1.2 d.1.2.1 d.1.2.2 d.2.1.1 d.2.1.2 d.2.2
theorem hkN : Nonempty hkD := (ne2 (ne2 (ne2 neWorld ⟨default⟩) (ne2 ⟨default⟩ ⟨default⟩)) (ne2 (ne2 ⟨default⟩ ⟨default⟩) neTele))
@[irreducible] def hkV : hkD := hk_c hkN hkU
@[irreducible] def w : World := hkV.1.1.1
@[irreducible] def a : Addr := hkV.1.1.2
@[irreducible] def b : Array UInt8 := hkV.1.2.1
@[irreducible] def ks : List Int := hkV.1.2.2
@[irreducible] def p : Int := hkV.2.1.1
@[irreducible] def tp : Tok := hkV.2.1.2
@[irreducible] def hkT : Tele := hkV.2.2
@[irreducible] def g : Heap := hideAll hkT.s.heap (([(a, BA.baOf b)] : List (Addr × Obj)).map (·.1))
def L' : Addr := hkT.s.heap.objs.size
theorem g_e : g = hideAll hkT.s.heap (([(a, BA.baOf b)] : List (Addr × Obj)).map (·.1)) := by delta g; exact rfl
theorem L_e : L' = hkT.s.heap.objs.size := rfl
theorem core : hkP w a b ks p tp hkT := by
  unfold hkP SpecAt
  intro hb hl
  intro B F X N Nr hdis T hk hd hu hret
  refine wpAny_call ?_
  k_dflt (refine' enterR0 g L' g_e L_e (binds := [(Str.ofString "row", .ref a), (Str.ofString "place", .int p tp)]) B F X N Nr hdis T rfl rfl hk ?k6 ?k7 ?k8 ?k9 ?kB ?_ ?c5 ?c2 ?c3 ?c4; (case k6 => k_is); (case k7 => k_is); (case k8 => ktr_room); (case k9 => exact BindsTo.of_eq rfl); (case c5 => decide); (case kB => exact locs rfl); (case c2 => exact rfl); (case c3 => exact rfl); (case c4 => exact rfl); k_whole)
  intro h' FG F' N' B' X' T' l1
  try dsimp only
  try k_lt l1
  try k_lift B'
  try k_fold
  have hin := octAt_in (ks := ks) (p := p) (hb ▸ fun _ hk => KBw.ints_in hk)
  k_steps
  all_goals dsimp only
  all_goals try k_unfold
  all_goals refine leaveR_ (own' := [(a, BA.baOf b)]) (by assumption) (by assumption) (fun aF aN aD => hret _ [(a, BA.baOf b)] _ _ aF aN aD ⟨[], rfl, (fun _ h => nomatch h), rfl, _, congrArg (fun z => Value.int z _) ?_, hin⟩)
  all_goals (simp only [octAt, *, and_self, and_false, false_and, if_true, if_false]; done)
end H_octetR_spec
theorem octetR_spec (w : World) (a : Addr) (b : Array UInt8) (ks : List Int) (p : Int) (tp : Tok) (hb : KBw.bInts b = ks) (hl : ks.length ≤ 1000) :
    Spec w 124 [.ref a, .int p tp] [(a, BA.baOf b)] 1 (fun r o => ∃ ret, o = ret ++ [(a, BA.baOf b)] ∧ (∀ p ∈ ret, ∀ q ∈ [(a, BA.baOf b)], p.1 ≠ q.1) ∧ ret = [] ∧ ∃ t, r = .int (octAt ks p) t ∧ 0 ≤ octAt ks p ∧ octAt ks p < 256) :=
  Spec.mk fun t => hk_all H_octetR_spec.hkN H_octetR_spec.hkU (by with_unfolding_all exact H_octetR_spec.core) (((w, a), (b, ks)), ((p, tp), t)) hb hl
theorem kwS12 : True := by
  k_with "call ref" => ((with_reducible show wpAny _ _ (call (Value.ref 110) [Value.int _ _, Value.int _ _, Value.int _ _]) _ _ _); k_dflt (refine' Spec.use0 (near_spec _ _ _ _ _ _ _ (by lia) (by lia) (by lia)) ?qqB ?qqF ?qqX ?qqN ?qqT ?qqhk ?qqhd ?qqhu ?_; (case qqB => k_asm); (case qqF => k_asm); (case qqX => k_asm); (case qqN => k_asm); (case qqT => k_asm); (case qqhk => exact rfl); (case qqhd => ktr_room); (case qqhu => ktr_units); k_whole); intro _ _ _ _ qqhR9 _ qqN9 qqD9; obtain ⟨qqe1, _, qqe2⟩ := qqhR9; subst qqe1; subst qqe2; clear qqD9; (try simp only [List.nil_append] at qqN9))
  exact True.intro
noncomputable def guess (way l a c : Int) : Int := if way = 0 then 0 else if way = 1 then l else if way = 2 then a else if way = 3 then (l + a) / 2 else near l a c
theorem near_in {a b c : Int} (ha : 0 ≤ a ∧ a < 256) (hb : 0 ≤ b ∧ b < 256) (hc : 0 ≤ c ∧ c < 256) : 0 ≤ near a b c ∧ near a b c < 256 := by
  unfold near near2
  (repeat' split) <;> assumption
theorem guess_in {k a b c : Int} (ha : 0 ≤ a ∧ a < 256) (hb : 0 ≤ b ∧ b < 256) (hc : 0 ≤ c ∧ c < 256) : 0 ≤ guess k a b c ∧ guess k a b c < 256 := by
  have := near_in ha hb hc
  unfold guess
  (repeat' split) <;> lia
namespace H_guess_spec
abbrev hkD : Type := ((((World × Int) × Int) × (Int × Int)) × (((Tok × Tok) × Tok) × (Tok × Tele)))
def hkP (w : World) (k : Int) (a : Int) (b : Int) (c : Int) (tk : Tok) (ta : Tok) (tb : Tok) (tc : Tok) (hkT : Tele) : Prop := ∀ (hk : 0 ≤ k ∧ k ≤ 4) (ha : 0 ≤ a ∧ a < 256) (hb : 0 ≤ b ∧ b < 256) (hc : 0 ≤ c ∧ c < 256), SpecAt w 117 [.int k tk, .int a ta, .int b tb, .int c tc] [] 2 (fun r n => n = [] ∧ ∃ t, r = .int (guess k a b c) t ∧ 0 ≤ guess k a b c ∧ guess k a b c < 256) hkT
def hkU (d : hkD) : Prop := hkP d.1.1.1.1 d.1.1.1.2 d.1.1.2 d.1.2.1 d.1.2.2 d.2.1.1.1 d.2.1.1.2 d.2.1.2 d.2.2.1 d.2.2.2
theorem hkN : Nonempty hkD := (ne2 (ne2 (ne2 (ne2 neWorld ⟨default⟩) ⟨default⟩) (ne2 ⟨default⟩ ⟨default⟩)) (ne2 (ne2 (ne2 ⟨default⟩ ⟨default⟩) ⟨default⟩) (ne2 ⟨default⟩ neTele)))
@[irreducible] def hkV : hkD := hk_c hkN hkU
@[irreducible] def w : World := hkV.1.1.1.1
@[irreducible] def k : Int := hkV.1.1.1.2
@[irreducible] def a : Int := hkV.1.1.2
@[irreducible] def b : Int := hkV.1.2.1
@[irreducible] def c : Int := hkV.1.2.2
@[irreducible] def tk : Tok := hkV.2.1.1.1
@[irreducible] def ta : Tok := hkV.2.1.1.2
@[irreducible] def tb : Tok := hkV.2.1.2
@[irreducible] def tc : Tok := hkV.2.2.1
@[irreducible] def hkT : Tele := hkV.2.2.2
@[irreducible] def g : Heap := hideAll hkT.s.heap (([] : List (Addr × Obj)).map (·.1))
def L' : Addr := hkT.s.heap.objs.size
theorem g_e : g = hideAll hkT.s.heap (([] : List (Addr × Obj)).map (·.1)) := by delta g; exact rfl
theorem L_e : L' = hkT.s.heap.objs.size := rfl
theorem core : hkP w k a b c tk ta tb tc hkT := by
  unfold hkP SpecAt
  intro hk ha hb hc
  obtain ⟨_, _⟩ := id hk
  obtain ⟨_, _⟩ := id ha
  obtain ⟨_, _⟩ := id hb
  obtain ⟨_, _⟩ := id hc
  intro B F X N Nr hdis T hk hd hu hret
  refine wpAny_call ?_
  k_dflt (refine' enterR0 g L' g_e L_e (binds := [(Str.ofString "way", .int k tk), (Str.ofString "left", .int a ta), (Str.ofString "above", .int b tb), (Str.ofString "corner", .int c tc)]) B F X N Nr hdis T rfl rfl hk ?k6 ?k7 ?k8 ?k9 ?kB ?_ ?c5 ?c2 ?c3 ?c4; (case k6 => k_is); (case k7 => k_is); (case k8 => ktr_room); (case k9 => exact BindsTo.of_eq rfl); (case c5 => decide); (case kB => exact locs rfl); (case c2 => exact rfl); (case c3 => exact rfl); (case c4 => exact rfl); k_whole)
  intro h' FG F' N' B' X' T' l1
  try dsimp only
  try k_lt l1
  try k_lift B'
  try k_fold
  have hin := guess_in (k := k) ha hb hc
  k_steps
  all_goals dsimp only
  all_goals try k_unfold
  all_goals refine leaveR_ (own' := []) (by assumption) News.nil (fun aF aN aD => hret _ [] _ _ aF aN aD ⟨rfl, _, congrArg (fun z => Value.int z _) ?_, hin⟩)
  all_goals (clear hin; unfold guess; (repeat' split) <;> first | lia | rfl | exact Int.fdiv_eq_ediv_of_nonneg _ (by decide))
end H_guess_spec
theorem guess_spec (w : World) (k a b c : Int) (tk ta tb tc : Tok) (hk : 0 ≤ k ∧ k ≤ 4) (ha : 0 ≤ a ∧ a < 256) (hb : 0 ≤ b ∧ b < 256) (hc : 0 ≤ c ∧ c < 256) :
    Spec w 117 [.int k tk, .int a ta, .int b tb, .int c tc] [] 2 (fun r n => n = [] ∧ ∃ t, r = .int (guess k a b c) t ∧ 0 ≤ guess k a b c ∧ guess k a b c < 256) :=
  Spec.mk fun t => hk_all H_guess_spec.hkN H_guess_spec.hkU (by with_unfolding_all exact H_guess_spec.core) ((((w, k), a), (b, c)), (((tk, ta), tb), (tc, t))) hk ha hb hc
end
section
set_option maxHeartbeats 8000000
theorem kwP11 : True := by
  k_with "call ref" => ((with_reducible show wpAny _ _ (call (Value.ref 124) [Value.bytes _ _, Value.int _ _]) _ _ _); k_dflt (refine' Spec.use0 (octet_spec _ _ _ _ _ _ (by with_reducible assumption) (by lia)) ?qqB ?qqF ?qqX ?qqN ?qqT ?qqhk ?qqhd ?qqhu ?_; (case qqB => k_asm); (case qqF => k_asm); (case qqX => k_asm); (case qqN => k_asm); (case qqT => k_asm); (case qqhk => exact rfl); (case qqhd => ktr_room); (case qqhu => ktr_units); k_whole); intro _ _ _ _ qqhR9 _ qqN9 qqD9; obtain ⟨qqe1, _, qqe2, _, _⟩ := qqhR9; subst qqe1; subst qqe2; clear qqD9; (try simp only [List.nil_append] at qqN9))
  k_with "call ref" => ((with_reducible show wpAny _ _ (call (Value.ref 117) [Value.int _ _, Value.int _ _, Value.int _ _, Value.int _ _]) _ _ _); k_dflt (refine' Spec.use0 (guess_spec _ _ _ _ _ _ _ _ _ (by lia) (by lia) (by lia) (by lia)) ?qqB ?qqF ?qqX ?qqN ?qqT ?qqhk ?qqhd ?qqhu ?_; (case qqB => k_asm); (case qqF => k_asm); (case qqX => k_asm); (case qqN => k_asm); (case qqT => k_asm); (case qqhk => exact rfl); (case qqhd => ktr_room); (case qqhu => ktr_units); k_whole); intro _ _ _ _ qqhR9 _ qqN9 qqD9; obtain ⟨qqe1, _, qqe2, _, _⟩ := qqhR9; subst qqe1; subst qqe2; clear qqD9; (try simp only [List.nil_append] at qqN9))
  k_with "call ref" => ((with_reducible show wpAny _ _ (call (Value.ref 124) [Value.ref _, Value.int _ _]) _ _ _); k_dflt (refine' Spec.useP (own := [(_, BA.baOf _)]) (octetR_spec _ _ _ _ _ _ ?qqp1 ?qqp2) ?qqB ?qqF ?qqX ?qqN ?qqhs ?qqT ?qqhk ?qqhd ?qqhu ?_; (case qqB => k_asm); (case qqF => k_asm); (case qqX => k_asm); (case qqN => k_asm); (case qqhs => first | exact List.forall_mem_nil _ | (refine List.forall_mem_singleton.mpr ?_; k_mem) | (refine List.forall_mem_cons.mpr ⟨?_, List.forall_mem_singleton.mpr ?_⟩ <;> k_mem)); (case qqT => k_asm); (case qqhk => exact rfl); (case qqhd => ktr_room); (case qqhu => ktr_units); (case qqp1 => with_reducible assumption); (case qqp2 => lia); k_whole); intro _ _ _ _ qqhR9 _ qqN9 qqD9; obtain ⟨qqe1, _, qqe2, _, _⟩ := qqhR9; subst qqe1; subst qqe2; clear qqD9; (try simp only [List.nil_append] at qqN9))
  exact True.intro
noncomputable def toldAt (k : Int) (rs as : List Int) (st : Int) (i : Nat) : Int := (rs.getD i 0 - guess k (octAt rs ((i : Int) - st)) (octAt as (i : Int)) (octAt as ((i : Int) - st))) % 256
noncomputable def toldL (k : Int) (rs as : List Int) (st : Int) : List Int := (List.range rs.length).map (toldAt k rs as st)
theorem toldL_step {k : Int} {rs as : List Int} {st : Int} {i : Nat} (h : i < rs.length) : (toldL k rs as st).take (i + 1) = (toldL k rs as st).take i ++ [toldAt k rs as st i] := by
  rw [List.take_add_one]
  simp [toldL, h]
theorem toldL_len {k : Int} {rs as : List Int} {st : Int} : (toldL k rs as st).length = rs.length := by simp [toldL]
namespace H_told_spec
abbrev hkD : Type := ((((World × Int) × Tok) × (((Array UInt8) × Tok) × (List Int))) × ((((Array UInt8) × Tok) × (List Int)) × ((Int × Tok) × Tele)))
def hkP (w : World) (k : Int) (tk : Tok) (rb : Array UInt8) (tr : Tok) (rs : List Int) (ab : Array UInt8) (ta : Tok) (as : List Int) (st : Int) (ts : Tok) (hkT : Tele) : Prop := ∀ (hrb : KBw.bInts rb = rs) (hab : KBw.bInts ab = as) (hlr : rs.length ≤ 200) (hla : as.length ≤ 200) (hk4 : 0 ≤ k ∧ k ≤ 4) (hst : 0 ≤ st ∧ st ≤ 1000), SpecNAt w 131 [.int k tk, .bytes rb tr, .bytes ab ta, .int st ts] [] 3 (fun r n => n = [] ∧ ∃ b t, r = .bytes b t ∧ KBw.bInts b = toldL k rs as st) hkT
def hkU (d : hkD) : Prop := hkP d.1.1.1.1 d.1.1.1.2 d.1.1.2 d.1.2.1.1 d.1.2.1.2 d.1.2.2 d.2.1.1.1 d.2.1.1.2 d.2.1.2 d.2.2.1.1 d.2.2.1.2 d.2.2.2
theorem hkN : Nonempty hkD := (ne2 (ne2 (ne2 (ne2 neWorld ⟨default⟩) ⟨default⟩) (ne2 (ne2 ⟨default⟩ ⟨default⟩) ⟨default⟩)) (ne2 (ne2 (ne2 ⟨default⟩ ⟨default⟩) ⟨default⟩) (ne2 (ne2 ⟨default⟩ ⟨default⟩) neTele)))
@[irreducible] def hkV : hkD := hk_c hkN hkU
@[irreducible] def w : World := hkV.1.1.1.1
@[irreducible] def k : Int := hkV.1.1.1.2
@[irreducible] def tk : Tok := hkV.1.1.2
@[irreducible] def rb : Array UInt8 := hkV.1.2.1.1
@[irreducible] def tr : Tok := hkV.1.2.1.2
@[irreducible] def rs : List Int := hkV.1.2.2
@[irreducible] def ab : Array UInt8 := hkV.2.1.1.1
@[irreducible] def ta : Tok := hkV.2.1.1.2
@[irreducible] def as : List Int := hkV.2.1.2
@[irreducible] def st : Int := hkV.2.2.1.1
@[irreducible] def ts : Tok := hkV.2.2.1.2
@[irreducible] def hkT : Tele := hkV.2.2.2
@[irreducible] def g : Heap := hideAll hkT.s.heap (([] : List (Addr × Obj)).map (·.1))
def L' : Addr := hkT.s.heap.objs.size
theorem g_e : g = hideAll hkT.s.heap (([] : List (Addr × Obj)).map (·.1)) := by delta g; exact rfl
theorem L_e : L' = hkT.s.heap.objs.size := rfl
theorem core : hkP w k tk rb tr rs ab ta as st ts hkT := by
  unfold hkP SpecNAt
  intro hrb hab hlr hla hk4 hst
  obtain ⟨_, _⟩ := id hk4
  obtain ⟨_, _⟩ := id hst
  intro B F X N Nr hdis T hk hd hu hret
  refine nCall ?_
  k_dflt (refine' enterRN0 g L' g_e L_e (binds := [(Str.ofString "way", .int k tk), (Str.ofString "row", .bytes rb tr), (Str.ofString "ahead", .bytes ab ta), (Str.ofString "step", .int st ts)]) B F X N Nr hdis T rfl rfl hk ?k6 ?k7 ?k8 ?k9 ?kB ?_ ?c5 ?c2 ?c3 ?c4; (case k6 => k_is); (case k7 => k_is); (case k8 => ktr_room); (case k9 => exact BindsTo.of_eq rfl); (case c5 => decide); (case kB => exact locs rfl); (case c2 => exact rfl); (case c3 => exact rfl); (case c4 => exact rfl); k_whole)
  intro h' FG F' N' B' X' T' l1
  try dsimp only
  try k_lt l1
  try k_lift B'
  refine nExecs (nAssign (nCallE ?_))
  k_steps
  all_goals (try dsimp only)
  refine nCallT0 (BA.makeK (by k_asm) (by k_asm) ?_)
  intro D h1 F1 N1 lt1
  k_steps
  all_goals (try dsimp only)
  refine nExecs (nFor ?_)
  k_steps
  all_goals (try dsimp only)
  refine nEnumB [Str.ofString "place", Str.ofString "octet", Str.ofString "left", Str.ofString "above", Str.ofString "corner"] (fun i _ nw => ∃ b, nw = [(D, BA.baOf b)] ∧ KBw.bInts b = (toldL k rs as st).take i) hrb rfl rfl rfl rfl (by k_asm) (by k_asm) ⟨#[], rfl, by simp [KBw.bInts]⟩ ?_ ?_
  · rintro i o t0 t1 u nw h2 tk2 own hi hg o0 o1 ⟨b, rfl, hb⟩ _ hoff F2 N2
    (first | refine nGen fun Qv Ev hQ _ => ?_ | refine aGen fun Qv Ev hQ _ => ?_); (try dsimp only at hQ); (try dsimp only)
    have hlb : b.size = i := by
      have := congrArg List.length hb
      rw [KBw.ints_length, List.length_take, toldL_len] at this
      lia
    refine nStep ?_
    k_steps
    all_goals (try dsimp only)
    refine nExecs (nExpr (nMeth ?_))
    k_steps
    all_goals (try dsimp only)
    refine nCallB ?_
    k_steps
    all_goals (try dsimp only)
    rw [Int.fmod_eq_emod_of_nonneg _ (by decide : (0:Int) ≤ 256)]
    refine BA.appendK (by k_asm) (news_sub (l' := (D, BA.baOf b) :: own) (by k_asm) (by k_sub)) (.head fun p hp => hoff p hp _ (.head _)) (by lia) (by lia) (by lia) ?_
    intro h3 F3 N3
    dsimp only
    refine nExecsNil (StepEnd.introQ hQ (news' := [(D, BA.baOf _)]) F3 N3 (List.forall_mem_singleton.mpr fun q hq => hoff q hq (D, BA.baOf b) (.head _)) ?_ ⟨_, rfl, ?_⟩)
    · skip
      intro z hz
      have hz' := not_stored hz
      simp only [List.forall_mem_cons, List.forall_mem_nil, and_true] at hz'
      simp only [hz', hz, if_false, Bool.false_eq_true]
    · rw [bInts_push (by lia) (by lia), toldL_step hi, hb, toldAt, List.getD_eq_getElem?_getD, hg]; rfl
  · rintro h2 tk2 u nw F2 N2 ⟨b, rfl, hb⟩ _
    dsimp only
    rw [List.take_of_length_le (Nat.le_of_eq toldL_len)] at hb
    have hlb : b.size = rs.length := by
      have := congrArg List.length hb
      rw [KBw.ints_length, toldL_len] at this
      exact this
    refine nStep ?_
    k_steps
    all_goals (try dsimp only)
    try k_unfold
    exact leaveR_ (own' := []) (by assumption) News.nil fun aF aN aD => hret _ [] _ _ aF aN aD ⟨rfl, _, _, rfl, hb⟩
end H_told_spec
theorem told_spec (w : World) (k : Int) (tk : Tok) (rb : Array UInt8) (tr : Tok) (rs : List Int) (ab : Array UInt8) (ta : Tok) (as : List Int) (st : Int) (ts : Tok) (hrb : KBw.bInts rb = rs) (hab : KBw.bInts ab = as) (hlr : rs.length ≤ 200) (hla : as.length ≤ 200) (hk4 : 0 ≤ k ∧ k ≤ 4) (hst : 0 ≤ st ∧ st ≤ 1000) :
    SpecN w 131 [.int k tk, .bytes rb tr, .bytes ab ta, .int st ts] [] 3 (fun r n => n = [] ∧ ∃ b t, r = .bytes b t ∧ KBw.bInts b = toldL k rs as st) :=
  SpecN.mk fun t => hk_all H_told_spec.hkN H_told_spec.hkU (by with_unfolding_all exact H_told_spec.core) ((((w, k), tk), ((rb, tr), rs)), (((ab, ta), as), ((st, ts), t))) hrb hab hlr hla hk4 hst
noncomputable def backTo (k : Int) (os as : List Int) (st : Int) : Nat → List Int
  | 0 => []
  | n + 1 => backTo k os as st n ++ [(os.getD n 0 + guess k (octAt (backTo k os as st n) ((n : Int) - st)) (octAt as (n : Int)) (octAt as ((n : Int) - st))) % 256]
theorem backTo_len {k : Int} {os as : List Int} {st : Int} (n : Nat) : (backTo k os as st n).length = n := by
  induction n with
  | zero => rfl
  | succ n ih => simp [backTo, ih]
namespace H_back_spec
abbrev hkD : Type := ((((World × Int) × Tok) × (((Array UInt8) × Tok) × (List Int))) × ((((Array UInt8) × Tok) × (List Int)) × ((Int × Tok) × Tele)))
def hkP (w : World) (k : Int) (tk : Tok) (rb : Array UInt8) (tr : Tok) (os : List Int) (ab : Array UInt8) (ta : Tok) (as : List Int) (st : Int) (ts : Tok) (hkT : Tele) : Prop := ∀ (hrb : KBw.bInts rb = os) (hab : KBw.bInts ab = as) (hlr : os.length ≤ 200) (hla : as.length ≤ 200) (hk4 : 0 ≤ k ∧ k ≤ 4) (hst : 0 ≤ st ∧ st ≤ 1000), SpecNAt w 138 [.int k tk, .bytes rb tr, .bytes ab ta, .int st ts] [] 3 (fun r n => n = [] ∧ ∃ b t, r = .bytes b t ∧ KBw.bInts b = backTo k os as st os.length) hkT
def hkU (d : hkD) : Prop := hkP d.1.1.1.1 d.1.1.1.2 d.1.1.2 d.1.2.1.1 d.1.2.1.2 d.1.2.2 d.2.1.1.1 d.2.1.1.2 d.2.1.2 d.2.2.1.1 d.2.2.1.2 d.2.2.2
theorem hkN : Nonempty hkD := (ne2 (ne2 (ne2 (ne2 neWorld ⟨default⟩) ⟨default⟩) (ne2 (ne2 ⟨default⟩ ⟨default⟩) ⟨default⟩)) (ne2 (ne2 (ne2 ⟨default⟩ ⟨default⟩) ⟨default⟩) (ne2 (ne2 ⟨default⟩ ⟨default⟩) neTele)))
@[irreducible] def hkV : hkD := hk_c hkN hkU
@[irreducible] def w : World := hkV.1.1.1.1
@[irreducible] def k : Int := hkV.1.1.1.2
@[irreducible] def tk : Tok := hkV.1.1.2
@[irreducible] def rb : Array UInt8 := hkV.1.2.1.1
@[irreducible] def tr : Tok := hkV.1.2.1.2
@[irreducible] def os : List Int := hkV.1.2.2
@[irreducible] def ab : Array UInt8 := hkV.2.1.1.1
@[irreducible] def ta : Tok := hkV.2.1.1.2
@[irreducible] def as : List Int := hkV.2.1.2
@[irreducible] def st : Int := hkV.2.2.1.1
@[irreducible] def ts : Tok := hkV.2.2.1.2
@[irreducible] def hkT : Tele := hkV.2.2.2
@[irreducible] def g : Heap := hideAll hkT.s.heap (([] : List (Addr × Obj)).map (·.1))
def L' : Addr := hkT.s.heap.objs.size
theorem g_e : g = hideAll hkT.s.heap (([] : List (Addr × Obj)).map (·.1)) := by delta g; exact rfl
theorem L_e : L' = hkT.s.heap.objs.size := rfl
theorem core : hkP w k tk rb tr os ab ta as st ts hkT := by
  unfold hkP SpecNAt
  intro hrb hab hlr hla hk4 hst
  obtain ⟨_, _⟩ := id hk4
  obtain ⟨_, _⟩ := id hst
  intro B F X N Nr hdis T hk hd hu hret
  refine nCall ?_
  k_dflt (refine' enterRN0 g L' g_e L_e (binds := [(Str.ofString "way", .int k tk), (Str.ofString "octets", .bytes rb tr), (Str.ofString "ahead", .bytes ab ta), (Str.ofString "step", .int st ts)]) B F X N Nr hdis T rfl rfl hk ?k6 ?k7 ?k8 ?k9 ?kB ?_ ?c5 ?c2 ?c3 ?c4; (case k6 => k_is); (case k7 => k_is); (case k8 => ktr_room); (case k9 => exact BindsTo.of_eq rfl); (case c5 => decide); (case kB => exact locs rfl); (case c2 => exact rfl); (case c3 => exact rfl); (case c4 => exact rfl); k_whole)
  intro h' FG F' N' B' X' T' l1
  try dsimp only
  try k_lt l1
  try k_lift B'
  refine nExecs (nAssign (nCallE ?_))
  k_steps
  all_goals (try dsimp only)
  refine nCallT0 (BA.makeK (by k_asm) (by k_asm) ?_)
  intro D h1 F1 N1 lt1
  k_steps
  all_goals (try dsimp only)
  refine nExecs (nFor ?_)
  k_steps
  all_goals (try dsimp only)
  refine nEnumB [Str.ofString "place", Str.ofString "octet", Str.ofString "left", Str.ofString "above", Str.ofString "corner"] (fun i _ nw => ∃ b, nw = [(D, BA.baOf b)] ∧ KBw.bInts b = backTo k os as st i) hrb rfl rfl rfl rfl (by k_asm) (by k_asm) ⟨#[], rfl, rfl⟩ ?_ ?_
  · rintro i o t0 t1 u nw h2 tk2 own hi hg o0 o1 ⟨b, rfl, hb⟩ _ hoff F2 N2
    (first | refine nGen fun Qv Ev hQ _ => ?_ | refine aGen fun Qv Ev hQ _ => ?_); (try dsimp only at hQ); (try dsimp only)
    have hlb : b.size = i := by rw [← KBw.ints_length, hb, backTo_len]
    have hlb' : (backTo k os as st i).length ≤ 1000 := by rw [backTo_len]; lia
    refine nStep ?_
    k_steps
    all_goals (try dsimp only)
    refine nExecs (nExpr (nMeth ?_))
    k_steps
    all_goals (try dsimp only)
    refine nCallB ?_
    k_steps
    all_goals (try dsimp only)
    rw [Int.fmod_eq_emod_of_nonneg _ (by decide : (0:Int) ≤ 256)]
    refine BA.appendK (by k_asm) (news_sub (l' := (D, BA.baOf b) :: own) (by k_asm) (by k_sub)) (.head fun p hp => hoff p hp _ (.head _)) (by lia) (by lia) (by lia) ?_
    intro h3 F3 N3
    dsimp only
    refine nExecsNil (StepEnd.introQ hQ (news' := [(D, BA.baOf _)]) F3 N3 (List.forall_mem_singleton.mpr fun q hq => hoff q hq (D, BA.baOf b) (.head _)) ?_ ⟨_, rfl, ?_⟩)
    · skip
      intro z hz
      have hz' := not_stored hz
      simp only [List.forall_mem_cons, List.forall_mem_nil, and_true] at hz'
      simp only [hz', hz, if_false, Bool.false_eq_true]
    · rw [bInts_push (by lia) (by lia), hb, backTo, List.getD_eq_getElem?_getD, hg]; rfl
  · rintro h2 tk2 u nw F2 N2 ⟨b, rfl, hb⟩ _
    dsimp only
    have hlb : b.size = os.length := by rw [← KBw.ints_length, hb, backTo_len]
    refine nStep ?_
    k_steps
    all_goals (try dsimp only)
    try k_unfold
    exact leaveR_ (own' := []) (by assumption) News.nil fun aF aN aD => hret _ [] _ _ aF aN aD ⟨rfl, _, _, rfl, hb⟩
end H_back_spec
theorem back_spec (w : World) (k : Int) (tk : Tok) (rb : Array UInt8) (tr : Tok) (os : List Int) (ab : Array UInt8) (ta : Tok) (as : List Int) (st : Int) (ts : Tok) (hrb : KBw.bInts rb = os) (hab : KBw.bInts ab = as) (hlr : os.length ≤ 200) (hla : as.length ≤ 200) (hk4 : 0 ≤ k ∧ k ≤ 4) (hst : 0 ≤ st ∧ st ≤ 1000) :
    SpecN w 138 [.int k tk, .bytes rb tr, .bytes ab ta, .int st ts] [] 3 (fun r n => n = [] ∧ ∃ b t, r = .bytes b t ∧ KBw.bInts b = backTo k os as st os.length) :=
  SpecN.mk fun t => hk_all H_back_spec.hkN H_back_spec.hkU (by with_unfolding_all exact H_back_spec.core) ((((w, k), tk), ((rb, tr), os)), (((ab, ta), as), ((st, ts), t))) hrb hab hlr hla hk4 hst
end
section
set_option maxHeartbeats 8000000
theorem kwP21 : True := by
  k_with "eval ListComp" => (k_here; k_dflt (refine comp_core (F₀ := by k_asm) (by with_unfolding_all rfl) (by decide) (by rfl) (by decide) (by rfl) ?_))
  exact True.intro
noncomputable def wgt (o : Int) : Int := if o < 128 then o else 256 - o
noncomputable def weight (os : List Int) : Int := (os.map wgt).sum
namespace H_weight_spec
abbrev hkD : Type := (((World × (Array UInt8)) × Tok) × ((List Int) × Tele))
def hkP (w : World) (b : Array UInt8) (tb : Tok) (os : List Int) (hkT : Tele) : Prop := ∀ (hb : KBw.bInts b = os) (hl : os.length ≤ 200), SpecAt w 143 [.bytes b tb] [] 2 (fun r n => n = [] ∧ ∃ t, r = .int (weight os) t) hkT
def hkU (d : hkD) : Prop := hkP d.1.1.1 d.1.1.2 d.1.2 d.2.1 d.2.2
theorem hkN : Nonempty hkD := (ne2 (ne2 (ne2 neWorld ⟨default⟩) ⟨default⟩) (ne2 ⟨default⟩ neTele))
@[irreducible] def hkV : hkD := hk_c hkN hkU
@[irreducible] def w : World := hkV.1.1.1
@[irreducible] def b : Array UInt8 := hkV.1.1.2
@[irreducible] def tb : Tok := hkV.1.2
@[irreducible] def os : List Int := hkV.2.1
@[irreducible] def hkT : Tele := hkV.2.2
@[irreducible] def g : Heap := hideAll hkT.s.heap (([] : List (Addr × Obj)).map (·.1))
def L' : Addr := hkT.s.heap.objs.size
theorem g_e : g = hideAll hkT.s.heap (([] : List (Addr × Obj)).map (·.1)) := by delta g; exact rfl
theorem L_e : L' = hkT.s.heap.objs.size := rfl
theorem core : hkP w b tb os hkT := by
  unfold hkP SpecAt
  intro hb hl
  intro B F X N Nr hdis T hk hd hu hret
  refine wpAny_call ?_
  k_dflt (refine' enterR0 g L' g_e L_e (binds := [(Str.ofString "octets", .bytes b tb)]) B F X N Nr hdis T rfl rfl hk ?k6 ?k7 ?k8 ?k9 ?kB ?_ ?c5 ?c2 ?c3 ?c4; (case k6 => k_is); (case k7 => k_is); (case k8 => ktr_room); (case k9 => exact BindsTo.of_eq rfl); (case c5 => decide); (case kB => exact locs rfl); (case c2 => exact rfl); (case c3 => exact rfl); (case c4 => exact rfl); k_whole)
  intro h' FG F' N' B' X' T' l1
  try dsimp only
  try k_lt l1
  try k_lift B'
  try k_fold
  k_steps
  refine CompAt.bytes hb rfl (by k_asm) (by k_asm) (by lia) fun g' => comp_ints wgt rfl trivial (fun i v _ h => h) (fun i k t I oI C oC D m₂ ys h tk E' hi hk hC hx F N off ne => ?_) ?_
  · skip
    k_steps
    all_goals (try dsimp only)
    all_goals refine CompEl.intro (by k_asm) (by k_asm) ?_
    all_goals (unfold wgt; split <;> lia)
  · intro ys hys
    k_steps
    all_goals (try dsimp only)
    try k_unfold
    exact leaveR_ (own' := []) (by assumption) News.nil fun aF aN aD => hret _ [] _ _ aF aN aD ⟨rfl, _, rfl⟩
end H_weight_spec
theorem weight_spec (w : World) (b : Array UInt8) (tb : Tok) (os : List Int) (hb : KBw.bInts b = os) (hl : os.length ≤ 200) :
    Spec w 143 [.bytes b tb] [] 2 (fun r n => n = [] ∧ ∃ t, r = .int (weight os) t) :=
  Spec.mk fun t => hk_all H_weight_spec.hkN H_weight_spec.hkU (by with_unfolding_all exact H_weight_spec.core) (((w, b), tb), (os, t)) hb hl
end
local macro_rules | `(tactic| k_all) => `(tactic| (first | (intro p hp; exact (by assumption : ∀ p ∈ (_ : List (Addr × Obj)), ∀ q ∈ (_ : List (Addr × Obj)), p.1 ≠ q.1) p hp (_, _) (by k_mem)) | fail))
section
set_option maxHeartbeats 8000000
theorem kwT11 : True := by
  k_with "binaryOp LShift int int" => (k_here; (with_reducible refine lshB ?qqa ?qqb ?qqc ?_); (case qqa => first | assumption | exact Big.of_small (by lia) (by lia)); (case qqb => lia); (case qqc => lia))
  k_with "binaryOp RShift int int" => (k_here; (with_reducible refine PyProof.Rows.rshift_int ?qqa ?_); (case qqa => first | assumption | lia))
  k_with "binaryOp Mult int int" => (k_here; (with_reducible refine mulB ?qqa ?qqb ?_); (case qqa => first | assumption | exact Big.of_small (by lia) (by lia)); (case qqb => first | assumption | exact Big.of_small (by lia) (by lia)))
  k_with "binaryOp FloorDiv int int" => (k_here; (with_reducible refine divB ?qqa ?qqb ?_); (case qqa => first | assumption | exact Big.of_small (by lia) (by lia)); (case qqb => first | assumption | lia))
  k_with "binaryOp Mod int int" => (k_here; (with_reducible refine mod_int' ?qqa ?_); (case qqa => first | assumption | lia))
  k_with "exec For Name Name cons nil" => (k_here; k_dflt (refine wpAny_For ?_))
  k_with "exec For Name Call cons nil" => (k_here; k_dflt (refine wpAny_For ?_))
  k_with "exec For Tuple Call" => (k_here; k_dflt (refine wpAny_For ?_))
  exact True.intro
noncomputable def partAt (os : List Int) (bits place : Int) : Int := (num 256 os).fdiv (2 ^ ((os.length : Int) * 8 - ((os.length : Int) * 8).fdiv bits * bits + bits * place).toNat) % 2 ^ bits.toNat
noncomputable def partsL (os : List Int) (bits : Int) : List Int := ((List.range (((os.length : Int) * 8).fdiv bits - 1 - -1).toNat).map fun (k : Nat) => ((os.length : Int) * 8).fdiv bits - 1 + (k : Int) * -1).map (partAt os bits)
namespace H_parts_spec
abbrev hkD : Type := (((World × (Array UInt8)) × (Tok × (List Int))) × ((Int × Tok) × Tele))
def hkP (w : World) (b : Array UInt8) (tb : Tok) (os : List Int) (bits : Int) (tbi : Tok) (hkT : Tele) : Prop := ∀ (hb : KBw.bInts b = os) (hl : os.length ≤ 64) (hbits : bits ∈ [1, 2, 4, 8, 16]), SpecAt w 89 [.bytes b tb, .int bits tbi] [] 2 (fun r n => ∃ D ys, r = .ref D ∧ n = [(D, LCg.lst ys)] ∧ IntsAre ys (partsL os bits)) hkT
def hkU (d : hkD) : Prop := hkP d.1.1.1 d.1.1.2 d.1.2.1 d.1.2.2 d.2.1.1 d.2.1.2 d.2.2
theorem hkN : Nonempty hkD := (ne2 (ne2 (ne2 neWorld ⟨default⟩) (ne2 ⟨default⟩ ⟨default⟩)) (ne2 (ne2 ⟨default⟩ ⟨default⟩) neTele))
@[irreducible] def hkV : hkD := hk_c hkN hkU
@[irreducible] def w : World := hkV.1.1.1
@[irreducible] def b : Array UInt8 := hkV.1.1.2
@[irreducible] def tb : Tok := hkV.1.2.1
@[irreducible] def os : List Int := hkV.1.2.2
@[irreducible] def bits : Int := hkV.2.1.1
@[irreducible] def tbi : Tok := hkV.2.1.2
@[irreducible] def hkT : Tele := hkV.2.2
@[irreducible] def g : Heap := hideAll hkT.s.heap (([] : List (Addr × Obj)).map (·.1))
def L' : Addr := hkT.s.heap.objs.size
theorem g_e : g = hideAll hkT.s.heap (([] : List (Addr × Obj)).map (·.1)) := by delta g; exact rfl
theorem L_e : L' = hkT.s.heap.objs.size := rfl
theorem core : hkP w b tb os bits tbi hkT := by
  unfold hkP SpecAt
  intro hb hl hbits
  intro B F X N Nr hdis T hk hd hu hret
  refine wpAny_call ?_
  k_dflt (refine' enterC0 g L' g_e L_e (binds := [(Str.ofString "row", .bytes b tb), (Str.ofString "bits", .int bits tbi)]) B F X N Nr hdis T rfl rfl hk ?k6 ?k7 ?k8 ?k9 ?kB ?kD ?_ ?c2 ?c3 ?c4; (case k6 => k_is); (case k7 => k_is); (case k8 => ktr_room); (case k9 => exact BindsTo.of_eq rfl); (case kB => exact rfl); (case kD => decide +kernel); (case c2 => exact rfl); (case c3 => exact rfl); (case c4 => exact rfl); k_whole)
  intro h' tk' cells' FG F' N' Y' B' X' T' l1
  k_cells Y'
  (try simp only [List.cons_append, List.nil_append] at N')
  try dsimp only
  try k_lift B'
  try k_fold
  have hbs : ∀ d ∈ os, 0 ≤ d ∧ d < 256 := fun d hd => by rw [← hb] at hd; exact KBw.ints_in hd
  obtain ⟨m0, m1, m2, m3, m4, m5⟩ := many_bits (n := os.length * 8) hbits (by lia)
  k_steps
  all_goals (try dsimp only)
  refine aBytes [Str.ofString "octet"] (fun i _ nw => ∃ o1 o2 o3 t, nw = [(L' + 1 + 1 + 1, o1), (L' + 1 + 1, o2), (L' + 1, o3)] ∧ o1.data = .cell none ∧ o2.data = .cell (some (.int (num 256 (os.take i)) t)) ∧ o3.data = .cell (some (.int bits tbi)))
    hb rfl rfl rfl (by k_asm) (by k_asm) ⟨_, _, _, _, rfl, by assumption, by assumption, by assumption⟩ ?_ ?_
  · rintro i o t u nw h2 tk2 own hi hg o0 o1 ⟨ob1, ob2, ob3, tn, rfl, d1, d2, d3⟩ _ hoff F2 N2
    (first | refine nGen fun Qv Ev hQ _ => ?_ | refine aGen fun Qv Ev hQ _ => ?_); (try dsimp only at hQ); (try dsimp only)
    have hbig : Big (num 256 (os.take i)) := num256_big (fun d hd => hbs d (List.mem_of_mem_take hd)) (by rw [List.length_take]; lia)
    have hor : Builtin.bitOr (num 256 (os.take i) * 2 ^ Int.toNat 8) o = num 256 (os.take (i + 1)) := by
      rw [List.take_add_one, hg, Option.toList_some, num_snoc, or_low hbig.1 o0 (by show o < 2 ^ 8; lia)]; rfl
    simp only [List.cons_append, List.nil_append] at N2
    k_steps
    all_goals (try dsimp only)
    refine StepEnd.introQ hQ (news' := [(L' + 1 + 1 + 1, ob1), (L' + 1 + 1, _), (L' + 1, ob3)]) (by k_asm) (by k_asm) (by exact off_same hoff rfl) ?_ ⟨ob1, _, ob3, _, rfl, d1, by rw [← hor]; assumption, d3⟩
    intro z hz
    have hz' := not_stored hz
    simp only [List.forall_mem_cons, List.forall_mem_nil, and_true] at hz'
    simp only [hz', hz, if_false, Bool.false_eq_true]
  · rintro h2 tk2 u nw F2 N2 ⟨ob1, ob2, ob3, tn, rfl, d1, d2, d3⟩ _
    dsimp only
    rw [List.take_length] at d2
    have hbig : Big (num 256 os) := num256_big hbs (by lia)
    k_steps
    all_goals (try dsimp only)
    refine CompAt.rangeS (S := fun _ => True) rfl (by k_asm) (by k_asm) (by assumption) (small_down (by lia) (by lia) (by lia) (by lia)) (rangeSize_downNat _ _) (by lia) rfl trivial fun g' => comp_ints (partAt os bits) (by simp) trivial (fun i v _ h => h) (fun i k t I oI C oC D m₂ ys h tk E' hi hk hC hx F N off ne => ?_) ?_
    · have hki : k = ((os.length : Int) * 8).fdiv bits - 1 + (i : Int) * -1 := by
        simp only [List.getElem?_map, List.getElem?_range hi, Option.map_some, Option.some.injEq] at hk
        exact hk.symm
      have hk0 : 0 ≤ k := by lia
      have hk1 : k ≤ 1000 := by lia
      have hbk : 0 ≤ bits * k := Int.mul_nonneg (by lia) hk0
      k_steps
      all_goals (try dsimp only)
      refine CompEl.intro (by k_asm) (by k_asm) ?_
      rw [and_mask hbits]; rfl
    · intro ys hys
      k_steps
      all_goals (try dsimp only)
      try k_unfold
      refine leaveR_ (own' := [(_, LCg.lst ys)]) (by assumption) (news_sub (by k_asm) ?nn) fun aF aN aD => hret _ [(_, LCg.lst ys)] _ _ aF aN aD ⟨_, _, rfl, rfl, hys⟩
      case nn => exact List.forall_mem_singleton.mpr (.head _)
end H_parts_spec
theorem parts_spec (w : World) (b : Array UInt8) (tb : Tok) (os : List Int) (bits : Int) (tbi : Tok) (hb : KBw.bInts b = os) (hl : os.length ≤ 64) (hbits : bits ∈ [1, 2, 4, 8, 16]) :
    Spec w 89 [.bytes b tb, .int bits tbi] [] 2 (fun r n => ∃ D ys, r = .ref D ∧ n = [(D, LCg.lst ys)] ∧ IntsAre ys (partsL os bits)) :=
  Spec.mk fun t => hk_all H_parts_spec.hkN H_parts_spec.hkU (by with_unfolding_all exact H_parts_spec.core) (((w, b), (tb, os)), ((bits, tbi), t)) hb hl hbits
end
section
set_option maxHeartbeats 8000000
theorem kwT21 : True := by
  exact True.intro
noncomputable def octetAt (W : Int) (many : Nat) (p : Nat) : Int := W / 256 ^ (many - 1 - p) % 256
noncomputable def octetsL (ps : List Int) (bits : Int) : List Int := (List.range (((ps.length : Int) * bits).fdiv 8).toNat).map (octetAt (num (2 ^ bits.toNat) ps) (((ps.length : Int) * bits).fdiv 8).toNat)
noncomputable def fillTo (W : Int) (many i : Nat) : List Int := (List.range many).map fun p => if many - i ≤ p then octetAt W many p else 0
theorem fillTo_zero (W : Int) (n : Nat) : fillTo W n 0 = List.replicate n 0 := by
  refine List.ext_getElem (by simp [fillTo]) fun i h1 h2 => ?_
  simp only [fillTo, List.length_map, List.length_range] at h1
  simp only [fillTo, List.getElem_map, List.getElem_range, List.getElem_replicate]
  rw [if_neg (by lia)]
theorem fillTo_step {W : Int} {n i : Nat} (h : i < n) : (fillTo W n i).set (n - 1 - i) (W / 256 ^ i % 256) = fillTo W n (i + 1) := by
  refine List.ext_getElem (by simp [fillTo]) fun p h1 h2 => ?_
  simp only [fillTo, List.length_set, List.length_map, List.length_range] at h1
  simp only [fillTo, List.getElem_set, List.getElem_map, List.getElem_range]
  by_cases e : n - 1 - i = p
  · rw [if_pos e, if_pos (by lia), octetAt, show n - 1 - p = i by lia]
  · rw [if_neg e]
    by_cases e2 : n - i ≤ p
    · rw [if_pos e2, if_pos (by lia)]
    · rw [if_neg e2, if_neg (by lia)]
theorem fillTo_full (W : Int) (n : Nat) : fillTo W n n = (List.range n).map (octetAt W n) := by
  unfold fillTo
  refine List.map_congr_left fun p _ => ?_
  rw [if_pos (by lia)]
namespace H_octets_spec
abbrev hkD : Type := ((((World × Addr) × (Array Value)) × ((Nat × (List Int)) × Int)) × (((Tok × (Array UInt8)) × Tok) × ((List Int) × Tele)))
def hkP (w : World) (P : Addr) (items : Array Value) (c : Nat) (ps : List Int) (bits : Int) (tbi : Tok) (b : Array UInt8) (tb : Tok) (rs : List Int) (hkT : Tele) : Prop := ∀ (hb : KBw.bInts b = rs) (hr : rs.length ≤ 64) (hps : IntsAre items.toList ps) (hin : ∀ d ∈ ps, 0 ≤ d ∧ d < 2 ^ bits.toNat) (hl : (ps.length : Int) * bits ≤ 600) (hbits : 1 ≤ bits ∧ bits ≤ 16), SpecNAt w 96 [.ref P, .int bits tbi, .bytes b tb] [(P, listOf items c)] 2 (fun r n => n = [] ∧ ∃ b' t, r = .bytes b' t ∧ KBw.bInts b' = octetsL ps bits ++ rs.drop (((ps.length : Int) * bits).fdiv 8).toNat) hkT
def hkU (d : hkD) : Prop := hkP d.1.1.1.1 d.1.1.1.2 d.1.1.2 d.1.2.1.1 d.1.2.1.2 d.1.2.2 d.2.1.1.1 d.2.1.1.2 d.2.1.2 d.2.2.1 d.2.2.2
theorem hkN : Nonempty hkD := (ne2 (ne2 (ne2 (ne2 neWorld ⟨default⟩) ⟨default⟩) (ne2 (ne2 ⟨default⟩ ⟨default⟩) ⟨default⟩)) (ne2 (ne2 (ne2 ⟨default⟩ ⟨default⟩) ⟨default⟩) (ne2 ⟨default⟩ neTele)))
@[irreducible] def hkV : hkD := hk_c hkN hkU
@[irreducible] def w : World := hkV.1.1.1.1
@[irreducible] def P : Addr := hkV.1.1.1.2
@[irreducible] def items : Array Value := hkV.1.1.2
@[irreducible] def c : Nat := hkV.1.2.1.1
@[irreducible] def ps : List Int := hkV.1.2.1.2
@[irreducible] def bits : Int := hkV.1.2.2
@[irreducible] def tbi : Tok := hkV.2.1.1.1
@[irreducible] def b : Array UInt8 := hkV.2.1.1.2
@[irreducible] def tb : Tok := hkV.2.1.2
@[irreducible] def rs : List Int := hkV.2.2.1
@[irreducible] def hkT : Tele := hkV.2.2.2
@[irreducible] def g : Heap := hideAll hkT.s.heap (([(P, listOf items c)] : List (Addr × Obj)).map (·.1))
def L' : Addr := hkT.s.heap.objs.size
theorem g_e : g = hideAll hkT.s.heap (([(P, listOf items c)] : List (Addr × Obj)).map (·.1)) := by delta g; exact rfl
theorem L_e : L' = hkT.s.heap.objs.size := rfl
theorem core : hkP w P items c ps bits tbi b tb rs hkT := by
  unfold hkP SpecNAt
  intro hb hr hps hin hl hbits
  obtain ⟨_, _⟩ := id hbits
  intro B F X N Nr hdis T hk hd hu hret
  refine nCall ?_
  k_dflt (refine' enterRN0 g L' g_e L_e (binds := [(Str.ofString "parts", .ref P), (Str.ofString "bits", .int bits tbi), (Str.ofString "row", .bytes b tb)]) B F X N Nr hdis T rfl rfl hk ?k6 ?k7 ?k8 ?k9 ?kB ?_ ?c5 ?c2 ?c3 ?c4; (case k6 => k_is); (case k7 => k_is); (case k8 => ktr_room); (case k9 => exact BindsTo.of_eq rfl); (case c5 => decide); (case kB => exact locs rfl); (case c2 => exact rfl); (case c3 => exact rfl); (case c4 => exact rfl); k_whole)
  intro h' FG F' N' B' X' T' l1
  try dsimp only
  try k_lt l1
  try k_lift B'
  have hsz : items.size = ps.length := by rw [← Array.length_toList]; exact hps.length
  have hbn : (bits.toNat : Int) = bits := Int.toNat_of_nonneg (by lia)
  have hlN : ps.length * bits.toNat ≤ 600 := by
    have : ((ps.length * bits.toNat : Nat) : Int) ≤ 600 := by push_cast; rw [hbn]; exact hl
    lia
  have hl0 : 0 ≤ (ps.length : Int) * bits := Int.mul_nonneg (by lia) (by lia)
  have hs6 : (ps.length : Int) ≤ 600 := by
    have := Int.mul_le_mul_of_nonneg_left hbits.1 (show (0 : Int) ≤ ps.length by lia)
    lia
  have hM0 : 0 ≤ ((ps.length : Int) * bits).fdiv 8 := by rw [Int.fdiv_eq_ediv_of_nonneg _ (by decide)]; lia
  have hM1 : ((ps.length : Int) * bits).fdiv 8 ≤ 75 := by rw [Int.fdiv_eq_ediv_of_nonneg _ (by decide)]; lia
  have hW : Big (num (2 ^ bits.toNat) ps) := numB_big hin (by lia)
  refine nStep ?_
  k_steps
  all_goals (try dsimp only)
  refine nExecs (nFor ?_)
  k_steps
  all_goals (try dsimp only)
  refine nList [Str.ofString "part", Str.ofString "whole"] (fun i u nw => ∃ t, u (Str.ofString "whole") = some (.int (num (2 ^ bits.toNat) (ps.take i)) t)) (.head _) rfl rfl rfl (by k_asm) (by k_asm) ⟨_, rfl⟩ ?_ ?_
  · rintro i v u nw h2 tk2 own hi hv ⟨t, hu⟩ _ hoff hown F2 N2
    (first | refine nGen fun Qv Ev hQ _ => ?_ | refine aGen fun Qv Ev hQ _ => ?_); (try dsimp only at hQ); (try dsimp only)
    have hi' : i < ps.length := by lia
    obtain ⟨tv, hx⟩ := hps.get i ps[i] (by simp [hi'])
    have hv' : v = .int ps[i] tv := by
      rw [Array.getElem?_toList] at hx; rw [hx] at hv; exact (Option.some.inj hv).symm
    subst hv'
    have hp := hin ps[i] (List.getElem_mem hi')
    have hbig : Big (num (2 ^ bits.toNat) (ps.take i)) := numB_big (fun d hd => hin d (List.mem_of_mem_take hd)) (by
      rw [List.length_take]
      have := Nat.mul_le_mul_right bits.toNat (Nat.min_le_right i ps.length)
      lia)
    have hor : Builtin.bitOr (num (2 ^ bits.toNat) (ps.take i) * 2 ^ bits.toNat) ps[i] = num (2 ^ bits.toNat) (ps.take (i + 1)) := by
      rw [or_low hbig.1 hp.1 hp.2, List.take_add_one, List.getElem?_eq_getElem hi', Option.toList_some, num_snoc]
    replace F2 := fr_known (n := Str.ofString "whole") (by rw [if_pos (by decide)]; exact hu) F2
    refine nStep ?_
    k_steps
    all_goals (try dsimp only)
    refine nExecsNil (StepEnd.introQ hQ (by k_asm) (by k_asm) (by exact off_same hoff rfl) ?_ ⟨_, by rw [← hor]; rfl⟩)
    intro z hz
    have hz' := not_stored hz
    simp only [List.forall_mem_cons, List.forall_mem_nil, and_true] at hz'
    simp only [hz', hz, if_false, Bool.false_eq_true]
  · rintro h2 tk2 u nw F2 N2 ⟨t, hu⟩ _
    rw [show items.size = ps.length from hsz, List.take_length] at hu
    replace F2 := fr_known0 (n := Str.ofString "whole") (by rw [if_pos (by decide)]; exact hu) F2
    replace N2 := news_sub (l' := [(P, listOf items c)]) N2 (List.forall_mem_singleton.mpr (.head _))
    dsimp only
    refine nStep ?_
    k_steps
    all_goals (try dsimp only)
    refine nExecs (nAssign (nCallE ?_))
    k_steps
    all_goals (try dsimp only)
    refine nCallT ?_
    k_steps
    all_goals (try dsimp only)
    refine BA.makeNK (by k_asm) (by k_asm) (by lia) (by lia) ?_
    intro D h3 F3 N3 lt3
    k_lt lt3
    k_steps
    all_goals (try dsimp only)
    have hn : Builtin.Range.rangeSize (((ps.length : Int) * bits).fdiv 8 - 1) (-1) (-1) = (((((ps.length : Int) * bits).fdiv 8).toNat : Nat) : Int) := by rw [rangeSize_downNat]; congr 1; lia
    refine nStep ?_
    k_steps
    all_goals (try dsimp only)
    refine aRange (n := (((ps.length : Int) * bits).fdiv 8).toNat) [Str.ofString "place", Str.ofString "whole"] (fun i u nw => ∃ b t, nw = [(D, BA.baOf b), (P, listOf items c)] ∧ u (Str.ofString "whole") = some (.int (num (2 ^ bits.toNat) ps / 256 ^ i) t) ∧ KBw.bInts b = fillTo (num (2 ^ bits.toNat) ps) (((ps.length : Int) * bits).fdiv 8).toNat i)
      rfl (by assumption) (small_down (by lia) (by lia) (by lia) (by lia)) hn rfl rfl (by k_asm) (by k_asm) ⟨_, t, rfl, by rw [Int.pow_zero, Int.ediv_one]; rfl, by rw [bInts_replicate]; exact (fillTo_zero _ _).symm⟩ ?_ ?_
    · rintro i t1 u nw h4 tk4 own hi ⟨bf, t2, rfl, hu, hb4⟩ _ hoff F4 N4
      (first | refine nGen fun Qv Ev hQ _ => ?_ | refine aGen fun Qv Ev hQ _ => ?_); (try dsimp only at hQ); (try dsimp only)
      replace F4 := fr_known (n := Str.ofString "whole") (by rw [if_pos (by decide)]; exact hu) F4
      simp only [List.cons_append, List.nil_append] at N4
      have hbs : bf.size = (((ps.length : Int) * bits).fdiv 8).toNat := by rw [← KBw.ints_length, hb4]; simp [fillTo]
      have ha := bitAnd_m8 (num (2 ^ bits.toNat) ps / 256 ^ i)
      have ha0 : 0 ≤ Builtin.bitAnd (num (2 ^ bits.toNat) ps / 256 ^ i) 255 := by rw [ha]; lia
      have ha1 : Builtin.bitAnd (num (2 ^ bits.toNat) ps / 256 ^ i) 255 < 256 := by rw [ha]; lia
      have hsh : (num (2 ^ bits.toNat) ps / 256 ^ i).fdiv (2 ^ Int.toNat 8) = num (2 ^ bits.toNat) ps / 256 ^ (i + 1) := by
        rw [Int.fdiv_eq_ediv_of_nonneg _ (by decide), Int.ediv_ediv_of_nonneg (Int.le_of_lt (Int.pow_pos (by decide))), Int.pow_succ]; rfl
      k_steps
      all_goals (try dsimp only)
      refine StepEnd.introQ hQ (news' := [(D, BA.baOf _), (P, listOf items c)]) (by k_asm) (by k_asm) (by exact off_same hoff rfl) ?_ ⟨_, _, rfl, by rw [← hsh]; rfl, ?_⟩
      · skip
        intro z hz
        have hz' := not_stored hz
        simp only [List.forall_mem_cons, List.forall_mem_nil, and_true] at hz'
        simp only [hz', hz, if_false, Bool.false_eq_true]
      · have hpl : (((ps.length : Int) * bits).fdiv 8 - 1 + (i : Int) * -1).toNat = (((ps.length : Int) * bits).fdiv 8).toNat - 1 - i := by lia
        rw [bInts_set (by lia) (by lia), hb4, ha, hpl, fillTo_step hi]
    · rintro h4 tk4 u nw F4 N4 ⟨bf, t2, rfl, hu, hb4⟩ _
      dsimp only
      refine nStep ?_
      have hbs : bf.size = (((ps.length : Int) * bits).fdiv 8).toNat := by rw [← KBw.ints_length, hb4]; simp [fillTo]
      rw [fillTo_full] at hb4
      k_steps
      all_goals (try dsimp only)
      refine KBa.add_K hb4 (by assumption) (by simp only [List.length_map, List.length_range, List.length_take, List.length_drop]; lia) fun t5 k5 hbc => ?_
      refine leaveR_ (own' := []) (by assumption) News.nil fun aF aN aD => hret _ [] _ _ aF aN aD ⟨rfl, _, _, rfl, hbc.trans ?_⟩
      rw [take_clip hM0]; rfl
end H_octets_spec
theorem octets_spec (w : World) (P : Addr) (items : Array Value) (c : Nat) (ps : List Int) (bits : Int) (tbi : Tok) (b : Array UInt8) (tb : Tok) (rs : List Int) (hb : KBw.bInts b = rs) (hr : rs.length ≤ 64) (hps : IntsAre items.toList ps) (hin : ∀ d ∈ ps, 0 ≤ d ∧ d < 2 ^ bits.toNat) (hl : (ps.length : Int) * bits ≤ 600) (hbits : 1 ≤ bits ∧ bits ≤ 16) :
    SpecN w 96 [.ref P, .int bits tbi, .bytes b tb] [(P, listOf items c)] 2 (fun r n => n = [] ∧ ∃ b' t, r = .bytes b' t ∧ KBw.bInts b' = octetsL ps bits ++ rs.drop (((ps.length : Int) * bits).fdiv 8).toNat) :=
  SpecN.mk fun t => hk_all H_octets_spec.hkN H_octets_spec.hkU (by with_unfolding_all exact H_octets_spec.core) ((((w, P), items), ((c, ps), bits)), (((tbi, b), tb), (rs, t))) hb hr hps hin hl hbits
end
section
set_option maxHeartbeats 8000000
theorem kwP31 : True := by
  k_with "call ref" => ((with_reducible show wpAny _ _ (call (Value.ref 143) [Value.bytes _ _]) _ _ _); k_dflt (refine' Spec.use0 (weight_spec _ _ _ _ (by with_reducible assumption) (by first | lia | (rw [toldL_len]; lia))) ?qqB ?qqF ?qqX ?qqN ?qqT ?qqhk ?qqhd ?qqhu ?_; (case qqB => k_asm); (case qqF => k_asm); (case qqX => k_asm); (case qqN => k_asm); (case qqT => k_asm); (case qqhk => exact rfl); (case qqhd => ktr_room); (case qqhu => ktr_units); k_whole); intro _ _ _ _ qqhR9 _ qqN9 qqD9; obtain ⟨qqe1, _, qqe2⟩ := qqhR9; subst qqe1; subst qqe2; clear qqD9; (try simp only [List.nil_append] at qqN9))
  exact True.intro
noncomputable abbrev tupOf (vs : Array Value) : Obj := { cls := .type "tuple", data := .seq vs }
noncomputable def bestTo (rs as : List Int) (st : Int) : Nat → Int
  | 0 => 0
  | n + 1 => if weight (toldL ((n : Int) + 1) rs as st) < weight (toldL (bestTo rs as st n) rs as st) then (n : Int) + 1 else bestTo rs as st n
theorem bestTo_in {rs as : List Int} {st : Int} (n : Nat) : 0 ≤ bestTo rs as st n ∧ bestTo rs as st n ≤ n := by
  induction n with
  | zero => simp [bestTo]
  | succ n ih => rw [bestTo]; split <;> lia
namespace H_best_spec
abbrev hkD : Type := ((((World × (Array UInt8)) × Tok) × ((List Int) × (Array UInt8))) × (((Tok × (List Int)) × Int) × (Tok × Tele)))
def hkP (w : World) (rb : Array UInt8) (tr : Tok) (rs : List Int) (ab : Array UInt8) (ta : Tok) (as : List Int) (st : Int) (ts : Tok) (hkT : Tele) : Prop := ∀ (hrb : KBw.bInts rb = rs) (hab : KBw.bInts ab = as) (hlr : rs.length ≤ 200) (hla : as.length ≤ 200) (hst : 0 ≤ st ∧ st ≤ 1000), SpecNAt w 150 [.bytes rb tr, .bytes ab ta, .int st ts] [] 4 (fun r n => ∃ D t b t', r = .ref D ∧ n = [(D, tupOf #[.int (bestTo rs as st 4) t, .bytes b t'])] ∧ KBw.bInts b = toldL (bestTo rs as st 4) rs as st) hkT
def hkU (d : hkD) : Prop := hkP d.1.1.1.1 d.1.1.1.2 d.1.1.2 d.1.2.1 d.1.2.2 d.2.1.1.1 d.2.1.1.2 d.2.1.2 d.2.2.1 d.2.2.2
theorem hkN : Nonempty hkD := (ne2 (ne2 (ne2 (ne2 neWorld ⟨default⟩) ⟨default⟩) (ne2 ⟨default⟩ ⟨default⟩)) (ne2 (ne2 (ne2 ⟨default⟩ ⟨default⟩) ⟨default⟩) (ne2 ⟨default⟩ neTele)))
@[irreducible] def hkV : hkD := hk_c hkN hkU
@[irreducible] def w : World := hkV.1.1.1.1
@[irreducible] def rb : Array UInt8 := hkV.1.1.1.2
@[irreducible] def tr : Tok := hkV.1.1.2
@[irreducible] def rs : List Int := hkV.1.2.1
@[irreducible] def ab : Array UInt8 := hkV.1.2.2
@[irreducible] def ta : Tok := hkV.2.1.1.1
@[irreducible] def as : List Int := hkV.2.1.1.2
@[irreducible] def st : Int := hkV.2.1.2
@[irreducible] def ts : Tok := hkV.2.2.1
@[irreducible] def hkT : Tele := hkV.2.2.2
@[irreducible] def g : Heap := hideAll hkT.s.heap (([] : List (Addr × Obj)).map (·.1))
def L' : Addr := hkT.s.heap.objs.size
theorem g_e : g = hideAll hkT.s.heap (([] : List (Addr × Obj)).map (·.1)) := by delta g; exact rfl
theorem L_e : L' = hkT.s.heap.objs.size := rfl
theorem core : hkP w rb tr rs ab ta as st ts hkT := by
  unfold hkP SpecNAt
  intro hrb hab hlr hla hst
  obtain ⟨_, _⟩ := id hst
  intro B F X N Nr hdis T hk hd hu hret
  refine nCall ?_
  k_dflt (refine' enterRN0 g L' g_e L_e (binds := [(Str.ofString "row", .bytes rb tr), (Str.ofString "ahead", .bytes ab ta), (Str.ofString "step", .int st ts)]) B F X N Nr hdis T rfl rfl hk ?k6 ?k7 ?k8 ?k9 ?kB ?_ ?c5 ?c2 ?c3 ?c4; (case k6 => k_is); (case k7 => k_is); (case k8 => ktr_room); (case k9 => exact BindsTo.of_eq rfl); (case c5 => decide); (case kB => exact locs rfl); (case c2 => exact rfl); (case c3 => exact rfl); (case c4 => exact rfl); k_whole)
  intro h' FG F' N' B' X' T' l1
  try dsimp only
  try k_lt l1
  try k_lift B'
  refine nExecs (nAssign (nTuple (nArgs (nOf ?_))))
  k_steps
  all_goals (try dsimp only)
  refine nArgs (nCallE ?_)
  k_steps
  all_goals (try dsimp only)
  refine nCallFn (by k_asm) (by k_is) ?_
  k_steps
  all_goals (try dsimp only)
  k_dflt (refine' SpecN.use0 (told_spec _ 0 _ _ _ _ _ _ _ _ _ hrb hab hlr hla (by lia) hst) ?B ?F ?X ?N ?T ?hk ?hd ?hu ?_; (case B => k_asm); (case F => k_asm); (case X => k_asm); (case N => k_asm); (case T => k_asm); (case hk => exact rfl); (case hd => ktr_room); (case hu => ktr_units); k_whole)
  rintro r9 _ h9 tk9 ⟨rfl, b9, t9, rfl, hb9⟩ F9 N9 -
  dsimp only
  refine nArgs0 ?_
  k_steps
  all_goals (try dsimp only)
  refine nExecs (nFor ?_)
  k_steps
  all_goals (try dsimp only)
  refine nRange (n := 4) [Str.ofString "way", Str.ofString "told", Str.ofString "best"] (fun i u nw => ∃ D t b t', nw = [(D, tupOf #[.int (bestTo rs as st i) t, .bytes b t'])] ∧ u (Str.ofString "best") = some (.ref D) ∧ KBw.bInts b = toldL (bestTo rs as st i) rs as st)
    rfl (by assumption) (by decide) (by rfl) rfl rfl (by k_asm) (by k_asm) ⟨_, _, _, _, rfl, rfl, hb9⟩ ?_ ?_
  · rintro i t u nw h2 tk2 own hi ⟨D, td, b, tb, rfl, hu, hb⟩ _ hoff F2 N2
    (first | refine nGen fun Qv Ev hQ _ => ?_ | refine aGen fun Qv Ev hQ _ => ?_); (try dsimp only at hQ); (try dsimp only)
    replace F2 := fr_known (n := Str.ofString "best") (val := .ref D) (by rw [if_pos (by decide)]; exact hu) F2
    have e1 : (1 + (i : Int) * 1) = (i : Int) + 1 := by lia
    rw [e1] at F2
    have hin := bestTo_in (rs := rs) (as := as) (st := st) i
    refine nExecs (nAssign (nCallE ?_))
    k_steps
    all_goals (try dsimp only)
    refine nCallFn (by k_asm) (by k_is) ?_
    k_steps
    all_goals (try dsimp only)
    k_dflt (refine' SpecN.use0 (told_spec _ _ _ _ _ _ _ _ _ _ _ hrb hab hlr hla (by lia) hst) ?B ?F ?X ?N ?T ?hk ?hd ?hu ?_; (case B => k_asm); (case F => k_asm); (case X => k_asm); (case N => k_asm); (case T => k_asm); (case hk => exact rfl); (case hd => ktr_room); (case hu => ktr_units); k_whole)
    rintro r9 _ h9 tk9 ⟨rfl, b9, t9, rfl, hb9⟩ F9 N9 -
    simp only [List.nil_append] at N9
    dsimp only
    k_steps
    all_goals (try dsimp only)
    refine nStep ?_
    k_steps
    all_goals (try dsimp only)
    · have hbt : bestTo rs as st (i + 1) = (i : Int) + 1 := by rw [bestTo, if_pos (by assumption)]
      (try dsimp only at hQ); rw [hbt] at hQ
      refine nExecsNil (StepEnd.introQ hQ (news' := [_]) (by k_asm) ?n1 ?n2 ?n3 ⟨_, t, _, t9, rfl, rfl, hb9⟩)
      case n1 =>
        refine news_sub (by k_asm) fun p hp => ?_
        rcases List.mem_cons.mp hp with rfl | hp
        · exact .head _
        · exact .tail _ (.tail _ hp)
      case n2 => exact List.forall_mem_singleton.mpr fun q hq => Nat.ne_of_lt (‹∀ p ∈ [(D, _)] ++ own, p.1 < _› q (.tail _ hq))
      case n3 =>
        intro z hz
        have hz' := not_stored hz
        simp only [List.forall_mem_cons, List.forall_mem_nil, and_true] at hz'
        simp only [hz', hz, if_false, Bool.false_eq_true]
    · have hbt : bestTo rs as st (i + 1) = bestTo rs as st i := by rw [bestTo, if_neg (by lia)]
      (try dsimp only at hQ); rw [hbt] at hQ
      refine nExecsNil (StepEnd.introQ hQ (news' := [(D, _)]) (by k_asm) (by k_asm) ?n2 ?n3 ⟨_, _, _, _, rfl, rfl, hb⟩)
      case n2 => exact List.forall_mem_singleton.mpr fun q hq => hoff q hq (D, _) (.head _)
      case n3 =>
        intro z hz
        have hz' := not_stored hz
        simp only [List.forall_mem_cons, List.forall_mem_nil, and_true] at hz'
        simp only [hz', hz, if_false, Bool.false_eq_true]
  · rintro h2 tk2 u nw F2 N2 ⟨D, td, b, tb, rfl, hu, hb⟩ _
    replace F2 := fr_known0 (n := Str.ofString "best") (val := .ref D) (by rw [if_pos (by decide)]; exact hu) F2
    dsimp only
    refine nStep ?_
    k_steps
    all_goals (try dsimp only)
    try k_unfold
    exact leaveR_ (own' := [(D, tupOf _)]) (by assumption) (by assumption) fun aF aN aD => hret _ [(D, tupOf _)] _ _ aF aN aD ⟨_, _, _, _, rfl, rfl, hb⟩
end H_best_spec
theorem best_spec (w : World) (rb : Array UInt8) (tr : Tok) (rs : List Int) (ab : Array UInt8) (ta : Tok) (as : List Int) (st : Int) (ts : Tok) (hrb : KBw.bInts rb = rs) (hab : KBw.bInts ab = as) (hlr : rs.length ≤ 200) (hla : as.length ≤ 200) (hst : 0 ≤ st ∧ st ≤ 1000) :
    SpecN w 150 [.bytes rb tr, .bytes ab ta, .int st ts] [] 4 (fun r n => ∃ D t b t', r = .ref D ∧ n = [(D, tupOf #[.int (bestTo rs as st 4) t, .bytes b t'])] ∧ KBw.bInts b = toldL (bestTo rs as st 4) rs as st) :=
  SpecN.mk fun t => hk_all H_best_spec.hkN H_best_spec.hkU (by with_unfolding_all exact H_best_spec.core) ((((w, rb), tr), (rs, ab)), (((ta, as), st), (ts, t))) hrb hab hlr hla hst
end
local macro_rules | `(tactic| k_sub) => `(tactic| (first | exact List.forall_mem_nil _ | (refine List.forall_mem_cons.mpr ⟨?_, ?_⟩; (focus k_mem); k_sub)))
section
set_option maxHeartbeats 8000000
theorem kwL11 : True := by
  k_with "call builtin:len" => (k_here; (with_reducible show wpAny _ _ (call (Value.builtin _) [Value.ref _]) _ _ _); (refine' len_ints_fit ?qqk1 ?qqk2 ?qqk3 ?_; (case qqk1 => exact News.isList (by k_asm) (by k_mem)); (case qqk2 => assumption); (case qqk3 => lia); k_whole))
  k_with "subscriptTail" => (k_here; (with_reducible show wpAny _ _ (subscriptTail _ _ (Value.ref _) (Value.int _ _)) _ _ _); k_dflt (refine' item_list_ints ?qqk1 ?qqk2 ?qqk3 ?qqk4 ?qqk5 ?_ ?qqk7 ?qqk8; (case qqk1 => exact News.isList (by k_asm) (by k_mem)); (case qqk2 => with_reducible assumption); (case qqk3 => lia); (case qqk4 => lia); (case qqk5 => lia); (case qqk7 => with_unfolding_all rfl); (case qqk8 => (intro _; with_unfolding_all rfl)); k_whole); intro _)
  exact True.intro
noncomputable def NeAll (d : Nat) : List (Addr × Obj) → Prop
  | [] => True
  | p :: r => (@Ne Nat d p.1) ∧ NeAll d r
theorem NeAll.of {d : Addr} : ∀ {l : List (Addr × Obj)}, (∀ q ∈ l, d ≠ q.1) → NeAll d l
  | [], _ => trivial
  | _ :: _, h => ⟨h _ List.mem_cons_self, NeAll.of fun p hp => h p (List.mem_cons_of_mem _ hp)⟩
noncomputable def Within (B : Int) (ks : List Int) : Prop := ∀ k ∈ ks, 0 ≤ k ∧ k < B
theorem Within.getD {B : Int} {ks : List Int} (h : Within B ks) {i : Nat} (hi : i < ks.length) : 0 ≤ ks.getD i 0 ∧ ks.getD i 0 < B := by
  rw [List.getD_eq_getElem?_getD, List.getElem?_eq_getElem hi]; exact h _ (List.getElem_mem hi)
theorem Within.at {ks : List Int} (h : Within 256 ks) (i : Nat) : 0 ≤ ks.getD i 0 ∧ ks.getD i 0 < 256 := KBw.getD_in h
theorem kwL12 : True := by
  k_with "call ref" => ((with_reducible show wpAny _ _ (call (Value.ref 241) [Value.int _ _, Value.int _ _, Value.int _ _]) _ _ _); k_dflt (refine' Spec.use0 (lawrest_spec _ _ _ _ _ _ _ (by first | lia | exact Within.at (by assumption) _) (by first | lia | exact Within.at (by assumption) _) (by first | lia | exact Within.at (by assumption) _)) ?qqB ?qqF ?qqX ?qqN ?qqT ?qqhk ?qqhd ?qqhu ?_; (case qqB => k_asm); (case qqF => k_asm); (case qqX => k_asm); (case qqN => k_asm); (case qqT => k_asm); (case qqhk => exact rfl); (case qqhd => ktr_room); (case qqhu => ktr_units); k_whole); intro _ _ _ _ qqhR9 _ qqN9 qqD9; obtain ⟨qqe1, _, qqe2⟩ := qqhR9; subst qqe1; subst qqe2; clear qqD9; (try simp only [List.nil_append] at qqN9))
  exact True.intro
theorem guess_menu {k a b c : Int} (hk : 0 ≤ k ∧ k ≤ 4) : [0, a, b, (a + b).fdiv 2, near a b c].getD k.toNat 0 = guess k a b c := by
  obtain rfl | rfl | rfl | rfl | rfl : k = 0 ∨ k = 1 ∨ k = 2 ∨ k = 3 ∨ k = 4 := by lia
  · rfl
  · rfl
  · rfl
  · exact Int.fdiv_eq_ediv_of_nonneg _ (by decide)
  · rfl
section
variable {prog : Program} {w : World} {A : Around} {E : Value → Shared → Prop} {s : Shared} {env : Env} {h₀ : Heap} {L : Addr} {m : Str → Option Value} {nw : List (Addr × Obj)} {st : Stmt} {rest : List Stmt} {Q : Flow → Shared → Prop}
noncomputable def MeetEnd (h₀ : Heap) (L : Addr) (m : Str → Option Value) (nw : List (Addr × Obj)) (s : Shared) (x : Str) (P : Int → Prop) (f : Flow) (s' : Shared) : Prop :=
  f = .next ∧ ∃ c t h' tk', s' = { s with heap := h', toks := tk' } ∧ Fr h₀ L h' (fun y => if y = x then some (.int c t) else m y) ∧ News h₀ L h' nw ∧ P c
theorem MeetEnd.intro {x : Str} {P : Int → Prop} {c : Int} {t : Tok} {h' : Heap} {tk' : Nat} (F : Fr h₀ L h' (fun y => if y = x then some (.int c t) else m y)) (N : News h₀ L h' nw) (hP : P c) : MeetEnd h₀ L m nw s x P .next { s with heap := h', toks := tk' } := ⟨rfl, c, t, h', tk', rfl, F, N, hP⟩
theorem aMeet {x : Str} (F : Fr h₀ L s.heap m) (N : News h₀ L s.heap nw) (P : Int → Prop)
    (h1 : wpAny (model prog w) A (exec st env) (MeetEnd h₀ L m nw s x P) (fun _ _ => False) s)
    (h2 : ∀ c t h' tk', Fr h₀ L h' (fun y => if y = x then some (.int c t) else m y) → News h₀ L h' nw → P c → wpAny (model prog w) A (execs rest env) Q E { s with heap := h', toks := tk' }) : wpAny (model prog w) A (execs (st :: rest) env) Q E s := by
  refine wpAny_execs_cons (wpAny_mono h1 (fun f s' hq => ?_) fun _ _ q => q.elim)
  obtain ⟨rfl, c, t, h', tk', rfl, F', N', hP⟩ := hq
  exact h2 c t h' tk' F' N' hP
end
namespace H_lguess_spec
abbrev hkD : Type := ((((World × Int) × (Int × Int)) × ((Tok × Tok) × (Tok × Addr))) × (((Addr × (Array Value)) × ((Array Value) × Nat)) × ((Nat × (List Int)) × ((List Int) × Tele))))
def hkP (w : World) (k : Int) (p : Int) (st : Int) (tk : Tok) (tp : Tok) (ts : Tok) (R : Addr) (A : Addr) (ri : Array Value) (ai : Array Value) (rc : Nat) (ac : Nat) (rs : List Int) (as : List Int) (hkT : Tele) : Prop := ∀ (hr : IntsAre ri.toList rs) (ha : IntsAre ai.toList as) (wr : Within 256 rs) (wa : Within 256 as) (hlr : rs.length ≤ 200) (hla : as.length ≤ 200) (hk4 : 0 ≤ k ∧ k ≤ 4) (hp : 0 ≤ p ∧ p ≤ 1000) (hst : 1 ≤ st ∧ st ≤ 1000) (hps : p - st < rs.length), SpecAt w 248 [.int k tk, .ref R, .ref A, .int p tp, .int st ts] [(R, listOf ri rc), (A, listOf ai ac)] 2
      (fun r o => ∃ ret, o = ret ++ [(R, listOf ri rc), (A, listOf ai ac)] ∧ (∀ p ∈ ret, ∀ q ∈ [(R, listOf ri rc), (A, listOf ai ac)], p.1 ≠ q.1) ∧ ret = [] ∧ ∃ t, r = .int (guess k (octAt rs (p - st)) (octAt as p) (octAt as (p - st))) t) hkT
def hkU (d : hkD) : Prop := hkP d.1.1.1.1 d.1.1.1.2 d.1.1.2.1 d.1.1.2.2 d.1.2.1.1 d.1.2.1.2 d.1.2.2.1 d.1.2.2.2 d.2.1.1.1 d.2.1.1.2 d.2.1.2.1 d.2.1.2.2 d.2.2.1.1 d.2.2.1.2 d.2.2.2.1 d.2.2.2.2
theorem hkN : Nonempty hkD := (ne2 (ne2 (ne2 (ne2 neWorld ⟨default⟩) (ne2 ⟨default⟩ ⟨default⟩)) (ne2 (ne2 ⟨default⟩ ⟨default⟩) (ne2 ⟨default⟩ ⟨default⟩))) (ne2 (ne2 (ne2 ⟨default⟩ ⟨default⟩) (ne2 ⟨default⟩ ⟨default⟩)) (ne2 (ne2 ⟨default⟩ ⟨default⟩) (ne2 ⟨default⟩ neTele))))
@[irreducible] def hkV : hkD := hk_c hkN hkU
@[irreducible] def w : World := hkV.1.1.1.1
@[irreducible] def k : Int := hkV.1.1.1.2
@[irreducible] def p : Int := hkV.1.1.2.1
@[irreducible] def st : Int := hkV.1.1.2.2
@[irreducible] def tk : Tok := hkV.1.2.1.1
@[irreducible] def tp : Tok := hkV.1.2.1.2
@[irreducible] def ts : Tok := hkV.1.2.2.1
@[irreducible] def R : Addr := hkV.1.2.2.2
@[irreducible] def A : Addr := hkV.2.1.1.1
@[irreducible] def ri : Array Value := hkV.2.1.1.2
@[irreducible] def ai : Array Value := hkV.2.1.2.1
@[irreducible] def rc : Nat := hkV.2.1.2.2
@[irreducible] def ac : Nat := hkV.2.2.1.1
@[irreducible] def rs : List Int := hkV.2.2.1.2
@[irreducible] def as : List Int := hkV.2.2.2.1
@[irreducible] def hkT : Tele := hkV.2.2.2.2
@[irreducible] def g : Heap := hideAll hkT.s.heap (([(R, listOf ri rc), (A, listOf ai ac)] : List (Addr × Obj)).map (·.1))
def L' : Addr := hkT.s.heap.objs.size
theorem g_e : g = hideAll hkT.s.heap (([(R, listOf ri rc), (A, listOf ai ac)] : List (Addr × Obj)).map (·.1)) := by delta g; exact rfl
theorem L_e : L' = hkT.s.heap.objs.size := rfl
theorem core : hkP w k p st tk tp ts R A ri ai rc ac rs as hkT := by
  unfold hkP SpecAt
  intro hr ha wr wa hlr hla hk4 hp hst hps
  obtain ⟨_, _⟩ := id hk4
  obtain ⟨_, _⟩ := id hp
  obtain ⟨_, _⟩ := id hst
  intro B F X N Nr hdis T hk hd hu hret
  refine wpAny_call ?_
  k_dflt (refine' enterR0 g L' g_e L_e (binds := [(Str.ofString "way", .int k tk), (Str.ofString "row", .ref R), (Str.ofString "ahead", .ref A), (Str.ofString "place", .int p tp), (Str.ofString "step", .int st ts)]) B F X N Nr hdis T rfl rfl hk ?k6 ?k7 ?k8 ?k9 ?kB ?_ ?c5 ?c2 ?c3 ?c4; (case k6 => k_is); (case k7 => k_is); (case k8 => ktr_room); (case k9 => exact BindsTo.of_eq rfl); (case c5 => decide); (case kB => exact locs rfl); (case c2 => exact rfl); (case c3 => exact rfl); (case c4 => exact rfl); k_whole)
  intro h' FG F' N' B' X' T' l1
  try dsimp only
  try k_lt l1
  try k_lift B'
  try k_fold
  refine aMeet (x := Str.ofString "a") (by k_asm) (by k_asm) (fun c => c = octAt rs (p - st)) ?_ ?_
  · k_steps
    all_goals (try dsimp only)
    all_goals refine MeetEnd.intro (by k_asm) (news_sub (by k_asm) (by k_sub)) ?_
    all_goals first | exact (if_pos (by lia)).symm | exact (if_neg (by lia)).symm
  intro c1 t1 h1 tk1 F1 N1 e1
  subst e1
  dsimp only
  refine aMeet (x := Str.ofString "b") (by k_asm) (by k_asm) (fun c => c = octAt as p) ?_ ?_
  · k_steps
    all_goals (try dsimp only)
    all_goals refine MeetEnd.intro (by k_asm) (news_sub (by k_asm) (by k_sub)) ?_
    all_goals first | exact (if_pos (by lia)).symm | exact (if_neg (by lia)).symm
  intro c2 t2 h2 tk2 F2 N2 e2
  subst e2
  dsimp only
  refine aMeet (x := Str.ofString "c") (by k_asm) (by k_asm) (fun c => c = octAt as (p - st)) ?_ ?_
  · k_steps
    all_goals (try dsimp only)
    all_goals refine MeetEnd.intro (by k_asm) (news_sub (by k_asm) (by k_sub)) ?_
    all_goals first | exact (if_pos (by lia)).symm | exact (if_neg (by lia)).symm
  intro c3 t3 h3 tk3 F3 N3 e3
  subst e3
  dsimp only
  have q1 := octAt_in (p := p - st) wr
  have q2 := octAt_in (p := p) wa
  have q3 := octAt_in (p := p - st) wa
  k_steps
  refine leaveR_ (own' := [(R, listOf ri rc), (A, listOf ai ac)]) (by assumption) (news_sub (by k_asm) (by k_sub)) (fun aF aN aD => hret _ [(R, listOf ri rc), (A, listOf ai ac)] _ _ aF aN aD ⟨[], rfl, (fun _ h => nomatch h), rfl, _, congrArg (fun z => Value.int z _) ((guess_menu hk4).trans ?_)⟩)
  rfl
end H_lguess_spec
theorem lguess_spec (w : World) (k p st : Int) (tk tp ts : Tok) (R A : Addr) (ri ai : Array Value) (rc ac : Nat) (rs as : List Int) (hr : IntsAre ri.toList rs) (ha : IntsAre ai.toList as) (wr : Within 256 rs) (wa : Within 256 as)
    (hlr : rs.length ≤ 200) (hla : as.length ≤ 200) (hk4 : 0 ≤ k ∧ k ≤ 4) (hp : 0 ≤ p ∧ p ≤ 1000) (hst : 1 ≤ st ∧ st ≤ 1000) (hps : p - st < rs.length) :
    Spec w 248 [.int k tk, .ref R, .ref A, .int p tp, .int st ts] [(R, listOf ri rc), (A, listOf ai ac)] 2
      (fun r o => ∃ ret, o = ret ++ [(R, listOf ri rc), (A, listOf ai ac)] ∧ (∀ p ∈ ret, ∀ q ∈ [(R, listOf ri rc), (A, listOf ai ac)], p.1 ≠ q.1) ∧ ret = [] ∧ ∃ t, r = .int (guess k (octAt rs (p - st)) (octAt as p) (octAt as (p - st))) t) :=
  Spec.mk fun t => hk_all H_lguess_spec.hkN H_lguess_spec.hkU (by with_unfolding_all exact H_lguess_spec.core) ((((w, k), (p, st)), ((tk, tp), (ts, R))), (((A, ri), (ai, rc)), ((ac, rs), (as, t)))) hr ha wr wa hlr hla hk4 hp hst hps
theorem kwL13 : True := by
  k_with "call ref" => ((with_reducible show wpAny _ _ (call (Value.ref 248) [Value.int _ _, Value.ref _, Value.ref _, Value.int _ _, Value.int _ _]) _ _ _); k_dflt (refine' Spec.useP (own := [(_, listOf _ _), (_, listOf _ _)]) (lguess_spec _ _ _ _ _ _ _ _ _ _ _ _ _ _ _ ?qqp1 ?qqp2 ?qqp3 ?qqp4 ?qqp5 ?qqp6 ?qqp7 ?qqp8 ?qqp9 ?qqp10) ?qqB ?qqF ?qqX ?qqN ?qqhs ?qqT ?qqhk ?qqhd ?qqhu ?_; (case qqB => k_asm); (case qqF => k_asm); (case qqX => k_asm); (case qqN => k_asm); (case qqhs => first | exact List.forall_mem_nil _ | (refine List.forall_mem_singleton.mpr ?_; k_mem) | (refine List.forall_mem_cons.mpr ⟨?_, List.forall_mem_singleton.mpr ?_⟩ <;> k_mem)); (case qqT => k_asm); (case qqhk => exact rfl); (case qqhd => ktr_room); (case qqhu => ktr_units); (case qqp1 => with_reducible assumption); (case qqp2 => with_reducible assumption); (case qqp3 => with_reducible assumption); (case qqp4 => with_reducible assumption); (case qqp5 => lia); (case qqp6 => lia); (case qqp7 => lia); (case qqp8 => lia); (case qqp9 => lia); (case qqp10 => lia); k_whole); intro _ _ _ _ qqhR9 _ qqN9 qqD9; obtain ⟨qqe1, _, qqe2⟩ := qqhR9; subst qqe1; subst qqe2; clear qqD9; (try simp only [List.nil_append] at qqN9))
  exact True.intro
theorem Within.told {k : Int} {rs as : List Int} {st : Int} : Within 256 (toldL k rs as st) := by
  intro x hx
  obtain ⟨i, _, rfl⟩ := List.mem_map.mp hx
  unfold toldAt; lia
namespace H_ltagged_spec
abbrev hkD : Type := ((((World × Int) × (Int × Tok)) × ((Tok × Addr) × Addr)) × ((((Array Value) × (Array Value)) × (Nat × Nat)) × (((List Int) × (List Int)) × Tele)))
def hkP (w : World) (k : Int) (st : Int) (tk : Tok) (ts : Tok) (R : Addr) (A : Addr) (ri : Array Value) (ai : Array Value) (rc : Nat) (ac : Nat) (rs : List Int) (as : List Int) (hkT : Tele) : Prop := ∀ (hr : IntsAre ri.toList rs) (ha : IntsAre ai.toList as) (wr : Within 256 rs) (wa : Within 256 as) (hlr : rs.length ≤ 200) (hla : as.length ≤ 200) (hk4 : 0 ≤ k ∧ k ≤ 4) (hst : 1 ≤ st ∧ st ≤ 1000), SpecAt w 253 [.int k tk, .ref R, .ref A, .int st ts] [(R, listOf ri rc), (A, listOf ai ac)] 3
      (fun r o => ∃ ret, o = ret ++ [(R, listOf ri rc), (A, listOf ai ac)] ∧ (∀ p ∈ ret, ∀ q ∈ [(R, listOf ri rc), (A, listOf ai ac)], p.1 ≠ q.1) ∧ ∃ D ys, r = .ref D ∧ ret = [(D, LCg.lst ys)] ∧ IntsAre ys (toldL k rs as st)) hkT
def hkU (d : hkD) : Prop := hkP d.1.1.1.1 d.1.1.1.2 d.1.1.2.1 d.1.1.2.2 d.1.2.1.1 d.1.2.1.2 d.1.2.2 d.2.1.1.1 d.2.1.1.2 d.2.1.2.1 d.2.1.2.2 d.2.2.1.1 d.2.2.1.2 d.2.2.2
theorem hkN : Nonempty hkD := (ne2 (ne2 (ne2 (ne2 neWorld ⟨default⟩) (ne2 ⟨default⟩ ⟨default⟩)) (ne2 (ne2 ⟨default⟩ ⟨default⟩) ⟨default⟩)) (ne2 (ne2 (ne2 ⟨default⟩ ⟨default⟩) (ne2 ⟨default⟩ ⟨default⟩)) (ne2 (ne2 ⟨default⟩ ⟨default⟩) neTele)))
@[irreducible] def hkV : hkD := hk_c hkN hkU
@[irreducible] def w : World := hkV.1.1.1.1
@[irreducible] def k : Int := hkV.1.1.1.2
@[irreducible] def st : Int := hkV.1.1.2.1
@[irreducible] def tk : Tok := hkV.1.1.2.2
@[irreducible] def ts : Tok := hkV.1.2.1.1
@[irreducible] def R : Addr := hkV.1.2.1.2
@[irreducible] def A : Addr := hkV.1.2.2
@[irreducible] def ri : Array Value := hkV.2.1.1.1
@[irreducible] def ai : Array Value := hkV.2.1.1.2
@[irreducible] def rc : Nat := hkV.2.1.2.1
@[irreducible] def ac : Nat := hkV.2.1.2.2
@[irreducible] def rs : List Int := hkV.2.2.1.1
@[irreducible] def as : List Int := hkV.2.2.1.2
@[irreducible] def hkT : Tele := hkV.2.2.2
@[irreducible] def g : Heap := hideAll hkT.s.heap (([(R, listOf ri rc), (A, listOf ai ac)] : List (Addr × Obj)).map (·.1))
def L' : Addr := hkT.s.heap.objs.size
theorem g_e : g = hideAll hkT.s.heap (([(R, listOf ri rc), (A, listOf ai ac)] : List (Addr × Obj)).map (·.1)) := by delta g; exact rfl
theorem L_e : L' = hkT.s.heap.objs.size := rfl
theorem core : hkP w k st tk ts R A ri ai rc ac rs as hkT := by
  unfold hkP SpecAt
  intro hr ha wr wa hlr hla hk4 hst
  obtain ⟨_, _⟩ := id hk4
  obtain ⟨_, _⟩ := id hst
  intro B F X N Nr hdis T hk hd hu hret
  refine wpAny_call ?_
  k_dflt (refine' enterC0 g L' g_e L_e (binds := [(Str.ofString "way", .int k tk), (Str.ofString "row", .ref R), (Str.ofString "ahead", .ref A), (Str.ofString "step", .int st ts)]) B F X N Nr hdis T rfl rfl hk ?k6 ?k7 ?k8 ?k9 ?kB ?kD ?_ ?c2 ?c3 ?c4; (case k6 => k_is); (case k7 => k_is); (case k8 => ktr_room); (case k9 => exact BindsTo.of_eq rfl); (case kB => exact rfl); (case kD => decide +kernel); (case c2 => exact rfl); (case c3 => exact rfl); (case c4 => exact rfl); k_whole)
  intro h' tk' cells' FG F' N' Y' B' X' T' l1
  k_cells Y'
  (try simp only [List.cons_append, List.nil_append] at N')
  try dsimp only
  try k_lift B'
  try k_fold
  k_steps
  all_goals (try dsimp only)
  refine CompAt.rangeS (S := fun _ => True) rfl (by k_asm) (by k_asm) (by assumption) (small_one (by lia) (by lia) (by lia) (by lia)) (rangeSize_nat _ _) (by lia) rfl trivial fun g' => comp_ints (fun x => toldAt k rs as st x.toNat) (by simp) trivial (fun i v _ h => h) (fun i k' t I oI C oC D m₂ ys h tk E' hi hk hC hx F N off ne => ?_) ?_
  · have hki : k' = (i : Int) := by
      simp only [List.getElem?_map, List.getElem?_range hi, Option.map_some, Option.some.injEq] at hk
      lia
    subst hki
    have hk0 : i < rs.length := by have := hr.length; lia
    k_steps
    all_goals (try dsimp only)
    refine CompEl.intro (by k_asm) (by k_asm) ?_
    rw [Int.fmod_eq_emod_of_nonneg _ (by decide : (0:Int) ≤ 256)]
    simp only [toldAt, Int.toNat_natCast]
  · intro ys hys
    k_steps
    all_goals (try dsimp only)
    refine leaveR_ (own' := [(_, LCg.lst ys), (R, listOf ri rc), (A, listOf ai ac)]) (by assumption) (news_sub (by k_asm) ?nn) (fun aF aN aD => hret _ [(_, LCg.lst ys), (R, listOf ri rc), (A, listOf ai ac)] _ _ aF aN aD ⟨[(_, LCg.lst ys)], rfl, List.forall_mem_singleton.mpr (by k_all), _, _, rfl, rfl, ?_⟩)
    case nn => k_sub
    rw [List.map_map] at hys
    have e : ((rs.length : Int) - 0).toNat = rs.length := by lia
    rw [e] at hys
    refine (congrArg (IntsAre ys) (List.map_congr_left fun i _ => ?_)).mp hys
    simp only [Function.comp, Int.zero_add, Int.mul_one, Int.toNat_natCast]
end H_ltagged_spec
theorem ltagged_spec (w : World) (k st : Int) (tk ts : Tok) (R A : Addr) (ri ai : Array Value) (rc ac : Nat) (rs as : List Int) (hr : IntsAre ri.toList rs) (ha : IntsAre ai.toList as) (wr : Within 256 rs) (wa : Within 256 as)
    (hlr : rs.length ≤ 200) (hla : as.length ≤ 200) (hk4 : 0 ≤ k ∧ k ≤ 4) (hst : 1 ≤ st ∧ st ≤ 1000) :
    Spec w 253 [.int k tk, .ref R, .ref A, .int st ts] [(R, listOf ri rc), (A, listOf ai ac)] 3
      (fun r o => ∃ ret, o = ret ++ [(R, listOf ri rc), (A, listOf ai ac)] ∧ (∀ p ∈ ret, ∀ q ∈ [(R, listOf ri rc), (A, listOf ai ac)], p.1 ≠ q.1) ∧ ∃ D ys, r = .ref D ∧ ret = [(D, LCg.lst ys)] ∧ IntsAre ys (toldL k rs as st)) :=
  Spec.mk fun t => hk_all H_ltagged_spec.hkN H_ltagged_spec.hkU (by with_unfolding_all exact H_ltagged_spec.core) ((((w, k), (st, tk)), ((ts, R), A)), (((ri, ai), (rc, ac)), ((rs, as), t))) hr ha wr wa hlr hla hk4 hst
namespace H_lweight_spec
abbrev hkD : Type := (((World × Addr) × (Array Value)) × ((Nat × (List Int)) × Tele))
def hkP (w : World) (D : Addr) (items : Array Value) (c : Nat) (os : List Int) (hkT : Tele) : Prop := ∀ (hi : IntsAre items.toList os) (hw : Within 256 os) (hl : os.length ≤ 200), SpecAt w 258 [.ref D] [(D, listOf items c)] 2 (fun r o => ∃ ret, o = ret ++ [(D, listOf items c)] ∧ (∀ p ∈ ret, ∀ q ∈ [(D, listOf items c)], p.1 ≠ q.1) ∧ ret = [] ∧ ∃ t, r = .int (weight os) t) hkT
def hkU (d : hkD) : Prop := hkP d.1.1.1 d.1.1.2 d.1.2 d.2.1.1 d.2.1.2 d.2.2
theorem hkN : Nonempty hkD := (ne2 (ne2 (ne2 neWorld ⟨default⟩) ⟨default⟩) (ne2 (ne2 ⟨default⟩ ⟨default⟩) neTele))
@[irreducible] def hkV : hkD := hk_c hkN hkU
@[irreducible] def w : World := hkV.1.1.1
@[irreducible] def D : Addr := hkV.1.1.2
@[irreducible] def items : Array Value := hkV.1.2
@[irreducible] def c : Nat := hkV.2.1.1
@[irreducible] def os : List Int := hkV.2.1.2
@[irreducible] def hkT : Tele := hkV.2.2
@[irreducible] def g : Heap := hideAll hkT.s.heap (([(D, listOf items c)] : List (Addr × Obj)).map (·.1))
def L' : Addr := hkT.s.heap.objs.size
theorem g_e : g = hideAll hkT.s.heap (([(D, listOf items c)] : List (Addr × Obj)).map (·.1)) := by delta g; exact rfl
theorem L_e : L' = hkT.s.heap.objs.size := rfl
theorem core : hkP w D items c os hkT := by
  unfold hkP SpecAt
  intro hi hw hl
  intro B F X N Nr hdis T hk hd hu hret
  refine wpAny_call ?_
  k_dflt (refine' enterR0 g L' g_e L_e (binds := [(Str.ofString "octets", .ref D)]) B F X N Nr hdis T rfl rfl hk ?k6 ?k7 ?k8 ?k9 ?kB ?_ ?c5 ?c2 ?c3 ?c4; (case k6 => k_is); (case k7 => k_is); (case k8 => ktr_room); (case k9 => exact BindsTo.of_eq rfl); (case c5 => decide); (case kB => exact locs rfl); (case c2 => exact rfl); (case c3 => exact rfl); (case c4 => exact rfl); k_whole)
  intro h' FG F' N' B' X' T' l1
  try dsimp only
  try k_lt l1
  try k_lift B'
  try k_fold
  k_steps
  all_goals (try dsimp only)
  refine CompAt.list (.head _) hi rfl (by k_asm) (by k_asm) (by lia) fun g' => comp_ints wgt rfl (.head _) (fun i v _ h => h) (fun i k t I oI C oC D m₂ ys h tk E' hi hk hC hx F N off ne => ?_) ?_
  · have hkb := hw k (List.mem_of_getElem? hk)
    k_steps
    all_goals (try dsimp only)
    refine CompEl.intro (by k_asm) (by k_asm) ?_
    unfold wgt; split <;> split <;> lia
  · intro ys hys
    k_steps
    all_goals (try dsimp only)
    refine leaveR_ (own' := [(D, listOf items c)]) (by assumption) (news_sub (by k_asm) (by k_sub)) (fun aF aN aD => hret _ [(D, listOf items c)] _ _ aF aN aD ⟨[], rfl, (fun _ h => nomatch h), rfl, _, rfl⟩)
end H_lweight_spec
theorem lweight_spec (w : World) (D : Addr) (items : Array Value) (c : Nat) (os : List Int) (hi : IntsAre items.toList os) (hw : Within 256 os) (hl : os.length ≤ 200) :
    Spec w 258 [.ref D] [(D, listOf items c)] 2 (fun r o => ∃ ret, o = ret ++ [(D, listOf items c)] ∧ (∀ p ∈ ret, ∀ q ∈ [(D, listOf items c)], p.1 ≠ q.1) ∧ ret = [] ∧ ∃ t, r = .int (weight os) t) :=
  Spec.mk fun t => hk_all H_lweight_spec.hkN H_lweight_spec.hkU (by with_unfolding_all exact H_lweight_spec.core) (((w, D), items), ((c, os), t)) hi hw hl
end
section
set_option maxHeartbeats 8000000
theorem kwL21 : True := by
  exact True.intro
section
variable {prog : Program} {w : World} {A : Around} {E : Value → Shared → Prop} {s : Shared} {h₀ : Heap} {L a b : Addr} {m : Str → Option Value} {news : List (Addr × Obj)} {i1 i2 : Array Value} {c1 c2 : Nat} {ns ms : List Int} {Q : Value → Shared → Prop}
theorem addLK (F : Fr h₀ L s.heap m) (N : News h₀ L s.heap news) (ma : (a, listOf i1 c1) ∈ news) (mb : (b, listOf i2 c2) ∈ news) (hi : IntsAre i1.toList ns) (hj : IntsAre i2.toList ms) (hz : ns.length + ms.length ≤ 1000)
    (h : ∀ D us h', Fr h₀ L h' m → News h₀ L h' ((D, listOf us.toArray 0) :: news) → (∀ p ∈ news, p.1 < D) → IntsAre us (ns ++ ms) → Q (.ref D) { s with heap := h' }) : wpAny (model prog w) A (binaryOp .Add (.ref a) (.ref b)) Q E s := by
  have ha : s.heap.IsList a i1.toList.toArray := ⟨_, (N _ ma).1, rfl, c1, by rw [Array.toArray_toList]⟩
  have hb : s.heap.IsList b i2.toList.toArray := ⟨_, (N _ mb).1, rfl, c2, by rw [Array.toArray_toList]⟩
  exact kmk_add_ints F N ha hb hi hj h (by rw [sizeLine_eq]; lia)
theorem sliceLK {l : Addr} {its : Array Value} {c : Nat} {vl vu : Value} {lo hi : Option Int} {rs : List Int} {value slice : PySem.Expr} (F : Fr h₀ L s.heap m) (N : News h₀ L s.heap news) (ma : (l, listOf its c) ∈ news) (pl : IsPart vl lo) (pu : IsPart vu hi) (hi' : IntsAre its.toList ns) (hm : IntsAre (slicePick its.toList.toArray lo hi none).toList rs) (hz : ns.length ≤ 1000)
    (h : ∀ D ws h', Fr h₀ L h' m → News h₀ L h' ((D, listOf (List.toArray ws) 0) :: news) → (∀ p ∈ news, p.1 < D) → IntsAre ws rs → Q (.ref D) { s with heap := h' })
    (hs : subscripted slice false (.ref l) (.ref s.heap.objs.size) = operate [.ref s.heap.objs.size, .ref l] (getItem (.ref l) (.ref s.heap.objs.size))) (ht : ∀ r, letTemporaryGo value (.ref l) r = pure ()) :
    wpAny (model prog w) A (subscriptTail value slice (.ref l) (.ref s.heap.objs.size)) Q E { s with heap := s.heap.push { cls := .type "slice", data := .fields #[vl, vu, .none] } } := by
  have ha : s.heap.IsList l its.toList.toArray := ⟨_, (N _ ma).1, rfl, c, by rw [Array.toArray_toList]⟩
  exact kmk_slice_ints F N ha pl pu hi' hm rfl (fun D ws h' F' N' l1 hI _ _ => h D ws h' F' N' l1 hI) hs ht (by rw [List.size_toArray, hi'.length, sizeLine_eq]; lia)
end
theorem pow2_ne (n : Nat) : (2 : Int) ^ n ≠ 0 := Int.ne_of_gt (Int.pow_pos (by decide))
theorem big_pow {n : Nat} (h : n ≤ 999) : Big ((2 : Int) ^ n) := by
  refine Big.of_lt (k := n + 1) (Int.le_of_lt (Int.pow_pos (by decide))) ?_ (by lia)
  rw [Int.pow_succ]
  have := Int.pow_pos (n := 2) (m := n) (by decide)
  lia
theorem pow256_ne (n : Nat) : (256 : Int) ^ n ≠ 0 := Int.ne_of_gt (Int.pow_pos (by decide))
theorem big_pow256 {n : Nat} (h : n ≤ 120) : Big ((256 : Int) ^ n) := by rw [pow256]; exact big_pow (by lia)
theorem kwL22 : True := by
  k_with "binaryOp FloorDiv int int" => (k_here; (with_reducible refine divB ?qqa ?qqb ?_); (case qqa => first | exact big_pow (by lia) | exact big_pow256 (by lia)); (case qqb => first | exact pow2_ne _ | exact pow256_ne _))
  k_with "binaryOp Mod int int" => (k_here; (with_reducible refine mod_int' ?qqa ?_); (case qqa => first | exact pow2_ne _))
  k_with "binaryOp Pow int int" => (k_here; (with_reducible refine pow_int_small ?qqkb1 ?qqkb2 ?qqkb3 ?_); (case qqkb1 => lia); (case qqkb2 => lia); (case qqkb3 => decide))
  exact True.intro
theorem off_at {own l : List (Addr × Obj)} (h : ∀ p ∈ own, ∀ q ∈ l, p.1 ≠ q.1) {d : Addr} {o : Obj} (hm : (d, o) ∈ l) : ∀ p ∈ own, p.1 ≠ d := fun p hp => h p hp _ hm
theorem kwL23 : True := by
  exact True.intro
local macro_rules | `(tactic| k_all) => `(tactic| (first | (refine' off_at ?h ?m; (case h => assumption); (case m => k_mem)) | fail))
theorem filt_rest {l : Addr} {o : Obj} {rest : List (Addr × Obj)} (hne : ∀ p ∈ rest, p.1 ≠ l) : ((l, o) :: rest).filter (fun p => p.1 != l) = rest := by
  have h1 : ((l, o).1 != l) = false := bne_self_eq_false _
  rw [List.filter_cons, h1, if_neg Bool.false_ne_true]
  exact List.filter_eq_self.mpr fun p hp => bne_iff_ne.mpr (hne p hp)
noncomputable def lpartAt (W : Int) (bits many : Int) (k : Int) : Int := W.fdiv (2 ^ (bits * (many - 1 - k)).toNat) % 2 ^ bits.toNat
noncomputable def lpartsL (os : List Int) (bits : Int) : List Int :=
  (List.range ((8 * (os.length : Int)).fdiv bits).toNat).map fun (k : Nat) => lpartAt ((num 256 os).fdiv (2 ^ (8 * (os.length : Int) - (8 * (os.length : Int)).fdiv bits * bits).toNat)) bits ((8 * (os.length : Int)).fdiv bits) k
namespace H_lparts_spec
abbrev hkD : Type := (((World × Addr) × ((Array Value) × Nat)) × (((List Int) × Int) × (Tok × Tele)))
def hkP (w : World) (D : Addr) (items : Array Value) (c : Nat) (os : List Int) (bits : Int) (tbi : Tok) (hkT : Tele) : Prop := ∀ (hi : IntsAre items.toList os) (hw : Within 256 os) (hl : os.length ≤ 64) (hbits : bits ∈ [1, 2, 4, 8, 16]), SpecAt w 268 [.ref D, .int bits tbi] [(D, listOf items c)] 2 (fun r o => ∃ ret, o = ret ++ [(D, listOf items c)] ∧ (∀ p ∈ ret, ∀ q ∈ [(D, listOf items c)], p.1 ≠ q.1) ∧ ∃ G ys, r = .ref G ∧ ret = [(G, LCg.lst ys)] ∧ IntsAre ys (lpartsL os bits)) hkT
def hkU (d : hkD) : Prop := hkP d.1.1.1 d.1.1.2 d.1.2.1 d.1.2.2 d.2.1.1 d.2.1.2 d.2.2.1 d.2.2.2
theorem hkN : Nonempty hkD := (ne2 (ne2 (ne2 neWorld ⟨default⟩) (ne2 ⟨default⟩ ⟨default⟩)) (ne2 (ne2 ⟨default⟩ ⟨default⟩) (ne2 ⟨default⟩ neTele)))
@[irreducible] def hkV : hkD := hk_c hkN hkU
@[irreducible] def w : World := hkV.1.1.1
@[irreducible] def D : Addr := hkV.1.1.2
@[irreducible] def items : Array Value := hkV.1.2.1
@[irreducible] def c : Nat := hkV.1.2.2
@[irreducible] def os : List Int := hkV.2.1.1
@[irreducible] def bits : Int := hkV.2.1.2
@[irreducible] def tbi : Tok := hkV.2.2.1
@[irreducible] def hkT : Tele := hkV.2.2.2
@[irreducible] def g : Heap := hideAll hkT.s.heap (([(D, listOf items c)] : List (Addr × Obj)).map (·.1))
def L' : Addr := hkT.s.heap.objs.size
theorem g_e : g = hideAll hkT.s.heap (([(D, listOf items c)] : List (Addr × Obj)).map (·.1)) := by delta g; exact rfl
theorem L_e : L' = hkT.s.heap.objs.size := rfl
theorem core : hkP w D items c os bits tbi hkT := by
  unfold hkP SpecAt
  intro hi hw hl hbits
  intro B F X N Nr hdis T hk hd hu hret
  refine wpAny_call ?_
  k_dflt (refine' enterC0 g L' g_e L_e (binds := [(Str.ofString "row", .ref D), (Str.ofString "bits", .int bits tbi)]) B F X N Nr hdis T rfl rfl hk ?k6 ?k7 ?k8 ?k9 ?kB ?kD ?_ ?c2 ?c3 ?c4; (case k6 => k_is); (case k7 => k_is); (case k8 => ktr_room); (case k9 => exact BindsTo.of_eq rfl); (case kB => exact rfl); (case kD => decide +kernel); (case c2 => exact rfl); (case c3 => exact rfl); (case c4 => exact rfl); k_whole)
  intro h' tk' cells' FG F' N' Y' B' X' T' l1
  k_cells Y'
  (try simp only [List.cons_append, List.nil_append] at N')
  try dsimp only
  try k_lift B'
  try k_fold
  k_lt l1
  obtain ⟨m0, m1, m2, m3, m4, m5⟩ := many_bits (n := 8 * os.length) hbits (by lia)
  k_steps
  all_goals (try dsimp only)
  refine aList [Str.ofString "octet"] (fun i _ nw => ∃ o1 o2 o3 t0 t, nw = [(L' + 1 + 1 + 1, o1), (L' + 1 + 1, o2), (L' + 1, o3)] ∧ o1.data = .cell (some (.int ((8 * (os.length : Int)).fdiv bits) t0)) ∧ o2.data = .cell (some (.int (num 256 (os.take i)) t)) ∧ o3.data = .cell (some (.int bits tbi)))
    (.head _) rfl rfl rfl (by k_asm) (news_sub (l' := (D, listOf items c) :: [(L' + 1 + 1 + 1, _), (L' + 1 + 1, _), (L' + 1, _)]) (by k_asm) (by k_sub)) (by rw [filt_rest (by first | k_all | fail)]; exact ⟨_, _, _, _, _, rfl, by assumption, by assumption, by assumption⟩) ?_ ?_
  · rintro i v u nw h2 tk2 own hi2 hg ⟨ob1, ob2, ob3, tn0, tn, rfl, d1, d2, d3⟩ _ hoff hown F2 N2
    (first | refine nGen fun Qv Ev hQ _ => ?_ | refine aGen fun Qv Ev hQ _ => ?_); (try dsimp only at hQ); (try dsimp only)
    have hi' : i < os.length := by have := hi.length; rw [Array.length_toList] at this; lia
    obtain ⟨tv, hx⟩ := hi.get i os[i] (by simp [hi'])
    have hv' : v = .int os[i] tv := by
      rw [Array.getElem?_toList, hg] at hx; exact Option.some.inj hx
    subst hv'
    have hp := hw os[i] (List.getElem_mem hi')
    have hbig : Big (num 256 (os.take i)) := num256_big (fun d hd => hw d (List.mem_of_mem_take hd)) (by rw [List.length_take]; lia)
    have hor : num 256 (os.take i) * 256 + os[i] = num 256 (os.take (i + 1)) := by
      rw [List.take_add_one, List.getElem?_eq_getElem hi', Option.toList_some, num_snoc]
    simp only [List.cons_append, List.nil_append] at N2
    k_steps
    all_goals (try dsimp only)
    refine StepEnd.introQ hQ (news' := [(L' + 1 + 1 + 1, ob1), (L' + 1 + 1, _), (L' + 1, ob3)]) (by k_asm) (by k_asm) (by exact off_same hoff rfl) ?_ ⟨ob1, _, ob3, _, _, rfl, d1, by rw [← hor]; assumption, d3⟩
    intro z hz
    have hz' := not_stored hz
    simp only [List.forall_mem_cons, List.forall_mem_nil, and_true] at hz'
    simp only [hz', hz, if_false, Bool.false_eq_true]
  · rintro h2 tk2 u nw F2 N2 ⟨ob1, ob2, ob3, tn0, tn, rfl, d1, d2, d3⟩ _
    dsimp only
    have hsz : items.size = os.length := by rw [← Array.length_toList]; exact hi.length
    rw [hsz, List.take_length] at d2
    have hbig : Big (num 256 os) := num256_big hw (by lia)
    k_steps
    all_goals (try dsimp only)
    refine CompAt.rangeS (S := fun _ => True) rfl (by k_asm) (by k_asm) (by assumption) (small_one (by lia) (by lia) (by lia) (by lia)) (rangeSize_nat _ _) (by lia) rfl trivial fun g' => comp_ints (fun x => lpartAt ((num 256 os).fdiv (2 ^ (8 * (os.length : Int) - (8 * (os.length : Int)).fdiv bits * bits).toNat)) bits ((8 * (os.length : Int)).fdiv bits) x) (by simp) trivial (fun i v _ h => h) (fun i k t I oI C oC D m₂ ys h tk E' hi hk hC hx F N off ne => ?_) ?_
    · have hki : k = (i : Int) := by
        simp only [List.getElem?_map, List.getElem?_range hi, Option.map_some, Option.some.injEq] at hk
        lia
      subst hki
      have hb0 : 0 ≤ bits * ((8 * (os.length : Int)).fdiv bits - 1 - (i : Int)) := Int.mul_nonneg (by lia) (by lia)
      have hb1 : bits * ((8 * (os.length : Int)).fdiv bits - 1 - (i : Int)) ≤ bits * (8 * (os.length : Int)).fdiv bits := Int.mul_le_mul_of_nonneg_left (by lia) (by lia)
      rw [Int.mul_comm bits ((8 * (os.length : Int)).fdiv bits)] at hb1
      k_steps
      all_goals (try dsimp only)
      refine CompEl.intro (by k_asm) (by k_asm) ?_
      rw [Int.fmod_eq_emod_of_nonneg _ (Int.le_of_lt (Int.pow_pos (by decide)))]; rfl
    · intro ys hys
      k_steps
      all_goals (try dsimp only)
      refine leaveR_ (own' := [(_, LCg.lst ys), (D, listOf items c)]) (by assumption) (news_sub (by k_asm) ?nn) (fun aF aN aD => hret _ [(_, LCg.lst ys), (D, listOf items c)] _ _ aF aN aD ⟨[(_, LCg.lst ys)], rfl, List.forall_mem_singleton.mpr (by first | k_all | fail), _, _, rfl, rfl, ?_⟩)
      case nn => k_sub
      rw [List.map_map] at hys
      refine (congrArg (IntsAre ys) ?_).mp hys
      rw [lpartsL, Int.sub_zero]
      exact List.map_congr_left fun i _ => by simp only [Function.comp, Int.zero_add, Int.mul_one]
end H_lparts_spec
theorem lparts_spec (w : World) (D : Addr) (items : Array Value) (c : Nat) (os : List Int) (bits : Int) (tbi : Tok) (hi : IntsAre items.toList os) (hw : Within 256 os) (hl : os.length ≤ 64) (hbits : bits ∈ [1, 2, 4, 8, 16]) :
    Spec w 268 [.ref D, .int bits tbi] [(D, listOf items c)] 2 (fun r o => ∃ ret, o = ret ++ [(D, listOf items c)] ∧ (∀ p ∈ ret, ∀ q ∈ [(D, listOf items c)], p.1 ≠ q.1) ∧ ∃ G ys, r = .ref G ∧ ret = [(G, LCg.lst ys)] ∧ IntsAre ys (lpartsL os bits)) :=
  Spec.mk fun t => hk_all H_lparts_spec.hkN H_lparts_spec.hkU (by with_unfolding_all exact H_lparts_spec.core) (((w, D), (items, c)), ((os, bits), (tbi, t))) hi hw hl hbits
end
section
set_option maxHeartbeats 8000000
theorem kwL31 : True := by
  exact True.intro
theorem kwL32 : True := by
  k_with "binaryOp Add ref ref" => (k_here; (with_reducible show wpAny _ _ (binaryOp _ (Value.ref _) (Value.ref _)) _ _ _); k_dflt (refine' addLK ?qqzF ?qqzN ?qqza ?qqzb ?qqzi ?qqzj ?qqzz ?_; (case qqzF => k_asm); (case qqzN => k_asm); (case qqza => k_mem); (case qqzb => k_mem); (case qqzi => assumption); (case qqzj => assumption); (case qqzz => (simp only [List.length_append, List.length_map, List.length_range, List.length_drop, List.length_cons, List.length_nil]; lia))); intro _ _ _ _ _ qql1 _; (try k_lt qql1))
  k_with "subscriptTail Name Slice ref ref" => (k_here; (with_reducible show wpAny _ _ (subscriptTail _ (PySem.Expr.Slice _ _ none _) (Value.ref _) (Value.ref _)) _ _ _); k_dflt (refine' sliceLK ?qqzF ?qqzN ?qqza ?qqzp ?qqzq ?qqzi ?qqzm ?qqzz ?_ ?qqzs ?qqzt; (case qqzF => k_asm); (case qqzN => k_asm); (case qqza => k_mem); (case qqzp => first | exact IsPart.none | exact IsPart.int _ _); (case qqzq => first | exact IsPart.none | exact IsPart.int _ _); (case qqzi => assumption); (case qqzm => first | exact kmk_from (by assumption) (by lia) | exact kmk_upto (by assumption) (by lia) | exact kmk_run (by assumption) (by lia) (by lia) | exact kmk_upto_neg (by assumption) (by lia)); (case qqzz => lia); (case qqzs => with_unfolding_all rfl); (case qqzt => kmk_pure)); intro _ _ _ _ _ qql1 _; (try k_lt qql1))
  exact True.intro
theorem IntsAre.push {its : Array Value} {ks : List Int} {k : Int} (h : IntsAre its.toList ks) (t : Tok) {k' : Int} (e : k' = k) : IntsAre (its.push (.int k' t)).toList (ks ++ [k]) := by
  subst e; rw [Array.toList_push]; exact h.append (.cons _ t .nil)
theorem kwL33 : True := by
  k_with "call ref" => ((with_reducible show wpAny _ _ (call (Value.ref 268) [Value.ref _, Value.int _ _]) _ _ _); k_dflt (refine' Spec.useP (own := [(_, listOf _ _)]) (lparts_spec _ _ _ _ _ _ _ ?qqp1 ?qqp2 ?qqp3 ?qqp4) ?qqB ?qqF ?qqX ?qqN ?qqhs ?qqT ?qqhk ?qqhd ?qqhu ?_; (case qqB => k_asm); (case qqF => k_asm); (case qqX => k_asm); (case qqN => k_asm); (case qqhs => first | exact List.forall_mem_nil _ | (refine List.forall_mem_singleton.mpr ?_; k_mem) | (refine List.forall_mem_cons.mpr ⟨?_, List.forall_mem_singleton.mpr ?_⟩ <;> k_mem)); (case qqT => k_asm); (case qqhk => exact rfl); (case qqhd => ktr_room); (case qqhu => ktr_units); (case qqp1 => with_reducible assumption); (case qqp2 => with_reducible assumption); (case qqp3 => lia); (case qqp4 => with_reducible assumption); k_whole); intro _ _ _ _ qqhR9 _ qqN9 qqD9; obtain ⟨_, _, qqe1, qqe2, _⟩ := qqhR9; subst qqe1; subst qqe2; (try simp only [List.nil_append, List.cons_append] at qqN9); (try (replace qqD9 := NeAll.of (List.forall_mem_singleton.mp qqD9); simp only [NeAll, and_true] at qqD9)))
  exact True.intro
noncomputable def ldiffAt (ps : List Int) (colors bits : Int) (i : Nat) : Int := (ps.getD i 0 - (if colors ≤ (i : Int) then ps.getD ((i : Int) - colors).toNat 0 else 0)) % 2 ^ bits.toNat
noncomputable def ldiffL (ps : List Int) (colors bits : Int) : List Int := (List.range ps.length).map (ldiffAt ps colors bits)
noncomputable def loctAt (W whole : Int) (k : Int) : Int := W.fdiv (256 ^ (whole - 1 - k).toNat) % 256
noncomputable def ldiffs (os : List Int) (colors bits : Int) : List Int :=
  (List.range ((bits * ((lpartsL os bits).length : Int)).fdiv 8).toNat).map (fun (k : Nat) => loctAt (num (2 ^ bits.toNat) (ldiffL (lpartsL os bits) colors bits)) ((bits * ((lpartsL os bits).length : Int)).fdiv 8) k) ++ os.drop ((bits * ((lpartsL os bits).length : Int)).fdiv 8).toNat
namespace H_ldiffs_spec
abbrev hkD : Type := ((((World × Addr) × (Array Value)) × (Nat × (List Int))) × (((Int × Int) × Tok) × (Tok × Tele)))
def hkP (w : World) (D : Addr) (items : Array Value) (c : Nat) (os : List Int) (colors : Int) (bits : Int) (tc : Tok) (tbi : Tok) (hkT : Tele) : Prop := ∀ (hi : IntsAre items.toList os) (hw : Within 256 os) (hl : os.length ≤ 64) (hbits : bits ∈ [1, 2, 4, 8, 16]) (hcol : 1 ≤ colors ∧ colors ≤ 4), SpecAt w 273 [.ref D, .int colors tc, .int bits tbi] [(D, listOf items c)] 3 (fun r o => ∃ ret, o = ret ++ [(D, listOf items c)] ∧ (∀ p ∈ ret, ∀ q ∈ [(D, listOf items c)], p.1 ≠ q.1) ∧ ∃ G ys, r = .ref G ∧ ret = [(G, listOf (List.toArray ys) 0)] ∧ IntsAre ys (ldiffs os colors bits)) hkT
def hkU (d : hkD) : Prop := hkP d.1.1.1.1 d.1.1.1.2 d.1.1.2 d.1.2.1 d.1.2.2 d.2.1.1.1 d.2.1.1.2 d.2.1.2 d.2.2.1 d.2.2.2
theorem hkN : Nonempty hkD := (ne2 (ne2 (ne2 (ne2 neWorld ⟨default⟩) ⟨default⟩) (ne2 ⟨default⟩ ⟨default⟩)) (ne2 (ne2 (ne2 ⟨default⟩ ⟨default⟩) ⟨default⟩) (ne2 ⟨default⟩ neTele)))
@[irreducible] def hkV : hkD := hk_c hkN hkU
@[irreducible] def w : World := hkV.1.1.1.1
@[irreducible] def D : Addr := hkV.1.1.1.2
@[irreducible] def items : Array Value := hkV.1.1.2
@[irreducible] def c : Nat := hkV.1.2.1
@[irreducible] def os : List Int := hkV.1.2.2
@[irreducible] def colors : Int := hkV.2.1.1.1
@[irreducible] def bits : Int := hkV.2.1.1.2
@[irreducible] def tc : Tok := hkV.2.1.2
@[irreducible] def tbi : Tok := hkV.2.2.1
@[irreducible] def hkT : Tele := hkV.2.2.2
@[irreducible] def g : Heap := hideAll hkT.s.heap (([(D, listOf items c)] : List (Addr × Obj)).map (·.1))
def L' : Addr := hkT.s.heap.objs.size
theorem g_e : g = hideAll hkT.s.heap (([(D, listOf items c)] : List (Addr × Obj)).map (·.1)) := by delta g; exact rfl
theorem L_e : L' = hkT.s.heap.objs.size := rfl
theorem core : hkP w D items c os colors bits tc tbi hkT := by
  unfold hkP SpecAt
  intro hi hw hl hbits hcol
  obtain ⟨_, _⟩ := id hcol
  intro B F X N Nr hdis T hk hd hu hret
  refine wpAny_call ?_
  k_dflt (refine' enterC0 g L' g_e L_e (binds := [(Str.ofString "row", .ref D), (Str.ofString "colors", .int colors tc), (Str.ofString "bits", .int bits tbi)]) B F X N Nr hdis T rfl rfl hk ?k6 ?k7 ?k8 ?k9 ?kB ?kD ?_ ?c2 ?c3 ?c4; (case k6 => k_is); (case k7 => k_is); (case k8 => ktr_room); (case k9 => exact BindsTo.of_eq rfl); (case kB => exact rfl); (case kD => decide +kernel); (case c2 => exact rfl); (case c3 => exact rfl); (case c4 => exact rfl); k_whole)
  intro h' tk' cells' FG F' N' Y' B' X' T' l1
  k_cells Y'
  (try simp only [List.cons_append, List.nil_append] at N')
  try dsimp only
  try k_lift B'
  try k_fold
  k_lt l1
  obtain ⟨m0, m1, m2, m3, m4, m5⟩ := many_bits (n := 8 * os.length) hbits (by lia)
  k_steps
  all_goals (try dsimp only)
  have qqD9 := True.intro; have qqN9 := True.intro; have qql1 := True.intro
  rename_i P0 ps0 hI D9 hh5 tk0 T0 hh4 lt1 U0 hh3 lt2 hh2 hh1 hh0 ob FF NN dd
  have hlen : ps0.length = (lpartsL os bits).length := hI.length
  have hlp : ((lpartsL os bits).length : Int) = (8 * (os.length : Int)).fdiv bits := by simp only [lpartsL, List.length_map, List.length_range]; lia
  generalize hps : lpartsL os bits = ps at hI hlen hlp
  refine aEnumL [Str.ofString "k", Str.ofString "part"] (l := P0) (items := ps0.toArray) (c := ps0.length) (fun i _ nw => ∃ its cc oW oN t, nw = [(T0, listOf its cc), (L' + 1 + 1, oW), (L' + 1, oN), (D, listOf items c)] ∧ oW.data = .cell none ∧ oN.data = .cell (some (.int 0 t)) ∧ IntsAre its.toList ((ldiffL ps colors bits).take i))
    (.head _) rfl rfl rfl rfl (by k_asm) (news_sub (l' := (P0, LCg.lst ps0) :: [(T0, listOf #[] 0), (L' + 1 + 1, _), (L' + 1, ob), (D, listOf items c)]) (by k_asm) (by first | k_sub | fail)) (by rw [filt_rest (by first | k_all | fail)]; exact ⟨#[], _, _, _, _, rfl, by assumption, by assumption, .nil⟩) ?_ ?_
  · rintro i v t0 u nw h2 tk2 own hi2 hv ⟨its, cc, oW, oN, tn, rfl, dW, dN, hys⟩ _ hoff hown F2 N2
    (first | refine nGen fun Qv Ev hQ _ => ?_ | refine aGen fun Qv Ev hQ _ => ?_); (try dsimp only at hQ); (try dsimp only)
    have hi' : i < ps.length := by simpa [hlen] using hi2
    obtain ⟨tv, hx⟩ := hI.get i ps[i] (by simp [hi'])
    have hv' : v = .int ps[i] tv := by
      rw [List.getElem?_toArray] at hv; rw [hv] at hx; exact Option.some.inj hx
    subst hv'
    have hgd : ps.getD i 0 = ps[i] := by rw [List.getD_eq_getElem?_getD, List.getElem?_eq_getElem hi']; rfl
    replace N2 := news_sub (l' := (P0, LCg.lst ps0) :: (T0, listOf its cc) :: (L' + 1 + 1, oW) :: (L' + 1, oN) :: (D, listOf items c) :: own) N2 (fun p hp => by
      rcases List.mem_cons.mp hp with rfl | hp
      · exact List.mem_append_right _ hown
      · exact hp)
    have hst : (ldiffL ps colors bits).take (i + 1) = (ldiffL ps colors bits).take i ++ [ldiffAt ps colors bits i] := by
      rw [List.take_add_one]; simp [ldiffL, hi']
    have hpw : (0 : Int) ≤ 2 ^ bits.toNat := Int.le_of_lt (Int.pow_pos (by decide))
    k_steps
    all_goals (try dsimp only)
    all_goals refine StepEnd.introQ hQ (news' := [(T0, _), (L' + 1 + 1, oW), (L' + 1, oN), (D, listOf items c)]) (by k_asm) (news_sub (by k_asm) (fun p hp => List.mem_cons_of_mem _ hp)) (by exact off_same hoff rfl) ?_ ⟨_, _, _, _, _, rfl, dW, dN, hst ▸ (IntsAre.push hys _ ?_)⟩
    · skip
      intro z hz
      have hz' := not_stored hz
      simp only [List.forall_mem_cons, List.forall_mem_nil, and_true] at hz'
      simp only [hz', hz, if_false, Bool.false_eq_true]
    · rw [ldiffAt, hgd, if_pos (by assumption), Int.fmod_eq_emod_of_nonneg _ hpw]
    · skip
      intro z hz
      have hz' := not_stored hz
      simp only [List.forall_mem_cons, List.forall_mem_nil, and_true] at hz'
      simp only [hz', hz, if_false, Bool.false_eq_true]
    · rw [ldiffAt, hgd, if_neg (by lia), Int.fmod_eq_emod_of_nonneg _ hpw]
  · rintro h2 tk2 u nw F2 N2 ⟨its, cc, oW, oN, tn, rfl, dW, dN, hys⟩ _
    dsimp only
    have hsz : ps0.toArray.size = ps.length := by simpa using hlen
    have hdl : (ldiffL ps colors bits).length = ps.length := by simp [ldiffL]
    rw [hsz, List.take_of_length_le (by lia)] at hys
    have hdin : ∀ d ∈ ldiffL ps colors bits, 0 ≤ d ∧ d < 2 ^ bits.toNat := fun d hd => by
      obtain ⟨j, _, rfl⟩ := List.mem_map.mp hd
      exact ⟨Int.emod_nonneg _ (pow2_ne _), Int.emod_lt_of_pos _ (Int.pow_pos (by decide))⟩
    have hbn : (bits.toNat : Int) = bits := Int.toNat_of_nonneg (by lia)
    have hdN : (ldiffL ps colors bits).length * bits.toNat ≤ 512 := by
      have : (((ldiffL ps colors bits).length * bits.toNat : Nat) : Int) ≤ 512 := by rw [hdl]; push_cast; rw [hbn, hlp]; lia
      lia
    have hb2 : Big (2 ^ bits.toNat) := big_pow (by lia)
    generalize hds : ldiffL ps colors bits = ds at hys hdl hdin hdN
    k_steps
    all_goals (try dsimp only)
    refine aList [Str.ofString "part"] (l := T0) (items := its) (c := cc) (fun i _ nw => ∃ oW oN t, nw = [(P0, LCg.lst ps0), (L' + 1 + 1, oW), (L' + 1, oN), (D, listOf items c)] ∧ oW.data = .cell none ∧ oN.data = .cell (some (.int (num (2 ^ bits.toNat) (ds.take i)) t)))
      (news := (T0, listOf its cc) :: [(P0, LCg.lst ps0), (L' + 1 + 1, oW), (L' + 1, oN), (D, listOf items c)]) (.head _) rfl rfl rfl (by k_asm) (news_sub (by k_asm) (by first | k_sub | fail)) (by rw [filt_rest (by first | k_all | fail)]; exact ⟨_, _, _, rfl, by assumption, by assumption⟩) ?_ ?_
    · rintro i v u nw h2 tk2 own hi2 hg ⟨oW, oN, tn, rfl, dW, dN⟩ _ hoff hown F2 N2
      (first | refine nGen fun Qv Ev hQ _ => ?_ | refine aGen fun Qv Ev hQ _ => ?_); (try dsimp only at hQ); (try dsimp only)
      have hi' : i < ds.length := by have := hys.length; rw [Array.length_toList] at this; lia
      obtain ⟨tv, hx⟩ := hys.get i ds[i] (by simp [hi'])
      have hv' : v = .int ds[i] tv := by
        rw [Array.getElem?_toList, hg] at hx; exact Option.some.inj hx
      subst hv'
      have hp := hdin ds[i] (List.getElem_mem hi')
      have hbig : Big (num (2 ^ bits.toNat) (ds.take i)) := numB_big (fun d hd => hdin d (List.mem_of_mem_take hd)) (by
        rw [List.length_take]
        have := Nat.mul_le_mul_right bits.toNat (Nat.min_le_right i ds.length)
        lia)
      have hor : num (2 ^ bits.toNat) (ds.take i) * 2 ^ bits.toNat + ds[i] = num (2 ^ bits.toNat) (ds.take (i + 1)) := by
        rw [List.take_add_one, List.getElem?_eq_getElem hi', Option.toList_some, num_snoc]
      simp only [List.cons_append, List.nil_append] at N2
      k_steps
      all_goals (try dsimp only)
      refine StepEnd.introQ hQ (news' := [(P0, LCg.lst ps0), (L' + 1 + 1, oW), (L' + 1, _), (D, listOf items c)]) (by k_asm) (by k_asm) (by exact off_same hoff rfl) ?_ ⟨_, _, _, rfl, dW, by rw [← hor]; assumption⟩
      intro z hz
      have hz' := not_stored hz
      simp only [List.forall_mem_cons, List.forall_mem_nil, and_true] at hz'
      simp only [hz', hz, if_false, Bool.false_eq_true]
    · rintro h2 tk2 u nw F2 N2 ⟨oW, oN, tn, rfl, dW, dN⟩ _
      dsimp only
      have hsz : its.size = ds.length := by rw [← Array.length_toList]; exact hys.length
      rw [hsz, List.take_length] at dN
      have hbig : Big (num (2 ^ bits.toNat) ds) := numB_big hdin (by lia)
      have hpb : bits * (ps.length : Int) = (8 * (os.length : Int)).fdiv bits * bits := by rw [hlp, Int.mul_comm]
      have hpb0 : 0 ≤ bits * (ps.length : Int) := Int.mul_nonneg (by lia) (by lia)
      have hM : (bits * (ps.length : Int)).fdiv 8 = (bits * (ps.length : Int)) / 8 := Int.fdiv_eq_ediv_of_nonneg _ (by decide)
      k_steps
      all_goals (try dsimp only)
      refine CompAt.rangeS (S := fun _ => True) rfl (by k_asm) (by k_asm) (by assumption) (small_one (by lia) (by lia) (by lia) (by lia)) (rangeSize_nat _ _) (by lia) rfl trivial fun g' => comp_ints (fun x => loctAt (num (2 ^ bits.toNat) ds) ((bits * (ps.length : Int)).fdiv 8) x) (by simp) trivial (fun i v _ h => h) (fun i k t I oI C oC D m₂ ys h tk E' hi hk hC hx F N off ne => ?_) ?_
      · have hki : k = (i : Int) := by
          simp only [List.getElem?_map, List.getElem?_range hi, Option.map_some, Option.some.injEq] at hk
          lia
        subst hki
        k_steps
        all_goals (try dsimp only)
        refine CompEl.intro (by k_asm) (by k_asm) ?_
        rw [Int.fmod_eq_emod_of_nonneg _ (by decide : (0 : Int) ≤ 256)]; rfl
      · intro ys hys
        k_steps
        all_goals (try dsimp only)
        have qqD9 := True.intro; have qqN9 := True.intro; have qql1 := True.intro
        rename_i G9 ws9 hh9 FF9 NN9 hI9 lt9
        refine leaveR_ (own' := [(G9, listOf ws9.toArray 0), (D, listOf items c)]) (by assumption) (news_sub NN9 (by first | k_sub | fail)) (fun aF aN aD => hret _ [(G9, listOf ws9.toArray 0), (D, listOf items c)] _ _ aF aN aD ⟨[(G9, listOf ws9.toArray 0)], rfl, List.forall_mem_singleton.mpr (by first | k_all | fail), _, _, rfl, rfl, ?_⟩)
        rw [List.map_map] at hI9
        refine (congrArg (IntsAre _) ?_).mp hI9
        subst hps hds
        rw [ldiffs, Int.sub_zero]
        exact congrArg (· ++ _) (List.map_congr_left fun i _ => by simp only [Function.comp, Int.zero_add, Int.mul_one])
end H_ldiffs_spec
theorem ldiffs_spec (w : World) (D : Addr) (items : Array Value) (c : Nat) (os : List Int) (colors bits : Int) (tc tbi : Tok) (hi : IntsAre items.toList os) (hw : Within 256 os) (hl : os.length ≤ 64) (hbits : bits ∈ [1, 2, 4, 8, 16]) (hcol : 1 ≤ colors ∧ colors ≤ 4) :
    Spec w 273 [.ref D, .int colors tc, .int bits tbi] [(D, listOf items c)] 3 (fun r o => ∃ ret, o = ret ++ [(D, listOf items c)] ∧ (∀ p ∈ ret, ∀ q ∈ [(D, listOf items c)], p.1 ≠ q.1) ∧ ∃ G ys, r = .ref G ∧ ret = [(G, listOf (List.toArray ys) 0)] ∧ IntsAre ys (ldiffs os colors bits)) :=
  Spec.mk fun t => hk_all H_ldiffs_spec.hkN H_ldiffs_spec.hkU (by with_unfolding_all exact H_ldiffs_spec.core) ((((w, D), items), (c, os)), (((colors, bits), tc), (tbi, t))) hi hw hl hbits hcol
end
section
set_option maxHeartbeats 8000000
section
variable {M : Model} {A : Around} {E : Value → Shared → Prop} {h : Heap} {g : Array GenState} {d : Drawn} {t : Nat} {os : OsState}
variable {nm q : Str} {C N : Addr} {bs bm bmB : List Value} {hdct : Bool} {sn : List Str} {sub : List Value} {ab : Bool} {col : Option Bool} {dd : Option Addr} {k0 k1 k2 k3 k5 : Option Value} {B newId initId : String}
end
section
namespace H_xCheck
abbrev hkD : Type := (((((Model × Around) × ((Value → Shared → Prop) × Heap)) × (((Array GenState) × Drawn) × (Nat × OsState))) × (((Str × Str) × (Addr × Addr)) × (((List Value) × (List Value)) × (List Value)))) × ((((Bool × (List Str)) × ((List Value) × Bool)) × (((Option Bool) × (Option Addr)) × ((Option Value) × (Option Value)))) × ((((Option Value) × (Option Value)) × ((Option Value) × String)) × ((String × String) × (List Value)))))
def hkP (M : Model) (A : Around) (E : Value → Shared → Prop) (h : Heap) (g : Array GenState) (d : Drawn) (t : Nat) (os : OsState) (nm : Str) (q : Str) (C : Addr) (N : Addr) (bs : List Value) (bm : List Value) (bmB : List Value) (hdct : Bool) (sn : List Str) (sub : List Value) (ab : Bool) (col : Option Bool) (dd : Option Addr) (k0 : Option Value) (k1 : Option Value) (k2 : Option Value) (k3 : Option Value) (k5 : Option Value) (B : String) (newId : String) (initId : String) (rest : List Value) : Prop := ∀ (F : ExcBaseFacts B newId initId bmB) (hc : ∀ X : String, bm.contains (.type X) = bmB.contains (.type X)) (Q : Unit → Shared → Prop) (hC : h.get? C = some (excClassObj nm q C N bs bm hdct sn sub ab col dd k0 k1 k2 k3 k5 newId)) (hq : Q () ⟨h, g, d, t, os⟩), wpAny M A (checkBuiltinCall newId ⟨.ref C :: rest, []⟩) Q E ⟨h, g, d, t, os⟩
def hkU (d : hkD) : Prop := hkP d.1.1.1.1.1 d.1.1.1.1.2 d.1.1.1.2.1 d.1.1.1.2.2 d.1.1.2.1.1 d.1.1.2.1.2 d.1.1.2.2.1 d.1.1.2.2.2 d.1.2.1.1.1 d.1.2.1.1.2 d.1.2.1.2.1 d.1.2.1.2.2 d.1.2.2.1.1 d.1.2.2.1.2 d.1.2.2.2 d.2.1.1.1.1 d.2.1.1.1.2 d.2.1.1.2.1 d.2.1.1.2.2 d.2.1.2.1.1 d.2.1.2.1.2 d.2.1.2.2.1 d.2.1.2.2.2 d.2.2.1.1.1 d.2.2.1.1.2 d.2.2.1.2.1 d.2.2.1.2.2 d.2.2.2.1.1 d.2.2.2.1.2 d.2.2.2.2
theorem hkN : Nonempty hkD := (ne2 (ne2 (ne2 (ne2 (ne2 neModel neAround) (ne2 ⟨default⟩ ⟨default⟩)) (ne2 (ne2 ⟨default⟩ ⟨({} : Drawn)⟩) (ne2 ⟨default⟩ neOs))) (ne2 (ne2 (ne2 ⟨default⟩ ⟨default⟩) (ne2 ⟨default⟩ ⟨default⟩)) (ne2 (ne2 ⟨default⟩ ⟨default⟩) ⟨default⟩))) (ne2 (ne2 (ne2 (ne2 ⟨default⟩ ⟨default⟩) (ne2 ⟨default⟩ ⟨default⟩)) (ne2 (ne2 ⟨default⟩ ⟨default⟩) (ne2 ⟨default⟩ ⟨default⟩))) (ne2 (ne2 (ne2 ⟨default⟩ ⟨default⟩) (ne2 ⟨default⟩ ⟨default⟩)) (ne2 (ne2 ⟨default⟩ ⟨default⟩) ⟨default⟩))))
@[irreducible] def hkV : hkD := hk_c hkN hkU
@[irreducible] def M : Model := hkV.1.1.1.1.1
@[irreducible] def A : Around := hkV.1.1.1.1.2
@[irreducible] def E : Value → Shared → Prop := hkV.1.1.1.2.1
@[irreducible] def h : Heap := hkV.1.1.1.2.2
@[irreducible] def g : Array GenState := hkV.1.1.2.1.1
@[irreducible] def d : Drawn := hkV.1.1.2.1.2
@[irreducible] def t : Nat := hkV.1.1.2.2.1
@[irreducible] def os : OsState := hkV.1.1.2.2.2
@[irreducible] def nm : Str := hkV.1.2.1.1.1
@[irreducible] def q : Str := hkV.1.2.1.1.2
@[irreducible] def C : Addr := hkV.1.2.1.2.1
@[irreducible] def N : Addr := hkV.1.2.1.2.2
@[irreducible] def bs : List Value := hkV.1.2.2.1.1
@[irreducible] def bm : List Value := hkV.1.2.2.1.2
@[irreducible] def bmB : List Value := hkV.1.2.2.2
@[irreducible] def hdct : Bool := hkV.2.1.1.1.1
@[irreducible] def sn : List Str := hkV.2.1.1.1.2
@[irreducible] def sub : List Value := hkV.2.1.1.2.1
@[irreducible] def ab : Bool := hkV.2.1.1.2.2
@[irreducible] def col : Option Bool := hkV.2.1.2.1.1
@[irreducible] def dd : Option Addr := hkV.2.1.2.1.2
@[irreducible] def k0 : Option Value := hkV.2.1.2.2.1
@[irreducible] def k1 : Option Value := hkV.2.1.2.2.2
@[irreducible] def k2 : Option Value := hkV.2.2.1.1.1
@[irreducible] def k3 : Option Value := hkV.2.2.1.1.2
@[irreducible] def k5 : Option Value := hkV.2.2.1.2.1
@[irreducible] def B : String := hkV.2.2.1.2.2
@[irreducible] def newId : String := hkV.2.2.2.1.1
@[irreducible] def initId : String := hkV.2.2.2.1.2
@[irreducible] def rest : List Value := hkV.2.2.2.2
theorem core : hkP M A E h g d t os nm q C N bs bm bmB hdct sn sub ab col dd k0 k1 k2 k3 k5 B newId initId rest := by
  unfold hkP
  intro F hc Q hC hq
  have hcont : (Value.ref C :: bm).contains (.type B) = true := by rw [List.contains_cons, hc, F.hasB, Bool.or_true]
  have hstar := F.noStar
  simp only [checkBuiltinCall, F.newKind, F.newSplit, F.newRow]
  repeat (first | refine wpAny_loadPart_at hC ?_ | (refine wpAny_isSubtype_exc hC ?_; rw [hcont]) | refine wpAny_staticBase_exc hC ?_ | refine wpAny_madeBy_exc hC ?_ | simp only [bne_self_eq_false, Bool.false_eq_true, if_false] | wp_step)
  exact hq
end H_xCheck
end
section
variable {M : Model} {A : Around} {E : Value → Shared → Prop} {h : Heap} {g : Array GenState} {d : Drawn} {t : Nat} {os : OsState}
variable {nm q : Str} {C N : Addr} {bs bm bmB : List Value} {hdct : Bool} {sn : List Str} {sub : List Value} {ab : Bool} {col : Option Bool} {dd : Option Addr} {k0 k1 k2 k3 k5 : Option Value} {B newId initId : String}
theorem xCheck (F : ExcBaseFacts B newId initId bmB) (hc : ∀ X : String, bm.contains (.type X) = bmB.contains (.type X)) {rest : List Value} {Q : Unit → Shared → Prop} (hC : h.get? C = some (excClassObj nm q C N bs bm hdct sn sub ab col dd k0 k1 k2 k3 k5 newId))
    (hq : Q () ⟨h, g, d, t, os⟩) : wpAny M A (checkBuiltinCall newId ⟨.ref C :: rest, []⟩) Q E ⟨h, g, d, t, os⟩ :=
  hk_all H_xCheck.hkN H_xCheck.hkU (by with_unfolding_all exact H_xCheck.core) (((((M, A), (E, h)), ((g, d), (t, os))), (((nm, q), (C, N)), ((bs, bm), bmB))), ((((hdct, sn), (sub, ab)), ((col, dd), (k0, k1))), (((k2, k3), (k5, B)), ((newId, initId), rest)))) F hc Q hC hq
end
noncomputable abbrev excRaw (C t : Addr) : Obj := { cls := .ref C, data := .fields #[.ref t, .none, .none, .none, .bool false, .none] }
noncomputable abbrev excTup (rest : List Value) : Obj := { cls := .type "tuple", data := .seq rest.toArray }
section
variable {prog : Program} {w : World} {A : Around} {R : Result → Shared → Prop} {h : Heap} {g : Array GenState} {d : Drawn} {t : Nat} {os : OsState} {K : Frag} {fI : Addr}
variable {nm q : Str} {C N : Addr} {bs bm bmB : List Value} {hdct : Bool} {sn : List Str} {sub : List Value} {ab : Bool} {col : Option Bool} {dd : Option Addr} {k0 k1 k2 k3 k5 : Option Value} {B newId initId : String}
end
section
namespace H_xNew
abbrev hkD : Type := (((((Program × World) × (Around × (Result → Shared → Prop))) × ((Heap × (Array GenState)) × (Drawn × Nat))) × (((OsState × Str) × (Str × Addr)) × ((Addr × (List Value)) × ((List Value) × (List Value))))) × ((((Bool × (List Str)) × ((List Value) × Bool)) × (((Option Bool) × (Option Addr)) × ((Option Value) × (Option Value)))) × ((((Option Value) × (Option Value)) × ((Option Value) × String)) × ((String × String) × (List Value)))))
def hkP (prog : Program) (w : World) (A : Around) (R : Result → Shared → Prop) (h : Heap) (g : Array GenState) (d : Drawn) (t : Nat) (os : OsState) (nm : Str) (q : Str) (C : Addr) (N : Addr) (bs : List Value) (bm : List Value) (bmB : List Value) (hdct : Bool) (sn : List Str) (sub : List Value) (ab : Bool) (col : Option Bool) (dd : Option Addr) (k0 : Option Value) (k1 : Option Value) (k2 : Option Value) (k3 : Option Value) (k5 : Option Value) (B : String) (newId : String) (initId : String) (rest : List Value) : Prop := ∀ (F : ExcBaseFacts B newId initId bmB) (hc : ∀ X : String, bm.contains (.type X) = bmB.contains (.type X)) (hC : h.get? C = some (excClassObj nm q C N bs bm hdct sn sub ab col dd k0 k1 k2 k3 k5 newId)) (hq : R (.ok (.ret (.ref (h.objs.size + 1)))) ⟨(h.push (excTup rest)).push (excRaw C h.objs.size), g, d, t, os⟩) (hrest : rest.length ≤ sizeLine), codeAny (model prog w) A (.builtin newId ⟨.ref C :: rest, []⟩) R ⟨h, g, d, t, os⟩
def hkU (d : hkD) : Prop := hkP d.1.1.1.1.1 d.1.1.1.1.2 d.1.1.1.2.1 d.1.1.1.2.2 d.1.1.2.1.1 d.1.1.2.1.2 d.1.1.2.2.1 d.1.1.2.2.2 d.1.2.1.1.1 d.1.2.1.1.2 d.1.2.1.2.1 d.1.2.1.2.2 d.1.2.2.1.1 d.1.2.2.1.2 d.1.2.2.2.1 d.1.2.2.2.2 d.2.1.1.1.1 d.2.1.1.1.2 d.2.1.1.2.1 d.2.1.1.2.2 d.2.1.2.1.1 d.2.1.2.1.2 d.2.1.2.2.1 d.2.1.2.2.2 d.2.2.1.1.1 d.2.2.1.1.2 d.2.2.1.2.1 d.2.2.1.2.2 d.2.2.2.1.1 d.2.2.2.1.2 d.2.2.2.2
theorem hkN : Nonempty hkD := (ne2 (ne2 (ne2 (ne2 (ne2 neProg neWorld) (ne2 neAround ⟨default⟩)) (ne2 (ne2 ⟨default⟩ ⟨default⟩) (ne2 ⟨({} : Drawn)⟩ ⟨default⟩))) (ne2 (ne2 (ne2 neOs ⟨default⟩) (ne2 ⟨default⟩ ⟨default⟩)) (ne2 (ne2 ⟨default⟩ ⟨default⟩) (ne2 ⟨default⟩ ⟨default⟩)))) (ne2 (ne2 (ne2 (ne2 ⟨default⟩ ⟨default⟩) (ne2 ⟨default⟩ ⟨default⟩)) (ne2 (ne2 ⟨default⟩ ⟨default⟩) (ne2 ⟨default⟩ ⟨default⟩))) (ne2 (ne2 (ne2 ⟨default⟩ ⟨default⟩) (ne2 ⟨default⟩ ⟨default⟩)) (ne2 (ne2 ⟨default⟩ ⟨default⟩) ⟨default⟩))))
@[irreducible] def hkV : hkD := hk_c hkN hkU
@[irreducible] def prog : Program := hkV.1.1.1.1.1
@[irreducible] def w : World := hkV.1.1.1.1.2
@[irreducible] def A : Around := hkV.1.1.1.2.1
@[irreducible] def R : Result → Shared → Prop := hkV.1.1.1.2.2
@[irreducible] def h : Heap := hkV.1.1.2.1.1
@[irreducible] def g : Array GenState := hkV.1.1.2.1.2
@[irreducible] def d : Drawn := hkV.1.1.2.2.1
@[irreducible] def t : Nat := hkV.1.1.2.2.2
@[irreducible] def os : OsState := hkV.1.2.1.1.1
@[irreducible] def nm : Str := hkV.1.2.1.1.2
@[irreducible] def q : Str := hkV.1.2.1.2.1
@[irreducible] def C : Addr := hkV.1.2.1.2.2
@[irreducible] def N : Addr := hkV.1.2.2.1.1
@[irreducible] def bs : List Value := hkV.1.2.2.1.2
@[irreducible] def bm : List Value := hkV.1.2.2.2.1
@[irreducible] def bmB : List Value := hkV.1.2.2.2.2
@[irreducible] def hdct : Bool := hkV.2.1.1.1.1
@[irreducible] def sn : List Str := hkV.2.1.1.1.2
@[irreducible] def sub : List Value := hkV.2.1.1.2.1
@[irreducible] def ab : Bool := hkV.2.1.1.2.2
@[irreducible] def col : Option Bool := hkV.2.1.2.1.1
@[irreducible] def dd : Option Addr := hkV.2.1.2.1.2
@[irreducible] def k0 : Option Value := hkV.2.1.2.2.1
@[irreducible] def k1 : Option Value := hkV.2.1.2.2.2
@[irreducible] def k2 : Option Value := hkV.2.2.1.1.1
@[irreducible] def k3 : Option Value := hkV.2.2.1.1.2
@[irreducible] def k5 : Option Value := hkV.2.2.1.2.1
@[irreducible] def B : String := hkV.2.2.1.2.2
@[irreducible] def newId : String := hkV.2.2.2.1.1
@[irreducible] def initId : String := hkV.2.2.2.1.2
@[irreducible] def rest : List Value := hkV.2.2.2.2
theorem core : hkP prog w A R h g d t os nm q C N bs bm bmB hdct sn sub ab col dd k0 k1 k2 k3 k5 B newId initId rest := by
  unfold hkP
  intro F hc hC hq hrest
  have hends := F.ends
  have hcB : (Value.ref C :: bm).contains (.type B) = true := by rw [List.contains_cons, hc, F.hasB, Bool.or_true]
  have hcA : (Value.ref C :: bm).contains (.type "AttributeError") = false := by rw [List.contains_cons, hc, F.noAttr]; rfl
  have hcN : (Value.ref C :: bm).contains (.type "NameError") = false := by rw [List.contains_cons, hc, F.noName]; rfl
  refine codeAny_builtinAt F.entry ?_
  unfold Builtin.«BaseException.__new__»
  refine PySem.wpAt_bind ?_
  show PySem.wpAt _ _ _ (stack >>= _) _ _ _
  refine PySem.wpAt_bind (PySem.wpAt_stack fun p below => PySem.wpAt_of_wpAny ?_)
  wp_walk
  refine PySem.wpAt_of_wpAny ?_
  rw [F.owner]
  repeat (first | with_reducible refine wpAny_madeHere_exc F.canon hC ?_ | with_reducible refine wpAny_loadPart_at hC ?_ | (with_reducible refine wpAny_isSubtype_exc hC ?_; first | rw [hcB] | rw [hcA] | rw [hcN]) | wp_step)
  show R _ _
  rw [Heap.size_push]
  exact hq
end H_xNew
end
section
variable {prog : Program} {w : World} {A : Around} {R : Result → Shared → Prop} {h : Heap} {g : Array GenState} {d : Drawn} {t : Nat} {os : OsState} {K : Frag} {fI : Addr}
variable {nm q : Str} {C N : Addr} {bs bm bmB : List Value} {hdct : Bool} {sn : List Str} {sub : List Value} {ab : Bool} {col : Option Bool} {dd : Option Addr} {k0 k1 k2 k3 k5 : Option Value} {B newId initId : String}
theorem xNew (F : ExcBaseFacts B newId initId bmB) (hc : ∀ X : String, bm.contains (.type X) = bmB.contains (.type X)) {rest : List Value} (hC : h.get? C = some (excClassObj nm q C N bs bm hdct sn sub ab col dd k0 k1 k2 k3 k5 newId))
    (hq : R (.ok (.ret (.ref (h.objs.size + 1)))) ⟨(h.push (excTup rest)).push (excRaw C h.objs.size), g, d, t, os⟩) (hrest : rest.length ≤ sizeLine) :
    codeAny (model prog w) A (.builtin newId ⟨.ref C :: rest, []⟩) R ⟨h, g, d, t, os⟩ :=
  hk_all H_xNew.hkN H_xNew.hkU (by with_unfolding_all exact H_xNew.core) (((((prog, w), (A, R)), ((h, g), (d, t))), (((os, nm), (q, C)), ((N, bs), (bm, bmB)))), ((((hdct, sn), (sub, ab)), ((col, dd), (k0, k1))), (((k2, k3), (k5, B)), ((newId, initId), rest)))) F hc hC hq hrest
end
section
namespace H_xCall
abbrev hkD : Type := ((((((Program × World) × Around) × ((Result → Shared → Prop) × Heap)) × (((Array GenState) × Drawn) × (Nat × OsState))) × (((Frag × Addr) × (Str × Str)) × ((Addr × Addr) × ((List Value) × (List Value))))) × (((((List Value) × Bool) × ((List Str) × (List Value))) × ((Bool × (Option Bool)) × ((Option Addr) × (Option Value)))) × ((((Option Value) × (Option Value)) × ((Option Value) × (Option Value))) × ((String × String) × (String × (List Value))))))
def hkP (prog : Program) (w : World) (A : Around) (R : Result → Shared → Prop) (h : Heap) (g : Array GenState) (d : Drawn) (t : Nat) (os : OsState) (K : Frag) (fI : Addr) (nm : Str) (q : Str) (C : Addr) (N : Addr) (bs : List Value) (bm : List Value) (bmB : List Value) (hdct : Bool) (sn : List Str) (sub : List Value) (ab : Bool) (col : Option Bool) (dd : Option Addr) (k0 : Option Value) (k1 : Option Value) (k2 : Option Value) (k3 : Option Value) (k5 : Option Value) (B : String) (newId : String) (initId : String) (rest : List Value) : Prop := ∀ (F : ExcBaseFacts B newId initId bmB) (hc : ∀ X : String, bm.contains (.type X) = bmB.contains (.type X)) (hC : h.get? C = some (excClassObj nm q C N bs bm hdct sn sub ab col dd k0 k1 k2 k3 k5 newId)) (X : K.In h) (hi : findIn K (.ref C) "__init__" = some (some (.ref fI))) (hf : typeIn K (.ref fI) = some (.type "function")) (hrest : rest.length ≤ sizeLine) (hq : codeAny (model prog w) (A.under (.builtin "type.__call__" ⟨.ref C :: rest, []⟩)) (.call (.ref fI) ⟨.ref (h.objs.size + 1) :: rest, []⟩) (InitBack (h.objs.size + 1) R) ⟨(h.push (excTup rest)).push (excRaw C h.objs.size), g, d, t, os⟩), codeAny (model prog w) A (.call (.ref C) ⟨rest, []⟩) R ⟨h, g, d, t, os⟩
def hkU (d : hkD) : Prop := hkP d.1.1.1.1.1.1 d.1.1.1.1.1.2 d.1.1.1.1.2 d.1.1.1.2.1 d.1.1.1.2.2 d.1.1.2.1.1 d.1.1.2.1.2 d.1.1.2.2.1 d.1.1.2.2.2 d.1.2.1.1.1 d.1.2.1.1.2 d.1.2.1.2.1 d.1.2.1.2.2 d.1.2.2.1.1 d.1.2.2.1.2 d.1.2.2.2.1 d.1.2.2.2.2 d.2.1.1.1.1 d.2.1.1.1.2 d.2.1.1.2.1 d.2.1.1.2.2 d.2.1.2.1.1 d.2.1.2.1.2 d.2.1.2.2.1 d.2.1.2.2.2 d.2.2.1.1.1 d.2.2.1.1.2 d.2.2.1.2.1 d.2.2.1.2.2 d.2.2.2.1.1 d.2.2.2.1.2 d.2.2.2.2.1 d.2.2.2.2.2
theorem hkN : Nonempty hkD := (ne2 (ne2 (ne2 (ne2 (ne2 (ne2 neProg neWorld) neAround) (ne2 ⟨default⟩ ⟨default⟩)) (ne2 (ne2 ⟨default⟩ ⟨({} : Drawn)⟩) (ne2 ⟨default⟩ neOs))) (ne2 (ne2 (ne2 ⟨default⟩ ⟨default⟩) (ne2 ⟨default⟩ ⟨default⟩)) (ne2 (ne2 ⟨default⟩ ⟨default⟩) (ne2 ⟨default⟩ ⟨default⟩)))) (ne2 (ne2 (ne2 (ne2 ⟨default⟩ ⟨default⟩) (ne2 ⟨default⟩ ⟨default⟩)) (ne2 (ne2 ⟨default⟩ ⟨default⟩) (ne2 ⟨default⟩ ⟨default⟩))) (ne2 (ne2 (ne2 ⟨default⟩ ⟨default⟩) (ne2 ⟨default⟩ ⟨default⟩)) (ne2 (ne2 ⟨default⟩ ⟨default⟩) (ne2 ⟨default⟩ ⟨default⟩)))))
@[irreducible] def hkV : hkD := hk_c hkN hkU
@[irreducible] def prog : Program := hkV.1.1.1.1.1.1
@[irreducible] def w : World := hkV.1.1.1.1.1.2
@[irreducible] def A : Around := hkV.1.1.1.1.2
@[irreducible] def R : Result → Shared → Prop := hkV.1.1.1.2.1
@[irreducible] def h : Heap := hkV.1.1.1.2.2
@[irreducible] def g : Array GenState := hkV.1.1.2.1.1
@[irreducible] def d : Drawn := hkV.1.1.2.1.2
@[irreducible] def t : Nat := hkV.1.1.2.2.1
@[irreducible] def os : OsState := hkV.1.1.2.2.2
@[irreducible] def K : Frag := hkV.1.2.1.1.1
@[irreducible] def fI : Addr := hkV.1.2.1.1.2
@[irreducible] def nm : Str := hkV.1.2.1.2.1
@[irreducible] def q : Str := hkV.1.2.1.2.2
@[irreducible] def C : Addr := hkV.1.2.2.1.1
@[irreducible] def N : Addr := hkV.1.2.2.1.2
@[irreducible] def bs : List Value := hkV.1.2.2.2.1
@[irreducible] def bm : List Value := hkV.1.2.2.2.2
@[irreducible] def bmB : List Value := hkV.2.1.1.1.1
@[irreducible] def hdct : Bool := hkV.2.1.1.1.2
@[irreducible] def sn : List Str := hkV.2.1.1.2.1
@[irreducible] def sub : List Value := hkV.2.1.1.2.2
@[irreducible] def ab : Bool := hkV.2.1.2.1.1
@[irreducible] def col : Option Bool := hkV.2.1.2.1.2
@[irreducible] def dd : Option Addr := hkV.2.1.2.2.1
@[irreducible] def k0 : Option Value := hkV.2.1.2.2.2
@[irreducible] def k1 : Option Value := hkV.2.2.1.1.1
@[irreducible] def k2 : Option Value := hkV.2.2.1.1.2
@[irreducible] def k3 : Option Value := hkV.2.2.1.2.1
@[irreducible] def k5 : Option Value := hkV.2.2.1.2.2
@[irreducible] def B : String := hkV.2.2.2.1.1
@[irreducible] def newId : String := hkV.2.2.2.1.2
@[irreducible] def initId : String := hkV.2.2.2.2.1
@[irreducible] def rest : List Value := hkV.2.2.2.2.2
theorem core : hkP prog w A R h g d t os K fI nm q C N bs bm bmB hdct sn sub ab col dd k0 k1 k2 k3 k5 B newId initId rest := by
  unfold hkP
  intro F hc hC X hi hf hrest hq
  have f1 := tc_lookup
  have f2 := tc_bind (.ref C)
  have hT : (⟨h, g, d, t, os⟩ : Shared).TypeIs (.ref C) "type" := ⟨_, hC, rfl⟩
  refine codeAny_of_tree ?_
  show wpAny _ _ (callAny (.ref C) _) _ _ _
  repeat (any_goals (first | assumption | with_reducible refine wpAny_loadPart_at hC ?_ | wp_step))
  refine ⟨rfl, ?_⟩
  refine codeAny_call_builtin_at (Code.quiet_builtin _ (by decide +kernel)) entry_typeCall (wpAny_check_type_call_sub hC ?_)
  repeat (first | with_reducible refine wpAny_loadPart_at hC ?_ | with_reducible refine wpAny_madeBy_exc hC ?_ | wp_step)
  refine codeAny_call_builtin_code (Code.quiet_builtin _ F.quiet) (xCheck (rest := rest) F hc hC ?_)
  refine xNew (rest := rest) F hc hC ?_ hrest
  show wpAny _ _ _ _ _ _
  have k : ∀ b o, h.get? b = some o → ((h.push (excTup rest)).push (excRaw C h.objs.size)).get? b = some o := fun b o e => Heap.get?_push_of_some _ (Heap.get?_push_of_some _ e)
  have hC₁ := k _ _ hC
  have hget : ((h.push (excTup rest)).push (excRaw C h.objs.size)).get? (h.objs.size + 1) = some { cls := .ref C, data := .fields #[.ref h.objs.size, .none, .none, .none, .bool false, .none] } := by heap_get
  have hcC : (Value.ref C :: bm).contains (.ref C) = true := by simp
  unfold isInstance
  repeat (first | with_reducible refine wpAny_loadPart_at hget ?_ | (with_reducible refine wpAny_isSubtype_exc hC₁ ?_; rw [hcC]) | wp_step)
  show wpAny _ _ (typeLookup (.ref C) _) _ _ _
  refine (looks_findIn (X.keeps k) hi).here ?_
  refine wpAny_holding (wpAny_bind ((bind_fn (X.keeps k) _ hf).here ?_))
  refine wpAny_bind (wpAny_call (codeAny_mono hq fun r s' z => ?_))
  rcases r with e | (v | _ | _ | _) <;> first | exact z | exact z.elim | skip
  obtain ⟨rfl, z⟩ := z
  exact wpAny_pure (wpAny_pure z)
end H_xCall
end
section
variable {prog : Program} {w : World} {A : Around} {R : Result → Shared → Prop} {h : Heap} {g : Array GenState} {d : Drawn} {t : Nat} {os : OsState} {K : Frag} {fI : Addr}
variable {nm q : Str} {C N : Addr} {bs bm bmB : List Value} {hdct : Bool} {sn : List Str} {sub : List Value} {ab : Bool} {col : Option Bool} {dd : Option Addr} {k0 k1 k2 k3 k5 : Option Value} {B newId initId : String}
theorem xCall (F : ExcBaseFacts B newId initId bmB) (hc : ∀ X : String, bm.contains (.type X) = bmB.contains (.type X)) {rest : List Value} (hC : h.get? C = some (excClassObj nm q C N bs bm hdct sn sub ab col dd k0 k1 k2 k3 k5 newId))
    (X : K.In h) (hi : findIn K (.ref C) "__init__" = some (some (.ref fI))) (hf : typeIn K (.ref fI) = some (.type "function")) (hrest : rest.length ≤ sizeLine)
    (hq : codeAny (model prog w) (A.under (.builtin "type.__call__" ⟨.ref C :: rest, []⟩)) (.call (.ref fI) ⟨.ref (h.objs.size + 1) :: rest, []⟩) (InitBack (h.objs.size + 1) R) ⟨(h.push (excTup rest)).push (excRaw C h.objs.size), g, d, t, os⟩) :
    codeAny (model prog w) A (.call (.ref C) ⟨rest, []⟩) R ⟨h, g, d, t, os⟩ :=
  hk_all H_xCall.hkN H_xCall.hkU (by with_unfolding_all exact H_xCall.core) ((((((prog, w), A), (R, h)), ((g, d), (t, os))), (((K, fI), (nm, q)), ((C, N), (bs, bm)))), ((((bmB, hdct), (sn, sub)), ((ab, col), (dd, k0))), (((k1, k2), (k3, k5)), ((B, newId), (initId, rest))))) F hc hC X hi hf hrest hq
end
end
section
set_option maxHeartbeats 8000000
theorem xRefuse (self : Value) : refuseLoop self "__setattr__" [.type "Exception", .type "BaseException", .type "object"] = pure () := by
  first | kernel_rfl | (unfold refuseLoop; kernel_rfl)
theorem xRefuse2 (self : Value) : refuseLoop self "__setattr__" [.ref 45, .ref 32, .type "Exception", .type "BaseException", .type "object"] = pure () := by
  rw [refuseLoop_ref, refuseLoop_ref]; exact xRefuse self
noncomputable abbrev excObj (t D : Addr) : Obj := { cls := .ref 45, dict := some D, data := .fields #[.ref t, .none, .none, .none, .bool false, .none] }
noncomputable abbrev toldDict (w : World) (k : Tok) (v : Value) : Obj := dictOf [⟨PyData.keyHash w.params (Str.ofString "told"), .str (Str.ofString "told") k, v⟩] 1
section
variable {prog : Program} {w : World} {A : Around} {R : Result → Shared → Prop} {s : Shared} {e t : Addr} {v : Value} {tk : Tok}
end
section
namespace H_xSet
abbrev hkD : Type := ((((Program × World) × Around) × ((Result → Shared → Prop) × Shared)) × ((Addr × Addr) × (Value × Tok)))
def hkP (prog : Program) (w : World) (A : Around) (R : Result → Shared → Prop) (s : Shared) (e : Addr) (t : Addr) (v : Value) (tk : Tok) : Prop := ∀ (X : (Mine.hd.heap_39 w.params).In s.heap) (he : s.heap.get? e = some (excRaw 45 t)) (h : ∀ h' k, (∀ b o, b ≠ e → s.heap.get? b = some o → h'.get? b = some o) → h'.get? e = some (excObj t s.heap.objs.size) → h'.get? s.heap.objs.size = some (toldDict w k v) → s.heap.objs.size < h'.objs.size → R (.ok (.ret .none)) { s with heap := h', toks := s.toks + 1 }), codeAny (model prog w) A (.call (.builtin "object.__setattr__") ⟨[.ref e, .str (Str.ofString "told") tk, v], []⟩) R s
def hkU (d : hkD) : Prop := hkP d.1.1.1.1 d.1.1.1.2 d.1.1.2 d.1.2.1 d.1.2.2 d.2.1.1 d.2.1.2 d.2.2.1 d.2.2.2
theorem hkN : Nonempty hkD := (ne2 (ne2 (ne2 (ne2 neProg neWorld) neAround) (ne2 ⟨default⟩ neShared)) (ne2 (ne2 ⟨default⟩ ⟨default⟩) (ne2 ⟨default⟩ ⟨default⟩)))
@[irreducible] def hkV : hkD := hk_c hkN hkU
@[irreducible] def prog : Program := hkV.1.1.1.1
@[irreducible] def w : World := hkV.1.1.1.2
@[irreducible] def A : Around := hkV.1.1.2
@[irreducible] def R : Result → Shared → Prop := hkV.1.2.1
@[irreducible] def s : Shared := hkV.1.2.2
@[irreducible] def e : Addr := hkV.2.1.1
@[irreducible] def t : Addr := hkV.2.1.2
@[irreducible] def v : Value := hkV.2.2.1
@[irreducible] def tk : Tok := hkV.2.2.2
theorem core : hkP prog w A R s e t v tk := by
  unfold hkP
  intro X he h
  have SF := PySem.F.store_object
  have ty : Looks (model prog w) s.heap (typeOf (.ref e)) (.ref 45) := (Looks.ld he).andThen .now
  have hmro : mroIn (Mine.hd.heap_39 w.params) 45 (.type "object") = some true := by k_is
  have sub : Looks (model prog w) s.heap (isInstance (.ref e) (.type "object")) true := ty.andThen (looks_mroIn X hmro)
  refine codeAny_call_builtin SF.slot.plain SF.entry (@check_slot (model prog w) _ _ s "object.__setattr__" "object" "__setattr__" (.ref e) [.str (Str.ofString "told") tk, v] [] _ SF.kind SF.split sub (SF.args (.ref e) (.str (Str.ofString "told") tk) v) ?_)
  have ha : findIn (Mine.hd.heap_39 w.params) (.ref 45) (Str.ofString "told") = some none := by k_is
  obtain ⟨cd, hc, hm, hh⟩ : ∃ cd, clsIn (Mine.hd.heap_39 w.params) 45 = some cd ∧ cd.mro = [.ref 45, .ref 32, .type "Exception", .type "BaseException", .type "object"] ∧ cd.hasDict = true := ⟨_, rfl, rfl, rfl⟩
  have hmm : Looks (model prog w) s.heap (mroOf (.ref 45)) cd.mro := (looks_clsIn X hc).andThen .now
  rw [osa_eq, refuse_eq]
  refine wpAny_bind (wpAny_bind (ty.here (wpAny_bind (hmm.here ?_))))
  rw [hm, xRefuse2]
  refine wpAny_pure (wpAny_bind (ty.here (wpAny_bind ((looks_findIn X ha).here (wpAny_bind (wpAny_pure ?_))))))
  have hn0 : s.heap.objs.size ≠ e := Nat.ne_of_gt (Heap.lt_size he)
  have he1 : (s.heap.push (dictOf [] 0)).get? e = some (excRaw 45 t) := Heap.get?_push_of_some _ he
  have he2 : ((s.heap.push (dictOf [] 0)).update e fun o => { o with dict := some s.heap.objs.size }).get? e = some (excObj t s.heap.objs.size) := Heap.get?_update_self _ he1 rfl
  have D2 : ((s.heap.push (dictOf [] 0)).update e fun o => { o with dict := some s.heap.objs.size }).get? s.heap.objs.size = some (dictOf [] 0) := by
    rw [Heap.get?_update_other _ _ (Ne.symm hn0)]; exact Heap.get?_push_size _ rfl
  refine wpAny_bind (wpAny_pure (wpAny_bind (wpAny_bind (wpAny_loadPart he (wpAny_bind ((looks_clsIn X hc).here ?_))))))
  rw [hh]
  show wpAny _ _ (alloc _ >>= fun d => update e _ >>= fun _ => PySem.dictMade _ _ _) _ _ _
  refine wpAny_bind (wpAny_alloc (wpAny_bind (wpAny_update he1 (wpAny_pure ?_))))
  refine wpAny_bind (wpAny_pure (wpAny_bind ?_))
  unfold nsSet
  refine wpAny_bind (wpAny_bind (wpAny_askSetting (wpAny_pure (wpAny_bind (wpAny_mkText (wpAny_bind (wpAny_loadPart D2 ?_)))))))
  dsimp only
  rw [aRefKeyMayBeTheName_at]
  refine bm_if_false (by simp) ?_
  refine' wpAny_updatePart (o := dictOf [] 0) ?zD ?_
  case zD => exact D2
  have D3 := Heap.get?_update_self (Obj.putName (Str.ofString "told") (PyData.keyHash w.params (Str.ofString "told")) (.str (Str.ofString "told") s.toks) v) D2 rfl
  refine wpAny_bind ?_
  refine' wpAny_lookBehind (o := toldDict w s.toks v) ?zD ?zP ?_
  case zD => exact D3
  case zP => exact pastItsLine_dict (by rw [sizeLine_eq]; exact Nat.le_of_ble_eq_true rfl)
  refine wpAny_pure (h _ s.toks (fun b o hb ho => ?_) ?_ D3 ?_)
  · have hbn : s.heap.objs.size ≠ b := Nat.ne_of_gt (Heap.lt_size ho)
    rw [Heap.get?_update_other _ _ hbn, Heap.get?_update_other _ _ (Ne.symm hb)]
    exact Heap.get?_push_of_some _ ho
  · rw [Heap.get?_update_other _ _ hn0]; exact he2
  · rw [Heap.size_after_update, Heap.size_after_update, Heap.size_push]; exact Nat.lt_succ_self _
end H_xSet
end
section
variable {prog : Program} {w : World} {A : Around} {R : Result → Shared → Prop} {s : Shared} {e t : Addr} {v : Value} {tk : Tok}
theorem xSet (X : (Mine.hd.heap_39 w.params).In s.heap) (he : s.heap.get? e = some (excRaw 45 t))
    (h : ∀ h' k, (∀ b o, b ≠ e → s.heap.get? b = some o → h'.get? b = some o) → h'.get? e = some (excObj t s.heap.objs.size) → h'.get? s.heap.objs.size = some (toldDict w k v) → s.heap.objs.size < h'.objs.size → R (.ok (.ret .none)) { s with heap := h', toks := s.toks + 1 }) :
    codeAny (model prog w) A (.call (.builtin "object.__setattr__") ⟨[.ref e, .str (Str.ofString "told") tk, v], []⟩) R s :=
  hk_all H_xSet.hkN H_xSet.hkU (by with_unfolding_all exact H_xSet.core) ((((prog, w), A), (R, s)), ((e, t), (v, tk))) X he h
variable {E : Value → Shared → Prop} {h₀ : Heap} {L : Addr} {m : Str → Option Value} {r : List (Addr × Obj)} {Q : Unit → Shared → Prop}
theorem xSetAttr (F : Fr h₀ L s.heap m) (X₀ : (Mine.hd.heap_39 w.params).In h₀) (N : News h₀ L s.heap ((e, excRaw 45 t) :: r)) (hr : ∀ p ∈ r, p.1 ≠ e)
    (h : ∀ D h' k, Fr h₀ L h' m → News h₀ L h' ((D, toldDict w k v) :: (e, excObj t D) :: r) → (∀ p ∈ r, p.1 < D) → e < D → Q () { s with heap := h', toks := s.toks + 1 + 1 }) :
    wpAny (model prog w) A (setAttr (.ref e) (Str.ofString "told") v) Q E s := by
  have X := X₀.keeps F.keep
  obtain ⟨he, hLe, he0⟩ := N _ (.head _)
  have I : InstAt s.heap e (excRaw 45 t) 45 none := ⟨he, rfl, rfl, trivial⟩
  refine set_plain X I (by k_is) (xSet (s := { s with toks := s.toks + 1 }) X he fun h' k k1 k2 k3 k4 => ?_)
  have hn : h₀.get? s.heap.objs.size = none := next_is_new F
  have hLs : L ≠ s.heap.objs.size := Nat.ne_of_lt F.ns.lt
  refine h s.heap.objs.size h' k ⟨F.ns.at' fun o x => k1 _ o (Ne.symm hLe) x, fun b o x => k1 b o (fun q => by rw [q, he0] at x; cases x) (F.keep b o x), F.above⟩ (fun p hp => ?_) (fun p hp => Heap.lt_size (N p (.tail _ hp)).1) (Heap.lt_size he)
  rcases List.mem_cons.mp hp with rfl | hp
  · exact ⟨k3, Ne.symm hLs, hn⟩
  · rcases List.mem_cons.mp hp with rfl | hp
    · exact ⟨k2, hLe, he0⟩
    · have z := N p (.tail _ hp)
      exact ⟨k1 _ _ (hr p hp) z.1, z.2⟩
end
noncomputable def ToldExc (w : World) (v : Value) (r : Value) (n : List (Addr × Obj)) : Prop := ∃ e t D k ts, r = .ref e ∧ n = [(D, toldDict w k v), (e, excObj t D), (t, ts)]
theorem exc_spec (w : World) (b : Array UInt8) (tb : Tok) : Spec w 45 [.bytes b tb] [] 4 (ToldExc w (.bytes b tb)) := by
  unfold Spec
  intro mean mg mb dp un gd cn cs fa ccd cl outer A₀ base h₀ L m rest s Q E B F X N Nr hdis T hk hd hu hret
  have XX := X.keeps F.keep
  obtain ⟨hh, g, dr, tk, os⟩ := s
  have F1 : Fr h₀ L ((hh.push (excTup [.bytes b tb])).push (excRaw 45 hh.objs.size)) m := (F.push _).push _
  have N1 : News h₀ L ((hh.push (excTup [.bytes b tb])).push (excRaw 45 hh.objs.size)) ([(hh.objs.size + 1, excRaw 45 hh.objs.size), (hh.objs.size, excTup [.bytes b tb])] ++ rest) := by
    have := (Nr.push F (excTup [.bytes b tb])).push (F.push _) (excRaw 45 hh.objs.size)
    rw [Heap.size_push] at this; exact this
  have XX1 := X.keeps F1.keep
  have N2 := news_sub N1 fun p (hp : p ∈ [(hh.objs.size + 1, excRaw 45 hh.objs.size), (hh.objs.size, excTup [.bytes b tb])]) => List.mem_append_left _ hp
  have hdis2 : ∀ p ∈ [(hh.objs.size + 1, excRaw 45 hh.objs.size), (hh.objs.size, excTup [.bytes b tb])], ∀ q ∈ rest, p.1 ≠ q.1 := by
    intro p hp q hq
    have := Heap.lt_size (Nr q hq).1
    rcases List.mem_cons.mp hp with rfl | hp
    · exact Nat.ne_of_gt (Nat.lt_succ_of_lt this)
    · rw [List.mem_singleton.mp hp]; exact Nat.ne_of_gt this
  generalize hx : hh.objs.size + 1 = x at N1 N2 hdis2
  refine wpAny_call ?_
  k_dflt (refine' xCall (bm := [.ref 32, .type "Exception", .type "BaseException", .type "object"]) PySem.F.excBase_Exception ?zc ?zC XX ?zi ?zf ?zr ?_; (case zC => exact XX 45 _ (by k_is)); (case zi => k_is); (case zf => k_is); (case zr => exact Nat.le_of_ble_eq_true rfl); (case zc => (intro y; rw [List.contains_cons]; rfl)))
  rw [hx]
  k_dflt (refine' enterR (binds := [(Str.ofString "self", .ref x), (Str.ofString "told", .bytes b tb)]) B F1 X N2 (news_sub N1 fun p hp => List.mem_append_right _ hp) hdis2 T rfl rfl hk ?k6 ?k7 ?k8 ?k9 ?kB ?_ ?c5 ?c2 ?c3 ?c4; (case k6 => k_is); (case k7 => k_is); (case k8 => ktr_room); (case k9 => exact binds_K XX1 rfl (by k_is) rfl rfl rfl); (case c5 => decide); (case kB => exact locs rfl); (case c2 => exact rfl); (case c3 => exact rfl); (case c4 => exact rfl); k_whole)
  intro g L' h2 FG F' N' B' X' T' l1
  try dsimp only
  try k_lt l1
  try k_lift B'
  k_steps
  refine xSetAttr (r := [(hh.objs.size, excTup [.bytes b tb])]) (by assumption) (by assumption) N' (List.forall_mem_singleton.mpr ?_) fun D h3 k F3 N3 lt3 lt4 => ?_
  · exact Nat.ne_of_lt (by lia)
  dsimp only
  k_steps
  refine leaveR_ (own' := [(D, toldDict w k (.bytes b tb)), (x, excObj hh.objs.size D), (hh.objs.size, excTup [.bytes b tb])]) (by assumption) N3 (fun aF aN aD => ⟨rfl, ?_⟩)
  exact hret _ [(D, toldDict w k (.bytes b tb)), (x, excObj hh.objs.size D), (hh.objs.size, excTup [.bytes b tb])] _ _ aF aN aD ⟨_, _, _, _, _, rfl, rfl⟩
end
section
set_option maxHeartbeats 8000000
noncomputable def Raises (w : World) (E : Value → Shared → Prop) (v : Value) (s₁ : Shared) : Prop := ∃ e t D, v = .ref e ∧ (Mine.hd.heap_39 w.params).In s₁.heap ∧ s₁.heap.get? e = some (excObj t D) ∧ E (.ref e) s₁
section
variable {prog : Program} {w : World} {A : Around} {E : Value → Shared → Prop} {s : Shared} {env : Env}
end
section
namespace H_xRaiseStmt
abbrev hkD : Type := (((Program × World) × (Around × (Value → Shared → Prop))) × ((Shared × Env) × ((Sem Value) × (Flow → Shared → Prop))))
def hkP (prog : Program) (w : World) (A : Around) (E : Value → Shared → Prop) (s : Shared) (env : Env) (x : Sem Value) (Q : Flow → Shared → Prop) : Prop := ∀ (hh : A.handled = none) (h : wpAny (model prog w) A x (fun v s₁ => ∃ e t D, v = .ref e ∧ (Mine.hd.heap_39 w.params).In s₁.heap ∧ s₁.heap.get? e = some (excObj t D) ∧ E (.ref e) s₁) E s), wpAny (model prog w) A (raiseStmt env (some x) none) Q E s
def hkU (d : hkD) : Prop := hkP d.1.1.1 d.1.1.2 d.1.2.1 d.1.2.2 d.2.1.1 d.2.1.2 d.2.2.1 d.2.2.2
theorem hkN : Nonempty hkD := (ne2 (ne2 (ne2 neProg neWorld) (ne2 neAround ⟨default⟩)) (ne2 (ne2 neShared ⟨default⟩) (ne2 ⟨default⟩ ⟨default⟩)))
@[irreducible] def hkV : hkD := hk_c hkN hkU
@[irreducible] def prog : Program := hkV.1.1.1
@[irreducible] def w : World := hkV.1.1.2
@[irreducible] def A : Around := hkV.1.2.1
@[irreducible] def E : Value → Shared → Prop := hkV.1.2.2
@[irreducible] def s : Shared := hkV.2.1.1
@[irreducible] def env : Env := hkV.2.1.2
@[irreducible] def x : Sem Value := hkV.2.2.1
@[irreducible] def Q : Flow → Shared → Prop := hkV.2.2.2
theorem core : hkP prog w A E s env x Q := by
  unfold hkP
  intro hh h
  unfold raiseStmt
  refine wpAny_bind (wpAny_mono h (fun v s₁ h₁ => ?_) fun _ _ x => x)
  obtain ⟨e, t, D, rfl, X, he, hE⟩ := h₁
  obtain ⟨hp, g, d, tk, os⟩ := s₁
  have hC := X 45 _ (by k_is)
  have hcB : ((Value.ref 45) :: [.ref 32, .type "Exception", .type "BaseException", .type "object"]).contains (.type "BaseException") = true := by decide +kernel
  dsimp only at hC he
  repeat (first | with_reducible refine wpAny_loadPart_at he ?_ | with_reducible refine wpAny_loadPart_at hC ?_ | (with_reducible refine wpAny_isSubtype_exc hC ?_; rw [hcB]) | wp_step)
  exact wpAny_raiseNew_none hh hE
end H_xRaiseStmt
end
section
variable {prog : Program} {w : World} {A : Around} {E : Value → Shared → Prop} {s : Shared} {env : Env}
theorem xRaiseStmt {x : Sem Value} {Q : Flow → Shared → Prop} (hh : A.handled = none)
    (h : wpAny (model prog w) A x (fun v s₁ => ∃ e t D, v = .ref e ∧ (Mine.hd.heap_39 w.params).In s₁.heap ∧ s₁.heap.get? e = some (excObj t D) ∧ E (.ref e) s₁) E s) :
    wpAny (model prog w) A (raiseStmt env (some x) none) Q E s :=
  hk_all H_xRaiseStmt.hkN H_xRaiseStmt.hkU (by with_unfolding_all exact H_xRaiseStmt.core) (((prog, w), (A, E)), ((s, env), (x, Q))) hh h
theorem xRaise {ex : PySem.Expr} {pos : Pos} {Q : Flow → Shared → Prop} (hh : A.handled = none)
    (h : wpAny (model prog w) A (eval ex env) (Raises w E) E s) :
    wpAny (model prog w) A (exec (.Raise (some ex) none pos) env) Q E s := by
  rw [arm_exec_Raise]
  first
    | refine wpAny_bind (wpAny_standAt (xRaiseStmt hh (wpAny_bind (wpAny_mono h (fun v s₃ h₃ => wpAny_bind (wpAny_standAt (wpAny_pure h₃))) fun _ _ x => x))))
    | (simp only [evalOpt, Option.map]; refine wpAny_bind (wpAny_standAt (xRaiseStmt hh (wpAny_bind (wpAny_mono h (fun v s₃ h₃ => wpAny_bind (wpAny_standAt (wpAny_pure h₃))) fun _ _ x => x)))))
end
end
section
set_option maxHeartbeats 8000000
noncomputable def Fly (B : Heap) (l : List Env) (e D : Addr) (fl : Value) (h : Heap) : Prop :=
  B.StaysIn h ∧ B.get? e = none ∧ h.FunFrames B l ∧ ∃ oe vs T oT ts, h.get? e = some oe ∧ oe.cls = .ref 45 ∧ oe.dict = some D ∧ oe.data = .fields vs ∧ vs[1]? = some (.ref T) ∧ B.get? T = none ∧ T ≠ e ∧ h.get? T = some oT ∧ oT.data = .fields ts ∧ ts[3]? = some fl
noncomputable abbrev tbObj (head : Value) (L : Addr) (pl : List Value) : Obj := { cls := .type "traceback", dict := none, data := .fields ([head, .ref L, .none, rawInt L, .none] ++ (if pl.isEmpty then List.replicate 6 Value.none else pl)).toArray }
section
variable {M : Model} {A : Around} {E : Value → Shared → Prop} {s : Shared} {B : Heap} {env : Env} {outer l : List Env} {L e D : Addr} {Q : Unit → Shared → Prop}
end
section
namespace H_xEntry
abbrev hkD : Type := ((((Model × Around) × ((Value → Shared → Prop) × Shared)) × ((Heap × Env) × (List Env))) × (((Addr × Addr) × (Addr × Obj)) × (((Array Value) × Value) × Bool)))
def hkP (M : Model) (A : Around) (E : Value → Shared → Prop) (s : Shared) (B : Heap) (env : Env) (outer : List Env) (L : Addr) (e : Addr) (D : Addr) (oe : Obj) (vs : Array Value) (head : Value) (had : Bool) : Prop := ∀ (Q : Unit → Shared → Prop) (hfr : A.frames = some (env :: outer)) (hl : s.heap.FunFrames B (env :: outer)) (hf : env.frame = some L) (he : s.heap.get? e = some oe) (hc : oe.cls = .ref 45) (hx : oe.dict = some D) (hkb : B.StaysIn s.heap) (hen : B.get? e = none) (hd : oe.data = .fields vs) (hsz : 1 < vs.size) (h : ∀ h', Fly B (env :: outer) e D (rawInt L) h' → s.heap.UpToSlots h' → Q () { s with heap := h' }), wpAny M A (do let a ← frameOf env; let pl ← entryPlaceOf L had; let b ← EntryCells.newEntry head a .none (rawInt L) .none pl; setField (.ref e) 1 b) Q E s
def hkU (d : hkD) : Prop := hkP d.1.1.1.1 d.1.1.1.2 d.1.1.2.1 d.1.1.2.2 d.1.2.1.1 d.1.2.1.2 d.1.2.2 d.2.1.1.1 d.2.1.1.2 d.2.1.2.1 d.2.1.2.2 d.2.2.1.1 d.2.2.1.2 d.2.2.2
theorem hkN : Nonempty hkD := (ne2 (ne2 (ne2 (ne2 neModel neAround) (ne2 ⟨default⟩ neShared)) (ne2 (ne2 ⟨default⟩ ⟨default⟩) ⟨default⟩)) (ne2 (ne2 (ne2 ⟨default⟩ ⟨default⟩) (ne2 ⟨default⟩ ⟨default⟩)) (ne2 (ne2 ⟨default⟩ ⟨default⟩) ⟨default⟩)))
@[irreducible] def hkV : hkD := hk_c hkN hkU
@[irreducible] def M : Model := hkV.1.1.1.1
@[irreducible] def A : Around := hkV.1.1.1.2
@[irreducible] def E : Value → Shared → Prop := hkV.1.1.2.1
@[irreducible] def s : Shared := hkV.1.1.2.2
@[irreducible] def B : Heap := hkV.1.2.1.1
@[irreducible] def env : Env := hkV.1.2.1.2
@[irreducible] def outer : List Env := hkV.1.2.2
@[irreducible] def L : Addr := hkV.2.1.1.1
@[irreducible] def e : Addr := hkV.2.1.1.2
@[irreducible] def D : Addr := hkV.2.1.2.1
@[irreducible] def oe : Obj := hkV.2.1.2.2
@[irreducible] def vs : Array Value := hkV.2.2.1.1
@[irreducible] def head : Value := hkV.2.2.1.2
@[irreducible] def had : Bool := hkV.2.2.2
theorem core : hkP M A E s B env outer L e D oe vs head had := by
  unfold hkP
  intro Q hfr hl hf he hc hx hkb hen hd hsz h
  have notFr : e ∉ (env :: outer).filterMap (·.frame) := fun hm => by
    obtain ⟨_, o, ho, hn⟩ := hl.mem hm
    rw [he] at ho; cases ho; exact hn vs hd
  refine wpAny_bind (wpAny_frameOf_fun hfr hl hf fun h₁ hs => wpAny_bind (wpAny_entryPlaceOf fun pl hpl => ?_))
  unfold EntryCells.newEntry newFields
  refine wpAny_bind (wpAny_newObj_type ?_ (hpl.sizeOk5 _ _ _ _ _))
  have he₁ : h₁.get? e = some oe := (hs.2.1 e notFr).trans he
  have he₂ : (h₁.push (tbObj head L pl)).get? e = some oe := Heap.get?_push_of_some _ he₁
  have hd₃ := Obj.data_mapFields hd (·.setIfInBounds 1 (Value.ref h₁.objs.size))
  have he₃ := Heap.get?_update_self (Obj.mapFields (·.setIfInBounds 1 (Value.ref h₁.objs.size))) he₂ (Obj.isFreed_of_fields hd₃)
  have hTe : h₁.objs.size ≠ e := Nat.ne_of_gt (Heap.lt_size he₁)
  have old : ∀ b o, b ≠ e → h₁.get? b = some o → ((h₁.push (tbObj head L pl)).update e (Obj.mapFields (·.setIfInBounds 1 (Value.ref h₁.objs.size)))).get? b = some o := fun b o hb q => by
    rw [Heap.get?_update_other _ _ (Ne.symm hb)]; exact Heap.get?_push_of_some _ q
  have kb₁ : B.StaysIn h₁ := fun b o q => (hs.2.1 b fun hm => by rw [(hl.mem hm).1] at q; cases q).trans (hkb b o q)
  have plain : ∀ b o, s.heap.get? b = some o → (∀ vs, o.data ≠ .fields vs) → b ≠ e := fun b o q hn z => by
    rw [z, he] at q; cases q; exact hn vs hd
  have hT : ((h₁.push (tbObj head L pl)).update e (Obj.mapFields (·.setIfInBounds 1 (Value.ref h₁.objs.size)))).get? h₁.objs.size = some (tbObj head L pl) := by
    rw [Heap.get?_update_other _ _ (Ne.symm hTe)]; exact Heap.get?_push_size h₁ rfl
  refine wpAny_setField he₂ hd hsz (h _ ⟨fun b o q => old b o (fun z => by rw [z, hen] at q; cases q) (kb₁ b o q), hen, hl.of_keeps fun b o q hn => ?_, ?_⟩ fun b o q hn => ?_)
  · obtain ⟨sl, z⟩ := hs.2.2 b o q
    exact ⟨_, old b _ (plain b o q hn) z, rfl⟩
  · refine ⟨_, _, h₁.objs.size, tbObj head L pl, _, he₃, (Obj.cls_mapFields _ _).trans hc, ?_, hd₃, by simp [hsz], kb₁.fresh, hTe, hT, rfl, by first | (simp; done) | (rcases hpl with rfl | ⟨_, _, _, _, _, _, _, rfl⟩ <;> simp)⟩
    rw [← hx]; obtain ⟨_, _, dt, _⟩ := oe; cases dt <;> rfl
  · obtain ⟨sl, z⟩ := hs.2.2 b o q
    exact ⟨sl, old b _ (plain b o q hn) z⟩
end H_xEntry
end
section
variable {M : Model} {A : Around} {E : Value → Shared → Prop} {s : Shared} {B : Heap} {env : Env} {outer l : List Env} {L e D : Addr} {Q : Unit → Shared → Prop}
theorem xEntry {oe : Obj} {vs : Array Value} {head : Value} {had : Bool} (hfr : A.frames = some (env :: outer)) (hl : s.heap.FunFrames B (env :: outer)) (hf : env.frame = some L) (he : s.heap.get? e = some oe) (hc : oe.cls = .ref 45) (hx : oe.dict = some D)
    (hkb : B.StaysIn s.heap) (hen : B.get? e = none) (hd : oe.data = .fields vs) (hsz : 1 < vs.size) (h : ∀ h', Fly B (env :: outer) e D (rawInt L) h' → s.heap.UpToSlots h' → Q () { s with heap := h' }) :
    wpAny M A (do let a ← frameOf env; let pl ← entryPlaceOf L had; let b ← EntryCells.newEntry head a .none (rawInt L) .none pl; setField (.ref e) 1 b) Q E s :=
  hk_all H_xEntry.hkN H_xEntry.hkU (by with_unfolding_all exact H_xEntry.core) ((((M, A), (E, s)), ((B, env), outer)), (((L, e), (D, oe)), ((vs, head), had))) Q hfr hl hf he hc hx hkb hen hd hsz h
theorem xTurn {fl fl' : Value} {T : Addr} {oT : Obj} {ts : Array Value} (hn : B.get? T = none) (hTe : T ≠ e) (hT : s.heap.get? T = some oT) (hdT : oT.data = .fields ts) :
    (∀ b, b ≠ T → (s.heap.update T (Obj.mapFields (·.setIfInBounds 3 fl'))).get? b = s.heap.get? b) ∧ (∀ b o, s.heap.get? b = some o → (∀ vs, o.data ≠ .fields vs) → b ≠ T) :=
  ⟨fun b hb => Heap.get?_update_other _ _ (Ne.symm hb), fun b o q hnf z => by rw [z, hT] at q; cases q; exact hnf ts hdT⟩
theorem xNote0 {t : Addr} (hfr : A.frames = some (env :: outer)) (hl : s.heap.FunFrames B (env :: outer)) (hf : env.frame = some L) (he : s.heap.get? e = some (excObj t D)) (hkb : B.StaysIn s.heap) (hen : B.get? e = none)
    (h : ∀ h', Fly B (env :: outer) e D (rawInt L) h' → s.heap.UpToSlots h' → Q () { s with heap := h' }) : wpAny M A (noteFrame (.ref e) env) Q E s := by
  unfold noteFrame
  simp only [hf]
  refine wpAny_bind (wpAny_field he rfl (x := .none) rfl ?_)
  rw [if_neg (by decide)]
  exact xEntry hfr hl hf he rfl rfl hkb hen rfl (by show 1 < 6; decide) h
theorem xNote (hfr : A.frames = some (env :: outer)) (hf : env.frame = some L) (hfl : Fly B (env :: outer) e D .none s.heap)
    (h : ∀ h', Fly B (env :: outer) e D (rawInt L) h' → s.heap.UpToSlots h' → Q () { s with heap := h' }) : wpAny M A (noteFrame (.ref e) env) Q E s := by
  obtain ⟨hkb, hen, hl, oe, vs, T, oT, ts, he, hc, hx, hd, h1, hnT, hTe, hT, hdT, h3⟩ := hfl
  unfold noteFrame
  simp only [hf]
  refine wpAny_bind (wpAny_field he hd h1 ?_)
  rw [if_pos (show (Value.ref T != Value.none) = true from by simp)]
  refine wpAny_bind (wpAny_field hT hdT h3 ?_)
  rw [if_neg (show ¬ ((Value.none == rawInt L) = true) from by simp [rawInt])]
  refine wpAny_bind (wpAny_setField hT hdT (Array.getElem?_eq_some_iff.mp h3).1 ?_)
  obtain ⟨other, plain⟩ := xTurn (fl := .none) (fl' := .none) hnT hTe hT hdT
  refine xEntry hfr (hl.of_keeps fun b o q hn => ⟨o, (other b (plain b o q hn)).trans q, rfl⟩) hf ((other e (Ne.symm hTe)).trans he) hc hx
    (fun b o q => (other b fun z => by rw [z, hnT] at q; cases q).trans (hkb b o q)) hen hd (Array.getElem?_eq_some_iff.mp h1).1
    fun h' x1 x2 => h h' x1 fun b o q hn => x2 b o ((other b (plain b o q hn)).trans q) hn
theorem xAgain (hf : env.frame = some L) (hfl : Fly B l e D (rawInt L) s.heap) (h : Q () s) : wpAny M A (noteFrame (.ref e) env) Q E s := by
  obtain ⟨hkb, hen, hl, oe, vs, T, oT, ts, he, hc, hx, hd, h1, hnT, hTe, hT, hdT, h3⟩ := hfl
  unfold noteFrame
  simp only [hf]
  refine wpAny_bind (wpAny_field he hd h1 ?_)
  rw [if_pos (show (Value.ref T != Value.none) = true from by simp)]
  refine wpAny_bind (wpAny_field hT hdT h3 ?_)
  rw [if_pos (show (rawInt L == rawInt L) = true from by simp)]
  exact wpAny_pure h
end
section
namespace H_xLight
abbrev hkD : Type := ((((Model × Around) × (Value → Shared → Prop)) × (Shared × Heap)) × ((((List Env) × Addr) × Addr) × (Value × (Option Addr))))
def hkP (M : Model) (A : Around) (E : Value → Shared → Prop) (s : Shared) (B : Heap) (l : List Env) (e : Addr) (D : Addr) (fl : Value) (f : Option Addr) : Prop := ∀ (Q : Unit → Shared → Prop) (hfl : Fly B l e D fl s.heap) (h : ∀ h', Fly B l e D (f.elim Value.none fun x => rawInt x) h' → s.heap.UpToSlots h' → Q () { s with heap := h' }), wpAny M A (setFlight (.ref e) f) Q E s
def hkU (d : hkD) : Prop := hkP d.1.1.1.1 d.1.1.1.2 d.1.1.2 d.1.2.1 d.1.2.2 d.2.1.1.1 d.2.1.1.2 d.2.1.2 d.2.2.1 d.2.2.2
theorem hkN : Nonempty hkD := (ne2 (ne2 (ne2 (ne2 neModel neAround) ⟨default⟩) (ne2 neShared ⟨default⟩)) (ne2 (ne2 (ne2 ⟨default⟩ ⟨default⟩) ⟨default⟩) (ne2 ⟨default⟩ ⟨default⟩)))
@[irreducible] def hkV : hkD := hk_c hkN hkU
@[irreducible] def M : Model := hkV.1.1.1.1
@[irreducible] def A : Around := hkV.1.1.1.2
@[irreducible] def E : Value → Shared → Prop := hkV.1.1.2
@[irreducible] def s : Shared := hkV.1.2.1
@[irreducible] def B : Heap := hkV.1.2.2
@[irreducible] def l : List Env := hkV.2.1.1.1
@[irreducible] def e : Addr := hkV.2.1.1.2
@[irreducible] def D : Addr := hkV.2.1.2
@[irreducible] def fl : Value := hkV.2.2.1
@[irreducible] def f : Option Addr := hkV.2.2.2
theorem core : hkP M A E s B l e D fl f := by
  unfold hkP
  intro Q hfl h
  obtain ⟨hkb, hen, hl, oe, vs, T, oT, ts, he, hc, hx, hd, h1, hnT, hTe, hT, hdT, h3⟩ := hfl
  have hz : 3 < ts.size := (Array.getElem?_eq_some_iff.mp h3).1
  obtain ⟨other, plain⟩ := xTurn (fl := fl) (fl' := f.elim Value.none fun x => rawInt x) hnT hTe hT hdT
  unfold setFlight
  refine wpAny_bind (wpAny_field he hd h1 ?_)
  rw [if_pos (show (Value.ref T != Value.none) = true from by simp)]
  refine wpAny_setField hT hdT hz (h _ ⟨fun b o q => (other b fun z => by rw [z, hnT] at q; cases q).trans (hkb b o q), hen, hl.of_keeps fun b o q hn => ⟨o, (other b (plain b o q hn)).trans q, rfl⟩, ?_⟩ fun b o q hn => ⟨o.slots, (other b (plain b o q hn)).trans q⟩)
  exact ⟨oe, vs, T, _, _, (other e (Ne.symm hTe)).trans he, hc, hx, hd, h1, hnT, hTe, Heap.get?_update_self _ hT (Obj.isFreed_of_fields (Obj.data_mapFields hdT _)), Obj.data_mapFields hdT _, by simp [hz]⟩
end H_xLight
end
section
variable {M : Model} {A : Around} {E : Value → Shared → Prop} {s : Shared} {B : Heap} {env : Env} {outer l : List Env} {L e D : Addr} {Q : Unit → Shared → Prop}
theorem xLight {fl : Value} (f : Option Addr) (hfl : Fly B l e D fl s.heap) (h : ∀ h', Fly B l e D (f.elim Value.none fun x => rawInt x) h' → s.heap.UpToSlots h' → Q () { s with heap := h' }) : wpAny M A (setFlight (.ref e) f) Q E s :=
  hk_all H_xLight.hkN H_xLight.hkU (by with_unfolding_all exact H_xLight.core) ((((M, A), E), (s, B)), (((l, e), D), (fl, f))) Q hfl h
theorem Fly.pop {fl : Value} {h : Heap} (x : Fly B (env :: outer) e D fl h) : Fly B outer e D fl h := ⟨x.1, x.2.1, x.2.2.1.2.2, x.2.2.2⟩
theorem xLeave0 {t : Addr} (hfr : A.frames = some (env :: outer)) (hl : s.heap.FunFrames B (env :: outer)) (hf : env.frame = some L) (he : s.heap.get? e = some (excObj t D)) (hkb : B.StaysIn s.heap) (hen : B.get? e = none)
    (h : ∀ h', Fly B outer e D .none h' → s.heap.UpToSlots h' → Q () { s with heap := h' }) : wpAny M A (leaving env (.ref e)) Q E s := by
  unfold leaving
  refine wpAny_bind (xNote0 hfr hl hf he hkb hen fun h' x1 x2 => xLight none x1 fun h'' y1 y2 => h h'' y1.pop (x2.trans y2))
theorem xLeave (hfr : A.frames = some (env :: outer)) (hf : env.frame = some L) (hfl : Fly B (env :: outer) e D .none s.heap)
    (h : ∀ h', Fly B outer e D .none h' → s.heap.UpToSlots h' → Q () { s with heap := h' }) : wpAny M A (leaving env (.ref e)) Q E s := by
  unfold leaving
  refine wpAny_bind (xNote hfr hf hfl fun h' x1 x2 => xLight none x1 fun h'' y1 y2 => h h'' y1.pop (x2.trans y2))
theorem xLeave2 (hf : env.frame = some L) (hfl : Fly B (env :: outer) e D (rawInt L) s.heap)
    (h : ∀ h', Fly B outer e D .none h' → s.heap.UpToSlots h' → Q () { s with heap := h' }) : wpAny M A (leaving env (.ref e)) Q E s := by
  unfold leaving
  exact wpAny_bind (xAgain hf hfl (xLight none hfl fun h'' y1 y2 => h h'' y1.pop y2))
end
end
section
set_option maxHeartbeats 8000000
noncomputable def FlyG (w : World) (base g : Heap) (l : List Env) (fl : Value) (e : Addr) (v : Value) (h' : Heap) : Prop :=
  ∃ B D k, base.StaysIn B ∧ (∀ b o, g.get? b = some o → b ∉ l.filterMap (·.frame) → B.get? b = some o) ∧ B.get? D = some (toldDict w k v) ∧ g.get? D = none ∧ g.get? e = none ∧ Fly B l e D fl h' ∧ g.UpToSlots h'
theorem none_up {g h : Heap} {b : Addr} (k : ∀ b o, g.get? b = some o → h.get? b = some o) (e : h.get? b = none) : g.get? b = none := by
  cases q : g.get? b with
  | none => rfl
  | some o => rw [k b o q] at e; cases e
theorem fr_self {g h : Heap} {L : Addr} {m : Str → Option Value} (F : Fr g L h m) : g.get? L = none := Heap.get?_none_of_le F.above
section
variable {M : Model} {A : Around} {E : Value → Shared → Prop} {s : Shared} {w : World} {base g g₂ : Heap} {env : Env} {l : List Env} {L e D t : Addr} {m : Str → Option Value} {v : Value} {k : Tok} {r : List (Addr × Obj)} {Q : Unit → Shared → Prop}
theorem flyHere (hst : base.StaysIn g) (hfs : g.FunFrames base l) (hfr : A.frames = some (env :: l)) (hf : env.frame = some L) (hkd : env.scope.kind ≠ .module) (F : Fr g L s.heap m) (N : News g L s.heap ((D, toldDict w k v) :: (e, excObj t D) :: r))
    (h : ∀ h', FlyG w base g l .none e v h' → Q () { s with heap := h' }) : wpAny M A (leaving env (.ref e)) Q E s := by
  obtain ⟨hD, hDL, hD0⟩ := N _ (.head _)
  obtain ⟨he, heL, he0⟩ := N _ (.tail _ (.head _))
  have hDe : D ≠ e := fun q => by rw [q, he] at hD; cases hD
  have inFr : ∀ b, b ∈ l.filterMap (·.frame) → ∃ o, g.get? b = some o ∧ base.get? b = none := fun b hb => by
    obtain ⟨h1, o, h2, _⟩ := hfs.mem hb; exact ⟨o, h2, h1⟩
  have fs : s.heap.FunFrames base (env :: l) := .cons hkd hf F.ns (none_up hst (fr_self F)) (hfs.of_keeps fun b o q _ => ⟨o, F.keep b o q, rfl⟩)
  have sub : ∀ x ∈ env :: l, ∀ a, x.frame = some a → a ∈ e :: (env :: l).filterMap (·.frame) := fun x hx a ha => .tail _ (List.mem_filterMap.mpr ⟨x, hx, ha⟩)
  have out : ∀ b, b ≠ e → b ≠ L → b ∉ l.filterMap (·.frame) → b ∉ e :: (env :: l).filterMap (·.frame) := fun b h1 h2 h3 hm => by
    rcases List.mem_cons.mp hm with rfl | hm
    · exact h1 rfl
    · rw [List.filterMap_cons, hf] at hm
      rcases List.mem_cons.mp hm with rfl | hm
      · exact h2 rfl
      · exact h3 hm
  have gB : ∀ b o, g.get? b = some o → b ∉ l.filterMap (·.frame) → (hideAll s.heap (e :: (env :: l).filterMap (·.frame))).get? b = some o := fun b o q hn =>
    hideAll_get _ (F.keep b o q) (out b (fun z => by rw [z, he0] at q; cases q) (fun z => by rw [z, fr_self F] at q; cases q) hn)
  refine xLeave0 (B := hideAll s.heap (e :: (env :: l).filterMap (·.frame))) hfr (funFrames_hide fs sub) hf he (fun b o q => of_hideAll _ q) (hideAll_none _ (.head _)) fun h' x1 x2 => h h' ?_
  refine ⟨_, D, k, fun b o q => gB b o (hst b o q) (fun hm => ?_), gB, hideAll_get _ hD (out D hDe hDL fun hm => ?_), hD0, he0, x1, (Heap.UpToSlots.of_keeps F.keep).trans x2⟩
  · obtain ⟨_, _, z⟩ := inFr b hm; rw [z] at q; cases q
  · obtain ⟨_, z, _⟩ := inFr D hm; rw [hD0] at z; cases z
theorem FlyG.down {fl : Value} {h₁ : Heap} (X : FlyG w base g₂ (env :: l) fl e v h₁) (hf : env.frame = some L) (F : Fr g L g₂ m) :
    ∃ B D, Fly B (env :: l) e D fl h₁ ∧ ∀ h₂, Fly B l e D .none h₂ → h₁.UpToSlots h₂ → FlyG w base g l .none e v h₂ := by
  obtain ⟨B, D, k, x1, x2, x3, x4, x5, x6, x7⟩ := X
  refine ⟨B, D, x6, fun h₂ y1 y2 => ⟨B, D, k, x1, fun b o q hn => x2 b o (F.keep b o q) (fun hm => ?_), x3, none_up F.keep x4, none_up F.keep x5, y1, ((Heap.UpToSlots.of_keeps F.keep).trans x7).trans y2⟩⟩
  rw [List.filterMap_cons, hf] at hm
  rcases List.mem_cons.mp hm with rfl | hm
  · rw [fr_self F] at q; cases q
  · exact hn hm
theorem FlyG.fly {fl fl' : Value} {h₁ : Heap} (X : FlyG w base g l fl e v h₁) : ∃ B D, Fly B l e D fl h₁ ∧ ∀ h₂, Fly B l e D fl' h₂ → h₁.UpToSlots h₂ → FlyG w base g l fl' e v h₂ := by
  obtain ⟨B, D, k, x1, x2, x3, x4, x5, x6, x7⟩ := X
  exact ⟨B, D, x6, fun h₂ y1 y2 => ⟨B, D, k, x1, x2, x3, x4, x5, y1, x7.trans y2⟩⟩
theorem flyLeave (hfr : A.frames = some (env :: l)) (hf : env.frame = some L) (X : FlyG w base g₂ (env :: l) .none e v s.heap) (F : Fr g L g₂ m) (h : ∀ h', FlyG w base g l .none e v h' → Q () { s with heap := h' }) :
    wpAny M A (leaving env (.ref e)) Q E s := by
  obtain ⟨B, D, y, z⟩ := X.down hf F
  exact xLeave hfr hf y fun h' a b => h h' (z h' a b)
theorem flyLeaveH (hf : env.frame = some L) (X : FlyG w base g₂ (env :: l) (rawInt L) e v s.heap) (F : Fr g L g₂ m) (h : ∀ h', FlyG w base g l .none e v h' → Q () { s with heap := h' }) :
    wpAny M A (leaving env (.ref e)) Q E s := by
  obtain ⟨B, D, y, z⟩ := X.down hf F
  exact xLeave2 hf y fun h' a b => h h' (z h' a b)
theorem flyNoted {E' : Value → Shared → Prop} (hfr : A.frames = some (env :: l)) (hf : env.frame = some L) (X : FlyG w base g (env :: l) .none e v s.heap) (h : ∀ h', FlyG w base g (env :: l) (rawInt L) e v h' → E' (.ref e) { s with heap := h' }) :
    notedBy M A env E' (.ref e) s := by
  obtain ⟨B, D, y, z⟩ := X.fly (fl' := rawInt L)
  show wpAny M A (noteFrame (.ref e) env) _ _ s
  exact xNote hfr hf y fun h' a b => h h' (z h' a b)
theorem flyBack {fl : Value} {E' : Value → Shared → Prop} (hf : env.frame = some L) (X : FlyG w base g (env :: l) fl e v s.heap) (h : ∀ h', FlyG w base g (env :: l) (rawInt L) e v h' → E' (.ref e) { s with heap := h' }) :
    cameBackBy M A env E' (.ref e) s := by
  obtain ⟨B, D, y, z⟩ := X.fly (fl' := rawInt L)
  have y' := y
  obtain ⟨_, _, _, oe, vs, T, oT, ts, he, hc, hx, hd, h1, _⟩ := y'
  unfold cameBackBy
  refine wpAny_bind (wpAny_field he hd h1 ?_)
  rw [if_neg (show ¬ ((Value.ref T == Value.none) = true) from by simp)]
  rw [hf]
  first
    | exact xLight (some L) y fun h' a b => h h' (z h' a b)
    | exact wpAny_bind (wpAny_pure (xLight (some L) y fun h' a b => h h' (z h' a b)))
end
noncomputable def RaisedAt (w : World) (base h₀ : Heap) (L : Addr) (m : Str → Option Value) (l : List Env) (rest : List (Addr × Obj)) (V : Value → Prop) (E : Value → Shared → Prop) (s : Shared) : Prop :=
  ∀ v a g h' tk', V v → Fr h₀ L g m → (∀ q ∈ rest, g.get? q.1 = some q.2) → FlyG w base g l .none a v h' → E (.ref a) { s with heap := h', toks := tk' }
noncomputable def SpecR (w : World) (f : Addr) (vs : List Value) (own : List (Addr × Obj)) (room : Nat) (R : Value → List (Addr × Obj) → Prop) (V : Value → Prop) : Prop :=
  ∀ (mean : ExcName → Option Value) (mg mb : Str → Option Value) (dp un : Nat) (gd : Option (List Code)) (cn : Str) (cs : Scope) (a : Addr) (ccd : Value) (cl : List (Str × Addr)) (outer : List Env) (A₀ : Around) (base h₀ : Heap) (L : Addr) (m : Str → Option Value) (rest : List (Addr × Obj)) (s : Shared) (Q E : Value → Shared → Prop),
    Below A₀ base outer h₀ → Fr h₀ L s.heap m → (Mine.hd.heap_39 w.params).In h₀ → News h₀ L s.heap own → News h₀ L s.heap rest → (∀ p ∈ own, ∀ q ∈ rest, p.1 ≠ q.1) →
    Top Mine.hd.view_39 (looseW Mine.hd.view_39 [Str.ofString "PostError"]) mean mg mb h₀ → cs.kind = .function → dp + room < recursionLimit → un + 8 * room < cLine →
    (∀ r own' h' tk', Fr h₀ L h' m → News h₀ L h' (own' ++ rest) → (∀ p ∈ own', ∀ q ∈ rest, p.1 ≠ q.1) → R r own' → Q r { s with heap := h', toks := tk' }) →
    RaisedAt w base h₀ L m (envX cn cs L a ccd cl :: outer) rest V E s →
    wpAny (model PySem.Challenge.rw_nt0492_01.row.prog w) (ktrTop dp un gd cn cs L a ccd cl outer) (call (.ref f) vs) Q E s
noncomputable def SpecRAt (w : World) (f : Addr) (vs : List Value) (own : List (Addr × Obj)) (room : Nat) (R : Value → List (Addr × Obj) → Prop) (V : Value → Prop) (t : Tele) : Prop :=
    Below t.A₀ t.base t.outer t.h₀ → Fr t.h₀ t.L t.s.heap t.m → (Mine.hd.heap_39 w.params).In t.h₀ → News t.h₀ t.L t.s.heap own → News t.h₀ t.L t.s.heap t.rest → (∀ p ∈ own, ∀ q ∈ t.rest, p.1 ≠ q.1) →
    Top Mine.hd.view_39 (looseW Mine.hd.view_39 [Str.ofString "PostError"]) t.mean t.mg t.mb t.h₀ → t.cs.kind = .function → t.dp + room < recursionLimit → t.un + 8 * room < cLine →
    (∀ r own' h' tk', Fr t.h₀ t.L h' t.m → News t.h₀ t.L h' (own' ++ t.rest) → (∀ p ∈ own', ∀ q ∈ t.rest, p.1 ≠ q.1) → R r own' → t.Q r { t.s with heap := h', toks := tk' }) →
    RaisedAt w t.base t.h₀ t.L t.m (envX t.cn t.cs t.L t.fa t.ccd t.cl :: t.outer) t.rest V t.E t.s →
    wpAny (model PySem.Challenge.rw_nt0492_01.row.prog w) (ktrTop t.dp t.un t.gd t.cn t.cs t.L t.fa t.ccd t.cl t.outer) (call (.ref f) vs) t.Q t.E t.s
theorem SpecR.mk {w : World} {f : Addr} {vs : List Value} {own : List (Addr × Obj)} {room : Nat} {R : Value → List (Addr × Obj) → Prop} {V : Value → Prop} (h : ∀ t : Tele, SpecRAt w f vs own room R V t) : SpecR w f vs own room R V := fun mean mg mb dp un gd cn cs a ccd cl outer A₀ base h₀ L m rest s Q E => h ⟨mean, mg, mb, dp, un, gd, cn, cs, a, ccd, cl, outer, A₀, base, h₀, L, m, rest, s, Q, E⟩
noncomputable def SpecRN (w : World) (f : Addr) (vs : List Value) (own : List (Addr × Obj)) (room : Nat) (R : Value → List (Addr × Obj) → Prop) (V : Value → Prop) : Prop :=
  ∀ (mean : ExcName → Option Value) (mg mb : Str → Option Value) (dp un : Nat) (gd : Option (List Code)) (cn : Str) (cs : Scope) (a : Addr) (ccd : Value) (cl : List (Str × Addr)) (outer : List Env) (A₀ : Around) (base h₀ : Heap) (L : Addr) (m : Str → Option Value) (rest : List (Addr × Obj)) (s : Shared) (Q E : Value → Shared → Prop),
    Below A₀ base outer h₀ → Fr h₀ L s.heap m → (Mine.hd.heap_39 w.params).In h₀ → News h₀ L s.heap own → News h₀ L s.heap rest → (∀ p ∈ own, ∀ q ∈ rest, p.1 ≠ q.1) →
    Top Mine.hd.view_39 (looseW Mine.hd.view_39 [Str.ofString "PostError"]) mean mg mb h₀ → cs.kind = .function → dp + room < recursionLimit → un + 8 * room < cLine →
    (∀ r own' h' tk', Fr h₀ L h' m → News h₀ L h' (own' ++ rest) → (∀ p ∈ own', ∀ q ∈ rest, p.1 ≠ q.1) → R r own' → Q r { s with heap := h', toks := tk' }) →
    RaisedAt w base h₀ L m (envX cn cs L a ccd cl :: outer) rest V E s →
    wpN (model PySem.Challenge.rw_nt0492_01.row.prog w) (ktrTop dp un gd cn cs L a ccd cl outer) (call (.ref f) vs) Q E s
noncomputable def SpecRNAt (w : World) (f : Addr) (vs : List Value) (own : List (Addr × Obj)) (room : Nat) (R : Value → List (Addr × Obj) → Prop) (V : Value → Prop) (t : Tele) : Prop :=
    Below t.A₀ t.base t.outer t.h₀ → Fr t.h₀ t.L t.s.heap t.m → (Mine.hd.heap_39 w.params).In t.h₀ → News t.h₀ t.L t.s.heap own → News t.h₀ t.L t.s.heap t.rest → (∀ p ∈ own, ∀ q ∈ t.rest, p.1 ≠ q.1) →
    Top Mine.hd.view_39 (looseW Mine.hd.view_39 [Str.ofString "PostError"]) t.mean t.mg t.mb t.h₀ → t.cs.kind = .function → t.dp + room < recursionLimit → t.un + 8 * room < cLine →
    (∀ r own' h' tk', Fr t.h₀ t.L h' t.m → News t.h₀ t.L h' (own' ++ t.rest) → (∀ p ∈ own', ∀ q ∈ t.rest, p.1 ≠ q.1) → R r own' → t.Q r { t.s with heap := h', toks := tk' }) →
    RaisedAt w t.base t.h₀ t.L t.m (envX t.cn t.cs t.L t.fa t.ccd t.cl :: t.outer) t.rest V t.E t.s →
    wpN (model PySem.Challenge.rw_nt0492_01.row.prog w) (ktrTop t.dp t.un t.gd t.cn t.cs t.L t.fa t.ccd t.cl t.outer) (call (.ref f) vs) t.Q t.E t.s
theorem SpecRN.mk {w : World} {f : Addr} {vs : List Value} {own : List (Addr × Obj)} {room : Nat} {R : Value → List (Addr × Obj) → Prop} {V : Value → Prop} (h : ∀ t : Tele, SpecRNAt w f vs own room R V t) : SpecRN w f vs own room R V := fun mean mg mb dp un gd cn cs a ccd cl outer A₀ base h₀ L m rest s Q E => h ⟨mean, mg, mb, dp, un, gd, cn, cs, a, ccd, cl, outer, A₀, base, h₀, L, m, rest, s, Q, E⟩
section
variable {prog : Program} {w : World} {A₀ A : Around} {s : Shared} {base h₀ : Heap} {outer : List Env} {L : Addr} {m : Str → Option Value} {env : Env} {own rest : List (Addr × Obj)} {K : Frag}
  {p : Program} {loose : List Str} {mean : ExcName → Option Value} {mg mb : Str → Option Value}
  {R : Result → Shared → Prop} {name qual : Str} {params : Arguments} {body : List Stmt} {scope : Scope} {dV kV doc pm cdv ct oc : Value} {an od : Option Addr} {osl : Array (Option Value)} {f : Addr} {args : Args} {binds : List (Str × Value)}
theorem rest_ground (Nr : News h₀ L s.heap rest) (hdis : ∀ p ∈ own, ∀ q ∈ rest, p.1 ≠ q.1) : ∀ q ∈ rest, (hideAll s.heap (own.map (·.1))).get? q.1 = some q.2 := fun q hq => hideAll_get _ (Nr q hq).1 fun hm => by
  obtain ⟨p, hp, e⟩ := List.mem_map.mp hm
  exact hdis p hp q hq e
theorem enterR20 (g : Heap) (L' : Addr) (hg : g = hideAll s.heap (own.map (·.1))) (hL' : L' = s.heap.objs.size) (B : Below A₀ base outer h₀) (F : Fr h₀ L s.heap m) (X₀ : K.In h₀) (N : News h₀ L s.heap own) (Nr : News h₀ L s.heap rest) (hdis : ∀ p ∈ own, ∀ q ∈ rest, p.1 ≠ q.1) (T : Top p loose mean mg mb h₀) (hA : A.frames = some (env :: outer)) (hf : env.frame = some L) (hke : env.scope.kind = .function)
    (ho : K.lookup f = some ⟨oc, od, .func (fnOf name qual params body scope dV kV doc pm an cdv ct), osl⟩) (hcd : codeIn K cdv qual = true) (hroom : A.depth < recursionLimit)
    (hbind : BindsTo s (fnOf name qual params body scope dV kV doc pm an cdv ct) args binds) (hloc : ∀ y ∈ binds, scope.names.lookup y.1 = some .local)
    (h : ∀ h₁, Fr h₀ L g m → (∀ q ∈ rest, g.get? q.1 = some q.2) → Fr g L' h₁ (fun y => binds.reverse.lookup y) → News g L' h₁ own → Below A base (env :: outer) g → K.In g → Top p loose mean mg mb g → (∀ p ∈ own, p.1 < L') →
      wpAny (model prog w) (A.deeper (envX qual scope L' f cdv [])) (execs body (envX qual scope L' f cdv []))
        (fun fl s' => LeaveR h₀ L m g rest R (match fl with | .ret v => v | _ => .none) s')
        (fun e s' => wpAny (model prog w) (A.deeper (envX qual scope L' f cdv [])) (leaving (envX qual scope L' f cdv []) e) (fun _ s'' => R (.error e) s'') (fun e' s'' => R (.error e') s'') s')
        { s with heap := h₁, toks := s.toks + binds.length })
    (hcell : ∀ x ∈ scope.names, x.2 ≠ .cell) (hco : scope.isCoroutine = false := by rfl) (hgen : scope.isGenerator = false := by rfl) (hk : scope.kind = .function := by rfl) : codeAny (model prog w) A (.call (.ref f) args) R s := by
  subst hg hL'
  obtain ⟨FG, BG, st, lv⟩ := groundR (R := R) B F N Nr hdis hA hf hke
  refine codeAny_call_def (fd := fnOf name qual params body scope dV kV doc pm an cdv ct) (body := body) (binds := binds) hroom ((X₀.keeps F.keep) _ _ ho) rfl (T.nolimit.keeps F.keep) (codeRec_of (X₀.keeps F.keep) hcd) rfl hbind hcell hloc (fun h₁ hns hk₁ => ?_) hco hgen hk
  exact wpAny_mono (h h₁ FG (rest_ground Nr hdis) ⟨hns, fun b o e => hk₁ b o (of_hideAll _ e), Nat.le_of_eq (hideAll_size _ _)⟩
    (fun p hp => ⟨hk₁ _ _ (N p hp).1, Nat.ne_of_lt (Heap.lt_size (N p hp).1), hideAll_none _ (List.mem_map_of_mem hp)⟩) BG (X₀.keeps st) (T.keeps st) (fun p hp => Heap.lt_size (N p hp).1)) (fun fl s' hl => lv _ _ hl) fun _ _ y => y
theorem enterR2 (B : Below A₀ base outer h₀) (F : Fr h₀ L s.heap m) (X₀ : K.In h₀) (N : News h₀ L s.heap own) (Nr : News h₀ L s.heap rest) (hdis : ∀ p ∈ own, ∀ q ∈ rest, p.1 ≠ q.1) (T : Top p loose mean mg mb h₀) (hA : A.frames = some (env :: outer)) (hf : env.frame = some L) (hke : env.scope.kind = .function)
    (ho : K.lookup f = some ⟨oc, od, .func (fnOf name qual params body scope dV kV doc pm an cdv ct), osl⟩) (hcd : codeIn K cdv qual = true) (hroom : A.depth < recursionLimit)
    (hbind : BindsTo s (fnOf name qual params body scope dV kV doc pm an cdv ct) args binds) (hloc : ∀ y ∈ binds, scope.names.lookup y.1 = some .local)
    (h : ∀ g L' h₁, Fr h₀ L g m → (∀ q ∈ rest, g.get? q.1 = some q.2) → Fr g L' h₁ (fun y => binds.reverse.lookup y) → News g L' h₁ own → Below A base (env :: outer) g → K.In g → Top p loose mean mg mb g → (∀ p ∈ own, p.1 < L') →
      wpAny (model prog w) (A.deeper (envX qual scope L' f cdv [])) (execs body (envX qual scope L' f cdv []))
        (fun fl s' => LeaveR h₀ L m g rest R (match fl with | .ret v => v | _ => .none) s')
        (fun e s' => wpAny (model prog w) (A.deeper (envX qual scope L' f cdv [])) (leaving (envX qual scope L' f cdv []) e) (fun _ s'' => R (.error e) s'') (fun e' s'' => R (.error e') s'') s')
        { s with heap := h₁, toks := s.toks + binds.length })
    (hcell : ∀ x ∈ scope.names, x.2 ≠ .cell) (hco : scope.isCoroutine = false := by rfl) (hgen : scope.isGenerator = false := by rfl) (hk : scope.kind = .function := by rfl) : codeAny (model prog w) A (.call (.ref f) args) R s :=
  enterR20 _ _ rfl rfl B F X₀ N Nr hdis T hA hf hke ho hcd hroom hbind hloc (fun h₁ => h _ _ h₁) hcell hco hgen hk
theorem enterRN20 (g : Heap) (L' : Addr) (hg : g = hideAll s.heap (own.map (·.1))) (hL' : L' = s.heap.objs.size) (B : Below A₀ base outer h₀) (F : Fr h₀ L s.heap m) (X₀ : K.In h₀) (N : News h₀ L s.heap own) (Nr : News h₀ L s.heap rest) (hdis : ∀ p ∈ own, ∀ q ∈ rest, p.1 ≠ q.1) (T : Top p loose mean mg mb h₀) (hA : A.frames = some (env :: outer)) (hf : env.frame = some L) (hke : env.scope.kind = .function)
    (ho : K.lookup f = some ⟨oc, od, .func (fnOf name qual params body scope dV kV doc pm an cdv ct), osl⟩) (hcd : codeIn K cdv qual = true) (hroom : A.depth < recursionLimit)
    (hbind : BindsTo s (fnOf name qual params body scope dV kV doc pm an cdv ct) args binds) (hloc : ∀ y ∈ binds, scope.names.lookup y.1 = some .local)
    (h : ∀ h₁, Fr h₀ L g m → (∀ q ∈ rest, g.get? q.1 = some q.2) → Fr g L' h₁ (fun y => binds.reverse.lookup y) → News g L' h₁ own → Below A base (env :: outer) g → K.In g → Top p loose mean mg mb g → (∀ p ∈ own, p.1 < L') →
      wpN (model prog w) (A.deeper (envX qual scope L' f cdv [])) (execs body (envX qual scope L' f cdv []))
        (fun fl s' => LeaveR h₀ L m g rest R (match fl with | .ret v => v | _ => .none) s')
        (fun e s' => wpAny (model prog w) (A.deeper (envX qual scope L' f cdv [])) (leaving (envX qual scope L' f cdv []) e) (fun _ s'' => R (.error e) s'') (fun e' s'' => R (.error e') s'') s')
        { s with heap := h₁, toks := s.toks + binds.length })
    (hcell : ∀ x ∈ scope.names, x.2 ≠ .cell) (hco : scope.isCoroutine = false := by rfl) (hgen : scope.isGenerator = false := by rfl) (hk : scope.kind = .function := by rfl) : codeN (model prog w) A (.call (.ref f) args) R s := by
  subst hg hL'
  obtain ⟨FG, BG, st, lv⟩ := groundR (R := R) B F N Nr hdis hA hf hke
  refine cnCallFn (fd := fnOf name qual params body scope dV kV doc pm an cdv ct) hroom ((X₀.keeps F.keep) _ _ ho) rfl hco hgen rfl (codeRec_of (X₀.keeps F.keep) hcd) (hbind _ _ _ _ ?_)
  refine wpAny_newFunctionEnv hcell hloc (fun h₁ hns hsb => ⟨(T.nolimit.keeps F.keep).fresh _ hsb, cnFunc ?_⟩) hk
  have hk₁ : ∀ b o, s.heap.get? b = some o → h₁.get? b = some o := fun b o e => hsb.extBut b o (Nat.ne_of_lt (Heap.lt_size e)) (Heap.get?_push_of_some _ e)
  exact nMono (h h₁ FG (rest_ground Nr hdis) ⟨hns, fun b o e => hk₁ b o (of_hideAll _ e), Nat.le_of_eq (hideAll_size _ _)⟩
    (fun p hp => ⟨hk₁ _ _ (N p hp).1, Nat.ne_of_lt (Heap.lt_size (N p hp).1), hideAll_none _ (List.mem_map_of_mem hp)⟩) BG (X₀.keeps st) (T.keeps st) (fun p hp => Heap.lt_size (N p hp).1)) (fun fl s' hl => lv _ _ hl) fun _ _ y => y
end
theorem tcw (C : Addr) (rest : List Value) : (Code.builtin "type.__call__" ⟨.ref C :: rest, []⟩).weight = 1 := by kernel_rfl
theorem tce (C : Addr) (rest : List Value) : (Code.builtin "type.__call__" ⟨.ref C :: rest, []⟩).envs = [] := by kernel_rfl
theorem tcg (C : Addr) (rest : List Value) : (Code.builtin "type.__call__" ⟨.ref C :: rest, []⟩).guards = [] := by kernel_rfl
theorem tcu (C : Addr) (rest : List Value) : (Code.builtin "type.__call__" ⟨.ref C :: rest, []⟩).cUnits = 1 := by kernel_rfl
theorem tc_under {dp un : Nat} {gd : Option (List Code)} {cn : Str} {cs : Scope} {L a : Addr} {ccd : Value} {cl : List (Str × Addr)} {outer : List Env} (C : Addr) (rest : List Value) :
    (ktrTop dp un gd cn cs L a ccd cl outer).under (.builtin "type.__call__" ⟨.ref C :: rest, []⟩) = ktrTop (dp + 1) (un + 1) gd cn cs L a ccd cl outer := by
  simp only [Around.under, tcw, tce, tcg, tcu, pushEnvs, pushGuards]
end
section
set_option maxHeartbeats 8000000
theorem kwC11 : True := by
  k_with "call ref" => ((with_reducible show wpAny _ _ (call (Value.ref 45) [Value.bytes _ _]) _ _ _); k_dflt (refine' Spec.use0 (exc_spec _ _ _) ?qqB ?qqF ?qqX ?qqN ?qqT ?qqhk ?qqhd ?qqhu ?_; (case qqB => k_asm); (case qqF => k_asm); (case qqX => k_asm); (case qqN => k_asm); (case qqT => k_asm); (case qqhk => exact rfl); (case qqhd => ktr_room); (case qqhu => ktr_units); k_whole); intro _ _ _ _ qqhR9 _ qqN9 qqD9; obtain ⟨_, _, _, _, _, qqe1, qqe2⟩ := qqhR9; subst qqe1; subst qqe2; clear qqD9; (try simp only [List.nil_append] at qqN9))
  k_with "exec Raise some none" => (k_here; k_dflt (refine xRaise rfl ?_))
  k_with "compareOp NotIn int ref" => (k_here; k_dflt (refine' notin_tuple_ints ?qqzt ?qqzi ?_; (case qqzt => exact tupK (Frag.In.keeps (by k_asm) (Fr.keep (by k_asm))) (by k_is)); (case qqzi => repeat constructor)))
  exact True.intro
noncomputable abbrev shapeDict (w : World) (way colors bits cols : Int) (t1 t2 t3 t4 k1 k2 k3 k4 : Tok) : Obj :=
  dictOf [⟨PyData.keyHash w.params (Str.ofString "predictor"), .str (Str.ofString "predictor") k1, .int way t1⟩, ⟨PyData.keyHash w.params (Str.ofString "colors"), .str (Str.ofString "colors") k2, .int colors t2⟩,
    ⟨PyData.keyHash w.params (Str.ofString "bits"), .str (Str.ofString "bits") k3, .int bits t3⟩, ⟨PyData.keyHash w.params (Str.ofString "columns"), .str (Str.ofString "columns") k4, .int cols t4⟩] 4
noncomputable def vShape (way colors bits cols : Int) : Prop := (way = 1 ∨ way = 2 ∨ (10 ≤ way ∧ way ≤ 15)) ∧ 1 ≤ colors ∧ 1 ≤ cols ∧ bits ∈ [1, 2, 4, 8, 16]
noncomputable def rangecheck : Array UInt8 := #[114, 97, 110, 103, 101, 99, 104, 101, 99, 107]
section
variable {prog : Program} {w : World} {A : Around} {E : Value → Shared → Prop} {s : Shared} {env : Env} {h₀ : Heap} {L : Addr} {m : Str → Option Value} {nw : List (Addr × Obj)} {st : Stmt} {rest : List Stmt} {Q : Flow → Shared → Prop}
noncomputable def GateEnd (h₀ : Heap) (L : Addr) (m : Str → Option Value) (nw : List (Addr × Obj)) (s : Shared) (P : Prop) (f : Flow) (s' : Shared) : Prop :=
  f = .next ∧ ∃ h' tk', s' = { s with heap := h', toks := tk' } ∧ Fr h₀ L h' m ∧ News h₀ L h' nw ∧ P
theorem GateEnd.intro {P : Prop} {h' : Heap} {tk' : Nat} (F : Fr h₀ L h' m) (N : News h₀ L h' nw) (hP : P) : GateEnd h₀ L m nw s P .next { s with heap := h', toks := tk' } := ⟨rfl, h', tk', rfl, F, N, hP⟩
theorem aGate (F : Fr h₀ L s.heap m) (N : News h₀ L s.heap nw) (P : Prop)
    (h1 : wpAny (model prog w) A (exec st env) (GateEnd h₀ L m nw s P) E s)
    (h2 : ∀ h' tk', Fr h₀ L h' m → News h₀ L h' nw → P → wpAny (model prog w) A (execs rest env) Q E { s with heap := h', toks := tk' }) : wpAny (model prog w) A (execs (st :: rest) env) Q E s := by
  refine wpAny_execs_cons (wpAny_mono h1 (fun f s' hq => ?_) fun _ _ q => q)
  obtain ⟨rfl, h', tk', rfl, F', N', hP⟩ := hq
  exact h2 h' tk' F' N' hP
end
namespace H_shape_spec
abbrev hkD : Type := ((((World × Int) × Int) × (Int × Int)) × (((Tok × Tok) × Tok) × (Tok × Tele)))
def hkP (w : World) (way : Int) (colors : Int) (bits : Int) (cols : Int) (t1 : Tok) (t2 : Tok) (t3 : Tok) (t4 : Tok) (hkT : Tele) : Prop := SpecRAt w 80 [.int way t1, .int colors t2, .int bits t3, .int cols t4] [] 6
      (fun r n => vShape way colors bits cols ∧ ∃ x dx k1 k2 k3 k4, r = .ref x ∧ n = [(x, instObj 80 dx), (dx, shapeDict w way colors bits cols t1 t2 t3 t4 k1 k2 k3 k4)])
      (fun v => ¬ vShape way colors bits cols ∧ ∃ t, v = .bytes rangecheck t) hkT
def hkU (d : hkD) : Prop := hkP d.1.1.1.1 d.1.1.1.2 d.1.1.2 d.1.2.1 d.1.2.2 d.2.1.1.1 d.2.1.1.2 d.2.1.2 d.2.2.1 d.2.2.2
theorem hkN : Nonempty hkD := (ne2 (ne2 (ne2 (ne2 neWorld ⟨default⟩) ⟨default⟩) (ne2 ⟨default⟩ ⟨default⟩)) (ne2 (ne2 (ne2 ⟨default⟩ ⟨default⟩) ⟨default⟩) (ne2 ⟨default⟩ neTele)))
@[irreducible] def hkV : hkD := hk_c hkN hkU
@[irreducible] def w : World := hkV.1.1.1.1
@[irreducible] def way : Int := hkV.1.1.1.2
@[irreducible] def colors : Int := hkV.1.1.2
@[irreducible] def bits : Int := hkV.1.2.1
@[irreducible] def cols : Int := hkV.1.2.2
@[irreducible] def t1 : Tok := hkV.2.1.1.1
@[irreducible] def t2 : Tok := hkV.2.1.1.2
@[irreducible] def t3 : Tok := hkV.2.1.2
@[irreducible] def t4 : Tok := hkV.2.2.1
@[irreducible] def hkT : Tele := hkV.2.2.2
theorem core : hkP w way colors bits cols t1 t2 t3 t4 hkT := by
  unfold hkP SpecRAt
  intro B F X N Nr hdis T hk hd hu hret hE
  k_dflt (refine' call_cls F X Nr ?a ?b ?c ?_; (case a => k_is); (case b => k_is); (case c => k_is))
  intro x dx h1 F1 N1 lt1 lt2
  rw [tc_under]
  replace N1 : News hkT.h₀ hkT.L h1 ([(x, instObj 80 dx), (dx, dictOf [] 0)] ++ hkT.rest) := N1
  have N2 : News hkT.h₀ hkT.L h1 [(x, instObj 80 dx), (dx, dictOf [] 0)] := news_sub N1 fun p hp => List.mem_append_left _ hp
  have hdis2 : ∀ p ∈ [(x, instObj 80 dx), (dx, dictOf [] 0)], ∀ q ∈ hkT.rest, p.1 ≠ q.1 := by
    intro p hp q hq
    have := lt1 q hq
    rcases List.mem_cons.mp hp with rfl | hp
    · exact Nat.ne_of_gt (Nat.lt_trans this lt2)
    · rw [List.mem_singleton.mp hp]; exact Nat.ne_of_gt this
  k_dflt (refine' enterR2 (binds := [(Str.ofString "self", .ref x), (Str.ofString "predictor", .int way t1), (Str.ofString "colors", .int colors t2), (Str.ofString "bits", .int bits t3), (Str.ofString "columns", .int cols t4)]) B F1 X N2 (news_sub N1 fun p hp => List.mem_append_right _ hp) hdis2 T rfl rfl hk ?k6 ?k7 ?k8 ?k9 ?kB ?_ ?c5 ?c2 ?c3 ?c4; (case k6 => k_is); (case k7 => k_is); (case k8 => ktr_room); (case k9 => exact binds_K (by k_in) rfl (by k_is) rfl rfl rfl); (case c5 => decide); (case kB => exact locs rfl); (case c2 => exact rfl); (case c3 => exact rfl); (case c4 => exact rfl); k_whole)
  intro g L' h2 FG hrest F' N' B' X' T' l1
  try dsimp only
  have hne : x ≠ dx := Nat.ne_of_gt lt2
  try k_lt l1
  have hst := B'.stays
  have hfs := B'.frames
  try k_lift B'
  refine aGate (by k_asm) (by k_asm) (way = 1 ∨ way = 2 ∨ (10 ≤ way ∧ way ≤ 15)) ?_ ?_
  · k_steps
    all_goals (try dsimp only)
    all_goals first
      | (refine ⟨_, _, _, rfl, Frag.In.keeps (by k_asm) (Fr.keep (by k_asm)), (News.get (by assumption) (List.Mem.tail _ (List.Mem.head _))), ?_⟩
         refine flyHere (w := w) (v := .bytes rangecheck _) hst hfs (Around.frames_deeper rfl) rfl (by intro q; cases q) (by assumption) (by assumption) fun h9 X9 => hE _ _ _ _ _ ⟨?_, _, rfl⟩ FG hrest X9
         rintro ⟨v1, v2, v3, v4⟩
         simp only [List.mem_cons, List.not_mem_nil, or_false] at v4
         simp only [List.any_cons, List.any_nil, Bool.or_false, Bool.or_eq_false_iff, beq_eq_false_iff_ne, Bool.or_eq_true, beq_iff_eq] at *
         lia)
      | (refine GateEnd.intro (by k_asm) (news_sub (by k_asm) (by k_sub)) ?_
         simp only [List.any_cons, List.any_nil, Bool.or_false, Bool.or_eq_false_iff, beq_eq_false_iff_ne, Bool.or_eq_true, beq_iff_eq] at *
         lia)
  intro h3 tk3 F3 N3 hP
  dsimp only
  k_steps
  all_goals first
    | (refine ⟨_, _, _, rfl, Frag.In.keeps (by k_asm) (Fr.keep (by k_asm)), (News.get (by assumption) (List.Mem.tail _ (List.Mem.head _))), ?_⟩
       refine flyHere (w := w) (v := .bytes rangecheck _) hst hfs (Around.frames_deeper rfl) rfl (by intro q; cases q) (by assumption) (by assumption) fun h9 X9 => hE _ _ _ _ _ ⟨?_, _, rfl⟩ FG hrest X9
       rintro ⟨v1, v2, v3, v4⟩
       simp only [List.mem_cons, List.not_mem_nil, or_false] at v4
       simp only [List.any_cons, List.any_nil, Bool.or_false, Bool.or_eq_false_iff, beq_eq_false_iff_ne, Bool.or_eq_true, beq_iff_eq] at *
       lia)
    | (refine' leaveR_ (own' := [(x, instObj 80 dx), (dx, shapeDict w way colors bits cols t1 t2 t3 t4 _ _ _ _)]) (by assumption) (news_sub (by assumption) ?nn) (fun aF aN aD => ⟨rfl, hret _ [(x, instObj 80 dx), (dx, shapeDict w way colors bits cols t1 t2 t3 t4 _ _ _ _)] _ _ aF aN aD ⟨⟨?_, by lia, by lia, ?_⟩, _, _, _, _, _, _, rfl, rfl⟩⟩)
       case nn => k_sub
       all_goals ((try simp only [List.mem_cons, List.not_mem_nil, or_false]); simp only [List.any_cons, List.any_nil, Bool.or_false, Bool.or_eq_false_iff, beq_eq_false_iff_ne, Bool.or_eq_true, beq_iff_eq] at *; lia))
end H_shape_spec
theorem shape_spec (w : World) (way colors bits cols : Int) (t1 t2 t3 t4 : Tok) :
    SpecR w 80 [.int way t1, .int colors t2, .int bits t3, .int cols t4] [] 6
      (fun r n => vShape way colors bits cols ∧ ∃ x dx k1 k2 k3 k4, r = .ref x ∧ n = [(x, instObj 80 dx), (dx, shapeDict w way colors bits cols t1 t2 t3 t4 k1 k2 k3 k4)])
      (fun v => ¬ vShape way colors bits cols ∧ ∃ t, v = .bytes rangecheck t) :=
  SpecR.mk fun t => hk_all H_shape_spec.hkN H_shape_spec.hkU (by with_unfolding_all exact H_shape_spec.core) ((((w, way), colors), (bits, cols)), (((t1, t2), t3), (t4, t)))
end
section
set_option maxHeartbeats 8000000
section
variable {prog : Program} {w : World} {A : Around} {E : Value → Shared → Prop} {s : Shared} {e D : Addr} {oe : Obj} {k : Tok} {v : Value} {expr : Bool} {Q : Value → Shared → Prop}
theorem xTold (X : (Mine.hd.heap_39 w.params).In s.heap) (he : s.heap.get? e = some oe) (hc : oe.cls = .ref 45) (hd : oe.dict = some D) (hn : notCls oe = true) (hD : s.heap.get? D = some (toldDict w k v)) (hv : handedIn v = true)
    (h : Q v { s with toks := s.toks + 1 }) : wpAny (model prog w) A (getAttr (.ref e) (Str.ofString "told") expr) Q E s := by
  have I : InstAt s.heap e oe 45 (some (toldDict w k v)) := ⟨he, hc, hn, by rw [hd]; exact hD⟩
  have hf : findObj (Mine.hd.heap_39 w.params) 45 (some (toldDict w k v)) (Str.ofString "told") = some (.value v) :=
    findObj_own (attr := none) (by k_is) (by k_is) (by rfl) rfl
  obtain ⟨hh', g, d, t, os⟩ := s
  have L0 := I.type (M := model prog w)
  have L1 := looks_findIn (M := model prog w) X (show findIn (Mine.hd.heap_39 w.params) (.ref 45) "__getattribute__" = some (some (.builtin "BaseException.__getattribute__")) by k_is)
  unfold getAttr getAttrBy
  refine wpAny_bind (wpAny_mkText (wpAny_holding (wpAny_bind (L0.at (wpAny_bind (L1.at ?_))))))
  have hx2 : (Value.builtin "BaseException.__getattribute__" == Value.builtin "object.__getattribute__") = false := by decide +kernel
  dsimp only
  refine bm_if_false (by rw [hx2]; rfl) ?_
  have L2 := looks_findIn (M := model prog w) X (show findIn (Mine.hd.heap_39 w.params) (.ref 45) "__getattr__" = some none by k_is)
  have L3 := looks_find (M := model prog w) X I hf
  have f3 := PySem.F.attr_Exception.ga.bind (.ref e)
  have hx0 : (expr && onTheHeap (Value.builtin "BaseException.__getattribute__")) = false := by cases expr <;> rfl
  dsimp only at he
  repeat (any_goals (first | assumption | (with_reducible refine wpAny_loadPart_at he ?_; rw [hc]) | with_reducible refine L2.at ?_ | wp_step))
  have hk : builtinKind "BaseException.__getattribute__" = some .slot := by decide +kernel
  have hsplit : splitId "BaseException.__getattribute__" = some ("BaseException", "__getattribute__") := by decide +kernel
  have sub : Looks (model prog w) hh' (isInstance (.ref e) (.type "BaseException")) true := L0.andThen (looks_mroIn X (show mroIn (Mine.hd.heap_39 w.params) 45 (.type "BaseException") = some true by k_is))
  refine codeAny_call_builtin PySem.F.attr_Exception.ga.plain PySem.F.entry_bexc_ga (@check_slot (model prog w) _ _ ⟨hh', g, d, t + 1, os⟩ "BaseException.__getattribute__" "BaseException" "__getattribute__" (.ref e) [.str (Str.ofString "told") t] [] _ hk hsplit sub (PySem.F.args_bexc_ga (.ref e) _) ?_)
  unfold Builtin.«object.__getattribute__»
  refine wpAny_bind (wpAny_pure (wpAny_bind (wpAny_pure (wpAny_bind (L0.at (wpAny_bind (L3.at (wpAny_pure ?_))))))))
  show wpAny _ _ (handedOut v) _ _ _
  rw [handedOut_of hv]; exact wpAny_pure h
end
section
variable {prog : Program} {w : World} {A A₀ : Around} {E : Value → Shared → Prop} {s : Shared} {base g G h₀ : Heap} {outer : List Env} {L L₁ e : Addr} {m m₁ : Str → Option Value} {name : Str} {scope : Scope} {a : Addr} {cd v : Value}
  {n : Str} {b₀ : Stmt} {suite : List Stmt} {pos np : Pos} {rest : List ExceptHandler} {Q : Flow → Shared → Prop} {p : Program} {loose : List Str} {mean : ExcName → Option Value} {mg mb : Str → Option Value}
end
section
namespace H_fly_news
abbrev hkD : Type := ((((World × Shared) × (Heap × Addr)) × ((Addr × (Str → Option Value)) × Value)) × (((Value × Heap) × ((List Env) × Addr)) × ((Tok × Heap) × (List Addr))))
def hkP (w : World) (s : Shared) (g : Heap) (L : Addr) (e : Addr) (m : Str → Option Value) (v : Value) (fl : Value) (B : Heap) (l : List Env) (D : Addr) (k : Tok) (g' : Heap) (fs : List Addr) : Prop := ∀ (hf : L ∈ l.filterMap (·.frame)) (x3 : B.get? D = some (toldDict w k v)) (x4 : g.get? D = none) (x5 : g.get? e = none) (T : KtsTurn fs g g') (y : Fly B l e D fl s.heap) (F : Fr g' L s.heap m), ∃ oe, oe.cls = .ref 45 ∧ oe.dict = some D ∧ notCls oe = true ∧ News g' L s.heap [(D, toldDict w k v), (e, oe)]
def hkU (d : hkD) : Prop := hkP d.1.1.1.1 d.1.1.1.2 d.1.1.2.1 d.1.1.2.2 d.1.2.1.1 d.1.2.1.2 d.1.2.2 d.2.1.1.1 d.2.1.1.2 d.2.1.2.1 d.2.1.2.2 d.2.2.1.1 d.2.2.1.2 d.2.2.2
theorem hkN : Nonempty hkD := (ne2 (ne2 (ne2 (ne2 neWorld neShared) (ne2 ⟨default⟩ ⟨default⟩)) (ne2 (ne2 ⟨default⟩ ⟨default⟩) ⟨default⟩)) (ne2 (ne2 (ne2 ⟨default⟩ ⟨default⟩) (ne2 ⟨default⟩ ⟨default⟩)) (ne2 (ne2 ⟨default⟩ ⟨default⟩) ⟨default⟩)))
@[irreducible] def hkV : hkD := hk_c hkN hkU
@[irreducible] def w : World := hkV.1.1.1.1
@[irreducible] def s : Shared := hkV.1.1.1.2
@[irreducible] def g : Heap := hkV.1.1.2.1
@[irreducible] def L : Addr := hkV.1.1.2.2
@[irreducible] def e : Addr := hkV.1.2.1.1
@[irreducible] def m : Str → Option Value := hkV.1.2.1.2
@[irreducible] def v : Value := hkV.1.2.2
@[irreducible] def fl : Value := hkV.2.1.1.1
@[irreducible] def B : Heap := hkV.2.1.1.2
@[irreducible] def l : List Env := hkV.2.1.2.1
@[irreducible] def D : Addr := hkV.2.1.2.2
@[irreducible] def k : Tok := hkV.2.2.1.1
@[irreducible] def g' : Heap := hkV.2.2.1.2
@[irreducible] def fs : List Addr := hkV.2.2.2
theorem core : hkP w s g L e m v fl B l D k g' fs := by
  unfold hkP
  intro hf x3 x4 x5 T y F
  obtain ⟨y1, y2, y3, oe, vs, T', oT, ts, he, hc, hx, hd, -⟩ := y
  obtain ⟨oL, es, ep, hL, hLd, _⟩ := F.ns
  refine ⟨oe, hc, hx, ?_, fun q hq => ?_⟩
  · obtain ⟨_, _, dt, _⟩ := oe; cases hd; rfl
  · rcases List.mem_cons.mp hq with rfl | hq
    · exact ⟨y1 _ _ x3, (fun z => by rw [show D = L from z, (y3.mem hf).1] at x3; cases x3), T.none_ _ x4⟩
    · rw [List.mem_singleton.mp hq]
      exact ⟨he, (fun z => by rw [show e = L from z, hL] at he; cases he; rw [hLd] at hd; cases hd), T.none_ _ x5⟩
end H_fly_news
end
section
variable {prog : Program} {w : World} {A A₀ : Around} {E : Value → Shared → Prop} {s : Shared} {base g G h₀ : Heap} {outer : List Env} {L L₁ e : Addr} {m m₁ : Str → Option Value} {name : Str} {scope : Scope} {a : Addr} {cd v : Value}
  {n : Str} {b₀ : Stmt} {suite : List Stmt} {pos np : Pos} {rest : List ExceptHandler} {Q : Flow → Shared → Prop} {p : Program} {loose : List Str} {mean : ExcName → Option Value} {mg mb : Str → Option Value}
theorem fly_news {fl : Value} {B : Heap} {l : List Env} {D : Addr} {k : Tok} {g' : Heap} {fs : List Addr} (hf : L ∈ l.filterMap (·.frame)) (x3 : B.get? D = some (toldDict w k v)) (x4 : g.get? D = none) (x5 : g.get? e = none) (T : KtsTurn fs g g') (y : Fly B l e D fl s.heap) (F : Fr g' L s.heap m) :
    ∃ oe, oe.cls = .ref 45 ∧ oe.dict = some D ∧ notCls oe = true ∧ News g' L s.heap [(D, toldDict w k v), (e, oe)] :=
  hk_all H_fly_news.hkN H_fly_news.hkU (by with_unfolding_all exact H_fly_news.core) ((((w, s), (g, L)), ((e, m), v)), (((fl, B), (l, D)), ((k, g'), fs))) hf x3 x4 x5 T y F
end
section
namespace H_xCaught
abbrev hkD : Type := (((((Program × World) × (Around × Around)) × (((Value → Shared → Prop) × Shared) × Heap)) × (((Heap × Heap) × ((List Env) × Addr)) × ((Addr × (Str → Option Value)) × Str))) × ((((Scope × Addr) × (Value × Value)) × ((Str × Stmt) × (List Stmt))) × (((Pos × Pos) × ((Flow → Shared → Prop) × Program)) × (((List Str) × (Str → Option Value)) × (Str → Option Value)))))
def hkP (prog : Program) (w : World) (A : Around) (A₀ : Around) (E : Value → Shared → Prop) (s : Shared) (base : Heap) (g : Heap) (G : Heap) (outer : List Env) (L : Addr) (e : Addr) (m : Str → Option Value) (name : Str) (scope : Scope) (a : Addr) (cd : Value) (v : Value) (n : Str) (b₀ : Stmt) (suite : List Stmt) (pos : Pos) (np : Pos) (Q : Flow → Shared → Prop) (p : Program) (loose : List Str) (mg : Str → Option Value) (mb : Str → Option Value) : Prop := ∀ (rest : List ExceptHandler) (K : Below A₀ base outer g) (hA : A.frames = some (envOf name scope L a cd :: outer)) (F : Fr g L G m) (X : FlyG w base G (envOf name scope L a cd :: outer) .none e v s.heap) (hup : ∀ g', KtsTurn (outer.filterMap (·.frame)) g g' → (Mine.hd.heap_39 w.params).In g' ∧ TopRead p loose mg mb g') (k : ∀ h' g' tk D oe k, KtsTurn (outer.filterMap (·.frame)) g g' → Below A₀ base outer g' → Fr g' L h' (fun y => if y = n then some (.ref e) else m y) → oe.cls = .ref 45 → oe.dict = some D → notCls oe = true → News g' L h' [(D, toldDict w k v), (e, oe)] →
      wpAny (model prog w) (A.mark (some (.ref e))) (execs (b₀ :: suite) (envOf name scope L a cd))
        (fun f s₄ => wpAny (model prog w) A (do bindName (envOf name scope L a cd) n .none; unbindBehindTheSuite (envOf name scope L a cd) n pos) (fun _ s₅ => Q f s₅) E s₄)
        (fun _ _ => False) { s with heap := h', toks := tk }) (hk : scope.kind = .function) (hlo : (envOf name scope L a cd).kindOf n = some .local) (hx : (envOf name scope L a cd).kindOf (Str.ofString "PsError") = some .globalImplicit), wpAny (model prog w) A (noteFrame (.ref e) (envOf name scope L a cd)) (fun _ s₂ => wpAny (model prog w) A (setFlight (.ref e) none) (fun _ s₃ =>
      wpAny (model prog w) A (handleBy (.ref e) (envOf name scope L a cd) (.ExceptHandler (some (.Name (Str.ofString "PsError") np)) (some n) (b₀ :: suite) pos :: rest)) Q E s₃) E s₂) E s
def hkU (d : hkD) : Prop := hkP d.1.1.1.1.1 d.1.1.1.1.2 d.1.1.1.2.1 d.1.1.1.2.2 d.1.1.2.1.1 d.1.1.2.1.2 d.1.1.2.2 d.1.2.1.1.1 d.1.2.1.1.2 d.1.2.1.2.1 d.1.2.1.2.2 d.1.2.2.1.1 d.1.2.2.1.2 d.1.2.2.2 d.2.1.1.1.1 d.2.1.1.1.2 d.2.1.1.2.1 d.2.1.1.2.2 d.2.1.2.1.1 d.2.1.2.1.2 d.2.1.2.2 d.2.2.1.1.1 d.2.2.1.1.2 d.2.2.1.2.1 d.2.2.1.2.2 d.2.2.2.1.1 d.2.2.2.1.2 d.2.2.2.2
theorem hkN : Nonempty hkD := (ne2 (ne2 (ne2 (ne2 (ne2 neProg neWorld) (ne2 neAround neAround)) (ne2 (ne2 ⟨default⟩ neShared) ⟨default⟩)) (ne2 (ne2 (ne2 ⟨default⟩ ⟨default⟩) (ne2 ⟨default⟩ ⟨default⟩)) (ne2 (ne2 ⟨default⟩ ⟨default⟩) ⟨default⟩))) (ne2 (ne2 (ne2 (ne2 ⟨default⟩ ⟨default⟩) (ne2 ⟨default⟩ ⟨default⟩)) (ne2 (ne2 ⟨default⟩ ⟨default⟩) ⟨default⟩)) (ne2 (ne2 (ne2 ⟨default⟩ ⟨default⟩) (ne2 ⟨default⟩ neProg)) (ne2 (ne2 ⟨default⟩ ⟨default⟩) ⟨default⟩))))
@[irreducible] def hkV : hkD := hk_c hkN hkU
@[irreducible] def prog : Program := hkV.1.1.1.1.1
@[irreducible] def w : World := hkV.1.1.1.1.2
@[irreducible] def A : Around := hkV.1.1.1.2.1
@[irreducible] def A₀ : Around := hkV.1.1.1.2.2
@[irreducible] def E : Value → Shared → Prop := hkV.1.1.2.1.1
@[irreducible] def s : Shared := hkV.1.1.2.1.2
@[irreducible] def base : Heap := hkV.1.1.2.2
@[irreducible] def g : Heap := hkV.1.2.1.1.1
@[irreducible] def G : Heap := hkV.1.2.1.1.2
@[irreducible] def outer : List Env := hkV.1.2.1.2.1
@[irreducible] def L : Addr := hkV.1.2.1.2.2
@[irreducible] def e : Addr := hkV.1.2.2.1.1
@[irreducible] def m : Str → Option Value := hkV.1.2.2.1.2
@[irreducible] def name : Str := hkV.1.2.2.2
@[irreducible] def scope : Scope := hkV.2.1.1.1.1
@[irreducible] def a : Addr := hkV.2.1.1.1.2
@[irreducible] def cd : Value := hkV.2.1.1.2.1
@[irreducible] def v : Value := hkV.2.1.1.2.2
@[irreducible] def n : Str := hkV.2.1.2.1.1
@[irreducible] def b₀ : Stmt := hkV.2.1.2.1.2
@[irreducible] def suite : List Stmt := hkV.2.1.2.2
@[irreducible] def pos : Pos := hkV.2.2.1.1.1
@[irreducible] def np : Pos := hkV.2.2.1.1.2
@[irreducible] def Q : Flow → Shared → Prop := hkV.2.2.1.2.1
@[irreducible] def p : Program := hkV.2.2.1.2.2
@[irreducible] def loose : List Str := hkV.2.2.2.1.1
@[irreducible] def mg : Str → Option Value := hkV.2.2.2.1.2
@[irreducible] def mb : Str → Option Value := hkV.2.2.2.2
theorem core : hkP prog w A A₀ E s base g G outer L e m name scope a cd v n b₀ suite pos np Q p loose mg mb := by
  unfold hkP
  intro rest K hA F X hup k hk hlo hx
  obtain ⟨B, D, kk, x1, x2, x3, x4, x5, x6, x7⟩ := X
  have x4' := none_up F.keep x4
  have x5' := none_up F.keep x5
  refine xNote hA rfl x6 fun h₁ y1 u1 => xLight none y1 fun h₂ y2 u2 => ?_
  obtain ⟨g₂, T₂, F₂, K₂⟩ := kts_ground K F x2 y2.1 (x7.trans (u1.trans u2))
  obtain ⟨Xg, Tg⟩ := hup g₂ T₂
  refine wpAny_handleBy_cons (codeAny_handlers_test (name_K F₂ Xg Tg (by k_is) ?_ hk hx (by decide))) (by intro q; cases q)
  have hC := (Xg.keeps F₂.keep) 45 _ (by k_is)
  obtain ⟨_, _, _, oe, vs, T', oT, ts, he, hc, hdx, hd, -⟩ := id y2
  refine wpAny_excMatches_sub_self (bm := [.ref 32, .type "Exception", .type "BaseException", .type "object"]) hC he hc (by decide +kernel) (codeAny_handlers_suite_as ?_)
  refine xLight none y2 fun h₃ y3 u3 => ?_
  obtain ⟨g₃, T₃, F₃, K₃⟩ := kts_ground K F x2 y3.1 (x7.trans (u1.trans (u2.trans u3)))
  obtain ⟨oe₃, c1, c2, c3, N₃⟩ := fly_news (w := w) (v := v) (s := ⟨h₃, s.gens, s.drawn, s.toks, s.os⟩) (.head _) x3 x4' x5' T₃ y3 F₃
  refine stN F₃ N₃ (fun h₄ F₄ N₄ => ?_) hk hlo
  exact wpAny_mono (k h₄ g₃ _ D oe₃ kk T₃ K₃ F₄ c1 c2 c3 N₄) (fun _ _ q => q) fun _ _ q => q.elim
end H_xCaught
end
section
variable {prog : Program} {w : World} {A A₀ : Around} {E : Value → Shared → Prop} {s : Shared} {base g G h₀ : Heap} {outer : List Env} {L L₁ e : Addr} {m m₁ : Str → Option Value} {name : Str} {scope : Scope} {a : Addr} {cd v : Value}
  {n : Str} {b₀ : Stmt} {suite : List Stmt} {pos np : Pos} {rest : List ExceptHandler} {Q : Flow → Shared → Prop} {p : Program} {loose : List Str} {mean : ExcName → Option Value} {mg mb : Str → Option Value}
theorem xCaught (K : Below A₀ base outer g) (hA : A.frames = some (envOf name scope L a cd :: outer)) (F : Fr g L G m) (X : FlyG w base G (envOf name scope L a cd :: outer) .none e v s.heap)
    (hup : ∀ g', KtsTurn (outer.filterMap (·.frame)) g g' → (Mine.hd.heap_39 w.params).In g' ∧ TopRead p loose mg mb g')
    (k : ∀ h' g' tk D oe k, KtsTurn (outer.filterMap (·.frame)) g g' → Below A₀ base outer g' → Fr g' L h' (fun y => if y = n then some (.ref e) else m y) → oe.cls = .ref 45 → oe.dict = some D → notCls oe = true → News g' L h' [(D, toldDict w k v), (e, oe)] →
      wpAny (model prog w) (A.mark (some (.ref e))) (execs (b₀ :: suite) (envOf name scope L a cd))
        (fun f s₄ => wpAny (model prog w) A (do bindName (envOf name scope L a cd) n .none; unbindBehindTheSuite (envOf name scope L a cd) n pos) (fun _ s₅ => Q f s₅) E s₄)
        (fun _ _ => False) { s with heap := h', toks := tk })
    (hk : scope.kind = .function := by rfl) (hlo : (envOf name scope L a cd).kindOf n = some .local := by rfl) (hx : (envOf name scope L a cd).kindOf (Str.ofString "PsError") = some .globalImplicit := by rfl) :
    wpAny (model prog w) A (noteFrame (.ref e) (envOf name scope L a cd)) (fun _ s₂ => wpAny (model prog w) A (setFlight (.ref e) none) (fun _ s₃ =>
      wpAny (model prog w) A (handleBy (.ref e) (envOf name scope L a cd) (.ExceptHandler (some (.Name (Str.ofString "PsError") np)) (some n) (b₀ :: suite) pos :: rest)) Q E s₃) E s₂) E s :=
  hk_all H_xCaught.hkN H_xCaught.hkU (by with_unfolding_all exact H_xCaught.core) (((((prog, w), (A, A₀)), ((E, s), base)), (((g, G), (outer, L)), ((e, m), name))), ((((scope, a), (cd, v)), ((n, b₀), suite)), (((pos, np), (Q, p)), ((loose, mg), mb)))) rest K hA F X hup k hk hlo hx
end
end
section
set_option maxHeartbeats 8000000
theorem kwC21 : True := by
  exact True.intro
structure ShapeOk (way colors bits cols : Int) : Prop where
  way0 : 0 ≤ way ∧ way ≤ 15
  col : 1 ≤ colors ∧ colors ≤ 4
  bit : bits ∈ [1, 2, 4, 8, 16]
  wid : 1 ≤ cols ∧ cols ≤ 24
theorem bits_range {bits : Int} (h : bits ∈ [1, 2, 4, 8, 16]) : 1 ≤ bits ∧ bits ≤ 16 := by
  simp only [List.mem_cons, List.not_mem_nil, or_false] at h; lia
theorem ShapeOk.cb {way colors bits cols : Int} (S : ShapeOk way colors bits cols) : 1 ≤ colors * bits ∧ colors * bits ≤ 64 := by
  obtain ⟨a, b⟩ := bits_range S.bit
  have h1 := Int.mul_le_mul S.col.1 a (by decide) (by have := S.col; lia)
  have h2 := Int.mul_le_mul S.col.2 b (by lia) (by decide)
  lia
theorem ShapeOk.cbc {way colors bits cols : Int} (S : ShapeOk way colors bits cols) : 1 ≤ colors * bits * cols ∧ colors * bits * cols ≤ 1536 := by
  obtain ⟨a, b⟩ := S.cb
  have h1 := Int.mul_le_mul a S.wid.1 (by decide) (by lia)
  have h2 := Int.mul_le_mul b S.wid.2 (by have := S.wid; lia) (by decide)
  lia
theorem ShapeOk.cc {way colors bits cols : Int} (S : ShapeOk way colors bits cols) : 1 ≤ colors * cols ∧ colors * cols ≤ 96 := by
  have h1 := Int.mul_le_mul S.col.1 S.wid.1 (by decide) (by have := S.col; lia)
  have h2 := Int.mul_le_mul S.col.2 S.wid.2 (by have := S.wid; lia) (by decide)
  lia
namespace H_rowoct_spec
abbrev hkD : Type := ((((World × Addr) × (Addr × Int)) × ((Int × Int) × (Int × Tok))) × (((Tok × Tok) × (Tok × Tok)) × ((Tok × Tok) × (Tok × Tele))))
def hkP (w : World) (x : Addr) (dx : Addr) (way : Int) (colors : Int) (bits : Int) (cols : Int) (t1 : Tok) (t2 : Tok) (t3 : Tok) (t4 : Tok) (k1 : Tok) (k2 : Tok) (k3 : Tok) (k4 : Tok) (hkT : Tele) : Prop := ∀ (S : ShapeOk way colors bits cols), SpecAt w 70 [.ref x] [(x, instObj 80 dx), (dx, shapeDict w way colors bits cols t1 t2 t3 t4 k1 k2 k3 k4)] 2
      (fun r n => n = [(x, instObj 80 dx), (dx, shapeDict w way colors bits cols t1 t2 t3 t4 k1 k2 k3 k4)] ∧ ∃ t, r = .int ((colors * bits * cols + 7).fdiv 8) t) hkT
def hkU (d : hkD) : Prop := hkP d.1.1.1.1 d.1.1.1.2 d.1.1.2.1 d.1.1.2.2 d.1.2.1.1 d.1.2.1.2 d.1.2.2.1 d.1.2.2.2 d.2.1.1.1 d.2.1.1.2 d.2.1.2.1 d.2.1.2.2 d.2.2.1.1 d.2.2.1.2 d.2.2.2.1 d.2.2.2.2
theorem hkN : Nonempty hkD := (ne2 (ne2 (ne2 (ne2 neWorld ⟨default⟩) (ne2 ⟨default⟩ ⟨default⟩)) (ne2 (ne2 ⟨default⟩ ⟨default⟩) (ne2 ⟨default⟩ ⟨default⟩))) (ne2 (ne2 (ne2 ⟨default⟩ ⟨default⟩) (ne2 ⟨default⟩ ⟨default⟩)) (ne2 (ne2 ⟨default⟩ ⟨default⟩) (ne2 ⟨default⟩ neTele))))
@[irreducible] def hkV : hkD := hk_c hkN hkU
@[irreducible] def w : World := hkV.1.1.1.1
@[irreducible] def x : Addr := hkV.1.1.1.2
@[irreducible] def dx : Addr := hkV.1.1.2.1
@[irreducible] def way : Int := hkV.1.1.2.2
@[irreducible] def colors : Int := hkV.1.2.1.1
@[irreducible] def bits : Int := hkV.1.2.1.2
@[irreducible] def cols : Int := hkV.1.2.2.1
@[irreducible] def t1 : Tok := hkV.1.2.2.2
@[irreducible] def t2 : Tok := hkV.2.1.1.1
@[irreducible] def t3 : Tok := hkV.2.1.1.2
@[irreducible] def t4 : Tok := hkV.2.1.2.1
@[irreducible] def k1 : Tok := hkV.2.1.2.2
@[irreducible] def k2 : Tok := hkV.2.2.1.1
@[irreducible] def k3 : Tok := hkV.2.2.1.2
@[irreducible] def k4 : Tok := hkV.2.2.2.1
@[irreducible] def hkT : Tele := hkV.2.2.2.2
@[irreducible] def g : Heap := hideAll hkT.s.heap (([(x, instObj 80 dx), (dx, shapeDict w way colors bits cols t1 t2 t3 t4 k1 k2 k3 k4)] : List (Addr × Obj)).map (·.1))
def L' : Addr := hkT.s.heap.objs.size
theorem g_e : g = hideAll hkT.s.heap (([(x, instObj 80 dx), (dx, shapeDict w way colors bits cols t1 t2 t3 t4 k1 k2 k3 k4)] : List (Addr × Obj)).map (·.1)) := by delta g; exact rfl
theorem L_e : L' = hkT.s.heap.objs.size := rfl
theorem core : hkP w x dx way colors bits cols t1 t2 t3 t4 k1 k2 k3 k4 hkT := by
  unfold hkP SpecAt
  intro S
  have h1 := S.cb
  have h2 := S.cbc
  have h3 := bits_range S.bit
  have h4 := S.col
  have h5 := S.wid
  intro B F X N Nr hdis T hk hd hu hret
  refine wpAny_call ?_
  k_dflt (refine' enterR0 g L' g_e L_e (binds := [(Str.ofString "self", .ref x)]) B F X N Nr hdis T rfl rfl hk ?k6 ?k7 ?k8 ?k9 ?kB ?_ ?c5 ?c2 ?c3 ?c4; (case k6 => k_is); (case k7 => k_is); (case k8 => ktr_room); (case k9 => exact BindsTo.of_eq rfl); (case c5 => decide); (case kB => exact locs rfl); (case c2 => exact rfl); (case c3 => exact rfl); (case c4 => exact rfl); k_whole)
  intro h' FG F' N' B' X' T' l1
  try dsimp only
  try k_lt l1
  try k_lift B'
  try k_fold
  k_steps
  all_goals (try dsimp only)
  refine leaveR_ (own' := [(x, instObj 80 dx), (dx, shapeDict w way colors bits cols t1 t2 t3 t4 k1 k2 k3 k4)]) (by assumption) (by k_asm) (fun aF aN aD => hret _ _ _ _ aF aN aD ⟨rfl, _, rfl⟩)
end H_rowoct_spec
theorem rowoct_spec (w : World) (x dx : Addr) (way colors bits cols : Int) (t1 t2 t3 t4 k1 k2 k3 k4 : Tok) (S : ShapeOk way colors bits cols) :
    Spec w 70 [.ref x] [(x, instObj 80 dx), (dx, shapeDict w way colors bits cols t1 t2 t3 t4 k1 k2 k3 k4)] 2
      (fun r n => n = [(x, instObj 80 dx), (dx, shapeDict w way colors bits cols t1 t2 t3 t4 k1 k2 k3 k4)] ∧ ∃ t, r = .int ((colors * bits * cols + 7).fdiv 8) t) :=
  Spec.mk fun t => hk_all H_rowoct_spec.hkN H_rowoct_spec.hkU (by with_unfolding_all exact H_rowoct_spec.core) ((((w, x), (dx, way)), ((colors, bits), (cols, t1))), (((t2, t3), (t4, k1)), ((k2, k3), (k4, t)))) S
namespace H_pixoct_spec
abbrev hkD : Type := ((((World × Addr) × (Addr × Int)) × ((Int × Int) × (Int × Tok))) × (((Tok × Tok) × (Tok × Tok)) × ((Tok × Tok) × (Tok × Tele))))
def hkP (w : World) (x : Addr) (dx : Addr) (way : Int) (colors : Int) (bits : Int) (cols : Int) (t1 : Tok) (t2 : Tok) (t3 : Tok) (t4 : Tok) (k1 : Tok) (k2 : Tok) (k3 : Tok) (k4 : Tok) (hkT : Tele) : Prop := ∀ (S : ShapeOk way colors bits cols), SpecAt w 77 [.ref x] [(x, instObj 80 dx), (dx, shapeDict w way colors bits cols t1 t2 t3 t4 k1 k2 k3 k4)] 2
      (fun r n => n = [(x, instObj 80 dx), (dx, shapeDict w way colors bits cols t1 t2 t3 t4 k1 k2 k3 k4)] ∧ ∃ t, r = .int ((colors * bits + 7).fdiv 8) t) hkT
def hkU (d : hkD) : Prop := hkP d.1.1.1.1 d.1.1.1.2 d.1.1.2.1 d.1.1.2.2 d.1.2.1.1 d.1.2.1.2 d.1.2.2.1 d.1.2.2.2 d.2.1.1.1 d.2.1.1.2 d.2.1.2.1 d.2.1.2.2 d.2.2.1.1 d.2.2.1.2 d.2.2.2.1 d.2.2.2.2
theorem hkN : Nonempty hkD := (ne2 (ne2 (ne2 (ne2 neWorld ⟨default⟩) (ne2 ⟨default⟩ ⟨default⟩)) (ne2 (ne2 ⟨default⟩ ⟨default⟩) (ne2 ⟨default⟩ ⟨default⟩))) (ne2 (ne2 (ne2 ⟨default⟩ ⟨default⟩) (ne2 ⟨default⟩ ⟨default⟩)) (ne2 (ne2 ⟨default⟩ ⟨default⟩) (ne2 ⟨default⟩ neTele))))
@[irreducible] def hkV : hkD := hk_c hkN hkU
@[irreducible] def w : World := hkV.1.1.1.1
@[irreducible] def x : Addr := hkV.1.1.1.2
@[irreducible] def dx : Addr := hkV.1.1.2.1
@[irreducible] def way : Int := hkV.1.1.2.2
@[irreducible] def colors : Int := hkV.1.2.1.1
@[irreducible] def bits : Int := hkV.1.2.1.2
@[irreducible] def cols : Int := hkV.1.2.2.1
@[irreducible] def t1 : Tok := hkV.1.2.2.2
@[irreducible] def t2 : Tok := hkV.2.1.1.1
@[irreducible] def t3 : Tok := hkV.2.1.1.2
@[irreducible] def t4 : Tok := hkV.2.1.2.1
@[irreducible] def k1 : Tok := hkV.2.1.2.2
@[irreducible] def k2 : Tok := hkV.2.2.1.1
@[irreducible] def k3 : Tok := hkV.2.2.1.2
@[irreducible] def k4 : Tok := hkV.2.2.2.1
@[irreducible] def hkT : Tele := hkV.2.2.2.2
@[irreducible] def g : Heap := hideAll hkT.s.heap (([(x, instObj 80 dx), (dx, shapeDict w way colors bits cols t1 t2 t3 t4 k1 k2 k3 k4)] : List (Addr × Obj)).map (·.1))
def L' : Addr := hkT.s.heap.objs.size
theorem g_e : g = hideAll hkT.s.heap (([(x, instObj 80 dx), (dx, shapeDict w way colors bits cols t1 t2 t3 t4 k1 k2 k3 k4)] : List (Addr × Obj)).map (·.1)) := by delta g; exact rfl
theorem L_e : L' = hkT.s.heap.objs.size := rfl
theorem core : hkP w x dx way colors bits cols t1 t2 t3 t4 k1 k2 k3 k4 hkT := by
  unfold hkP SpecAt
  intro S
  have h1 := S.cb
  have h3 := bits_range S.bit
  have h4 := S.col
  intro B F X N Nr hdis T hk hd hu hret
  refine wpAny_call ?_
  k_dflt (refine' enterR0 g L' g_e L_e (binds := [(Str.ofString "self", .ref x)]) B F X N Nr hdis T rfl rfl hk ?k6 ?k7 ?k8 ?k9 ?kB ?_ ?c5 ?c2 ?c3 ?c4; (case k6 => k_is); (case k7 => k_is); (case k8 => ktr_room); (case k9 => exact BindsTo.of_eq rfl); (case c5 => decide); (case kB => exact locs rfl); (case c2 => exact rfl); (case c3 => exact rfl); (case c4 => exact rfl); k_whole)
  intro h' FG F' N' B' X' T' l1
  try dsimp only
  try k_lt l1
  try k_lift B'
  try k_fold
  k_steps
  all_goals (try dsimp only)
  refine leaveR_ (own' := [(x, instObj 80 dx), (dx, shapeDict w way colors bits cols t1 t2 t3 t4 k1 k2 k3 k4)]) (by assumption) (by k_asm) (fun aF aN aD => hret _ _ _ _ aF aN aD ⟨rfl, _, rfl⟩)
end H_pixoct_spec
theorem pixoct_spec (w : World) (x dx : Addr) (way colors bits cols : Int) (t1 t2 t3 t4 k1 k2 k3 k4 : Tok) (S : ShapeOk way colors bits cols) :
    Spec w 77 [.ref x] [(x, instObj 80 dx), (dx, shapeDict w way colors bits cols t1 t2 t3 t4 k1 k2 k3 k4)] 2
      (fun r n => n = [(x, instObj 80 dx), (dx, shapeDict w way colors bits cols t1 t2 t3 t4 k1 k2 k3 k4)] ∧ ∃ t, r = .int ((colors * bits + 7).fdiv 8) t) :=
  Spec.mk fun t => hk_all H_pixoct_spec.hkN H_pixoct_spec.hkU (by with_unfolding_all exact H_pixoct_spec.core) ((((w, x), (dx, way)), ((colors, bits), (cols, t1))), (((t2, t3), (t4, k1)), ((k2, k3), (k4, t)))) S
end
section
set_option maxHeartbeats 8000000
theorem kwC31 : True := by
  exact True.intro
theorem kwC32 : True := by
  k_with "call ref" => ((with_reducible show wpAny _ _ (call (Value.ref 89) [Value.bytes _ _, Value.int _ _]) _ _ _); k_dflt (refine' Spec.use0 (parts_spec _ _ _ _ _ _ (by with_reducible assumption) (by lia) (by with_reducible assumption)) ?qqB ?qqF ?qqX ?qqN ?qqT ?qqhk ?qqhd ?qqhu ?_; (case qqB => k_asm); (case qqF => k_asm); (case qqX => k_asm); (case qqN => k_asm); (case qqT => k_asm); (case qqhk => exact rfl); (case qqhd => ktr_room); (case qqhu => ktr_units); k_whole); intro _ _ _ _ qqhR9 _ qqN9 qqD9; obtain ⟨_, _, qqe1, qqe2, _⟩ := qqhR9; subst qqe1; subst qqe2; (try simp only [List.nil_append, List.cons_append] at qqN9); (try (replace qqD9 := NeAll.of (List.forall_mem_singleton.mp qqD9); simp only [NeAll, and_true] at qqD9)))
  exact True.intro
noncomputable def tiffAt (ps kn : List Int) (colors cols bits : Int) (back : Bool) (i : Nat) : Int :=
  if (i : Int) < colors ∨ colors * cols ≤ (i : Int) then ps.getD i 0
  else if back then (ps.getD i 0 + kn.getD ((i : Int) - colors).toNat 0) % 2 ^ bits.toNat
  else (ps.getD i 0 - ps.getD ((i : Int) - colors).toNat 0) % 2 ^ bits.toNat
noncomputable def tiffK (ps : List Int) (colors cols bits : Int) (back : Bool) : Nat → List Int
  | 0 => []
  | n + 1 => tiffK ps colors cols bits back n ++ [tiffAt ps (tiffK ps colors cols bits back n) colors cols bits back n]
theorem tiffK_len {ps : List Int} {colors cols bits : Int} {back : Bool} (n : Nat) : (tiffK ps colors cols bits back n).length = n := by
  induction n with
  | zero => rfl
  | succ n ih => simp [tiffK, ih]
theorem tiffK_in {ps : List Int} {colors cols bits : Int} {back : Bool} (h : ∀ d ∈ ps, 0 ≤ d ∧ d < 2 ^ bits.toNat) (n : Nat) : ∀ d ∈ tiffK ps colors cols bits back n, 0 ≤ d ∧ d < 2 ^ bits.toNat := by
  induction n with
  | zero => intro d hd; cases hd
  | succ n ih =>
    intro d hd
    rcases List.mem_append.mp hd with hd | hd
    · exact ih d hd
    · rw [List.mem_singleton.mp hd]
      have hp : (0 : Int) < 2 ^ bits.toNat := Int.pow_pos (by decide)
      unfold tiffAt
      split
      · rw [List.getD_eq_getElem?_getD]
        cases q : ps[n]? with
        | none => exact ⟨Int.le_refl 0, hp⟩
        | some v => exact h v (List.mem_of_getElem? q)
      · split <;> exact ⟨Int.emod_nonneg _ (Int.ne_of_gt hp), Int.emod_lt_of_pos _ hp⟩
theorem partsL_in {os : List Int} {bits : Int} : ∀ d ∈ partsL os bits, 0 ≤ d ∧ d < 2 ^ bits.toNat := fun d hd => by
  obtain ⟨j, _, rfl⟩ := List.mem_map.mp hd
  have hp : (0 : Int) < 2 ^ bits.toNat := Int.pow_pos (by decide)
  exact ⟨Int.emod_nonneg _ (Int.ne_of_gt hp), Int.emod_lt_of_pos _ hp⟩
theorem partsL_len {os : List Int} {bits : Int} : (partsL os bits).length = (((os.length : Int) * 8).fdiv bits).toNat := by
  simp only [partsL, List.length_map, List.length_range]; congr 1; lia
noncomputable def tiffL (os : List Int) (colors cols bits : Int) (back : Bool) : List Int :=
  octetsL (tiffK (partsL os bits) colors cols bits back (partsL os bits).length) bits ++ os.drop ((((tiffK (partsL os bits) colors cols bits back (partsL os bits).length).length : Int) * bits).fdiv 8).toNat
namespace H_tiff_spec
abbrev hkD : Type := (((((World × (Array UInt8)) × Tok) × ((List Int) × Addr)) × (((Addr × Int) × Int) × (Int × Int))) × ((((Tok × Tok) × Tok) × (Tok × Tok)) × ((Tok × Tok) × (Tok × Tele))))
def hkP (w : World) (b : Array UInt8) (tb : Tok) (os : List Int) (x : Addr) (dx : Addr) (way : Int) (colors : Int) (bits : Int) (cols : Int) (t1 : Tok) (t2 : Tok) (t3 : Tok) (t4 : Tok) (k1 : Tok) (k2 : Tok) (k3 : Tok) (k4 : Tok) (hkT : Tele) : Prop := ∀ (back : Bool) (S : ShapeOk way colors bits cols) (hb : KBw.bInts b = os) (hl : os.length ≤ 64), SpecNAt w 103 [.bytes b tb, .ref x, .bool back] [(x, instObj 80 dx), (dx, shapeDict w way colors bits cols t1 t2 t3 t4 k1 k2 k3 k4)] 4
      (fun r n => n = [(x, instObj 80 dx), (dx, shapeDict w way colors bits cols t1 t2 t3 t4 k1 k2 k3 k4)] ∧ ∃ b' t, r = .bytes b' t ∧ KBw.bInts b' = tiffL os colors cols bits back) hkT
def hkU (d : hkD) : Prop := hkP d.1.1.1.1.1 d.1.1.1.1.2 d.1.1.1.2 d.1.1.2.1 d.1.1.2.2 d.1.2.1.1.1 d.1.2.1.1.2 d.1.2.1.2 d.1.2.2.1 d.1.2.2.2 d.2.1.1.1.1 d.2.1.1.1.2 d.2.1.1.2 d.2.1.2.1 d.2.1.2.2 d.2.2.1.1 d.2.2.1.2 d.2.2.2.1 d.2.2.2.2
theorem hkN : Nonempty hkD := (ne2 (ne2 (ne2 (ne2 (ne2 neWorld ⟨default⟩) ⟨default⟩) (ne2 ⟨default⟩ ⟨default⟩)) (ne2 (ne2 (ne2 ⟨default⟩ ⟨default⟩) ⟨default⟩) (ne2 ⟨default⟩ ⟨default⟩))) (ne2 (ne2 (ne2 (ne2 ⟨default⟩ ⟨default⟩) ⟨default⟩) (ne2 ⟨default⟩ ⟨default⟩)) (ne2 (ne2 ⟨default⟩ ⟨default⟩) (ne2 ⟨default⟩ neTele))))
@[irreducible] def hkV : hkD := hk_c hkN hkU
@[irreducible] def w : World := hkV.1.1.1.1.1
@[irreducible] def b : Array UInt8 := hkV.1.1.1.1.2
@[irreducible] def tb : Tok := hkV.1.1.1.2
@[irreducible] def os : List Int := hkV.1.1.2.1
@[irreducible] def x : Addr := hkV.1.1.2.2
@[irreducible] def dx : Addr := hkV.1.2.1.1.1
@[irreducible] def way : Int := hkV.1.2.1.1.2
@[irreducible] def colors : Int := hkV.1.2.1.2
@[irreducible] def bits : Int := hkV.1.2.2.1
@[irreducible] def cols : Int := hkV.1.2.2.2
@[irreducible] def t1 : Tok := hkV.2.1.1.1.1
@[irreducible] def t2 : Tok := hkV.2.1.1.1.2
@[irreducible] def t3 : Tok := hkV.2.1.1.2
@[irreducible] def t4 : Tok := hkV.2.1.2.1
@[irreducible] def k1 : Tok := hkV.2.1.2.2
@[irreducible] def k2 : Tok := hkV.2.2.1.1
@[irreducible] def k3 : Tok := hkV.2.2.1.2
@[irreducible] def k4 : Tok := hkV.2.2.2.1
@[irreducible] def hkT : Tele := hkV.2.2.2.2
@[irreducible] def g : Heap := hideAll hkT.s.heap (([(x, instObj 80 dx), (dx, shapeDict w way colors bits cols t1 t2 t3 t4 k1 k2 k3 k4)] : List (Addr × Obj)).map (·.1))
def L' : Addr := hkT.s.heap.objs.size
theorem g_e : g = hideAll hkT.s.heap (([(x, instObj 80 dx), (dx, shapeDict w way colors bits cols t1 t2 t3 t4 k1 k2 k3 k4)] : List (Addr × Obj)).map (·.1)) := by delta g; exact rfl
theorem L_e : L' = hkT.s.heap.objs.size := rfl
theorem core : hkP w b tb os x dx way colors bits cols t1 t2 t3 t4 k1 k2 k3 k4 hkT := by
  unfold hkP SpecNAt
  intro back S hb hl
  have h1 := S.cc
  have h3 := bits_range S.bit
  have h4 := S.col
  have h5 := S.bit
  have h6 := S.wid
  intro B F X N Nr hdis T hk hd hu hret
  refine nCall ?_
  k_dflt (refine' enterRN0 g L' g_e L_e (binds := [(Str.ofString "row", .bytes b tb), (Str.ofString "shape", .ref x), (Str.ofString "is_back", .bool back)]) B F X N Nr hdis T rfl rfl hk ?k6 ?k7 ?k8 ?k9 ?kB ?_ ?c5 ?c2 ?c3 ?c4; (case k6 => k_is); (case k7 => k_is); (case k8 => ktr_room); (case k9 => exact BindsTo.of_eq rfl); (case c5 => decide); (case kB => exact locs rfl); (case c2 => exact rfl); (case c3 => exact rfl); (case c4 => exact rfl); k_whole)
  intro h' FG F' N' B' X' T' l1
  try dsimp only
  try k_lt l1
  try k_lift B'
  obtain ⟨m0, m1, m2, m3, m4, m5⟩ := many_bits (n := os.length * 8) h5 (by lia)
  refine nStep ?_
  k_steps
  all_goals (try dsimp only)
  refine nStep ?_
  k_steps
  all_goals (try dsimp only)
  refine nExecs (nFor ?_)
  k_steps
  all_goals (try dsimp only)
  have qqD9 := True.intro; have qqN9 := True.intro
  rename_i P0 ps0 hI D9 hh3 K0 hh2 lt2 T0 hh1 lt1 hh0 q1 q2 F4 N4
  have hlen : ps0.length = (partsL os bits).length := hI.length
  have hin := partsL_in (os := os) (bits := bits)
  have hpl : ((partsL os bits).length : Int) = ((os.length : Int) * 8).fdiv bits := by rw [partsL_len]; lia
  unfold tiffL at hret
  generalize hps : partsL os bits = ps at hI hlen hin hpl hret
  have hpw : (0 : Int) ≤ 2 ^ bits.toNat := Int.le_of_lt (Int.pow_pos (by decide))
  have hpw1 : (1 : Int) * 2 ^ bits.toNat ≠ 0 := by rw [Int.one_mul]; exact pow2_ne _
  refine nEnumL [Str.ofString "place", Str.ofString "part"] (l := P0) (items := ps0.toArray) (c := ps0.length) (news := (P0, LCg.lst ps0) :: [(K0, listOf #[] 0), (x, instObj 80 dx), (dx, shapeDict w way colors bits cols t1 t2 t3 t4 k1 k2 k3 k4)]) (fun i _ nw => ∃ its cc, nw = [(K0, listOf its cc), (x, instObj 80 dx), (dx, shapeDict w way colors bits cols t1 t2 t3 t4 k1 k2 k3 k4)] ∧ IntsAre its.toList (tiffK ps colors cols bits back i))
    (.head _) rfl rfl rfl rfl (by k_asm) (news_sub (by k_asm) (by first | k_sub | fail)) (by rw [filt_rest (by first | k_all | fail)]; exact ⟨#[], _, rfl, .nil⟩) ?_ ?_
  · rintro i v t0 u nw h2 tk2 own hi2 hv ⟨its, cc, rfl, hys⟩ _ hoff hown F2 N2
    (first | refine nGen fun Qv Ev hQ _ => ?_ | refine aGen fun Qv Ev hQ _ => ?_); (try dsimp only at hQ); (try dsimp only)
    have hi' : i < ps.length := by simpa [hlen] using hi2
    obtain ⟨tv, hx⟩ := hI.get i ps[i] (by simp [hi'])
    have hv' : v = .int ps[i] tv := by
      rw [List.getElem?_toArray] at hv; rw [hv] at hx; exact Option.some.inj hx
    subst hv'
    have hgd : ps.getD i 0 = ps[i] := by rw [List.getD_eq_getElem?_getD, List.getElem?_eq_getElem hi']; rfl
    replace N2 := news_sub (l' := (P0, LCg.lst ps0) :: (K0, listOf its cc) :: (x, instObj 80 dx) :: (dx, shapeDict w way colors bits cols t1 t2 t3 t4 k1 k2 k3 k4) :: own) N2 (fun p hp => by
      rcases List.mem_cons.mp hp with rfl | hp
      · exact List.mem_append_right _ hown
      · exact hp)
    have hkl := tiffK_len (ps := ps) (colors := colors) (cols := cols) (bits := bits) (back := back) i
    have hst : tiffK ps colors cols bits back (i + 1) = tiffK ps colors cols bits back i ++ [tiffAt ps (tiffK ps colors cols bits back i) colors cols bits back i] := rfl
    generalize hkn : tiffK ps colors cols bits back i = kn at hys hkl hst
    (try dsimp only at hQ); rw [hst] at hQ
    refine nStep ?_
    cases back <;> k_steps
    all_goals try dsimp only
    all_goals refine nExecsNil (StepEnd.introQ hQ (news' := [(K0, _), (x, instObj 80 dx), (dx, shapeDict w way colors bits cols t1 t2 t3 t4 k1 k2 k3 k4)]) (by k_asm) (news_sub (by k_asm) (fun p hp => List.mem_cons_of_mem _ hp)) (by exact off_same hoff rfl) ?_ ⟨_, _, rfl, IntsAre.push hys _ ?_⟩)
    all_goals first
      | (intro z hz
         have hz' := not_stored hz
         simp only [List.forall_mem_cons, List.forall_mem_nil, and_true] at hz'
         simp only [hz', hz, if_false, Bool.false_eq_true]
         done)
      | (rw [tiffAt, if_pos (.inl (by assumption)), hgd])
      | (rw [tiffAt, if_pos (.inr (by assumption)), hgd])
      | (rw [tiffAt, if_neg (by lia), if_neg (by decide), hgd, Int.one_mul, Int.fmod_eq_emod_of_nonneg _ hpw])
      | (rw [tiffAt, if_neg (by lia), if_pos (by rfl), hgd, Int.one_mul, Int.fmod_eq_emod_of_nonneg _ hpw])
  · rintro h2 tk2 u nw F2 N2 ⟨its, cc, rfl, hys⟩ _
    dsimp only
    have hsz : ps0.toArray.size = ps.length := by simpa using hlen
    rw [hsz] at hys
    have hkl := tiffK_len (ps := ps) (colors := colors) (cols := cols) (bits := bits) (back := back) ps.length
    have hki := tiffK_in (colors := colors) (cols := cols) (back := back) hin ps.length
    generalize tiffK ps colors cols bits back ps.length = kn at hys hkl hki hret
    refine nExecs (nReturn (nCallE ?_))
    k_steps
    all_goals (try dsimp only)
    refine nCallFn (by k_asm) (by k_is) ?_
    k_steps
    all_goals (try dsimp only)
    have hkb : (kn.length : Int) * bits ≤ 512 := by rw [hkl, hpl]; lia
    k_dflt (refine' SpecN.useM (own := [(K0, listOf its cc)]) (octets_spec _ _ _ _ kn _ _ _ _ os hb hl hys hki (by lia) h3) [(x, instObj 80 dx), (dx, shapeDict w way colors bits cols t1 t2 t3 t4 k1 k2 k3 k4)] ?B ?F ?X ?N ?hs ?hr ?hd' ?T ?hk ?hd ?hu ?_; (case B => k_asm); (case F => k_asm); (case X => k_asm); (case N => k_asm); (case T => k_asm); (case hk => exact rfl); (case hd => ktr_room); (case hu => ktr_units); (case hs => k_sub); (case hr => k_sub); (case hd' => exact List.forall_mem_singleton.mpr (by first | k_all | fail)))
    rintro r9 _ h9 tk9 ⟨rfl, b9, t9, rfl, hb9⟩ F9 N9 -
    dsimp only
    try k_unfold
    exact leaveR_ (own' := [(x, instObj 80 dx), (dx, shapeDict w way colors bits cols t1 t2 t3 t4 k1 k2 k3 k4)]) (by assumption) (by k_asm) fun aF aN aD => hret _ _ _ _ aF aN aD ⟨rfl, _, _, rfl, hb9⟩
end H_tiff_spec
theorem tiff_spec (w : World) (b : Array UInt8) (tb : Tok) (os : List Int) (back : Bool) (x dx : Addr) (way colors bits cols : Int) (t1 t2 t3 t4 k1 k2 k3 k4 : Tok) (S : ShapeOk way colors bits cols) (hb : KBw.bInts b = os) (hl : os.length ≤ 64) :
    SpecN w 103 [.bytes b tb, .ref x, .bool back] [(x, instObj 80 dx), (dx, shapeDict w way colors bits cols t1 t2 t3 t4 k1 k2 k3 k4)] 4
      (fun r n => n = [(x, instObj 80 dx), (dx, shapeDict w way colors bits cols t1 t2 t3 t4 k1 k2 k3 k4)] ∧ ∃ b' t, r = .bytes b' t ∧ KBw.bInts b' = tiffL os colors cols bits back) :=
  SpecN.mk fun t => hk_all H_tiff_spec.hkN H_tiff_spec.hkU (by with_unfolding_all exact H_tiff_spec.core) (((((w, b), tb), (os, x)), (((dx, way), colors), (bits, cols))), ((((t1, t2), t3), (t4, k1)), ((k2, k3), (k4, t)))) back S hb hl
end
section
set_option maxHeartbeats 8000000
theorem kwE11 : True := by
  exact True.intro
noncomputable abbrev toolDict (w : World) (x : Addr) (rb : Array UInt8) (tr : Tok) (ab : Array UInt8) (ta : Tok) (k1 k2 k3 : Tok) : Obj :=
  dictOf [⟨PyData.keyHash w.params (Str.ofString "shape"), .str (Str.ofString "shape") k1, .ref x⟩, ⟨PyData.keyHash w.params (Str.ofString "rest"), .str (Str.ofString "rest") k2, .bytes rb tr⟩, ⟨PyData.keyHash w.params (Str.ofString "ahead"), .str (Str.ofString "ahead") k3, .bytes ab ta⟩] 3
namespace H_enc_init
abbrev hkD : Type := ((((World × Addr) × (Addr × Int)) × ((Int × Int) × (Int × Tok))) × (((Tok × Tok) × (Tok × Tok)) × ((Tok × Tok) × (Tok × Tele))))
def hkP (w : World) (x : Addr) (dx : Addr) (way : Int) (colors : Int) (bits : Int) (cols : Int) (t1 : Tok) (t2 : Tok) (t3 : Tok) (t4 : Tok) (k1 : Tok) (k2 : Tok) (k3 : Tok) (k4 : Tok) (hkT : Tele) : Prop := SpecAt w 188 [.ref x] [(x, instObj 80 dx), (dx, shapeDict w way colors bits cols t1 t2 t3 t4 k1 k2 k3 k4)] 3
      (fun r n => ∃ e de tr ta l1 l2 l3, r = .ref e ∧ n = [(e, instObj 188 de), (de, toolDict w x #[] tr #[] ta l1 l2 l3), (x, instObj 80 dx), (dx, shapeDict w way colors bits cols t1 t2 t3 t4 k1 k2 k3 k4)] ∧ e ≠ de ∧ e ≠ x ∧ e ≠ dx ∧ de ≠ x ∧ de ≠ dx) hkT
def hkU (d : hkD) : Prop := hkP d.1.1.1.1 d.1.1.1.2 d.1.1.2.1 d.1.1.2.2 d.1.2.1.1 d.1.2.1.2 d.1.2.2.1 d.1.2.2.2 d.2.1.1.1 d.2.1.1.2 d.2.1.2.1 d.2.1.2.2 d.2.2.1.1 d.2.2.1.2 d.2.2.2.1 d.2.2.2.2
theorem hkN : Nonempty hkD := (ne2 (ne2 (ne2 (ne2 neWorld ⟨default⟩) (ne2 ⟨default⟩ ⟨default⟩)) (ne2 (ne2 ⟨default⟩ ⟨default⟩) (ne2 ⟨default⟩ ⟨default⟩))) (ne2 (ne2 (ne2 ⟨default⟩ ⟨default⟩) (ne2 ⟨default⟩ ⟨default⟩)) (ne2 (ne2 ⟨default⟩ ⟨default⟩) (ne2 ⟨default⟩ neTele))))
@[irreducible] def hkV : hkD := hk_c hkN hkU
@[irreducible] def w : World := hkV.1.1.1.1
@[irreducible] def x : Addr := hkV.1.1.1.2
@[irreducible] def dx : Addr := hkV.1.1.2.1
@[irreducible] def way : Int := hkV.1.1.2.2
@[irreducible] def colors : Int := hkV.1.2.1.1
@[irreducible] def bits : Int := hkV.1.2.1.2
@[irreducible] def cols : Int := hkV.1.2.2.1
@[irreducible] def t1 : Tok := hkV.1.2.2.2
@[irreducible] def t2 : Tok := hkV.2.1.1.1
@[irreducible] def t3 : Tok := hkV.2.1.1.2
@[irreducible] def t4 : Tok := hkV.2.1.2.1
@[irreducible] def k1 : Tok := hkV.2.1.2.2
@[irreducible] def k2 : Tok := hkV.2.2.1.1
@[irreducible] def k3 : Tok := hkV.2.2.1.2
@[irreducible] def k4 : Tok := hkV.2.2.2.1
@[irreducible] def hkT : Tele := hkV.2.2.2.2
theorem core : hkP w x dx way colors bits cols t1 t2 t3 t4 k1 k2 k3 k4 hkT := by
  unfold hkP SpecAt
  intro B F X N Nr hdis T hk hd hu hret
  have Na : News hkT.h₀ hkT.L hkT.s.heap ([(x, instObj 80 dx), (dx, shapeDict w way colors bits cols t1 t2 t3 t4 k1 k2 k3 k4)] ++ hkT.rest) := fun p hp => (List.mem_append.mp hp).elim (N p) (Nr p)
  k_dflt (refine' call_cls F X Na ?a ?b ?c ?_; (case a => k_is); (case b => k_is); (case c => k_is))
  intro e de h1 F1 N1 lt1 lt2
  rw [tc_under]
  replace N1 : News hkT.h₀ hkT.L h1 ([(e, instObj 188 de), (de, dictOf [] 0), (x, instObj 80 dx), (dx, shapeDict w way colors bits cols t1 t2 t3 t4 k1 k2 k3 k4)] ++ hkT.rest) := N1
  have N2 : News hkT.h₀ hkT.L h1 [(e, instObj 188 de), (de, dictOf [] 0), (x, instObj 80 dx), (dx, shapeDict w way colors bits cols t1 t2 t3 t4 k1 k2 k3 k4)] := news_sub N1 fun p hp => List.mem_append_left _ hp
  have hdis2 : ∀ p ∈ [(e, instObj 188 de), (de, dictOf [] 0), (x, instObj 80 dx), (dx, shapeDict w way colors bits cols t1 t2 t3 t4 k1 k2 k3 k4)], ∀ q ∈ hkT.rest, p.1 ≠ q.1 := by
    intro p hp q hq
    have := lt1 q (List.mem_append_right _ hq)
    rcases List.mem_cons.mp hp with rfl | hp
    · exact Nat.ne_of_gt (Nat.lt_trans this lt2)
    · rcases List.mem_cons.mp hp with rfl | hp
      · exact Nat.ne_of_gt this
      · exact hdis p hp q hq
  have e1 : @LT.lt Nat instLTNat x de := lt1 (x, _) (List.mem_append_left _ (.head _))
  have e2 : @LT.lt Nat instLTNat dx de := lt1 (dx, _) (List.mem_append_left _ (.tail _ (.head _)))
  have e3 : @LT.lt Nat instLTNat de e := lt2
  have n1 : e ≠ de := Nat.ne_of_gt e3
  have n2 : e ≠ x := Nat.ne_of_gt (Nat.lt_trans e1 e3)
  have n3 : e ≠ dx := Nat.ne_of_gt (Nat.lt_trans e2 e3)
  have n4 : de ≠ x := Nat.ne_of_gt e1
  have n5 : de ≠ dx := Nat.ne_of_gt e2
  k_dflt (refine' enterR (binds := [(Str.ofString "self", .ref e), (Str.ofString "shape", .ref x)]) B F1 X N2 (news_sub N1 fun p hp => List.mem_append_right _ hp) hdis2 T rfl rfl hk ?k6 ?k7 ?k8 ?k9 ?kB ?_ ?c5 ?c2 ?c3 ?c4; (case k6 => k_is); (case k7 => k_is); (case k8 => ktr_room); (case k9 => exact BindsTo.of_eq rfl); (case c5 => decide); (case kB => exact locs rfl); (case c2 => exact rfl); (case c3 => exact rfl); (case c4 => exact rfl); k_whole)
  intro g L' h2 FG F' N' B' X' T' l1
  try dsimp only
  try k_lt l1
  try k_lift B'
  k_steps
  refine' leaveR_ (own' := [(e, instObj 188 de), (de, toolDict w x #[] _ #[] _ _ _ _), (x, instObj 80 dx), (dx, shapeDict w way colors bits cols t1 t2 t3 t4 k1 k2 k3 k4)]) (by assumption) (news_sub (by assumption) ?nn) (fun aF aN aD => ⟨rfl, hret _ [(e, instObj 188 de), (de, toolDict w x #[] _ #[] _ _ _ _), (x, instObj 80 dx), (dx, shapeDict w way colors bits cols t1 t2 t3 t4 k1 k2 k3 k4)] _ _ aF aN aD ⟨_, _, _, _, _, _, _, rfl, rfl, n1, n2, n3, n4, n5⟩⟩)
  case nn => k_sub
end H_enc_init
theorem enc_init (w : World) (x dx : Addr) (way colors bits cols : Int) (t1 t2 t3 t4 k1 k2 k3 k4 : Tok) :
    Spec w 188 [.ref x] [(x, instObj 80 dx), (dx, shapeDict w way colors bits cols t1 t2 t3 t4 k1 k2 k3 k4)] 3
      (fun r n => ∃ e de tr ta l1 l2 l3, r = .ref e ∧ n = [(e, instObj 188 de), (de, toolDict w x #[] tr #[] ta l1 l2 l3), (x, instObj 80 dx), (dx, shapeDict w way colors bits cols t1 t2 t3 t4 k1 k2 k3 k4)] ∧ e ≠ de ∧ e ≠ x ∧ e ≠ dx ∧ de ≠ x ∧ de ≠ dx) :=
  Spec.mk fun t => hk_all H_enc_init.hkN H_enc_init.hkU (by with_unfolding_all exact H_enc_init.core) ((((w, x), (dx, way)), ((colors, bits), (cols, t1))), (((t2, t3), (t4, k1)), ((k2, k3), (k4, t))))
namespace H_dec_init
abbrev hkD : Type := ((((World × Addr) × (Addr × Int)) × ((Int × Int) × (Int × Tok))) × (((Tok × Tok) × (Tok × Tok)) × ((Tok × Tok) × (Tok × Tele))))
def hkP (w : World) (x : Addr) (dx : Addr) (way : Int) (colors : Int) (bits : Int) (cols : Int) (t1 : Tok) (t2 : Tok) (t3 : Tok) (t4 : Tok) (k1 : Tok) (k2 : Tok) (k3 : Tok) (k4 : Tok) (hkT : Tele) : Prop := SpecAt w 230 [.ref x] [(x, instObj 80 dx), (dx, shapeDict w way colors bits cols t1 t2 t3 t4 k1 k2 k3 k4)] 3
      (fun r n => ∃ e de tr ta l1 l2 l3, r = .ref e ∧ n = [(e, instObj 230 de), (de, toolDict w x #[] tr #[] ta l1 l2 l3), (x, instObj 80 dx), (dx, shapeDict w way colors bits cols t1 t2 t3 t4 k1 k2 k3 k4)] ∧ e ≠ de ∧ e ≠ x ∧ e ≠ dx ∧ de ≠ x ∧ de ≠ dx) hkT
def hkU (d : hkD) : Prop := hkP d.1.1.1.1 d.1.1.1.2 d.1.1.2.1 d.1.1.2.2 d.1.2.1.1 d.1.2.1.2 d.1.2.2.1 d.1.2.2.2 d.2.1.1.1 d.2.1.1.2 d.2.1.2.1 d.2.1.2.2 d.2.2.1.1 d.2.2.1.2 d.2.2.2.1 d.2.2.2.2
theorem hkN : Nonempty hkD := (ne2 (ne2 (ne2 (ne2 neWorld ⟨default⟩) (ne2 ⟨default⟩ ⟨default⟩)) (ne2 (ne2 ⟨default⟩ ⟨default⟩) (ne2 ⟨default⟩ ⟨default⟩))) (ne2 (ne2 (ne2 ⟨default⟩ ⟨default⟩) (ne2 ⟨default⟩ ⟨default⟩)) (ne2 (ne2 ⟨default⟩ ⟨default⟩) (ne2 ⟨default⟩ neTele))))
@[irreducible] def hkV : hkD := hk_c hkN hkU
@[irreducible] def w : World := hkV.1.1.1.1
@[irreducible] def x : Addr := hkV.1.1.1.2
@[irreducible] def dx : Addr := hkV.1.1.2.1
@[irreducible] def way : Int := hkV.1.1.2.2
@[irreducible] def colors : Int := hkV.1.2.1.1
@[irreducible] def bits : Int := hkV.1.2.1.2
@[irreducible] def cols : Int := hkV.1.2.2.1
@[irreducible] def t1 : Tok := hkV.1.2.2.2
@[irreducible] def t2 : Tok := hkV.2.1.1.1
@[irreducible] def t3 : Tok := hkV.2.1.1.2
@[irreducible] def t4 : Tok := hkV.2.1.2.1
@[irreducible] def k1 : Tok := hkV.2.1.2.2
@[irreducible] def k2 : Tok := hkV.2.2.1.1
@[irreducible] def k3 : Tok := hkV.2.2.1.2
@[irreducible] def k4 : Tok := hkV.2.2.2.1
@[irreducible] def hkT : Tele := hkV.2.2.2.2
theorem core : hkP w x dx way colors bits cols t1 t2 t3 t4 k1 k2 k3 k4 hkT := by
  unfold hkP SpecAt
  intro B F X N Nr hdis T hk hd hu hret
  have Na : News hkT.h₀ hkT.L hkT.s.heap ([(x, instObj 80 dx), (dx, shapeDict w way colors bits cols t1 t2 t3 t4 k1 k2 k3 k4)] ++ hkT.rest) := fun p hp => (List.mem_append.mp hp).elim (N p) (Nr p)
  k_dflt (refine' call_cls F X Na ?a ?b ?c ?_; (case a => k_is); (case b => k_is); (case c => k_is))
  intro e de h1 F1 N1 lt1 lt2
  rw [tc_under]
  replace N1 : News hkT.h₀ hkT.L h1 ([(e, instObj 230 de), (de, dictOf [] 0), (x, instObj 80 dx), (dx, shapeDict w way colors bits cols t1 t2 t3 t4 k1 k2 k3 k4)] ++ hkT.rest) := N1
  have N2 : News hkT.h₀ hkT.L h1 [(e, instObj 230 de), (de, dictOf [] 0), (x, instObj 80 dx), (dx, shapeDict w way colors bits cols t1 t2 t3 t4 k1 k2 k3 k4)] := news_sub N1 fun p hp => List.mem_append_left _ hp
  have hdis2 : ∀ p ∈ [(e, instObj 230 de), (de, dictOf [] 0), (x, instObj 80 dx), (dx, shapeDict w way colors bits cols t1 t2 t3 t4 k1 k2 k3 k4)], ∀ q ∈ hkT.rest, p.1 ≠ q.1 := by
    intro p hp q hq
    have := lt1 q (List.mem_append_right _ hq)
    rcases List.mem_cons.mp hp with rfl | hp
    · exact Nat.ne_of_gt (Nat.lt_trans this lt2)
    · rcases List.mem_cons.mp hp with rfl | hp
      · exact Nat.ne_of_gt this
      · exact hdis p hp q hq
  have e1 : @LT.lt Nat instLTNat x de := lt1 (x, _) (List.mem_append_left _ (.head _))
  have e2 : @LT.lt Nat instLTNat dx de := lt1 (dx, _) (List.mem_append_left _ (.tail _ (.head _)))
  have e3 : @LT.lt Nat instLTNat de e := lt2
  have n1 : e ≠ de := Nat.ne_of_gt e3
  have n2 : e ≠ x := Nat.ne_of_gt (Nat.lt_trans e1 e3)
  have n3 : e ≠ dx := Nat.ne_of_gt (Nat.lt_trans e2 e3)
  have n4 : de ≠ x := Nat.ne_of_gt e1
  have n5 : de ≠ dx := Nat.ne_of_gt e2
  k_dflt (refine' enterR (binds := [(Str.ofString "self", .ref e), (Str.ofString "shape", .ref x)]) B F1 X N2 (news_sub N1 fun p hp => List.mem_append_right _ hp) hdis2 T rfl rfl hk ?k6 ?k7 ?k8 ?k9 ?kB ?_ ?c5 ?c2 ?c3 ?c4; (case k6 => k_is); (case k7 => k_is); (case k8 => ktr_room); (case k9 => exact BindsTo.of_eq rfl); (case c5 => decide); (case kB => exact locs rfl); (case c2 => exact rfl); (case c3 => exact rfl); (case c4 => exact rfl); k_whole)
  intro g L' h2 FG F' N' B' X' T' l1
  try dsimp only
  try k_lt l1
  try k_lift B'
  k_steps
  refine' leaveR_ (own' := [(e, instObj 230 de), (de, toolDict w x #[] _ #[] _ _ _ _), (x, instObj 80 dx), (dx, shapeDict w way colors bits cols t1 t2 t3 t4 k1 k2 k3 k4)]) (by assumption) (news_sub (by assumption) ?nn) (fun aF aN aD => ⟨rfl, hret _ [(e, instObj 230 de), (de, toolDict w x #[] _ #[] _ _ _ _), (x, instObj 80 dx), (dx, shapeDict w way colors bits cols t1 t2 t3 t4 k1 k2 k3 k4)] _ _ aF aN aD ⟨_, _, _, _, _, _, _, rfl, rfl, n1, n2, n3, n4, n5⟩⟩)
  case nn => k_sub
end H_dec_init
theorem dec_init (w : World) (x dx : Addr) (way colors bits cols : Int) (t1 t2 t3 t4 k1 k2 k3 k4 : Tok) :
    Spec w 230 [.ref x] [(x, instObj 80 dx), (dx, shapeDict w way colors bits cols t1 t2 t3 t4 k1 k2 k3 k4)] 3
      (fun r n => ∃ e de tr ta l1 l2 l3, r = .ref e ∧ n = [(e, instObj 230 de), (de, toolDict w x #[] tr #[] ta l1 l2 l3), (x, instObj 80 dx), (dx, shapeDict w way colors bits cols t1 t2 t3 t4 k1 k2 k3 k4)] ∧ e ≠ de ∧ e ≠ x ∧ e ≠ dx ∧ de ≠ x ∧ de ≠ dx) :=
  Spec.mk fun t => hk_all H_dec_init.hkN H_dec_init.hkU (by with_unfolding_all exact H_dec_init.core) ((((w, x), (dx, way)), ((colors, bits), (cols, t1))), (((t2, t3), (t4, k1)), ((k2, k3), (k4, t))))
end
section
set_option maxHeartbeats 8000000
theorem kwE21 : True := by
  exact True.intro
theorem Spec.asP {w : World} {f : Addr} {vs : List Value} {own : List (Addr × Obj)} {room : Nat} {P : Value → Prop} (C : Spec w f vs own room (fun r n => n = own ∧ P r)) :
    Spec w f vs own room (fun r o => ∃ ret, o = ret ++ own ∧ (∀ p ∈ ret, ∀ q ∈ own, p.1 ≠ q.1) ∧ (ret = [] ∧ P r)) := by
  intro mean mg mb dp un gd cn cs fa ccd cl outer A₀ base h₀ L m rest s Q E B F X N Nr hdis T hk hd hu hret
  refine C mean mg mb dp un gd cn cs fa ccd cl outer A₀ base h₀ L m rest s Q E B F X N Nr hdis T hk hd hu fun r own' h' tk' F' N' hd' hR => hret r own' h' tk' F' N' hd' ?_
  obtain ⟨rfl, hP⟩ := hR
  exact ⟨[], rfl, (fun p hp => nomatch hp), rfl, hP⟩
section
variable {M : Model} {A : Around} {E Q : Value → Shared → Prop} {s : Shared} {f a : Value} {l : List Value}
theorem call_app (h : wpAny M A (call f (a :: l)) Q E s) : wpAny M A (call f ([a] ++ l)) Q E s := h
theorem call_appN (h : wpN M A (call f (a :: l)) Q E s) : wpN M A (call f ([a] ++ l)) Q E s := h
end
theorem kwE22 : True := by
  k_with "call ref" => ((with_reducible show wpAny _ _ (call (Value.ref _) ([_] ++ _)) _ _ _); refine call_app ?_)
  k_with "call ref" => ((with_reducible show wpAny _ _ (call (Value.ref 70) [Value.ref _]) _ _ _); k_dflt (refine' Spec.useP (own := [(_, instObj 80 _), (_, _)]) (Spec.asP (rowoct_spec _ _ _ _ _ _ _ _ _ _ _ _ _ _ _ (by with_reducible assumption))) ?qqB ?qqF ?qqX ?qqN ?qqhs ?qqT ?qqhk ?qqhd ?qqhu ?_; (case qqB => k_asm); (case qqF => k_asm); (case qqX => k_asm); (case qqN => k_asm); (case qqhs => first | exact List.forall_mem_nil _ | (refine List.forall_mem_singleton.mpr ?_; k_mem) | (refine List.forall_mem_cons.mpr ⟨?_, List.forall_mem_singleton.mpr ?_⟩ <;> k_mem)); (case qqT => k_asm); (case qqhk => exact rfl); (case qqhd => ktr_room); (case qqhu => ktr_units); k_whole); intro _ _ _ _ qqhR9 _ qqN9 qqD9; obtain ⟨qqe1, _, qqe2⟩ := qqhR9; subst qqe1; subst qqe2; clear qqD9; (try simp only [List.nil_append] at qqN9))
  k_with "call ref" => ((with_reducible show wpAny _ _ (call (Value.ref 77) [Value.ref _]) _ _ _); k_dflt (refine' Spec.useP (own := [(_, instObj 80 _), (_, _)]) (Spec.asP (pixoct_spec _ _ _ _ _ _ _ _ _ _ _ _ _ _ _ (by with_reducible assumption))) ?qqB ?qqF ?qqX ?qqN ?qqhs ?qqT ?qqhk ?qqhd ?qqhu ?_; (case qqB => k_asm); (case qqF => k_asm); (case qqX => k_asm); (case qqN => k_asm); (case qqhs => first | exact List.forall_mem_nil _ | (refine List.forall_mem_singleton.mpr ?_; k_mem) | (refine List.forall_mem_cons.mpr ⟨?_, List.forall_mem_singleton.mpr ?_⟩ <;> k_mem)); (case qqT => k_asm); (case qqhk => exact rfl); (case qqhd => ktr_room); (case qqhu => ktr_units); k_whole); intro _ _ _ _ qqhR9 _ qqN9 qqD9; obtain ⟨qqe1, _, qqe2⟩ := qqhR9; subst qqe1; subst qqe2; clear qqD9; (try simp only [List.nil_append] at qqN9))
  exact True.intro
noncomputable def taggedL (way : Int) (os as : List Int) (st : Int) : List Int := if way = 15 then bestTo os as st 4 :: toldL (bestTo os as st 4) os as st else (way - 10) :: toldL (way - 10) os as st
noncomputable def encRow (way colors bits cols : Int) (as os : List Int) : List Int := if way = 2 then tiffL os colors cols bits false else taggedL way os as ((colors * bits + 7).fdiv 8)
theorem bInts_one (u : UInt8) {k : Int} (h : (u.toNat : Int) = k) : KBw.bInts #[u] = [k] := by rw [← h]; rfl
theorem ne_of_objs {h : Heap} {a b : Addr} {o o' : Obj} (ha : h.get? a = some o) (hb : h.get? b = some o') (n : o ≠ o') : @Ne Nat a b := fun q => by
  have q' : a = b := q
  subst q'; rw [ha] at hb; exact n (Option.some.inj hb)
theorem tool_ne {w : World} {h₀ h : Heap} {L e de x dx : Addr} {C : Addr} {way colors bits cols : Int} {t1 t2 t3 t4 k1 k2 k3 k4 l1 l2 l3 : Tok} {rb ab : Array UInt8} {tr ta : Tok} (hC : C ≠ 80)
    (N : News h₀ L h [(e, instObj C de), (de, toolDict w x rb tr ab ta l1 l2 l3), (x, instObj 80 dx), (dx, shapeDict w way colors bits cols t1 t2 t3 t4 k1 k2 k3 k4)]) :
    @Ne Nat e de ∧ @Ne Nat e x ∧ @Ne Nat e dx ∧ @Ne Nat de x ∧ @Ne Nat de dx ∧ @Ne Nat x dx := by
  have ge := (N (e, _) (.head _)).1
  have gd := (N (de, _) (.tail _ (.head _))).1
  have gx := (N (x, _) (.tail _ (.tail _ (.head _)))).1
  have gy := (N (dx, _) (.tail _ (.tail _ (.tail _ (.head _))))).1
  refine ⟨ne_of_objs ge gd fun q => ?_, ne_of_objs ge gx fun q => ?_, ne_of_objs ge gy fun q => ?_, ne_of_objs gd gx fun q => ?_, ne_of_objs gd gy fun q => ?_, ne_of_objs gx gy fun q => ?_⟩
  · exact Value.noConfusion (congrArg Obj.cls q)
  · have := congrArg Obj.cls q
    exact hC (Value.ref.inj this)
  · exact Value.noConfusion (congrArg Obj.cls q)
  · exact Value.noConfusion (congrArg Obj.cls q)
  · have := congrArg Obj.data q
    simp at this
  · exact Value.noConfusion (congrArg Obj.cls q)
theorem way_tag {way : Int} (h : way = 2 ∨ 10 ≤ way ∧ way ≤ 15) (n : way ≠ 2) : 0 ≤ way - 10 ∧ way - 10 < 256 := by lia
theorem way_four {way : Int} (h : way = 2 ∨ 10 ≤ way ∧ way ≤ 15) (n : way ≠ 2) (m : way ≠ 15) : 0 ≤ way - 10 ∧ way - 10 ≤ 4 := by lia
namespace H_encRow_spec
abbrev hkD : Type := (((((World × Addr) × (Addr × Addr)) × ((Addr × Int) × (Int × Int))) × (((Int × Tok) × (Tok × Tok)) × ((Tok × Tok) × Tok))) × ((((Tok × Tok) × (Tok × Tok)) × ((Tok × (Array UInt8)) × (Array UInt8))) × ((((Array UInt8) × Tok) × (Tok × Tok)) × (((List Int) × (List Int)) × Tele))))
def hkP (w : World) (e : Addr) (de : Addr) (x : Addr) (dx : Addr) (way : Int) (colors : Int) (bits : Int) (cols : Int) (t1 : Tok) (t2 : Tok) (t3 : Tok) (t4 : Tok) (k1 : Tok) (k2 : Tok) (k3 : Tok) (k4 : Tok) (q1 : Tok) (q2 : Tok) (q3 : Tok) (qb : Array UInt8) (rb : Array UInt8) (ab : Array UInt8) (tq : Tok) (tr : Tok) (ta : Tok) (os : List Int) (as : List Int) (hkT : Tele) : Prop := ∀ (S : ShapeOk way colors bits cols) (hway : way = 2 ∨ 10 ≤ way ∧ way ≤ 15) (hqb : KBw.bInts qb = os) (hab : KBw.bInts ab = as) (hl : os.length ≤ 64) (hla : as.length ≤ 64), SpecNAt w 178 [.ref e, .bytes qb tq] [(e, instObj 188 de), (de, toolDict w x rb tr ab ta q1 q2 q3), (x, instObj 80 dx), (dx, shapeDict w way colors bits cols t1 t2 t3 t4 k1 k2 k3 k4)] 6
      (fun r n => ∃ ab' ta' b' t', n = [(e, instObj 188 de), (de, toolDict w x rb tr ab' ta' q1 q2 q3), (x, instObj 80 dx), (dx, shapeDict w way colors bits cols t1 t2 t3 t4 k1 k2 k3 k4)] ∧
        r = .bytes b' t' ∧ KBw.bInts b' = encRow way colors bits cols as os ∧ KBw.bInts ab' = if way = 2 then as else os) hkT
def hkU (d : hkD) : Prop := hkP d.1.1.1.1.1 d.1.1.1.1.2 d.1.1.1.2.1 d.1.1.1.2.2 d.1.1.2.1.1 d.1.1.2.1.2 d.1.1.2.2.1 d.1.1.2.2.2 d.1.2.1.1.1 d.1.2.1.1.2 d.1.2.1.2.1 d.1.2.1.2.2 d.1.2.2.1.1 d.1.2.2.1.2 d.1.2.2.2 d.2.1.1.1.1 d.2.1.1.1.2 d.2.1.1.2.1 d.2.1.1.2.2 d.2.1.2.1.1 d.2.1.2.1.2 d.2.1.2.2 d.2.2.1.1.1 d.2.2.1.1.2 d.2.2.1.2.1 d.2.2.1.2.2 d.2.2.2.1.1 d.2.2.2.1.2 d.2.2.2.2
theorem hkN : Nonempty hkD := (ne2 (ne2 (ne2 (ne2 (ne2 neWorld ⟨default⟩) (ne2 ⟨default⟩ ⟨default⟩)) (ne2 (ne2 ⟨default⟩ ⟨default⟩) (ne2 ⟨default⟩ ⟨default⟩))) (ne2 (ne2 (ne2 ⟨default⟩ ⟨default⟩) (ne2 ⟨default⟩ ⟨default⟩)) (ne2 (ne2 ⟨default⟩ ⟨default⟩) ⟨default⟩))) (ne2 (ne2 (ne2 (ne2 ⟨default⟩ ⟨default⟩) (ne2 ⟨default⟩ ⟨default⟩)) (ne2 (ne2 ⟨default⟩ ⟨default⟩) ⟨default⟩)) (ne2 (ne2 (ne2 ⟨default⟩ ⟨default⟩) (ne2 ⟨default⟩ ⟨default⟩)) (ne2 (ne2 ⟨default⟩ ⟨default⟩) neTele))))
@[irreducible] def hkV : hkD := hk_c hkN hkU
@[irreducible] def w : World := hkV.1.1.1.1.1
@[irreducible] def e : Addr := hkV.1.1.1.1.2
@[irreducible] def de : Addr := hkV.1.1.1.2.1
@[irreducible] def x : Addr := hkV.1.1.1.2.2
@[irreducible] def dx : Addr := hkV.1.1.2.1.1
@[irreducible] def way : Int := hkV.1.1.2.1.2
@[irreducible] def colors : Int := hkV.1.1.2.2.1
@[irreducible] def bits : Int := hkV.1.1.2.2.2
@[irreducible] def cols : Int := hkV.1.2.1.1.1
@[irreducible] def t1 : Tok := hkV.1.2.1.1.2
@[irreducible] def t2 : Tok := hkV.1.2.1.2.1
@[irreducible] def t3 : Tok := hkV.1.2.1.2.2
@[irreducible] def t4 : Tok := hkV.1.2.2.1.1
@[irreducible] def k1 : Tok := hkV.1.2.2.1.2
@[irreducible] def k2 : Tok := hkV.1.2.2.2
@[irreducible] def k3 : Tok := hkV.2.1.1.1.1
@[irreducible] def k4 : Tok := hkV.2.1.1.1.2
@[irreducible] def q1 : Tok := hkV.2.1.1.2.1
@[irreducible] def q2 : Tok := hkV.2.1.1.2.2
@[irreducible] def q3 : Tok := hkV.2.1.2.1.1
@[irreducible] def qb : Array UInt8 := hkV.2.1.2.1.2
@[irreducible] def rb : Array UInt8 := hkV.2.1.2.2
@[irreducible] def ab : Array UInt8 := hkV.2.2.1.1.1
@[irreducible] def tq : Tok := hkV.2.2.1.1.2
@[irreducible] def tr : Tok := hkV.2.2.1.2.1
@[irreducible] def ta : Tok := hkV.2.2.1.2.2
@[irreducible] def os : List Int := hkV.2.2.2.1.1
@[irreducible] def as : List Int := hkV.2.2.2.1.2
@[irreducible] def hkT : Tele := hkV.2.2.2.2
@[irreducible] def g : Heap := hideAll hkT.s.heap (([(e, instObj 188 de), (de, toolDict w x rb tr ab ta q1 q2 q3), (x, instObj 80 dx), (dx, shapeDict w way colors bits cols t1 t2 t3 t4 k1 k2 k3 k4)] : List (Addr × Obj)).map (·.1))
def L' : Addr := hkT.s.heap.objs.size
theorem g_e : g = hideAll hkT.s.heap (([(e, instObj 188 de), (de, toolDict w x rb tr ab ta q1 q2 q3), (x, instObj 80 dx), (dx, shapeDict w way colors bits cols t1 t2 t3 t4 k1 k2 k3 k4)] : List (Addr × Obj)).map (·.1)) := by delta g; exact rfl
theorem L_e : L' = hkT.s.heap.objs.size := rfl
theorem core : hkP w e de x dx way colors bits cols t1 t2 t3 t4 k1 k2 k3 k4 q1 q2 q3 qb rb ab tq tr ta os as hkT := by
  unfold hkP SpecNAt
  intro S hway hqb hab hl hla
  have h1 := S.cb
  have h3 := bits_range S.bit
  have h4 := S.col
  have h6 := S.wid
  have h7 := S.way0
  intro B F X N Nr hdis T hk hd hu hret
  refine nCall ?_
  k_dflt (refine' enterRN0 g L' g_e L_e (binds := [(Str.ofString "self", .ref e), (Str.ofString "row", .bytes qb tq)]) B F X N Nr hdis T rfl rfl hk ?k6 ?k7 ?k8 ?k9 ?kB ?_ ?c5 ?c2 ?c3 ?c4; (case k6 => k_is); (case k7 => k_is); (case k8 => ktr_room); (case k9 => exact BindsTo.of_eq rfl); (case c5 => decide); (case kB => exact locs rfl); (case c2 => exact rfl); (case c3 => exact rfl); (case c4 => exact rfl); k_whole)
  intro h' FG F' N' B' X' T' l1
  try dsimp only
  try k_lt l1
  try k_lift B'
  have hne := tool_ne (by decide) N'
  have h8 : (colors * bits + 7).fdiv 8 = (colors * bits + 7) / 8 := Int.fdiv_eq_ediv_of_nonneg _ (by decide)
  refine nExecs (nIf ?_)
  k_steps
  all_goals (try dsimp only)
  · rw [if_pos (by assumption)] at hret
    refine nExecs (nReturn (nCallE ?_))
    k_steps
    all_goals (try dsimp only)
    refine nCallFn (by k_asm) (by k_is) ?_
    k_steps
    all_goals (try dsimp only)
    k_dflt (refine' SpecN.useM (own := [(x, instObj 80 dx), (dx, shapeDict w way colors bits cols t1 t2 t3 t4 k1 k2 k3 k4)]) (tiff_spec _ _ _ os _ _ _ _ _ _ _ _ _ _ _ _ _ _ _ S hqb hl) [(e, instObj 188 de), (de, toolDict w x rb tr ab ta q1 q2 q3)] ?B ?F ?X ?N ?hs ?hr ?hd' ?T ?hk ?hd ?hu ?_; (case B => k_asm); (case F => k_asm); (case X => k_asm); (case N => k_asm); (case T => k_asm); (case hk => exact rfl); (case hd => ktr_room); (case hu => ktr_units); (case hs => k_sub); (case hr => k_sub); (case hd' => ((repeat (refine List.forall_mem_cons.mpr ⟨?_, ?_⟩; (focus k_all))); exact List.forall_mem_nil _)))
    rintro r9 _ h9 tk9 ⟨rfl, b9, t9, rfl, hb9⟩ F9 N9 -
    dsimp only
    try k_unfold
    exact leaveR_ (own' := [(e, instObj 188 de), (de, toolDict w x rb tr ab ta q1 q2 q3), (x, instObj 80 dx), (dx, shapeDict w way colors bits cols t1 t2 t3 t4 k1 k2 k3 k4)]) (by assumption) (news_sub (by k_asm) (by k_sub)) fun aF aN aD => hret _ _ _ _ aF aN aD ⟨_, _, _, _, rfl, rfl, (hb9.trans (by rw [encRow, if_pos (by assumption)])), hab⟩
  · rw [if_neg (by assumption)] at hret
    have hw10 := way_tag hway (by assumption)
    refine nExecsNil ?_
    dsimp only
    refine nStep ?_
    k_steps
    all_goals (try dsimp only)
    refine nExecs (nIf ?_)
    k_steps
    all_goals (try dsimp only)
    · refine nExecs (nAssignTuple (nCallE ?_))
      k_steps
      all_goals (try dsimp only)
      refine nCallFn (by k_asm) (by k_is) ?_
      k_steps
      all_goals (try dsimp only)
      k_dflt (refine' SpecN.use0 (best_spec _ _ _ _ _ _ _ _ _ hqb hab (by lia) (by lia) (by lia)) ?B ?F ?X ?N ?T ?hk ?hd ?hu ?_; (case B => k_asm); (case F => k_asm); (case X => k_asm); (case N => k_asm); (case T => k_asm); (case hk => exact rfl); (case hd => ktr_room); (case hu => ktr_units); k_whole)
      rintro r9 _ h9 tk9 ⟨D9, t9, b9, t9', rfl, rfl, hb9⟩ F9 N9 dd
      have hbt := bestTo_in (rs := os) (as := as) (st := (colors * bits + 7).fdiv 8) 4
      replace dd := NeAll.of (List.forall_mem_singleton.mp dd)
      simp only [NeAll, and_true] at dd
      simp only [List.cons_append, List.nil_append] at N9
      dsimp only
      k_steps
      all_goals (try dsimp only)
      refine nExecsNil ?_
      dsimp only
      refine nStep ?_
      k_steps
      all_goals (try dsimp only)
      refine nStep ?_
      k_steps
      all_goals (try dsimp only)
      have qqN9 := True.intro
      rename_i hq hB
      refine KBa.add_K (bInts_one _ hq) hb9 (by simp only [List.length_cons, List.length_nil, toldL_len]; lia) fun t5 k5 hbc => ?_
      exact leaveR_ (own' := [(e, instObj 188 de), (de, toolDict w x rb tr qb tq q1 q2 q3), (x, instObj 80 dx), (dx, shapeDict w way colors bits cols t1 t2 t3 t4 k1 k2 k3 k4)]) (by assumption) (news_sub (by k_asm) (by k_sub)) fun aF aN aD => hret _ _ _ _ aF aN aD ⟨_, _, _, _, rfl, rfl, hbc.trans (by rw [encRow, if_neg (by assumption), taggedL, if_pos (by assumption)]; rfl), hqb⟩
    · have hw4 := way_four hway (by assumption) (by assumption)
      refine nExecs (nAssign (nCallE ?_))
      k_steps
      all_goals (try dsimp only)
      refine nCallFn (by k_asm) (by k_is) ?_
      k_steps
      all_goals (try dsimp only)
      k_dflt (refine' SpecN.use0 (told_spec _ _ _ _ _ _ _ _ _ _ _ hqb hab (by lia) (by lia) (by lia) (by lia)) ?B ?F ?X ?N ?T ?hk ?hd ?hu ?_; (case B => k_asm); (case F => k_asm); (case X => k_asm); (case N => k_asm); (case T => k_asm); (case hk => exact rfl); (case hd => ktr_room); (case hu => ktr_units); k_whole)
      rintro r9 _ h9 tk9 ⟨rfl, b9, t9, rfl, hb9⟩ F9 N9 -
      simp only [List.nil_append] at N9
      dsimp only
      k_steps
      all_goals (try dsimp only)
      refine nExecsNil ?_
      dsimp only
      refine nStep ?_
      k_steps
      all_goals (try dsimp only)
      refine nStep ?_
      k_steps
      all_goals (try dsimp only)
      have qqN9 := True.intro
      rename_i hq hB
      refine KBa.add_K (bInts_one _ hq) hb9 (by simp only [List.length_cons, List.length_nil, toldL_len]; lia) fun t5 k5 hbc => ?_
      exact leaveR_ (own' := [(e, instObj 188 de), (de, toolDict w x rb tr qb tq q1 q2 q3), (x, instObj 80 dx), (dx, shapeDict w way colors bits cols t1 t2 t3 t4 k1 k2 k3 k4)]) (by assumption) (news_sub (by k_asm) (by k_sub)) fun aF aN aD => hret _ _ _ _ aF aN aD ⟨_, _, _, _, rfl, rfl, hbc.trans (by rw [encRow, if_neg (by assumption), taggedL, if_neg (by assumption)]; rfl), hqb⟩
end H_encRow_spec
theorem encRow_spec (w : World) (e de x dx : Addr) (way colors bits cols : Int) (t1 t2 t3 t4 k1 k2 k3 k4 q1 q2 q3 : Tok) (qb rb ab : Array UInt8) (tq tr ta : Tok) (os as : List Int)
    (S : ShapeOk way colors bits cols) (hway : way = 2 ∨ 10 ≤ way ∧ way ≤ 15) (hqb : KBw.bInts qb = os) (hab : KBw.bInts ab = as) (hl : os.length ≤ 64) (hla : as.length ≤ 64) :
    SpecN w 178 [.ref e, .bytes qb tq] [(e, instObj 188 de), (de, toolDict w x rb tr ab ta q1 q2 q3), (x, instObj 80 dx), (dx, shapeDict w way colors bits cols t1 t2 t3 t4 k1 k2 k3 k4)] 6
      (fun r n => ∃ ab' ta' b' t', n = [(e, instObj 188 de), (de, toolDict w x rb tr ab' ta' q1 q2 q3), (x, instObj 80 dx), (dx, shapeDict w way colors bits cols t1 t2 t3 t4 k1 k2 k3 k4)] ∧
        r = .bytes b' t' ∧ KBw.bInts b' = encRow way colors bits cols as os ∧ KBw.bInts ab' = if way = 2 then as else os) :=
  SpecN.mk fun t => hk_all H_encRow_spec.hkN H_encRow_spec.hkU (by with_unfolding_all exact H_encRow_spec.core) (((((w, e), (de, x)), ((dx, way), (colors, bits))), (((cols, t1), (t2, t3)), ((t4, k1), k2))), ((((k3, k4), (q1, q2)), ((q3, qb), rb)), (((ab, tq), (tr, ta)), ((os, as), t)))) S hway hqb hab hl hla
end
section
noncomputable abbrev RowF := List Int → List Int → Option (List Int × List Int)
noncomputable def runF (f : RowF) (n : Nat) : Nat → List Int → List Int → Option (List Int)
  | 0, _, _ => some []
  | k + 1, as, os => if os = [] then some [] else match f as (os.take n) with
    | none => none
    | some (out, as') => (runF f n k as' (os.drop n)).map (out ++ ·)
noncomputable def runA (f : RowF) (n : Nat) (as os : List Int) : Option (List Int) := runF f n os.length as os
section
variable {f : RowF} {n : Nat} {as as' os rest out : List Int}
theorem runF_nil (k : Nat) : runF f n k as [] = some [] := by cases k <;> simp [runF]
theorem runF_len (hn : 1 ≤ n) : ∀ (k j : Nat) (as os : List Int), os.length ≤ k → os.length ≤ j → runF f n k as os = runF f n j as os
  | 0, j, as, os, h, _ => by
    have : os = [] := List.length_eq_zero_iff.mp (Nat.le_zero.mp h)
    subst this; rw [runF_nil, runF_nil]
  | k + 1, 0, as, os, _, h => by
    have : os = [] := List.length_eq_zero_iff.mp (Nat.le_zero.mp h)
    subst this; rw [runF_nil, runF_nil]
  | k + 1, j + 1, as, os, h1, h2 => by
    rw [runF, runF]
    by_cases ho : os = []
    · rw [if_pos ho, if_pos ho]
    · rw [if_neg ho, if_neg ho]
      cases hf : f as (os.take n) with
      | none => rfl
      | some p =>
        have hp : 0 < os.length := List.length_pos_iff.mpr ho
        dsimp only
        rw [runF_len hn k j p.2 (os.drop n) (by rw [List.length_drop]; lia) (by rw [List.length_drop]; lia)]
theorem runA_nil : runA f n as [] = some [] := rfl
theorem runA_cons (hn : 1 ≤ n) (ho : os ≠ []) : runA f n as os = match f as (os.take n) with | none => none | some (out, as') => (runA f n as' (os.drop n)).map (out ++ ·) := by
  have hp : 0 < os.length := List.length_pos_iff.mpr ho
  obtain ⟨k, hk⟩ : ∃ k, os.length = k + 1 := ⟨os.length - 1, by lia⟩
  unfold runA
  rw [hk, runF, if_neg ho]
  cases hf : f as (os.take n) with
  | none => rfl
  | some p =>
    dsimp only
    rw [runF_len hn k (os.drop n).length p.2 (os.drop n) (by rw [List.length_drop]; lia) (Nat.le_refl _)]
theorem runA_step (hn : 1 ≤ n) (hl : n ≤ rest.length) (hf : f as (rest.take n) = some (out, as')) (tail : List Int) : runA f n as (rest ++ tail) = (runA f n as' (rest.drop n ++ tail)).map (out ++ ·) := by
  have ho : rest ++ tail ≠ [] := by
    intro h
    have := congrArg List.length h
    rw [List.length_append] at this
    simp only [List.length_nil] at this
    lia
  rw [runA_cons hn ho, List.take_append_of_le_length hl, hf, List.drop_append_of_le_length hl]
theorem runA_stop (hn : 1 ≤ n) (hl : n ≤ rest.length) (hf : f as (rest.take n) = none) (tail : List Int) : runA f n as (rest ++ tail) = none := by
  have ho : rest ++ tail ≠ [] := by
    intro h
    have := congrArg List.length h
    rw [List.length_append] at this
    simp only [List.length_nil] at this
    lia
  rw [runA_cons hn ho, List.take_append_of_le_length hl, hf]
theorem runA_short (hn : 1 ≤ n) (hl : rest.length < n) (ho : rest ≠ []) : runA f n as rest = (f as rest).map (·.1) := by
  rw [runA_cons hn ho, List.take_of_length_le (by lia), List.drop_eq_nil_of_le (by lia)]
  cases hf : f as rest with
  | none => rfl
  | some p => dsimp only; rw [runA_nil]; simp
noncomputable def Fed (f : RowF) (n : Nat) (as os out as' rest : List Int) : Prop := ∀ tail, runA f n as (os ++ tail) = (runA f n as' (rest ++ tail)).map (out ++ ·)
theorem Fed.start : Fed f n as os [] as os := fun tail => by cases h : runA f n as (os ++ tail) <;> simp
theorem Fed.step {out2 as2 : List Int} (F : Fed f n as os out as' rest) (hn : 1 ≤ n) (hl : n ≤ rest.length) (hf : f as' (rest.take n) = some (out2, as2)) : Fed f n as os (out ++ out2) as2 (rest.drop n) := fun tail => by
  rw [F tail, runA_step hn hl hf tail, Option.map_map]
  refine congrArg (fun g => Option.map g _) ?_
  funext z
  exact (List.append_assoc _ _ _).symm
theorem Fed.stop (F : Fed f n as os out as' rest) (hn : 1 ≤ n) (hl : n ≤ rest.length) (hf : f as' (rest.take n) = none) (tail : List Int) : runA f n as (os ++ tail) = none := by
  rw [F tail, runA_stop hn hl hf tail]; rfl
end
noncomputable def encF (way colors bits cols : Int) : RowF := fun as row => some (encRow way colors bits cols as row, if way = 2 then as else row)
theorem octetsL_len {ps : List Int} {bits : Int} : (octetsL ps bits).length = (((ps.length : Int) * bits).fdiv 8).toNat := by simp [octetsL]
theorem tiffL_len {os : List Int} {colors cols bits : Int} {back : Bool} (hb : bits ∈ [1, 2, 4, 8, 16]) : (tiffL os colors cols bits back).length = os.length := by
  obtain ⟨m0, m1, m2, m3, m4, m5⟩ := many_bits (n := os.length * 8) hb (by lia)
  rw [tiffL, List.length_append, octetsL_len, List.length_drop, tiffK_len, partsL_len, Int.toNat_of_nonneg m0, Int.fdiv_eq_ediv_of_nonneg _ (by decide : (0 : Int) ≤ 8)]
  lia
theorem encRow_len {way colors bits cols : Int} {as os : List Int} (S : ShapeOk way colors bits cols) : (encRow way colors bits cols as os).length ≤ os.length + 1 := by
  unfold encRow taggedL
  split
  · rw [tiffL_len S.bit]; lia
  · split <;> simp [toldL_len]
end
section
set_option maxHeartbeats 8000000
theorem kwE31 : True := by
  exact True.intro
theorem bytes_ne {rb : Array UInt8} (h : (rb.toList != #[].toList) = true) : KBw.bInts rb ≠ [] := fun q => by
  have : rb.toList = [] := by
    have := congrArg List.length q
    rw [KBw.ints_length] at this
    simp only [List.length_nil] at this
    exact List.length_eq_zero_iff.mp (by rw [Array.length_toList]; exact this)
  rw [this] at h; exact absurd h (by decide)
theorem bytes_eq {rb : Array UInt8} (h : (rb.toList != #[].toList) = false) : rb = #[] := by
  have : rb.toList = [] := by simpa using h
  exact Array.toList_eq_nil_iff.mp this
namespace H_encFin_spec
abbrev hkD : Type := (((((World × Addr) × (Addr × Addr)) × ((Addr × Int) × Int)) × (((Int × Int) × (Tok × Tok)) × ((Tok × Tok) × Tok))) × ((((Tok × Tok) × (Tok × Tok)) × ((Tok × Tok) × (Array UInt8))) × ((((Array UInt8) × Tok) × Tok) × (((List Int) × (List Int)) × Tele))))
def hkP (w : World) (e : Addr) (de : Addr) (x : Addr) (dx : Addr) (way : Int) (colors : Int) (bits : Int) (cols : Int) (t1 : Tok) (t2 : Tok) (t3 : Tok) (t4 : Tok) (k1 : Tok) (k2 : Tok) (k3 : Tok) (k4 : Tok) (q1 : Tok) (q2 : Tok) (q3 : Tok) (rb : Array UInt8) (ab : Array UInt8) (tr : Tok) (ta : Tok) (rs : List Int) (as : List Int) (hkT : Tele) : Prop := ∀ (S : ShapeOk way colors bits cols) (hway : rs = [] ∨ way = 2 ∨ 10 ≤ way ∧ way ≤ 15) (hrb : KBw.bInts rb = rs) (hab : KBw.bInts ab = as) (hl : rs.length ≤ 64) (hla : as.length ≤ 64), SpecNAt w 185 [.ref e] [(e, instObj 188 de), (de, toolDict w x rb tr ab ta q1 q2 q3), (x, instObj 80 dx), (dx, shapeDict w way colors bits cols t1 t2 t3 t4 k1 k2 k3 k4)] 8
      (fun r n => ∃ tr' ab' ta' b' t', n = [(e, instObj 188 de), (de, toolDict w x #[] tr' ab' ta' q1 q2 q3), (x, instObj 80 dx), (dx, shapeDict w way colors bits cols t1 t2 t3 t4 k1 k2 k3 k4)] ∧
        r = .bytes b' t' ∧ KBw.bInts b' = if rs = [] then [] else encRow way colors bits cols as rs) hkT
def hkU (d : hkD) : Prop := hkP d.1.1.1.1.1 d.1.1.1.1.2 d.1.1.1.2.1 d.1.1.1.2.2 d.1.1.2.1.1 d.1.1.2.1.2 d.1.1.2.2 d.1.2.1.1.1 d.1.2.1.1.2 d.1.2.1.2.1 d.1.2.1.2.2 d.1.2.2.1.1 d.1.2.2.1.2 d.1.2.2.2 d.2.1.1.1.1 d.2.1.1.1.2 d.2.1.1.2.1 d.2.1.1.2.2 d.2.1.2.1.1 d.2.1.2.1.2 d.2.1.2.2 d.2.2.1.1.1 d.2.2.1.1.2 d.2.2.1.2 d.2.2.2.1.1 d.2.2.2.1.2 d.2.2.2.2
theorem hkN : Nonempty hkD := (ne2 (ne2 (ne2 (ne2 (ne2 neWorld ⟨default⟩) (ne2 ⟨default⟩ ⟨default⟩)) (ne2 (ne2 ⟨default⟩ ⟨default⟩) ⟨default⟩)) (ne2 (ne2 (ne2 ⟨default⟩ ⟨default⟩) (ne2 ⟨default⟩ ⟨default⟩)) (ne2 (ne2 ⟨default⟩ ⟨default⟩) ⟨default⟩))) (ne2 (ne2 (ne2 (ne2 ⟨default⟩ ⟨default⟩) (ne2 ⟨default⟩ ⟨default⟩)) (ne2 (ne2 ⟨default⟩ ⟨default⟩) ⟨default⟩)) (ne2 (ne2 (ne2 ⟨default⟩ ⟨default⟩) ⟨default⟩) (ne2 (ne2 ⟨default⟩ ⟨default⟩) neTele))))
@[irreducible] def hkV : hkD := hk_c hkN hkU
@[irreducible] def w : World := hkV.1.1.1.1.1
@[irreducible] def e : Addr := hkV.1.1.1.1.2
@[irreducible] def de : Addr := hkV.1.1.1.2.1
@[irreducible] def x : Addr := hkV.1.1.1.2.2
@[irreducible] def dx : Addr := hkV.1.1.2.1.1
@[irreducible] def way : Int := hkV.1.1.2.1.2
@[irreducible] def colors : Int := hkV.1.1.2.2
@[irreducible] def bits : Int := hkV.1.2.1.1.1
@[irreducible] def cols : Int := hkV.1.2.1.1.2
@[irreducible] def t1 : Tok := hkV.1.2.1.2.1
@[irreducible] def t2 : Tok := hkV.1.2.1.2.2
@[irreducible] def t3 : Tok := hkV.1.2.2.1.1
@[irreducible] def t4 : Tok := hkV.1.2.2.1.2
@[irreducible] def k1 : Tok := hkV.1.2.2.2
@[irreducible] def k2 : Tok := hkV.2.1.1.1.1
@[irreducible] def k3 : Tok := hkV.2.1.1.1.2
@[irreducible] def k4 : Tok := hkV.2.1.1.2.1
@[irreducible] def q1 : Tok := hkV.2.1.1.2.2
@[irreducible] def q2 : Tok := hkV.2.1.2.1.1
@[irreducible] def q3 : Tok := hkV.2.1.2.1.2
@[irreducible] def rb : Array UInt8 := hkV.2.1.2.2
@[irreducible] def ab : Array UInt8 := hkV.2.2.1.1.1
@[irreducible] def tr : Tok := hkV.2.2.1.1.2
@[irreducible] def ta : Tok := hkV.2.2.1.2
@[irreducible] def rs : List Int := hkV.2.2.2.1.1
@[irreducible] def as : List Int := hkV.2.2.2.1.2
@[irreducible] def hkT : Tele := hkV.2.2.2.2
@[irreducible] def g : Heap := hideAll hkT.s.heap (([(e, instObj 188 de), (de, toolDict w x rb tr ab ta q1 q2 q3), (x, instObj 80 dx), (dx, shapeDict w way colors bits cols t1 t2 t3 t4 k1 k2 k3 k4)] : List (Addr × Obj)).map (·.1))
def L' : Addr := hkT.s.heap.objs.size
theorem g_e : g = hideAll hkT.s.heap (([(e, instObj 188 de), (de, toolDict w x rb tr ab ta q1 q2 q3), (x, instObj 80 dx), (dx, shapeDict w way colors bits cols t1 t2 t3 t4 k1 k2 k3 k4)] : List (Addr × Obj)).map (·.1)) := by delta g; exact rfl
theorem L_e : L' = hkT.s.heap.objs.size := rfl
theorem core : hkP w e de x dx way colors bits cols t1 t2 t3 t4 k1 k2 k3 k4 q1 q2 q3 rb ab tr ta rs as hkT := by
  unfold hkP SpecNAt
  intro S hway hrb hab hl hla
  intro B F X N Nr hdis T hk hd hu hret
  refine nCall ?_
  k_dflt (refine' enterRN0 g L' g_e L_e (binds := [(Str.ofString "self", .ref e)]) B F X N Nr hdis T rfl rfl hk ?k6 ?k7 ?k8 ?k9 ?kB ?_ ?c5 ?c2 ?c3 ?c4; (case k6 => k_is); (case k7 => k_is); (case k8 => ktr_room); (case k9 => exact BindsTo.of_eq rfl); (case c5 => decide); (case kB => exact locs rfl); (case c2 => exact rfl); (case c3 => exact rfl); (case c4 => exact rfl); k_whole)
  intro h' FG F' N' B' X' T' l1
  try dsimp only
  try k_lt l1
  try k_lift B'
  have hne := tool_ne (by decide) N'
  refine nExecs (nAssign (nIfExp ?_))
  k_steps
  all_goals (try dsimp only)
  · have hr0 := bytes_ne (by assumption)
    rw [hrb] at hr0
    rw [if_neg hr0] at hret
    refine nMeth ?_
    k_steps
    all_goals (try dsimp only)
    refine nCallFn (by k_asm) (by k_is) ?_
    k_steps
    all_goals (try dsimp only)
    refine call_appN ?_
    k_dflt (refine' SpecN.useM (own := [(e, instObj 188 de), (de, toolDict w x rb tr ab ta q1 q2 q3), (x, instObj 80 dx), (dx, shapeDict w way colors bits cols t1 t2 t3 t4 k1 k2 k3 k4)]) (encRow_spec _ _ _ _ _ _ _ _ _ _ _ _ _ _ _ _ _ _ _ _ rb rb ab _ _ _ rs as S (hway.resolve_left hr0) hrb hab hl hla) [] ?B ?F ?X ?N ?hs ?hr ?hd' ?T ?hk ?hd ?hu ?_; (case B => k_asm); (case F => k_asm); (case X => k_asm); (case N => k_asm); (case T => k_asm); (case hk => exact rfl); (case hd => ktr_room); (case hu => ktr_units); (case hs => k_sub); (case hr => k_sub); (case hd' => exact fun p hp q hq => nomatch hq))
    rintro r9 _ h9 tk9 ⟨ab9, ta9, b9, t9, rfl, rfl, hb9, _⟩ F9 N9 -
    simp only [List.append_nil] at N9
    dsimp only
    k_steps
    all_goals (try dsimp only)
    refine nStep ?_
    k_steps
    all_goals (try dsimp only)
    refine nStep ?_
    k_steps
    all_goals (try dsimp only)
    try k_unfold
    exact leaveR_ (own' := [(e, instObj 188 de), (de, toolDict w x #[] _ ab9 ta9 q1 q2 q3), (x, instObj 80 dx), (dx, shapeDict w way colors bits cols t1 t2 t3 t4 k1 k2 k3 k4)]) (by assumption) (news_sub (by k_asm) (by k_sub)) fun aF aN aD => hret _ _ _ _ aF aN aD ⟨_, _, _, _, _, rfl, rfl, hb9⟩
  · have hr0 := bytes_eq (by assumption)
    refine nOf ?_
    k_steps
    all_goals (try dsimp only)
    refine nStep ?_
    k_steps
    all_goals (try dsimp only)
    refine nStep ?_
    k_steps
    all_goals (try dsimp only)
    try k_unfold
    exact leaveR_ (own' := [(e, instObj 188 de), (de, toolDict w x #[] _ ab ta q1 q2 q3), (x, instObj 80 dx), (dx, shapeDict w way colors bits cols t1 t2 t3 t4 k1 k2 k3 k4)]) (by assumption) (news_sub (by k_asm) (by k_sub)) fun aF aN aD => hret _ _ _ _ aF aN aD ⟨_, _, _, _, _, rfl, rfl, by rw [← hrb, hr0]; rfl⟩
end H_encFin_spec
theorem encFin_spec (w : World) (e de x dx : Addr) (way colors bits cols : Int) (t1 t2 t3 t4 k1 k2 k3 k4 q1 q2 q3 : Tok) (rb ab : Array UInt8) (tr ta : Tok) (rs as : List Int)
    (S : ShapeOk way colors bits cols) (hway : rs = [] ∨ way = 2 ∨ 10 ≤ way ∧ way ≤ 15) (hrb : KBw.bInts rb = rs) (hab : KBw.bInts ab = as) (hl : rs.length ≤ 64) (hla : as.length ≤ 64) :
    SpecN w 185 [.ref e] [(e, instObj 188 de), (de, toolDict w x rb tr ab ta q1 q2 q3), (x, instObj 80 dx), (dx, shapeDict w way colors bits cols t1 t2 t3 t4 k1 k2 k3 k4)] 8
      (fun r n => ∃ tr' ab' ta' b' t', n = [(e, instObj 188 de), (de, toolDict w x #[] tr' ab' ta' q1 q2 q3), (x, instObj 80 dx), (dx, shapeDict w way colors bits cols t1 t2 t3 t4 k1 k2 k3 k4)] ∧
        r = .bytes b' t' ∧ KBw.bInts b' = if rs = [] then [] else encRow way colors bits cols as rs) :=
  SpecN.mk fun t => hk_all H_encFin_spec.hkN H_encFin_spec.hkU (by with_unfolding_all exact H_encFin_spec.core) (((((w, e), (de, x)), ((dx, way), colors)), (((bits, cols), (t1, t2)), ((t3, t4), k1))), ((((k2, k3), (k4, q1)), ((q2, q3), rb)), (((ab, tr), ta), ((rs, as), t)))) S hway hrb hab hl hla
end
section
set_option maxHeartbeats 8000000
theorem kwE41 : True := by
  exact True.intro
section
variable {M : Model} {A : Around} {E : Value → Shared → Prop} {s : Shared} {env : Env}
theorem nAssignSw {elts : List Expr} {k : Nat} {tpos pos : Pos} {value : Expr} {names : List Str} {Q : Flow → Shared → Prop}
    (h : wpN M A (eval value env) (fun v s₁ => wpAny M A (unpackItems v names.length none) (fun items s₂ =>
      wpAny M A (assignInOrder (names.reverse.map fun n => bindName env n) items.reverse) (fun _ => Q .next) E s₂) E s₁) E s)
    (hs : swapsWithSole [.Tuple elts k tpos] value pos.line env = pure false := by rfl)
    (hw : swappedStores [.Tuple elts k tpos] value env = pure (some names) := by rfl) :
    wpN M A (exec (.Assign [.Tuple elts k tpos] value pos) env) Q E s := by
  rw [exec_Assign]
  refine nBind (nStand ?_)
  rw [hs]
  refine nBind (nPure ?_)
  rw [if_neg (by decide)]
  refine nBind (nMono h (fun v s₁ h₁ => ?_) fun _ _ x => x)
  rw [hw]
  refine nBind (nPure ?_)
  refine nOf ?_
  show wpAny M A (do rule "assign.swapped-stores"; let items ← unpackItems v names.length none; assignInOrder (names.reverse.map fun n => bindName env n) items.reverse; pure .next) Q E s₁
  exact wpAny_bind (wpAny_rule (wpAny_bind (wpAny_mono h₁ (fun items s₂ h₂ => wpAny_bind (wpAny_mono h₂ (fun _ _ x => wpAny_pure x) fun _ _ x => x)) fun _ _ x => x)))
end
theorem kwE42 : True := by
  k_with "binaryOp Add" => (k_here; (with_reducible show wpAny _ _ (binaryOp _ (Value.bytes _ _) (Value.bytes _ _)) _ _ _); k_dflt (refine' KBa.add_K ?qqkA ?qqkB ?qqkC ?_; (case qqkA => with_reducible assumption); (case qqkB => with_reducible assumption); (case qqkC => lia)); intro _ _ _)
  exact True.intro
theorem take_clip1 {rs : List Int} {y : Int} {n : Nat} (h : y = n) (hl : n ≤ rs.length) : List.take (clipAt rs.length y) rs = rs.take n := by
  subst h
  have hc := clipAt_min (n := rs.length) (y := (n : Int)) (by lia)
  rw [if_neg (by lia)] at hc
  have : clipAt rs.length (n : Int) = n := by lia
  rw [this]
theorem drop_clip1 {rs : List Int} {y : Int} {n : Nat} (h : y = n) (hl : n ≤ rs.length) : List.take (rs.length - clipAt rs.length y) (rs.drop (clipAt rs.length y)) = rs.drop n := by
  rw [take_clip (by lia)]; subst h; rfl
noncomputable def rowSize (colors bits cols : Int) : Nat := ((colors * bits * cols + 7).fdiv 8).toNat
theorem rowSize_in {way colors bits cols : Int} (S : ShapeOk way colors bits cols) : ((colors * bits * cols + 7).fdiv 8) = (rowSize colors bits cols : Nat) ∧ 1 ≤ rowSize colors bits cols ∧ rowSize colors bits cols ≤ 192 := by
  have := S.cbc
  have h8 : (colors * bits * cols + 7).fdiv 8 = (colors * bits * cols + 7) / 8 := Int.fdiv_eq_ediv_of_nonneg _ (by decide)
  unfold rowSize
  lia
namespace H_encFeed_spec
abbrev hkD : Type := (((((World × Addr) × (Addr × Addr)) × ((Addr × Int) × (Int × Int))) × (((Int × Tok) × (Tok × Tok)) × ((Tok × Tok) × Tok))) × ((((Tok × Tok) × (Tok × Tok)) × ((Tok × (Array UInt8)) × ((Array UInt8) × (Array UInt8)))) × (((Tok × Tok) × (Tok × (List Int))) × (((List Int) × (List Int)) × Tele))))
def hkP (w : World) (e : Addr) (de : Addr) (x : Addr) (dx : Addr) (way : Int) (colors : Int) (bits : Int) (cols : Int) (t1 : Tok) (t2 : Tok) (t3 : Tok) (t4 : Tok) (k1 : Tok) (k2 : Tok) (k3 : Tok) (k4 : Tok) (q1 : Tok) (q2 : Tok) (q3 : Tok) (qb : Array UInt8) (rb : Array UInt8) (ab : Array UInt8) (tq : Tok) (tr : Tok) (ta : Tok) (os : List Int) (rs : List Int) (as : List Int) (hkT : Tele) : Prop := ∀ (S : ShapeOk way colors bits cols) (hway : way = 1 ∨ way = 2 ∨ 10 ≤ way ∧ way ≤ 15) (hqb : KBw.bInts qb = os) (hrb : KBw.bInts rb = rs) (hab : KBw.bInts ab = as) (hl : rs.length + os.length ≤ 64) (hla : as.length ≤ 64), SpecNAt w 171 [.ref e, .bytes qb tq] [(e, instObj 188 de), (de, toolDict w x rb tr ab ta q1 q2 q3), (x, instObj 80 dx), (dx, shapeDict w way colors bits cols t1 t2 t3 t4 k1 k2 k3 k4)] 8
      (fun r n => ∃ rb' tr' ab' ta' b' t' rs' as' out, n = [(e, instObj 188 de), (de, toolDict w x rb' tr' ab' ta' q1 q2 q3), (x, instObj 80 dx), (dx, shapeDict w way colors bits cols t1 t2 t3 t4 k1 k2 k3 k4)] ∧
        r = .bytes b' t' ∧ KBw.bInts b' = out ∧ KBw.bInts rb' = rs' ∧ KBw.bInts ab' = as' ∧ rs'.length ≤ rs.length + os.length ∧ as'.length ≤ 64 ∧ out.length ≤ 128 ∧
        if way = 1 then out = os ∧ rs' = rs else rs'.length < rowSize colors bits cols ∧ Fed (encF way colors bits cols) (rowSize colors bits cols) as (rs ++ os) out as' rs') hkT
def hkU (d : hkD) : Prop := hkP d.1.1.1.1.1 d.1.1.1.1.2 d.1.1.1.2.1 d.1.1.1.2.2 d.1.1.2.1.1 d.1.1.2.1.2 d.1.1.2.2.1 d.1.1.2.2.2 d.1.2.1.1.1 d.1.2.1.1.2 d.1.2.1.2.1 d.1.2.1.2.2 d.1.2.2.1.1 d.1.2.2.1.2 d.1.2.2.2 d.2.1.1.1.1 d.2.1.1.1.2 d.2.1.1.2.1 d.2.1.1.2.2 d.2.1.2.1.1 d.2.1.2.1.2 d.2.1.2.2.1 d.2.1.2.2.2 d.2.2.1.1.1 d.2.2.1.1.2 d.2.2.1.2.1 d.2.2.1.2.2 d.2.2.2.1.1 d.2.2.2.1.2 d.2.2.2.2
theorem hkN : Nonempty hkD := (ne2 (ne2 (ne2 (ne2 (ne2 neWorld ⟨default⟩) (ne2 ⟨default⟩ ⟨default⟩)) (ne2 (ne2 ⟨default⟩ ⟨default⟩) (ne2 ⟨default⟩ ⟨default⟩))) (ne2 (ne2 (ne2 ⟨default⟩ ⟨default⟩) (ne2 ⟨default⟩ ⟨default⟩)) (ne2 (ne2 ⟨default⟩ ⟨default⟩) ⟨default⟩))) (ne2 (ne2 (ne2 (ne2 ⟨default⟩ ⟨default⟩) (ne2 ⟨default⟩ ⟨default⟩)) (ne2 (ne2 ⟨default⟩ ⟨default⟩) (ne2 ⟨default⟩ ⟨default⟩))) (ne2 (ne2 (ne2 ⟨default⟩ ⟨default⟩) (ne2 ⟨default⟩ ⟨default⟩)) (ne2 (ne2 ⟨default⟩ ⟨default⟩) neTele))))
@[irreducible] def hkV : hkD := hk_c hkN hkU
@[irreducible] def w : World := hkV.1.1.1.1.1
@[irreducible] def e : Addr := hkV.1.1.1.1.2
@[irreducible] def de : Addr := hkV.1.1.1.2.1
@[irreducible] def x : Addr := hkV.1.1.1.2.2
@[irreducible] def dx : Addr := hkV.1.1.2.1.1
@[irreducible] def way : Int := hkV.1.1.2.1.2
@[irreducible] def colors : Int := hkV.1.1.2.2.1
@[irreducible] def bits : Int := hkV.1.1.2.2.2
@[irreducible] def cols : Int := hkV.1.2.1.1.1
@[irreducible] def t1 : Tok := hkV.1.2.1.1.2
@[irreducible] def t2 : Tok := hkV.1.2.1.2.1
@[irreducible] def t3 : Tok := hkV.1.2.1.2.2
@[irreducible] def t4 : Tok := hkV.1.2.2.1.1
@[irreducible] def k1 : Tok := hkV.1.2.2.1.2
@[irreducible] def k2 : Tok := hkV.1.2.2.2
@[irreducible] def k3 : Tok := hkV.2.1.1.1.1
@[irreducible] def k4 : Tok := hkV.2.1.1.1.2
@[irreducible] def q1 : Tok := hkV.2.1.1.2.1
@[irreducible] def q2 : Tok := hkV.2.1.1.2.2
@[irreducible] def q3 : Tok := hkV.2.1.2.1.1
@[irreducible] def qb : Array UInt8 := hkV.2.1.2.1.2
@[irreducible] def rb : Array UInt8 := hkV.2.1.2.2.1
@[irreducible] def ab : Array UInt8 := hkV.2.1.2.2.2
@[irreducible] def tq : Tok := hkV.2.2.1.1.1
@[irreducible] def tr : Tok := hkV.2.2.1.1.2
@[irreducible] def ta : Tok := hkV.2.2.1.2.1
@[irreducible] def os : List Int := hkV.2.2.1.2.2
@[irreducible] def rs : List Int := hkV.2.2.2.1.1
@[irreducible] def as : List Int := hkV.2.2.2.1.2
@[irreducible] def hkT : Tele := hkV.2.2.2.2
@[irreducible] def g : Heap := hideAll hkT.s.heap (([(e, instObj 188 de), (de, toolDict w x rb tr ab ta q1 q2 q3), (x, instObj 80 dx), (dx, shapeDict w way colors bits cols t1 t2 t3 t4 k1 k2 k3 k4)] : List (Addr × Obj)).map (·.1))
def L' : Addr := hkT.s.heap.objs.size
theorem g_e : g = hideAll hkT.s.heap (([(e, instObj 188 de), (de, toolDict w x rb tr ab ta q1 q2 q3), (x, instObj 80 dx), (dx, shapeDict w way colors bits cols t1 t2 t3 t4 k1 k2 k3 k4)] : List (Addr × Obj)).map (·.1)) := by delta g; exact rfl
theorem L_e : L' = hkT.s.heap.objs.size := rfl
theorem core : hkP w e de x dx way colors bits cols t1 t2 t3 t4 k1 k2 k3 k4 q1 q2 q3 qb rb ab tq tr ta os rs as hkT := by
  unfold hkP SpecNAt
  intro S hway hqb hrb hab hl hla
  have hsz := rowSize_in S
  intro B F X N Nr hdis T hk hd hu hret
  refine nCall ?_
  k_dflt (refine' enterRN0 g L' g_e L_e (binds := [(Str.ofString "self", .ref e), (Str.ofString "octets", .bytes qb tq)]) B F X N Nr hdis T rfl rfl hk ?k6 ?k7 ?k8 ?k9 ?kB ?_ ?c5 ?c2 ?c3 ?c4; (case k6 => k_is); (case k7 => k_is); (case k8 => ktr_room); (case k9 => exact BindsTo.of_eq rfl); (case c5 => decide); (case kB => exact locs rfl); (case c2 => exact rfl); (case c3 => exact rfl); (case c4 => exact rfl); k_whole)
  intro h' FG F' N' B' X' T' l1
  try dsimp only
  try k_lt l1
  try k_lift B'
  have hne := tool_ne (by decide) N'
  refine nStep ?_
  k_steps
  all_goals (try dsimp only)
  · exact leaveR_ (own' := [(e, instObj 188 de), (de, toolDict w x rb tr ab ta q1 q2 q3), (x, instObj 80 dx), (dx, shapeDict w way colors bits cols t1 t2 t3 t4 k1 k2 k3 k4)]) (by assumption) (by k_asm) fun aF aN aD => hret _ _ _ _ aF aN aD ⟨_, _, _, _, _, _, _, _, _, rfl, rfl, hqb, hrb, hab, by lia, hla, by lia, by rw [if_pos (by assumption)]; exact ⟨rfl, rfl⟩⟩
  · have hw1 : way ≠ 1 := by assumption
    refine nStep ?_
    k_steps
    all_goals (try dsimp only)
    refine nExecs (nAssignSw (names := [Str.ofString "many", Str.ofString "found"]) (nTuple (nArgs (nOf ?_))))
    k_steps
    all_goals (try dsimp only)
    refine nArgs (nCallE ?_)
    k_steps
    all_goals (try dsimp only)
    refine nCallT0 (BA.makeK (by k_asm) (by k_asm) ?_)
    intro D h1 F1 N1 lt1
    k_lt lt1
    dsimp only
    refine nArgs0 ?_
    k_steps
    all_goals (try dsimp only)
    refine nExecs (nWhile ?_)
    have qqN9 := True.intro
    rename_i t5 k5 hbq hA hB tk0 tm D2 hC lt2 hD hE hF F5 N5
    have hlen0 : (rs ++ os).length = rs.length + os.length := List.length_append
    refine cnWhileLoop (fun k s₁ => ∃ h' tk rb' tr' ab' ta' fb os' as', s₁ = { hkT.s with heap := h', toks := tk } ∧
        Fr g L' h' (fun y => if y = Str.ofString "many" then some (.int ((colors * bits * cols + 7).fdiv 8) tm) else if y = Str.ofString "found" then some (.ref D) else List.lookup y [(Str.ofString "self", Value.ref e), (Str.ofString "octets", Value.bytes qb tq)].reverse) ∧
        News g L' h' [(D, BA.baOf fb), (e, instObj 188 de), (de, toolDict w x rb' tr' ab' ta' q1 q2 q3), (x, instObj 80 dx), (dx, shapeDict w way colors bits cols t1 t2 t3 t4 k1 k2 k3 k4)] ∧
        k = os'.length ∧ KBw.bInts rb' = os' ∧ KBw.bInts ab' = as' ∧ os'.length ≤ rs.length + os.length ∧ as'.length ≤ 64 ∧ (KBw.bInts fb).length + 2 * os'.length ≤ 128 ∧
        Fed (encF way colors bits cols) (rowSize colors bits cols) as (rs ++ os) (KBw.bInts fb) as' os') ?_ (rs ++ os).length
      ⟨_, _, _, _, _, _, _, _, _, rfl, F5, news_sub N5 (by k_sub), rfl, hbq, hab, by lia, hla, by rw [bInts_nil]; simp only [List.length_nil]; lia, Fed.start⟩
    rintro k s₁ ⟨h2, tk2, rb', tr', ab', ta', fb, os', as', rfl, F2, N2, rfl, hb1, hb2, hb3, hb4, hb5, hfed⟩
    have hrl : rb'.size = os'.length := by rw [← hb1, KBw.ints_length]
    have hfl : fb.size = (KBw.bInts fb).length := (KBw.ints_length _).symm
    k_steps
    all_goals (try dsimp only)
    · refine nExecs (nExpr (nMeth ?_))
      k_steps
      all_goals (try dsimp only)
      refine nCallBn (nArgs (nMeth ?_))
      k_steps
      all_goals (try dsimp only)
      refine nCallFn (by k_asm) (by k_is) ?_
      k_steps
      all_goals (try dsimp only)
      have qqN9 := True.intro
      rename_i hq1 tq1 kq1 Fq Nq hqk
      refine call_appN ?_
      k_dflt (refine' SpecN.useM (own := [(e, instObj 188 de), (de, toolDict w x rb' tr' ab' ta' q1 q2 q3), (x, instObj 80 dx), (dx, shapeDict w way colors bits cols t1 t2 t3 t4 k1 k2 k3 k4)]) (encRow_spec _ _ _ _ _ _ _ _ _ _ _ _ _ _ _ _ _ _ _ _ _ rb' ab' _ _ _ _ as' S (by lia) hqk hb2 ?len hb4) [(D, BA.baOf fb)] ?B ?F ?X ?N ?hs ?hr ?hd' ?T ?hk ?hd ?hu ?_; (case B => k_asm); (case F => k_asm); (case X => k_asm); (case N => k_asm); (case T => k_asm); (case hk => exact rfl); (case hd => ktr_room); (case hu => ktr_units); (case hs => k_sub); (case hr => k_sub); (case hd' => ((repeat (refine List.forall_mem_cons.mpr ⟨?_, ?_⟩; (focus k_all))); exact List.forall_mem_nil _)); (case len => rw [List.length_take]; lia))
      rintro r9 _ h9 tk9 ⟨ab9, ta9, b9, t9, rfl, rfl, hb9, hab9⟩ F9 N9 -
      simp only [List.cons_append, List.nil_append] at N9
      dsimp only
      refine nArgs0 ?_
      have hcl : List.take (clipAt os'.length ((colors * bits * cols + 7).fdiv 8)) os' = os'.take (rowSize colors bits cols) := take_clip1 hsz.1 (by lia)
      rw [hcl] at hb9 hab9
      have hel := encRow_len (as := as') (os := os'.take (rowSize colors bits cols)) S
      have htl : (os'.take (rowSize colors bits cols)).length = rowSize colors bits cols := by rw [List.length_take]; lia
      have hb9l : b9.size ≤ rowSize colors bits cols + 1 := by rw [← KBw.ints_length, hb9]; lia
      refine BA.extendK (by k_asm) (news_sub (l' := [(D, BA.baOf fb), (e, instObj 188 de), (de, toolDict w x rb' tr' ab9 ta9 q1 q2 q3), (x, instObj 80 dx), (dx, shapeDict w way colors bits cols t1 t2 t3 t4 k1 k2 k3 k4)]) (by k_asm) (by k_sub)) (.head (by k_all)) (by lia) ?_
      intro hz Fz Nz
      dsimp only
      refine nStep ?_
      k_steps
      all_goals (try dsimp only)
      have qqN9 := True.intro
      rename_i hx1 tx1 kx1 hxk hx2 Fx Nx
      have hdl : (os'.drop (rowSize colors bits cols)).length = os'.length - rowSize colors bits cols := List.length_drop
      have hstep := hfed.step hsz.2.1 (by lia) (out2 := KBw.bInts b9) (as2 := KBw.bInts ab9) (by rw [hb9, hab9]; rfl)
      refine nExecsNil ⟨_, ?_, _, _, _, _, ab9, _, fb ++ b9, _, _, rfl, Fx, Nx, rfl, hxk.trans (drop_clip1 hsz.1 (by lia)), rfl, by lia, ?_, ?_, ?_⟩
      · lia
      · rw [hab9]; split <;> lia
      · rw [bInts_append, List.length_append, hb9]; lia
      · rw [bInts_append]; exact hstep
    · refine nStep ?_
      k_steps
      all_goals (try dsimp only)
      try k_unfold
      exact leaveR_ (own' := [(e, instObj 188 de), (de, toolDict w x rb' tr' ab' ta' q1 q2 q3), (x, instObj 80 dx), (dx, shapeDict w way colors bits cols t1 t2 t3 t4 k1 k2 k3 k4)]) (by assumption) (news_sub (by assumption) (by k_sub)) fun aF aN aD => hret _ _ _ _ aF aN aD ⟨_, _, _, _, _, _, _, _, _, rfl, rfl, rfl, hb1, hb2, hb3, hb4, by lia, by rw [if_neg hw1]; exact ⟨by lia, hfed⟩⟩
end H_encFeed_spec
theorem encFeed_spec (w : World) (e de x dx : Addr) (way colors bits cols : Int) (t1 t2 t3 t4 k1 k2 k3 k4 q1 q2 q3 : Tok) (qb rb ab : Array UInt8) (tq tr ta : Tok) (os rs as : List Int)
    (S : ShapeOk way colors bits cols) (hway : way = 1 ∨ way = 2 ∨ 10 ≤ way ∧ way ≤ 15) (hqb : KBw.bInts qb = os) (hrb : KBw.bInts rb = rs) (hab : KBw.bInts ab = as) (hl : rs.length + os.length ≤ 64) (hla : as.length ≤ 64) :
    SpecN w 171 [.ref e, .bytes qb tq] [(e, instObj 188 de), (de, toolDict w x rb tr ab ta q1 q2 q3), (x, instObj 80 dx), (dx, shapeDict w way colors bits cols t1 t2 t3 t4 k1 k2 k3 k4)] 8
      (fun r n => ∃ rb' tr' ab' ta' b' t' rs' as' out, n = [(e, instObj 188 de), (de, toolDict w x rb' tr' ab' ta' q1 q2 q3), (x, instObj 80 dx), (dx, shapeDict w way colors bits cols t1 t2 t3 t4 k1 k2 k3 k4)] ∧
        r = .bytes b' t' ∧ KBw.bInts b' = out ∧ KBw.bInts rb' = rs' ∧ KBw.bInts ab' = as' ∧ rs'.length ≤ rs.length + os.length ∧ as'.length ≤ 64 ∧ out.length ≤ 128 ∧
        if way = 1 then out = os ∧ rs' = rs else rs'.length < rowSize colors bits cols ∧ Fed (encF way colors bits cols) (rowSize colors bits cols) as (rs ++ os) out as' rs') :=
  SpecN.mk fun t => hk_all H_encFeed_spec.hkN H_encFeed_spec.hkU (by with_unfolding_all exact H_encFeed_spec.core) (((((w, e), (de, x)), ((dx, way), (colors, bits))), (((cols, t1), (t2, t3)), ((t4, k1), k2))), ((((k3, k4), (q1, q2)), ((q3, qb), (rb, ab))), (((tq, tr), (ta, os)), ((rs, as), t)))) S hway hqb hrb hab hl hla
end
section
theorem fillDec1 : PySem.Challenge.rw_nt0492_01 = PySem.Challenge.rw_nt0492_01 ∧ (∀ P, Mine.hd.heap_39 P = Mine.hd.heap_39 P) := by
  k_fill
  exact ⟨rfl, fun _ => rfl⟩
set_option maxHeartbeats 8000000
theorem kwD11 : True := by
  exact True.intro
noncomputable def ioerror : Array UInt8 := #[105, 111, 101, 114, 114, 111, 114]
noncomputable def decF (way colors bits cols : Int) : RowF := fun as os => if way = 2 then some (tiffL os colors cols bits true, as) else
  if os.getD 0 0 > 4 then none else some (backTo (os.getD 0 0) (os.drop 1) as ((colors * bits + 7).fdiv 8) (os.drop 1).length, backTo (os.getD 0 0) (os.drop 1) as ((colors * bits + 7).fdiv 8) (os.drop 1).length)
namespace H_decRow_spec
abbrev hkD : Type := (((((World × Addr) × (Addr × Addr)) × ((Addr × Int) × (Int × Int))) × (((Int × Tok) × (Tok × Tok)) × ((Tok × Tok) × Tok))) × ((((Tok × Tok) × (Tok × Tok)) × ((Tok × (Array UInt8)) × (Array UInt8))) × ((((Array UInt8) × Tok) × (Tok × Tok)) × (((List Int) × (List Int)) × Tele))))
def hkP (w : World) (e : Addr) (de : Addr) (x : Addr) (dx : Addr) (way : Int) (colors : Int) (bits : Int) (cols : Int) (t1 : Tok) (t2 : Tok) (t3 : Tok) (t4 : Tok) (k1 : Tok) (k2 : Tok) (k3 : Tok) (k4 : Tok) (q1 : Tok) (q2 : Tok) (q3 : Tok) (qb : Array UInt8) (rb : Array UInt8) (ab : Array UInt8) (tq : Tok) (tr : Tok) (ta : Tok) (os : List Int) (as : List Int) (hkT : Tele) : Prop := ∀ (S : ShapeOk way colors bits cols) (hway : way = 2 ∨ 10 ≤ way ∧ way ≤ 15) (hqb : KBw.bInts qb = os) (hab : KBw.bInts ab = as) (h0 : os ≠ []) (hl : os.length ≤ 64) (hla : as.length ≤ 64), SpecRNAt w 220 [.ref e, .bytes qb tq] [(e, instObj 230 de), (de, toolDict w x rb tr ab ta q1 q2 q3), (x, instObj 80 dx), (dx, shapeDict w way colors bits cols t1 t2 t3 t4 k1 k2 k3 k4)] 8
      (fun r n => ∃ ab' ta' b' t' out as', n = [(e, instObj 230 de), (de, toolDict w x rb tr ab' ta' q1 q2 q3), (x, instObj 80 dx), (dx, shapeDict w way colors bits cols t1 t2 t3 t4 k1 k2 k3 k4)] ∧
        r = .bytes b' t' ∧ decF way colors bits cols as os = some (out, as') ∧ KBw.bInts b' = out ∧ KBw.bInts ab' = as')
      (fun v => decF way colors bits cols as os = none ∧ ∃ t, v = .bytes ioerror t) hkT
def hkU (d : hkD) : Prop := hkP d.1.1.1.1.1 d.1.1.1.1.2 d.1.1.1.2.1 d.1.1.1.2.2 d.1.1.2.1.1 d.1.1.2.1.2 d.1.1.2.2.1 d.1.1.2.2.2 d.1.2.1.1.1 d.1.2.1.1.2 d.1.2.1.2.1 d.1.2.1.2.2 d.1.2.2.1.1 d.1.2.2.1.2 d.1.2.2.2 d.2.1.1.1.1 d.2.1.1.1.2 d.2.1.1.2.1 d.2.1.1.2.2 d.2.1.2.1.1 d.2.1.2.1.2 d.2.1.2.2 d.2.2.1.1.1 d.2.2.1.1.2 d.2.2.1.2.1 d.2.2.1.2.2 d.2.2.2.1.1 d.2.2.2.1.2 d.2.2.2.2
theorem hkN : Nonempty hkD := (ne2 (ne2 (ne2 (ne2 (ne2 neWorld ⟨default⟩) (ne2 ⟨default⟩ ⟨default⟩)) (ne2 (ne2 ⟨default⟩ ⟨default⟩) (ne2 ⟨default⟩ ⟨default⟩))) (ne2 (ne2 (ne2 ⟨default⟩ ⟨default⟩) (ne2 ⟨default⟩ ⟨default⟩)) (ne2 (ne2 ⟨default⟩ ⟨default⟩) ⟨default⟩))) (ne2 (ne2 (ne2 (ne2 ⟨default⟩ ⟨default⟩) (ne2 ⟨default⟩ ⟨default⟩)) (ne2 (ne2 ⟨default⟩ ⟨default⟩) ⟨default⟩)) (ne2 (ne2 (ne2 ⟨default⟩ ⟨default⟩) (ne2 ⟨default⟩ ⟨default⟩)) (ne2 (ne2 ⟨default⟩ ⟨default⟩) neTele))))
@[irreducible] def hkV : hkD := hk_c hkN hkU
@[irreducible] def w : World := hkV.1.1.1.1.1
@[irreducible] def e : Addr := hkV.1.1.1.1.2
@[irreducible] def de : Addr := hkV.1.1.1.2.1
@[irreducible] def x : Addr := hkV.1.1.1.2.2
@[irreducible] def dx : Addr := hkV.1.1.2.1.1
@[irreducible] def way : Int := hkV.1.1.2.1.2
@[irreducible] def colors : Int := hkV.1.1.2.2.1
@[irreducible] def bits : Int := hkV.1.1.2.2.2
@[irreducible] def cols : Int := hkV.1.2.1.1.1
@[irreducible] def t1 : Tok := hkV.1.2.1.1.2
@[irreducible] def t2 : Tok := hkV.1.2.1.2.1
@[irreducible] def t3 : Tok := hkV.1.2.1.2.2
@[irreducible] def t4 : Tok := hkV.1.2.2.1.1
@[irreducible] def k1 : Tok := hkV.1.2.2.1.2
@[irreducible] def k2 : Tok := hkV.1.2.2.2
@[irreducible] def k3 : Tok := hkV.2.1.1.1.1
@[irreducible] def k4 : Tok := hkV.2.1.1.1.2
@[irreducible] def q1 : Tok := hkV.2.1.1.2.1
@[irreducible] def q2 : Tok := hkV.2.1.1.2.2
@[irreducible] def q3 : Tok := hkV.2.1.2.1.1
@[irreducible] def qb : Array UInt8 := hkV.2.1.2.1.2
@[irreducible] def rb : Array UInt8 := hkV.2.1.2.2
@[irreducible] def ab : Array UInt8 := hkV.2.2.1.1.1
@[irreducible] def tq : Tok := hkV.2.2.1.1.2
@[irreducible] def tr : Tok := hkV.2.2.1.2.1
@[irreducible] def ta : Tok := hkV.2.2.1.2.2
@[irreducible] def os : List Int := hkV.2.2.2.1.1
@[irreducible] def as : List Int := hkV.2.2.2.1.2
@[irreducible] def hkT : Tele := hkV.2.2.2.2
@[irreducible] def g : Heap := hideAll hkT.s.heap (([(e, instObj 230 de), (de, toolDict w x rb tr ab ta q1 q2 q3), (x, instObj 80 dx), (dx, shapeDict w way colors bits cols t1 t2 t3 t4 k1 k2 k3 k4)] : List (Addr × Obj)).map (·.1))
def L' : Addr := hkT.s.heap.objs.size
theorem g_e : g = hideAll hkT.s.heap (([(e, instObj 230 de), (de, toolDict w x rb tr ab ta q1 q2 q3), (x, instObj 80 dx), (dx, shapeDict w way colors bits cols t1 t2 t3 t4 k1 k2 k3 k4)] : List (Addr × Obj)).map (·.1)) := by delta g; exact rfl
theorem L_e : L' = hkT.s.heap.objs.size := rfl
theorem core : hkP w e de x dx way colors bits cols t1 t2 t3 t4 k1 k2 k3 k4 q1 q2 q3 qb rb ab tq tr ta os as hkT := by
  unfold hkP SpecRNAt
  intro S hway hqb hab h0 hl hla
  have h1 := S.cb
  have h3 := bits_range S.bit
  have h4 := S.col
  have h6 := S.wid
  have h7 := S.way0
  have h8 : (colors * bits + 7).fdiv 8 = (colors * bits + 7) / 8 := Int.fdiv_eq_ediv_of_nonneg _ (by decide)
  intro B F X N Nr hdis T hk hd hu hret hE
  refine nCall ?_
  k_dflt (refine' enterRN20 g L' g_e L_e (binds := [(Str.ofString "self", .ref e), (Str.ofString "octets", .bytes qb tq)]) B F X N Nr hdis T rfl rfl hk ?k6 ?k7 ?k8 ?k9 ?kB ?_ ?c5 ?c2 ?c3 ?c4; (case k6 => k_is); (case k7 => k_is); (case k8 => ktr_room); (case k9 => exact BindsTo.of_eq rfl); (case c5 => decide); (case kB => exact locs rfl); (case c2 => exact rfl); (case c3 => exact rfl); (case c4 => exact rfl); k_whole)
  intro h' FG hrest F' N' B' X' T' l1
  try dsimp only
  have hst := B'.stays
  have hfs := B'.frames
  try k_lt l1
  try k_lift B'
  have hne := tool_ne (by decide) N'
  have hos : 0 < os.length := List.length_pos_iff.mpr h0
  refine nExecs (nIf ?_)
  k_steps
  all_goals (try dsimp only)
  · refine nExecs (nReturn (nCallE ?_))
    k_steps
    all_goals (try dsimp only)
    refine nCallFn (by k_asm) (by k_is) ?_
    k_steps
    all_goals (try dsimp only)
    k_dflt (refine' SpecN.useM (own := [(x, instObj 80 dx), (dx, shapeDict w way colors bits cols t1 t2 t3 t4 k1 k2 k3 k4)]) (tiff_spec _ _ _ os _ _ _ _ _ _ _ _ _ _ _ _ _ _ _ S hqb hl) [(e, instObj 230 de), (de, toolDict w x rb tr ab ta q1 q2 q3)] ?B ?F ?X ?N ?hs ?hr ?hd' ?T ?hk ?hd ?hu ?_; (case B => k_asm); (case F => k_asm); (case X => k_asm); (case N => k_asm); (case T => k_asm); (case hk => exact rfl); (case hd => ktr_room); (case hu => ktr_units); (case hs => k_sub); (case hr => k_sub); (case hd' => ((repeat (refine List.forall_mem_cons.mpr ⟨?_, ?_⟩; (focus k_all))); exact List.forall_mem_nil _)))
    rintro r9 _ h9 tk9 ⟨rfl, b9, t9, rfl, hb9⟩ F9 N9 -
    dsimp only
    try k_unfold
    exact leaveR_ (own' := [(e, instObj 230 de), (de, toolDict w x rb tr ab ta q1 q2 q3), (x, instObj 80 dx), (dx, shapeDict w way colors bits cols t1 t2 t3 t4 k1 k2 k3 k4)]) (by assumption) (news_sub (by k_asm) (by k_sub)) fun aF aN aD => hret _ _ _ _ aF aN aD ⟨_, _, _, _, _, _, rfl, rfl, (by rw [decF, if_pos (by assumption)]), hb9, hab⟩
  · refine nExecsNil ?_
    dsimp only
    refine nStep ?_
    k_steps
    all_goals (try dsimp only)
    · have hgt : os.getD 0 0 > 4 := by assumption
      refine ⟨_, _, _, rfl, Frag.In.keeps (by k_asm) (Fr.keep (by k_asm)), (News.get (by assumption) (List.Mem.tail _ (List.Mem.head _))), ?_⟩
      refine flyHere (w := w) (v := .bytes ioerror _) hst hfs (Around.frames_deeper rfl) rfl (by intro q; cases q) (by assumption) (by assumption) fun h9 X9 => hE _ _ _ _ _ ⟨?_, _, rfl⟩ FG hrest X9
      rw [decF, if_neg (by assumption), if_pos hgt]
    · have hgt : ¬ os.getD 0 0 > 4 := by assumption
      have hlo : 0 ≤ os.getD 0 0 := by assumption
      have hdf : decF way colors bits cols as os = some (backTo (os.getD 0 0) (os.drop 1) as ((colors * bits + 7).fdiv 8) (os.drop 1).length, backTo (os.getD 0 0) (os.drop 1) as ((colors * bits + 7).fdiv 8) (os.drop 1).length) := by rw [decF, if_neg (by assumption), if_neg hgt]
      refine nExecs (nAssignAttr (nCallE ?_))
      k_steps
      all_goals (try dsimp only)
      refine nCallFn (by k_asm) (by k_is) ?_
      k_steps
      all_goals (try dsimp only)
      have qqN9 := True.intro
      rename_i za zb zc zd ze zf zg zh zi hqk zj zk zl zm zn
      have hq : KBw.bInts (KBy.picked qb (some 1) none) = os.drop 1 := hqk.trans (drop_clip1 rfl (by lia))
      have hdl : (os.drop 1).length = os.length - 1 := List.length_drop
      k_dflt (refine' SpecN.use0 (back_spec _ (os.getD 0 0) _ _ _ (os.drop 1) _ _ as _ _ hq hab (by lia) (by lia) ⟨hlo, by lia⟩ (by lia)) ?B ?F ?X ?N ?T ?hk ?hd ?hu ?_; (case B => k_asm); (case F => k_asm); (case X => k_asm); (case N => k_asm); (case T => k_asm); (case hk => exact rfl); (case hd => ktr_room); (case hu => ktr_units); k_whole)
      rintro r9 _ h9 tk9 ⟨rfl, b9, t9, rfl, hb9⟩ F9 N9 -
      simp only [List.nil_append] at N9
      dsimp only
      k_steps
      all_goals (try dsimp only)
      refine nStep ?_
      k_steps
      all_goals (try dsimp only)
      exact leaveR_ (own' := [(e, instObj 230 de), (de, toolDict w x rb tr b9 t9 q1 q2 q3), (x, instObj 80 dx), (dx, shapeDict w way colors bits cols t1 t2 t3 t4 k1 k2 k3 k4)]) (by assumption) (news_sub (by k_asm) (by k_sub)) fun aF aN aD => hret _ _ _ _ aF aN aD ⟨_, _, _, _, _, _, rfl, rfl, hdf, hb9, hb9⟩
end H_decRow_spec
theorem decRow_spec (w : World) (e de x dx : Addr) (way colors bits cols : Int) (t1 t2 t3 t4 k1 k2 k3 k4 q1 q2 q3 : Tok) (qb rb ab : Array UInt8) (tq tr ta : Tok) (os as : List Int)
    (S : ShapeOk way colors bits cols) (hway : way = 2 ∨ 10 ≤ way ∧ way ≤ 15) (hqb : KBw.bInts qb = os) (hab : KBw.bInts ab = as) (h0 : os ≠ []) (hl : os.length ≤ 64) (hla : as.length ≤ 64) :
    SpecRN w 220 [.ref e, .bytes qb tq] [(e, instObj 230 de), (de, toolDict w x rb tr ab ta q1 q2 q3), (x, instObj 80 dx), (dx, shapeDict w way colors bits cols t1 t2 t3 t4 k1 k2 k3 k4)] 8
      (fun r n => ∃ ab' ta' b' t' out as', n = [(e, instObj 230 de), (de, toolDict w x rb tr ab' ta' q1 q2 q3), (x, instObj 80 dx), (dx, shapeDict w way colors bits cols t1 t2 t3 t4 k1 k2 k3 k4)] ∧
        r = .bytes b' t' ∧ decF way colors bits cols as os = some (out, as') ∧ KBw.bInts b' = out ∧ KBw.bInts ab' = as')
      (fun v => decF way colors bits cols as os = none ∧ ∃ t, v = .bytes ioerror t) :=
  SpecRN.mk fun t => hk_all H_decRow_spec.hkN H_decRow_spec.hkU (by with_unfolding_all exact H_decRow_spec.core) (((((w, e), (de, x)), ((dx, way), (colors, bits))), (((cols, t1), (t2, t3)), ((t4, k1), k2))), ((((k3, k4), (q1, q2)), ((q3, qb), rb)), (((ab, tq), (tr, ta)), ((os, as), t)))) S hway hqb hab h0 hl hla
end
section
theorem fillDec2 : PySem.Challenge.rw_nt0492_01 = PySem.Challenge.rw_nt0492_01 ∧ (∀ P, Mine.hd.heap_39 P = Mine.hd.heap_39 P) := by
  k_fill
  exact ⟨rfl, fun _ => rfl⟩
set_option maxHeartbeats 8000000
theorem kwD21 : True := by
  exact True.intro
section
variable {w : World} {f : Addr} {vs : List Value} {room : Nat} {mean : ExcName → Option Value} {mg mb : Str → Option Value} {dp un : Nat} {gd : Option (List Code)} {cn : Str} {cs : Scope} {a : Addr} {ccd : Value} {cl : List (Str × Addr)} {outer : List Env} {A₀ : Around} {base h₀ : Heap} {L : Addr} {m : Str → Option Value} {news own : List (Addr × Obj)} {s : Shared} {Q E : Value → Shared → Prop}
theorem SpecRN.useM {R : Value → List (Addr × Obj) → Prop} {V : Value → Prop} (C : SpecRN w f vs own room R V) (rest : List (Addr × Obj))
    (B : Below A₀ base outer h₀) (F : Fr h₀ L s.heap m) (X : (Mine.hd.heap_39 w.params).In h₀) (N : News h₀ L s.heap news) (hs : ∀ p ∈ own, p ∈ news) (hr : ∀ p ∈ rest, p ∈ news) (hd' : ∀ p ∈ own, ∀ q ∈ rest, p.1 ≠ q.1)
    (T : Top Mine.hd.view_39 (looseW Mine.hd.view_39 [Str.ofString "PostError"]) mean mg mb h₀) (hk : cs.kind = .function) (hd : dp + room < recursionLimit) (hu : un + 8 * room < cLine)
    (hE : RaisedAt w base h₀ L m (envX cn cs L a ccd cl :: outer) rest V E s)
    (h : ∀ r own' h' tk', R r own' → Fr h₀ L h' m → News h₀ L h' (own' ++ rest) → (∀ p ∈ own', ∀ q ∈ rest, p.1 ≠ q.1) → Q r { s with heap := h', toks := tk' }) :
    wpN (model PySem.Challenge.rw_nt0492_01.row.prog w) (ktrTop dp un gd cn cs L a ccd cl outer) (call (.ref f) vs) Q E s :=
  C mean mg mb dp un gd cn cs a ccd cl outer A₀ base h₀ L m rest s Q E B F X (news_sub N hs) (news_sub N hr) hd' T hk hd hu (fun r own' h' tk' F' N' hdis hR => h r own' h' tk' hR F' N' hdis) hE
end
namespace H_decFin_spec
abbrev hkD : Type := (((((World × Addr) × (Addr × Addr)) × ((Addr × Int) × Int)) × (((Int × Int) × (Tok × Tok)) × ((Tok × Tok) × Tok))) × ((((Tok × Tok) × (Tok × Tok)) × ((Tok × Tok) × (Array UInt8))) × ((((Array UInt8) × Tok) × Tok) × (((List Int) × (List Int)) × Tele))))
def hkP (w : World) (e : Addr) (de : Addr) (x : Addr) (dx : Addr) (way : Int) (colors : Int) (bits : Int) (cols : Int) (t1 : Tok) (t2 : Tok) (t3 : Tok) (t4 : Tok) (k1 : Tok) (k2 : Tok) (k3 : Tok) (k4 : Tok) (q1 : Tok) (q2 : Tok) (q3 : Tok) (rb : Array UInt8) (ab : Array UInt8) (tr : Tok) (ta : Tok) (rs : List Int) (as : List Int) (hkT : Tele) : Prop := ∀ (S : ShapeOk way colors bits cols) (hway : rs = [] ∨ way = 2 ∨ 10 ≤ way ∧ way ≤ 15) (hrb : KBw.bInts rb = rs) (hab : KBw.bInts ab = as) (hl : rs.length ≤ 64) (hla : as.length ≤ 64), SpecRNAt w 227 [.ref e] [(e, instObj 230 de), (de, toolDict w x rb tr ab ta q1 q2 q3), (x, instObj 80 dx), (dx, shapeDict w way colors bits cols t1 t2 t3 t4 k1 k2 k3 k4)] 10
      (fun r n => ∃ tr' ab' ta' b' t', n = [(e, instObj 230 de), (de, toolDict w x #[] tr' ab' ta' q1 q2 q3), (x, instObj 80 dx), (dx, shapeDict w way colors bits cols t1 t2 t3 t4 k1 k2 k3 k4)] ∧
        r = .bytes b' t' ∧ if rs = [] then KBw.bInts b' = [] else ∃ as', decF way colors bits cols as rs = some (KBw.bInts b', as'))
      (fun v => (rs ≠ [] ∧ decF way colors bits cols as rs = none) ∧ ∃ t, v = .bytes ioerror t) hkT
def hkU (d : hkD) : Prop := hkP d.1.1.1.1.1 d.1.1.1.1.2 d.1.1.1.2.1 d.1.1.1.2.2 d.1.1.2.1.1 d.1.1.2.1.2 d.1.1.2.2 d.1.2.1.1.1 d.1.2.1.1.2 d.1.2.1.2.1 d.1.2.1.2.2 d.1.2.2.1.1 d.1.2.2.1.2 d.1.2.2.2 d.2.1.1.1.1 d.2.1.1.1.2 d.2.1.1.2.1 d.2.1.1.2.2 d.2.1.2.1.1 d.2.1.2.1.2 d.2.1.2.2 d.2.2.1.1.1 d.2.2.1.1.2 d.2.2.1.2 d.2.2.2.1.1 d.2.2.2.1.2 d.2.2.2.2
theorem hkN : Nonempty hkD := (ne2 (ne2 (ne2 (ne2 (ne2 neWorld ⟨default⟩) (ne2 ⟨default⟩ ⟨default⟩)) (ne2 (ne2 ⟨default⟩ ⟨default⟩) ⟨default⟩)) (ne2 (ne2 (ne2 ⟨default⟩ ⟨default⟩) (ne2 ⟨default⟩ ⟨default⟩)) (ne2 (ne2 ⟨default⟩ ⟨default⟩) ⟨default⟩))) (ne2 (ne2 (ne2 (ne2 ⟨default⟩ ⟨default⟩) (ne2 ⟨default⟩ ⟨default⟩)) (ne2 (ne2 ⟨default⟩ ⟨default⟩) ⟨default⟩)) (ne2 (ne2 (ne2 ⟨default⟩ ⟨default⟩) ⟨default⟩) (ne2 (ne2 ⟨default⟩ ⟨default⟩) neTele))))
@[irreducible] def hkV : hkD := hk_c hkN hkU
@[irreducible] def w : World := hkV.1.1.1.1.1
@[irreducible] def e : Addr := hkV.1.1.1.1.2
@[irreducible] def de : Addr := hkV.1.1.1.2.1
@[irreducible] def x : Addr := hkV.1.1.1.2.2
@[irreducible] def dx : Addr := hkV.1.1.2.1.1
@[irreducible] def way : Int := hkV.1.1.2.1.2
@[irreducible] def colors : Int := hkV.1.1.2.2
@[irreducible] def bits : Int := hkV.1.2.1.1.1
@[irreducible] def cols : Int := hkV.1.2.1.1.2
@[irreducible] def t1 : Tok := hkV.1.2.1.2.1
@[irreducible] def t2 : Tok := hkV.1.2.1.2.2
@[irreducible] def t3 : Tok := hkV.1.2.2.1.1
@[irreducible] def t4 : Tok := hkV.1.2.2.1.2
@[irreducible] def k1 : Tok := hkV.1.2.2.2
@[irreducible] def k2 : Tok := hkV.2.1.1.1.1
@[irreducible] def k3 : Tok := hkV.2.1.1.1.2
@[irreducible] def k4 : Tok := hkV.2.1.1.2.1
@[irreducible] def q1 : Tok := hkV.2.1.1.2.2
@[irreducible] def q2 : Tok := hkV.2.1.2.1.1
@[irreducible] def q3 : Tok := hkV.2.1.2.1.2
@[irreducible] def rb : Array UInt8 := hkV.2.1.2.2
@[irreducible] def ab : Array UInt8 := hkV.2.2.1.1.1
@[irreducible] def tr : Tok := hkV.2.2.1.1.2
@[irreducible] def ta : Tok := hkV.2.2.1.2
@[irreducible] def rs : List Int := hkV.2.2.2.1.1
@[irreducible] def as : List Int := hkV.2.2.2.1.2
@[irreducible] def hkT : Tele := hkV.2.2.2.2
@[irreducible] def g : Heap := hideAll hkT.s.heap (([(e, instObj 230 de), (de, toolDict w x rb tr ab ta q1 q2 q3), (x, instObj 80 dx), (dx, shapeDict w way colors bits cols t1 t2 t3 t4 k1 k2 k3 k4)] : List (Addr × Obj)).map (·.1))
def L' : Addr := hkT.s.heap.objs.size
theorem g_e : g = hideAll hkT.s.heap (([(e, instObj 230 de), (de, toolDict w x rb tr ab ta q1 q2 q3), (x, instObj 80 dx), (dx, shapeDict w way colors bits cols t1 t2 t3 t4 k1 k2 k3 k4)] : List (Addr × Obj)).map (·.1)) := by delta g; exact rfl
theorem L_e : L' = hkT.s.heap.objs.size := rfl
theorem core : hkP w e de x dx way colors bits cols t1 t2 t3 t4 k1 k2 k3 k4 q1 q2 q3 rb ab tr ta rs as hkT := by
  unfold hkP SpecRNAt
  intro S hway hrb hab hl hla
  intro B F X N Nr hdis T hk hd hu hret hE
  refine nCall ?_
  k_dflt (refine' enterRN20 g L' g_e L_e (binds := [(Str.ofString "self", .ref e)]) B F X N Nr hdis T rfl rfl hk ?k6 ?k7 ?k8 ?k9 ?kB ?_ ?c5 ?c2 ?c3 ?c4; (case k6 => k_is); (case k7 => k_is); (case k8 => ktr_room); (case k9 => exact BindsTo.of_eq rfl); (case c5 => decide); (case kB => exact locs rfl); (case c2 => exact rfl); (case c3 => exact rfl); (case c4 => exact rfl); k_whole)
  intro h' FG hrest F' N' B' X' T' l1
  try dsimp only
  try k_lt l1
  try k_lift B'
  have hne := tool_ne (by decide) N'
  refine nExecs (nAssign (nIfExp ?_))
  k_steps
  all_goals (try dsimp only)
  · have hr0 := bytes_ne (by assumption)
    rw [hrb] at hr0
    refine nMeth ?_
    k_steps
    all_goals (try dsimp only)
    refine nCallFn (by k_asm) (by k_is) ?_
    k_steps
    all_goals (try dsimp only)
    refine call_appN ?_
    k_dflt (refine' SpecRN.useM (own := [(e, instObj 230 de), (de, toolDict w x rb tr ab ta q1 q2 q3), (x, instObj 80 dx), (dx, shapeDict w way colors bits cols t1 t2 t3 t4 k1 k2 k3 k4)]) (decRow_spec _ _ _ _ _ _ _ _ _ _ _ _ _ _ _ _ _ _ _ _ rb rb ab _ _ _ rs as S (hway.resolve_left hr0) hrb hab hr0 hl hla) [] ?B ?F ?X ?N ?hs ?hr ?hd' ?T ?hk ?hd ?hu ?hEE ?_; (case B => k_asm); (case F => k_asm); (case X => k_asm); (case N => k_asm); (case T => k_asm); (case hk => exact rfl); (case hd => ktr_room); (case hu => ktr_units); (case hs => k_sub); (case hr => k_sub); (case hd' => exact fun p hp q hq => nomatch hq))
    case hEE =>
      intro v a g2 h9 tk9 hv F9 _ X9
      exact flyLeave (Around.frames_deeper rfl) rfl X9 F9 fun h8 X8 => hE v a _ _ _ ⟨⟨hr0, hv.1⟩, hv.2⟩ FG hrest X8
    rintro r9 _ h9 tk9 ⟨ab9, ta9, b9, t9, out9, as9, rfl, rfl, hb9, hbo, _⟩ F9 N9 -
    simp only [List.append_nil] at N9
    dsimp only
    k_steps
    all_goals (try dsimp only)
    refine nStep ?_
    k_steps
    all_goals (try dsimp only)
    refine nStep ?_
    k_steps
    all_goals (try dsimp only)
    try k_unfold
    exact leaveR_ (own' := [(e, instObj 230 de), (de, toolDict w x #[] _ ab9 ta9 q1 q2 q3), (x, instObj 80 dx), (dx, shapeDict w way colors bits cols t1 t2 t3 t4 k1 k2 k3 k4)]) (by assumption) (news_sub (by k_asm) (by k_sub)) fun aF aN aD => hret _ _ _ _ aF aN aD ⟨_, _, _, _, _, rfl, rfl, by rw [if_neg hr0, hbo]; exact ⟨_, hb9⟩⟩
  · have hr0 := bytes_eq (by assumption)
    refine nOf ?_
    k_steps
    all_goals (try dsimp only)
    refine nStep ?_
    k_steps
    all_goals (try dsimp only)
    refine nStep ?_
    k_steps
    all_goals (try dsimp only)
    try k_unfold
    exact leaveR_ (own' := [(e, instObj 230 de), (de, toolDict w x #[] _ ab ta q1 q2 q3), (x, instObj 80 dx), (dx, shapeDict w way colors bits cols t1 t2 t3 t4 k1 k2 k3 k4)]) (by assumption) (news_sub (by k_asm) (by k_sub)) fun aF aN aD => hret _ _ _ _ aF aN aD ⟨_, _, _, _, _, rfl, rfl, by rw [if_pos (by rw [← hrb, hr0]; exact bInts_nil)]; exact bInts_nil⟩
end H_decFin_spec
theorem decFin_spec (w : World) (e de x dx : Addr) (way colors bits cols : Int) (t1 t2 t3 t4 k1 k2 k3 k4 q1 q2 q3 : Tok) (rb ab : Array UInt8) (tr ta : Tok) (rs as : List Int)
    (S : ShapeOk way colors bits cols) (hway : rs = [] ∨ way = 2 ∨ 10 ≤ way ∧ way ≤ 15) (hrb : KBw.bInts rb = rs) (hab : KBw.bInts ab = as) (hl : rs.length ≤ 64) (hla : as.length ≤ 64) :
    SpecRN w 227 [.ref e] [(e, instObj 230 de), (de, toolDict w x rb tr ab ta q1 q2 q3), (x, instObj 80 dx), (dx, shapeDict w way colors bits cols t1 t2 t3 t4 k1 k2 k3 k4)] 10
      (fun r n => ∃ tr' ab' ta' b' t', n = [(e, instObj 230 de), (de, toolDict w x #[] tr' ab' ta' q1 q2 q3), (x, instObj 80 dx), (dx, shapeDict w way colors bits cols t1 t2 t3 t4 k1 k2 k3 k4)] ∧
        r = .bytes b' t' ∧ if rs = [] then KBw.bInts b' = [] else ∃ as', decF way colors bits cols as rs = some (KBw.bInts b', as'))
      (fun v => (rs ≠ [] ∧ decF way colors bits cols as rs = none) ∧ ∃ t, v = .bytes ioerror t) :=
  SpecRN.mk fun t => hk_all H_decFin_spec.hkN H_decFin_spec.hkU (by with_unfolding_all exact H_decFin_spec.core) (((((w, e), (de, x)), ((dx, way), colors)), (((bits, cols), (t1, t2)), ((t3, t4), k1))), ((((k2, k3), (k4, q1)), ((q2, q3), rb)), (((ab, tr), ta), ((rs, as), t)))) S hway hrb hab hl hla
end
section
theorem fillDec3 : PySem.Challenge.rw_nt0492_01 = PySem.Challenge.rw_nt0492_01 ∧ (∀ P, Mine.hd.heap_39 P = Mine.hd.heap_39 P) := by
  k_fill
  exact ⟨rfl, fun _ => rfl⟩
set_option maxHeartbeats 8000000
theorem kwD31 : True := by
  exact True.intro
noncomputable def toldSize (way colors bits cols : Int) : Nat := rowSize colors bits cols + (if 10 ≤ way then 1 else 0)
theorem decF_len {way colors bits cols : Int} {as os out as' : List Int} (S : ShapeOk way colors bits cols) (h : decF way colors bits cols as os = some (out, as')) (hl : os.length ≤ 64) (ha : as.length ≤ 64) : out.length ≤ os.length ∧ as'.length ≤ 64 := by
  unfold decF at h
  split at h
  · obtain ⟨rfl, rfl⟩ := Prod.mk.inj (Option.some.inj h)
    rw [tiffL_len S.bit]; lia
  · split at h
    · cases h
    · obtain ⟨rfl, rfl⟩ := Prod.mk.inj (Option.some.inj h)
      rw [backTo_len, List.length_drop]; lia
namespace H_decFeed_spec
abbrev hkD : Type := (((((World × Addr) × (Addr × Addr)) × ((Addr × Int) × (Int × Int))) × (((Int × Tok) × (Tok × Tok)) × ((Tok × Tok) × Tok))) × ((((Tok × Tok) × (Tok × Tok)) × ((Tok × (Array UInt8)) × ((Array UInt8) × (Array UInt8)))) × (((Tok × Tok) × (Tok × (List Int))) × (((List Int) × (List Int)) × Tele))))
def hkP (w : World) (e : Addr) (de : Addr) (x : Addr) (dx : Addr) (way : Int) (colors : Int) (bits : Int) (cols : Int) (t1 : Tok) (t2 : Tok) (t3 : Tok) (t4 : Tok) (k1 : Tok) (k2 : Tok) (k3 : Tok) (k4 : Tok) (q1 : Tok) (q2 : Tok) (q3 : Tok) (qb : Array UInt8) (rb : Array UInt8) (ab : Array UInt8) (tq : Tok) (tr : Tok) (ta : Tok) (os : List Int) (rs : List Int) (as : List Int) (hkT : Tele) : Prop := ∀ (S : ShapeOk way colors bits cols) (hway : way = 1 ∨ way = 2 ∨ 10 ≤ way ∧ way ≤ 15) (hqb : KBw.bInts qb = os) (hrb : KBw.bInts rb = rs) (hab : KBw.bInts ab = as) (hl : rs.length + os.length ≤ 64) (hla : as.length ≤ 64), SpecRNAt w 213 [.ref e, .bytes qb tq] [(e, instObj 230 de), (de, toolDict w x rb tr ab ta q1 q2 q3), (x, instObj 80 dx), (dx, shapeDict w way colors bits cols t1 t2 t3 t4 k1 k2 k3 k4)] 10
      (fun r n => ∃ rb' tr' ab' ta' b' t' rs' as' out, n = [(e, instObj 230 de), (de, toolDict w x rb' tr' ab' ta' q1 q2 q3), (x, instObj 80 dx), (dx, shapeDict w way colors bits cols t1 t2 t3 t4 k1 k2 k3 k4)] ∧
        r = .bytes b' t' ∧ KBw.bInts b' = out ∧ KBw.bInts rb' = rs' ∧ KBw.bInts ab' = as' ∧ rs'.length ≤ rs.length + os.length ∧ as'.length ≤ 64 ∧ out.length ≤ 128 ∧
        if way = 1 then out = os ∧ rs' = rs else rs'.length < toldSize way colors bits cols ∧ Fed (decF way colors bits cols) (toldSize way colors bits cols) as (rs ++ os) out as' rs')
      (fun v => (way ≠ 1 ∧ ∀ tail, runA (decF way colors bits cols) (toldSize way colors bits cols) as (rs ++ os ++ tail) = none) ∧ ∃ t, v = .bytes ioerror t) hkT
def hkU (d : hkD) : Prop := hkP d.1.1.1.1.1 d.1.1.1.1.2 d.1.1.1.2.1 d.1.1.1.2.2 d.1.1.2.1.1 d.1.1.2.1.2 d.1.1.2.2.1 d.1.1.2.2.2 d.1.2.1.1.1 d.1.2.1.1.2 d.1.2.1.2.1 d.1.2.1.2.2 d.1.2.2.1.1 d.1.2.2.1.2 d.1.2.2.2 d.2.1.1.1.1 d.2.1.1.1.2 d.2.1.1.2.1 d.2.1.1.2.2 d.2.1.2.1.1 d.2.1.2.1.2 d.2.1.2.2.1 d.2.1.2.2.2 d.2.2.1.1.1 d.2.2.1.1.2 d.2.2.1.2.1 d.2.2.1.2.2 d.2.2.2.1.1 d.2.2.2.1.2 d.2.2.2.2
theorem hkN : Nonempty hkD := (ne2 (ne2 (ne2 (ne2 (ne2 neWorld ⟨default⟩) (ne2 ⟨default⟩ ⟨default⟩)) (ne2 (ne2 ⟨default⟩ ⟨default⟩) (ne2 ⟨default⟩ ⟨default⟩))) (ne2 (ne2 (ne2 ⟨default⟩ ⟨default⟩) (ne2 ⟨default⟩ ⟨default⟩)) (ne2 (ne2 ⟨default⟩ ⟨default⟩) ⟨default⟩))) (ne2 (ne2 (ne2 (ne2 ⟨default⟩ ⟨default⟩) (ne2 ⟨default⟩ ⟨default⟩)) (ne2 (ne2 ⟨default⟩ ⟨default⟩) (ne2 ⟨default⟩ ⟨default⟩))) (ne2 (ne2 (ne2 ⟨default⟩ ⟨default⟩) (ne2 ⟨default⟩ ⟨default⟩)) (ne2 (ne2 ⟨default⟩ ⟨default⟩) neTele))))
@[irreducible] def hkV : hkD := hk_c hkN hkU
@[irreducible] def w : World := hkV.1.1.1.1.1
@[irreducible] def e : Addr := hkV.1.1.1.1.2
@[irreducible] def de : Addr := hkV.1.1.1.2.1
@[irreducible] def x : Addr := hkV.1.1.1.2.2
@[irreducible] def dx : Addr := hkV.1.1.2.1.1
@[irreducible] def way : Int := hkV.1.1.2.1.2
@[irreducible] def colors : Int := hkV.1.1.2.2.1
@[irreducible] def bits : Int := hkV.1.1.2.2.2
@[irreducible] def cols : Int := hkV.1.2.1.1.1
@[irreducible] def t1 : Tok := hkV.1.2.1.1.2
@[irreducible] def t2 : Tok := hkV.1.2.1.2.1
@[irreducible] def t3 : Tok := hkV.1.2.1.2.2
@[irreducible] def t4 : Tok := hkV.1.2.2.1.1
@[irreducible] def k1 : Tok := hkV.1.2.2.1.2
@[irreducible] def k2 : Tok := hkV.1.2.2.2
@[irreducible] def k3 : Tok := hkV.2.1.1.1.1
@[irreducible] def k4 : Tok := hkV.2.1.1.1.2
@[irreducible] def q1 : Tok := hkV.2.1.1.2.1
@[irreducible] def q2 : Tok := hkV.2.1.1.2.2
@[irreducible] def q3 : Tok := hkV.2.1.2.1.1
@[irreducible] def qb : Array UInt8 := hkV.2.1.2.1.2
@[irreducible] def rb : Array UInt8 := hkV.2.1.2.2.1
@[irreducible] def ab : Array UInt8 := hkV.2.1.2.2.2
@[irreducible] def tq : Tok := hkV.2.2.1.1.1
@[irreducible] def tr : Tok := hkV.2.2.1.1.2
@[irreducible] def ta : Tok := hkV.2.2.1.2.1
@[irreducible] def os : List Int := hkV.2.2.1.2.2
@[irreducible] def rs : List Int := hkV.2.2.2.1.1
@[irreducible] def as : List Int := hkV.2.2.2.1.2
@[irreducible] def hkT : Tele := hkV.2.2.2.2
@[irreducible] def g : Heap := hideAll hkT.s.heap (([(e, instObj 230 de), (de, toolDict w x rb tr ab ta q1 q2 q3), (x, instObj 80 dx), (dx, shapeDict w way colors bits cols t1 t2 t3 t4 k1 k2 k3 k4)] : List (Addr × Obj)).map (·.1))
def L' : Addr := hkT.s.heap.objs.size
theorem g_e : g = hideAll hkT.s.heap (([(e, instObj 230 de), (de, toolDict w x rb tr ab ta q1 q2 q3), (x, instObj 80 dx), (dx, shapeDict w way colors bits cols t1 t2 t3 t4 k1 k2 k3 k4)] : List (Addr × Obj)).map (·.1)) := by delta g; exact rfl
theorem L_e : L' = hkT.s.heap.objs.size := rfl
theorem core : hkP w e de x dx way colors bits cols t1 t2 t3 t4 k1 k2 k3 k4 q1 q2 q3 qb rb ab tq tr ta os rs as hkT := by
  unfold hkP SpecRNAt
  intro S hway hqb hrb hab hl hla
  have hsz := rowSize_in S
  intro B F X N Nr hdis T hk hd hu hret hE
  refine nCall ?_
  k_dflt (refine' enterRN20 g L' g_e L_e (binds := [(Str.ofString "self", .ref e), (Str.ofString "octets", .bytes qb tq)]) B F X N Nr hdis T rfl rfl hk ?k6 ?k7 ?k8 ?k9 ?kB ?_ ?c5 ?c2 ?c3 ?c4; (case k6 => k_is); (case k7 => k_is); (case k8 => ktr_room); (case k9 => exact BindsTo.of_eq rfl); (case c5 => decide); (case kB => exact locs rfl); (case c2 => exact rfl); (case c3 => exact rfl); (case c4 => exact rfl); k_whole)
  intro h' FG hrest F' N' B' X' T' l1
  try dsimp only
  try k_lt l1
  try k_lift B'
  have hne := tool_ne (by decide) N'
  refine nStep ?_
  k_steps
  all_goals (try dsimp only)
  · exact leaveR_ (own' := [(e, instObj 230 de), (de, toolDict w x rb tr ab ta q1 q2 q3), (x, instObj 80 dx), (dx, shapeDict w way colors bits cols t1 t2 t3 t4 k1 k2 k3 k4)]) (by assumption) (by k_asm) fun aF aN aD => hret _ _ _ _ aF aN aD ⟨_, _, _, _, _, _, _, _, _, rfl, rfl, hqb, hrb, hab, by lia, hla, by lia, by rw [if_pos (by assumption)]; exact ⟨rfl, rfl⟩⟩
  · have hw1 : way ≠ 1 := by assumption
    refine nStep ?_
    k_steps
    all_goals (try dsimp only)
    refine nExecs (nAssignSw (names := [Str.ofString "many", Str.ofString "found"]) (nTuple (nArgs (nOf ?_))))
    k_steps
    all_goals (try dsimp only)
    refine nArgs (nCallE ?_)
    k_steps
    all_goals (try dsimp only)
    refine nCallT0 (BA.makeK (by k_asm) (by k_asm) ?_)
    intro D h1 F1 N1 lt1
    k_lt lt1
    dsimp only
    refine nArgs0 ?_
    k_steps
    all_goals (try dsimp only)
    have hms : ((colors * bits * cols + 7).fdiv 8 + if decide (10 ≤ way) = true then 1 else 0) = (toldSize way colors bits cols : Nat) := by
      rw [hsz.1]; unfold toldSize
      by_cases h10 : 10 ≤ way
      · rw [if_pos (by rw [decide_eq_true h10]), if_pos h10]; rfl
      · rw [if_neg (by rw [decide_eq_false h10]; decide), if_neg h10]; rfl
    have hz1 : 1 ≤ toldSize way colors bits cols ∧ toldSize way colors bits cols ≤ 193 := by unfold toldSize; split <;> lia
    refine nExecs (nWhile ?_)
    have qqN9 := True.intro
    rename_i t5 k5 hbq hA hB tk0 tm D2 hC lt2 hD hE' hF F5 N5
    rw [hms] at F5
    have hlen0 : (rs ++ os).length = rs.length + os.length := List.length_append
    generalize hnn : toldSize way colors bits cols = n at hz1 F5 hret hE
    refine cnWhileLoop (fun k s₁ => ∃ h' tk rb' tr' ab' ta' fb os' as', s₁ = { hkT.s with heap := h', toks := tk } ∧
        Fr g L' h' (fun y => if y = Str.ofString "many" then some (.int (n : Nat) (tk0 + 1 + 1 + 1)) else if y = Str.ofString "found" then some (.ref D) else List.lookup y [(Str.ofString "self", Value.ref e), (Str.ofString "octets", Value.bytes qb tq)].reverse) ∧
        News g L' h' [(D, BA.baOf fb), (e, instObj 230 de), (de, toolDict w x rb' tr' ab' ta' q1 q2 q3), (x, instObj 80 dx), (dx, shapeDict w way colors bits cols t1 t2 t3 t4 k1 k2 k3 k4)] ∧
        k = os'.length ∧ KBw.bInts rb' = os' ∧ KBw.bInts ab' = as' ∧ os'.length ≤ rs.length + os.length ∧ as'.length ≤ 64 ∧ (KBw.bInts fb).length + os'.length ≤ 64 ∧
        Fed (decF way colors bits cols) n as (rs ++ os) (KBw.bInts fb) as' os') ?_ (rs ++ os).length
      ⟨_, _, _, _, _, _, _, _, _, rfl, F5, news_sub N5 (by k_sub), rfl, hbq, hab, by lia, hla, by rw [bInts_nil]; simp only [List.length_nil]; lia, Fed.start⟩
    rintro k s₁ ⟨h2, tk2, rb', tr', ab', ta', fb, os', as', rfl, F2, N2, rfl, hb1, hb2, hb3, hb4, hb5, hfed⟩
    have hrl : rb'.size = os'.length := by rw [← hb1, KBw.ints_length]
    have hfl : fb.size = (KBw.bInts fb).length := (KBw.ints_length _).symm
    k_steps
    all_goals (try dsimp only)
    · refine nExecs (nExpr (nMeth ?_))
      k_steps
      all_goals (try dsimp only)
      refine nCallBn (nArgs (nMeth ?_))
      k_steps
      all_goals (try dsimp only)
      refine nCallFn (by k_asm) (by k_is) ?_
      k_steps
      all_goals (try dsimp only)
      have qqN9 := True.intro
      rename_i hq1 tq1 kq1 Fq Nq hqk
      have hno : n ≤ os'.length := by lia
      have htl : (os'.take n).length = n := by rw [List.length_take]; lia
      have ht0 : os'.take n ≠ [] := fun q => by
        have := congrArg List.length q
        rw [htl] at this; simp only [List.length_nil] at this; lia
      replace hqk := hqk.trans (show _ = os'.take n by first | exact take_clip1 rfl hno | rw [Nat.min_eq_left hno])
      refine call_appN ?_
      k_dflt (refine' SpecRN.useM (own := [(e, instObj 230 de), (de, toolDict w x rb' tr' ab' ta' q1 q2 q3), (x, instObj 80 dx), (dx, shapeDict w way colors bits cols t1 t2 t3 t4 k1 k2 k3 k4)]) (decRow_spec _ _ _ _ _ _ _ _ _ _ _ _ _ _ _ _ _ _ _ _ _ rb' ab' _ _ _ _ as' S (by lia) hqk hb2 ht0 (by lia) hb4) [(D, BA.baOf fb)] ?B ?F ?X ?N ?hs ?hr ?hd' ?T ?hk ?hd ?hu ?hEE ?_; (case B => k_asm); (case F => k_asm); (case X => k_asm); (case N => k_asm); (case T => k_asm); (case hk => exact rfl); (case hd => ktr_room); (case hu => ktr_units); (case hs => k_sub); (case hr => k_sub); (case hd' => ((repeat (refine List.forall_mem_cons.mpr ⟨?_, ?_⟩; (focus k_all))); exact List.forall_mem_nil _)))
      case hEE =>
        intro v a g2 h9 tk9 hv F9 _ X9
        refine flyNoted (Around.frames_deeper rfl) rfl X9 fun h8 X8 => ?_
        refine flyBack rfl X8 fun h7 X7 => ?_
        exact flyLeaveH rfl X7 F9 fun h6 X6 => hE v a _ _ _ ⟨⟨hw1, hfed.stop hz1.1 hno hv.1⟩, hv.2⟩ FG hrest X6
      rintro r9 _ h9 tk9 ⟨ab9, ta9, b9, t9, out9, as9, rfl, rfl, hdf, hb9, hab9⟩ F9 N9 -
      simp only [List.cons_append, List.nil_append] at N9
      dsimp only
      refine nArgs0 ?_
      obtain ⟨ho1, ho2⟩ := decF_len S hdf (by lia) hb4
      have hb9l : b9.size = out9.length := by rw [← KBw.ints_length, hb9]
      refine BA.extendK (by k_asm) (news_sub (l' := [(D, BA.baOf fb), (e, instObj 230 de), (de, toolDict w x rb' tr' ab9 ta9 q1 q2 q3), (x, instObj 80 dx), (dx, shapeDict w way colors bits cols t1 t2 t3 t4 k1 k2 k3 k4)]) (by k_asm) (by k_sub)) (.head (by k_all)) (by lia) ?_
      intro hz Fz Nz
      dsimp only
      refine nStep ?_
      k_steps
      all_goals (try dsimp only)
      have qqN9 := True.intro
      rename_i hx1 tx1 kx1 hxk hx2 Fx Nx
      have hdl : (os'.drop n).length = os'.length - n := List.length_drop
      have hstep := hfed.step hz1.1 hno (out2 := KBw.bInts b9) (as2 := KBw.bInts ab9) (by rw [hb9, hab9]; exact hdf)
      refine nExecsNil ⟨_, ?_, _, _, _, _, ab9, _, fb ++ b9, _, _, rfl, Fx, Nx, rfl, hxk.trans (show _ = os'.drop n by first | exact drop_clip1 rfl hno | (rw [Nat.min_eq_left hno]; exact List.take_of_length_le (by rw [List.length_drop]; lia))), rfl, by lia, ?_, ?_, ?_⟩
      · lia
      · rw [hab9]; lia
      · rw [bInts_append, List.length_append, hb9]; lia
      · rw [bInts_append]; exact hstep
    · refine nStep ?_
      k_steps
      all_goals (try dsimp only)
      try k_unfold
      exact leaveR_ (own' := [(e, instObj 230 de), (de, toolDict w x rb' tr' ab' ta' q1 q2 q3), (x, instObj 80 dx), (dx, shapeDict w way colors bits cols t1 t2 t3 t4 k1 k2 k3 k4)]) (by assumption) (news_sub (by assumption) (by k_sub)) fun aF aN aD => hret _ _ _ _ aF aN aD ⟨_, _, _, _, _, _, _, _, _, rfl, rfl, rfl, hb1, hb2, hb3, hb4, by lia, by rw [if_neg hw1]; exact ⟨by lia, hfed⟩⟩
end H_decFeed_spec
theorem decFeed_spec (w : World) (e de x dx : Addr) (way colors bits cols : Int) (t1 t2 t3 t4 k1 k2 k3 k4 q1 q2 q3 : Tok) (qb rb ab : Array UInt8) (tq tr ta : Tok) (os rs as : List Int)
    (S : ShapeOk way colors bits cols) (hway : way = 1 ∨ way = 2 ∨ 10 ≤ way ∧ way ≤ 15) (hqb : KBw.bInts qb = os) (hrb : KBw.bInts rb = rs) (hab : KBw.bInts ab = as) (hl : rs.length + os.length ≤ 64) (hla : as.length ≤ 64) :
    SpecRN w 213 [.ref e, .bytes qb tq] [(e, instObj 230 de), (de, toolDict w x rb tr ab ta q1 q2 q3), (x, instObj 80 dx), (dx, shapeDict w way colors bits cols t1 t2 t3 t4 k1 k2 k3 k4)] 10
      (fun r n => ∃ rb' tr' ab' ta' b' t' rs' as' out, n = [(e, instObj 230 de), (de, toolDict w x rb' tr' ab' ta' q1 q2 q3), (x, instObj 80 dx), (dx, shapeDict w way colors bits cols t1 t2 t3 t4 k1 k2 k3 k4)] ∧
        r = .bytes b' t' ∧ KBw.bInts b' = out ∧ KBw.bInts rb' = rs' ∧ KBw.bInts ab' = as' ∧ rs'.length ≤ rs.length + os.length ∧ as'.length ≤ 64 ∧ out.length ≤ 128 ∧
        if way = 1 then out = os ∧ rs' = rs else rs'.length < toldSize way colors bits cols ∧ Fed (decF way colors bits cols) (toldSize way colors bits cols) as (rs ++ os) out as' rs')
      (fun v => (way ≠ 1 ∧ ∀ tail, runA (decF way colors bits cols) (toldSize way colors bits cols) as (rs ++ os ++ tail) = none) ∧ ∃ t, v = .bytes ioerror t) :=
  SpecRN.mk fun t => hk_all H_decFeed_spec.hkN H_decFeed_spec.hkU (by with_unfolding_all exact H_decFeed_spec.core) (((((w, e), (de, x)), ((dx, way), (colors, bits))), (((cols, t1), (t2, t3)), ((t4, k1), k2))), ((((k3, k4), (q1, q2)), ((q3, qb), (rb, ab))), (((tq, tr), (ta, os)), ((rs, as), t)))) S hway hqb hrb hab hl hla
end
section
section
variable {prog : Program} {w : World} {A : Around} {E : Value → Shared → Prop} {s : Shared}
noncomputable def ltPair (p q : Int × Int) : Bool := decide (p.1 < q.1) || (decide (p.1 = q.1) && decide (p.2 < q.2))
noncomputable def IsPair (h : Heap) (a : Addr) (p : Int × Int) : Prop := ∃ t u, h.get? a = some (tupOf #[.int p.1 t, .int p.2 u])
theorem IsPair.typeIs {a : Addr} {p : Int × Int} (h : IsPair s.heap a p) : s.TypeIs (.ref a) "tuple" := by
  obtain ⟨t, u, h⟩ := h
  first | exact ⟨_, h, rfl⟩ | exact .ref h rfl | exact typeIs_ref h rfl
theorem pairLt {a b : Addr} {p q : Int × Int} {P : Fin → Shared → Prop} (ha : IsPair s.heap a p) (hb : IsPair s.heap b q) (h : P (.done (.ret (.bool (ltPair p q)))) s) :
    wpAny (model prog w) A (Builtin.«tuple.__lt__» ⟨[.ref a, .ref b], []⟩) P E s := by
  have hTb := hb.typeIs
  obtain ⟨t, u, ha⟩ := ha
  obtain ⟨t', u', hb⟩ := hb
  show wpAny _ _ (isInstance (.ref b) (.type "tuple") >>= _) _ _ s
  refine wpAny_bind (wpAny_isInstance hTb isSubtype_tuple_tuple ?_)
  simp only [Bool.not_true, Bool.false_eq_true, if_false]
  refine wpAny_bind (wpAny_tupleItemsOf ha rfl ?_)
  refine wpAny_bind (wpAny_tupleItemsOf hb rfl ?_)
  simp only [List.zip_cons_cons, List.zip_nil_right, List.forIn_cons, List.forIn_nil]
  have lt : ∀ {x y : Int} {t u : Tok} {Q : Value → Shared → Prop}, Q (.bool (decide (x < y))) s → wpAny (model prog w) A (richCompare .Lt (.int x t) (.int y u)) Q E s := fun {x y t u Q} hq =>
    richCompare_gives (op := .Lt) (typeIs_int s _ t) (typeIs_int s _ u) F.slot_int_lt F.entry_int_lt (F.args_int_lt_2 _ _) (gives_int_lt _ _ t u) (fun x => nomatch x) hq
  refine wpAny_bind (wpAny_bind (wpAny_bind (wpAny_eqBool_int ?_)))
  by_cases e1 : p.1 = q.1
  · rw [show (p.1 == q.1) = true from beq_iff_eq.mpr e1]
    simp only [Bool.not_true, Bool.false_eq_true, if_false]
    refine wpAny_pure (wpAny_bind (wpAny_bind (wpAny_eqBool_int ?_)))
    by_cases e2 : p.2 = q.2
    · rw [show (p.2 == q.2) = true from beq_iff_eq.mpr e2]
      simp only [Bool.not_true, Bool.false_eq_true, if_false]
      refine wpAny_pure (wpAny_pure (wpAny_pure ?_))
      have hv : ltPair p q = false := by simp [ltPair, e1, e2]
      rw [hv] at h
      exact h
    · rw [show (p.2 == q.2) = false from beq_eq_false_iff_ne.mpr e2]
      simp only [Bool.not_false, if_true]
      refine wpAny_bind (wpAny_rule (wpAny_bind (lt (wpAny_bind (wpAny_pure (wpAny_pure (wpAny_pure (wpAny_pure ?_))))))))
      have hv : ltPair p q = decide (p.2 < q.2) := by simp [ltPair, e1]
      rw [hv] at h
      exact h
  · rw [show (p.1 == q.1) = false from beq_eq_false_iff_ne.mpr e1]
    simp only [Bool.not_false, if_true]
    refine wpAny_bind (wpAny_rule (wpAny_bind (lt (wpAny_bind (wpAny_pure (wpAny_pure (wpAny_pure (wpAny_pure ?_))))))))
    have hv : ltPair p q = decide (p.1 < q.1) := by simp [ltPair, e1]
    rw [hv] at h
    exact h
theorem pairCmp {a b : Addr} {p q : Int × Int} {Q : Value → Shared → Prop} (ha : IsPair s.heap a p) (hb : IsPair s.heap b q) (hu : A.units < cLine) (h : Q (.bool (ltPair p q)) s) :
    wpAny (model prog w) A (richCompare .Lt (.ref a) (.ref b)) Q E s :=
  wpAny_richCompare_same_room (op := .Lt) ha.typeIs hb.typeIs F.slot_tuple_lt (wpAny_call_entry F.slot_tuple_lt ha.typeIs F.entry_tuple_lt (pairLt ha hb ⟨_, rfl, (fun e => nomatch e), h⟩) (F.args_tuple_lt_2 _ _)) hu
end
section
variable {prog : Program} {w : World} {A : Around} {R : Result → Shared → Prop} {I S : Addr} {fp wr : List Addr} {n : Nat} {P : Nat → Value → Prop} {St : Nat → Heap → Prop} {bt : Nat → Nat → Bool} {Good : Heap → Prop}
noncomputable abbrev bestObj (v : Value) (c : Nat) : Obj := { cls := .type "list", dict := none, data := .seq #[v, v] c, slots := #[] }
end
section
namespace H_minStep
abbrev hkD : Type := ((((Program × World) × (Around × (Result → Shared → Prop))) × ((Addr × Addr) × (List Addr))) × ((((List Addr) × Nat) × ((Nat → Value → Prop) × (Nat → Heap → Prop))) × (((Nat → Nat → Bool) × (Heap → Prop)) × Nat)))
def hkP (prog : Program) (w : World) (A : Around) (R : Result → Shared → Prop) (I : Addr) (S : Addr) (fp : List Addr) (wr : List Addr) (n : Nat) (P : Nat → Value → Prop) (St : Nat → Heap → Prop) (bt : Nat → Nat → Bool) (Good : Heap → Prop) (k : Nat) : Prop := ∀ (W : Walks prog w A.in1 I fp wr n P St) (hSf : S ∉ fp) (hG : ∀ h h', Good h → (∀ b o, b ∉ wr → b ≠ S → h.get? b = some o → h'.get? b = some o) → Good h') (hcmp : ∀ i j vi vj (s : Shared) (Q E : Value → Shared → Prop), P i vi → P j vj → Good s.heap → Q (.bool (bt i j)) s → wpAny (model prog w) A.in1 (richCompare .Lt vi vj) Q E s), ∀ (j : Nat) (s : Shared) (vb : Value) (c : Nat), j + 1 + k = n → St (j + 1) s.heap → Good s.heap → P (argBest bt j) vb → s.heap.get? S = some (bestObj vb c) →
    (∀ v h' tk, P (argBest bt (n - 1)) v → (∀ b o, b ∉ wr → b ≠ S → s.heap.get? b = some o → h'.get? b = some o) → R (.ok (.ret v)) { s with heap := h', toks := tk }) →
    codeAny (model prog w) A (.builtin "min.loop" ⟨[.ref I, .none, .ref S], []⟩) R s
def hkU (d : hkD) : Prop := hkP d.1.1.1.1 d.1.1.1.2 d.1.1.2.1 d.1.1.2.2 d.1.2.1.1 d.1.2.1.2 d.1.2.2 d.2.1.1.1 d.2.1.1.2 d.2.1.2.1 d.2.1.2.2 d.2.2.1.1 d.2.2.1.2 d.2.2.2
theorem hkN : Nonempty hkD := (ne2 (ne2 (ne2 (ne2 neProg neWorld) (ne2 neAround ⟨default⟩)) (ne2 (ne2 ⟨default⟩ ⟨default⟩) ⟨default⟩)) (ne2 (ne2 (ne2 ⟨default⟩ ⟨default⟩) (ne2 ⟨default⟩ ⟨default⟩)) (ne2 (ne2 ⟨default⟩ ⟨default⟩) ⟨default⟩)))
@[irreducible] def hkV : hkD := hk_c hkN hkU
@[irreducible] def prog : Program := hkV.1.1.1.1
@[irreducible] def w : World := hkV.1.1.1.2
@[irreducible] def A : Around := hkV.1.1.2.1
@[irreducible] def R : Result → Shared → Prop := hkV.1.1.2.2
@[irreducible] def I : Addr := hkV.1.2.1.1
@[irreducible] def S : Addr := hkV.1.2.1.2
@[irreducible] def fp : List Addr := hkV.1.2.2
@[irreducible] def wr : List Addr := hkV.2.1.1.1
@[irreducible] def n : Nat := hkV.2.1.1.2
@[irreducible] def P : Nat → Value → Prop := hkV.2.1.2.1
@[irreducible] def St : Nat → Heap → Prop := hkV.2.1.2.2
@[irreducible] def bt : Nat → Nat → Bool := hkV.2.2.1.1
@[irreducible] def Good : Heap → Prop := hkV.2.2.1.2
@[irreducible] def k : Nat := hkV.2.2.2
theorem core : hkP prog w A R I S fp wr n P St bt Good k := by
  unfold hkP
  intro W hSf hG hcmp
  have hSw : S ∉ wr := fun h => hSf (W.sub _ h)
  have hn : (toString "min" ++ toString ".loop" : String) = "min.loop" := by decide
  induction k with
  | zero =>
    intro j s vb c hj st good hb hS hR
    refine codeAny_builtin F.entry_min_loop ?_
    rw [Around.under_plainId F.plain_min_loop _]
    show wpAny _ A.in1 (seqItems? (.ref S) >>= _) _ _ s
    refine wpAny_bind (wpAny_seqItems hS rfl ?_)
    show wpAny _ A.in1 (tryCatch (pyNext (.ref I)) _ >>= _) _ _ s
    refine wpAny_bind (wpAny_tryCatch (W.done s _ _ (by rw [← hj]; exact st) fun h' tk hk => ?_))
    show wpAny _ A.in1 (updateSeq S (fun _ => #[]) >>= _) _ _ _
    refine wpAny_bind (wpAny_updateSeq (hk S _ hSw hS) rfl (wpAny_bind (wpAny_letGo (wpAny_pure ?_))))
    refine hR vb _ tk (by rw [← hj]; exact hb) fun b o b1 b2 e => ?_
    rw [Heap.get?_update_other _ _ (Ne.symm b2)]
    exact hk b o b1 e
  | succ k ih =>
    intro j s vb c hj st good hb hS hR
    refine codeAny_builtin F.entry_min_loop ?_
    rw [Around.under_plainId F.plain_min_loop _]
    show wpAny _ A.in1 (seqItems? (.ref S) >>= _) _ _ s
    refine wpAny_bind (wpAny_seqItems hS rfl ?_)
    show wpAny _ A.in1 (tryCatch (pyNext (.ref I)) _ >>= _) _ _ s
    refine wpAny_bind (wpAny_tryCatch (W.item (j + 1) s _ _ (by lia) st fun v h1 tk hv st1 hk => ?_))
    have good1 : Good h1 := hG _ _ good fun b o b1 _ e => hk b o b1 e
    have hS1 := hk S _ hSw hS
    show wpAny _ A.in1 (tryCatch (holding [v, v] (richCompare .Lt v vb >>= _)) _ >>= _) _ _ _
    refine wpAny_bind (wpAny_tryCatch (wpAny_holding (wpAny_bind (hcmp (j + 1) (argBest bt j) v vb _ _ _ hv hb good1 ?_))))
    refine wpAny_bind (wpAny_holding (wpAny_truthy_bool (wpAny_bind (wpAny_letGo (wpAny_pure ?_)))))
    by_cases hlt : bt (j + 1) (argBest bt j) = true
    · rw [hlt]
      simp only [if_true]
      refine wpAny_bind (wpAny_updateSeq hS1 rfl (wpAny_bind (wpAny_letGo ?_)))
      rw [hn]
      have kept : ∀ (f : Obj → Obj) b o, b ∉ wr → b ≠ S → s.heap.get? b = some o → (h1.update S f).get? b = some o := fun f b o b1 b2 e => by rw [Heap.get?_update_other _ _ (Ne.symm b2)]; exact hk b o b1 e
      refine wpAny_pure ⟨plainId_quiet F.plain_min_loop _, ih (j + 1) _ v _ (by lia) (W.frame _ _ _ st1 fun b hbf o e => ?_) (hG _ _ good (kept _)) (by rw [argBest, if_pos hlt]; exact hv) (Heap.get?_update_self _ hS1 rfl)
        fun v' h'' tk'' q1 q2 => hR v' h'' tk'' q1 fun b o b1 b2 e => q2 b o b1 b2 (kept _ b o b1 b2 e)⟩
      exact (Heap.get?_update_other _ _ (fun q : S = b => hSf (q ▸ hbf))).trans e
    · have hf : bt (j + 1) (argBest bt j) = false := by simpa using hlt
      rw [hf]
      simp only [Bool.false_eq_true, if_false]
      refine wpAny_bind (wpAny_letGo ?_)
      rw [hn]
      exact wpAny_pure ⟨plainId_quiet F.plain_min_loop _, ih (j + 1) _ vb c (by lia) st1 good1 (by rw [argBest, if_neg hlt]; exact hb) hS1
        fun v' h'' tk'' q1 q2 => hR v' h'' tk'' q1 fun b o b1 b2 e => q2 b o b1 b2 (hk b o b1 e)⟩
end H_minStep
end
section
variable {prog : Program} {w : World} {A : Around} {R : Result → Shared → Prop} {I S : Addr} {fp wr : List Addr} {n : Nat} {P : Nat → Value → Prop} {St : Nat → Heap → Prop} {bt : Nat → Nat → Bool} {Good : Heap → Prop}
theorem minStep (W : Walks prog w A.in1 I fp wr n P St) (hSf : S ∉ fp) (hG : ∀ h h', Good h → (∀ b o, b ∉ wr → b ≠ S → h.get? b = some o → h'.get? b = some o) → Good h')
    (hcmp : ∀ i j vi vj (s : Shared) (Q E : Value → Shared → Prop), P i vi → P j vj → Good s.heap → Q (.bool (bt i j)) s → wpAny (model prog w) A.in1 (richCompare .Lt vi vj) Q E s) (k : Nat) :
    ∀ (j : Nat) (s : Shared) (vb : Value) (c : Nat), j + 1 + k = n → St (j + 1) s.heap → Good s.heap → P (argBest bt j) vb → s.heap.get? S = some (bestObj vb c) →
    (∀ v h' tk, P (argBest bt (n - 1)) v → (∀ b o, b ∉ wr → b ≠ S → s.heap.get? b = some o → h'.get? b = some o) → R (.ok (.ret v)) { s with heap := h', toks := tk }) →
    codeAny (model prog w) A (.builtin "min.loop" ⟨[.ref I, .none, .ref S], []⟩) R s :=
  hk_all H_minStep.hkN H_minStep.hkU (by with_unfolding_all exact H_minStep.core) ((((prog, w), (A, R)), ((I, S), fp)), (((wr, n), (P, St)), ((bt, Good), k))) W hSf hG hcmp
theorem minFirst (W : Walks prog w A.in1 I fp wr n P St) (hSf : S ∉ fp) (hG : ∀ h h', Good h → (∀ b o, b ∉ wr → b ≠ S → h.get? b = some o → h'.get? b = some o) → Good h')
    (hcmp : ∀ i j vi vj (s : Shared) (Q E : Value → Shared → Prop), P i vi → P j vj → Good s.heap → Q (.bool (bt i j)) s → wpAny (model prog w) A.in1 (richCompare .Lt vi vj) Q E s)
    {s : Shared} {c : Nat} (h0 : 0 < n) (st : St 0 s.heap) (good : Good s.heap) (hS : s.heap.get? S = some { cls := .type "list", dict := none, data := .seq #[] c, slots := #[] })
    (hR : ∀ v h' tk, P (argBest bt (n - 1)) v → (∀ b o, b ∉ wr → b ≠ S → s.heap.get? b = some o → h'.get? b = some o) → R (.ok (.ret v)) { s with heap := h', toks := tk }) :
    codeAny (model prog w) A (.builtin "min.loop" ⟨[.ref I, .none, .ref S], []⟩) R s := by
  have hSw : S ∉ wr := fun h => hSf (W.sub _ h)
  have hn : (toString "min" ++ toString ".loop" : String) = "min.loop" := by decide
  refine codeAny_builtin F.entry_min_loop ?_
  rw [Around.under_plainId F.plain_min_loop _]
  show wpAny _ A.in1 (seqItems? (.ref S) >>= _) _ _ s
  refine wpAny_bind (wpAny_seqItems hS rfl ?_)
  show wpAny _ A.in1 (tryCatch (pyNext (.ref I)) _ >>= _) _ _ s
  refine wpAny_bind (wpAny_tryCatch (W.item 0 s _ _ h0 st fun v h1 tk hv st1 hk => ?_))
  have hS1 := hk S _ hSw hS
  show wpAny _ A.in1 (updateSeq S (fun _ => #[v, v]) >>= _) _ _ _
  refine wpAny_bind (wpAny_updateSeq hS1 rfl ?_)
  rw [hn]
  have kept : ∀ (f : Obj → Obj) b o, b ∉ wr → b ≠ S → s.heap.get? b = some o → (h1.update S f).get? b = some o := fun f b o b1 b2 e => by rw [Heap.get?_update_other _ _ (Ne.symm b2)]; exact hk b o b1 e
  refine wpAny_pure ⟨plainId_quiet F.plain_min_loop _, minStep W hSf hG hcmp (n - 1) 0 _ v _ (by lia) (W.frame _ _ _ st1 fun b hbf o e => ?_) (hG _ _ good (kept _)) hv (Heap.get?_update_self _ hS1 rfl)
    fun v' h'' tk'' q1 q2 => hR v' h'' tk'' q1 fun b o b1 b2 e => q2 b o b1 b2 (kept _ b o b1 b2 e)⟩
  exact (Heap.get?_update_other _ _ (fun q : S = b => hSf (q ▸ hbf))).trans e
end
inductive Pairs : List (Addr × Obj) → List (Int × Int) → Prop
  | nil : Pairs [] []
  | cons {ps : List (Addr × Obj)} {qs : List (Int × Int)} (T : Addr) (t u : Tok) (a b : Int) : Pairs ps qs → Pairs ((T, tupOf #[.int a t, .int b u]) :: ps) ((a, b) :: qs)
theorem Pairs.length {ps : List (Addr × Obj)} {qs : List (Int × Int)} (h : Pairs ps qs) : ps.length = qs.length := by
  induction h with
  | nil => rfl
  | cons T t u a b h ih => rw [List.length_cons, List.length_cons, ih]
theorem Pairs.at {ps : List (Addr × Obj)} {qs : List (Int × Int)} (h : Pairs ps qs) : ∀ {i : Nat} {p : Addr × Obj}, ps[i]? = some p → ∃ t u, p.2 = tupOf #[.int (qs.getD i (0, 0)).1 t, .int (qs.getD i (0, 0)).2 u] := by
  induction h with
  | nil => intro i p e; rw [List.getElem?_nil] at e; cases e
  | cons T t u a b h ih =>
    intro i p e
    cases i with
    | zero => rw [List.getElem?_cons_zero] at e; cases e; exact ⟨t, u, rfl⟩
    | succ i =>
      rw [List.getElem?_cons_succ] at e
      obtain ⟨t', u', e'⟩ := ih e
      refine ⟨t', u', ?_⟩
      rw [List.getD_cons_succ]; exact e'
theorem Pairs.snoc {ps : List (Addr × Obj)} {qs : List (Int × Int)} (h : Pairs ps qs) (T : Addr) (t u : Tok) (a b : Int) : Pairs (ps ++ [(T, tupOf #[.int a t, .int b u])]) (qs ++ [(a, b)]) := by
  induction h with
  | nil => exact .cons T t u a b .nil
  | cons T' t' u' a' b' h ih => exact .cons T' t' u' a' b' ih
noncomputable def leastAt (qs : List (Int × Int)) : Nat := argBest (fun i j => ltPair (qs.getD i (0, 0)) (qs.getD j (0, 0))) (qs.length - 1)
section
variable {prog : Program} {w : World} {A : Around} {E : Value → Shared → Prop} {s : Shared} {h₀ : Heap} {L : Addr} {m : Str → Option Value} {news : List (Addr × Obj)} {Q : Value → Shared → Prop}
end
section
namespace H_minPairs
abbrev hkD : Type := ((((Program × World) × (Around × (Value → Shared → Prop))) × ((Shared × Heap) × Addr)) × ((((Str → Option Value) × (List (Addr × Obj))) × ((Value → Shared → Prop) × Addr)) × ((Nat × (List (Addr × Obj))) × (List (Int × Int)))))
def hkP (prog : Program) (w : World) (A : Around) (E : Value → Shared → Prop) (s : Shared) (h₀ : Heap) (L : Addr) (m : Str → Option Value) (news : List (Addr × Obj)) (Q : Value → Shared → Prop) (l : Addr) (c : Nat) (ps : List (Addr × Obj)) (qs : List (Int × Int)) : Prop := ∀ (hh : A.handled = none) (hu : A.units + 1 < cLine) (Fg : Fr h₀ L s.heap m) (N : News h₀ L s.heap news) (hm : (l, listOf (ps.map fun p => Value.ref p.1).toArray c) ∈ news) (hp : ∀ p ∈ ps, p ∈ news) (hq : Pairs ps qs) (h0 : 0 < qs.length) (h : ∀ T t u h' tk, Fr h₀ L h' m → News h₀ L h' ((T, tupOf #[.int (qs.getD (leastAt qs) (0, 0)).1 t, .int (qs.getD (leastAt qs) (0, 0)).2 u]) :: news) → Q (.ref T) { s with heap := h', toks := tk }), wpAny (model prog w) A (call (.builtin "min") [.ref l]) Q E s
def hkU (d : hkD) : Prop := hkP d.1.1.1.1 d.1.1.1.2 d.1.1.2.1 d.1.1.2.2 d.1.2.1.1 d.1.2.1.2 d.1.2.2 d.2.1.1.1 d.2.1.1.2 d.2.1.2.1 d.2.1.2.2 d.2.2.1.1 d.2.2.1.2 d.2.2.2
theorem hkN : Nonempty hkD := (ne2 (ne2 (ne2 (ne2 neProg neWorld) (ne2 neAround ⟨default⟩)) (ne2 (ne2 neShared ⟨default⟩) ⟨default⟩)) (ne2 (ne2 (ne2 ⟨default⟩ ⟨default⟩) (ne2 ⟨default⟩ ⟨default⟩)) (ne2 (ne2 ⟨default⟩ ⟨default⟩) ⟨default⟩)))
@[irreducible] def hkV : hkD := hk_c hkN hkU
@[irreducible] def prog : Program := hkV.1.1.1.1
@[irreducible] def w : World := hkV.1.1.1.2
@[irreducible] def A : Around := hkV.1.1.2.1
@[irreducible] def E : Value → Shared → Prop := hkV.1.1.2.2
@[irreducible] def s : Shared := hkV.1.2.1.1
@[irreducible] def h₀ : Heap := hkV.1.2.1.2
@[irreducible] def L : Addr := hkV.1.2.2
@[irreducible] def m : Str → Option Value := hkV.2.1.1.1
@[irreducible] def news : List (Addr × Obj) := hkV.2.1.1.2
@[irreducible] def Q : Value → Shared → Prop := hkV.2.1.2.1
@[irreducible] def l : Addr := hkV.2.1.2.2
@[irreducible] def c : Nat := hkV.2.2.1.1
@[irreducible] def ps : List (Addr × Obj) := hkV.2.2.1.2
@[irreducible] def qs : List (Int × Int) := hkV.2.2.2
theorem core : hkP prog w A E s h₀ L m news Q l c ps qs := by
  unfold hkP
  intro hh hu Fg N hm hp hq h0 h
  have hn : (toString "min" ++ toString ".loop" : String) = "min.loop" := by decide
  have hlen := hq.length
  have hL : s.heap.IsList l (ps.map fun p => Value.ref p.1).toArray := ⟨_, (N _ hm).1, rfl, c, rfl⟩
  have hl2 : l < s.heap.objs.size := Heap.lt_size (N _ hm).1
  refine call_function_tree F.kind_min F.plain_min F.entry_min (F.args_min1 _) ?_
  show wpAny _ A.in1 (Builtin.Builtins.bindParams "min" ["key", "default"] 0 ⟨[], []⟩ >>= _) _ _ s
  refine wpAny_bind (wpAny_of_eq (show Builtin.Builtins.bindParams "min" ["key", "default"] 0 ⟨[], []⟩ = pure [none, none] from rfl) (wpAny_bind (wpAny_pure ?_)))
  refine wpAny_bind (wpAny_pyIter_list hL ?_)
  refine wpAny_bind (wpAny_newObj_type ?_)
  rw [hn]
  have W := Walks.list (prog := prog) (w := w) (A := A.in1) hh s.heap.objs.size l (Nat.ne_of_lt hl2) (ps.map fun p => Value.ref p.1).toArray
  have k1 : ∀ b o, s.heap.get? b = some o → ((s.heap.push { cls := .type "list_iterator", data := .fields #[.ref l, .int 0 0] }).push { cls := .type "list", data := .seq #[] }).get? b = some o := fun b o e => Heap.get?_push_of_some _ (Heap.get?_push_of_some _ e)
  have hsz : ((s.heap.push { cls := .type "list_iterator", data := .fields #[.ref l, .int 0 0] }).push { cls := .type "list", data := .seq #[] }).objs.size = s.heap.objs.size + 1 + 1 := by rw [Heap.size_push, Heap.size_push]
  have wsz : (ps.map fun p => Value.ref p.1).toArray.size = qs.length := by simp [hlen]
  rw [wsz] at W
  have good : ∀ h : Heap, (∀ b o, s.heap.get? b = some o → h.get? b = some o) → ∀ p ∈ ps, h.get? p.1 = some p.2 := fun h k p hpp => k _ _ (N p (hp p hpp)).1
  refine wpAny_pure ⟨plainId_quiet F.plain_min_loop _, minFirst (bt := fun i j => ltPair (qs.getD i (0, 0)) (qs.getD j (0, 0))) (S := (s.heap.push { cls := .type "list_iterator", data := .fields #[.ref l, .int 0 0] }).objs.size) (Good := fun h => ∀ p ∈ ps, h.get? p.1 = some p.2) W ?_ ?_ ?_ h0 ?_ (good _ k1) (Heap.get?_push_size _ rfl) ?_⟩
  · rw [Heap.size_push]
    intro hm'
    rcases List.mem_cons.mp hm' with q | hm'
    · exact absurd q (Nat.succ_ne_self _)
    · exact absurd (List.mem_singleton.mp hm').symm (Nat.ne_of_lt (Nat.lt_succ_of_lt hl2))
  · intro h h' hg hk p hpp
    have hlt : p.1 < s.heap.objs.size := Heap.lt_size (N p (hp p hpp)).1
    refine hk _ _ (fun q => ?_) (fun q => ?_) (hg p hpp)
    · exact absurd (List.mem_singleton.mp q) (Nat.ne_of_lt hlt)
    · rw [Heap.size_push] at q; exact absurd q (Nat.ne_of_lt (Nat.lt_succ_of_lt hlt))
  · intro i j vi vj s' Q' E' hi hj hg hq'
    have hi' : (ps.map fun p => Value.ref p.1).toArray[i]? = some vi := hi
    have hj' : (ps.map fun p => Value.ref p.1).toArray[j]? = some vj := hj
    rw [List.getElem?_toArray, List.getElem?_map] at hi' hj'
    obtain ⟨pi, ei, rfl⟩ := Option.map_eq_some_iff.mp hi'
    obtain ⟨pj, ej, rfl⟩ := Option.map_eq_some_iff.mp hj'
    have gi := hg pi (List.mem_of_getElem? ei)
    have gj := hg pj (List.mem_of_getElem? ej)
    obtain ⟨t, u, e1⟩ := hq.at ei
    obtain ⟨t', u', e2⟩ := hq.at ej
    exact pairCmp ⟨t, u, by rw [← e1]; exact gi⟩ ⟨t', u', by rw [← e2]; exact gj⟩ (by first | exact hu | (show A.units + 1 < cLine; lia) | (simp only [Around.in1]; lia)) hq'
  · refine ⟨⟨_, Heap.get?_push_of_some _ (Heap.get?_push_size _ rfl), rfl, rfl⟩, hL.at fun o e => k1 _ _ e⟩
  · intro v h' tk hv hk
    have hv' : (ps.map fun p => Value.ref p.1).toArray[leastAt qs]? = some v := hv
    rw [List.getElem?_toArray, List.getElem?_map] at hv'
    obtain ⟨p, ep, rfl⟩ := Option.map_eq_some_iff.mp hv'
    obtain ⟨t, u, e1⟩ := hq.at ep
    have kk : ∀ b o, s.heap.get? b = some o → h'.get? b = some o := fun b o e => by
      have hlt := Heap.lt_size e
      refine hk _ _ (fun q => ?_) (fun q => ?_) (k1 _ _ e)
      · exact absurd (List.mem_singleton.mp q) (Nat.ne_of_lt hlt)
      · rw [Heap.size_push] at q; exact absurd q (Nat.ne_of_lt (Nat.lt_succ_of_lt hlt))
    have hpn := hp p (List.mem_of_getElem? ep)
    refine h p.1 t u h' tk (Fg.keeps kk) (fun q hq' => ?_)
    rcases List.mem_cons.mp hq' with rfl | hq'
    · rw [← e1]; exact (N.grown kk) p hpn
    · exact (N.grown kk) q hq'
end H_minPairs
end
section
variable {prog : Program} {w : World} {A : Around} {E : Value → Shared → Prop} {s : Shared} {h₀ : Heap} {L : Addr} {m : Str → Option Value} {news : List (Addr × Obj)} {Q : Value → Shared → Prop}
theorem minPairs {l : Addr} {c : Nat} {ps : List (Addr × Obj)} {qs : List (Int × Int)} (hh : A.handled = none) (hu : A.units + 1 < cLine) (Fg : Fr h₀ L s.heap m) (N : News h₀ L s.heap news)
    (hm : (l, listOf (ps.map fun p => Value.ref p.1).toArray c) ∈ news) (hp : ∀ p ∈ ps, p ∈ news) (hq : Pairs ps qs) (h0 : 0 < qs.length)
    (h : ∀ T t u h' tk, Fr h₀ L h' m → News h₀ L h' ((T, tupOf #[.int (qs.getD (leastAt qs) (0, 0)).1 t, .int (qs.getD (leastAt qs) (0, 0)).2 u]) :: news) → Q (.ref T) { s with heap := h', toks := tk }) :
    wpAny (model prog w) A (call (.builtin "min") [.ref l]) Q E s :=
  hk_all H_minPairs.hkN H_minPairs.hkU (by with_unfolding_all exact H_minPairs.core) ((((prog, w), (A, E)), ((s, h₀), L)), (((m, news), (Q, l)), ((c, ps), qs))) hh hu Fg N hm hp hq h0 h
end
end
section
section
open LCg
variable {prog : Program} {w : World} {A : Around} {E : Value → Shared → Prop} {s : Shared} {h₀ : Heap} {L : Addr} {m : Str → Option Value} {env : Env}
noncomputable def PairEl (h₀ : Heap) (L : Addr) (m : Str → Option Value) (s : Shared) (all : List (Addr × Obj)) (r : Int × Int) (y : Value) (s₂ : Shared) : Prop :=
  ∃ T t u h' tk', y = .ref T ∧ s₂ = { s with heap := h', toks := tk' } ∧ Fr h₀ L h' m ∧ News h₀ L h' ((T, tupOf #[.int r.1 t, .int r.2 u]) :: all) ∧ ∀ p ∈ all, p.1 ≠ T
theorem PairEl.intro {all : List (Addr × Obj)} {a b a' b' : Int} {T : Addr} {t u : Tok} {h' : Heap} {tk' : Nat} (F : Fr h₀ L h' m) (N : News h₀ L h' ((T, tupOf #[.int a' t, .int b' u]) :: all)) (ne : ∀ p ∈ all, p.1 ≠ T) (e : a' = a) (e' : b' = b) :
    PairEl h₀ L m s all (a, b) (.ref T) { s with heap := h', toks := tk' } := by subst e; subst e'; exact ⟨T, t, u, h', tk', rfl, rfl, F, N, ne⟩
theorem comp_pairs {elt : Expr} {x : Str} {scope : Scope} {cl : List (Str × Addr)} {S : List (Addr × Obj) → Prop} {P : Nat → Value → Prop} {Fin : List Value → List (Addr × Obj) → Prop} {core : List (Addr × Obj)} {n : Nat} {ks : List Int} (g : Int → Int × Int) (hks : ks.length = n) (hS : ∀ tups, S (core ++ tups))
    (hP : ∀ i v, i < n → P i v → ∃ k t, ks[i]? = some k ∧ v = .int k t)
    (turn : ∀ i k t I oI C oC D m₂ ys tups h tk (E' : Value → Shared → Prop), i < n → ks[i]? = some k → NsObj oC m₂ → m₂ x = some (.int k t) → Fr h₀ L h m → News h₀ L h ((I, oI) :: (C, oC) :: (D, lst ys) :: (core ++ tups)) → Off3 I C D (core ++ tups) → ((@Ne Nat I C) ∧ (@Ne Nat I D) ∧ (@Ne Nat C D)) →
      wpAny (model prog w) A (eval elt (compEnvC scope cl C env)) (PairEl h₀ L m s ((I, oI) :: (C, oC) :: (D, lst ys) :: (core ++ tups)) (g k)) E' { s with heap := h, toks := tk })
    (fin : ∀ tups, Pairs tups (ks.map g) → Fin (tups.map fun p => Value.ref p.1) (core ++ tups)) : CompRest prog w A h₀ L m env elt x scope cl s S P Fin n 0 [] core := by
  have key : ∀ (j i : Nat) (tups : List (Addr × Obj)), i + j = n → Pairs tups ((ks.take i).map g) → CompRest prog w A h₀ L m env elt x scope cl s S P Fin j i (tups.map fun p => Value.ref p.1) (core ++ tups) := by
    intro j
    induction j with
    | zero =>
      intro i tups hi hy
      have e : i = ks.length := by lia
      subst e
      rw [List.take_length] at hy
      exact CompRest.zero (fin tups hy)
    | succ j ih =>
      intro i tups hi hy
      refine CompRest.succ ?_
      intro v I oI C oC D m₂ h tk E' hv hC hx F N off ne
      obtain ⟨k, t, hk, hv'⟩ := hP i v (by lia) hv
      rw [hv'] at hx
      refine wpAny_mono (turn i k t I oI C oC D m₂ _ tups h tk E' (by lia) hk hC hx F N off ne) (fun y s₂ hq => ?_) fun _ _ e => e
      obtain ⟨T, t1, u1, h', tk', rfl, rfl, F', N', hT⟩ := hq
      refine ⟨h', tk', core ++ (tups ++ [(T, tupOf #[.int (g k).1 t1, .int (g k).2 u1])]), rfl, F', fun p hp => ?_, Off3.of fun p hp => ?_, hS _, ?_⟩
      · refine N' p ?_
        rcases List.mem_cons.mp hp with rfl | hp
        · exact .tail _ (.head _)
        · rcases List.mem_cons.mp hp with rfl | hp
          · exact .tail _ (.tail _ (.head _))
          · rcases List.mem_cons.mp hp with rfl | hp
            · exact .tail _ (.tail _ (.tail _ (.head _)))
            · rcases List.mem_append.mp hp with hp | hp
              · exact .tail _ (.tail _ (.tail _ (.tail _ (List.mem_append_left _ hp))))
              · rcases List.mem_append.mp hp with hp | hp
                · exact .tail _ (.tail _ (.tail _ (.tail _ (List.mem_append_right _ hp))))
                · rw [List.mem_singleton.mp hp]; exact .head _
      · rcases List.mem_append.mp hp with hp | hp
        · exact off.mem p (List.mem_append_left _ hp)
        · rcases List.mem_append.mp hp with hp | hp
          · exact off.mem p (List.mem_append_right _ hp)
          · rw [List.mem_singleton.mp hp]
            exact ⟨Ne.symm (hT (I, oI) (.head _)), Ne.symm (hT (C, oC) (.tail _ (.head _))), Ne.symm (hT (D, _) (.tail _ (.tail _ (.head _))))⟩
      · have h2 := ih (i + 1) (tups ++ [(T, tupOf #[.int (g k).1 t1, .int (g k).2 u1])]) (by lia) (by
          rw [List.take_add_one, hk]
          simpa using hy.snoc T t1 u1 (g k).1 (g k).2)
        rw [List.map_append] at h2
        exact h2
  have h0 := key n 0 [] (by lia) (by simp only [List.take_zero, List.map_nil]; exact .nil)
  rw [List.append_nil] at h0
  exact h0
end
section
open LCg
variable {prog : Program} {w : World} {A : Around} {E : Value → Shared → Prop} {s : Shared} {h₀ : Heap} {L : Addr} {m : Str → Option Value} {env : Env}
theorem comp_coreA {elt iter : Expr} {x y : Str} {px py : Pos} {scope : Scope} {cl : List (Str × Addr)} {pos spos : Pos} {Q : Flow → Shared → Prop} (F₀ : Fr h₀ L s.heap m) (hLe : env.locals = L)
    (hsw : swapsWith (.ListComp elt [⟨.Name x px, iter, [], 0⟩] scope pos) (some (.Name y py)) spos.line env = pure true)
    (hclos : closureFor scope env = pure cl) (hcell : ∀ y ∈ scope.names, y.2 ≠ .cell) (hkind : scope.kind = .function)
    (hnames : ∀ y ∈ scope.names, y.2 = .local → scope.names.lookup y.1 = some .local) (hx : scope.names.lookup x = some .local)
    (hy : env.kindOf y = some .local) (hp : (env.scope.kind == .class || (env.scope.kind == .module && env.locals != env.globals)) = false)
    (h : wpAny (model prog w) A (eval iter env) (CompAt prog w A h₀ L m env elt x scope cl (fun s₂ => FinA h₀ L m s₂ y Q)) E s)
    (hs : ∀ x, foldedSetIterable iter env x = pure x := by intro _; rfl) :
    wpAny (model prog w) A (exec (.Assign [.Name y py] (.ListComp elt [⟨.Name x px, iter, [], 0⟩] scope pos) spos) env) Q E s := by
  subst hLe
  rw [exec_Assign_Name_used _ _ _ _ hsw]
  refine wpAny_bind (wpAny_standAt (wpAny_bind ?_))
  show wpAny _ A (do let _ ← comprehension (.ListComp elt [⟨.Name x px, iter, [], 0⟩] scope pos) scope env _ (newList []) false (eval iter env) (some (assign (.Name y py) env))) _ _ s
  refine wpAny_bind (wpAny_mono (wpAny_comprehension_free (use := some (assign (.Name y py) env)) (Q := fun _ s' => Q .next s') rfl hs hclos hkind hnames
    (wpAny_mono h (fun xv s₁ h₁ => ?_) fun _ _ e => e)) (fun _ s' hq => wpAny_pure (wpAny_pure hq)) fun _ _ e => e)
  obtain ⟨oIt, n, P, St, fp, S, news, F, N, hsz, hit, W, hst, hlive, hSt, hfp, hS, R⟩ := h₁
  refine hit _ _ ?_
  refine block_U W hsz hlive hSt hcell hkind hx hst hfp
    (F.keeps fun _ _ e => Heap.get?_push_of_some _ e) (N.grown fun _ _ e => Heap.get?_push_of_some _ e) (Nat.ne_of_lt F.ns.lt) (next_is_new F) (fun p hp => Nat.ne_of_lt (Heap.lt_size (N p hp).1)) hS (R _ ⟨_, rfl⟩) ?_
  intro D C h tk m' ys news' F' N' o1 hn hC₀ hD₀ hCL hDL hCD offC fin
  show wpAny _ A (assign (.Name y py) env (.ref D)) _ _ _
  refine wpAny_assign_Name (wpAny_storeName_local hy F'.ns (fun h₂ hn₂ hs₂ => ?_) hp)
  have hL₀ : h₀.get? env.locals = none := Heap.get?_none_of_le F'.above
  have F₂ : Fr h₀ env.locals h₂ (fun z => if z = y then some (.ref D) else m z) := ⟨hn₂, fun b o e => hs₂.extBut b o (fun q => by rw [q, hL₀] at e; cases e) (F'.keep b o e), F'.above⟩
  refine ⟨m', hn.sameBut hs₂ hCL, fun h'' hs'' => fin D h'' _ (F₂.change hs'' hCL hC₀) (fun p hp => ⟨hs''.extBut _ _ ?_ (hs₂.extBut _ _ (N' p hp).2.1 (N' p hp).1), (N' p hp).2⟩) o1⟩
  rcases List.mem_cons.mp hp with rfl | hp
  · exact Ne.symm hCD
  · exact offC p hp
end
end
section
set_option maxHeartbeats 8000000
theorem kwF11 : True := by
  exact True.intro
theorem kwF12 : True := by
  k_with "exec Assign cons ListComp" => (k_here; k_dflt (refine comp_coreA (F₀ := by k_asm) (by rfl) (by with_unfolding_all rfl) (by with_unfolding_all rfl) (by decide) (by rfl) (by decide) (by rfl) (by rfl) (by rfl) ?_))
  exact True.intro
theorem toldL_le {k : Int} {rs as : List Int} {st : Int} (h : rs.length ≤ 200) : (toldL k rs as st).length ≤ 200 := by rw [toldL_len]; exact h
theorem kwF13 : True := by
  k_with "call ref" => ((with_reducible show wpAny _ _ (call (Value.ref 253) [Value.int _ _, Value.ref _, Value.ref _, Value.int _ _]) _ _ _); k_dflt (refine' Spec.useP (own := [(_, listOf _ _), (_, listOf _ _)]) (ltagged_spec _ _ _ _ _ _ _ _ _ _ _ _ _ ?qqp1 ?qqp2 ?qqp3 ?qqp4 ?qqp5 ?qqp6 ?qqp7 ?qqp8) ?qqB ?qqF ?qqX ?qqN ?qqhs ?qqT ?qqhk ?qqhd ?qqhu ?_; (case qqB => k_asm); (case qqF => k_asm); (case qqX => k_asm); (case qqN => k_asm); (case qqhs => first | exact List.forall_mem_nil _ | (refine List.forall_mem_singleton.mpr ?_; k_mem) | (refine List.forall_mem_cons.mpr ⟨?_, List.forall_mem_singleton.mpr ?_⟩ <;> k_mem)); (case qqT => k_asm); (case qqhk => exact rfl); (case qqhd => ktr_room); (case qqhu => ktr_units); (case qqp1 => assumption); (case qqp2 => assumption); (case qqp3 => with_reducible assumption); (case qqp4 => with_reducible assumption); (case qqp5 => lia); (case qqp6 => lia); (case qqp7 => lia); (case qqp8 => lia); k_whole); intro _ _ _ _ qqhR9 _ qqN9 qqD9; obtain ⟨_, _, qqe1, qqe2, _⟩ := qqhR9; subst qqe1; subst qqe2; (try simp only [List.nil_append, List.cons_append] at qqN9); (try (replace qqD9 := NeAll.of (List.forall_mem_singleton.mp qqD9); simp only [NeAll, and_true] at qqD9)))
  k_with "call ref" => ((with_reducible show wpAny _ _ (call (Value.ref 258) [Value.ref _]) _ _ _); k_dflt (refine' Spec.useP (own := [(_, listOf _ _)]) (lweight_spec _ _ _ _ _ ?qqp1 ?qqp2 ?qqp3) ?qqB ?qqF ?qqX ?qqN ?qqhs ?qqT ?qqhk ?qqhd ?qqhu ?_; (case qqB => k_asm); (case qqF => k_asm); (case qqX => k_asm); (case qqN => k_asm); (case qqhs => first | exact List.forall_mem_nil _ | (refine List.forall_mem_singleton.mpr ?_; k_mem) | (refine List.forall_mem_cons.mpr ⟨?_, List.forall_mem_singleton.mpr ?_⟩ <;> k_mem)); (case qqT => k_asm); (case qqhk => exact rfl); (case qqhd => ktr_room); (case qqhu => ktr_units); (case qqp1 => assumption); (case qqp2 => exact Within.told); (case qqp3 => exact toldL_le (by lia)); k_whole); intro _ _ _ _ qqhR9 _ qqN9 qqD9; obtain ⟨qqe1, _, qqe2⟩ := qqhR9; subst qqe1; subst qqe2; clear qqD9; (try simp only [List.nil_append] at qqN9))
  k_with "call ref" => ((with_reducible show wpAny _ _ (call (Value.ref 273) [Value.ref _, Value.int _ _, Value.int _ _]) _ _ _); k_dflt (refine' Spec.useP (own := [(_, listOf _ _)]) (ldiffs_spec _ _ _ _ _ _ _ _ _ ?qqp1 ?qqp2 ?qqp3 ?qqp4 ?qqp5) ?qqB ?qqF ?qqX ?qqN ?qqhs ?qqT ?qqhk ?qqhd ?qqhu ?_; (case qqB => k_asm); (case qqF => k_asm); (case qqX => k_asm); (case qqN => k_asm); (case qqhs => first | exact List.forall_mem_nil _ | (refine List.forall_mem_singleton.mpr ?_; k_mem) | (refine List.forall_mem_cons.mpr ⟨?_, List.forall_mem_singleton.mpr ?_⟩ <;> k_mem)); (case qqT => k_asm); (case qqhk => exact rfl); (case qqhd => ktr_room); (case qqhu => ktr_units); (case qqp1 => assumption); (case qqp2 => with_reducible assumption); (case qqp3 => lia); (case qqp4 => with_reducible assumption); (case qqp5 => lia); k_whole); intro _ _ _ _ qqhR9 _ qqN9 qqD9; obtain ⟨_, _, qqe1, qqe2, _⟩ := qqhR9; subst qqe1; subst qqe2; (try simp only [List.nil_append, List.cons_append] at qqN9); (try (replace qqD9 := NeAll.of (List.forall_mem_singleton.mp qqD9); simp only [NeAll, and_true] at qqD9)))
  exact True.intro
section
variable {prog : Program} {w : World} {A : Around} {E : Value → Shared → Prop} {s : Shared} {h₀ : Heap} {L : Addr} {m : Str → Option Value} {news : List (Addr × Obj)} {Q : Value → Shared → Prop}
noncomputable abbrev rangeObj (a b c : Int) (t u v : Tok) : Obj := { cls := .type "range", dict := none, data := .fields #[.int a t, .int b u, .int c v], slots := #[] }
theorem rangeK {n : Int} {t : Tok} (F : Fr h₀ L s.heap m) (N : News h₀ L s.heap news)
    (h : ∀ R h' tk t₁ u₁ v₁, Fr h₀ L h' m → News h₀ L h' ((R, rangeObj 0 n 1 t₁ u₁ v₁) :: news) → (∀ p ∈ news, p.1 < R) → Q (.ref R) { s with heap := h', toks := tk }) : wpAny (model prog w) A (call (.type "range") [.int n t]) Q E s :=
  range1_rows F N fun h' tk t1 u1 v1 hR F' N' k => h s.heap.objs.size h' tk t1 u1 v1 F' (fun p hp => by
    rcases List.mem_cons.mp hp with rfl | hp
    · exact ⟨hR, Nat.ne_of_gt F.ns.lt, next_is_new F⟩
    · exact N' p hp) fun p hp => Heap.lt_size (N p hp).1
end
theorem kwF14 : True := by
  k_with "call type:range" => (k_here; (with_reducible show wpAny _ _ (call (Value.type "range") [Value.int _ _]) _ _ _); k_dflt (refine' rangeK ?qqzF ?qqzN ?_; (case qqzF => k_asm); (case qqzN => k_asm)); intro _ _ _ _ _ _ _ _ qql1; (try k_lt qql1))
  exact True.intro
noncomputable def lawTag (way : Int) (os as : List Int) (st : Int) : Int := if way = 15 then (leastAt ((List.range 5).map fun k => (weight (toldL (k : Nat) os as st), (k : Int))) : Nat) else way - 10
noncomputable def lawRow (way colors bits : Int) (as os : List Int) (st : Int) : List Int :=
  if way < 10 then (if way = 2 then ldiffs os colors bits else os) else lawTag way os as st :: toldL (lawTag way os as st) os as st
noncomputable def lawF (way colors bits : Int) : RowF := fun as os => some (lawRow way colors bits as os ((colors * bits + 7).fdiv 8), os)
theorem small_upto {len n : Nat} (h1 : len ≤ 1000) (h2 : 1 ≤ n) (h3 : n ≤ 1000) : Builtin.Range.small 0 (len : Int) (n : Int) = true := by
  unfold Builtin.Range.small
  rw [PyProof.Rows.rangeSize_pos (by lia) (by lia)]
  have : ((len : Int) + (n : Int) - 1) = ((len + n - 1 : Nat) : Int) := by lia
  rw [this]
  have hz0 : (0 : Int) ≤ ((len + n - 1 : Nat) : Int) / (n : Int) := Int.ediv_nonneg (Int.natCast_nonneg _) (Int.natCast_nonneg _)
  have hz1 : ((len + n - 1 : Nat) : Int) / (n : Int) ≤ ((len + n - 1 : Nat) : Int) := Int.ediv_le_self _ (Int.natCast_nonneg _)
  rw [if_pos (show (n : Int) > 0 by lia)]
  simp only [Builtin.Range.rangeFitsLong, Bool.and_eq_true, Bool.or_eq_true, decide_eq_true_eq, beq_iff_eq]
  lia
theorem runA_rest {f : RowF} {n : Nat} {as os : List Int} {out as' : List Int} (hn : 1 ≤ n) (ho : os ≠ []) (hf : f as (os.take n) = some (out, as')) : runA f n as os = (runA f n as' (os.drop n)).map (out ++ ·) := by
  rw [runA_cons hn ho, hf]
theorem allLt_ne {d : Addr} : ∀ {l : List (Addr × Obj)}, AllLt d l → ∀ q ∈ l, q.1 ≠ d
  | [], _, q, h => nomatch h
  | _ :: _, x, q, h => by
    rcases List.mem_cons.mp h with rfl | h
    · exact Nat.ne_of_lt x.1
    · exact allLt_ne x.2 q h
theorem sub_two {l own full : List (Addr × Obj)} (h1 : ∀ p ∈ l, p ∈ full) (h2 : ∀ p ∈ own, p ∈ full) : ∀ p ∈ l ++ own, p ∈ full := fun p hp => (List.mem_append.mp hp).elim (h1 p) (h2 p)
theorem ldiffs_len {os : List Int} {colors bits : Int} (hb : bits ∈ [1, 2, 4, 8, 16]) : (ldiffs os colors bits).length = os.length := by
  obtain ⟨m0, m1, m2, m3, m4, m5⟩ := many_bits (n := 8 * os.length) hb (by lia)
  have hl : ((lpartsL os bits).length : Int) = (8 * (os.length : Int)).fdiv bits := by simp only [lpartsL, List.length_map, List.length_range]; lia
  rw [ldiffs, List.length_append, List.length_map, List.length_range, List.length_drop, hl, Int.mul_comm, Int.fdiv_eq_ediv_of_nonneg _ (by decide : (0 : Int) ≤ 8)]
  lia
theorem slice_run {os : List Int} {i n : Nat} (h : i * n < os.length) : List.take (min (0 + (i : Int) * (n : Int) + (n : Int)).toNat os.length - (0 + (i : Int) * (n : Int)).toNat) (List.drop (0 + (i : Int) * (n : Int)).toNat os) = (os.drop (i * n)).take n := by
  have hat : ((i * n : Nat) : Int) = (i : Int) * (n : Int) := Int.natCast_mul i n
  rw [show (0 + (i : Int) * (n : Int)).toNat = i * n by lia, show (0 + (i : Int) * (n : Int) + (n : Int)).toNat = i * n + n by lia]
  by_cases hc : i * n + n ≤ os.length
  · rw [Nat.min_eq_left hc]; congr 1; lia
  · rw [Nat.min_eq_right (by lia), List.take_of_length_le (by rw [List.length_drop]; exact Nat.le_refl _), List.take_of_length_le (by rw [List.length_drop]; lia)]
theorem argBest_le (bt : Nat → Nat → Bool) (k : Nat) : argBest bt k ≤ k := by
  induction k with
  | zero => exact Nat.le_refl _
  | succ k ih => rw [argBest]; split <;> lia
theorem leastAt_lt {qs : List (Int × Int)} (h : 0 < qs.length) : leastAt qs < qs.length := by
  have := argBest_le (fun i j => ltPair (qs.getD i (0, 0)) (qs.getD j (0, 0))) (qs.length - 1)
  unfold leastAt; lia
theorem tag_five (os as : List Int) (st : Int) : (((((List.range 5).map fun (i : Nat) => (0 : Int) + (i : Int) * 1).map fun k => (weight (toldL k os as st), k)).getD (leastAt (((List.range 5).map fun (i : Nat) => (0 : Int) + (i : Int) * 1).map fun k => (weight (toldL k os as st), k))) (0, 0)).2 = lawTag 15 os as st) ∧ 0 ≤ lawTag 15 os as st ∧ lawTag 15 os as st ≤ 4 := by
  have e : (((List.range 5).map fun (i : Nat) => (0 : Int) + (i : Int) * 1).map fun k => (weight (toldL k os as st), k)) = (List.range 5).map fun k => (weight (toldL (k : Nat) os as st), (k : Int)) := by
    rw [List.map_map]
    refine List.map_congr_left fun i _ => ?_
    simp only [Function.comp, Int.zero_add, Int.mul_one]
  rw [e]
  have hl := leastAt_lt (qs := (List.range 5).map fun k => (weight (toldL (k : Nat) os as st), (k : Int))) (by simp)
  rw [List.length_map, List.length_range] at hl
  rw [lawTag, if_pos rfl]
  refine ⟨?_, by lia, by lia⟩
  generalize leastAt ((List.range 5).map fun k => (weight (toldL (k : Nat) os as st), (k : Int))) = j at hl
  rw [List.getD_eq_getElem?_getD, List.getElem?_map, List.getElem?_range hl]; rfl
noncomputable def Stop (p : Prop) : Prop := p
theorem Stop.mk {p : Prop} (h : Stop p) : p := h
section
variable {prog : Program} {w : World} {A : Around} {E : Value → Shared → Prop} {s : Shared} {env : Env} {h₀ : Heap} {L : Addr} {m : Str → Option Value} {own : List (Addr × Obj)} {st : Stmt} {rest : List Stmt} {Q : Flow → Shared → Prop}
noncomputable def IfEnd (h₀ : Heap) (L : Addr) (own : List (Addr × Obj)) (stored : List Str) (m : Str → Option Value) (P : (Str → Option Value) → List (Addr × Obj) → Prop) (s : Shared) (f : Flow) (s' : Shared) : Prop :=
  f = .next ∧ ∃ h' tk m' nw, s' = { s with heap := h', toks := tk } ∧ Fr h₀ L h' m' ∧ News h₀ L h' (nw ++ own) ∧ Kept stored m m' ∧ P m' nw
theorem IfEnd.intro {stored : List Str} {m' : Str → Option Value} {P : (Str → Option Value) → List (Addr × Obj) → Prop} {nw : List (Addr × Obj)} {h' : Heap} {tk : Nat} (F : Fr h₀ L h' m') (N : News h₀ L h' (nw ++ own)) (hk : Kept stored m m') (hP : P m' nw) :
    IfEnd h₀ L own stored m P s .next { s with heap := h', toks := tk } := ⟨rfl, h', tk, m', nw, rfl, F, N, hk, hP⟩
theorem aIfMeet (stored : List Str) (P : (Str → Option Value) → List (Addr × Obj) → Prop) (F : Fr h₀ L s.heap m) (N : News h₀ L s.heap own)
    (h1 : wpAny (model prog w) A (exec st env) (IfEnd h₀ L own stored m P s) E s)
    (h2 : ∀ h' tk u nw, P u nw → Fr h₀ L h' (fun y => if stored.contains y then u y else m y) → News h₀ L h' (nw ++ own) → wpAny (model prog w) A (execs rest env) Q E { s with heap := h', toks := tk }) :
    Stop (wpAny (model prog w) A (execs (st :: rest) env) Q E s) := by
  refine wpAny_execs_cons (wpAny_mono h1 (fun f s' hq => ?_) fun _ _ q => q)
  obtain ⟨rfl, h', tk, m', nw, rfl, F', N', hK, hP⟩ := hq
  exact h2 h' tk m' nw hP (kept_map hK ▸ F') N'
end
theorem kwF15 : True := by
  k_with "execs cons" => (k_here; (with_reducible show wpAny _ _ (execs (Stmt.If (PySem.Expr.Compare (PySem.Expr.Name (PySem.Str.ofString "way") _) _ _ _) _ _ _ :: _) _) _ _ _); refine Stop.mk ?_)
  k_with "execs cons" => (k_here; (with_reducible show wpAny _ _ (execs (Stmt.Assign [PySem.Expr.Name (PySem.Str.ofString "some") _] (PySem.Expr.IfExp _ _ (PySem.Expr.List _ _) _) _ :: _) _) _ _ _); refine Stop.mk ?_)
  exact True.intro
section
open LCg
variable {prog : Program} {w : World} {A : Around} {s : Shared} {h₀ : Heap} {L : Addr} {m : Str → Option Value} {env : Env}
noncomputable def SomeIs (o : Obj) (ks : List Int) : Prop := (∃ t u v, o = rangeObj 0 5 1 t u v ∧ ks = (List.range 5).map fun (i : Nat) => (0 : Int) + (i : Int) * 1) ∨ ∃ items c, o = listOf items c ∧ IntsAre items.toList ks
theorem CompAt.some {elt : Expr} {x : Str} {scope : Scope} {cl : List (Str × Addr)} {Fin : Shared → List Value → List (Addr × Obj) → Prop} {l : Addr} {o : Obj} {ks : List Int} {news : List (Addr × Obj)} {s₁ : Shared}
    (hi : SomeIs o ks) (hm : (l, o) ∈ news) (hh : A.handled = none) (F : Fr h₀ L s₁.heap m) (N : News h₀ L s₁.heap news) (hsz : ks.length ≤ 1000)
    (h : ∀ g, CompRest prog w A h₀ L m env elt x scope cl { s₁ with heap := g } (fun nw => (l, o) ∈ nw) (fun i v => ∃ k t, ks[i]? = some k ∧ v = .int k t) (Fin { s₁ with heap := g }) ks.length 0 [] news) :
    CompAt prog w A h₀ L m env elt x scope cl Fin (.ref l) s₁ := by
  rcases hi with ⟨t, u, v, rfl, e⟩ | ⟨items, c, rfl, hi⟩
  · have e5 : ks.length = 5 := by rw [e]; rfl
    rw [e5] at h
    exact CompAt.rangeS (S := fun nw => (l, rangeObj 0 5 1 t u v) ∈ nw) hh F N (News.get N hm) (by decide) (n := 5) rfl (by decide) e hm h
  · exact CompAt.list hm hi hh F N hsz h
end
theorem lawRow_tag {way colors bits st : Int} {as os : List Int} (h : ¬ way < 10) : lawRow way colors bits as os st = lawTag way os as st :: toldL (lawTag way os as st) os as st := if_neg h
theorem lawRow_le {way colors bits st : Int} {as os : List Int} (hb : bits ∈ [1, 2, 4, 8, 16]) : (lawRow way colors bits as os st).length ≤ os.length + 1 := by
  unfold lawRow
  split
  · split
    · rw [ldiffs_len hb]; lia
    · lia
  · rw [List.length_cons, toldL_len]; lia
namespace H_lawtold_spec
abbrev hkD : Type := ((((World × Addr) × (Addr × (Array Value))) × ((Nat × (List Int)) × (Int × Int))) × (((Int × Int) × (Tok × Tok)) × ((Tok × Tok) × Tele)))
def hkP (w : World) (SH : Addr) (O : Addr) (items : Array Value) (c : Nat) (os : List Int) (way : Int) (colors : Int) (bits : Int) (cols : Int) (t1 : Tok) (t2 : Tok) (t3 : Tok) (t4 : Tok) (hkT : Tele) : Prop := ∀ (S : ShapeOk way colors bits cols) (hi : IntsAre items.toList os) (hw : Within 256 os) (hl : os.length ≤ 40) (hne : @Ne Nat SH O), SpecAt w 263 [.ref SH, .ref O] [(SH, tupOf #[.int way t1, .int colors t2, .int bits t3, .int cols t4]), (O, listOf items c)] 6
      (fun r o => ∃ ret, o = ret ++ [(SH, tupOf #[.int way t1, .int colors t2, .int bits t3, .int cols t4]), (O, listOf items c)] ∧ (∀ p ∈ ret, ∀ q ∈ [(SH, tupOf #[.int way t1, .int colors t2, .int bits t3, .int cols t4]), (O, listOf items c)], p.1 ≠ q.1) ∧
        ∃ G its cc told, r = .ref G ∧ ret = [(G, listOf its cc)] ∧ IntsAre its.toList told ∧ runA (lawF way colors bits) (rowSize colors bits cols) [] os = some told) hkT
def hkU (d : hkD) : Prop := hkP d.1.1.1.1 d.1.1.1.2 d.1.1.2.1 d.1.1.2.2 d.1.2.1.1 d.1.2.1.2 d.1.2.2.1 d.1.2.2.2 d.2.1.1.1 d.2.1.1.2 d.2.1.2.1 d.2.1.2.2 d.2.2.1.1 d.2.2.1.2 d.2.2.2
theorem hkN : Nonempty hkD := (ne2 (ne2 (ne2 (ne2 neWorld ⟨default⟩) (ne2 ⟨default⟩ ⟨default⟩)) (ne2 (ne2 ⟨default⟩ ⟨default⟩) (ne2 ⟨default⟩ ⟨default⟩))) (ne2 (ne2 (ne2 ⟨default⟩ ⟨default⟩) (ne2 ⟨default⟩ ⟨default⟩)) (ne2 (ne2 ⟨default⟩ ⟨default⟩) neTele)))
@[irreducible] def hkV : hkD := hk_c hkN hkU
@[irreducible] def w : World := hkV.1.1.1.1
@[irreducible] def SH : Addr := hkV.1.1.1.2
@[irreducible] def O : Addr := hkV.1.1.2.1
@[irreducible] def items : Array Value := hkV.1.1.2.2
@[irreducible] def c : Nat := hkV.1.2.1.1
@[irreducible] def os : List Int := hkV.1.2.1.2
@[irreducible] def way : Int := hkV.1.2.2.1
@[irreducible] def colors : Int := hkV.1.2.2.2
@[irreducible] def bits : Int := hkV.2.1.1.1
@[irreducible] def cols : Int := hkV.2.1.1.2
@[irreducible] def t1 : Tok := hkV.2.1.2.1
@[irreducible] def t2 : Tok := hkV.2.1.2.2
@[irreducible] def t3 : Tok := hkV.2.2.1.1
@[irreducible] def t4 : Tok := hkV.2.2.1.2
@[irreducible] def hkT : Tele := hkV.2.2.2
@[irreducible] def g : Heap := hideAll hkT.s.heap (([(SH, tupOf #[.int way t1, .int colors t2, .int bits t3, .int cols t4]), (O, listOf items c)] : List (Addr × Obj)).map (·.1))
def L' : Addr := hkT.s.heap.objs.size
theorem g_e : g = hideAll hkT.s.heap (([(SH, tupOf #[.int way t1, .int colors t2, .int bits t3, .int cols t4]), (O, listOf items c)] : List (Addr × Obj)).map (·.1)) := by delta g; exact rfl
theorem L_e : L' = hkT.s.heap.objs.size := rfl
theorem core : hkP w SH O items c os way colors bits cols t1 t2 t3 t4 hkT := by
  unfold hkP SpecAt
  intro S hi hw hl hne
  have h1 := S.cb
  have h2 := S.cbc
  have h3 := bits_range S.bit
  have h4 := S.col
  have h5 := S.bit
  have h6 := S.wid
  have h7 := S.way0
  have hsz := rowSize_in S
  intro B F X N Nr hdis T hk hd hu hret
  refine wpAny_call ?_
  k_dflt (refine' enterC0 g L' g_e L_e (binds := [(Str.ofString "shape", .ref SH), (Str.ofString "octets", .ref O)]) B F X N Nr hdis T rfl rfl hk ?k6 ?k7 ?k8 ?k9 ?kB ?kD ?_ ?c2 ?c3 ?c4; (case k6 => k_is); (case k7 => k_is); (case k8 => ktr_room); (case k9 => exact BindsTo.of_eq rfl); (case kB => exact rfl); (case kD => decide +kernel); (case c2 => exact rfl); (case c3 => exact rfl); (case c4 => exact rfl); k_whole)
  intro h' tk' cells' FG F' N' Y' B' X' T' l1
  k_cells Y'
  (try simp only [List.cons_append, List.nil_append] at N')
  try dsimp only
  try k_lift B'
  try k_fold
  k_lt l1
  k_steps
  all_goals (try dsimp only)
  have qqD9 := True.intro; have qqN9 := True.intro; have qql1 := True.intro
  rename_i oR oA0 oS0 dR0 dA0 dS0 hz1 hz2 hz3 hz4 hz5 hzt G0 hg0 ltG A0 ha0 ltA D0 hd0 ltD hx1 hx2 hx3 oS dS hx4 hx5 oA F5 N5 dA h9 tk9 tr1 tr2 tr3 hR F9 N9 hk9
  have hw0 : ∀ x, x ∈ os → 0 ≤ x ∧ x < 256 := fun x hx => hw x hx
  generalize hn0 : rowSize colors bits cols = n at hsz hret
  rw [hsz.1] at hR F9
  have hnum : Builtin.Range.rangeSize 0 (os.length : Int) (n : Int) = (((os.length + n - 1) / n : Nat) : Int) := by
    rw [PyProof.Rows.rangeSize_pos (by lia) (by lia)]
    have : ((os.length : Int) + (n : Int) - 1) = ((os.length + n - 1 : Nat) : Int) := by lia
    rw [this]; exact (Int.natCast_ediv _ _).symm
  generalize hNN : (os.length + n - 1) / n = NN at hnum
  have hNN1 : ∀ i, i < NN → i * n < os.length := fun i hi => by
    have h1 : (i + 1) * n ≤ NN * n := Nat.mul_le_mul_right n hi
    have h2 : NN * n ≤ os.length + n - 1 := hNN ▸ Nat.div_mul_le_self _ _
    rw [Nat.add_mul] at h1; lia
  have hNN2 : os.length ≤ NN * n := by
    have h1 : os.length + n - 1 < (NN + 1) * n := by rw [← hNN]; have := Nat.lt_div_mul_add (a := os.length + n - 1) (b := n) (by lia); rw [Nat.add_mul]; lia
    rw [Nat.add_mul] at h1; lia
  refine aRange (n := NN) [Str.ofString "at", Str.ofString "found", Str.ofString "some", Str.ofString "lots", Str.ofString "tag"] (fun i u nw => ∃ G its cc A ai ac oR oA vr fnd as,
      nw = [(A, listOf ai ac), (G, listOf its cc), (L' + 1 + 1 + 1, oR), (L' + 1 + 1, oA), (L' + 1, oS), (SH, tupOf #[.int way t1, .int colors t2, .int bits t3, .int cols t4]), (O, listOf items c)] ∧
      u (Str.ofString "found") = some (.ref G) ∧ oR.data = .cell vr ∧ oA.data = .cell (some (.ref A)) ∧ IntsAre its.toList fnd ∧ IntsAre ai.toList as ∧ Within 256 as ∧ as.length ≤ 40 ∧ fnd.length ≤ 2 * (i * n) ∧
      (@LT.lt Nat instLTNat (L' + 1 + 1 + 1) A) ∧ (@LT.lt Nat instLTNat (L' + 1 + 1 + 1) G) ∧ runA (lawF way colors bits) n [] os = (runA (lawF way colors bits) n as (os.drop (i * n))).map (fnd ++ ·))
    rfl hR (by rw [small_upto (by lia) (by lia) (by lia)]) hnum rfl rfl (by k_asm) (news_sub (by k_asm) (by first | k_sub | fail)) ⟨G0, #[], _, A0, #[], _, _, oA, _, [], [], rfl, rfl, dR0, dA, .nil, .nil, (by intro x hx; cases hx), by simp, by simp, ltA.2.1, ltG.1, by rw [Nat.zero_mul, List.drop_zero]; cases runA (lawF way colors bits) n [] os <;> simp⟩ ?_ ?_
  · rintro i t u nw h2 tk2 own hiN ⟨G, its, cc, A, ai, ac, oR, oA, vr, fnd, as, rfl, hu1, dR, dA, hfi, hai, hwa, hla, hlf, hA1, hG1, hrun⟩ _ hoff F2 N2
    (first | refine nGen fun Qv Ev hQ _ => ?_ | refine aGen fun Qv Ev hQ _ => ?_); (try dsimp only at hQ); (try dsimp only)
    replace F2 := fr_known (n := Str.ofString "found") (by rw [if_pos (by decide)]; exact hu1) F2
    simp only [List.cons_append, List.nil_append] at N2
    have hat := hNN1 i hiN
    have hatI : ((i * n : Nat) : Int) = (i : Int) * (n : Int) := Int.natCast_mul i n
    have hlen : items.toList.length = os.length := hi.length
    have hex := slice_run (os := os) (n := n) hat
    generalize hEX : List.take (min (0 + (i : Int) * (n : Int) + (n : Int)).toNat os.length - (0 + (i : Int) * (n : Int)).toNat) (List.drop (0 + (i : Int) * (n : Int)).toNat os) = EX at hex
    have hxw : Within 256 EX := by rw [hex]; exact fun x hx => hw x (List.mem_of_mem_drop (List.mem_of_mem_take hx))
    have hxl : EX.length ≤ n ∧ EX.length ≤ 40 := by rw [hex, List.length_take, List.length_drop]; lia
    have hxl0 : (List.drop (i * n) os) ≠ [] := fun q => by
      have := congrArg List.length q
      rw [List.length_drop] at this; simp only [List.length_nil] at this; lia
    have hdn : List.drop ((i + 1) * n) os = List.drop n (List.drop (i * n) os) := by rw [List.drop_drop]; congr 1; rw [Nat.add_mul, Nat.one_mul]
    have h8 : (colors * bits + 7).fdiv 8 = (colors * bits + 7) / 8 := Int.fdiv_eq_ediv_of_nonneg _ (by decide)
    have hdl := ldiffs_len (os := EX) (colors := colors) h5
    have hstep : ∀ out, lawRow way colors bits as EX ((colors * bits + 7).fdiv 8) = out → runA (lawF way colors bits) n [] os = (runA (lawF way colors bits) n EX (os.drop ((i + 1) * n))).map ((fnd ++ out) ++ ·) := fun out ho => by
      rw [hrun, runA_rest hsz.2.1 hxl0 (out := out) (as' := EX) (by rw [← hex, lawF, ho]), Option.map_map, hdn]
      refine congrArg (fun g => Option.map g _) ?_
      funext z
      exact (List.append_assoc _ _ _).symm
    have hin1 : (i + 1) * n = i * n + n := by rw [Nat.add_mul, Nat.one_mul]
    subst hEX
    k_steps
    have qqD9 := True.intro; have qqN9 := True.intro; have qql1 := True.intro
    rename_i D1 ws1 hz1 F8 N8 hI1 lt1 hz2 oR' F7 N7 dR'
    clear F8 N8 F2 N2
    generalize hEX : List.take (min (0 + (i : Int) * (n : Int) + (n : Int)).toNat os.length - (0 + (i : Int) * (n : Int)).toNat) (List.drop (0 + (i : Int) * (n : Int)).toNat os) = EX at hex hxw hxl hdl hstep hI1
    refine aIfMeet [Str.ofString "found", Str.ofString "some", Str.ofString "lots", Str.ofString "tag"] (fun u nw => ∃ G2 ws2, nw = [(G2, listOf ws2.toArray 0)] ∧ u (Str.ofString "found") = some (.ref G2) ∧ IntsAre ws2 (fnd ++ lawRow way colors bits as EX ((colors * bits + 7).fdiv 8)) ∧
      ((@LT.lt Nat instLTNat D1 G2) ∧ (@LT.lt Nat instLTNat A G2) ∧ (@LT.lt Nat instLTNat G G2) ∧ (@LT.lt Nat instLTNat (L' + 1 + 1 + 1) G2) ∧ (@LT.lt Nat instLTNat (L' + 1 + 1) G2) ∧ (@LT.lt Nat instLTNat (L' + 1) G2) ∧ (@LT.lt Nat instLTNat SH G2) ∧ (@LT.lt Nat instLTNat O G2) ∧ AllLt G2 own)) F7 N7 ?_ ?_
    · skip
      k_steps
      all_goals (try dsimp only)
      · have qqD9 := True.intro; have qqN9 := True.intro; have qql1 := True.intro
        rename_i c1 z0 c2 z1 z2 T9 w9 hI9 D9' G2 ws2 z8 hI2 lt2 z9 F' N'
        refine IfEnd.intro (nw := [(G2, listOf ws2.toArray 0)]) F' (news_sub N' fun p hp => (List.mem_cons.mp hp).elim (fun q => q ▸ .head _) fun q => .tail _ (.tail _ q)) (fun z hz => if_neg (not_stored hz _ (.head _))) ⟨G2, ws2, rfl, if_pos rfl, ?_, lt2.2⟩
        rw [lawRow, if_pos c1, if_pos c2]; exact hI2
      · have qqD9 := True.intro; have qqN9 := True.intro; have qql1 := True.intro
        rename_i c1 z0 c2 G2 ws2 z8 hI2 lt2 z9 F' N'
        refine IfEnd.intro (nw := [(G2, listOf ws2.toArray 0)]) F' N' (fun z hz => if_neg (not_stored hz _ (.head _))) ⟨G2, ws2, rfl, if_pos rfl, ?_, lt2⟩
        rw [lawRow, if_pos c1, if_neg c2]; exact hI2
      · have qqD9 := True.intro; have qqN9 := True.intro; have qql1 := True.intro
        rename_i c1
        have h10 : 0 ≤ way - 10 ∧ way - 10 ≤ 4 ∨ way = 15 := by lia
        have hT : 0 ≤ lawTag way EX as ((colors * bits + 7).fdiv 8) ∧ lawTag way EX as ((colors * bits + 7).fdiv 8) ≤ 4 := by
          by_cases c2 : way = 15
          · rw [c2]; exact (tag_five EX as _).2
          · rw [lawTag, if_neg c2]; lia
        refine aIfMeet [Str.ofString "some"] (fun u nw => ∃ R9 o ks, nw = [(R9, o)] ∧ u (Str.ofString "some") = some (.ref R9) ∧ SomeIs o ks ∧ (∀ k ∈ ks, 0 ≤ k ∧ k ≤ 4) ∧ 0 < ks.length ∧ ks.length ≤ 5 ∧
          ((ks.map fun k => (weight (toldL k EX as ((colors * bits + 7).fdiv 8)), k)).getD (leastAt (ks.map fun k => (weight (toldL k EX as ((colors * bits + 7).fdiv 8)), k))) (0, 0)).2 = lawTag way EX as ((colors * bits + 7).fdiv 8)) F7 N7 ?_ ?_
        · skip
          k_steps
          all_goals (try dsimp only)
          · have qqD9 := True.intro; have qqN9 := True.intro; have qql1 := True.intro
            rename_i c2 R9 h9 tk9 t9 u9 v9 lt9 h9' F' N'
            refine IfEnd.intro (nw := [(R9, rangeObj 0 5 1 t9 u9 v9)]) F' N' (fun z hz => if_neg (not_stored hz _ (.head _))) ⟨R9, _, _, rfl, if_pos rfl, .inl ⟨_, _, _, rfl, rfl⟩, ?_, by rw [List.length_map, List.length_range]; decide, by rw [List.length_map, List.length_range]; decide, ?_⟩
            · intro k hk
              obtain ⟨x, hx1, hx2⟩ := List.mem_map.mp hk
              have := List.mem_range.mp hx1
              lia
            · rw [c2]; exact (tag_five EX as _).1
          · have qqD9 := True.intro; have qqN9 := True.intro; have qql1 := True.intro
            rename_i c2 R9 h9 lt9 h9' F' N'
            refine IfEnd.intro (nw := [(R9, listOf #[.int (way - 10) _] 0)]) F' N' (fun z hz => if_neg (not_stored hz _ (.head _))) ⟨R9, _, [way - 10], rfl, if_pos rfl, .inr ⟨_, _, rfl, .cons _ _ .nil⟩, ?_, Nat.one_pos, by decide, ?_⟩
            · intro k hk
              rw [List.mem_singleton.mp hk]; lia
            · rw [lawTag, if_neg c2]; rfl
        · rintro h8 tk8 u8 nw8 ⟨R9, o9, ks, rfl, hu8, hs9, hk0, hl0, hl5, hX⟩ F8 N8
          replace F8 := fr_known0 (n := Str.ofString "some") (by rw [if_pos (by decide)]; exact hu8) F8
          simp only [List.cons_append, List.nil_append] at N8
          generalize hTe : lawTag way EX as ((colors * bits + 7).fdiv 8) = X at hT hX
          k_steps
          all_goals (try dsimp only)
          refine CompAt.some hs9 (.head _) rfl (by k_asm) (by k_asm) (by lia) fun g' => comp_pairs (fun k => (weight (toldL k EX as ((colors * bits + 7).fdiv 8)), k)) rfl (fun _ => List.mem_append_left _ (.head _)) (fun i v _ h => h) ?_ ?_
          · intro j k t I oI C oC D m₂ ys tups h tk E' hj hk hC hx F N off ne
            have hk4 : 0 ≤ k ∧ k ≤ 4 := hk0 k (List.mem_of_getElem? hk)
            simp only [List.cons_append] at N off ⊢
            k_steps
            all_goals (try dsimp only)
            have qqD9 := True.intro; have qqN9 := True.intro; have qql1 := True.intro
            rename_i h9 tk9 T9 w9 hI9 D9' h10 tk10 w10 T10 h11 FT NT ltT
            exact PairEl.intro FT (news_sub NT (fun p hp => (List.mem_cons.mp hp).elim (fun q => q ▸ .head _) fun q => .tail _ (.tail _ q))) (allLt_ne ltT.2) rfl rfl
          · intro tups hp D9 h9 tk9 F9 N9 off9
            simp only [List.cons_append] at N9
            k_steps
            all_goals (try dsimp only)
            refine minPairs rfl (by first | ktr_units | (show _ < _; lia)) F9 N9 (.head _) (by (intro p hp; repeat (first | exact hp | exact List.mem_append_right _ hp | exact List.mem_append_left _ hp | refine List.mem_cons_of_mem _ ?_))) hp (by rw [List.length_map]; exact hl0) ?_
            intro T8 t8 u9 h8' tk9 F7 N7
            rw [hX] at N7
            generalize ((ks.map fun k => (weight (toldL k EX as ((colors * bits + 7).fdiv 8)), k)).getD (leastAt (ks.map fun k => (weight (toldL k EX as ((colors * bits + 7).fdiv 8)), k))) (0, 0)).1 = W at N7
            clear hX hp hl5 hl0 hk0 hs9 hu8 F9 off9 F8
            have hone : IntsAre [Value.int X u9] [X] := .cons _ _ .nil
            replace N7 := news_sub (l' := (T8, _) :: (D1, listOf ws1.toArray 0) :: (A, listOf ai ac) :: (G, listOf its cc) :: (L' + 1 + 1 + 1, oR') :: (L' + 1 + 1, oA) :: (L' + 1, oS) :: (SH, tupOf #[.int way t1, .int colors t2, .int bits t3, .int cols t4]) :: (O, listOf items c) :: own) N7 (sub_two (l := [(T8, _), (D1, listOf ws1.toArray 0), (A, listOf ai ac), (G, listOf its cc), (L' + 1 + 1 + 1, oR'), (L' + 1 + 1, oA), (L' + 1, oS), (SH, tupOf #[.int way t1, .int colors t2, .int bits t3, .int cols t4]), (O, listOf items c)]) (by k_sub) (by (intro p hp; repeat (first | exact hp | exact List.mem_append_right _ hp | exact List.mem_append_left _ hp | refine List.mem_cons_of_mem _ ?_))))
            clear N9 N8 o9
            have htl : (toldL X EX as ((colors * bits + 7).fdiv 8)).length = EX.length := toldL_len
            k_steps
            all_goals (try dsimp only)
            have qqD9 := True.intro; have qqN9 := True.intro; have qql1 := True.intro
            rename_i G2 ws4 z8 hI4 lt4 z9 F' N'
            rw [List.append_assoc] at hI4
            refine IfEnd.intro (nw := [(G2, listOf ws4.toArray 0)]) F' (news_sub N' fun p hp => (List.mem_cons.mp hp).elim (fun q => q ▸ .head _) fun q => .tail _ (.tail _ (.tail _ (.tail _ (.tail _ q))))) (fun z hz => ?_) ⟨G2, ws4, rfl, if_pos rfl, ?_, lt4.2.2.2.2⟩
            · have hz' := not_stored hz
              have hs : ¬ [Str.ofString "some"].contains z = true := fun e => hz' _ (.tail _ (.head _)) (List.mem_singleton.mp (List.contains_iff_mem.mp e))
              exact (if_neg (hz' _ (.head _))).trans ((if_neg (hz' _ (.tail _ (.tail _ (.tail _ (.head _)))))).trans ((if_neg (hz' _ (.tail _ (.tail _ (.head _))))).trans ((if_neg (hz' _ (.tail _ (.head _)))).trans (if_neg hs))))
            · rw [lawRow_tag c1, hTe]; exact hI4
    · rintro h8 tk8 u8 nw8 ⟨G2, ws2, rfl, hu8, hI2, lt2⟩ F8 N8
      replace F8 := fr_known0 (n := Str.ofString "found") (by rw [if_pos (by decide)]; exact hu8) F8
      simp only [List.cons_append, List.nil_append] at N8
      k_steps
      all_goals (try dsimp only)
      have qqD9 := True.intro; have qqN9 := True.intro; have qql1 := True.intro
      rename_i h7 oA' F' N' dA'
      refine StepEnd.introQ hQ (news' := [(D1, listOf ws1.toArray 0), (G2, listOf ws2.toArray 0), (L' + 1 + 1 + 1, oR'), (L' + 1 + 1, oA'), (L' + 1, oS), (SH, tupOf #[.int way t1, .int colors t2, .int bits t3, .int cols t4]), (O, listOf items c)]) F' (news_sub N' (sub_two (by k_sub) (by (intro p hp; repeat (first | exact hp | exact List.mem_append_right _ hp | exact List.mem_append_left _ hp | refine List.mem_cons_of_mem _ ?_))))) (List.forall_mem_cons.mpr ⟨allLt_ne lt1.2.2.2.2.2.2.2, List.forall_mem_cons.mpr ⟨allLt_ne lt2.2.2.2.2.2.2.2.2, off_same (fun p hp q hq => hoff p hp q (.tail _ (.tail _ hq))) rfl⟩⟩) (fun z hz => ?_) ⟨G2, _, _, D1, _, _, oR', oA', _, _, _, rfl, if_pos rfl, dR', dA', hI2, hI1, hxw, hxl.2, ?_, lt1.2.2.1, lt2.2.2.2.1, hstep _ rfl⟩
      · have hz' := not_stored hz
        have hs : ¬ [Str.ofString "found", Str.ofString "some", Str.ofString "lots", Str.ofString "tag"].contains z = true := fun e => not_stored hz z (List.mem_cons_of_mem _ (List.contains_iff_mem.mp e)) rfl
        exact (if_neg (hz' _ (.tail _ (.head _)))).trans ((if_neg hs).trans ((if_neg (hz' _ (.head _))).trans ((if_neg (hz' _ (.tail _ (.head _)))).trans (if_neg (by rw [hz]; exact Bool.false_ne_true)))))
      · have := lawRow_le (way := way) (colors := colors) (as := as) (os := EX) (st := (colors * bits + 7).fdiv 8) h5
        rw [List.length_append, hin1]; lia
  · rintro h2 tk2 u nw F2 N2 ⟨G, its, cc, A, ai, ac, oR, oA, vr, fnd, as, rfl, hu1, dR, dA, hfi, hai, hwa, hla, hlf, hA1, hG1, hrun⟩ _
    replace F2 := fr_known0 (n := Str.ofString "found") (by rw [if_pos (by decide)]; exact hu1) F2
    have hGe : @Ne Nat G SH := by lia
    have hGo : @Ne Nat G O := by lia
    dsimp only
    k_steps
    all_goals (try dsimp only)
    try k_unfold
    refine leaveR_ (own' := [(G, listOf its cc), (SH, tupOf #[.int way t1, .int colors t2, .int bits t3, .int cols t4]), (O, listOf items c)]) (by assumption) (news_sub (by assumption) (by k_sub)) (fun aF aN aD => hret _ [(G, listOf its cc), (SH, tupOf #[.int way t1, .int colors t2, .int bits t3, .int cols t4]), (O, listOf items c)] _ _ aF aN aD ⟨[(G, listOf its cc)], rfl, List.forall_mem_singleton.mpr (List.forall_mem_cons.mpr ⟨hGe, List.forall_mem_singleton.mpr hGo⟩), G, its, cc, fnd, rfl, rfl, hfi, ?_⟩)
    rw [hrun, List.drop_eq_nil_of_le (by lia), runA_nil]
    simp
end H_lawtold_spec
theorem lawtold_spec (w : World) (SH O : Addr) (items : Array Value) (c : Nat) (os : List Int) (way colors bits cols : Int) (t1 t2 t3 t4 : Tok) (S : ShapeOk way colors bits cols) (hi : IntsAre items.toList os) (hw : Within 256 os) (hl : os.length ≤ 40) (hne : @Ne Nat SH O) :
    Spec w 263 [.ref SH, .ref O] [(SH, tupOf #[.int way t1, .int colors t2, .int bits t3, .int cols t4]), (O, listOf items c)] 6
      (fun r o => ∃ ret, o = ret ++ [(SH, tupOf #[.int way t1, .int colors t2, .int bits t3, .int cols t4]), (O, listOf items c)] ∧ (∀ p ∈ ret, ∀ q ∈ [(SH, tupOf #[.int way t1, .int colors t2, .int bits t3, .int cols t4]), (O, listOf items c)], p.1 ≠ q.1) ∧
        ∃ G its cc told, r = .ref G ∧ ret = [(G, listOf its cc)] ∧ IntsAre its.toList told ∧ runA (lawF way colors bits) (rowSize colors bits cols) [] os = some told) :=
  Spec.mk fun t => hk_all H_lawtold_spec.hkN H_lawtold_spec.hkU (by with_unfolding_all exact H_lawtold_spec.core) ((((w, SH), (O, items)), ((c, os), (way, colors))), (((bits, cols), (t1, t2)), ((t3, t4), t))) S hi hw hl hne
end
section
set_option maxHeartbeats 8000000
theorem kwF21 : True := by
  exact True.intro
theorem kwF22 : True := by
  k_with "call type:range" => (k_here; (with_reducible show wpAny _ _ (call (Value.type "range") [Value.int _ _]) _ _ _); k_dflt (refine' range1_rows ?qqzF ?qqzN ?_; (case qqzF => k_asm); (case qqzN => k_asm)); intro _ _ _ _ _ _ _ _ _)
  exact True.intro
noncomputable def readF (colors bits : Int) : RowF := fun as os => if os.getD 0 0 > 4 then none else
  some (backTo (os.getD 0 0) (os.drop 1) as ((colors * bits + 7).fdiv 8) (os.drop 1).length, backTo (os.getD 0 0) (os.drop 1) as ((colors * bits + 7).fdiv 8) (os.drop 1).length)
theorem backTo_in {k : Int} {os as : List Int} {st : Int} (n : Nat) : Within 256 (backTo k os as st n) := by
  induction n with
  | zero => intro x hx; cases hx
  | succ n ih =>
    intro x hx
    rcases List.mem_append.mp hx with hx | hx
    · exact ih x hx
    · rw [List.mem_singleton.mp hx]; lia
theorem slice_gen {os : List Int} {a k : Nat} {x y : Int} (hx : x = a) (hy : y = (a + k : Nat)) : List.take (min y.toNat os.length - x.toNat) (List.drop x.toNat os) = (os.drop a).take k := by
  subst hx; subst hy
  rw [Int.toNat_natCast, Int.toNat_natCast]
  by_cases hc : a + k ≤ os.length
  · rw [Nat.min_eq_left hc]; congr 1; lia
  · rw [Nat.min_eq_right (by lia), List.take_of_length_le (by rw [List.length_drop]; exact Nat.le_refl _), List.take_of_length_le (by rw [List.length_drop]; lia)]
theorem read_at {colors bits : Int} {os as EX : List Int} {i n0 n : Nat} {T : Int} (hn : n = n0 + 1) (hex : EX = (os.drop (i * n + 1)).take n0) (hT : T = os.getD (i * n) 0) :
    readF colors bits as ((os.drop (i * n)).take n) = if T > 4 then none else some (backTo T EX as ((colors * bits + 7).fdiv 8) EX.length, backTo T EX as ((colors * bits + 7).fdiv 8) EX.length) := by
  have e1 : ((os.drop (i * n)).take n).getD 0 0 = T := by
    rw [hT, List.getD_eq_getElem?_getD, List.getD_eq_getElem?_getD, List.getElem?_take, if_pos (by lia), List.getElem?_drop]; rfl
  have e2 : ((os.drop (i * n)).take n).drop 1 = EX := by
    rw [hex, List.drop_take, List.drop_drop, hn]; rfl
  rw [readF, e1, e2]
namespace H_lawread_spec
abbrev hkD : Type := ((((World × Addr) × (Addr × (Array Value))) × ((Nat × (List Int)) × (Int × Int))) × (((Int × Int) × (Tok × Tok)) × ((Tok × Tok) × Tele)))
def hkP (w : World) (SH : Addr) (O : Addr) (items : Array Value) (c : Nat) (os : List Int) (way : Int) (colors : Int) (bits : Int) (cols : Int) (t1 : Tok) (t2 : Tok) (t3 : Tok) (t4 : Tok) (hkT : Tele) : Prop := ∀ (S : ShapeOk way colors bits cols) (hi : IntsAre items.toList os) (hw : Within 256 os) (hl : os.length ≤ 40) (hne : @Ne Nat SH O), SpecAt w 280 [.ref SH, .ref O] [(SH, tupOf #[.int way t1, .int colors t2, .int bits t3, .int cols t4]), (O, listOf items c)] 6
      (fun r o => ∃ ret, o = ret ++ [(SH, tupOf #[.int way t1, .int colors t2, .int bits t3, .int cols t4]), (O, listOf items c)] ∧ (∀ p ∈ ret, ∀ q ∈ [(SH, tupOf #[.int way t1, .int colors t2, .int bits t3, .int cols t4]), (O, listOf items c)], p.1 ≠ q.1) ∧
        match runA (readF colors bits) (rowSize colors bits cols + 1) [] os with
        | none => r = .none ∧ ret = []
        | some out => ∃ G its cc, r = .ref G ∧ ret = [(G, listOf its cc)] ∧ IntsAre its.toList out) hkT
def hkU (d : hkD) : Prop := hkP d.1.1.1.1 d.1.1.1.2 d.1.1.2.1 d.1.1.2.2 d.1.2.1.1 d.1.2.1.2 d.1.2.2.1 d.1.2.2.2 d.2.1.1.1 d.2.1.1.2 d.2.1.2.1 d.2.1.2.2 d.2.2.1.1 d.2.2.1.2 d.2.2.2
theorem hkN : Nonempty hkD := (ne2 (ne2 (ne2 (ne2 neWorld ⟨default⟩) (ne2 ⟨default⟩ ⟨default⟩)) (ne2 (ne2 ⟨default⟩ ⟨default⟩) (ne2 ⟨default⟩ ⟨default⟩))) (ne2 (ne2 (ne2 ⟨default⟩ ⟨default⟩) (ne2 ⟨default⟩ ⟨default⟩)) (ne2 (ne2 ⟨default⟩ ⟨default⟩) neTele)))
@[irreducible] def hkV : hkD := hk_c hkN hkU
@[irreducible] def w : World := hkV.1.1.1.1
@[irreducible] def SH : Addr := hkV.1.1.1.2
@[irreducible] def O : Addr := hkV.1.1.2.1
@[irreducible] def items : Array Value := hkV.1.1.2.2
@[irreducible] def c : Nat := hkV.1.2.1.1
@[irreducible] def os : List Int := hkV.1.2.1.2
@[irreducible] def way : Int := hkV.1.2.2.1
@[irreducible] def colors : Int := hkV.1.2.2.2
@[irreducible] def bits : Int := hkV.2.1.1.1
@[irreducible] def cols : Int := hkV.2.1.1.2
@[irreducible] def t1 : Tok := hkV.2.1.2.1
@[irreducible] def t2 : Tok := hkV.2.1.2.2
@[irreducible] def t3 : Tok := hkV.2.2.1.1
@[irreducible] def t4 : Tok := hkV.2.2.1.2
@[irreducible] def hkT : Tele := hkV.2.2.2
@[irreducible] def g : Heap := hideAll hkT.s.heap (([(SH, tupOf #[.int way t1, .int colors t2, .int bits t3, .int cols t4]), (O, listOf items c)] : List (Addr × Obj)).map (·.1))
def L' : Addr := hkT.s.heap.objs.size
theorem g_e : g = hideAll hkT.s.heap (([(SH, tupOf #[.int way t1, .int colors t2, .int bits t3, .int cols t4]), (O, listOf items c)] : List (Addr × Obj)).map (·.1)) := by delta g; exact rfl
theorem L_e : L' = hkT.s.heap.objs.size := rfl
theorem core : hkP w SH O items c os way colors bits cols t1 t2 t3 t4 hkT := by
  unfold hkP SpecAt
  intro S hi hw hl hne
  have h1 := S.cb
  have h2 := S.cbc
  have h3 := bits_range S.bit
  have h4 := S.col
  have h5 := S.bit
  have h6 := S.wid
  have h7 := S.way0
  have hsz := rowSize_in S
  have h8 : (colors * bits + 7).fdiv 8 = (colors * bits + 7) / 8 := Int.fdiv_eq_ediv_of_nonneg _ (by decide)
  intro B F X N Nr hdis T hk hd hu hret
  refine wpAny_call ?_
  k_dflt (refine' enterR0 g L' g_e L_e (binds := [(Str.ofString "shape", .ref SH), (Str.ofString "octets", .ref O)]) B F X N Nr hdis T rfl rfl hk ?k6 ?k7 ?k8 ?k9 ?kB ?_ ?c5 ?c2 ?c3 ?c4; (case k6 => k_is); (case k7 => k_is); (case k8 => ktr_room); (case k9 => exact BindsTo.of_eq rfl); (case c5 => decide); (case kB => exact locs rfl); (case c2 => exact rfl); (case c3 => exact rfl); (case c4 => exact rfl); k_whole)
  intro h' FG F' N' B' X' T' l1
  try dsimp only
  try k_lt l1
  try k_lift B'
  try k_fold
  k_steps
  all_goals (try dsimp only)
  have qqN9 := True.intro; have qql1 := True.intro
  rename_i G0 hg0 ltG A0 ha0 ltA D0 hd0 ltD hx1 hx2 hx3 hx4 hx5 F5 N5 h9 tk9 tr1 tr2 tr3 hR F9 N9 hk9
  generalize hn0 : rowSize colors bits cols = n0 at hsz hret
  rw [hsz.1] at hR F9
  have hn1 : (n0 : Int) + 1 = ((n0 + 1 : Nat) : Int) := by lia
  rw [hn1] at hR
  generalize hn2 : n0 + 1 = n at hR hret
  have hnum : Builtin.Range.rangeSize 0 (os.length : Int) (n : Int) = (((os.length + n - 1) / n : Nat) : Int) := by
    rw [PyProof.Rows.rangeSize_pos (by lia) (by lia)]
    have : ((os.length : Int) + (n : Int) - 1) = ((os.length + n - 1 : Nat) : Int) := by lia
    rw [this]; exact (Int.natCast_ediv _ _).symm
  generalize hNN : (os.length + n - 1) / n = NN at hnum
  have hNN1 : ∀ i, i < NN → i * n < os.length := fun i hi => by
    have h1 : (i + 1) * n ≤ NN * n := Nat.mul_le_mul_right n hi
    have h2 : NN * n ≤ os.length + n - 1 := hNN ▸ Nat.div_mul_le_self _ _
    rw [Nat.add_mul] at h1; lia
  have hNN2 : os.length ≤ NN * n := by
    have h1 : os.length + n - 1 < (NN + 1) * n := by rw [← hNN]; have := Nat.lt_div_mul_add (a := os.length + n - 1) (b := n) (by lia); rw [Nat.add_mul]; lia
    rw [Nat.add_mul] at h1; lia
  generalize htks : (hkT.s.toks + [(Str.ofString "shape", Value.ref SH), (Str.ofString "octets", Value.ref O)].length + 1 + 1 + 1 + 1 + 1 + 1 + 1 + 1 + 1) = tkq at F9
  refine aRange (n := NN) [Str.ofString "at", Str.ofString "tag", Str.ofString "told", Str.ofString "row", Str.ofString "k", Str.ofString "found", Str.ofString "ahead"] (fun i u nw => ∃ G its cc A ai ac fnd as,
      nw = [(A, listOf ai ac), (G, listOf its cc), (SH, tupOf #[.int way t1, .int colors t2, .int bits t3, .int cols t4]), (O, listOf items c)] ∧
      u (Str.ofString "found") = some (.ref G) ∧ u (Str.ofString "ahead") = some (.ref A) ∧ IntsAre its.toList fnd ∧ IntsAre ai.toList as ∧ Within 256 as ∧ as.length ≤ 40 ∧ fnd.length ≤ i * n ∧
      (@LT.lt Nat instLTNat SH A) ∧ (@LT.lt Nat instLTNat O A) ∧ (@LT.lt Nat instLTNat SH G) ∧ (@LT.lt Nat instLTNat O G) ∧ runA (readF colors bits) n [] os = (runA (readF colors bits) n as (os.drop (i * n))).map (fnd ++ ·))
    rfl hR (by rw [small_upto (by lia) (by lia) (by lia)]) hnum rfl rfl (by k_asm) (news_sub (by k_asm) (by first | k_sub | fail)) ⟨G0, #[], _, A0, #[], _, [], [], rfl, rfl, rfl, .nil, .nil, (by intro x hx; cases hx), by simp, by simp, ltA.2.1, ltA.2.2, ltG.1, ltG.2, by rw [Nat.zero_mul, List.drop_zero]; cases runA (readF colors bits) n [] os <;> simp⟩ ?_ ?_
  · rintro i t u nw h2 tk2 own hiN ⟨G, its, cc, A, ai, ac, fnd, as, rfl, hu1, hu2, hfi, hai, hwa, hla, hlf, hA1, hA2, hG1, hG2, hrun⟩ _ hoff F2 N2
    (first | refine nGen fun Qv Ev hQ _ => ?_ | refine aGen fun Qv Ev hQ _ => ?_); (try dsimp only at hQ); (try dsimp only)
    replace F2 := fr_known2 (n := Str.ofString "ahead") (by rw [if_pos (by decide)]; exact hu2) (fr_known (n := Str.ofString "found") (by rw [if_pos (by decide)]; exact hu1) F2)
    simp only [List.cons_append, List.nil_append] at N2
    have hat := hNN1 i hiN
    have hatI : ((i * n : Nat) : Int) = (i : Int) * (n : Int) := Int.natCast_mul i n
    have hlen : items.toList.length = os.length := hi.length
    have hex := slice_gen (os := os) (a := i * n + 1) (k := n0) (x := 0 + (i : Int) * (n : Int) + 1) (y := 0 + (i : Int) * (n : Int) + 1 + (n0 : Int)) (by lia) (by lia)
    generalize hEX : List.take (min (0 + (i : Int) * (n : Int) + 1 + (n0 : Int)).toNat os.length - (0 + (i : Int) * (n : Int) + 1).toNat) (List.drop (0 + (i : Int) * (n : Int) + 1).toNat os) = EX at hex
    have hxw : Within 256 EX := by rw [hex]; exact fun x hx => hw x (List.mem_of_mem_drop (List.mem_of_mem_take hx))
    have hxl : EX.length ≤ n0 ∧ EX.length ≤ 40 := by rw [hex, List.length_take, List.length_drop]; lia
    have hgw := Within.at hw (0 + (i : Int) * (n : Int)).toNat
    have hdn : List.drop ((i + 1) * n) os = List.drop n (List.drop (i * n) os) := by rw [List.drop_drop]; congr 1; rw [Nat.add_mul, Nat.one_mul]
    have hxl0 : (List.drop (i * n) os) ≠ [] := fun q => by
      have := congrArg List.length q
      rw [List.length_drop] at this; simp only [List.length_nil] at this; lia
    have hTn : (0 + (i : Int) * (n : Int)).toNat = i * n := by lia
    have hrd := read_at (colors := colors) (bits := bits) (as := as) (EX := EX) hn2.symm hex (T := os.getD (0 + (i : Int) * (n : Int)).toNat 0) (by rw [hTn])
    have hin1 : (i + 1) * n = i * n + n := by rw [Nat.add_mul, Nat.one_mul]
    have hn1' : 1 ≤ n := by lia
    have hstop : os.getD (0 + (i : Int) * (n : Int)).toNat 0 > 4 → runA (readF colors bits) n [] os = none := fun h => by
      rw [hrun, runA_cons hn1' hxl0, hrd, if_pos h]; rfl
    have hstep : ¬ os.getD (0 + (i : Int) * (n : Int)).toNat 0 > 4 → runA (readF colors bits) n [] os = (runA (readF colors bits) n (backTo (os.getD (0 + (i : Int) * (n : Int)).toNat 0) EX as ((colors * bits + 7).fdiv 8) EX.length) (os.drop ((i + 1) * n))).map ((fnd ++ backTo (os.getD (0 + (i : Int) * (n : Int)).toNat 0) EX as ((colors * bits + 7).fdiv 8) EX.length) ++ ·) := fun h => by
      rw [hrun, runA_rest hn1' hxl0 (hrd.trans (if_neg h)), Option.map_map, hdn]
      refine congrArg (fun g => Option.map g _) ?_
      funext z
      exact (List.append_assoc _ _ _).symm
    subst hEX
    k_steps
    all_goals (try dsimp only)
    · have hgt : os.getD (0 + (i : Int) * (n : Int)).toNat 0 > 4 := by assumption
      refine hQ _ _ ?_
      unfold StepEnd
      dsimp only
      refine leaveR_ (own' := [(SH, tupOf #[.int way t1, .int colors t2, .int bits t3, .int cols t4]), (O, listOf items c)]) (by assumption) (news_sub (by assumption) (by k_sub)) (fun aF aN aD => hret _ [(SH, tupOf #[.int way t1, .int colors t2, .int bits t3, .int cols t4]), (O, listOf items c)] _ _ aF aN aD ⟨[], rfl, (fun _ h => nomatch h), ?_⟩)
      rw [hstop hgt]
      exact ⟨rfl, rfl⟩
    · have qqN9 := True.intro; have qql1 := True.intro
      rename_i tT T1 ws1 y1 hI1 lt1 R1 y2 lt2 D1 y3 lt3 y4 y5 y6 y7 y8 y9 y10 y11 y12 c1 y13 y14 r1 r2 r3 hR1 F1 N1 hk1
      have hle : os.getD (0 + (i : Int) * (n : Int)).toNat 0 ≤ 4 := by lia
      generalize hTG : os.getD (0 + (i : Int) * (n : Int)).toNat 0 = TG at F1 N1 hle c1 hstep hgw
      refine aRange (n := (List.take (min (0 + (i : Int) * (n : Int) + 1 + (n0 : Int)).toNat os.length - (0 + (i : Int) * (n : Int) + 1).toNat) (List.drop (0 + (i : Int) * (n : Int) + 1).toNat os)).length) [Str.ofString "k"] (fun j u nw => ∃ its2 c2, nw = (R1, listOf its2 c2) :: (T1, listOf ws1.toArray 0) :: (A, listOf ai ac) :: (G, listOf its cc) :: (SH, tupOf #[.int way t1, .int colors t2, .int bits t3, .int cols t4]) :: (O, listOf items c) :: own ∧ IntsAre its2.toList (backTo TG (List.take (min (0 + (i : Int) * (n : Int) + 1 + (n0 : Int)).toNat os.length - (0 + (i : Int) * (n : Int) + 1).toNat) (List.drop (0 + (i : Int) * (n : Int) + 1).toNat os)) as ((colors * bits + 7).fdiv 8) j))
        rfl hR1 (small_one (by lia) (by lia) (by lia) (by lia)) (by rw [rangeSize_nat]; lia) rfl rfl (by k_asm) (news_sub (by k_asm) (fun p hp => List.mem_cons_of_mem _ hp)) ⟨#[], _, rfl, .nil⟩ ?_ ?_
      · rintro j tj u3 nw h3 tk3 own2 hj ⟨its2, c2, rfl, hys⟩ _ hoff2 F3 N3
        (first | refine nGen fun Qv Ev hQ _ => ?_ | refine aGen fun Qv Ev hQ _ => ?_); (try dsimp only at hQ); (try dsimp only)
        have hoff3 : ∀ p ∈ own ++ own2, ∀ q ∈ [(R1, listOf its2 c2)], p.1 ≠ q.1 := fun p hp q hq => by
          rw [List.mem_singleton.mp hq]
          rcases List.mem_append.mp hp with hp | hp
          · exact allLt_ne lt2.2.2.2.2.2 p hp
          · exact hoff2 p hp _ (.head _)
        replace N3 : News g L' h3 ((R1, listOf its2 c2) :: (T1, listOf ws1.toArray 0) :: (A, listOf ai ac) :: (G, listOf its cc) :: (SH, tupOf #[.int way t1, .int colors t2, .int bits t3, .int cols t4]) :: (O, listOf items c) :: (own ++ own2)) := N3
        have hyw := backTo_in (k := TG) (os := (List.take (min (0 + (i : Int) * (n : Int) + 1 + (n0 : Int)).toNat os.length - (0 + (i : Int) * (n : Int) + 1).toNat) (List.drop (0 + (i : Int) * (n : Int) + 1).toNat os))) (as := as) (st := (colors * bits + 7).fdiv 8) j
        have hyl := backTo_len (k := TG) (os := (List.take (min (0 + (i : Int) * (n : Int) + 1 + (n0 : Int)).toNat os.length - (0 + (i : Int) * (n : Int) + 1).toNat) (List.drop (0 + (i : Int) * (n : Int) + 1).toNat os))) (as := as) (st := (colors * bits + 7).fdiv 8) j
        have hyt : backTo TG (List.take (min (0 + (i : Int) * (n : Int) + 1 + (n0 : Int)).toNat os.length - (0 + (i : Int) * (n : Int) + 1).toNat) (List.drop (0 + (i : Int) * (n : Int) + 1).toNat os)) as ((colors * bits + 7).fdiv 8) (j + 1) = backTo TG (List.take (min (0 + (i : Int) * (n : Int) + 1 + (n0 : Int)).toNat os.length - (0 + (i : Int) * (n : Int) + 1).toNat) (List.drop (0 + (i : Int) * (n : Int) + 1).toNat os)) as ((colors * bits + 7).fdiv 8) j ++ [((List.take (min (0 + (i : Int) * (n : Int) + 1 + (n0 : Int)).toNat os.length - (0 + (i : Int) * (n : Int) + 1).toNat) (List.drop (0 + (i : Int) * (n : Int) + 1).toNat os)).getD j 0 + guess TG (octAt (backTo TG (List.take (min (0 + (i : Int) * (n : Int) + 1 + (n0 : Int)).toNat os.length - (0 + (i : Int) * (n : Int) + 1).toNat) (List.drop (0 + (i : Int) * (n : Int) + 1).toNat os)) as ((colors * bits + 7).fdiv 8) j) ((j : Int) - ((colors * bits + 7).fdiv 8))) (octAt as (j : Int)) (octAt as ((j : Int) - ((colors * bits + 7).fdiv 8)))) % 256] := rfl
        generalize backTo TG (List.take (min (0 + (i : Int) * (n : Int) + 1 + (n0 : Int)).toNat os.length - (0 + (i : Int) * (n : Int) + 1).toNat) (List.drop (0 + (i : Int) * (n : Int) + 1).toNat os)) as ((colors * bits + 7).fdiv 8) j = bk at hys hyw hyl hyt
        rw [hyt] at hQ
        generalize hown3 : own ++ own2 = own3 at N3 hoff3
        k_steps
        all_goals (try dsimp only)
        have qqN9 := True.intro; have qql1 := True.intro
        rename_i FZ NZ
        subst hown3
        refine StepEnd.introQ hQ (news' := (R1, _) :: (T1, listOf ws1.toArray 0) :: (A, listOf ai ac) :: (G, listOf its cc) :: (SH, tupOf #[.int way t1, .int colors t2, .int bits t3, .int cols t4]) :: (O, listOf items c) :: own) FZ NZ (off_same hoff2 rfl) ?_ ⟨_, _, rfl, IntsAre.push hys _ ?_⟩
        · skip
          intro z hz
          have hz' := not_stored hz
          simp only [List.forall_mem_cons, List.forall_mem_nil, and_true] at hz'
          simp only [hz', hz, if_false, Bool.false_eq_true]
        · rw [Int.fmod_eq_emod_of_nonneg _ (by decide : (0 : Int) ≤ 256)]
          simp only [Int.zero_add, Int.mul_one, Int.toNat_natCast]
      · rintro h3 tk3 u3 nw F3 N3 ⟨its2, c2, rfl, hys⟩ _
        dsimp only
        have hbl := backTo_len (k := TG) (os := (List.take (min (0 + (i : Int) * (n : Int) + 1 + (n0 : Int)).toNat os.length - (0 + (i : Int) * (n : Int) + 1).toNat) (List.drop (0 + (i : Int) * (n : Int) + 1).toNat os))) (as := as) (st := (colors * bits + 7).fdiv 8) (List.take (min (0 + (i : Int) * (n : Int) + 1 + (n0 : Int)).toNat os.length - (0 + (i : Int) * (n : Int) + 1).toNat) (List.drop (0 + (i : Int) * (n : Int) + 1).toNat os)).length
        have hbw := backTo_in (k := TG) (os := (List.take (min (0 + (i : Int) * (n : Int) + 1 + (n0 : Int)).toNat os.length - (0 + (i : Int) * (n : Int) + 1).toNat) (List.drop (0 + (i : Int) * (n : Int) + 1).toNat os))) (as := as) (st := (colors * bits + 7).fdiv 8) (List.take (min (0 + (i : Int) * (n : Int) + 1 + (n0 : Int)).toNat os.length - (0 + (i : Int) * (n : Int) + 1).toNat) (List.drop (0 + (i : Int) * (n : Int) + 1).toNat os)).length
        replace hstep := hstep (by lia)
        generalize backTo TG (List.take (min (0 + (i : Int) * (n : Int) + 1 + (n0 : Int)).toNat os.length - (0 + (i : Int) * (n : Int) + 1).toNat) (List.drop (0 + (i : Int) * (n : Int) + 1).toNat os)) as ((colors * bits + 7).fdiv 8) (List.take (min (0 + (i : Int) * (n : Int) + 1 + (n0 : Int)).toNat os.length - (0 + (i : Int) * (n : Int) + 1).toNat) (List.drop (0 + (i : Int) * (n : Int) + 1).toNat os)).length = bk at hys hbl hbw hstep
        k_steps
        all_goals (try dsimp only)
        have qqN9 := True.intro; have qql1 := True.intro
        rename_i G2 ws2 z1 hI2 ltG DT z2 ltD z3 z4 z5 z6 z7 FZ NZ
        refine StepEnd.introQ hQ (news' := [(R1, listOf its2 c2), (G2, listOf ws2.toArray 0), (SH, tupOf #[.int way t1, .int colors t2, .int bits t3, .int cols t4]), (O, listOf items c)]) FZ (news_sub NZ (sub_two (by k_sub) (by (intro p hp; repeat (first | exact hp | exact List.mem_append_right _ hp | exact List.mem_append_left _ hp | refine List.mem_cons_of_mem _ ?_))))) (List.forall_mem_cons.mpr ⟨allLt_ne lt2.2.2.2.2.2, List.forall_mem_cons.mpr ⟨allLt_ne ltG.2.2.2.2.2.2, off_same (fun p hp q hq => hoff p hp q (.tail _ (.tail _ hq))) rfl⟩⟩) ?_ ⟨G2, _, _, R1, _, _, _, _, rfl, rfl, rfl, hI2, hys, hbw, by lia, ?_, lt2.2.2.2.1, lt2.2.2.2.2.1, ltG.2.2.2.2.1, ltG.2.2.2.2.2.1, hstep⟩
        · intro z hz
          have hz' := not_stored hz
          simp only [List.forall_mem_cons, List.forall_mem_nil, and_true] at hz'
          have hzk : [Str.ofString "k"].contains z = false := by
            cases hc : [Str.ofString "k"].contains z with
            | false => rfl
            | true => exact absurd (List.mem_singleton.mp (List.contains_iff_mem.mp hc)) hz'.2.2.2.2.1
          simp only [hz', hz, hzk, if_false, Bool.false_eq_true]
        · rw [List.length_append, hin1]; lia
  · rintro h2 tk2 u nw F2 N2 ⟨G, its, cc, A, ai, ac, fnd, as, rfl, hu1, hu2, hfi, hai, hwa, hla, hlf, hA1, hA2, hG1, hG2, hrun⟩ _
    replace F2 := fr_known0 (n := Str.ofString "found") (by rw [if_pos (by decide)]; exact hu1) F2
    have hGe : @Ne Nat G SH := by lia
    have hGo : @Ne Nat G O := by lia
    dsimp only
    k_steps
    all_goals (try dsimp only)
    try k_unfold
    refine leaveR_ (own' := [(G, listOf its cc), (SH, tupOf #[.int way t1, .int colors t2, .int bits t3, .int cols t4]), (O, listOf items c)]) (by assumption) (news_sub (by assumption) (by k_sub)) (fun aF aN aD => hret _ [(G, listOf its cc), (SH, tupOf #[.int way t1, .int colors t2, .int bits t3, .int cols t4]), (O, listOf items c)] _ _ aF aN aD ⟨[(G, listOf its cc)], rfl, List.forall_mem_singleton.mpr (List.forall_mem_cons.mpr ⟨hGe, List.forall_mem_singleton.mpr hGo⟩), ?_⟩)
    rw [hrun, List.drop_eq_nil_of_le (by lia), runA_nil]
    exact ⟨G, its, cc, rfl, rfl, by show IntsAre its.toList (fnd ++ []); rw [List.append_nil]; exact hfi⟩
end H_lawread_spec
theorem lawread_spec (w : World) (SH O : Addr) (items : Array Value) (c : Nat) (os : List Int) (way colors bits cols : Int) (t1 t2 t3 t4 : Tok) (S : ShapeOk way colors bits cols) (hi : IntsAre items.toList os) (hw : Within 256 os) (hl : os.length ≤ 40) (hne : @Ne Nat SH O) :
    Spec w 280 [.ref SH, .ref O] [(SH, tupOf #[.int way t1, .int colors t2, .int bits t3, .int cols t4]), (O, listOf items c)] 6
      (fun r o => ∃ ret, o = ret ++ [(SH, tupOf #[.int way t1, .int colors t2, .int bits t3, .int cols t4]), (O, listOf items c)] ∧ (∀ p ∈ ret, ∀ q ∈ [(SH, tupOf #[.int way t1, .int colors t2, .int bits t3, .int cols t4]), (O, listOf items c)], p.1 ≠ q.1) ∧
        match runA (readF colors bits) (rowSize colors bits cols + 1) [] os with
        | none => r = .none ∧ ret = []
        | some out => ∃ G its cc, r = .ref G ∧ ret = [(G, listOf its cc)] ∧ IntsAre its.toList out) :=
  Spec.mk fun t => hk_all H_lawread_spec.hkN H_lawread_spec.hkU (by with_unfolding_all exact H_lawread_spec.core) ((((w, SH), (O, items)), ((c, os), (way, colors))), (((bits, cols), (t1, t2)), ((t3, t4), t))) S hi hw hl hne
end
section
set_option maxHeartbeats 8000000
section
variable {M : Model} {A : Around} {E : Value → Shared → Prop} {s : Shared} {env : Env}
theorem nAttempt {α : Type} {m : Sem α} {Q : Except Value α → Shared → Prop} (h : wpN M A m (fun a => Q (.ok a)) (fun e => Q (.error e)) s) : wpN M A m.attempt Q E s := fun Γ p hΓ o => by
  rw [Sem.wp_attempt]; exact h Γ p hΓ o
theorem nTryExcept {body orelse : List Stmt} {h₀ : ExceptHandler} {hs : List ExceptHandler} {pos : Pos} {Q : Flow → Shared → Prop}
    (h : wpN M A (execs body env) (fun f s₁ => match f with | .next => wpAny M A (execs orelse env) Q E s₁ | f => Q f s₁)
      (fun e s₁ => wpAny M A (noteFrame e env) (fun _ s₂ => wpAny M A (setFlight e none) (fun _ s₃ => wpAny M A (handleBy e env (h₀ :: hs)) Q E s₃) E s₂) E s₁) s) :
    wpN M A (exec (.Try body (h₀ :: hs) orelse [] pos) env) Q E s := by
  rw [arm_exec_Try]
  refine nBind (nStand ?_)
  unfold tryStmt
  simp only [List.isEmpty_nil, if_true, List.isEmpty_cons, Bool.false_and, Bool.false_eq_true, if_false]
  refine nBind (nAttempt (nMono h (fun f s₁ h₁ => ?_) fun e s₁ h₁ => ?_))
  · cases f <;> first | exact nOf h₁ | exact nPure h₁
  · exact nOf (wpAny_bind (wpAny_mono h₁ (fun _ _ h₂ => wpAny_bind h₂) fun _ _ x => x))
theorem aTryExcept {body orelse : List Stmt} {h₀ : ExceptHandler} {hs : List ExceptHandler} {pos : Pos} {Q : Flow → Shared → Prop}
    (h : wpAny M A (execs body env) (fun f s₁ => match f with | .next => wpAny M A (execs orelse env) Q E s₁ | f => Q f s₁)
      (fun e s₁ => wpAny M A (noteFrame e env) (fun _ s₂ => wpAny M A (setFlight e none) (fun _ s₃ => wpAny M A (handleBy e env (h₀ :: hs)) Q E s₃) E s₂) E s₁) s) :
    wpAny M A (exec (.Try body (h₀ :: hs) orelse [] pos) env) Q E s := by
  rw [arm_exec_Try]
  refine wpAny_bind (wpAny_standAt ?_)
  unfold tryStmt
  simp only [List.isEmpty_nil, if_true, List.isEmpty_cons, Bool.false_and, Bool.false_eq_true, if_false]
  refine wpAny_bind (wpAny_attempt (wpAny_mono h (fun f s₁ h₁ => ?_) fun e s₁ h₁ => ?_))
  · cases f <;> first | exact h₁ | exact wpAny_pure h₁
  · exact wpAny_bind (wpAny_mono h₁ (fun _ _ h₂ => wpAny_bind h₂) fun _ _ x => x)
end
end
section
set_option maxHeartbeats 8000000
section
variable {h₀ g g' : Heap} {L L' : Addr} {m m' : Str → Option Value} {own' rest : List (Addr × Obj)} {s' : Shared}
theorem leaveT (FG : Fr h₀ L g m) (hrest : ∀ q ∈ rest, g.get? q.1 = some q.2) (hoff : ∀ q ∈ rest, q.1 ≠ L) (hnone : ∀ q ∈ rest, h₀.get? q.1 = none) (T : KtsTurn [L] g g') (F' : Fr g' L' s'.heap m') (N' : News g' L' s'.heap own') :
    Fr h₀ L s'.heap m ∧ News h₀ L s'.heap (own' ++ rest) ∧ ∀ p ∈ own', ∀ q ∈ rest, p.1 ≠ q.1 := by
  obtain ⟨oL, es, ep, hL, hd, hk, hm⟩ := FG.ns
  have hL0 := fr_self FG
  obtain ⟨sl, hL'⟩ := T.up hL
  have keep : ∀ b o, g.get? b = some o → b ≠ L → s'.heap.get? b = some o := fun b o e ne => F'.keep _ _ (T.other b o e fun hm => ne (List.mem_singleton.mp hm))
  have hR : ∀ q ∈ rest, s'.heap.get? q.1 = some q.2 ∧ g'.get? q.1 = some q.2 := fun q hq => ⟨keep _ _ (hrest q hq) (hoff q hq), T.other _ _ (hrest q hq) fun hm => hoff q hq (List.mem_singleton.mp hm)⟩
  refine ⟨⟨⟨_, es, ep, F'.keep _ _ hL', hd, hk, hm⟩, fun b o e => keep b o (FG.keep b o e) (fun z => by rw [z, hL0] at e; cases e), FG.above⟩, fun p hp => ?_, fun p hp q hq z => ?_⟩
  · rcases List.mem_append.mp hp with hp | hp
    · have P := N' p hp
      refine ⟨P.1, fun z => ?_, ?_⟩
      · have := P.2.2; rw [z, hL'] at this; cases this
      · cases e : h₀.get? p.1 with
        | none => rfl
        | some o =>
          have e1 := FG.keep _ _ e
          have e2 := P.2.2
          have ne : p.1 ≠ L := fun z => by rw [z, hL0] at e; cases e
          rw [T.other _ _ e1 fun hm => ne (List.mem_singleton.mp hm)] at e2; cases e2
    · exact ⟨(hR p hp).1, hoff p hp, hnone p hp⟩
  · have e1 := (N' p hp).2.2
    rw [z, (hR q hq).2] at e1; cases e1
end
noncomputable def SpecTN (w : World) (f : Addr) (vs : List Value) (own : List (Addr × Obj)) (room : Nat) (R : Value → List (Addr × Obj) → Prop) : Prop :=
  ∀ (mean : ExcName → Option Value) (mg mb : Str → Option Value) (dp un : Nat) (gd : Option (List Code)) (cn : Str) (cs : Scope) (a : Addr) (ccd : Value) (cl : List (Str × Addr)) (A₀ : Around) (base h₀ : Heap) (L : Addr) (m : Str → Option Value) (rest : List (Addr × Obj)) (s : Shared) (Q E : Value → Shared → Prop),
    Below A₀ base [] h₀ → Fr h₀ L s.heap m → (Mine.hd.heap_39 w.params).In h₀ → News h₀ L s.heap own → News h₀ L s.heap rest → (∀ p ∈ own, ∀ q ∈ rest, p.1 ≠ q.1) →
    Top Mine.hd.view_39 (looseW Mine.hd.view_39 [Str.ofString "PostError"]) mean mg mb h₀ → cs.kind = .function → dp + room < recursionLimit → un + 8 * room < cLine →
    (∀ r own' h' tk', Fr h₀ L h' m → News h₀ L h' (own' ++ rest) → (∀ p ∈ own', ∀ q ∈ rest, p.1 ≠ q.1) → R r own' → Q r { s with heap := h', toks := tk' }) →
    wpN (model PySem.Challenge.rw_nt0492_01.row.prog w) (ktrTop dp un gd cn cs L a ccd cl []) (call (.ref f) vs) Q E s
noncomputable def SpecTNAt (w : World) (f : Addr) (vs : List Value) (own : List (Addr × Obj)) (room : Nat) (R : Value → List (Addr × Obj) → Prop) (t : Tele) : Prop :=
    Below t.A₀ t.base [] t.h₀ → Fr t.h₀ t.L t.s.heap t.m → (Mine.hd.heap_39 w.params).In t.h₀ → News t.h₀ t.L t.s.heap own → News t.h₀ t.L t.s.heap t.rest → (∀ p ∈ own, ∀ q ∈ t.rest, p.1 ≠ q.1) →
    Top Mine.hd.view_39 (looseW Mine.hd.view_39 [Str.ofString "PostError"]) t.mean t.mg t.mb t.h₀ → t.cs.kind = .function → t.dp + room < recursionLimit → t.un + 8 * room < cLine →
    (∀ r own' h' tk', Fr t.h₀ t.L h' t.m → News t.h₀ t.L h' (own' ++ t.rest) → (∀ p ∈ own', ∀ q ∈ t.rest, p.1 ≠ q.1) → R r own' → t.Q r { t.s with heap := h', toks := tk' }) →
    wpN (model PySem.Challenge.rw_nt0492_01.row.prog w) (ktrTop t.dp t.un t.gd t.cn t.cs t.L t.fa t.ccd t.cl []) (call (.ref f) vs) t.Q t.E t.s
theorem SpecTN.mk {w : World} {f : Addr} {vs : List Value} {own : List (Addr × Obj)} {room : Nat} {R : Value → List (Addr × Obj) → Prop} (h : ∀ t : Tele, SpecTNAt w f vs own room R t) : SpecTN w f vs own room R := fun mean mg mb dp un gd cn cs a ccd cl A₀ base h₀ L m rest s Q E => h ⟨mean, mg, mb, dp, un, gd, cn, cs, a, ccd, cl, [], A₀, base, h₀, L, m, rest, s, Q, E⟩
noncomputable def SpecT (w : World) (f : Addr) (vs : List Value) (own : List (Addr × Obj)) (room : Nat) (R : Value → List (Addr × Obj) → Prop) : Prop :=
  ∀ (mean : ExcName → Option Value) (mg mb : Str → Option Value) (dp un : Nat) (gd : Option (List Code)) (cn : Str) (cs : Scope) (a : Addr) (ccd : Value) (cl : List (Str × Addr)) (A₀ : Around) (base h₀ : Heap) (L : Addr) (m : Str → Option Value) (rest : List (Addr × Obj)) (s : Shared) (Q E : Value → Shared → Prop),
    Below A₀ base [] h₀ → Fr h₀ L s.heap m → (Mine.hd.heap_39 w.params).In h₀ → News h₀ L s.heap own → News h₀ L s.heap rest → (∀ p ∈ own, ∀ q ∈ rest, p.1 ≠ q.1) →
    Top Mine.hd.view_39 (looseW Mine.hd.view_39 [Str.ofString "PostError"]) mean mg mb h₀ → cs.kind = .function → dp + room < recursionLimit → un + 8 * room < cLine →
    (∀ r own' h' tk', Fr h₀ L h' m → News h₀ L h' (own' ++ rest) → (∀ p ∈ own', ∀ q ∈ rest, p.1 ≠ q.1) → R r own' → Q r { s with heap := h', toks := tk' }) →
    wpAny (model PySem.Challenge.rw_nt0492_01.row.prog w) (ktrTop dp un gd cn cs L a ccd cl []) (call (.ref f) vs) Q E s
noncomputable def SpecTAt (w : World) (f : Addr) (vs : List Value) (own : List (Addr × Obj)) (room : Nat) (R : Value → List (Addr × Obj) → Prop) (t : Tele) : Prop :=
    Below t.A₀ t.base [] t.h₀ → Fr t.h₀ t.L t.s.heap t.m → (Mine.hd.heap_39 w.params).In t.h₀ → News t.h₀ t.L t.s.heap own → News t.h₀ t.L t.s.heap t.rest → (∀ p ∈ own, ∀ q ∈ t.rest, p.1 ≠ q.1) →
    Top Mine.hd.view_39 (looseW Mine.hd.view_39 [Str.ofString "PostError"]) t.mean t.mg t.mb t.h₀ → t.cs.kind = .function → t.dp + room < recursionLimit → t.un + 8 * room < cLine →
    (∀ r own' h' tk', Fr t.h₀ t.L h' t.m → News t.h₀ t.L h' (own' ++ t.rest) → (∀ p ∈ own', ∀ q ∈ t.rest, p.1 ≠ q.1) → R r own' → t.Q r { t.s with heap := h', toks := tk' }) →
    wpAny (model PySem.Challenge.rw_nt0492_01.row.prog w) (ktrTop t.dp t.un t.gd t.cn t.cs t.L t.fa t.ccd t.cl []) (call (.ref f) vs) t.Q t.E t.s
theorem SpecT.mk {w : World} {f : Addr} {vs : List Value} {own : List (Addr × Obj)} {room : Nat} {R : Value → List (Addr × Obj) → Prop} (h : ∀ t : Tele, SpecTAt w f vs own room R t) : SpecT w f vs own room R := fun mean mg mb dp un gd cn cs a ccd cl A₀ base h₀ L m rest s Q E => h ⟨mean, mg, mb, dp, un, gd, cn, cs, a, ccd, cl, [], A₀, base, h₀, L, m, rest, s, Q, E⟩
section
variable {prog : Program} {w : World} {A₀ A : Around} {s : Shared} {base h₀ : Heap} {outer : List Env} {L : Addr} {m : Str → Option Value} {env : Env} {own rest : List (Addr × Obj)} {K : Frag}
  {p : Program} {loose : List Str} {mean : ExcName → Option Value} {mg mb : Str → Option Value}
  {R : Result → Shared → Prop} {name qual : Str} {params : Arguments} {body : List Stmt} {scope : Scope} {dV kV doc pm cdv ct oc : Value} {an od : Option Addr} {osl : Array (Option Value)} {f : Addr} {args : Args} {binds : List (Str × Value)}
theorem enterTN0 (g : Heap) (L' : Addr) (hg : g = hideAll s.heap (own.map (·.1))) (hL' : L' = s.heap.objs.size) (B : Below A₀ base outer h₀) (F : Fr h₀ L s.heap m) (X₀ : K.In h₀) (N : News h₀ L s.heap own) (Nr : News h₀ L s.heap rest) (hdis : ∀ p ∈ own, ∀ q ∈ rest, p.1 ≠ q.1) (T : Top p loose mean mg mb h₀) (hA : A.frames = some (env :: outer)) (hf : env.frame = some L) (hke : env.scope.kind = .function)
    (ho : K.lookup f = some ⟨oc, od, .func (fnOf name qual params body scope dV kV doc pm an cdv ct), osl⟩) (hcd : codeIn K cdv qual = true) (hroom : A.depth < recursionLimit)
    (hbind : BindsTo s (fnOf name qual params body scope dV kV doc pm an cdv ct) args binds) (hloc : ∀ y ∈ binds, scope.names.lookup y.1 = some .local)
    (h : ∀ h₁, Fr h₀ L g m → (∀ q ∈ rest, g.get? q.1 = some q.2) → Fr g L' h₁ (fun y => binds.reverse.lookup y) → News g L' h₁ own → Below A base (env :: outer) g → K.In g → Top p loose mean mg mb g → (∀ p ∈ own, p.1 < L') →
      wpN (model prog w) (A.deeper (envX qual scope L' f cdv [])) (execs body (envX qual scope L' f cdv []))
        (fun fl s' => R (.ok (.ret (match fl with | .ret v => v | _ => .none))) s')
        (fun e s' => wpAny (model prog w) (A.deeper (envX qual scope L' f cdv [])) (leaving (envX qual scope L' f cdv []) e) (fun _ s'' => R (.error e) s'') (fun e' s'' => R (.error e') s'') s')
        { s with heap := h₁, toks := s.toks + binds.length })
    (hcell : ∀ x ∈ scope.names, x.2 ≠ .cell) (hco : scope.isCoroutine = false := by rfl) (hgen : scope.isGenerator = false := by rfl) (hk : scope.kind = .function := by rfl) : codeN (model prog w) A (.call (.ref f) args) R s := by
  subst hg hL'
  obtain ⟨FG, BG, st, lv⟩ := groundR (R := R) B F N Nr hdis hA hf hke
  refine cnCallFn (fd := fnOf name qual params body scope dV kV doc pm an cdv ct) hroom ((X₀.keeps F.keep) _ _ ho) rfl hco hgen rfl (codeRec_of (X₀.keeps F.keep) hcd) (hbind _ _ _ _ ?_)
  refine wpAny_newFunctionEnv hcell hloc (fun h₁ hns hsb => ⟨(T.nolimit.keeps F.keep).fresh _ hsb, cnFunc ?_⟩) hk
  have hk₁ : ∀ b o, s.heap.get? b = some o → h₁.get? b = some o := fun b o e => hsb.extBut b o (Nat.ne_of_lt (Heap.lt_size e)) (Heap.get?_push_of_some _ e)
  exact nMono (h h₁ FG (rest_ground Nr hdis) ⟨hns, fun b o e => hk₁ b o (of_hideAll _ e), Nat.le_of_eq (hideAll_size _ _)⟩
    (fun p hp => ⟨hk₁ _ _ (N p hp).1, Nat.ne_of_lt (Heap.lt_size (N p hp).1), hideAll_none _ (List.mem_map_of_mem hp)⟩) BG (X₀.keeps st) (T.keeps st) (fun p hp => Heap.lt_size (N p hp).1)) (fun fl s' hl => hl) fun _ _ y => y
theorem enterT0 (g : Heap) (L' : Addr) (hg : g = hideAll s.heap (own.map (·.1))) (hL' : L' = s.heap.objs.size) (B : Below A₀ base outer h₀) (F : Fr h₀ L s.heap m) (X₀ : K.In h₀) (N : News h₀ L s.heap own) (Nr : News h₀ L s.heap rest) (hdis : ∀ p ∈ own, ∀ q ∈ rest, p.1 ≠ q.1) (T : Top p loose mean mg mb h₀) (hA : A.frames = some (env :: outer)) (hf : env.frame = some L) (hke : env.scope.kind = .function)
    (ho : K.lookup f = some ⟨oc, od, .func (fnOf name qual params body scope dV kV doc pm an cdv ct), osl⟩) (hcd : codeIn K cdv qual = true) (hroom : A.depth < recursionLimit)
    (hbind : BindsTo s (fnOf name qual params body scope dV kV doc pm an cdv ct) args binds) (hloc : ∀ y ∈ binds, scope.names.lookup y.1 = some .local)
    (h : ∀ h₁, Fr h₀ L g m → (∀ q ∈ rest, g.get? q.1 = some q.2) → Fr g L' h₁ (fun y => binds.reverse.lookup y) → News g L' h₁ own → Below A base (env :: outer) g → K.In g → Top p loose mean mg mb g → (∀ p ∈ own, p.1 < L') →
      wpAny (model prog w) (A.deeper (envX qual scope L' f cdv [])) (execs body (envX qual scope L' f cdv []))
        (fun fl s' => R (.ok (.ret (match fl with | .ret v => v | _ => .none))) s')
        (fun e s' => wpAny (model prog w) (A.deeper (envX qual scope L' f cdv [])) (leaving (envX qual scope L' f cdv []) e) (fun _ s'' => R (.error e) s'') (fun e' s'' => R (.error e') s'') s')
        { s with heap := h₁, toks := s.toks + binds.length })
    (hcell : ∀ x ∈ scope.names, x.2 ≠ .cell) (hco : scope.isCoroutine = false := by rfl) (hgen : scope.isGenerator = false := by rfl) (hk : scope.kind = .function := by rfl) : codeAny (model prog w) A (.call (.ref f) args) R s := by
  subst hg hL'
  obtain ⟨FG, BG, st, lv⟩ := groundR (R := R) B F N Nr hdis hA hf hke
  refine codeAny_call_def (fd := fnOf name qual params body scope dV kV doc pm an cdv ct) (body := body) (binds := binds) hroom ((X₀.keeps F.keep) _ _ ho) rfl (T.nolimit.keeps F.keep) (codeRec_of (X₀.keeps F.keep) hcd) rfl hbind hcell hloc (fun h₁ hns hk₁ => ?_) hco hgen hk
  exact wpAny_mono (h h₁ FG (rest_ground Nr hdis) ⟨hns, fun b o e => hk₁ b o (of_hideAll _ e), Nat.le_of_eq (hideAll_size _ _)⟩
    (fun p hp => ⟨hk₁ _ _ (N p hp).1, Nat.ne_of_lt (Heap.lt_size (N p hp).1), hideAll_none _ (List.mem_map_of_mem hp)⟩) BG (X₀.keeps st) (T.keeps st) (fun p hp => Heap.lt_size (N p hp).1)) (fun fl s' hl => hl) fun _ _ y => y
end
theorem upT {h₀ g g' : Heap} {L : Addr} {m : Str → Option Value} (FG : Fr h₀ L g m) (T : KtsTurn [L] g g') : h₀.StaysIn g' := fun b o e => T.other b o (FG.keep b o e) fun hm => by
  rw [List.mem_singleton.mp hm, fr_self FG] at e; cases e
end
section
set_option maxHeartbeats 8000000
theorem kwG11 : True := by
  exact True.intro
section
variable {w : World} {f : Addr} {vs : List Value} {room : Nat} {mean : ExcName → Option Value} {mg mb : Str → Option Value} {dp un : Nat} {gd : Option (List Code)} {cn : Str} {cs : Scope} {a : Addr} {ccd : Value} {cl : List (Str × Addr)} {outer : List Env} {A₀ : Around} {base h₀ : Heap} {L : Addr} {m : Str → Option Value} {news own : List (Addr × Obj)} {s : Shared} {Q E : Value → Shared → Prop}
theorem SpecR.useM {R : Value → List (Addr × Obj) → Prop} {V : Value → Prop} (C : SpecR w f vs own room R V) (rest : List (Addr × Obj))
    (B : Below A₀ base outer h₀) (F : Fr h₀ L s.heap m) (X : (Mine.hd.heap_39 w.params).In h₀) (N : News h₀ L s.heap news) (hs : ∀ p ∈ own, p ∈ news) (hr : ∀ p ∈ rest, p ∈ news) (hd' : ∀ p ∈ own, ∀ q ∈ rest, p.1 ≠ q.1)
    (T : Top Mine.hd.view_39 (looseW Mine.hd.view_39 [Str.ofString "PostError"]) mean mg mb h₀) (hk : cs.kind = .function) (hd : dp + room < recursionLimit) (hu : un + 8 * room < cLine)
    (hE : RaisedAt w base h₀ L m (envX cn cs L a ccd cl :: outer) rest V E s)
    (h : ∀ r own' h' tk', R r own' → Fr h₀ L h' m → News h₀ L h' (own' ++ rest) → (∀ p ∈ own', ∀ q ∈ rest, p.1 ≠ q.1) → Q r { s with heap := h', toks := tk' }) :
    wpAny (model PySem.Challenge.rw_nt0492_01.row.prog w) (ktrTop dp un gd cn cs L a ccd cl outer) (call (.ref f) vs) Q E s :=
  C mean mg mb dp un gd cn cs a ccd cl outer A₀ base h₀ L m rest s Q E B F X (news_sub N hs) (news_sub N hr) hd' T hk hd hu (fun r own' h' tk' F' N' hdis hR => h r own' h' tk' hR F' N' hdis) hE
end
theorem kwG12 : True := by
  k_with "getAttr ref" => (k_here; (with_reducible show wpAny _ _ (getAttr (Value.ref _) (PySem.Str.ofString "told") _) _ _ _); k_dflt (refine' xTold ?qqzX ?qqzh ?qqzc ?qqzd ?qqzn ?qqzD ?qqzv ?_; (case qqzX => exact Frag.In.keeps (by k_asm) (Fr.keep (by k_asm))); (case qqzh => exact News.get (by assumption) (.tail _ (.head _))); (case qqzc => assumption); (case qqzd => assumption); (case qqzn => assumption); (case qqzD => exact News.get (by assumption) (.head _)); (case qqzv => rfl)))
  exact True.intro
namespace H_refused_spec
abbrev hkD : Type := ((((World × Int) × Int) × (Int × Int)) × (((Tok × Tok) × Tok) × (Tok × Tele)))
def hkP (w : World) (way : Int) (colors : Int) (bits : Int) (cols : Int) (t1 : Tok) (t2 : Tok) (t3 : Tok) (t4 : Tok) (hkT : Tele) : Prop := SpecTAt w 294 [.int way t1, .int colors t2, .int bits t3, .int cols t4] [] 8 (fun r n => n = [] ∧ (¬ vShape way colors bits cols → r = .bool true) ∧ (vShape way colors bits cols → r = .bool false)) hkT
def hkU (d : hkD) : Prop := hkP d.1.1.1.1 d.1.1.1.2 d.1.1.2 d.1.2.1 d.1.2.2 d.2.1.1.1 d.2.1.1.2 d.2.1.2 d.2.2.1 d.2.2.2
theorem hkN : Nonempty hkD := (ne2 (ne2 (ne2 (ne2 neWorld ⟨default⟩) ⟨default⟩) (ne2 ⟨default⟩ ⟨default⟩)) (ne2 (ne2 (ne2 ⟨default⟩ ⟨default⟩) ⟨default⟩) (ne2 ⟨default⟩ neTele)))
@[irreducible] def hkV : hkD := hk_c hkN hkU
@[irreducible] def w : World := hkV.1.1.1.1
@[irreducible] def way : Int := hkV.1.1.1.2
@[irreducible] def colors : Int := hkV.1.1.2
@[irreducible] def bits : Int := hkV.1.2.1
@[irreducible] def cols : Int := hkV.1.2.2
@[irreducible] def t1 : Tok := hkV.2.1.1.1
@[irreducible] def t2 : Tok := hkV.2.1.1.2
@[irreducible] def t3 : Tok := hkV.2.1.2
@[irreducible] def t4 : Tok := hkV.2.2.1
@[irreducible] def hkT : Tele := hkV.2.2.2
@[irreducible] def g : Heap := hideAll hkT.s.heap (([] : List (Addr × Obj)).map (·.1))
def L' : Addr := hkT.s.heap.objs.size
theorem g_e : g = hideAll hkT.s.heap (([] : List (Addr × Obj)).map (·.1)) := by delta g; exact rfl
theorem L_e : L' = hkT.s.heap.objs.size := rfl
theorem core : hkP w way colors bits cols t1 t2 t3 t4 hkT := by
  unfold hkP SpecTAt
  intro B F X N Nr hdis T hk hd hu hret
  refine wpAny_call ?_
  k_dflt (refine' enterT0 g L' g_e L_e (binds := [(Str.ofString "way", .int way t1), (Str.ofString "colors", .int colors t2), (Str.ofString "bits", .int bits t3), (Str.ofString "columns", .int cols t4)]) B F X N Nr hdis T rfl rfl hk ?k6 ?k7 ?k8 ?k9 ?kB ?_ ?c5 ?c2 ?c3 ?c4; (case k6 => k_is); (case k7 => k_is); (case k8 => ktr_room); (case k9 => exact BindsTo.of_eq rfl); (case c5 => decide); (case kB => exact locs rfl); (case c2 => exact rfl); (case c3 => exact rfl); (case c4 => exact rfl); k_whole)
  intro h' FG hrest F' N' B' X' T' l1
  try dsimp only
  try k_lift B'
  refine wpAny_execs_cons (aTryExcept ?_)
  k_steps
  all_goals (try dsimp only)
  k_dflt (refine' SpecR.useM (own := []) (shape_spec _ _ _ _ _ _ _ _ _) [] ?B ?F ?X ?N ?hs ?hr ?hd' ?T ?hk ?hd ?hu ?hEE ?_; (case B => k_asm); (case F => k_asm); (case X => k_asm); (case N => k_asm); (case T => k_asm); (case hk => exact rfl); (case hd => ktr_room); (case hu => ktr_units); (case hs => exact List.forall_mem_nil _); (case hr => exact List.forall_mem_nil _); (case hd' => exact List.forall_mem_nil _))
  case hEE =>
    intro v a g2 h9 tk9 hv F9 _ X9
    refine xCaught (p := Mine.hd.view_39) (loose := looseW Mine.hd.view_39 [Str.ofString "PostError"]) (mg := hkT.mg) (mb := hkT.mb) B' (Around.frames_deeper rfl) F9 X9 ?_ ?_
    · exact fun g' TT => ⟨X.keeps (upT FG TT), topRead_of (T.keeps (upT FG TT))⟩
    · intro h8 g8 tk8 D8 oe8 k8 T8 B8 F8 c1 c2 c3 N8
      have X8 := X.keeps (upT FG T8)
      have R8 := topRead_of (T.keeps (upT FG T8))
      obtain ⟨hv1, tv, rfl⟩ := hv
      k_steps
      obtain ⟨y1, y2, y3⟩ := leaveT (own' := []) (s' := { heap := _, gens := hkT.s.gens, drawn := hkT.s.drawn, toks := 0, os := hkT.s.os }) FG hrest (fun q hq => (Nr q hq).2.1) (fun q hq => (Nr q hq).2.2) T8 (by assumption) News.nil
      refine hret _ [] _ _ y1 y2 y3 ⟨rfl, fun _ => rfl, fun hv2 => absurd hv2 hv1⟩
  rintro r9 n9 h9 tk9 ⟨hv, x9, dx9, _, _, _, _, rfl, rfl⟩ F9 N9 -
  dsimp only
  k_steps
  all_goals (try dsimp only)
  obtain ⟨y1, y2, y3⟩ := leaveT (own' := []) (s' := { heap := _, gens := hkT.s.gens, drawn := hkT.s.drawn, toks := 0, os := hkT.s.os }) FG hrest (fun q hq => (Nr q hq).2.1) (fun q hq => (Nr q hq).2.2) KtsTurn.refl F9 News.nil
  refine hret _ [] _ _ y1 y2 y3 ⟨rfl, fun hv2 => absurd hv hv2, fun _ => rfl⟩
end H_refused_spec
theorem refused_spec (w : World) (way colors bits cols : Int) (t1 t2 t3 t4 : Tok) :
    SpecT w 294 [.int way t1, .int colors t2, .int bits t3, .int cols t4] [] 8 (fun r n => n = [] ∧ (¬ vShape way colors bits cols → r = .bool true) ∧ (vShape way colors bits cols → r = .bool false)) :=
  SpecT.mk fun t => hk_all H_refused_spec.hkN H_refused_spec.hkU (by with_unfolding_all exact H_refused_spec.core) ((((w, way), colors), (bits, cols)), (((t1, t2), t3), (t4, t)))
end
section
noncomputable def toolRun (f : RowF) (n : Nat) (way : Int) (os : List Int) : Option (List Int) := if way = 1 then some os else runA f n [] os
theorem fed_two {f : RowF} {n : Nat} (hn : 1 ≤ n) {o1 o2 out1 as1 r1 out2 as2 r2 : List Int} (F1 : Fed f n [] o1 out1 as1 r1) (F2 : Fed f n as1 (r1 ++ o2) out2 as2 r2) (hl : r2.length < n) :
    runA f n [] (o1 ++ o2) = (if r2 = [] then some [] else (f as2 r2).map (·.1)).map (fun z => out1 ++ (out2 ++ z)) := by
  have h2 := F2 []
  rw [List.append_nil, List.append_nil] at h2
  rw [F1 o2, h2, Option.map_map]
  have e : runA f n as2 r2 = if r2 = [] then some [] else (f as2 r2).map (·.1) := by
    split
    · rename_i h; subst h; rfl
    · rename_i h; exact runA_short hn hl h
  rw [e]; rfl
theorem fed_stop {f : RowF} {n : Nat} {o1 o2 out1 as1 r1 : List Int} (F1 : Fed f n [] o1 out1 as1 r1) (h : runA f n as1 (r1 ++ o2) = none) : runA f n [] (o1 ++ o2) = none := by
  rw [F1 o2, h]; rfl
section
variable {prog : Program} {w : World} {A : Around} {E : Value → Shared → Prop} {s : Shared}
theorem bytes_len_look : typeLookup (.type "bytes") "__len__" = pure (some (.builtin "bytes.__len__")) := by rw [typeLookup_type, builtinLookup_eq_fast]; kernel_rfl
noncomputable abbrev OctIt (b : Array UInt8) (i : Nat) (v : Value) : Prop := ∃ c u, b[i]? = some c ∧ v = .int (c.toNat : Int) u
theorem extend_bytes {R : Result → Shared → Prop} (hh : A.handled = none) (b : Array UInt8) (t : Tok) (S : Addr) (res : Value) (c₀ : Nat) (hS : s.heap.get? S = some { cls := .type "list", data := .seq #[] c₀ })
    (hR : ∀ h' tk acc' c', (∀ b o, b ≠ S → s.heap.get? b = some o → h'.get? b = some o) → h'.get? S = some { cls := .type "list", dict := none, data := .seq acc' c', slots := #[] } →
      ItemsOf (OctIt b) acc' b.size → R (.ok (.ret res)) { s with heap := h', toks := tk }) (hn : b.size ≤ sizeLine) :
    wpAny (model prog w) A.in1 (Builtin.List.listExtendWith (.ref S) (.bytes b t) res)
      (fun fin s' => match fin with | .done f => R (.ok f) s' | .again c' => c'.quiet = true ∧ codeAny (model prog w) A c' R s') (fun e s' => R (.error e) s') s := by
  have hSI : S ≠ s.heap.objs.size := Nat.ne_of_lt (Heap.lt_size hS)
  have hSf : S ∉ [s.heap.objs.size] := fun hm => hSI (List.mem_singleton.mp hm)
  unfold Builtin.List.listExtendWith
  refine wpAny_bind (wpAny_typeOf (T := "bytes") (v := .bytes b t) rfl ?_)
  have h1 : Builtin.List.listSameRef (.ref S) (.bytes b t) = false := rfl
  have h2 : (Value.type "bytes" == Value.type "list") = false := by decide
  have h3 : (Value.type "bytes" == Value.type "tuple") = false := by decide
  simp only [h1, h2, h3, Bool.or_false, Bool.false_eq_true, if_false]
  refine wpAny_bind (KBw.pyIter_bytes ?_)
  refine wpAny_bind (wpAny_holding ?_)
  unfold Builtin.List.listLengthHint
  refine wpAny_bind (wpAny_specialOf (T := "bytes") (v := .bytes b t) rfl bytes_len_look ?_)
  wp_delta
  refine wpAny_bind (wpAny_isInstance (T := "bytes") (v := .bytes b t) (b := true) rfl (by rw [isSubtype_type]; kernel_rfl) ?_)
  show wpAny _ _ (typeOf (Value.bytes b t) >>= _) _ _ _
  refine wpAny_bind (wpAny_typeOf (T := "bytes") (v := .bytes b t) rfl ?_)
  refine wpAny_pure ?_
  rw [if_neg (by decide)]
  have hst : KBw.IsBytesIter (s.heap.push { cls := .type "bytes_iterator", data := .fields #[.bytes b t, .int 0 0] }) s.heap.objs.size b t 0 := ⟨_, Heap.get?_push_size _ rfl, rfl, rfl⟩
  have W := KBw.walks (prog := prog) (w := w) (A := A.in1) hh s.heap.objs.size b t
  refine wpAny_pure ⟨plainId_quiet F.plain_extend_loop _, codeAny_extend_loopS W.toS hn _ hSf _ b.size 0 _ _ _ rfl (Nat.zero_le _) hst (Heap.get?_push_of_some _ hS) (ItemsOf.nil _) fun s' acc' c' hm hS' hacc => ?_⟩
  rw [Moved.eq_with hm]
  refine hR s'.heap s'.toks acc' c' (fun b ob hb e => hm.heap b ob (fun hmem => ?_) (Heap.get?_push_of_some _ e)) hS' hacc
  rcases List.mem_cons.mp hmem with e' | hmem
  · exact hb e'
  · exact absurd (Heap.lt_size e) (by rw [List.mem_singleton.mp hmem]; exact Nat.lt_irrefl _)
theorem init_bytes {R : Result → Shared → Prop} (hh : A.handled = none) (b : Array UInt8) (t : Tok) (S : Addr) (hS : s.heap.get? S = some { cls := .type "list", data := .seq #[] })
    (hR : ∀ h' tk acc' c', (∀ b o, b ≠ S → s.heap.get? b = some o → h'.get? b = some o) → h'.get? S = some { cls := .type "list", dict := none, data := .seq acc' c', slots := #[] } →
      ItemsOf (OctIt b) acc' b.size → R (.ok (.ret .none)) { s with heap := h', toks := tk }) (hn : b.size ≤ sizeLine) :
    wpAny (model prog w) A.in1 (Builtin.«list.__init__» ⟨[.ref S, .bytes b t], []⟩)
      (fun fin s' => match fin with | .done f => R (.ok f) s' | .again c' => c'.quiet = true ∧ codeAny (model prog w) A c' R s') (fun e s' => R (.error e) s') s := by
  show wpAny _ _ (do let old ← Builtin.List.listItems (.ref S); Builtin.List.listUpdate (.ref S) (fun _ => #[]); letGo old.toList.reverse; Builtin.List.listExtendWith (.ref S) (.bytes b t) .none) _ _ s
  refine wpAny_bind ?_
  unfold Builtin.List.listItems
  refine wpAny_bind (wpAny_seqItems hS rfl (wpAny_pure ?_))
  show wpAny _ _ (updateSeq S (fun _ => #[]) >>= fun _ => letGo (#[] : Array Value).toList.reverse >>= fun _ => Builtin.List.listExtendWith (.ref S) (.bytes b t) .none) _ _ s
  refine wpAny_bind (wpAny_updateSeq hS rfl ?_)
  have hS₂ := Heap.get?_update_self (Obj.mapSeq (fun _ => (#[] : Array Value))) hS rfl
  have oth : ∀ b o, b ≠ S → s.heap.get? b = some o → (s.heap.update S (Obj.mapSeq (fun _ => (#[] : Array Value)))).get? b = some o :=
    fun b o hb e => (Heap.get?_update_other _ _ (Ne.symm hb)).trans e
  refine wpAny_bind (wpAny_letGo ?_)
  refine extend_bytes (hn := hn) hh b t S .none _ hS₂ fun h' tk acc' c' hk hS' hacc => ?_
  exact hR h' tk acc' c' (fun b o hb e => hk b o hb (oth b o hb e)) hS' hacc
theorem call_list_bytes {Q : Value → Shared → Prop} (hh : A.handled = none) (b : Array UInt8) (t : Tok)
    (hQ : ∀ h' tk acc' c', (∀ b o, s.heap.get? b = some o → h'.get? b = some o) →
      h'.get? s.heap.objs.size = some { cls := .type "list", dict := none, data := .seq acc' c', slots := #[] } → ItemsOf (OctIt b) acc' b.size → Q (.ref s.heap.objs.size) { s with heap := h', toks := tk }) (hn : b.size ≤ sizeLine) :
    wpAny (model prog w) A (call (.type "list") [.bytes b t]) Q E s := by
  refine callType_codes (Q₁ := fun obj s₁ => obj = .ref s.heap.objs.size ∧ s₁ = { s with heap := s.heap.push { cls := .type "list", data := .seq #[] } }) F.called_list (F.typeCall_list_1 _) F.entry_list_init
    (code_list_new _ ⟨rfl, rfl⟩) fun obj s₁ h₁ => ?_
  obtain ⟨rfl, rfl⟩ := h₁
  have hS : (s.heap.push { cls := .type "list", data := .seq #[] }).get? s.heap.objs.size = some { cls := .type "list", data := .seq #[] } := Heap.get?_push_size _ rfl
  refine ⟨⟨_, hS, rfl⟩, F.args_list_init_2 _ _, init_bytes (A := A.in1) (hn := hn) hh b t _ hS fun h' tk acc' c' hk hS' hacc => ?_⟩
  exact ⟨rfl, hQ h' tk acc' c' (fun b o e => hk b o (Nat.ne_of_lt (Heap.lt_size e)) (Heap.get?_push_of_some _ e)) hS' hacc⟩
theorem octs_ints {b : Array UInt8} {acc : Array Value} (h : ItemsOf (OctIt b) acc b.size) : IntsAre acc.toList (KBw.bInts b) := by
  have key : ∀ n, n ≤ b.size → IntsAre (acc.toList.take n) ((KBw.bInts b).take n) := by
    intro n
    induction n with
    | zero => intro _; exact .nil
    | succ n ih =>
      intro hn
      have hlt : n < acc.size := by rw [h.1]; lia
      obtain ⟨c, u, hc, hv⟩ := h.2 n acc[n] (by simp [hlt])
      rw [List.take_add_one, List.take_add_one, KBw.ints_get hc, Array.getElem?_toList, Array.getElem?_eq_getElem hlt, hv]
      exact (ih (by lia)).append (.cons _ u .nil)
  have k := key b.size (Nat.le_refl _)
  rw [List.take_of_length_le (by rw [Array.length_toList, h.1]; exact Nat.le_refl _), List.take_of_length_le (by rw [KBw.ints_length]; exact Nat.le_refl _)] at k
  exact k
theorem listBytesK {h₀ : Heap} {L : Addr} {m : Str → Option Value} {news : List (Addr × Obj)} {b : Array UInt8} {t : Tok} {ks : List Int} {Q : Value → Shared → Prop} (hh : A.handled = none) (F : Fr h₀ L s.heap m) (N : News h₀ L s.heap news) (hb : KBw.bInts b = ks) (hz : ks.length ≤ 1000)
    (h : ∀ D its c h' tk, Fr h₀ L h' m → News h₀ L h' ((D, listOf its c) :: news) → (∀ q ∈ news, q.1 < D) → IntsAre its.toList ks → Q (.ref D) { s with heap := h', toks := tk }) :
    wpAny (model prog w) A (call (.type "list") [.bytes b t]) Q E s := by
  subst hb
  rw [KBw.ints_length] at hz
  exact call_list_bytes hh b t (fun h' tk acc' c' hk hS' hacc => h _ acc' c' h' tk (F.keeps hk) (news_pushed F N hk hS' rfl) (fun q hq => Heap.lt_size (N q hq).1) (octs_ints hacc)) (by rw [sizeLine_eq]; lia)
end
end
section
set_option maxHeartbeats 8000000
theorem Within.take {B : Int} {ks : List Int} (h : Within B ks) {n : Nat} : Within B (ks.take n) := fun x hx => h x (List.mem_of_mem_take hx)
theorem Within.drop {B : Int} {ks : List Int} (h : Within B ks) {n : Nat} : Within B (ks.drop n) := fun x hx => h x (List.mem_of_mem_drop hx)
theorem kwH11 : True := by
  k_with "call type:bytes" => (k_here; (with_reducible show wpAny _ _ (call (Value.type "bytes") [Value.ref _]) _ _ _); k_dflt (refine' KBa.make_K ?qqzF ?qqzN ?qqzh ?qqzl ?qqzi ?qqzr ?qqzn ?_; (case qqzF => k_asm); (case qqzN => k_asm); (case qqzh => rfl); (case qqzl => exact News.isList (by k_asm) (by k_mem)); (case qqzi => assumption); (case qqzr => first | assumption | exact Within.take (by assumption) | exact Within.drop (by assumption)); (case qqzn => (simp only [List.length_take, List.length_drop]; lia))); intro _ _ _ _ _ _)
  exact True.intro
theorem tool_off {w : World} {h₀ h : Heap} {L e de x dx O : Addr} {C : Addr} {way colors bits cols : Int} {t1 t2 t3 t4 k1 k2 k3 k4 l1 l2 l3 : Tok} {rb ab : Array UInt8} {tr ta : Tok} {items : Array Value} {c : Nat}
    (N : News h₀ L h [(e, instObj C de), (de, toolDict w x rb tr ab ta l1 l2 l3), (x, instObj 80 dx), (dx, shapeDict w way colors bits cols t1 t2 t3 t4 k1 k2 k3 k4), (O, listOf items c)]) :
    @Ne Nat e O ∧ @Ne Nat de O ∧ @Ne Nat x O ∧ @Ne Nat dx O := by
  have ge := (N (e, _) (.head _)).1
  have gd := (N (de, _) (.tail _ (.head _))).1
  have gx := (N (x, _) (.tail _ (.tail _ (.head _)))).1
  have gy := (N (dx, _) (.tail _ (.tail _ (.tail _ (.head _))))).1
  have go := (N (O, _) (.tail _ (.tail _ (.tail _ (.tail _ (.head _)))))).1
  refine ⟨ne_of_objs ge go fun q => ?_, ne_of_objs gd go fun q => ?_, ne_of_objs gx go fun q => ?_, ne_of_objs gy go fun q => ?_⟩
  · exact Value.noConfusion (congrArg Obj.cls q)
  · exact Data.noConfusion (congrArg Obj.data q)
  · exact Value.noConfusion (congrArg Obj.cls q)
  · exact Data.noConfusion (congrArg Obj.data q)
namespace H_fedE_spec
abbrev hkD : Type := (((((World × Addr) × (Addr × Addr)) × ((Addr × Addr) × (Int × Int))) × (((Int × Int) × (Tok × Tok)) × ((Tok × Tok) × Tok))) × ((((Tok × Tok) × (Tok × Tok)) × ((Tok × Tok) × Tok)) × (((Tok × Tok) × ((Array Value) × Nat)) × (((List Int) × Int) × Tele))))
def hkP (w : World) (e : Addr) (de : Addr) (x : Addr) (dx : Addr) (O : Addr) (way : Int) (colors : Int) (bits : Int) (cols : Int) (t1 : Tok) (t2 : Tok) (t3 : Tok) (t4 : Tok) (k1 : Tok) (k2 : Tok) (k3 : Tok) (k4 : Tok) (q1 : Tok) (q2 : Tok) (q3 : Tok) (tr : Tok) (ta : Tok) (tc : Tok) (items : Array Value) (c : Nat) (os : List Int) (cut : Int) (hkT : Tele) : Prop := ∀ (S : ShapeOk way colors bits cols) (hway : way = 1 ∨ way = 2 ∨ 10 ≤ way ∧ way ≤ 15) (hi : IntsAre items.toList os) (hw : Within 256 os) (hl : os.length ≤ 64) (hcut : 0 ≤ cut ∧ cut ≤ 1000), SpecTNAt w 287 [.ref e, .ref O, .int cut tc] [(e, instObj 188 de), (de, toolDict w x #[] tr #[] ta q1 q2 q3), (x, instObj 80 dx), (dx, shapeDict w way colors bits cols t1 t2 t3 t4 k1 k2 k3 k4), (O, listOf items c)] 12
      (fun r n => ∃ G its cc out, r = .ref G ∧ n = [(G, listOf its cc), (x, instObj 80 dx), (dx, shapeDict w way colors bits cols t1 t2 t3 t4 k1 k2 k3 k4), (O, listOf items c)] ∧ IntsAre its.toList out ∧ toolRun (encF way colors bits cols) (rowSize colors bits cols) way os = some out) hkT
def hkU (d : hkD) : Prop := hkP d.1.1.1.1.1 d.1.1.1.1.2 d.1.1.1.2.1 d.1.1.1.2.2 d.1.1.2.1.1 d.1.1.2.1.2 d.1.1.2.2.1 d.1.1.2.2.2 d.1.2.1.1.1 d.1.2.1.1.2 d.1.2.1.2.1 d.1.2.1.2.2 d.1.2.2.1.1 d.1.2.2.1.2 d.1.2.2.2 d.2.1.1.1.1 d.2.1.1.1.2 d.2.1.1.2.1 d.2.1.1.2.2 d.2.1.2.1.1 d.2.1.2.1.2 d.2.1.2.2 d.2.2.1.1.1 d.2.2.1.1.2 d.2.2.1.2.1 d.2.2.1.2.2 d.2.2.2.1.1 d.2.2.2.1.2 d.2.2.2.2
theorem hkN : Nonempty hkD := (ne2 (ne2 (ne2 (ne2 (ne2 neWorld ⟨default⟩) (ne2 ⟨default⟩ ⟨default⟩)) (ne2 (ne2 ⟨default⟩ ⟨default⟩) (ne2 ⟨default⟩ ⟨default⟩))) (ne2 (ne2 (ne2 ⟨default⟩ ⟨default⟩) (ne2 ⟨default⟩ ⟨default⟩)) (ne2 (ne2 ⟨default⟩ ⟨default⟩) ⟨default⟩))) (ne2 (ne2 (ne2 (ne2 ⟨default⟩ ⟨default⟩) (ne2 ⟨default⟩ ⟨default⟩)) (ne2 (ne2 ⟨default⟩ ⟨default⟩) ⟨default⟩)) (ne2 (ne2 (ne2 ⟨default⟩ ⟨default⟩) (ne2 ⟨default⟩ ⟨default⟩)) (ne2 (ne2 ⟨default⟩ ⟨default⟩) neTele))))
@[irreducible] def hkV : hkD := hk_c hkN hkU
@[irreducible] def w : World := hkV.1.1.1.1.1
@[irreducible] def e : Addr := hkV.1.1.1.1.2
@[irreducible] def de : Addr := hkV.1.1.1.2.1
@[irreducible] def x : Addr := hkV.1.1.1.2.2
@[irreducible] def dx : Addr := hkV.1.1.2.1.1
@[irreducible] def O : Addr := hkV.1.1.2.1.2
@[irreducible] def way : Int := hkV.1.1.2.2.1
@[irreducible] def colors : Int := hkV.1.1.2.2.2
@[irreducible] def bits : Int := hkV.1.2.1.1.1
@[irreducible] def cols : Int := hkV.1.2.1.1.2
@[irreducible] def t1 : Tok := hkV.1.2.1.2.1
@[irreducible] def t2 : Tok := hkV.1.2.1.2.2
@[irreducible] def t3 : Tok := hkV.1.2.2.1.1
@[irreducible] def t4 : Tok := hkV.1.2.2.1.2
@[irreducible] def k1 : Tok := hkV.1.2.2.2
@[irreducible] def k2 : Tok := hkV.2.1.1.1.1
@[irreducible] def k3 : Tok := hkV.2.1.1.1.2
@[irreducible] def k4 : Tok := hkV.2.1.1.2.1
@[irreducible] def q1 : Tok := hkV.2.1.1.2.2
@[irreducible] def q2 : Tok := hkV.2.1.2.1.1
@[irreducible] def q3 : Tok := hkV.2.1.2.1.2
@[irreducible] def tr : Tok := hkV.2.1.2.2
@[irreducible] def ta : Tok := hkV.2.2.1.1.1
@[irreducible] def tc : Tok := hkV.2.2.1.1.2
@[irreducible] def items : Array Value := hkV.2.2.1.2.1
@[irreducible] def c : Nat := hkV.2.2.1.2.2
@[irreducible] def os : List Int := hkV.2.2.2.1.1
@[irreducible] def cut : Int := hkV.2.2.2.1.2
@[irreducible] def hkT : Tele := hkV.2.2.2.2
@[irreducible] def g : Heap := hideAll hkT.s.heap (([(e, instObj 188 de), (de, toolDict w x #[] tr #[] ta q1 q2 q3), (x, instObj 80 dx), (dx, shapeDict w way colors bits cols t1 t2 t3 t4 k1 k2 k3 k4), (O, listOf items c)] : List (Addr × Obj)).map (·.1))
def L' : Addr := hkT.s.heap.objs.size
theorem g_e : g = hideAll hkT.s.heap (([(e, instObj 188 de), (de, toolDict w x #[] tr #[] ta q1 q2 q3), (x, instObj 80 dx), (dx, shapeDict w way colors bits cols t1 t2 t3 t4 k1 k2 k3 k4), (O, listOf items c)] : List (Addr × Obj)).map (·.1)) := by delta g; exact rfl
theorem L_e : L' = hkT.s.heap.objs.size := rfl
theorem core : hkP w e de x dx O way colors bits cols t1 t2 t3 t4 k1 k2 k3 k4 q1 q2 q3 tr ta tc items c os cut hkT := by
  unfold hkP SpecTNAt
  intro S hway hi hw hl hcut
  obtain ⟨_, _⟩ := id hcut
  intro B F X N Nr hdis T hk hd hu hret
  refine nCall ?_
  k_dflt (refine' enterTN0 g L' g_e L_e (binds := [(Str.ofString "tool", .ref e), (Str.ofString "octets", .ref O), (Str.ofString "cut", .int cut tc)]) B F X N Nr hdis T rfl rfl hk ?k6 ?k7 ?k8 ?k9 ?kB ?_ ?c5 ?c2 ?c3 ?c4; (case k6 => k_is); (case k7 => k_is); (case k8 => ktr_room); (case k9 => exact BindsTo.of_eq rfl); (case c5 => decide); (case kB => exact locs rfl); (case c2 => exact rfl); (case c3 => exact rfl); (case c4 => exact rfl); k_whole)
  intro h' FG hrest F' N' B' X' T' l1
  try dsimp only
  have hne := tool_ne (by decide) (news_sub N' (l' := [(e, instObj 188 de), (de, toolDict w x #[] tr #[] ta q1 q2 q3), (x, instObj 80 dx), (dx, shapeDict w way colors bits cols t1 t2 t3 t4 k1 k2 k3 k4)]) fun p hp => List.mem_append_left [(O, listOf items c)] hp)
  have hno := tool_off N'
  try k_lt l1
  try k_lift B'
  refine nStep ?_
  k_steps
  all_goals (try dsimp only)
  refine nExecs (nTryExcept ?_)
  refine nExecs (nAssign (nBinOp (nBinOp (nCallE ?_))))
  k_steps
  all_goals (try dsimp only)
  refine nCallTn (nArgs (nMeth ?_))
  k_steps
  all_goals (try dsimp only)
  refine nCallFn (by k_asm) (by k_is) ?_
  k_steps
  all_goals (try dsimp only)
  try refine call_appN ?_
  k_dflt (refine' SpecN.useM (own := [(e, instObj 188 de), (de, toolDict w x #[] tr #[] ta q1 q2 q3), (x, instObj 80 dx), (dx, shapeDict w way colors bits cols t1 t2 t3 t4 k1 k2 k3 k4)]) (encFeed_spec w e de x dx way colors bits cols t1 t2 t3 t4 k1 k2 k3 k4 q1 q2 q3 _ _ _ _ _ _ (os.take cut.toNat) [] [] S hway (KBa.ints_make (Within.take hw)) bInts_nil bInts_nil (by simp only [List.length_nil, List.length_take]; lia) (by decide)) [(O, listOf items c)] ?B ?F ?X ?N ?hs ?hr ?hd' ?T ?hk ?hd ?hu ?_; (case B => k_asm); (case F => k_asm); (case X => k_asm); (case N => k_asm); (case T => k_asm); (case hk => exact rfl); (case hd => ktr_room); (case hu => ktr_units); (case hs => k_sub); (case hr => k_sub); (case hd' => ((repeat (refine List.forall_mem_cons.mpr ⟨?_, ?_⟩; (focus k_all))); exact List.forall_mem_nil _)))
  rintro r9 _ h9 tk9 ⟨rb1, tr1, ab1, ta1, b1, tb1, rs1, as1, out1, rfl, rfl, hb1, hrb1, hab1, hlr1, hla1, hlo1, hif1⟩ F9 N9 -
  simp only [List.cons_append, List.nil_append] at N9
  dsimp only
  refine nArgs0 ?_
  refine nOf (listBytesK rfl (by k_asm) (by k_asm) hb1 (by lia) ?_)
  intro G1 its1 c1 h10 tk10 F10 N10 l10 hI1
  k_lt l10
  dsimp only
  refine nCallE ?_
  k_steps
  all_goals (try dsimp only)
  refine nCallTn (nArgs (nMeth ?_))
  k_steps
  all_goals (try dsimp only)
  refine nCallFn (by k_asm) (by k_is) ?_
  k_steps
  all_goals (try dsimp only)
  try refine call_appN ?_
  simp only [List.length_nil, Nat.zero_add, List.length_take] at hlr1
  k_dflt (refine' SpecN.useM (own := [(e, instObj 188 de), (de, toolDict w x rb1 tr1 ab1 ta1 q1 q2 q3), (x, instObj 80 dx), (dx, shapeDict w way colors bits cols t1 t2 t3 t4 k1 k2 k3 k4)]) (encFeed_spec w e de x dx way colors bits cols t1 t2 t3 t4 k1 k2 k3 k4 q1 q2 q3 _ _ _ _ _ _ (os.drop cut.toNat) rs1 as1 S hway (KBa.ints_make (Within.drop hw)) hrb1 hab1 (by simp only [List.length_drop]; lia) hla1) [(G1, listOf its1 c1), (O, listOf items c)] ?B ?F ?X ?N ?hs ?hr ?hd' ?T ?hk ?hd ?hu ?_; (case B => k_asm); (case F => k_asm); (case X => k_asm); (case N => k_asm); (case T => k_asm); (case hk => exact rfl); (case hd => ktr_room); (case hu => ktr_units); (case hs => k_sub); (case hr => k_sub); (case hd' => ((repeat (refine List.forall_mem_cons.mpr ⟨?_, ?_⟩; (focus k_all))); exact List.forall_mem_nil _)))
  rintro r9 _ h9 tk9 ⟨rb2, tr2, ab2, ta2, b2, tb2, rs2, as2, out2, rfl, rfl, hb2, hrb2, hab2, hlr2, hla2, hlo2, hif2⟩ F9 N9 -
  simp only [List.length_drop] at hlr2
  simp only [List.cons_append, List.nil_append] at N9
  dsimp only
  refine nArgs0 ?_
  refine nOf (listBytesK rfl (by k_asm) (by k_asm) hb2 (by lia) ?_)
  intro G2 its2 c2 h10 tk10 F10 N10 l10 hI2
  k_lt l10
  dsimp only
  k_steps
  all_goals (try dsimp only)
  refine nCallE ?_
  k_steps
  all_goals (try dsimp only)
  refine nCallTn (nArgs (nMeth ?_))
  k_steps
  all_goals (try dsimp only)
  refine nCallFn0 (Frag.In.keeps (by k_asm) (Fr.keep (by k_asm))) (by k_is) ?_
  refine call_appN ?_
  have qql1 := True.intro
  rename_i D3 ws3 hh3 F3 N3 hI3 l3
  k_dflt (refine' SpecN.useM (own := [(e, instObj 188 de), (de, toolDict w x rb2 tr2 ab2 ta2 q1 q2 q3), (x, instObj 80 dx), (dx, shapeDict w way colors bits cols t1 t2 t3 t4 k1 k2 k3 k4)]) (encFin_spec w e de x dx way colors bits cols t1 t2 t3 t4 k1 k2 k3 k4 q1 q2 q3 _ _ _ _ rs2 as2 S ?hwy hrb2 hab2 ?hlf hla2) [(D3, listOf ws3.toArray 0), (O, listOf items c)] ?B ?F ?X ?N ?hs ?hr ?hd' ?T ?hk ?hd ?hu ?_; (case B => k_asm); (case F => k_asm); (case X => k_asm); (case N => k_asm); (case T => k_asm); (case hk => exact rfl); (case hd => ktr_room); (case hu => ktr_units); (case hs => k_sub); (case hr => k_sub); (case hd' => ((repeat (refine List.forall_mem_cons.mpr ⟨?_, ?_⟩; (focus k_all))); exact List.forall_mem_nil _)))
  case hwy =>
    by_cases h1 : way = 1
    · rw [if_pos h1] at hif1 hif2
      exact .inl (hif2.2.trans hif1.2)
    · exact .inr (hway.resolve_left h1)
  case hlf => lia
  rintro r9 _ h9 tk9 ⟨tr3, ab3, ta3, b3, tb3, rfl, rfl, hb3⟩ F9 N9 -
  simp only [List.cons_append, List.nil_append] at N9
  dsimp only
  refine nArgs0 ?_
  refine nOf (listBytesK rfl (by k_asm) (by k_asm) hb3 ?hlz ?_)
  case hlz =>
    split
    · decide
    · have := encRow_len (as := as2) (os := rs2) S
      lia
  intro G3 its3 c3 h10 tk10 F10 N10 l10 hI4
  k_lt l10
  dsimp only
  have hl3 : (if rs2 = [] then [] else encRow way colors bits cols as2 rs2).length ≤ 100 := by
    split
    · decide
    · have := encRow_len (as := as2) (os := rs2) S
      lia
  have hrun : toolRun (encF way colors bits cols) (rowSize colors bits cols) way os = some (out1 ++ out2 ++ if rs2 = [] then [] else encRow way colors bits cols as2 rs2) := by
    unfold toolRun
    by_cases h1 : way = 1
    · rw [if_pos h1] at hif1 hif2 ⊢
      rw [if_pos (hif2.2.trans hif1.2), hif1.1, hif2.1, List.append_nil, List.take_append_drop]
    · rw [if_neg h1] at hif1 hif2 ⊢
      have := fed_two (rowSize_in S).2.1 hif1.2 hif2.2 hif2.1
      rw [List.nil_append, List.take_append_drop] at this
      rw [this]
      by_cases hr : rs2 = []
      · rw [if_pos hr, if_pos hr]; simp
      · rw [if_neg hr, if_neg hr]; simp [encF]
  generalize (if rs2 = [] then [] else encRow way colors bits cols as2 rs2) = out3 at hI4 hl3 hrun
  k_steps
  all_goals (try dsimp only)
  have qql1 := True.intro
  rename_i D4 ws4 hh4 hI5 l4 hh5 F5 N5
  refine nExecsNil ?_
  dsimp only
  k_steps
  all_goals (try dsimp only)
  refine nStep ?_
  k_steps
  all_goals (try dsimp only)
  obtain ⟨y1, y2, y3⟩ := leaveT (own' := [(D4, listOf ws4.toArray 0), (x, instObj 80 dx), (dx, shapeDict w way colors bits cols t1 t2 t3 t4 k1 k2 k3 k4), (O, listOf items c)]) (s' := { heap := hh5, gens := hkT.s.gens, drawn := hkT.s.drawn, toks := 0, os := hkT.s.os }) FG hrest (fun q hq => (Nr q hq).2.1) (fun q hq => (Nr q hq).2.2) KtsTurn.refl F5 (news_sub N5 (by k_sub))
  exact hret _ _ _ _ y1 y2 y3 ⟨_, _, _, _, rfl, rfl, hI5, hrun⟩
end H_fedE_spec
theorem fedE_spec (w : World) (e de x dx O : Addr) (way colors bits cols : Int) (t1 t2 t3 t4 k1 k2 k3 k4 q1 q2 q3 tr ta tc : Tok) (items : Array Value) (c : Nat) (os : List Int) (cut : Int)
    (S : ShapeOk way colors bits cols) (hway : way = 1 ∨ way = 2 ∨ 10 ≤ way ∧ way ≤ 15) (hi : IntsAre items.toList os) (hw : Within 256 os) (hl : os.length ≤ 64) (hcut : 0 ≤ cut ∧ cut ≤ 1000) :
    SpecTN w 287 [.ref e, .ref O, .int cut tc] [(e, instObj 188 de), (de, toolDict w x #[] tr #[] ta q1 q2 q3), (x, instObj 80 dx), (dx, shapeDict w way colors bits cols t1 t2 t3 t4 k1 k2 k3 k4), (O, listOf items c)] 12
      (fun r n => ∃ G its cc out, r = .ref G ∧ n = [(G, listOf its cc), (x, instObj 80 dx), (dx, shapeDict w way colors bits cols t1 t2 t3 t4 k1 k2 k3 k4), (O, listOf items c)] ∧ IntsAre its.toList out ∧ toolRun (encF way colors bits cols) (rowSize colors bits cols) way os = some out) :=
  SpecTN.mk fun t => hk_all H_fedE_spec.hkN H_fedE_spec.hkU (by with_unfolding_all exact H_fedE_spec.core) (((((w, e), (de, x)), ((dx, O), (way, colors))), (((bits, cols), (t1, t2)), ((t3, t4), k1))), ((((k2, k3), (k4, q1)), ((q2, q3), tr)), (((ta, tc), (items, c)), ((os, cut), t)))) S hway hi hw hl hcut
end
section
set_option maxHeartbeats 8000000
theorem kwH21 : True := by
  exact True.intro
noncomputable def CaughtAt (w : World) (A : Around) (base g : Heap) (L : Addr) (V : Value → Prop) (P : Prop) (s : Shared) (e₁ : Value) (s₁ : Shared) : Prop :=
  ∃ a v g2 h9 tk9 l m', e₁ = .ref a ∧ s₁ = { s with heap := h9, toks := tk9 } ∧ V v ∧ A.frames = some l ∧ Fr g L g2 m' ∧ FlyG w base g2 l .none a v h9 ∧ P
theorem nTryX {M : Model} {A : Around} {E : Value → Shared → Prop} {s : Shared} {env : Env} {w : World} {base g : Heap} {L : Addr} {V : Value → Prop} {P : Prop} {body orelse : List Stmt} {h₀ : ExceptHandler} {hs : List ExceptHandler} {pos : Pos} {Q : Flow → Shared → Prop}
    (hb : wpN M A (execs body env) (fun f s₁ => match f with | .next => wpAny M A (execs orelse env) Q E s₁ | f => Q f s₁) (CaughtAt w A base g L V P s) s)
    (hc : ∀ e s₁, CaughtAt w A base g L V P s e s₁ → wpAny M A (noteFrame e env) (fun _ s₂ => wpAny M A (setFlight e none) (fun _ s₃ => wpAny M A (handleBy e env (h₀ :: hs)) Q E s₃) E s₂) E s₁) :
    wpN M A (exec (.Try body (h₀ :: hs) orelse [] pos) env) Q E s := nTryExcept (nMono hb (fun _ _ q => q) hc)
namespace H_fedD_spec
abbrev hkD : Type := (((((World × Addr) × (Addr × Addr)) × ((Addr × Addr) × (Int × Int))) × (((Int × Int) × (Tok × Tok)) × ((Tok × Tok) × Tok))) × ((((Tok × Tok) × (Tok × Tok)) × ((Tok × Tok) × Tok)) × (((Tok × Tok) × ((Array Value) × Nat)) × (((List Int) × Int) × Tele))))
def hkP (w : World) (e : Addr) (de : Addr) (x : Addr) (dx : Addr) (O : Addr) (way : Int) (colors : Int) (bits : Int) (cols : Int) (t1 : Tok) (t2 : Tok) (t3 : Tok) (t4 : Tok) (k1 : Tok) (k2 : Tok) (k3 : Tok) (k4 : Tok) (q1 : Tok) (q2 : Tok) (q3 : Tok) (tr : Tok) (ta : Tok) (tc : Tok) (items : Array Value) (c : Nat) (os : List Int) (cut : Int) (hkT : Tele) : Prop := ∀ (S : ShapeOk way colors bits cols) (hway : way = 1 ∨ way = 2 ∨ 10 ≤ way ∧ way ≤ 15) (hi : IntsAre items.toList os) (hw : Within 256 os) (hl : os.length ≤ 64) (hcut : 0 ≤ cut ∧ cut ≤ 1000), SpecTNAt w 287 [.ref e, .ref O, .int cut tc] [(e, instObj 230 de), (de, toolDict w x #[] tr #[] ta q1 q2 q3), (x, instObj 80 dx), (dx, shapeDict w way colors bits cols t1 t2 t3 t4 k1 k2 k3 k4), (O, listOf items c)] 12
      (fun r n => match toolRun (decF way colors bits cols) (toldSize way colors bits cols) way os with
        | none => r = .none ∧ n = []
        | some out => ∃ G its cc, r = .ref G ∧ n = [(G, listOf its cc), (x, instObj 80 dx), (dx, shapeDict w way colors bits cols t1 t2 t3 t4 k1 k2 k3 k4), (O, listOf items c)] ∧ IntsAre its.toList out) hkT
def hkU (d : hkD) : Prop := hkP d.1.1.1.1.1 d.1.1.1.1.2 d.1.1.1.2.1 d.1.1.1.2.2 d.1.1.2.1.1 d.1.1.2.1.2 d.1.1.2.2.1 d.1.1.2.2.2 d.1.2.1.1.1 d.1.2.1.1.2 d.1.2.1.2.1 d.1.2.1.2.2 d.1.2.2.1.1 d.1.2.2.1.2 d.1.2.2.2 d.2.1.1.1.1 d.2.1.1.1.2 d.2.1.1.2.1 d.2.1.1.2.2 d.2.1.2.1.1 d.2.1.2.1.2 d.2.1.2.2 d.2.2.1.1.1 d.2.2.1.1.2 d.2.2.1.2.1 d.2.2.1.2.2 d.2.2.2.1.1 d.2.2.2.1.2 d.2.2.2.2
theorem hkN : Nonempty hkD := (ne2 (ne2 (ne2 (ne2 (ne2 neWorld ⟨default⟩) (ne2 ⟨default⟩ ⟨default⟩)) (ne2 (ne2 ⟨default⟩ ⟨default⟩) (ne2 ⟨default⟩ ⟨default⟩))) (ne2 (ne2 (ne2 ⟨default⟩ ⟨default⟩) (ne2 ⟨default⟩ ⟨default⟩)) (ne2 (ne2 ⟨default⟩ ⟨default⟩) ⟨default⟩))) (ne2 (ne2 (ne2 (ne2 ⟨default⟩ ⟨default⟩) (ne2 ⟨default⟩ ⟨default⟩)) (ne2 (ne2 ⟨default⟩ ⟨default⟩) ⟨default⟩)) (ne2 (ne2 (ne2 ⟨default⟩ ⟨default⟩) (ne2 ⟨default⟩ ⟨default⟩)) (ne2 (ne2 ⟨default⟩ ⟨default⟩) neTele))))
@[irreducible] def hkV : hkD := hk_c hkN hkU
@[irreducible] def w : World := hkV.1.1.1.1.1
@[irreducible] def e : Addr := hkV.1.1.1.1.2
@[irreducible] def de : Addr := hkV.1.1.1.2.1
@[irreducible] def x : Addr := hkV.1.1.1.2.2
@[irreducible] def dx : Addr := hkV.1.1.2.1.1
@[irreducible] def O : Addr := hkV.1.1.2.1.2
@[irreducible] def way : Int := hkV.1.1.2.2.1
@[irreducible] def colors : Int := hkV.1.1.2.2.2
@[irreducible] def bits : Int := hkV.1.2.1.1.1
@[irreducible] def cols : Int := hkV.1.2.1.1.2
@[irreducible] def t1 : Tok := hkV.1.2.1.2.1
@[irreducible] def t2 : Tok := hkV.1.2.1.2.2
@[irreducible] def t3 : Tok := hkV.1.2.2.1.1
@[irreducible] def t4 : Tok := hkV.1.2.2.1.2
@[irreducible] def k1 : Tok := hkV.1.2.2.2
@[irreducible] def k2 : Tok := hkV.2.1.1.1.1
@[irreducible] def k3 : Tok := hkV.2.1.1.1.2
@[irreducible] def k4 : Tok := hkV.2.1.1.2.1
@[irreducible] def q1 : Tok := hkV.2.1.1.2.2
@[irreducible] def q2 : Tok := hkV.2.1.2.1.1
@[irreducible] def q3 : Tok := hkV.2.1.2.1.2
@[irreducible] def tr : Tok := hkV.2.1.2.2
@[irreducible] def ta : Tok := hkV.2.2.1.1.1
@[irreducible] def tc : Tok := hkV.2.2.1.1.2
@[irreducible] def items : Array Value := hkV.2.2.1.2.1
@[irreducible] def c : Nat := hkV.2.2.1.2.2
@[irreducible] def os : List Int := hkV.2.2.2.1.1
@[irreducible] def cut : Int := hkV.2.2.2.1.2
@[irreducible] def hkT : Tele := hkV.2.2.2.2
@[irreducible] def g : Heap := hideAll hkT.s.heap (([(e, instObj 230 de), (de, toolDict w x #[] tr #[] ta q1 q2 q3), (x, instObj 80 dx), (dx, shapeDict w way colors bits cols t1 t2 t3 t4 k1 k2 k3 k4), (O, listOf items c)] : List (Addr × Obj)).map (·.1))
def L' : Addr := hkT.s.heap.objs.size
theorem g_e : g = hideAll hkT.s.heap (([(e, instObj 230 de), (de, toolDict w x #[] tr #[] ta q1 q2 q3), (x, instObj 80 dx), (dx, shapeDict w way colors bits cols t1 t2 t3 t4 k1 k2 k3 k4), (O, listOf items c)] : List (Addr × Obj)).map (·.1)) := by delta g; exact rfl
theorem L_e : L' = hkT.s.heap.objs.size := rfl
theorem core : hkP w e de x dx O way colors bits cols t1 t2 t3 t4 k1 k2 k3 k4 q1 q2 q3 tr ta tc items c os cut hkT := by
  unfold hkP SpecTNAt
  intro S hway hi hw hl hcut
  obtain ⟨_, _⟩ := id hcut
  intro B F X N Nr hdis T hk hd hu hret
  refine nCall ?_
  k_dflt (refine' enterTN0 g L' g_e L_e (binds := [(Str.ofString "tool", .ref e), (Str.ofString "octets", .ref O), (Str.ofString "cut", .int cut tc)]) B F X N Nr hdis T rfl rfl hk ?k6 ?k7 ?k8 ?k9 ?kB ?_ ?c5 ?c2 ?c3 ?c4; (case k6 => k_is); (case k7 => k_is); (case k8 => ktr_room); (case k9 => exact BindsTo.of_eq rfl); (case c5 => decide); (case kB => exact locs rfl); (case c2 => exact rfl); (case c3 => exact rfl); (case c4 => exact rfl); k_whole)
  intro h' FG hrest F' N' B' X' T' l1
  try dsimp only
  have hne := tool_ne (by decide) (news_sub N' (l' := [(e, instObj 230 de), (de, toolDict w x #[] tr #[] ta q1 q2 q3), (x, instObj 80 dx), (dx, shapeDict w way colors bits cols t1 t2 t3 t4 k1 k2 k3 k4)]) fun p hp => List.mem_append_left [(O, listOf items c)] hp)
  have hno := tool_off N'
  try k_lt l1
  try k_lift B'
  refine nStep ?_
  k_steps
  all_goals (try dsimp only)
  have hn1 : 1 ≤ toldSize way colors bits cols := by have := (rowSize_in S).2.1; unfold toldSize; lia
  refine nExecs (nTryX (w := w) (base := hkT.base) (g := g) (L := L') (V := fun v => ∃ t, v = .bytes ioerror t) (P := toolRun (decF way colors bits cols) (toldSize way colors bits cols) way os = none) ?hbody ?hcatch)
  case hcatch =>
    rintro _ _ ⟨a, v, g2, h9, tk9, l, m', rfl, rfl, ⟨tv, rfl⟩, hfr, F9, X9, hnone⟩
    have := Option.some.inj (hfr.symm.trans (Around.frames_deeper rfl))
    subst this
    refine xCaught (p := Mine.hd.view_39) (loose := looseW Mine.hd.view_39 [Str.ofString "PostError"]) (mg := hkT.mg) (mb := hkT.mb) B' (Around.frames_deeper rfl) F9 X9 ?_ ?_
    · exact fun g' TT => ⟨X.keeps (upT FG TT), topRead_of (T.keeps (upT FG TT))⟩
    · intro h8 g8 tk8 D8 oe8 k8 T8 B8 F8 c1 c2 c3 N8
      have X8 := X.keeps (upT FG T8)
      have R8 := topRead_of (T.keeps (upT FG T8))
      k_steps
      all_goals (try dsimp only)
      refine nStep ?_
      k_steps
      all_goals (try dsimp only)
      obtain ⟨y1, y2, y3⟩ := leaveT (own' := []) (s' := { heap := _, gens := hkT.s.gens, drawn := hkT.s.drawn, toks := 0, os := hkT.s.os }) FG hrest (fun q hq => (Nr q hq).2.1) (fun q hq => (Nr q hq).2.2) T8 (by assumption) News.nil
      refine hret _ [] _ _ y1 y2 y3 ?_
      rw [hnone]
      exact ⟨rfl, rfl⟩
  refine nExecs (nAssign (nBinOp (nBinOp (nCallE ?_))))
  k_steps
  all_goals (try dsimp only)
  refine nCallTn (nArgs (nMeth ?_))
  k_steps
  all_goals (try dsimp only)
  refine nCallFn (by k_asm) (by k_is) ?_
  k_steps
  all_goals (try dsimp only)
  try refine call_appN ?_
  k_dflt (refine' SpecRN.useM (own := [(e, instObj 230 de), (de, toolDict w x #[] tr #[] ta q1 q2 q3), (x, instObj 80 dx), (dx, shapeDict w way colors bits cols t1 t2 t3 t4 k1 k2 k3 k4)]) (decFeed_spec w e de x dx way colors bits cols t1 t2 t3 t4 k1 k2 k3 k4 q1 q2 q3 _ _ _ _ _ _ (os.take cut.toNat) [] [] S hway (KBa.ints_make (Within.take hw)) bInts_nil bInts_nil (by simp only [List.length_nil, List.length_take]; lia) (by decide)) [(O, listOf items c)] ?B ?F ?X ?N ?hs ?hr ?hd' ?T ?hk ?hd ?hu ?hEE ?_; (case B => k_asm); (case F => k_asm); (case X => k_asm); (case N => k_asm); (case T => k_asm); (case hk => exact rfl); (case hd => ktr_room); (case hu => ktr_units); (case hs => k_sub); (case hr => k_sub); (case hd' => ((repeat (refine List.forall_mem_cons.mpr ⟨?_, ?_⟩; (focus k_all))); exact List.forall_mem_nil _)))
  case hEE =>
    intro v a g2 h9 tk9 hv F9 _ X9
    refine ⟨a, v, g2, h9, tk9, _, _, rfl, rfl, hv.2, Around.frames_deeper rfl, F9, X9, ?_⟩
    rw [toolRun, if_neg hv.1.1]
    have := hv.1.2 (os.drop cut.toNat)
    rwa [List.nil_append, List.take_append_drop] at this
  rintro r9 _ h9 tk9 ⟨rb1, tr1, ab1, ta1, b1, tb1, rs1, as1, out1, rfl, rfl, hb1, hrb1, hab1, hlr1, hla1, hlo1, hif1⟩ F9 N9 -
  simp only [List.cons_append, List.nil_append] at N9
  dsimp only
  refine nArgs0 ?_
  refine nOf (listBytesK rfl (by k_asm) (by k_asm) hb1 (by lia) ?_)
  intro G1 its1 c1 h10 tk10 F10 N10 l10 hI1
  k_lt l10
  dsimp only
  refine nCallE ?_
  k_steps
  all_goals (try dsimp only)
  refine nCallTn (nArgs (nMeth ?_))
  k_steps
  all_goals (try dsimp only)
  refine nCallFn (by k_asm) (by k_is) ?_
  k_steps
  all_goals (try dsimp only)
  try refine call_appN ?_
  simp only [List.length_nil, Nat.zero_add, List.length_take] at hlr1
  k_dflt (refine' SpecRN.useM (own := [(e, instObj 230 de), (de, toolDict w x rb1 tr1 ab1 ta1 q1 q2 q3), (x, instObj 80 dx), (dx, shapeDict w way colors bits cols t1 t2 t3 t4 k1 k2 k3 k4)]) (decFeed_spec w e de x dx way colors bits cols t1 t2 t3 t4 k1 k2 k3 k4 q1 q2 q3 _ _ _ _ _ _ (os.drop cut.toNat) rs1 as1 S hway (KBa.ints_make (Within.drop hw)) hrb1 hab1 (by simp only [List.length_drop]; lia) hla1) [(G1, listOf its1 c1), (O, listOf items c)] ?B ?F ?X ?N ?hs ?hr ?hd' ?T ?hk ?hd ?hu ?hEE ?_; (case B => k_asm); (case F => k_asm); (case X => k_asm); (case N => k_asm); (case T => k_asm); (case hk => exact rfl); (case hd => ktr_room); (case hu => ktr_units); (case hs => k_sub); (case hr => k_sub); (case hd' => ((repeat (refine List.forall_mem_cons.mpr ⟨?_, ?_⟩; (focus k_all))); exact List.forall_mem_nil _)))
  case hEE =>
    intro v a g2 h9 tk9 hv F9 _ X9
    refine ⟨a, v, g2, h9, tk9, _, _, rfl, rfl, hv.2, Around.frames_deeper rfl, F9, X9, ?_⟩
    rw [toolRun, if_neg hv.1.1]
    rw [if_neg hv.1.1] at hif1
    have := hv.1.2 []
    rw [List.append_nil] at this
    have := fed_stop hif1.2 this
    rwa [List.nil_append, List.take_append_drop] at this
  rintro r9 _ h9 tk9 ⟨rb2, tr2, ab2, ta2, b2, tb2, rs2, as2, out2, rfl, rfl, hb2, hrb2, hab2, hlr2, hla2, hlo2, hif2⟩ F9 N9 -
  simp only [List.length_drop] at hlr2
  simp only [List.cons_append, List.nil_append] at N9
  dsimp only
  refine nArgs0 ?_
  refine nOf (listBytesK rfl (by k_asm) (by k_asm) hb2 (by lia) ?_)
  intro G2 its2 c2 h10 tk10 F10 N10 l10 hI2
  k_lt l10
  dsimp only
  k_steps
  all_goals (try dsimp only)
  refine nCallE ?_
  k_steps
  all_goals (try dsimp only)
  refine nCallTn (nArgs (nMeth ?_))
  k_steps
  all_goals (try dsimp only)
  refine nCallFn0 (Frag.In.keeps (by k_asm) (Fr.keep (by k_asm))) (by k_is) ?_
  refine call_appN ?_
  have qql1 := True.intro
  rename_i D3 ws3 hh3 F3 N3 hI3 l3
  k_dflt (refine' SpecRN.useM (own := [(e, instObj 230 de), (de, toolDict w x rb2 tr2 ab2 ta2 q1 q2 q3), (x, instObj 80 dx), (dx, shapeDict w way colors bits cols t1 t2 t3 t4 k1 k2 k3 k4)]) (decFin_spec w e de x dx way colors bits cols t1 t2 t3 t4 k1 k2 k3 k4 q1 q2 q3 _ _ _ _ rs2 as2 S ?hwy hrb2 hab2 ?hlf hla2) [(D3, listOf ws3.toArray 0), (O, listOf items c)] ?B ?F ?X ?N ?hs ?hr ?hd' ?T ?hk ?hd ?hu ?hEE ?_; (case B => k_asm); (case F => k_asm); (case X => k_asm); (case N => k_asm); (case T => k_asm); (case hk => exact rfl); (case hd => ktr_room); (case hu => ktr_units); (case hs => k_sub); (case hr => k_sub); (case hd' => ((repeat (refine List.forall_mem_cons.mpr ⟨?_, ?_⟩; (focus k_all))); exact List.forall_mem_nil _)))
  case hwy =>
    by_cases h1 : way = 1
    · rw [if_pos h1] at hif1 hif2
      exact .inl (hif2.2.trans hif1.2)
    · exact .inr (hway.resolve_left h1)
  case hlf => lia
  case hEE =>
    intro v a g2 h9 tk9 hv F9 _ X9
    refine ⟨a, v, g2, h9, tk9, _, _, rfl, rfl, hv.2, Around.frames_deeper rfl, F9, X9, ?_⟩
    have hw1 : way ≠ 1 := fun h1 => by
      rw [if_pos h1] at hif1 hif2
      exact hv.1.1 (hif2.2.trans hif1.2)
    rw [toolRun, if_neg hw1]
    rw [if_neg hw1] at hif1 hif2
    have := fed_two hn1 hif1.2 hif2.2 hif2.1
    rw [List.nil_append, List.take_append_drop, if_neg hv.1.1, hv.1.2] at this
    exact this
  rintro r9 _ h9 tk9 ⟨tr3, ab3, ta3, b3, tb3, rfl, rfl, hb3⟩ F9 N9 -
  simp only [List.cons_append, List.nil_append] at N9
  dsimp only
  refine nArgs0 ?_
  have hl3 : (KBw.bInts b3).length ≤ 100 := by
    by_cases hr : rs2 = []
    · rw [if_pos hr] at hb3
      rw [hb3]; decide
    · rw [if_neg hr] at hb3
      obtain ⟨as', hd⟩ := hb3
      have := decF_len S hd (by lia) hla2
      lia
  refine nOf (listBytesK rfl (by k_asm) (by k_asm) rfl (by lia) ?_)
  intro G3 its3 c3 h10 tk10 F10 N10 l10 hI4
  k_lt l10
  dsimp only
  have hrun : toolRun (decF way colors bits cols) (toldSize way colors bits cols) way os = some (out1 ++ out2 ++ KBw.bInts b3) := by
    unfold toolRun
    by_cases h1 : way = 1
    · rw [if_pos h1] at hif1 hif2 ⊢
      rw [if_pos (hif2.2.trans hif1.2)] at hb3
      rw [hb3, hif1.1, hif2.1, List.append_nil, List.take_append_drop]
    · rw [if_neg h1] at hif1 hif2 ⊢
      have := fed_two hn1 hif1.2 hif2.2 hif2.1
      rw [List.nil_append, List.take_append_drop] at this
      rw [this]
      by_cases hr : rs2 = []
      · rw [if_pos hr] at hb3 ⊢
        rw [hb3]; simp
      · rw [if_neg hr] at hb3 ⊢
        obtain ⟨as', hd⟩ := hb3
        rw [hd]; simp
  generalize KBw.bInts b3 = out3 at hI4 hl3 hrun
  k_steps
  all_goals (try dsimp only)
  have qql1 := True.intro
  rename_i D4 ws4 hh4 hI5 l4 hh5 F5 N5
  refine nExecsNil ?_
  dsimp only
  k_steps
  all_goals (try dsimp only)
  refine nStep ?_
  k_steps
  all_goals (try dsimp only)
  obtain ⟨y1, y2, y3⟩ := leaveT (own' := [(D4, listOf ws4.toArray 0), (x, instObj 80 dx), (dx, shapeDict w way colors bits cols t1 t2 t3 t4 k1 k2 k3 k4), (O, listOf items c)]) (s' := { heap := hh5, gens := hkT.s.gens, drawn := hkT.s.drawn, toks := 0, os := hkT.s.os }) FG hrest (fun q hq => (Nr q hq).2.1) (fun q hq => (Nr q hq).2.2) KtsTurn.refl F5 (news_sub N5 (by k_sub))
  exact hret _ _ _ _ y1 y2 y3 (by rw [hrun]; exact ⟨_, _, _, rfl, rfl, hI5⟩)
end H_fedD_spec
theorem fedD_spec (w : World) (e de x dx O : Addr) (way colors bits cols : Int) (t1 t2 t3 t4 k1 k2 k3 k4 q1 q2 q3 tr ta tc : Tok) (items : Array Value) (c : Nat) (os : List Int) (cut : Int)
    (S : ShapeOk way colors bits cols) (hway : way = 1 ∨ way = 2 ∨ 10 ≤ way ∧ way ≤ 15) (hi : IntsAre items.toList os) (hw : Within 256 os) (hl : os.length ≤ 64) (hcut : 0 ≤ cut ∧ cut ≤ 1000) :
    SpecTN w 287 [.ref e, .ref O, .int cut tc] [(e, instObj 230 de), (de, toolDict w x #[] tr #[] ta q1 q2 q3), (x, instObj 80 dx), (dx, shapeDict w way colors bits cols t1 t2 t3 t4 k1 k2 k3 k4), (O, listOf items c)] 12
      (fun r n => match toolRun (decF way colors bits cols) (toldSize way colors bits cols) way os with
        | none => r = .none ∧ n = []
        | some out => ∃ G its cc, r = .ref G ∧ n = [(G, listOf its cc), (x, instObj 80 dx), (dx, shapeDict w way colors bits cols t1 t2 t3 t4 k1 k2 k3 k4), (O, listOf items c)] ∧ IntsAre its.toList out) :=
  SpecTN.mk fun t => hk_all H_fedD_spec.hkN H_fedD_spec.hkU (by with_unfolding_all exact H_fedD_spec.core) (((((w, e), (de, x)), ((dx, O), (way, colors))), (((bits, cols), (t1, t2)), ((t3, t4), k1))), ((((k2, k3), (k4, q1)), ((q2, q3), tr)), (((ta, tc), (items, c)), ((os, cut), t)))) S hway hi hw hl hcut
end
section
noncomputable def dig (B : Int) (n : Nat) (W : Int) : List Int := (List.range n).map fun k => W / B ^ (n - 1 - k) % B
theorem dig_len {B W : Int} {n : Nat} : (dig B n W).length = n := by simp [dig]
theorem dig_snoc {B W : Int} {n : Nat} (hB : 0 < B) : dig B (n + 1) W = dig B n (W / B) ++ [W % B] := by
  unfold dig
  rw [List.range_succ, List.map_append, List.map_singleton]
  refine congr (congrArg _ (List.map_congr_left fun k hk => ?_)) ?_
  · have hk' := List.mem_range.mp hk
    rw [show n + 1 - 1 - k = 1 + (n - 1 - k) by lia, Int.pow_add, Int.pow_one, Int.ediv_ediv_of_nonneg (Int.le_of_lt hB)]
  · rw [show n + 1 - 1 - n = 0 by lia, Int.pow_zero, Int.ediv_one]
theorem dig_in {B W : Int} {n : Nat} (hB : 0 < B) : ∀ d ∈ dig B n W, 0 ≤ d ∧ d < B := fun d hd => by
  obtain ⟨k, _, rfl⟩ := List.mem_map.mp hd
  exact ⟨Int.emod_nonneg _ (Int.ne_of_gt hB), Int.emod_lt_of_pos _ hB⟩
theorem num_dig {B : Int} (hB : 0 < B) : ∀ (n : Nat) (W : Int), 0 ≤ W → W < B ^ n → num B (dig B n W) = W
  | 0, W, h0, h1 => by
    rw [Int.pow_zero] at h1
    have : W = 0 := by lia
    subst this; rfl
  | n + 1, W, h0, h1 => by
    rw [dig_snoc hB, num_snoc, num_dig hB n (W / B) (Int.ediv_nonneg h0 (Int.le_of_lt hB)) (Int.ediv_lt_of_lt_mul hB (by rw [Int.pow_succ] at h1; exact h1))]
    rw [Int.mul_comm]; exact Int.mul_ediv_add_emod W B
theorem dig_num {B : Int} (hB : 0 < B) (ds : List Int) (h : ∀ d ∈ ds, 0 ≤ d ∧ d < B) : dig B ds.length (num B ds) = ds := by
  have key : ∀ n, ∀ ds : List Int, ds.length = n → (∀ d ∈ ds, 0 ≤ d ∧ d < B) → dig B ds.length (num B ds) = ds := by
    intro n
    induction n with
    | zero => intro ds hl _; rw [List.length_eq_zero_iff.mp hl]; rfl
    | succ n ih =>
      intro ds hl hd
      have hne : ds ≠ [] := by intro e; rw [e] at hl; cases hl
      obtain ⟨es, e, rfl⟩ : ∃ es e, ds = es ++ [e] := ⟨ds.dropLast, ds.getLast hne, (List.dropLast_concat_getLast hne).symm⟩
      have hl' : es.length = n := by simpa using hl
      have h2 := hd e (by simp)
      rw [num_snoc, List.length_append, List.length_singleton, dig_snoc hB, Int.add_ediv_of_dvd_left (Int.dvd_mul_left _ _), Int.mul_ediv_cancel _ (Int.ne_of_gt hB), Int.ediv_eq_zero_of_lt h2.1 h2.2, Int.add_zero,
        ih es hl' fun d hd' => hd d (List.mem_append_left _ hd'), Int.add_emod, Int.mul_emod_left, Int.zero_add, Int.emod_emod, Int.emod_eq_of_lt h2.1 h2.2]
  exact key _ ds rfl h
theorem num_from {B : Int} (b : List Int) : ∀ a : Int, b.foldl (fun a d => a * B + d) a = a * B ^ b.length + num B b := by
  induction b with
  | nil => intro a; simp [num]
  | cons d b ih =>
    intro a
    unfold num
    rw [List.foldl_cons, List.foldl_cons, ih, ih, List.length_cons, Int.pow_succ, Int.add_mul, Int.mul_assoc, Int.mul_comm B, Int.zero_mul, Int.zero_add, Int.add_assoc]
theorem num_append {B : Int} (a b : List Int) : num B (a ++ b) = num B a * B ^ b.length + num B b := by
  show (a ++ b).foldl _ _ = _
  rw [List.foldl_append, num_from]; rfl
theorem bits_cases {bits : Int} (hb : bits ∈ [1, 2, 4, 8, 16]) : bits = 1 ∨ bits = 2 ∨ bits = 4 ∨ bits = 8 ∨ bits = 16 := by
  simpa only [List.mem_cons, List.not_mem_nil, or_false] using hb
structure Split (bits : Int) (l m m8 : Nat) : Prop where
  many : ((l : Int) * 8).fdiv bits = (m : Int)
  many' : (8 * (l : Int)).fdiv bits = (m : Int)
  whole : ((m : Int) * bits).fdiv 8 = (m8 : Int)
  whole' : (bits * (m : Int)).fdiv 8 = (m8 : Int)
  le : m8 ≤ l
  same : bits.toNat * m = 8 * m8
  spare : ((l : Int) * 8 - (m : Int) * bits) = ((8 * (l - m8) : Nat) : Int)
theorem split_mk {bits : Int} {l m m8 : Nat} (hb : 0 < bits) (h1 : (m : Int) * bits ≤ (l : Int) * 8) (h2 : (l : Int) * 8 < (m : Int) * bits + bits) (h3 : (m : Int) * bits = (m8 : Int) * 8) (le : m8 ≤ l) (same : bits.toNat * m = 8 * m8) : Split bits l m m8 := by
  have e : ((l : Int) * 8).fdiv bits = (m : Int) := by
    rw [Int.fdiv_eq_ediv_of_nonneg _ (Int.le_of_lt hb)]
    refine ((Int.ediv_emod_unique (r := (l : Int) * 8 - (m : Int) * bits) hb).mpr ⟨?_, Int.sub_nonneg_of_le h1, Int.sub_left_lt_of_lt_add h2⟩).1
    rw [Int.mul_comm bits, Int.sub_add_cancel]
  have e2 : ((m : Int) * bits).fdiv 8 = (m8 : Int) := by rw [h3]; exact Int.mul_fdiv_cancel _ (by decide)
  refine ⟨e, by rw [Int.mul_comm]; exact e, e2, by rw [Int.mul_comm]; exact e2, le, same, ?_⟩
  rw [h3, ← Int.sub_mul, ← Int.ofNat_sub le, Int.mul_comm]; rfl
theorem split_q {bits : Int} {q : Nat} (l : Nat) (hb : 0 < bits) (h : (q : Int) * bits = 8) (same : bits.toNat * q = 8) : Split bits l (q * l) l := by
  have e : ((q * l : Nat) : Int) * bits = (l : Int) * 8 := by rw [Int.natCast_mul, Int.mul_right_comm, h, Int.mul_comm]
  exact split_mk hb (Int.le_of_eq e) (by rw [e]; exact Int.lt_add_of_pos_right _ hb) e (Nat.le_refl _) (by rw [← Nat.mul_assoc, same])
theorem split_of {bits : Int} (hb : bits ∈ [1, 2, 4, 8, 16]) (l : Nat) : ∃ m m8, Split bits l m m8 := by
  rcases bits_cases hb with rfl | rfl | rfl | rfl | rfl
  · exact ⟨_, _, split_q (q := 8) l (by decide) (by decide) (by decide)⟩
  · exact ⟨_, _, split_q (q := 4) l (by decide) (by decide) (by decide)⟩
  · exact ⟨_, _, split_q (q := 2) l (by decide) (by decide) (by decide)⟩
  · exact ⟨_, _, split_q (q := 1) l (by decide) (by decide) (by decide)⟩
  · exact ⟨l / 2, 2 * (l / 2), split_mk (by decide) (by lia) (by lia) (by lia) (by lia) (show 16 * (l / 2) = 8 * (2 * (l / 2)) by lia)⟩
theorem fdiv_pow {W : Int} {n : Nat} : W.fdiv (2 ^ n) = W / 2 ^ n := Int.fdiv_eq_ediv_of_nonneg _ (Int.le_of_lt (Int.pow_pos (by decide)))
theorem fdiv_pow256 {W : Int} {n : Nat} : W.fdiv (256 ^ n) = W / 256 ^ n := Int.fdiv_eq_ediv_of_nonneg _ (Int.le_of_lt (Int.pow_pos (by decide)))
theorem bits_nat {bits : Int} (hb : bits ∈ [1, 2, 4, 8, 16]) : (bits.toNat : Int) = bits := Int.toNat_of_nonneg (by have := bits_range hb; lia)
theorem partsL_dig {os : List Int} {bits : Int} (hb : bits ∈ [1, 2, 4, 8, 16]) {m m8 : Nat} (S : Split bits os.length m m8) : partsL os bits = dig (2 ^ bits.toNat) m (num 256 os / 256 ^ (os.length - m8)) := by
  unfold partsL dig
  rw [S.many, show ((m : Int) - 1 - -1).toNat = m by lia, List.map_map]
  refine List.map_congr_left fun k hk => ?_
  have hk' := List.mem_range.mp hk
  simp only [Function.comp, partAt]
  have hbn := bits_nat hb
  have e1 : ((os.length : Int) * 8 - ((os.length : Int) * 8).fdiv bits * bits + bits * ((m : Int) - 1 + (k : Int) * -1)).toNat = 8 * (os.length - m8) + bits.toNat * (m - 1 - k) := by
    rw [S.many, S.spare]
    have e2 : bits * ((m : Int) - 1 + (k : Int) * -1) = ((bits.toNat * (m - 1 - k) : Nat) : Int) := by
      push_cast
      rw [hbn, show ((m - 1 - k : Nat) : Int) = (m : Int) - 1 + (k : Int) * -1 by lia]
    rw [e2]; lia
  rw [e1, fdiv_pow, Int.pow_add, ← Int.ediv_ediv_of_nonneg (Int.le_of_lt (Int.pow_pos (by decide))), ← pow256, Int.pow_mul]
theorem lpartsL_dig {os : List Int} {bits : Int} (hb : bits ∈ [1, 2, 4, 8, 16]) {m m8 : Nat} (S : Split bits os.length m m8) : lpartsL os bits = dig (2 ^ bits.toNat) m (num 256 os / 256 ^ (os.length - m8)) := by
  unfold lpartsL dig
  rw [S.many', Int.toNat_natCast]
  refine List.map_congr_left fun k hk => ?_
  have hk' := List.mem_range.mp hk
  simp only [lpartAt]
  have hbn := bits_nat hb
  have e1 : (8 * (os.length : Int) - (m : Int) * bits).toNat = 8 * (os.length - m8) := by
    have := S.spare; lia
  have e2 : (bits * ((m : Int) - 1 - (k : Int))).toNat = bits.toNat * (m - 1 - k) := by
    have e3 : bits * ((m : Int) - 1 - (k : Int)) = ((bits.toNat * (m - 1 - k) : Nat) : Int) := by
      push_cast
      rw [hbn, show ((m - 1 - k : Nat) : Int) = (m : Int) - 1 - (k : Int) by lia]
    rw [e3]; lia
  rw [e1, e2, fdiv_pow, fdiv_pow, ← pow256, Int.pow_mul]
theorem octetsL_dig {ps : List Int} {bits : Int} {m8 : Nat} (h : ((ps.length : Int) * bits).fdiv 8 = (m8 : Int)) : octetsL ps bits = dig 256 m8 (num (2 ^ bits.toNat) ps) := by
  unfold octetsL dig
  rw [h, Int.toNat_natCast]
  exact List.map_congr_left fun k _ => rfl
theorem ldiffs_dig {os : List Int} {colors bits : Int} (hb : bits ∈ [1, 2, 4, 8, 16]) {m m8 : Nat} (S : Split bits os.length m m8) : ldiffs os colors bits = dig 256 m8 (num (2 ^ bits.toNat) (ldiffL (lpartsL os bits) colors bits)) ++ os.drop m8 := by
  have hl : (lpartsL os bits).length = m := by rw [lpartsL_dig hb S, dig_len]
  unfold ldiffs dig
  rw [hl, S.whole', Int.toNat_natCast]
  refine congrArg (· ++ _) (List.map_congr_left fun k hk => ?_)
  have hk' := List.mem_range.mp hk
  simp only [loctAt]
  rw [show ((m8 : Int) - 1 - (k : Int)).toNat = m8 - 1 - k by lia, fdiv_pow256]
theorem tiffL_dig {os : List Int} {colors cols bits : Int} {back : Bool} (hb : bits ∈ [1, 2, 4, 8, 16]) {m m8 : Nat} (S : Split bits os.length m m8) :
    tiffL os colors cols bits back = dig 256 m8 (num (2 ^ bits.toNat) (tiffK (partsL os bits) colors cols bits back m)) ++ os.drop m8 := by
  have hl : (partsL os bits).length = m := by rw [partsL_dig hb S, dig_len]
  unfold tiffL
  rw [hl, octetsL_dig (m8 := m8) (by rw [tiffK_len, S.whole]), tiffK_len, S.whole, Int.toNat_natCast]
theorem tiffK_diff {ps : List Int} {colors cols bits : Int} (h : ∀ d ∈ ps, 0 ≤ d ∧ d < 2 ^ bits.toNat) (hl : (ps.length : Int) ≤ colors * cols) : tiffK ps colors cols bits false ps.length = ldiffL ps colors bits := by
  have key : ∀ n, n ≤ ps.length → tiffK ps colors cols bits false n = (ldiffL ps colors bits).take n := by
    intro n
    induction n with
    | zero => intro _; rfl
    | succ n ih =>
      intro hn
      have hn' : n < ps.length := by lia
      have hp := h ps[n] (List.getElem_mem hn')
      have hg : ps.getD n 0 = ps[n] := by rw [List.getD_eq_getElem?_getD, List.getElem?_eq_getElem hn']; rfl
      rw [tiffK, ih (by lia), List.take_add_one]
      refine congrArg (fun z => (ldiffL ps colors bits).take n ++ z) ?_
      have e : (ldiffL ps colors bits)[n]? = some (ldiffAt ps colors bits n) := by simp [ldiffL, hn']
      rw [e, Option.toList_some, tiffAt, ldiffAt]
      by_cases hc : (n : Int) < colors
      · rw [if_pos (.inl hc), if_neg (show ¬ colors ≤ (n : Int) by lia), Int.sub_zero, hg, Int.emod_eq_of_lt hp.1 hp.2]
      · rw [if_neg (show ¬ ((n : Int) < colors ∨ colors * cols ≤ (n : Int)) by lia), if_pos (show colors ≤ (n : Int) by lia)]; rfl
  rw [key _ (Nat.le_refl _), List.take_of_length_le (by simp [ldiffL])]
theorem tiffK_back {ps : List Int} {colors cols bits : Int} (h : ∀ d ∈ ps, 0 ≤ d ∧ d < 2 ^ bits.toNat) (h0 : 0 ≤ colors) : tiffK (tiffK ps colors cols bits false ps.length) colors cols bits true ps.length = ps := by
  have hlen := tiffK_len (ps := ps) (colors := colors) (cols := cols) (bits := bits) (back := false) ps.length
  have hds : ∀ n, n < ps.length → (tiffK ps colors cols bits false ps.length).getD n 0 = tiffAt ps [] colors cols bits false n := by
    have key : ∀ k n, n < k → (tiffK ps colors cols bits false k).getD n 0 = tiffAt ps [] colors cols bits false n := by
      intro k
      induction k with
      | zero => intro n hn; lia
      | succ k ih =>
        intro n hn
        have hk := tiffK_len (ps := ps) (colors := colors) (cols := cols) (bits := bits) (back := false) k
        rw [tiffK, List.getD_eq_getElem?_getD]
        by_cases e : n = k
        · subst e
          rw [List.getElem?_append_right (by lia), hk, Nat.sub_self]; rfl
        · rw [List.getElem?_append_left (by lia), ← List.getD_eq_getElem?_getD]; exact ih n (by lia)
    exact fun n => key _ n
  generalize tiffK ps colors cols bits false ps.length = ds at hlen hds
  have key : ∀ n, n ≤ ps.length → tiffK ds colors cols bits true n = ps.take n := by
    intro n
    induction n with
    | zero => intro _; rfl
    | succ n ih =>
      intro hn
      have hn' : n < ps.length := by lia
      have hp := h ps[n] (List.getElem_mem hn')
      have hg : ps.getD n 0 = ps[n] := by rw [List.getD_eq_getElem?_getD, List.getElem?_eq_getElem hn']; rfl
      rw [tiffK, ih (by lia), List.take_add_one, List.getElem?_eq_getElem hn', Option.toList_some, tiffAt, hds n hn', tiffAt]
      refine congrArg (fun z => ps.take n ++ [z]) ?_
      by_cases hc : (n : Int) < colors ∨ colors * cols ≤ (n : Int)
      · rw [if_pos hc, if_pos hc, hg]
      · rw [if_neg hc, if_neg hc, if_pos rfl, if_neg (by decide), hg]
        have e : (ps.take n).getD ((n : Int) - colors).toNat 0 = ps.getD ((n : Int) - colors).toNat 0 := by
          have := fun q => hc (.inl q)
          by_cases hz : colors = 0
          · subst hz
            exfalso
            exact hc (.inr (by rw [Int.zero_mul]; lia))
          · rw [List.getD_eq_getElem?_getD, List.getD_eq_getElem?_getD, List.getElem?_take, if_pos (by lia)]
        rw [e, Int.emod_add_emod, Int.sub_add_cancel, Int.emod_eq_of_lt hp.1 hp.2]
  rw [key _ (Nat.le_refl _), List.take_length]
theorem tiff_same {os : List Int} {colors cols bits : Int} (hb : bits ∈ [1, 2, 4, 8, 16]) (hw : Within 256 os) (hal : (colors * bits * cols) % 8 = 0) (hl : os.length ≤ rowSize colors bits cols) (h1 : 1 ≤ colors * bits * cols) :
    tiffL os colors cols bits false = ldiffs os colors bits := by
  obtain ⟨m, m8, S⟩ := split_of hb os.length
  rw [tiffL_dig hb S, ldiffs_dig hb S, lpartsL_dig hb S, ← partsL_dig hb S]
  have hm : (partsL os bits).length = m := by rw [partsL_dig hb S, dig_len]
  have hbr := bits_range hb
  have hc : (m : Int) ≤ colors * cols := by
    have h8 : (colors * bits * cols + 7).fdiv 8 = (colors * bits * cols + 7) / 8 := Int.fdiv_eq_ediv_of_nonneg _ (by decide)
    unfold rowSize at hl
    rw [h8] at hl
    have e : colors * bits * cols = bits * (colors * cols) := by rw [Int.mul_comm colors bits, Int.mul_assoc]
    rw [e] at hl hal h1
    generalize colors * cols = c at *
    have hs8 : (os.length : Int) * 8 ≤ bits * c := by lia
    have hsp := S.spare
    have hmb : (m : Int) * bits ≤ c * bits := by rw [Int.mul_comm c]; lia
    exact Int.le_of_mul_le_mul_right hmb (by lia)
  have := tiffK_diff (ps := partsL os bits) (colors := colors) (cols := cols) partsL_in (by rw [hm]; exact hc)
  rw [hm] at this
  rw [this]
theorem tiff_back {os : List Int} {colors cols bits : Int} (hb : bits ∈ [1, 2, 4, 8, 16]) (hw : Within 256 os) (h0 : 0 ≤ colors) : tiffL (tiffL os colors cols bits false) colors cols bits true = os := by
  obtain ⟨m, m8, S⟩ := split_of hb os.length
  have hp2 : (0 : Int) < 2 ^ bits.toNat := Int.pow_pos (by decide)
  have hlen : (tiffL os colors cols bits false).length = os.length := tiffL_len hb
  have hm : (partsL os bits).length = m := by rw [partsL_dig hb S, dig_len]
  have hE := tiffL_dig (os := os) (colors := colors) (cols := cols) (back := false) hb S
  have hpk := tiffK_in (colors := colors) (cols := cols) (back := false) (partsL_in (os := os) (bits := bits)) m
  have hkl := tiffK_len (ps := partsL os bits) (colors := colors) (cols := cols) (bits := bits) (back := false) m
  have hbk := tiffK_back (colors := colors) (cols := cols) (partsL_in (os := os) (bits := bits)) h0
  rw [hm] at hbk
  generalize tiffK (partsL os bits) colors cols bits false m = ds at hE hpk hkl hbk
  have hle := S.le
  have hsame : (2 : Int) ^ (bits.toNat * m) = 256 ^ m8 := by rw [S.same, pow256]
  have hds := num_in hp2 hpk
  rw [hkl, ← Int.pow_mul, hsame] at hds
  have hdl : (os.drop m8).length = os.length - m8 := List.length_drop
  have hdn := num_in (B := 256) (by decide) (ds := os.drop m8) fun d hd => hw d (List.mem_of_mem_drop hd)
  rw [hdl] at hdn
  have hpe : (0 : Int) < 256 ^ (os.length - m8) := Int.pow_pos (by decide)
  have hN : num 256 (tiffL os colors cols bits false) / 256 ^ (os.length - m8) = num (2 ^ bits.toNat) ds := by
    rw [hE, num_append, hdl, num_dig (by decide) _ _ hds.1 hds.2, Int.add_ediv_of_dvd_left (Int.dvd_mul_left _ _), Int.mul_ediv_cancel _ (Int.ne_of_gt hpe), Int.ediv_eq_zero_of_lt hdn.1 hdn.2, Int.add_zero]
  have S2 : Split bits (tiffL os colors cols bits false).length m m8 := hlen ▸ S
  have hP : partsL (tiffL os colors cols bits false) bits = ds := by
    rw [partsL_dig hb S2, hlen, hN, ← hkl]
    exact dig_num hp2 ds hpk
  rw [tiffL_dig hb S2, hP, hbk, partsL_dig hb S]
  have hsp : num 256 os / 256 ^ (os.length - m8) = num 256 (os.take m8) := by
    conv => lhs; rw [← List.take_append_drop m8 os, num_append]
    rw [List.take_append_drop, hdl, Int.add_ediv_of_dvd_left (Int.dvd_mul_left _ _), Int.mul_ediv_cancel _ (Int.ne_of_gt hpe), Int.ediv_eq_zero_of_lt hdn.1 hdn.2, Int.add_zero]
  have htn := num_in (B := 256) (by decide) (ds := os.take m8) fun d hd => hw d (List.mem_of_mem_take hd)
  have htl : (os.take m8).length = m8 := by rw [List.length_take]; lia
  rw [hsp, num_dig hp2 _ _ htn.1 (by rw [← Int.pow_mul, hsame, ← htl]; rw [htl] at htn ⊢; exact htn.2)]
  have := dig_num (B := 256) (by decide) (os.take m8) fun d hd => hw d (List.mem_of_mem_take hd)
  rw [htl] at this
  rw [this, hE, List.drop_append_of_le_length (by rw [dig_len]; exact Nat.le_refl _), List.drop_of_length_le (by rw [dig_len]; exact Nat.le_refl _), List.nil_append, List.take_append_drop]
theorem octAt_take {row : List Int} {n : Nat} {p : Int} (h : p < n) : octAt (row.take n) p = octAt row p := by
  unfold octAt
  rw [List.length_take]
  by_cases h0 : 0 ≤ p
  · by_cases h1 : p < (row.length : Int)
    · rw [if_pos ⟨h0, by lia⟩, if_pos ⟨h0, h1⟩, List.getD_eq_getElem?_getD, List.getD_eq_getElem?_getD, List.getElem?_take, if_pos (by lia)]
    · rw [if_neg (by lia), if_neg (by lia)]
  · rw [if_neg (by lia), if_neg (by lia)]
theorem back_told {k st : Int} {row as : List Int} (hw : Within 256 row) (hst : 1 ≤ st) : backTo k (toldL k row as st) as st (toldL k row as st).length = row := by
  have key : ∀ n, n ≤ row.length → backTo k (toldL k row as st) as st n = row.take n := by
    intro n
    induction n with
    | zero => intro _; rfl
    | succ n ih =>
      intro hn
      have hn' : n < row.length := by lia
      have hp := hw row[n] (List.getElem_mem hn')
      have hg : row.getD n 0 = row[n] := by rw [List.getD_eq_getElem?_getD, List.getElem?_eq_getElem hn']; rfl
      have ht : (toldL k row as st).getD n 0 = toldAt k row as st n := by rw [List.getD_eq_getElem?_getD]; simp [toldL, hn']
      rw [backTo, ih (by lia), List.take_add_one, List.getElem?_eq_getElem hn', Option.toList_some, ht, toldAt, octAt_take (by lia), hg, Int.emod_add_emod, Int.sub_add_cancel, Int.emod_eq_of_lt hp.1 hp.2]
  rw [toldL_len, key _ (Nat.le_refl _), List.take_length]
theorem tag_best {os as : List Int} {st : Int} : lawTag 15 os as st = bestTo os as st 4 := by
  rw [lawTag, if_pos rfl]
  have key : ∀ n, n ≤ 4 → ((argBest (fun i j => ltPair (((List.range 5).map fun k => (weight (toldL (k : Nat) os as st), (k : Int))).getD i (0, 0)) (((List.range 5).map fun k => (weight (toldL (k : Nat) os as st), (k : Int))).getD j (0, 0))) n : Nat) : Int) = bestTo os as st n := by
    have hat : ∀ i, i ≤ 4 → ((List.range 5).map fun k => (weight (toldL (k : Nat) os as st), (k : Int))).getD i (0, 0) = (weight (toldL (i : Nat) os as st), (i : Int)) := fun i hi => by
      rw [List.getD_eq_getElem?_getD, List.getElem?_map, List.getElem?_range (by lia)]; rfl
    generalize ((List.range 5).map fun k => (weight (toldL (k : Nat) os as st), (k : Int))) = qs at hat
    intro n
    induction n with
    | zero => intro _; rfl
    | succ n ih =>
      intro hn
      have hle := argBest_le (fun i j => ltPair (qs.getD i (0, 0)) (qs.getD j (0, 0))) n
      have ih' := ih (by lia)
      rw [argBest, bestTo]
      generalize hj : argBest (fun i j => ltPair (qs.getD i (0, 0)) (qs.getD j (0, 0))) n = j at hle ih'
      rw [hat (n + 1) hn, hat j (by lia), ← ih']
      have e : ltPair (weight (toldL ((n + 1 : Nat) : Int) os as st), ((n + 1 : Nat) : Int)) (weight (toldL (j : Nat) os as st), (j : Int)) = decide (weight (toldL ((n : Int) + 1) os as st) < weight (toldL (j : Nat) os as st)) := by
        unfold ltPair
        dsimp only
        have : decide (((n + 1 : Nat) : Int) < (j : Int)) = false := by simp; lia
        rw [this, Bool.and_false, Bool.or_false]; rfl
      rw [e]
      by_cases hc : weight (toldL ((n : Int) + 1) os as st) < weight (toldL (j : Nat) os as st)
      · rw [decide_eq_true hc, if_pos rfl, if_pos hc]; rfl
      · rw [decide_eq_false hc, if_neg Bool.false_ne_true, if_neg hc]
  have := key 4 (Nat.le_refl _)
  unfold leastAt
  rw [List.length_map, List.length_range]
  exact this
theorem run_same {f g : RowF} {n : Nat} (hn : 1 ≤ n) (R : List Int → List Int → Prop) (H : ∀ as bs row, R as bs → row ≠ [] → row.length ≤ n → Within 256 row → ∃ out as' bs', f as row = some (out, as') ∧ g bs row = some (out, bs') ∧ R as' bs') :
    ∀ (k : Nat) (os as bs : List Int), os.length = k → R as bs → Within 256 os → runA f n as os = runA g n bs os := by
  intro k
  induction k using Nat.strongRecOn with
  | ind k ih =>
    intro os as bs hk hR hw
    by_cases ho : os = []
    · subst ho; rfl
    · have hp : 0 < os.length := List.length_pos_iff.mpr ho
      obtain ⟨out, as', bs', e1, e2, hR'⟩ := H as bs (os.take n) hR (fun q => by have := congrArg List.length q; rw [List.length_take] at this; simp only [List.length_nil] at this; lia) (by rw [List.length_take]; lia) (fun x hx => hw x (List.mem_of_mem_take hx))
      rw [runA_rest hn ho e1, runA_rest hn ho e2, ih (os.drop n).length (by rw [List.length_drop]; lia) (os.drop n) as' bs' rfl hR' fun x hx => hw x (List.mem_of_mem_drop hx)]
theorem run_inv {f g : RowF} {n n' : Nat} (hn : 1 ≤ n) (hn' : 1 ≤ n') (H : ∀ as row, row ≠ [] → row.length ≤ n → Within 256 row → ∃ out as', f as row = some (out, as') ∧ g as out = some (row, as') ∧ (row.length = n → out.length = n') ∧ out.length ≤ n' ∧ out ≠ []) :
    ∀ (k : Nat) (os as : List Int), os.length = k → Within 256 os → ∃ told, runA f n as os = some told ∧ runA g n' as told = some os := by
  intro k
  induction k using Nat.strongRecOn with
  | ind k ih =>
    intro os as hk hw
    by_cases ho : os = []
    · subst ho; exact ⟨[], rfl, rfl⟩
    · have hp : 0 < os.length := List.length_pos_iff.mpr ho
      obtain ⟨out, as', e1, e2, h1, h2, h3⟩ := H as (os.take n) (fun q => by have := congrArg List.length q; rw [List.length_take] at this; simp only [List.length_nil] at this; lia) (by rw [List.length_take]; lia) (fun x hx => hw x (List.mem_of_mem_take hx))
      obtain ⟨told, r1, r2⟩ := ih (os.drop n).length (by rw [List.length_drop]; lia) (os.drop n) as' rfl fun x hx => hw x (List.mem_of_mem_drop hx)
      refine ⟨out ++ told, by rw [runA_rest hn ho e1, r1]; rfl, ?_⟩
      have hne : out ++ told ≠ [] := fun q => h3 (List.append_eq_nil_iff.mp q).1
      have split : (out ++ told).take n' = out ∧ (out ++ told).drop n' = told := by
        by_cases hc : n ≤ os.length
        · have hl := h1 (by rw [List.length_take]; lia)
          exact ⟨by rw [← hl, List.take_left'  rfl], by rw [← hl, List.drop_left' rfl]⟩
        · rw [List.drop_of_length_le (by lia), runA_nil] at r1
          have : told = [] := (Option.some.inj r1).symm
          subst this
          rw [List.append_nil]
          exact ⟨List.take_of_length_le h2, List.drop_of_length_le h2⟩
      rw [runA_rest hn' hne (split.1.symm ▸ e2), split.2, r2]
      exact congrArg some (List.take_append_drop n os)
theorem law_one {colors bits : Int} {n : Nat} (hn : 1 ≤ n) : ∀ (k : Nat) (os as : List Int), os.length = k → runA (lawF 1 colors bits) n as os = some os := by
  intro k
  induction k using Nat.strongRecOn with
  | ind k ih =>
    intro os as hk
    by_cases ho : os = []
    · subst ho; rfl
    · have hp : 0 < os.length := List.length_pos_iff.mpr ho
      have e : lawF 1 colors bits as (os.take n) = some (os.take n, os.take n) := by
        rw [lawF, lawRow, if_pos (by decide), if_neg (by decide)]
      rw [runA_rest hn ho e, ih (os.drop n).length (by rw [List.length_drop]; lia) (os.drop n) _ rfl]
      exact congrArg some (List.take_append_drop n os)
structure WayOk (way colors bits cols : Int) : Prop where
  shape : ShapeOk way colors bits cols
  ways : way = 1 ∨ way = 2 ∨ 10 ≤ way ∧ way ≤ 15
  whole : way = 2 → (colors * bits * cols) % 8 = 0
theorem step_in {way colors bits cols : Int} (S : ShapeOk way colors bits cols) : 1 ≤ (colors * bits + 7).fdiv 8 := by
  have := S.cb
  rw [Int.fdiv_eq_ediv_of_nonneg _ (by decide)]; lia
theorem tagged_law {way st : Int} {os as : List Int} : taggedL way os as st = lawTag way os as st :: toldL (lawTag way os as st) os as st := by
  unfold taggedL
  split
  · rename_i h; subst h; rw [tag_best]
  · rename_i h; rw [lawTag, if_neg h]
theorem tag_in {way st : Int} {os as : List Int} (h : 10 ≤ way ∧ way ≤ 15) : 0 ≤ lawTag way os as st ∧ lawTag way os as st ≤ 4 := by
  by_cases h15 : way = 15
  · subst h15
    rw [tag_best]; exact bestTo_in 4
  · rw [lawTag, if_neg h15]; lia
theorem enc_law {way colors bits cols : Int} (W : WayOk way colors bits cols) {os : List Int} (hw : Within 256 os) :
    toolRun (encF way colors bits cols) (rowSize colors bits cols) way os = runA (lawF way colors bits) (rowSize colors bits cols) [] os := by
  have hs := rowSize_in W.shape
  unfold toolRun
  split
  · rename_i h1; subst h1; exact (law_one hs.2.1 _ _ _ rfl).symm
  · rename_i h1
    by_cases h2 : way = 2
    · refine run_same hs.2.1 (fun _ _ => True) (fun as bs row _ _ hl hr => ⟨ldiffs row colors bits, as, row, ?_, ?_, trivial⟩) _ _ _ _ rfl trivial hw
      · rw [encF, encRow, if_pos h2, if_pos h2, tiff_same W.shape.bit hr (W.whole h2) hl W.shape.cbc.1]
      · rw [lawF, lawRow, if_pos (by lia), if_pos h2]
    · have h10 : 10 ≤ way := by have := W.ways; lia
      refine run_same hs.2.1 (fun a b => a = b) (fun as bs row e _ hl hr => ⟨taggedL way row as ((colors * bits + 7).fdiv 8), row, row, ?_, ?_, rfl⟩) _ _ _ _ rfl rfl hw
      · rw [encF, encRow, if_neg h2, if_neg h2]
      · subst e
        rw [lawF, lawRow, if_neg (by lia), tagged_law]
theorem dec_law {way colors bits cols : Int} (W : WayOk way colors bits cols) {os : List Int} (hw : Within 256 os) :
    ∃ told, runA (lawF way colors bits) (rowSize colors bits cols) [] os = some told ∧ toolRun (decF way colors bits cols) (toldSize way colors bits cols) way told = some os := by
  have hs := rowSize_in W.shape
  rw [← enc_law W hw]
  unfold toolRun
  split
  · exact ⟨os, rfl, rfl⟩
  · rename_i h1
    unfold toldSize
    refine run_inv hs.2.1 (by lia) (fun as row h0 hl hr => ?_) _ _ _ rfl hw
    by_cases h2 : way = 2
    · refine ⟨tiffL row colors cols bits false, as, by rw [encF, encRow, if_pos h2, if_pos h2], by rw [decF, if_pos h2, tiff_back W.shape.bit hr (by have := W.shape.col; lia)], ?_⟩
      rw [if_neg (by lia), tiffL_len W.shape.bit]
      exact ⟨fun q => q, hl, fun q => h0 (List.length_eq_zero_iff.mp (by rw [← tiffL_len (colors := colors) (cols := cols) (back := false) W.shape.bit, q]; rfl))⟩
    · have h10 : 10 ≤ way ∧ way ≤ 15 := by have := W.ways; lia
      have ht := tag_in (os := row) (as := as) (st := (colors * bits + 7).fdiv 8) h10
      refine ⟨taggedL way row as ((colors * bits + 7).fdiv 8), row, by rw [encF, encRow, if_neg h2, if_neg h2], ?_, ?_⟩
      · rw [tagged_law, decF, if_neg h2]
        simp only [List.getD_cons_zero, List.drop_succ_cons, List.drop_zero]
        rw [if_neg (by lia), back_told hr (step_in W.shape)]
      · rw [tagged_law, if_pos h10.1, List.length_cons, toldL_len]
        exact ⟨fun q => by lia, by lia, List.cons_ne_nil _ _⟩
theorem read_law {way colors bits cols : Int} (h : 10 ≤ way) (os : List Int) :
    toolRun (decF way colors bits cols) (toldSize way colors bits cols) way os = runA (readF colors bits) (rowSize colors bits cols + 1) [] os := by
  have e : decF way colors bits cols = readF colors bits := by
    funext as os
    rw [decF, if_neg (by lia), readF]
  rw [toolRun, if_neg (by lia), toldSize, if_pos h, e]
theorem run_told {f : RowF} {n : Nat} (hn : 1 ≤ n) (H : ∀ as row out as', row ≠ [] → Within 256 row → f as row = some (out, as') → out.length ≤ 2 * row.length ∧ Within 256 out) :
    ∀ (k : Nat) (os as told : List Int), os.length = k → Within 256 os → runA f n as os = some told → told.length ≤ 2 * os.length ∧ Within 256 told := by
  intro k
  induction k using Nat.strongRecOn with
  | ind k ih =>
    intro os as told hk hw hr
    by_cases ho : os = []
    · subst ho
      have : told = [] := (Option.some.inj hr).symm
      subst this; exact ⟨Nat.le_refl _, fun x hx => nomatch hx⟩
    · have hp : 0 < os.length := List.length_pos_iff.mpr ho
      have ht : (os.take n).length + (os.drop n).length = os.length := by rw [← List.length_append, List.take_append_drop]
      rw [runA_cons hn ho] at hr
      cases hf : f as (os.take n) with
      | none => rw [hf] at hr; cases hr
      | some p =>
        obtain ⟨out, as'⟩ := p
        rw [hf] at hr
        dsimp only at hr
        obtain ⟨h1, h2⟩ := H as (os.take n) out as' (fun q => by have := congrArg List.length q; rw [List.length_take] at this; simp only [List.length_nil] at this; lia) (fun x hx => hw x (List.mem_of_mem_take hx)) hf
        cases hq : runA f n as' (os.drop n) with
        | none => rw [hq] at hr; cases hr
        | some t2 =>
          rw [hq] at hr
          have hr' : out ++ t2 = told := Option.some.inj hr
          subst hr'
          obtain ⟨h3, h4⟩ := ih (os.drop n).length (by rw [List.length_drop]; lia) (os.drop n) as' t2 rfl (fun x hx => hw x (List.mem_of_mem_drop hx)) hq
          refine ⟨by rw [List.length_append]; lia, fun x hx => ?_⟩
          rcases List.mem_append.mp hx with hx | hx
          · exact h2 x hx
          · exact h4 x hx
theorem law_told {way colors bits cols : Int} (W : WayOk way colors bits cols) {os told : List Int} (hw : Within 256 os) (hr : runA (lawF way colors bits) (rowSize colors bits cols) [] os = some told) : told.length ≤ 2 * os.length ∧ Within 256 told := by
  have hs := rowSize_in W.shape
  refine run_told hs.2.1 (fun as row out as' h0 hrw hf => ?_) _ _ _ _ rfl hw hr
  have hp : 0 < row.length := List.length_pos_iff.mpr h0
  have e : lawRow way colors bits as row ((colors * bits + 7).fdiv 8) = out := congrArg Prod.fst (Option.some.inj hf)
  subst e
  unfold lawRow
  split
  · split
    · refine ⟨by rw [ldiffs_len W.shape.bit]; lia, fun x hx => ?_⟩
      obtain ⟨m, m8, S⟩ := split_of W.shape.bit row.length
      rw [ldiffs_dig W.shape.bit S] at hx
      rcases List.mem_append.mp hx with hx | hx
      · exact dig_in (by decide) x hx
      · exact hrw x (List.mem_of_mem_drop hx)
    · exact ⟨by lia, hrw⟩
  · have h10 : 10 ≤ way ∧ way ≤ 15 := by have := W.ways; lia
    have ht := tag_in (os := row) (as := as) (st := (colors * bits + 7).fdiv 8) h10
    refine ⟨by rw [List.length_cons, toldL_len]; lia, fun x hx => ?_⟩
    rcases List.mem_cons.mp hx with rfl | hx
    · lia
    · exact Within.told x hx
theorem law_all {way colors bits cols : Int} (W : WayOk way colors bits cols) {os told : List Int} (hw : Within 256 os) (hr : runA (lawF way colors bits) (rowSize colors bits cols) [] os = some told) :
    toolRun (encF way colors bits cols) (rowSize colors bits cols) way os = some told ∧ toolRun (decF way colors bits cols) (toldSize way colors bits cols) way told = some os ∧ told.length ≤ 2 * os.length ∧ Within 256 told := by
  obtain ⟨t, h1, h2⟩ := dec_law W hw
  rw [hr] at h1
  obtain rfl := Option.some.inj h1
  exact ⟨(enc_law W hw).trans hr, h2, law_told W hw hr⟩
end
section
set_option maxHeartbeats 8000000
section
open LCg LCp
variable {prog : Program} {w : World} {A : Around} {E : Value → Shared → Prop} {s : Shared} {h₀ : Heap} {L : Addr} {m : Str → Option Value} {env : Env}
end
section
open LCg LCp
namespace H_block_E
abbrev hkD : Type := (((((Program × World) × (Around × (Value → Shared → Prop))) × ((Heap × Addr) × ((Str → Option Value) × Env))) × (((Expr × Expr) × (Str × Str)) × ((Pos × Pos) × (Pos × Nat)))) × ((((Scope × (List (Str × Addr))) × (Pos × Shared)) × ((Addr × Addr) × (Addr × Nat))) × ((((Nat → Array Value → Prop) × (Nat → Heap → Prop)) × ((Nat → Addr → Heap → Prop) × (List (Addr × Obj)))) × ((Obj × (List Int)) × ((Value → Addr → Result → Shared → Prop) × (Nat → Int → Int))))))
def hkP (prog : Program) (w : World) (A : Around) (E : Value → Shared → Prop) (h₀ : Heap) (L : Addr) (m : Str → Option Value) (env : Env) (elt : Expr) (iter : Expr) (xk : Str) (xc : Str) (pk : Pos) (pc : Pos) (tp : Pos) (x1 : Nat) (scope : Scope) (cl : List (Str × Addr)) (pos : Pos) (s₂ : Shared) (I : Addr) (J : Addr) (l : Addr) (n : Nat) (Pt : Nat → Array Value → Prop) (St : Nat → Heap → Prop) (Mid : Nat → Addr → Heap → Prop) (news : List (Addr × Obj)) (ol : Obj) (ks : List Int) (RR : Value → Addr → Result → Shared → Prop) (g : Nat → Int → Int) : Prop := ∀ (W : WalksT prog w A I [I, J, l] [I, J] n Pt St Mid) (hPt : ∀ i vals, Pt i vals → ∃ t k u, ks[i]? = some k ∧ vals = #[.int (i : Nat) t, .int k u]) (hks : ks.length = n) (hsz : n ≤ sizeLine) (hlive : ∀ i h, St i h → (∃ o, h.get? I = some o) ∧ ∃ o, h.get? J = some o) (hcell : ∀ y ∈ scope.names, y.2 ≠ .cell) (hkind : scope.kind = .function) (hxk : scope.names.lookup xk = some .local) (hxc : scope.names.lookup xc = some .local) (hne : xk ≠ xc) (hh : A.handled = none) (hst : St 0 s₂.heap) (hI : I < s₂.heap.objs.size) (hJ : J < s₂.heap.objs.size) (hl : (l, ol) ∈ news) (F : Fr h₀ L s₂.heap m) (N : News h₀ L s₂.heap news) (hLI : L ≠ I) (hLJ : L ≠ J) (hI₀ : h₀.get? I = none) (hJ₀ : h₀.get? J = none) (off : ∀ p ∈ news, p.1 ≠ I ∧ p.1 ≠ J) (turn : ∀ i k t u oI oJ C oC D m₂ ys h tk (E' : Value → Shared → Prop), i < n → ks[i]? = some k → NsObj oC m₂ → m₂ xk = some (.int (i : Nat) t) → m₂ xc = some (.int k u) → Fr h₀ L h m → News h₀ L h ((I, oI) :: (J, oJ) :: (C, oC) :: (D, lst ys) :: news) →
      wpAny (model prog w) A (eval elt (compEnvC scope cl C env)) (CompEl h₀ L m { s₂ with heap := h, toks := tk } ((I, oI) :: (J, oJ) :: (C, oC) :: (D, lst ys) :: news) (g i k)) E' { s₂ with heap := h, toks := tk }) (hRR : ∀ D C h tk m' ys, Fr h₀ L h m → News h₀ L h ((D, lst ys) :: news) → (∀ p ∈ news, p.1 ≠ D) → h.Ns C m' → h₀.get? C = none → C ≠ L → C ≠ D → (∀ p ∈ news, p.1 ≠ C) → IntsAre ys ((List.range n).map fun i => g i (ks.getD i 0)) → RR (.ref D) C (.ok .next) { s₂ with heap := h, toks := tk }), wpAny (model prog w) A (newList []) (fun acc s₃ => wpAny (model prog w) A (newFunctionEnv scope env.globals cl [] env.qual none .none (some env)) (fun cenv s₄ =>
      codeAny (model prog w) A (.compStart (.ListComp elt [⟨.Tuple [.Name xk pk, .Name xc pc] x1 tp, iter, [], 0⟩] scope pos) 0 (.ref I) acc { cenv with scope := relabel scope env }) (RR acc cenv.locals) s₄) E s₃) E s₂
def hkU (d : hkD) : Prop := hkP d.1.1.1.1.1 d.1.1.1.1.2 d.1.1.1.2.1 d.1.1.1.2.2 d.1.1.2.1.1 d.1.1.2.1.2 d.1.1.2.2.1 d.1.1.2.2.2 d.1.2.1.1.1 d.1.2.1.1.2 d.1.2.1.2.1 d.1.2.1.2.2 d.1.2.2.1.1 d.1.2.2.1.2 d.1.2.2.2.1 d.1.2.2.2.2 d.2.1.1.1.1 d.2.1.1.1.2 d.2.1.1.2.1 d.2.1.1.2.2 d.2.1.2.1.1 d.2.1.2.1.2 d.2.1.2.2.1 d.2.1.2.2.2 d.2.2.1.1.1 d.2.2.1.1.2 d.2.2.1.2.1 d.2.2.1.2.2 d.2.2.2.1.1 d.2.2.2.1.2 d.2.2.2.2.1 d.2.2.2.2.2
theorem hkN : Nonempty hkD := (ne2 (ne2 (ne2 (ne2 (ne2 neProg neWorld) (ne2 neAround ⟨default⟩)) (ne2 (ne2 ⟨default⟩ ⟨default⟩) (ne2 ⟨default⟩ ⟨default⟩))) (ne2 (ne2 (ne2 ⟨default⟩ ⟨default⟩) (ne2 ⟨default⟩ ⟨default⟩)) (ne2 (ne2 ⟨default⟩ ⟨default⟩) (ne2 ⟨default⟩ ⟨default⟩)))) (ne2 (ne2 (ne2 (ne2 ⟨default⟩ ⟨default⟩) (ne2 ⟨default⟩ neShared)) (ne2 (ne2 ⟨default⟩ ⟨default⟩) (ne2 ⟨default⟩ ⟨default⟩))) (ne2 (ne2 (ne2 ⟨default⟩ ⟨default⟩) (ne2 ⟨default⟩ ⟨default⟩)) (ne2 (ne2 ⟨default⟩ ⟨default⟩) (ne2 ⟨default⟩ ⟨default⟩)))))
@[irreducible] def hkV : hkD := hk_c hkN hkU
@[irreducible] def prog : Program := hkV.1.1.1.1.1
@[irreducible] def w : World := hkV.1.1.1.1.2
@[irreducible] def A : Around := hkV.1.1.1.2.1
@[irreducible] def E : Value → Shared → Prop := hkV.1.1.1.2.2
@[irreducible] def h₀ : Heap := hkV.1.1.2.1.1
@[irreducible] def L : Addr := hkV.1.1.2.1.2
@[irreducible] def m : Str → Option Value := hkV.1.1.2.2.1
@[irreducible] def env : Env := hkV.1.1.2.2.2
@[irreducible] def elt : Expr := hkV.1.2.1.1.1
@[irreducible] def iter : Expr := hkV.1.2.1.1.2
@[irreducible] def xk : Str := hkV.1.2.1.2.1
@[irreducible] def xc : Str := hkV.1.2.1.2.2
@[irreducible] def pk : Pos := hkV.1.2.2.1.1
@[irreducible] def pc : Pos := hkV.1.2.2.1.2
@[irreducible] def tp : Pos := hkV.1.2.2.2.1
@[irreducible] def x1 : Nat := hkV.1.2.2.2.2
@[irreducible] def scope : Scope := hkV.2.1.1.1.1
@[irreducible] def cl : List (Str × Addr) := hkV.2.1.1.1.2
@[irreducible] def pos : Pos := hkV.2.1.1.2.1
@[irreducible] def s₂ : Shared := hkV.2.1.1.2.2
@[irreducible] def I : Addr := hkV.2.1.2.1.1
@[irreducible] def J : Addr := hkV.2.1.2.1.2
@[irreducible] def l : Addr := hkV.2.1.2.2.1
@[irreducible] def n : Nat := hkV.2.1.2.2.2
@[irreducible] def Pt : Nat → Array Value → Prop := hkV.2.2.1.1.1
@[irreducible] def St : Nat → Heap → Prop := hkV.2.2.1.1.2
@[irreducible] def Mid : Nat → Addr → Heap → Prop := hkV.2.2.1.2.1
@[irreducible] def news : List (Addr × Obj) := hkV.2.2.1.2.2
@[irreducible] def ol : Obj := hkV.2.2.2.1.1
@[irreducible] def ks : List Int := hkV.2.2.2.1.2
@[irreducible] def RR : Value → Addr → Result → Shared → Prop := hkV.2.2.2.2.1
@[irreducible] def g : Nat → Int → Int := hkV.2.2.2.2.2
theorem core : hkP prog w A E h₀ L m env elt iter xk xc pk pc tp x1 scope cl pos s₂ I J l n Pt St Mid news ol ks RR g := by
  unfold hkP
  intro W hPt hks hsz hlive hcell hkind hxk hxc hne hh hst hI hJ hl F N hLI hLJ hI₀ hJ₀ off turn hRR
  refine wpAny_newObj_type (wpAny_newFunctionEnv hcell (by intro y hy; simp at hy) (fun h₁ hns₁ hsb₁ => ?_) hkind)
  dsimp only at hns₁ hsb₁ ⊢
  generalize hH2 : s₂.heap.push { cls := .type "list", dict := none, data := .seq ([] : List Value).toArray } = H2 at hns₁ hsb₁ ⊢
  have hC : H2.objs.size = s₂.heap.objs.size + 1 := by rw [← hH2, Heap.size_push]
  have hDC : s₂.heap.objs.size ≠ H2.objs.size := by rw [hC]; exact Nat.ne_of_lt (Nat.lt_succ_self _)
  have below : ∀ b, b < s₂.heap.objs.size → b ≠ H2.objs.size ∧ b ≠ s₂.heap.objs.size := fun b hb => ⟨by rw [hC]; exact Nat.ne_of_lt (Nat.lt_succ_of_lt hb), Nat.ne_of_lt hb⟩
  have old : ∀ b o, s₂.heap.get? b = some o → h₁.get? b = some o := fun b o e => hsb₁.extBut b o (below b (Heap.lt_size e)).1 (Heap.get?_push_of_some _ (hH2 ▸ Heap.get?_push_of_some _ e))
  have hacc : h₁.get? s₂.heap.objs.size = some (lst []) := hsb₁.extBut _ _ hDC (Heap.get?_push_of_some _ (hH2 ▸ Heap.get?_push_size _ rfl))
  have hst₁ : St 0 h₁ := W.frame _ _ _ hst fun b _ o e => old b o e
  have fresh : ∀ a, s₂.heap.objs.size ≤ a → s₂.heap.get? a = none := fun a ha => by
    cases e : s₂.heap.get? a with
    | none => rfl
    | some o' => exact absurd (Heap.lt_size e) (Nat.not_lt.mpr ha)
  have fresh₀ : ∀ a, s₂.heap.objs.size ≤ a → h₀.get? a = none := fun a ha => by
    cases e : h₀.get? a with
    | none => rfl
    | some o' => have := F.keep a o' e; rw [fresh a ha] at this; cases this
  have hD₀ : h₀.get? s₂.heap.objs.size = none := fresh₀ _ (Nat.le_refl _)
  have hC₀ : h₀.get? H2.objs.size = none := fresh₀ _ (by rw [hC]; exact Nat.le_succ _)
  have hLlt : L < s₂.heap.objs.size := F.ns.lt
  have hDL : s₂.heap.objs.size ≠ L := Ne.symm (below L hLlt).2
  have hCL : H2.objs.size ≠ L := Ne.symm (below L hLlt).1
  have nC : ∀ p ∈ news, p.1 ≠ H2.objs.size ∧ p.1 ≠ s₂.heap.objs.size := fun p hp => below _ (Heap.lt_size (N p hp).1)
  have inwr : ∀ b, b ∈ [I, J] → b = I ∨ b = J := fun b hb => by
    rcases List.mem_cons.mp hb with rfl | hb
    · exact .inl rfl
    · exact .inr (List.mem_singleton.mp hb)
  have lnew := fun p hp => (nC p hp)
  have frameAt : ∀ i h h', St i h → h.get? I = h'.get? I → h.get? J = h'.get? J → h.get? l = h'.get? l → St i h' := fun i h h' hs a b c => W.frame i h h' hs fun b' hb' o e => by
    rcases List.mem_cons.mp hb' with rfl | hb'
    · rw [← a]; exact e
    · rcases List.mem_cons.mp hb' with rfl | hb'
      · rw [← b]; exact e
      · rw [List.mem_singleton.mp hb'] at e ⊢
        rw [← c]; exact e
  have keepWr : ∀ (h h' : Heap), (∀ b o, b ∉ [I, J] → h.get? b = some o → h'.get? b = some o) → ∀ m', Fr h₀ L h m' → Fr h₀ L h' m' := fun h h' hk m' F' =>
    ⟨F'.ns.at' fun o e => hk _ o (fun q => (inwr _ q).elim hLI hLJ) e, fun b o e => hk b o (fun q => by rcases inwr _ q with rfl | rfl; rw [hI₀] at e; cases e; rw [hJ₀] at e; cases e) (F'.keep b o e), F'.above⟩
  have loop : ∀ s₃ : Shared, s₃ = { s₂ with heap := h₁, toks := s₂.toks + ([] : List (Str × Value)).length } →
      codeAny (model prog w) A (.compLoop (.ListComp elt [⟨.Tuple [.Name xk pk, .Name xc pc] x1 tp, iter, [], 0⟩] scope pos) 0 (.ref I) (.ref s₂.heap.objs.size) (compEnvC scope cl H2.objs.size env))
        (RR (.ref s₂.heap.objs.size) H2.objs.size) s₃ := by
    rintro s₃ rfl
    refine codeAny_compLoop_pair
      (fun k s' => ∃ h' tk i ys m', s' = { s₂ with heap := h', toks := tk } ∧ i ≤ n ∧ k = n + 1 - i ∧ IntsAre ys ((List.range i).map fun j => g j (ks.getD j 0)) ∧ St i h' ∧ Fr h₀ L h' m ∧ h'.Ns H2.objs.size m' ∧ News h₀ L h' ((s₂.heap.objs.size, lst ys) :: news)) ?_ (n + 1)
      ⟨h₁, _, 0, [], _, rfl, Nat.zero_le _, rfl, .nil, hst₁, F.keeps old, hns₁, fun p hp => ?_⟩
    · rintro k s' ⟨h', tk, i, ys, m', rfl, hi, rfl, hys, hst', F', hn', N'⟩
      have hyl : ys.length = i := by have := hys.length; rw [List.length_map, List.length_range] at this; exact this
      by_cases hlt : i < n
      · refine W.item i _ _ _ hlt hst' fun T vals h₂ tk₂ hPv hTs hT hMid hk₂ => ?_
        obtain ⟨t, kk, u, hkk, rfl⟩ := hPt i vals hPv
        refine W.go _ x1 tp i T _ _ _ hMid fun h₃ hst₃ hk₃ => ?_
        have ht₃ : h₃.IsTuple T #[.int (i : Nat) t, .int kk u] := hT.at fun o e => hk₃ T o (W.apart i T h₂ hMid) e
        refine wpAny_assign_Tuple hh ht₃ rfl rfl fun h₄ hx₄ => ?_
        replace hx₄ : Heap.ExtBut h₃.objs.size h₃ h₄ := hx₄
        have up₄ : ∀ b o, h₃.get? b = some o → h₄.get? b = some o := fun b o x => hx₄ b o (Nat.ne_of_lt (Heap.lt_size x)) x
        have up : ∀ b o, b ∉ [I, J] → h'.get? b = some o → h₄.get? b = some o := fun b o hb x => up₄ b o (hk₃ b o hb (hk₂ b o hb x))
        have F₄ : Fr h₀ L h₄ m := keepWr _ _ up _ F'
        have hCw : H2.objs.size ∉ [I, J] := fun q => by
          rcases inwr _ q with e | e
          · exact (below I hI).1 e.symm
          · exact (below J hJ).1 e.symm
        have hDw : s₂.heap.objs.size ∉ [I, J] := fun q => by
          rcases inwr _ q with e | e
          · exact (below I hI).2 e.symm
          · exact (below J hJ).2 e.symm
        have N₄ : News h₀ L h₄ ((s₂.heap.objs.size, lst ys) :: news) := fun p hp => by
          refine ⟨up _ _ (fun q => ?_) (N' p hp).1, (N' p hp).2⟩
          rcases List.mem_cons.mp hp with rfl | hp
          · exact hDw q
          · rcases inwr _ q with e | e
            · exact (off p hp).1 e
            · exact (off p hp).2 e
        have hn₄ : h₄.Ns H2.objs.size m' := hn'.at' fun o e => up _ o hCw e
        show wpAny _ A (do holding [Value.int kk u] (assign (.Name xk pk) (compEnvC scope cl H2.objs.size env) (Value.int (i : Nat) t)); do holding [] (assign (.Name xc pc) (compEnvC scope cl H2.objs.size env) (Value.int kk u)); pure ()) _ _ _
        refine wpAny_bind (wpAny_holding (wpAny_assign_Name (wpAny_storeName_local (lookup_relabel_local hxk) hn₄ (fun h₅ hn₅ hs₅ => ?_) (by simp [compEnvC, relabel, hkind]))))
        refine wpAny_bind (wpAny_holding (wpAny_assign_Name (wpAny_storeName_local (lookup_relabel_local hxc) hn₅ (fun h₆ hn₆ hs₆ => wpAny_pure ?_) (by simp [compEnvC, relabel, hkind]))))
        have up₆ : ∀ b o, b ≠ H2.objs.size → h₄.get? b = some o → h₆.get? b = some o := fun b o hb e => hs₆.extBut b o hb (hs₅.extBut b o hb e)
        have F₆ : Fr h₀ L h₆ m := (F₄.change hs₅ hCL hC₀).change hs₆ hCL hC₀
        have hst₆ : St (i + 1) h₆ := W.frame _ _ _ hst₃ fun b hb o e => up₆ b o (fun q => by
          rcases List.mem_cons.mp hb with rfl | hb
          · exact (below _ hI).1 q
          · rcases List.mem_cons.mp hb with rfl | hb
            · exact (below _ hJ).1 q
            · rw [List.mem_singleton.mp hb] at q; exact (nC _ hl).1 q) (up₄ b o e)
        obtain ⟨⟨oI, heI⟩, oJ, heJ⟩ := hlive _ _ hst₆
        obtain ⟨oC, heC, hoC⟩ := ns_obj hn₆
        have N₆ : News h₀ L h₆ ((I, oI) :: (J, oJ) :: (H2.objs.size, oC) :: (s₂.heap.objs.size, lst ys) :: news) := fun p hp => by
          rcases List.mem_cons.mp hp with rfl | hp
          · exact ⟨heI, Ne.symm hLI, hI₀⟩
          · rcases List.mem_cons.mp hp with rfl | hp
            · exact ⟨heJ, Ne.symm hLJ, hJ₀⟩
            · rcases List.mem_cons.mp hp with rfl | hp
              · exact ⟨heC, hCL, hC₀⟩
              · refine ⟨up₆ _ _ ?_ (N₄ p hp).1, (N₄ p hp).2⟩
                rcases List.mem_cons.mp hp with rfl | hp
                · exact hDC
                · exact (nC p hp).1
        refine wpAny_mono (turn i kk t u oI oJ H2.objs.size oC s₂.heap.objs.size _ ys h₆ _ _ hlt hkk hoC (by simp [hne]) (by simp) F₆ N₆) (fun y s₄ h₄ => ?_) fun _ _ e => e
        obtain ⟨ty, h₇, tk₇, rfl, rfl, F₇, N₇⟩ := h₄
        have zI := (N₇ (I, oI) (.head _)).1
        have zJ := (N₇ (J, oJ) (.tail _ (.head _))).1
        have zC := (N₇ (H2.objs.size, oC) (.tail _ (.tail _ (.head _)))).1
        have zD := (N₇ (s₂.heap.objs.size, lst ys) (.tail _ (.tail _ (.tail _ (.head _))))).1
        have N₇' : News h₀ L h₇ news := fun p hp => N₇ p (.tail _ (.tail _ (.tail _ (.tail _ hp))))
        have hst₇ : St (i + 1) h₇ := frameAt _ _ _ hst₆ (heI.trans zI.symm) (heJ.trans zJ.symm) (((N₆ (l, ol) (.tail _ (.tail _ (.tail _ (.tail _ hl))))).1).trans (N₇' _ hl).1.symm)
        refine append_at (hsz := by show ys.toArray.size ≤ sizeLine; rw [List.size_toArray, hyl]; exact Nat.le_trans hi hsz) zD fun h₈ hs₈ hD₈ => ?_
        refine ⟨n + 1 - (i + 1), by lia, h₈, tk₇, i + 1, ys ++ [.int (g i kk) ty], _, rfl, hlt, rfl, ?_, W.frame _ _ _ hst₇ fun b hb o e => hs₈.extBut b o (fun q => ?_) e, F₇.change hs₈ hDL hD₀, (hoC.ns zC).sameBut hs₈ (Ne.symm hDC), fun p hp => ?_⟩
        · rw [List.range_succ, List.map_append, List.map_singleton]
          refine hys.append ?_
          have : ks.getD i 0 = kk := by rw [List.getD_eq_getElem?_getD, hkk]; rfl
          rw [this]
          exact .cons _ ty .nil
        · rcases List.mem_cons.mp hb with rfl | hb
          · exact (below _ hI).2 q
          · rcases List.mem_cons.mp hb with rfl | hb
            · exact (below _ hJ).2 q
            · rw [List.mem_singleton.mp hb] at q; exact (nC _ hl).2 q
        · rcases List.mem_cons.mp hp with rfl | hp
          · exact ⟨hD₈.trans (congrArg some (lst_snoc ys _)), hDL, hD₀⟩
          · exact ⟨hs₈.extBut _ _ (nC p hp).2 (N₇' p hp).1, (N₇' p hp).2⟩
      · obtain rfl : i = n := Nat.le_antisymm hi (Nat.not_lt.mp hlt)
        refine W.done _ _ _ hst' fun h₂ tk₂ hk₂ => ?_
        have hCw : H2.objs.size ∉ [I, J] := fun q => by
          rcases inwr _ q with e | e
          · exact (below I hI).1 e.symm
          · exact (below J hJ).1 e.symm
        have hDw : s₂.heap.objs.size ∉ [I, J] := fun q => by
          rcases inwr _ q with e | e
          · exact (below I hI).2 e.symm
          · exact (below J hJ).2 e.symm
        refine hRR _ _ h₂ tk₂ _ ys (keepWr _ _ hk₂ _ F') (fun p hp => ⟨hk₂ _ _ (fun q => ?_) (N' p hp).1, (N' p hp).2⟩) (fun p hp => (nC p hp).2) (hn'.at' fun o e => hk₂ _ o hCw e) hC₀ hCL (Ne.symm hDC) (fun p hp => (nC p hp).1) hys
        rcases List.mem_cons.mp hp with rfl | hp
        · exact hDw q
        · rcases inwr _ q with e | e
          · exact (off p hp).1 e
          · exact (off p hp).2 e
    · rcases List.mem_cons.mp hp with rfl | hp
      · exact ⟨hacc, hDL, hD₀⟩
      · exact ⟨old _ _ (N p hp).1, (N p hp).2⟩
  exact codeAny_compStart_list (loop _ rfl) (W.self 0 _ _ _ hst₁ (loop _ rfl))
end H_block_E
end
section
open LCg LCp
variable {prog : Program} {w : World} {A : Around} {E : Value → Shared → Prop} {s : Shared} {h₀ : Heap} {L : Addr} {m : Str → Option Value} {env : Env}
theorem block_E {elt iter : Expr} {xk xc : Str} {pk pc tp : Pos} {x1 : Nat} {scope : Scope} {cl : List (Str × Addr)} {pos : Pos} {s₂ : Shared} {I J l : Addr} {n : Nat} {Pt : Nat → Array Value → Prop} {St : Nat → Heap → Prop} {Mid : Nat → Addr → Heap → Prop} {news : List (Addr × Obj)} {ol : Obj} {ks : List Int}
    {RR : Value → Addr → Result → Shared → Prop} (g : Nat → Int → Int)
    (W : WalksT prog w A I [I, J, l] [I, J] n Pt St Mid) (hPt : ∀ i vals, Pt i vals → ∃ t k u, ks[i]? = some k ∧ vals = #[.int (i : Nat) t, .int k u]) (hks : ks.length = n) (hsz : n ≤ sizeLine) (hlive : ∀ i h, St i h → (∃ o, h.get? I = some o) ∧ ∃ o, h.get? J = some o)
    (hcell : ∀ y ∈ scope.names, y.2 ≠ .cell) (hkind : scope.kind = .function) (hxk : scope.names.lookup xk = some .local) (hxc : scope.names.lookup xc = some .local) (hne : xk ≠ xc) (hh : A.handled = none) (hst : St 0 s₂.heap) (hI : I < s₂.heap.objs.size) (hJ : J < s₂.heap.objs.size) (hl : (l, ol) ∈ news)
    (F : Fr h₀ L s₂.heap m) (N : News h₀ L s₂.heap news) (hLI : L ≠ I) (hLJ : L ≠ J) (hI₀ : h₀.get? I = none) (hJ₀ : h₀.get? J = none) (off : ∀ p ∈ news, p.1 ≠ I ∧ p.1 ≠ J)
    (turn : ∀ i k t u oI oJ C oC D m₂ ys h tk (E' : Value → Shared → Prop), i < n → ks[i]? = some k → NsObj oC m₂ → m₂ xk = some (.int (i : Nat) t) → m₂ xc = some (.int k u) → Fr h₀ L h m → News h₀ L h ((I, oI) :: (J, oJ) :: (C, oC) :: (D, lst ys) :: news) →
      wpAny (model prog w) A (eval elt (compEnvC scope cl C env)) (CompEl h₀ L m { s₂ with heap := h, toks := tk } ((I, oI) :: (J, oJ) :: (C, oC) :: (D, lst ys) :: news) (g i k)) E' { s₂ with heap := h, toks := tk })
    (hRR : ∀ D C h tk m' ys, Fr h₀ L h m → News h₀ L h ((D, lst ys) :: news) → (∀ p ∈ news, p.1 ≠ D) → h.Ns C m' → h₀.get? C = none → C ≠ L → C ≠ D → (∀ p ∈ news, p.1 ≠ C) → IntsAre ys ((List.range n).map fun i => g i (ks.getD i 0)) → RR (.ref D) C (.ok .next) { s₂ with heap := h, toks := tk }) :
    wpAny (model prog w) A (newList []) (fun acc s₃ => wpAny (model prog w) A (newFunctionEnv scope env.globals cl [] env.qual none .none (some env)) (fun cenv s₄ =>
      codeAny (model prog w) A (.compStart (.ListComp elt [⟨.Tuple [.Name xk pk, .Name xc pc] x1 tp, iter, [], 0⟩] scope pos) 0 (.ref I) acc { cenv with scope := relabel scope env }) (RR acc cenv.locals) s₄) E s₃) E s₂ :=
  hk_all H_block_E.hkN H_block_E.hkU (by with_unfolding_all exact H_block_E.core) (((((prog, w), (A, E)), ((h₀, L), (m, env))), (((elt, iter), (xk, xc)), ((pk, pc), (tp, x1)))), ((((scope, cl), (pos, s₂)), ((I, J), (l, n))), (((Pt, St), (Mid, news)), ((ol, ks), (RR, g))))) W hPt hks hsz hlive hcell hkind hxk hxc hne hh hst hI hJ hl F N hLI hLJ hI₀ hJ₀ off turn hRR
noncomputable def EnumSrc (prog : Program) (w : World) (A : Around) (E : Value → Shared → Prop) (env : Env) (e : Expr) (scope : Scope) (cl : List (Str × Addr)) (y : Str) (py : Pos) (Q : Flow → Shared → Prop) (xv : Value) (s₁ : Shared) : Prop :=
  wpAny (model prog w) A (pyIter xv) (fun it s₂ => wpAny (model prog w) A (newList []) (fun acc s₃ => wpAny (model prog w) A (newFunctionEnv scope env.globals cl [] env.qual none .none (some env)) (fun cenv s₄ =>
    codeAny (model prog w) A (.compStart e 0 it acc { cenv with scope := relabel scope env }) (compPost (model prog w) A E (some (assign (.Name y py) env)) (fun _ s' => Q .next s') acc cenv.locals) s₄) E s₃) E s₂) E s₁
theorem comp_enumA {elt iter : Expr} {xk xc y : Str} {pk pc tp py : Pos} {x1 : Nat} {scope : Scope} {cl : List (Str × Addr)} {pos spos : Pos} {Q : Flow → Shared → Prop}
    (hsw : swapsWith (.ListComp elt [⟨.Tuple [.Name xk pk, .Name xc pc] x1 tp, iter, [], 0⟩] scope pos) (some (.Name y py)) spos.line env = pure true)
    (hclos : closureFor scope env = pure cl) (hkind : scope.kind = .function) (hnames : ∀ y ∈ scope.names, y.2 = .local → scope.names.lookup y.1 = some .local)
    (h : wpAny (model prog w) A (eval iter env) (EnumSrc prog w A E env (.ListComp elt [⟨.Tuple [.Name xk pk, .Name xc pc] x1 tp, iter, [], 0⟩] scope pos) scope cl y py Q) E s)
    (hs : ∀ x, foldedSetIterable iter env x = pure x := by intro _; rfl) :
    wpAny (model prog w) A (exec (.Assign [.Name y py] (.ListComp elt [⟨.Tuple [.Name xk pk, .Name xc pc] x1 tp, iter, [], 0⟩] scope pos) spos) env) Q E s := by
  rw [exec_Assign_Name_used _ _ _ _ hsw]
  refine wpAny_bind (wpAny_standAt (wpAny_bind ?_))
  show wpAny _ A (do let _ ← comprehension (.ListComp elt [⟨.Tuple [.Name xk pk, .Name xc pc] x1 tp, iter, [], 0⟩] scope pos) scope env _ (newList []) false (eval iter env) (some (assign (.Name y py) env))) _ _ s
  exact wpAny_bind (wpAny_mono (wpAny_comprehension_free (use := some (assign (.Name y py) env)) (Q := fun _ s' => Q .next s') rfl hs hclos hkind hnames
    (wpAny_mono h (fun xv s₁ h₁ => h₁) fun _ _ e => e)) (fun _ s' hq => wpAny_pure (wpAny_pure hq)) fun _ _ e => e)
theorem enumSrcL {elt iter : Expr} {xk xc y : Str} {pk pc tp py : Pos} {x1 : Nat} {scope : Scope} {cl : List (Str × Addr)} {pos : Pos} {Q : Flow → Shared → Prop} {l : Addr} {items : Array Value} {c : Nat} {ks : List Int} {news : List (Addr × Obj)} (g : Nat → Int → Int)
    (hm : (l, listOf items c) ∈ news) (hi : IntsAre items.toList ks) (hz : ks.length ≤ 1000) (hh : A.handled = none) (F : Fr h₀ L s.heap m) (N : News h₀ L s.heap news) (hLe : env.locals = L)
    (hcell : ∀ y ∈ scope.names, y.2 ≠ .cell) (hkind : scope.kind = .function) (hxk : scope.names.lookup xk = some .local) (hxc : scope.names.lookup xc = some .local) (hne : xk ≠ xc)
    (hy : env.kindOf y = some .local) (hp : (env.scope.kind == .class || (env.scope.kind == .module && env.locals != env.globals)) = false)
    (turn : ∀ (hq : Heap) i k t u I oI J oJ C oC D m₂ ys h tk (E' : Value → Shared → Prop), i < ks.length → ks[i]? = some k → NsObj oC m₂ → m₂ xk = some (.int (i : Nat) t) → m₂ xc = some (.int k u) → Fr h₀ L h m → News h₀ L h ((I, oI) :: (J, oJ) :: (C, oC) :: (D, lst ys) :: news) →
      wpAny (model prog w) A (eval elt (compEnvC scope cl C env)) (CompEl h₀ L m { s with heap := h, toks := tk } ((I, oI) :: (J, oJ) :: (C, oC) :: (D, lst ys) :: news) (g i k)) E' { s with heap := h, toks := tk })
    (fin : ∀ D ys h tk, Fr h₀ L h (fun z => if z = y then some (.ref D) else m z) → News h₀ L h ((D, lst ys) :: news) → (∀ p ∈ news, p.1 ≠ D) → IntsAre ys ((List.range ks.length).map fun i => g i (ks.getD i 0)) → Q .next { s with heap := h, toks := tk }) :
    wpAny (model prog w) A (call (.type "enumerate") [.ref l]) (EnumSrc prog w A E env (.ListComp elt [⟨.Tuple [.Name xk pk, .Name xc pc] x1 tp, iter, [], 0⟩] scope pos) scope cl y py Q) E s := by
  subst hLe
  have hL : s.heap.IsList l items := ⟨_, (N _ hm).1, rfl, c, rfl⟩
  have hlen : items.size = ks.length := by rw [← Array.length_toList]; exact hi.length
  refine call_enumerate_list hL fun h' he hit hz' hk => ?_
  refine wpAny_pyIter_enum he ?_
  have hl2 : l < s.heap.objs.size := Heap.lt_size (N _ hm).1
  have hLs : env.locals < s.heap.objs.size := F.ns.lt
  have hab : h₀.objs.size ≤ env.locals := F.above
  have W := WalksT.enumerateD (Draws.list (prog := prog) (w := w) (A := A.in1) hh s.heap.objs.size l (Nat.ne_of_lt hl2) items) (s.heap.objs.size + 1) (Nat.succ_ne_self _)
    (by simp only [List.mem_cons, List.not_mem_nil, or_false, not_or]; exact ⟨Nat.succ_ne_self _, Nat.ne_of_gt (Nat.lt_succ_of_lt hl2)⟩) (by simp)
  rw [hlen] at W
  refine block_E (s₂ := { s with heap := h' }) g W (fun i vals hv => ?_) rfl (by rw [sizeLine_eq]; lia) (fun i h hs => ?_) hcell hkind hxk hxc hne hh ⟨⟨_, he⟩, hit, hL.at fun o e => hk _ o e⟩ (by rw [hz']; exact Nat.lt_succ_self _) (by rw [hz']; exact Nat.lt_succ_of_lt (Nat.lt_succ_self _)) hm
    (F.keeps hk) (N.grown hk) (Nat.ne_of_lt (Nat.lt_succ_of_lt hLs)) (Nat.ne_of_lt hLs) (Heap.get?_none_of_le (Nat.le_trans hab (Nat.le_of_lt (Nat.lt_succ_of_lt hLs)))) (Heap.get?_none_of_le (Nat.le_trans hab (Nat.le_of_lt hLs)))
    (fun p hp => ⟨Nat.ne_of_lt (Nat.lt_succ_of_lt (Heap.lt_size (N p hp).1)), Nat.ne_of_lt (Heap.lt_size (N p hp).1)⟩)
    (fun i k t u oI oJ C oC D m₂ ys h tk E' a1 a2 a3 a4 a5 a6 a7 => turn h' i k t u _ oI _ oJ C oC D m₂ ys h tk E' a1 a2 a3 a4 a5 a6 a7) ?_
  · obtain ⟨t, x, hx, rfl⟩ := hv
    have hlt : i < ks.length := by
      have : i < items.size := (Array.getElem?_eq_some_iff.mp hx).1
      lia
    obtain ⟨u, hu⟩ := hi.get i ks[i] (by simp [hlt])
    rw [Array.getElem?_toList, hx] at hu
    refine ⟨t, ks[i], u, by simp [hlt], ?_⟩
    rw [Option.some.inj hu]
  · obtain ⟨⟨_, h1⟩, ⟨o, h2, _⟩, _⟩ := hs
    exact ⟨⟨_, h1⟩, _, h2⟩
  · intro D C h tk m' ys F' N' hD hn hC₀ hCL hCD hCn hys
    show wpAny _ A (assign (.Name y py) env (.ref D)) _ _ _
    refine wpAny_assign_Name (wpAny_storeName_local hy F'.ns (fun h₂ hn₂ hs₂ => ?_) hp)
    have hL₀ : h₀.get? env.locals = none := Heap.get?_none_of_le F'.above
    have F₂ : Fr h₀ env.locals h₂ (fun z => if z = y then some (.ref D) else m z) := ⟨hn₂, fun b o e => hs₂.extBut b o (fun q => by rw [q, hL₀] at e; cases e) (F'.keep b o e), F'.above⟩
    refine ⟨m', hn.sameBut hs₂ hCL, fun h'' hs'' => fin D ys h'' _ (F₂.change hs'' hCL hC₀) (fun p hp => ?_) hD hys⟩
    have z : h₂.get? p.1 = some p.2 := hs₂.extBut _ _ (N' p hp).2.1 (N' p hp).1
    refine ⟨hs''.extBut _ _ ?_ z, (N' p hp).2⟩
    rcases List.mem_cons.mp hp with rfl | hp
    · exact Ne.symm hCD
    · exact hCn p hp
end
end
section
set_option maxHeartbeats 8000000
theorem call_cellsQ {prog : Program} {w : World} {A : Around} {R : Result → Shared → Prop} {s : Shared} {name : Str} {params : Arguments} {body : List Stmt} {scope : Scope} {pm cd doc : Value} {a : Addr} {o : Obj} {args : List Value} {binds : List (Str × Value)}
    (hroom : A.depth < recursionLimit) (ho : s.heap.get? a = some o) (hdata : o.data = .func (Calls.docDef name params body scope pm cd doc)) (hlim : s.heap.NoLimit) (hcd : s.heap.CodeRec cd name)
    (hbind : bindArgs (Calls.docDef name params body scope pm cd doc) ⟨args, []⟩ = pure binds) (hkind : (binds.all fun y => scope.names.lookup y.1 == some .local || scope.names.lookup y.1 == some .cell) = true) (hnd : ((cellsFrom 0 scope.names []).map (·.1)).Nodup)
    (h : ∀ h₁ tk cells, Fr s.heap s.heap.objs.size h₁ (bindL (envOfC name scope s.heap.objs.size a cd).kindOf binds fun _ => none) → News s.heap s.heap.objs.size h₁ cells →
      CellsAre (bindC (envOfC name scope s.heap.objs.size a cd).kindOf binds fun _ => none) (cellsFrom (s.heap.objs.size + 1) scope.names []) cells →
      wpN (model prog w) (A.deeper (envOfC name scope s.heap.objs.size a cd)) (execs body (envOfC name scope s.heap.objs.size a cd))
        (fun f s' => R (.ok (.ret (match f with | .ret v => v | _ => .none))) s') (fun _ _ => False) { s with heap := h₁, toks := tk })
    (hco : scope.isCoroutine = false := by rfl) (hgen : scope.isGenerator = false := by rfl) (hk : scope.kind = .function := by rfl) : codeN (model prog w) A (.call (.ref a) ⟨args, []⟩) R s := by
  refine cnCallFn (fd := Calls.docDef name params body scope pm cd doc) hroom ho hdata hco hgen rfl hcd ?_
  rw [hbind]
  refine wpAny_pure ?_
  refine wpAny_newFunctionEnv_cells hk (kindsX hkind _) fun env' he s' x => ?_
  subst he
  refine ⟨hlim.keeps x.toInCall.keep, cnFunc ?_⟩
  obtain ⟨h₁, tk, rfl, _⟩ := x.done
  obtain ⟨cells, NC, Y⟩ := Cl.news (h₀ := s.heap) (Nat.le_refl _) fun n c hm => ⟨x.cell n c (lookup_of_mem_nodup (cellsFrom_names scope.names 0 (s.heap.objs.size + 1) [] [] rfl ▸ hnd) hm), x.above n c hm⟩
  exact nMono (h h₁ tk cells ⟨x.toInCall.ns, x.toInCall.keep, Nat.le_refl _⟩ NC Y) (fun _ _ q => q) fun _ _ q => q.elim
theorem enterQ {M : Model} {A : Around} {s : Shared} {f : Value} {pos : List Value} {kw : List (Str × Value)} {c : ClaimW} {cl : Str → Option Addr} {mean : ExcName → Option Value} {args : List WData} {s₁ : Shared}
    (h : codeN M A (.call f ⟨pos, kw⟩) (GoodWG c cl mean args s₁) s) : wpN M A (PySem.call f pos kw) (fun v s' => GoodWG c cl mean args s₁ (.ok (.ret v)) s') (fun e s' => GoodWG c cl mean args s₁ (.error e) s') s :=
  nCall (cnMono h fun res s' g => by rcases g.1 with ⟨v, _, _, rfl, _⟩ | ⟨e, _, _, rfl, _⟩ <;> exact g)
section
variable {M : Model} {A : Around} {E : Value → Shared → Prop} {s : Shared} {env : Env}
theorem nIfN {test : Expr} {body orelse : List Stmt} {pos : Pos} {Q : Flow → Shared → Prop}
    (h : wpN M A (isTrue test env (eval test env)) (fun b s₂ => if b then wpN M A (execs body env) Q E s₂ else wpN M A (execs orelse env) Q E s₂) E s) : wpN M A (exec (.If test body orelse pos) env) Q E s := by
  rw [exec_If]
  refine nBind (nStand (nBind (nMono h (fun b s₂ h₂ => ?_) fun _ _ x => x)))
  cases b <;> exact h₂
theorem nOr {x : Expr} {rest : List Expr} {pos : Pos} {whole : Sem Value} {Q : Bool → Shared → Prop}
    (h : wpN M A (isTrue x env (eval x env)) (fun c s' => if c then Q true s' else wpN M A (isTrue (.BoolOp .Or rest pos) env whole) Q E s') E s) : wpN M A (isTrue (.BoolOp .Or (x :: rest) pos) env whole) Q E s := by
  show wpN M A (do
    match BoolOp.Or, ← isTrue x env (eval x env) with
    | .And, false => pure false
    | .Or, true => pure true
    | _, _ => allTrue .Or rest env) Q E s
  refine nBind (nMono h (fun c s' h' => ?_) fun _ _ x => x)
  cases c with
  | false => exact h'
  | true => exact nPure h'
theorem nOrNil {pos : Pos} {whole : Sem Value} {Q : Bool → Shared → Prop} (h : Q false s) : wpN M A (isTrue (.BoolOp .Or [] pos) env whole) Q E s := nPure (a := false) h
theorem nAnd {x : Expr} {rest : List Expr} {pos : Pos} {whole : Sem Value} {Q : Bool → Shared → Prop}
    (h : wpN M A (isTrue x env (eval x env)) (fun c s' => if c then wpN M A (isTrue (.BoolOp .And rest pos) env whole) Q E s' else Q false s') E s) : wpN M A (isTrue (.BoolOp .And (x :: rest) pos) env whole) Q E s := by
  show wpN M A (do
    match BoolOp.And, ← isTrue x env (eval x env) with
    | .And, false => pure false
    | .Or, true => pure true
    | _, _ => allTrue .And rest env) Q E s
  refine nBind (nMono h (fun c s' h' => ?_) fun _ _ x => x)
  cases c with
  | false => exact nPure h'
  | true => exact h'
theorem nCmpT {l r : Expr} {op : CmpOp} {pos : Pos} {whole : Sem Value} {Q : Bool → Shared → Prop}
    (h : wpN M A (eval l env) (fun a s₁ => wpAny M A (eval r env) (fun b s₂ => wpAny M A (compareOp op a b) (fun c s₃ => wpAny M A (truthy c) Q E s₃) E s₂) E s₁) E s)
    (hm : behindInMarks op r = false := by with_unfolding_all rfl) : wpN M A (isTrue (.Compare l [op] [r] pos) env whole) Q E s := by
  rw [isTrue_Compare1, markedBehindIn_of_false hm]
  exact nBind (nMono h (fun a s₁ h₁ => nBind (nHolding (nOf (wpAny_mono h₁ (fun b s₂ h₂ => nBind (nStand (nBind (nOperate (nOf (wpAny_mono h₂ (fun c s₃ h₃ => nHolding (nOf h₃)) fun _ _ e => e)))))) fun _ _ e => e)))) fun _ _ e => e)
end
section
variable {w : World} {f : Addr} {vs : List Value} {room : Nat} {mean : ExcName → Option Value} {mg mb : Str → Option Value} {dp un : Nat} {gd : Option (List Code)} {cn : Str} {cs : Scope} {a : Addr} {ccd : Value} {cl : List (Str × Addr)} {A₀ : Around} {base h₀ : Heap} {L : Addr} {m : Str → Option Value} {news own : List (Addr × Obj)} {s : Shared} {Q E : Value → Shared → Prop}
theorem SpecTN.useM {R : Value → List (Addr × Obj) → Prop} (C : SpecTN w f vs own room R) (rest : List (Addr × Obj))
    (B : Below A₀ base [] h₀) (F : Fr h₀ L s.heap m) (X : (Mine.hd.heap_39 w.params).In h₀) (N : News h₀ L s.heap news) (hs : ∀ p ∈ own, p ∈ news) (hr : ∀ p ∈ rest, p ∈ news) (hd' : ∀ p ∈ own, ∀ q ∈ rest, p.1 ≠ q.1)
    (T : Top Mine.hd.view_39 (looseW Mine.hd.view_39 [Str.ofString "PostError"]) mean mg mb h₀) (hk : cs.kind = .function) (hd : dp + room < recursionLimit) (hu : un + 8 * room < cLine)
    (h : ∀ r own' h' tk', R r own' → Fr h₀ L h' m → News h₀ L h' (own' ++ rest) → (∀ p ∈ own', ∀ q ∈ rest, p.1 ≠ q.1) → Q r { s with heap := h', toks := tk' }) :
    wpN (model PySem.Challenge.rw_nt0492_01.row.prog w) (ktrTop dp un gd cn cs L a ccd cl []) (call (.ref f) vs) Q E s :=
  C mean mg mb dp un gd cn cs a ccd cl A₀ base h₀ L m rest s Q E B F X (news_sub N hs) (news_sub N hr) hd' T hk hd hu fun r own' h' tk' F' N' hdis hR => h r own' h' tk' hR F' N' hdis
theorem SpecT.useM {R : Value → List (Addr × Obj) → Prop} (C : SpecT w f vs own room R) (rest : List (Addr × Obj))
    (B : Below A₀ base [] h₀) (F : Fr h₀ L s.heap m) (X : (Mine.hd.heap_39 w.params).In h₀) (N : News h₀ L s.heap news) (hs : ∀ p ∈ own, p ∈ news) (hr : ∀ p ∈ rest, p ∈ news) (hd' : ∀ p ∈ own, ∀ q ∈ rest, p.1 ≠ q.1)
    (T : Top Mine.hd.view_39 (looseW Mine.hd.view_39 [Str.ofString "PostError"]) mean mg mb h₀) (hk : cs.kind = .function) (hd : dp + room < recursionLimit) (hu : un + 8 * room < cLine)
    (h : ∀ r own' h' tk', R r own' → Fr h₀ L h' m → News h₀ L h' (own' ++ rest) → (∀ p ∈ own', ∀ q ∈ rest, p.1 ≠ q.1) → Q r { s with heap := h', toks := tk' }) :
    wpAny (model PySem.Challenge.rw_nt0492_01.row.prog w) (ktrTop dp un gd cn cs L a ccd cl []) (call (.ref f) vs) Q E s :=
  C mean mg mb dp un gd cn cs a ccd cl A₀ base h₀ L m rest s Q E B F X (news_sub N hs) (news_sub N hr) hd' T hk hd hu fun r own' h' tk' F' N' hdis hR => h r own' h' tk' hR F' N' hdis
end
theorem Spec.imp {w : World} {f : Addr} {vs : List Value} {own : List (Addr × Obj)} {room : Nat} {R R' : Value → List (Addr × Obj) → Prop} (C : Spec w f vs own room R) (h : ∀ r n, R r n → R' r n) : Spec w f vs own room R' := by
  intro mean mg mb dp un gd cn cs fa ccd cl outer A₀ base h₀ L m rest s Q E B F X N Nr hdis T hk hd hu hret
  exact C mean mg mb dp un gd cn cs fa ccd cl outer A₀ base h₀ L m rest s Q E B F X N Nr hdis T hk hd hu fun r own' h' tk' F' N' hd' hR => hret r own' h' tk' F' N' hd' (h r own' hR)
theorem two_off {a b x y : Addr} {oa ob ox oy : Obj} (h1 : a ≠ x) (h2 : a ≠ y) (h3 : b ≠ x) (h4 : b ≠ y) : ∀ p ∈ [(a, oa), (b, ob)], ∀ q ∈ [(x, ox), (y, oy)], p.1 ≠ q.1 :=
  List.forall_mem_cons.mpr ⟨List.forall_mem_cons.mpr ⟨h1, List.forall_mem_singleton.mpr h2⟩, List.forall_mem_singleton.mpr (List.forall_mem_cons.mpr ⟨h3, List.forall_mem_singleton.mpr h4⟩)⟩
theorem enc_initP (w : World) (x dx : Addr) (way colors bits cols : Int) (t1 t2 t3 t4 k1 k2 k3 k4 : Tok) :
    Spec w 188 [.ref x] [(x, instObj 80 dx), (dx, shapeDict w way colors bits cols t1 t2 t3 t4 k1 k2 k3 k4)] 3
      (fun r o => ∃ ret, o = ret ++ [(x, instObj 80 dx), (dx, shapeDict w way colors bits cols t1 t2 t3 t4 k1 k2 k3 k4)] ∧ (∀ p ∈ ret, ∀ q ∈ [(x, instObj 80 dx), (dx, shapeDict w way colors bits cols t1 t2 t3 t4 k1 k2 k3 k4)], p.1 ≠ q.1) ∧ ∃ e de tr ta l1 l2 l3, r = .ref e ∧ ret = [(e, instObj 188 de), (de, toolDict w x #[] tr #[] ta l1 l2 l3)]) :=
  (enc_init w x dx way colors bits cols t1 t2 t3 t4 k1 k2 k3 k4).imp fun r n ⟨e, de, tr, ta, l1, l2, l3, e1, e2, n1, n2, n3, n4, n5⟩ => ⟨_, e2, two_off n2 n3 n4 n5, e, de, tr, ta, l1, l2, l3, e1, rfl⟩
theorem dec_initP (w : World) (x dx : Addr) (way colors bits cols : Int) (t1 t2 t3 t4 k1 k2 k3 k4 : Tok) :
    Spec w 230 [.ref x] [(x, instObj 80 dx), (dx, shapeDict w way colors bits cols t1 t2 t3 t4 k1 k2 k3 k4)] 3
      (fun r o => ∃ ret, o = ret ++ [(x, instObj 80 dx), (dx, shapeDict w way colors bits cols t1 t2 t3 t4 k1 k2 k3 k4)] ∧ (∀ p ∈ ret, ∀ q ∈ [(x, instObj 80 dx), (dx, shapeDict w way colors bits cols t1 t2 t3 t4 k1 k2 k3 k4)], p.1 ≠ q.1) ∧ ∃ e de tr ta l1 l2 l3, r = .ref e ∧ ret = [(e, instObj 230 de), (de, toolDict w x #[] tr #[] ta l1 l2 l3)]) :=
  (dec_init w x dx way colors bits cols t1 t2 t3 t4 k1 k2 k3 k4).imp fun r n ⟨e, de, tr, ta, l1, l2, l3, e1, e2, n1, n2, n3, n4, n5⟩ => ⟨_, e2, two_off n2 n3 n4 n5, e, de, tr, ta, l1, l2, l3, e1, rfl⟩
theorem SpecR.use0 {w : World} {f : Addr} {vs : List Value} {room : Nat} {mean : ExcName → Option Value} {mg mb : Str → Option Value} {dp un : Nat} {gd : Option (List Code)} {cn : Str} {cs : Scope} {a : Addr} {ccd : Value} {cl : List (Str × Addr)} {outer : List Env} {A₀ : Around} {base h₀ : Heap} {L : Addr} {m : Str → Option Value} {news : List (Addr × Obj)} {s : Shared} {Q E : Value → Shared → Prop}
    {R : Value → List (Addr × Obj) → Prop} {P : Prop} {V : Value → Prop} (C : SpecR w f vs [] room R (fun v => ¬ P ∧ V v)) (hP : P)
    (B : Below A₀ base outer h₀) (F : Fr h₀ L s.heap m) (X : (Mine.hd.heap_39 w.params).In h₀) (N : News h₀ L s.heap news)
    (T : Top Mine.hd.view_39 (looseW Mine.hd.view_39 [Str.ofString "PostError"]) mean mg mb h₀) (hk : cs.kind = .function) (hd : dp + room < recursionLimit) (hu : un + 8 * room < cLine)
    (h : ∀ r ret h' tk', R r ret → Fr h₀ L h' m → News h₀ L h' (ret ++ news) → (∀ p ∈ ret, ∀ q ∈ news, p.1 ≠ q.1) → Q r { s with heap := h', toks := tk' }) :
    wpAny (model PySem.Challenge.rw_nt0492_01.row.prog w) (ktrTop dp un gd cn cs L a ccd cl outer) (call (.ref f) vs) Q E s :=
  C mean mg mb dp un gd cn cs a ccd cl outer A₀ base h₀ L m news s Q E B F X News.nil N (fun _ hp => nomatch hp) T hk hd hu (fun r own' h' tk' F' N' hdis hR => h r own' h' tk' hR F' N' hdis) (fun v _ _ _ _ hv => absurd hP hv.1)
theorem vShape_of {way colors bits cols : Int} (W : WayOk way colors bits cols) : vShape way colors bits cols := ⟨W.ways.imp id fun h => h, W.shape.col.1, W.shape.wid.1, W.shape.bit⟩
section
variable {prog : Program} {w : World} {A : Around} {E : Value → Shared → Prop} {s : Shared} {env : Env} {h₀ : Heap} {L : Addr} {m : Str → Option Value} {nw : List (Addr × Obj)} {st : Stmt} {rest : List Stmt} {Q : Flow → Shared → Prop}
theorem nMeet {x : Str} (F : Fr h₀ L s.heap m) (N : News h₀ L s.heap nw) (P : Int → Prop)
    (h1 : wpAny (model prog w) A (exec st env) (MeetEnd h₀ L m nw s x P) (fun _ _ => False) s)
    (h2 : ∀ c t h' tk', Fr h₀ L h' (fun y => if y = x then some (.int c t) else m y) → News h₀ L h' nw → P c → wpN (model prog w) A (execs rest env) Q E { s with heap := h', toks := tk' }) : wpN (model prog w) A (execs (st :: rest) env) Q E s := by
  refine nExecs (nOf (wpAny_mono h1 (fun f s' hq => ?_) fun _ _ q => q.elim))
  obtain ⟨rfl, c, t, h', tk', rfl, F', N', hP⟩ := hq
  exact h2 c t h' tk' F' N' hP
theorem nToks {t : Sem Flow} {gn : Array GenState} {dr : Drawn} {os : OsState} {h : Heap} {tk : Nat} (k : ∀ tk, wpN (model prog w) A t Q E { heap := h, gens := gn, drawn := dr, toks := tk, os := os }) : wpN (model prog w) A t Q E { heap := h, gens := gn, drawn := dr, toks := tk, os := os } := k tk
end
theorem neLK {prog : Program} {w : World} {A : Around} {E : Value → Shared → Prop} {s : Shared} {h₀ : Heap} {L : Addr} {news : List (Addr × Obj)} {a b : Addr} {xs ys : Array Value} {c d : Nat} {ns ms : List Int} {Q : Value → Shared → Prop}
    (N : News h₀ L s.heap news) (ha : (a, listOf xs c) ∈ news) (hb : (b, listOf ys d) ∈ news) (hi : IntsAre xs.toList ns) (hj : IntsAre ys.toList ms) (hu : A.units + 64 < cLine) (h : Q (.bool (!decide (ns = ms))) s) :
    wpAny (model prog w) A (compareOp .NotEq (.ref a) (.ref b)) Q E s :=
  ke_ne_ints (xs := xs.toList) (ys := ys.toList) ⟨_, (N _ ha).1, rfl, c, rfl⟩ ⟨_, (N _ hb).1, rfl, d, rfl⟩ hi hj hu h
end
section
set_option maxHeartbeats 16000000
theorem kwK21 : True := by
  k_with "compareOp NotEq ref ref" => (k_here; (with_reducible show wpAny _ _ (compareOp CmpOp.NotEq (Value.ref _) (Value.ref _)) _ _ _); k_dflt (refine' neLK ?qqzN ?qqza ?qqzb ?qqzi ?qqzj ?qqzu ?_; (case qqzN => k_asm); (case qqza => k_mem); (case qqzb => k_mem); (case qqzi => with_reducible assumption); (case qqzj => with_reducible assumption); (case qqzu => ke_room)); (try simp only [eq_self, decide_true, Bool.not_true]))
  exact True.intro
noncomputable def lawStmt : Stmt := PySem.Challenge.pw_nt0492_01.main.body.getLastD (.Pass default)
noncomputable def bodyOf : Stmt → List Stmt
  | .FunctionDef _ _ b .. => b
  | _ => []
noncomputable def scopeOf : Stmt → Scope
  | .FunctionDef _ _ _ _ _ _ s .. => s
  | _ => default
noncomputable abbrev lawEnv (L fa : Addr) (cd : Value) : Env := envOfC (Str.ofString "law") (scopeOf lawStmt) L fa cd
structure TailAt (w : World) (L fa : Addr) (cd : Value) (n : Nat) (Rf : Flow → Shared → Prop) (s : Shared) : Prop where
  run : wpN (model PySem.Challenge.rw_nt0492_01.row.prog w) (callerA.deeper (lawEnv L fa cd)) (execs ((bodyOf lawStmt).drop n) (lawEnv L fa cd)) Rf (fun _ _ => False) s
theorem TailAt.out {w : World} {L fa : Addr} {cd : Value} {n : Nat} {Rf : Flow → Shared → Prop} {s : Shared} {rest : List Stmt} (e : (bodyOf lawStmt).drop n = rest) (h : TailAt w L fa cd n Rf s) :
    wpN (model PySem.Challenge.rw_nt0492_01.row.prog w) (callerA.deeper (lawEnv L fa cd)) (execs rest (lawEnv L fa cd)) Rf (fun _ _ => False) s := e ▸ h.run
theorem TailAt.of {w : World} {L fa : Addr} {cd : Value} {n : Nat} {Rf : Flow → Shared → Prop} {s : Shared} {rest : List Stmt} (e : (bodyOf lawStmt).drop n = rest)
    (h : wpN (model PySem.Challenge.rw_nt0492_01.row.prog w) (callerA.deeper (lawEnv L fa cd)) (execs rest (lawEnv L fa cd)) Rf (fun _ _ => False) s) : TailAt w L fa cd n Rf s := ⟨e ▸ h⟩
theorem kwK22 : True := by
  k_with "call ref" => ((with_reducible show wpAny _ _ (call (Value.ref 188) [Value.ref _]) _ _ _); k_dflt (refine' Spec.useP (own := [(_, instObj 80 _), (_, _)]) (enc_initP _ _ _ _ _ _ _ _ _ _ _ _ _ _ _) ?qqB ?qqF ?qqX ?qqN ?qqhs ?qqT ?qqhk ?qqhd ?qqhu ?_; (case qqB => k_asm); (case qqF => k_asm); (case qqX => k_asm); (case qqN => k_asm); (case qqhs => first | exact List.forall_mem_nil _ | (refine List.forall_mem_singleton.mpr ?_; k_mem) | (refine List.forall_mem_cons.mpr ⟨?_, List.forall_mem_singleton.mpr ?_⟩ <;> k_mem)); (case qqT => k_asm); (case qqhk => exact rfl); (case qqhd => ktr_room); (case qqhu => ktr_units); k_whole); intro _ _ _ _ qqhR9 _ qqN9 qqD9; obtain ⟨_, _, _, _, _, _, _, qqe1, qqe2⟩ := qqhR9; subst qqe1; subst qqe2; (try simp only [List.nil_append, List.cons_append] at qqN9); (try (replace qqD9 := NeAll.of (List.forall_mem_singleton.mp qqD9); simp only [NeAll, and_true] at qqD9)))
  k_with "call ref" => ((with_reducible show wpAny _ _ (call (Value.ref 230) [Value.ref _]) _ _ _); k_dflt (refine' Spec.useP (own := [(_, instObj 80 _), (_, _)]) (dec_initP _ _ _ _ _ _ _ _ _ _ _ _ _ _ _) ?qqB ?qqF ?qqX ?qqN ?qqhs ?qqT ?qqhk ?qqhd ?qqhu ?_; (case qqB => k_asm); (case qqF => k_asm); (case qqX => k_asm); (case qqN => k_asm); (case qqhs => first | exact List.forall_mem_nil _ | (refine List.forall_mem_singleton.mpr ?_; k_mem) | (refine List.forall_mem_cons.mpr ⟨?_, List.forall_mem_singleton.mpr ?_⟩ <;> k_mem)); (case qqT => k_asm); (case qqhk => exact rfl); (case qqhd => ktr_room); (case qqhu => ktr_units); k_whole); intro _ _ _ _ qqhR9 _ qqN9 qqD9; obtain ⟨_, _, _, _, _, _, _, qqe1, qqe2⟩ := qqhR9; subst qqe1; subst qqe2; (try simp only [List.nil_append, List.cons_append] at qqN9); (try (replace qqD9 := NeAll.of (List.forall_mem_singleton.mp qqD9); simp only [NeAll, and_true] at qqD9)))
  exact True.intro
namespace H_law_tail1
abbrev hkD : Type := ((((((World × (ExcName → Option Value)) × (Str → Option Value)) × (((Str → Option Value) × Heap) × Addr)) × (((Addr × Addr) × Addr) × (Addr × Addr))) × ((((Addr × Value) × Obj) × ((Str → Option Value) × Int)) × (((Int × Int) × Int) × (Int × Tok)))) × (((((Tok × Tok) × Tok) × (Tok × Tok)) × (((Tok × Tok) × Tok) × ((Array Value) × (Array Value)))) × ((((Nat × Nat) × (List Int)) × ((List Int) × Heap)) × ((((Array GenState) × Drawn) × Nat) × (OsState × (Flow → Shared → Prop))))))
def hkP (w : World) (mean : ExcName → Option Value) (mg : Str → Option Value) (mb : Str → Option Value) (hp0 : Heap) (L : Addr) (fa : Addr) (GT : Addr) (Oo : Addr) (SH : Addr) (x : Addr) (dx : Addr) (cd : Value) (oC : Obj) (m0 : Str → Option Value) (way : Int) (colors : Int) (bits : Int) (cols : Int) (cut : Int) (t1 : Tok) (t2 : Tok) (t3 : Tok) (t4 : Tok) (k1 : Tok) (k2 : Tok) (k3 : Tok) (k4 : Tok) (tc : Tok) (itT : Array Value) (ito : Array Value) (cT : Nat) (co : Nat) (told : List Int) (os : List Int) (h : Heap) (gn0 : Array GenState) (dr0 : Drawn) (tk : Nat) (os0 : OsState) (Rf : Flow → Shared → Prop) : Prop := ∀ (KX : (Mine.hd.heap_39 w.params).In hp0) (T : Top Mine.hd.view_39 (looseW Mine.hd.view_39 [Str.ofString "PostError"]) mean mg mb hp0) (K0 : Below callerA hp0 [] hp0) (hW : WayOk way colors bits cols) (how : Within 256 os) (hol : os.length ≤ 30) (hcut : 0 ≤ cut ∧ cut ≤ (os.length : Int)) (hIT : IntsAre itT.toList told) (hIo : IntsAre ito.toList os) (hrT : runA (lawF way colors bits) (rowSize colors bits cols) [] os = some told) (F : Fr hp0 L h (fun y => if y = Str.ofString "made" then some (.ref x) else if y = Str.ofString "told" then some (.ref GT) else if y = Str.ofString "cut" then some (.int cut tc) else if y = Str.ofString "shape" then some (.ref SH) else if y = Str.ofString "octets" then some (.ref Oo)
      else if y = Str.ofString "columns" then some (.int cols t4) else if y = Str.ofString "colors" then some (.int colors t2) else if y = Str.ofString "bits" then some (.int bits t3) else if y = Str.ofString "way" then some (.int way t1) else m0 y)) (N : News hp0 L h [(x, instObj 80 dx), (dx, shapeDict w way colors bits cols t1 t2 t3 t4 k1 k2 k3 k4), (GT, listOf itT cT), (Oo, listOf ito co), (SH, tupOf #[.int way t1, .int colors t2, .int bits t3, .int cols t4]), (L + 1, oC)]) (D1 : @Ne Nat x GT ∧ @Ne Nat x Oo ∧ @Ne Nat x SH ∧ @Ne Nat x (L + 1)) (D2 : @Ne Nat dx GT ∧ @Ne Nat dx Oo ∧ @Ne Nat dx SH ∧ @Ne Nat dx (L + 1)) (D3 : @Ne Nat GT Oo ∧ @Ne Nat GT SH ∧ @Ne Nat GT (L + 1)) (D4 : @Ne Nat Oo SH ∧ @Ne Nat Oo (L + 1)) (D5 : @Ne Nat SH (L + 1)) (D6 : @Ne Nat x dx) (k : ∀ h' tk', Fr hp0 L h' (fun y => if y = Str.ofString "made" then some (.ref x) else if y = Str.ofString "told" then some (.ref GT) else if y = Str.ofString "cut" then some (.int cut tc) else if y = Str.ofString "shape" then some (.ref SH) else if y = Str.ofString "octets" then some (.ref Oo)
      else if y = Str.ofString "columns" then some (.int cols t4) else if y = Str.ofString "colors" then some (.int colors t2) else if y = Str.ofString "bits" then some (.int bits t3) else if y = Str.ofString "way" then some (.int way t1) else m0 y) →
      News hp0 L h' [(x, instObj 80 dx), (dx, shapeDict w way colors bits cols t1 t2 t3 t4 k1 k2 k3 k4), (Oo, listOf ito co), (SH, tupOf #[.int way t1, .int colors t2, .int bits t3, .int cols t4]), (L + 1, oC)] →
      TailAt w L fa cd 10 Rf { heap := h', gens := gn0, drawn := dr0, toks := tk', os := os0 }), TailAt w L fa cd 9 Rf { heap := h, gens := gn0, drawn := dr0, toks := tk, os := os0 }
def hkU (d : hkD) : Prop := hkP d.1.1.1.1.1.1 d.1.1.1.1.1.2 d.1.1.1.1.2 d.1.1.1.2.1.1 d.1.1.1.2.1.2 d.1.1.1.2.2 d.1.1.2.1.1.1 d.1.1.2.1.1.2 d.1.1.2.1.2 d.1.1.2.2.1 d.1.1.2.2.2 d.1.2.1.1.1.1 d.1.2.1.1.1.2 d.1.2.1.1.2 d.1.2.1.2.1 d.1.2.1.2.2 d.1.2.2.1.1.1 d.1.2.2.1.1.2 d.1.2.2.1.2 d.1.2.2.2.1 d.1.2.2.2.2 d.2.1.1.1.1.1 d.2.1.1.1.1.2 d.2.1.1.1.2 d.2.1.1.2.1 d.2.1.1.2.2 d.2.1.2.1.1.1 d.2.1.2.1.1.2 d.2.1.2.1.2 d.2.1.2.2.1 d.2.1.2.2.2 d.2.2.1.1.1.1 d.2.2.1.1.1.2 d.2.2.1.1.2 d.2.2.1.2.1 d.2.2.1.2.2 d.2.2.2.1.1.1 d.2.2.2.1.1.2 d.2.2.2.1.2 d.2.2.2.2.1 d.2.2.2.2.2
theorem hkN : Nonempty hkD := (ne2 (ne2 (ne2 (ne2 (ne2 (ne2 neWorld ⟨default⟩) ⟨default⟩) (ne2 (ne2 ⟨default⟩ ⟨default⟩) ⟨default⟩)) (ne2 (ne2 (ne2 ⟨default⟩ ⟨default⟩) ⟨default⟩) (ne2 ⟨default⟩ ⟨default⟩))) (ne2 (ne2 (ne2 (ne2 ⟨default⟩ ⟨default⟩) ⟨default⟩) (ne2 ⟨default⟩ ⟨default⟩)) (ne2 (ne2 (ne2 ⟨default⟩ ⟨default⟩) ⟨default⟩) (ne2 ⟨default⟩ ⟨default⟩)))) (ne2 (ne2 (ne2 (ne2 (ne2 ⟨default⟩ ⟨default⟩) ⟨default⟩) (ne2 ⟨default⟩ ⟨default⟩)) (ne2 (ne2 (ne2 ⟨default⟩ ⟨default⟩) ⟨default⟩) (ne2 ⟨default⟩ ⟨default⟩))) (ne2 (ne2 (ne2 (ne2 ⟨default⟩ ⟨default⟩) ⟨default⟩) (ne2 ⟨default⟩ ⟨default⟩)) (ne2 (ne2 (ne2 ⟨default⟩ ⟨({} : Drawn)⟩) ⟨default⟩) (ne2 ⟨default⟩ ⟨default⟩)))))
@[irreducible] def hkV : hkD := hk_c hkN hkU
@[irreducible] def w : World := hkV.1.1.1.1.1.1
@[irreducible] def mean : ExcName → Option Value := hkV.1.1.1.1.1.2
@[irreducible] def mg : Str → Option Value := hkV.1.1.1.1.2
@[irreducible] def mb : Str → Option Value := hkV.1.1.1.2.1.1
@[irreducible] def hp0 : Heap := hkV.1.1.1.2.1.2
@[irreducible] def L : Addr := hkV.1.1.1.2.2
@[irreducible] def fa : Addr := hkV.1.1.2.1.1.1
@[irreducible] def GT : Addr := hkV.1.1.2.1.1.2
@[irreducible] def Oo : Addr := hkV.1.1.2.1.2
@[irreducible] def SH : Addr := hkV.1.1.2.2.1
@[irreducible] def x : Addr := hkV.1.1.2.2.2
@[irreducible] def dx : Addr := hkV.1.2.1.1.1.1
@[irreducible] def cd : Value := hkV.1.2.1.1.1.2
@[irreducible] def oC : Obj := hkV.1.2.1.1.2
@[irreducible] def m0 : Str → Option Value := hkV.1.2.1.2.1
@[irreducible] def way : Int := hkV.1.2.1.2.2
@[irreducible] def colors : Int := hkV.1.2.2.1.1.1
@[irreducible] def bits : Int := hkV.1.2.2.1.1.2
@[irreducible] def cols : Int := hkV.1.2.2.1.2
@[irreducible] def cut : Int := hkV.1.2.2.2.1
@[irreducible] def t1 : Tok := hkV.1.2.2.2.2
@[irreducible] def t2 : Tok := hkV.2.1.1.1.1.1
@[irreducible] def t3 : Tok := hkV.2.1.1.1.1.2
@[irreducible] def t4 : Tok := hkV.2.1.1.1.2
@[irreducible] def k1 : Tok := hkV.2.1.1.2.1
@[irreducible] def k2 : Tok := hkV.2.1.1.2.2
@[irreducible] def k3 : Tok := hkV.2.1.2.1.1.1
@[irreducible] def k4 : Tok := hkV.2.1.2.1.1.2
@[irreducible] def tc : Tok := hkV.2.1.2.1.2
@[irreducible] def itT : Array Value := hkV.2.1.2.2.1
@[irreducible] def ito : Array Value := hkV.2.1.2.2.2
@[irreducible] def cT : Nat := hkV.2.2.1.1.1.1
@[irreducible] def co : Nat := hkV.2.2.1.1.1.2
@[irreducible] def told : List Int := hkV.2.2.1.1.2
@[irreducible] def os : List Int := hkV.2.2.1.2.1
@[irreducible] def h : Heap := hkV.2.2.1.2.2
@[irreducible] def gn0 : Array GenState := hkV.2.2.2.1.1.1
@[irreducible] def dr0 : Drawn := hkV.2.2.2.1.1.2
@[irreducible] def tk : Nat := hkV.2.2.2.1.2
@[irreducible] def os0 : OsState := hkV.2.2.2.2.1
@[irreducible] def Rf : Flow → Shared → Prop := hkV.2.2.2.2.2
theorem core : hkP w mean mg mb hp0 L fa GT Oo SH x dx cd oC m0 way colors bits cols cut t1 t2 t3 t4 k1 k2 k3 k4 tc itT ito cT co told os h gn0 dr0 tk os0 Rf := by
  unfold hkP
  intro KX T K0 hW how hol hcut hIT hIo hrT F N D1 D2 D3 D4 D5 D6 k
  obtain ⟨_, _⟩ := id hcut
  obtain ⟨_, _, _, _⟩ := id D1
  obtain ⟨_, _, _, _⟩ := id D2
  obtain ⟨_, _, _⟩ := id D3
  obtain ⟨_, _⟩ := id D4
  obtain ⟨henc, hdec, htl, htw⟩ := law_all hW how hrT
  obtain ⟨d11, d12, d13, d14⟩ := D1
  obtain ⟨d21, d22, d23, d24⟩ := D2
  obtain ⟨d31, d32, d33⟩ := D3
  obtain ⟨d41, d42⟩ := D4
  obtain ⟨rest, hrest⟩ : ∃ rest, (bodyOf lawStmt).drop 10 = rest := ⟨_, rfl⟩
  replace k := fun h' tk' a b => TailAt.out hrest (k h' tk' a b)
  refine TailAt.of (show (bodyOf lawStmt).drop 9 = _ :: (bodyOf lawStmt).drop 10 from rfl) ?_
  rw [hrest]
  clear hrest
  unfold lawEnv
  refine nExecs (nIfN (nOr (nCmpT (nCallE ?_))))
  k_steps
  all_goals (try dsimp only)
  refine nCallFn (by k_asm) (by k_is) ?_
  k_steps
  all_goals (try dsimp only)
  have qqD9 := True.intro; have qqN9 := True.intro; have qql1 := True.intro
  rename_i hA tkA FA e de q1 q2 q3 q4 q5 NA DA
  have n1 := NeAll.of (DA _ (.head _))
  have n2 := NeAll.of (DA _ (.tail _ (.head _)))
  simp only [NeAll, and_true] at n1 n2
  clear DA
  obtain ⟨nA1, nA2, nA3, nA4, nA5, nA6⟩ := n1
  obtain ⟨nB1, nB2, nB3, nB4, nB5, nB6⟩ := n2
  have hS := hW.shape
  k_dflt (refine' SpecTN.useM (own := [(e, instObj 188 de), (de, toolDict w x #[] q1 #[] q2 q3 q4 q5), (x, instObj 80 dx), (dx, shapeDict w way colors bits cols t1 t2 t3 t4 k1 k2 k3 k4), (Oo, listOf ito co)]) (fedE_spec w e de x dx Oo way colors bits cols t1 t2 t3 t4 k1 k2 k3 k4 q3 q4 q5 q1 q2 tc ito co os cut hS hW.ways hIo how (by lia) ⟨hcut.1, by lia⟩) [(GT, listOf itT cT), (SH, tupOf #[.int way t1, .int colors t2, .int bits t3, .int cols t4]), (L + 1, oC)] ?B ?F ?X ?N ?hs ?hr ?hd' ?T ?hk ?hd ?hu ?_; (case B => exact K0); (case F => k_asm); (case X => k_asm); (case N => k_asm); (case T => k_asm); (case hk => exact rfl); (case hd => ktr_room); (case hu => ktr_units); (case hs => k_sub); (case hr => k_sub); (case hd' => ((repeat (refine List.forall_mem_cons.mpr ⟨?_, ?_⟩; (focus k_all))); exact List.forall_mem_nil _)))
  rintro r9 _ h9 tk9 ⟨G1, its1, c1, out, rfl, rfl, hI1, hrun1⟩ F9 N9 D9
  rw [henc] at hrun1
  obtain rfl := Option.some.inj hrun1
  simp only [List.cons_append, List.nil_append] at N9
  dsimp only
  k_steps
  all_goals (try dsimp only)
  clear hI1 hrun1
  have m1 := NeAll.of (D9 _ (.head _))
  simp only [NeAll, and_true] at m1
  obtain ⟨mA1, mA2, mA3⟩ := m1
  clear D9
  replace N9 := news_sub (l' := [(x, instObj 80 dx), (dx, shapeDict w way colors bits cols t1 t2 t3 t4 k1 k2 k3 k4), (Oo, listOf ito co), (GT, listOf itT cT), (SH, tupOf #[.int way t1, .int colors t2, .int bits t3, .int cols t4]), (L + 1, oC)]) N9 (by k_sub)
  refine nOr (nCmpT (nCallE ?_))
  k_steps
  all_goals (try dsimp only)
  refine nCallFn (by k_asm) (by k_is) ?_
  k_steps
  all_goals (try dsimp only)
  have qqD9 := True.intro; have qqN9 := True.intro; have qql1 := True.intro
  rename_i hB tkB FB e2 de2 p1 p2 p3 p4 p5 NB DB
  have n1 := NeAll.of (DB _ (.head _))
  have n2 := NeAll.of (DB _ (.tail _ (.head _)))
  simp only [NeAll, and_true] at n1 n2
  clear DB
  obtain ⟨nC1, nC2, nC3, nC4, nC5, nC6⟩ := n1
  obtain ⟨nD1, nD2, nD3, nD4, nD5, nD6⟩ := n2
  k_dflt (refine' SpecTN.useM (own := [(e2, instObj 230 de2), (de2, toolDict w x #[] p1 #[] p2 p3 p4 p5), (x, instObj 80 dx), (dx, shapeDict w way colors bits cols t1 t2 t3 t4 k1 k2 k3 k4), (GT, listOf itT cT)]) (fedD_spec w e2 de2 x dx GT way colors bits cols t1 t2 t3 t4 k1 k2 k3 k4 p3 p4 p5 p1 p2 tc itT cT told cut hS hW.ways hIT htw (by lia) ⟨hcut.1, by lia⟩) [(Oo, listOf ito co), (SH, tupOf #[.int way t1, .int colors t2, .int bits t3, .int cols t4]), (L + 1, oC)] ?B ?F ?X ?N ?hs ?hr ?hd' ?T ?hk ?hd ?hu ?_; (case B => exact K0); (case F => k_asm); (case X => k_asm); (case N => k_asm); (case T => k_asm); (case hk => exact rfl); (case hd => ktr_room); (case hu => ktr_units); (case hs => k_sub); (case hr => k_sub); (case hd' => ((repeat (refine List.forall_mem_cons.mpr ⟨?_, ?_⟩; (focus k_all))); exact List.forall_mem_nil _)))
  rintro r9 n9 h9 tk9 hR9 F9 N9 D9
  rw [hdec] at hR9
  obtain ⟨G2, its2, c2, rfl, rfl, hI2⟩ := hR9
  simp only [List.cons_append, List.nil_append] at N9
  dsimp only
  k_steps
  all_goals (try dsimp only)
  refine nOrNil ?_
  k_steps
  all_goals (try dsimp only)
  refine nExecsNil ?_
  dsimp only
  exact k _ _ F9 (news_sub N9 (by k_sub))
end H_law_tail1
theorem law_tail1 (w : World) (mean : ExcName → Option Value) (mg mb : Str → Option Value) (hp0 : Heap) (L fa GT Oo SH x dx : Addr) (cd : Value) (oC : Obj) (m0 : Str → Option Value) (way colors bits cols cut : Int) (t1 t2 t3 t4 k1 k2 k3 k4 tc : Tok) (itT ito : Array Value) (cT co : Nat) (told os : List Int)
    (h : Heap) (gn0 : Array GenState) (dr0 : Drawn) (tk : Nat) (os0 : OsState) (Rf : Flow → Shared → Prop)
    (KX : (Mine.hd.heap_39 w.params).In hp0) (T : Top Mine.hd.view_39 (looseW Mine.hd.view_39 [Str.ofString "PostError"]) mean mg mb hp0) (K0 : Below callerA hp0 [] hp0)
    (hW : WayOk way colors bits cols) (how : Within 256 os) (hol : os.length ≤ 30) (hcut : 0 ≤ cut ∧ cut ≤ (os.length : Int)) (hIT : IntsAre itT.toList told) (hIo : IntsAre ito.toList os)
    (hrT : runA (lawF way colors bits) (rowSize colors bits cols) [] os = some told)
    (F : Fr hp0 L h (fun y => if y = Str.ofString "made" then some (.ref x) else if y = Str.ofString "told" then some (.ref GT) else if y = Str.ofString "cut" then some (.int cut tc) else if y = Str.ofString "shape" then some (.ref SH) else if y = Str.ofString "octets" then some (.ref Oo)
      else if y = Str.ofString "columns" then some (.int cols t4) else if y = Str.ofString "colors" then some (.int colors t2) else if y = Str.ofString "bits" then some (.int bits t3) else if y = Str.ofString "way" then some (.int way t1) else m0 y))
    (N : News hp0 L h [(x, instObj 80 dx), (dx, shapeDict w way colors bits cols t1 t2 t3 t4 k1 k2 k3 k4), (GT, listOf itT cT), (Oo, listOf ito co), (SH, tupOf #[.int way t1, .int colors t2, .int bits t3, .int cols t4]), (L + 1, oC)])
    (D1 : @Ne Nat x GT ∧ @Ne Nat x Oo ∧ @Ne Nat x SH ∧ @Ne Nat x (L + 1)) (D2 : @Ne Nat dx GT ∧ @Ne Nat dx Oo ∧ @Ne Nat dx SH ∧ @Ne Nat dx (L + 1)) (D3 : @Ne Nat GT Oo ∧ @Ne Nat GT SH ∧ @Ne Nat GT (L + 1)) (D4 : @Ne Nat Oo SH ∧ @Ne Nat Oo (L + 1)) (D5 : @Ne Nat SH (L + 1)) (D6 : @Ne Nat x dx)
    (k : ∀ h' tk', Fr hp0 L h' (fun y => if y = Str.ofString "made" then some (.ref x) else if y = Str.ofString "told" then some (.ref GT) else if y = Str.ofString "cut" then some (.int cut tc) else if y = Str.ofString "shape" then some (.ref SH) else if y = Str.ofString "octets" then some (.ref Oo)
      else if y = Str.ofString "columns" then some (.int cols t4) else if y = Str.ofString "colors" then some (.int colors t2) else if y = Str.ofString "bits" then some (.int bits t3) else if y = Str.ofString "way" then some (.int way t1) else m0 y) →
      News hp0 L h' [(x, instObj 80 dx), (dx, shapeDict w way colors bits cols t1 t2 t3 t4 k1 k2 k3 k4), (Oo, listOf ito co), (SH, tupOf #[.int way t1, .int colors t2, .int bits t3, .int cols t4]), (L + 1, oC)] →
      TailAt w L fa cd 10 Rf { heap := h', gens := gn0, drawn := dr0, toks := tk', os := os0 }) :
    TailAt w L fa cd 9 Rf { heap := h, gens := gn0, drawn := dr0, toks := tk, os := os0 } :=
  hk_all H_law_tail1.hkN H_law_tail1.hkU (by with_unfolding_all exact H_law_tail1.core) ((((((w, mean), mg), ((mb, hp0), L)), (((fa, GT), Oo), (SH, x))), ((((dx, cd), oC), (m0, way)), (((colors, bits), cols), (cut, t1)))), (((((t2, t3), t4), (k1, k2)), (((k3, k4), tc), (itT, ito))), ((((cT, co), told), (os, h)), (((gn0, dr0), tk), (os0, Rf))))) KX T K0 hW how hol hcut hIT hIo hrT F N D1 D2 D3 D4 D5 D6 k
end
section
set_option maxHeartbeats 16000000
theorem kwK31 : True := by
  exact True.intro
section
variable {prog : Program} {w : World} {A : Around} {E : Value → Shared → Prop} {s : Shared} {env : Env} {h₀ : Heap} {L : Addr} {m : Str → Option Value} {nw : List (Addr × Obj)} {st : Stmt} {rest : List Stmt} {Q : Flow → Shared → Prop}
noncomputable def MeetL (h₀ : Heap) (L : Addr) (m : Str → Option Value) (nw : List (Addr × Obj)) (s : Shared) (x : Str) (P : List Int → Prop) (f : Flow) (s' : Shared) : Prop :=
  f = .next ∧ ∃ D its c ks h' tk', s' = { s with heap := h', toks := tk' } ∧ Fr h₀ L h' (fun y => if y = x then some (.ref D) else m y) ∧ News h₀ L h' ((D, listOf its c) :: nw) ∧ (∀ p ∈ nw, p.1 ≠ D) ∧ IntsAre its.toList ks ∧ P ks
theorem MeetL.intro {x : Str} {P : List Int → Prop} {D : Addr} {its : Array Value} {c : Nat} {ks : List Int} {h' : Heap} {tk' : Nat} (F : Fr h₀ L h' (fun y => if y = x then some (.ref D) else m y)) (N : News h₀ L h' ((D, listOf its c) :: nw)) (hD : ∀ p ∈ nw, p.1 ≠ D) (hi : IntsAre its.toList ks) (hP : P ks) :
    MeetL h₀ L m nw s x P .next { s with heap := h', toks := tk' } := ⟨rfl, D, its, c, ks, h', tk', rfl, F, N, hD, hi, hP⟩
theorem nMeetL {x : Str} (F : Fr h₀ L s.heap m) (N : News h₀ L s.heap nw) (P : List Int → Prop)
    (h1 : wpAny (model prog w) A (exec st env) (MeetL h₀ L m nw s x P) (fun _ _ => False) s)
    (h2 : ∀ D its c ks h' tk', Fr h₀ L h' (fun y => if y = x then some (.ref D) else m y) → News h₀ L h' ((D, listOf its c) :: nw) → (∀ p ∈ nw, p.1 ≠ D) → IntsAre its.toList ks → P ks → wpN (model prog w) A (execs rest env) Q E { s with heap := h', toks := tk' }) : wpN (model prog w) A (execs (st :: rest) env) Q E s := by
  refine nExecs (nOf (wpAny_mono h1 (fun f s' hq => ?_) fun _ _ q => q.elim))
  obtain ⟨rfl, D, its, c, ks, h', tk', rfl, F', N', hD, hi, hP⟩ := hq
  exact h2 D its c ks h' tk' F' N' hD hi hP
end
noncomputable def someAt (n : Int) (i : Nat) (k : Int) : Int := if (i : Int).fmod (n + 1) = 0 then k.fmod 6 else k
theorem some_in {n : Int} {os : List Int} (h : Within 256 os) : Within 256 ((List.range os.length).map fun i => someAt n i (os.getD i 0)) := fun x hx => by
  obtain ⟨i, _, rfl⟩ := List.mem_map.mp hx
  have hk := Within.at h i
  unfold someAt
  split
  · rw [Int.fmod_eq_emod_of_nonneg _ (by decide)]; lia
  · exact hk
namespace H_law_tail2
abbrev hkD : Type := ((((((World × (ExcName → Option Value)) × (Str → Option Value)) × ((Str → Option Value) × Heap)) × (((Addr × Addr) × Addr) × (Addr × Addr))) × ((((Addr × Value) × Obj) × ((Str → Option Value) × Int)) × ((Int × Int) × (Int × Int)))) × (((((Tok × Tok) × Tok) × (Tok × Tok)) × (((Tok × Tok) × Tok) × (Tok × (Array Value)))) × ((((Nat × (List Int)) × Value) × (Heap × (Array GenState))) × ((Drawn × Nat) × (OsState × (Flow → Shared → Prop))))))
def hkP (w : World) (mean : ExcName → Option Value) (mg : Str → Option Value) (mb : Str → Option Value) (hp0 : Heap) (L : Addr) (fa : Addr) (Oo : Addr) (SH : Addr) (x : Addr) (dx : Addr) (cd : Value) (oC : Obj) (m0 : Str → Option Value) (way : Int) (colors : Int) (bits : Int) (cols : Int) (cut : Int) (t1 : Tok) (t2 : Tok) (t3 : Tok) (t4 : Tok) (k1 : Tok) (k2 : Tok) (k3 : Tok) (k4 : Tok) (tc : Tok) (ito : Array Value) (co : Nat) (os : List Int) (vT : Value) (h : Heap) (gn0 : Array GenState) (dr0 : Drawn) (tk : Nat) (os0 : OsState) (Rf : Flow → Shared → Prop) : Prop := ∀ (KX : (Mine.hd.heap_39 w.params).In hp0) (T : Top Mine.hd.view_39 (looseW Mine.hd.view_39 [Str.ofString "PostError"]) mean mg mb hp0) (K0 : Below callerA hp0 [] hp0) (hW : WayOk way colors bits cols) (how : Within 256 os) (hol : os.length ≤ 30) (hcut : 0 ≤ cut ∧ cut ≤ (os.length : Int)) (hIo : IntsAre ito.toList os) (F : Fr hp0 L h (fun y => if y = Str.ofString "made" then some (.ref x) else if y = Str.ofString "told" then some vT else if y = Str.ofString "cut" then some (.int cut tc) else if y = Str.ofString "shape" then some (.ref SH) else if y = Str.ofString "octets" then some (.ref Oo)
      else if y = Str.ofString "columns" then some (.int cols t4) else if y = Str.ofString "colors" then some (.int colors t2) else if y = Str.ofString "bits" then some (.int bits t3) else if y = Str.ofString "way" then some (.int way t1) else m0 y)) (N : News hp0 L h [(x, instObj 80 dx), (dx, shapeDict w way colors bits cols t1 t2 t3 t4 k1 k2 k3 k4), (Oo, listOf ito co), (SH, tupOf #[.int way t1, .int colors t2, .int bits t3, .int cols t4]), (L + 1, oC)]) (dC : oC.data = .cell none) (D1 : @Ne Nat x Oo ∧ @Ne Nat x SH ∧ @Ne Nat x (L + 1)) (D2 : @Ne Nat dx Oo ∧ @Ne Nat dx SH ∧ @Ne Nat dx (L + 1)) (D4 : @Ne Nat Oo SH ∧ @Ne Nat Oo (L + 1)) (D5 : @Ne Nat SH (L + 1)) (D6 : @Ne Nat x dx) (k : ∀ h' tk' m', Fr hp0 L h' m' → TailAt w L fa cd 15 Rf { heap := h', gens := gn0, drawn := dr0, toks := tk', os := os0 }), TailAt w L fa cd 10 Rf { heap := h, gens := gn0, drawn := dr0, toks := tk, os := os0 }
def hkU (d : hkD) : Prop := hkP d.1.1.1.1.1.1 d.1.1.1.1.1.2 d.1.1.1.1.2 d.1.1.1.2.1 d.1.1.1.2.2 d.1.1.2.1.1.1 d.1.1.2.1.1.2 d.1.1.2.1.2 d.1.1.2.2.1 d.1.1.2.2.2 d.1.2.1.1.1.1 d.1.2.1.1.1.2 d.1.2.1.1.2 d.1.2.1.2.1 d.1.2.1.2.2 d.1.2.2.1.1 d.1.2.2.1.2 d.1.2.2.2.1 d.1.2.2.2.2 d.2.1.1.1.1.1 d.2.1.1.1.1.2 d.2.1.1.1.2 d.2.1.1.2.1 d.2.1.1.2.2 d.2.1.2.1.1.1 d.2.1.2.1.1.2 d.2.1.2.1.2 d.2.1.2.2.1 d.2.1.2.2.2 d.2.2.1.1.1.1 d.2.2.1.1.1.2 d.2.2.1.1.2 d.2.2.1.2.1 d.2.2.1.2.2 d.2.2.2.1.1 d.2.2.2.1.2 d.2.2.2.2.1 d.2.2.2.2.2
theorem hkN : Nonempty hkD := (ne2 (ne2 (ne2 (ne2 (ne2 (ne2 neWorld ⟨default⟩) ⟨default⟩) (ne2 ⟨default⟩ ⟨default⟩)) (ne2 (ne2 (ne2 ⟨default⟩ ⟨default⟩) ⟨default⟩) (ne2 ⟨default⟩ ⟨default⟩))) (ne2 (ne2 (ne2 (ne2 ⟨default⟩ ⟨default⟩) ⟨default⟩) (ne2 ⟨default⟩ ⟨default⟩)) (ne2 (ne2 ⟨default⟩ ⟨default⟩) (ne2 ⟨default⟩ ⟨default⟩)))) (ne2 (ne2 (ne2 (ne2 (ne2 ⟨default⟩ ⟨default⟩) ⟨default⟩) (ne2 ⟨default⟩ ⟨default⟩)) (ne2 (ne2 (ne2 ⟨default⟩ ⟨default⟩) ⟨default⟩) (ne2 ⟨default⟩ ⟨default⟩))) (ne2 (ne2 (ne2 (ne2 ⟨default⟩ ⟨default⟩) ⟨default⟩) (ne2 ⟨default⟩ ⟨default⟩)) (ne2 (ne2 ⟨({} : Drawn)⟩ ⟨default⟩) (ne2 ⟨default⟩ ⟨default⟩)))))
@[irreducible] def hkV : hkD := hk_c hkN hkU
@[irreducible] def w : World := hkV.1.1.1.1.1.1
@[irreducible] def mean : ExcName → Option Value := hkV.1.1.1.1.1.2
@[irreducible] def mg : Str → Option Value := hkV.1.1.1.1.2
@[irreducible] def mb : Str → Option Value := hkV.1.1.1.2.1
@[irreducible] def hp0 : Heap := hkV.1.1.1.2.2
@[irreducible] def L : Addr := hkV.1.1.2.1.1.1
@[irreducible] def fa : Addr := hkV.1.1.2.1.1.2
@[irreducible] def Oo : Addr := hkV.1.1.2.1.2
@[irreducible] def SH : Addr := hkV.1.1.2.2.1
@[irreducible] def x : Addr := hkV.1.1.2.2.2
@[irreducible] def dx : Addr := hkV.1.2.1.1.1.1
@[irreducible] def cd : Value := hkV.1.2.1.1.1.2
@[irreducible] def oC : Obj := hkV.1.2.1.1.2
@[irreducible] def m0 : Str → Option Value := hkV.1.2.1.2.1
@[irreducible] def way : Int := hkV.1.2.1.2.2
@[irreducible] def colors : Int := hkV.1.2.2.1.1
@[irreducible] def bits : Int := hkV.1.2.2.1.2
@[irreducible] def cols : Int := hkV.1.2.2.2.1
@[irreducible] def cut : Int := hkV.1.2.2.2.2
@[irreducible] def t1 : Tok := hkV.2.1.1.1.1.1
@[irreducible] def t2 : Tok := hkV.2.1.1.1.1.2
@[irreducible] def t3 : Tok := hkV.2.1.1.1.2
@[irreducible] def t4 : Tok := hkV.2.1.1.2.1
@[irreducible] def k1 : Tok := hkV.2.1.1.2.2
@[irreducible] def k2 : Tok := hkV.2.1.2.1.1.1
@[irreducible] def k3 : Tok := hkV.2.1.2.1.1.2
@[irreducible] def k4 : Tok := hkV.2.1.2.1.2
@[irreducible] def tc : Tok := hkV.2.1.2.2.1
@[irreducible] def ito : Array Value := hkV.2.1.2.2.2
@[irreducible] def co : Nat := hkV.2.2.1.1.1.1
@[irreducible] def os : List Int := hkV.2.2.1.1.1.2
@[irreducible] def vT : Value := hkV.2.2.1.1.2
@[irreducible] def h : Heap := hkV.2.2.1.2.1
@[irreducible] def gn0 : Array GenState := hkV.2.2.1.2.2
@[irreducible] def dr0 : Drawn := hkV.2.2.2.1.1
@[irreducible] def tk : Nat := hkV.2.2.2.1.2
@[irreducible] def os0 : OsState := hkV.2.2.2.2.1
@[irreducible] def Rf : Flow → Shared → Prop := hkV.2.2.2.2.2
theorem core : hkP w mean mg mb hp0 L fa Oo SH x dx cd oC m0 way colors bits cols cut t1 t2 t3 t4 k1 k2 k3 k4 tc ito co os vT h gn0 dr0 tk os0 Rf := by
  unfold hkP
  intro KX T K0 hW how hol hcut hIo F N dC D1 D2 D4 D5 D6 k
  obtain ⟨_, _⟩ := id hcut
  obtain ⟨_, _, _⟩ := id D1
  obtain ⟨_, _, _⟩ := id D2
  obtain ⟨_, _⟩ := id D4
  obtain ⟨d11, d12, d13⟩ := D1
  obtain ⟨d21, d22, d23⟩ := D2
  obtain ⟨d41, d42⟩ := D4
  have hS := hW.shape
  have hsz := rowSize_in hS
  have h1 := hS.cb
  have h2 := hS.cbc
  have h3 := bits_range hS.bit
  have h4 := hS.col
  have h6 := hS.wid
  obtain ⟨rest, hrest⟩ : ∃ rest, (bodyOf lawStmt).drop 15 = rest := ⟨_, rfl⟩
  replace k := fun h' tk' m' a => TailAt.out hrest (k h' tk' m' a)
  refine TailAt.of (show (bodyOf lawStmt).drop 10 = _ :: _ :: _ :: _ :: _ :: (bodyOf lawStmt).drop 15 from rfl) ?_
  rw [hrest]
  clear hrest
  unfold lawEnv
  refine nStep ?_
  k_steps
  all_goals (try dsimp only)
  have qqD9 := True.intro; have qqN9 := True.intro; have qql1 := True.intro
  rename_i hS1 oS FS NS dS
  dsimp only at dS
  rw [hsz.1] at dS
  obtain ⟨tS, dS⟩ : ∃ t, oS.data = .cell (some (.int (rowSize colors bits cols : Nat) t)) := ⟨_, dS⟩
  generalize hn0 : rowSize colors bits cols = n0 at dS hsz
  refine nToks fun tk2 => ?_
  refine nMeetL (x := Str.ofString "some") FS NS (fun ks => ks.length = os.length ∧ Within 256 ks) ?_ ?_
  · refine comp_enumA (by with_unfolding_all rfl) (by with_unfolding_all rfl) (by rfl) (by decide) ?_
    k_steps
    all_goals (try dsimp only)
    refine enumSrcL (F := FS) (N := NS) (someAt n0) (l := Oo) (items := ito) (c := co) (.tail _ (.tail _ (.head _))) hIo (by lia) rfl rfl (by decide) (by rfl) (by rfl) (by rfl) (by decide) (by rfl) (by rfl) (fun hq i kk t u I oI J oJ C oC' D m₂ ys h tk E' hi hk hC hxk hxc F N => ?_) (fun D ys h tk F N hD hys => ?_)
    · have hkb := how kk (List.mem_of_getElem? hk)
      k_steps
      all_goals (try dsimp only)
      all_goals refine CompEl.intro (by k_asm) (by k_asm) ?_
      · rw [someAt, if_pos (by assumption)]
      · rw [someAt, if_neg (by assumption)]
    · exact MeetL.intro (its := ys.toArray) F N hD hys ⟨by simp, some_in how⟩
  intro D its c ks h3 tk3 F3 N3 hD3 hi3 hP3
  dsimp only
  have hkl : ks.length ≤ 30 := by lia
  have hkw := hP3.2
  have e1 := hD3 _ (.head _)
  have e2 := hD3 _ (.tail _ (.head _))
  have e3 := hD3 _ (.tail _ (.tail _ (.head _)))
  have e4 := hD3 _ (.tail _ (.tail _ (.tail _ (.head _))))
  have e5 := hD3 _ (.tail _ (.tail _ (.tail _ (.tail _ (.head _)))))
  dsimp only at e1 e2 e3 e4 e5
  have hn1 : (n0 : Int) + 1 ≠ 0 := by lia
  refine nMeetL (x := Str.ofString "some") F3 (nw := [(x, instObj 80 dx), (dx, shapeDict w way colors bits cols t1 t2 t3 t4 k1 k2 k3 k4), (Oo, listOf ito co), (SH, tupOf #[.int way t1, .int colors t2, .int bits t3, .int cols t4]), (L + 1, oS)]) (news_sub N3 (by k_sub)) (fun ks => ks.length ≤ 30 ∧ Within 256 ks) ?_ ?_
  · skip
    k_steps
    all_goals (try dsimp only)
    · have qqD9 := True.intro; have qqN9 := True.intro; have qql1 := True.intro
      rename_i hc7 D7 ws7 h7 hI7 l7 h8 F7 N7
      obtain ⟨l71, l72, l73, l74, l75, l76⟩ := l7
      exact MeetL.intro F7 (news_sub N7 (by k_sub)) (by k_all) hI7 ⟨by rw [List.length_take]; lia, hkw.take⟩
    · have qqD9 := True.intro; have qqN9 := True.intro; have qql1 := True.intro
      rename_i hc7 h8 F7 N7
      exact MeetL.intro F7 (news_sub N7 (by k_sub)) hD3 hi3 ⟨hkl, hkw⟩
  intro D' its' c' ks' h4' tk4 F4 N4 hD4 hi4 hP4
  dsimp only
  obtain ⟨hkl4, hkw4⟩ := hP4
  have f1 := hD4 _ (.head _)
  have f2 := hD4 _ (.tail _ (.head _))
  have f3 := hD4 _ (.tail _ (.tail _ (.head _)))
  have f4 := hD4 _ (.tail _ (.tail _ (.tail _ (.head _))))
  have f5 := hD4 _ (.tail _ (.tail _ (.tail _ (.tail _ (.head _)))))
  dsimp only at f1 f2 f3 f4 f5
  clear e1 e2 e3 e4 e5 hD3 hD4 hi3 hP3 hkl hkw
  refine nExecs (nAssign (nCallE ?_))
  k_steps
  all_goals (try dsimp only)
  refine nCallFn (by k_asm) (by k_is) ?_
  k_steps
  all_goals (try dsimp only)
  refine nOf ?_
  k_dflt (refine' Spec.useP (own := [(SH, tupOf #[.int way t1, .int colors t2, .int bits t3, .int cols t4]), (D', listOf its' c')]) (lawread_spec w SH D' its' c' ks' way colors bits cols t1 t2 t3 t4 hS hi4 hkw4 (by lia) f4) ?B ?F ?X ?N ?hs ?T ?hk ?hd ?hu ?_; (case B => exact K0); (case F => k_asm); (case X => k_asm); (case N => k_asm); (case hs => k_sub); (case T => k_asm); (case hk => exact rfl); (case hd => ktr_room); (case hu => ktr_units))
  rw [hn0]
  rintro r9 ret9 h9 tk9 hR9 F9 N9 D9
  generalize hq : runA (readF colors bits) (n0 + 1) [] ks' = qr at hR9
  cases qr with
  | none =>
    obtain ⟨rfl, rfl⟩ := hR9
    simp only [List.nil_append] at N9
    clear D9
    k_steps
    all_goals (try dsimp only)
    refine nExecs (nIfN (nAnd (nOf ?_)))
    k_steps
    all_goals (try dsimp only)
    · refine nAnd (nCmpT (nCallE ?_))
      k_steps
      all_goals (try dsimp only)
      refine nCallFn (by k_asm) (by k_is) ?_
      k_steps
      all_goals (try dsimp only)
      have qqD9 := True.intro; have qqN9 := True.intro; have qql1 := True.intro
      rename_i hB tkB FB e2 de2 p1 p2 p3 p4 p5 NB DB
      have n1 := NeAll.of (DB _ (.head _))
      have n2 := NeAll.of (DB _ (.tail _ (.head _)))
      simp only [NeAll, and_true] at n1 n2
      clear DB
      obtain ⟨nC1, nC2, nC3, nC4, nC5, nC6⟩ := n1
      obtain ⟨nD1, nD2, nD3, nD4, nD5, nD6⟩ := n2
      k_dflt (refine' SpecTN.useM (own := [(e2, instObj 230 de2), (de2, toolDict w x #[] p1 #[] p2 p3 p4 p5), (x, instObj 80 dx), (dx, shapeDict w way colors bits cols t1 t2 t3 t4 k1 k2 k3 k4), (D', listOf its' c')]) (fedD_spec w e2 de2 x dx D' way colors bits cols t1 t2 t3 t4 k1 k2 k3 k4 p3 p4 p5 p1 p2 tc its' c' ks' cut hS hW.ways hi4 hkw4 (by lia) ⟨hcut.1, by lia⟩) [] ?B ?F ?X ?N ?hs ?hr ?hd' ?T ?hk ?hd ?hu ?_; (case B => exact K0); (case F => k_asm); (case X => k_asm); (case N => k_asm); (case T => k_asm); (case hk => exact rfl); (case hd => ktr_room); (case hu => ktr_units); (case hs => k_sub); (case hr => k_sub); (case hd' => ((repeat (refine List.forall_mem_cons.mpr ⟨?_, ?_⟩; (focus k_all))); exact List.forall_mem_nil _)))
      rintro r9 n9 h9 tk9 hR9 F9 N9 D9
      rw [read_law (by lia), hn0, hq] at hR9
      obtain ⟨rfl, rfl⟩ := hR9
      dsimp only
      k_steps
      all_goals (try dsimp only)
      refine nExecsNil ?_
      dsimp only
      exact k _ _ _ F9
    · have qqD9 := True.intro; have qqN9 := True.intro; have qql1 := True.intro
      rename_i hq8 F8 N8 hw9
      refine nExecsNil ?_
      dsimp only
      exact k _ _ _ F8
  | some out =>
    obtain ⟨G9, itq, cq, rfl, rfl, hI9⟩ := hR9
    have gg := NeAll.of (D9 _ (.head _))
    simp only [NeAll, and_true] at gg
    obtain ⟨gg1, gg2, gg3, gg4, gg5, gg6⟩ := gg
    simp only [List.cons_append, List.nil_append] at N9
    clear D9
    k_steps
    all_goals (try dsimp only)
    refine nExecs (nIfN (nAnd (nOf ?_)))
    k_steps
    all_goals (try dsimp only)
    · refine nAnd (nCmpT (nCallE ?_))
      k_steps
      all_goals (try dsimp only)
      refine nCallFn (by k_asm) (by k_is) ?_
      k_steps
      all_goals (try dsimp only)
      have qqD9 := True.intro; have qqN9 := True.intro; have qql1 := True.intro
      rename_i hB tkB FB e2 de2 p1 p2 p3 p4 p5 NB DB
      have n1 := NeAll.of (DB _ (.head _))
      have n2 := NeAll.of (DB _ (.tail _ (.head _)))
      simp only [NeAll, and_true] at n1 n2
      clear DB
      obtain ⟨nC1, nC2, nC3, nC4, nC5, nC6, nC7⟩ := n1
      obtain ⟨nD1, nD2, nD3, nD4, nD5, nD6, nD7⟩ := n2
      k_dflt (refine' SpecTN.useM (own := [(e2, instObj 230 de2), (de2, toolDict w x #[] p1 #[] p2 p3 p4 p5), (x, instObj 80 dx), (dx, shapeDict w way colors bits cols t1 t2 t3 t4 k1 k2 k3 k4), (D', listOf its' c')]) (fedD_spec w e2 de2 x dx D' way colors bits cols t1 t2 t3 t4 k1 k2 k3 k4 p3 p4 p5 p1 p2 tc its' c' ks' cut hS hW.ways hi4 hkw4 (by lia) ⟨hcut.1, by lia⟩) [(G9, listOf itq cq)] ?B ?F ?X ?N ?hs ?hr ?hd' ?T ?hk ?hd ?hu ?_; (case B => exact K0); (case F => k_asm); (case X => k_asm); (case N => k_asm); (case T => k_asm); (case hk => exact rfl); (case hd => ktr_room); (case hu => ktr_units); (case hs => k_sub); (case hr => k_sub); (case hd' => ((repeat (refine List.forall_mem_cons.mpr ⟨?_, ?_⟩; (focus k_all))); exact List.forall_mem_nil _)))
      rintro r9 n9 h9 tk9 hR9 F9 N9 D9
      rw [read_law (by lia), hn0, hq] at hR9
      obtain ⟨G3, it3, c3, rfl, rfl, hI3⟩ := hR9
      simp only [List.cons_append, List.nil_append] at N9
      dsimp only
      k_steps
      all_goals (try dsimp only)
      refine nExecsNil ?_
      dsimp only
      exact k _ _ _ F9
    · have qqD9 := True.intro; have qqN9 := True.intro; have qql1 := True.intro
      rename_i hq8 F8 N8 hw9
      refine nExecsNil ?_
      dsimp only
      exact k _ _ _ F8
end H_law_tail2
theorem law_tail2 (w : World) (mean : ExcName → Option Value) (mg mb : Str → Option Value) (hp0 : Heap) (L fa Oo SH x dx : Addr) (cd : Value) (oC : Obj) (m0 : Str → Option Value) (way colors bits cols cut : Int) (t1 t2 t3 t4 k1 k2 k3 k4 tc : Tok) (ito : Array Value) (co : Nat) (os : List Int) (vT : Value)
    (h : Heap) (gn0 : Array GenState) (dr0 : Drawn) (tk : Nat) (os0 : OsState) (Rf : Flow → Shared → Prop)
    (KX : (Mine.hd.heap_39 w.params).In hp0) (T : Top Mine.hd.view_39 (looseW Mine.hd.view_39 [Str.ofString "PostError"]) mean mg mb hp0) (K0 : Below callerA hp0 [] hp0)
    (hW : WayOk way colors bits cols) (how : Within 256 os) (hol : os.length ≤ 30) (hcut : 0 ≤ cut ∧ cut ≤ (os.length : Int)) (hIo : IntsAre ito.toList os)
    (F : Fr hp0 L h (fun y => if y = Str.ofString "made" then some (.ref x) else if y = Str.ofString "told" then some vT else if y = Str.ofString "cut" then some (.int cut tc) else if y = Str.ofString "shape" then some (.ref SH) else if y = Str.ofString "octets" then some (.ref Oo)
      else if y = Str.ofString "columns" then some (.int cols t4) else if y = Str.ofString "colors" then some (.int colors t2) else if y = Str.ofString "bits" then some (.int bits t3) else if y = Str.ofString "way" then some (.int way t1) else m0 y))
    (N : News hp0 L h [(x, instObj 80 dx), (dx, shapeDict w way colors bits cols t1 t2 t3 t4 k1 k2 k3 k4), (Oo, listOf ito co), (SH, tupOf #[.int way t1, .int colors t2, .int bits t3, .int cols t4]), (L + 1, oC)]) (dC : oC.data = .cell none)
    (D1 : @Ne Nat x Oo ∧ @Ne Nat x SH ∧ @Ne Nat x (L + 1)) (D2 : @Ne Nat dx Oo ∧ @Ne Nat dx SH ∧ @Ne Nat dx (L + 1)) (D4 : @Ne Nat Oo SH ∧ @Ne Nat Oo (L + 1)) (D5 : @Ne Nat SH (L + 1)) (D6 : @Ne Nat x dx)
    (k : ∀ h' tk' m', Fr hp0 L h' m' → TailAt w L fa cd 15 Rf { heap := h', gens := gn0, drawn := dr0, toks := tk', os := os0 }) :
    TailAt w L fa cd 10 Rf { heap := h, gens := gn0, drawn := dr0, toks := tk, os := os0 } :=
  hk_all H_law_tail2.hkN H_law_tail2.hkU (by with_unfolding_all exact H_law_tail2.core) ((((((w, mean), mg), (mb, hp0)), (((L, fa), Oo), (SH, x))), ((((dx, cd), oC), (m0, way)), ((colors, bits), (cols, cut)))), (((((t1, t2), t3), (t4, k1)), (((k2, k3), k4), (tc, ito))), ((((co, os), vT), (h, gn0)), ((dr0, tk), (os0, Rf))))) KX T K0 hW how hol hcut hIo F N dC D1 D2 D4 D5 D6 k
end
section
set_option maxHeartbeats 16000000
theorem SpecT.use0 {w : World} {f : Addr} {vs : List Value} {room : Nat} {mean : ExcName → Option Value} {mg mb : Str → Option Value} {dp un : Nat} {gd : Option (List Code)} {cn : Str} {cs : Scope} {a : Addr} {ccd : Value} {cl : List (Str × Addr)} {A₀ : Around} {base h₀ : Heap} {L : Addr} {m : Str → Option Value} {news : List (Addr × Obj)} {s : Shared} {Q E : Value → Shared → Prop}
    {R : Value → List (Addr × Obj) → Prop} (C : SpecT w f vs [] room R)
    (B : Below A₀ base [] h₀) (F : Fr h₀ L s.heap m) (X : (Mine.hd.heap_39 w.params).In h₀) (N : News h₀ L s.heap news)
    (T : Top Mine.hd.view_39 (looseW Mine.hd.view_39 [Str.ofString "PostError"]) mean mg mb h₀) (hk : cs.kind = .function) (hd : dp + room < recursionLimit) (hu : un + 8 * room < cLine)
    (h : ∀ r ret h' tk', R r ret → Fr h₀ L h' m → News h₀ L h' (ret ++ news) → (∀ p ∈ ret, ∀ q ∈ news, p.1 ≠ q.1) → Q r { s with heap := h', toks := tk' }) :
    wpAny (model PySem.Challenge.rw_nt0492_01.row.prog w) (ktrTop dp un gd cn cs L a ccd cl []) (call (.ref f) vs) Q E s :=
  C mean mg mb dp un gd cn cs a ccd cl A₀ base h₀ L m news s Q E B F X News.nil N (fun _ hp => nomatch hp) T hk hd hu (fun r own' h' tk' F' N' hdis hR => h r own' h' tk' hR F' N' hdis)
theorem kwK41 : True := by
  k_with "call ref" => ((with_reducible show wpAny _ _ (call (Value.ref 294) [Value.int _ _, Value.int _ _, Value.int _ _, Value.int _ _]) _ _ _); k_dflt (refine' SpecT.use0 (refused_spec _ _ _ _ _ _ _ _ _) ?qqB ?qqF ?qqX ?qqN ?qqT ?qqhk ?qqhd ?qqhu ?_; (case qqB => k_asm); (case qqF => k_asm); (case qqX => k_asm); (case qqN => k_asm); (case qqT => k_asm); (case qqhk => exact rfl); (case qqhd => ktr_room); (case qqhu => ktr_units); k_whole); intro _ _ _ _ qqhR9 _ qqN9 qqD9; obtain ⟨qqe1, qqe2, _⟩ := qqhR9; subst qqe1; have e3 := qqe2 (by assumption); subst e3; clear qqD9; (try simp only [List.nil_append] at qqN9))
  k_with "eval ListComp" => (k_here; k_dflt (refine LCt.ListComp_T (F₀ := by k_asm) (by with_unfolding_all rfl) (by decide) (by rfl) (by decide) (by rfl) ?_))
  exact True.intro
section
open LCg LCt
variable {prog : Program} {w : World} {A : Around} {E : Value → Shared → Prop} {s : Shared} {h₀ : Heap} {L : Addr} {m : Str → Option Value} {env : Env}
noncomputable def NoEl (h₀ : Heap) (L : Addr) (m : Str → Option Value) (s : Shared) (all : List (Addr × Obj)) (ok : Bool) (s' : Shared) : Prop := ok = false ∧ ∃ h' tk', s' = { s with heap := h', toks := tk' } ∧ Fr h₀ L h' m ∧ News h₀ L h' all
theorem NoEl.intro {all : List (Addr × Obj)} {h' : Heap} {tk' : Nat} (F : Fr h₀ L h' m) (N : News h₀ L h' all) : NoEl h₀ L m s all false { s with heap := h', toks := tk' } := ⟨rfl, h', tk', rfl, F, N⟩
theorem no_turns {ct elt : Expr} {x : Str} {scope : Scope} {cl : List (Str × Addr)} {S : List (Addr × Obj) → Prop} {P : Nat → Value → Prop} {Fin : List Value → List (Addr × Obj) → Prop} {news : List (Addr × Obj)} (hS : S news)
    (turn : ∀ i v I oI C oC D m₂ h tk (E' : Value → Shared → Prop), P i v → NsObj oC m₂ → m₂ x = some v → Fr h₀ L h m → News h₀ L h ((I, oI) :: (C, oC) :: (D, lst []) :: news) →
      wpAny (model prog w) A (isTrue ct (compEnvC scope cl C env) (eval ct (compEnvC scope cl C env))) (NoEl h₀ L m { s with heap := h, toks := tk } ((I, oI) :: (C, oC) :: (D, lst []) :: news)) E' { s with heap := h, toks := tk })
    (fin : Fin [] news) : ∀ (j i : Nat), CompRestT prog w A h₀ L m env ct elt x scope cl s S P Fin j i [] news := by
  intro j
  induction j with
  | zero => intro i; exact CompRestT.zero fin
  | succ j ih =>
    intro i
    refine CompRestT.succ ?_
    intro v I oI C oC D m₂ h tk E' hv hC hx F N off ne
    refine wpAny_mono (turn i v I oI C oC D m₂ h tk E' hv hC hx F N) (fun ok s₂ hq => ?_) fun _ _ e => e
    obtain ⟨rfl, h', tk', rfl, F', N'⟩ := hq
    exact ⟨h', tk', news, rfl, F', N', off, hS, ih (i + 1)⟩
end
noncomputable def OddAt (nw : List (Addr × Obj)) (v : Value) : Prop := ∃ T a b c d ta tb tc td, v = .ref T ∧ (T, tupOf #[.int a ta, .int b tb, .int c tc, .int d td]) ∈ nw ∧ ¬ vShape a b c d
namespace H_law_tail4
abbrev hkD : Type := (((((World × (ExcName → Option Value)) × (Str → Option Value)) × ((Str → Option Value) × Heap)) × (((Addr × Addr) × Addr) × (Value × (Str → Option Value)))) × ((((Heap × (Array GenState)) × Drawn) × (Nat × OsState)) × (((Flow → Shared → Prop) × (Array Value)) × (Nat × (List (Addr × Obj))))))
def hkP (w : World) (mean : ExcName → Option Value) (mg : Str → Option Value) (mb : Str → Option Value) (hp0 : Heap) (L : Addr) (fa : Addr) (l : Addr) (cd : Value) (m0 : Str → Option Value) (h : Heap) (gn0 : Array GenState) (dr0 : Drawn) (tk : Nat) (os0 : OsState) (Rf : Flow → Shared → Prop) (its : Array Value) (c : Nat) (nw : List (Addr × Obj)) : Prop := ∀ (KX : (Mine.hd.heap_39 w.params).In hp0) (T : Top Mine.hd.view_39 (looseW Mine.hd.view_39 [Str.ofString "PostError"]) mean mg mb hp0) (K0 : Below callerA hp0 [] hp0) (F : Fr hp0 L h (fun y => if y = Str.ofString "odd" then some (.ref l) else m0 y)) (N : News hp0 L h nw) (hm : (l, listOf its c) ∈ nw) (hz : its.size ≤ 100) (hall : ∀ (i : Nat) v, its[i]? = some v → OddAt nw v) (k : ∀ h' tk' m', Fr hp0 L h' m' → Rf (.ret (.bool true)) { heap := h', gens := gn0, drawn := dr0, toks := tk', os := os0 }), TailAt w L fa cd 17 Rf { heap := h, gens := gn0, drawn := dr0, toks := tk, os := os0 }
def hkU (d : hkD) : Prop := hkP d.1.1.1.1.1 d.1.1.1.1.2 d.1.1.1.2 d.1.1.2.1 d.1.1.2.2 d.1.2.1.1.1 d.1.2.1.1.2 d.1.2.1.2 d.1.2.2.1 d.1.2.2.2 d.2.1.1.1.1 d.2.1.1.1.2 d.2.1.1.2 d.2.1.2.1 d.2.1.2.2 d.2.2.1.1 d.2.2.1.2 d.2.2.2.1 d.2.2.2.2
theorem hkN : Nonempty hkD := (ne2 (ne2 (ne2 (ne2 (ne2 neWorld ⟨default⟩) ⟨default⟩) (ne2 ⟨default⟩ ⟨default⟩)) (ne2 (ne2 (ne2 ⟨default⟩ ⟨default⟩) ⟨default⟩) (ne2 ⟨default⟩ ⟨default⟩))) (ne2 (ne2 (ne2 (ne2 ⟨default⟩ ⟨default⟩) ⟨({} : Drawn)⟩) (ne2 ⟨default⟩ ⟨default⟩)) (ne2 (ne2 ⟨default⟩ ⟨default⟩) (ne2 ⟨default⟩ ⟨default⟩))))
@[irreducible] def hkV : hkD := hk_c hkN hkU
@[irreducible] def w : World := hkV.1.1.1.1.1
@[irreducible] def mean : ExcName → Option Value := hkV.1.1.1.1.2
@[irreducible] def mg : Str → Option Value := hkV.1.1.1.2
@[irreducible] def mb : Str → Option Value := hkV.1.1.2.1
@[irreducible] def hp0 : Heap := hkV.1.1.2.2
@[irreducible] def L : Addr := hkV.1.2.1.1.1
@[irreducible] def fa : Addr := hkV.1.2.1.1.2
@[irreducible] def l : Addr := hkV.1.2.1.2
@[irreducible] def cd : Value := hkV.1.2.2.1
@[irreducible] def m0 : Str → Option Value := hkV.1.2.2.2
@[irreducible] def h : Heap := hkV.2.1.1.1.1
@[irreducible] def gn0 : Array GenState := hkV.2.1.1.1.2
@[irreducible] def dr0 : Drawn := hkV.2.1.1.2
@[irreducible] def tk : Nat := hkV.2.1.2.1
@[irreducible] def os0 : OsState := hkV.2.1.2.2
@[irreducible] def Rf : Flow → Shared → Prop := hkV.2.2.1.1
@[irreducible] def its : Array Value := hkV.2.2.1.2
@[irreducible] def c : Nat := hkV.2.2.2.1
@[irreducible] def nw : List (Addr × Obj) := hkV.2.2.2.2
theorem core : hkP w mean mg mb hp0 L fa l cd m0 h gn0 dr0 tk os0 Rf its c nw := by
  unfold hkP
  intro KX T K0 F N hm hz hall k
  refine TailAt.of (show (bodyOf lawStmt).drop 17 = [_] from rfl) ?_
  unfold lawEnv
  refine nStep ?_
  k_steps
  all_goals (try dsimp only)
  refine LCt.CompSrcT.ledger rfl F N hm (by rw [sizeLine_eq]; lia) fun g' => no_turns (.inr ⟨_, hm, rfl, _, rfl⟩) (fun i v I oI C oC D m₂ h tk E' hv hC hx F N => ?_) ?_ _ _
  · obtain ⟨T9, a, b, c, d, ta, tb, tc, td, rfl, hT9, hvs⟩ := hall i v hv
    have hT8 : (T9, tupOf #[.int a ta, .int b tb, .int c tc, .int d td]) ∈ (I, oI) :: (C, oC) :: (D, LCg.lst []) :: nw := .tail _ (.tail _ (.tail _ hT9))
    k_steps
    all_goals (try dsimp only)
    exact NoEl.intro (by assumption) (by assumption)
  · intro D h' tk' F' N' o1
    k_steps
    all_goals (try dsimp only)
    exact k _ _ _ (by assumption)
end H_law_tail4
theorem law_tail4 (w : World) (mean : ExcName → Option Value) (mg mb : Str → Option Value) (hp0 : Heap) (L fa l : Addr) (cd : Value) (m0 : Str → Option Value) (h : Heap) (gn0 : Array GenState) (dr0 : Drawn) (tk : Nat) (os0 : OsState) (Rf : Flow → Shared → Prop) (its : Array Value) (c : Nat) (nw : List (Addr × Obj))
    (KX : (Mine.hd.heap_39 w.params).In hp0) (T : Top Mine.hd.view_39 (looseW Mine.hd.view_39 [Str.ofString "PostError"]) mean mg mb hp0) (K0 : Below callerA hp0 [] hp0)
    (F : Fr hp0 L h (fun y => if y = Str.ofString "odd" then some (.ref l) else m0 y)) (N : News hp0 L h nw) (hm : (l, listOf its c) ∈ nw) (hz : its.size ≤ 100) (hall : ∀ (i : Nat) v, its[i]? = some v → OddAt nw v)
    (k : ∀ h' tk' m', Fr hp0 L h' m' → Rf (.ret (.bool true)) { heap := h', gens := gn0, drawn := dr0, toks := tk', os := os0 }) :
    TailAt w L fa cd 17 Rf { heap := h, gens := gn0, drawn := dr0, toks := tk, os := os0 } :=
  hk_all H_law_tail4.hkN H_law_tail4.hkU (by with_unfolding_all exact H_law_tail4.core) (((((w, mean), mg), (mb, hp0)), (((L, fa), l), (cd, m0))), ((((h, gn0), dr0), (tk, os0)), ((Rf, its), (c, nw)))) KX T K0 F N hm hz hall k
end
section
set_option maxHeartbeats 16000000
theorem odd_all {nw : List (Addr × Obj)} {its : Array Value} (h : ∀ v ∈ its.toList, OddAt nw v) : ∀ (i : Nat) v, its[i]? = some v → OddAt nw v := fun i v hv => h v (List.mem_of_getElem? (by rw [Array.getElem?_toList]; exact hv))
namespace H_law_tail3
abbrev hkD : Type := ((((World × (ExcName → Option Value)) × ((Str → Option Value) × (Str → Option Value))) × ((Heap × Addr) × (Addr × Value))) × ((((Str → Option Value) × Heap) × ((Array GenState) × Drawn)) × ((Nat × OsState) × (Flow → Shared → Prop))))
def hkP (w : World) (mean : ExcName → Option Value) (mg : Str → Option Value) (mb : Str → Option Value) (hp0 : Heap) (L : Addr) (fa : Addr) (cd : Value) (m0 : Str → Option Value) (h : Heap) (gn0 : Array GenState) (dr0 : Drawn) (tk : Nat) (os0 : OsState) (Rf : Flow → Shared → Prop) : Prop := ∀ (KX : (Mine.hd.heap_39 w.params).In hp0) (T : Top Mine.hd.view_39 (looseW Mine.hd.view_39 [Str.ofString "PostError"]) mean mg mb hp0) (K0 : Below callerA hp0 [] hp0) (F : Fr hp0 L h m0) (k : ∀ h' tk' m', Fr hp0 L h' m' → Rf (.ret (.bool true)) { heap := h', gens := gn0, drawn := dr0, toks := tk', os := os0 }), TailAt w L fa cd 15 Rf { heap := h, gens := gn0, drawn := dr0, toks := tk, os := os0 }
def hkU (d : hkD) : Prop := hkP d.1.1.1.1 d.1.1.1.2 d.1.1.2.1 d.1.1.2.2 d.1.2.1.1 d.1.2.1.2 d.1.2.2.1 d.1.2.2.2 d.2.1.1.1 d.2.1.1.2 d.2.1.2.1 d.2.1.2.2 d.2.2.1.1 d.2.2.1.2 d.2.2.2
theorem hkN : Nonempty hkD := (ne2 (ne2 (ne2 (ne2 neWorld ⟨default⟩) (ne2 ⟨default⟩ ⟨default⟩)) (ne2 (ne2 ⟨default⟩ ⟨default⟩) (ne2 ⟨default⟩ ⟨default⟩))) (ne2 (ne2 (ne2 ⟨default⟩ ⟨default⟩) (ne2 ⟨default⟩ ⟨({} : Drawn)⟩)) (ne2 (ne2 ⟨default⟩ ⟨default⟩) ⟨default⟩)))
@[irreducible] def hkV : hkD := hk_c hkN hkU
@[irreducible] def w : World := hkV.1.1.1.1
@[irreducible] def mean : ExcName → Option Value := hkV.1.1.1.2
@[irreducible] def mg : Str → Option Value := hkV.1.1.2.1
@[irreducible] def mb : Str → Option Value := hkV.1.1.2.2
@[irreducible] def hp0 : Heap := hkV.1.2.1.1
@[irreducible] def L : Addr := hkV.1.2.1.2
@[irreducible] def fa : Addr := hkV.1.2.2.1
@[irreducible] def cd : Value := hkV.1.2.2.2
@[irreducible] def m0 : Str → Option Value := hkV.2.1.1.1
@[irreducible] def h : Heap := hkV.2.1.1.2
@[irreducible] def gn0 : Array GenState := hkV.2.1.2.1
@[irreducible] def dr0 : Drawn := hkV.2.1.2.2
@[irreducible] def tk : Nat := hkV.2.2.1.1
@[irreducible] def os0 : OsState := hkV.2.2.1.2
@[irreducible] def Rf : Flow → Shared → Prop := hkV.2.2.2
theorem core : hkP w mean mg mb hp0 L fa cd m0 h gn0 dr0 tk os0 Rf := by
  unfold hkP
  intro KX T K0 F k
  have N : News hp0 L h [] := News.nil
  refine TailAt.of (show (bodyOf lawStmt).drop 15 = [_, _, _] from rfl) ?_
  unfold lawEnv
  refine nStep ?_
  k_steps
  all_goals (try dsimp only)
  refine nToks fun tk2 => ?_
  refine nStep ?_
  k_steps
  all_goals (try dsimp only)
  rename_i hq FQ NQ
  refine TailAt.out (n := 17) rfl (law_tail4 w mean mg mb hp0 L fa _ cd _ _ gn0 dr0 _ os0 Rf _ _ _ KX T K0 FQ NQ (.head _) (by simp) (fun i v hv => ?_) k)
  refine odd_all (List.forall_mem_cons.mpr ⟨?_, List.forall_mem_cons.mpr ⟨?_, List.forall_mem_cons.mpr ⟨?_, List.forall_mem_cons.mpr ⟨?_, List.forall_mem_cons.mpr ⟨?_, List.forall_mem_cons.mpr ⟨?_, List.forall_mem_cons.mpr ⟨?_, List.forall_mem_cons.mpr ⟨?_, List.forall_mem_cons.mpr ⟨?_, List.forall_mem_cons.mpr ⟨?_, List.forall_mem_cons.mpr ⟨?_, List.forall_mem_singleton.mpr ?_⟩⟩⟩⟩⟩⟩⟩⟩⟩⟩⟩) i v hv
  all_goals exact ⟨_, _, _, _, _, _, _, _, _, rfl, by k_mem, by unfold vShape; decide⟩
end H_law_tail3
theorem law_tail3 (w : World) (mean : ExcName → Option Value) (mg mb : Str → Option Value) (hp0 : Heap) (L fa : Addr) (cd : Value) (m0 : Str → Option Value) (h : Heap) (gn0 : Array GenState) (dr0 : Drawn) (tk : Nat) (os0 : OsState) (Rf : Flow → Shared → Prop)
    (KX : (Mine.hd.heap_39 w.params).In hp0) (T : Top Mine.hd.view_39 (looseW Mine.hd.view_39 [Str.ofString "PostError"]) mean mg mb hp0) (K0 : Below callerA hp0 [] hp0)
    (F : Fr hp0 L h m0) (k : ∀ h' tk' m', Fr hp0 L h' m' → Rf (.ret (.bool true)) { heap := h', gens := gn0, drawn := dr0, toks := tk', os := os0 }) :
    TailAt w L fa cd 15 Rf { heap := h, gens := gn0, drawn := dr0, toks := tk, os := os0 } :=
  hk_all H_law_tail3.hkN H_law_tail3.hkU (by with_unfolding_all exact H_law_tail3.core) ((((w, mean), (mg, mb)), ((hp0, L), (fa, cd))), (((m0, h), (gn0, dr0)), ((tk, os0), Rf))) KX T K0 F k
end
section
set_option maxHeartbeats 16000000
theorem law_tail (w : World) (mean : ExcName → Option Value) (mg mb : Str → Option Value) (hp0 : Heap) (L fa GT Oo SH x dx : Addr) (cd : Value) (oC : Obj) (m0 : Str → Option Value) (way colors bits cols cut : Int) (t1 t2 t3 t4 k1 k2 k3 k4 tc : Tok) (itT ito : Array Value) (cT co : Nat) (told os : List Int)
    (h : Heap) (gn0 : Array GenState) (dr0 : Drawn) (tk : Nat) (os0 : OsState) (Rf : Flow → Shared → Prop)
    (KX : (Mine.hd.heap_39 w.params).In hp0) (T : Top Mine.hd.view_39 (looseW Mine.hd.view_39 [Str.ofString "PostError"]) mean mg mb hp0) (K0 : Below callerA hp0 [] hp0)
    (hW : WayOk way colors bits cols) (how : Within 256 os) (hol : os.length ≤ 30) (hcut : 0 ≤ cut ∧ cut ≤ (os.length : Int)) (hIT : IntsAre itT.toList told) (hIo : IntsAre ito.toList os)
    (hrT : runA (lawF way colors bits) (rowSize colors bits cols) [] os = some told)
    (F : Fr hp0 L h (fun y => if y = Str.ofString "made" then some (.ref x) else if y = Str.ofString "told" then some (.ref GT) else if y = Str.ofString "cut" then some (.int cut tc) else if y = Str.ofString "shape" then some (.ref SH) else if y = Str.ofString "octets" then some (.ref Oo)
      else if y = Str.ofString "columns" then some (.int cols t4) else if y = Str.ofString "colors" then some (.int colors t2) else if y = Str.ofString "bits" then some (.int bits t3) else if y = Str.ofString "way" then some (.int way t1) else m0 y))
    (N : News hp0 L h [(x, instObj 80 dx), (dx, shapeDict w way colors bits cols t1 t2 t3 t4 k1 k2 k3 k4), (GT, listOf itT cT), (Oo, listOf ito co), (SH, tupOf #[.int way t1, .int colors t2, .int bits t3, .int cols t4]), (L + 1, oC)])
    (D1 : @Ne Nat x GT ∧ @Ne Nat x Oo ∧ @Ne Nat x SH ∧ @Ne Nat x (L + 1)) (D2 : @Ne Nat dx GT ∧ @Ne Nat dx Oo ∧ @Ne Nat dx SH ∧ @Ne Nat dx (L + 1)) (D3 : @Ne Nat GT Oo ∧ @Ne Nat GT SH ∧ @Ne Nat GT (L + 1)) (D4 : @Ne Nat Oo SH ∧ @Ne Nat Oo (L + 1)) (D5 : @Ne Nat SH (L + 1)) (D6 : @Ne Nat x dx)
    (dC : oC.data = .cell none) (hRf : ∀ h' tk' m', Fr hp0 L h' m' → Rf (.ret (.bool true)) { heap := h', gens := gn0, drawn := dr0, toks := tk', os := os0 }) :
    TailAt w L fa cd 9 Rf { heap := h, gens := gn0, drawn := dr0, toks := tk, os := os0 } :=
  law_tail1 w mean mg mb hp0 L fa GT Oo SH x dx cd oC m0 way colors bits cols cut t1 t2 t3 t4 k1 k2 k3 k4 tc itT ito cT co told os h gn0 dr0 tk os0 Rf KX T K0 hW how hol hcut hIT hIo hrT F N D1 D2 D3 D4 D5 D6 fun h' tk' F' N' =>
    law_tail2 w mean mg mb hp0 L fa Oo SH x dx cd oC m0 way colors bits cols cut t1 t2 t3 t4 k1 k2 k3 k4 tc ito co os (.ref GT) h' gn0 dr0 tk' os0 Rf KX T K0 hW how hol hcut hIo F' N' dC ⟨D1.2.1, D1.2.2.1, D1.2.2.2⟩ ⟨D2.2.1, D2.2.2.1, D2.2.2.2⟩ D4 D5 D6 fun h'' tk'' m'' F'' =>
      law_tail3 w mean mg mb hp0 L fa cd m'' h'' gn0 dr0 tk'' os0 Rf KX T K0 F'' hRf
end
section
set_option maxHeartbeats 8000000
theorem kwK01 : True := by
  k_with_none
  k_with "hy" => (with_reducible first | assumption | exact And.left (by assumption) | exact And.right (by assumption) | exact And.left (And.right (by assumption)) | exact And.right (And.right (by assumption)) | exact And.left (And.right (And.right (by assumption))) | exact And.right (And.right (And.right (by assumption))) | exact And.left (And.right (And.right (And.right (by assumption)))) | exact And.right (And.right (And.right (And.right (by assumption)))) | exact And.left (And.right (And.right (And.right (And.right (by assumption))))) | exact And.right (And.right (And.right (And.right (And.right (by assumption))))) | exact And.left (And.right (And.right (And.right (And.right (And.right (by assumption)))))) | exact And.right (And.right (And.right (And.right (And.right (And.right (by assumption)))))) | exact And.left (And.right (And.right (And.right (And.right (And.right (And.right (by assumption))))))) | exact And.right (And.right (And.right (And.right (And.right (And.right (And.right (by assumption))))))) | exact And.left (And.right (And.right (And.right (And.right (And.right (And.right (And.right (by assumption)))))))) | exact And.right (And.right (And.right (And.right (And.right (And.right (And.right (And.right (by assumption)))))))) | exact And.left (And.right (And.right (And.right (And.right (And.right (And.right (And.right (And.right (by assumption))))))))) | exact And.right (And.right (And.right (And.right (And.right (And.right (And.right (And.right (And.right (by assumption))))))))) | exact And.left (And.right (And.right (And.right (And.right (And.right (And.right (And.right (And.right (And.right (by assumption)))))))))) | exact And.right (And.right (And.right (And.right (And.right (And.right (And.right (And.right (And.right (And.right (by assumption)))))))))) | exact And.left (And.right (And.right (And.right (And.right (And.right (And.right (And.right (And.right (And.right (And.right (by assumption))))))))))) | exact And.right (And.right (And.right (And.right (And.right (And.right (And.right (And.right (And.right (And.right (And.right (by assumption))))))))))) | exact And.left (And.right (And.right (And.right (And.right (And.right (And.right (And.right (And.right (And.right (And.right (And.right (by assumption)))))))))))) | exact And.right (And.right (And.right (And.right (And.right (And.right (And.right (And.right (And.right (And.right (And.right (And.right (by assumption)))))))))))))
  k_with "lt" => (with_reducible first | assumption | exact Nat.lt_succ_self _ | exact Nat.lt_succ_of_lt (by k_extra "lt"))
  k_with "ne" => ((try dsimp only); with_reducible first | k_extra "hy" | exact Ne.symm (by k_extra "hy") | exact Nat.ne_of_lt (by k_extra "lt") | exact Nat.ne_of_gt (by k_extra "lt") | exact Nat.ne_of_lt (by k_extra "hy") | exact Nat.ne_of_gt (by k_extra "hy"))
  k_with "l" => (with_reducible first | assumption | (refine And.intro ?_ ?_ <;> assumption) | exact iLe (by assumption) rfl | exact iLt (by assumption) rfl | exact iLl (by assumption) rfl | exact iGe (by assumption) rfl | exact nLe (by assumption) rfl | exact nLt (by assumption) rfl | exact nLl (by assumption) rfl | exact Int.le_of_lt (by assumption) | exact Nat.le_of_lt (by assumption) | exact (show (OfNat.ofNat _ : Int) ≤ OfNat.ofNat _ from litI rfl))
  k_with "rm" => (first | exact rm3 (by assumption) rfl | exact rm2 (by assumption) rfl | exact rm1 (by assumption) rfl | exact rm0 (by assumption))
  k_with "execs cons" => ((with_reducible show wpAny _ _ (execs _ _) _ _ (Shared.mk _ _ _ (_ + _) _)); refine toksE fun tk => ?_)
  k_with "execs nil" => ((with_reducible show wpAny _ _ (execs _ _) _ _ (Shared.mk _ _ _ (_ + _) _)); refine toksE fun tk => ?_)
  k_with "sz" => (first | exact szL rfl | exact szA rfl | exact szS rfl | exact szF rfl)
  k_with "un" => (first | exact un3 (by assumption) rfl | exact un2 (by assumption) rfl | exact un1 (by assumption) rfl)
  k_with "binaryOp LShift int int" => (k_here; (with_reducible refine lshB ?qqa ?qqb ?qqc ?_); (case qqa => first | assumption | exact Big.of_small (by lia) (by lia)); (case qqb => lia); (case qqc => lia))
  k_with "binaryOp RShift int int" => (k_here; (with_reducible refine PyProof.Rows.rshift_int ?qqa ?_); (case qqa => first | assumption | lia))
  k_with "binaryOp Mult int int" => (k_here; (with_reducible refine mulB ?qqa ?qqb ?_); (case qqa => first | assumption | exact Big.of_small (by lia) (by lia)); (case qqb => first | assumption | exact Big.of_small (by lia) (by lia)))
  k_with "binaryOp FloorDiv int int" => (k_here; (with_reducible refine divB ?qqa ?qqb ?_); (case qqa => first | assumption | exact Big.of_small (by lia) (by lia)); (case qqb => first | assumption | lia))
  k_with "binaryOp Mod int int" => (k_here; (with_reducible refine mod_int' ?qqa ?_); (case qqa => first | assumption | lia))
  k_with "eval ListComp" => (k_here; k_dflt (refine comp_core (F₀ := by k_asm) (by with_unfolding_all rfl) (by decide) (by rfl) (by decide) (by rfl) ?_))
  k_with "exec Assign cons ListComp" => (k_here; k_dflt (refine comp_coreA (F₀ := by k_asm) (by rfl) (by with_unfolding_all rfl) (by with_unfolding_all rfl) (by decide) (by rfl) (by decide) (by rfl) (by rfl) (by rfl) ?_))
  k_with "binaryOp Add ref ref" => (k_here; (with_reducible show wpAny _ _ (binaryOp _ (Value.ref _) (Value.ref _)) _ _ _); k_dflt (refine' addLK ?qqzF ?qqzN ?qqza ?qqzb ?qqzi ?qqzj ?qqzz ?_; (case qqzF => k_asm); (case qqzN => k_asm); (case qqza => k_mem); (case qqzb => k_mem); (case qqzi => assumption); (case qqzj => assumption); (case qqzz => (simp only [List.length_append, List.length_map, List.length_range, List.length_drop, List.length_cons, List.length_nil]; lia))); intro _ _ _ _ _ qql1 _; (try k_lt qql1))
  k_with "subscriptTail Name Slice ref ref" => (k_here; (with_reducible show wpAny _ _ (subscriptTail _ (PySem.Expr.Slice _ _ none _) (Value.ref _) (Value.ref _)) _ _ _); k_dflt (refine' sliceLK ?qqzF ?qqzN ?qqza ?qqzp ?qqzq ?qqzi ?qqzm ?qqzz ?_ ?qqzs ?qqzt; (case qqzF => k_asm); (case qqzN => k_asm); (case qqza => k_mem); (case qqzp => first | exact IsPart.none | exact IsPart.int _ _); (case qqzq => first | exact IsPart.none | exact IsPart.int _ _); (case qqzi => assumption); (case qqzm => first | exact kmk_from (by assumption) (by lia) | exact kmk_upto (by assumption) (by lia) | exact kmk_run (by assumption) (by lia) (by lia) | exact kmk_upto_neg (by assumption) (by lia)); (case qqzz => lia); (case qqzs => with_unfolding_all rfl); (case qqzt => kmk_pure)); intro _ _ _ _ _ qql1 _; (try k_lt qql1))
  exact True.intro
theorem menuK {prog : Program} {w : World} {A : Around} {E : Value → Shared → Prop} {s : Shared} {h₀ : Heap} {L : Addr} {news : List (Addr × Obj)} {value slice : PySem.Expr} {l : Addr} {items : Array Value} {c : Nat} {ks : List Int} {i : Int} {ui : Tok} {Q : Value → Shared → Prop}
    (N : News h₀ L s.heap news) (hm : (l, listOf items c) ∈ news) (hi : IntsAre items.toList ks) (h0 : 0 ≤ i) (h1 : i < (ks.length : Int)) (hz : ks.length ≤ 1000) (h : ∀ t, Q (.int (ks.getD i.toNat 0) t) s)
    (hs : subscripted slice false (.ref l) (.int i ui) = operate [.ref l, .int i ui] (getItem (.ref l) (.int i ui)) := by with_unfolding_all rfl) : wpAny (model prog w) A (subscriptTail value slice (.ref l) (.int i ui)) Q E s := by
  have hl : s.heap.IsList l items := ⟨_, (N _ hm).1, rfl, c, rfl⟩
  have hlt : i.toNat < ks.length := by lia
  obtain ⟨t, hx⟩ := hi.get i.toNat ks[i.toNat] (by simp [hlt])
  rw [Array.getElem?_toList] at hx
  have e : ks.getD i.toNat 0 = ks[i.toNat] := by rw [List.getD_eq_getElem?_getD, List.getElem?_eq_getElem hlt]; rfl
  have q := h t
  rw [e] at q
  exact PyProof.Rows.tail_any hl.typeIs slot_list_getitem.lookup (wpAny_getItem_list hl h0 (by lia) hx q) hs
theorem kwK02 : True := by
  k_with "subscriptTail" => (k_here; (with_reducible show wpAny _ _ (subscriptTail _ _ (Value.ref _) (Value.int _ _)) _ _ _); k_dflt (refine' menuK ?qqzN ?qqzm ?qqzi ?qqz0 ?qqz1 ?qqzz ?_ ?qqzs; (case qqzN => k_asm); (case qqzm => k_mem); (case qqzi => repeat constructor); (case qqz0 => (simp only [Int.fmod_eq_emod_of_nonneg _ (show (0 : Int) ≤ 4 by decide), Int.fmod_eq_emod_of_nonneg _ (show (0 : Int) ≤ 6 by decide), Int.fmod_eq_emod_of_nonneg _ (show (0 : Int) ≤ 3 by decide), Int.fmod_eq_emod_of_nonneg _ (show (0 : Int) ≤ 9 by decide)]; lia)); (case qqz1 => (simp only [List.length_cons, List.length_nil, Int.fmod_eq_emod_of_nonneg _ (show (0 : Int) ≤ 4 by decide), Int.fmod_eq_emod_of_nonneg _ (show (0 : Int) ≤ 6 by decide), Int.fmod_eq_emod_of_nonneg _ (show (0 : Int) ≤ 3 by decide), Int.fmod_eq_emod_of_nonneg _ (show (0 : Int) ≤ 9 by decide)]; lia)); (case qqzz => (simp only [List.length_cons, List.length_nil]; lia)); (case qqzs => with_unfolding_all rfl)); intro _)
  exact True.intro
theorem way_in {j : Nat} (h : j < 9) : ([10, 1, 2, 12, 15, 13, 11, 15, 14] : List Int).getD j 0 = 1 ∨ ([10, 1, 2, 12, 15, 13, 11, 15, 14] : List Int).getD j 0 = 2 ∨ 10 ≤ ([10, 1, 2, 12, 15, 13, 11, 15, 14] : List Int).getD j 0 ∧ ([10, 1, 2, 12, 15, 13, 11, 15, 14] : List Int).getD j 0 ≤ 15 := by
  have : ∀ j, j < 9 → ([10, 1, 2, 12, 15, 13, 11, 15, 14] : List Int).getD j 0 = 1 ∨ ([10, 1, 2, 12, 15, 13, 11, 15, 14] : List Int).getD j 0 = 2 ∨ 10 ≤ ([10, 1, 2, 12, 15, 13, 11, 15, 14] : List Int).getD j 0 ∧ ([10, 1, 2, 12, 15, 13, 11, 15, 14] : List Int).getD j 0 ≤ 15 := by decide
  exact this j h
theorem col_in {j : Nat} (h : j < 4) : 1 ≤ ([1, 3, 2, 4] : List Int).getD j 0 ∧ ([1, 3, 2, 4] : List Int).getD j 0 ≤ 4 := by
  have : ∀ j, j < 4 → 1 ≤ ([1, 3, 2, 4] : List Int).getD j 0 ∧ ([1, 3, 2, 4] : List Int).getD j 0 ≤ 4 := by decide
  exact this j h
theorem bit_in {j : Nat} (h : j < 6) : ([8, 8, 16, 4, 2, 1] : List Int).getD j 0 ∈ ([1, 2, 4, 8, 16] : List Int) := by
  have : ∀ j, j < 6 → ([8, 8, 16, 4, 2, 1] : List Int).getD j 0 ∈ ([1, 2, 4, 8, 16] : List Int) := by decide
  exact this j h
theorem wid_in {j : Nat} (h : j < 3) : 1 ≤ ([1, 2, 3] : List Int).getD j 0 ∧ ([1, 2, 3] : List Int).getD j 0 ≤ 3 := by
  have : ∀ j, j < 3 → 1 ≤ ([1, 2, 3] : List Int).getD j 0 ∧ ([1, 2, 3] : List Int).getD j 0 ≤ 3 := by decide
  exact this j h
theorem wayOk_mk {way colors bits c : Int} (hway : way = 1 ∨ way = 2 ∨ 10 ≤ way ∧ way ≤ 15) (hcol : 1 ≤ colors ∧ colors ≤ 4) (hbit : bits ∈ ([1, 2, 4, 8, 16] : List Int)) (hc : 1 ≤ c ∧ c ≤ 24) (hwh : way = 2 → (colors * bits * c) % 8 = 0) : WayOk way colors bits c :=
  ⟨⟨by lia, hcol, hbit, hc⟩, hway, hwh⟩
theorem whole8 (a b : Int) : (a * (b * 8)) % 8 = 0 := by rw [← Int.mul_assoc, Int.mul_emod_left]
theorem whole0 {a : Int} (b : Int) (h : a % 8 = 0) : (a * b) % 8 = 0 := by rw [Int.mul_emod, h, Int.zero_mul, Int.zero_emod]
noncomputable def cellAt (x : Int) : Int := (if x < 0 then -x else x) % 1000000
theorem cell_at {cs : List Int} (h : ∀ x ∈ cs, 0 ≤ x ∧ x < 1000000) (i : Nat) : 0 ≤ (cs ++ [0, 0]).getD i 0 ∧ (cs ++ [0, 0]).getD i 0 < 1000000 := by
  rw [List.getD_eq_getElem?_getD]
  cases q : (cs ++ [0, 0])[i]? with
  | none => exact ⟨Int.le_refl 0, (by decide : (0 : Int) < 1000000)⟩
  | some v =>
    rcases List.mem_append.mp (List.mem_of_getElem? q) with hv | hv
    · exact h v hv
    · simp only [List.mem_cons, List.not_mem_nil, or_false, or_self] at hv
      subst hv; exact ⟨Int.le_refl 0, (by decide : (0 : Int) < 1000000)⟩
theorem kwK03 : True := by
  k_with "call ref" => ((with_reducible show wpAny _ _ (call (Value.ref 263) [Value.ref _, Value.ref _]) _ _ _); k_dflt (refine' Spec.useP (own := [(_, tupOf _), (_, listOf _ _)]) (lawtold_spec _ _ _ _ _ _ _ _ _ _ _ _ _ _ ?qqp1 ?qqp2 ?qqp3 ?qqp4 ?qqp5) ?qqB ?qqF ?qqX ?qqN ?qqhs ?qqT ?qqhk ?qqhd ?qqhu ?_; (case qqB => k_asm); (case qqF => k_asm); (case qqX => k_asm); (case qqN => k_asm); (case qqhs => first | exact List.forall_mem_nil _ | (refine List.forall_mem_singleton.mpr ?_; k_mem) | (refine List.forall_mem_cons.mpr ⟨?_, List.forall_mem_singleton.mpr ?_⟩ <;> k_mem)); (case qqT => k_asm); (case qqhk => exact rfl); (case qqhd => ktr_room); (case qqhu => ktr_units); (case qqp1 => with_reducible assumption); (case qqp2 => assumption); (case qqp3 => with_reducible assumption); (case qqp4 => lia); (case qqp5 => with_reducible assumption); k_whole); intro _ _ _ _ qqhR9 _ qqN9 qqD9; obtain ⟨_, _, _, _, qqe1, qqe2, _, _⟩ := qqhR9; subst qqe1; subst qqe2; (try simp only [List.nil_append, List.cons_append] at qqN9); (try (replace qqD9 := NeAll.of (List.forall_mem_singleton.mp qqD9); simp only [NeAll, and_true] at qqD9)))
  k_with "call ref" => ((with_reducible show wpAny _ _ (call (Value.ref 188) [Value.ref _]) _ _ _); k_dflt (refine' Spec.useP (own := [(_, instObj 80 _), (_, _)]) (enc_initP _ _ _ _ _ _ _ _ _ _ _ _ _ _ _) ?qqB ?qqF ?qqX ?qqN ?qqhs ?qqT ?qqhk ?qqhd ?qqhu ?_; (case qqB => k_asm); (case qqF => k_asm); (case qqX => k_asm); (case qqN => k_asm); (case qqhs => first | exact List.forall_mem_nil _ | (refine List.forall_mem_singleton.mpr ?_; k_mem) | (refine List.forall_mem_cons.mpr ⟨?_, List.forall_mem_singleton.mpr ?_⟩ <;> k_mem)); (case qqT => k_asm); (case qqhk => exact rfl); (case qqhd => ktr_room); (case qqhu => ktr_units); k_whole); intro _ _ _ _ qqhR9 _ qqN9 qqD9; obtain ⟨_, _, _, _, _, _, _, qqe1, qqe2⟩ := qqhR9; subst qqe1; subst qqe2; (try simp only [List.nil_append, List.cons_append] at qqN9); (try (replace qqD9 := NeAll.of (List.forall_mem_singleton.mp qqD9); simp only [NeAll, and_true] at qqD9)))
  k_with "call ref" => ((with_reducible show wpAny _ _ (call (Value.ref 230) [Value.ref _]) _ _ _); k_dflt (refine' Spec.useP (own := [(_, instObj 80 _), (_, _)]) (dec_initP _ _ _ _ _ _ _ _ _ _ _ _ _ _ _) ?qqB ?qqF ?qqX ?qqN ?qqhs ?qqT ?qqhk ?qqhd ?qqhu ?_; (case qqB => k_asm); (case qqF => k_asm); (case qqX => k_asm); (case qqN => k_asm); (case qqhs => first | exact List.forall_mem_nil _ | (refine List.forall_mem_singleton.mpr ?_; k_mem) | (refine List.forall_mem_cons.mpr ⟨?_, List.forall_mem_singleton.mpr ?_⟩ <;> k_mem)); (case qqT => k_asm); (case qqhk => exact rfl); (case qqhd => ktr_room); (case qqhu => ktr_units); k_whole); intro _ _ _ _ qqhR9 _ qqN9 qqD9; obtain ⟨_, _, _, _, _, _, _, qqe1, qqe2⟩ := qqhR9; subst qqe1; subst qqe2; (try simp only [List.nil_append, List.cons_append] at qqN9); (try (replace qqD9 := NeAll.of (List.forall_mem_singleton.mp qqD9); simp only [NeAll, and_true] at qqD9)))
  k_with "call ref" => ((with_reducible show wpAny _ _ (call (Value.ref 80) [Value.int _ _, Value.int _ _, Value.int _ _, Value.int _ _]) _ _ _); k_dflt (refine' SpecR.use0 (shape_spec _ _ _ _ _ _ _ _ _) ?qqhP ?qqB ?qqF ?qqX ?qqN ?qqT ?qqhk ?qqhd ?qqhu ?_; (case qqhP => exact vShape_of (by with_reducible assumption)); (case qqB => k_asm); (case qqF => k_asm); (case qqX => k_asm); (case qqN => k_asm); (case qqT => k_asm); (case qqhk => exact rfl); (case qqhd => ktr_room); (case qqhu => ktr_units); k_whole); intro _ _ _ _ qqhR9 _ qqN9 _; obtain ⟨_, _, _, _, _, _, _, qqe1, qqe2⟩ := qqhR9; subst qqe1; subst qqe2; (try simp only [List.nil_append, List.cons_append] at qqN9))
  exact True.intro
namespace H_law_head
abbrev hkD : Type := (((((World × (ExcName → Option Value)) × (Str → Option Value)) × ((Str → Option Value) × Heap)) × ((Addr × Addr) × (Addr × Value))) × ((((Obj × (List Value)) × (List Int)) × (Heap × (Array GenState))) × ((Drawn × Nat) × (OsState × (Flow → Shared → Prop)))))
def hkP (w : World) (mean : ExcName → Option Value) (mg : Str → Option Value) (mb : Str → Option Value) (hp0 : Heap) (L : Addr) (fa : Addr) (l : Addr) (cd : Value) (oC : Obj) (ws : List Value) (ns : List Int) (h1 : Heap) (gn0 : Array GenState) (dr0 : Drawn) (tk1 : Nat) (os0 : OsState) (Rf : Flow → Shared → Prop) : Prop := ∀ (KX : (Mine.hd.heap_39 w.params).In hp0) (T : Top Mine.hd.view_39 (looseW Mine.hd.view_39 [Str.ofString "PostError"]) mean mg mb hp0) (K0 : Below callerA hp0 [] hp0) (hI : IntsAre ws ns) (hl63 : ns.length ≤ 63) (hL : hp0.IsList l ws.toArray) (dC : oC.data = .cell none) (F : Fr hp0 L h1 (bindL (lawEnv L fa cd).kindOf [(Str.ofString "script", .ref l)] fun _ => none)) (N0 : News hp0 L h1 [(L + 1, oC)]) (hRf : ∀ h' tk m', Fr hp0 L h' m' → Rf (.ret (.bool true)) { heap := h', gens := gn0, drawn := dr0, toks := tk, os := os0 }), TailAt w L fa cd 0 Rf { heap := h1, gens := gn0, drawn := dr0, toks := tk1, os := os0 }
def hkU (d : hkD) : Prop := hkP d.1.1.1.1.1 d.1.1.1.1.2 d.1.1.1.2 d.1.1.2.1 d.1.1.2.2 d.1.2.1.1 d.1.2.1.2 d.1.2.2.1 d.1.2.2.2 d.2.1.1.1.1 d.2.1.1.1.2 d.2.1.1.2 d.2.1.2.1 d.2.1.2.2 d.2.2.1.1 d.2.2.1.2 d.2.2.2.1 d.2.2.2.2
theorem hkN : Nonempty hkD := (ne2 (ne2 (ne2 (ne2 (ne2 neWorld ⟨default⟩) ⟨default⟩) (ne2 ⟨default⟩ ⟨default⟩)) (ne2 (ne2 ⟨default⟩ ⟨default⟩) (ne2 ⟨default⟩ ⟨default⟩))) (ne2 (ne2 (ne2 (ne2 ⟨default⟩ ⟨default⟩) ⟨default⟩) (ne2 ⟨default⟩ ⟨default⟩)) (ne2 (ne2 ⟨({} : Drawn)⟩ ⟨default⟩) (ne2 ⟨default⟩ ⟨default⟩))))
@[irreducible] def hkV : hkD := hk_c hkN hkU
@[irreducible] def w : World := hkV.1.1.1.1.1
@[irreducible] def mean : ExcName → Option Value := hkV.1.1.1.1.2
@[irreducible] def mg : Str → Option Value := hkV.1.1.1.2
@[irreducible] def mb : Str → Option Value := hkV.1.1.2.1
@[irreducible] def hp0 : Heap := hkV.1.1.2.2
@[irreducible] def L : Addr := hkV.1.2.1.1
@[irreducible] def fa : Addr := hkV.1.2.1.2
@[irreducible] def l : Addr := hkV.1.2.2.1
@[irreducible] def cd : Value := hkV.1.2.2.2
@[irreducible] def oC : Obj := hkV.2.1.1.1.1
@[irreducible] def ws : List Value := hkV.2.1.1.1.2
@[irreducible] def ns : List Int := hkV.2.1.1.2
@[irreducible] def h1 : Heap := hkV.2.1.2.1
@[irreducible] def gn0 : Array GenState := hkV.2.1.2.2
@[irreducible] def dr0 : Drawn := hkV.2.2.1.1
@[irreducible] def tk1 : Nat := hkV.2.2.1.2
@[irreducible] def os0 : OsState := hkV.2.2.2.1
@[irreducible] def Rf : Flow → Shared → Prop := hkV.2.2.2.2
theorem core : hkP w mean mg mb hp0 L fa l cd oC ws ns h1 gn0 dr0 tk1 os0 Rf := by
  unfold hkP
  intro KX T K0 hI hl63 hL dC F N0 hRf
  obtain ⟨rest, hrest⟩ : ∃ rest, (bodyOf lawStmt).drop 9 = rest := ⟨_, rfl⟩
  refine TailAt.of (show (bodyOf lawStmt).drop 0 = _ :: _ :: _ :: _ :: _ :: _ :: _ :: _ :: _ :: (bodyOf lawStmt).drop 9 from rfl) ?_
  rw [hrest]
  unfold lawEnv
  refine nStep ?_
  k_steps
  all_goals (try dsimp only)
  have qqD9 := True.intro; have qqN9 := True.intro; have qql1 := True.intro
  rename_i D0 ws0 hh0 F0 NN0 hI0 hC0 hLe0 lt0
  refine CompAt.list (.head _) hI0 rfl F0 NN0 (by lia) fun g' => comp_ints cellAt rfl (.head _) (fun i v _ h => h) (fun i k t I oI C oC D m₂ ys h tk E' hi hk hC hx F N off ne => ?_) ?_
  · skip
    k_steps
    all_goals (try dsimp only)
    refine CompEl.intro (by k_asm) (by k_asm) ?_
    rw [Int.fmod_eq_emod_of_nonneg _ (by decide)]; rfl
  intro ys hys
  k_steps
  all_goals (try dsimp only)
  have qqD9 := True.intro; have qqN9 := True.intro; have qql1 := True.intro
  rename_i D1 hh1 tk2 F1 N1 o1
  have hcl : (List.map cellAt (List.take 32 ns)).length ≤ 32 := by rw [List.length_map, List.length_take]; lia
  have hcw : ∀ x ∈ List.map cellAt (List.take 32 ns), 0 ≤ x ∧ x < 1000000 := fun x hx => by
    obtain ⟨y, _, rfl⟩ := List.mem_map.mp hx
    unfold cellAt; lia
  generalize List.map cellAt (List.take 32 ns) = cs at hys hcl hcw
  refine nStep ?_
  k_steps
  all_goals (try dsimp only)
  have qqD9 := True.intro; have qqN9 := True.intro; have qql1 := True.intro
  rename_i FA NA
  replace NA := news_sub (l' := [(D1, LCg.lst ys), (L + 1, oC)]) NA (by k_sub)
  have hfi : 0 ≤ (cs ++ [0, 0]).getD (Int.toNat 0) 0 ∧ (cs ++ [0, 0]).getD (Int.toNat 0) 0 < 1000000 := cell_at hcw 0
  have hse : 0 ≤ (cs ++ [0, 0]).getD (Int.toNat 1) 0 ∧ (cs ++ [0, 0]).getD (Int.toNat 1) 0 < 1000000 := cell_at hcw 1
  generalize (cs ++ [0, 0]).getD (Int.toNat 0) 0 = fi at FA hfi
  generalize (cs ++ [0, 0]).getD (Int.toNat 1) 0 = se at FA hse
  refine nStep ?_
  k_steps
  all_goals (try dsimp only)
  have qqD9 := True.intro; have qqN9 := True.intro; have qql1 := True.intro
  rename_i FB NB
  refine nToks fun tk3 => ?_
  replace NB := news_sub (l' := [(D1, LCg.lst ys), (L + 1, oC)]) NB (by k_sub)
  have hway := way_in (j := (fi.fmod 9).toNat) (by rw [Int.fmod_eq_emod_of_nonneg _ (by decide)]; lia)
  generalize ([10, 1, 2, 12, 15, 13, 11, 15, 14] : List Int).getD (fi.fmod 9).toNat 0 = way at FB hway
  refine nStep ?_
  k_steps
  all_goals (try dsimp only)
  have qqD9 := True.intro; have qqN9 := True.intro; have qql1 := True.intro
  rename_i FC NC
  refine nToks fun tk4 => ?_
  replace NC := news_sub (l' := [(D1, LCg.lst ys), (L + 1, oC)]) NC (by k_sub)
  have hcol := col_in (j := ((fi.fdiv 9).fmod 4).toNat) (by rw [Int.fmod_eq_emod_of_nonneg _ (by decide)]; lia)
  have hbit := bit_in (j := (se.fmod 6).toNat) (by rw [Int.fmod_eq_emod_of_nonneg _ (by decide)]; lia)
  generalize ([1, 3, 2, 4] : List Int).getD ((fi.fdiv 9).fmod 4).toNat 0 = colors at FC hcol
  generalize ([8, 8, 16, 4, 2, 1] : List Int).getD (se.fmod 6).toNat 0 = bits at FC hbit
  have hbr := bits_range hbit
  have hcb0 : 0 ≤ colors * bits := Int.mul_nonneg (by lia) (by lia)
  refine nMeet (x := Str.ofString "columns") FC NC (fun cols => WayOk way colors bits cols) ?_ ?_
  · skip
    k_steps
    all_goals (try dsimp only)
    all_goals refine MeetEnd.intro (by assumption) (news_sub (by assumption) (by k_sub)) ?_
    all_goals
      have hwid := wid_in (j := ((se.fdiv 6).fmod 3).toNat) (by rw [Int.fmod_eq_emod_of_nonneg _ (by decide)]; lia)
      generalize ([1, 2, 3] : List Int).getD ((se.fdiv 6).fmod 3).toNat 0 = c3 at hwid
      refine wayOk_mk hway hcol hbit (by lia) fun h2 => ?_
      first
        | exact absurd h2 (by assumption)
        | exact whole8 _ _
        | (refine whole0 _ ?_
           simp only [Int.fmod_eq_emod_of_nonneg _ (show (0 : Int) ≤ 8 by decide)] at *
           lia)
  intro cols tcols h8 tk8 FD ND hW
  refine nToks fun tk5 => ?_
  refine nStep ?_
  k_steps
  all_goals (try dsimp only)
  have qqD9 := True.intro; have qqN9 := True.intro; have qql1 := True.intro
  rename_i SH h6 F66 N66 l6 D6 ws6 h7 F6 N6 hI6 l7
  have hS := hW.shape
  refine CompAt.list (.head _) hI6 rfl F6 N6 (by rw [List.length_drop]; lia) fun g' => comp_ints (fun x => x % 256) rfl (.head _) (fun i v _ h => h) (fun i k t I oI C oC D m₂ ys h tk E' hi hk hC hx F N off ne => ?_) ?_
  · skip
    k_steps
    all_goals (try dsimp only)
    refine CompEl.intro (by k_asm) (by k_asm) ?_
    rw [Int.fmod_eq_emod_of_nonneg _ (by decide)]
  intro zs hzs
  k_steps
  all_goals (try dsimp only)
  have qqD9 := True.intro; have qqN9 := True.intro; have qql1 := True.intro
  rename_i Oo hq1 tkq oO TT hq2 lTT hq3 hq4 hq5 F7 N7
  have hneSO : @Ne Nat SH Oo := oO.2.1
  have hol : (List.map (fun x => x % 256) (List.drop (Int.toNat 2) cs)).length ≤ 30 := by rw [List.length_map, List.length_drop]; lia
  have how : Within 256 (List.map (fun x : Int => x % 256) (List.drop (Int.toNat 2) cs)) := fun x hx => by
    obtain ⟨y, _, rfl⟩ := List.mem_map.mp hx
    lia
  generalize List.map (fun x : Int => x % 256) (List.drop (Int.toNat 2) cs) = os at hzs hol how
  replace N7 : News hp0 L hq5 [(Oo, listOf zs.toArray zs.length), (SH, tupOf #[.int way _, .int colors _, .int bits _, .int cols _]), (L + 1, oC)] := news_sub N7 (by k_sub)
  have hzs' : IntsAre zs.toArray.toList os := hzs
  have hozl : (os.length : Int) + 1 ≠ 0 := by lia
  refine nToks fun tk6 => ?_
  refine nStep ?_
  k_steps
  all_goals (try dsimp only)
  have qqD9 := True.intro; have qqN9 := True.intro; have qql1 := True.intro
  rename_i hq6 F8 N8
  dsimp only at F8
  have hcut : 0 ≤ (fi + se).fmod ((os.length : Int) + 1) ∧ (fi + se).fmod ((os.length : Int) + 1) ≤ (os.length : Int) := by
    rw [Int.fmod_eq_emod_of_nonneg _ (by lia)]
    have h1 := Int.emod_nonneg (fi + se) hozl
    have h2 := Int.emod_lt_of_pos (fi + se) (show 0 < (os.length : Int) + 1 by lia)
    lia
  generalize (fi + se).fmod ((os.length : Int) + 1) = cut at F8 hcut
  generalize tk6 + 1 + 1 + 1 + 1 + 1 = tkc at F8
  refine nToks fun tk7 => ?_
  refine nStep ?_
  k_steps
  all_goals (try dsimp only)
  have qqD9 := True.intro; have qqN9 := True.intro; have qql1 := True.intro
  rename_i hq7 tk71 GT itT cT told hIT hrT dT hq8 F9 N9
  obtain ⟨henc, hdec, htl, htw⟩ := law_all hW how hrT
  refine nToks fun tk8' => ?_
  refine nStep ?_
  k_steps
  all_goals (try dsimp only)
  have qqD9 := True.intro; have qqN9 := True.intro; have qql1 := True.intro
  rename_i hqm tkm hvs x dx k1 k2 k3 k4 DM hqn FM NM
  have e1 := DM _ (.head _)
  have e2 := DM _ (.tail _ (.head _))
  have exd : @Ne Nat x dx := ne_of_objs (NM _ (.head _)).1 (NM _ (.tail _ (.head _))).1 fun q => Value.noConfusion (congrArg Obj.cls q)
  refine' TailAt.out (n := 9) hrest (law_tail w mean mg mb hp0 L fa GT Oo SH x dx cd oC ?m0 way colors bits cols cut ?t1 ?t2 ?t3 tcols k1 k2 k3 k4 tkc itT zs.toArray cT zs.length told os hqn gn0 dr0 ?tk os0 Rf KX T K0 hW how hol hcut hIT hzs' hrT ?FM ?NM ?d1 ?d2 ?d3 ?d4 ?d5 exd dC hRf)
  case FM => exact FM
  case NM => exact NM
  case d1 => exact ⟨e1 _ (.head _), e1 _ (.tail _ (.head _)), e1 _ (.tail _ (.tail _ (.head _))), e1 _ (.tail _ (.tail _ (.tail _ (.head _))))⟩
  case d2 => exact ⟨e2 _ (.head _), e2 _ (.tail _ (.head _)), e2 _ (.tail _ (.tail _ (.head _))), e2 _ (.tail _ (.tail _ (.tail _ (.head _))))⟩
  case d3 => exact dT
  case d4 => exact ⟨Ne.symm hneSO, Ne.symm oO.2.2.2⟩
  case d5 => exact Nat.ne_of_gt l6.2
end H_law_head
theorem law_head (w : World) (mean : ExcName → Option Value) (mg mb : Str → Option Value) (hp0 : Heap) (L fa l : Addr) (cd : Value) (oC : Obj) (ws : List Value) (ns : List Int) (h1 : Heap) (gn0 : Array GenState) (dr0 : Drawn) (tk1 : Nat) (os0 : OsState) (Rf : Flow → Shared → Prop)
    (KX : (Mine.hd.heap_39 w.params).In hp0) (T : Top Mine.hd.view_39 (looseW Mine.hd.view_39 [Str.ofString "PostError"]) mean mg mb hp0) (K0 : Below callerA hp0 [] hp0)
    (hI : IntsAre ws ns) (hl63 : ns.length ≤ 63) (hL : hp0.IsList l ws.toArray) (dC : oC.data = .cell none)
    (F : Fr hp0 L h1 (bindL (lawEnv L fa cd).kindOf [(Str.ofString "script", .ref l)] fun _ => none)) (N0 : News hp0 L h1 [(L + 1, oC)])
    (hRf : ∀ h' tk m', Fr hp0 L h' m' → Rf (.ret (.bool true)) { heap := h', gens := gn0, drawn := dr0, toks := tk, os := os0 }) :
    TailAt w L fa cd 0 Rf { heap := h1, gens := gn0, drawn := dr0, toks := tk1, os := os0 } :=
  hk_all H_law_head.hkN H_law_head.hkU (by with_unfolding_all exact H_law_head.core) (((((w, mean), mg), (mb, hp0)), ((L, fa), (l, cd))), ((((oC, ws), ns), (h1, gn0)), ((dr0, tk1), (os0, Rf)))) KX T K0 hI hl63 hL dC F N0 hRf
theorem t0 : PySem.Challenge.rw_nt0492_01.Holds := by
  refine Mine.hd ?_
  k_fill
  intro w s₀ s₁ mg mb G Y fa o pm cd doc dV kV ho hd hcd hD hmg hg args vals as hpre hlay hrd hwl hlo
  have KX := kIn_of Y
  refine Ground.open G ?_
  intro T B D TE TW
  clear D TE TW B Y
  wrow_args hpre hlay hrd hwl hlo
  have qqD9 := True.intro; have qqN9 := True.intro; have qql1 := True.intro
  rename_i ns hs1 hy1 hy2 hy3 hy4 as1 as2 l ws as3 hL ra1 w1 r0 hI hr hc1 hc2
  refine enterQ ?_
  have K0 := below_caller s₁.heap
  have he := Dflts.none hD rfl; subst he
  have he := Dflts.noKw hD; subst he
  refine call_cellsQ (binds := [(Str.ofString "script", .ref l)]) (by decide) ho (fd_plain hd) (Top.nolimit T) hcd rfl (by exact rfl) (by decide +kernel) ?_
  intro h1 tk1 cells F N0 X0
  k_cells X0
  have qqD9 := True.intro; have qqN9 := True.intro; have qql1 := True.intro
  rename_i oC dC
  replace dC : oC.data = .cell none := dC
  try dsimp only at F N0 ⊢
  clear hd hcd hD hmg
  have hl63 : ns.length ≤ 63 := by lia
  clear hc1 hc2 hy1 hy2 hy3 hy4 hs1 ra1 r0 hr
  obtain ⟨hp0, gn0, dr0, tk0, os0⟩ := s₁
  dsimp only at *
  generalize hLL : hp0.objs.size = L at *
  refine (fun (H : ∀ Rf : Flow → Shared → Prop, (∀ h' tk m', Fr hp0 L h' m' → Rf (.ret (.bool true)) { heap := h', gens := gn0, drawn := dr0, toks := tk, os := os0 }) → wpN _ _ _ Rf (fun _ _ => False) _) => H _ ?_) ?_
  · intro h' tk m' FZ
    dsimp only
    refine GoodW.toG ?_
    k_steps
  intro Rf hRf
  clear G
  exact TailAt.out (n := 0) rfl (law_head w (ExcName.means s₀.heap) mg mb hp0 L fa l cd oC ws ns h1 gn0 dr0 tk1 os0 Rf KX T K0 hI hl63 hL dC F N0 hRf)
end
end Mine
theorem PySem.Challenge.cw_nt0492_01_holds : PySem.Challenge.rw_nt0492_01.Holds :=
  Mine.t0
