import PyProof.Rows.All
import Wide.All
import OpenK.AllK
import Wide.FinOn
import PySem.Challenge.RW_nu0241_01
set_option Elab.async false
set_option maxRecDepth 100000
set_option maxHeartbeats 8000000
set_option linter.unusedVariables false
set_option compiler.extract_closed false
set_option linter.unusedSimpArgs false

-- part Tr
section
open PySem PySem.W PyProof.Rows
namespace Mine
def treeOf : List Obj → Nat → BT → Option (BT × Nat)
  | [], n, t => some (t, n)
  | o :: os, n, t => match ((t.ins n o).get n).isSome with
    | true => treeOf os (n + 1) (t.ins n o)
    | false => none
def sharedT (s : Shared) : Option SharedT := (treeOf s.heap.objs.toList 0 .nil).map fun x => ⟨x.1, x.2, s.heap.life, s.gens, s.drawn, s.toks, s.os⟩
theorem treeOf_spec (life : Life) : ∀ {os : List Obj} {n : Nat} {t : BT} {x : BT × Nat}, treeOf os n t = some x → absHeap x.1 x.2 life = ⟨((absHeap t n life).objs.toList ++ os).toArray, life⟩
  | [], n, t, x, h => by
    cases h
    rw [List.append_nil]; rfl
  | o :: os, n, t, x, h => by
    unfold treeOf at h
    cases hg : ((t.ins n o).get n).isSome with
    | false => rw [hg] at h; cases h
    | true =>
      rw [hg] at h
      rw [treeOf_spec life h, absHeap_ins hg]
      show Heap.mk (((absHeap t n life).objs.push o).toList ++ os).toArray life = _
      rw [Array.toList_push, List.append_assoc]; rfl
theorem sharedT_abs {s : Shared} {x : SharedT} (h : sharedT s = some x) : x.abs = s := by
  obtain ⟨y, hy, rfl⟩ := Option.map_eq_some_iff.mp h
  obtain ⟨⟨objs, life⟩, gens, drawn, toks, os⟩ := s
  show Shared.mk (absHeap y.1 y.2 life) gens drawn toks os = _
  rw [treeOf_spec life hy]
  rfl
def impT (tb : String → Option Builtin) (p : Program) (w : World) : Nat → SharedT → Thread → Option SharedT
  | 0, _, _ => none
  | n + 1, s, t => match t.atExitBegin with
    | some [] => some s
    | some (_ :: _) => none
    | none => match stepT (denote tb) p w s t with
      | some (s', t') => impT tb p w n s' t'
      | none => none
theorem impT_of {tb : String → Option Builtin} {p : Program} {w : World} : ∀ {n : Nat} {s s' : SharedT} {t : Thread}, impT tb p w n s t = some s' → importEnds tb p w n s.abs t = some s'.abs
  | 0, _, _, _, h => by cases h
  | n + 1, s, s', t, h => by
    unfold impT at h
    unfold importEnds
    cases he : t.atExitBegin with
    | some l =>
      rw [he] at h
      cases l with
      | nil => cases h; rfl
      | cons _ _ => cases h
    | none =>
      rw [he] at h
      cases hs : stepT (denote tb) p w s t with
      | none => rw [hs] at h; cases h
      | some r => obtain ⟨s₂, t₂⟩ := r; rw [hs] at h; rw [stepT_spec hs]; exact impT_of h
def runT (tb : String → Option Builtin) (p : Program) (w : World) (n₀ : Nat) (ann : Option Value) : Nat → SharedT → Thread → Option SharedT
  | 0, _, _ => none
  | n + 1, s, t => match through t with
    | true => some s
    | false => match stepOk n₀ ann t with
      | false => none
      | true => match stepT (denote tb) p w s t with
        | some (s', t') => runT tb p w n₀ ann n s' t'
        | none => none
theorem runT_of {tb : String → Option Builtin} {p : Program} {w : World} {n₀ : Nat} {ann : Option Value} : ∀ {n : Nat} {s s' : SharedT} {t : Thread}, runT tb p w n₀ ann n s t = some s' → topRun tb p w n₀ ann n s.abs t = some s'.abs
  | 0, _, _, _, h => by cases h
  | n + 1, s, s', t, h => by
    unfold runT at h
    unfold topRun
    cases he : through t with
    | true => rw [he] at h; cases h; rfl
    | false =>
      rw [he] at h
      cases hk : stepOk n₀ ann t with
      | false => rw [hk] at h; cases h
      | true =>
        rw [hk] at h
        cases hs : stepT (denote tb) p w s t with
        | none => rw [hs] at h; cases h
        | some r => obtain ⟨s₂, t₂⟩ := r; rw [hs] at h; rw [stepT_spec hs]; exact runT_of h
def topT (tb : String → Option Builtin) (p : Program) (w : World) (N : Nat) (s₀ : SharedT) : Option SharedT :=
  match s₀.abs.heap.isNs mainGlobals && s₀.gens.size == 0 with
  | true => (runT tb p w s₀.n (s₀.abs.heap.nsMap mainGlobals "__annotations__") N s₀ (topStub p)).bind fun s₁ =>
    match staticsOk (importedModules p.main.body) s₀.abs.heap s₁.abs.heap && namesBound p s₁.abs.heap && gensDone s₁.abs && laidKept s₀.abs.heap s₁.abs.heap with
    | true => some s₁
    | false => none
  | false => none
def endsT (tb : String → Option Builtin) (p : Program) (w : World) (N : Nat) : Option SharedT :=
  (sharedT (start (opening p)).1).bind fun s => (impT tb (opening p) w N s (start (opening p)).2).bind fun s₀ => topT tb p w N s₀
theorem endsT_of {tb : String → Option Builtin} {p : Program} {w : World} {N : Nat} (fence : ∀ s, fenceModules? p s = some s) {x : SharedT} (h : endsT tb p w N = some x) : openEnds tb p w N = some x.abs := by
  obtain ⟨s, h1, h⟩ := Option.bind_eq_some_iff.mp h
  obtain ⟨s₀, h2, h⟩ := Option.bind_eq_some_iff.mp h
  have e1 := sharedT_abs h1
  have e2 := impT_of h2
  rw [e1] at e2
  unfold openEnds fencedOpening
  rw [e2]
  show ((fenceModules? p s₀.abs).bind (topFrom tb p w N)) = _
  rw [fence]
  show topFrom tb p w N s₀.abs = _
  unfold topT at h
  unfold topFrom
  have eg : (s₀.abs.heap.isNs mainGlobals && s₀.abs.gens.size == 0) = (s₀.abs.heap.isNs mainGlobals && s₀.gens.size == 0) := rfl
  rw [eg]
  cases hb : (s₀.abs.heap.isNs mainGlobals && s₀.gens.size == 0) with
  | false => rw [hb] at h; cases h
  | true =>
    rw [hb] at h
    obtain ⟨s₁, h3, h⟩ := Option.bind_eq_some_iff.mp h
    have e3 := runT_of h3
    have es : s₀.abs.heap.objs.size = s₀.n := absHeap_size _ _ _
    dsimp only
    rw [es, e3]
    show (match staticsOk (importedModules p.main.body) s₀.abs.heap s₁.abs.heap && namesBound p s₁.abs.heap && gensDone s₁.abs && laidKept s₀.abs.heap s₁.abs.heap with | true => some s₁.abs | false => none) = _
    cases hc : (staticsOk (importedModules p.main.body) s₀.abs.heap s₁.abs.heap && namesBound p s₁.abs.heap && gensDone s₁.abs && laidKept s₀.abs.heap s₁.abs.heap) with
    | false => rw [hc] at h; cases h
    | true => rw [hc] at h; cases h; rfl
theorem leftT {p q : Program} {loose : List Str} {Xt : Shared → Bool} {α : Type} {Yf : Shared → α} {Ya : World → α} {N : Nat} {g0 : Bool} (fence : ∀ s, fenceModules? p s = some s)
    (h : ∀ w, (endsT treeTable p w N).map (fun s => (openSeen q loose (importedModules p.main.body) Xt g0 s.abs, Yf s.abs)) = some (openGood q loose, Ya w)) : LeftO p q loose Xt Yf Ya N g0 := by
  intro w
  obtain ⟨x, h1, h2⟩ := Option.map_eq_some_iff.mp (h w)
  rw [endsT_of fence h1]
  exact congrArg some h2
end Mine
end

-- part Hd
section
open PySem PySem.W PyProof.Rows
namespace Mine
def view : Program := { PySem.Challenge.pw_nu0241_01 with main := { PySem.Challenge.pw_nu0241_01.main with body := ([0, 2, 3, 4, 5, 7, 9, 10, 11, 13, 15, 16, 17, 18, 19, 20, 21, 22, 23, 24] : List Nat).map fun i => PySem.Challenge.pw_nu0241_01.main.body.getD i (.Pass ⟨0, 0, 0, 0⟩) } }
local macro_rules | `(tactic| o_head $H) => `(tactic| (refine holds_open (q := Mine.view) (loose := []) (Xt := fun s => xlAt Mine.view [] s && recOk (RowW.records _) s) (XP := XL Mine.view []) (Yf := Hook.obs $H) (Ya := Hook.val $H) (YP := Hook.says $H) (N := 4382) ?hl (Hook.of $H) (Hook.keeps $H) (fun s e => xl_of s (Bool.and_eq_true_iff.mp e).1) XL.keeps (by rfl) (by rfl) (by rfl) (fun s e => recFacts_of (Bool.and_eq_true_iff.mp e).2) (by rfl) (by first | assumption | decide +kernel) (by decide +kernel) ⟨rfl, rfl, rfl, rfl, rfl, by decide +kernel⟩ ?hw ?hc; (case hl => (refine leftT (fun s => by kernel_rfl) ?_; intro w; kernel_rfl))))
theorem law_said : PySem.Challenge.rw_nu0241_01.wellSaid = true := by kernel_rfl
local macro_rules | `(tactic| o_law) => `(tactic| (refine holds_law law_said fun said => ?_))
open_top hd for PySem.Challenge.rw_nu0241_01
end Mine
end
namespace Mine
local macro_rules | `(tactic| omega) => `(tactic| first | lia | omega (config := {}))
local macro_rules | `(tactic| walk_at $s:str) => `(tactic| k_extra $s)
local macro_rules | `(tactic| k_room) => `(tactic| k_extra "k_room")
local macro_rules | `(tactic| k_units) => `(tactic| k_extra "k_units")
local macro_rules | `(tactic| k_mem) => `(tactic| k_extra "k_mem")
local macro_rules | `(tactic| cell_enter) => `(tactic| k_extra "cell_enter")
local macro_rules | `(tactic| k_all) => `(tactic| k_extra "k_all")
local macro_rules | `(tactic| ks_enter) => `(tactic| k_extra "ks_enter")
local macro_rules | `(tactic| kqd_sub) => `(tactic| k_extra "kqd_sub")
local macro_rules | `(tactic| kqd_ok) => `(tactic| k_extra "kqd_ok")
local macro_rules | `(tactic| k_updF) => `(tactic| k_extra "k_updF")
local macro_rules | `(tactic| k_inst) => `(tactic| k_extra "k_inst")

-- part C0
section
open PySem PySem.W PyProof.Rows
noncomputable abbrev P := PySem.Challenge.rw_nu0241_01.row.prog
noncomputable abbrev V := Mine.view

theorem lst_at {h₀ h : Heap} {L l : Addr} {news : List (Addr × Obj)} {vs : List Value} {n : Nat} (N : News h₀ L h news) (hm : (l, listOf vs.toArray n) ∈ news) : h.IsList l vs.toArray := ⟨_, (N _ hm).1, rfl, n, rfl⟩

theorem join_len (sep : Str) : ∀ ys : List Str, (Str.join sep ys).length ≤ (ys.map (·.length)).sum + ys.length * sep.length
  | [] => by simp [Str.join, Str.empty, Str.length]
  | [x] => by simp [Str.join]
  | x :: y :: r => by
    have ih := join_len sep (y :: r)
    simp only [Str.join, Str.length_append, List.map_cons, List.sum_cons, List.length_cons] at ih ⊢
    have : (r.length + 1 + 1) * sep.length = (r.length + 1) * sep.length + sep.length := by rw [Nat.add_mul, Nat.one_mul]
    omega

theorem room1 {d a b r : Nat} (h : d + b < r) (e : Nat.ble a b = true) : d + a < r := Nat.lt_of_le_of_lt (Nat.add_le_add_left (Nat.le_of_ble_eq_true e) d) h
theorem room2 {d c a b r : Nat} (h : d + b < r) (e : Nat.ble (c + a) b = true) : d + c + a < r := Nat.add_assoc d c a ▸ room1 h e
theorem room3 {d c a x b r : Nat} (h : d + b < r) (e : Nat.ble (c + (a + x)) b = true) : d + c + a + x < r := by rw [Nat.add_assoc (d + c) a x]; exact room2 h e
theorem sum_le_of (ys : List Str) (b : Nat) (h : ∀ y ∈ ys, y.length ≤ b) : (ys.map (·.length)).sum ≤ ys.length * b := by
  induction ys with
  | nil => simp
  | cons y r ih =>
    have h1 := h y (by simp)
    have h2 := ih fun z hz => h z (by simp [hz])
    simp only [List.map_cons, List.sum_cons, List.length_cons, Nat.add_mul, Nat.one_mul]
    omega

section
variable {prog : Program} {w : World} {A : Around} {E : Value → Shared → Prop} {s : Shared} {Q : Value → Shared → Prop}
/-- str.join of a list of strs, few and short -/
theorem join_at {D : Addr} {items : Array Value} {ys : List Str} {x : Str} {t : Tok} (hl : s.heap.IsList D items) (hi : StrsAre items.toList ys) (hsep : x.length ≤ 2) (hn : ys.length ≤ 50) (hy : ∀ y ∈ ys, y.length ≤ 1000)
    (h : ∀ t' k, (Str.join x ys).length ≤ 50100 → Q (.str (Str.join x ys) t') { s with toks := k }) : wpAny (model prog w) A (call (.builtin "str.join") [.str x t, .ref D]) Q E s := by
  have h1 := sum_le_of ys 1000 hy
  have h3 : ys.length * 1000 ≤ 50 * 1000 := Nat.mul_le_mul_right _ hn
  refine join_listW hl hi (by omega) (by omega) fun t' k => ?_
  have h2 := join_len x ys
  have h4 : ys.length * x.length ≤ 50 * 2 := Nat.mul_le_mul hn hsep
  have e : Txt.join x ys = Str.join x ys := StrLaws.glued_eq_join x ys
  rw [e]
  exact h t' k (by omega)
end
end

-- part C2
section
open PySem PySem.W PyProof.Rows
abbrev tupOf (vs : List Value) (n : Nat) : Obj := { cls := .type "tuple", data := .seq vs.toArray n }

theorem tup_at {h₀ h : Heap} {L l : Addr} {news : List (Addr × Obj)} {vs : List Value} {n : Nat} (N : News h₀ L h news) (hm : (l, tupOf vs n) ∈ news) : h.IsTuple l vs.toArray := ⟨_, (N _ hm).1, rfl, n, rfl⟩

section
variable {prog : Program} {w : World} {A : Around} {E : Value → Shared → Prop} {s : Shared} {h₀ : Heap} {L : Addr} {m : Str → Option Value} {env : Env}

/-- what the source of a comprehension over a tuple hands on -/
structure SrcT (prog : Program) (w : World) (A : Around) (h₀ : Heap) (L : Addr) (m : Str → Option Value) (env : Env) (elt : Expr) (x : Str) (scope : Scope) (cl : List (Str × Addr)) (Q : Value → Shared → Prop) (xv : Value) (s₁ : Shared) : Prop where
  out : ∃ ax its k news, xv = .ref ax ∧ A.handled = none ∧ Fr h₀ L s₁.heap m ∧ News h₀ L s₁.heap news ∧ (ax, tupOf its k) ∈ news ∧ its.length ≤ sizeLine ∧
    ∀ s₂ : Shared, (∃ h, s₂ = { s₁ with heap := h }) → LCg.CompRest prog w A h₀ L m env elt x scope cl s₂ (fun nw => (ax, tupOf its k) ∈ nw) (fun i v => its[i]? = some v) (LCg.FinE h₀ L m s₂ Q) its.length 0 [] news

theorem listComp_tup {elt iter : Expr} {x : Str} {px : Pos} {scope : Scope} {cl : List (Str × Addr)} {pos : Pos} {Q : Value → Shared → Prop} (_F₀ : Fr h₀ L s.heap m)
    (hclos : closureFor scope env = pure cl) (hcell : ∀ y ∈ scope.names, y.2 ≠ .cell) (hkind : scope.kind = .function)
    (hnames : ∀ y ∈ scope.names, y.2 = .local → scope.names.lookup y.1 = some .local) (hx : scope.names.lookup x = some .local)
    (h : wpAny (model prog w) A (eval iter env) (SrcT prog w A h₀ L m env elt x scope cl Q) E s)
    (hs : ∀ x, foldedSetIterable iter env x = pure x := by intro _; rfl) :
    wpAny (model prog w) A (eval (.ListComp elt [⟨.Name x px, iter, [], 0⟩] scope pos) env) Q E s := by
  rw [eval_ListComp]
  refine wpAny_comprehension_free (use := none) rfl hs hclos hkind hnames (wpAny_mono h (fun xv s₁ h₁ => ?_) fun _ _ e => e)
  obtain ⟨ax, its, k, news, rfl, hh, F, N, S, hsz, R⟩ := h₁.out
  have hl := tup_at N S
  have hlt : ax < s₁.heap.objs.size := by obtain ⟨_, e, _⟩ := hl; exact Heap.lt_size e
  refine wpAny_pyIter_tuple hl ?_
  have up : ∀ b o, s₁.heap.get? b = some o → (s₁.heap.push { cls := .type "tuple_iterator", data := .fields #[.ref ax, .int 0 0] }).get? b = some o := fun b o e => Heap.get?_push_of_some _ e
  have W := Walks.tuple (prog := prog) (w := w) hh s₁.heap.objs.size ax (Nat.ne_of_lt hlt) its.toArray
  have hn : its.toArray.size = its.length := by simp
  rw [hn] at W
  simp only [List.getElem?_toArray] at W
  refine LCg.block_U (P := fun i v => its[i]? = some v) (S := fun nw => (ax, tupOf its k) ∈ nw) W hsz (fun i h st => by obtain ⟨o, e, _⟩ := st.1; exact ⟨o, e⟩)
    (fun i h h' o nw st e e' k' N' S' => ⟨by obtain ⟨o', q, r⟩ := st.1; rw [e] at q; cases q; exact ⟨o, e', r⟩, tup_at N' S'⟩) hcell hkind hx ⟨⟨_, Heap.get?_push_size _ rfl, rfl, rfl⟩, hl.at fun o e => up _ o e⟩ (fun b hb => ?_)
    (F.keeps up) (N.grown up) (Nat.ne_of_lt F.ns.lt) (next_is_new F) (fun p hp => Nat.ne_of_lt (Heap.lt_size (N p hp).1)) S (R _ ⟨_, rfl⟩) ?_
  · show b < (s₁.heap.push _).objs.size
    rw [Heap.size_push]
    rcases List.mem_cons.mp hb with rfl | hb
    · exact Nat.lt_succ_self _
    · rw [List.mem_singleton.mp hb]; exact Nat.lt_succ_of_lt hlt
  · intro D C h tk m' ys news' F' N' o1 hn hC₀ hD₀ hCL hDL hCD offC fin
    refine ⟨m', hn, fun h'' hs'' => fin D h'' tk (F'.change hs'' hCL hC₀) (fun p hp => ?_) o1⟩
    refine ⟨hs''.extBut _ _ ?_ (N' p hp).1, (N' p hp).2⟩
    rcases List.mem_cons.mp hp with rfl | hp
    · exact Ne.symm hCD
    · exact offC p hp

/-- every element is a text, and nothing else stays -/
theorem comp_texts {elt : Expr} {x : Str} {scope : Scope} {cl : List (Str × Addr)} {S : List (Addr × Obj) → Prop} {P : Nat → Value → Prop} {Fin : List Value → List (Addr × Obj) → Prop} {news : List (Addr × Obj)} {n : Nat} (g : Nat → Str) (hS : S news)
    (turn : ∀ i v I oI C oC D m₂ ys h tk (E' : Value → Shared → Prop), i < n → P i v → LCg.NsObj oC m₂ → m₂ x = some v → Fr h₀ L h m → News h₀ L h ((I, oI) :: (C, oC) :: (D, LCg.lst ys) :: news) → LCg.Off3 I C D news → ((@Ne Nat I C) ∧ (@Ne Nat I D) ∧ (@Ne Nat C D)) →
      wpAny (model prog w) A (eval elt (compEnvC scope cl C env)) (fun y s₂ => ∃ h' tk' t, s₂ = { s with heap := h', toks := tk' } ∧ y = .str (g i) t ∧ Fr h₀ L h' m ∧ News h₀ L h' ((I, oI) :: (C, oC) :: (D, LCg.lst ys) :: news)) E' { s with heap := h, toks := tk })
    (fin : ∀ ys, StrsAre ys ((List.range n).map g) → Fin ys news) : LCg.CompRest prog w A h₀ L m env elt x scope cl s S P Fin n 0 [] news := by
  have key : ∀ (j i : Nat) (ys : List Value), i + j = n → StrsAre ys ((List.range i).map g) → LCg.CompRest prog w A h₀ L m env elt x scope cl s S P Fin j i ys news := by
    intro j
    induction j with
    | zero =>
      intro i ys hi hy
      have e : i = n := by omega
      subst e
      exact LCg.CompRest.zero (fin ys hy)
    | succ j ih =>
      intro i ys hi hy
      refine LCg.CompRest.succ ?_
      intro v I oI C oC D m₂ h tk E' hv hC hx F N off ne
      refine wpAny_mono (turn i v I oI C oC D m₂ ys h tk E' (by omega) hv hC hx F N off ne) (fun y s₂ hq => ?_) fun _ _ e => e
      obtain ⟨h', tk', t, e, hy', F', N'⟩ := hq
      refine ⟨h', tk', news, e, F', N', off, hS, ?_⟩
      rw [hy']
      refine ih (i + 1) _ (by omega) ?_
      rw [List.range_succ, List.map_append]
      exact PySem.W.kct_snoc hy
  exact key n 0 [] (by omega) (by simp only [List.range_zero, List.map_nil]; exact .nil)
end
end

-- part C3
section
open PySem PySem.W PyProof.Rows
set_option rowWalk.seconds 0
variable {w : World} {mean : ExcName → Option Value} {mg mb : Str → Option Value} {loose : List Str}
    {dp un : Nat} {gd : Option (List Code)} {cn : Str} {cs : Scope} {a : Addr} {ccd : Value} {cl : List (Str × Addr)} {outer : List Env} {A₀ : Around} {base h₀ : Heap} {L : Addr} {m : Str → Option Value} {news : List (Addr × Obj)} {s : Shared}
    {Q E : Value → Shared → Prop}
def names : List Str := ["A$0", "A$1", "B$0", "a'b"]
def nm (a : Int) : Str := names.getD a.toNat Str.empty
def rowText (r : List Int) : Str := Str.join "->" (r.map nm)
def rowD (r : List Int) : Dat := .tuple (r.map .int)
def relD (rs : List (List Int)) : Dat := .tuple (rs.map rowD)

theorem datAll_ints {news : List (Addr × Obj)} : ∀ {vs : List Value} {r : List Int}, DatAll news vs (r.map .int) → IntsAre vs r
  | _, [], h => by cases h; exact .nil
  | _, n :: r, h => by
    cases h with
    | cons h t => cases h with | int i t' => exact .cons _ _ (datAll_ints t)

theorem datAll_at {α : Type} {news : List (Addr × Obj)} {f : α → Dat} {vs : List Value} {rows : List α} (hD : DatAll news vs (rows.map f)) {i : Nat} {v : Value} (hv : vs[i]? = some v) : ∃ r, rows[i]? = some r ∧ r ∈ rows ∧ DatIn news v (f r) := by
  have e := DatAll.length hD
  rw [List.length_map] at e
  have hi : i < rows.length := by rw [← e]; exact (List.getElem?_eq_some_iff.mp hv).1
  obtain ⟨v', h1, h2⟩ := hD.get (k := i) (by rw [List.length_map]; exact hi)
  rw [hv] at h1; cases h1
  exact ⟨rows[i], List.getElem?_eq_getElem hi, List.getElem_mem hi, by simpa using h2⟩
theorem range_get {α : Type} (l : List α) (d : α) : (List.range l.length).map (fun i => l.getD i d) = l := by
  apply List.ext_getElem
  · simp
  · intro i h1 h2
    simp [h2]
theorem range_map {α β : Type} (l : List α) (d : α) (f : α → β) : (List.range l.length).map (fun i => f (l.getD i d)) = l.map f := by
  have e := List.map_map (l := List.range l.length) (g := f) (f := fun i => l.getD i d)
  rw [range_get] at e
  exact e.symm
theorem off1_ne {D : Addr} : ∀ {l : List (Addr × Obj)}, LCg.Off1 D l → ∀ p ∈ l, p.1 ≠ D
  | [], _, _, h => nomatch h
  | _ :: _, x, p, h => by
    rcases List.mem_cons.mp h with rfl | h
    · exact x.1
    · exact off1_ne x.2 p h
theorem nm_len (a : Int) : (nm a).length ≤ 3 := by
  unfold nm names
  generalize a.toNat = k
  match k with
  | 0 | 1 | 2 | 3 => decide +kernel
  | n + 4 => simp [List.getD, Str.empty, Str.length]
theorem rowText_len (r : List Int) (h : r.length ≤ 3) : (rowText r).length ≤ 15 := by
  have h1 := join_len "->" (r.map nm)
  have h2 := sum_le_of (r.map nm) 3 (by intro y hy; obtain ⟨a, _, rfl⟩ := List.mem_map.mp hy; exact nm_len a)
  have h3 : ("->" : Str).length = 2 := by decide +kernel
  rw [List.length_map] at h1 h2
  rw [h3] at h1
  unfold rowText
  omega
theorem rows_C3_1 : True := by
  k_with_none
  (k_with "eval ListComp" => k_dflt (refine listComp_tup (by k_asm) (by with_unfolding_all rfl) (by decide) (by rfl) (by decide) (by rfl) ?_))
  (k_with "eval Name" => (with_reducible show wpAny _ _ (eval (Expr.Name _ _) _) (SrcT _ _ _ _ _ _ _ _ _ _ _ _) _ _); k_dflt (refine ld (by k_asm) (by exact rfl) ?_))
  trivial
theorem tuple_texts_tells {rows : List (List Int)} {b : Addr} {vs : List Value} {n : Nat}
    (B : Below A₀ base outer h₀) (F : Fr h₀ L s.heap m) (X : (Mine.hd.heap_1 w.params).In h₀) (N : News h₀ L s.heap news) (T : Top V loose mean mg mb h₀) (hk : cs.kind = .function)
    (hd : dp + 3 < recursionLimit) (hu : un + 20 < cLine)
    (hl : (b, tupOf vs n) ∈ news) (hD : DatAll news vs (rows.map rowD)) (hn : rows.length ≤ 50) (hr : ∀ r ∈ rows, r.length ≤ 3 ∧ ∀ a ∈ r, 0 ≤ a ∧ a < 4)
    (hret : ∀ D h' tk' ys, StrsAre ys (rows.map rowText) → Fr h₀ L h' m → News h₀ L h' ((D, LCg.lst ys) :: news) → (∀ p ∈ news, p.1 ≠ D) → Q (.ref D) { s with heap := h', toks := tk' }) :
    wpAny (model P w) (ktrTop dp un gd cn cs L a ccd cl outer) (call (.ref 230) [.ref b]) Q E s := by
  w_on
  refine wpAny_call ?_
  k_dflt cell_enter
  w_strict k_steps
  refine ⟨_, _, _, _, rfl, rfl, by assumption, by assumption, hl, ?_, ?_⟩
  · rw [DatAll.length hD, List.length_map, sizeLine_eq]; omega
  rintro s₂ ⟨g, rfl⟩
  have hlen : vs.length = rows.length := by rw [DatAll.length hD, List.length_map]
  refine comp_texts (fun i => rowText (rows.getD i [])) hl ?_ ?_
  · intro i v I oI C oC D m₂ ys h tk E' hi hv hC hx F1 N1 off ne
    obtain ⟨row, hrow, hmem, hdv⟩ := datAll_at hD hv
    have hg : rows.getD i [] = row := by rw [List.getD_eq_getElem?_getD, hrow]; rfl
    rw [hg]
    have hrr := hr _ hmem
    cases hdv with
    | @tuple c us k ds hm hds =>
      have hus := datAll_ints hds
      have hul : us.length = row.length := hus.length
      k_steps
      refine ⟨_, us, k, _, rfl, rfl, by assumption, by assumption, .tail _ (.tail _ (.tail _ hm)), by rw [sizeLine_eq]; omega, ?_⟩
      rintro s₃ ⟨g3, rfl⟩
      refine comp_texts (fun j => nm (row.getD j 0)) (.tail _ (.tail _ (.tail _ hm))) ?_ ?_
      · intro j v1 I1 oI1 C1 oC1 D1 m3 ys1 h3 tk3 E3 hj hv1 hC1 hx1 F2 N2 off2 ne2
        obtain ⟨x, t, rfl, hx2⟩ := IntsAre.at hus j v1 hv1
        have hg2 : row.getD j 0 = x := by rw [List.getD_eq_getElem?_getD, hx2]; rfl
        rw [hg2]
        have hxr := hrr.2 x (List.mem_of_getElem? hx2)
        have : x = 0 ∨ x = 1 ∨ x = 2 ∨ x = 3 := by omega
        rcases this with rfl | rfl | rfl | rfl
        all_goals k_steps
        all_goals first | assumption | skip
      · intro ys2 hys2
        rw [hul] at hys2
        rw [range_map row 0 nm] at hys2
        intro D2 h4 tk4 F3 N3 o3
        k_steps
        refine join_at (lst_at (by assumption) (.head _)) hys2 (by decide +kernel) ?_ ?_ ?_
        · rw [List.length_map]; omega
        · intro y hy
          obtain ⟨x, _, rfl⟩ := List.mem_map.mp hy
          have := nm_len x
          omega
        intro t5 k5 hj5
        k_steps
        all_goals first | assumption | exact fun p hp => N3 p (.tail _ hp)
  · intro ys1 hys1
    rw [hlen, range_map rows [] rowText] at hys1
    intro D2 h4 tk4 F3 N3 o3
    k_steps
    exact hret _ _ _ _ hys1 (by assumption) (by assumption) (off1_ne o3)
end

-- part C4
section
open PySem PySem.W PyProof.Rows
section
variable {prog : Program} {w : World} {A : Around} {E : Value → Shared → Prop} {s : Shared} {h₀ : Heap} {L : Addr} {m : Str → Option Value} {env : Env}

/-- what is told of the ledger in an element's evaluation -/
structure InComp (h₀ : Heap) (L : Addr) (m : Str → Option Value) (news : List (Addr × Obj)) (I : Addr) (oI : Obj) (C : Addr) (oC : Obj) (D : Addr) (ys : List Value) (nw : List (Addr × Obj)) (h : Heap) : Prop where
  fr : Fr h₀ L h m
  led : News h₀ L h ((I, oI) :: (C, oC) :: (D, LCg.lst ys) :: nw)
  sub : ∀ p ∈ news, p ∈ nw
  off : LCg.Off3 I C D nw
  ne : (@Ne Nat I C) ∧ (@Ne Nat I D) ∧ (@Ne Nat C D)

theorem comp_pairs {elt iter : Expr} {a b : Str} {pa pb tp : Pos} {kk : Nat} {scope : Scope} {cl : List (Str × Addr)} {pos : Pos} {s₂ : Shared} {I : Addr} {fp wr : List Addr} {n : Nat} {Pt : Nat → Value → Value → Prop} {Md : Nat → Value → Heap → Prop} {St : Nat → Heap → Prop} {news : List (Addr × Obj)}
    {RR : Value → Addr → Result → Shared → Prop} (g : Nat → Str) (hh : A.handled = none)
    (W : KTurns prog w A (.Tuple [.Name a pa, .Name b pb] kk tp) I fp wr n (fun i v h => ∃ T x y, v = .ref T ∧ Pt i x y ∧ h.IsTuple T #[x, y]) Md St) (hsz : n ≤ sizeLine)
    (hself : ∀ (s : Shared) (Q : Value → Shared → Prop) (E : Value → Shared → Prop), St 0 s.heap → Q (.ref I) s → wpAny (model prog w) A (pyIter (.ref I)) Q E s)
    (hIfp : I ∈ fp) (hI₀ : h₀.get? I = none) (hIo : ∀ i h, St i h → ∃ o, h.get? I = some o)
    (hlt : ∀ c ∈ fp, c < s₂.heap.objs.size) (hwr : ∀ c ∈ wr, h₀.get? c = none) (hLf : L ∉ fp) (hnw : ∀ p ∈ news, p.1 ∉ wr) (hnI : ∀ p ∈ news, p.1 ≠ I) (hst : St 0 s₂.heap)
    (hcell : ∀ y ∈ scope.names, y.2 ≠ .cell) (hkind : scope.kind = .function) (hxa : scope.names.lookup a = some .local) (hxb : scope.names.lookup b = some .local) (hab : ¬ a = b)
    (F : Fr h₀ L s₂.heap m) (N : News h₀ L s₂.heap news)
    (turn : ∀ i x y oI C oC D ys m₂ h tk nw (E' : Value → Shared → Prop), i < n → Pt i x y → InComp h₀ L m news I oI C oC D ys nw h → LCg.NsObj oC m₂ → m₂ a = some x → m₂ b = some y →
      wpAny (model prog w) A (eval elt (compEnvC scope cl C env)) (fun y s₄ => ∃ h' tk' t, s₄ = { s₂ with heap := h', toks := tk' } ∧ y = .str (g i) t ∧ Fr h₀ L h' m ∧ News h₀ L h' ((I, oI) :: (C, oC) :: (D, LCg.lst ys) :: nw)) E' { s₂ with heap := h, toks := tk })
    (hRR : ∀ D C h tk m' ys, StrsAre ys ((List.range n).map g) → Fr h₀ L h m → News h₀ L h ((D, LCg.lst ys) :: news) → (∀ p ∈ news, p.1 ≠ D) → h.Ns C m' → h₀.get? C = none → h₀.get? D = none → C ≠ L → D ≠ L → C ≠ D → (∀ p ∈ news, p.1 ≠ C) → RR (.ref D) C (.ok .next) { s₂ with heap := h, toks := tk }) :
    wpAny (model prog w) A (newList []) (fun acc s₃ => wpAny (model prog w) A (newFunctionEnv scope env.globals cl [] env.qual none .none (some env)) (fun cenv s₄ =>
      codeAny (model prog w) A (.compStart (.ListComp elt [⟨.Tuple [.Name a pa, .Name b pb] kk tp, iter, [], 0⟩] scope pos) 0 (.ref I) acc { cenv with scope := relabel scope env }) (RR acc cenv.locals) s₄) E s₃) E s₂ := by
  refine wpAny_newObj_type (wpAny_newFunctionEnv hcell (by intro y hy; simp at hy) (fun h₁ hns₁ hsb₁ => ?_) hkind)
  dsimp only at hns₁ hsb₁ ⊢
  generalize hH2 : s₂.heap.push { cls := .type "list", dict := none, data := .seq ([] : List Value).toArray } = H2 at hns₁ hsb₁ ⊢
  have hC : H2.objs.size = s₂.heap.objs.size + 1 := by rw [← hH2, Heap.size_push]
  generalize hCe : H2.objs.size = C at hns₁ hsb₁ hC ⊢
  generalize hDe : s₂.heap.objs.size = D at hC ⊢
  have hDC : D ≠ C := by rw [hC]; exact Nat.ne_of_lt (Nat.lt_succ_self _)
  have below : ∀ c, c < D → c ≠ C ∧ c ≠ D := fun c hb => ⟨by rw [hC]; exact Nat.ne_of_lt (Nat.lt_succ_of_lt hb), Nat.ne_of_lt hb⟩
  rw [hDe] at hlt
  have lt2 : ∀ {c o}, s₂.heap.get? c = some o → c < D := fun e => hDe ▸ Heap.lt_size e
  have old : ∀ c o, s₂.heap.get? c = some o → h₁.get? c = some o := fun c o e => hsb₁.extBut c o (below c (lt2 e)).1 (Heap.get?_push_of_some _ (hH2 ▸ Heap.get?_push_of_some _ e))
  have hacc : h₁.get? D = some (LCg.lst []) := hsb₁.extBut _ _ hDC (Heap.get?_push_of_some _ (hH2 ▸ hDe ▸ Heap.get?_push_size _ rfl))
  have fresh : ∀ c, D ≤ c → s₂.heap.get? c = none := fun c ha => by
    cases e : s₂.heap.get? c with
    | none => rfl
    | some o' => exact absurd (lt2 e) (Nat.not_lt.mpr ha)
  have fresh₀ : ∀ c, D ≤ c → h₀.get? c = none := fun c ha => by
    cases e : h₀.get? c with
    | none => rfl
    | some o' => have := F.keep c o' e; rw [fresh c ha] at this; cases this
  have hD₀ : h₀.get? D = none := fresh₀ _ (Nat.le_refl _)
  have hC₀ : h₀.get? C = none := fresh₀ _ (by rw [hC]; exact Nat.le_succ _)
  have hLlt : L < D := hDe ▸ F.ns.lt
  have hDL : D ≠ L := Ne.symm (below L hLlt).2
  have hCL : C ≠ L := Ne.symm (below L hLlt).1
  have hIlt : I < D := hlt I hIfp
  have hCI : I ≠ C := (below I hIlt).1
  have hDI : I ≠ D := (below I hIlt).2
  have hIL : I ≠ L := fun e => hLf (e ▸ hIfp)
  have hLw : L ∉ wr := fun x => hLf (W.sub _ x)
  have hst₁ : St 0 h₁ := W.frame _ _ _ hst fun c _ o e => old c o e
  have old₀ : ∀ c o, h₀.get? c = some o → c ∉ wr := fun c o e hb => by rw [hwr c hb] at e; cases e
  have hDw : D ∉ wr := fun x => Nat.lt_irrefl _ (hlt _ (W.sub _ x))
  have hCw : C ∉ wr := fun x => by have := hlt _ (W.sub _ x); rw [hC] at this; exact Nat.not_lt.mpr (Nat.le_succ _) this
  have loop : ∀ s₃ : Shared, s₃ = { s₂ with heap := h₁, toks := s₂.toks + ([] : List (Str × Value)).length } →
      codeAny (model prog w) A (.compLoop (.ListComp elt [⟨.Tuple [.Name a pa, .Name b pb] kk tp, iter, [], 0⟩] scope pos) 0 (.ref I) (.ref D) (compEnvC scope cl C env)) (RR (.ref D) C) s₃ := by
    rintro s₃ rfl
    refine kcp_loop
      (fun k s' => ∃ h' tk i ys m', s' = { s₂ with heap := h', toks := tk } ∧ i ≤ n ∧ k = n + 1 - i ∧ ys.length = i ∧ StrsAre ys ((List.range i).map g) ∧ St i h' ∧ Fr h₀ L h' m ∧ h'.Ns C m' ∧ News h₀ L h' ((D, LCg.lst ys) :: news)) ?_ (n + 1)
      ⟨h₁, _, 0, [], _, rfl, Nat.zero_le _, rfl, rfl, .nil, hst₁, F.keeps old, hns₁, fun p hp => ?_⟩
    · rintro k s' ⟨h', tk, i, ys, m', rfl, hi, rfl, hyl, hys, hst', F', hn', N'⟩
      by_cases hlt' : i < n
      · refine W.item i _ _ _ hlt' hst' fun v h₂ tk₂ hMd hk₂ => ?_
        refine W.go i v _ _ _ hMd fun h₃ hP hst₃ hk₃ => ?_
        obtain ⟨T, x, y, rfl, hPt, hT⟩ := hP
        have up₃ : ∀ c o, c ∉ wr → h'.get? c = some o → h₃.get? c = some o := fun c o hc e => hk₃ c o hc (hk₂ c o hc e)
        refine kcp_assign (env := compEnvC scope cl C env) hh hT (lookup_relabel_local hxa) (lookup_relabel_local hxb) (by simp [compEnvC, relabel, hkind]) (hn'.at' fun o e => up₃ _ o hCw e) fun h₄ tk₄ hn₄ hs₄ => ?_
        have up : ∀ c o, c ∉ wr → c ≠ C → h'.get? c = some o → h₄.get? c = some o := fun c o h1 h2 e => hs₄ c o h2 (up₃ c o h1 e)
        have hst₄ : St (i + 1) h₄ := W.frame _ _ _ hst₃ fun c hc o e => hs₄ c o (below c (hlt c hc)).1 e
        obtain ⟨oI, heI⟩ := hIo _ _ hst₄
        obtain ⟨oC, heC, hoC⟩ := LCg.ns_obj hn₄
        have F₄ : Fr h₀ L h₄ m := ⟨F'.ns.at' fun o e => up _ o hLw (Ne.symm hCL) e, fun c o e => up c o (old₀ c o e) (fun q => by rw [q, hC₀] at e; cases e) (F'.keep c o e), F'.above⟩
        have N₄ : News h₀ L h₄ ((D, LCg.lst ys) :: news) := fun q hq => by
          have z := N' q hq
          rcases List.mem_cons.mp hq with rfl | hq
          · exact ⟨up _ _ hDw hDC z.1, z.2⟩
          · exact ⟨up _ _ (hnw q hq) (below _ (lt2 (N q hq).1)).1 z.1, z.2⟩
        generalize hnwe : (ownOf h₀ fp h₄).filter (fun p => decide (p.1 ≠ I)) ++ news = nw
        have hsubn : ∀ p ∈ news, p ∈ nw := fun p hp => hnwe ▸ List.mem_append_right _ hp
        have hnwlt : ∀ p ∈ nw, p.1 < D ∧ p.1 ≠ I := fun p hp => by
          rw [← hnwe] at hp
          rcases List.mem_append.mp hp with hp | hp
          · obtain ⟨h1, h2⟩ := List.mem_filter.mp hp
            exact ⟨hlt _ (ownOf_sub p h1), by simpa using h2⟩
          · exact ⟨lt2 (N p hp).1, hnI p hp⟩
        have Nall : News h₀ L h₄ ((I, oI) :: (C, oC) :: (D, LCg.lst ys) :: nw) := fun q hq => by
          rcases List.mem_cons.mp hq with rfl | hq
          · exact ⟨heI, hIL, hI₀⟩
          · rcases List.mem_cons.mp hq with rfl | hq
            · exact ⟨heC, hCL, hC₀⟩
            · rcases List.mem_cons.mp hq with rfl | hq
              · exact N₄ _ (.head _)
              · rw [← hnwe] at hq
                rcases List.mem_append.mp hq with hq | hq
                · exact news_ownOf hLf q (List.mem_filter.mp hq).1
                · exact N₄ q (.tail _ hq)
        have IC : InComp h₀ L m news I oI C oC D ys nw h₄ := ⟨F₄, Nall, hsubn, LCg.Off3.of fun p hp => ⟨(hnwlt p hp).2, (below _ (hnwlt p hp).1).1, (below _ (hnwlt p hp).1).2⟩, hCI, hDI, Ne.symm hDC⟩
        refine wpAny_mono (turn i x y oI C oC D ys _ h₄ _ nw _ hlt' hPt IC hoC (by simp [hab]) (by simp)) (fun r s₅ h₅ => ?_) fun _ _ e => e
        obtain ⟨h₅, tk₅, t, rfl, rfl, F₅, N₅⟩ := h₅
        have zC := (N₅ (C, oC) (.tail _ (.head _))).1
        have zD := (N₅ (D, LCg.lst ys) (.tail _ (.tail _ (.head _)))).1
        have N₅' : News h₀ L h₅ nw := fun q hq => N₅ q (.tail _ (.tail _ (.tail _ hq)))
        have hst₅ : St (i + 1) h₅ := W.frame _ _ _ hst₄ fun c hc o e => by
          cases e0 : h₀.get? c with
          | some o0 =>
            have q := F₄.keep c o0 e0
            rw [e] at q
            rw [Option.some.inj q]
            exact F₅.keep c o0 e0
          | none =>
            by_cases hcI : c = I
            · subst hcI
              rw [heI] at e
              rw [← Option.some.inj e]
              exact (N₅ (c, oI) (.head _)).1
            · refine (N₅' (c, o) ?_).1
              rw [← hnwe]
              exact List.mem_append_left _ (List.mem_filter.mpr ⟨mem_ownOf hc e0 e, by simpa using hcI⟩)
        refine append_at (hsz := by show ys.toArray.size ≤ sizeLine; rw [List.size_toArray, hyl]; exact Nat.le_trans hi hsz) zD fun h₆ hs₆ hD₆ => ?_
        refine ⟨n + 1 - (i + 1), by omega, h₆, tk₅, i + 1, ys ++ [.str (g i) t], _, rfl, hlt', rfl, by rw [List.length_append, List.length_singleton, hyl], ?_, W.frame _ _ _ hst₅ fun c hc o e => hs₆.extBut c o (below c (hlt c hc)).2 e, F₅.change hs₆ hDL hD₀,
          (hoC.ns zC).sameBut hs₆ (Ne.symm hDC), fun q hq => ?_⟩
        · rw [List.range_succ, List.map_append]
          exact PySem.W.kct_snoc hys
        · rcases List.mem_cons.mp hq with rfl | hq
          · exact ⟨hD₆.trans (congrArg some (LCg.lst_snoc ys _)), hDL, hD₀⟩
          · exact ⟨hs₆.extBut _ _ (below _ (lt2 (N q hq).1)).2 (N₅' q (hsubn q hq)).1, (N₅' q (hsubn q hq)).2⟩
      · have hin : i = n := Nat.le_antisymm hi (Nat.not_lt.mp hlt')
        subst hin
        refine W.done _ _ _ hst' fun h₂ tk₂ hk₂ => ?_
        refine hRR _ _ h₂ tk₂ _ ys hys ⟨F'.ns.at' fun o e => hk₂ _ o hLw e, fun c o e => hk₂ c o (old₀ c o e) (F'.keep c o e), F'.above⟩ (fun q hq => ?_) (fun p hp => (below _ (lt2 (N p hp).1)).2) (hn'.at' fun o e => hk₂ _ o hCw e) hC₀ hD₀ hCL hDL (Ne.symm hDC) (fun p hp => (below _ (lt2 (N p hp).1)).1)
        have z := N' q hq
        rcases List.mem_cons.mp hq with rfl | hq
        · exact ⟨hk₂ _ _ hDw z.1, z.2⟩
        · exact ⟨hk₂ _ _ (hnw q hq) z.1, z.2⟩
    · rcases List.mem_cons.mp hp with rfl | hp
      · exact ⟨hacc, hDL, hD₀⟩
      · exact ⟨old _ _ (N p hp).1, (N p hp).2⟩
  exact codeAny_compStart_list (loop _ rfl) (hself _ _ _ hst₁ (loop _ rfl))

/-- what the call of zip hands on -/
structure ZipT (prog : Program) (w : World) (A : Around) (h₀ : Heap) (L : Addr) (m : Str → Option Value) (env : Env) (elt : Expr) (a b : Str) (scope : Scope) (cl : List (Str × Addr)) (Q : Value → Shared → Prop) (fv : Value) (args : List Value) (s₁ : Shared) : Prop where
  out : ∃ l1 l2 xs ys k1 k2 news g, fv = .type "zip" ∧ args = [.ref l1, .ref l2] ∧ A.handled = none ∧ Fr h₀ L s₁.heap m ∧ News h₀ L s₁.heap news ∧ (l1, listOf (List.toArray xs) k1) ∈ news ∧ (l2, listOf (List.toArray ys) k2) ∈ news ∧ min xs.length ys.length ≤ sizeLine ∧
    (∀ s₂ : Shared, (∃ h, s₂ = { s₁ with heap := h }) → ∀ i x y I oI C oC D vs m₂ h tk nw (E' : Value → Shared → Prop), xs[i]? = some x → ys[i]? = some y → InComp h₀ L m news I oI C oC D vs nw h → LCg.NsObj oC m₂ → m₂ a = some x → m₂ b = some y →
      wpAny (model prog w) A (eval elt (compEnvC scope cl C env)) (fun y s₄ => ∃ h' tk' t, s₄ = { s₂ with heap := h', toks := tk' } ∧ y = .str (g i) t ∧ Fr h₀ L h' m ∧ News h₀ L h' ((I, oI) :: (C, oC) :: (D, LCg.lst vs) :: nw)) E' { s₂ with heap := h, toks := tk }) ∧
    ∀ D h tk vs, StrsAre vs ((List.range (min xs.length ys.length)).map g) → Fr h₀ L h m → News h₀ L h ((D, LCg.lst vs) :: news) → (∀ p ∈ news, p.1 ≠ D) → Q (.ref D) { s₁ with heap := h, toks := tk }

structure ZipSrc (prog : Program) (w : World) (A : Around) (h₀ : Heap) (L : Addr) (m : Str → Option Value) (env : Env) (elt : Expr) (a b : Str) (scope : Scope) (cl : List (Str × Addr)) (Q : Value → Shared → Prop) (xv : Value) (s₁ : Shared) : Prop where
  out : ∃ fv args s₀, ZipT prog w A h₀ L m env elt a b scope cl Q fv args s₀ ∧ ∃ zh, xv = .ref zh ∧ ∃ h', s₁ = { s₀ with heap := h' } ∧ ∃ l1 l2, args = [.ref l1, .ref l2] ∧ s₀.heap.objs.size + 4 = zh ∧ IsZip h' (s₀.heap.objs.size + 4) (s₀.heap.objs.size + 2) (s₀.heap.objs.size + 3) .none ∧ IsPair h' (s₀.heap.objs.size + 2) (.ref s₀.heap.objs.size) (.ref (s₀.heap.objs.size + 1)) ∧
      IsPair h' (s₀.heap.objs.size + 3) .none .none ∧ h'.IsListIter s₀.heap.objs.size l1 0 ∧ h'.IsListIter (s₀.heap.objs.size + 1) l2 0 ∧ h'.objs.size = s₀.heap.objs.size + 5 ∧ (∀ c o, s₀.heap.get? c = some o → h'.get? c = some o)

theorem zip_src {elt : Expr} {a b : Str} {scope : Scope} {cl : List (Str × Addr)} {Q : Value → Shared → Prop} {l1 l2 : Addr} (Z : ZipT prog w A h₀ L m env elt a b scope cl Q (.type "zip") [.ref l1, .ref l2] s) :
    wpAny (model prog w) A (call (.type "zip") [.ref l1, .ref l2]) (ZipSrc prog w A h₀ L m env elt a b scope cl Q) E s := by
  obtain ⟨l1', l2', xs, ys, k1, k2, news, g, _, ha, hh, F, N, hm1, hm2, _⟩ := Z.out
  cases ha
  refine call_zip_2 ⟨_, (N _ hm1).1, rfl, _, rfl⟩ ⟨_, (N _ hm2).1, rfl, _, rfl⟩ fun h' hz hTI hTO hi1 hi2 hsize hk => ?_
  exact ⟨_, _, s, Z, _, rfl, h', rfl, _, _, rfl, rfl, hz, hTI, hTO, hi1, hi2, hsize, hk⟩

theorem listComp_zip {elt iter : Expr} {a b : Str} {pa pb tp : Pos} {kk : Nat} {scope : Scope} {cl : List (Str × Addr)} {pos : Pos} {Q : Value → Shared → Prop} (_F₀ : Fr h₀ L s.heap m)
    (hclos : closureFor scope env = pure cl) (hcell : ∀ y ∈ scope.names, y.2 ≠ .cell) (hkind : scope.kind = .function)
    (hnames : ∀ y ∈ scope.names, y.2 = .local → scope.names.lookup y.1 = some .local) (hxa : scope.names.lookup a = some .local) (hxb : scope.names.lookup b = some .local) (hab : ¬ a = b)
    (h : wpAny (model prog w) A (eval iter env) (ZipSrc prog w A h₀ L m env elt a b scope cl Q) E s)
    (hs : ∀ x, foldedSetIterable iter env x = pure x := by intro _; rfl) :
    wpAny (model prog w) A (eval (.ListComp elt [⟨.Tuple [.Name a pa, .Name b pb] kk tp, iter, [], 0⟩] scope pos) env) Q E s := by
  rw [eval_ListComp]
  refine wpAny_comprehension_free (use := none) rfl hs hclos hkind hnames (wpAny_mono h (fun xv s₁ h₁ => ?_) fun _ _ e => e)
  obtain ⟨fv, args, s₀, ⟨l1, l2, xs, ys, k1, k2, news, g, rfl, rfl, hh, F, N, hm1, hm2, hsz, hturn, hfin⟩, zh, rfl, h', rfl, l1', l2', ha, rfl, hz, hTI, hTO, hi1, hi2, hsize, hk⟩ := h₁.out
  cases ha
  have hl1 : s₀.heap.IsList l1 xs.toArray := ⟨_, (N _ hm1).1, rfl, _, rfl⟩
  have hl2 : s₀.heap.IsList l2 ys.toArray := ⟨_, (N _ hm2).1, rfl, _, rfl⟩
  have a1 : l1 < s₀.heap.objs.size := Heap.lt_size (N _ hm1).1
  have a2 : l2 < s₀.heap.objs.size := Heap.lt_size (N _ hm2).1
  have D := zipApart_new a1 a2
  have W := KTurns.ofWalksU (elts := [.Name a pa, .Name b pb]) (k := kk) (pos := tp) (WalksT.zip2 (prog := prog) (w := w) hh _ _ _ _ _ _ _ D xs.toArray ys.toArray).toU
  have hF : Fr h₀ L h' m := F.keeps hk
  have hN : News h₀ L h' news := N.grown hk
  have hLlt : L < s₀.heap.objs.size := F.ns.lt
  have hnl : ∀ p ∈ news, p.1 < s₀.heap.objs.size := fun p hp => Heap.lt_size (N p hp).1
  have fresh₀ : ∀ c, s₀.heap.objs.size ≤ c → h₀.get? c = none := fun c ha => by
    cases e : h₀.get? c with
    | none => rfl
    | some o' => exact absurd (Heap.lt_size (F.keep c o' e)) (Nat.not_lt.mpr ha)
  have hsz' : min xs.toArray.size ys.toArray.size = min xs.length ys.length := by simp
  rw [hsz'] at W
  refine wpAny_pyIter_zip hz ?_
  refine comp_pairs (Pt := fun i x y => xs[i]? = some x ∧ ys[i]? = some y) (news := news) g hh
    { sub := W.sub, frame := W.frame, item := W.item, done := W.done,
      go := fun i v s Q E hm hQ => W.go i v s Q E hm fun h'' hP => hQ h'' (by obtain ⟨T, vals, e, ⟨x, y, hx, hy, rfl⟩, hT⟩ := hP; exact ⟨T, x, y, e, ⟨by simpa using hx, by simpa using hy⟩, hT⟩) }
    hsz (fun s Q E st hq => wpAny_pyIter_zip st.1 hq) (by simp) (fresh₀ _ (by first | exact Nat.le_add_right _ 4 | exact Nat.le_add_right _ 3 | exact Nat.le_refl _ | exact Nat.le_add_right _ 1)) (fun i h st => ⟨_, st.1⟩) ?_ ?_ ?_ ?_ ?_ ⟨hz, hTI, ⟨_, _, hTO⟩, hi1, hi2, hl1.at fun o e => hk _ o e, hl2.at fun o e => hk _ o e⟩ hcell hkind hxa hxb hab hF hN ?_ ?_
  · intro c hc
    show c < h'.objs.size
    rw [hsize]
    simp only [List.mem_cons, List.not_mem_nil, or_false] at hc
    rcases hc with rfl | rfl | rfl | rfl | rfl | rfl | rfl <;> first | exact Nat.add_lt_add_left (by decide) _ | (refine Nat.lt_of_lt_of_le ?_ (Nat.le_add_right _ 5); assumption) | exact Nat.lt_add_of_pos_right (by decide)
  · intro c hc
    simp only [List.mem_cons, List.not_mem_nil, or_false] at hc
    rcases hc with rfl | rfl | rfl | rfl <;> exact fresh₀ _ (by first | exact Nat.le_add_right _ 4 | exact Nat.le_add_right _ 3 | exact Nat.le_refl _ | exact Nat.le_add_right _ 1)
  · intro hc
    simp only [List.mem_cons, List.not_mem_nil, or_false] at hc
    have n1 := (N _ hm1).2.1
    have n2 := (N _ hm2).2.1
    rcases hc with e | e | e | e | e | e | e
    · exact absurd hLlt (by rw [e]; exact Nat.not_lt.mpr (Nat.le_add_right _ 4))
    · exact absurd hLlt (by rw [e]; exact Nat.not_lt.mpr (Nat.le_add_right _ 2))
    · exact absurd hLlt (by rw [e]; exact Nat.not_lt.mpr (Nat.le_add_right _ 3))
    · exact absurd hLlt (by rw [e]; exact Nat.lt_irrefl _)
    · exact absurd hLlt (by rw [e]; exact Nat.not_lt.mpr (Nat.le_add_right _ _))
    · exact n1 e.symm
    · exact n2 e.symm
  · intro p hp hc
    have := hnl p hp
    simp only [List.mem_cons, List.not_mem_nil, or_false] at hc
    rcases hc with e | e | e | e <;> (rw [e] at this; first | exact Nat.not_lt.mpr (Nat.le_add_right _ 4) this | exact Nat.not_lt.mpr (Nat.le_add_right _ 3) this | exact Nat.lt_irrefl _ this | exact Nat.not_lt.mpr (Nat.le_add_right _ 1) this)
  · intro p hp e
    have := hnl p hp
    rw [e] at this
    exact Nat.not_lt.mpr (Nat.le_add_right _ 4) this
  · intro i x y oI C oC D ys' m₂ h tk nw E' hi hxy IC hC ha hb
    exact hturn _ ⟨h', rfl⟩ i x y _ oI C oC D ys' m₂ h tk nw E' hxy.1 hxy.2 IC hC ha hb
  · intro D C h tk m' vs hvs F' N' off hn hC₀ hD₀ hCL hDL hCD offC
    refine ⟨m', hn, fun h'' hs'' => hfin D h'' tk vs hvs (F'.change hs'' hCL hC₀) (fun p hp => ?_) off⟩
    refine ⟨hs''.extBut _ _ ?_ (N' p hp).1, (N' p hp).2⟩
    rcases List.mem_cons.mp hp with rfl | hp
    · exact Ne.symm hCD
    · exact offC p hp
end
end

-- part C5
section
open PySem PySem.W PyProof.Rows
set_option rowWalk.seconds 0
variable {w : World} {mean : ExcName → Option Value} {mg mb : Str → Option Value} {loose : List Str}
    {dp un : Nat} {gd : Option (List Code)} {cn : Str} {cs : Scope} {a : Addr} {ccd : Value} {cl : List (Str × Addr)} {outer : List Env} {A₀ : Around} {base h₀ : Heap} {L : Addr} {m : Str → Option Value} {news : List (Addr × Obj)} {s : Shared}
    {Q E : Value → Shared → Prop}
theorem rows_C5_1 : True := by
  k_with_none
  (k_with "k_room" => first | exact room1 (by assumption) rfl | exact room2 (by assumption) rfl | exact room3 (by assumption) rfl | ktr_room)
  (k_with "k_units" => first | exact room1 (by assumption) rfl | exact room2 (by assumption) rfl | exact room3 (by assumption) rfl | ktr_units)
  (k_with "k_mem" => assumption)
  (k_with "cell_enter" => refine code_defC (by k_asm) (by k_asm) (by k_asm) (by k_asm) (by k_asm) (by exact rfl) (by exact rfl) (by assumption) (by k_is) (by k_is) (by k_room) (by exact BindsTo.of_eq rfl) (by exact rfl) (by decide +kernel) ?_ (by exact rfl) (by exact rfl) (by exact rfl); k_whole; intro _ _ _ _ _ _ _ N'_w9 Y'_w9 B'_w9 _ _ l1_w9; (try k_lt l1_w9); k_cells Y'_w9; (try simp only [List.cons_append, List.nil_append] at N'_w9); (try dsimp only); (try k_lift B'_w9); (try k_fold))
  (k_with "eval ListComp" => k_dflt (refine listComp_tup (by k_asm) (by with_unfolding_all rfl) (by decide) (by rfl) (by decide) (by rfl) ?_))
  (k_with "eval Name" => (with_reducible show wpAny _ _ (eval (Expr.Name _ _) _) (SrcT _ _ _ _ _ _ _ _ _ _ _ _) _ _); k_dflt (refine ld (by k_asm) (by exact rfl) ?_))
  trivial
theorem names_get {many : Nat} (hm : many ≤ 4) {x : Int} (h : 0 ≤ x ∧ x < (many : Int)) : (names.take many)[x.toNat]? = some (nm x) := by
  have hx : x.toNat < many := by omega
  rw [List.getElem?_take_of_lt hx]
  have h4 : x.toNat < names.length := by have : names.length = 4 := rfl; omega
  rw [List.getElem?_eq_getElem h4]
  unfold nm
  rw [List.getD_eq_getElem?_getD, List.getElem?_eq_getElem h4]; rfl
/-- the object of Universe(names.take many) -/
structure UnivAt (news : List (Addr × Obj)) (u dx nt nd : Addr) (e1 e2 : Int) (t1 t2 : Tok) (kk k3 : Nat) (nvs : List Value) (many : Nat) : Prop where
  inst : (u, instObj 207 dx) ∈ news
  dict : (dx, dictOf [⟨e1, .str "names" t1, .ref nt⟩, ⟨e2, .str "numbers" t2, .ref nd⟩] kk) ∈ news
  tup : (nt, tupOf nvs k3) ∈ news
  txts : StrsAre nvs (names.take many)

theorem text_of_tells {u dx nt nd : Addr} {e1 e2 : Int} {t1 t2 : Tok} {kk k3 : Nat} {nvs : List Value} {many : Nat} {row : List Int} {rv : Value}
    (B : Below A₀ base outer h₀) (F : Fr h₀ L s.heap m) (X : (Mine.hd.heap_1 w.params).In h₀) (N : News h₀ L s.heap news) (T : Top V loose mean mg mb h₀) (hk : cs.kind = .function)
    (hd : dp + 3 < recursionLimit) (hu : un + 20 < cLine)
    (hU : UnivAt news u dx nt nd e1 e2 t1 t2 kk k3 nvs many) (hm4 : many ≤ 4) (hD : DatIn news rv (rowD row)) (hr : row.length ≤ 3 ∧ ∀ a ∈ row, 0 ≤ a ∧ a < (many : Int))
    (hret : ∀ t h' tk', Fr h₀ L h' m → News h₀ L h' news → Q (.str (rowText row) t) { s with heap := h', toks := tk' }) :
    wpAny (model P w) (ktrTop dp un gd cn cs L a ccd cl outer) (call (.ref 199) [.ref u, rv]) Q E s := by
  w_on
  obtain ⟨hu1, hu2, hu3, hu4⟩ := hU
  cases hD with
  | @tuple b us k ds hm hds =>
  have hus := datAll_ints hds
  refine wpAny_call ?_
  k_dflt cell_enter
  w_strict k_steps
  all_goals (try k_data)
  have hul : us.length = row.length := hus.length
  refine ⟨_, us, k, _, rfl, rfl, by assumption, by assumption, .tail _ hm, by rw [sizeLine_eq]; omega, ?_⟩
  rintro s₃ ⟨g3, rfl⟩
  refine comp_texts (fun j => nm (row.getD j 0)) (.tail _ hm) ?_ ?_
  · intro j v1 I1 oI1 C1 oC1 D1 m3 ys1 h3 tk3 E3 hj hv1 hC1 hx1 F2 N2 off2 ne2
    obtain ⟨x, t, rfl, hx2⟩ := IntsAre.at hus j v1 hv1
    have hg2 : row.getD j 0 = x := by rw [List.getD_eq_getElem?_getD, hx2]; rfl
    rw [hg2]
    have hxr := hr.2 x (List.mem_of_getElem? hx2)
    k_steps
    obtain ⟨t9, hx9⟩ := StrsAre.get hu4 x.toNat (nm x) (names_get hm4 hxr)
    have hlen9 : nvs.length = many := by rw [StrsAre.length hu4, List.length_take]; exact Nat.min_eq_left (by simpa [names] using hm4)
    refine item_tupleT (l := nvs) (j := x.toNat) (tup_at N2 (.tail _ (.tail _ (.tail _ (.tail _ hu3))))) (by omega) (by omega) ?_ hx9 ?_
    · unfold seqIndex?; rw [hlen9]; simp; omega
    k_steps
    all_goals first | assumption | skip
  · intro ys2 hys2
    rw [hul] at hys2
    rw [range_map row 0 nm] at hys2
    intro D2 h4 tk4 F3 N3 o3
    k_steps
    refine join_at (lst_at (by assumption) (.head _)) hys2 (by decide +kernel) ?_ ?_ ?_
    · rw [List.length_map]; omega
    · intro y hy
      obtain ⟨x, _, rfl⟩ := List.mem_map.mp hy
      have := nm_len x
      omega
    intro t5 k5 hj5
    k_steps
    rename News h₀ L _ _ => kN
    exact hret _ _ _ (by assumption) (fun p hp => kN p (.tail _ (.tail _ hp)))
end

-- part C6
section
open PySem PySem.W PyProof.Rows
set_option rowWalk.seconds 0
variable {w : World} {mean : ExcName → Option Value} {mg mb : Str → Option Value} {loose : List Str}
    {dp un : Nat} {gd : Option (List Code)} {cn : Str} {cs : Scope} {a : Addr} {ccd : Value} {cl : List (Str × Addr)} {outer : List Env} {A₀ : Around} {base h₀ : Heap} {L : Addr} {m : Str → Option Value} {news : List (Addr × Obj)} {s : Shared}
    {Q E : Value → Shared → Prop}
theorem rows_C6_1 : True := by
  k_with_none
  (k_with "k_room" => first | exact room1 (by assumption) rfl | exact room2 (by assumption) rfl | exact room3 (by assumption) rfl | ktr_room)
  (k_with "k_units" => first | exact room1 (by assumption) rfl | exact room2 (by assumption) rfl | exact room3 (by assumption) rfl | ktr_units)
  (k_with "k_mem" => assumption)
  (k_with "cell_enter" => refine code_defC (by k_asm) (by k_asm) (by k_asm) (by k_asm) (by k_asm) (by exact rfl) (by exact rfl) (by assumption) (by k_is) (by k_is) (by k_room) (by exact BindsTo.of_eq rfl) (by exact rfl) (by decide +kernel) ?_ (by exact rfl) (by exact rfl) (by exact rfl); k_whole; intro _ _ _ _ _ _ _ N'_w9 Y'_w9 B'_w9 _ _ l1_w9; (try k_lt l1_w9); k_cells Y'_w9; (try simp only [List.cons_append, List.nil_append] at N'_w9); (try dsimp only); (try k_lift B'_w9); (try k_fold))
  (k_with "eval ListComp" => k_dflt (refine listComp_tup (by k_asm) (by with_unfolding_all rfl) (by decide) (by rfl) (by decide) (by rfl) ?_))
  (k_with "eval Name" => (with_reducible show wpAny _ _ (eval (Expr.Name _ _) _) (SrcT _ _ _ _ _ _ _ _ _ _ _ _) _ _); k_dflt (refine ld (by k_asm) (by exact rfl) ?_))
  trivial
theorem UnivAt.mono {news news' : List (Addr × Obj)} {u dx nt nd : Addr} {e1 e2 : Int} {t1 t2 : Tok} {kk k3 : Nat} {nvs : List Value} {many : Nat} (h : UnivAt news u dx nt nd e1 e2 t1 t2 kk k3 nvs many) (hs : ∀ p ∈ news, p ∈ news') : UnivAt news' u dx nt nd e1 e2 t1 t2 kk k3 nvs many :=
  ⟨hs _ h.inst, hs _ h.dict, hs _ h.tup, h.txts⟩
theorem rows_C6_2 : True := by
  (k_with "call ref" => k_here; (with_reducible show wpAny _ _ (call (Value.ref 199) _) _ _ _); k_dflt (refine text_of_tells (by k_asm) (by k_asm) (by k_asm) (by k_asm) (by k_asm) (by exact rfl) (by k_room) (by k_units) (by exact UnivAt.mono (by assumption) (by intro p_w9 hp_w9; (repeat refine List.Mem.tail _ ?_); assumption)) (by assumption) (by exact DatIn.mono (by intro p_w9 hp_w9; (repeat refine List.Mem.tail _ ?_); assumption) (by assumption)) (by assumption) ?_; intro _ _ _ _ _))
  trivial
theorem set_text_tells {u dx nt nd : Addr} {e1 e2 : Int} {t1 t2 : Tok} {kk k3 : Nat} {nvs : List Value} {many : Nat} {rows : List (List Int)} {rv : Value}
    (B : Below A₀ base outer h₀) (F : Fr h₀ L s.heap m) (X : (Mine.hd.heap_1 w.params).In h₀) (N : News h₀ L s.heap news) (T : Top V loose mean mg mb h₀) (hk : cs.kind = .function)
    (hd : dp + 6 < recursionLimit) (hu : un + 40 < cLine)
    (hU : UnivAt news u dx nt nd e1 e2 t1 t2 kk k3 nvs many) (hm4 : many ≤ 4) (hD : DatIn news rv (relD rows)) (hn : rows.length ≤ 50) (hr : ∀ row ∈ rows, row.length ≤ 3 ∧ ∀ a ∈ row, 0 ≤ a ∧ a < (many : Int))
    (hret : ∀ t h' tk', Fr h₀ L h' m → News h₀ L h' news → Q (.str ("{" ++ Str.join ", " (rows.map rowText) ++ "}") t) { s with heap := h', toks := tk' }) :
    wpAny (model P w) (ktrTop dp un gd cn cs L a ccd cl outer) (call (.ref 204) [.ref u, rv]) Q E s := by
  w_on
  have ⟨hu1, hu2, hu3, hu4⟩ := hU
  cases hD with
  | @tuple b vs k ds hm hds =>
  refine wpAny_call ?_
  k_dflt cell_enter
  w_strict k_steps
  all_goals (try k_data)
  have hlen : vs.length = rows.length := by rw [DatAll.length hds, List.length_map]
  refine ⟨_, vs, k, _, rfl, rfl, by assumption, by assumption, .tail _ hm, by rw [sizeLine_eq]; omega, ?_⟩
  rintro s₃ ⟨g3, rfl⟩
  refine comp_texts (fun j => rowText (rows.getD j [])) (.tail _ hm) ?_ ?_
  · intro j v1 I1 oI1 C1 oC1 D1 m3 ys1 h3 tk3 E3 hj hv1 hC1 hx1 F2 N2 off2 ne2
    obtain ⟨row, hrow, hmem, hdv⟩ := datAll_at hds hv1
    have hg2 : rows.getD j [] = row := by rw [List.getD_eq_getElem?_getD, hrow]; rfl
    rw [hg2]
    have hrr := hr _ hmem
    k_steps
    all_goals first | assumption | skip
  · intro ys2 hys2
    rw [hlen] at hys2
    rw [range_map rows [] rowText] at hys2
    intro D2 h4 tk4 F3 N3 o3
    k_steps
    refine join_at (lst_at (by assumption) (.head _)) hys2 (by decide +kernel) ?_ ?_ ?_
    · rw [List.length_map]; omega
    · intro y hy
      obtain ⟨x, hx, rfl⟩ := List.mem_map.mp hy
      have := rowText_len x (hr x hx).1
      omega
    intro t5 k5 hj5
    k_steps
    rename News h₀ L _ _ => kN
    exact hret _ _ _ (by assumption) (fun p hp => kN p (.tail _ (.tail _ hp)))
end

-- part C7
section
open PySem PySem.W PyProof.Rows
set_option rowWalk.seconds 0
variable {w : World} {mean : ExcName → Option Value} {mg mb : Str → Option Value} {loose : List Str}
    {dp un : Nat} {gd : Option (List Code)} {cn : Str} {cs : Scope} {a : Addr} {ccd : Value} {cl : List (Str × Addr)} {outer : List Env} {A₀ : Around} {base h₀ : Heap} {L : Addr} {m : Str → Option Value} {news : List (Addr × Obj)} {s : Shared}
    {Q E : Value → Shared → Prop}
theorem rows_C7_1 : True := by
  k_with_none
  (k_with "k_room" => first | exact room1 (by assumption) rfl | exact room2 (by assumption) rfl | exact room3 (by assumption) rfl | ktr_room)
  (k_with "k_units" => first | exact room1 (by assumption) rfl | exact room2 (by assumption) rfl | exact room3 (by assumption) rfl | ktr_units)
  (k_with "k_mem" => assumption)
  (k_with "cell_enter" => refine code_defC (by k_asm) (by k_asm) (by k_asm) (by k_asm) (by k_asm) (by exact rfl) (by exact rfl) (by assumption) (by k_is) (by k_is) (by k_room) (by exact BindsTo.of_eq rfl) (by exact rfl) (by decide +kernel) ?_ (by exact rfl) (by exact rfl) (by exact rfl); k_whole; intro _ _ _ _ _ _ _ N'_w9 Y'_w9 B'_w9 _ _ l1_w9; (try k_lt l1_w9); k_cells Y'_w9; (try simp only [List.cons_append, List.nil_append] at N'_w9); (try dsimp only); (try k_lift B'_w9); (try k_fold))
  (k_with "eval ListComp" => k_dflt (refine listComp_tup (by k_asm) (by with_unfolding_all rfl) (by decide) (by rfl) (by decide) (by rfl) ?_))
  (k_with "eval Name" => (with_reducible show wpAny _ _ (eval (Expr.Name _ _) _) (SrcT _ _ _ _ _ _ _ _ _ _ _ _) _ _); k_dflt (refine ld (by k_asm) (by exact rfl) ?_))
  trivial
def relText (rs : List (List Int)) : Str := Str.join ", " (rs.map rowText)
def rowStr (mark : Str) (texts : List Str) : Str := mark ++ "={" ++ Str.join ", " texts ++ "}"
def wholeText (marks : List Str) (rels : List (List (List Int))) : Str := Str.join "\n" ((marks.zip rels).map fun p => rowStr p.1 (p.2.map rowText))
def instD (rels : List (List (List Int))) : List Dat := rels.map relD
theorem str_eq1 (a b : Str) : a ++ ("=" : Str) ++ (("{" : Str) ++ b ++ ("}" : Str)) = a ++ ("={" : Str) ++ b ++ ("}" : Str) := by
  have e : ("={" : Str) = ("=" : Str) ++ ("{" : Str) := by decide +kernel
  rw [e]
  simp only [Str.append_assoc]
theorem zip_range {α β γ : Type} : ∀ (l : List α) (r : List β) (d : α) (e : β) (f : α → β → γ), (List.range (min l.length r.length)).map (fun i => f (l.getD i d) (r.getD i e)) = (l.zip r).map fun p => f p.1 p.2 := by
  intro l r d e f
  apply List.ext_getElem
  · simp
  · intro i h1 h2
    simp only [List.length_map, List.length_range, Nat.lt_min] at h1
    simp [h1.1, h1.2]
theorem relText_len (rs : List (List Int)) (h : ∀ r ∈ rs, r.length ≤ 3) (hn : rs.length ≤ 50) : (relText rs).length ≤ 900 := by
  have h1 := join_len ", " (rs.map rowText)
  have h2 := sum_le_of (rs.map rowText) 15 (by intro y hy; obtain ⟨a, ha, rfl⟩ := List.mem_map.mp hy; exact rowText_len a (h a ha))
  have h3 : (", " : Str).length = 2 := by decide +kernel
  rw [List.length_map] at h1 h2
  rw [h3] at h1
  unfold relText
  omega


theorem rows_C7_2 : True := by
  (k_with "eval ListComp" => k_dflt (refine listComp_zip (by k_asm) (by with_unfolding_all rfl) (by decide) (by rfl) (by decide) (by rfl) (by rfl) (by decide +kernel) ?_))
  (k_with "call type:zip" => (with_reducible show wpAny _ _ (call (Value.type _) [Value.ref _, Value.ref _]) (ZipSrc _ _ _ _ _ _ _ _ _ _ _ _ _) _ _); refine zip_src ?_)
  (k_with "call ref" => k_here; (with_reducible show wpAny _ _ (call (Value.ref 204) _) _ _ _); k_dflt (refine set_text_tells (by k_asm) (by k_asm) (by k_asm) (by k_asm) (by k_asm) (by exact rfl) (by k_room) (by k_units) (by exact UnivAt.mono (by assumption) (by intro p_w9 hp_w9; (repeat refine List.Mem.tail _ ?_); assumption)) (by assumption) (by exact DatIn.mono (by intro p_w9 hp_w9; (repeat refine List.Mem.tail _ ?_); assumption) (by assumption)) (by assumption) (by assumption) ?_; intro _ _ _ _ _))
  trivial
theorem instance_text_tells {u dx nt nd : Addr} {e1 e2 : Int} {t1 t2 : Tok} {kk k3 : Nat} {nvs : List Value} {many : Nat} {marks : List Str} {rels : List (List (List Int))} {l1 l2 : Addr} {xs ys : List Value} {k1 k2 : Nat}
    (B : Below A₀ base outer h₀) (F : Fr h₀ L s.heap m) (X : (Mine.hd.heap_1 w.params).In h₀) (N : News h₀ L s.heap news) (T : Top V loose mean mg mb h₀) (hk : cs.kind = .function)
    (hd : dp + 9 < recursionLimit) (hu : un + 60 < cLine)
    (hU : UnivAt news u dx nt nd e1 e2 t1 t2 kk k3 nvs many) (hm4 : many ≤ 4) (hl1 : (l1, listOf xs.toArray k1) ∈ news) (hx1 : StrsAre xs marks) (hl2 : (l2, listOf ys.toArray k2) ∈ news) (hD : DatAll news ys (instD rels))
    (hlen : marks.length = rels.length) (hn : marks.length ≤ 3) (hmk : ∀ x ∈ marks, x.length ≤ 10) (hr : ∀ rel ∈ rels, rel.length ≤ 50 ∧ ∀ row ∈ rel, row.length ≤ 3 ∧ ∀ a ∈ row, 0 ≤ a ∧ a < (many : Int))
    (hret : ∀ t h' tk', Fr h₀ L h' m → News h₀ L h' news → Q (.str (wholeText marks rels) t) { s with heap := h', toks := tk' }) :
    wpAny (model P w) (ktrTop dp un gd cn cs L a ccd cl outer) (call (.ref 112) [.ref u, .ref l1, .ref l2]) Q E s := by
  w_on
  refine wpAny_call ?_
  k_dflt cell_enter
  w_strict k_steps
  all_goals (try k_data)
  have hxl : xs.length = marks.length := StrsAre.length hx1
  have hyl : ys.length = rels.length := by rw [DatAll.length hD, instD, List.length_map]
  refine ⟨l1, l2, xs, ys, k1, k2, _, fun i => rowStr (marks.getD i Str.empty) ((rels.getD i []).map rowText), rfl, rfl, rfl, by assumption, by assumption, ?_, ?_, by rw [sizeLine_eq]; omega, ?_, ?_⟩
  · (repeat refine List.Mem.tail _ ?_); assumption
  · (repeat refine List.Mem.tail _ ?_); assumption
  · rintro s₂ ⟨g, rfl⟩ i x y I oI C oC D vs m₂ h tk nw E' hx hy IC hC ha hb
    obtain ⟨mk, t, rfl, hmk2⟩ := StrsAre.item hx1 i x hx
    obtain ⟨rel, hrel, hmem, hdv⟩ := datAll_at hD hy
    obtain ⟨F1, N1, hsub, off, ne⟩ := IC
    have hg1 : marks.getD i Str.empty = mk := by rw [List.getD_eq_getElem?_getD, hmk2]; rfl
    have hg2 : rels.getD i [] = rel := by rw [List.getD_eq_getElem?_getD, hrel]; rfl
    dsimp only
    rw [hg1, hg2]
    unfold rowStr
    have ⟨hrn, hrr⟩ := hr _ hmem
    have hml := hmk _ (List.mem_of_getElem? hmk2)
    have hcl9 := hsub _ (.head _)
    have hU' := hU.mono (fun p hp => hsub p (.tail _ hp))
    have ⟨hv1, hv2, hv3, hv4⟩ := hU'
    have hdv' := DatIn.mono (fun p hp => hsub p (.tail _ hp)) hdv
    have hlen9 := relText_len rel (fun r hr' => (hrr r hr').1) hrn
    unfold relText at hlen9
    clear hU hdv hD
    k_steps
    all_goals first | assumption | exact congrArg (fun x => Value.str x _) (str_eq1 _ _)
  · intro D h tk vs hvs F1 N1 off
    have hkey : (List.range (min xs.length ys.length)).map (fun i => rowStr (marks.getD i Str.empty) ((rels.getD i []).map rowText)) = (marks.zip rels).map fun p => rowStr p.1 (p.2.map rowText) := by
      rw [hxl, hyl]
      exact zip_range marks rels _ _ (fun a b => rowStr a (b.map rowText))
    rw [hkey] at hvs
    k_steps
    refine join_at (lst_at (by assumption) (.head _)) hvs (by decide +kernel) ?_ ?_ ?_
    · simp only [List.length_map, List.length_zip]; omega
    · intro y hy
      obtain ⟨p, hp, rfl⟩ := List.mem_map.mp hy
      have h1 := List.of_mem_zip hp
      have h2 := hmk _ h1.1
      have h3 := hr _ h1.2
      have h4 := relText_len p.2 (fun r hr' => (h3.2 r hr').1) h3.1
      have h5 : ("={" : Str).length = 2 := by decide +kernel
      have h6 : ("}" : Str).length = 1 := by decide +kernel
      unfold relText at h4
      unfold rowStr
      rw [Str.length_append, Str.length_append, Str.length_append, h5, h6]
      omega
    intro t5 k5 hj5
    k_steps
    rename News h₀ L _ _ => kN
    exact hret _ _ _ (by assumption) (fun p hp => kN p (.tail _ (.tail _ hp)))
end

-- part C1
section
open PySem PySem.W PyProof.Rows
set_option rowWalk.seconds 0
variable {w : World} {mean : ExcName → Option Value} {mg mb : Str → Option Value} {loose : List Str}
    {dp un : Nat} {gd : Option (List Code)} {cn : Str} {cs : Scope} {a : Addr} {ccd : Value} {cl : List (Str × Addr)} {outer : List Env} {A₀ : Around} {base h₀ : Heap} {L : Addr} {m : Str → Option Value} {news : List (Addr × Obj)} {s : Shared}
    {Q E : Value → Shared → Prop}
theorem law_row_tells {mark : Str} {texts : List Str} {l : Addr} {vs : List Value} {n : Nat} {t1 : Tok}
    (B : Below A₀ base outer h₀) (F : Fr h₀ L s.heap m) (X : (Mine.hd.heap_1 w.params).In h₀) (N : News h₀ L s.heap news) (T : Top V loose mean mg mb h₀) (hk : cs.kind = .function)
    (hd : dp + 3 < recursionLimit) (hu : un + 20 < cLine)
    (hl : (l, listOf vs.toArray n) ∈ news) (hD : StrsAre vs texts) (hm : mark.length ≤ 10) (hn : texts.length ≤ 50) (hy : ∀ y ∈ texts, y.length ≤ 1000)
    (hret : ∀ t h' tk', Fr h₀ L h' m → News h₀ L h' news → Q (.str (mark ++ "={" ++ Str.join ", " texts ++ "}") t) { s with heap := h', toks := tk' }) :
    wpAny (model P w) (ktrTop dp un gd cn cs L a ccd cl outer) (call (.ref 237) [.str mark t1, .ref l]) Q E s := by
  w_on
  refine wpAny_call ?_
  k_dflt cell_enter
  w_strict k_steps
  refine join_at (Mine.lst_at (by assumption) (by assumption)) (by assumption) (by decide +kernel) (by assumption) (by assumption) ?_
  intro _ _ _
  k_steps
  exact hret _ _ _ (by assumption) (by assumption)
end

-- part D0
section
open PySem PySem.W PyProof.Rows
section
variable {prog : Program} {w : World} {A : Around} {E : Value → Shared → Prop} {s : Shared} {h₀ : Heap} {L : Addr} {m : Str → Option Value} {env : Env} {news : List (Addr × Obj)}
/-- the end of a turn of a comprehension (the walker stops here) -/
structure CEnd (h₀ : Heap) (L : Addr) (m : Str → Option Value) (s₁ : Shared) (I : Addr) (oI : Obj) (C : Addr) (oC : Obj) (D : Addr) (oD : Obj) (S : List (Addr × Obj) → Prop) (rest : Value → List (Addr × Obj) → Prop) (y : Value) (s₂ : Shared) : Prop where
  out : LCg.CompEnd h₀ L m s₁ I oI C oC D oD S rest y s₂
/-- what is known of the ledger in an element -/
structure InTurn (h₀ : Heap) (L : Addr) (m : Str → Option Value) (I : Addr) (oI : Obj) (C : Addr) (oC : Obj) (D : Addr) (ys : List Value) (nw : List (Addr × Obj)) (h : Heap) : Prop where
  fr : Fr h₀ L h m
  led : News h₀ L h ((I, oI) :: (C, oC) :: (D, LCg.lst ys) :: nw)
  off : LCg.Off3 I C D nw
  ne : (@Ne Nat I C) ∧ (@Ne Nat I D) ∧ (@Ne Nat C D)
theorem comp_run {elt : Expr} {x : Str} {scope : Scope} {cl : List (Str × Addr)} {S : List (Addr × Obj) → Prop} {P : Nat → Value → Prop} {Fin : List Value → List (Addr × Obj) → Prop} {n : Nat} (J : Nat → List Value → List (Addr × Obj) → Prop) (h0 : J 0 [] news)
    (turn : ∀ i ys nw v I oI C oC D m₂ h tk (E' : Value → Shared → Prop), i < n → J i ys nw → P i v → LCg.NsObj oC m₂ → m₂ x = some v → InTurn h₀ L m I oI C oC D ys nw h →
      wpAny (model prog w) A (eval elt (compEnvC scope cl C env)) (CEnd h₀ L m { s with heap := h, toks := tk } I oI C oC D (LCg.lst ys) S (fun y nw' => J (i + 1) (ys ++ [y]) nw')) E' { s with heap := h, toks := tk })
    (fin : ∀ ys nw, J n ys nw → Fin ys nw) : LCg.CompRest prog w A h₀ L m env elt x scope cl s S P Fin n 0 [] news := by
  have key : ∀ (j i : Nat) (ys : List Value) (nw : List (Addr × Obj)), i + j = n → J i ys nw → LCg.CompRest prog w A h₀ L m env elt x scope cl s S P Fin j i ys nw := by
    intro j
    induction j with
    | zero =>
      intro i ys nw hi hJ
      have e : i = n := by omega
      subst e
      exact LCg.CompRest.zero (fin ys nw hJ)
    | succ j ih =>
      intro i ys nw hi hJ
      refine LCg.CompRest.succ ?_
      intro v I oI C oC D m₂ h tk E' hv hC hx F N off ne
      refine wpAny_mono (turn i ys nw v I oI C oC D m₂ h tk E' (by omega) hJ hv hC hx ⟨F, N, off, ne⟩) (fun y s₂ hq => ?_) fun _ _ e => e
      obtain ⟨h', tk', nw', e, F', N', off', hS, hJ'⟩ := hq.out
      exact ⟨h', tk', nw', e, F', N', off', hS, ih (i + 1) _ _ (by omega) hJ'⟩
  exact key n 0 [] news (by omega) h0
theorem comp_end {S : List (Addr × Obj) → Prop} {rest : Value → List (Addr × Obj) → Prop} {s₁ : Shared} {I C D : Addr} {oI oC oD : Obj} {y : Value} {h' : Heap} {tk : Nat} {all : List (Addr × Obj)} (nw' : List (Addr × Obj)) (F : Fr h₀ L h' m) (N : News h₀ L h' all)
    (sub : ∀ p ∈ (I, oI) :: (C, oC) :: (D, oD) :: nw', p ∈ all) (off : LCg.Off3 I C D nw') (hS : S nw') (r : rest y nw') : CEnd h₀ L m s₁ I oI C oC D oD S rest y { s₁ with heap := h', toks := tk } :=
  ⟨LCg.CompEnd.intro F N nw' sub off hS r⟩
theorem News.ne_obj {h : Heap} {a b : Addr} {o1 o2 : Obj} (N : News h₀ L h news) (h1 : (a, o1) ∈ news) (h2 : (b, o2) ∈ news) (ho : o1 ≠ o2) : @Ne Nat a b := fun e => by
  subst e
  exact ho (Option.some.inj ((N _ h1).1.symm.trans (N _ h2).1))
theorem News.pick {h : Heap} {a : Addr} {o : Obj} (N : News h₀ L h news) (hm : (a, o) ∈ news) : News h₀ L h ((a, o) :: news.filter fun p => decide (p.1 ≠ a)) := fun p hp => by
  rcases List.mem_cons.mp hp with rfl | hp
  · exact N _ hm
  · exact N _ (List.mem_filter.mp hp).1
theorem rest_ne {a : Addr} : ∀ p ∈ news.filter fun p => decide (p.1 ≠ a), p.1 ≠ a := fun _ hp => of_decide_eq_true (List.mem_filter.mp hp).2
theorem mem_rest {a : Addr} {p : Addr × Obj} (hp : p ∈ news) (h : p.1 ≠ a) : p ∈ news.filter fun p => decide (p.1 ≠ a) := List.mem_filter.mpr ⟨hp, decide_eq_true h⟩
theorem tuple_L {l : Addr} {vs : List Value} {c : Nat} {Q : Value → Shared → Prop} (F : Fr h₀ L s.heap m) (N : News h₀ L s.heap news) (hl : (l, PySem.W.listOf vs.toArray c) ∈ news) (hz : vs.length ≤ 16384)
    (h : ∀ D h', Fr h₀ L h' m → News h₀ L h' ((D, tupOf vs 0) :: news) → (∀ p ∈ news, p.1 < D) → Q (.ref D) { s with heap := h' }) : wpAny (model prog w) A (call (.type "tuple") [.ref l]) Q E s :=
  kde_tupleOf F N (lst_at N hl) (by rw [List.size_toArray]; exact hz) (by simp) h
theorem len_L {l : Addr} {vs : List Value} {c n : Nat} {Q : Value → Shared → Prop} (N : News h₀ L s.heap news) (hl : (l, PySem.W.listOf vs.toArray c) ∈ news) (hn : vs.length = n) (hz : n ≤ 16384)
    (h : ∀ t tk, Q (.int n t) { s with toks := tk }) : wpAny (model prog w) A (call (.builtin "len") [.ref l]) Q E s :=
  PySem.Calls.call_len_list (lst_at N hl) (by rw [List.size_toArray, hn]; omega) (by rw [List.size_toArray, hn]; exact h _ _)
theorem len_T {l : Addr} {vs : List Value} {c n : Nat} {Q : Value → Shared → Prop} (N : News h₀ L s.heap news) (hl : (l, tupOf vs c) ∈ news) (hn : vs.length = n) (hz : n ≤ 16384)
    (h : ∀ t tk, Q (.int n t) { s with toks := tk }) : wpAny (model prog w) A (call (.builtin "len") [.ref l]) Q E s :=
  kun_lenT (items := vs.toArray) (k := (n : Int)) ⟨_, (N _ hl).1, rfl, _, rfl⟩ (by rw [List.size_toArray, hn]) (by omega) (h _ _)
theorem ne_same {a : Int} {t u : Tok} {Q : Value → Shared → Prop} (h : Q (.bool false) s) : wpAny (model prog w) A (compareOp .NotEq (.int a t) (.int a u)) Q E s :=
  PyProof.Rows.ne_int (by rw [show (a != a) = false from by simp]; exact h)
theorem ne_diff {a b : Int} {t u : Tok} {Q : Value → Shared → Prop} (hab : a ≠ b) (h : Q (.bool true) s) : wpAny (model prog w) A (compareOp .NotEq (.int a t) (.int b u)) Q E s :=
  PyProof.Rows.ne_int (by rw [show (a != b) = true from by simpa using hab]; exact h)
/-- nw holds all of news, and what is more lies above it -/
def Above (news nw : List (Addr × Obj)) : Prop := (∀ p ∈ news, p ∈ nw) ∧ ∀ p ∈ nw, p ∈ news ∨ ∀ q ∈ news, q.1 < p.1
theorem Above.sub {nw : List (Addr × Obj)} (h : Above news nw) : ∀ p ∈ news, p ∈ nw := h.1
theorem Above.refl : Above news news := ⟨fun _ h => h, fun _ h => .inl h⟩
theorem Above.cons {nw : List (Addr × Obj)} {p : Addr × Obj} (h : Above news nw) (hp : ∀ q ∈ nw, q.1 < p.1) : Above news (p :: nw) :=
  ⟨fun q hq => .tail _ (h.1 q hq), fun q hq => by
    rcases List.mem_cons.mp hq with rfl | hq
    · exact .inr fun r hr => hp r (h.1 r hr)
    · exact h.2 q hq⟩
theorem Above.cons' {nw : List (Addr × Obj)} {p : Addr × Obj} (h : Above news nw) (hp : ∀ q ∈ news, q.1 < p.1) : Above news (p :: nw) :=
  ⟨fun q hq => .tail _ (h.1 q hq), fun q hq => by
    rcases List.mem_cons.mp hq with rfl | hq
    · exact .inr hp
    · exact h.2 q hq⟩
theorem tup_ne_list {vs ws : List Value} {k c : Nat} : tupOf vs k ≠ PySem.W.listOf ws.toArray c := fun e => by
  have := congrArg Obj.cls e
  injection this with this
  exact absurd this (by decide)
theorem inst_ne_list {C dx : Addr} {ws : List Value} {c : Nat} : instObj C dx ≠ PySem.W.listOf ws.toArray c := fun e => by
  have := congrArg Obj.cls e
  cases this
end
end

-- part L0
section
open PySem PySem.W PyProof.Rows
open Builtin Builtin.Str StrLaws
/-- the signs of a text -/
abbrev sg (x : Str) : List Nat := x.cps.toList
theorem sg_app (x y : Str) : sg (x ++ y) = sg x ++ sg y := by
  show (x ++ y).cps.toList = _
  rw [Str.cps_append, Array.toList_append]
theorem sg_len (x : Str) : (sg x).length = x.length := by simp [sg, Str.length]
theorem sg_inj {x y : Str} (h : sg x = sg y) : x = y := Str.ext' (Array.toList_inj.mp h)
theorem at_iff {x y : Str} {i : Nat} : At x y x.length i ↔ i + y.length ≤ x.length ∧ ((sg x).drop i).take y.length = sg y := by
  unfold At
  rw [subAt_eq, beq_iff_eq]
theorem at_head {x y : Str} {i c0 : Nat} {yt : List Nat} (hy : sg y = c0 :: yt) (h : At x y x.length i) : (sg x)[i]? = some c0 := by
  have h2 := (at_iff.mp h).2
  rw [hy] at h2
  have : (((sg x).drop i).take y.length)[0]? = some c0 := by rw [h2]; rfl
  have hl : 0 < y.length := by rw [← sg_len, hy]; simp
  rw [List.getElem?_take_of_lt hl, List.getElem?_drop] at this
  simpa using this
theorem split_cuts {x y : Str} {c0 : Nat} {yt : List Nat} (hy : sg y = c0 :: yt) :
    ∀ (qs : List Str) (cuts : List Nat) (a f : Nat), qs ≠ [] → (∀ q ∈ qs, c0 ∉ sg q) → a ≤ x.length → (sg x).drop a = sg (Str.join y qs) → ChainG x y x.length a cuts f → (∀ k, f ≤ k → ¬ At x y x.length k) → partsFrom x y.length a cuts = qs := by
  intro qs
  have hx := sg_len x
  have hyl : 1 ≤ y.length := by rw [← sg_len, hy]; simp
  induction qs with
  | nil => intro _ _ _ h; exact absurd rfl h
  | cons q rest ih =>
    intro cuts a f _ hfree ha hd hc hn
    have hq : c0 ∉ sg q := hfree q (.head _)
    have noAt : ∀ k, a ≤ k → k < a + q.length → (∃ post, (sg x).drop a = sg q ++ post) → ¬ At x y x.length k := by
      rintro k h1 h2 ⟨post, he⟩ hA
      have h3 := at_head hy hA
      have h4 : (sg x)[k]? = ((sg x).drop a)[k - a]? := by rw [List.getElem?_drop]; congr 1; omega
      rw [h4, he, List.getElem?_append_left (by rw [sg_len]; omega)] at h3
      exact hq (List.mem_of_getElem? h3)
    match rest with
    | [] =>
      have hd : (sg x).drop a = sg q := hd
      have hlq : x.length - a = q.length := by have := congrArg List.length hd; rw [List.length_drop, hx, sg_len] at this; exact this
      match cuts with
      | [] =>
        show [strSub x a x.length] = [q]
        congr 1
        apply sg_inj
        show (strSub x a x.length).cps.toList = _
        rw [strSub_toList]
        show ((sg x).drop a).take (x.length - a) = sg q
        rw [hd]
        exact List.take_of_length_le (by rw [sg_len]; omega)
      | c :: r =>
        have hA := hc.2.1
        have := (at_iff.mp hA).1
        exact absurd hA (noAt c hc.1 (by omega) ⟨[], by rw [List.append_nil]; exact hd⟩)
    | q2 :: rest2 =>
      have hd : (sg x).drop a = sg (q ++ y ++ Str.join y (q2 :: rest2)) := hd
      rw [sg_app, sg_app, List.append_assoc] at hd
      have hlen : x.length - a = q.length + (y.length + (Str.join y (q2 :: rest2)).length) := by
        have := congrArg List.length hd
        rw [List.length_drop, hx, List.length_append, List.length_append, sg_len, sg_len, sg_len] at this
        exact this
      have hAt : At x y x.length (a + q.length) := by
        refine at_iff.mpr ⟨by omega, ?_⟩
        rw [← List.drop_drop, hd, List.drop_append_of_le_length (by rw [sg_len]; exact Nat.le_refl _), List.drop_of_length_le (by rw [sg_len]; exact Nat.le_refl _), List.nil_append, List.take_append_of_le_length (by rw [sg_len]; exact Nat.le_refl _)]
        exact List.take_of_length_le (by rw [sg_len]; exact Nat.le_refl _)
      match cuts with
      | [] =>
        have e : f = a := hc
        exact absurd hAt (hn _ (by omega))
      | c :: r =>
        obtain ⟨h1, h2, h3, h4⟩ := hc
        have hce : c = a + q.length := by
          rcases Nat.lt_trichotomy c (a + q.length) with hlt | he | hgt
          · exact absurd h2 (noAt c h1 hlt ⟨_, hd⟩)
          · exact he
          · exact absurd hAt (h3 _ (by omega) hgt)
        subst hce
        show strSub x a (a + q.length) :: partsFrom x y.length (a + q.length + y.length) r = q :: q2 :: rest2
        congr 1
        · apply sg_inj
          show (strSub x a (a + q.length)).cps.toList = _
          rw [strSub_toList]
          show ((sg x).drop a).take (a + q.length - a) = sg q
          rw [hd, show a + q.length - a = (sg q).length from by rw [sg_len]; omega]
          exact List.take_left' rfl
        · refine ih r _ f (by simp) (fun p hp => hfree p (.tail _ hp)) (by omega) ?_ h4 hn
          rw [← List.drop_drop, ← List.drop_drop, hd, List.drop_append_of_le_length (by rw [sg_len]; exact Nat.le_refl _), List.drop_of_length_le (l := sg q) (by rw [sg_len]; exact Nat.le_refl _), List.nil_append,
            List.drop_append_of_le_length (by rw [sg_len]; exact Nat.le_refl _), List.drop_of_length_le (l := sg y) (by rw [sg_len]; exact Nat.le_refl _), List.nil_append]
theorem kind_ge (x : Str) : 1 ≤ Builtin.Str.strKind x := by
  unfold Builtin.Str.strKind
  split
  · exact Nat.le_refl 1
  · split <;> omega
/-- splitting takes apart what joining put together -/
theorem split_join {y : Str} {c0 : Nat} {yt : List Nat} (hy : sg y = c0 :: yt) (hk : Builtin.Str.strKind y = 1) {qs : List Str} (hne : qs ≠ []) (hfree : ∀ q ∈ qs, c0 ∉ sg q) : Txt.split (Str.join y qs) y = qs := by
  have hyl : 1 ≤ y.length := by rw [← sg_len, hy]; simp
  obtain ⟨f, hG, hn⟩ := occ_tight (Str.join y qs) y hyl
  have key := split_cuts (x := Str.join y qs) hy qs _ 0 f hne hfree (Nat.zero_le _) (by rw [List.drop_zero]) hG hn
  unfold Txt.split
  split
  · rename_i h
    rw [Bool.or_eq_true, decide_eq_true_eq, decide_eq_true_eq] at h
    rcases h with h | h
    · match qs, hne with
      | [q], _ => rfl
      | q :: q2 :: r, _ =>
        have : (Str.join y (q :: q2 :: r)).length = q.length + y.length + (Str.join y (q2 :: r)).length := by
          show (q ++ y ++ Str.join y (q2 :: r)).length = _
          rw [Str.length_append, Str.length_append]
        omega
    · rw [hk] at h
      have := kind_ge (Str.join y qs)
      omega
  · split
    · rename_i he
      have e0 : occurrences (Str.join y qs) y 0 (Str.join y qs).length ((Str.join y qs).length + 1) = [] := List.isEmpty_iff.mp he
      rw [e0] at key
      rw [← key]
      show [_] = [strSub _ 0 _]
      rw [sub_whole, key]
    · rw [partsBetween_eq]
      exact key
theorem nm_free (a : Int) : ∀ c ∈ sg (nm a), c ≠ 45 ∧ c ≠ 62 ∧ c ≠ 44 ∧ c ≠ 32 ∧ c ≠ 10 ∧ c ≠ 125 ∧ c ≠ 123 ∧ c ≠ 61 := by
  unfold nm names
  generalize a.toNat = k
  match k with
  | 0 | 1 | 2 | 3 => decide +kernel
  | n + 4 => intro c hc; simp [sg, List.getD, Str.empty] at hc
theorem split_row {r : List Int} (h : r ≠ []) : Txt.split (rowText r) "->" = r.map nm := by
  refine split_join (c0 := 45) (yt := [62]) (by decide +kernel) (by decide +kernel) (by simpa using h) ?_
  intro q hq hc
  obtain ⟨a, _, rfl⟩ := List.mem_map.mp hq
  exact (nm_free a _ hc).1 rfl
end

-- part E1
section
open PySem PySem.W PyProof.Rows
set_option rowWalk.seconds 0
variable {w : World} {mean : ExcName → Option Value} {mg mb : Str → Option Value} {loose : List Str}
    {dp un : Nat} {gd : Option (List Code)} {cn : Str} {cs : Scope} {a : Addr} {ccd : Value} {cl : List (Str × Addr)} {outer : List Env} {A₀ : Around} {base h₀ : Heap} {L : Addr} {m : Str → Option Value} {news : List (Addr × Obj)} {s : Shared}
    {Q E : Value → Shared → Prop}

abbrev c88 : Obj := excClassObj "TextFault" "TextFault" 88 87 [.ref 76] [.ref 76, .ref 47, .type "Exception", .type "BaseException", .type "object"] true [] [] false none none (some (.ref 79)) none (some (.str "TextFault" 269)) (some (.str "TextFault" 277)) (some (.bool true)) "Exception.__new__"
theorem c88_at {h : Heap} (X : (Mine.hd.heap_1 w.params).In h) : h.get? 88 = some c88 := X 88 _ (by k_is)

section
variable {prog : Program} {A : Around} {R : Result → Shared → Prop} {h : Heap} {g : Array GenState} {d : Drawn} {t : Nat} {os : OsState}

theorem exc_check_new {M : Model} {rest : List Value} {Q : Unit → Shared → Prop} {E : Value → Shared → Prop} (hC : h.get? 88 = some c88)
    (hq : Q () ⟨h, g, d, t, os⟩) : wpAny M A (checkBuiltinCall "Exception.__new__" ⟨.ref 88 :: rest, []⟩) Q E ⟨h, g, d, t, os⟩ := by
  have F := PySem.F.excBase_Exception
  have hstar := F.noStar
  simp only [checkBuiltinCall, F.newKind, F.newSplit, F.newRow]
  have hcont : ((Value.ref 88 :: [Value.ref 76, .ref 47, .type "Exception", .type "BaseException", .type "object"] : List Value).contains (.type "Exception")) = true := by decide +kernel
  repeat (first | refine wpAny_loadPart_at hC ?_ | (refine wpAny_isSubtype_exc hC ?_; rw [hcont]) | refine wpAny_staticBase_exc hC ?_ | refine wpAny_madeBy_exc hC ?_ | simp only [bne_self_eq_false, Bool.false_eq_true, if_false] | wp_step)
  exact hq

abbrev exc0 (T : Addr) : Obj := { cls := .ref 88, data := .fields #[.ref T, .none, .none, .none, .bool false, .none] }
theorem exc_new {rest : List Value} (hC : h.get? 88 = some c88)
    (hq : R (.ok (.ret (.ref (h.objs.size + 1)))) ⟨(h.push { cls := .type "tuple", data := .seq rest.toArray }).push (exc0 h.objs.size), g, d, t, os⟩) (hrest : rest.length ≤ sizeLine := by size_fits) :
    codeAny (model prog w) A (.builtin "Exception.__new__" ⟨.ref 88 :: rest, []⟩) R ⟨h, g, d, t, os⟩ := by
  have F := PySem.F.excBase_Exception
  have hends := F.ends
  have hcB : ((Value.ref 88 :: [Value.ref 76, .ref 47, .type "Exception", .type "BaseException", .type "object"] : List Value).contains (.type "Exception")) = true := by decide +kernel
  have hcA : ((Value.ref 88 :: [Value.ref 76, .ref 47, .type "Exception", .type "BaseException", .type "object"] : List Value).contains (.type "AttributeError")) = false := by decide +kernel
  have hcN : ((Value.ref 88 :: [Value.ref 76, .ref 47, .type "Exception", .type "BaseException", .type "object"] : List Value).contains (.type "NameError")) = false := by decide +kernel
  refine codeAny_builtinAt F.entry ?_
  unfold Builtin.«BaseException.__new__»
  refine _root_.PySem.wpAt_bind ?_
  show _root_.PySem.wpAt _ _ _ (stack >>= _) _ _ _
  refine _root_.PySem.wpAt_bind (_root_.PySem.wpAt_stack fun p below => _root_.PySem.wpAt_of_wpAny ?_)
  wp_walk
  refine _root_.PySem.wpAt_of_wpAny ?_
  rw [F.owner]
  repeat (first | with_reducible refine wpAny_madeHere_exc F.canon hC ?_ | with_reducible refine wpAny_loadPart_at hC ?_ | (with_reducible refine wpAny_isSubtype_exc hC ?_; first | rw [hcB] | rw [hcA] | rw [hcN]) | wp_step)
  show R _ _
  rw [Heap.size_push]
  exact hq

theorem exc_call {rest : List Value} (X : (Mine.hd.heap_1 w.params).In h)
    (hq : codeAny (model prog w) (A.under (.builtin "type.__call__" ⟨.ref 88 :: rest, []⟩)) (.call (.ref 66) ⟨.ref (h.objs.size + 1) :: rest, []⟩) (InitBack (h.objs.size + 1) R) ⟨(h.push { cls := .type "tuple", data := .seq rest.toArray }).push (exc0 h.objs.size), g, d, t, os⟩)
    (hrest : rest.length ≤ sizeLine := by size_fits) :
    codeAny (model prog w) A (.call (.ref 88) ⟨rest, []⟩) R ⟨h, g, d, t, os⟩ := by
  have hC := c88_at X
  have f1 := tc_lookup
  have f2 := tc_bind (.ref 88)
  have hT : (⟨h, g, d, t, os⟩ : Shared).TypeIs (.ref 88) "type" := ⟨_, hC, rfl⟩
  refine codeAny_of_tree ?_
  show wpAny _ _ (callAny (.ref 88) _) _ _ _
  repeat (any_goals (first | assumption | with_reducible refine wpAny_loadPart_at hC ?_ | wp_step))
  refine ⟨rfl, ?_⟩
  refine codeAny_call_builtin_at (Code.quiet_builtin _ (by decide +kernel)) entry_typeCall (wpAny_check_type_call_sub hC ?_)
  repeat (first | with_reducible refine wpAny_loadPart_at hC ?_ | with_reducible refine wpAny_madeBy_exc hC ?_ | wp_step)
  refine codeAny_call_builtin_code (Code.quiet_builtin _ (by decide +kernel)) (exc_check_new hC ?_)
  refine exc_new hC ?_ hrest
  show wpAny _ _ _ _ _ ⟨(h.push { cls := .type "tuple", data := .seq rest.toArray }).push (exc0 h.objs.size), g, d, t, os⟩
  have k : ∀ b o, h.get? b = some o → ((h.push { cls := .type "tuple", data := .seq rest.toArray }).push (exc0 h.objs.size)).get? b = some o := fun b o e => Heap.get?_push_of_some _ (Heap.get?_push_of_some _ e)
  have hx : ((h.push { cls := .type "tuple", data := .seq rest.toArray }).push (exc0 h.objs.size)).get? (h.objs.size + 1) = some (exc0 h.objs.size) := by heap_get
  have X' := X.keeps k
  clear X hT hC k
  generalize (h.push { cls := .type "tuple", data := .seq rest.toArray }).push (exc0 h.objs.size) = H at hx X' hq ⊢
  have t1 : Looks (model prog w) H (typeOf (.ref (h.objs.size + 1))) (.ref 88) := (Looks.ld hx).andThen .now
  generalize h.objs.size + 1 = e at hx hq t1 ⊢
  have s1 : Looks (model prog w) H (isSubtype (.ref 88) (.ref 88)) true := looks_subIn X' (by k_is)
  have i1 : Looks (model prog w) H (typeLookup (.ref 88) "__init__") (some (.ref 66)) := looks_findIn X' (by k_is)
  have b1 : Looks (model prog w) H (bindSpecial (.ref 66) (.ref e)) (.ref 66, [.ref e]) := bind_fn X' _ (by k_is)
  unfold isInstance callSpecial? specialOf
  repeat (first | with_reducible refine wpAny_call ?_ | lk)
  refine codeAny_mono hq fun r s' z => ?_
  rcases r with e | (v | _ | _ | _) <;> first | exact z | exact z.elim | skip
  obtain ⟨rfl, z⟩ := z
  exact wpAny_pure (wpAny_pure z)
end

abbrev tupO (vs : List Value) : Obj := { cls := .type "tuple", data := .seq vs.toArray }
theorem call_TF0 {pos : List Value} (F : Fr h₀ L s.heap m) (X₀ : (Mine.hd.heap_1 w.params).In h₀) (N : News h₀ L s.heap news) (hrest : pos.length ≤ sizeLine) {A : Around} {prog : Program}
    (h : ∀ e T h', Fr h₀ L h' m → News h₀ L h' ((e, exc0 T) :: (T, tupO pos) :: news) → (∀ p ∈ news, p.1 < T) → T < e →
      codeAny (model prog w) (A.under (.builtin "type.__call__" ⟨.ref 88 :: pos, []⟩)) (.call (.ref 66) ⟨.ref e :: pos, []⟩) (InitBack e fun r s' => match r with | .ok (.ret v) => Q v s' | .ok _ => False | .error e => E e s') { s with heap := h' }) :
    wpAny (model prog w) A (call (.ref 88) pos []) Q E s := by
  refine wpAny_call ?_
  obtain ⟨hh, g, d, t, os⟩ := s
  refine exc_call (X₀.keeps F.keep) ?_ hrest
  have z := (N.push F (tupO pos)).push (F.push _) (exc0 hh.objs.size)
  rw [Heap.size_push] at z
  exact h _ hh.objs.size _ ((F.push _).push _) z (fun p hp => Heap.lt_size (N p hp).1) (Nat.lt_succ_self _)

theorem inst_exc {h : Heap} {e T : Addr} (N : News h₀ L h news) (hm : (e, exc0 T) ∈ news) : InstAt h e (exc0 T) 88 none := ⟨(N _ hm).1, rfl, rfl, trivial⟩
end

-- part E3
section
open PySem PySem.W PyProof.Rows
set_option rowWalk.seconds 0
variable {w : World} {mean : ExcName → Option Value} {mg mb : Str → Option Value} {loose : List Str}
    {dp un : Nat} {gd : Option (List Code)} {cn : Str} {cs : Scope} {a : Addr} {ccd : Value} {cl : List (Str × Addr)} {outer : List Env} {A₀ : Around} {base h₀ : Heap} {L : Addr} {m : Str → Option Value} {news : List (Addr × Obj)} {s : Shared}
    {Q E : Value → Shared → Prop}
theorem slot_wd_get : Slot "wrapper_descriptor" "__get__" "wrapper_descriptor.__get__" := .of (owner := "wrapper_descriptor") (n := "__get__") (by rw [typeLookup_type, builtinLookup_eq_fast]; kernel_rfl) (by decide +kernel) (by decide +kernel) (by decide +kernel)
    (by first | exact .inl (by decide +kernel) | exact .inr (by decide +kernel)) (by rw [isSubtype_type]; kernel_rfl)
theorem entry_wd_get : entryFor table "wrapper_descriptor.__get__" = some Builtin.«wrapper_descriptor.__get__» := entryFor_of_tree (by kernel_rfl)
theorem args_wd_get (a b c : Value) : argsOk "wrapper_descriptor.__get__" ⟨[a, b, c], []⟩ := by unfold argsOk; kernel_rfl
theorem type_exc_init : typeOf (.builtin "Exception.__init__") = pure (.type "wrapper_descriptor") := by show builtinType _ = _; rw [builtinType_eq_fast]; kernel_rfl

theorem kind_wd_get : builtinKind "wrapper_descriptor.__get__" = some .slot := by decide +kernel
theorem split_wd_get : splitId "wrapper_descriptor.__get__" = some ("wrapper_descriptor", "__get__") := by decide +kernel
theorem inst_exc_init : isInstance (.builtin "Exception.__init__") (.type "wrapper_descriptor") = pure true := by
  unfold isInstance
  rw [type_exc_init]
  show isSubtype (.type "wrapper_descriptor") (.type "wrapper_descriptor") = pure true
  rw [isSubtype_type]; kernel_rfl
theorem own_exc_init {h : Heap} {M : Model} (X : (Mine.hd.heap_1 w.params).In h) : Looks M h (classOwn (.type "Exception") "__init__") (some (.builtin "Exception.__init__")) := looks_ownIn X (by kernel_rfl)
abbrev wrapO (e : Addr) : Obj := { cls := .type "method-wrapper", data := .fields #[.builtin "Exception.__init__", .ref e] }
section
variable {prog : Program} {A : Around} {R : Result → Shared → Prop} {h : Heap} {g : Array GenState} {d : Drawn} {t : Nat} {os : OsState}

theorem wd_get {e : Addr} {Q : PySem.Fin → Shared → Prop} (he : Looks (model prog w) h (typeOf (.ref e)) (.ref 88)) (hC : h.get? 88 = some c88)
    (hq : Q (.done (.ret (.ref h.objs.size))) ⟨h.push (wrapO e), g, d, t, os⟩) :
    wpAny (model prog w) A (Builtin.«wrapper_descriptor.__get__» ⟨[.builtin "Exception.__init__", .ref e, .ref 88], []⟩) Q E ⟨h, g, d, t, os⟩ := by
  unfold Builtin.«wrapper_descriptor.__get__»
  repeat (first | (with_reducible refine wpAny_isSubtype_exc hC ?_) | lk)
  exact hq


theorem call_wd_get {e : Addr} {Q : Value → Shared → Prop} (he : Looks (model prog w) h (typeOf (.ref e)) (.ref 88)) (hC : h.get? 88 = some c88) (hq : Q (.ref h.objs.size) ⟨h.push (wrapO e), g, d, t, os⟩) :
    wpAny (model prog w) A (call (.builtin "wrapper_descriptor.__get__") [.builtin "Exception.__init__", .ref e, .ref 88]) Q E ⟨h, g, d, t, os⟩ := by
  refine wpAny_call (codeAny_call_builtin slot_wd_get.plain entry_wd_get ?_)
  have hi : Looks (model prog w) h (isInstance (.builtin "Exception.__init__") (.type "wrapper_descriptor")) true := Looks.of_pure inst_exc_init
  refine @check_slot (model prog w) _ _ ⟨h, g, d, t, os⟩ "wrapper_descriptor.__get__" "wrapper_descriptor" "__get__" (.builtin "Exception.__init__") [.ref e, .ref 88] [] _ kind_wd_get split_wd_get hi (args_wd_get _ _ _) ?_
  refine wd_get he hC ?_
  exact hq
theorem super_ga_b {so e : Addr} {name : Str} {tk : Tok} {Q : PySem.Fin → Shared → Prop} (hname : name = "__init__")
    (hso : h.get? so = some (ks_superObj 47 e 88)) (hno : Looks (model prog w) h (opaqueClassAbove (.ref 88)) none) (hC : h.get? 88 = some c88) (he : Looks (model prog w) h (typeOf (.ref e)) (.ref 88)) (X : (Mine.hd.heap_1 w.params).In h)
    (hxC : e ≠ 88) (hq : Q (.done (.ret (.ref h.objs.size))) ⟨h.push (wrapO e), g, d, t, os⟩) :
    wpAny (model prog w) A (Builtin.«super.__getattribute__» ⟨[.ref so, .str name tk], []⟩) Q E ⟨h, g, d, t, os⟩ := by
  subst hname
  have hlk := slot_wd_get.lookup
  have hty := type_exc_init
  have hne : (Value.ref e == Value.ref 88) = false := by simp [hxC]
  have hn : (("__init__" : Str) == ("__class__" : Str)) = false := by decide +kernel
  have hdt : (ks_superObj 47 e 88).data = .fields #[.ref 47, .ref e, .ref 88] := rfl
  have f0 : (#[.ref 47, .ref e, .ref 88] : Array Value)[0]? = some (.ref 47) := rfl
  have f1 : (#[.ref 47, .ref e, .ref 88] : Array Value)[1]? = some (.ref e) := rfl
  have f2 : (#[.ref 47, .ref e, .ref 88] : Array Value)[2]? = some (.ref 88) := rfl
  have hl : (((Value.ref 88 :: [Value.ref 76, .ref 47, .type "Exception", .type "BaseException", .type "object"] : List Value).dropWhile (· != .ref 47)).drop 1) = [.type "Exception", .type "BaseException", .type "object"] := by decide +kernel
  have hco := own_exc_init (M := model prog w) X
  unfold Builtin.«super.__getattribute__»
  repeat (first
    | (with_reducible refine wpAny_field hso hdt f0 ?_) | (with_reducible refine wpAny_field hso hdt f1 ?_) | (with_reducible refine wpAny_field hso hdt f2 ?_)
    | (with_reducible refine ks_wpAny_notOpaque hno ?_)
    | (with_reducible refine wpAny_mroOf_exc hC ?_; rw [hl])
    | (with_reducible refine Looks.at hco ?_)
    | (with_reducible refine wpAny_of_eq hty ?_)
    | (with_reducible refine wpAny_of_eq hlk ?_)
    | (with_reducible refine call_wd_get he hC ?_)
    | (with_reducible refine ⟨_, rfl, ?_⟩)
    | (simp only [hn, hne, Bool.or_false, Bool.false_eq_true, if_false])
    | wp_step
    | dsimp only)
  exact hq

theorem getMethod_super_b {so e : Addr} {pl : Sem Bool} {Q : Value × List Value → Shared → Prop}
    (hso : h.get? so = some (ks_superObj 47 e 88)) (hno : Looks (model prog w) h (opaqueClassAbove (.ref 88)) none) (hC : h.get? 88 = some c88) (he : Looks (model prog w) h (typeOf (.ref e)) (.ref 88)) (X : (Mine.hd.heap_1 w.params).In h)
    (hxC : e ≠ 88) (hq : Q (.ref h.objs.size, []) ⟨h.push (wrapO e), g, d, t + 1, os⟩) :
    wpAny (model prog w) A (getMethod (.ref so) "__init__" pl) Q E ⟨h, g, d, t, os⟩ := by
  have hlk := PySem.F.ks_slot_super_ga.lookup
  have hcan := PySem.F.ks_canon_super_ga
  have hT : ∀ t', (⟨h, g, d, t', os⟩ : Shared).TypeIs (.ref so) "super" := fun _ => ⟨_, hso, rfl⟩
  unfold getMethod
  refine wpAny_bind (wpAny_specialOf (hT _) hlk ?_)
  show wpAny _ _ (if (Manifest.canonical "super.__getattribute__" != "object.__getattribute__") = true then _ else _) _ _ _
  rw [if_pos hcan]
  unfold getAttr getAttrBy
  refine wpAny_bind (wpAny_bind (wpAny_mkText (wpAny_holding (wpAny_bind (wpAny_typeOf (hT _) (wpAny_bind (wpAny_of_eq hlk ?_)))))))
  show wpAny _ _ (getAttrByItsOwn (.ref so) (.str "__init__" t) (.type "super") (.builtin "super.__getattribute__") true false) _ _ _
  unfold getAttrByItsOwn hookBefore callGetattribute boundAndCalled
  refine wpAny_bind (wpAny_of_eq (show (if onTheHeap (.type "super") then typeLookup (.type "super") "__getattr__" else pure none) = pure none from rfl) ?_)
  refine wpAny_bind (wpAny_attempt (wpAny_holding ?_))
  show wpAny _ _ (bindSpecial (.builtin "super.__getattribute__") (.ref so) >>= _) _ _ _
  refine wpAny_bind (wpAny_of_eq (PySem.F.ks_slot_super_ga.bind _) ?_)
  refine wpAny_mono (Q := fun v s' => v = .ref h.objs.size ∧ s' = ⟨h.push (wrapO e), g, d, t + 1, os⟩) (E := fun _ _ => False)
    (wpAny_call_entry PySem.F.ks_slot_super_ga (hT _) PySem.F.ks_entry_super_ga (super_ga_b rfl hso hno hC he X hxC ⟨_, rfl, rfl, rfl⟩) (PySem.F.ks_gaArgs_super _ _)) (fun v s' hv => ?_) fun _ _ z => z.elim
  obtain ⟨rfl, rfl⟩ := hv
  exact wpAny_pure (wpAny_pure hq)

theorem init_run {e : Addr} {T : Addr} {what : Value} {Q : PySem.Fin → Shared → Prop} (he : h.get? e = some (exc0 T))
    (hq : Q (.done (.ret .none)) ⟨(h.push (tupO [what])).update e (Obj.mapFields (·.setIfInBounds 0 (.ref h.objs.size))), g, d, t, os⟩) :
    wpAny (model prog w) A (Builtin.«BaseException.__init__» ⟨[.ref e, what], []⟩) Q E ⟨h, g, d, t, os⟩ := by
  have he' := Heap.get?_push_of_some (tupO [what]) he
  unfold Builtin.«BaseException.__init__»
  refine wpAny_bind ?_
  unfold newTuple
  refine wpAny_newObj_type ?_ (by show 1 ≤ sizeLine; exact Nat.le_of_ble_eq_true rfl)
  unfold Builtin.BaseException.bexcPut
  refine wpAny_bind (wpAny_bind (wpAny_field he' rfl (x := .ref T) rfl ?_))
  refine wpAny_bind (wpAny_setField he' rfl (by show 0 < 6; decide) ?_)
  repeat (first | wp_step | lk)
  exact hq

theorem check_bound {e T : Addr} {what : Value} {Q : Unit → Shared → Prop} (he : h.get? e = some (exc0 T)) (hC : h.get? 88 = some c88) (hq : Q () ⟨h, g, d, t, os⟩) :
    wpAny (model prog w) A (checkBoundCall "Exception.__init__" ⟨[.ref e, what], []⟩) Q E ⟨h, g, d, t, os⟩ := by
  have Fx := PySem.F.excBase_Exception
  have hshort := Fx.noStar
  simp only [checkBoundCall, Fx.initRow, Fx.initKind, Bind.checkArgs]
  repeat (first | with_reducible refine wpAny_loadPart_at he ?_ | with_reducible refine wpAny_loadPart_at hC ?_ | wp_step)
  exact hq

theorem call_wrap0 {q e T : Addr} {what : Value} {Q : Value → Shared → Prop} (hw : h.get? q = some (wrapO e)) (he : h.get? e = some (exc0 T)) (hC : h.get? 88 = some c88)
    (hq : Q .none ⟨(h.push (tupO [what])).update e (Obj.mapFields (·.setIfInBounds 0 (.ref h.objs.size))), g, d, t, os⟩) :
    wpAny (model prog w) A (call (.ref q) [what]) Q E ⟨h, g, d, t, os⟩ := by
  have Fx := PySem.F.excBase_Exception
  refine wpAny_call (codeAny_of_tree ?_)
  show wpAny _ _ (callAny (.ref q) _) _ _ _
  unfold callAny
  refine wpAny_bind (wpAny_load hw ?_)
  show wpAny _ _ (checkBoundCall "Exception.__init__" ⟨[.ref e, what], []⟩ >>= fun _ => again (.builtin "Exception.__init__" ⟨[.ref e, what], []⟩)) _ _ _
  refine wpAny_bind (check_bound he hC (wpAny_pure ⟨plainId_quiet (by decide +kernel) _, ?_⟩))
  refine codeAny_builtin Fx.initEntry ?_
  refine init_run he ?_
  exact hq
end

theorem meth_super_b {A : Around} {prog : Program} {so e T : Addr} {pl : Sem Bool} {Q : Value × List Value → Shared → Prop} (F : Fr h₀ L s.heap m) (X₀ : (Mine.hd.heap_1 w.params).In h₀) (N : News h₀ L s.heap news) (hso : (so, ks_superObj 47 e 88) ∈ news) (he : (e, exc0 T) ∈ news)
    (ho : nsIn (Mine.hd.heap_1 w.params) cStatics "thirdparty.any" = some none)
    (h : ∀ q h', Fr h₀ L h' m → News h₀ L h' ((q, wrapO e) :: news) → (∀ p ∈ news, p.1 < q) → Q (.ref q, []) { s with heap := h', toks := s.toks + 1 }) :
    wpAny (model prog w) A (getMethod (.ref so) "__init__" pl) Q E s := by
  have X : (Mine.hd.heap_1 w.params).In s.heap := X₀.keeps F.keep
  have hC := c88_at X
  obtain ⟨hh, g, d, t, os⟩ := s
  have he' : hh.get? e = some (exc0 T) := (N _ he).1
  refine getMethod_super_b (N _ hso).1 (looks_opaque X ho) hC ((Looks.ld he').andThen .now) X (fun q => ?_) ?_
  · rw [q, hC] at he'; cases he'
  · obtain ⟨F', N', l'⟩ := ks_newsPush (s := ⟨hh, g, d, t, os⟩) (o := wrapO e) F N rfl (Heap.get?_push_at rfl rfl) (fun b o e => Heap.get?_push_of_some _ e)
    exact h _ _ F' N' l'

theorem call_wrap {A : Around} {prog : Program} {q e T : Addr} {what : Value} {g : Obj → List (Addr × Obj)} (F : Fr h₀ L s.heap m) (X₀ : (Mine.hd.heap_1 w.params).In h₀) (N : News h₀ L s.heap news) (hq : (q, wrapO e) ∈ news) (U : UpdF e (exc0 T) news g)
    (h : ∀ T2 h', Fr h₀ L h' m → News h₀ L h' ((T2, tupO [what]) :: g (exc0 T2)) → (∀ p ∈ news, p.1 < T2) → Q .none { s with heap := h' }) :
    wpAny (model prog w) A (call (.ref q) [what]) Q E s := by
  have X : (Mine.hd.heap_1 w.params).In s.heap := X₀.keeps F.keep
  have hC := c88_at X
  obtain ⟨hh, gg, d, t, os⟩ := s
  obtain ⟨pre, post, rfl, hg, a, b⟩ := U.split
  have he' : hh.get? e = some (exc0 T) := (N (e, exc0 T) (by simp)).1
  refine call_wrap0 (N _ hq).1 he' hC ?_
  have N1 := N.push F (tupO [what])
  have F1 := F.push (tupO [what])
  have ne : ∀ p ∈ pre ++ (e, exc0 T) :: post, p.1 ≠ hh.objs.size := fun p hp => Nat.ne_of_lt (Heap.lt_size (N p hp).1)
  have U2 := news_upd (pre := (hh.objs.size, tupO [what]) :: pre) (post := post) (d := e) (o := exc0 T) (o' := exc0 hh.objs.size) (f := Obj.mapFields (·.setIfInBounds 0 (.ref hh.objs.size))) F1 N1 (fun p hp => by
    rcases List.mem_cons.mp hp with rfl | hp
    · exact (ne (e, exc0 T) (by simp)).symm
    · exact a p hp) b rfl rfl
  refine h _ _ U2.1 ?_ (fun p hp => Heap.lt_size (N p hp).1)
  rw [hg]
  exact U2.2
end

-- part E6
section
open PySem PySem.W PyProof.Rows Builtin Builtin.ObjectAttr
set_option rowWalk.seconds 0
variable {w : World} {mean : ExcName → Option Value} {mg mb : Str → Option Value} {loose : List Str}
    {dp un : Nat} {gd : Option (List Code)} {cn : Str} {cs : Scope} {a : Addr} {ccd : Value} {cl : List (Str × Addr)} {outer : List Env} {A₀ : Around} {base h₀ : Heap} {L : Addr} {m : Str → Option Value} {news : List (Addr × Obj)} {s : Shared}
    {Q E : Value → Shared → Prop}
section
variable {prog : Program} {A : Around} {R : Result → Shared → Prop}
abbrev excD (T dx : Addr) : Obj := { cls := .ref 88, dict := some dx, data := .fields #[.ref T, .none, .none, .none, .bool false, .none] }

theorem osaE {ox : Obj} {e : Addr} {name : Str} {tk : Tok} {v : Value} (X : (Mine.hd.heap_1 w.params).In s.heap) (hx : s.heap.get? e = some ox) (hcl : ox.cls = .ref 88)
    (ht : findIn (Mine.hd.heap_1 w.params) (.ref 88) name = some none)
    (h : wpAny (model prog w) A.in1 (storeInOwnDict (.ref e) (.ref 88) (.str name tk) name v false)
      (fun fin s' => match fin with | .done f => R (.ok f) s' | .again c' => c'.quiet = true ∧ codeAny (model prog w) A c' R s') (fun e s' => R (.error e) s') s) :
    codeAny (model prog w) A (.call (.builtin "object.__setattr__") ⟨[.ref e, .str name tk, v], []⟩) R s := by
  have SF := PySem.F.store_object
  have hC := c88_at X
  have ty : Looks (model prog w) s.heap (typeOf (.ref e)) (.ref 88) := by
    rw [← hcl]; exact (Looks.ld hx).andThen .now
  have sub : Looks (model prog w) s.heap (isInstance (.ref e) (.type "object")) true := ty.andThen (looks_subIn X (by k_is))
  refine codeAny_call_builtin SF.slot.plain SF.entry (@check_slot (model prog w) _ _ s "object.__setattr__" "object" "__setattr__" (.ref e) [.str name tk, v] [] _ SF.kind SF.split sub (SF.args (.ref e) (.str name tk) v) ?_)
  have hm : Looks (model prog w) s.heap (mroOf (.ref 88)) [.ref 88, .ref 76, .ref 47, .type "Exception", .type "BaseException", .type "object"] := ((Looks.ld (part := none) hC).andThen .now).andThen .now
  rw [osa_eq, refuse_eq]
  refine wpAny_bind (wpAny_bind (ty.here (wpAny_bind (hm.here ?_))))
  rw [refuseLoop_ref, refuseLoop_ref, refuseLoop_ref, PySem.F.store_Exception.passes]
  refine wpAny_pure (wpAny_bind (ty.here (wpAny_bind ((looks_findIn X ht).here (wpAny_bind ?_)))))
  exact wpAny_pure h

theorem setE {ox : Obj} {e : Addr} {name : Str} {v : Value} {Q : Unit → Shared → Prop} (X : (Mine.hd.heap_1 w.params).In s.heap) (hx : s.heap.get? e = some ox) (hcl : ox.cls = .ref 88)
    (ht : findIn (Mine.hd.heap_1 w.params) (.ref 88) name = some none)
    (h : ∀ A : Around, wpAny (model prog w) A (storeInOwnDict (.ref e) (.ref 88) (.str name s.toks) name v false)
      (fun fin s' => match fin with | .done (.ret _) => Q () s' | _ => False) E { s with toks := s.toks + 1 }) :
    wpAny (model prog w) A (setAttr (.ref e) name v) Q E s := by
  have ty : Looks (model prog w) s.heap (typeOf (.ref e)) (.ref 88) := by
    rw [← hcl]; exact (Looks.ld hx).andThen .now
  have hs : findIn (Mine.hd.heap_1 w.params) (.ref 88) "__setattr__" = some (some (.builtin "object.__setattr__")) := by k_is
  refine wpAny_bind (wpAny_mkText (wpAny_bind (wpAny_bind (wpAny_bind (ty _ _ _ _ (fun _ _ e => e) (looks_findIn X hs _ _ _ _ (fun _ _ e => e) (wpAny_holding ?_)))))))
  rw [PySem.F.store_object.slot.bind]
  refine wpAny_bind (wpAny_pure (wpAny_bind (wpAny_call ?_)))
  refine osaE (s := { s with toks := s.toks + 1 }) X hx hcl ht ?_
  refine wpAny_mono (h _) (fun fin s' z => ?_) (fun _ _ z => z)
  rcases fin with (v | _ | _ | _) | _ <;> first | exact z.elim | skip
  exact wpAny_pure (wpAny_pure z)

theorem exc_set1 {e T : Addr} {name : Str} {v : Value} {g : Obj → List (Addr × Obj)} {Q : Unit → Shared → Prop} (F : Fr h₀ L s.heap m) (X₀ : (Mine.hd.heap_1 w.params).In h₀) (N : News h₀ L s.heap news) (U : UpdF e (exc0 T) news g)
    (ht : findIn (Mine.hd.heap_1 w.params) (.ref 88) name = some none)
    (h : ∀ dx h' tk n hh, Fr h₀ L h' m → News h₀ L h' ((dx, { cls := .type "dict", data := .dict #[⟨hh, .str name tk, v⟩] n }) :: g (excD T dx)) → (∀ p ∈ news, p.1 < dx) → Q () { s with heap := h', toks := s.toks + 2 }) :
    wpAny (model prog w) A (setAttr (.ref e) name v) Q E s := by
  have X : (Mine.hd.heap_1 w.params).In s.heap := X₀.keeps F.keep
  have hC := c88_at X
  obtain ⟨hh, gg, d, t, os⟩ := s
  obtain ⟨pre, post, rfl, hg, a, b⟩ := U.split
  have hx : hh.get? e = some (exc0 T) := (N (e, exc0 T) (by simp)).1
  have hcd : Looks (model prog w) hh (classData 88) (match c88.data with | .cls c => c | _ => default) := (Looks.ld hC).andThen .now
  refine setE X hx rfl ht fun A => ?_
  have N1 := N.push F emptyDict
  have F1 := F.push emptyDict
  have ne : ∀ p ∈ pre ++ (e, exc0 T) :: post, p.1 ≠ hh.objs.size := fun p hp => Nat.ne_of_lt (Heap.lt_size (N p hp).1)
  have U2 := news_upd (pre := (hh.objs.size, emptyDict) :: pre) (post := post) (d := e) (o := exc0 T) (o' := excD T hh.objs.size) (f := fun o => { o with dict := some hh.objs.size }) F1 N1 (fun p hp => by
    rcases List.mem_cons.mp hp with rfl | hp
    · exact (ne (e, exc0 T) (by simp)).symm
    · exact a p hp) b rfl rfl
  have U3 := news_upd (pre := []) (post := pre ++ (e, excD T hh.objs.size) :: post) (d := hh.objs.size) (o := emptyDict) (o' := { cls := .type "dict", data := .dict #[⟨PyData.keyHash w.params name, .str name (t + 1), v⟩] (0 + 1) }) (f := Obj.putName name (PyData.keyHash w.params name) (.str name (t + 1)) v) U2.1 U2.2 (by intro p hp; cases hp) (fun p hp => by
    rcases List.mem_append.mp hp with q | q
    · exact ne p (List.mem_append_left _ q)
    · rcases List.mem_cons.mp q with rfl | q
      · exact ne (e, exc0 T) (by simp)
      · exact ne p (List.mem_append_right _ (.tail _ q))) rfl rfl
  have D1 := (U2.2 (hh.objs.size, emptyDict) (by simp)).1
  have D2 := (U3.2 (hh.objs.size, _) (by exact .head _)).1
  refine wpAny_bind (wpAny_pure (wpAny_bind (wpAny_bind (wpAny_loadPart hx (wpAny_bind (hcd.here ?_))))))
  show wpAny _ _ (alloc emptyDict >>= _) _ _ _
  refine wpAny_bind (wpAny_alloc ?_)
  refine wpAny_bind (wpAny_update' (Heap.get?_push_of_some _ hx) ?_)
  refine wpAny_pure ?_
  refine wpAny_bind (wpAny_pure (wpAny_bind ?_))
  unfold nsSet
  refine wpAny_bind (wpAny_bind (wpAny_askSetting (wpAny_pure (wpAny_bind (wpAny_mkText (wpAny_bind (wpAny_loadPart D1 ?_)))))))
  dsimp only
  rw [aRefKeyMayBeTheName_at, show (!(#[] : Array DictEntry).any (·.key.isStr name) && (#[] : Array DictEntry).any (·.refKey)) = false from by simp]
  refine wpAny_updatePart D1 ?_
  refine wpAny_bind (wpAny_lookBehind D2 (pastItsLine_dict (by show 1 ≤ sizeLine + 1; exact Nat.le_add_left _ _)) ?_)
  refine wpAny_pure ?_
  refine h hh.objs.size _ (t + 1) 1 (PyData.keyHash w.params name) U3.1 ?_ (fun p hp => Heap.lt_size (N p hp).1)
  rw [hg]
  exact U3.2

abbrev dict1 (n1 : Str) (t1 : Tok) (v1 : Value) (i1 : Int) (k : Nat) : Obj := { cls := .type "dict", data := .dict #[⟨i1, .str n1 t1, v1⟩] k }
abbrev dict2 (n1 : Str) (t1 : Tok) (v1 : Value) (i1 : Int) (n2 : Str) (t2 : Tok) (v2 : Value) (i2 : Int) (k : Nat) : Obj := { cls := .type "dict", data := .dict #[⟨i1, .str n1 t1, v1⟩, ⟨i2, .str n2 t2, v2⟩] k }
theorem put2 {v1 v2 : Value} {t1 t2 : Tok} {i1 i2 : Int} {k : Nat} : Obj.putName "spot" i2 (.str "spot" t2) v2 (dict1 "what" t1 v1 i1 k) = dict2 "what" t1 v1 i1 "spot" t2 v2 i2 (k + 1) := by kernel_rfl
theorem exc_set2 {e T dx : Addr} {v v1 : Value} {t1 : Tok} {i1 : Int} {k : Nat} {g : Obj → List (Addr × Obj)} {Q : Unit → Shared → Prop} (F : Fr h₀ L s.heap m) (X₀ : (Mine.hd.heap_1 w.params).In h₀) (N : News h₀ L s.heap news) (hm : (e, excD T dx) ∈ news)
    (U : UpdF dx (dict1 "what" t1 v1 i1 k) news g)
    (ht : findIn (Mine.hd.heap_1 w.params) (.ref 88) "spot" = some none)
    (h : ∀ h' tk i2 k', Fr h₀ L h' m → News h₀ L h' (g (dict2 "what" t1 v1 i1 "spot" tk v i2 k')) → Q () { s with heap := h', toks := s.toks + 2 }) :
    wpAny (model prog w) A (setAttr (.ref e) "spot" v) Q E s := by
  have X : (Mine.hd.heap_1 w.params).In s.heap := X₀.keeps F.keep
  have hC := c88_at X
  obtain ⟨hh, gg, d, t, os⟩ := s
  obtain ⟨pre, post, rfl, hg, a, b⟩ := U.split
  have hx : hh.get? e = some (excD T dx) := (N (e, excD T dx) hm).1
  have D1 := (N (dx, dict1 "what" t1 v1 i1 k) (by simp)).1
  have hcd : Looks (model prog w) hh (classData 88) (match c88.data with | .cls c => c | _ => default) := (Looks.ld hC).andThen .now
  refine setE X hx rfl ht fun A => ?_
  have U3 := news_upd (pre := pre) (post := post) (d := dx) (o := dict1 "what" t1 v1 i1 k) (o' := dict2 "what" t1 v1 i1 "spot" (t + 1) v (PyData.keyHash w.params "spot") (k + 1)) (f := Obj.putName "spot" (PyData.keyHash w.params "spot") (.str "spot" (t + 1)) v) F N a b put2 rfl
  have D2 := (U3.2 (dx, dict2 "what" t1 v1 i1 "spot" (t + 1) v (PyData.keyHash w.params "spot") (k + 1)) (by simp)).1
  refine wpAny_bind (wpAny_pure (wpAny_bind (wpAny_bind (wpAny_loadPart hx (wpAny_bind (hcd.here ?_))))))
  refine wpAny_pure (a := some dx) ?_
  refine wpAny_bind (wpAny_pure (wpAny_bind ?_))
  unfold nsSet
  refine wpAny_bind (wpAny_bind (wpAny_askSetting (wpAny_pure (wpAny_bind (wpAny_mkText (wpAny_bind (wpAny_loadPart D1 ?_)))))))
  dsimp only
  rw [aRefKeyMayBeTheName_at, show (!(#[⟨i1, .str "what" t1, v1⟩] : Array DictEntry).any (·.key.isStr "spot") && (#[⟨i1, .str "what" t1, v1⟩] : Array DictEntry).any (·.refKey)) = false from by simp [DictEntry.refKey]]
  refine wpAny_updatePart D1 ?_
  refine wpAny_bind (wpAny_lookBehind D2 (pastItsLine_dict (by show 2 ≤ sizeLine + 1; exact Nat.le_of_ble_eq_true rfl)) ?_)
  refine wpAny_pure ?_
  refine h _ (t + 1) (PyData.keyHash w.params "spot") (k + 1) U3.1 ?_
  rw [hg]
  exact U3.2
end
end

-- part E7
section
open PySem PySem.W PyProof.Rows
set_option rowWalk.seconds 0
variable {w : World} {mean : ExcName → Option Value} {mg mb : Str → Option Value} {loose : List Str}
    {dp un : Nat} {gd : Option (List Code)} {cn : Str} {cs : Scope} {a : Addr} {ccd : Value} {cl : List (Str × Addr)} {outer : List Env} {A₀ : Around} {base h₀ : Heap} {L : Addr} {m : Str → Option Value} {news : List (Addr × Obj)} {s : Shared}
    {Q E : Value → Shared → Prop}

theorem tail_ne {l : List (Addr × Obj)} {T e : Addr} (h : ∀ p ∈ l, p.1 < T) (h2 : T < e) : ∀ p ∈ l, p.1 ≠ e := fun p hp => Nat.ne_of_lt (Nat.lt_trans (h p hp) h2)
def WrapAt (e x : Addr) (h : Heap) : Prop := h.get? x = some (wrapO e)
theorem wrap_of {e x : Addr} {h : Heap} (N : News h₀ L h news) (hm : (x, wrapO e) ∈ news) : WrapAt e x h := N.get hm
section
variable {A : Around} {prog : Program}
theorem callWith_wrapF {pos : Pos} {e u : Addr} {first : List Value} {args : List (Bool × Sem Value)} {Q : Value → Shared → Prop} (hplain : args.any (·.1) = false)
    (h : wpAny (model prog w) A (evalArgs (.ref u) true args []) (fun x s₁ => WrapAt e u s₁.heap ∧ wpAny (model prog w) A (call (.ref u) (first ++ x.pos) x.kw) Q E s₁) E s) : wpAny (model prog w) A (callWith pos (.ref u) first args []) Q E s := by
  unfold callWith
  refine wpAny_bind (wpAny_holding (wpAny_mono h (fun x s₁ h₁ => wpAny_bind (wpAny_standAt ?_)) fun _ _ x => x))
  obtain ⟨ho, hcall⟩ := h₁
  simp only [hplain, List.any_nil, Bool.or_false]
  refine wpAny_bind (m := keeperOf (.ref u)) ?_
  unfold keeperOf
  refine wpAny_bind (wpAny_load ho ?_)
  simp only [show (Value.type "method-wrapper" != Value.type "method") = true by decide, show (Value.type "method-wrapper" == Value.type "builtin_function_or_method" || Value.type "method-wrapper" == Value.type "method-wrapper") = true by decide, if_true]
  refine wpAny_pure ?_
  exact wpAny_bind (wpAny_mono hcall (fun r s₂ hr => wpAny_bind (wpAny_holding (wpAny_point (wpAny_pure hr)))) fun _ _ x => x)
theorem callWith_wrap {pos : Pos} {x u : Addr} {first : List Value} {env : Env} {e : Expr} {rest : List Expr} {Q : Value → Shared → Prop} (_N : News h₀ L s.heap news) (_hm : (u, wrapO x) ∈ news)
    (h : wpAny (model prog w) A (spliced (backTo pos (starEach (e :: rest) env))) (fun vs s₁ => WrapAt x u s₁.heap ∧ wpAny (model prog w) A (call (.ref u) (first ++ vs)) Q E s₁) E s)
    (he : starEach (e :: rest) env = (false, eval e env) :: starEach rest env := by rfl) (hplain : (backTo pos (starEach rest env)).any (·.1) = false := by rfl) :
    wpAny (model prog w) A (callWith pos (.ref u) first (backTo pos (starEach (e :: rest) env)) []) Q E s := by
  rw [he] at h ⊢
  refine callWith_wrapF (e := x) (by show (false || (backTo pos (starEach rest env)).any (·.1)) = false; rw [hplain]; rfl) ?_
  exact PySem.Calls.evalArgs_plain h
end
theorem rows_E7_1 : True := by
  k_with_none
  (k_with "callWith ref" => k_here; (with_reducible show wpAny _ _ (callWith _ (Value.ref _) _ (backTo _ (starEach (_ :: _) _)) []) _ _ _); k_dflt (refine callWith_wrap (by k_asm) (by k_mem) ?_; k_whole))
  (k_with "And" => (with_reducible show WrapAt _ _ _ ∧ _); k_dflt (refine ⟨wrap_of (by k_asm) (by k_mem), ?_⟩); (try dsimp only [List.nil_append, List.cons_append]))
  (k_with "k_room" => first | exact room1 (by assumption) rfl | exact room2 (by assumption) rfl | exact room3 (by assumption) rfl | ktr_room)
  (k_with "k_units" => first | exact room1 (by assumption) rfl | exact room2 (by assumption) rfl | exact room3 (by assumption) rfl | ktr_units)
  (k_with "k_mem" => assumption)
  (k_with "cell_enter" => refine code_defC (by k_asm) (by k_asm) (by k_asm) (by k_asm) (by k_asm) (by exact rfl) (by exact rfl) (by assumption) (by k_is) (by k_is) (by k_room) (by exact BindsTo.of_eq rfl) (by exact rfl) (by decide +kernel) ?_ (by exact rfl) (by exact rfl) (by exact rfl); k_whole; intro _ _ _ _ _ _ _ N'_w9 Y'_w9 B'_w9 _ _ l1_w9; (try k_lt l1_w9); k_cells Y'_w9; (try simp only [List.cons_append, List.nil_append] at N'_w9); (try dsimp only); (try k_lift B'_w9); (try k_fold))
  (k_with "ks_enter" => refine ks_code_super (by k_asm) (by k_asm) (by k_asm) (by k_asm) (by k_asm) (by exact rfl) (by exact rfl) (by first | exact rfl | assumption) (by k_is) (by k_is) (by k_room) (by exact BindsTo.of_eq rfl) (by exact locs rfl) ?_ (by decide) (by exact rfl) (by exact rfl) (by exact rfl); intro _ _ _ _ _ _ B'_w9 _ _ l1_w9; (try k_lt l1_w9); (try dsimp only); (try k_lift B'_w9))
  (k_with "k_inst" => refine Mine.inst_exc (by k_asm) (by k_mem))
  (k_with "call ref" => k_here; (with_reducible show wpAny _ _ (call (Value.ref 88) _ _) _ _ _); k_dflt (refine call_TF0 (by k_asm) (by k_asm) (by k_asm) (by exact Nat.le_of_ble_eq_true rfl) ?_; intro _ _ _ _ _ l1_w9 l2_w9; (try k_lt l1_w9); (try k_lt2 l2_w9); ks_enter))
  (k_with "getMethod ref" => k_here; (with_reducible show wpAny _ _ (getMethod (Value.ref _) "__init__" _) _ _ _); k_dflt (refine meth_super_b (by k_asm) (by k_asm) (by k_asm) (by k_mem) (by k_mem) (by k_is) ?_); intro _ _ _ _ l1_w9; (try k_lt l1_w9); (try dsimp only))
  (k_with "call ref" => k_here; (with_reducible show wpAny _ _ (call (Value.ref _) [_]) _ _ _); k_dflt (refine call_wrap (by k_asm) (by k_asm) (by k_asm) (by k_mem) (by k_updF) ?_); intro _ _ _ N'_w9 l1_w9; (try k_lt l1_w9); (try dsimp only at N'_w9))
  (k_with "k_all" => assumption)
  trivial
theorem exc_set1T {A : Around} {prog : Program} {tl : List (Addr × Obj)} {e T : Addr} {name : Str} {v : Value} {g : Obj → List (Addr × Obj)} {Q : Unit → Shared → Prop} (F : Fr h₀ L s.heap m) (X₀ : (Mine.hd.heap_1 w.params).In h₀) (N : News h₀ L s.heap news) (U : UpdF e (exc0 T) news g)
    (ht : findIn (Mine.hd.heap_1 w.params) (.ref 88) name = some none) (_n : ∀ p ∈ tl, p.1 ≠ e) (hs : ∀ p ∈ tl, p ∈ news)
    (h : ∀ dx h' tk n hh, Fr h₀ L h' m → News h₀ L h' ((dx, { cls := .type "dict", data := .dict #[⟨hh, .str name tk, v⟩] n }) :: g (excD T dx)) → (∀ p ∈ news, p.1 < dx) → (∀ p ∈ tl, p.1 ≠ dx) → Q () { s with heap := h', toks := s.toks + 2 }) :
    wpAny (model prog w) A (setAttr (.ref e) name v) Q E s := exc_set1 F X₀ N U ht fun dx h' tk n hh a b c => h dx h' tk n hh a b c fun p hp => Nat.ne_of_lt (c p (hs p hp))
theorem rows_E7_2 : True := by
  (k_with "setAttr ref" => k_here; first | (k_dflt (refine exc_set2 (by k_asm) (by k_asm) (by k_asm) (by k_mem) (by k_updF) (by k_is) ?_); intro h'_w9 tk'_w9 _ _ F'_w9 N'_w9; (try dsimp only at N'_w9)) | (k_dflt (refine exc_set1T (by k_asm) (by k_asm) (by k_asm) (by k_updF) (by k_is) (by assumption) (by (intro _ hp_w9; repeat (first | exact hp_w9 | refine List.mem_cons_of_mem _ ?_))) ?_); intro _ h'_w9 tk'_w9 _ _ F'_w9 N'_w9 l1_w9 _; (try k_lt l1_w9); (try dsimp only at N'_w9)))
  trivial
theorem TF_news {h : Heap} {x a1 a2 a3 a4 a5 y b : Addr × Obj} (N : News h₀ L h (x :: a1 :: a2 :: a3 :: a4 :: a5 :: y :: b :: news)) : News h₀ L h (x :: y :: news) := fun p hp => N p (by
  rcases List.mem_cons.mp hp with rfl | hp
  · simp
  · rcases List.mem_cons.mp hp with rfl | hp
    · simp
    · simp [hp])
def SpotIn (sp : Int) (od : Obj) : Prop := ∃ t1 v1 i1 t2 tk2 i2 k, od = dict2 "what" t1 v1 i1 "spot" tk2 (.int sp t2) i2 k
theorem spotIn_of {sp : Int} {t1 : Tok} {v1 : Value} {i1 : Int} {t2 tk2 : Tok} {i2 : Int} {k : Nat} : SpotIn sp (dict2 "what" t1 v1 i1 "spot" tk2 (.int sp t2) i2 k) := ⟨t1, v1, i1, t2, tk2, i2, k, rfl⟩
theorem call_TF {what : Str} {sp : Int} {t1 t2 : Tok}
    (B : Below A₀ base outer h₀) (F : Fr h₀ L s.heap m) (X : (Mine.hd.heap_1 w.params).In h₀) (N : News h₀ L s.heap news) (T : Top V loose mean mg mb h₀) (hk : cs.kind = .function)
    (hd : dp + 4 < recursionLimit) (hu : un + 20 < cLine)
    (hret : ∀ e dx T2 od h' tk', Fr h₀ L h' m → News h₀ L h' ((dx, od) :: (e, excD T2 dx) :: news) → SpotIn sp od → (∀ p ∈ news, p.1 ≠ e) → e < dx → Q (.ref e) { s with heap := h', toks := tk' }) :
    wpAny (model P w) (ktrTop dp un gd cn cs L a ccd cl outer) (call (.ref 88) [.str what t1, .int sp t2]) Q E s := by
  w_on
  k_dflt (refine' call_TF0 ?F ?X ?N ?z ?_; (case F => k_asm); (case X => k_asm); (case N => k_asm); (case z => exact Nat.le_of_ble_eq_true rfl); intro e' T' h' F' N' l1 l2; (have n1 := tail_ne l1 l2); (try k_lt l1); (try k_lt2 l2); ks_enter)
  k_steps
  rename News h₀ L _ _ => kN
  rename Fr h₀ L _ _ => kF
  rename (_ < _ ∧ _) => lt1
  exact hret _ _ _ _ _ _ kF (TF_news kN) spotIn_of n1 lt1.2.2.2.2.2.1
end

-- part E8
section
open PySem PySem.W PyProof.Rows
set_option rowWalk.seconds 0
variable {w : World} {mean : ExcName → Option Value} {mg mb : Str → Option Value} {loose : List Str}
    {dp un : Nat} {gd : Option (List Code)} {cn : Str} {cs : Scope} {a : Addr} {ccd : Value} {cl : List (Str × Addr)} {outer : List Env} {A₀ : Around} {base h₀ : Heap} {L : Addr} {m : Str → Option Value} {news : List (Addr × Obj)} {s : Shared}
    {Q E : Value → Shared → Prop}
abbrev DOf (dx : Addr) (o : Obj) : Prop := o.cls = .ref 88 ∧ o.dict = some dx
theorem DOf.map {dx : Addr} {o : Obj} (x : DOf dx o) (f : Array Value → Array Value) : DOf dx (o.mapFields f) := by
  obtain ⟨c, d, dt, sl⟩ := o
  cases dt <;> exact x

def TrD (h base : Heap) (e dx : Addr) (fl : Value) : Prop :=
  ∃ oe vs T oT ts, h.get? e = some oe ∧ DOf dx oe ∧ oe.data = .fields vs ∧ vs[1]? = some (.ref T) ∧ base.get? T = none ∧ T ≠ e ∧ h.get? T = some oT ∧ oT.data = .fields ts ∧ ts[3]? = some fl
def StepD (base : Heap) (l : List Env) (e dx : Addr) (fl : Value) (h h' : Heap) : Prop :=
  base.StaysIn h' ∧ h'.FunFrames base l ∧ TrD h' base e dx fl ∧ h.UpToSlots h'

section
variable {M : Model} {A : Around}
theorem entryD {base : Heap} {env : Env} {outer : List Env} {e dx : Addr} {oe : Obj} {vs : Array Value} {head : Value} {hadNext : Bool} {Q : Unit → Shared → Prop} {E : Value → Shared → Prop} {s : Shared} {L : Addr}
    (hfr : A.frames = some (env :: outer)) (hl : s.heap.FunFrames base (env :: outer)) (hf : env.frame = some L)
    (he : s.heap.get? e = some oe) (hkb : base.StaysIn s.heap) (hen : base.get? e = none) (hd : oe.data = .fields vs) (hsz : 1 < vs.size) (hD : DOf dx oe)
    (h : ∀ h', StepD base (env :: outer) e dx (rawInt L) s.heap h' → Q () { s with heap := h' }) :
    wpAny M A (do let a ← frameOf env; let pl ← entryPlaceOf L hadNext; let b ← EntryCells.newEntry head a .none (rawInt L) .none pl; setField (.ref e) 1 b) Q E s := by
  have hene : e ∉ (env :: outer).filterMap (·.frame) := fun hm => by
    obtain ⟨_, o, ho, hnf⟩ := hl.mem hm
    rw [he] at ho; injection ho with ho; subst ho; exact hnf vs hd
  refine wpAny_bind (wpAny_frameOf_fun hfr hl hf fun h₁ hs₁ => ?_)
  refine wpAny_bind (wpAny_entryPlaceOf fun pl hpl => ?_)
  unfold EntryCells.newEntry newFields
  refine wpAny_bind (wpAny_newObj_type ?_ (hpl.sizeOk5 _ _ _ _ _))
  have he₁ : h₁.get? e = some oe := (hs₁.2.1 e hene).trans he
  have kb₁ : base.StaysIn h₁ := fun b o hbo => (hs₁.2.1 b fun hm => by rw [(hl.mem hm).1] at hbo; cases hbo).trans (hkb b o hbo)
  have hTe : h₁.objs.size ≠ e := Nat.ne_of_gt (Heap.lt_size he₁)
  have hd₃ := Obj.data_mapFields hd (·.setIfInBounds 1 (Value.ref h₁.objs.size))
  generalize hOT : ({ cls := .type "traceback", dict := none, data := .fields ([head, .ref L, .none, rawInt L, .none] ++ (if pl.isEmpty then List.replicate 6 Value.none else pl)).toArray } : Obj) = oT
  have hTd : ∃ ts, oT.data = .fields ts ∧ ts[3]? = some (rawInt L) := by
    refine ⟨_, by rw [← hOT], ?_⟩
    first | (simp; done) | (rcases hpl with rfl | ⟨_, _, _, _, _, _, _, rfl⟩ <;> simp)
  have hTf : oT.isFreed = false := by rw [← hOT]; rfl
  have he₂ : (h₁.push oT).get? e = some oe := Heap.get?_push_of_some oT he₁
  refine wpAny_setField he₂ hd hsz (h _ ?_)
  have he₃ := Heap.get?_update_self (Obj.mapFields (·.setIfInBounds 1 (Value.ref h₁.objs.size))) he₂ (Obj.isFreed_of_fields hd₃)
  have hT₃ : ((h₁.push oT).update e (Obj.mapFields (·.setIfInBounds 1 (Value.ref h₁.objs.size)))).get? h₁.objs.size = some oT := (Heap.get?_update_other _ _ (Ne.symm hTe)).trans (Heap.get?_push_size h₁ hTf)
  have keep : ∀ b o, b ≠ e → h₁.get? b = some o → ((h₁.push oT).update e (Obj.mapFields (·.setIfInBounds 1 (Value.ref h₁.objs.size)))).get? b = some o :=
    fun b o hbe hb => by
      rw [Heap.get?_update_other _ _ (Ne.symm hbe)]
      exact Heap.get?_push_of_some _ hb
  have noRecord : ∀ b o, s.heap.get? b = some o → (∀ vs, o.data ≠ .fields vs) → b ≠ e := fun b o hb hnf q => by
    rw [q, he] at hb; injection hb with hb; subst hb; exact hnf vs hd
  obtain ⟨ts, ht1, ht2⟩ := hTd
  refine ⟨fun b o hbo => keep b o (fun q => by rw [q, hen] at hbo; cases hbo) (kb₁ b o hbo), hl.of_keeps fun b o hb hnf => ?_, ?_, fun b o hb hnf => ?_⟩
  · obtain ⟨sl, hs⟩ := hs₁.2.2 b o hb
    exact ⟨_, keep b _ (noRecord b o hb hnf) hs, rfl⟩
  · exact ⟨_, _, h₁.objs.size, _, ts, he₃, hD.map _, hd₃, by simp [hsz], kb₁.fresh, hTe, hT₃, ht1, ht2⟩
  · obtain ⟨sl, hs⟩ := hs₁.2.2 b o hb
    exact ⟨sl, keep b _ (noRecord b o hb hnf) hs⟩

theorem note_firstD {base : Heap} {env : Env} {outer : List Env} {e dx : Addr} {oe : Obj} {vs : Array Value} {Q : Unit → Shared → Prop} {E : Value → Shared → Prop} {s : Shared} {L : Addr}
    (hfr : A.frames = some (env :: outer)) (hl : s.heap.FunFrames base (env :: outer)) (hf : env.frame = some L)
    (he : s.heap.get? e = some oe) (hkb : base.StaysIn s.heap) (hen : base.get? e = none) (hd : oe.data = .fields vs) (h1 : vs[1]? = some .none) (hD : DOf dx oe)
    (h : ∀ h', StepD base (env :: outer) e dx (rawInt L) s.heap h' → Q () { s with heap := h' }) : wpAny M A (noteFrame (.ref e) env) Q E s := by
  unfold noteFrame
  simp only [hf]
  refine wpAny_bind (wpAny_field he hd h1 ?_)
  rw [if_neg (by decide)]
  exact entryD hfr hl hf he hkb hen hd (Array.getElem?_eq_some_iff.mp h1).1 hD h

theorem note_nextD {base : Heap} {env : Env} {outer : List Env} {e dx : Addr} {Q : Unit → Shared → Prop} {E : Value → Shared → Prop} {s : Shared} {L : Addr}
    (hfr : A.frames = some (env :: outer)) (hl : s.heap.FunFrames base (env :: outer)) (hf : env.frame = some L) (ht : TrD s.heap base e dx .none) (hkb : base.StaysIn s.heap) (hen : base.get? e = none)
    (h : ∀ h', StepD base (env :: outer) e dx (rawInt L) s.heap h' → Q () { s with heap := h' }) : wpAny M A (noteFrame (.ref e) env) Q E s := by
  obtain ⟨oe, vs, T, oT, ts, he, hD, hd, h1, hnT, hTe, hT, hdT, h3⟩ := ht
  unfold noteFrame
  simp only [hf]
  refine wpAny_bind (wpAny_field he hd h1 ?_)
  rw [if_pos (show (Value.ref T != Value.none) = true from by simp)]
  refine wpAny_bind (wpAny_field hT hdT h3 ?_)
  rw [if_neg (show ¬ ((Value.none == rawInt L) = true) from by simp [rawInt])]
  refine wpAny_bind (wpAny_setField hT hdT (Array.getElem?_eq_some_iff.mp h3).1 ?_)
  have other : ∀ b, b ≠ T → (s.heap.update T (Obj.mapFields (·.setIfInBounds 3 Value.none))).get? b = s.heap.get? b := fun b hb => Heap.get?_update_other _ _ (Ne.symm hb)
  have noRecord : ∀ b o, s.heap.get? b = some o → (∀ vs, o.data ≠ .fields vs) → b ≠ T := fun b o hb hnf q => by
    rw [q, hT] at hb; injection hb with hb; subst hb; exact hnf ts hdT
  refine entryD hfr (hl.of_keeps fun b o hb hnf => ⟨o, (other b (noRecord b o hb hnf)).trans hb, rfl⟩) hf ((other e (Ne.symm hTe)).trans he)
    (fun b o hbo => (other b fun q => by rw [q, hnT] at hbo; cases hbo).trans (hkb b o hbo)) hen hd (Array.getElem?_eq_some_iff.mp h1).1 hD
    fun h' ⟨x1, x2, x3, x4⟩ => h h' ⟨x1, x2, x3, fun b o hb hnf => x4 b o ((other b (noRecord b o hb hnf)).trans hb) hnf⟩

theorem landD {base : Heap} {l : List Env} {e dx : Addr} {fl : Value} {Q : Unit → Shared → Prop} {E : Value → Shared → Prop} {s : Shared}
    (hkb : base.StaysIn s.heap) (hl : s.heap.FunFrames base l) (ht : TrD s.heap base e dx fl)
    (h : ∀ h', StepD base l e dx .none s.heap h' → Q () { s with heap := h' }) :
    wpAny M A (setFlight (.ref e) none) Q E s := by
  obtain ⟨oe, vs, T, oT, ts, he, hD, hd, h1, hnT, hTe, hT, hdT, h3⟩ := ht
  have hsz3 : 3 < ts.size := (Array.getElem?_eq_some_iff.mp h3).1
  have other : ∀ b, b ≠ T → (s.heap.update T (Obj.mapFields (·.setIfInBounds 3 ((none : Option Addr).elim Value.none fun f => rawInt f)))).get? b = s.heap.get? b :=
    fun b hb => Heap.get?_update_other _ _ (Ne.symm hb)
  have noRecord : ∀ b o, s.heap.get? b = some o → (∀ vs, o.data ≠ .fields vs) → b ≠ T := fun b o hb hnf q => by
    rw [q, hT] at hb; injection hb with hb; subst hb; exact hnf ts hdT
  unfold setFlight
  refine wpAny_bind (wpAny_field he hd h1 ?_)
  rw [if_pos (show (Value.ref T != Value.none) = true from by simp)]
  refine wpAny_setField hT hdT hsz3 (h _ ⟨fun b o hbo => (other b fun q => by rw [q, hnT] at hbo; cases hbo).trans (hkb b o hbo),
    hl.of_keeps fun b o hb hnf => ⟨o, (other b (noRecord b o hb hnf)).trans hb, rfl⟩, ?_, fun b o hb hnf => ⟨o.slots, (other b (noRecord b o hb hnf)).trans hb⟩⟩)
  exact ⟨oe, vs, T, _, _, (other e (Ne.symm hTe)).trans he, hD, hd, h1, hnT, hTe, Heap.get?_update_self _ hT (Obj.isFreed_of_fields (Obj.data_mapFields hdT _)), Obj.data_mapFields hdT _, by simp [hsz3]⟩
end
def FlyD (base : Heap) (l : List Env) (e dx : Addr) (h : Heap) : Prop := base.StaysIn h ∧ base.get? e = none ∧ h.FunFrames base l ∧ TrD h base e dx .none
def RaisedD (base G : Heap) (l : List Env) (e dx : Addr) (news : List (Addr × Obj)) (h : Heap) : Prop :=
  ∃ B, base.StaysIn B ∧ (∀ b o, G.get? b = some o → b ∉ l.filterMap (·.frame) → B.get? b = some o) ∧ (∀ q ∈ news, B.get? q.1 = some q.2 ∧ G.get? q.1 = none ∧ base.get? q.1 = none) ∧ FlyD B l e dx h
theorem mem_frames {env : Env} {outer : List Env} {L b : Addr} (hf : env.frame = some L) (hm : b ∈ (env :: outer).filterMap (·.frame)) : b = L ∨ b ∈ outer.filterMap (·.frame) := by
  obtain ⟨en, he, hb⟩ := List.mem_filterMap.mp hm
  rcases List.mem_cons.mp he with rfl | he
  · exact .inl (Option.some.inj (hb.symm.trans hf))
  · exact .inr (List.mem_filterMap.mpr ⟨en, he, hb⟩)
section
variable {M : Model} {A : Around}
theorem leave_raiseD {base g : Heap} {env : Env} {outer : List Env} {e T dx : Addr} {od : Obj} {Q : Unit → Shared → Prop} {E : Value → Shared → Prop} {s : Shared} {L : Addr} {m : Str → Option Value} {news all : List (Addr × Obj)}
    (hf : env.frame = some L) (hk : env.scope.kind = .function) (K : Below A base outer g) (F : Fr g L s.heap m) (N : News g L s.heap all) (he : (e, excD T dx) ∈ all) (hd : (dx, od) ∈ all)
    (hs : ∀ p ∈ news, p ∈ all) (hn : ∀ p ∈ news, p.1 ≠ e) (hde : dx ≠ e)
    (hQ : ∀ h', RaisedD base g outer e dx ((dx, od) :: news) h' → g.UpToSlots h' → Q () { s with heap := h' }) :
    wpAny M (A.deeper env) (leaving env (.ref e)) Q E s := by
  have hnew : base.get? L = none := fresh_of_stays K.stays (kts_self F)
  have FF : s.heap.FunFrames base (env :: outer) := .cons (by rw [hk]; decide) hf F.ns hnew (K.frames.of_keeps fun b o q _ => ⟨o, F.keep b o q, rfl⟩)
  have hin : ∀ en ∈ env :: outer, ∀ b, en.frame = some b → b ∈ e :: (env :: outer).filterMap (·.frame) := fun en hen b hb => .tail _ (List.mem_filterMap.mpr ⟨en, hen, hb⟩)
  have ne0 : g.get? e = none := (N _ he).2.2
  have notL : ∀ q ∈ all, q.1 ∉ (env :: outer).filterMap (·.frame) := fun q hq hm => by
    rcases mem_frames hf hm with z | z
    · exact (N q hq).2.1 z
    · obtain ⟨o, ho, _⟩ := (K.frames.mem z).2
      rw [(N q hq).2.2] at ho; cases ho
  have st : base.StaysIn (hideAll s.heap (e :: (env :: outer).filterMap (·.frame))) := fun b o q => hideAll_get _ (F.keep b o (K.stays b o q)) fun hm => by
    rcases List.mem_cons.mp hm with rfl | hm
    · rw [K.stays _ _ q] at ne0; cases ne0
    · rw [(FF.mem hm).1] at q; cases q
  have sg : ∀ b o, g.get? b = some o → b ∉ outer.filterMap (·.frame) → (hideAll s.heap (e :: (env :: outer).filterMap (·.frame))).get? b = some o := fun b o q nm => hideAll_get _ (F.keep b o q) fun hm => by
    rcases List.mem_cons.mp hm with rfl | hm
    · rw [q] at ne0; cases ne0
    · rcases mem_frames hf hm with z | z
      · rw [z, kts_self F] at q; cases q
      · exact nm z
  have hl : ∀ q ∈ (dx, od) :: news, (hideAll s.heap (e :: (env :: outer).filterMap (·.frame))).get? q.1 = some q.2 ∧ g.get? q.1 = none ∧ base.get? q.1 = none := fun q hq => by
    have h1 : q ∈ all ∧ q.1 ≠ e := by
      rcases List.mem_cons.mp hq with rfl | hq
      · exact ⟨hd, hde⟩
      · exact ⟨hs q hq, hn q hq⟩
    refine ⟨hideAll_get _ (N q h1.1).1 fun hm => ?_, (N q h1.1).2.2, fresh_of_stays K.stays (N q h1.1).2.2⟩
    rcases List.mem_cons.mp hm with z | hm
    · exact h1.2 z
    · exact notL q h1.1 hm
  have B0 : (hideAll s.heap (e :: (env :: outer).filterMap (·.frame))).get? e = none := hideAll_none _ (.head _)
  unfold leaving
  refine wpAny_bind (note_firstD (Around.frames_deeper K.stack) (funFrames_hide FF hin) hf (N _ he).1 (fun b o q => of_hideAll _ q) B0 rfl rfl ⟨rfl, rfl⟩ fun h₁ S₁ => ?_)
  obtain ⟨a1, a2, a3, a4⟩ := S₁
  refine landD (s := { s with heap := h₁ }) a1 a2 a3 fun h₂ S₂ => ?_
  obtain ⟨b1, ⟨_, _, b2⟩, b3, b4⟩ := S₂
  exact hQ h₂ ⟨_, st, sg, hl, b1, B0, b2, b3⟩ ((Heap.UpToSlots.of_keeps F.keep).trans (a4.trans b4))

theorem leave_onD {base g g₂ : Heap} {env : Env} {outer : List Env} {e dx : Addr} {Q : Unit → Shared → Prop} {E : Value → Shared → Prop} {s : Shared} {L : Addr} {m : Str → Option Value} {all news : List (Addr × Obj)}
    (hf : env.frame = some L) (K : Below A base outer g) (F : Fr g L g₂ m) (R : RaisedD base g₂ (env :: outer) e dx all s.heap) (hsm : g₂.UpToSlots s.heap) (hs : ∀ p ∈ news, p ∈ all)
    (hQ : ∀ h', RaisedD base g outer e dx news h' → g.UpToSlots h' → Q () { s with heap := h' }) :
    wpAny M (A.deeper env) (leaving env (.ref e)) Q E s := by
  obtain ⟨B, hB, hBG, hl, f1, f2, f3, f4⟩ := R
  unfold leaving
  refine wpAny_bind (note_nextD (Around.frames_deeper K.stack) f3 hf f4 f1 f2 fun h₁ S₁ => ?_)
  obtain ⟨a1, a2, a3, a4⟩ := S₁
  refine landD (s := { s with heap := h₁ }) a1 a2 a3 fun h₂ S₂ => ?_
  obtain ⟨b1, ⟨_, _, b2⟩, b3, b4⟩ := S₂
  refine hQ h₂ ⟨B, hB, fun b o q nm => hBG b o (F.keep b o q) (fun hm => ?_), fun q hq => ⟨(hl q (hs q hq)).1, kts_none F.keep (hl q (hs q hq)).2.1, (hl q (hs q hq)).2.2⟩, b1, f2, b2, b3⟩ ((Heap.UpToSlots.of_keeps F.keep).trans (hsm.trans (a4.trans b4)))
  rcases mem_frames hf hm with z | z
  · rw [z, kts_self F] at q; cases q
  · exact nm z
end
end

-- part E9
section
open PySem PySem.W PyProof.Rows
set_option rowWalk.seconds 0
variable {w : World} {mean : ExcName → Option Value} {mg mb : Str → Option Value} {loose : List Str}
    {dp un : Nat} {gd : Option (List Code)} {cn : Str} {cs : Scope} {a : Addr} {ccd : Value} {cl : List (Str × Addr)} {outer : List Env} {A₀ : Around} {base h₀ : Heap} {L : Addr} {m : Str → Option Value} {news : List (Addr × Obj)} {s : Shared}
    {Q E : Value → Shared → Prop}

def RaiseP (E : Value → Shared → Prop) (v : Value) (s₁ : Shared) : Prop := ∃ e T dx, v = .ref e ∧ s₁.heap.get? 88 = some c88 ∧ s₁.heap.get? e = some (excD T dx) ∧ E (.ref e) s₁
theorem raise_TF {M : Model} {A : Around} {E : Value → Shared → Prop} {env : Env} {s : Shared} {x : Sem Value} {Q : Flow → Shared → Prop} (hh : A.handled = none)
    (h : wpAny M A x (RaiseP E) E s) : wpAny M A (raiseStmt env (some x) none) Q E s := by
  have hcB : ((Value.ref 88 :: [Value.ref 76, .ref 47, .type "Exception", .type "BaseException", .type "object"] : List Value).contains (.type "BaseException")) = true := by decide +kernel
  unfold raiseStmt
  refine wpAny_bind (wpAny_mono h (fun v s₁ h₁ => ?_) fun _ _ x => x)
  obtain ⟨e, T, dx, rfl, hC, he, hE⟩ := h₁
  obtain ⟨hp, g, d, tk, os⟩ := s₁
  repeat (first | with_reducible refine wpAny_loadPart_at he ?_ | with_reducible refine wpAny_loadPart_at hC ?_ | (with_reducible refine wpAny_isSubtype_exc hC ?_; rw [hcB]) | wp_step)
  exact wpAny_raiseNew_none hh hE
theorem exec_raise_TF {prog : Program} {w : World} {A : Around} {E : Value → Shared → Prop} {env : Env} {s : Shared} {c : Expr} {pos : Pos} {Q : Flow → Shared → Prop} (hh : A.handled = none)
    (h : wpAny (model prog w) A (eval c env) (RaiseP E) E s) : wpAny (model prog w) A (exec (.Raise (some c) none pos) env) Q E s := by
  rw [arm_exec_Raise]
  refine wpAny_bind (wpAny_standAt (raise_TF hh ?_))
  refine wpAny_bind (wpAny_mono h (fun v s₃ h₃ => wpAny_bind (wpAny_standAt (wpAny_pure h₃))) fun _ _ x => x)
end

-- part E10
section
open PySem PySem.W PyProof.Rows PyProof.V PySem.Spec
set_option rowWalk.seconds 0
variable {w : World} {mean : ExcName → Option Value} {mg mb : Str → Option Value} {loose : List Str}
    {dp un : Nat} {gd : Option (List Code)} {cn : Str} {cs : Scope} {a : Addr} {ccd : Value} {cl : List (Str × Addr)} {outer : List Env} {A₀ : Around} {base h₀ : Heap} {L : Addr} {m : Str → Option Value} {news : List (Addr × Obj)} {s : Shared}
    {Q E : Value → Shared → Prop}

structure IterS (prog : Program) (w : World) (A : Around) (h₀ : Heap) (env : Env) (x : Str) (body : List Stmt) (Q : Flow → Shared → Prop) (E : Value → Shared → Prop) (xv : Value) (s₁ : Shared) : Prop where
  out : wpAny (model prog w) A (pyIter xv) (fun it s₂ => LoopAtV prog w A h₀ env x body Q E it s₂) E s₁
theorem For_src {prog : Program} {A : Around} {env : Env} {Q : Flow → Shared → Prop} {x : Str} {px pos : Pos} {iter : Expr} {body : List Stmt} (_F : Fr h₀ env.locals s.heap m) (hx : env.kindOf x = some .local)
    (hp : (env.scope.kind == .class || (env.scope.kind == .module && env.locals != env.globals)) = false)
    (h : wpAny (model prog w) A (eval iter env) (IterS prog w A h₀ env x body Q E) E s)
    (hs : ∀ x, foldedSetIterable iter env x = pure x := by intro _; rfl)
    (hE : PassesOwn (model prog w) A env E := by passes_own) :
    wpAny (model prog w) A (exec (.For (.Name x px) iter body [] pos) env) Q E s :=
  For_invV h₀ hx hp (wpAny_mono h (fun _ _ z => z.out) fun _ _ z => z) hs hE

def atomsD (many : Nat) : List (PyData × PyData) := (List.range many).map fun a => (.str (nm (a : Nat)), .int a)
structure ReaderAt (w : World) (news : List (Addr × Obj)) (rd dx ad : Addr) (e1 : Int) (t1 : Tok) (kk : Nat) (oa : Obj) (kvs : List (Str × Value)) (many : Nat) : Prop where
  inst : (rd, instObj 148 dx) ∈ news
  dict : (dx, dictOf [⟨e1, .str "atoms" t1, .ref ad⟩] kk) ∈ news
  tab : (ad, oa) ∈ news
  isd : oa.IsDictOf (PySem.strKind P w) kvs
  flat : FlatPairs PyData.str kvs (atomsD many)
  sys : (ad == sysModules) = false


theorem rows_E10_1 : True := by
  k_with_none
  (k_with "k_room" => first | exact room1 (by assumption) rfl | exact room2 (by assumption) rfl | exact room3 (by assumption) rfl | ktr_room)
  (k_with "k_units" => first | exact room1 (by assumption) rfl | exact room2 (by assumption) rfl | exact room3 (by assumption) rfl | ktr_units)
  (k_with "k_mem" => assumption)
  (k_with "cell_enter" => refine code_defC (by k_asm) (by k_asm) (by k_asm) (by k_asm) (by k_asm) (by exact rfl) (by exact rfl) (by assumption) (by k_is) (by k_is) (by k_room) (by exact BindsTo.of_eq rfl) (by exact rfl) (by decide +kernel) ?_ (by exact rfl) (by exact rfl) (by exact rfl); k_whole; intro _ _ _ _ _ _ _ N'_w9 Y'_w9 B'_w9 _ _ l1_w9; (try k_lt l1_w9); k_cells Y'_w9; (try simp only [List.cons_append, List.nil_append] at N'_w9); (try dsimp only); (try k_lift B'_w9); (try k_fold))
  (k_with "eval ListComp" => k_dflt (refine listComp_tup (by k_asm) (by with_unfolding_all rfl) (by decide) (by rfl) (by decide) (by rfl) ?_))
  (k_with "eval Name" => (with_reducible show wpAny _ _ (eval (Expr.Name _ _) _) (SrcT _ _ _ _ _ _ _ _ _ _ _ _) _ _); k_dflt (refine ld (by k_asm) (by exact rfl) ?_))
  (k_with "exec For Name Call cons nil" => k_here; (with_reducible show wpAny _ _ (exec (Stmt.For (Expr.Name _ _) _ _ [] _) _) _ _ _); k_dflt (refine For_src (by k_asm) (by rfl) (by rfl) ?_ (by (intro _; rfl)) (by passes_own)))
  (k_with "call builtin:str.split" => k_here; (with_reducible show wpAny _ _ (call (Value.builtin "str.split") _) _ _ _); k_dflt (refine KSpl.split1 (by k_asm) (by k_asm) (by kernel_rfl) ?_ (by assumption); intro _ _ _ _ _ _ _ _ _))
  trivial
theorem atoms_look {many : Nat} (hm : many ≤ 4) {x : Int} (h : 0 ≤ x ∧ x < (many : Int)) : lookup (.str (nm x)) (atomsD many) = some (.int x) := by
  have hmc : many = 1 ∨ many = 2 ∨ many = 3 ∨ many = 4 := by omega
  have hxc : x = 0 ∨ x = 1 ∨ x = 2 ∨ x = 3 := by omega
  rcases hmc with rfl | rfl | rfl | rfl <;> rcases hxc with rfl | rfl | rfl | rfl <;> first | (exfalso; omega) | kernel_rfl
theorem notin_hit {A : Around} {D : List (PyData × PyData)} {d : Addr} {x : Str} {t : Tok} {dv : PyData} {Q : Value → Shared → Prop} (T : TabAt (PySem.strKind P w) PyData.str s.heap d D) (hl : lookup (.str x) D = some dv) (h : Q (.bool false) { s with toks := s.toks + 1 }) :
    wpAny (model P w) A (compareOp .NotIn (.str x t) (.ref d)) Q E s := notin_strTab T (by rw [hl]; exact h)
theorem notin_miss {A : Around} {D : List (PyData × PyData)} {d : Addr} {x : Str} {t : Tok} {Q : Value → Shared → Prop} (T : TabAt (PySem.strKind P w) PyData.str s.heap d D) (hl : lookup (.str x) D = none) (h : Q (.bool true) { s with toks := s.toks + 1 }) :
    wpAny (model P w) A (compareOp .NotIn (.str x t) (.ref d)) Q E s := notin_strTab T (by rw [hl]; exact h)
theorem rows_E10_2 : True := by
  (k_with "compareOp NotIn str ref" => k_here; k_dflt (first | (refine notin_hit (by k_tabat) (by assumption) ?_) | (refine notin_miss (by k_tabat) (by assumption) ?_)))
  (k_with "k_all" => assumption)
  (k_with "call builtin:len" => k_here; (with_reducible show wpAny _ _ (call (Value.builtin "len") [Value.str _ _]) _ _ _); k_dflt (refine len_str (by omega) ?_))
  (k_with "call builtin:list.append" => k_here; (with_reducible show wpAny _ _ (call (Value.builtin "list.append") _) _ _ _); k_dflt (refine append_K (by k_asm) (by k_asm) (by k_upd) ?_ (by assumption); k_whole); intro _ _ _)
  (k_with "eval Name" => k_here; k_dflt (refine ld (by k_asm) (by first | exact rfl | assumption) ?_; k_whole))
  (k_with "call type:tuple" => k_here; (with_reducible show wpAny _ _ (call (Value.type _) [Value.ref _]) _ _ _); k_dflt (refine tuple_L (by k_asm) (by k_asm) (by k_mem) (by assumption) ?_); intro _ _ _ _ _)
  trivial
theorem one_tuple_tells {rd dx ad : Addr} {e1 : Int} {t1 tt ts : Tok} {kk : Nat} {oa : Obj} {kvs : List (Str × Value)} {many : Nat} {text : Str} {sp : Int} {row : List Int}
    (B : Below A₀ base outer h₀) (F : Fr h₀ L s.heap m) (X : (Mine.hd.heap_1 w.params).In h₀) (N : News h₀ L s.heap news) (T : Top V loose mean mg mb h₀) (hk : cs.kind = .function)
    (hd : dp + 3 < recursionLimit) (hu : un + 20 < cLine)
    (hR : ReaderAt w news rd dx ad e1 t1 kk oa kvs many) (hm4 : many ≤ 4) (hlen : text.length + 2 ≤ sizeLine) (hs : Txt.split text "->" = row.map nm) (hr : row.length ≤ 4 ∧ ∀ a ∈ row, 0 ≤ a ∧ a < (many : Int))
    (hret : ∀ t vs k h' tk', Fr h₀ L h' m → IntsAre vs row → News h₀ L h' ((t, tupOf vs k) :: news) → (∀ p ∈ news, p.1 < t) → Q (.ref t) { s with heap := h', toks := tk' }) :
    wpAny (model P w) (ktrTop dp un gd cn cs L a ccd cl outer) (call (.ref 131) [.ref rd, .str text tt, .int sp ts]) Q E s := by
  w_on
  obtain ⟨hr1, hr2, hr3, hr4, hr5, hr6⟩ := hR
  refine wpAny_call ?_
  k_dflt cell_enter
  w_strict k_steps
  rename StrsAre _ _ => ha
  rename (_ = Txt.split _ _) => he
  rename Fr _ _ _ _ => lF
  rename News _ _ _ _ => lN
  rename (∀ p ∈ _ :: news, _) => lt2
  rename (∀ p ∈ news, _) => lt1
  rename_i fl _ _ _ _ D lst _ _
  have he' : lst.map (·.1) = row.map nm := he.trans hs
  rw [he'] at ha
  refine ⟨kdl_iter (nn := 0) (fun i m' nx => ∃ vs c t, IntsAre vs (row.take i) ∧ nx = (D, PySem.W.listOf (strValues lst).toArray 0) :: (fl, PySem.W.listOf vs.toArray c) :: news ∧ m' "self" = some (.ref rd) ∧ m' "spot" = some (.int (sp + ((row.take i).map fun x => ((nm x).length + 2 : Int)).sum) t) ∧ m' "found" = some (.ref fl)) rfl (.head _) lF lN ⟨[], 0, ts, .nil, rfl, rfl, by simp; rfl, rfl⟩ ?_ ?_⟩
  · intro i v m₁ news₁ h tk own hv hoff hl' hJ F1 N1
    obtain ⟨vs, c, t, hvs, rfl, m1, m2, m3⟩ := hJ
    have hfD : fl < D := lt2 _ (.head _)
    k_lt2 hfD
    obtain ⟨tl, htl⟩ : ∃ tl, tl = news ++ own := ⟨_, rfl⟩
    rw [List.cons_append, List.cons_append, ← htl] at N1
    have nfl : ∀ p ∈ tl, p.1 ≠ fl := by
      rw [htl]
      intro p hp
      rcases List.mem_append.mp hp with hp | hp
      · exact Nat.ne_of_lt (lt1 p hp)
      · exact hoff p hp fl (by simp)
    have q1 : (rd, instObj 148 dx) ∈ tl := htl ▸ List.mem_append_left _ hr1
    have q2 : (dx, dictOf [⟨e1, .str "atoms" t1, .ref ad⟩] kk) ∈ tl := htl ▸ List.mem_append_left _ hr2
    have q3 : (ad, oa) ∈ tl := htl ▸ List.mem_append_left _ hr3
    clear hr1 hr2 hr3 lN lF
    obtain ⟨y, tv, rfl, hy⟩ := ha.item i v hv
    rw [List.getElem?_map] at hy
    obtain ⟨x, hx, rfl⟩ := Option.map_eq_some_iff.mp hy
    have hxr := hr.2 x (List.mem_of_getElem? hx)
    have hlook := atoms_look hm4 hxr
    have hvl : vs.length = (row.take i).length := hvs.length
    have hsz : vs.toArray.size ≤ sizeLine := by rw [List.size_toArray, hvl, List.length_take, sizeLine_eq]; omega
    have hnl := nm_len x
    k_steps
    rename Fr _ _ _ _ => lF
    rename News _ _ _ _ => lN
    rw [List.push_toArray] at lN
    obtain ⟨tf, lN⟩ : ∃ tf, News _ _ _ ((D, PySem.W.listOf (strValues lst).toArray 0) :: (fl, PySem.W.listOf (vs ++ [Value.int x tf]).toArray (c + 1)) :: tl) := ⟨_, lN⟩
    refine InvEndG.intro (nx := (D, PySem.W.listOf (strValues lst).toArray 0) :: (fl, PySem.W.listOf (vs ++ [Value.int x tf]).toArray (c + 1)) :: news) lF lN ?_ hoff ?_ ?_
    refine ⟨List.mem_cons_self, vs ++ [Value.int x tf], c + 1, ?_⟩
    refine ⟨_, ?_, rfl, m1, Eq.trans (b := some (Value.int _ _)) rfl (congrArg (fun z => some (Value.int z _)) ?h2), m3⟩
    · rw [List.take_add_one, hx]
      exact IntsAre.append hvs (.cons x tf .nil)
    case h2 =>
      rw [List.take_add_one, hx]
      simp only [Option.toList, List.map_append, List.map_cons, List.map_nil, List.sum_append, List.sum_cons, List.sum_nil]
      omega
    · intro p hp
      rcases List.mem_cons.mp hp with rfl | hp
      · exact .head _
      · rcases List.mem_cons.mp hp with rfl | hp
        · exact .tail _ (.head _)
        · exact .tail _ (.tail _ (htl ▸ List.mem_append_left _ hp))
    · intro p hp
      exact .tail _ (.tail _ (htl ▸ List.mem_append_right _ hp))
  · intro m₁ news₁ h tk hJ F1 N1
    obtain ⟨vs, c, t, hvs, rfl, m1, m2, m3⟩ := hJ
    have hll : (strValues lst).length = row.length := by rw [ha.length, List.length_map]
    rw [hll, List.take_length] at hvs
    have hvl := hvs.length
    have hsz : vs.toArray.size ≤ sizeLine := by rw [List.size_toArray, hvl, sizeLine_eq]; omega
    have hz9 : vs.length ≤ 16384 := by omega
    clear lN lF
    k_steps
    rename Fr h₀ L _ _ => kF
    rename News h₀ L _ _ => kN
    rename (∀ p ∈ (D, _) :: _, _) => l9
    exact hret _ _ _ _ _ kF hvs (fun p hp => kN p (by
      rcases List.mem_cons.mp hp with rfl | hp
      · exact .head _
      · exact .tail _ (.tail _ (.tail _ hp)))) (fun p hp => l9 p (.tail _ (.tail _ hp)))
end

-- part E11
section
open PySem PySem.W PyProof.Rows PyProof.V PySem.Spec
set_option rowWalk.seconds 0
variable {w : World} {mean : ExcName → Option Value} {mg mb : Str → Option Value} {loose : List Str}
    {dp un : Nat} {gd : Option (List Code)} {cn : Str} {cs : Scope} {a : Addr} {ccd : Value} {cl : List (Str × Addr)} {outer : List Env} {A₀ : Around} {base h₀ : Heap} {L : Addr} {m : Str → Option Value} {news : List (Addr × Obj)} {s : Shared}
    {Q E : Value → Shared → Prop}


theorem rows_E11_1 : True := by
  k_with_none
  (k_with "k_room" => first | exact room1 (by assumption) rfl | exact room2 (by assumption) rfl | exact room3 (by assumption) rfl | ktr_room)
  (k_with "k_units" => first | exact room1 (by assumption) rfl | exact room2 (by assumption) rfl | exact room3 (by assumption) rfl | ktr_units)
  (k_with "k_mem" => assumption)
  (k_with "cell_enter" => refine code_defC (by k_asm) (by k_asm) (by k_asm) (by k_asm) (by k_asm) (by exact rfl) (by exact rfl) (by assumption) (by k_is) (by k_is) (by k_room) (by exact BindsTo.of_eq rfl) (by exact rfl) (by decide +kernel) ?_ (by exact rfl) (by exact rfl) (by exact rfl); k_whole; intro _ _ _ _ _ _ _ N'_w9 Y'_w9 B'_w9 _ _ l1_w9; (try k_lt l1_w9); k_cells Y'_w9; (try simp only [List.cons_append, List.nil_append] at N'_w9); (try dsimp only); (try k_lift B'_w9); (try k_fold))
  (k_with "eval ListComp" => k_dflt (refine listComp_tup (by k_asm) (by with_unfolding_all rfl) (by decide) (by rfl) (by decide) (by rfl) ?_))
  (k_with "eval Name" => (with_reducible show wpAny _ _ (eval (Expr.Name _ _) _) (SrcT _ _ _ _ _ _ _ _ _ _ _ _) _ _); k_dflt (refine ld (by k_asm) (by exact rfl) ?_))
  (k_with "exec For Name Call cons nil" => k_here; (with_reducible show wpAny _ _ (exec (Stmt.For (Expr.Name _ _) _ _ [] _) _) _ _ _); k_dflt (refine For_src (by k_asm) (by rfl) (by rfl) ?_ (by (intro _; rfl)) (by passes_own)))
  (k_with "call builtin:str.split" => k_here; (with_reducible show wpAny _ _ (call (Value.builtin "str.split") _) _ _ _); k_dflt (refine KSpl.split1 (by k_asm) (by k_asm) (by kernel_rfl) ?_ (by assumption); intro _ _ _ _ _ _ _ _ _))
  (k_with "compareOp NotIn str ref" => k_here; k_dflt (first | (refine notin_hit (by k_tabat) (by assumption) ?_) | (refine notin_miss (by k_tabat) (by assumption) ?_)))
  (k_with "k_all" => assumption)
  (k_with "call builtin:len" => k_here; (with_reducible show wpAny _ _ (call (Value.builtin "len") [Value.str _ _]) _ _ _); k_dflt (refine len_str (by omega) ?_))
  (k_with "call builtin:list.append" => k_here; (with_reducible show wpAny _ _ (call (Value.builtin "list.append") _) _ _ _); k_dflt (refine append_K (by k_asm) (by k_asm) (by k_upd) ?_ (by assumption); k_whole); intro _ _ _)
  (k_with "eval Name" => k_here; k_dflt (refine ld (by k_asm) (by first | exact rfl | assumption) ?_; k_whole))
  (k_with "exec Raise some none" => k_here; k_dflt (refine exec_raise_TF (by exact rfl) ?_))
  (k_with "call ref" => k_here; (with_reducible show wpAny _ _ (call (Value.ref 88) _) _ _ _); k_dflt (refine call_TF (by k_asm) (by k_asm) (by k_asm) (by k_asm) (by k_asm) (by exact rfl) (by k_room) (by k_units) ?_); intro _ _ _ _ _ _ _ _ _ _ _)
  trivial
theorem look_miss {many : Nat} (hm : many ≤ 4) : lookup (.str "B$7") (atomsD many) = none := by
  have hmc : many = 0 ∨ many = 1 ∨ many = 2 ∨ many = 3 ∨ many = 4 := by omega
  rcases hmc with rfl | rfl | rfl | rfl | rfl <;> kernel_rfl
theorem one_tuple_raises {rd dx ad : Addr} {e1 : Int} {t1 tt ts : Tok} {kk : Nat} {oa : Obj} {kvs : List (Str × Value)} {many : Nat} {sp : Int}
    (B : Below A₀ base outer h₀) (F : Fr h₀ L s.heap m) (X : (Mine.hd.heap_1 w.params).In h₀) (N : News h₀ L s.heap news) (T : Top V loose mean mg mb h₀) (hk : cs.kind = .function)
    (hd : dp + 8 < recursionLimit) (hu : un + 40 < cLine)
    (hR : ReaderAt w news rd dx ad e1 t1 kk oa kvs many) (hm4 : many ≤ 4)
    (hraise : ∀ e g dx' od h' tk', Fr h₀ L g m → SpotIn sp od → RaisedD base g (envX cn cs L a ccd cl :: outer) e dx' ((dx', od) :: news) h' → g.UpToSlots h' → E (.ref e) { s with heap := h', toks := tk' }) :
    wpAny (model P w) (ktrTop dp un gd cn cs L a ccd cl outer) (call (.ref 131) [.ref rd, .str "B$7" tt, .int sp ts]) Q E s := by
  w_on
  obtain ⟨hr1, hr2, hr3, hr4, hr5, hr6⟩ := hR
  have hs : Txt.split "B$7" "->" = [("B$7" : Str)] := by kernel_rfl
  have hlen : ("B$7" : Str).length + 2 ≤ sizeLine := Nat.le_of_ble_eq_true rfl
  refine wpAny_call ?_
  k_dflt cell_enter
  w_strict k_steps
  rename StrsAre _ _ => ha
  rename (_ = Txt.split _ _) => he
  rename Fr _ _ _ _ => lF
  rename News _ _ _ _ => lN
  rename (∀ p ∈ _ :: news, _) => lt2
  rename (∀ p ∈ news, _) => lt1
  rename_i fl _ _ _ _ D lst _ _
  rw [he.trans hs] at ha
  refine ⟨kdl_iter (nn := 0) (fun i m' nx => i = 0 ∧ nx = (D, PySem.W.listOf (strValues lst).toArray 0) :: (fl, PySem.W.listOf #[] 0) :: news ∧ m' "self" = some (.ref rd) ∧ m' "spot" = some (.int sp ts) ∧ m' "found" = some (.ref fl)) rfl (.head _) lF lN ⟨rfl, rfl, rfl, rfl, rfl⟩ ?_ ?_⟩
  · intro i v m₁ news₁ h tk own hv hoff hl' hJ F1 N1
    obtain ⟨rfl, rfl, m1, m2, m3⟩ := hJ
    have hfD : fl < D := lt2 _ (.head _)
    k_lt2 hfD
    obtain ⟨tl, htl⟩ : ∃ tl, tl = news ++ own := ⟨_, rfl⟩
    rw [List.cons_append, List.cons_append, ← htl] at N1
    have q1 : (rd, instObj 148 dx) ∈ tl := htl ▸ List.mem_append_left _ hr1
    have q2 : (dx, dictOf [⟨e1, .str "atoms" t1, .ref ad⟩] kk) ∈ tl := htl ▸ List.mem_append_left _ hr2
    have q3 : (ad, oa) ∈ tl := htl ▸ List.mem_append_left _ hr3
    clear hr1 hr2 hr3 lN lF
    obtain ⟨y, tv, rfl, hy⟩ := ha.item 0 v hv
    obtain rfl : ("B$7" : Str) = y := Option.some.inj hy
    have hlook := look_miss hm4
    k_steps
    rename (Mine.hd.heap_1 w.params).In _ => kX
    rename Below _ _ _ _ => kB
    rename Fr _ _ _ _ => kF
    rename News _ _ _ _ => kN
    rename SpotIn _ _ => kS
    rename (∀ p ∈ _ :: _, _ ≠ _) => kn
    rename Fr h₀ L _ _ => kG
    rename (_ < _) => kl
    refine ⟨_, _, _, rfl, c88_at (kX.keeps kF.keep), (kN _ (.tail _ (.head _))).1, ?_⟩
    refine leave_raiseD (news := news) rfl rfl kB kF kN (.tail _ (.head _)) (.head _) ?_ ?_ ?_ fun h' R U => ?_
    · exact fun p hp => .tail _ (.tail _ (.tail _ (.tail _ (htl ▸ List.mem_append_left _ hp))))
    · exact fun p hp => kn p (.tail _ (.tail _ (htl ▸ List.mem_append_left _ hp)))
    · exact (Nat.ne_of_lt kl).symm
    · exact hraise _ _ _ _ _ _ kG kS R U
  · intro m₁ news₁ h tk hJ F1 N1
    have hll : (strValues lst).length = 1 := ha.length
    exact absurd hJ.1 (by omega)
end

-- part S1
section
open PySem PySem.W PyProof.Rows
section
variable {prog : Program} {w : World} {A : Around} {E : Value → Shared → Prop} {s : Shared}

theorem list_keys_none : typeLookup (.type "list") "keys" = pure none := am_miss_of_fast (by kernel_rfl)

theorem keys_miss {a : Addr} {xs : Array Value} {k : Nat} {Q : Option Value → Shared → Prop} (hx : s.heap.get? a = some (PySem.W.listOf xs k)) (hA : A.handled = none)
    (h : ∀ h' tk, (∀ b o, s.heap.get? b = some o → h'.get? b = some o) → Q none { s with heap := h', toks := tk }) :
    wpAny (model prog w) A (getAttr? (.ref a) "keys") Q E s := by
  obtain ⟨hp, g, d, tk, os⟩ := s
  have hT : ∀ tk', (⟨hp, g, d, tk', os⟩ : Shared).TypeIs (.ref a) "list" := fun _ => ⟨_, hx, rfl⟩
  have f1 := sub_AttributeError
  have f3 := F.slot_list_getattribute.lookup
  have f4 := F.slot_list_getattribute.bind (.ref a)
  have f5 := am_list_getattr_none
  unfold getAttr? getAttrBy? getAttrBy
  repeat (any_goals (first | assumption | exact hT _ | ((with_reducible show wpAny _ _ (call (Value.builtin "list.__getattribute__") _ _) _ _ _); refine call_meets F.slot_list_getattribute (hT _) am_entry_list_getattribute (F.args_list_getattribute_2 _ _) (meets_getattribute_miss_list a xs k #[] "keys" _ list_keys_none (by decide +kernel) (by size_fits)) ⟨hx, hA, fun h' tk' e hx' => ?_⟩) | wp_step))
  obtain ⟨t', u', he⟩ := hx'.there
  show wpAny _ _ (getattributeRaised _ _ _ _ _ _ _) _ _ _
  unfold getattributeRaised
  repeat (any_goals (first | assumption | wp_step))
  exact h _ _ hx'.keeps

end
end

-- part S2
section
open PySem PySem.W PyProof.Rows
inductive PairsIn (news : List (Addr × Obj)) : List Value → List (List Int × Addr) → Prop
  | nil : PairsIn news [] []
  | cons {p a : Addr} {k n : Nat} {r : List Int} {us vs : List Value} {ks : List (List Int × Addr)} : (p, tupOf [.ref a, .bool true] k) ∈ news → (a, tupOf us n) ∈ news → IntsAre us r → PairsIn news vs ks → PairsIn news (.ref p :: vs) ((r, a) :: ks)
def trip (x : List Int × Addr) : List Int × Addr × Value := (x.1, x.2, .bool true)
theorem PairsIn.length {news : List (Addr × Obj)} {vs : List Value} {ks : List (List Int × Addr)} (h : PairsIn news vs ks) : vs.length = ks.length := by
  induction h with
  | nil => rfl
  | cons _ _ _ _ ih => simp [ih]
theorem PairsIn.at {news : List (Addr × Obj)} {vs : List Value} {ks : List (List Int × Addr)} (h : PairsIn news vs ks) {i : Nat} {v : Value} (hv : vs[i]? = some v) :
    ∃ p a k n r us, v = .ref p ∧ (p, tupOf [.ref a, .bool true] k) ∈ news ∧ (a, tupOf us n) ∈ news ∧ IntsAre us r ∧ ks[i]? = some (r, a) := by
  induction h generalizing i with
  | nil => simp at hv
  | cons h1 h2 h3 _ ih =>
    cases i with
    | zero => cases hv; exact ⟨_, _, _, _, _, _, rfl, h1, h2, h3, rfl⟩
    | succ i => exact ih hv
section
variable {prog : Program} {w : World} {A : Around} {E : Value → Shared → Prop} {s : Shared} {h₀ : Heap} {L : Addr} {m : Str → Option Value} {news : List (Addr × Obj)}
abbrev rowKind (prog : Program) (w : World) := tupleKind (intKind prog w)
theorem ints_items {us : List Value} {r : List Int} (h : IntsAre us r) : ItemsAre (intKind prog w) r us := by
  induction h with
  | nil => exact .nil
  | cons n t _ ih => exact .cons (by show Value.isInt n (.int n t) = true; simp [Value.isInt]) ih
theorem row_key {h : Heap} {a : Addr} {us : List Value} {n : Nat} {r : List Int} (ha : h.get? a = some (tupOf us n)) (hi : IntsAre us r) : (rowKind prog w).is h r a :=
  ⟨_, us.toArray, n, ha, rfl, rfl, ints_items hi⟩
theorem entry_upd : entryFor table "dict.update.loop" = some Builtin.«dict.update.loop» := entryFor_of_tree (by kernel_rfl)
theorem plain_upd : plainId "dict.update.loop" = true := by decide +kernel

theorem upd_loop {R : Result → Shared → Prop} {I d l : Addr} {vs : List Value} {ks : List (List Int × Addr)} (hh : A.handled = none) (hu : A.units + 4 < cLine) (P : PairsIn news vs ks) (hn : (ks.map (·.1)).Nodup) (hsz : ks.length ≤ 64)
    (hlI : l ≠ I) (hld : l ≠ d) (hdI : d ≠ I) (hdL : d ≠ L) (hIL : I ≠ L) (hd0 : h₀.get? d = none) (hI0 : h₀.get? I = none) (hnd : ∀ p ∈ news, p.1 ≠ d) (hnI : ∀ p ∈ news, p.1 ≠ I) :
    ∀ (j i : Nat) (s : Shared) (ti : Tok) (iz : Int), i + j = vs.length → s.heap.IsListIter I l i → s.heap.IsList l vs.toArray → Fr h₀ L s.heap m → News h₀ L s.heap news → s.heap.DictOfH (rowKind prog w) d ((ks.take i).map trip) →
    (∀ h' tk, Fr h₀ L h' m → News h₀ L h' news → h'.DictOfH (rowKind prog w) d (ks.map trip) → R (.ok (.ret .none)) { s with heap := h', toks := tk }) →
    codeAny (model prog w) A (.builtin "dict.update.loop" ⟨[.ref d, .ref I, .int iz ti, .none], []⟩) R s := by
  intro j
  induction j with
  | zero =>
    intro i s ti iz hi hI hl F N hD hR
    have W := Walks.list (prog := prog) (w := w) (A := A.in1) hh I l hlI vs.toArray
    have hin : i = vs.toArray.size := by simpa using hi
    refine codeAny_builtin entry_upd ?_
    rw [Around.under_plainId plain_upd _]
    show wpAny _ A.in1 (pyNext (.ref I) >>= _) _ _ s
    refine wpAny_bind (W.done s _ _ (by rw [← hin]; exact ⟨hI, hl⟩) fun h' tk hk => ?_)
    show wpAny _ A.in1 (Builtin.Dict.addKeywords d [] >>= fun _ => ret .none) _ _ _
    refine wpAny_bind (wpAny_pure (wpAny_pure ?_))
    have hti : ks.take i = ks := List.take_of_length_le (by rw [← P.length, hin]; simp)
    rw [hti] at hD
    have hk' : ∀ b o, b ≠ I → s.heap.get? b = some o → h'.get? b = some o := fun b o hb e => hk b o (by simp [hb]) e
    refine hR h' tk ⟨F.ns.at' fun o e => hk' L o hIL.symm e, fun b o e => hk' b o (fun q => by rw [q, hI0] at e; cases e) (F.keep b o e), F.above⟩ (fun p hp => ⟨hk' _ _ (hnI p hp) (N p hp).1, (N p hp).2⟩) ?_
    obtain ⟨o, es, ep, ho, hc, hd, he, his, hnn⟩ := hD
    refine ⟨o, es, ep, hk' _ _ hdI ho, hc, hd, he, fun x hx => ?_, hnn⟩
    obtain ⟨o2, it2, n2, h1, h2, h3, h4⟩ := his x hx
    refine ⟨o2, it2, n2, hk' _ _ (fun q => ?_) h1, h2, h3, h4⟩
    rw [q] at h1
    obtain ⟨oI, hoI, hcI, _⟩ := hI
    rw [hoI] at h1; cases h1
    exact absurd (h2.symm.trans hcI) (by intro e; injection e with e; exact absurd e (by decide))
  | succ j ih =>
    intro i s ti iz hi hI hl F N hD hR
    have W := Walks.list (prog := prog) (w := w) (A := A.in1) hh I l hlI vs.toArray
    have hlt : i < vs.toArray.size := by simp; omega
    refine codeAny_builtin entry_upd ?_
    rw [Around.under_plainId plain_upd _]
    show wpAny _ A.in1 (pyNext (.ref I) >>= _) _ _ s
    refine wpAny_bind (W.item i s _ _ hlt ⟨hI, hl⟩ fun v h' tk hv hst hk => ?_)
    rw [List.getElem?_toArray] at hv
    obtain ⟨p, a, k, n, r, us, rfl, hp, ha, hus, hks⟩ := P.at hv
    have hk' : ∀ b o, b ≠ I → s.heap.get? b = some o → h'.get? b = some o := fun b o hb e => hk b o (by simp [hb]) e
    have F1 : Fr h₀ L h' m := ⟨F.ns.at' fun o e => hk' L o hIL.symm e, fun b o e => hk' b o (fun q => by rw [q, hI0] at e; cases e) (F.keep b o e), F.above⟩
    have N1 : News h₀ L h' news := fun p hp => ⟨hk' _ _ (hnI p hp) (N p hp).1, (N p hp).2⟩
    have hD1 : h'.DictOfH (rowKind prog w) d ((ks.take i).map trip) := by
      obtain ⟨o, es, ep, ho, hc, hd, he, his, hnn⟩ := hD
      refine ⟨o, es, ep, hk' _ _ hdI ho, hc, hd, he, fun x hx => ?_, hnn⟩
      obtain ⟨o2, it2, n2, h1, h2, h3, h4⟩ := his x hx
      refine ⟨o2, it2, n2, hk' _ _ (fun q => ?_) h1, h2, h3, h4⟩
      rw [q] at h1
      obtain ⟨oI, hoI, hcI, _⟩ := hI
      rw [hoI] at h1; cases h1
      exact absurd (h2.symm.trans hcI) (by intro e; injection e with e; exact absurd e (by decide))
    refine wpAny_bind (wpAny_holding ?_)
    refine wpAny_bind ?_
    refine wpAny_tryCatch ?_
    unfold Builtin.Dict.pairItems
    have hpT : (⟨h', s.gens, s.drawn, tk, s.os⟩ : Shared).TypeIs (.ref p) "tuple" := ⟨_, (N1 _ hp).1, rfl⟩
    refine wpAny_bind (wpAny_typeOf hpT ?_)
    rw [if_pos (by decide)]
    refine wpAny_bind (wpAny_seqItems (N1 _ hp).1 rfl (wpAny_pure ?_))
    show wpAny _ A.in1 (holding [Value.ref a, .bool true] (dictSet d (.ref a) (.bool true))) _ _ _
    refine wpAny_holding ?_
    refine wpAny_dictSet_heap (knd := rowKind prog w) (by show A.in1.units < cLine; exact Nat.lt_of_le_of_lt (Nat.add_le_add_left (by decide) _) hu) (row_key (N1 _ ha).1 hus) hD1 (fun h2 hD2 hs2 => ?_) (by simp; rw [sizeLine_eq]; omega)
    have hnot : atKey ((ks.take i).map trip) r = none := by
      refine atKey_none_of_get fun j p hj => ?_
      rw [List.getElem?_map] at hj
      obtain ⟨⟨x1, x2⟩, hx, hxe⟩ := Option.map_eq_some_iff.mp hj
      have hx1 : x1 = r := by injection hxe
      subst hx1
      have hji : j < i := by
        have := (List.getElem?_eq_some_iff.mp hx).1
        simp at this; omega
      rw [List.getElem?_take_of_lt hji] at hx
      have e1 : (ks.map (·.1))[j]? = some x1 := by rw [List.getElem?_map, hx]; rfl
      have e2 : (ks.map (·.1))[i]? = some x1 := by rw [List.getElem?_map, hks]; rfl
      have := (List.getElem?_inj (List.getElem?_eq_some_iff.mp e1).1 hn).mp (e1.trans e2.symm)
      omega
    rw [storedH_new hnot] at hD2
    have ht : (ks.take i).map trip ++ [(r, a, .bool true)] = (ks.take (i + 1)).map trip := by
      rw [List.take_add_one, hks]
      simp [trip]
    rw [ht] at hD2
    refine wpAny_pure ⟨plainId_quiet plain_upd _, ?_⟩
    refine ih (i + 1) _ 0 (iz + 1) (by omega) (hst.1.at fun o e => hs2.extBut _ _ hdI.symm e) (hst.2.extBut hs2.extBut hld) (F1.change hs2 hdL hd0) (fun p hp => ⟨hs2.extBut _ _ (hnd p hp) (N1 p hp).1, (N1 p hp).2⟩) hD2 fun h3 tk3 F3 N3 D3 => ?_
    exact hR h3 tk3 F3 N3 D3

theorem call_dict_pairs {l : Addr} {c : Nat} {vs : List Value} {ks : List (List Int × Addr)} {Q : Value → Shared → Prop} (F : Fr h₀ L s.heap m) (N : News h₀ L s.heap news) (hh : A.handled = none) (hu : A.units + 20 < cLine)
    (hl : (l, PySem.W.listOf vs.toArray c) ∈ news) (P : PairsIn news vs ks) (hn : (ks.map (·.1)).Nodup) (hsz : ks.length ≤ 64)
    (h : ∀ d h' tk o, Fr h₀ L h' m → News h₀ L h' ((d, o) :: news) → (∀ p ∈ news, p.1 < d) → L < d → h'.DictOfH (rowKind prog w) d (ks.map trip) → Q (.ref d) { s with heap := h', toks := tk }) :
    wpAny (model prog w) A (call (.type "dict") [.ref l]) Q E s := by
  refine callType_codes (Q₁ := fun obj s₁ => obj = .ref s.heap.objs.size ∧ s₁ = { s with heap := s.heap.push { cls := .type "dict", data := .dict #[] } }) PySem.F.kt_called_dict (PySem.F.kt_typeCall_dict_1 _) PySem.F.entry_dict_init (kt_code_dict_new _ ⟨rfl, rfl⟩) ?_
  rintro obj s₁ ⟨rfl, rfl⟩
  have hnew : (s.heap.push { cls := .type "dict", data := .dict #[] }).DictOfH (rowKind prog w) s.heap.objs.size [] := Heap.DictOfH.new s.heap
  have F1 := F.push { cls := .type "dict", data := .dict #[] }
  have N1 := News.push F N { cls := .type "dict", data := .dict #[] }
  have hT := hnew.typeIs (s := { s with heap := s.heap.push { cls := .type "dict", data := .dict #[] } })
  refine ⟨hT, PySem.F.args_dict_init_2 _ _, ?_⟩
  unfold Builtin.«dict.__init__»
  refine wpAny_bind ?_
  unfold Builtin.Dict.selfAndRest
  refine wpAny_bind (wpAny_notOrdered_dict hT ?_)
  show wpAny _ _ (pure (s.heap.objs.size, [Value.ref l])) _ _ _
  refine wpAny_pure ?_
  show wpAny _ _ (Builtin.Dict.updateFrom "dict.__init__" s.heap.objs.size (.ref l) [] .none) _ _ _
  unfold Builtin.Dict.updateFrom
  have hlT : ({ s with heap := s.heap.push { cls := .type "dict", data := .dict #[] } } : Shared).TypeIs (.ref l) "list" := ⟨_, (N1 _ (.tail _ hl)).1, rfl⟩
  refine wpAny_bind (wpAny_typeOf hlT ?_)
  rw [if_pos (by decide)]
  refine wpAny_bind (keys_miss (N1 _ (.tail _ hl)).1 hh fun h2 tk2 hk2 => ?_)
  simp only [Option.isNone_none, if_true]
  refine wpAny_bind (wpAny_rule ?_)
  have hd2 : h2.get? s.heap.objs.size = some { cls := .type "dict", data := .dict #[] } := hk2 _ _ (Heap.get?_push_size _ rfl)
  have hltd : s.heap.objs.size < h2.objs.size := Heap.lt_size hd2
  have hl2 : h2.IsList l vs.toArray := ⟨_, hk2 _ _ (N1 _ (.tail _ hl)).1, rfl, c, rfl⟩
  refine wpAny_bind (wpAny_pyIter_list hl2 ?_)
  refine wpAny_pure ⟨plainId_quiet plain_upd _, ?_⟩
  have F2 : Fr h₀ L h2 m := F1.keeps hk2
  have N2 : News h₀ L h2 news := fun p hp => ⟨hk2 _ _ (N1 p (.tail _ hp)).1, (N1 p (.tail _ hp)).2⟩
  have up : ∀ b o, h2.get? b = some o → (h2.push { cls := .type "list_iterator", data := .fields #[.ref l, .int 0 0] }).get? b = some o := fun b o e => Heap.get?_push_of_some _ e
  have hLd : L < s.heap.objs.size := F.ns.lt
  have hll : l < s.heap.objs.size := Heap.lt_size (N _ hl).1
  have none0 : ∀ c, s.heap.objs.size ≤ c → h₀.get? c = none := fun c hc => by
    cases e : h₀.get? c with
    | none => rfl
    | some o' => exact absurd (Heap.lt_size (F.keep c o' e)) (Nat.not_lt.mpr hc)
  refine upd_loop (A := A.in1) (I := h2.objs.size) (d := s.heap.objs.size) (l := l) (news := news) (m := m) (h₀ := h₀) (L := L) hh (by show A.units + 1 + 4 < cLine; exact Nat.lt_of_le_of_lt (Nat.add_le_add_left (by decide : 5 ≤ 20) A.units) hu) P hn hsz (Nat.ne_of_lt (Nat.lt_trans hll hltd)) (Nat.ne_of_lt hll) (Nat.ne_of_lt hltd) (Nat.ne_of_gt hLd) (Nat.ne_of_gt (Nat.lt_trans hLd hltd)) (none0 _ (Nat.le_refl _)) (none0 _ (Nat.le_of_lt hltd))
    (fun p hp => Nat.ne_of_lt (Heap.lt_size (N p hp).1)) (fun p hp => Nat.ne_of_lt (Nat.lt_trans (Heap.lt_size (N p hp).1) hltd)) vs.length 0 { s with heap := h2.push { cls := .type "list_iterator", data := .fields #[.ref l, .int 0 0] }, toks := tk2 } 0 0 (by omega) ⟨_, Heap.get?_push_size _ rfl, rfl, rfl⟩ (hl2.at fun o e => up _ o e) (F2.keeps up) (N2.grown up) ?_ ?_
  · exact ⟨_, #[], 0, up _ _ hd2, ⟨rfl, rfl, rfl⟩, rfl, rfl, fun _ hx => by simp at hx, List.nodup_nil⟩
  · intro h3 tk3 F3 N3 D3
    obtain ⟨o, es, ep, ho, _⟩ := id D3
    refine ⟨rfl, h _ h3 tk3 o F3 (fun p hp => ?_) (fun p hp => Heap.lt_size (N p hp).1) hLd D3⟩
    rcases List.mem_cons.mp hp with rfl | hp
    · exact ⟨ho, Nat.ne_of_gt hLd, none0 _ (Nat.le_refl _)⟩
    · exact N3 p hp
end
end

-- part S3
section
open PySem PySem.W PyProof.Rows
/-- a dict at d whose keys, in their order, are ks -/
def RawAt (h : Heap) (d : Addr) (ks : List Value) (ep : Nat) : Prop := ∃ o es, h.get? d = some o ∧ o.ExactDict ∧ o.data = .dict es ep ∧ es.toList.map (·.key) = ks
section
variable {prog : Program} {w : World} {A : Around} {E : Value → Shared → Prop} {s : Shared} {d it : Addr} {ks : List Value} {ep i : Nat}
theorem RawAt.typeIs (x : RawAt s.heap d ks ep) : s.TypeIs (.ref d) "dict" := let ⟨o, _, ho, hc, _⟩ := x; ⟨o, ho, hc.1⟩
theorem RawAt.at {h h' : Heap} (x : RawAt h d ks ep) (e : ∀ o, h.get? d = some o → h'.get? d = some o) : RawAt h' d ks ep := let ⟨o, es, ho, r⟩ := x; ⟨o, es, e _ ho, r⟩
theorem RawAt.lt {h : Heap} (x : RawAt h d ks ep) : d < h.objs.size := let ⟨_, _, ho, _⟩ := x; Heap.lt_size ho
theorem raw_size {es : Array DictEntry} (h : es.toList.map (·.key) = ks) : es.size = ks.length := by rw [← h, List.length_map, Array.length_toList]

theorem raw_iter {Q : Value → Shared → Prop} (hd : (d == sysModules) = false) (hm : RawAt s.heap d ks ep)
    (hQ : Q (.ref s.heap.objs.size) { s with heap := s.heap.push { cls := .type "dict_keyiterator", data := .fields #[.ref d, .int 0 0, .int ks.length 0, .int ep 0] } }) :
    wpAny (model prog w) A (pyIter (.ref d)) Q E s := by
  have hT := hm.typeIs
  obtain ⟨o, es, ho, hc, hdat, hk⟩ := hm
  refine wpAny_pyIter_slot hT PySem.F.slot_dict_iter (wpAny_call_entry PySem.F.slot_dict_iter hT PySem.F.entry_dict_iter ?_ (PySem.F.args_dict_iter_1 _))
  unfold Builtin.«dict.__iter__»
  refine wpAny_bind ?_
  unfold Builtin.Dict.dictSlotNone
  refine wpAny_bind (wpAny_notOrdered_dict hT ?_)
  show wpAny _ _ (pure (Value.ref d)) _ _ s
  refine wpAny_pure ?_
  show wpAny _ _ (Builtin.Dict.showsAll d >>= _) _ _ s
  unfold Builtin.Dict.showsAll
  rw [if_neg (by rw [hd]; exact Bool.false_ne_true)]
  refine wpAny_bind (wpAny_pure ?_)
  refine wpAny_bind (wpAny_dictEntries ho hdat ?_)
  refine wpAny_bind (wpAny_dictEpoch ho hdat ?_)
  have hsz := raw_size hk
  refine wpAny_bind (wpAny_newObj_type (wpAny_pure ⟨_, rfl, "dict_keyiterator", _, ⟨_, Heap.get?_push_size _ rfl, rfl⟩, PySem.F.slot_dict_keyiterator_next.lookup, ?_⟩))
  simpa [rawInt, hsz] using hQ

theorem raw_item {v : Value} {Q : Option Value → Shared → Prop} (hit : s.heap.IsKeyIter it d i ks.length ep) (hm : RawAt s.heap d ks ep) (hx : ks[i]? = some v)
    (hQ : ∀ h', h'.IsKeyIter it d (i + 1) ks.length ep → Heap.SameBut it s.heap h' → Q (some v) { s with heap := h' }) :
    wpAny (model prog w) A (pyNext (.ref it)) Q E s := by
  obtain ⟨o, ho, hc, hd⟩ := id hit
  obtain ⟨od, es, hod, hcd, hdd, hk⟩ := id hm
  unfold pyNext
  refine wpAny_bind (wpAny_attempt (wpAny_callSpecial?_slot (name := Str.ofString "__next__") hit.typeIs PySem.F.slot_dict_keyiterator_next
    (wpAny_call_entry PySem.F.slot_dict_keyiterator_next hit.typeIs PySem.F.entry_dict_keyiterator_next ?_ (PySem.F.args_dict_keyiterator_next_1 _))))
  refine wpAny_bind (wpAny_pure ?_)
  refine wpAny_bind (wpAny_bind (wpAny_bind (wpAny_typeNameOfWhole_keyiter hit.typeIs (wpAny_pure ?_))))
  refine wpAny_bind (wpAny_fieldsOf ho hd ?_)
  have hown : Builtin.Dict_items.ownsTuple "dict_keyiterator" = false := by decide
  simp only [hown, Bool.false_eq_true, if_false]
  show wpAny _ _ (if (Value.ref d == Value.none) = true then _ else _) _ _ s
  rw [if_neg (show ¬ ((Value.ref d == Value.none) = true) from Bool.false_ne_true)]
  refine wpAny_bind (wpAny_pure ?_)
  refine wpAny_bind (wpAny_dictEntries hod hdd ?_)
  have hsz := raw_size hk
  rw [if_neg (by rw [hsz]; simp)]
  refine wpAny_bind (wpAny_pure ?_)
  refine wpAny_bind (wpAny_dictEpoch hod hdd ?_)
  rw [if_neg (by simp)]
  refine wpAny_pure ?_
  have hlt : i < es.size := by rw [hsz]; exact (List.getElem?_eq_some_iff.mp hx).1
  have hkey : es[i].key = v := by
    rw [← hk, List.getElem?_map, Array.getElem?_toList, Array.getElem?_eq_getElem hlt] at hx
    exact Option.some.inj hx
  simp only [show ¬ ((i : Int) < 0) from by omega, if_false, Int.toNat_natCast, Array.getElem?_eq_getElem hlt]
  refine wpAny_bind (wpAny_bind (wpAny_typeNameOfWhole_keyiter hit.typeIs (wpAny_pure ?_)))
  refine wpAny_bind (wpAny_isOneOf_keyiter hit.typeIs ?_)
  show wpAny _ _ (setField (.ref it) 1 (rawInt ((i : Int) + 1)) >>= _) _ _ s
  refine wpAny_bind (wpAny_setField ho hd (by simp) ?_)
  have hit' : (s.heap.update it (Obj.mapFields (·.setIfInBounds 1 (rawInt ((i : Int) + 1))))).IsKeyIter it d (i + 1) ks.length ep :=
    ⟨_, Heap.get?_update_self _ ho (Obj.isFreed_of_fields (Obj.data_mapFields hd _)), (Obj.cls_mapFields ..).trans hc, by rw [Obj.data_mapFields hd]; simp [rawInt]⟩
  refine wpAny_bind (wpAny_holding ?_)
  refine wpAny_bind (wpAny_isOneOf_keyiter (s := { s with heap := s.heap.update it (Obj.mapFields (·.setIfInBounds 1 (rawInt ((i : Int) + 1)))) }) hit'.typeIs ?_)
  show wpAny _ _ (pure es[i].key) _ _ _
  rw [hkey]
  exact wpAny_pure (wpAny_pure ⟨_, rfl, wpAny_pure (hQ _ hit' (Heap.SameBut.update ..))⟩)

theorem raw_end {Q : Option Value → Shared → Prop} (hh : A.handled = none) (hit : s.heap.IsKeyIter it d ks.length ks.length ep) (hm : RawAt s.heap d ks ep)
    (hQ : ∀ h', Heap.ExtBut it s.heap h' → Q none { s with heap := h' }) : wpAny (model prog w) A (pyNext (.ref it)) Q E s := by
  obtain ⟨o, ho, hc, hd⟩ := id hit
  obtain ⟨od, es, hod, hcd, hdd, hk⟩ := id hm
  unfold pyNext
  refine wpAny_bind (wpAny_attempt (wpAny_callSpecial?_slot (name := Str.ofString "__next__") hit.typeIs PySem.F.slot_dict_keyiterator_next
    (wpAny_call_entry PySem.F.slot_dict_keyiterator_next hit.typeIs PySem.F.entry_dict_keyiterator_next ?_ (PySem.F.args_dict_keyiterator_next_1 _))))
  refine wpAny_bind (wpAny_pure ?_)
  refine wpAny_bind (wpAny_bind (wpAny_bind (wpAny_typeNameOfWhole_keyiter hit.typeIs (wpAny_pure ?_))))
  refine wpAny_bind (wpAny_fieldsOf ho hd ?_)
  have hown : Builtin.Dict_items.ownsTuple "dict_keyiterator" = false := by decide
  simp only [hown, Bool.false_eq_true, if_false]
  show wpAny _ _ (if (Value.ref d == Value.none) = true then _ else _) _ _ s
  rw [if_neg (show ¬ ((Value.ref d == Value.none) = true) from Bool.false_ne_true)]
  refine wpAny_bind (wpAny_pure ?_)
  refine wpAny_bind (wpAny_dictEntries hod hdd ?_)
  have hsz := raw_size hk
  rw [if_neg (by rw [hsz]; simp)]
  refine wpAny_bind (wpAny_pure ?_)
  refine wpAny_bind (wpAny_dictEpoch hod hdd ?_)
  rw [if_neg (by simp)]
  refine wpAny_pure ?_
  have hge : es.size ≤ ks.length := by rw [hsz]; exact Nat.le_refl _
  simp only [show ¬ ((ks.length : Int) < 0) from by omega, if_false, Int.toNat_natCast, Array.getElem?_eq_none hge]
  refine wpAny_bind (wpAny_bind (wpAny_typeNameOfWhole_keyiter hit.typeIs (wpAny_pure ?_)))
  show wpAny _ _ (setField (.ref it) 0 .none >>= _) _ _ s
  refine wpAny_bind (wpAny_setField ho hd (by simp) ?_)
  show wpAny _ _ (newExc (.type "StopIteration") [] >>= _) _ _ _
  refine wpAny_bind ?_
  simp only [newExc, newTuple]
  refine wpAny_bind (wpAny_newObj_type ?_ (by size_fits))
  refine wpAny_bind (m := firstArgMember _ _) (wpAny_of_eq (a := Value.none) (by first | rfl | (simp only [firstArgMember]; rfl)) ?_)
  refine wpAny_newObj_type ?_ (by size_fits)
  simp only [raiseNew]
  refine wpAny_bind (wpAny_handled ?_)
  rw [show A.in1.handled = none from hh]
  refine wpAny_bind (wpAny_pure (wpAny_throw ?_))
  refine wpAny_bind (wpAny_isInstance (T := "StopIteration") (b := true) ⟨_, Heap.get?_push_size _ rfl, rfl⟩ isSubtype_stop ?_)
  exact wpAny_pure (hQ _ (((Heap.SameBut.update ..).extBut.push _).push _))

theorem Walks.rawKeys (hh : A.handled = none) (I d : Addr) (hne : d ≠ I) (ks : List Value) (ep : Nat) :
    Walks prog w A I [I, d] [I] ks.length (fun i v => ks[i]? = some v) (fun i h => h.IsKeyIter I d i ks.length ep ∧ RawAt h d ks ep) where
  sub := fun b hb => by simp at hb; simp [hb]
  frame := fun _ _ _ st hk => ⟨st.1.at fun o e => hk I (by simp) o e, st.2.at fun o e => hk d (by simp) o e⟩
  item := fun i s Q E hi st hQ => by
    refine raw_item st.1 st.2 (List.getElem?_eq_getElem hi) fun h' hit' hs' => ?_
    exact hQ _ h' s.toks (List.getElem?_eq_getElem hi) ⟨hit', st.2.at fun o e => hs'.extBut _ _ hne e⟩ fun b o hb e => hs'.extBut b o (fun h => hb (by simp [h])) e
  done := fun s Q E st hQ => raw_end hh st.1 st.2 fun h' he' => hQ h' s.toks fun b o hb e => he' b o (fun h => hb (by simp [h])) e
  self := fun _ _ _ _ st hQ => wpAny_pyIter_keyiter st.1 hQ

theorem rawSrc (lo : (d == sysModules) = false) : KdlSrc prog w "dict" d d ks.length (fun i v => ks[i]? = some v) (fun h => RawAt h d ks ep) where
  type := fun _ hm => hm.typeIs
  there := fun _ hm => ⟨hm.lt, hm.lt⟩
  keep := fun _ _ hm hk => hm.at fun o e => hk d (.inl rfl) o e
  notList := by decide
  notTuple := by decide
  hint := fun _ _ _ _ hm hq => kdl_hint_dict hm.typeIs hq
  iter := fun _ _ hh hm => ⟨_, _, (fun _ _ hq => raw_iter lo hm hq), Walks.rawKeys hh _ d (Nat.ne_of_lt hm.lt) ks ep, ⟨⟨_, Heap.get?_push_size _ rfl, rfl, rfl⟩, hm.at fun o e => Heap.get?_push_of_some _ e⟩⟩

theorem raw_of {h : Heap} {xs : List (List Int × Addr)} (x : h.DictOfH (rowKind prog w) d (xs.map trip)) : ∃ ep, RawAt h d (xs.map fun p => .ref p.2) ep := by
  obtain ⟨o, es, ep, ho, hc, hd, he, _, _⟩ := x
  refine ⟨ep, o, es, ho, hc, hd, ?_⟩
  rw [he, List.map_map, List.map_map]
  rfl
end
end

-- part S4
section
open PySem PySem.W PyProof.Rows
/-- python's order of tuples of ints -/
def rowLt : List Int → List Int → Bool
  | [], [] => false
  | [], _ :: _ => true
  | _ :: _, [] => false
  | a :: r, b :: q => if a = b then rowLt r q else decide (a < b)
def RowsSorted (rs : List (List Int)) : Prop := rs.Pairwise fun a b => rowLt a b = true

theorem rowLt_irrefl : ∀ r : List Int, rowLt r r = false
  | [] => rfl
  | a :: r => by simp [rowLt, rowLt_irrefl r]
theorem rowLt_trans : ∀ {r q t : List Int}, rowLt r q = true → rowLt q t = true → rowLt r t = true
  | [], [], _, h, _ => by simp [rowLt] at h
  | [], _ :: _, [], _, h => by simp [rowLt] at h
  | [], _ :: _, _ :: _, _, _ => rfl
  | _ :: _, [], _, h, _ => by simp [rowLt] at h
  | _ :: _, _ :: _, [], _, h => by simp [rowLt] at h
  | a :: r, b :: q, c :: t, h1, h2 => by
    simp only [rowLt] at h1 h2 ⊢
    by_cases e1 : a = b
    · subst e1
      rw [if_pos rfl] at h1
      by_cases e2 : a = c
      · subst e2
        rw [if_pos rfl] at h2 ⊢
        exact rowLt_trans h1 h2
      · rw [if_neg e2] at h2 ⊢; exact h2
    · rw [if_neg e1] at h1
      have h1 := of_decide_eq_true h1
      by_cases e2 : b = c
      · subst e2
        rw [if_neg e1]; exact decide_eq_true h1
      · rw [if_neg e2] at h2
        have h2 := of_decide_eq_true h2
        have h3 : a < c := Int.lt_trans h1 h2
        rw [if_neg (Int.ne_of_lt h3)]; exact decide_eq_true h3
theorem rowLt_total : ∀ {r q : List Int}, r ≠ q → rowLt r q = false → rowLt q r = true
  | [], [], h, _ => absurd rfl h
  | [], _ :: _, _, h => by simp [rowLt] at h
  | _ :: _, [], _, _ => rfl
  | a :: r, b :: q, h, h1 => by
    simp only [rowLt] at h1 ⊢
    by_cases e1 : a = b
    · subst e1
      rw [if_pos rfl] at h1 ⊢
      exact rowLt_total (fun e => h (by rw [e])) h1
    · rw [if_neg e1] at h1
      rw [if_neg (Ne.symm e1)]
      have h1 := of_decide_eq_false h1
      exact decide_eq_true (by omega)
theorem rowLt_asymm {r q : List Int} (h : rowLt r q = true) : rowLt q r = false := by
  cases e : rowLt q r with
  | false => rfl
  | true => have := rowLt_trans h e; rw [rowLt_irrefl] at this; cases this
/-- the place of a row among rows -/
def rank (rs : List (List Int)) (r : List Int) : Nat := rs.countP fun q => rowLt q r
theorem rank_lt {rs : List (List Int)} {r q : List Int} (h : rowLt r q = true) (hr : r ∈ rs) : rank rs r < rank rs q := by
  unfold rank
  induction rs with
  | nil => cases hr
  | cons x rs ih =>
    rw [List.countP_cons, List.countP_cons]
    have mono : rs.countP (fun z => rowLt z r) ≤ rs.countP (fun z => rowLt z q) := List.countP_mono_left fun z _ hz => rowLt_trans hz h
    rcases List.mem_cons.mp hr with rfl | hr
    · rw [rowLt_irrefl, h]; simp; omega
    · have := ih hr
      by_cases hx : rowLt x r = true
      · rw [hx, rowLt_trans hx h]; simp; omega
      · simp only [Bool.not_eq_true] at hx
        rw [hx]; simp; omega
theorem rank_iff {rs : List (List Int)} {r q : List Int} (hr : r ∈ rs) (hq : q ∈ rs) : rowLt r q = decide (rank rs r < rank rs q) := by
  cases e : rowLt r q with
  | true => exact (decide_eq_true (rank_lt e hr)).symm
  | false =>
    refine (decide_eq_false ?_).symm
    by_cases h : r = q
    · rw [h]; exact Nat.lt_irrefl _
    · exact Nat.not_lt.mpr (Nat.le_of_lt (rank_lt (rowLt_total h e) hq))
theorem rank_bound {rs : List (List Int)} {r : List Int} (hr : r ∈ rs) : rank rs r < rs.length := by
  unfold rank
  induction rs with
  | nil => cases hr
  | cons x rs ih =>
    rw [List.countP_cons, List.length_cons]
    rcases List.mem_cons.mp hr with rfl | hr
    · rw [rowLt_irrefl]
      have := List.countP_le_length (p := fun z => rowLt z r) (l := rs)
      simp; omega
    · have := ih hr
      split <;> omega
theorem rank_inj {rs : List (List Int)} {r q : List Int} (hr : r ∈ rs) (hq : q ∈ rs) (h : rank rs r = rank rs q) : r = q := by
  refine Decidable.byContradiction fun e => ?_
  cases e1 : rowLt r q with
  | true => have := rank_lt e1 hr; omega
  | false => have := rank_lt (rowLt_total e e1) hq; omega

/-- the way through a tree of questions -/
def ans {α : Type} (n : Nat) (lt : Nat → Nat → Bool) : KasT α → Option α
  | .ret a => some a
  | .ask i j k => if i < n ∧ j < n then ans n lt (k (lt i j)) else none
theorem ans_wp {α : Type} {n : Nat} {lt : Nat → Nat → Bool} {cmp : Nat → Nat → (Bool → Shared → Prop) → Shared → Prop} {Q : α → Shared → Prop} {s : Shared} {a : α} :
    ∀ t : KasT α, ans n lt t = some a → (∀ i j C, i < n → j < n → C (lt i j) s → cmp i j C s) → Q a s → t.kasWp cmp Q s
  | .ret b, h, _, hq => by cases h; exact hq
  | .ask i j k, h, hc, hq => by
    unfold ans at h
    split at h
    · rename_i hij
      exact hc i j _ hij.1 hij.2 (ans_wp (k (lt i j)) h hc hq)
    · cases h
def sortOk (rk : List Nat) : Bool :=
  match ans rk.length (fun i j => decide (rk.getD i 0 < rk.getD j 0)) (kas_sort rk.length) with
  | some p => decide (p.toList.map (fun i => rk.getD i 0) = List.range rk.length) && p.toList.isPerm (List.range rk.length)
  | none => false
theorem sort2 : ∀ a : Fin 2, ∀ b : Fin 2, a ≠ b → sortOk [a.val, b.val] = true := by decide +kernel
theorem sort3 : ∀ a : Fin 3, ∀ b : Fin 3, ∀ c : Fin 3, a ≠ b → a ≠ c → b ≠ c → sortOk [a.val, b.val, c.val] = true := by decide +kernel
theorem sort4 : ∀ a : Fin 4, ∀ b : Fin 4, ∀ c : Fin 4, ∀ d : Fin 4, (a ≠ b ∧ a ≠ c ∧ a ≠ d ∧ b ≠ c ∧ b ≠ d ∧ c ≠ d) → sortOk [a.val, b.val, c.val, d.val] = true := by decide +kernel
theorem sortOk_ranks {rs : List (List Int)} (hn : rs.Nodup) (h2 : 2 ≤ rs.length) (h4 : rs.length ≤ 4) : sortOk (rs.map (rank rs)) = true := by
  match rs, h2, h4, hn with
  | [a, b], _, _, hn =>
    have hb := fun r hr => @rank_bound [a, b] r hr
    have ne := fun x hx y hy e => @rank_inj [a, b] x y hx hy e
    simp only [List.nodup_cons, List.mem_cons, List.not_mem_nil, or_false, not_or] at hn
    refine sort2 ⟨_, hb a (by simp)⟩ ⟨_, hb b (by simp)⟩ ?_
    intro e; exact hn.1 (ne a (by simp) b (by simp) (congrArg Fin.val e))
  | [a, b, c], _, _, hn =>
    have hb := fun r hr => @rank_bound [a, b, c] r hr
    have ne := fun x hx y hy e => @rank_inj [a, b, c] x y hx hy e
    simp only [List.nodup_cons, List.mem_cons, List.not_mem_nil, or_false, not_or] at hn
    refine sort3 ⟨_, hb a (by simp)⟩ ⟨_, hb b (by simp)⟩ ⟨_, hb c (by simp)⟩ ?_ ?_ ?_
    · intro e; exact hn.1.1 (ne a (by simp) b (by simp) (congrArg Fin.val e))
    · intro e; exact hn.1.2 (ne a (by simp) c (by simp) (congrArg Fin.val e))
    · intro e; exact hn.2.1 (ne b (by simp) c (by simp) (congrArg Fin.val e))
  | [a, b, c, d], _, _, hn =>
    have hb := fun r hr => @rank_bound [a, b, c, d] r hr
    have ne := fun x hx y hy e => @rank_inj [a, b, c, d] x y hx hy e
    simp only [List.nodup_cons, List.mem_cons, List.not_mem_nil, or_false, not_or] at hn
    refine sort4 ⟨_, hb a (by simp)⟩ ⟨_, hb b (by simp)⟩ ⟨_, hb c (by simp)⟩ ⟨_, hb d (by simp)⟩ ⟨?_, ?_, ?_, ?_, ?_, ?_⟩
    · intro e; exact hn.1.1 (ne a (by simp) b (by simp) (congrArg Fin.val e))
    · intro e; exact hn.1.2.1 (ne a (by simp) c (by simp) (congrArg Fin.val e))
    · intro e; exact hn.1.2.2 (ne a (by simp) d (by simp) (congrArg Fin.val e))
    · intro e; exact hn.2.1.1 (ne b (by simp) c (by simp) (congrArg Fin.val e))
    · intro e; exact hn.2.1.2 (ne b (by simp) d (by simp) (congrArg Fin.val e))
    · intro e; exact hn.2.2.1 (ne c (by simp) d (by simp) (congrArg Fin.val e))
/-- the questions of sorting rows are answered by rowLt: an order of places comes out, by which the rows are sorted -/
theorem sort_rows {rs : List (List Int)} (hn : rs.Nodup) (h2 : 2 ≤ rs.length) (h4 : rs.length ≤ 4) :
    ∃ p : Array Nat, ans rs.length (fun i j => rowLt (rs.getD i []) (rs.getD j [])) (kas_sort rs.length) = some p ∧ p.toList.Perm (List.range rs.length) ∧ RowsSorted (p.toList.map fun i => rs.getD i []) := by
  have h := sortOk_ranks hn h2 h4
  unfold sortOk at h
  rw [List.length_map] at h
  have key : ∀ (t : KasT (Array Nat)), ans rs.length (fun i j => decide ((rs.map (rank rs)).getD i 0 < (rs.map (rank rs)).getD j 0)) t = ans rs.length (fun i j => rowLt (rs.getD i []) (rs.getD j [])) t := by
    intro t
    induction t with
    | ret a => rfl
    | ask i j k ih =>
      unfold ans
      split
      · rename_i hij
        have e1 : (rs.map (rank rs)).getD i 0 = rank rs (rs.getD i []) := by simp [hij.1]
        have e2 : (rs.map (rank rs)).getD j 0 = rank rs (rs.getD j []) := by simp [hij.2]
        have m1 : rs.getD i [] ∈ rs := by simp [hij.1]
        have m2 : rs.getD j [] ∈ rs := by simp [hij.2]
        rw [e1, e2, ← rank_iff m1 m2]
        exact ih _
      · rfl
  rw [key] at h
  split at h
  · rename_i p hp
    simp only [Bool.and_eq_true, decide_eq_true_eq, List.isPerm_iff] at h
    obtain ⟨h3, h5⟩ := h
    refine ⟨p, hp, h5, ?_⟩
    have hlt : ∀ i ∈ p.toList, i < rs.length := fun i hi => List.mem_range.mp (h5.mem_iff.mp hi)
    have e3 : p.toList.map (fun i => (rs.map (rank rs)).getD i 0) = p.toList.map (fun i => rank rs (rs.getD i [])) := List.map_congr_left fun i hi => by simp [hlt i hi]
    rw [e3] at h3
    have hp2 : (p.toList.map (fun i => rank rs (rs.getD i []))).Pairwise (· < ·) := by rw [h3]; exact List.pairwise_lt_range
    unfold RowsSorted
    rw [List.pairwise_map] at hp2 ⊢
    refine hp2.imp_of_mem fun {i j} hi hj hij => ?_
    rw [rank_iff (rs := rs) (by simp [hlt i hi]) (by simp [hlt j hj])]
    exact decide_eq_true hij
  · cases h
theorem perm_map {rs : List (List Int)} {p : List Nat} (h : p.Perm (List.range rs.length)) : (p.map fun i => rs.getD i []).Perm rs := by
  have := h.map fun i => rs.getD i []
  rw [range_get] at this
  exact this
theorem rows_unique {a b : List (List Int)} (hp : a.Perm b) (ha : RowsSorted a) (hb : RowsSorted b) : a = b := by
  have anti : ∀ (x y : List Int), x ∈ a → y ∈ b → rowLt x y = true → rowLt y x = true → x = y := fun x y _ _ h1 h2 => by
    rw [rowLt_asymm h1] at h2; cases h2
  exact hp.eq_of_pairwise anti ha hb
end

-- part S5
section
open PySem PySem.W PyProof.Rows
section
variable {prog : Program} {w : World} {A : Around} {E : Value → Shared → Prop} {s : Shared} {h₀ : Heap} {L : Addr} {m : Str → Option Value} {news : List (Addr × Obj)}
theorem lex_rows {b : Bool} {fin : Bool} {Q : Bool → Shared → Prop} (hb : b = true) : ∀ {xs ys : List Value} {r q : List Int} {i : Nat}, IntsAre xs r → IntsAre ys q → fin = decide (xs.length + i < ys.length + i) → Q (rowLt r q) s → KatLex prog w A b fin Q (xs.zip ys) i s
  | [], [], _, _, _, .nil, .nil, hf, hq => by
    refine kat_nil ?_
    rw [hf]
    simpa [rowLt] using hq
  | [], _ :: _, _, _, _, .nil, .cons _ _ _, hf, hq => by
    refine kat_nil ?_
    rw [hf]
    simpa [rowLt] using hq
  | _ :: _, [], _, _, _, .cons _ _ _, .nil, hf, hq => by
    refine kat_nil ?_
    rw [hf, decide_eq_false (by simp)]
    simpa [rowLt] using hq
  | _ :: xs, _ :: ys, _, _, i, .cons a t hx, .cons c u hy, hf, hq => by
    refine kat_cons (wpAny_eqBool_int ?_)
    by_cases e : a = c
    · subst e
      rw [show (a == a) = true from by simp]
      refine kat_yes (lex_rows hb hx hy ?_ ?_)
      · rw [hf]
        congr 1
        simp only [List.length_cons, eq_iff_iff]
        omega
      · simpa [rowLt] using hq
    · rw [show (a == c) = false from by simpa using e]
      refine kat_no ?_
      have hq' : Q (decide (a < c)) s := by simpa [rowLt, e] using hq
      by_cases hi : i = 0
      · subst hi
        rw [hb]
        exact oneLt_int hq'
      · rw [show (b && i == 0) = false from by simp [hi]]
        exact kat_one _ _ (PyProof.Rows.lt_int hq')
theorem key_rows {x y : Addr} {xs ys : List Value} {n k : Nat} {r q : List Int} {Q : Bool → Shared → Prop} (hx : s.heap.get? x = some (tupOf xs n)) (hy : s.heap.get? y = some (tupOf ys k)) (ix : IntsAre xs r) (iy : IntsAre ys q) (h : Q (rowLt r q) s) :
    wpAny (model prog w) A (keyLt' (tuples' true) (.ref x) (.ref y)) Q E s := by
  refine kat_lt hx rfl hy rfl ?_
  exact lex_rows rfl ix iy (by simp) h
theorem rows_tups {h : Heap} (N : News h₀ L h news) : ∀ {vs : List Value} {rs : List (List Int)}, DatAll news vs (rs.map rowD) → (∀ r ∈ rs, 1 ≤ r.length) → ∃ fs : List Value, KatTups h vs fs ∧ fs.length = rs.length ∧ ∀ v ∈ fs, ∃ n t, v = .int n t
  | _, [], hD, _ => by cases hD; exact ⟨[], KatTups.nil, rfl, fun _ hv => nomatch hv⟩
  | _, r :: rs, hD, hr => by
    cases hD with
    | cons h1 h2 =>
      obtain ⟨fs, a, b, c⟩ := rows_tups N h2 fun q hq => hr q (.tail _ hq)
      cases h1 with
      | @tuple ad us n ds hm hds =>
        have hi := datAll_ints hds
        cases hi with
        | nil => have := hr [] (.head _); simp at this
        | cons x t hi' =>
          refine ⟨.int x t :: fs, KatTups.cons (N _ hm).1 rfl rfl rfl a, by simp [b], fun v hv => ?_⟩
          rcases List.mem_cons.mp hv with rfl | hv
          · exact ⟨_, _, rfl⟩
          · exact c v hv
theorem looks_int {M : Model} {h : Heap} {n : Int} {t : Tok} : Looks M h (typeOf (.int n t)) (.type "int") := Looks.of_pure rfl
theorem datAll_pick {vs : List Value} {rs : List (List Int)} (hD : DatAll news vs (rs.map rowD)) : ∀ p : List Nat, (∀ i ∈ p, i < rs.length) → DatAll news (p.map fun i => vs.getD i Value.none) ((p.map fun i => rs.getD i []).map rowD)
  | [], _ => .nil
  | i :: p, h => by
    have hi := h i (.head _)
    obtain ⟨v, h1, h2⟩ := hD.get (k := i) (by simpa using hi)
    refine .cons ?_ (datAll_pick hD p fun j hj => h j (.tail _ hj))
    have e1 : vs.getD i Value.none = v := by rw [List.getD_eq_getElem?_getD, h1]; rfl
    have e2 : rs.getD i [] = rs[i] := by simp [hi]
    show DatIn news (vs.getD i Value.none) (rowD (rs.getD i []))
    rw [e1, e2]
    simpa using h2

theorem sort_call {dn : List (Addr × Obj)} {D : Addr} {vs : List Value} {c : Nat} {rs : List (List Int)} {Q : Value → Shared → Prop} (F : Fr h₀ L s.heap m) (N : News h₀ L s.heap ((D, PySem.W.listOf vs.toArray c) :: news)) (hD : ∀ p ∈ news, p.1 ≠ D)
    (hs : ∀ p ∈ dn, p ∈ news) (Da : DatAll dn vs (rs.map rowD)) (hn : rs.Nodup) (h4 : rs.length ≤ 4) (hne : ∀ r ∈ rs, 1 ≤ r.length)
    (h : ∀ h' us rs' c', Fr h₀ L h' m → News h₀ L h' ((D, PySem.W.listOf us.toArray c') :: news) → DatAll dn us (rs'.map rowD) → rs'.Perm rs → RowsSorted rs' → Q .none { s with heap := h' }) :
    wpAny (model prog w) A (call (.builtin "list.sort") [.ref D]) Q E s := by
  have hlen : vs.length = rs.length := by rw [DatAll.length Da, List.length_map]
  by_cases h2 : 2 ≤ vs.length
  · have U : UpdF D (PySem.W.listOf vs.toArray c) ((D, PySem.W.listOf vs.toArray c) :: news) (fun o => (D, o) :: news) := .head hD
    refine kat_lsort F N U (by simp) h2 (by omega) fun e1 h' F' N' => ?_
    have Nn : News h₀ L h' news := fun p hp => N' p (.tail _ hp)
    obtain ⟨fs, t1, t2, t3⟩ := rows_tups Nn (Da.mono hs) hne
    refine kat_kind (T := .type "int") t1 (by omega) (fun v hv => by obtain ⟨n, t, rfl⟩ := t3 v hv; exact looks_int) (by decide) ?_
    rw [show (Value.type "int" != Value.type "tuple") = true from by decide, hlen]
    obtain ⟨p, hp, hperm, hso⟩ := sort_rows hn (by omega) h4
    refine ans_wp (n := rs.length) (lt := fun i j => rowLt (rs.getD i []) (rs.getD j [])) (a := p) _ hp ?_ ?_
    · intro i j C hi hj hC
      obtain ⟨vi, h1, h2⟩ := Da.get (k := i) (by simpa using hi)
      obtain ⟨vj, h3, h4⟩ := Da.get (k := j) (by simpa using hj)
      rw [List.getElem_map] at h2 h4
      have e1 : vs.getD i Value.none = vi := by rw [List.getD_eq_getElem?_getD, h1]; rfl
      have e2 : vs.getD j Value.none = vj := by rw [List.getD_eq_getElem?_getD, h3]; rfl
      have e3 : rs.getD i [] = rs[i] := by simp [hi]
      have e4 : rs.getD j [] = rs[j] := by simp [hj]
      unfold kas_ask
      rw [e1, e2]
      rw [e3, e4] at hC
      generalize rs[i] = r at h2 hC
      generalize rs[j] = q at h4 hC
      cases h2 with
      | @tuple a1 us1 n1 ds1 hm1 hd1 =>
        cases h4 with
        | @tuple a2 us2 n2 ds2 hm2 hd2 =>
          exact key_rows (Nn _ (hs _ hm1)).1 (Nn _ (hs _ hm2)).1 (datAll_ints hd1) (datAll_ints hd2) hC
    · refine KasFin.intro (g := fun o => (D, o) :: news) F' N' (.head hD) fun h3 c3 F3 N3 => ?_
      exact h _ _ _ _ F3 N3 (datAll_pick Da _ fun i hi => List.mem_range.mp (hperm.mem_iff.mp hi)) (perm_map hperm) hso
  · have nz := N _ (.head _)
    have Nn : News h₀ L s.heap news := fun p hp => N p (.tail _ hp)
    have ho : s.heap.get? D = some (seqObj "list" vs.toArray c) := nz.1
    have ha : D < s.heap.objs.size := Heap.lt_size ho
    refine wpAny_call_entry slot_list_sort ⟨_, nz.1, rfl⟩ entry_list_sort ?_ (args_list_sort _)
    rw [list_sort_plain]
    have s1 := Heap.SameBut.update s.heap D (Obj.mapSeq fun _ => (#[] : Array Value))
    obtain ⟨e1, ho1⟩ : ∃ e1, (s.heap.update D (Obj.mapSeq fun _ => (#[] : Array Value))).get? D = some (seqObj "list" #[] e1) := ⟨_, get?_update_seq ho fun _ => #[]⟩
    have F3 : Fr h₀ L (((s.heap.update D (Obj.mapSeq fun _ => (#[] : Array Value))).push (seqObj "tuple" vs.toArray 0)).push (seqObj "list" #[] 0)) m := ((kas_fr F s1 nz.2.1 nz.2.2).push _).push _
    have N3 : News h₀ L (((s.heap.update D (Obj.mapSeq fun _ => (#[] : Array Value))).push (seqObj "tuple" vs.toArray 0)).push (seqObj "list" #[] 0)) news :=
      (kas_news Nn s1 hD).grown fun b x e => Heap.get?_push_of_some _ (Heap.get?_push_of_some _ e)
    have ho3 : (((s.heap.update D (Obj.mapSeq fun _ => (#[] : Array Value))).push (seqObj "tuple" vs.toArray 0)).push (seqObj "list" #[] 0)).get? D = some (seqObj "list" #[] e1) := Heap.get?_push_of_some _ (Heap.get?_push_of_some _ ho1)
    have hn2 : vs.toArray.size < 2 := by simp; omega
    refine wpAny_bind (listItems_at ho rfl ?_)
    refine wpAny_bind (listUpdate_at ho rfl ?_ (by rw [List.size_toArray, sizeLine_eq]; omega) (Nat.zero_le _))
    refine wpAny_bind (seqEpoch_at ho1 rfl ?_)
    refine wpAny_bind (wpAny_newTuple ?_ (by show vs.length ≤ _; rw [sizeLine_eq]; omega))
    refine wpAny_bind (wpAny_newList ?_ (Nat.zero_le _))
    refine wpAny_holding ?_
    show wpAny (model prog w) A.in1 _ _ E { s with heap := ((s.heap.update D (Obj.mapSeq fun _ => (#[] : Array Value))).push (seqObj "tuple" vs.toArray 0)).push (seqObj "list" #[] 0) }
    dsimp only
    rw [if_pos hn2, if_pos hn2]
    refine wpAny_bind (wpAny_pure ?_)
    rw [StateT.run_pure]
    refine wpAny_bind (wpAny_pure ?_)
    dsimp only
    have hout : (arrOf (SortSt.mk' general' (vs.toArray.zip vs.toArray) #[] 7 none)).map (·.2) = vs.toArray := by
      show ((vs.toArray.zip vs.toArray).map (·.2)) = vs.toArray
      have e : ∀ l : List Value, List.map (fun x => x.2) (l.zip l) = l := fun l => List.map_snd_zip (by simp)
      simp [e]
    rw [hout]
    have s2 := Heap.SameBut.update (((s.heap.update D (Obj.mapSeq fun _ => (#[] : Array Value))).push (seqObj "tuple" vs.toArray 0)).push (seqObj "list" #[] 0)) D (Obj.mapSeq fun _ => vs.toArray)
    refine wpAny_bind (seqEpoch_at ho3 rfl ?_)
    refine wpAny_bind (listUpdate_at ho3 rfl ?_ (Nat.zero_le _) (by rw [List.size_toArray, sizeLine_eq]; omega))
    simp only [bne_self_eq_false, Bool.false_eq_true, if_false]
    refine wpAny_pure ⟨_, rfl, ?_⟩
    obtain ⟨c2, hc2⟩ : ∃ c2, ((((s.heap.update D (Obj.mapSeq fun _ => (#[] : Array Value))).push (seqObj "tuple" vs.toArray 0)).push (seqObj "list" #[] 0)).update D (Obj.mapSeq fun _ => vs.toArray)).get? D = some (seqObj "list" vs.toArray c2) := ⟨_, get?_update_seq ho3 fun _ => vs.toArray⟩
    refine h _ vs rs c2 (kas_fr F3 s2 nz.2.1 nz.2.2) (fun p hp => ?_) Da (List.Perm.refl _) ?_
    · rcases List.mem_cons.mp hp with rfl | hp
      · exact ⟨hc2, nz.2⟩
      · exact kas_news N3 s2 hD p hp
    · match rs, hlen, h2 with
      | [], _, _ => exact List.Pairwise.nil
      | [_], _, _ => exact List.pairwise_singleton _ _
      | _ :: _ :: _, e, h2 => simp at e; omega
end
end

-- part S6
section
open PySem PySem.W PyProof.Rows PyProof.V PySem.Spec
set_option rowWalk.seconds 0
variable {w : World} {mean : ExcName → Option Value} {mg mb : Str → Option Value} {loose : List Str}
    {dp un : Nat} {gd : Option (List Code)} {cn : Str} {cs : Scope} {a : Addr} {ccd : Value} {cl : List (Str × Addr)} {outer : List Env} {A₀ : Around} {base h₀ : Heap} {L : Addr} {m : Str → Option Value} {news : List (Addr × Obj)} {s : Shared}
    {Q E : Value → Shared → Prop}
theorem rows_S6_1 : True := by
  k_with_none
  (k_with "k_room" => first | exact room1 (by assumption) rfl | exact room2 (by assumption) rfl | exact room3 (by assumption) rfl | ktr_room)
  (k_with "k_units" => first | exact room1 (by assumption) rfl | exact room2 (by assumption) rfl | exact room3 (by assumption) rfl | ktr_units)
  (k_with "k_mem" => assumption)
  (k_with "k_mem" => exact Above.sub (by with_reducible assumption) _ (by assumption))
  (k_with "cell_enter" => refine code_defC (by k_asm) (by k_asm) (by k_asm) (by k_asm) (by k_asm) (by exact rfl) (by exact rfl) (by assumption) (by k_is) (by k_is) (by k_room) (by exact BindsTo.of_eq rfl) (by exact rfl) (by decide +kernel) ?_ (by exact rfl) (by exact rfl) (by exact rfl); k_whole; intro _ _ _ _ _ _ _ N'_w9 Y'_w9 B'_w9 _ _ l1_w9; (try k_lt l1_w9); k_cells Y'_w9; (try simp only [List.cons_append, List.nil_append] at N'_w9); (try dsimp only); (try k_lift B'_w9); (try k_fold))
  (k_with "k_all" => assumption)
  (k_with "eval ListComp" => k_dflt (refine LCg.ListComp_U (by k_asm) (by with_unfolding_all rfl) (by decide) (by rfl) (by decide) (by rfl) ?_))
  trivial
/-- the pairs made so far -/
def PairTurn (news : List (Addr × Obj)) (vs : List Value) (rs : List (List Int)) (i : Nat) (ys : List Value) (nw : List (Addr × Obj)) : Prop :=
  ∃ ks, PairsIn nw ys ks ∧ ks.map (·.1) = rs.take i ∧ ks.map (fun p => Value.ref p.2) = vs.take i ∧ ∀ p ∈ news, p ∈ nw
theorem PairsIn.mono {nw nw' : List (Addr × Obj)} {ys : List Value} {ks : List (List Int × Addr)} (h : PairsIn nw ys ks) (hs : ∀ p ∈ nw, p ∈ nw') : PairsIn nw' ys ks := by
  induction h with
  | nil => exact .nil
  | cons h1 h2 h3 _ ih => exact .cons (hs _ h1) (hs _ h2) h3 ih
theorem PairsIn.snoc {nw : List (Addr × Obj)} {ys : List Value} {ks : List (List Int × Addr)} {p a : Addr} {k n : Nat} {r : List Int} {us : List Value} (h : PairsIn nw ys ks) (h1 : (p, tupOf [.ref a, .bool true] k) ∈ nw) (h2 : (a, tupOf us n) ∈ nw) (h3 : IntsAre us r) :
    PairsIn nw (ys ++ [.ref p]) (ks ++ [(r, a)]) := by
  induction h with
  | nil => exact .cons h1 h2 h3 .nil
  | cons g1 g2 g3 _ ih => exact .cons g1 g2 g3 ih
theorem set_of_tells {dn : List (Addr × Obj)} {l : Addr} {vs : List Value} {c : Nat} {rs : List (List Int)}
    (B : Below A₀ base outer h₀) (F : Fr h₀ L s.heap m) (X : (Mine.hd.heap_1 w.params).In h₀) (N : News h₀ L s.heap news) (T : Top V loose mean mg mb h₀) (hk : cs.kind = .function)
    (hd : dp + 3 < recursionLimit) (hu : un + 60 < cLine)
    (hl : (l, PySem.W.listOf vs.toArray c) ∈ news) (hn : rs.Nodup) (hD : DatAll dn vs (rs.map rowD)) (hdn : ∀ p ∈ dn, p ∈ news) (h4 : rs.length ≤ 4) (hr : ∀ r ∈ rs, 1 ≤ r.length)
    (hret : ∀ t us k rs' h' tk', Fr h₀ L h' m → News h₀ L h' ((t, tupOf us k) :: news) → (∀ p ∈ news, p.1 < t) → DatAll dn us (rs'.map rowD) → rs'.Perm rs → RowsSorted rs' → Q (.ref t) { s with heap := h', toks := tk' }) :
    wpAny (model P w) (ktrTop dp un gd cn cs L a ccd cl outer) (call (.ref 107) [.ref l]) Q E s := by
  w_on
  have hlen : vs.length = rs.length := by rw [DatAll.length hD, List.length_map]
  refine wpAny_call ?_
  k_dflt cell_enter
  w_strict k_steps
  refine LCg.CompSrc.ledger rfl (by assumption) (by assumption) hl (by rw [List.size_toArray, sizeLine_eq]; omega) fun g9 => ?_
  refine comp_run (PairTurn news vs rs) ⟨[], .nil, rfl, rfl, fun _ h => h⟩ ?_ ?_
  · intro i ys nw v I oI C oC D m₂ h tk E' hi hJ hv hC hx IT
    obtain ⟨F1, N1, off, ne⟩ := IT
    obtain ⟨ks, hP, hk1, hk2, hsub⟩ := hJ
    rw [List.getElem?_toArray] at hv
    obtain ⟨row, hrow, hmem, hdv⟩ := datAll_at hD hv
    cases hdv with
    | @tuple ax us n ds hm hds =>
      have hus := datAll_ints hds
      k_steps
      rename Fr _ _ _ _ => lF
      rename News _ _ _ _ => lN
      rename (_ < _ ∧ _) => l1
      rename_i D9 _
      refine comp_end ((D9, tupOf [.ref ax, .bool true] 0) :: nw) lF lN ?_ ⟨⟨Nat.ne_of_gt l1.1, Nat.ne_of_gt l1.2.1, Nat.ne_of_gt l1.2.2.1⟩, off⟩ (.inr ⟨_, .tail _ (hsub _ hl), rfl, _, rfl⟩) ?_
      · intro p hp
        simp only [List.mem_cons] at hp ⊢
        rcases hp with h | h | h | h | h
        · exact .inr (.inl h)
        · exact .inr (.inr (.inl h))
        · exact .inr (.inr (.inr (.inl h)))
        · exact .inl h
        · exact .inr (.inr (.inr (.inr h)))
      · refine ⟨ks ++ [(row, ax)], (hP.mono fun p hp => .tail _ hp).snoc (.head _) (.tail _ (hsub _ (hdn _ hm))) hus, ?_, ?_, fun p hp => .tail _ (hsub p hp)⟩
        · rw [List.map_append, hk1, List.take_add_one, hrow]; rfl
        · rw [List.map_append, hk2, List.take_add_one, hv]; rfl
  · intro ys nw hJ D h tk F1 N1 off
    obtain ⟨ks, hP, hk1, hk2, hsub⟩ := hJ
    rw [List.size_toArray, hlen, List.take_length] at hk1
    rw [List.size_toArray, List.take_length] at hk2
    k_steps
    refine call_dict_pairs F1 N1 rfl (by k_units) (.head _) (hP.mono fun p hp => .tail _ hp) (by rw [hk1]; exact hn) (by have := congrArg List.length hk1; simp at this; omega) fun d h2 tk2 o F2 N2 l2 l3 D2 => ?_
    obtain ⟨ep, hraw⟩ := raw_of D2
    rw [hk2] at hraw
    rename Top V loose mean mg mb _ => T9
    have lo : (d == sysModules) = false := beq_eq_false_iff_ne.mpr (Nat.ne_of_gt (Nat.lt_of_le_of_lt (Nat.le_of_lt (modules_low T9.nolimit)) (Nat.lt_of_le_of_lt F2.above l3)))
    k_steps
    refine kdu_sorted (rawSrc lo) rfl F2 N2 hraw (by rw [sizeLine_eq]; omega) fun B3 h3 tk3 vs3 F3 N3 l4 hl3 hv3 => ?_
    have he : vs3 = vs := List.ext_getElem? fun j => by
      cases e : vs3[j]? with
      | some v => exact (hv3 j v e).symm
      | none =>
        rw [List.getElem?_eq_none_iff, hl3] at e
        exact (List.getElem?_eq_none e).symm
    subst he
    refine sort_call F3 N3 (fun p hp => Nat.ne_of_lt (l4 p hp)) (fun p hp => .tail _ (.tail _ (hsub p (hdn p hp)))) hD hn h4 hr fun h5 us rs' c5 F5 N5 D5 hp5 hs5 => ?_
    k_steps
    have hul : us.length ≤ 16384 := by rw [DatAll.length D5, List.length_map, hp5.length_eq]; omega
    refine tuple_L F5 N5 (.head _) hul fun D6 h6 F6 N6 l6 => ?_
    have N6' : News _ _ h6 ((D6, tupOf us 0) :: news) := fun p hp => N6 p (by
      rcases List.mem_cons.mp hp with rfl | hp
      · exact .head _
      · exact .tail _ (.tail _ (.tail _ (.tail _ (hsub p hp)))))
    have l7 : ∀ p ∈ news, p.1 < D6 := fun p hp => l6 p (.tail _ (.tail _ (.tail _ (hsub p hp))))
    k_steps
    rename Fr h₀ L _ _ => kF
    rename News h₀ L _ _ => kN
    exact hret _ _ _ _ _ _ kF kN l7 D5 hp5 hs5
end

-- part D1
section
open PySem PySem.W PyProof.Rows
theorem lit_twice : (Str.ofString " stands twice").length ≤ 60 := by decide +kernel
theorem lit_many : (Str.ofString " has not as many atoms as the first").length ≤ 60 := by decide +kernel
theorem lit_row : (Str.ofString "a row ").length ≤ 60 := by decide +kernel
theorem lit_wanted : (Str.ofString "={..} is wanted").length ≤ 60 := by decide +kernel
theorem lit_rows : (Str.ofString " rows are wanted, not ").length ≤ 60 := by decide +kernel
theorem empty_len : (Str.empty).length = 0 := rfl
section
variable {M : Model} {A : Around} {w : World}
theorem leave_onT {base g g₂ : Heap} {env : Env} {outer : List Env} {e dx : Addr} {od : Obj} {Q : Unit → Shared → Prop} {E : Value → Shared → Prop} {s : Shared} {L : Addr} {m : Str → Option Value} {all news : List (Addr × Obj)}
    (hf : env.frame = some L) (K : Below A base outer g) (F : Fr g L g₂ m) (R : RaisedD base g₂ (env :: outer) e dx ((dx, od) :: all) s.heap) (hsm : g₂.UpToSlots s.heap) (hs : ∀ p ∈ news, p ∈ all)
    (hQ : ∀ h', RaisedD base g outer e dx ((dx, od) :: news) h' → g.UpToSlots h' → Q () { s with heap := h' }) :
    wpAny M (A.deeper env) (leaving env (.ref e)) Q E s :=
  leave_onD hf K F R hsm (fun p hp => by
    rcases List.mem_cons.mp hp with rfl | hp
    · exact .head _
    · exact .tail _ (hs p hp)) hQ
theorem raise_outT {base g : Heap} {env : Env} {outer : List Env} {e T dx : Addr} {od : Obj} {Q : Unit → Shared → Prop} {E : Value → Shared → Prop} {s : Shared} {L : Addr} {m : Str → Option Value} {rest news : List (Addr × Obj)}
    (hf : env.frame = some L) (hk : env.scope.kind = .function) (K : Below A base outer g) (F : Fr g L s.heap m) (N : News g L s.heap ((dx, od) :: (e, excD T dx) :: rest)) (kn : ∀ p ∈ rest, p.1 ≠ e) (kl : e < dx) (hs : ∀ p ∈ news, p ∈ rest)
    (hQ : ∀ h', RaisedD base g outer e dx ((dx, od) :: news) h' → g.UpToSlots h' → Q () { s with heap := h' }) :
    wpAny M (A.deeper env) (leaving env (.ref e)) Q E s :=
  leave_raiseD (news := news) hf hk K F N (.tail _ (.head _)) (.head _) (fun p hp => .tail _ (.tail _ (hs p hp))) (fun p hp => kn p (hs p hp)) (Nat.ne_of_lt kl).symm hQ
end
end

-- part D2
section
open PySem PySem.W PyProof.Rows
section
variable {prog : Program} {w : World} {A : Around} {E : Value → Shared → Prop} {s : Shared} {h₀ : Heap} {L : Addr} {m : Str → Option Value} {news : List (Addr × Obj)} {x y : Str} {t u : Tok} {Q : Value → Shared → Prop}
theorem starts_yes (h : Txt.startswith x y = true) (hq : Q (.bool true) s) : wpAny (model prog w) A (call (.builtin "str.startswith") [.str x t, .str y u]) Q E s := SC.startswith (by rw [h]; exact hq)
theorem starts_no (h : Txt.startswith x y = false) (hq : Q (.bool false) s) : wpAny (model prog w) A (call (.builtin "str.startswith") [.str x t, .str y u]) Q E s := SC.startswith (by rw [h]; exact hq)
theorem ends_yes (h : Txt.endswith x y = true) (hq : Q (.bool true) s) : wpAny (model prog w) A (call (.builtin "str.endswith") [.str x t, .str y u]) Q E s := SC.endswith (by rw [h]; exact hq)
theorem ends_no (h : Txt.endswith x y = false) (hq : Q (.bool false) s) : wpAny (model prog w) A (call (.builtin "str.endswith") [.str x t, .str y u]) Q E s := SC.endswith (by rw [h]; exact hq)
theorem slice_is {value slice : Expr} {i j : Int} {ui uj : Tok} {J : Str} (hF : Fr h₀ L s.heap m) (hN : News h₀ L s.heap news) (hx : x.length ≤ sizeLine) (hJ : Txt.slice x (some i) (some j) = J) (h : ∀ h' t' k, Fr h₀ L h' m → News h₀ L h' news → Q (.str J t') { s with heap := h', toks := k })
    (hs : subscripted slice false (.str x t) (.ref s.heap.objs.size) = operate [.ref s.heap.objs.size, .str x t] (getItem (.str x t) (.ref s.heap.objs.size)) := by with_unfolding_all rfl)
    (ht : ∀ r, letTemporaryGo value (.str x t) r = pure () := by intro _; with_unfolding_all rfl) :
    wpAny (model prog w) A (subscriptTail value slice (.str x t) (.ref s.heap.objs.size)) Q E { s with heap := s.heap.push { cls := .type "slice", data := .fields #[.int i ui, .int j uj, .none] } } :=
  slice_strN_ss hF hN (fun h' t' k a b => by rw [hJ]; exact h h' t' k a b) hs ht hx
theorem slice_pre {value slice : Expr} {j : Int} {uj : Tok} {J : Str} (hF : Fr h₀ L s.heap m) (hN : News h₀ L s.heap news) (hx : x.length ≤ sizeLine) (hJ : Txt.slice x none (some j) = J) (h : ∀ h' t' k, Fr h₀ L h' m → News h₀ L h' news → Q (.str J t') { s with heap := h', toks := k })
    (hs : subscripted slice false (.str x t) (.ref s.heap.objs.size) = operate [.ref s.heap.objs.size, .str x t] (getItem (.str x t) (.ref s.heap.objs.size)) := by with_unfolding_all rfl)
    (ht : ∀ r, letTemporaryGo value (.str x t) r = pure () := by intro _; with_unfolding_all rfl) :
    wpAny (model prog w) A (subscriptTail value slice (.str x t) (.ref s.heap.objs.size)) Q E { s with heap := s.heap.push { cls := .type "slice", data := .fields #[.none, .int j uj, .none] } } :=
  slice_strN_ns hF hN (fun h' t' k a b => by rw [hJ]; exact h h' t' k a b) hs ht hx
end
end

-- part D3
section
open PySem PySem.W PyProof.Rows PyProof.V PySem.Spec
section
variable {prog : Program} {w : World} {A : Around} {E : Value → Shared → Prop} {s : Shared} {h₀ : Heap} {L : Addr} {m : Str → Option Value} {env : Env}
/-- what the source of a dict comprehension over a range hands on -/
structure DSrc (prog : Program) (w : World) (A : Around) (h₀ : Heap) (L : Addr) (m : Str → Option Value) (env : Env) (kx vx : Expr) (x : Str) (scope : Scope) (cl : List (Str × Addr)) (Q : Value → Shared → Prop) (xv : Value) (s₁ : Shared) : Prop where
  out : ∃ (r : Addr) (b : Int) (t u v : Tok) (n : Nat) (news : List (Addr × Obj)) (g : Nat → Str), xv = .ref r ∧ A.handled = none ∧ Fr h₀ L s₁.heap m ∧ News h₀ L s₁.heap news ∧ IsRange s₁.heap r 0 b 1 t u v ∧ Builtin.Range.small 0 b 1 = true ∧ Builtin.Range.rangeSize 0 b 1 = ((n : Nat) : Int) ∧ n ≤ 64 ∧ (∀ i j, i < n → j < n → g i = g j → i = j) ∧
    (∀ s₂ : Shared, (∃ h, s₂ = { s₁ with heap := h }) → ∀ i t9 I oI C oC D oD m₂ h tk (E' : Value → Shared → Prop), i < n → LCg.NsObj oC m₂ → m₂ x = some (.int (i : Nat) t9) → Fr h₀ L h m → News h₀ L h ((I, oI) :: (C, oC) :: (D, oD) :: news) → LCg.Off3 I C D news → ((@Ne Nat I C) ∧ (@Ne Nat I D) ∧ (@Ne Nat C D)) →
      wpAny (model prog w) A (eval kx (compEnvC scope cl C env)) (fun y s₄ => ∃ h' tk' ty, s₄ = { s₂ with heap := h', toks := tk' } ∧ y = .str (g i) ty ∧ Fr h₀ L h' m ∧ News h₀ L h' ((I, oI) :: (C, oC) :: (D, oD) :: news)) E' { s₂ with heap := h, toks := tk } ∧
      wpAny (model prog w) A (eval vx (compEnvC scope cl C env)) (fun y s₄ => ∃ h' tk' ty, s₄ = { s₂ with heap := h', toks := tk' } ∧ y = .int (i : Nat) ty ∧ Fr h₀ L h' m ∧ News h₀ L h' ((I, oI) :: (C, oC) :: (D, oD) :: news)) E' { s₂ with heap := h, toks := tk }) ∧
    ∀ D h tk oD kvs, Fr h₀ L h m → News h₀ L h ((D, oD) :: news) → oD.IsDictOf (PySem.strKind prog w) kvs → FlatPairs PyData.str kvs ((List.range n).map fun i => (.str (g i), .int (i : Nat))) → (∀ p ∈ news, p.1 < D) → L < D → Q (.ref D) { s₁ with heap := h, toks := tk }
theorem flat_snoc {K : Type} {enc : K → PyData} {kvs : List (K × Value)} {D : List (PyData × PyData)} {k : K} {v : Value} {d : PyData} (h : FlatPairs enc kvs D) (hv : Flat v d) : FlatPairs enc (kvs ++ [(k, v)]) (D ++ [(enc k, d)]) := by
  induction h with
  | nil => exact .cons hv .nil
  | cons h1 _ ih => exact .cons h1 ih
theorem flat_int (i : Int) (t : Tok) : Flat (.int i t) (.int i) := by first | exact .int _ _ | exact Flat.int i t | constructor
theorem stored_fresh {K : Type} [DecidableEq K] {kvs : List (K × Value)} {k : K} {v : Value} (h : k ∉ kvs.map (·.1)) : stored kvs k v = kvs ++ [(k, v)] := by
  unfold stored
  rw [if_neg]
  intro ha
  obtain ⟨kv, h1, h2⟩ := List.any_eq_true.mp ha
  exact h (of_decide_eq_true h2 ▸ List.mem_map_of_mem h1)

theorem dictComp_range {kx vx iter : Expr} {x : Str} {px : Pos} {scope : Scope} {cl : List (Str × Addr)} {pos : Pos} {Q : Value → Shared → Prop} (_F₀ : Fr h₀ L s.heap m)
    (hclos : closureFor scope env = pure cl) (hcell : ∀ y ∈ scope.names, y.2 ≠ .cell) (hkind : scope.kind = .function)
    (hnames : ∀ y ∈ scope.names, y.2 = .local → scope.names.lookup y.1 = some .local) (hx : scope.names.lookup x = some .local)
    (h : wpAny (model prog w) A (eval iter env) (DSrc prog w A h₀ L m env kx vx x scope cl Q) E s)
    (hs : ∀ x, foldedSetIterable iter env x = pure x := by intro _; rfl) :
    wpAny (model prog w) A (eval (.DictComp kx vx [⟨.Name x px, iter, [], 0⟩] scope pos) env) Q E s := by
  rw [arm_eval_DictComp]
  refine wpAny_comprehension_free (use := none) rfl hs hclos hkind hnames (wpAny_mono h (fun xv s₁ h₁ => ?_) fun _ _ e => e)
  obtain ⟨r, b, t, u, v, n, news, g, rfl, hh, F, N, hr, hsm, hn, hsz, hinj, turn, fin⟩ := h₁.out
  refine wpAny_pyIter_range hr hsm ?_
  rw [hn]
  generalize hH1 : s₁.heap.push { cls := .type "range_iterator", data := .fields #[rawInt 0, rawInt (n : Int), rawInt 1] } = H1
  have hsize1 : H1.objs.size = s₁.heap.objs.size + 1 := by rw [← hH1, Heap.size_push]
  have up1 : ∀ c o, s₁.heap.get? c = some o → H1.get? c = some o := fun c o e => hH1 ▸ Heap.get?_push_of_some _ e
  have hI1 : IsRangeIter H1 s₁.heap.objs.size (0 + ((0 : Nat) : Int) * 1) ((n : Int) - ((0 : Nat) : Int)) 1 := by
    show H1.get? _ = some _
    rw [← hH1]; simpa using Heap.get?_push_size _ rfl
  generalize hIe : s₁.heap.objs.size = I at hI1 hsize1
  have W := LCg.range_walks (prog := prog) (w := w) (A := A) (I := I) hh 0 n
  unfold newDict
  refine wpAny_newObj_type (wpAny_newFunctionEnv hcell (by intro y hy; simp at hy) (fun h₁ hns₁ hsb₁ => ?_) hkind)
  dsimp only at hns₁ hsb₁ ⊢
  generalize hH2 : H1.push { cls := .type "dict", dict := none, data := .dict #[] } = H2 at hns₁ hsb₁ ⊢
  have hsize2 : H2.objs.size = I + 2 := by rw [← hH2, Heap.size_push, hsize1]
  have hDe : H1.objs.size = I + 1 := hsize1
  rw [hDe]
  generalize hCe : H2.objs.size = C at hns₁ hsb₁ hsize2 ⊢
  generalize hDD : (I + 1 : Nat) = D
  have hIlt : I < D := by rw [← hDD]; exact Nat.lt_succ_self _
  have hDC : D < C := by rw [← hDD, hsize2]; exact Nat.lt_succ_self _
  have hLI : L < I := hIe ▸ F.ns.lt
  have old1 : ∀ c o, s₁.heap.get? c = some o → c < I := fun c o e => hIe ▸ Heap.lt_size e
  have up2 : ∀ c o, H1.get? c = some o → H2.get? c = some o := fun c o e => hH2 ▸ Heap.get?_push_of_some _ e
  have lt1 : ∀ c o, H1.get? c = some o → c < D := fun c o e => by have := Heap.lt_size e; rw [hsize1] at this; rw [← hDD]; exact this
  have up3 : ∀ c o, H1.get? c = some o → h₁.get? c = some o := fun c o e => hsb₁.extBut c o (Nat.ne_of_lt (Nat.lt_trans (lt1 c o e) hDC)) (Heap.get?_push_of_some _ (up2 c o e))
  have hD1 : h₁.get? D = some { cls := .type "dict", dict := none, data := .dict #[] } := hsb₁.extBut _ _ (Nat.ne_of_lt hDC) (Heap.get?_push_of_some _ (by rw [← hH2, ← hDD, ← hsize1]; exact Heap.get?_push_size _ rfl))
  have fresh₀ : ∀ c, I ≤ c → h₀.get? c = none := fun c ha => by
    cases e : h₀.get? c with
    | none => rfl
    | some o' => exact absurd (old1 c o' (F.keep c o' e)) (Nat.not_lt.mpr ha)
  have hI₀ := fresh₀ I (Nat.le_refl _)
  have hD₀ := fresh₀ D (Nat.le_of_lt hIlt)
  have hC₀ := fresh₀ C (Nat.le_of_lt (Nat.lt_trans hIlt hDC))
  have hIL : I ≠ L := Nat.ne_of_gt hLI
  have hDL : D ≠ L := Nat.ne_of_gt (Nat.lt_trans hLI hIlt)
  have hCL : C ≠ L := Nat.ne_of_gt (Nat.lt_trans hLI (Nat.lt_trans hIlt hDC))
  have hCI : I ≠ C := Nat.ne_of_lt (Nat.lt_trans hIlt hDC)
  have hID : I ≠ D := Nat.ne_of_lt hIlt
  have hCD : C ≠ D := Nat.ne_of_gt hDC
  have nlt : ∀ p ∈ news, p.1 < I := fun p hp => old1 _ _ (N p hp).1
  have off : LCg.Off3 I C D news := LCg.Off3.of fun p hp => ⟨Nat.ne_of_lt (nlt p hp), Nat.ne_of_lt (Nat.lt_trans (nlt p hp) (Nat.lt_trans hIlt hDC)), Nat.ne_of_lt (Nat.lt_trans (nlt p hp) hIlt)⟩
  have hst₁ : IsRangeIter h₁ I (0 + ((0 : Nat) : Int) * 1) ((n : Int) - ((0 : Nat) : Int)) 1 := up3 _ _ hI1
  have F1 : Fr h₀ L h₁ m := F.keeps fun c o e => up3 c o (up1 c o e)
  have N1 : News h₀ L h₁ news := N.grown fun c o e => up3 c o (up1 c o e)
  have hdict0 : ({ cls := .type "dict", dict := none, data := .dict #[] } : Obj).IsDictOf (PySem.strKind prog w) [] := by
    have z := Heap.DictOf.new (knd := PySem.strKind prog w) H1
    obtain ⟨o, ho, hd⟩ := Heap.dictOf_iff.mp z
    rw [Heap.get?_push_size _ rfl] at ho
    cases ho
    exact hd
  have loop : ∀ s₃ : Shared, s₃ = { s₁ with heap := h₁, toks := s₁.toks + ([] : List (Str × Value)).length } →
      codeAny (model prog w) A (.compLoop (.DictComp kx vx [⟨.Name x px, iter, [], 0⟩] scope pos) 0 (.ref I) (.ref D) (compEnvC scope cl C env)) (compPost (model prog w) A E none Q (.ref D) C) s₃ := by
    rintro s₃ rfl
    refine codeAny_compLoop_testsD
      (fun k s' => ∃ h' tk i oD kvs m', s' = { s₁ with heap := h', toks := tk } ∧ i ≤ n ∧ k = n + 1 - i ∧ IsRangeIter h' I (0 + (i : Nat) * 1) ((n : Int) - (i : Nat)) 1 ∧ Fr h₀ L h' m ∧ h'.Ns C m' ∧ News h₀ L h' ((D, oD) :: news) ∧ oD.IsDictOf (PySem.strKind prog w) kvs ∧
        FlatPairs PyData.str kvs ((List.range i).map fun i => (.str (g i), .int (i : Nat))) ∧ kvs.map (·.1) = (List.range i).map g) ?_ (n + 1)
      ⟨h₁, _, 0, _, [], _, rfl, Nat.zero_le _, rfl, hst₁, F1, hns₁, fun p hp => ?_, hdict0, .nil, rfl⟩
    · rintro k s' ⟨h', tk, i, oD, kvs, m', rfl, hi, rfl, hst', F', hn', N', hd', hf', hks⟩
      by_cases hlt : i < n
      · refine W.item i _ _ _ hlt hst' fun v h₂ tk₂ hPv hst₂ hk₂ => ?_
        obtain ⟨t9, rfl⟩ := hPv
        have hk2 : ∀ c o, c ≠ I → h'.get? c = some o → h₂.get? c = some o := fun c o hc e => hk₂ c o (by simp [hc]) e
        refine wpAny_assign_Name (wpAny_storeName_local (lookup_relabel_local hx) (hn'.at' fun o e => hk2 _ o hCI.symm e) (fun h₃ hn₃ hs₃ => ?_) (by simp [compEnvC, relabel, hkind]))
        refine wpAny_tests_nil ?_
        simp only [if_true]
        have hs₃ : Heap.SameBut C h₂ h₃ := hs₃
        have hst₃ : IsRangeIter h₃ I (0 + ((i + 1 : Nat) : Int) * 1) ((n : Int) - ((i + 1 : Nat) : Int)) 1 := hs₃.extBut _ _ hCI hst₂
        obtain ⟨oC, heC, hoC⟩ := LCg.ns_obj hn₃
        have F₃ : Fr h₀ L h₃ m := ⟨F'.ns.at' fun o e => hs₃.extBut _ o hCL.symm (hk2 _ o hIL.symm e), fun c o e => hs₃.extBut c o (fun q => by rw [q, hC₀] at e; cases e) (hk2 c o (fun q => by rw [q, hI₀] at e; cases e) (F'.keep c o e)), F'.above⟩
        obtain ⟨oI, hoI⟩ : ∃ oI, h₃.get? I = some oI := ⟨_, hst₃⟩
        have off3 := off.mem
        have N₃ : News h₀ L h₃ ((I, oI) :: (C, oC) :: (D, oD) :: news) := fun p hp => by
          rcases List.mem_cons.mp hp with rfl | hp
          · exact ⟨hoI, hIL, hI₀⟩
          · rcases List.mem_cons.mp hp with rfl | hp
            · exact ⟨heC, hCL, hC₀⟩
            · have z := N' p hp
              rcases List.mem_cons.mp hp with rfl | hp
              · exact ⟨hs₃.extBut _ _ hCD.symm (hk2 _ _ hID.symm z.1), z.2⟩
              · exact ⟨hs₃.extBut _ _ (off3 p hp).2.1 (hk2 _ _ (off3 p hp).1 z.1), z.2⟩
        have hmx : (fun y => if y = x then some (Value.int (0 + (i : Int)) t9) else m' y) x = some (.int ((i : Nat) : Int) t9) := by simp
        refine wpAny_mono (turn { s₁ with heap := h₃ } ⟨_, rfl⟩ i t9 I oI C oC D oD _ h₃ _ (notedBy (model prog w) A (compEnvC scope cl C env) fun e s' => compPost (model prog w) A E none Q (.ref D) C (.error e) s') hlt hoC hmx F₃ N₃ off ⟨hCI, hID, hCD⟩).1 (fun y s₅ h₅ => ?_) fun _ _ e => e
        obtain ⟨h₅, tk₅, ty, rfl, rfl, F₅, N₅⟩ := h₅
        have z5 : h₅.get? C = some oC := (N₅ (C, oC) (.tail _ (.head _))).1
        have tn2 := turn { s₁ with heap := h₃ } ⟨_, rfl⟩ i t9 I oI C oC D oD _ h₅ tk₅ (notedBy (model prog w) A (compEnvC scope cl C env) fun e s' => compPost (model prog w) A E none Q (.ref D) C (.error e) s') hlt hoC hmx F₅ N₅ off ⟨hCI, hID, hCD⟩
        refine wpAny_mono tn2.2 (fun y s₆ h₆ => ?_) fun _ _ e => e
        obtain ⟨h₆, tk₆, tz, rfl, rfl, F₆, N₆⟩ := h₆
        have z6 : h₆.get? C = some oC := (N₆ (C, oC) (.tail _ (.head _))).1
        have zD := (N₆ (D, oD) (.tail _ (.tail _ (.head _)))).1
        have zI := (N₆ (I, oI) (.head _)).1
        have hkl : kvs.length = i := by have := congrArg List.length hks; simpa using this
        refine wpAny_dictSet_pairs (knd := PySem.strKind prog w) (k := g i) (key := .str (g i) ty) (by simp [PySem.strKind, Value.isStrOf]) (Heap.dictOf_iff.mpr ⟨oD, zD, hd'⟩) (fun h₇ hd₇ hs₇ => ?_) (by rw [sizeLine_eq]; omega)
        have hfr : g i ∉ kvs.map (·.1) := by
          rw [hks]
          intro hm
          obtain ⟨j, hj, he⟩ := List.mem_map.mp hm
          have hj := List.mem_range.mp hj
          have := hinj j i (by omega) hlt he
          omega
        rw [stored_fresh hfr] at hd₇
        obtain ⟨oD', hoD', hdD'⟩ := Heap.dictOf_iff.mp hd₇
        refine ⟨n + 1 - (i + 1), by omega, h₇, _, i + 1, oD', _, _, rfl, hlt, rfl, ?_, F₆.change hs₇ hDL hD₀, (hoC.ns z6).sameBut hs₇ hCD, fun p hp => ?_, hdD', ?_, ?_⟩
        · have : h₃.get? I = some _ := hst₃
          show h₇.get? I = some _
          rw [hoI] at this
          rw [hs₇.extBut _ _ hID zI, this]
        · rcases List.mem_cons.mp hp with rfl | hp
          · exact ⟨hoD', hDL, hD₀⟩
          · exact ⟨hs₇.extBut _ _ (off3 p hp).2.2 (N₆ p (.tail _ (.tail _ (.tail _ hp)))).1, (N p hp).2⟩
        · rw [List.range_succ, List.map_append]
          exact flat_snoc hf' (flat_int _ _)
        · rw [List.range_succ, List.map_append, List.map_append, hks]; rfl
      · have hin : i = n := by omega
        subst hin
        refine W.done _ _ _ hst' fun h₂ tk₂ hk₂ => ?_
        have hk2 : ∀ c o, c ≠ I → h'.get? c = some o → h₂.get? c = some o := fun c o hc e => hk₂ c o (by simp [hc]) e
        have off3 := off.mem
        refine ⟨m', hn'.at' fun o e => hk2 _ o hCI.symm e, fun h'' hs'' => ?_⟩
        have F2 : Fr h₀ L h₂ m := ⟨F'.ns.at' fun o e => hk2 _ o hIL.symm e, fun c o e => hk2 c o (fun q => by rw [q, hI₀] at e; cases e) (F'.keep c o e), F'.above⟩
        refine fin D h'' tk₂ oD kvs (F2.change hs'' hCL hC₀) (fun p hp => ?_) hd' hf' (fun p hp => Nat.lt_trans (nlt p hp) hIlt) (Nat.lt_trans hLI hIlt)
        have z := N' p hp
        rcases List.mem_cons.mp hp with rfl | hp
        · exact ⟨hs''.extBut _ _ hCD.symm (hk2 _ _ hID.symm z.1), z.2⟩
        · exact ⟨hs''.extBut _ _ (off3 p hp).2.1 (hk2 _ _ (off3 p hp).1 z.1), z.2⟩
    · rcases List.mem_cons.mp hp with rfl | hp
      · exact ⟨hD1, hDL, hD₀⟩
      · exact N1 p hp
  have hl := loop { s₁ with heap := h₁, toks := s₁.toks + ([] : List (Str × Value)).length } rfl
  refine codeAny_compStart_dict hl ?_
  exact W.self 0 _ _ _ hst₁ hl
end
end

-- part D4
section
open PySem PySem.W PyProof.Rows PyProof.V PySem.Spec
section
variable {prog : Program} {w : World} {A : Around} {E : Value → Shared → Prop} {s : Shared} {env : Env} {h₀ : Heap} {body : List Stmt} {Q : Flow → Shared → Prop}
/-- a loop over zip of two lists of the ledger: what is to be shown where zip is called -/
structure ZLoop (prog : Program) (w : World) (A : Around) (h₀ : Heap) (env : Env) (a b : Str) (body : List Stmt) (Q : Flow → Shared → Prop) (E : Value → Shared → Prop) (l1 l2 : Addr) (s : Shared) : Prop where
  out : ∃ (xs ys : List Value) (k1 k2 : Nat) (m : Str → Option Value) (news : List (Addr × Obj)) (J : Nat → (Str → Option Value) → List (Addr × Obj) → Prop), A.handled = none ∧ Fr h₀ env.locals s.heap m ∧ News h₀ env.locals s.heap news ∧
    (l1, PySem.W.listOf xs.toArray k1) ∈ news ∧ (l2, PySem.W.listOf ys.toArray k2) ∈ news ∧ J 0 m news ∧
    (∀ i x y m₁ news₁ h tk own, xs[i]? = some x → ys[i]? = some y → OwnOff own (news₁.map (·.1)) → (l1, PySem.W.listOf xs.toArray k1) ∈ news₁ → (l2, PySem.W.listOf ys.toArray k2) ∈ news₁ → J i m₁ news₁ →
      Fr h₀ env.locals h (fun z => if z = b then some y else if z = a then some x else m₁ z) → News h₀ env.locals h (news₁ ++ own) →
      wpAny (model prog w) A (execs body env) (InvPostG h₀ env.locals (fun m' nx => (l1, PySem.W.listOf xs.toArray k1) ∈ nx ∧ (l2, PySem.W.listOf ys.toArray k2) ∈ nx ∧ J (i + 1) m' nx) own { s with heap := h, toks := tk } Q) E { s with heap := h, toks := tk }) ∧
    ∀ m₁ news₁ h tk, J (min xs.length ys.length) m₁ news₁ → Fr h₀ env.locals h m₁ → News h₀ env.locals h news₁ → Q .next { s with heap := h, toks := tk }

theorem zip_loop {a b : Str} {pa pb tp : Pos} {kk : Nat} {l1 l2 : Addr} (ha : env.kindOf a = some .local) (hb : env.kindOf b = some .local) (hp : (env.scope.kind == .class || (env.scope.kind == .module && env.locals != env.globals)) = false)
    (Z : ZLoop prog w A h₀ env a b body Q E l1 l2 s) :
    wpAny (model prog w) A (call (.type "zip") [.ref l1, .ref l2]) (fun xv s₁ => wpAny (model prog w) A (pyIter xv) (fun it s₂ => TurnsAt prog w A h₀ env (.Tuple [.Name a pa, .Name b pb] kk tp) body Q E it s₂) E s₁) E s := by
  obtain ⟨xs, ys, k1, k2, m, news, J, hh, F, N, hm1, hm2, h0, turn, done⟩ := Z.out
  have hl1 : s.heap.IsList l1 xs.toArray := ⟨_, (N _ hm1).1, rfl, _, rfl⟩
  have hl2 : s.heap.IsList l2 ys.toArray := ⟨_, (N _ hm2).1, rfl, _, rfl⟩
  have a1 : l1 < s.heap.objs.size := Heap.lt_size (N _ hm1).1
  have a2 : l2 < s.heap.objs.size := Heap.lt_size (N _ hm2).1
  refine call_zip_2 hl1 hl2 fun h' hz hTI hTO hi1 hi2 hsize hk => ?_
  have hF : Fr h₀ env.locals h' m := F.keeps hk
  have hN : News h₀ env.locals h' news := N.grown hk
  have hLlt : env.locals < s.heap.objs.size := F.ns.lt
  have hnl : ∀ p ∈ news, p.1 < s.heap.objs.size := fun p hp => Heap.lt_size (N p hp).1
  have fresh₀ : ∀ c, s.heap.objs.size ≤ c → h₀.get? c = none := fun c ha => by
    cases e : h₀.get? c with
    | none => rfl
    | some o' => exact absurd (Heap.lt_size (F.keep c o' e)) (Nat.not_lt.mpr ha)
  generalize hn : s.heap.objs.size = n at *
  have D := zipApart_new a1 a2
  have W := KTurns.ofWalksU (elts := [.Name a pa, .Name b pb]) (k := kk) (pos := tp) (WalksT.zip2 (prog := prog) (w := w) hh _ _ _ _ _ _ _ D xs.toArray ys.toArray).toU
  have hsz' : min xs.toArray.size ys.toArray.size = min xs.length ys.length := by simp
  rw [hsz'] at W
  refine wpAny_pyIter_zip hz ?_
  have hfp : ∀ c ∈ [n + 4, n + 2, n + 3, n, n + 1], n ≤ c := by
    intro c hc
    simp only [List.mem_cons, List.not_mem_nil, or_false] at hc
    rcases hc with rfl | rfl | rfl | rfl | rfl <;> first | exact Nat.le_refl _ | exact Nat.le_add_right _ _
  refine ⟨n + 4, _, _, _, _, _, _, m, news, fun i m₁ nx => (∀ p ∈ nx, p.1 ≠ n + 2) ∧ (l1, PySem.W.listOf xs.toArray k1) ∈ nx ∧ (l2, PySem.W.listOf ys.toArray k2) ∈ nx ∧ J i m₁ nx, rfl, W, ?_, ?_, ?_, ⟨hz, hTI, ⟨_, _, hTO⟩, hi1, hi2, hl1.at fun o e => hk _ o e, hl2.at fun o e => hk _ o e⟩, hF, hN,
    ⟨fun p hp => Nat.ne_of_lt (Nat.lt_of_lt_of_le (hnl p hp) (Nat.le_add_right _ _)), hm1, hm2, h0⟩, ?_, ?_⟩
  · intro hc
    simp only [List.mem_cons, List.not_mem_nil, or_false] at hc
    rcases hc with e | e | e | e | e | e | e
    · exact absurd hLlt (Nat.not_lt.mpr (hfp _ (by rw [e]; simp)))
    · exact absurd hLlt (Nat.not_lt.mpr (hfp _ (by rw [e]; simp)))
    · exact absurd hLlt (Nat.not_lt.mpr (hfp _ (by rw [e]; simp)))
    · exact absurd hLlt (Nat.not_lt.mpr (hfp _ (by rw [e]; simp)))
    · exact absurd hLlt (Nat.not_lt.mpr (hfp _ (by rw [e]; simp)))
    · exact (N _ hm1).2.1 e.symm
    · exact (N _ hm2).2.1 e.symm
  · intro c hc
    simp only [List.mem_cons, List.not_mem_nil, or_false] at hc
    refine fresh₀ c (hfp c ?_)
    rcases hc with rfl | rfl | rfl | rfl <;> simp
  · intro p hp hc
    simp only [List.mem_cons, List.not_mem_nil, or_false] at hc
    refine absurd (hnl p hp) (Nat.not_lt.mpr (hfp _ ?_))
    rcases hc with e | e | e | e <;> rw [e] <;> simp
  · rintro i v m₁ news₁ h₁ tk₁ own hin ⟨T, vals, rfl, ⟨x, y, hx, hy, rfl⟩, hT⟩ ⟨hTIn, hl1₁, hl2₁, hJ⟩ hoff hown hget hfull hst F₁ N₁
    rw [List.getElem?_toArray] at hx hy
    refine kcp_assign hh hT ha hb hp F₁.ns fun h₂ tk₂ hn₂ hs₂ => ?_
    have hL₀ : h₀.get? env.locals = none := Heap.get?_none_of_le F₁.above
    have F₂ : Fr h₀ env.locals h₂ (fun z => if z = b then some y else if z = a then some x else m₁ z) := ⟨hn₂, fun c o e => hs₂ c o (fun q => by rw [q, hL₀] at e; cases e) (F₁.keep c o e), F₁.above⟩
    have N₂ : News h₀ env.locals h₂ (own ++ news₁) := fun p hp => ⟨hs₂ _ _ (N₁ p hp).2.1 (N₁ p hp).1, (N₁ p hp).2⟩
    have hsep : OwnOff (own.filter fun p => decide (p.1 ≠ l1 ∧ p.1 ≠ l2)) (news₁.map (·.1)) := by
      intro p hp c hc e
      obtain ⟨q, hq, rfl⟩ := List.mem_map.mp hc
      obtain ⟨hp1, hp2⟩ := List.mem_filter.mp hp
      have hp2 := of_decide_eq_true hp2
      have hm := hown p hp1
      simp only [List.mem_cons, List.not_mem_nil, or_false] at hm
      rcases hm with h | h | h | h | h | h | h
      · exact hoff q hq (by rw [← e, h]; simp)
      · exact hTIn q hq (e.symm.trans h)
      · exact hoff q hq (by rw [← e, h]; simp)
      · exact hoff q hq (by rw [← e, h]; simp)
      · exact hoff q hq (by rw [← e, h]; simp)
      · exact hp2.1 h
      · exact hp2.2 h
    have N₃ : News h₀ env.locals h₂ (news₁ ++ own.filter fun p => decide (p.1 ≠ l1 ∧ p.1 ≠ l2)) := fun p hp => N₂ p ((List.mem_append.mp hp).elim (fun h => List.mem_append.mpr (.inr h)) fun h => List.mem_append.mpr (.inl ((List.mem_filter.mp h).1)))
    refine wpAny_mono (turn i x y m₁ news₁ h₂ tk₂ _ hx hy hsep hl1₁ hl2₁ hJ F₂ N₃) (fun f s₂ p => ?_) fun _ _ e => e
    have lo1 : h₁.get? l1 = some (PySem.W.listOf xs.toArray k1) := (N₁ _ (List.mem_append_right _ hl1₁)).1
    have lo2 : h₁.get? l2 = some (PySem.W.listOf ys.toArray k2) := (N₁ _ (List.mem_append_right _ hl2₁)).1
    have inOwn : ∀ c o, c ∈ [n + 4, n + 2, n + 3, n, n + 1] → h₁.get? c = some o → (c, o) ∈ own.filter fun p => decide (p.1 ≠ l1 ∧ p.1 ≠ l2) := fun c o hc e => by
      refine List.mem_filter.mpr ⟨hfull c ?_ (fresh₀ c (hfp c hc)) o e, decide_eq_true ⟨?_, ?_⟩⟩
      · simp only [List.mem_cons, List.not_mem_nil, or_false] at hc ⊢
        rcases hc with h | h | h | h | h <;> simp [h]
      · exact Nat.ne_of_gt (Nat.lt_of_lt_of_le a1 (hfp c hc))
      · exact Nat.ne_of_gt (Nat.lt_of_lt_of_le a2 (hfp c hc))
    have fin : InvEndG h₀ env.locals (fun m' nx => (l1, PySem.W.listOf xs.toArray k1) ∈ nx ∧ (l2, PySem.W.listOf ys.toArray k2) ∈ nx ∧ J (i + 1) m' nx) (own.filter fun p => decide (p.1 ≠ l1 ∧ p.1 ≠ l2)) { s with heap := h₂, toks := tk₂ } s₂ →
        LoopStepU h₀ env.locals [n + 4, n + 3, n, n + 1] own (fun m nx => (∀ p ∈ nx, p.1 ≠ n + 2) ∧ (l1, PySem.W.listOf xs.toArray k1) ∈ nx ∧ (l2, PySem.W.listOf ys.toArray k2) ∈ nx ∧ J (i + 1) m nx) { s with heap := h₁, toks := tk₁ } .next s₂ := by
      rintro ⟨h', tk, m', news', nx, e, F', N', hn', ho, hoo, hm⟩
      have offc : ∀ c, c ∈ [n + 4, n + 2, n + 3, n, n + 1] → (∃ o, h₁.get? c = some o) → ∀ p ∈ nx, p.1 ≠ c := by
        rintro c hc ⟨o, e⟩ p hp he
        exact hoo _ (inOwn c o hc e) p.1 (List.mem_map.mpr ⟨p, hp, rfl⟩) he.symm
      refine ⟨rfl, h', tk, m', nx, e, F', fun p hp => ?_, fun p hp hq => ?_, ?_, hm⟩
      · rcases List.mem_append.mp hp with h | h
        · by_cases h1 : p.1 = l1
          · have : p = (l1, PySem.W.listOf xs.toArray k1) := Prod.ext h1 (Option.some.inj ((hget p h).symm.trans (h1 ▸ lo1)))
            rw [this]
            exact N' _ (hn' _ hm.1)
          · by_cases h2 : p.1 = l2
            · have : p = (l2, PySem.W.listOf ys.toArray k2) := Prod.ext h2 (Option.some.inj ((hget p h).symm.trans (h2 ▸ lo2)))
              rw [this]
              exact N' _ (hn' _ hm.2.1)
            · exact N' p (ho p (List.mem_filter.mpr ⟨h, decide_eq_true ⟨h1, h2⟩⟩))
        · exact N' p (hn' p h)
      · obtain ⟨z1, z2, ⟨_, _, z3⟩, z4, z5, _⟩ := hst
        simp only [List.mem_cons, List.not_mem_nil, or_false] at hq
        rcases hq with h | h | h | h
        · exact offc (n + 4) (by simp) ⟨_, z1⟩ p hp h
        · exact offc (n + 3) (by simp) ⟨_, z3⟩ p hp h
        · exact offc n (by simp) (let ⟨o, e, _⟩ := z4; ⟨o, e⟩) p hp h
        · exact offc (n + 1) (by simp) (let ⟨o, e, _⟩ := z5; ⟨o, e⟩) p hp h
      · obtain ⟨z1, z2, _⟩ := hst
        exact offc (n + 2) (by simp) ⟨_, z2⟩
    cases f with
    | ret v => exact .ret p
    | brk => exact .brk p
    | next => exact .next (fin p)
    | cont => exact .cont (fin p)
  · rintro h₃ tk m' news' F' N' _ ⟨_, _, _, hJ⟩
    exact done m' news' h₃ tk hJ F' N'
end
end

-- part D5
section
open PySem PySem.W PyProof.Rows
/-- the number of toks made so far, forgotten -/
theorem gen_toks {M : Model} {A : Around} {α : Type} {x : Sem α} {Q : α → Shared → Prop} {E : Value → Shared → Prop} {hp : Heap} {g : Array GenState} {d : Drawn} {tk0 : Nat} {os : OsState} (h : ∀ tk, wpAny M A x Q E ⟨hp, g, d, tk, os⟩) : wpAny M A x Q E ⟨hp, g, d, tk0, os⟩ := h tk0
end

-- part M2
section
open PySem PySem.W PyProof.Rows PyProof.V PySem.Spec
set_option rowWalk.seconds 0
variable {w : World} {mean : ExcName → Option Value} {mg mb : Str → Option Value} {loose : List Str}
    {dp un : Nat} {gd : Option (List Code)} {cn : Str} {cs : Scope} {a : Addr} {ccd : Value} {cl : List (Str × Addr)} {outer : List Env} {A₀ : Around} {base h₀ : Heap} {L : Addr} {m : Str → Option Value} {news : List (Addr × Obj)} {s : Shared}
    {Q E : Value → Shared → Prop}
theorem rows_M2_1 : True := by
  k_with_none
  (k_with "k_room" => first | exact room1 (by assumption) rfl | exact room2 (by assumption) rfl | exact room3 (by assumption) rfl | ktr_room)
  (k_with "k_units" => first | exact room1 (by assumption) rfl | exact room2 (by assumption) rfl | exact room3 (by assumption) rfl | ktr_units)
  (k_with "k_mem" => assumption)
  (k_with "k_mem" => exact Above.sub (by with_reducible assumption) _ (by assumption))
  (k_with "cell_enter" => refine code_defC (by k_asm) (by k_asm) (by k_asm) (by k_asm) (by k_asm) (by exact rfl) (by exact rfl) (by assumption) (by k_is) (by k_is) (by k_room) (by exact BindsTo.of_eq rfl) (by exact rfl) (by decide +kernel) ?_ (by exact rfl) (by exact rfl) (by exact rfl); k_whole; intro _ _ _ _ _ _ _ N'_w9 Y'_w9 B'_w9 _ _ l1_w9; (try k_lt l1_w9); k_cells Y'_w9; (try simp only [List.cons_append, List.nil_append] at N'_w9); (try dsimp only); (try k_lift B'_w9); (try k_fold))
  (k_with "k_all" => assumption)
  (k_with "exec For Name Call cons nil" => k_here; (with_reducible show wpAny _ _ (exec (Stmt.For (Expr.Name _ _) _ _ [] _) _) _ _ _); k_dflt (refine For_src (by k_asm) (by rfl) (by rfl) ?_ (by (intro _; rfl)) (by passes_own)))
  (k_with "call builtin:str.split" => k_here; (with_reducible show wpAny _ _ (call (Value.builtin "str.split") _) _ _ _); k_dflt (refine KSpl.split1 (by k_asm) (by k_asm) (by kernel_rfl) ?_ (by assumption); intro _ _ _ _ e'_w9 a'_w9 _ _ _; (have sl'_w9 := (StrsAre.length a'_w9).trans (congrArg List.length e'_w9))))
  (k_with "call builtin:len" => k_here; (with_reducible show wpAny _ _ (call (Value.builtin "len") [Value.str _ _]) _ _ _); k_dflt (refine len_str (by omega) ?_))
  (k_with "call builtin:len" => k_here; (with_reducible show wpAny _ _ (call (Value.builtin "len") [Value.ref _]) _ _ _); k_dflt (first | (refine len_L (by k_asm) (by k_mem) (by assumption) (by omega) ?_) | (refine len_T (by k_asm) (by k_mem) (by assumption) (by omega) ?_)); intro _ _)
  (k_with "subscriptTail" => k_here; (with_reducible show wpAny _ _ (subscriptTail _ _ (Value.ref _) (Value.int 0 _)) _ _ _); k_dflt (refine item_listL (by exact lst_at (by k_asm) (by k_mem)) (by decide) (by decide) (by exact rfl) ?_ (by with_unfolding_all rfl) (by (intro _; with_unfolding_all rfl))))
  (k_with "compareOp NotEq int int" => k_here; first | (with_reducible refine ne_diff (by with_reducible assumption) ?_) | (with_reducible refine ne_same ?_))
  (k_with "call builtin:list.append" => k_here; (with_reducible show wpAny _ _ (call (Value.builtin "list.append") _) _ _ _); k_dflt (refine append_K (by k_asm) (by k_asm) (by k_upd) ?_ (by assumption); k_whole); intro _ _ _)
  (k_with "eval Name" => k_here; k_dflt (refine ld (by k_asm) (by first | exact rfl | assumption) ?_; k_whole))
  (k_with "exec Raise some none" => k_here; k_dflt (refine exec_raise_TF (by exact rfl) ?_))
  (k_with "call ref" => k_here; (with_reducible show wpAny _ _ (call (Value.ref 88) _) _ _ _); k_dflt (refine call_TF (by k_asm) (by k_asm) (by k_asm) (by k_asm) (by k_asm) (by exact rfl) (by k_room) (by k_units) ?_); intro _ _ _ _ _ _ _ _ _ _ _)
  (k_with "joinParts" => k_here; (first | (with_reducible show wpAny _ _ (joinParts _ []) _ _ _) | (with_reducible show wpAny _ _ (joinParts _ (evalEach [] _)) _ _ _)); k_dflt (refine joinParts_nil ?_ (by have h1_w9 := lit_twice; have h2_w9 := lit_many; have h3_w9 := lit_row; have h4_w9 := lit_wanted; have h5_w9 := lit_rows; have h6_w9 := empty_len; rw [sizeLine_eq]; simp only [Str.length_append]; omega)))
  (k_with "And" => (with_reducible show Str.length _ ≤ _ ∧ wpAny _ _ (joinParts _ _) _ _ _); (refine ⟨by have h1_w9 := lit_twice; have h2_w9 := lit_many; have h3_w9 := lit_row; have h4_w9 := lit_wanted; have h5_w9 := lit_rows; have h6_w9 := empty_len; rw [sizeLine_eq]; simp only [Str.length_append]; omega, ?_⟩))
  (k_with "And" => (with_reducible show Str.length _ ≤ _ ∧ wpAny _ _ (joinParts _ (evalEach [] _)) _ _ _); (refine ⟨by have h1_w9 := lit_twice; have h2_w9 := lit_many; have h3_w9 := lit_row; have h4_w9 := lit_wanted; have h5_w9 := lit_rows; have h6_w9 := empty_len; rw [sizeLine_eq]; simp only [Str.length_append]; omega, joinParts_nilE (joinParts_nil ?_ (by have h1_w9 := lit_twice; have h2_w9 := lit_many; have h3_w9 := lit_row; have h4_w9 := lit_wanted; have h5_w9 := lit_rows; have h6_w9 := empty_len; rw [sizeLine_eq]; simp only [Str.length_append]; omega))⟩))
  (k_with "exec For Name IfExp cons nil" => k_here; (with_reducible show wpAny _ _ (exec (Stmt.For (Expr.Name _ _) _ _ [] _) _) _ _ _); k_dflt (refine For_src (by k_asm) (by rfl) (by rfl) ?_ (by (intro _; rfl)) (by passes_own)))
  (k_with "last exec For Name" => k_here; (with_reducible show wpAny _ _ (exec (Stmt.For (Expr.Name _ _) _ _ [] _) _) _ _ _); k_dflt (refine For_src (by k_asm) (by rfl) (by rfl) ?_ (by (intro _; rfl)) (by passes_own)))
  trivial
theorem ne_str_yes {prog : Program} {A : Around} {x y : Str} {t u : Tok} {Q : Value → Shared → Prop} (hne : x ≠ y) (h : Q (.bool true) s) : wpAny (model prog w) A (compareOp .NotEq (.str x t) (.str y u)) Q E s :=
  PyProof.Rows.ne_str (by rw [show (x != y) = true from by simpa using hne]; exact h)
theorem ints_datAll {news : List (Addr × Obj)} : ∀ {vs : List Value} {r : List Int}, IntsAre vs r → DatAll news vs (r.map .int)
  | _, _, .nil => .nil
  | _, _, .cons n t h => .cons (.int n t) (ints_datAll h)
theorem rowD_ok (r : List Int) : kqdOk 8 (rowD r) = true := by
  unfold rowD kqdOk
  rw [List.all_eq_true]
  intro d hd
  obtain ⟨a, _, rfl⟩ := List.mem_map.mp hd
  rfl
theorem rowD_inj {r q : List Int} (h : rowD r = rowD q) : r = q := by
  unfold rowD at h
  injection h with h
  exact List.map_inj_right (fun _ _ e => by injection e) |>.mp h
theorem map_rowD_inj {r : List Int} {rs : List (List Int)} : rowD r ∈ rs.map rowD ↔ r ∈ rs := by
  constructor
  · intro h
    obtain ⟨q, hq, e⟩ := List.mem_map.mp h
    exact rowD_inj e ▸ hq
  · exact List.mem_map_of_mem
section
variable {A : Around} {xs : List Value} {ka : Nat} {rs : List (List Int)} {x : Value} {r : List Int} {aa : Addr}
open Classical in
theorem isIn_yes {Q : Value → Shared → Prop} (N : News h₀ L s.heap news) (ma : (aa, PySem.W.listOf xs.toArray ka) ∈ news) (Da : DatAll news xs (rs.map rowD)) (Dx : DatIn news x (rowD r)) (hu : A.units + 64 < cLine) (hm : r ∈ rs) (h : Q (.bool true) s) :
    wpAny (model P w) A (compareOp .In x (.ref aa)) Q E s :=
  kqd_isIn N ma rfl rfl Da (fun _ h => h) Dx (fun _ h => h) (fun d hd => by obtain ⟨q, _, rfl⟩ := List.mem_map.mp hd; exact rowD_ok q) (rowD_ok r) hu (by rw [decide_eq_true (map_rowD_inj.mpr hm)]; exact h)
open Classical in
theorem isIn_no {Q : Value → Shared → Prop} (N : News h₀ L s.heap news) (ma : (aa, PySem.W.listOf xs.toArray ka) ∈ news) (Da : DatAll news xs (rs.map rowD)) (Dx : DatIn news x (rowD r)) (hu : A.units + 64 < cLine) (hm : r ∉ rs) (h : Q (.bool false) s) :
    wpAny (model P w) A (compareOp .In x (.ref aa)) Q E s :=
  kqd_isIn N ma rfl rfl Da (fun _ h => h) Dx (fun _ h => h) (fun d hd => by obtain ⟨q, _, rfl⟩ := List.mem_map.mp hd; exact rowD_ok q) (rowD_ok r) hu (by rw [decide_eq_false (fun z => hm (map_rowD_inj.mp z))]; exact h)
end
theorem rows_M2_2 : True := by
  (k_with "compareOp NotEq str str" => k_here; k_dflt (refine ne_str_yes (by assumption) ?_))
  (k_with "compareOp In ref ref" => k_here; k_dflt (first | (refine isIn_no (by k_asm) (by k_mem) (by exact DatAll.mono (by intro p_w9 hp_w9; (repeat refine List.Mem.tail _ ?_); assumption) (by assumption)) (by exact DatIn.tuple (by k_mem) (ints_datAll (by assumption))) (by k_units) (by assumption) ?_) | (refine isIn_yes (by k_asm) (by k_mem) (by exact DatAll.mono (by intro p_w9 hp_w9; (repeat refine List.Mem.tail _ ?_); assumption) (by assumption)) (by exact DatIn.tuple (by k_mem) (ints_datAll (by assumption))) (by k_units) (by assumption) ?_)))
  trivial
theorem ReaderAt.mono {news' : List (Addr × Obj)} {rd dx ad : Addr} {e1 : Int} {t1 : Tok} {kk : Nat} {oa : Obj} {kvs : List (Str × Value)} {many : Nat} (h : ReaderAt w news rd dx ad e1 t1 kk oa kvs many) (hs : ∀ p ∈ news, p ∈ news') : ReaderAt w news' rd dx ad e1 t1 kk oa kvs many :=
  ⟨hs _ h.inst, hs _ h.dict, hs _ h.tab, h.isd, h.flat, h.sys⟩
theorem rows_M2_3 : True := by
  (k_with "call ref" => k_here; (with_reducible show wpAny _ _ (call (Value.ref 131) _) _ _ _); k_dflt (refine one_tuple_tells (by k_asm) (by k_asm) (by k_asm) (by k_asm) (by k_asm) (by exact rfl) (by k_room) (by k_units) (by exact ReaderAt.mono (by assumption) (by intro _ _; (repeat refine List.Mem.tail _ ?_); assumption)) (by assumption) (by assumption) (by assumption) (by assumption) ?_); intro _ _ _ _ _ _ us2'_w9 _ l9'_w9; (have l8'_w9 := l9'_w9); (have ul'_w9 := us2'_w9.length); (try k_lt l9'_w9))
  (k_with "call ref" => k_here; (with_reducible show wpAny _ _ (call (Value.ref 131) [_, Value.str (Str.ofString "B$7") _, _]) _ _ _); k_dflt (refine one_tuple_raises (by k_asm) (by k_asm) (by k_asm) (by k_asm) (by k_asm) (by exact rfl) (by k_room) (by k_units) (by exact ReaderAt.mono (by assumption) (by intro _ _; (repeat refine List.Mem.tail _ ?_); assumption)) (by assumption) ?_); intro _ _ _ _ _ _ _ _ _ _)
  (k_with "call ref" => k_here; (with_reducible show wpAny _ _ (call (Value.ref 107) _) _ _ _); k_dflt (refine set_of_tells (by k_asm) (by k_asm) (by k_asm) (by k_asm) (by k_asm) (by exact rfl) (by k_room) (by k_units) (by k_mem) (by assumption) (by first | assumption | exact DatAll.nil (news := [])) (by first | assumption | (intro _ hp_w9; exact nomatch hp_w9)) (by assumption) (by assumption) ?_); intro _ _ _ _ _ _ _ _ _ _ _ _)
  trivial
theorem rowText_len5 (r : List Int) : (rowText r).length ≤ 5 * r.length := by
  have h1 := join_len "->" (r.map nm)
  have h2 := sum_le_of (r.map nm) 3 (by intro y hy; obtain ⟨a, _, rfl⟩ := List.mem_map.mp hy; exact nm_len a)
  have h3 : ("->" : Str).length = 2 := by decide +kernel
  rw [List.length_map] at h1 h2
  rw [h3] at h1
  unfold rowText
  omega
/-- a part that members refuses behind the rows good -/
inductive BadPart (good : List (List Int)) : Str → Prop
  | unknown : BadPart good "B$7"
  | twice {r : List Int} {rest : List (List Int)} : good = r :: rest → BadPart good (rowText r)
  | longer {r : List Int} {rest : List (List Int)} : good = r :: rest → BadPart good (rowText (r ++ [0]))
/-- rows that a reader takes: no two alike, of one length from 1 to 3, of atoms below many -/
structure GoodRows (many : Nat) (good : List (List Int)) : Prop where
  nodup : good.Nodup
  few : good.length ≤ 4
  wide : ∃ n, 1 ≤ n ∧ n ≤ 3 ∧ ∀ r ∈ good, r.length = n
  atoms : ∀ r ∈ good, ∀ a ∈ r, 0 ≤ a ∧ a < (many : Int)
def partsLen (parts : List Str) : Int := (parts.map fun p => (p.length + 2 : Int)).sum
/-- data that nw holds, of objects above all of news -/
def NewDat (news nw : List (Addr × Obj)) (us : List Value) (ds : List Dat) : Prop := ∃ nn, DatAll nn us ds ∧ (∀ p ∈ nn, p ∈ nw) ∧ ∀ p ∈ nn, ∀ q ∈ news, q.1 < p.1
theorem NewDat.all {news nw : List (Addr × Obj)} {us : List Value} {ds : List Dat} (h : NewDat news nw us ds) : DatAll nw us ds := let ⟨_, a, b, _⟩ := h; a.mono b
/-- between the turns of members -/
def MemJ (news : List (Addr × Obj)) (D fl rd : Addr) (sv : List Value) (good : List (List Int)) (sp : Int) (i : Nat) (m' : Str → Option Value) (nx : List (Addr × Obj)) : Prop :=
  i ≤ good.length ∧ ∃ vs c t tl, NewDat news tl vs ((good.take i).map rowD) ∧ nx = (D, PySem.W.listOf sv.toArray 0) :: (fl, PySem.W.listOf vs.toArray c) :: tl ∧ Above news tl ∧ (∀ p ∈ tl, p.1 ≠ fl) ∧
    m' "self" = some (.ref rd) ∧ m' "spot" = some (.int (sp + partsLen ((good.take i).map rowText)) t) ∧ m' "found" = some (.ref fl)
theorem mem_end {h₁ h9 : Heap} {L₁ D fl rd t9 : Addr} {sv vs us9 : List Value} {good : List (List Int)} {row : List Int} {sp : Int} {i c c9 k9 tk9 : Nat} {tt : Tok} {own tl tl0 : List (Addr × Obj)} {m9 : Str → Option Value} {s₁ : Shared}
    (F : Fr h₁ L₁ h9 m9) (N : News h₁ L₁ h9 ((t9, tupOf us9 k9) :: (D, PySem.W.listOf sv.toArray 0) :: (fl, PySem.W.listOf (vs ++ [Value.ref t9]).toArray c9) :: tl)) (l9 : ∀ p ∈ (D, PySem.W.listOf sv.toArray 0) :: (fl, PySem.W.listOf vs.toArray c) :: tl, p.1 < t9)
    (li : IntsAre us9 row) (htl : tl = tl0 ++ own) (hoff : OwnOff own (((D, PySem.W.listOf sv.toArray 0) :: (fl, PySem.W.listOf vs.toArray c) :: tl0).map (·.1))) (hsub : Above news tl0) (nfl : ∀ p ∈ tl0, p.1 ≠ fl) (hvs : NewDat news tl0 vs ((good.take i).map rowD))
    (hrow : good[i]? = some row) (e1 : m9 "self" = some (.ref rd)) (e2 : m9 "spot" = some (.int (sp + partsLen ((good.take i).map rowText) + (rowText row).length + 2) tt)) (e3 : m9 "found" = some (.ref fl)) :
    InvEndG h₁ L₁ (fun m' nx => (D, PySem.W.listOf sv.toArray 0) ∈ nx ∧ MemJ news D fl rd sv good sp (i + 1) m' nx) own s₁ { s₁ with heap := h9, toks := tk9 } := by
  have hlt : i < good.length := (List.getElem?_eq_some_iff.mp hrow).1
  refine InvEndG.intro (nx := (D, PySem.W.listOf sv.toArray 0) :: (fl, PySem.W.listOf (vs ++ [Value.ref t9]).toArray c9) :: (t9, tupOf us9 k9) :: tl0) F N ⟨.head _, hlt, vs ++ [.ref t9], c9, tt, (t9, tupOf us9 k9) :: tl0, ?_, rfl, ?_, ?_, e1, ?_, e3⟩ ?_ ?_ ?_
  · rw [List.take_add_one, hrow, List.map_append]
    obtain ⟨nn, d1, d2, d3⟩ := hvs
    refine ⟨(t9, tupOf us9 k9) :: nn, (d1.mono fun p hp => .tail _ hp).append (.one (.tuple (.head _) (ints_datAll li))), ?_, ?_⟩
    · intro p hp
      rcases List.mem_cons.mp hp with rfl | hp
      · exact .head _
      · exact .tail _ (d2 p hp)
    · intro p hp q hq
      rcases List.mem_cons.mp hp with rfl | hp
      · exact l9 q (.tail _ (.tail _ (htl ▸ List.mem_append_left _ (hsub.1 q hq))))
      · exact d3 p hp q hq
  · exact hsub.cons fun q hq => l9 q (.tail _ (.tail _ (htl ▸ List.mem_append_left _ hq)))
  · intro p hp
    rcases List.mem_cons.mp hp with rfl | hp
    · exact Nat.ne_of_gt (l9 _ (.tail _ (.head _)))
    · exact nfl p hp
  · rw [e2]
    congr 2
    rw [List.take_add_one, hrow, List.map_append]
    simp only [partsLen, Option.toList, List.map_append, List.map_cons, List.map_nil, List.sum_append, List.sum_cons, List.sum_nil]
    omega
  · intro p hp b hb
    simp only [List.map_cons, List.mem_cons] at hb
    rcases hb with rfl | rfl | rfl | hb
    · exact hoff p hp _ (by simp)
    · exact hoff p hp _ (by simp)
    · exact Nat.ne_of_lt (l9 p (.tail _ (.tail _ (htl ▸ List.mem_append_right _ hp))))
    · exact hoff p hp _ (by simp only [List.map_cons, List.mem_cons]; exact .inr (.inr hb))
  · intro p hp
    rcases List.mem_cons.mp hp with rfl | hp
    · exact .tail _ (.head _)
    · rcases List.mem_cons.mp hp with rfl | hp
      · exact .tail _ (.tail _ (.head _))
      · rcases List.mem_cons.mp hp with rfl | hp
        · exact .head _
        · exact .tail _ (.tail _ (.tail _ (htl ▸ List.mem_append_left _ hp)))
  · intro p hp
    exact .tail _ (.tail _ (.tail _ (htl ▸ List.mem_append_right _ hp)))
theorem members_tells {rd dx ad : Addr} {e1 : Int} {t1 tt ts : Tok} {kk : Nat} {oa : Obj} {kvs : List (Str × Value)} {many : Nat} {text : Str} {sp : Int} {good : List (List Int)} {bad : Option Str}
    (B : Below A₀ base outer h₀) (F : Fr h₀ L s.heap m) (X : (Mine.hd.heap_1 w.params).In h₀) (N : News h₀ L s.heap news) (T : Top V loose mean mg mb h₀) (hk : cs.kind = .function)
    (hd : dp + 12 < recursionLimit) (hu : un + 200 < cLine)
    (hR : ReaderAt w news rd dx ad e1 t1 kk oa kvs many) (hm1 : 1 ≤ many) (hm4 : many ≤ 4) (hlen : text.length + 2 ≤ sizeLine) (hne : text ≠ "") (hs : Txt.split text ", " = good.map rowText ++ bad.toList)
    (hG : GoodRows many good) (hB : ∀ b, bad = some b → BadPart good b)
    (hret : bad = none → ∀ t us k rs' nw h' tk', Fr h₀ L h' m → News h₀ L h' ((t, tupOf us k) :: nw) → Above news nw → (∀ p ∈ nw, p.1 < t) → NewDat news nw us (rs'.map rowD) → rs'.Perm good → RowsSorted rs' → Q (.ref t) { s with heap := h', toks := tk' })
    (hraise : ∀ b, bad = some b → ∀ e g dx' od h' tk', Fr h₀ L g m → SpotIn (sp + partsLen (good.map rowText)) od → RaisedD base g (envX cn cs L a ccd cl :: outer) e dx' ((dx', od) :: news) h' → g.UpToSlots h' → E (.ref e) { s with heap := h', toks := tk' }) :
    wpAny (model P w) (ktrTop dp un gd cn cs L a ccd cl outer) (call (.ref 138) [.ref rd, .str text tt, .int sp ts]) Q E s := by
  w_on
  refine wpAny_call ?_
  k_dflt cell_enter
  w_strict k_steps
  rename StrsAre _ _ => ha
  rename (_ = Txt.split _ _) => he
  rename Fr _ _ _ _ => lF
  rename News _ _ _ _ => lN
  rename (∀ p ∈ _ :: news, _) => lt2
  rename (∀ p ∈ news, _) => lt1
  rename_i fl _ _ _ _ D lst _ _
  have he' : lst.map (·.1) = good.map rowText ++ bad.toList := he.trans hs
  rw [he'] at ha
  obtain ⟨hnd, hfew, ⟨wd, hw1, hw3, hwide⟩, hat⟩ := hG
  have hfD : fl < D := lt2 _ (.head _)
  have lt2' := lt2
  have hll : (strValues lst).length = good.length + bad.toList.length := by rw [ha.length, List.length_append, List.length_map]
  refine ⟨kdl_iter (nn := 0) (MemJ news D fl rd (strValues lst) good sp) rfl (.head _) lF lN ⟨Nat.zero_le _, [], 0, ts, news, ⟨[], .nil, (fun _ h => nomatch h), fun _ h => nomatch h⟩, rfl, Above.refl, fun p hp => Nat.ne_of_lt (lt1 p hp), rfl, by simp [partsLen]; rfl, rfl⟩ ?_ ?_⟩
  · intro i v m₁ news₁ h tk own hv hoff hl' hJ F1 N1
    obtain ⟨hi, vs, c, t, tl0, hvs, rfl, hsub, nfl0, m1, m2, m3⟩ := hJ
    k_lt2 hfD
    obtain ⟨tl, htl⟩ : ∃ tl, tl = tl0 ++ own := ⟨_, rfl⟩
    rw [List.cons_append, List.cons_append, ← htl] at N1
    have nfl : ∀ p ∈ tl, p.1 ≠ fl := by
      rw [htl]
      intro p hp
      rcases List.mem_append.mp hp with hp | hp
      · exact nfl0 p hp
      · exact hoff p hp fl (by simp)
    have hsub' : ∀ p ∈ news, p ∈ tl := fun p hp => htl ▸ List.mem_append_left _ (hsub.1 p hp)
    have hR' : ReaderAt w tl rd dx ad e1 t1 kk oa kvs many := hR.mono hsub'
    have ⟨q1, q2, q3, _, _, _⟩ := hR'
    have hvs' : DatAll tl vs ((good.take i).map rowD) := hvs.all.mono fun p hp => htl ▸ List.mem_append_left _ hp
    have hvl : vs.length = i := by rw [DatAll.length hvs.all, List.length_map, List.length_take]; omega
    clear hR lN lF
    obtain ⟨y, tv, rfl, hy⟩ := ha.item i v hv
    by_cases hig : i < good.length
    · have hrow : good[i]? = some good[i] := List.getElem?_eq_getElem hig
      have hyr : y = rowText good[i] := by
        rw [List.getElem?_append_left (by simpa using hig), List.getElem?_map, hrow] at hy
        exact (Option.some.inj hy).symm
      subst hyr
      have hmem : good[i] ∈ good := List.getElem_mem hig
      have hnot : good[i] ∉ good.take i := fun hm => by
        obtain ⟨j, hj⟩ := List.getElem?_of_mem hm
        have hji : j < i := by have := (List.getElem?_eq_some_iff.mp hj).1; simp at this; omega
        rw [List.getElem?_take_of_lt hji, ← hrow] at hj
        have := (List.getElem?_inj (by omega) hnd).mp hj
        omega
      have hwr := hwide _ hmem
      have har := hat _ hmem
      have htk : (good.take i).map rowD ++ [rowD good[i]] = (good.take (i + 1)).map rowD := by rw [List.take_add_one, hrow, List.map_append]; rfl
      have htk2 : partsLen ((good.take (i + 1)).map rowText) = partsLen ((good.take i).map rowText) + ((rowText good[i]).length + 2 : Int) := by
        rw [List.take_add_one, hrow, List.map_append]
        simp [partsLen]
      have hgi : good[i] ≠ [] := fun e => by rw [e] at hwr; simp at hwr; omega
      clear hmem
      generalize hrw : good[i] = row at *
      have hspl := split_row hgi
      have hlt := rowText_len row (by omega)
      have hl3 : (rowText row).length + 2 ≤ sizeLine := by rw [sizeLine_eq]; omega
      have hrr : row.length ≤ 4 ∧ ∀ a ∈ row, 0 ≤ a ∧ a < (many : Int) := ⟨by omega, har⟩
      match i, vs, hvl with
      | 0, [], _ =>
        have hsz : (([] : List Value).toArray).size ≤ sizeLine := Nat.zero_le _
        k_steps
        rename News _ _ _ _ => lN
        rename Fr _ _ _ _ => lF
        rename (∀ p ∈ (D, _) :: _, _) => l9
        rename IntsAre _ _ => li
        exact mem_end (vs := []) (c := c) lF lN l9 li htl hoff hsub nfl0 ⟨[], .nil, (fun _ h => nomatch h), fun _ h => nomatch h⟩ hrow m1 rfl m3
      | j + 1, v0 :: vr, hvl =>
        have hsz : ((v0 :: vr).toArray).size ≤ sizeLine := by rw [List.size_toArray, hvl, sizeLine_eq]; omega
        obtain ⟨r0, hr0, hr0m⟩ : ∃ r0, good[0]? = some r0 ∧ r0 ∈ good := ⟨_, List.getElem?_eq_getElem (by omega), List.getElem_mem (by omega)⟩
        obtain ⟨a0, us0, k0, rfl, hm0, hi0⟩ : ∃ a0 us0 k0, v0 = .ref a0 ∧ (a0, tupOf us0 k0) ∈ tl ∧ IntsAre us0 r0 := by
          obtain ⟨r, e1, _, e2⟩ := datAll_at hvs' (i := 0) (v := v0) rfl
          rw [List.getElem?_take_of_lt (by omega), hr0] at e1
          cases e1
          cases e2 with
          | tuple h1 h2 => exact ⟨_, _, _, rfl, h1, datAll_ints h2⟩
        have hl0 : us0.length = row.length := by rw [hi0.length, hwide _ hr0m, hwr]
        k_steps
        rename News _ _ _ _ => lN
        rename Fr _ _ _ _ => lF
        rename (∀ p ∈ (D, _) :: _, _) => l9
        rename IntsAre _ row => li
        rw [List.push_toArray] at lN
        exact mem_end (vs := .ref a0 :: vr) (c := c) lF lN l9 li htl hoff hsub nfl0 hvs hrow m1 rfl m3
    · have hie : i = good.length := by omega
      subst hie
      obtain ⟨b, hb⟩ : ∃ b, bad = some b := by
        cases e : bad with
        | some b => exact ⟨b, rfl⟩
        | none =>
          rw [List.getElem?_append_right (by simp), e] at hy
          simp at hy
      have hyb : y = b := by
        rw [List.getElem?_append_right (by simp), hb] at hy
        simpa using hy.symm
      subst hyb
      have hbp := hB y hb
      have hraise := hraise y hb
      clear hy hv hret hB
      rw [List.take_of_length_le (Nat.le_refl _)] at m2 hvs'
      cases hbp with
      | unknown =>
        k_steps
        rename Below _ base _ _ => kB
        rename RaisedD _ _ _ _ _ _ _ => kR
        rename SpotIn _ _ => kS
        rename Heap.UpToSlots _ _ => kU
        rename Fr h₀ L _ _ => kG
        rename Fr _ _ _ _ => kF
        refine leave_onT (news := news) rfl kB kF kR kU (fun p hp => .tail _ (.tail _ (hsub' p hp))) fun h3 R3 U3 => ?_
        exact hraise _ _ _ _ _ _ kG kS R3 U3
      | @twice r rest hgr =>
        have hrm : r ∈ good := by rw [hgr]; exact .head _
        have hwr := hwide _ hrm
        have hgi : r ≠ [] := fun e => by rw [e] at hwr; simp at hwr; omega
        have hspl := split_row hgi
        have hlt := rowText_len r (by omega)
        have hl3 : (rowText r).length + 2 ≤ sizeLine := by rw [sizeLine_eq]; omega
        have hrr : r.length ≤ 4 ∧ ∀ a ∈ r, 0 ≤ a ∧ a < (many : Int) := ⟨by omega, hat _ hrm⟩
        generalize rowText r = y at *
        k_steps
        rename (Mine.hd.heap_1 w.params).In _ => kX
        rename Below _ base _ _ => kB
        rename News _ _ _ _ => kN
        rename SpotIn _ _ => kS
        rename (∀ p ∈ _ :: _, _ ≠ _) => kn
        rename Fr h₀ L _ _ => kG
        rename Fr _ _ _ _ => kF
        rename (_ < _) => kl
        refine ⟨_, _, _, rfl, c88_at (kX.keeps kF.keep), (kN _ (.tail _ (.head _))).1, ?_⟩
        refine raise_outT (news := news) rfl rfl kB kF kN kn kl ?_ fun h3 R3 U3 => ?_
        · exact fun p hp => .tail _ (.tail _ (.tail _ (hsub' p hp)))
        · exact hraise _ _ _ _ _ _ kG kS R3 U3
      | @longer r rest hgr =>
        have hrm : r ∈ good := by rw [hgr]; exact .head _
        have hwr := hwide _ hrm
        have hspl := split_row (r := r ++ [0]) (by simp)
        have hlt := rowText_len5 (r ++ [0])
        have hrl : (r ++ [0]).length = r.length + 1 := by simp
        have hl3 : (rowText (r ++ [0])).length + 2 ≤ sizeLine := by rw [sizeLine_eq]; omega
        have hrr : (r ++ [0]).length ≤ 4 ∧ ∀ a ∈ (r ++ [0]), 0 ≤ a ∧ a < (many : Int) := ⟨by omega, fun a ha => by
          rcases List.mem_append.mp ha with h | h
          · exact hat _ hrm a h
          · rw [List.mem_singleton.mp h]; omega⟩
        have hnot : (r ++ [0]) ∉ good := fun h => by have := hwide _ h; omega
        have hne9 : ((r ++ [0]).length : Int) ≠ (r.length : Int) := by omega
        generalize (r ++ [0]) = row at *
        generalize rowText row = y at *
        have hfl : good.length = rest.length + 1 := by rw [hgr]; rfl
        match vs, hvl with
        | [], hvl => exact absurd hvl (by rw [hfl]; simp)
        | v0 :: vr, hvl =>
        obtain ⟨a0, us0, k0, rfl, hm0, hi0⟩ : ∃ a0 us0 k0, v0 = .ref a0 ∧ (a0, tupOf us0 k0) ∈ tl ∧ IntsAre us0 r := by
          obtain ⟨q, e1, _, e2⟩ := datAll_at hvs' (i := 0) (v := v0) rfl
          rw [hgr] at e1
          cases e1
          cases e2 with
          | tuple h1 h2 => exact ⟨_, _, _, rfl, h1, datAll_ints h2⟩
        have hl0 : us0.length = r.length := hi0.length
        k_steps
        rename (Mine.hd.heap_1 w.params).In _ => kX
        rename Below _ base _ _ => kB
        rename News _ _ _ _ => kN
        rename SpotIn _ _ => kS
        rename (∀ p ∈ _ :: _, _ ≠ _) => kn
        rename Fr h₀ L _ _ => kG
        rename Fr _ _ _ _ => kF
        rename (_ < _) => kl
        refine ⟨_, _, _, rfl, c88_at (kX.keeps kF.keep), (kN _ (.tail _ (.head _))).1, ?_⟩
        refine raise_outT (news := news) rfl rfl kB kF kN kn kl ?_ fun h3 R3 U3 => ?_
        · exact fun p hp => .tail _ (.tail _ (.tail _ (hsub' p hp)))
        · exact hraise _ _ _ _ _ _ kG kS R3 U3
  · intro m₁ news₁ h tk hJ F1 N1
    obtain ⟨hi, vs, c, t, tl0, hvs, rfl, hsub, nfl0, m1, m2, m3⟩ := hJ
    rw [hll] at hi hvs
    cases hb : bad with
    | some b => exact absurd hi (by rw [hb]; simp)
    | none =>
      rw [hb] at hvs
      have hvs : NewDat news tl0 vs (good.map rowD) := by simpa [List.take_of_length_le] using hvs
      obtain ⟨nn, d1, d2, d3⟩ := hvs
      have hdn9 : ∀ p ∈ nn, p ∈ (D, PySem.W.listOf (strValues lst).toArray 0) :: (fl, PySem.W.listOf vs.toArray c) :: tl0 := fun p hp => .tail _ (.tail _ (d2 p hp))
      have hne1 : ∀ r ∈ good, 1 ≤ r.length := fun r hr => by rw [hwide r hr]; exact hw1
      clear lN lF
      k_steps
      rename Fr h₀ L _ _ => kF
      rename News h₀ L _ _ => kN
      rename DatAll _ _ _ => kD
      rename List.Perm _ _ => kp
      rename RowsSorted _ => ks
      rename (∀ p ∈ (D, _) :: _, _) => l9
      exact hret hb _ _ _ _ _ _ _ kF kN ((hsub.cons' lt1).cons' fun q hq => lt2 q (.tail _ hq)) l9 ⟨nn, kD, fun p hp => .tail _ (.tail _ (d2 p hp)), d3⟩ kp ks
end

-- part M1
section
open PySem PySem.W PyProof.Rows PyProof.V PySem.Spec
set_option rowWalk.seconds 0
variable {w : World} {mean : ExcName → Option Value} {mg mb : Str → Option Value} {loose : List Str}
    {dp un : Nat} {gd : Option (List Code)} {cn : Str} {cs : Scope} {a : Addr} {ccd : Value} {cl : List (Str × Addr)} {outer : List Env} {A₀ : Around} {base h₀ : Heap} {L : Addr} {m : Str → Option Value} {news : List (Addr × Obj)} {s : Shared}
    {Q E : Value → Shared → Prop}
theorem rows_M1_1 : True := by
  k_with_none
  (k_with "k_room" => first | exact room1 (by assumption) rfl | exact room2 (by assumption) rfl | exact room3 (by assumption) rfl | ktr_room)
  (k_with "k_units" => first | exact room1 (by assumption) rfl | exact room2 (by assumption) rfl | exact room3 (by assumption) rfl | ktr_units)
  (k_with "k_mem" => assumption)
  (k_with "k_mem" => exact Above.sub (by with_reducible assumption) _ (by assumption))
  (k_with "cell_enter" => refine code_defC (by k_asm) (by k_asm) (by k_asm) (by k_asm) (by k_asm) (by exact rfl) (by exact rfl) (by assumption) (by k_is) (by k_is) (by k_room) (by exact BindsTo.of_eq rfl) (by exact rfl) (by decide +kernel) ?_ (by exact rfl) (by exact rfl) (by exact rfl); k_whole; intro _ _ _ _ _ _ _ N'_w9 Y'_w9 B'_w9 _ _ l1_w9; (try k_lt l1_w9); k_cells Y'_w9; (try simp only [List.cons_append, List.nil_append] at N'_w9); (try dsimp only); (try k_lift B'_w9); (try k_fold))
  (k_with "k_all" => assumption)
  (k_with "exec For Name Call cons nil" => k_here; (with_reducible show wpAny _ _ (exec (Stmt.For (Expr.Name _ _) _ _ [] _) _) _ _ _); k_dflt (refine For_src (by k_asm) (by rfl) (by rfl) ?_ (by (intro _; rfl)) (by passes_own)))
  (k_with "call builtin:str.split" => k_here; (with_reducible show wpAny _ _ (call (Value.builtin "str.split") _) _ _ _); k_dflt (refine KSpl.split1 (by k_asm) (by k_asm) (by kernel_rfl) ?_ (by assumption); intro _ _ _ _ e'_w9 a'_w9 _ _ _; (have sl'_w9 := (StrsAre.length a'_w9).trans (congrArg List.length e'_w9))))
  (k_with "call builtin:len" => k_here; (with_reducible show wpAny _ _ (call (Value.builtin "len") [Value.str _ _]) _ _ _); k_dflt (refine len_str (by omega) ?_))
  (k_with "eval Name" => k_here; k_dflt (refine ld (by k_asm) (by first | exact rfl | assumption) ?_; k_whole))
  (k_with "exec For Name IfExp cons nil" => k_here; (with_reducible show wpAny _ _ (exec (Stmt.For (Expr.Name _ _) _ _ [] _) _) _ _ _); k_dflt (refine For_src (by k_asm) (by rfl) (by rfl) ?_ (by (intro _; rfl)) (by passes_own)))
  (k_with "last exec For Name" => k_here; (with_reducible show wpAny _ _ (exec (Stmt.For (Expr.Name _ _) _ _ [] _) _) _ _ _); k_dflt (refine For_src (by k_asm) (by rfl) (by rfl) ?_ (by (intro _; rfl)) (by passes_own)))
  (k_with "call ref" => k_here; (with_reducible show wpAny _ _ (call (Value.ref 107) _) _ _ _); k_dflt (refine set_of_tells (by k_asm) (by k_asm) (by k_asm) (by k_asm) (by k_asm) (by exact rfl) (by k_room) (by k_units) (by k_mem) (by assumption) (by first | assumption | exact DatAll.nil (news := [])) (by first | assumption | (intro _ hp_w9; exact nomatch hp_w9)) (by assumption) (by assumption) ?_); intro _ _ _ _ _ _ _ _ _ _ _ _)
  trivial
theorem members_empty {rd : Addr} {tt ts : Tok} {sp : Int}
    (B : Below A₀ base outer h₀) (F : Fr h₀ L s.heap m) (X : (Mine.hd.heap_1 w.params).In h₀) (N : News h₀ L s.heap news) (T : Top V loose mean mg mb h₀) (hk : cs.kind = .function)
    (hd : dp + 8 < recursionLimit) (hu : un + 100 < cLine)
    (hret : ∀ t k h' tk', Fr h₀ L h' m → News h₀ L h' ((t, tupOf [] k) :: news) → (∀ p ∈ news, p.1 < t) → Q (.ref t) { s with heap := h', toks := tk' }) :
    wpAny (model P w) (ktrTop dp un gd cn cs L a ccd cl outer) (call (.ref 138) [.ref rd, .str "" tt, .int sp ts]) Q E s := by
  w_on
  refine wpAny_call ?_
  k_dflt cell_enter
  w_strict k_steps
  rename Fr _ _ _ _ => lF
  rename News _ _ _ _ => lN
  rename_i fl _ lt1 _ D _ lt2
  refine ⟨kdl_iter (vs := []) (nn := 0) (fun i m' nx => nx = (D, PySem.W.listOf #[] 0) :: (fl, PySem.W.listOf #[] 0) :: news ∧ m' "found" = some (.ref fl)) rfl (.head _) lF lN ⟨rfl, rfl⟩ ?_ ?_⟩
  · intro i v m₁ news₁ h tk own hv
    simp at hv
  · intro m₁ news₁ h tk hJ F1 N1
    obtain ⟨rfl, m3⟩ := hJ
    have hn0 : ([] : List (List Int)).Nodup := List.nodup_nil
    have h40 : ([] : List (List Int)).length ≤ 4 := by simp
    have hr0 : ∀ r ∈ ([] : List (List Int)), 1 ≤ r.length := fun r hr => nomatch hr
    clear lN lF
    k_steps
    rename Fr h₀ L _ _ => kF
    rename News h₀ L _ _ => kN
    rename DatAll _ _ _ => kD
    rename List.Perm _ _ => kp
    rename (∀ p ∈ (D, _) :: _, _) => l9
    obtain rfl := kp.eq_nil
    cases kD
    exact hret _ _ _ _ kF (fun p hp => kN p (by
      rcases List.mem_cons.mp hp with rfl | hp
      · exact .head _
      · exact .tail _ (.tail _ (.tail _ hp)))) fun p hp => l9 p (.tail _ (.tail _ hp))
end

-- part L1
section
open PySem PySem.W PyProof.Rows
open Builtin Builtin.Str StrLaws
theorem slice_eq (x : Str) (l u : Option Int) : Txt.slice x l u = sliceText x l u := rfl
theorem slice_to (x : Str) {k : Nat} (h : k ≤ x.length) : Txt.slice x none (some (k : Int)) = ⟨((sg x).take k).toArray⟩ := by
  have e : sliceText x none (some (k : Int)) = sliceText x (some ((0 : Nat) : Int)) (some (k : Int)) := by unfold sliceText; rw [sliceIdx_none_lo]; rfl
  rw [slice_eq, e, sliceText_nat x (Nat.zero_le _) h, List.drop_zero, Nat.sub_zero]
theorem slice_inner (p J q : Str) (hq : q.length = 1) : Txt.slice (p ++ J ++ q) (some (p.length : Int)) (some (-1)) = J := by
  have hl : (p ++ J ++ q).length = p.length + J.length + 1 := by rw [Str.length_append, Str.length_append, hq]
  rw [slice_eq, sliceText_neg_hi _ _ (by decide) (by rw [hl]; omega)]
  have e : (-1 + ((p ++ J ++ q).length : Int)) = ((p.length + J.length : Nat) : Int) := by rw [hl]; omega
  rw [e, sliceText_nat _ (by omega) (by rw [hl]; omega)]
  apply sg_inj
  show ((sg (p ++ J ++ q)).drop p.length).take (p.length + J.length - p.length) = sg J
  rw [sg_app, sg_app, List.append_assoc, List.drop_append_of_le_length (by rw [sg_len]; exact Nat.le_refl _), List.drop_of_length_le (l := sg p) (by rw [sg_len]; exact Nat.le_refl _), List.nil_append,
    show p.length + J.length - p.length = (sg J).length from by rw [sg_len]; omega]
  exact List.take_left' rfl
theorem row_slice (mark : Str) (texts : List Str) : Txt.slice (rowStr mark texts) (some ((mark ++ "={").length : Int)) (some (-1)) = Str.join ", " texts := by
  unfold rowStr
  exact slice_inner _ _ _ (by decide +kernel)
theorem row_starts (mark : Str) (texts : List Str) : Txt.startswith (rowStr mark texts) (mark ++ "={") = true := by
  unfold rowStr
  rw [Str.append_assoc]
  exact KT.starts_app _ _
theorem row_ends (mark : Str) (texts : List Str) : Txt.endswith (rowStr mark texts) "}" = true := by
  unfold rowStr
  exact KT.ends_app _ _
theorem arrow_free : ∀ c ∈ sg "->", c ≠ 44 ∧ c ≠ 10 ∧ c ≠ 125 := by decide +kernel
theorem rowText_free (r : List Int) : ∀ c ∈ sg (rowText r), c ≠ 44 ∧ c ≠ 10 ∧ c ≠ 125 := by
  unfold rowText
  have key : ∀ qs : List Str, (∀ q ∈ qs, ∀ c ∈ sg q, c ≠ 44 ∧ c ≠ 10 ∧ c ≠ 125) → ∀ c ∈ sg (Str.join "->" qs), c ≠ 44 ∧ c ≠ 10 ∧ c ≠ 125 := by
    intro qs
    induction qs with
    | nil => intro _ c hc; simp [Str.join, Str.empty, sg] at hc
    | cons q rest ih =>
      intro h
      match rest with
      | [] => exact h q (.head _)
      | q2 :: r2 =>
        intro c hc
        have hc : c ∈ sg (q ++ "->" ++ Str.join "->" (q2 :: r2)) := hc
        rw [sg_app, sg_app, List.append_assoc] at hc
        rcases List.mem_append.mp hc with hc | hc
        · exact h q (.head _) c hc
        · rcases List.mem_append.mp hc with hc | hc
          · exact arrow_free c hc
          · exact ih (fun p hp => h p (.tail _ hp)) c hc
  refine key _ fun q hq c hc => ?_
  obtain ⟨a, _, rfl⟩ := List.mem_map.mp hq
  have := nm_free a c hc
  exact ⟨this.2.2.1, this.2.2.2.2.1, this.2.2.2.2.2.1⟩
end

-- part L2
section
open PySem PySem.W PyProof.Rows
structure PartOk (p : Str) : Prop where
  short : p.length ≤ 20
  some : 1 ≤ p.length
  free : ∀ c ∈ sg p, c ≠ 44 ∧ c ≠ 10 ∧ c ≠ 125
theorem nm_some {a : Int} (h : 0 ≤ a ∧ a < 4) : 3 ≤ (nm a).length := by
  have : a = 0 ∨ a = 1 ∨ a = 2 ∨ a = 3 := by omega
  rcases this with rfl | rfl | rfl | rfl <;> decide +kernel
theorem join_some (sep : Str) : ∀ (q : Str) (qs : List Str), q.length ≤ (Str.join sep (q :: qs)).length
  | q, [] => Nat.le_refl _
  | q, q2 :: r => by
    show q.length ≤ (q ++ sep ++ Str.join sep (q2 :: r)).length
    rw [Str.length_append, Str.length_append]; omega
theorem rowText_ok {r : List Int} (h1 : r ≠ []) (h4 : r.length ≤ 4) (ha : ∀ a ∈ r, 0 ≤ a ∧ a < 4) : PartOk (rowText r) := by
  refine ⟨Nat.le_trans (rowText_len5 r) (by omega), ?_, rowText_free r⟩
  match r, h1 with
  | a :: r, _ =>
    have h2 := join_some "->" (nm a) (r.map nm)
    have h3 := nm_some (ha a (.head _))
    unfold rowText
    rw [List.map_cons]
    omega
theorem unknown_ok : PartOk "B$7" := ⟨by decide +kernel, by decide +kernel, by decide +kernel⟩
theorem good_row {many : Nat} {good : List (List Int)} (hG : GoodRows many good) {r : List Int} (hr : r ∈ good) : r ≠ [] ∧ r.length ≤ 3 := by
  obtain ⟨_, _, ⟨n, h1, h3, hw⟩, _⟩ := hG
  have := hw r hr
  exact ⟨fun e => by rw [e] at this; simp at this; omega, by omega⟩
theorem parts_ok {many : Nat} {good : List (List Int)} {bad : Option Str} (hm1 : 1 ≤ many) (hm4 : many ≤ 4) (hG : GoodRows many good) (hB : ∀ b, bad = some b → BadPart good b) : ∀ p ∈ good.map rowText ++ bad.toList, PartOk p := by
  have hat : ∀ r ∈ good, ∀ a ∈ r, 0 ≤ a ∧ a < 4 := fun r hr a ha => by have := hG.atoms r hr a ha; omega
  intro p hp
  rcases List.mem_append.mp hp with hp | hp
  · obtain ⟨r, hr, rfl⟩ := List.mem_map.mp hp
    have := good_row hG hr
    exact rowText_ok this.1 (by omega) (hat r hr)
  · have hb : bad = some p := by cases e : bad with
      | none => rw [e] at hp; simp at hp
      | some b => rw [e] at hp; simp at hp; rw [hp]
    cases hB p hb with
    | unknown => exact unknown_ok
    | @twice r rest e =>
      have hr : r ∈ good := by rw [e]; exact .head _
      have := good_row hG hr
      exact rowText_ok this.1 (by omega) (hat r hr)
    | @longer r rest e =>
      have hr : r ∈ good := by rw [e]; exact .head _
      have := good_row hG hr
      exact rowText_ok (by simp) (by simp; omega) fun a ha => by
        rcases List.mem_append.mp ha with h | h
        · exact hat r hr a h
        · rw [List.mem_singleton.mp h]; omega
theorem parts_few {many : Nat} {good : List (List Int)} {bad : Option Str} (hG : GoodRows many good) : (good.map rowText ++ bad.toList).length ≤ 5 := by
  have := hG.few
  cases bad <;> simp <;> omega
theorem parts_split {texts : List Str} (h : ∀ p ∈ texts, PartOk p) (hne : texts ≠ []) : Txt.split (Str.join ", " texts) ", " = texts :=
  split_join (c0 := 44) (yt := [32]) (by decide +kernel) (by decide +kernel) hne fun q hq hc => ((h q hq).free _ hc).1 rfl
theorem parts_len {texts : List Str} (h : ∀ p ∈ texts, PartOk p) (h5 : texts.length ≤ 5) : (Str.join ", " texts).length ≤ 110 := by
  have h1 := join_len ", " texts
  have h2 := sum_le_of texts 20 (fun y hy => (h y hy).short)
  have h3 : (", " : Str).length = 2 := by decide +kernel
  rw [h3] at h1
  omega
theorem parts_ne {texts : List Str} (h : ∀ p ∈ texts, PartOk p) (hne : texts ≠ []) : Str.join ", " texts ≠ "" := by
  match texts, hne with
  | q :: qs, _ =>
    intro e
    have h1 := join_some ", " q qs
    have h2 := (h q (.head _)).some
    rw [e] at h1
    have : ("" : Str).length = 0 := by decide +kernel
    omega
theorem row_len {mark : Str} {texts : List Str} (h : ∀ p ∈ texts, PartOk p) (h5 : texts.length ≤ 5) (hm : mark.length ≤ 10) : (rowStr mark texts).length ≤ 130 := by
  have h1 := parts_len h h5
  have h2 : ("={" : Str).length = 2 := by decide +kernel
  have h3 : ("}" : Str).length = 1 := by decide +kernel
  unfold rowStr
  rw [Str.length_append, Str.length_append, Str.length_append, h2, h3]
  omega
end

-- part R1
section
open PySem PySem.W PyProof.Rows PyProof.V PySem.Spec
set_option rowWalk.seconds 0
variable {w : World} {mean : ExcName → Option Value} {mg mb : Str → Option Value} {loose : List Str}
    {dp un : Nat} {gd : Option (List Code)} {cn : Str} {cs : Scope} {a : Addr} {ccd : Value} {cl : List (Str × Addr)} {outer : List Env} {A₀ : Around} {base h₀ : Heap} {L : Addr} {m : Str → Option Value} {news : List (Addr × Obj)} {s : Shared}
    {Q E : Value → Shared → Prop}
theorem rows_R1_1 : True := by
  k_with_none
  (k_with "k_room" => first | exact room1 (by assumption) rfl | exact room2 (by assumption) rfl | exact room3 (by assumption) rfl | ktr_room)
  (k_with "k_units" => first | exact room1 (by assumption) rfl | exact room2 (by assumption) rfl | exact room3 (by assumption) rfl | ktr_units)
  (k_with "k_mem" => assumption)
  (k_with "k_mem" => exact Above.sub (by with_reducible assumption) _ (by assumption))
  (k_with "cell_enter" => refine code_defC (by k_asm) (by k_asm) (by k_asm) (by k_asm) (by k_asm) (by exact rfl) (by exact rfl) (by assumption) (by k_is) (by k_is) (by k_room) (by exact BindsTo.of_eq rfl) (by exact rfl) (by decide +kernel) ?_ (by exact rfl) (by exact rfl) (by exact rfl); k_whole; intro _ _ _ _ _ _ _ N'_w9 Y'_w9 B'_w9 _ _ l1_w9; (try k_lt l1_w9); k_cells Y'_w9; (try simp only [List.cons_append, List.nil_append] at N'_w9); (try dsimp only); (try k_lift B'_w9); (try k_fold))
  (k_with "k_all" => assumption)
  (k_with "call builtin:len" => k_here; (with_reducible show wpAny _ _ (call (Value.builtin "len") [Value.str _ _]) _ _ _); k_dflt (refine len_str (by omega) ?_))
  (k_with "eval Name" => k_here; k_dflt (refine ld (by k_asm) (by first | exact rfl | assumption) ?_; k_whole))
  (k_with "exec Raise some none" => k_here; k_dflt (refine exec_raise_TF (by exact rfl) ?_))
  (k_with "call ref" => k_here; (with_reducible show wpAny _ _ (call (Value.ref 88) _) _ _ _); k_dflt (refine call_TF (by k_asm) (by k_asm) (by k_asm) (by k_asm) (by k_asm) (by exact rfl) (by k_room) (by k_units) ?_); intro _ _ _ _ _ _ _ _ _ _ _)
  (k_with "joinParts" => k_here; (first | (with_reducible show wpAny _ _ (joinParts _ []) _ _ _) | (with_reducible show wpAny _ _ (joinParts _ (evalEach [] _)) _ _ _)); k_dflt (refine joinParts_nil ?_ (by have h1_w9 := lit_twice; have h2_w9 := lit_many; have h3_w9 := lit_row; have h4_w9 := lit_wanted; have h5_w9 := lit_rows; have h6_w9 := empty_len; rw [sizeLine_eq]; simp only [Str.length_append]; omega)))
  (k_with "And" => (with_reducible show Str.length _ ≤ _ ∧ wpAny _ _ (joinParts _ _) _ _ _); (refine ⟨by have h1_w9 := lit_twice; have h2_w9 := lit_many; have h3_w9 := lit_row; have h4_w9 := lit_wanted; have h5_w9 := lit_rows; have h6_w9 := empty_len; rw [sizeLine_eq]; simp only [Str.length_append]; omega, ?_⟩))
  (k_with "And" => (with_reducible show Str.length _ ≤ _ ∧ wpAny _ _ (joinParts _ (evalEach [] _)) _ _ _); (refine ⟨by have h1_w9 := lit_twice; have h2_w9 := lit_many; have h3_w9 := lit_row; have h4_w9 := lit_wanted; have h5_w9 := lit_rows; have h6_w9 := empty_len; rw [sizeLine_eq]; simp only [Str.length_append]; omega, joinParts_nilE (joinParts_nil ?_ (by have h1_w9 := lit_twice; have h2_w9 := lit_many; have h3_w9 := lit_row; have h4_w9 := lit_wanted; have h5_w9 := lit_rows; have h6_w9 := empty_len; rw [sizeLine_eq]; simp only [Str.length_append]; omega))⟩))
  (k_with "call builtin:str.startswith" => k_here; (with_reducible show wpAny _ _ (call (Value.builtin "str.startswith") [Value.str _ _, Value.str _ _]) _ _ _); first | (refine starts_yes (by assumption) ?_) | (refine starts_no (by assumption) ?_))
  (k_with "call builtin:str.endswith" => k_here; (with_reducible show wpAny _ _ (call (Value.builtin "str.endswith") [Value.str _ _, Value.str _ _]) _ _ _); first | (refine ends_yes (by assumption) ?_) | (refine ends_no (by assumption) ?_))
  (k_with "subscriptTail Name Slice str ref" => k_here; first | ((with_reducible show wpAny _ _ (subscriptTail _ (Expr.Slice (some _) (some _) none _) _ _) _ _ _); (refine slice_is (s := ⟨_, _, _, _, _⟩) (by k_asm) (by k_asm) (by assumption) (by assumption) ?_ (by with_unfolding_all rfl) (by (intro _; with_unfolding_all rfl)))) | ((with_reducible show wpAny _ _ (subscriptTail _ (Expr.Slice none (some _) none _) _ _) _ _ _); (refine slice_pre (s := ⟨_, _, _, _, _⟩) (by k_asm) (by k_asm) (by assumption) (by assumption) ?_ (by with_unfolding_all rfl) (by (intro _; with_unfolding_all rfl)))); intro _ _ _ _ _)
  (k_with "call ref" => k_here; (with_reducible show wpAny _ _ (call (Value.ref 138) _) _ _ _); first | k_dflt (refine members_empty (by k_asm) (by k_asm) (by k_asm) (by k_asm) (by k_asm) (by exact rfl) (by k_room) (by k_units) ?_) | k_dflt (refine members_tells (by k_asm) (by k_asm) (by k_asm) (by k_asm) (by k_asm) (by exact rfl) (by k_room) (by k_units) (by exact ReaderAt.mono (by assumption) (by intro _ _; (repeat refine List.Mem.tail _ ?_); assumption)) (by assumption) (by assumption) (by assumption) (by assumption) (by assumption) (by assumption) (by assumption) ?_ ?_))
  trivial
theorem row_tells {rd dx ad : Addr} {e1 : Int} {t1 tm tt ts : Tok} {kk : Nat} {oa : Obj} {kvs : List (Str × Value)} {many : Nat} {mark : Str} {sp : Int} {good : List (List Int)} {bad : Option Str}
    (B : Below A₀ base outer h₀) (F : Fr h₀ L s.heap m) (X : (Mine.hd.heap_1 w.params).In h₀) (N : News h₀ L s.heap news) (T : Top V loose mean mg mb h₀) (hk : cs.kind = .function)
    (hd : dp + 16 < recursionLimit) (hu : un + 300 < cLine)
    (hR : ReaderAt w news rd dx ad e1 t1 kk oa kvs many) (hm1 : 1 ≤ many) (hm4 : many ≤ 4) (hml : mark.length ≤ 10)
    (hG : GoodRows many good) (hB : ∀ b, bad = some b → BadPart good b)
    (hret : bad = none → ∀ t us k rs' nw h' tk', Fr h₀ L h' m → News h₀ L h' ((t, tupOf us k) :: nw) → Above news nw → (∀ p ∈ nw, p.1 < t) → NewDat news nw us (rs'.map rowD) → rs'.Perm good → RowsSorted rs' → Q (.ref t) { s with heap := h', toks := tk' })
    (hraise : ∀ b, bad = some b → ∀ e g dx' od h' tk', Fr h₀ L g m → SpotIn (sp + (mark.length + 2) + partsLen (good.map rowText)) od → RaisedD base g (envX cn cs L a ccd cl :: outer) e dx' ((dx', od) :: news) h' → g.UpToSlots h' → E (.ref e) { s with heap := h', toks := tk' }) :
    wpAny (model P w) (ktrTop dp un gd cn cs L a ccd cl outer) (call (.ref 145) [.ref rd, .str mark tm, .str (rowStr mark (good.map rowText ++ bad.toList)) tt, .int sp ts]) Q E s := by
  w_on
  obtain ⟨q1, q2, q3, _, _, _⟩ := id hR
  have htx := parts_ok hm1 hm4 hG hB
  have hfew := parts_few (bad := bad) hG
  have hst := row_starts mark (good.map rowText ++ bad.toList)
  have hen := row_ends mark (good.map rowText ++ bad.toList)
  have hsl := row_slice mark (good.map rowText ++ bad.toList)
  have hxl := row_len htx hfew hml
  have hjl := parts_len htx hfew
  have hsp := parts_split htx
  have hjn := parts_ne htx
  have hopl : (mark ++ "={").length = mark.length + 2 := by rw [Str.length_append]; rfl
  generalize rowStr mark (good.map rowText ++ bad.toList) = x at *
  have hxl : x.length ≤ sizeLine := by rw [sizeLine_eq]; omega
  have hol : (mark ++ "={").length ≤ sizeLine := by rw [sizeLine_eq]; omega
  by_cases hte : good.map rowText ++ bad.toList = []
  · have hg0 : good = [] := by simpa using (List.append_eq_nil_iff.mp hte).1
    have hb0 : bad = none := by cases e : bad with
      | none => rfl
      | some b => rw [e] at hte; simp at hte
    rw [hte] at hsl
    have he : Str.join ", " ([] : List Str) = "" := by decide +kernel
    rw [he] at hsl
    refine wpAny_call ?_
    k_dflt cell_enter
    w_strict k_steps
    rename Fr h₀ L _ _ => kF
    rename News h₀ L _ _ => kN
    rename (∀ p ∈ news, p.1 < _) => l9
    exact hret hb0 _ _ _ _ _ _ _ kF kN Above.refl l9 ⟨[], .nil, (fun _ h => nomatch h), fun _ h => nomatch h⟩ (by rw [hg0]) List.Pairwise.nil
  · have hjl2 : (Str.join ", " (good.map rowText ++ bad.toList)).length + 2 ≤ sizeLine := by rw [sizeLine_eq]; omega
    have hsp := hsp hte
    have hjn := hjn hte
    generalize Str.join ", " (good.map rowText ++ bad.toList) = J at *
    refine wpAny_call ?_
    k_dflt cell_enter
    w_strict k_steps
    · rename Fr h₀ L _ _ => kF
      rename News h₀ L _ _ => kN
      rename (bad = none) => hbb
      rename Above news _ => ka
      rename NewDat _ _ _ _ => kD
      rename List.Perm _ _ => kp
      rename RowsSorted _ => ks
      rename (∀ p ∈ (_ : List (Addr × Obj)), p.1 < _) => l9
      exact hret hbb _ _ _ _ _ _ _ kF kN ka l9 kD kp ks
    · rename (bad = some _) => hbb
      rename Below _ base _ _ => kB
      rename RaisedD _ _ _ _ _ _ _ => kR
      rename SpotIn _ _ => kS
      rename Heap.UpToSlots _ _ => kU
      rename Fr h₀ L _ _ => kG
      rename Fr _ _ _ _ => kF
      refine leave_onT (news := news) rfl kB kF kR kU (fun p hp => hp) fun h3 R3 U3 => ?_
      refine hraise _ hbb _ _ _ _ _ _ kG ?_ R3 U3
      rw [hopl] at kS
      exact kS
end

-- part R2
section
open PySem PySem.W PyProof.Rows PyProof.V PySem.Spec
set_option rowWalk.seconds 0
variable {w : World} {mean : ExcName → Option Value} {mg mb : Str → Option Value} {loose : List Str}
    {dp un : Nat} {gd : Option (List Code)} {cn : Str} {cs : Scope} {a : Addr} {ccd : Value} {cl : List (Str × Addr)} {outer : List Env} {A₀ : Around} {base h₀ : Heap} {L : Addr} {m : Str → Option Value} {news : List (Addr × Obj)} {s : Shared}
    {Q E : Value → Shared → Prop}
theorem rows_R2_1 : True := by
  k_with_none
  (k_with "k_room" => first | exact room1 (by assumption) rfl | exact room2 (by assumption) rfl | exact room3 (by assumption) rfl | ktr_room)
  (k_with "k_units" => first | exact room1 (by assumption) rfl | exact room2 (by assumption) rfl | exact room3 (by assumption) rfl | ktr_units)
  (k_with "k_mem" => assumption)
  (k_with "k_mem" => exact Above.sub (by with_reducible assumption) _ (by assumption))
  (k_with "cell_enter" => refine code_defC (by k_asm) (by k_asm) (by k_asm) (by k_asm) (by k_asm) (by exact rfl) (by exact rfl) (by assumption) (by k_is) (by k_is) (by k_room) (by exact BindsTo.of_eq rfl) (by exact rfl) (by decide +kernel) ?_ (by exact rfl) (by exact rfl) (by exact rfl); k_whole; intro _ _ _ _ _ _ _ N'_w9 Y'_w9 B'_w9 _ _ l1_w9; (try k_lt l1_w9); k_cells Y'_w9; (try simp only [List.cons_append, List.nil_append] at N'_w9); (try dsimp only); (try k_lift B'_w9); (try k_fold))
  (k_with "k_all" => assumption)
  (k_with "call builtin:len" => k_here; (with_reducible show wpAny _ _ (call (Value.builtin "len") [Value.str _ _]) _ _ _); k_dflt (refine len_str (by omega) ?_))
  (k_with "eval Name" => k_here; k_dflt (refine ld (by k_asm) (by first | exact rfl | assumption) ?_; k_whole))
  (k_with "exec Raise some none" => k_here; k_dflt (refine exec_raise_TF (by exact rfl) ?_))
  (k_with "call ref" => k_here; (with_reducible show wpAny _ _ (call (Value.ref 88) _) _ _ _); k_dflt (refine call_TF (by k_asm) (by k_asm) (by k_asm) (by k_asm) (by k_asm) (by exact rfl) (by k_room) (by k_units) ?_); intro _ _ _ _ _ _ _ _ _ _ _)
  (k_with "joinParts" => k_here; (first | (with_reducible show wpAny _ _ (joinParts _ []) _ _ _) | (with_reducible show wpAny _ _ (joinParts _ (evalEach [] _)) _ _ _)); k_dflt (refine joinParts_nil ?_ (by have h1_w9 := lit_twice; have h2_w9 := lit_many; have h3_w9 := lit_row; have h4_w9 := lit_wanted; have h5_w9 := lit_rows; have h6_w9 := empty_len; rw [sizeLine_eq]; simp only [Str.length_append]; omega)))
  (k_with "And" => (with_reducible show Str.length _ ≤ _ ∧ wpAny _ _ (joinParts _ _) _ _ _); (refine ⟨by have h1_w9 := lit_twice; have h2_w9 := lit_many; have h3_w9 := lit_row; have h4_w9 := lit_wanted; have h5_w9 := lit_rows; have h6_w9 := empty_len; rw [sizeLine_eq]; simp only [Str.length_append]; omega, ?_⟩))
  (k_with "And" => (with_reducible show Str.length _ ≤ _ ∧ wpAny _ _ (joinParts _ (evalEach [] _)) _ _ _); (refine ⟨by have h1_w9 := lit_twice; have h2_w9 := lit_many; have h3_w9 := lit_row; have h4_w9 := lit_wanted; have h5_w9 := lit_rows; have h6_w9 := empty_len; rw [sizeLine_eq]; simp only [Str.length_append]; omega, joinParts_nilE (joinParts_nil ?_ (by have h1_w9 := lit_twice; have h2_w9 := lit_many; have h3_w9 := lit_row; have h4_w9 := lit_wanted; have h5_w9 := lit_rows; have h6_w9 := empty_len; rw [sizeLine_eq]; simp only [Str.length_append]; omega))⟩))
  (k_with "call builtin:str.startswith" => k_here; (with_reducible show wpAny _ _ (call (Value.builtin "str.startswith") [Value.str _ _, Value.str _ _]) _ _ _); first | (refine starts_yes (by assumption) ?_) | (refine starts_no (by assumption) ?_))
  (k_with "call builtin:str.endswith" => k_here; (with_reducible show wpAny _ _ (call (Value.builtin "str.endswith") [Value.str _ _, Value.str _ _]) _ _ _); first | (refine ends_yes (by assumption) ?_) | (refine ends_no (by assumption) ?_))
  trivial
theorem row_refuses {rd : Addr} {tm tt ts : Tok} {mark x : Str} {sp : Int}
    (B : Below A₀ base outer h₀) (F : Fr h₀ L s.heap m) (X : (Mine.hd.heap_1 w.params).In h₀) (N : News h₀ L s.heap news) (T : Top V loose mean mg mb h₀) (hk : cs.kind = .function)
    (hd : dp + 16 < recursionLimit) (hu : un + 300 < cLine) (hml : mark.length ≤ 10) (hsh : Txt.startswith x (mark ++ "={") = false ∨ Txt.startswith x (mark ++ "={") = true ∧ Txt.endswith x "}" = false)
    (hraise : ∀ e g dx' od h' tk', Fr h₀ L g m → SpotIn sp od → RaisedD base g (envX cn cs L a ccd cl :: outer) e dx' ((dx', od) :: news) h' → g.UpToSlots h' → E (.ref e) { s with heap := h', toks := tk' }) :
    wpAny (model P w) (ktrTop dp un gd cn cs L a ccd cl outer) (call (.ref 145) [.ref rd, .str mark tm, .str x tt, .int sp ts]) Q E s := by
  w_on
  rcases hsh with hst | ⟨hst, hen⟩
  all_goals
    refine wpAny_call ?_
    k_dflt cell_enter
    w_strict k_steps
    rename (Mine.hd.heap_1 w.params).In _ => kX
    rename Below _ base _ _ => kB
    rename News _ _ _ _ => kN
    rename SpotIn _ _ => kS
    rename (∀ p ∈ news, _ ≠ _) => kn
    rename Fr h₀ L _ _ => kG
    rename Fr _ _ _ _ => kF
    rename (_ < _) => kl
    refine ⟨_, _, _, rfl, c88_at (kX.keeps kF.keep), (kN _ (.tail _ (.head _))).1, ?_⟩
    refine raise_outT (news := news) rfl rfl kB kF kN kn kl (fun p hp => hp) fun h3 R3 U3 => ?_
    exact hraise _ _ _ _ _ _ kG kS R3 U3
end

-- part I1
section
open PySem PySem.W PyProof.Rows PyProof.V PySem.Spec
set_option rowWalk.seconds 0
variable {w : World} {mean : ExcName → Option Value} {mg mb : Str → Option Value} {loose : List Str}
    {dp un : Nat} {gd : Option (List Code)} {cn : Str} {cs : Scope} {a : Addr} {ccd : Value} {cl : List (Str × Addr)} {outer : List Env} {A₀ : Around} {base h₀ : Heap} {L : Addr} {m : Str → Option Value} {news : List (Addr × Obj)} {s : Shared}
    {Q E : Value → Shared → Prop}
theorem rows_I1_1 : True := by
  k_with_none
  (k_with "k_room" => first | exact room1 (by assumption) rfl | exact room2 (by assumption) rfl | exact room3 (by assumption) rfl | ktr_room)
  (k_with "k_units" => first | exact room1 (by assumption) rfl | exact room2 (by assumption) rfl | exact room3 (by assumption) rfl | ktr_units)
  (k_with "k_mem" => assumption)
  (k_with "cell_enter" => refine code_defC (by k_asm) (by k_asm) (by k_asm) (by k_asm) (by k_asm) (by exact rfl) (by exact rfl) (by assumption) (by k_is) (by k_is) (by k_room) (by exact BindsTo.of_eq rfl) (by exact rfl) (by decide +kernel) ?_ (by exact rfl) (by exact rfl) (by exact rfl); k_whole; intro _ _ _ _ _ _ _ N'_w9 Y'_w9 B'_w9 _ _ l1_w9; (try k_lt l1_w9); k_cells Y'_w9; (try simp only [List.cons_append, List.nil_append] at N'_w9); (try dsimp only); (try k_lift B'_w9); (try k_fold))
  (k_with "k_all" => assumption)
  (k_with "call builtin:len" => k_here; (with_reducible show wpAny _ _ (call (Value.builtin "len") [Value.ref _]) _ _ _); k_dflt (first | (refine len_L (by k_asm) (by k_mem) (by assumption) (by omega) ?_) | (refine len_T (by k_asm) (by k_mem) (by assumption) (by omega) ?_)); intro _ _)
  (k_with "eval DictComp" => k_dflt (refine dictComp_range (by k_asm) (by with_unfolding_all rfl) (by decide) (by rfl) (by decide) (by rfl) ?_))
  trivial
theorem reader_made {h : Heap} {D x d : Addr} {oD o1 o2 : Obj} {c9 : Addr × Obj} (N : News h₀ L h ((D, oD) :: c9 :: (x, o1) :: (d, o2) :: news)) : News h₀ L h ((x, o1) :: (d, o2) :: (D, oD) :: news) := fun p hp => N p (by
  simp only [List.mem_cons] at hp ⊢
  rcases hp with h | h | h | h
  · exact .inr (.inr (.inl h))
  · exact .inr (.inr (.inr (.inl h)))
  · exact .inl h
  · exact .inr (.inr (.inr (.inr h))))
theorem reader_tells {u dx nt nd : Addr} {e1 e2 : Int} {t1 t2 : Tok} {kk k3 : Nat} {nvs : List Value} {many : Nat}
    (B : Below A₀ base outer h₀) (F : Fr h₀ L s.heap m) (X : (Mine.hd.heap_1 w.params).In h₀) (N : News h₀ L s.heap news) (T : Top V loose mean mg mb h₀) (hk : cs.kind = .function)
    (hd : dp + 6 < recursionLimit) (hu : un + 100 < cLine)
    (hU : UnivAt news u dx nt nd e1 e2 t1 t2 kk k3 nvs many) (hm1 : 1 ≤ many) (hm4 : many ≤ 4)
    (hret : ∀ rd dx' ad e1' t1' kk' oa kvs nw h' tk', Fr h₀ L h' m → News h₀ L h' nw → Above news nw → ReaderAt w nw rd dx' ad e1' t1' kk' oa kvs many → Q (.ref rd) { s with heap := h', toks := tk' }) :
    wpAny (model P w) (ktrTop dp un gd cn cs L a ccd cl outer) (call (.ref 148) [.ref u] []) Q E s := by
  w_on
  obtain ⟨q1, q2, q3, hnv⟩ := hU
  have hnl : nvs.length = many := by rw [StrsAre.length hnv, List.length_take]; exact Nat.min_eq_left (by simpa [names] using hm4)
  k_dflt (refine' call_cls ?k1 ?k2 ?k3 ?k4 ?k5 ?k6 ?_; (case k1 => k_asm); (case k2 => k_asm); (case k3 => k_asm); (case k4 => k_is); (case k5 => k_is); (case k6 => k_is); k_whole; intro x' d' h' F' N' l1 l2; (have n1 : ∀ p ∈ news, p.1 ≠ d' := fun p hp => Nat.ne_of_lt (l1 p hp)); (have n2 : ∀ p ∈ news, p.1 < d' := l1); (try k_lt l1); (try k_lt2 l2); cell_enter)
  w_strict k_steps
  rename IsRange _ _ _ _ _ _ _ _ => hir
  rename Fr _ _ _ _ => lF
  rename News _ _ _ _ => lN
  have hmc : many = 1 ∨ many = 2 ∨ many = 3 ∨ many = 4 := by omega
  refine ⟨_, _, _, _, _, many, _, fun i => nm (i : Nat), rfl, rfl, lF, lN, hir, ?_, ?_, by omega, ?_, ?_, ?_⟩
  · rcases hmc with rfl | rfl | rfl | rfl <;> rfl
  · rcases hmc with rfl | rfl | rfl | rfl <;> rfl
  · intro i j hi hj he
    have hic : i = 0 ∨ i = 1 ∨ i = 2 ∨ i = 3 := by omega
    have hjc : j = 0 ∨ j = 1 ∨ j = 2 ∨ j = 3 := by omega
    rcases hic with rfl | rfl | rfl | rfl <;> rcases hjc with rfl | rfl | rfl | rfl <;> first | rfl | (exfalso; revert he; decide +kernel)
  · rintro s₂ ⟨g9, rfl⟩ i t9 I oI C oC D oD m₂ h tk E' hi hC hx F1 N1 off ne
    refine ⟨?_, ?_⟩
    · k_steps
      rename News _ _ _ _ => kN
      have hxr : 0 ≤ ((i : Nat) : Int) ∧ ((i : Nat) : Int) < (many : Int) := by omega
      obtain ⟨t8, hx9⟩ := StrsAre.get hnv ((i : Nat) : Int).toNat (nm ((i : Nat) : Int)) (names_get hm4 hxr)
      refine item_tupleT (l := nvs) (j := ((i : Nat) : Int).toNat) (tup_at kN (.tail _ (.tail _ (.tail _ (.tail _ (.tail _ (.tail _ q3))))))) (by omega) (by omega) ?_ hx9 ?_
      · unfold seqIndex?; rw [hnl]; simp; omega
      k_steps
      all_goals first | assumption | skip
    · k_steps
      all_goals first | assumption | skip
  · intro D h tk oD kvs F1 N1 hd1 hf1 l9 l8
    have lo : (D == sysModules) = false := by
      rename Top V loose mean mg mb _ => T9
      exact beq_eq_false_iff_ne.mpr (Nat.ne_of_gt (Nat.lt_of_le_of_lt (Nat.le_of_lt (modules_low T9.nolimit)) (Nat.lt_of_le_of_lt F1.above l8)))
    have n3 : ∀ p ∈ news, p.1 < D := fun p hp => l9 p (.tail _ (.tail _ (.tail _ hp)))
    k_lt l9
    k_lt2 l8
    k_steps
    rename Fr h₀ L _ _ => kF
    rename News h₀ L _ _ => kN
    have kN2 := reader_made kN
    exact hret x' d' D _ _ _ oD kvs _ _ _ kF kN2 ((((Above.refl).cons' n3).cons' n2).cons' fun p hp => Nat.lt_trans (n2 p hp) l2) ⟨.head _, .tail _ (.head _), .tail _ (.tail _ (.head _)), hd1, hf1, lo⟩
end

-- part R3
section
open PySem PySem.W PyProof.Rows PyProof.V PySem.Spec
set_option rowWalk.seconds 0
variable {w : World} {mean : ExcName → Option Value} {mg mb : Str → Option Value} {loose : List Str}
    {dp un : Nat} {gd : Option (List Code)} {cn : Str} {cs : Scope} {a : Addr} {ccd : Value} {cl : List (Str × Addr)} {outer : List Env} {A₀ : Around} {base h₀ : Heap} {L : Addr} {m : Str → Option Value} {news : List (Addr × Obj)} {s : Shared}
    {Q E : Value → Shared → Prop}
/-- what a reader makes of one row -/
inductive RowOut (many : Nat) (mark : Str) : Str → Except Int (List (List Int)) → Prop
  | good {rows : List (List Int)} : GoodRows many rows → RowOut many mark (rowStr mark (rows.map rowText)) (.ok rows)
  | bad {rows : List (List Int)} {b : Str} : GoodRows many rows → BadPart rows b → RowOut many mark (rowStr mark (rows.map rowText ++ [b])) (.error (mark.length + 2 + partsLen (rows.map rowText)))
  | shape {x : Str} : (Txt.startswith x (mark ++ "={") = false ∨ Txt.startswith x (mark ++ "={") = true ∧ Txt.endswith x "}" = false) → RowOut many mark x (.error 0)
theorem row_any {rd dx ad : Addr} {e1 : Int} {t1 tm tt ts : Tok} {kk : Nat} {oa : Obj} {kvs : List (Str × Value)} {many : Nat} {mark x : Str} {sp : Int} {r : Except Int (List (List Int))}
    (B : Below A₀ base outer h₀) (F : Fr h₀ L s.heap m) (X : (Mine.hd.heap_1 w.params).In h₀) (N : News h₀ L s.heap news) (T : Top V loose mean mg mb h₀) (hk : cs.kind = .function)
    (hd : dp + 16 < recursionLimit) (hu : un + 300 < cLine)
    (hR : ReaderAt w news rd dx ad e1 t1 kk oa kvs many) (hm1 : 1 ≤ many) (hm4 : many ≤ 4) (hml : mark.length ≤ 10) (hO : RowOut many mark x r)
    (hret : ∀ rows, r = .ok rows → ∀ t us k rs' nw h' tk', Fr h₀ L h' m → News h₀ L h' ((t, tupOf us k) :: nw) → Above news nw → (∀ p ∈ nw, p.1 < t) → NewDat news nw us (rs'.map rowD) → rs'.Perm rows → RowsSorted rs' → Q (.ref t) { s with heap := h', toks := tk' })
    (hraise : ∀ off, r = .error off → ∀ e g dx' od h' tk', Fr h₀ L g m → SpotIn (sp + off) od → RaisedD base g (envX cn cs L a ccd cl :: outer) e dx' ((dx', od) :: news) h' → g.UpToSlots h' → E (.ref e) { s with heap := h', toks := tk' }) :
    wpAny (model P w) (ktrTop dp un gd cn cs L a ccd cl outer) (call (.ref 145) [.ref rd, .str mark tm, .str x tt, .int sp ts]) Q E s := by
  cases hO with
  | @good rows hG =>
    have e : rows.map rowText = rows.map rowText ++ (none : Option Str).toList := by simp
    rw [e]
    exact row_tells B F X N T hk hd hu hR hm1 hm4 hml hG (fun b hb => by cases hb) (fun _ t us k rs' nw h' tk' a b c d e f g => hret rows rfl t us k rs' nw h' tk' a b c d e f g) (fun b hb => by cases hb)
  | @bad rows b hG hB =>
    have e : rows.map rowText ++ [b] = rows.map rowText ++ (some b).toList := rfl
    rw [e]
    refine row_tells B F X N T hk hd hu hR hm1 hm4 hml hG (fun b' hb => by cases hb; exact hB) (fun hb => by cases hb) (fun b' hb e g dx' od h' tk' a1 a2 a3 a4 => ?_)
    refine hraise _ rfl e g dx' od h' tk' a1 ?_ a3 a4
    have e2 : sp + (mark.length + 2) + partsLen (rows.map rowText) = sp + (mark.length + 2 + partsLen (rows.map rowText)) := by omega
    rw [← e2]; exact a2
  | shape hs =>
    refine row_refuses B F X N T hk hd hu hml hs (fun e g dx' od h' tk' a1 a2 a3 a4 => hraise 0 rfl e g dx' od h' tk' a1 ?_ a3 a4)
    rw [Int.add_zero]; exact a2
/-- the lines that read_instance sees -/
def linesOf (text : Str) : List Str := if text = "" then [] else Txt.split text "\n"
def linesLen (ls : List Str) : Int := (ls.map fun p => (p.length + 1 : Int)).sum
inductive ReadOut (many : Nat) (marks : List Str) (text : Str) : Except Int (List (List (List Int))) → Prop
  | count : (linesOf text).length ≠ marks.length → ReadOut many marks text (.error text.length)
  | good {rels : List (List (List Int))} : (linesOf text).length = marks.length → rels.length = marks.length →
      (∀ (i : Nat) mk ln rel, marks[i]? = some mk → (linesOf text)[i]? = some ln → rels[i]? = some rel → RowOut many mk ln (.ok rel)) → ReadOut many marks text (.ok rels)
  | fault {rels : List (List (List Int))} {mk ln : Str} {off : Int} : (linesOf text).length = marks.length → marks[rels.length]? = some mk → (linesOf text)[rels.length]? = some ln →
      (∀ (i : Nat) mk ln rel, marks[i]? = some mk → (linesOf text)[i]? = some ln → rels[i]? = some rel → RowOut many mk ln (.ok rel)) → RowOut many mk ln (.error off) →
      ReadOut many marks text (.error (linesLen ((linesOf text).take rels.length) + off))
/-- each relation of the one is a sorted row of the other's tuples -/
inductive Sorts : List (List (List Int)) → List (List (List Int)) → Prop
  | nil : Sorts [] []
  | cons {r' r : List (List Int)} {rs' rs : List (List (List Int))} : r'.Perm r → RowsSorted r' → Sorts rs' rs → Sorts (r' :: rs') (r :: rs)
theorem Sorts.snoc {rs' rs : List (List (List Int))} {r' r : List (List Int)} (h : Sorts rs' rs) (hp : r'.Perm r) (hs : RowsSorted r') : Sorts (rs' ++ [r']) (rs ++ [r]) := by
  induction h with
  | nil => exact .cons hp hs .nil
  | cons a b _ ih => exact .cons a b ih
theorem Sorts.length {rs' rs : List (List (List Int))} (h : Sorts rs' rs) : rs'.length = rs.length := by
  induction h with
  | nil => rfl
  | cons _ _ _ ih => simp [ih]
end

-- part R5
section
open PySem PySem.W PyProof.Rows PyProof.V PySem.Spec
set_option rowWalk.seconds 0
variable {w : World} {mean : ExcName → Option Value} {mg mb : Str → Option Value} {loose : List Str}
    {dp un : Nat} {gd : Option (List Code)} {cn : Str} {cs : Scope} {a : Addr} {ccd : Value} {cl : List (Str × Addr)} {outer : List Env} {A₀ : Around} {base h₀ : Heap} {L : Addr} {m : Str → Option Value} {news : List (Addr × Obj)} {s : Shared}
    {Q E : Value → Shared → Prop}
theorem datAll_rows {nw nw' : List (Addr × Obj)} {vs : List Value} : ∀ {rs : List (List Int)}, DatAll nw vs (rs.map rowD) → (∀ a us k, (a, tupOf us k) ∈ nw → (a, tupOf us k) ∈ nw') → DatAll nw' vs (rs.map rowD) := by
  intro rs
  induction rs generalizing vs with
  | nil => intro h _; cases h; exact .nil
  | cons r rs ih =>
    intro h hm
    cases h with
    | cons h1 h2 =>
      refine .cons ?_ (ih h2 hm)
      cases h1 with
      | tuple a b => exact .tuple (hm _ _ _ a) (ints_datAll (datAll_ints b))
/-- a good row, read in a loop that keeps its list at fl -/
theorem row_ok {rd dx ad fl : Addr} {e1 : Int} {t1 tm tt ts : Tok} {kk c : Nat} {oa : Obj} {vs : List Value} {kvs : List (Str × Value)} {many : Nat} {mark x : Str} {sp : Int} {rows : List (List Int)}
    (B : Below A₀ base outer h₀) (F : Fr h₀ L s.heap m) (X : (Mine.hd.heap_1 w.params).In h₀) (N : News h₀ L s.heap news) (T : Top V loose mean mg mb h₀) (hk : cs.kind = .function)
    (hd : dp + 16 < recursionLimit) (hu : un + 300 < cLine)
    (hR : ReaderAt w news rd dx ad e1 t1 kk oa kvs many) (hm1 : 1 ≤ many) (hm4 : many ≤ 4) (hml : mark.length ≤ 10) (hfl : (fl, PySem.W.listOf vs.toArray c) ∈ news) (hO : RowOut many mark x (.ok rows))
    (hret : ∀ t us k rs' nn rest h' tk', Fr h₀ L h' m → News h₀ L h' ((t, tupOf us k) :: (fl, PySem.W.listOf vs.toArray c) :: rest) → (∀ p ∈ rest, p.1 ≠ fl) → (∀ p ∈ news, p.1 ≠ fl → p ∈ rest) → (∀ p ∈ nn, p ∈ rest) → (∀ p ∈ nn, ∀ q ∈ news, q.1 < p.1) → (∀ q ∈ news, q.1 < t) → @Ne Nat t fl →
      DatAll nn us (rs'.map rowD) → rs'.Perm rows → RowsSorted rs' → Q (.ref t) { s with heap := h', toks := tk' }) :
    wpAny (model P w) (ktrTop dp un gd cn cs L a ccd cl outer) (call (.ref 145) [.ref rd, .str mark tm, .str x tt, .int sp ts]) Q E s := by
  refine row_any B F X N T hk hd hu hR hm1 hm4 hml hO (fun rows' hr t us k rs' nw h' tk' F' N' ha l9 hD hp hs => ?_) (fun off hr => by cases hr)
  cases hr
  obtain ⟨nn, d1, d2, d3⟩ := hD
  have hmem : (fl, PySem.W.listOf vs.toArray c) ∈ nw := ha.sub _ hfl
  have Nw : News h₀ L h' nw := fun p hp => N' p (.tail _ hp)
  have N2 := News.pick Nw hmem
  refine hret t us k rs' nn (nw.filter fun p => decide (p.1 ≠ fl)) h' tk' F' (fun p hp => ?_) rest_ne (fun p hp hne => mem_rest (ha.sub p hp) hne) (fun p hp => mem_rest (d2 p hp) (Nat.ne_of_gt (d3 p hp _ hfl))) d3 (fun q hq => l9 q (ha.sub q hq)) (Nat.ne_of_gt (l9 _ hmem)) d1 hp hs
  rcases List.mem_cons.mp hp with rfl | hp
  · exact N' _ (.head _)
  · exact N2 p hp
/-- a row that is refused -/
theorem row_err {rd dx ad : Addr} {e1 : Int} {t1 tm tt ts : Tok} {kk : Nat} {oa : Obj} {kvs : List (Str × Value)} {many : Nat} {mark x : Str} {sp off : Int}
    (B : Below A₀ base outer h₀) (F : Fr h₀ L s.heap m) (X : (Mine.hd.heap_1 w.params).In h₀) (N : News h₀ L s.heap news) (T : Top V loose mean mg mb h₀) (hk : cs.kind = .function)
    (hd : dp + 16 < recursionLimit) (hu : un + 300 < cLine)
    (hR : ReaderAt w news rd dx ad e1 t1 kk oa kvs many) (hm1 : 1 ≤ many) (hm4 : many ≤ 4) (hml : mark.length ≤ 10) (hO : RowOut many mark x (.error off))
    (hraise : ∀ e g dx' od h' tk', Fr h₀ L g m → SpotIn (sp + off) od → RaisedD base g (envX cn cs L a ccd cl :: outer) e dx' ((dx', od) :: news) h' → g.UpToSlots h' → E (.ref e) { s with heap := h', toks := tk' }) :
    wpAny (model P w) (ktrTop dp un gd cn cs L a ccd cl outer) (call (.ref 145) [.ref rd, .str mark tm, .str x tt, .int sp ts]) Q E s :=
  row_any B F X N T hk hd hu hR hm1 hm4 hml hO (fun rows hr => by cases hr) (fun off' hr e g dx' od h' tk' a1 a2 a3 a4 => by cases hr; exact hraise e g dx' od h' tk' a1 a2 a3 a4)
/-- between the turns of read_instance -/
def ReadJ (w : World) (news : List (Addr × Obj)) (D fl rd dx ad : Addr) (e1 : Int) (t1 : Tok) (kk : Nat) (oa : Obj) (kvs : List (Str × Value)) (many : Nat) (sv : List Value) (lines : List Str) (rels : List (List (List Int))) (i : Nat) (m' : Str → Option Value) (nx : List (Addr × Obj)) : Prop :=
  i ≤ rels.length ∧ ∃ vs c t tl rels', NewDat news tl vs (instD rels') ∧ Sorts rels' (rels.take i) ∧ nx = (D, PySem.W.listOf sv.toArray 0) :: (fl, PySem.W.listOf vs.toArray c) :: tl ∧ Above news tl ∧ ReaderAt w tl rd dx ad e1 t1 kk oa kvs many ∧ (∀ p ∈ tl, p.1 ≠ fl) ∧
    m' "reader" = some (.ref rd) ∧ m' "spot" = some (.int (linesLen (lines.take i)) t) ∧ m' "found" = some (.ref fl)
theorem read_end {h₁ h9 : Heap} {L₁ D fl rd dx ad t9 l1 : Addr} {e1 : Int} {t1 : Tok} {kk : Nat} {oa : Obj} {kvs : List (Str × Value)} {many : Nat} {sv vs us9 xs : List Value} {lines : List Str} {ln : Str} {rels rels' : List (List (List Int))} {rel rs' : List (List Int)} {i c c9 k9 tk9 k1 : Nat} {tt : Tok} {own tl tl0 nn rest : List (Addr × Obj)} {m9 : Str → Option Value} {s₁ : Shared}
    (F : Fr h₁ L₁ h9 m9) (N : News h₁ L₁ h9 ((t9, tupOf us9 k9) :: (fl, PySem.W.listOf (vs ++ [Value.ref t9]).toArray c9) :: rest)) (hrest : ∀ p ∈ (D, PySem.W.listOf sv.toArray 0) :: (fl, PySem.W.listOf vs.toArray c) :: tl, p.1 ≠ fl → p ∈ rest) (hnn : ∀ p ∈ nn, p ∈ rest)
    (hnew : ∀ p ∈ nn, ∀ q ∈ (D, PySem.W.listOf sv.toArray 0) :: (fl, PySem.W.listOf vs.toArray c) :: tl, q.1 < p.1) (l9 : ∀ p ∈ (D, PySem.W.listOf sv.toArray 0) :: (fl, PySem.W.listOf vs.toArray c) :: tl, p.1 < t9) (hdat : DatAll nn us9 (rs'.map rowD)) (hp : rs'.Perm rel) (hs : RowsSorted rs')
    (htl : tl = tl0 ++ own) (hoff : OwnOff own (((D, PySem.W.listOf sv.toArray 0) :: (fl, PySem.W.listOf vs.toArray c) :: tl0).map (·.1))) (hDfl : D ≠ fl) (hsub : Above news tl0) (hR : ReaderAt w tl0 rd dx ad e1 t1 kk oa kvs many) (nfl : ∀ p ∈ tl0, p.1 ≠ fl) (hvs : NewDat news tl0 vs (instD rels')) (hso : Sorts rels' (rels.take i))
    (hl1 : (l1, PySem.W.listOf xs.toArray k1) ∈ news) (hrow : rels[i]? = some rel) (hln : lines[i]? = some ln) (f1 : m9 "reader" = some (.ref rd)) (f2 : m9 "spot" = some (.int (linesLen (lines.take i) + ln.length + 1) tt)) (f3 : m9 "found" = some (.ref fl)) :
    InvEndG h₁ L₁ (fun m' nx => (l1, PySem.W.listOf xs.toArray k1) ∈ nx ∧ (D, PySem.W.listOf sv.toArray 0) ∈ nx ∧ ReadJ w news D fl rd dx ad e1 t1 kk oa kvs many sv lines rels (i + 1) m' nx) own s₁ { s₁ with heap := h9, toks := tk9 } := by
  have hlt : i < rels.length := (List.getElem?_eq_some_iff.mp hrow).1
  have tl0in : ∀ p ∈ tl0, p ∈ (D, PySem.W.listOf sv.toArray 0) :: (fl, PySem.W.listOf vs.toArray c) :: tl := fun p hp => .tail _ (.tail _ (htl ▸ List.mem_append_left _ hp))
  have ownin : ∀ p ∈ own, p ∈ (D, PySem.W.listOf sv.toArray 0) :: (fl, PySem.W.listOf vs.toArray c) :: tl := fun p hp => .tail _ (.tail _ (htl ▸ List.mem_append_right _ hp))
  have hnfl : ∀ p ∈ nn, p.1 ≠ fl := fun p hp => Nat.ne_of_gt (hnew p hp _ (.tail _ (.head _)))
  have hab : Above news ((t9, tupOf us9 k9) :: (nn ++ tl0)) := by
    refine ⟨fun p hp => .tail _ (List.mem_append_right _ (hsub.1 p hp)), fun p hp => ?_⟩
    rcases List.mem_cons.mp hp with rfl | hp
    · exact .inr fun q hq => l9 q (tl0in q (hsub.1 q hq))
    · rcases List.mem_append.mp hp with hp | hp
      · exact .inr fun q hq => hnew p hp q (tl0in q (hsub.1 q hq))
      · exact hsub.2 p hp
  refine InvEndG.intro (nx := (D, PySem.W.listOf sv.toArray 0) :: (fl, PySem.W.listOf (vs ++ [Value.ref t9]).toArray c9) :: (t9, tupOf us9 k9) :: (nn ++ tl0)) F N
    ⟨.tail _ (.tail _ (hab.1 _ hl1)), .head _, hlt, vs ++ [Value.ref t9], c9, tt, (t9, tupOf us9 k9) :: (nn ++ tl0), rels' ++ [rs'], ?_, ?_, rfl, hab, hR.mono fun p hp => .tail _ (List.mem_append_right _ hp), ?_, f1, ?_, f3⟩ ?_ ?_ ?_
  · obtain ⟨n0, d1, d2, d3⟩ := hvs
    refine ⟨(t9, tupOf us9 k9) :: (nn ++ n0), ?_, ?_, ?_⟩
    · unfold instD
      rw [List.map_append]
      refine (d1.mono fun p hp => .tail _ (List.mem_append_right _ hp)).append (.one (.tuple (.head _) (hdat.mono fun p hp => .tail _ (List.mem_append_left _ hp))))
    · intro p hp
      rcases List.mem_cons.mp hp with rfl | hp
      · exact .head _
      · rcases List.mem_append.mp hp with hp | hp
        · exact .tail _ (List.mem_append_left _ hp)
        · exact .tail _ (List.mem_append_right _ (d2 p hp))
    · intro p hp q hq
      rcases List.mem_cons.mp hp with rfl | hp
      · exact l9 q (tl0in q (hsub.1 q hq))
      · rcases List.mem_append.mp hp with hp | hp
        · exact hnew p hp q (tl0in q (hsub.1 q hq))
        · exact d3 p hp q hq
  · rw [List.take_add_one, hrow]
    exact hso.snoc hp hs
  · intro p hp
    rcases List.mem_cons.mp hp with rfl | hp
    · exact Nat.ne_of_gt (l9 _ (.tail _ (.head _)))
    · rcases List.mem_append.mp hp with hp | hp
      · exact hnfl p hp
      · exact nfl p hp
  · rw [f2]
    congr 2
    rw [List.take_add_one, hln]
    simp only [linesLen, Option.toList, List.map_append, List.map_cons, List.map_nil, List.sum_append, List.sum_cons, List.sum_nil]
    omega
  · intro p hp b hb
    simp only [List.map_cons, List.map_append, List.mem_cons, List.mem_append] at hb
    rcases hb with rfl | rfl | rfl | hb | hb
    · exact hoff p hp _ (by simp)
    · exact hoff p hp _ (by simp)
    · exact Nat.ne_of_lt (l9 p (ownin p hp))
    · obtain ⟨q, hq, rfl⟩ := List.mem_map.mp hb
      exact Nat.ne_of_lt (hnew q hq p (ownin p hp))
    · exact hoff p hp _ (by simp only [List.map_cons, List.mem_cons]; exact .inr (.inr hb))
  · intro p hp
    rcases List.mem_cons.mp hp with rfl | hp
    · exact .tail _ (.tail _ (hrest _ (.head _) hDfl))
    · rcases List.mem_cons.mp hp with rfl | hp
      · exact .tail _ (.head _)
      · rcases List.mem_cons.mp hp with rfl | hp
        · exact .head _
        · rcases List.mem_append.mp hp with hp | hp
          · exact .tail _ (.tail _ (hnn p hp))
          · exact .tail _ (.tail _ (hrest p (tl0in p hp) (nfl p hp)))
  · intro p hp
    refine .tail _ (.tail _ (hrest p (ownin p hp) ?_))
    exact hoff p hp _ (by simp)
end

-- part R4
section
open PySem PySem.W PyProof.Rows PyProof.V PySem.Spec
set_option rowWalk.seconds 0
variable {w : World} {mean : ExcName → Option Value} {mg mb : Str → Option Value} {loose : List Str}
    {dp un : Nat} {gd : Option (List Code)} {cn : Str} {cs : Scope} {a : Addr} {ccd : Value} {cl : List (Str × Addr)} {outer : List Env} {A₀ : Around} {base h₀ : Heap} {L : Addr} {m : Str → Option Value} {news : List (Addr × Obj)} {s : Shared}
    {Q E : Value → Shared → Prop}
theorem rows_R4_1 : True := by
  k_with_none
  (k_with "k_room" => first | exact room1 (by assumption) rfl | exact room2 (by assumption) rfl | exact room3 (by assumption) rfl | ktr_room)
  (k_with "k_units" => first | exact room1 (by assumption) rfl | exact room2 (by assumption) rfl | exact room3 (by assumption) rfl | ktr_units)
  (k_with "k_mem" => assumption)
  (k_with "k_mem" => exact Above.sub (by with_reducible assumption) _ (by assumption))
  (k_with "cell_enter" => refine code_defC (by k_asm) (by k_asm) (by k_asm) (by k_asm) (by k_asm) (by exact rfl) (by exact rfl) (by assumption) (by k_is) (by k_is) (by k_room) (by exact BindsTo.of_eq rfl) (by exact rfl) (by decide +kernel) ?_ (by exact rfl) (by exact rfl) (by exact rfl); k_whole; intro _ _ _ _ _ _ _ N'_w9 Y'_w9 B'_w9 _ _ l1_w9; (try k_lt l1_w9); k_cells Y'_w9; (try simp only [List.cons_append, List.nil_append] at N'_w9); (try dsimp only); (try k_lift B'_w9); (try k_fold))
  (k_with "k_all" => assumption)
  (k_with "execs cons" => k_here; (with_reducible show wpAny _ _ _ _ _ (Shared.mk _ _ _ (_ + _) _)); (refine gen_toks ?_); intro _)
  (k_with "execs nil" => k_here; (with_reducible show wpAny _ _ _ _ _ (Shared.mk _ _ _ (_ + _) _)); (refine gen_toks ?_); intro _)
  (k_with "k_mem" => exact Above.sub (by with_reducible assumption) _ (by assumption))
  (k_with "call builtin:str.split" => k_here; (with_reducible show wpAny _ _ (call (Value.builtin "str.split") _) _ _ _); k_dflt (refine KSpl.split1 (by k_asm) (by k_asm) (by kernel_rfl) ?_ (by assumption); intro _ _ _ _ e'_w9 a'_w9 _ _ _; (have sl'_w9 := (StrsAre.length a'_w9).trans (congrArg List.length e'_w9))))
  (k_with "call builtin:len" => k_here; (with_reducible show wpAny _ _ (call (Value.builtin "len") [Value.str _ _]) _ _ _); k_dflt (refine len_str (by omega) ?_))
  (k_with "call builtin:len" => k_here; (with_reducible show wpAny _ _ (call (Value.builtin "len") [Value.ref _]) _ _ _); k_dflt (first | (refine len_L (by k_asm) (by k_mem) (by assumption) (by omega) ?_) | (refine len_T (by k_asm) (by k_mem) (by assumption) (by omega) ?_)); intro _ _)
  (k_with "compareOp NotEq int int" => k_here; first | (with_reducible refine ne_diff (by with_reducible assumption) ?_) | (with_reducible refine ne_same ?_))
  (k_with "call builtin:list.append" => k_here; (with_reducible show wpAny _ _ (call (Value.builtin "list.append") _) _ _ _); k_dflt (refine append_K (by k_asm) (by k_asm) (by k_upd) ?_ (by assumption); k_whole); intro _ _ _)
  (k_with "eval Name" => k_here; k_dflt (refine ld (by k_asm) (by first | exact rfl | assumption) ?_; k_whole))
  (k_with "exec Raise some none" => k_here; k_dflt (refine exec_raise_TF (by exact rfl) ?_))
  (k_with "call ref" => k_here; (with_reducible show wpAny _ _ (call (Value.ref 88) _) _ _ _); k_dflt (refine call_TF (by k_asm) (by k_asm) (by k_asm) (by k_asm) (by k_asm) (by exact rfl) (by k_room) (by k_units) ?_); intro _ _ _ _ _ _ _ _ _ _ _)
  (k_with "joinParts" => k_here; (first | (with_reducible show wpAny _ _ (joinParts _ []) _ _ _) | (with_reducible show wpAny _ _ (joinParts _ (evalEach [] _)) _ _ _)); k_dflt (refine joinParts_nil ?_ (by have h1_w9 := lit_twice; have h2_w9 := lit_many; have h3_w9 := lit_row; have h4_w9 := lit_wanted; have h5_w9 := lit_rows; have h6_w9 := empty_len; rw [sizeLine_eq]; simp only [Str.length_append]; omega)))
  (k_with "And" => (with_reducible show Str.length _ ≤ _ ∧ wpAny _ _ (joinParts _ _) _ _ _); (refine ⟨by have h1_w9 := lit_twice; have h2_w9 := lit_many; have h3_w9 := lit_row; have h4_w9 := lit_wanted; have h5_w9 := lit_rows; have h6_w9 := empty_len; rw [sizeLine_eq]; simp only [Str.length_append]; omega, ?_⟩))
  (k_with "And" => (with_reducible show Str.length _ ≤ _ ∧ wpAny _ _ (joinParts _ (evalEach [] _)) _ _ _); (refine ⟨by have h1_w9 := lit_twice; have h2_w9 := lit_many; have h3_w9 := lit_row; have h4_w9 := lit_wanted; have h5_w9 := lit_rows; have h6_w9 := empty_len; rw [sizeLine_eq]; simp only [Str.length_append]; omega, joinParts_nilE (joinParts_nil ?_ (by have h1_w9 := lit_twice; have h2_w9 := lit_many; have h3_w9 := lit_row; have h4_w9 := lit_wanted; have h5_w9 := lit_rows; have h6_w9 := empty_len; rw [sizeLine_eq]; simp only [Str.length_append]; omega))⟩))
  (k_with "compareOp NotEq str str" => k_here; first | (refine ne_str_yes (by assumption) ?_) | (refine' ne_str_self ?_))
  trivial
theorem ne_str_self {prog : Program} {A : Around} {x : Str} {t u : Tok} {Q : Value → Shared → Prop} (h : Q (.bool false) s) : wpAny (model prog w) A (compareOp .NotEq (.str x t) (.str x u)) Q E s :=
  PyProof.Rows.ne_str (by rw [show (x != x) = false from by simp]; exact h)
theorem rows_R4_2 : True := by
  (k_with "call ref" => k_here; (with_reducible show wpAny _ _ (call (Value.ref 148) _) _ _ _); k_dflt (refine reader_tells (by k_asm) (by k_asm) (by k_asm) (by k_asm) (by k_asm) (by exact rfl) (by k_room) (by k_units) (by exact UnivAt.mono (by assumption) (by intro _ _; (repeat refine List.Mem.tail _ ?_); assumption)) (by assumption) (by assumption) ?_); intro _ _ _ _ _ _ _ _ _ _ _ _ _ _ _)
  (k_with "exec For Tuple Call cons nil" => k_here; (with_reducible show wpAny _ _ (exec (Stmt.For (Expr.Tuple _ _ _) _ _ [] _) _) _ _ _); k_dflt (refine For_turns (by k_asm) ?_ (by (intro _; rfl)) (by passes_own)))
  (k_with "call type:zip" => (with_reducible show wpAny _ _ (call (Value.type _) [Value.ref _, Value.ref _]) (fun xv s₁ => wpAny _ _ (pyIter xv) (fun it s₂ => TurnsAt _ _ _ _ _ _ _ _ _ it s₂) _ s₁) _ _); refine zip_loop (by rfl) (by rfl) (by rfl) ?_)
  (k_with "call ref" => k_here; (with_reducible show wpAny _ _ (call (Value.ref 145) _) _ _ _); first | (k_dflt (refine row_ok (by k_asm) (by k_asm) (by k_asm) (by k_asm) (by k_asm) (by exact rfl) (by k_room) (by k_units) (by exact ReaderAt.mono (by assumption) (by intro p_w9 hp_w9; (repeat refine List.Mem.tail _ ?_); assumption)) (by assumption) (by assumption) (by assumption) (by exact List.Mem.tail _ (List.Mem.head _)) (by assumption) ?_); intro _ _ _ _ _ _ h'_w9 tk'_w9 F'_w9 _ _ _ _ _ _ _ _ _ _) | (k_dflt (refine row_err (by k_asm) (by k_asm) (by k_asm) (by k_asm) (by k_asm) (by exact rfl) (by k_room) (by k_units) (by exact ReaderAt.mono (by assumption) (by intro p_w9 hp_w9; (repeat refine List.Mem.tail _ ?_); assumption)) (by assumption) (by assumption) (by assumption) (by assumption) ?_); intro _ _ _ _ h'_w9 tk'_w9 F'_w9 _ _ _))
  trivial
theorem read_start {h : Heap} {DT D fl : Addr} {oT oD oF : Obj} {nw : List (Addr × Obj)} (N : News h₀ L h ((DT, oT) :: (fl, oF) :: (D, oD) :: nw)) : News h₀ L h ((D, oD) :: (fl, oF) :: nw) := fun p hp => N p (by
  simp only [List.mem_cons] at hp ⊢
  rcases hp with h | h | h
  · exact .inr (.inr (.inl h))
  · exact .inr (.inl h)
  · exact .inr (.inr (.inr h)))
theorem Above.trans {a b c : List (Addr × Obj)} (h1 : Above a b) (h2 : Above b c) : Above a c := ⟨fun p hp => h2.1 p (h1.1 p hp), fun p hp => by
  rcases h2.2 p hp with h | h
  · exact h1.2 p h
  · exact .inr fun q hq => h q (h1.1 q hq)⟩
theorem num_len (n : Nat) (h : n ≤ 16384) : (Str.ofString (toString (n : Int))).length ≤ 10 := KT.len_num (by omega) (by omega)
theorem allLt_mem {d : Addr} : ∀ {l : List (Addr × Obj)}, AllLt d l → ∀ p ∈ l, p.1 < d
  | [], _, _, h => nomatch h
  | _ :: _, x, p, h => by
    rcases List.mem_cons.mp h with rfl | h
    · exact x.1
    · exact allLt_mem x.2 p h
theorem read_tells {u dx nt nd l1 : Addr} {e1 e2 : Int} {t1 t2 tt : Tok} {kk k3 k1 : Nat} {nvs xs : List Value} {many : Nat} {marks : List Str} {text : Str} {r : Except Int (List (List (List Int)))}
    (B : Below A₀ base outer h₀) (F : Fr h₀ L s.heap m) (X : (Mine.hd.heap_1 w.params).In h₀) (N : News h₀ L s.heap news) (T : Top V loose mean mg mb h₀) (hk : cs.kind = .function)
    (hd : dp + 22 < recursionLimit) (hu : un + 500 < cLine)
    (hU : UnivAt news u dx nt nd e1 e2 t1 t2 kk k3 nvs many) (hm1 : 1 ≤ many) (hm4 : many ≤ 4) (hl1 : (l1, PySem.W.listOf xs.toArray k1) ∈ news) (hx1 : StrsAre xs marks) (hmk : ∀ x ∈ marks, x.length ≤ 10) (hm3 : marks.length ≤ 3) (htl : text.length ≤ 5000)
    (hO : ReadOut many marks text r)
    (hret : ∀ rels, r = .ok rels → ∀ fl us c rels' nw h' tk', Fr h₀ L h' m → News h₀ L h' ((fl, PySem.W.listOf us.toArray c) :: nw) → Above news nw → (∀ p ∈ news, p.1 < fl) → DatAll nw us (instD rels') → Sorts rels' rels → Q (.ref fl) { s with heap := h', toks := tk' })
    (hraise : ∀ off, r = .error off → ∀ e g dx' od h' tk', Fr h₀ L g m → SpotIn off od → RaisedD base g (envX cn cs L a ccd cl :: outer) e dx' ((dx', od) :: news) h' → g.UpToSlots h' → E (.ref e) { s with heap := h', toks := tk' }) :
    wpAny (model P w) (ktrTop dp un gd cn cs L a ccd cl outer) (call (.ref 159) [.ref u, .ref l1, .str text tt]) Q E s := by
  w_on
  have htx := htl
  have hlen : text.length + 2 ≤ sizeLine := by rw [sizeLine_eq]; omega
  have hnx := StrsAre.length hx1
  have hsw := split_weight text "\n" (by decide +kernel)
  have hO' : ((linesOf text).length ≠ marks.length ∧ r = .error text.length) ∨ ∃ rels, (linesOf text).length = marks.length ∧ rels.length ≤ marks.length ∧
      (∀ (i : Nat) mk ln rel, marks[i]? = some mk → (linesOf text)[i]? = some ln → rels[i]? = some rel → RowOut many mk ln (.ok rel)) ∧
      ((r = .ok rels ∧ rels.length = marks.length) ∨ ∃ mk ln off, r = .error (linesLen ((linesOf text).take rels.length) + off) ∧ marks[rels.length]? = some mk ∧ (linesOf text)[rels.length]? = some ln ∧ RowOut many mk ln (.error off)) := by
    cases hO with
    | count hc => exact .inl ⟨hc, rfl⟩
    | good hc hl hok => exact .inr ⟨_, hc, by omega, hok, .inl ⟨rfl, hl⟩⟩
    | fault hc h1 h2 hok h3 => exact .inr ⟨_, hc, Nat.le_of_lt (List.getElem?_eq_some_iff.mp h1).1, hok, .inr ⟨_, _, _, rfl, h1, h2, h3⟩⟩
  clear hO
  have hm16 : marks.length ≤ 16384 := by omega
  have h00 : ([] : List Value).length = 0 := rfl
  by_cases hte : text = ""
  · have hlo : linesOf text = [] := if_pos hte
    rw [hlo] at hO'
    subst hte
    rcases hO' with ⟨hc, hr⟩ | ⟨rels, hc, hrl, hok, hend⟩
    · have hne9 : ((0 : Nat) : Int) ≠ (marks.length : Int) := fun e => hc (by simp only [List.length_nil]; omega)
      have hq1 := num_len marks.length hm16
      have hq2 := num_len 0 (by omega)
      refine wpAny_call ?_
      k_dflt cell_enter
      w_strict k_steps
      rename (Mine.hd.heap_1 w.params).In _ => kX
      rename Below _ base _ _ => kB
      rename News _ _ _ _ => kN
      rename SpotIn _ _ => kS
      rename Above news _ => ka
      rename (∀ p ∈ _ :: _, _ ≠ _) => kn
      rename Fr h₀ L _ _ => kG
      rename Fr _ _ _ _ => kF
      rename (_ < _) => kl
      refine ⟨_, _, _, rfl, c88_at (kX.keeps kF.keep), (kN _ (.tail _ (.head _))).1, ?_⟩
      refine raise_outT (news := news) rfl rfl kB kF kN kn kl (fun p hp => .tail _ (.tail _ (.tail _ (ka.sub p hp)))) fun h3 R3 U3 => ?_
      exact hraise _ hr _ _ _ _ _ _ kG kS R3 U3
    · have hm0 : marks = [] := List.length_eq_zero_iff.mp hc.symm
      subst hm0
      have hx0 : xs = [] := List.length_eq_zero_iff.mp hnx
      subst hx0
      have hr0 : rels = [] := List.length_eq_zero_iff.mp (Nat.le_zero.mp hrl)
      subst hr0
      have hr : r = .ok [] := by
        rcases hend with ⟨h, _⟩ | ⟨_, _, _, _, h, _⟩
        · exact h
        · simp at h
      refine wpAny_call ?_
      k_dflt cell_enter
      w_strict k_steps
      rename Fr _ _ _ _ => lF
      rename News _ _ _ _ => lN
      rename Above news _ => ka
      rename_i nw9 _ _ _ D _ lt1 fl _ lt2 DT _ _ _ _ _ _ _ _ _ _ _ _
      have hl9 := ka.sub _ hl1
      have lt4 := allLt_mem lt2.2
      have hN2 := read_start lN
      refine ⟨[], [], k1, 0, _, _, fun _ m' nx => nx = (D, PySem.W.listOf #[] 0) :: (fl, PySem.W.listOf #[] 0) :: nw9 ∧ m' "found" = some (.ref fl), rfl, lF, hN2, .tail _ (.tail _ hl9), .head _, ⟨rfl, rfl⟩, ?_, ?_⟩
      · intro i x y m₁ news₁ h tk own hx
        simp at hx
      · intro m₁ news₁ h tk hJ F1 N1
        obtain ⟨rfl, m3⟩ := hJ
        clear lN lF hN2
        k_steps
        rename Fr h₀ L _ _ => kF
        rename News h₀ L _ _ => kN
        refine hret [] hr fl [] 0 [] ((D, PySem.W.listOf #[] 0) :: nw9) _ _ kF (fun p hp => kN p ?_) (ka.cons' fun q hq => ?_) (fun p hp => lt4 p (ka.sub p hp)) .nil .nil
        · simp only [List.mem_cons] at hp ⊢
          rcases hp with h | h | h
          · exact .inr (.inl h)
          · exact .inl h
          · exact .inr (.inr h)
        · exact lt1 q (ka.sub q hq)
  · have hlo : linesOf text = Txt.split text "\n" := if_neg hte
    rw [hlo] at hO'
    have hs16 : (Txt.split text "\n").length ≤ 16384 := by omega
    rcases hO' with ⟨hc, hr⟩ | ⟨rels, hc, hrl, hok, hend⟩
    · have hne9 : ((Txt.split text "\n").length : Int) ≠ (marks.length : Int) := by omega
      have hq1 := num_len marks.length hm16
      have hq2 := num_len _ hs16
      refine wpAny_call ?_
      k_dflt cell_enter
      w_strict k_steps
      rename (Mine.hd.heap_1 w.params).In _ => kX
      rename Below _ base _ _ => kB
      rename News _ _ _ _ => kN
      rename SpotIn _ _ => kS
      rename Above news _ => ka
      rename (∀ p ∈ _ :: _, _ ≠ _) => kn
      rename Fr h₀ L _ _ => kG
      rename Fr _ _ _ _ => kF
      rename (_ < _) => kl
      refine ⟨_, _, _, rfl, c88_at (kX.keeps kF.keep), (kN _ (.tail _ (.head _))).1, ?_⟩
      refine raise_outT (news := news) rfl rfl kB kF kN kn kl (fun p hp => .tail _ (.tail _ (.tail _ (ka.sub p hp)))) fun h3 R3 U3 => ?_
      exact hraise _ hr _ _ _ _ _ _ kG kS R3 U3
    · have hnx : xs.length = (Txt.split text "\n").length := by rw [hnx, hc]
      refine wpAny_call ?_
      k_dflt cell_enter
      w_strict k_steps
      rename StrsAre _ _ => ha
      rename (_ = Txt.split _ _) => he
      rename Fr _ _ _ _ => lF
      rename News _ _ _ _ => lN
      rename Above news _ => ka
      rename ReaderAt _ _ _ _ _ _ _ _ _ _ _ => hR
      rename ((strValues _).length = _) => hsl
      rename (_ < _ ∧ AllLt _ _) => lt2
      rename (∀ p ∈ (_ : List (Addr × Obj)), p.1 < _) => lt1
      rename_i rd9 dx9 ad9 e9 t9 kk9 oa9 kvs9 nw9 _ _ D lst _ _ fl _ DT _ _ _ _ _ _ _ _ _ _ _ _
      rw [he] at ha
      have lt3 := allLt_mem lt2.2
      have hDfl : D ≠ fl := Nat.ne_of_lt lt2.1
      have hDf := lt2.1
      have hl9 := ka.sub _ hl1
      have hN2 := read_start lN
      refine ⟨xs, strValues lst, k1, 0, _, _, ReadJ w nw9 D fl rd9 dx9 ad9 e9 t9 kk9 oa9 kvs9 many (strValues lst) (Txt.split text "\n") rels, rfl, lF, hN2, .tail _ (.tail _ hl9), .head _, ⟨Nat.zero_le _, [], 0, _, nw9, [], ⟨[], .nil, (fun _ h => nomatch h), fun _ h => nomatch h⟩, .nil, rfl, Above.refl, hR, fun p hp => Nat.ne_of_lt (lt3 p hp), rfl, rfl, rfl⟩, ?_, ?_⟩
      · intro i x y m₁ news₁ h tk own hx hy hoff hl1' hl2' hJ F1 N1
        obtain ⟨hi, vs, c, t, tl0, rels', hvs, hso, rfl, hsub, hR0, nfl0, m1, m2, m3⟩ := hJ
        obtain ⟨tl, htl⟩ : ∃ tl, tl = tl0 ++ own := ⟨_, rfl⟩
        rw [List.cons_append, List.cons_append, ← htl] at N1
        have nfl : ∀ p ∈ tl, p.1 ≠ fl := by
          rw [htl]
          intro p hp
          rcases List.mem_append.mp hp with hp | hp
          · exact nfl0 p hp
          · exact hoff p hp fl (by simp)
        have hR' : ReaderAt w tl rd9 dx9 ad9 e9 t9 kk9 oa9 kvs9 many := hR0.mono fun p hp => htl ▸ List.mem_append_left _ hp
        have ⟨q1, q2, q3, _, _, _⟩ := hR'
        obtain ⟨mk, tm, rfl, hmk2⟩ := hx1.item i x hx
        obtain ⟨ln, tn, rfl, hln⟩ := ha.item i y hy
        have hml := hmk mk (List.mem_of_getElem? hmk2)
        have hlnl : ln.length ≤ 5000 := Nat.le_trans (part_short (List.mem_of_getElem? hln)) htx
        have hvl : vs.length = rels'.length := by rw [DatAll.length hvs.all, instD, List.length_map]
        have hrl' : rels'.length = i := by rw [hso.length, List.length_take]; omega
        have hsz : vs.toArray.size ≤ sizeLine := by rw [List.size_toArray, hvl, hrl', sizeLine_eq]; omega
        clear lN lF hN2 hl1' hl2'
        by_cases hir : i < rels.length
        · have hrow : rels[i]? = some rels[i] := List.getElem?_eq_getElem hir
          have hO9 := hok i mk ln rels[i] hmk2 hln hrow
          generalize rels[i] = rel at hrow hO9
          k_steps
          rename News _ _ _ _ => kN
          rename Fr _ _ _ _ => kF
          rename List.Perm _ rel => kp
          rename RowsSorted _ => ks
          rename DatAll _ _ _ => kD
          rw [List.push_toArray] at kN
          exact read_end kF kN (by assumption) (by assumption) (by assumption) (by assumption) kD kp ks htl hoff hDfl hsub hR0 nfl0 hvs hso hl9 hrow hln m1 rfl m3
        · have hie : i = rels.length := by omega
          obtain ⟨mk', ln', off, hr, e1', e2', hO9⟩ : ∃ mk ln off, r = .error (linesLen ((Txt.split text "\n").take rels.length) + off) ∧ marks[rels.length]? = some mk ∧ (Txt.split text "\n")[rels.length]? = some ln ∧ RowOut many mk ln (.error off) := by
            rcases hend with ⟨_, h⟩ | h
            · have := (List.getElem?_eq_some_iff.mp hmk2).1; omega
            · exact h
          rw [← hie, hmk2] at e1'
          rw [← hie, hln] at e2'
          cases e1'; cases e2'
          k_steps
          rename Below _ base _ _ => kB
          rename RaisedD _ _ _ _ _ _ _ => kR
          rename SpotIn _ _ => kS
          rename Heap.UpToSlots _ _ => kU
          rename Fr h₀ L _ _ => kG
          rename Fr _ _ _ _ => kF
          refine leave_onT (news := news) rfl kB kF kR kU (fun p hp => .tail _ (.tail _ (htl ▸ List.mem_append_left _ (hsub.sub p (ka.sub p hp))))) fun h3 R3 U3 => ?_
          rw [hie] at kS
          exact hraise _ hr _ _ _ _ _ _ kG kS R3 U3
      · intro m₁ news₁ h tk hJ F1 N1
        obtain ⟨hi, vs, c, t, tl0, rels', hvs, hso, rfl, hsub, hR0, nfl0, m1, m2, m3⟩ := hJ
        have hmin : min xs.length (strValues lst).length = marks.length := by rw [hsl, hnx, hc, Nat.min_self]
        rw [hmin] at hi hso
        obtain ⟨hr, hrl2⟩ : r = .ok rels ∧ rels.length = marks.length := by
          rcases hend with h | ⟨mk, ln, off, _, h, _⟩
          · exact h
          · have := (List.getElem?_eq_some_iff.mp h).1; omega
        rw [List.take_of_length_le (by omega)] at hso
        clear lN lF hN2
        k_steps
        rename Fr h₀ L _ _ => kF
        rename News h₀ L _ _ => kN
        refine hret rels hr fl vs c rels' ((D, PySem.W.listOf (strValues lst).toArray 0) :: tl0) _ _ kF (fun p hp => kN p ?_) ((ka.trans hsub).cons' fun q hq => lt1 q (ka.sub q hq)) (fun p hp => lt3 p (ka.sub p hp)) (hvs.all.mono fun p hp => .tail _ hp) hso
        simp only [List.mem_cons] at hp ⊢
        rcases hp with h | h | h
        · exact .inr (.inl h)
        · exact .inl h
        · exact .inr (.inr h)
end

-- part T1
section
open PySem PySem.W PyProof.Rows PyProof.V PySem.Spec
set_option rowWalk.seconds 0
variable {w : World} {mean : ExcName → Option Value} {mg mb : Str → Option Value} {loose : List Str}
    {dp un : Nat} {gd : Option (List Code)} {cn : Str} {cs : Scope} {a : Addr} {ccd : Value} {cl : List (Str × Addr)} {outer : List Env} {A₀ : Around} {base h₀ : Heap} {L : Addr} {m : Str → Option Value} {news : List (Addr × Obj)} {s : Shared}
    {Q E : Value → Shared → Prop}
section
variable {prog : Program} {A : Around}
def CaughtD (e dx : Addr) (oe : Obj) : Prop := DOf dx oe ∧ ∃ ws, oe.data = .fields ws
theorem inst_caught {e dx : Addr} {oe od : Obj} {h : Heap} (N : News h₀ L h news) (he : (e, oe) ∈ news) (hd : (dx, od) ∈ news) (hc : CaughtD e dx oe) : InstAt h e oe 88 (some od) := by
  obtain ⟨⟨h1, h2⟩, ws, h3⟩ := hc
  refine ⟨(N _ he).1, h1, ?_, ?_⟩
  · show notCls oe = true
    unfold notCls
    rw [h3]
  · rw [h2]
    exact (N _ hd).1
theorem getE {e : Addr} {oe od : Obj} {name : Str} {v : Value} {Q : Value → Shared → Prop} (X : (Mine.hd.heap_1 w.params).In s.heap) (I : InstAt s.heap e oe 88 (some od))
    (hf : findObj (Mine.hd.heap_1 w.params) 88 (some od) name = some (.value v)) (hh : handedIn v = true) (h : Q v { s with toks := s.toks + 1 }) {expr : Bool} :
    wpAny (model prog w) A (getAttr (.ref e) name expr) Q E s := by
  have hga : findIn (Mine.hd.heap_1 w.params) (.ref 88) "__getattribute__" = some (some (.builtin "BaseException.__getattribute__")) := by k_is
  have hgh : findIn (Mine.hd.heap_1 w.params) (.ref 88) "__getattr__" = some none := by k_is
  have FB := PySem.F.attrBase_Exception
  have L0 := I.type (M := model prog w)
  have L1 := looks_findIn (M := model prog w) X hga
  have L2 := looks_findIn (M := model prog w) X hgh
  have L3 := looks_find (M := model prog w) X I hf
  have sub : Looks (model prog w) s.heap (isInstance (.ref e) (.type "BaseException")) true := L0.andThen (looks_subIn X (by k_is))
  have hx0 : (expr && onTheHeap (Value.builtin "BaseException.__getattribute__")) = false := by cases expr <;> rfl
  obtain ⟨hh', g, d, t, os⟩ := s
  unfold getAttr getAttrBy
  refine wpAny_bind (wpAny_mkText (wpAny_holding (wpAny_bind (L0.at (wpAny_bind (L1.at ?_))))))
  show wpAny _ _ (if (onTheHeap (Value.ref 88) && Value.builtin "BaseException.__getattribute__" == Value.builtin "object.__getattribute__") = true then _ else _) _ _ _
  rw [if_neg (by decide +kernel)]
  unfold getAttrByItsOwn hookBefore
  refine wpAny_bind ?_
  show wpAny _ _ (typeLookup (Value.ref 88) "__getattr__") _ _ _
  refine L2.at ?_
  refine wpAny_bind (wpAny_attempt ?_)
  unfold callGetattribute boundAndCalled
  rw [if_neg (by rw [hx0]; decide)]
  refine wpAny_holding ?_
  rw [FB.ga.bind (.ref e)]
  refine wpAny_bind (wpAny_pure (wpAny_call ?_))
  have hk : builtinKind "BaseException.__getattribute__" = some .slot := by decide +kernel
  have hsplit : splitId "BaseException.__getattribute__" = some ("BaseException", "__getattribute__") := by decide +kernel
  have ha := PySem.F.args_bexc_ga (.ref e) (.str name t)
  refine codeAny_call_builtin FB.ga.plain PySem.F.entry_bexc_ga (@check_slot (model prog w) _ _ ⟨hh', g, d, t + 1, os⟩ "BaseException.__getattribute__" "BaseException" "__getattribute__" (.ref e) [.str name t] [] _ hk hsplit sub ha ?_)
  refine wpAny_bind (wpAny_pure (wpAny_bind (wpAny_pure (wpAny_bind (L0.at (wpAny_bind (L3.at ?_)))))))
  refine wpAny_pure ?_
  show wpAny _ _ (handedOut v) _ _ _
  rw [handedOut_of hh]; exact wpAny_pure h
end

section
variable {prog : Program} {s' : Shared} {g g₀ G : Heap} {e dx : Addr} {name : Str} {scope : Scope} {cd : Value} {n : Str} {b₀ : Stmt} {suite : List Stmt} {pos np : Pos} {rest : List ExceptHandler} {x : Str}
theorem caughtD {od : Obj} {Q : Flow → Shared → Prop} {E : Value → Shared → Prop} (R : RaisedD base G (envOf name scope L a cd :: outer) e dx ((dx, od) :: news) s'.heap) (F : Fr g L G m) (K : Below A₀ base outer g) (hsm : G.UpToSlots s'.heap) (XB : (Mine.hd.heap_1 w.params).In base) (TB : Top V loose mean mg mb base)
    (D : KtsDicts (outer.filterMap (·.frame)) g) (T0 : KtsTurn (outer.filterMap (·.frame)) g₀ g)
    (ex : nsIn (Mine.hd.heap_1 w.params) mainGlobals x = some (some (.ref 88))) (q : ktsIn (Mine.hd.heap_1 w.params) 88 "BaseException" = true)
    (k : ∀ h' g' oe tk, KtsTurn (outer.filterMap (·.frame)) g₀ g' → Fr g' L h' (fun y => if y = n then some (.ref e) else m y) → News g' L h' ((e, oe) :: (dx, od) :: news) → CaughtD e dx oe → Below A₀ base outer g' → (Mine.hd.heap_1 w.params).In g' → Top V loose mean mg mb g' → KtsDicts (outer.filterMap (·.frame)) g' →
      wpAny (model prog w) ((A₀.deeper (envOf name scope L a cd)).mark (some (.ref e))) (execs (b₀ :: suite) (envOf name scope L a cd))
        (fun f s₄ => wpAny (model prog w) (A₀.deeper (envOf name scope L a cd)) (do bindName (envOf name scope L a cd) n .none; unbindBehindTheSuite (envOf name scope L a cd) n pos) (fun _ s₅ => Q f s₅) E s₄)
        (AsSuiteRaised (model prog w) ((A₀.deeper (envOf name scope L a cd)).mark (some (.ref e))) (envOf name scope L a cd) n pos (notedBy (model prog w) ((A₀.deeper (envOf name scope L a cd)).mark (some (.ref e))) (envOf name scope L a cd) (cameBackBy (model prog w) (A₀.deeper (envOf name scope L a cd)) (envOf name scope L a cd) E)))
        { s' with heap := h', toks := tk })
    (hk : scope.kind = .function := by rfl) (hlo : (envOf name scope L a cd).kindOf n = some .local := by rfl) (hx : (envOf name scope L a cd).kindOf x = some .globalImplicit := by rfl) (hd : (x == ("__debug__" : Str)) = false := by decide) :
    wpAny (model prog w) (A₀.deeper (envOf name scope L a cd)) (noteFrame (.ref e) (envOf name scope L a cd))
      (fun _ s₂ => wpAny (model prog w) (A₀.deeper (envOf name scope L a cd)) (setFlight (.ref e) none) (fun _ s₃ =>
        wpAny (model prog w) (A₀.deeper (envOf name scope L a cd)) (handleBy (.ref e) (envOf name scope L a cd) (.ExceptHandler (some (.Name x np)) (some n) (b₀ :: suite) pos :: rest)) Q E s₃) E s₂) E s' := by
  obtain ⟨B, hB, hBG, hl, b1, b2, b3, b4⟩ := R
  have hL : B.get? L = none := by
    obtain ⟨_, ⟨L', _, hf, hn', _⟩, _⟩ := b3
    obtain rfl : L = L' := Option.some.inj hf
    exact hn'
  refine note_nextD (Around.frames_deeper K.stack) b3 rfl b4 b1 b2 fun h₄ S₄ => ?_
  obtain ⟨c1, c2, c3, c4⟩ := S₄
  refine landD (s := { s' with heap := h₄ }) c1 c2 c3 fun h₅ S₅ => ?_
  obtain ⟨d1, d2, d3, d4⟩ := S₅
  have hsm₅ : s'.heap.UpToSlots h₅ := c4.trans d4
  obtain ⟨g₅, T₅, F₅, K₅⟩ := kts_ground K F hBG d1 (hsm.trans hsm₅)
  have X₅ : (Mine.hd.heap_1 w.params).In g₅ := XB.keeps K₅.stays
  have P₅ : TopRead V loose mg mb g₅ := topRead_of (TB.keeps K₅.stays)
  have d3' := d3
  obtain ⟨ob, _, _, _, _, hob, ⟨hobc, _⟩, _⟩ := d3'
  obtain ⟨nm, q', N, bs, bm, hdct, sn, sub, ab, col, dd, k0, k1, k2, k3, k5, newId, hC, hbase, hbT⟩ := kts_cls X₅ q
  have hC₅ := F₅.keep _ _ hC
  refine wpAny_handleBy_cons (codeAny_handlers_test (name_K F₅ X₅ P₅ ex ?_ hk hx hd)) (by intro q; cases q)
  refine wpAny_excMatches_sub_self hC₅ hob hobc hbase (codeAny_handlers_suite_as ?_)
  refine landD (s := { s' with heap := h₅ }) d1 d2 d3 fun h₆ S₆ => ?_
  obtain ⟨e1, e2, e3, e4⟩ := S₆
  have hsm₆ : s'.heap.UpToSlots h₆ := hsm₅.trans e4
  obtain ⟨g₆, T₆, F₆, K₆⟩ := kts_ground K F hBG e1 (hsm.trans hsm₆)
  obtain ⟨oe, ws, _, _, _, hoe, hoed, hoef, _⟩ := e3
  have ne₆ : g₆.get? e = none := T₆.none_ _ (kts_fresh F hBG b2 fun o ho m => by
    obtain ⟨_, o', ho', hd⟩ := K.frames.mem m
    rw [ho] at ho'
    cases ho'
    obtain ⟨sl, hs⟩ := (hsm.trans hsm₆) _ _ (F.keep _ _ ho) hd
    rw [hoe] at hs
    cases hs
    exact hd _ hoef)
  have Nl : News g₆ L h₆ ((dx, od) :: news) := fun q hq => ⟨e1 _ _ (hl q hq).1, (fun z => by have := (hl q hq).1; rw [z, hL] at this; cases this), T₆.none_ _ (kts_none F.keep (hl q hq).2.1)⟩
  have N₆ : News g₆ L h₆ ((e, oe) :: (dx, od) :: news) := News.more F₆ Nl hoe (fun es n q => by rw [hoef] at q; cases q) ne₆
  refine stN F₆ N₆ (fun h₇ F₇ N₇ => ?_) hk hlo
  exact k h₇ g₆ oe _ (T0.trans T₆) F₇ N₇ ⟨hoed, ws, hoef⟩ K₆ (XB.keeps K₆.stays) (TB.keeps K₆.stays) (D.turn T₆)
end
end

-- part T0
section
open PySem PySem.W PyProof.Rows PyProof.V PySem.Spec
set_option rowWalk.seconds 0
variable {w : World} {mean : ExcName → Option Value} {mg mb : Str → Option Value} {loose : List Str}
    {dp un : Nat} {gd : Option (List Code)} {cn : Str} {cs : Scope} {a : Addr} {ccd : Value} {cl : List (Str × Addr)} {outer : List Env} {A₀ : Around} {base h₀ : Heap} {L : Addr} {m : Str → Option Value} {news : List (Addr × Obj)} {s : Shared}
    {Q E : Value → Shared → Prop}
section
variable {prog : Program} {A : Around} {env : Env} {R : Result → Shared → Prop} {name qual : Str} {params : Arguments} {body : List Stmt} {scope : Scope} {dV kV doc pm cdv ct oc : Value} {an od : Option Addr} {osl : Array (Option Value)} {f : Addr} {args : Args} {binds : List (Str × Value)} {K : Frag} {p : Program}
/-- the caller's frame, cells or none, on entering a def that catches -/
theorem enter_any (B : Below A₀ base outer h₀) (F : Fr h₀ L s.heap m) (N : News h₀ L s.heap news) (hA : A.frames = some (env :: outer)) (hf : env.frame = some L) (hke : env.scope.kind = .function) :
    ∃ oL es ep, (hideAll s.heap (news.map (·.1))).get? L = some oL ∧ oL.data = .dict es ep ∧ (∀ (sl : Array (Option Value)) h', h'.get? L = some { oL with slots := sl } → Heap.Ns h' L m) ∧ (∀ h', h'.get? L = some oL → Heap.Ns h' L m) ∧
      h₀.StaysIn (hideAll s.heap (news.map (·.1))) ∧ Below A base (env :: outer) (hideAll s.heap (news.map (·.1))) := by
  have old : ∀ b o, h₀.get? b = some o → b ∉ news.map (·.1) := fun b o e q => by
    obtain ⟨p, hp, rfl⟩ := List.mem_map.mp q
    rw [(N p hp).2.2] at e
    cases e
  have st : h₀.StaysIn (hideAll s.heap (news.map (·.1))) := fun b o e => hideAll_get _ (F.keep b o e) (old b o e)
  have nL : L ∉ news.map (·.1) := fun q => by
    obtain ⟨p, hp, e⟩ := List.mem_map.mp q
    exact (N p hp).2.1 e
  obtain ⟨oL, es, ep, hL, hLd, hLk, hLf⟩ := F.ns
  have FF : s.heap.FunFrames base (env :: outer) := .cons (by rw [hke]; decide) hf ⟨oL, es, ep, hL, hLd, hLk, hLf⟩ (fresh_of_stays B.stays (kts_self F)) (B.frames.of_keeps fun b o q _ => ⟨o, F.keep b o q, rfl⟩)
  refine ⟨oL, es, ep, hideAll_get _ hL nL, hLd, fun sl h' e => ⟨_, es, ep, e, hLd, hLk, hLf⟩, fun h' e => ⟨oL, es, ep, e, hLd, hLk, hLf⟩, st, ⟨hA, fun b o e => st b o (B.stays b o e), funFrames_hideAll FF fun en he b hb hq => ?_⟩⟩
  rcases List.mem_cons.mp he with rfl | he
  · exact nL (Option.some.inj (hf.symm.trans hq) ▸ hb)
  · obtain ⟨L₁, o₁, hf₁, ho₁⟩ := funFrames_in B.frames en he
    rw [hf₁] at hq
    exact old L₁ o₁ ho₁ (Option.some.inj hq ▸ hb)

theorem def_catches (B : Below A₀ base [] h₀) (F : Fr h₀ L s.heap m) (X₀ : K.In h₀) (N : News h₀ L s.heap news) (T : Top p loose mean mg mb h₀) (hA : A.frames = some [env]) (hf : env.frame = some L) (hke : env.scope.kind = .function)
    (ho : K.lookup f = some ⟨oc, od, .func (fnOf name qual params body scope dV kV doc pm an cdv ct), osl⟩) (hcd : codeIn K cdv qual = true) (hroom : A.depth < recursionLimit)
    (hbind : BindsTo s (fnOf name qual params body scope dV kV doc pm an cdv ct) args binds) (hloc : ∀ y ∈ binds, scope.names.lookup y.1 = some .local)
    (h : ∀ g L' h₁, Fr h₀ L g m → Fr g L' h₁ (fun y => binds.reverse.lookup y) → News g L' h₁ news → Below A base [env] g → K.In g → Top p loose mean mg mb g → KtsDicts ([env].filterMap (·.frame)) g →
      wpAny (model prog w) (A.deeper (envOf qual scope L' f cdv)) (execs body (envOf qual scope L' f cdv))
        (fun fl s' => LeaveS0 ([env].filterMap (·.frame)) h₀ L m g R (match fl with | .ret v => v | _ => .none) s')
        (fun e s' => wpAny (model prog w) (A.deeper (envOf qual scope L' f cdv)) (leaving (envOf qual scope L' f cdv) e) (fun _ s'' => R (.error e) s'') (fun e' s'' => R (.error e') s'') s')
        { s with heap := h₁, toks := s.toks + binds.length })
    (hco : scope.isCoroutine = false) (hgen : scope.isGenerator = false) (hk : scope.kind = .function)
    (hcell : ∀ x ∈ scope.names, x.2 ≠ .cell) : codeAny (model prog w) A (.call (.ref f) args) R s := by
  have X := X₀.keeps F.keep
  have only : ∀ b, b ∈ [env].filterMap (·.frame) → b = L := fun b hb => by
    obtain ⟨en, he, hq⟩ := List.mem_filterMap.mp hb
    rw [List.mem_singleton.mp he, hf] at hq
    exact (Option.some.inj hq).symm
  refine codeAny_call_def (fd := fnOf name qual params body scope dV kV doc pm an cdv ct) (body := body) (binds := binds) hroom (X _ _ ho) rfl (T.nolimit.keeps F.keep) (codeRec_of X hcd) rfl hbind hcell hloc (fun h₁ hns hk₁ => ?_) hco hgen hk
  obtain ⟨oL, es, ep, hLg, hLd, hNs, hN, st, B₂⟩ := enter_any B F N hA hf hke
  refine wpAny_mono (h _ s.heap.objs.size h₁ ⟨hN _ hLg, st, F.above⟩ ⟨hns, fun b o e => hk₁ b o (of_hideAll _ e), Nat.le_of_eq (hideAll_size _ _)⟩
    (fun p hp => ⟨hk₁ _ _ (N p hp).1, Nat.ne_of_lt (Heap.lt_size (N p hp).1), hideAll_none _ (List.mem_map_of_mem hp)⟩) B₂ (X₀.keeps st) (T.keeps st) (fun b hb => by
      rw [only b hb]
      exact ⟨oL, es, ep, hLg, hLd⟩)) (fun fl s' hl => ?_) fun _ _ y => y
  obtain ⟨g', L', m', news', T', F', N', k⟩ := hl
  obtain ⟨sl, hs⟩ := T'.up hLg
  refine k ⟨hNs sl _ (F'.keep _ _ hs), fun b o e => F'.keep b o (T'.other b o (st b o e) fun q => ?_), F.above⟩ fun p hp => ⟨(N' p hp).1, fun q => ?_, ?_⟩
  · rw [only b q, kts_self F] at e
    cases e
  · have := (N' p hp).2.2
    rw [q, hs] at this
    cases this
  · cases q : h₀.get? p.1 with
    | none => rfl
    | some o =>
      obtain ⟨sl', hs'⟩ := T'.up (st _ _ q)
      have := (N' p hp).2.2
      rw [hs'] at this
      cases this
end
end

-- part T2
section
open PySem PySem.W PyProof.Rows PyProof.V PySem.Spec
set_option rowWalk.seconds 0
variable {w : World} {mean : ExcName → Option Value} {mg mb : Str → Option Value} {loose : List Str}
    {dp un : Nat} {gd : Option (List Code)} {cn : Str} {cs : Scope} {a : Addr} {ccd : Value} {cl : List (Str × Addr)} {outer : List Env} {A₀ : Around} {base h₀ : Heap} {L : Addr} {m : Str → Option Value} {news : List (Addr × Obj)} {s : Shared}
    {Q E : Value → Shared → Prop}
theorem rows_T2_1 : True := by
  k_with_none
  (k_with "k_room" => first | exact room1 (by assumption) rfl | exact room2 (by assumption) rfl | exact room3 (by assumption) rfl | ktr_room)
  (k_with "k_units" => first | exact room1 (by assumption) rfl | exact room2 (by assumption) rfl | exact room3 (by assumption) rfl | ktr_units)
  (k_with "k_mem" => assumption)
  (k_with "k_mem" => exact Above.sub (by with_reducible assumption) _ (by assumption))
  (k_with "cell_enter" => refine code_defC (by k_asm) (by k_asm) (by k_asm) (by k_asm) (by k_asm) (by exact rfl) (by exact rfl) (by assumption) (by k_is) (by k_is) (by k_room) (by exact BindsTo.of_eq rfl) (by exact rfl) (by decide +kernel) ?_ (by exact rfl) (by exact rfl) (by exact rfl); k_whole; intro _ _ _ _ _ _ _ N'_w9 Y'_w9 B'_w9 _ _ l1_w9; (try k_lt l1_w9); k_cells Y'_w9; (try simp only [List.cons_append, List.nil_append] at N'_w9); (try dsimp only); (try k_lift B'_w9); (try k_fold))
  (k_with "k_all" => assumption)
  (k_with "k_mem" => first | assumption | exact List.Mem.head _ | exact List.Mem.tail _ (List.Mem.head _))
  (k_with "call ref" => k_here; (with_reducible show wpAny _ _ (call (Value.ref 159) _) _ _ _); k_dflt (refine read_tells (by k_asm) (by k_asm) (by k_asm) (by k_asm) (by k_asm) (by exact rfl) (by k_room) (by k_units) (by assumption) (by assumption) (by assumption) (by assumption) (by assumption) (by assumption) (by assumption) (by assumption) (by assumption) (by intro _ q'_w9; exact nomatch q'_w9) ?r2); intro _ q'_w9 _ _ _ _ _ _ _ _ _ _; cases q'_w9)
  trivial
theorem spot_found {sp : Int} {od : Obj} (S : SpotIn sp od) : ∃ t, findObj (Mine.hd.heap_1 w.params) 88 (some od) "spot" = some (.value (.int sp t)) := by
  obtain ⟨t1, v1, i1, t2, tk2, i2, k, rfl⟩ := S
  refine ⟨t2, findObj_own (attr := none) (by k_is) (by k_is) rfl ?_⟩
  unfold lookIn
  kernel_rfl
theorem get_spot {prog : Program} {A : Around} {e dx : Addr} {oe od : Obj} {sp : Int} {expr : Bool} (F : Fr h₀ L s.heap m) (X₀ : (Mine.hd.heap_1 w.params).In h₀) (N : News h₀ L s.heap news) (hc : CaughtD e dx oe) (S : SpotIn sp od) (he : (e, oe) ∈ news) (hd : (dx, od) ∈ news)
    (h : ∀ t, Q (.int sp t) { s with toks := s.toks + 1 }) : wpAny (model prog w) A (getAttr (.ref e) "spot" expr) Q E s := by
  obtain ⟨t, ht⟩ := spot_found (w := w) S
  exact getE (X₀.keeps F.keep) (inst_caught N he hd hc) ht rfl (h t)
theorem rows_T2_2 : True := by
  (k_with "getAttr ref" => k_here; (with_reducible show wpAny _ _ (getAttr (Value.ref _) (Str.ofString "spot") _) _ _ _); k_dflt (refine get_spot (by k_asm) (by k_asm) (by k_asm) (by assumption) (by assumption) (by k_mem) (by k_mem) ?_); intro _)
  (k_with "noteFrame ref" => k_here; k_dflt (refine caughtD (by assumption) (by assumption) (by assumption) (by assumption) (by assumption) (by assumption) (by assumption) (by exact KtsTurn.refl) (by k_is) (by kts_isx) ?_; k_whole); intro _ _ _ _ _ _ _ _ K'_w9 _ _ _; (try k_lift K'_w9); (try k_sweep))
  (k_with "try_enter" => refine def_catches (by k_asm) (by k_asm) (by k_asm) (by k_asm) (by k_asm) (by exact rfl) (by exact rfl) (by assumption) (by k_is) (by k_is) (by k_room) (by first | exact binds_K (by k_in) rfl (by k_is) rfl rfl rfl | exact BindsTo.of_eq rfl | fail "kts_go: no rule for these arguments") (by exact locs rfl) ?_ (by exact rfl) (by exact rfl) (by exact rfl) (by decide); k_whole; intro _ _ _ _ _ _ B'_w9 _ _ _; (try dsimp only); (try k_lift B'_w9); (try k_fold))
  trivial
theorem refused_tells {u dx nt nd l1 : Addr} {e1 e2 : Int} {t1 t2 tt ts : Tok} {kk k3 k1 : Nat} {nvs xs : List Value} {many : Nat} {marks : List Str} {text : Str} {off spot : Int}
    (B : Below A₀ base [] h₀) (F : Fr h₀ L s.heap m) (X : (Mine.hd.heap_1 w.params).In h₀) (N : News h₀ L s.heap news) (T : Top V loose mean mg mb h₀) (hk : cs.kind = .function)
    (XB : (Mine.hd.heap_1 w.params).In base) (TB : Top V loose mean mg mb base)
    (hd : dp + 24 < recursionLimit) (hu : un + 520 < cLine)
    (hU : UnivAt news u dx nt nd e1 e2 t1 t2 kk k3 nvs many) (hm1 : 1 ≤ many) (hm4 : many ≤ 4) (hl1 : (l1, PySem.W.listOf xs.toArray k1) ∈ news) (hx1 : StrsAre xs marks) (hmk : ∀ x ∈ marks, x.length ≤ 10) (hm3 : marks.length ≤ 3) (htl : text.length ≤ 5000)
    (hO : ReadOut many marks text (.error off)) (h0 : 0 ≤ off) (hs : off = spot ∨ spot = -1 ∧ off ≤ text.length)
    (hret : ∀ h' tk', Fr h₀ L h' m → News h₀ L h' news → Q (.bool true) { s with heap := h', toks := tk' }) :
    wpAny (model P w) (ktrTop dp un gd cn cs L a ccd cl []) (call (.ref 251) [.ref u, .ref l1, .str text tt, .int spot ts]) Q E s := by
  w_on
  refine wpAny_call ?_
  walk_at "try_enter"
  w_strict k_steps
  · rename Fr h₀ L _ _ => kF
    rename News h₀ L _ _ => kN
    have e : (off == spot) = true := by
      rcases hs with h | ⟨h, _⟩
      · rw [h]; exact beq_self_eq_true _
      · omega
    rw [e]
    exact hret _ _ kF fun p hp => kN p (.tail _ (.tail _ hp))
  · rename Fr h₀ L _ _ => kF
    rename News h₀ L _ _ => kN
    have e : decide (off ≤ (text.length : Int)) = true := by
      refine decide_eq_true ?_
      rcases hs with h | ⟨_, h⟩
      · omega
      · exact h
    rw [e]
    exact hret _ _ kF fun p hp => kN p (.tail _ (.tail _ hp))
end

-- part T3
section
open PySem PySem.W PyProof.Rows PyProof.V PySem.Spec
set_option rowWalk.seconds 0
variable {w : World} {mean : ExcName → Option Value} {mg mb : Str → Option Value} {loose : List Str}
    {dp un : Nat} {gd : Option (List Code)} {cn : Str} {cs : Scope} {a : Addr} {ccd : Value} {cl : List (Str × Addr)} {outer : List Env} {A₀ : Around} {base h₀ : Heap} {L : Addr} {m : Str → Option Value} {news : List (Addr × Obj)} {s : Shared}
    {Q E : Value → Shared → Prop}
theorem instD_ok (rels : List (List (List Int))) : ∀ d ∈ instD rels, kqdOk 8 d = true := by
  intro d hd
  obtain ⟨rel, _, rfl⟩ := List.mem_map.mp hd
  have h1 : ∀ r : List Int, kqdOk 7 (rowD r) = true := fun r => by
    simp [rowD, kqdOk, Function.comp_def]
  have h2 : (rel.map rowD).all (kqdOk 7) = true := by
    rw [List.all_map]
    exact List.all_eq_true.mpr fun x _ => h1 x
  exact h2
theorem rows_T3_1 : True := by
  k_with_none
  (k_with "k_room" => first | exact room1 (by assumption) rfl | exact room2 (by assumption) rfl | exact room3 (by assumption) rfl | ktr_room)
  (k_with "k_units" => first | exact room1 (by assumption) rfl | exact room2 (by assumption) rfl | exact room3 (by assumption) rfl | ktr_units)
  (k_with "k_mem" => assumption)
  (k_with "k_mem" => exact Above.sub (by with_reducible assumption) _ (by assumption))
  (k_with "cell_enter" => refine code_defC (by k_asm) (by k_asm) (by k_asm) (by k_asm) (by k_asm) (by exact rfl) (by exact rfl) (by assumption) (by k_is) (by k_is) (by k_room) (by exact BindsTo.of_eq rfl) (by exact rfl) (by decide +kernel) ?_ (by exact rfl) (by exact rfl) (by exact rfl); k_whole; intro _ _ _ _ _ _ _ N'_w9 Y'_w9 B'_w9 _ _ l1_w9; (try k_lt l1_w9); k_cells Y'_w9; (try simp only [List.cons_append, List.nil_append] at N'_w9); (try dsimp only); (try k_lift B'_w9); (try k_fold))
  (k_with "k_all" => assumption)
  (k_with "k_mem" => first | assumption | exact List.Mem.head _ | exact List.Mem.tail _ (Above.sub (by with_reducible assumption) _ (by assumption)))
  (k_with "kqd_ok" => exact Mine.instD_ok _)
  (k_with "kqd_sub" => first | exact fun _ h => .tail _ h | exact fun _ h => .tail _ (Above.sub (by with_reducible assumption) _ h))
  (k_with "call ref" => k_here; (with_reducible show wpAny _ _ (call (Value.ref 159) _) _ _ _); k_dflt (refine read_tells (by k_asm) (by k_asm) (by k_asm) (by k_asm) (by k_asm) (by exact rfl) (by k_room) (by k_units) (by assumption) (by assumption) (by assumption) (by assumption) (by assumption) (by assumption) (by assumption) (by assumption) (by assumption) ?r1 (by intro rels'_w9 q'_w9; exact nomatch q'_w9)); intro rels'_w9 q'_w9 _ _ _ _ _ _ _ _ _ _ _ _ _; cases q'_w9)
  trivial
theorem is_read_tells {u dx nt nd l1 ld : Addr} {e1 e2 : Int} {t1 t2 tt : Tok} {kk k3 k1 kd : Nat} {nvs xs dus : List Value} {many : Nat} {marks : List Str} {text : Str} {rels due : List (List (List Int))}
    (B : Below A₀ base outer h₀) (F : Fr h₀ L s.heap m) (X : (Mine.hd.heap_1 w.params).In h₀) (N : News h₀ L s.heap news) (T : Top V loose mean mg mb h₀) (hk : cs.kind = .function)
    (hd : dp + 24 < recursionLimit) (hu : un + 600 < cLine)
    (hU : UnivAt news u dx nt nd e1 e2 t1 t2 kk k3 nvs many) (hm1 : 1 ≤ many) (hm4 : many ≤ 4) (hl1 : (l1, PySem.W.listOf xs.toArray k1) ∈ news) (hx1 : StrsAre xs marks) (hmk : ∀ x ∈ marks, x.length ≤ 10) (hm3 : marks.length ≤ 3) (htl : text.length ≤ 5000)
    (hO : ReadOut many marks text (.ok rels)) (hl2 : (ld, PySem.W.listOf dus.toArray kd) ∈ news) (hdu : DatAll news dus (instD due)) (hsame : ∀ rels', Sorts rels' rels → rels' = due)
    (hret : ∀ h' tk', Fr h₀ L h' m → News h₀ L h' news → Q (.bool true) { s with heap := h', toks := tk' }) :
    wpAny (model P w) (ktrTop dp un gd cn cs L a ccd cl outer) (call (.ref 244) [.ref u, .ref l1, .str text tt, .ref ld]) Q E s := by
  w_on
  refine wpAny_call ?_
  k_dflt cell_enter
  w_strict k_steps
  rename Fr h₀ L _ _ => kF
  rename News h₀ L _ _ => kN
  rename Sorts _ _ => kS
  rename Above _ _ => ka
  rw [show ∀ i, @decide _ i = true from fun i => @decide_eq_true _ i (congrArg instD (hsame _ kS))]
  exact hret _ _ kF fun p hp => kN p (.tail _ (ka.sub p hp))
end

-- part U0
section
open PySem PySem.W PyProof.Rows PyProof.V PySem.Spec
set_option rowWalk.seconds 0
variable {w : World} {mean : ExcName → Option Value} {mg mb : Str → Option Value} {loose : List Str}
    {dp un : Nat} {gd : Option (List Code)} {cn : Str} {cs : Scope} {a : Addr} {ccd : Value} {cl : List (Str × Addr)} {outer : List Env} {A₀ : Around} {base h₀ : Heap} {L : Addr} {m : Str → Option Value} {news : List (Addr × Obj)} {s : Shared}
    {Q E : Value → Shared → Prop}
section
variable {prog : Program} {A : Around} {env : Env} {x : Str} {body : List Stmt} {Q : Flow → Shared → Prop}
set_option maxHeartbeats 3200000 in
/-- a for loop over a tuple of the open ledger: kdl_iter is for a list -/
theorem tup_iter {l : Addr} {vs : List Value} {nn : Nat} {m₀ : Str → Option Value} (J : Nat → (Str → Option Value) → List (Addr × Obj) → Prop)
    (hh : A.handled = none) (hl : (l, tupOf vs nn) ∈ news) (F : Fr h₀ env.locals s.heap m₀) (N : News h₀ env.locals s.heap news) (hj : J 0 m₀ news)
    (turn : ∀ i v m₁ news₁ h tk own, vs[i]? = some v → OwnOff own (news₁.map (·.1)) → (l, tupOf vs nn) ∈ news₁ → J i m₁ news₁ → Fr h₀ env.locals h (fun y => if y = x then some v else m₁ y) → News h₀ env.locals h (news₁ ++ own) →
      wpAny (model prog w) A (execs body env) (InvPostG h₀ env.locals (fun m' nx => (l, tupOf vs nn) ∈ nx ∧ J (i + 1) m' nx) own { s with heap := h, toks := tk } Q) E { s with heap := h, toks := tk })
    (done : ∀ m₁ news₁ h tk, J vs.length m₁ news₁ → Fr h₀ env.locals h m₁ → News h₀ env.locals h news₁ → Q .next { s with heap := h, toks := tk }) :
    wpAny (model prog w) A (pyIter (.ref l)) (fun it s₂ => LoopAtV prog w A h₀ env x body Q E it s₂) E s := by
  have at_l := (N _ hl).1
  have is_t := tup_at N hl
  have l_ne : l ≠ s.heap.objs.size := Nat.ne_of_lt (Heap.lt_size at_l)
  have W := Walks.tuple (prog := prog) (w := w) hh s.heap.objs.size l l_ne vs.toArray
  rw [show vs.toArray.size = vs.length from List.size_toArray] at W
  refine wpAny_pyIter_tuple is_t ?_
  refine ⟨_, _, _, vs.length, _, _, m₀, news, (fun i m nx => (l, tupOf vs nn) ∈ nx ∧ J i m nx), rfl, W, ?_, ?_, ?_, ⟨⟨_, Heap.get?_push_size _ rfl, rfl, rfl⟩, is_t.at fun o e => Heap.get?_push_of_some _ e⟩, F.push _, (fun p hp => ⟨Heap.get?_push_of_some _ (N p hp).1, (N p hp).2⟩), ⟨hl, hj⟩, ?_, ?_⟩
  · intro hm
    rcases List.mem_cons.mp hm with e | hm
    · exact absurd F.ns.lt (e ▸ Nat.lt_irrefl _)
    · exact (N _ hl).2.1 (List.mem_singleton.mp hm).symm
  · intro b hb
    rw [List.mem_singleton.mp hb]
    exact next_is_new F
  · intro p hp hI
    exact absurd (Heap.lt_size (N p hp).1) (List.mem_singleton.mp hI ▸ Nat.lt_irrefl _)
  · rintro i v m₁ nx s₁ own ⟨g, tk', rfl⟩ _ hP ⟨hl₁, hJ⟩ hoff hown hget hfp hst F₁ N₁
    obtain ⟨⟨oI, hoI, _⟩, _⟩ := id hst
    obtain ⟨mine, hmine⟩ : ∃ mine, mine = own.filter fun p => decide (p.1 = s.heap.objs.size) := ⟨_, rfl⟩
    have in_mine : ∀ p, p ∈ mine ↔ p ∈ own ∧ p.1 = s.heap.objs.size := fun p => by rw [hmine, List.mem_filter]; simp
    have hI : (s.heap.objs.size, oI) ∈ mine := (in_mine _).mpr ⟨hfp _ (List.mem_cons.mpr (.inl rfl)) (next_is_new F) _ hoI, rfl⟩
    have off : OwnOff mine (nx.map (·.1)) := fun p hp b hb e => by
      obtain ⟨q, hq, rfl⟩ := List.mem_map.mp hb
      exact hoff q hq (List.mem_singleton.mpr (e ▸ ((in_mine p).mp hp).2))
    have N₂ : News h₀ env.locals g (nx ++ mine) := fun p hp => N₁ p (List.mem_append.mpr ((List.mem_append.mp hp).symm.imp (fun h => ((in_mine p).mp h).1) id))
    have at_l₁ : g.get? l = some (tupOf vs nn) := (N₁ _ (List.mem_append.mpr (.inr hl₁))).1
    refine wpAny_mono (turn i v m₁ nx g tk' _ (by simpa using hP) off hl₁ hJ F₁ N₂) (fun f s₂ p => ?_) fun _ _ e => e
    have fin : InvEndG h₀ env.locals (fun m' nx => (l, tupOf vs nn) ∈ nx ∧ J (i + 1) m' nx) mine { s with heap := g, toks := tk' } s₂ →
        LoopStepU h₀ env.locals [s.heap.objs.size] own (fun m nx => (l, tupOf vs nn) ∈ nx ∧ J (i + 1) m nx) { s with heap := g, toks := tk' } .next s₂ := by
      rintro ⟨h', tk, m', news', nx', e, F', N', hn, ho, ha, hm⟩
      refine ⟨rfl, h', tk, m', nx', e, F', fun p hp => ?_, fun p hp hq => ha _ hI p.1 (List.mem_map.mpr ⟨p, hp, rfl⟩) (List.mem_singleton.mp hq).symm, hm⟩
      rcases List.mem_append.mp hp with h | h
      · by_cases q : p.1 = s.heap.objs.size
        · exact N' p (ho p ((in_mine p).mpr ⟨h, q⟩))
        · have h1 : p.1 = l := by
            rcases List.mem_cons.mp (hown p h) with z | z
            · exact absurd z q
            · exact List.mem_singleton.mp z
          have h2 := hget p h
          rw [h1] at h2
          have h3 : p = (l, tupOf vs nn) := Prod.ext h1 (Option.some.inj (h2.symm.trans at_l₁))
          rw [h3]
          exact N' _ (hn _ hm.1)
      · exact N' p (hn p h)
    cases f with
    | ret v => exact .ret p
    | brk => exact .brk p
    | next => exact .next (fin p)
    | cont => exact .cont (fin p)
  · rintro h' tk m' news' F' N' _ ⟨_, hJ⟩
    exact done m' news' h' tk hJ F' N'
end
end

-- part U1
section
open PySem PySem.W PyProof.Rows PyProof.V PySem.Spec
set_option rowWalk.seconds 0
variable {w : World} {mean : ExcName → Option Value} {mg mb : Str → Option Value} {loose : List Str}
    {dp un : Nat} {gd : Option (List Code)} {cn : Str} {cs : Scope} {a : Addr} {ccd : Value} {cl : List (Str × Addr)} {outer : List Env} {A₀ : Around} {base h₀ : Heap} {L : Addr} {m : Str → Option Value} {news : List (Addr × Obj)} {s : Shared}
    {Q E : Value → Shared → Prop}
theorem rows_U1_1 : True := by
  k_with_none
  (k_with "k_room" => first | exact room1 (by assumption) rfl | exact room2 (by assumption) rfl | exact room3 (by assumption) rfl | ktr_room)
  (k_with "k_units" => first | exact room1 (by assumption) rfl | exact room2 (by assumption) rfl | exact room3 (by assumption) rfl | ktr_units)
  (k_with "k_mem" => assumption)
  (k_with "k_mem" => exact Above.sub (by with_reducible assumption) _ (by assumption))
  (k_with "cell_enter" => refine code_defC (by k_asm) (by k_asm) (by k_asm) (by k_asm) (by k_asm) (by exact rfl) (by exact rfl) (by assumption) (by k_is) (by k_is) (by k_room) (by exact BindsTo.of_eq rfl) (by exact rfl) (by decide +kernel) ?_ (by exact rfl) (by exact rfl) (by exact rfl); k_whole; intro _ _ _ _ _ _ _ N'_w9 Y'_w9 B'_w9 _ _ l1_w9; (try k_lt l1_w9); k_cells Y'_w9; (try simp only [List.cons_append, List.nil_append] at N'_w9); (try dsimp only); (try k_lift B'_w9); (try k_fold))
  (k_with "k_all" => assumption)
  (k_with "eval Name" => k_here; k_dflt (refine ld (by k_asm) (by first | exact rfl | assumption) ?_; k_whole))
  (k_with "k_mem" => first | assumption | exact List.Mem.head _ | exact List.Mem.tail _ (List.Mem.tail _ (by assumption)))
  (k_with "exec For Name Attribute cons nil" => k_here; (with_reducible show wpAny _ _ (exec (Stmt.For (Expr.Name _ _) _ _ [] _) _) _ _ _); k_dflt (refine For_src (by k_asm) (by rfl) (by rfl) ?_ (by (intro _; rfl)) (by passes_own)))
  (k_with "call type:tuple" => k_here; (with_reducible show wpAny _ _ (call (Value.type _) [Value.ref _]) _ _ _); k_dflt (refine tuple_L (by k_asm) (by k_asm) (by k_mem) (by assumption) ?_); intro _ _ _ _ l9_w9; (have n9_w9 := fun p hp => Nat.ne_of_lt (l9_w9 p (List.Mem.tail _ (List.Mem.tail _ hp)))); (try k_lt l9_w9))
  trivial
theorem strs1 {xs : List Value} {a : Str} (h : StrsAre xs [a]) : ∃ t, xs = [.str a t] := by
  cases h with | cons _ t h => cases h; exact ⟨t, rfl⟩
theorem strs2 {xs : List Value} {a b : Str} (h : StrsAre xs [a, b]) : ∃ t u, xs = [.str a t, .str b u] := by
  cases h with | cons _ t h => obtain ⟨u, rfl⟩ := strs1 h; exact ⟨t, u, rfl⟩
theorem strs3 {xs : List Value} {a b c : Str} (h : StrsAre xs [a, b, c]) : ∃ t u v, xs = [.str a t, .str b u, .str c v] := by
  cases h with | cons _ t h => obtain ⟨u, v, rfl⟩ := strs2 h; exact ⟨t, u, v, rfl⟩
theorem strs4 {xs : List Value} {a b c d : Str} (h : StrsAre xs [a, b, c, d]) : ∃ t u v x, xs = [.str a t, .str b u, .str c v, .str d x] := by
  cases h with | cons _ t h => obtain ⟨u, v, x, rfl⟩ := strs3 h; exact ⟨t, u, v, x, rfl⟩
def UJ (w : World) (tl : List (Addr × Obj)) (nd x' : Addr) : Nat → (Str → Option Value) → List (Addr × Obj) → Prop := fun i m' nx => ∃ od kvs, od.IsDictOf (PySem.strKind P w) kvs ∧ kvs.map (·.1) = names.take i ∧ nx = (nd, od) :: tl ∧ m' "self" = some (.ref x')
theorem allLt_mem' {a : Addr} : ∀ {l : List (Addr × Obj)}, AllLt a l → ∀ p ∈ l, p.1 < a
  | [], _, _, h => nomatch h
  | _ :: _, h, p, hp => by
    rcases List.mem_cons.mp hp with rfl | hp
    · exact h.1
    · exact allLt_mem' h.2 p hp
theorem name_new {kvs : List (Str × Value)} {i : Nat} {y : Str} (h : kvs.map (·.1) = names.take i) (hi : i < 4) (hy : names[i]? = some y) : PySem.valueAt kvs y = none := by
  unfold PySem.valueAt
  rw [List.find?_eq_none.mpr, Option.map_none]
  intro kv hkv
  have hm : kv.1 ∈ names.take i := h ▸ List.mem_map.mpr ⟨kv, hkv, rfl⟩
  have hne : ∀ z ∈ names.take i, z ≠ y := by
    have hic : i = 0 ∨ i = 1 ∨ i = 2 ∨ i = 3 := by omega
    rcases hic with rfl | rfl | rfl | rfl <;> (cases hy; decide +kernel)
  simpa using hne _ hm
theorem rows_U1_2 : True := by
  (k_with "compareOp In str ref" => k_here; k_dflt (refine kda_in (knd := PySem.strKind _ _) (by k_asm) (by k_mem) (by assumption) (by assumption) (strKind_is _ _ _ _) false (by exact Option.isSome_eq_false_iff.mpr (Option.isNone_iff_eq_none.mpr (by assumption))) ?_))
  (k_with "call builtin:len" => k_here; (with_reducible show wpAny _ _ (call (Value.builtin "len") [Value.ref _]) _ _ _); k_dflt (refine kda_len (knd := PySem.strKind _ _) (by k_asm) (by k_mem) (by assumption) (by assumption) (by omega) ?_))
  (k_with "setItem ref str" => k_here; k_dflt (refine kda_set (knd := PySem.strKind _ _) (by k_asm) (by k_asm) (by k_updF) (by k_asm) (strKind_is _ _ _ _) (by rw [sizeLine_eq]; omega) ?_); intro _ _ _ N'_w9 _; (try dsimp only at N'_w9))
  trivial
theorem universe_tells {l : Addr} {k : Nat} {xs : List Value} {many : Nat}
    (B : Below A₀ base outer h₀) (F : Fr h₀ L s.heap m) (X : (Mine.hd.heap_1 w.params).In h₀) (N : News h₀ L s.heap news) (T : Top V loose mean mg mb h₀) (hk : cs.kind = .function)
    (hd : dp + 6 < recursionLimit) (hu : un + 100 < cLine) (hm1 : 1 ≤ many) (hm4 : many ≤ 4)
    (hl : (l, PySem.W.listOf xs.toArray k) ∈ news) (hx : StrsAre xs (names.take many))
    (hret : ∀ u dx nt nd e1 e2 t1 t2 kk k3 nw h' tk', Fr h₀ L h' m → News h₀ L h' nw → Above news nw → UnivAt nw u dx nt nd e1 e2 t1 t2 kk k3 xs many → (∀ p ∈ news, p.1 < u ∧ p.1 < dx ∧ p.1 < nt) → Q (.ref u) { s with heap := h', toks := tk' }) :
    wpAny (model P w) (ktrTop dp un gd cn cs L a ccd cl outer) (call (.ref 207) [.ref l] []) Q E s := by
  w_on
  have hnl : xs.length = many := by rw [StrsAre.length hx, List.length_take]; exact Nat.min_eq_left (by simpa [names] using hm4)
  have hz9 : xs.length ≤ 16384 := by omega
  k_dflt (refine' call_cls ?k1 ?k2 ?k3 ?k4 ?k5 ?k6 ?_; (case k1 => k_asm); (case k2 => k_asm); (case k3 => k_asm); (case k4 => k_is); (case k5 => k_is); (case k6 => k_is); k_whole; intro x' d' h' F' N' l1 l2; (have n1 : ∀ p ∈ news, p.1 ≠ d' := fun p hp => Nat.ne_of_lt (l1 p hp)); (have n2 : ∀ p ∈ news, p.1 < d' := l1); (try k_lt l1); (try k_lt2 l2); cell_enter)
  w_strict k_steps
  rename Fr _ _ _ _ => lF
  rename News _ _ _ _ => lN
  rename (∀ p, List.Mem p news → p.1 ≠ _) => n9
  rename_i D _ _ nd _ od0 lo hs0 fs0 hi0 fi0 l9 _
  clear fs0 hi0 fi0
  obtain ⟨q1, q2, q3, q4⟩ := l9
  have q5 := allLt_mem' q4
  rename (_ ∧ _ ∧ AllLt _ news) => l8
  have q6 := allLt_mem' l8.2.2
  refine ⟨tup_iter (nn := 0) (UJ w _ nd x') rfl (.tail _ (.head _)) lF lN ⟨_, _, hs0, rfl, rfl, rfl⟩ ?_ ?_⟩
  · rintro i v m₁ news₁ h tk own hv hoff hl' ⟨od, kvs, hD, hF, rfl, m1⟩ F1 N1
    obtain ⟨tl, htl⟩ : ∃ tl, tl = news ++ own := ⟨_, rfl⟩
    rw [List.cons_append, List.cons_append, List.cons_append, List.cons_append, ← htl] at N1
    have nnd : ∀ p ∈ tl, p.1 ≠ nd := by
      rw [htl]
      intro p hp
      rcases List.mem_append.mp hp with hp | hp
      · exact Nat.ne_of_lt (q5 p hp)
      · exact hoff p hp nd (by simp)
    clear lN lF hs0
    obtain ⟨y, t9, rfl, hy⟩ := hx.item i v hv
    have hi : i < many := by have := (List.getElem?_eq_some_iff.mp hv).1; omega
    have hy' : names[i]? = some y := by rw [List.getElem?_take_of_lt hi] at hy; exact hy
    have hnon := name_new hF (by omega) hy'
    have hkl : kvs.length = i := by
      have := congrArg List.length hF
      rw [List.length_map, List.length_take, show names.length = 4 from rfl] at this
      omega
    k_steps
    rename Fr _ _ _ _ => lF
    rename News _ _ _ _ => lN
    rename Obj.IsDictOf _ _ (PySem.stored _ _ _) => hst
    rw [stored_absent hnon] at hst
    refine InvEndG.intro (nx := (nd, _) :: (_, tupOf xs 0) :: (x', _) :: (d', _) :: news) lF lN ⟨.tail _ (.head _), _, _, hst, ?_, rfl, m1⟩ hoff ?_ ?_
    · rw [List.map_append, hF, List.take_add_one, hy']
      rfl
    · intro p hp
      rcases List.mem_cons.mp hp with rfl | hp
      · exact .head _
      · rcases List.mem_cons.mp hp with rfl | hp
        · exact .tail _ (.head _)
        · rcases List.mem_cons.mp hp with rfl | hp
          · exact .tail _ (.tail _ (.head _))
          · rcases List.mem_cons.mp hp with rfl | hp
            · exact .tail _ (.tail _ (.tail _ (.head _)))
            · exact .tail _ (.tail _ (.tail _ (.tail _ (htl ▸ List.mem_append_left _ hp))))
    · intro p hp
      exact .tail _ (.tail _ (.tail _ (.tail _ (htl ▸ List.mem_append_right _ hp))))
  · rintro m₁ news₁ h tk ⟨od, kvs, hD, hF, rfl, m1⟩ F1 N1
    clear lN lF hs0
    k_steps
    rename Fr h₀ L _ _ => kF
    rename News h₀ L _ _ => kN
    exact hret x' d' _ nd _ _ _ _ _ 0 _ _ _ kF kN ((((Above.refl.cons' n2).cons' fun p hp => Nat.lt_trans (n2 p hp) l2).cons' q6).cons' q5) ⟨.tail _ (.tail _ (.head _)), .tail _ (.tail _ (.tail _ (.head _))), .tail _ (.head _), hx⟩ fun p hp => ⟨Nat.lt_trans (n2 p hp) l2, n2 p hp, q6 p hp⟩
end

-- part W1
section
open PySem PySem.W PyProof.Rows PyProof.V PySem.Spec
set_option rowWalk.seconds 0
variable {w : World} {mean : ExcName → Option Value} {mg mb : Str → Option Value} {loose : List Str}
    {dp un : Nat} {gd : Option (List Code)} {cn : Str} {cs : Scope} {a : Addr} {ccd : Value} {cl : List (Str × Addr)} {outer : List Env} {A₀ : Around} {base h₀ : Heap} {L : Addr} {m : Str → Option Value} {news : List (Addr × Obj)} {s : Shared}
    {Q E : Value → Shared → Prop}
/-- the law's own feed: the drawn cells and the next spot -/
abbrev feedOf (lc : Addr) (sp : Int) (t : Tok) : List (Str × Value) := [("cells", .ref lc), ("spot", .int sp t)]
theorem feed_next {lc : Addr} {sp : Int} {t : Tok} {v : Value} : PySem.stored (feedOf lc sp t) "spot" v = ([("cells", .ref lc), ("spot", v)] : List (Str × Value)) := by
  have h1 : (("cells" : Str) = "spot") = False := eq_false (by decide +kernel)
  unfold PySem.stored feedOf
  simp [h1]
theorem feed_cells {lc : Addr} {sp : Int} {t : Tok} : PySem.valueAt (feedOf lc sp t) "cells" = some (.ref lc) := by
  unfold PySem.valueAt feedOf
  simp
theorem feed_spot {lc : Addr} {sp : Int} {t : Tok} : PySem.valueAt (feedOf lc sp t) "spot" = some (.int sp t) := by
  have h1 : (("cells" : Str) = "spot") = False := eq_false (by decide +kernel)
  unfold PySem.valueAt feedOf
  simp [h1]
theorem updF_mid {d : Addr} {o : Obj} : ∀ {pre post : List (Addr × Obj)}, (∀ p ∈ pre, p.1 ≠ d) → (∀ p ∈ post, p.1 ≠ d) → UpdF d o (pre ++ (d, o) :: post) (fun o' => pre ++ (d, o') :: post)
  | [], _, _, b => .head b
  | _ :: _, _, a, b => .tail (a _ (.head _)) (updF_mid (fun p hp => a p (.tail _ hp)) b)
theorem rows_W1_1 : True := by
  k_with_none
  (k_with "k_room" => first | exact room1 (by assumption) rfl | exact room2 (by assumption) rfl | exact room3 (by assumption) rfl | ktr_room)
  (k_with "k_units" => first | exact room1 (by assumption) rfl | exact room2 (by assumption) rfl | exact room3 (by assumption) rfl | ktr_units)
  (k_with "k_mem" => assumption)
  (k_with "k_mem" => exact Above.sub (by with_reducible assumption) _ (by assumption))
  (k_with "cell_enter" => refine code_defC (by k_asm) (by k_asm) (by k_asm) (by k_asm) (by k_asm) (by exact rfl) (by exact rfl) (by assumption) (by k_is) (by k_is) (by k_room) (by exact BindsTo.of_eq rfl) (by exact rfl) (by decide +kernel) ?_ (by exact rfl) (by exact rfl) (by exact rfl); k_whole; intro _ _ _ _ _ _ _ N'_w9 Y'_w9 B'_w9 _ _ l1_w9; (try k_lt l1_w9); k_cells Y'_w9; (try simp only [List.cons_append, List.nil_append] at N'_w9); (try dsimp only); (try k_lift B'_w9); (try k_fold))
  (k_with "k_all" => assumption)
  (k_with "call builtin:len" => k_here; (with_reducible show wpAny _ _ (call (Value.builtin "len") [Value.ref _]) _ _ _); k_dflt (first | (refine len_L (by k_asm) (by k_mem) (by assumption) (by omega) ?_) | (refine len_T (by k_asm) (by k_mem) (by assumption) (by omega) ?_)); intro _ _)
  (k_with "k_mem" => first | assumption | (rename (∀ _ : Obj, _ ∈ _) => hc9_w9; exact hc9_w9 _) | (rename (∀ _ : Obj, _ ∈ _) => hc9_w9; exact List.Mem.tail _ (hc9_w9 _)))
  (k_with "k_updF" => first | assumption | (rename (∀ p ∈ _, Prod.fst p < _) => l9_w9; exact UpdF.tail (Nat.ne_of_gt (l9_w9 _ (by assumption))) (by assumption)))
  (k_with "subscriptTail" => k_here; (with_reducible show wpAny _ _ (subscriptTail _ _ (Value.ref _) (Value.str _ _)) _ _ _); k_dflt (refine kda_item (knd := PySem.strKind _ _) (by k_asm) (by k_mem) (by assumption) (strKind_is _ _ _ _) (by first | exact feed_cells | exact feed_spot) ?_))
  (k_with "setItem ref str" => k_here; k_dflt (refine kda_set (knd := PySem.strKind _ _) (by k_asm) (by k_asm) (by k_updF) (by assumption) (strKind_is _ _ _ _) (by rw [sizeLine_eq]; exact Nat.le_of_ble_eq_true rfl) ?_); intro _ _ _ N'_w9 hd'_w9; rw [feed_next] at hd'_w9; (try dsimp only at N'_w9))
  trivial
theorem draw_split {fd lc : Addr} {fo : Obj} {sp wide : Int} {t tw : Tok} {cells : List Value} {ns : List Int} {kc : Nat} {pre post : List (Addr × Obj)}
    (B : Below A₀ base outer h₀) (F : Fr h₀ L s.heap m) (X : (Mine.hd.heap_1 w.params).In h₀) (N : News h₀ L s.heap (pre ++ (fd, fo) :: post)) (T : Top V loose mean mg mb h₀) (hk : cs.kind = .function)
    (hd : dp + 3 < recursionLimit) (hu : un + 20 < cLine)
    (hpre : ∀ p ∈ pre, p.1 ≠ fd) (hpost : ∀ p ∈ post, p.1 ≠ fd) (hf : fo.IsDictOf (PySem.strKind P w) (feedOf lc sp t)) (hc : ∀ o' : Obj, (lc, PySem.W.listOf cells.toArray kc) ∈ pre ++ (fd, o') :: post) (hi : IntsAre cells ns) (hl : ns.length ≤ 40)
    (hs0 : 0 ≤ sp) (hs1 : sp ≤ 1000) (hw0 : 1 ≤ wide) (hw1 : wide ≤ 10000)
    (hret : ∀ r fo' t' h' tr tk', 0 ≤ r → r < wide → fo'.IsDictOf (PySem.strKind P w) (feedOf lc (sp + 1) t') → Fr h₀ L h' m → News h₀ L h' (pre ++ (fd, fo') :: post) → Q (.int r tr) { s with heap := h', toks := tk' }) :
    wpAny (model P w) (ktrTop dp un gd cn cs L a ccd cl outer) (call (.ref 220) [.ref fd, .int wide tw]) Q E s := by
  w_on
  have hm1 : (fd, fo) ∈ pre ++ (fd, fo) :: post := by simp
  have hU := updF_mid (o := fo) hpre hpost
  have hcn : cells.length = ns.length := hi.length
  refine wpAny_call ?_
  k_dflt cell_enter
  w_strict k_steps
  all_goals
    rename Fr h₀ L _ _ => kF
    rename News h₀ L _ _ => kN
    rename Obj.IsDictOf _ _ [_, _] => kd
    exact hret _ _ _ _ _ _ (Int.fmod_nonneg_of_pos _ (by omega)) (Int.fmod_lt_of_pos _ (by omega)) kd kF fun p hp => kN p (.tail _ hp)
theorem draw_tells {fd lc : Addr} {fo : Obj} {sp wide : Int} {t tw : Tok} {cells : List Value} {ns : List Int} {kc : Nat} {g : Obj → List (Addr × Obj)}
    (B : Below A₀ base outer h₀) (F : Fr h₀ L s.heap m) (X : (Mine.hd.heap_1 w.params).In h₀) (N : News h₀ L s.heap news) (T : Top V loose mean mg mb h₀) (hk : cs.kind = .function)
    (hd : dp + 3 < recursionLimit) (hu : un + 20 < cLine)
    (U : UpdF fd fo news g) (hf : fo.IsDictOf (PySem.strKind P w) (feedOf lc sp t)) (hc : (lc, PySem.W.listOf cells.toArray kc) ∈ news) (hi : IntsAre cells ns) (hl : ns.length ≤ 40)
    (hs0 : 0 ≤ sp) (hs1 : sp ≤ 1000) (hw0 : 1 ≤ wide) (hw1 : wide ≤ 10000)
    (hret : ∀ r fo' t' h' tr tk', 0 ≤ r → r < wide → fo'.IsDictOf (PySem.strKind P w) (feedOf lc (sp + 1) t') → Fr h₀ L h' m → News h₀ L h' (g fo') → Q (.int r tr) { s with heap := h', toks := tk' }) :
    wpAny (model P w) (ktrTop dp un gd cn cs L a ccd cl outer) (call (.ref 220) [.ref fd, .int wide tw]) Q E s := by
  obtain ⟨pre, post, rfl, hg, a, b⟩ := U.split
  have hne : fo ≠ PySem.W.listOf cells.toArray kc := fun e => by
    subst e
    obtain ⟨es, ep, _, hdd, _⟩ := hf
    cases hdd
  refine draw_split (kc := kc) B F X N T hk hd hu a b hf (fun o' => ?_) hi hl hs0 hs1 hw0 hw1 fun r fo' t' h' tr tk' r0 r1 D F' N' => hret r fo' t' h' tr tk' r0 r1 D F' (by rw [hg]; exact N')
  rcases List.mem_append.mp hc with h | h
  · exact List.mem_append_left _ h
  · rcases List.mem_cons.mp h with h | h
    · injection h with _ h
      exact absurd h.symm hne
    · exact List.mem_append_right _ (.tail _ h)
end

-- part W2
section
open PySem PySem.W PyProof.Rows PyProof.V PySem.Spec
set_option rowWalk.seconds 0
variable {w : World} {mean : ExcName → Option Value} {mg mb : Str → Option Value} {loose : List Str}
    {dp un : Nat} {gd : Option (List Code)} {cn : Str} {cs : Scope} {a : Addr} {ccd : Value} {cl : List (Str × Addr)} {outer : List Env} {A₀ : Around} {base h₀ : Heap} {L : Addr} {m : Str → Option Value} {news : List (Addr × Obj)} {s : Shared}
    {Q E : Value → Shared → Prop}
section
variable {prog : Program} {A : Around} {env : Env} {x : Str} {body : List Stmt} {Q : Flow → Shared → Prop}
set_option maxHeartbeats 3200000 in
/-- a for loop over a range by ones, with an open ledger -/
theorem rng_iter {r : Addr} {a b : Int} {t u v : Tok} {n : Nat} {m₀ : Str → Option Value} (J : Nat → (Str → Option Value) → List (Addr × Obj) → Prop)
    (hh : A.handled = none) (hr : IsRange s.heap r a b 1 t u v) (hsm : Builtin.Range.small a b 1 = true) (hn : Builtin.Range.rangeSize a b 1 = ((n : Nat) : Int)) (F : Fr h₀ env.locals s.heap m₀) (N : News h₀ env.locals s.heap news) (hj : J 0 m₀ news)
    (turn : ∀ i t m₁ news₁ h tk own, i < n → OwnOff own (news₁.map (·.1)) → J i m₁ news₁ → Fr h₀ env.locals h (fun y => if y = x then some (.int (a + (i : Nat)) t) else m₁ y) → News h₀ env.locals h (news₁ ++ own) →
      wpAny (model prog w) A (execs body env) (InvPostG h₀ env.locals (J (i + 1)) own { s with heap := h, toks := tk } Q) E { s with heap := h, toks := tk })
    (done : ∀ m₁ news₁ h tk, J n m₁ news₁ → Fr h₀ env.locals h m₁ → News h₀ env.locals h news₁ → Q .next { s with heap := h, toks := tk }) :
    wpAny (model prog w) A (pyIter (.ref r)) (fun it s₂ => LoopAtV prog w A h₀ env x body Q E it s₂) E s := by
  refine wpAny_pyIter_range hr hsm ?_
  rw [hn]
  have W := LCg.range_walks (prog := prog) (w := w) (A := A) (I := s.heap.objs.size) hh a n
  refine ⟨_, _, _, n, _, _, m₀, news, J, rfl, W, ?_, ?_, ?_, (by show IsRangeIter _ _ _ _ _; simpa using Heap.get?_push_size _ rfl), F.push _, (fun p hp => ⟨Heap.get?_push_of_some _ (N p hp).1, (N p hp).2⟩), hj, ?_, ?_⟩
  · intro hm
    exact absurd F.ns.lt ((List.mem_singleton.mp hm) ▸ Nat.lt_irrefl _)
  · intro b hb
    rw [List.mem_singleton.mp hb]
    exact next_is_new F
  · intro p hp hI
    exact absurd (Heap.lt_size (N p hp).1) (List.mem_singleton.mp hI ▸ Nat.lt_irrefl _)
  · rintro i z m₁ nx s₁ own ⟨g, tk', rfl⟩ hin ⟨tz, rfl⟩ hJ hoff hown hget hfp hst F₁ N₁
    have off : OwnOff own (nx.map (·.1)) := fun p hp b hb e => by
      obtain ⟨q, hq, rfl⟩ := List.mem_map.mp hb
      exact hoff q hq (e ▸ hown p hp)
    have N₂ : News h₀ env.locals g (nx ++ own) := fun p hp => N₁ p (List.mem_append.mpr (List.mem_append.mp hp).symm)
    have hI : ∃ oI, (s.heap.objs.size, oI) ∈ own := ⟨_, hfp _ (List.mem_singleton.mpr rfl) (next_is_new F) _ hst⟩
    refine wpAny_mono (turn i tz m₁ nx g tk' own hin off hJ F₁ N₂) (fun f s₂ p => ?_) fun _ _ e => e
    have fin : InvEndG h₀ env.locals (J (i + 1)) own { s with heap := g, toks := tk' } s₂ →
        LoopStepU h₀ env.locals [s.heap.objs.size] own (J (i + 1)) { s with heap := g, toks := tk' } .next s₂ := by
      rintro ⟨h', tk, m', news', nx', e, F', N', hn', ho, ha, hm⟩
      obtain ⟨oI, hI⟩ := hI
      refine ⟨rfl, h', tk, m', nx', e, F', fun p hp => ?_, fun p hp hq => ha _ hI p.1 (List.mem_map.mpr ⟨p, hp, rfl⟩) (List.mem_singleton.mp hq).symm, hm⟩
      rcases List.mem_append.mp hp with h | h
      · exact N' p (ho p h)
      · exact N' p (hn' p h)
    cases f with
    | ret v => exact .ret p
    | brk => exact .brk p
    | next => exact .next (fin p)
    | cont => exact .cont (fin p)
  · rintro h' tk m' news' F' N' _ hJ
    exact done m' news' h' tk hJ F' N'
end
end

-- part W3
section
open PySem PySem.W PyProof.Rows PyProof.V PySem.Spec
set_option rowWalk.seconds 0
variable {w : World} {mean : ExcName → Option Value} {mg mb : Str → Option Value} {loose : List Str}
    {dp un : Nat} {gd : Option (List Code)} {cn : Str} {cs : Scope} {a : Addr} {ccd : Value} {cl : List (Str × Addr)} {outer : List Env} {A₀ : Around} {base h₀ : Heap} {L : Addr} {m : Str → Option Value} {news : List (Addr × Obj)} {s : Shared}
    {Q E : Value → Shared → Prop}
section
variable {prog : Program} {A : Around}
open PySem.Calls
/-- sorted(l) of a list of the open ledger: a new list, then its sort -/
theorem sorted_L {l : Addr} {vs : List Value} {c : Nat} (F : Fr h₀ L s.heap m) (N : News h₀ L s.heap news) (hl : (l, PySem.W.listOf vs.toArray c) ∈ news) (hn : vs.length ≤ 16384)
    (h : ∀ D h', Fr h₀ L h' m → News h₀ L h' ((D, PySem.W.listOf vs.toArray 0) :: news) → (∀ q ∈ news, q.1 < D) →
      wpAny (model prog w) A.in1 (call (.builtin "list.sort") [.ref D]) (fun _ s' => Q (.ref D) s') E { s with heap := h' }) :
    wpAny (model prog w) A (call (.builtin "sorted") [.ref l]) Q E s := by
  refine call_function_entry kind_sorted plain_sorted entry_sorted (args_sorted1 _) ?_
  unfold Builtin.«sorted»
  refine wpAny_bind (m := checkCount "sorted" 1 1 _) (wpAny_pure ?_)
  have hz : vs.length ≤ sizeLine := by rw [sizeLine_eq]; omega
  refine wpAny_bind (collect_list (lst_at N hl) ?_ hz)
  have up : ∀ b o, s.heap.get? b = some o → ((s.heap.push (seqObj "list" #[] 0)).update s.heap.objs.size (Obj.mapSeq (· ++ vs.toArray))).get? b = some o := fun b o q => by
    have hlt : b < s.heap.objs.size := Heap.lt_size q
    rw [Heap.get?_update_other _ _ (Ne.symm (Nat.ne_of_lt hlt))]
    exact Heap.get?_push_of_some _ q
  have up1 := F.keeps up
  have up2 : News h₀ L _ news := fun p hp => ⟨up _ _ (N p hp).1, (N p hp).2⟩
  have lo : ∀ q ∈ news, q.1 < ((s.heap.push (seqObj "list" #[] 0)).update s.heap.objs.size (Obj.mapSeq (· ++ vs.toArray))).objs.size := fun q hq => Heap.lt_size (up2 q hq).1
  generalize (s.heap.push (seqObj "list" #[] 0)).update s.heap.objs.size (Obj.mapSeq (· ++ vs.toArray)) = G at up1 up2 lo
  refine wpAny_bind (wpAny_newList ?_ hz)
  have hg := h G.objs.size (G.push (PySem.W.listOf vs.toArray 0)) (up1.push _) (News.push up1 up2 _ rfl) lo
  refine wpAny_bind (wpAny_holding (wpAny_mono hg (fun _ s' x => ?_) fun _ _ e => e))
  exact wpAny_pure ⟨_, rfl, x⟩
end
end

-- part K1
section
open PySem PySem.W PyProof.Rows PyProof.V PySem.Spec
set_option rowWalk.seconds 0
variable {w : World} {mean : ExcName → Option Value} {mg mb : Str → Option Value} {loose : List Str}
    {dp un : Nat} {gd : Option (List Code)} {cn : Str} {cs : Scope} {a : Addr} {ccd : Value} {cl : List (Str × Addr)} {outer : List Env} {A₀ : Around} {base h₀ : Heap} {L : Addr} {m : Str → Option Value} {news : List (Addr × Obj)} {s : Shared}
    {Q E : Value → Shared → Prop}
section
variable {prog : Program} {A : Around} {env : Env}
/-- the source of a list comprehension, kept whole: the walker stops here -/
structure CompW (prog : Program) (w : World) (A : Around) (h₀ : Heap) (L : Addr) (m : Str → Option Value) (env : Env) (elt : Expr) (x : Str) (scope : Scope) (cl : List (Str × Addr)) (Q : Value → Shared → Prop) (xv : Value) (s₁ : Shared) : Prop where
  out : LCg.CompSrc prog w A h₀ L m env elt x scope cl (fun s₂ => LCg.FinE h₀ L m s₂ Q) xv s₁
theorem listComp_W {elt iter : Expr} {x : Str} {px : Pos} {scope : Scope} {cl : List (Str × Addr)} {pos : Pos} {Q : Value → Shared → Prop} (F₀ : Fr h₀ L s.heap m)
    (hclos : closureFor scope env = pure cl) (hcell : ∀ y ∈ scope.names, y.2 ≠ .cell) (hkind : scope.kind = .function)
    (hnames : ∀ y ∈ scope.names, y.2 = .local → scope.names.lookup y.1 = some .local) (hx : scope.names.lookup x = some .local)
    (h : wpAny (model prog w) A (eval iter env) (CompW prog w A h₀ L m env elt x scope cl Q) E s)
    (hs : ∀ x, foldedSetIterable iter env x = pure x := by intro _; rfl) :
    wpAny (model prog w) A (eval (.ListComp elt [⟨.Name x px, iter, [], 0⟩] scope pos) env) Q E s :=
  LCg.ListComp_U F₀ hclos hcell hkind hnames hx (wpAny_mono h (fun _ _ z => z.out) fun _ _ e => e) hs
end
end

-- part W4
section
open PySem PySem.W PyProof.Rows PyProof.V PySem.Spec
set_option rowWalk.seconds 0
variable {w : World} {mean : ExcName → Option Value} {mg mb : Str → Option Value} {loose : List Str}
    {dp un : Nat} {gd : Option (List Code)} {cn : Str} {cs : Scope} {a : Addr} {ccd : Value} {cl : List (Str × Addr)} {outer : List Env} {A₀ : Around} {base h₀ : Heap} {L : Addr} {m : Str → Option Value} {news : List (Addr × Obj)} {s : Shared}
    {Q E : Value → Shared → Prop}
theorem rows_W4_1 : True := by
  k_with_none
  (k_with "k_room" => first | exact room1 (by assumption) rfl | exact room2 (by assumption) rfl | exact room3 (by assumption) rfl | ktr_room)
  (k_with "k_units" => first | exact room1 (by assumption) rfl | exact room2 (by assumption) rfl | exact room3 (by assumption) rfl | ktr_units)
  (k_with "k_mem" => assumption)
  (k_with "k_mem" => exact Above.sub (by with_reducible assumption) _ (by assumption))
  (k_with "cell_enter" => refine code_defC (by k_asm) (by k_asm) (by k_asm) (by k_asm) (by k_asm) (by exact rfl) (by exact rfl) (by assumption) (by k_is) (by k_is) (by k_room) (by exact BindsTo.of_eq rfl) (by exact rfl) (by decide +kernel) ?_ (by exact rfl) (by exact rfl) (by exact rfl); k_whole; intro _ _ _ _ _ _ _ N'_w9 Y'_w9 B'_w9 _ _ l1_w9; (try k_lt l1_w9); k_cells Y'_w9; (try simp only [List.cons_append, List.nil_append] at N'_w9); (try dsimp only); (try k_lift B'_w9); (try k_fold))
  (k_with "k_all" => assumption)
  (k_with "eval Name" => k_here; k_dflt (refine nameX_L (by k_asm) (by assumption) ?_ (by rfl) (by rfl); k_whole))
  (k_with "call type:tuple" => k_here; (with_reducible show wpAny _ _ (call (Value.type _) [Value.ref _]) _ _ _); k_dflt (refine tuple_L (by k_asm) (by k_asm) (by k_mem) (by assumption) ?_); intro _ _ _ _ _)
  (k_with "call builtin:list.append" => k_here; (with_reducible show wpAny _ _ (call (Value.builtin "list.append") _) _ _ _); k_dflt (refine append_K (by k_asm) (by k_asm) (by k_upd) ?_ (by assumption); k_whole); intro _ _ _)
  (k_with "eval ListComp" => k_dflt (refine listComp_W (by k_asm) (by with_unfolding_all rfl) (by decide) (by rfl) (by decide) (by rfl) ?_))
  (k_with "call ref" => k_here; (with_reducible show wpAny _ _ (call (Value.ref 220) _) _ _ _); k_dflt (refine draw_tells (by k_asm) (by k_asm) (by k_asm) (by k_asm) (by k_asm) (by exact rfl) (by k_room) (by k_units) (by k_updF) (by assumption) (by k_mem) (by assumption) (by assumption) (by omega) (by omega) (by omega) (by omega) ?_); intro _ _ _ _ _ _ _ _ _ _ _)
  (k_with "exec For Name Call cons nil" => k_here; (with_reducible show wpAny _ _ (exec (Stmt.For (Expr.Name _ _) _ _ [] _) _) _ _ _); k_dflt (refine For_src (by k_asm) (by rfl) (by rfl) ?_ (by (intro _; rfl)) (by passes_own)))
  (k_with "k_mem" => first | assumption | exact List.Mem.head _ | exact List.Mem.tail _ (by assumption) | exact List.Mem.tail _ (List.Mem.tail _ (by assumption)) | exact List.Mem.tail _ (List.Mem.tail _ (List.Mem.tail _ (by assumption))) | ((repeat refine List.Mem.tail _ ?_); assumption))
  trivial
theorem allLt_in {a : Addr} : ∀ {l : List (Addr × Obj)}, AllLt a l → ∀ p ∈ l, p.1 < a
  | [], _, _, h => nomatch h
  | _ :: _, h, p, hp => by
    rcases List.mem_cons.mp hp with rfl | hp
    · exact h.1
    · exact allLt_in h.2 p hp
theorem intsDat {news : List (Addr × Obj)} {vs : List Value} {r : List Int} (h : IntsAre vs r) : DatAll news vs (r.map .int) := by
  induction h with
  | nil => exact .nil
  | cons n t _ ih => exact .cons (.int _ _) ih
theorem rowOk (r : List Int) : kqdOk 8 (rowD r) = true := by simp [rowD, kqdOk, Function.comp_def]
theorem rowInj {a b : List Int} (h : rowD a = rowD b) : a = b := by
  unfold rowD at h
  injection h with h
  exact List.map_inj_right (fun _ _ e => by injection e) |>.mp h
theorem rng_few {n : Nat} (h : n ≤ 4) : Builtin.Range.small 0 (n : Int) 1 = true ∧ Builtin.Range.rangeSize 0 (n : Int) 1 = ((n : Nat) : Int) := by
  have hc : n = 0 ∨ n = 1 ∨ n = 2 ∨ n = 3 ∨ n = 4 := by omega
  rcases hc with rfl | rfl | rfl | rfl | rfl <;> decide +kernel
theorem rng_one {n : Nat} (h : n ≤ 2) : Builtin.Range.small 0 (1 + (n : Int)) 1 = true ∧ Builtin.Range.rangeSize 0 (1 + (n : Int)) 1 = (((1 + n : Nat) : Nat) : Int) := by
  have hc : n = 0 ∨ n = 1 ∨ n = 2 := by omega
  rcases hc with rfl | rfl | rfl <;> decide +kernel
structure RelAt (w : World) (many wd : Nat) (fl fd lc c1 c2 : Addr) (o1 o2 : Obj) (rest : List (Addr × Obj)) (sp0 : Int) (i : Nat) (nx : List (Addr × Obj)) (vs : List Value) (c : Nat) (fo : Obj) (t : Tok) (sp : Int) (rows : List (List Int)) (rs : List (Addr × Obj)) : Prop where
  led : nx = (fl, PySem.W.listOf vs.toArray c) :: (c2, o2) :: (c1, o1) :: (fd, fo) :: (rs ++ rest)
  tab : fo.IsDictOf (PySem.strKind P w) (feedOf lc sp t)
  lo : sp0 ≤ sp
  hi : sp ≤ sp0 + 3 * i
  fresh : ∀ p ∈ rs, ∀ q ∈ rest, q.1 < p.1
  freshF : ∀ p ∈ rs, fd < p.1
  ne1 : ∀ p ∈ rs, p.1 ≠ fl
  ne2 : ∀ p ∈ rs, p.1 ≠ c1
  ne3 : ∀ p ∈ rs, p.1 ≠ c2
  dat : DatAll rs vs (rows.map rowD)
  nodup : rows.Nodup
  few : rows.length ≤ i
  row : ∀ r ∈ rows, r.length = wd ∧ ∀ a ∈ r, 0 ≤ a ∧ a < (many : Int)
def RelJ (w : World) (many wd : Nat) (fl fd lc c1 c2 : Addr) (o1 o2 : Obj) (rest : List (Addr × Obj)) (sp0 : Int) (wv : Value) : Nat → (Str → Option Value) → List (Addr × Obj) → Prop := fun i m' nx =>
  (∃ vs c fo t sp rows rs, RelAt w many wd fl fd lc c1 c2 o1 o2 rest sp0 i nx vs c fo t sp rows rs) ∧ m' "found" = some (.ref fl) ∧ m' "wide" = some wv
theorem relation_norm {fd lc : Addr} {fo : Obj} {sp : Int} {t tw : Tok} {many : Nat} {cells : List Value} {ns : List Int} {kc : Nat} {rest : List (Addr × Obj)}
    (B : Below A₀ base outer h₀) (F : Fr h₀ L s.heap m) (X : (Mine.hd.heap_1 w.params).In h₀) (N : News h₀ L s.heap ((fd, fo) :: rest)) (T : Top V loose mean mg mb h₀) (hk : cs.kind = .function)
    (hd : dp + 6 < recursionLimit) (hu : un + 200 < cLine)
    (hne : ∀ p ∈ rest, p.1 ≠ fd) (hf : fo.IsDictOf (PySem.strKind P w) (feedOf lc sp t)) (hc : (lc, PySem.W.listOf cells.toArray kc) ∈ rest) (hi : IntsAre cells ns) (hl : ns.length ≤ 40)
    (hs0 : 0 ≤ sp) (hs1 : sp ≤ 500) (hm1 : 1 ≤ many) (hm4 : many ≤ 4)
    (hret : ∀ t rs rel fo' t' sp' h' tk', Fr h₀ L h' m → News h₀ L h' (rs ++ (fd, fo') :: rest) → (∀ p ∈ rs, ∀ q ∈ (fd, fo) :: rest, q.1 < p.1) → fo'.IsDictOf (PySem.strKind P w) (feedOf lc sp' t') → sp ≤ sp' → sp' ≤ sp + 20 →
      DatIn rs (.ref t) (relD rel) → RowsSorted rel → rel.length ≤ 4 → (∃ wd, 1 ≤ wd ∧ wd ≤ 3 ∧ ∀ r ∈ rel, r.length = wd ∧ ∀ a ∈ r, 0 ≤ a ∧ a < (many : Int)) → Q (.ref t) { s with heap := h', toks := tk' }) :
    wpAny (model P w) (ktrTop dp un gd cn cs L a ccd cl outer) (call (.ref 225) [.ref fd, .int many tw]) Q E s := by
  w_on
  refine wpAny_call ?_
  k_dflt cell_enter
  w_strict k_steps
  rename IsRange _ _ _ _ _ _ _ _ => hir
  rename Fr _ _ _ _ => lF
  rename News _ _ _ _ => lN
  rename Obj.IsDictOf _ _ _ => hf2
  rename (_ ∧ _ ∧ _ ∧ _ ∧ AllLt _ rest) => q1
  rename (_ ∧ _ ∧ _ ∧ AllLt _ rest) => q2
  rename (_ ∧ AllLt _ rest) => q3
  have B' := B'_w9
  rename_i g' L' _ _ FG X' T' oc2 oc1 d1 d2 r1 fo1 t1 _ _ _ g0 g1 hf1 fl _ D _ _ _ _ _ _ r2 fo2 t2 _ _ _ k0 k1 _ _ ecl _ _ _ _ _ _
  obtain ⟨n, rfl⟩ : ∃ n : Nat, r2 = (n : Int) := ⟨r2.toNat, by omega⟩
  obtain ⟨wd, rfl⟩ : ∃ wd : Nat, r1 = (wd : Int) := ⟨r1.toNat, by omega⟩
  have lN2 : News _ _ _ ((fl, PySem.W.listOf ([] : List Value).toArray 0) :: (L' + 1 + 1, oc2) :: (L' + 1, oc1) :: (fd, fo2) :: ([] ++ rest)) := fun p hp => lN p (.tail _ hp)
  refine ⟨rng_iter (n := n) (RelJ w many (1 + wd) fl fd lc (L' + 1) (L' + 1 + 1) oc1 oc2 rest (sp + 1 + 1) _) rfl hir (rng_few (by omega)).1 (rng_few (by omega)).2 lF lN2 ⟨⟨[], 0, fo2, t2, sp + 1 + 1, [], [], ⟨rfl, hf2, by omega, by omega, (fun _ h => nomatch h), (fun _ h => nomatch h), (fun _ h => nomatch h), (fun _ h => nomatch h), (fun _ h => nomatch h), .nil, .nil, by simp, (fun _ h => nomatch h)⟩⟩, rfl, rfl⟩ ?_ ?_⟩
  · rintro i t3 m₁ news₁ h tk own hi3 hoff ⟨⟨vs, c, fo3, t4, sp3, rows, rs, J⟩, m1, m2⟩ F1 N1
    obtain ⟨tl, htl⟩ : ∃ tl, tl = rs ++ rest ++ own := ⟨_, rfl⟩
    have J' := J
    obtain ⟨rfl, jt, jlo, jhi, jf, jff, j1, j2, j3, jd, jn, jw, jr⟩ := J'
    rw [List.cons_append, List.cons_append, List.cons_append, List.cons_append, ← htl] at N1
    have q2r := allLt_in q2.2.2.2
    have q3r := allLt_in q3.2
    have split : ∀ p ∈ tl, p ∈ rs ∨ p ∈ rest ∨ p ∈ own := fun p hp => by
      rw [htl] at hp
      rcases List.mem_append.mp hp with hp | hp
      · exact (List.mem_append.mp hp).imp id .inl
      · exact .inr (.inr hp)
    have nfl : ∀ p ∈ tl, p.1 ≠ fl := fun p hp => by
      rcases split p hp with hp | hp | hp
      · exact j1 p hp
      · exact Nat.ne_of_lt (q2r p hp)
      · exact hoff p hp fl (by simp)
    have nfd : ∀ p ∈ tl, p.1 ≠ fd := fun p hp => by
      rcases split p hp with hp | hp | hp
      · exact Nat.ne_of_gt (jff p hp)
      · exact hne p hp
      · exact hoff p hp fd (by simp)
    have hmc : (lc, PySem.W.listOf cells.toArray kc) ∈ tl := by rw [htl]; simp [hc]
    have hsp0 : 0 ≤ sp3 := by omega
    have hsp1 : sp3 ≤ 600 := by omega
    have hbt : News g' L' h ((fl, PySem.W.listOf vs.toArray c) :: (L' + 1 + 1, oc2) :: (L' + 1, oc1) :: (fd, fo3) :: tl) := N1
    have hlt1 : fd < L' := q3.1
    have hlt2 : L' + 1 + 1 < fl := q2.1
    have hlt3 : L' + 1 < fl := q2.2.1
    have hlt4 : fd < fl := q2.2.2.1
    clear lN lN2 lF hf1 hf2 q1 q2 q3 N1
    k_steps
    rename IsRange _ _ _ _ _ _ _ _ => hir2
    rename Fr _ _ _ _ => lF
    rename News _ _ _ _ => lN
    refine ⟨LCg.CompSrc.range (n := 1 + wd) rfl lF lN hir2 (rng_one (by omega)).1 (rng_one (by omega)).2 (by rw [sizeLine_eq]; omega) fun g9 => ?_⟩
    refine comp_run (fun i ys nw => ∃ fo t r, nw = (fl, PySem.W.listOf vs.toArray c) :: (L' + 1 + 1, oc2) :: (L' + 1, oc1) :: (fd, fo) :: tl ∧ fo.IsDictOf (PySem.strKind P w) (feedOf lc (sp3 + i) t) ∧ IntsAre ys r ∧ r.length = i ∧ ∀ a ∈ r, 0 ≤ a ∧ a < (many : Int)) ⟨fo3, t4, [], rfl, by simpa using jt, .nil, rfl, fun _ h => nomatch h⟩ ?_ ?_
    · intro i9 ys nw v I oI C oC D m₂ h9 tk9 E' hi9 hJ hv hC hx IT
      obtain ⟨F9, N9, off9, ne9⟩ := IT
      obtain ⟨fo5, t5, r5, rfl, hD5, hI5, hl5, hr5⟩ := hJ
      have ⟨⟨oa1, oa2, oa3⟩, ⟨ob1, ob2, ob3⟩, ⟨oc1', oc2', oc3'⟩, ⟨od1, od2, od3⟩, off8⟩ := off9
      have nI : @Ne Nat I fd := od1.symm
      have nC : @Ne Nat C fd := od2.symm
      have nD : @Ne Nat D fd := od3.symm
      have hspi0 : 0 ≤ sp3 + (i9 : Int) := by omega
      have hspi1 : sp3 + (i9 : Int) ≤ 700 := by omega
      have nL1 : @Ne Nat (L' + 1) fd := Nat.ne_of_gt (Nat.lt_succ_of_lt hlt1)
      have nL2 : @Ne Nat (L' + 1 + 1) fd := Nat.ne_of_gt (Nat.lt_succ_of_lt (Nat.lt_succ_of_lt hlt1))
      have nfl9 : @Ne Nat fl fd := Nat.ne_of_gt hlt4
      k_steps
      rename_i r6 fo6 t6 h6 tr6 tk6 p0 p1 D6 F6 N6
      refine comp_end _ F6 N6 (fun _ h => h) off9 trivial ⟨fo6, t6, r5 ++ [r6], rfl, ?_, hI5.append (.cons r6 tr6 .nil), by simp [hl5], ?_⟩
      · rw [show sp3 + ((i9 + 1 : Nat) : Int) = sp3 + i9 + 1 from by omega]
        exact D6
      · intro x hx9
        rcases List.mem_append.mp hx9 with h | h
        · exact hr5 x h
        · rw [List.mem_singleton.mp h]
          exact ⟨p0, p1⟩
    · rintro ys nw ⟨fo5, t5, r5, rfl, hD5, hI5, hl5, hr5⟩ D9 h9 tk9 F9 N9 off9
      have ⟨oa1, ob1, oc1', od1, off8⟩ := off9
      clear lF lN
      have hyl : ys.length ≤ 16384 := by rw [hI5.length]; omega
      k_steps
      rename Fr _ _ _ _ => lF3
      rename News _ _ _ _ => lN3
      rename (∀ p ∈ _ :: _, Prod.fst p < _) => l9
      rename_i Dr _ _ _ _
      have sub3 : ∀ p ∈ rs, p ∈ (Dr, tupOf ys 0) :: (D9, LCg.lst ys) :: (fl, PySem.W.listOf vs.toArray c) :: (L' + 1 + 1, oc2) :: (L' + 1, oc1) :: (fd, fo5) :: tl := fun p hp =>
        .tail _ (.tail _ (.tail _ (.tail _ (.tail _ (.tail _ (htl ▸ List.mem_append_left _ (List.mem_append_left _ hp)))))))
      refine kqd_notIn (d := rowD r5) lN3 (.tail _ (.tail _ (.head _))) rfl rfl jd sub3 (DatIn.tuple (.head _) (intsDat hI5)) (fun _ h => h) (fun d hd9 => by obtain ⟨r9, _, rfl⟩ := List.mem_map.mp hd9; exact rowOk r9) (rowOk r5) (by ke_room) ?_
      have down : ∀ p ∈ rs ++ rest, p ∈ tl := fun p hp => htl ▸ List.mem_append_left _ hp
      have downO : ∀ p ∈ own, p ∈ tl := fun p hp => htl ▸ List.mem_append_right _ hp
      have l9t : ∀ p ∈ tl, p.1 < Dr := fun p hp => l9 p (by simp [hp])
      have l9d : fd < Dr := l9 (fd, fo5) (by simp)
      have l9f : fl < Dr := l9 (fl, PySem.W.listOf vs.toArray c) (by simp)
      have l91 : L' + 1 < Dr := l9 (L' + 1, oc1) (by simp)
      have l92 : L' + 1 + 1 < Dr := l9 (L' + 1 + 1, oc2) (by simp)
      have hspn : sp3 + ((1 + wd : Nat) : Int) ≤ sp + 1 + 1 + 3 * ((i + 1 : Nat) : Int) := by push_cast; omega
      have hspl : sp + 1 + 1 ≤ sp3 + ((1 + wd : Nat) : Int) := by omega
      by_cases hin : r5 ∈ rows
      · rw [show ∀ i, @decide (rowD r5 ∈ rows.map rowD) i = true from fun i => @decide_eq_true _ i (List.mem_map_of_mem hin)]
        k_steps
        rename Fr _ _ _ _ => lF4
        rename News _ _ _ _ => lN4
        refine InvEndG.intro (nx := (fl, PySem.W.listOf vs.toArray c) :: (L' + 1 + 1, oc2) :: (L' + 1, oc1) :: (fd, fo5) :: (rs ++ rest)) lF4 lN4 ⟨⟨vs, c, fo5, t5, sp3 + ((1 + wd : Nat) : Int), rows, rs, ⟨rfl, hD5, hspl, hspn, jf, jff, j1, j2, j3, jd, jn, by omega, jr⟩⟩, m1, m2⟩ hoff (fun p hp => ?_) fun p hp => .tail _ (.tail _ (.tail _ (.tail _ (.tail _ (.tail _ (downO p hp))))))
        simp only [List.mem_cons] at hp ⊢
        rcases hp with h | h | h | h | h
        · exact .inr (.inr (.inl h))
        · exact .inr (.inr (.inr (.inl h)))
        · exact .inr (.inr (.inr (.inr (.inl h))))
        · exact .inr (.inr (.inr (.inr (.inr (.inl h)))))
        · exact .inr (.inr (.inr (.inr (.inr (.inr (down p h))))))
      · rw [show ∀ i, @decide (rowD r5 ∈ rows.map rowD) i = false from fun i => @decide_eq_false _ i fun h => hin (by obtain ⟨r9, h9, e9⟩ := List.mem_map.mp h; exact rowInj e9 ▸ h9)]
        have hnf1 : @Ne Nat Dr fl := Nat.ne_of_gt l9f
        have hnf2 : @Ne Nat D9 fl := oa1.symm
        have hnf3 : ∀ p ∈ (L' + 1 + 1, oc2) :: (L' + 1, oc1) :: (fd, fo5) :: tl, p.1 ≠ fl := fun p hp => by
          rcases List.mem_cons.mp hp with rfl | hp
          · exact Nat.ne_of_lt hlt2
          · rcases List.mem_cons.mp hp with rfl | hp
            · exact Nat.ne_of_lt hlt3
            · rcases List.mem_cons.mp hp with rfl | hp
              · exact Nat.ne_of_lt hlt4
              · exact nfl p hp
        have hvl : vs.length = rows.length := by rw [DatAll.length jd, List.length_map]
        have hsz : vs.toArray.size ≤ sizeLine := by rw [List.size_toArray, hvl, sizeLine_eq]; omega
        k_steps
        rename Fr _ _ _ _ => lF4
        rename News _ _ _ _ => lN4
        rw [List.push_toArray] at lN4
        obtain ⟨c9, lN4⟩ : ∃ c9, News _ _ _ ((Dr, tupOf ys 0) :: (D9, LCg.lst ys) :: (fl, PySem.W.listOf (vs ++ [Value.ref Dr]).toArray c9) :: (L' + 1 + 1, oc2) :: (L' + 1, oc1) :: (fd, fo5) :: tl) := ⟨_, lN4⟩
        refine InvEndG.intro (nx := (fl, PySem.W.listOf (vs ++ [Value.ref Dr]).toArray c9) :: (L' + 1 + 1, oc2) :: (L' + 1, oc1) :: (fd, fo5) :: (((Dr, tupOf ys 0) :: rs) ++ rest)) lF4 lN4 ⟨⟨vs ++ [Value.ref Dr], c9, fo5, t5, sp3 + ((1 + wd : Nat) : Int), rows ++ [r5], (Dr, tupOf ys 0) :: rs, ⟨rfl, hD5, hspl, hspn, ?_, ?_, ?_, ?_, ?_, ?_, ?_, ?_, ?_⟩⟩, m1, m2⟩ (fun p hp b hb => ?_) (fun p hp => ?_) fun p hp => .tail _ (.tail _ (.tail _ (.tail _ (.tail _ (.tail _ (downO p hp))))))
        · exact List.forall_mem_cons.mpr ⟨fun q hq => l9t q (down q (List.mem_append_right _ hq)), jf⟩
        · exact List.forall_mem_cons.mpr ⟨l9d, jff⟩
        · exact List.forall_mem_cons.mpr ⟨hnf1, j1⟩
        · exact List.forall_mem_cons.mpr ⟨Nat.ne_of_gt l91, j2⟩
        · exact List.forall_mem_cons.mpr ⟨Nat.ne_of_gt l92, j3⟩
        · rw [List.map_append]
          exact (jd.mono fun p hp => .tail _ hp).append (DatAll.one (DatIn.tuple (.head _) (intsDat hI5)))
        · refine List.nodup_append.mpr ⟨jn, by simp, fun a ha b hb e => ?_⟩
          rw [List.mem_singleton.mp hb] at e
          exact hin (e ▸ ha)
        · simp only [List.length_append, List.length_cons, List.length_nil]; omega
        · intro r hr9
          rcases List.mem_append.mp hr9 with h | h
          · exact jr r h
          · rw [List.mem_singleton.mp h]
            exact ⟨hl5, hr5⟩
        · simp only [List.map_cons, List.map_append, List.cons_append, List.mem_cons] at hb
          rcases hb with rfl | rfl | rfl | rfl | rfl | hb
          · exact hoff p hp _ (by simp)
          · exact hoff p hp _ (by simp)
          · exact hoff p hp _ (by simp)
          · exact hoff p hp _ (by simp)
          · exact Nat.ne_of_lt (l9t p (downO p hp))
          · exact hoff p hp _ (by simp only [List.map_cons, List.map_append, List.mem_cons]; exact .inr (.inr (.inr (.inr hb))))
        · simp only [List.cons_append, List.mem_cons] at hp ⊢
          rcases hp with h | h | h | h | h | h
          · exact .inr (.inr (.inl h))
          · exact .inr (.inr (.inr (.inl h)))
          · exact .inr (.inr (.inr (.inr (.inl h))))
          · exact .inr (.inr (.inr (.inr (.inr (.inl h)))))
          · exact .inl h
          · exact .inr (.inr (.inr (.inr (.inr (.inr (down p h))))))
  · rintro m₁ news₁ h tk ⟨⟨vs, c, fo3, t4, sp3, rows, rs, J⟩, m1, m2⟩ F1 N1
    obtain ⟨rfl, jt, jlo, jhi, jf, jff, j1, j2, j3, jd, jn, jw, jr⟩ := J
    clear lN lN2 lF
    have hvl : vs.length = rows.length := by rw [DatAll.length jd, List.length_map]
    k_steps
    refine sorted_L (c := c) F1 N1 (.head _) (by omega) fun D5 h5 F5 N5 l5 => ?_
    refine sort_call F5 N5 (fun p hp => Nat.ne_of_lt (l5 p hp)) (fun p hp => .tail _ (.tail _ (.tail _ (.tail _ (List.mem_append_left _ hp))))) jd jn (by omega) (fun r hr9 => by have := (jr r hr9).1; omega) fun h6 us rs' c6 F6 N6 D6 hp6 hs6 => ?_
    have hul : us.length ≤ 16384 := by rw [DatAll.length D6, List.length_map, hp6.length_eq]; omega
    k_steps
    rename Fr h₀ L _ _ => kF
    rename News h₀ L _ _ => kN
    rename (∀ p ∈ (D5, _) :: _, Prod.fst p < _) => l9
    rename_i Dt _ _ _ _ _
    refine hret Dt ((Dt, tupOf us 0) :: rs) rs' fo3 t4 sp3 _ _ kF (fun p hp => kN p ?_) ?_ jt (by omega) (by omega) (DatIn.tuple (.head _) (D6.mono fun p hp => .tail _ hp)) hs6 (by rw [hp6.length_eq]; omega) ⟨1 + wd, by omega, by omega, fun r hr9 => jr r (hp6.mem_iff.mp hr9)⟩
    · simp only [List.cons_append, List.mem_cons, List.mem_append] at hp ⊢
      rcases hp with h | h | h | h
      · exact .inl h
      · exact .inr (.inr (.inr (.inr (.inr (.inr (.inl h))))))
      · exact .inr (.inr (.inr (.inr (.inr (.inl h)))))
      · exact .inr (.inr (.inr (.inr (.inr (.inr (.inr h))))))
    · refine List.forall_mem_cons.mpr ⟨List.forall_mem_cons.mpr ⟨l9 (fd, fo3) (by simp), fun q hq => l9 q (by simp [hq])⟩, fun p hp => List.forall_mem_cons.mpr ⟨jff p hp, jf p hp⟩⟩
end

-- part W5
section
open PySem PySem.W PyProof.Rows PyProof.V PySem.Spec
set_option rowWalk.seconds 0
variable {w : World} {mean : ExcName → Option Value} {mg mb : Str → Option Value} {loose : List Str}
    {dp un : Nat} {gd : Option (List Code)} {cn : Str} {cs : Scope} {a : Addr} {ccd : Value} {cl : List (Str × Addr)} {outer : List Env} {A₀ : Around} {base h₀ : Heap} {L : Addr} {m : Str → Option Value} {news : List (Addr × Obj)} {s : Shared}
    {Q E : Value → Shared → Prop}
theorem relation_tells {fd lc : Addr} {fo : Obj} {sp : Int} {t tw : Tok} {many : Nat} {cells : List Value} {ns : List Int} {kc : Nat} {g : Obj → List (Addr × Obj)}
    (B : Below A₀ base outer h₀) (F : Fr h₀ L s.heap m) (X : (Mine.hd.heap_1 w.params).In h₀) (N : News h₀ L s.heap news) (T : Top V loose mean mg mb h₀) (hk : cs.kind = .function)
    (hd : dp + 6 < recursionLimit) (hu : un + 200 < cLine)
    (U : UpdF fd fo news g) (hf : fo.IsDictOf (PySem.strKind P w) (feedOf lc sp t)) (hc : (lc, PySem.W.listOf cells.toArray kc) ∈ news) (hi : IntsAre cells ns) (hl : ns.length ≤ 40)
    (hs0 : 0 ≤ sp) (hs1 : sp ≤ 500) (hm1 : 1 ≤ many) (hm4 : many ≤ 4)
    (hret : ∀ t rs rel fo' t' sp' h' tk', Fr h₀ L h' m → News h₀ L h' (rs ++ g fo') → (∀ p ∈ rs, ∀ q ∈ news, q.1 < p.1) → fo'.IsDictOf (PySem.strKind P w) (feedOf lc sp' t') → sp ≤ sp' → sp' ≤ sp + 20 →
      DatIn rs (.ref t) (relD rel) → RowsSorted rel → rel.length ≤ 4 → (∃ wd, 1 ≤ wd ∧ wd ≤ 3 ∧ ∀ r ∈ rel, r.length = wd ∧ ∀ a ∈ r, 0 ≤ a ∧ a < (many : Int)) → Q (.ref t) { s with heap := h', toks := tk' }) :
    wpAny (model P w) (ktrTop dp un gd cn cs L a ccd cl outer) (call (.ref 225) [.ref fd, .int many tw]) Q E s := by
  obtain ⟨pre, post, rfl, hg, ha, hb⟩ := U.split
  have hne : fo ≠ PySem.W.listOf cells.toArray kc := fun e => by
    subst e
    obtain ⟨es, ep, _, hdd, _⟩ := hf
    cases hdd
  have N1 : News h₀ L s.heap ((fd, fo) :: (pre ++ post)) := fun p hp => N p (by
    simp only [List.mem_cons, List.mem_append] at hp ⊢
    rcases hp with h | h | h
    · exact .inr (.inl h)
    · exact .inl h
    · exact .inr (.inr h))
  have hc1 : (lc, PySem.W.listOf cells.toArray kc) ∈ pre ++ post := by
    simp only [List.mem_cons, List.mem_append] at hc ⊢
    rcases hc with h | h | h
    · exact .inl h
    · injection h with _ h
      exact absurd h.symm hne
    · exact .inr h
  refine relation_norm (kc := kc) B F X N1 T hk hd hu (fun p hp => (List.mem_append.mp hp).elim (ha p) (hb p)) hf hc1 hi hl hs0 hs1 hm1 hm4 fun t rs rel fo' t' sp' h' tk' F' N' fr D l1 l2 dt so fe wd => ?_
  refine hret t rs rel fo' t' sp' h' tk' F' (fun p hp => N' p ?_) (fun p hp q hq => fr p hp q ?_) D l1 l2 dt so fe wd
  · rw [hg] at hp
    simp only [List.mem_cons, List.mem_append] at hp ⊢
    rcases hp with h | h | h | h
    · exact .inl h
    · exact .inr (.inr (.inl h))
    · exact .inr (.inl h)
    · exact .inr (.inr (.inr h))
  · simp only [List.mem_cons, List.mem_append] at hq ⊢
    rcases hq with h | h | h
    · exact .inr (.inl h)
    · exact .inl h
    · exact .inr (.inr h)
end

-- part X1
section
open PySem PySem.W PyProof.Rows PyProof.V PySem.Spec
set_option rowWalk.seconds 0
variable {w : World} {mean : ExcName → Option Value} {mg mb : Str → Option Value} {loose : List Str}
    {dp un : Nat} {gd : Option (List Code)} {cn : Str} {cs : Scope} {a : Addr} {ccd : Value} {cl : List (Str × Addr)} {outer : List Env} {A₀ : Around} {base h₀ : Heap} {L : Addr} {m : Str → Option Value} {news : List (Addr × Obj)} {s : Shared}
    {Q E : Value → Shared → Prop}
section
variable {prog : Program} {A : Around}
theorem adjust_upto (b n : Nat) (hb : b ≤ n) : Builtin.Slice.sliceAdjust none (some (b : Int)) 1 (n : Int) = (0, (b : Int)) := by
  unfold Builtin.Slice.sliceAdjust
  have h1 : ¬ ((1 : Int) < 0) := by omega
  have h2 : ¬ ((b : Int) < 0) := by omega
  simp only [h1, h2, if_false]
  congr 1
  omega
theorem places_upto (b : Nat) : Builtin.Slice.slicePlaces 0 (b : Int) 1 = b := by
  unfold Builtin.Slice.slicePlaces
  have h1 : (1 : Int) > 0 := by omega
  simp only [h1, if_true, Int.ediv_one]
  split <;> omega
theorem sliceApplied_upto {sl : Addr} {b n : Nat} {u : Tok} {Q : Int × Int × Nat → Shared → Prop} (hs : s.heap.IsSliceOf sl .none (.int b u) .none) (hb : b ≤ n) (h : Q (0, 1, b) s) :
    wpAny (model prog w) A (Builtin.Slice.sliceApplied (.ref sl) (pure (n : Int))) Q E s := by
  obtain ⟨os, hos, hcs, hds⟩ := id hs
  unfold Builtin.Slice.sliceApplied Builtin.Slice.sliceFields
  refine wpAny_bind (wpAny_bind (wpAny_field hos hds (x := .none) rfl (wpAny_bind (wpAny_field hos hds (x := .int b u) rfl (wpAny_bind (wpAny_field hos hds (x := .none) rfl (wpAny_pure ?_)))))))
  refine wpAny_bind (slicePart_none ?_)
  show wpAny _ _ (if ((1 : Int) == 0) = true then _ else _) _ _ s
  rw [if_neg (by decide)]
  refine wpAny_bind (slicePart_none (wpAny_bind (slicePart_int (wpAny_bind (wpAny_pure ?_)))))
  show wpAny _ _ (match Builtin.Slice.sliceAdjust none (some (b : Int)) 1 (n : Int) with | (lo, hi) => pure (lo, (1 : Int), Builtin.Slice.slicePlaces lo hi 1)) _ _ s
  rw [adjust_upto b n hb]
  show wpAny _ _ (pure ((0 : Int), (1 : Int), Builtin.Slice.slicePlaces 0 (b : Int) 1)) _ _ s
  rw [places_upto b]
  exact wpAny_pure h
theorem pick_upto (xs : Array Value) (b : Nat) : ((List.range b).filterMap fun (k : Nat) => xs[((0 : Int) + (k : Int) * 1).toNat]?).toArray = (xs.toList.take b).toArray := by
  have e : (fun (k : Nat) => xs[((0 : Int) + (k : Int) * 1).toNat]?) = fun k => xs[0 + k]? := by
    funext k
    have : ((0 : Int) + (k : Int) * 1).toNat = 0 + k := by omega
    rw [this]
  rw [e]
  have := pick_run xs 0 b
  rw [List.filterMap_map] at this
  have e2 : ((fun x => xs[x]?) ∘ fun x => 0 + x) = fun k => xs[0 + k]? := rfl
  rw [e2] at this
  rw [this, List.drop_zero]
theorem getItem_tup_upto {t sl : Addr} {items : Array Value} {b : Nat} {u : Tok} {Q : Value → Shared → Prop} (ht : IsTup s.heap t items) (hs : s.heap.IsSliceOf sl .none (.int b u) .none) (hb : b ≤ items.size)
    (h1 : b < items.size → Q (.ref s.heap.objs.size) { s with heap := s.heap.push { cls := .type "tuple", data := .seq (items.toList.take b).toArray } }) (h2 : b = items.size → Q (.ref t) s)
    (hsz : items.size ≤ 100) : wpAny (model prog w) A (getItem (.ref t) (.ref sl)) Q E s := by
  have htake : sizeOk (.seq (items.toList.take b).toArray) := by
    show (items.toList.take b).toArray.size ≤ sizeLine
    rw [List.size_toArray, List.length_take, Array.length_toList, sizeLine_eq]
    omega
  obtain ⟨os, hos, hcs, hds⟩ := id hs
  have hTs : s.TypeIs (.ref sl) "slice" := ⟨os, hos, hcs⟩
  unfold getItem
  try with_reducible refine wpAny_holding ?_
  first | refine wpAny_bind (wpAny_pure ?_) | skip
  refine wpAny_bind (wpAny_sequenceKey ht.typeIs (by decide) ?_)
  refine wpAny_bind (wpAny_callSpecial?_slot (name := Str.ofString "__getitem__") ht.typeIs slot_tuple_getitem
    (wpAny_call_entry slot_tuple_getitem ht.typeIs entry_tuple_getitem ?_ (args_tuple_getitem _ _)))
  show wpAny _ _ (Builtin.Tuple.tupleItemsOf (.ref t) >>= _) _ _ s
  refine wpAny_bind (tupleItemsOf_ ht ?_)
  refine wpAny_bind (wpAny_typeOf hTs ?_)
  rw [if_pos (by decide)]
  refine wpAny_bind (sliceApplied_upto hs hb ?_)
  by_cases hw : b = items.size
  · show wpAny _ _ (if ((0 : Int) == 0 && (1 : Int) == 1 && b == items.size) = true then _ else _) _ _ s
    rw [if_pos (by simp [hw])]
    refine wpAny_bind (m := Builtin.Tuple.tupleIsExact _) (wpAny_bind (wpAny_typeOf ht.typeIs (wpAny_pure ?_)))
    show wpAny _ _ (if (Value.type "tuple" == Value.type "tuple") = true then _ else _) _ _ s
    rw [if_pos (by decide)]
    have h2' := h2 hw
    exact wpAny_bind (wpAny_rule (wpAny_pure ⟨_, rfl, wpAny_pure h2'⟩))
  · have h := h1 (by omega)
    have hno : ¬ (((0 : Int) == 0 && (1 : Int) == 1 && b == items.size) = true) := by simpa using hw
    show wpAny _ _ (if ((0 : Int) == 0 && (1 : Int) == 1 && b == items.size) = true then _ else _) _ _ s
    rw [if_neg hno, pick_upto items b]
    first
      | exact wpAny_bind (m := Builtin.Tuple.tupleExact _) (wpAny_newObj_type (wpAny_pure ⟨_, rfl, wpAny_pure h⟩) htake)
      | exact wpAny_bind (m := Builtin.Tuple.tupleExact _) (wpAny_newObj_type (wpAny_bind (wpAny_pure (wpAny_pure ⟨_, rfl, wpAny_pure h⟩))) htake)
      | exact wpAny_bind (wpAny_bind (m := Builtin.Tuple.tupleExact _) (wpAny_newObj_type (wpAny_pure (wpAny_pure ⟨_, rfl, wpAny_pure h⟩)) htake))
      | exact wpAny_bind (wpAny_bind (m := Builtin.Tuple.tupleExact _) (wpAny_newObj_type (wpAny_pure ⟨_, rfl, wpAny_pure h⟩) htake))
theorem slice_tup_upto {value slice : Expr} {t : Addr} {items : Array Value} {k : Int} {b : Nat} {u : Tok} {Q : Value → Shared → Prop}
    (F : Fr h₀ L s.heap m) (N : News h₀ L s.heap news) (ht : IsTup s.heap t items) (hk : k = (b : Int)) (hb : b ≤ items.size) (hsz : items.size ≤ 100)
    (h : ∀ d h', Fr h₀ L h' m → News h₀ L h' news → IsTup h' d (items.toList.take b).toArray → Q (.ref d) { s with heap := h' })
    (hs : subscripted slice false (.ref t) (.ref s.heap.objs.size) = operate [.ref s.heap.objs.size, .ref t] (getItem (.ref t) (.ref s.heap.objs.size)) := by with_unfolding_all rfl)
    (hg : ∀ r, letTemporaryGo value (.ref t) r = pure () := by intro _; with_unfolding_all rfl) :
    wpAny (model prog w) A (subscriptTail value slice (.ref t) (.ref s.heap.objs.size)) Q E { s with heap := s.heap.push { cls := .type "slice", data := .fields #[.none, .int k u, .none] } } := by
  subst hk
  have ht' : IsTup (s.heap.push { cls := .type "slice", data := .fields #[.none, .int b u, .none] }) t items := ht.keeps fun _ _ e => Heap.get?_push_of_some _ e
  have F1 := F.push { cls := .type "slice", data := .fields #[.none, .int b u, .none] }
  have N1 : News h₀ L (s.heap.push { cls := .type "slice", data := .fields #[.none, .int b u, .none] }) news := N.grown fun _ _ e => Heap.get?_push_of_some _ e
  refine subscriptTail_ops (s := { s with heap := s.heap.push { cls := .type "slice", data := .fields #[.none, .int b u, .none] } }) ht'.typeIs slot_tuple_getitem.lookup
    (getItem_tup_upto ht' (Heap.IsSliceOf.new ..) hb (fun _ => ?_) (fun e => ?_) hsz) hs hg
  · exact h _ _ (F1.push _) (N1.grown fun _ _ e => Heap.get?_push_of_some _ e) (IsTup.new _ _)
  · refine h t _ F1 N1 ?_
    rw [List.take_of_length_le (by rw [Array.length_toList]; omega), Array.toArray_toList]
    exact ht'
theorem slice_tupL {value slice : Expr} {t : Addr} {vs : List Value} {k : Int} {b : Nat} {u : Tok} {Q : Value → Shared → Prop}
    (F : Fr h₀ L s.heap m) (N : News h₀ L s.heap news) (ht : IsTup s.heap t vs.toArray) (hk : k = (b : Int)) (hb : b ≤ vs.length) (hsz : vs.length ≤ 100)
    (h : ∀ d h', Fr h₀ L h' m → News h₀ L h' news → IsTup h' d (vs.take b).toArray → Q (.ref d) { s with heap := h' })
    (hs : subscripted slice false (.ref t) (.ref s.heap.objs.size) = operate [.ref s.heap.objs.size, .ref t] (getItem (.ref t) (.ref s.heap.objs.size)) := by with_unfolding_all rfl)
    (hg : ∀ r, letTemporaryGo value (.ref t) r = pure () := by intro _; with_unfolding_all rfl) :
    wpAny (model prog w) A (subscriptTail value slice (.ref t) (.ref s.heap.objs.size)) Q E { s with heap := s.heap.push { cls := .type "slice", data := .fields #[.none, .int k u, .none] } } :=
  slice_tup_upto F N ht hk (by rw [List.size_toArray]; exact hb) (by rw [List.size_toArray]; exact hsz) h hs hg
theorem top_tup {K : Frag} {t n : Nat} {vs : List Value} {dd : Option Addr} {sl : Array (Option Value)} (F : Fr h₀ L s.heap m) (X₀ : K.In h₀) (hl : K.lookup t = some ⟨.type "tuple", dd, .seq vs.toArray n, sl⟩) : IsTup s.heap t vs.toArray :=
  ⟨_, X₀.keeps F.keep _ _ hl, rfl, _, rfl⟩
theorem list_tupL {l : Addr} {vs : List Value} {Q : Value → Shared → Prop} (F : Fr h₀ L s.heap m) (N : News h₀ L s.heap news) (hl : IsTup s.heap l vs.toArray) (hz : vs.length ≤ 100)
    (h : ∀ D c h', Fr h₀ L h' m → News h₀ L h' ((D, PySem.W.listOf vs.toArray c) :: news) → (∀ q ∈ news, q.1 < D) → Q (.ref D) { s with heap := h' }) : wpAny (model prog w) A (call (.type "list") [.ref l]) Q E s :=
  list_copyKT F N hl h (by rw [List.size_toArray, sizeLine_eq]; omega)
theorem strs_take : ∀ {xs : List Value} {ys : List Str} (n : Nat), StrsAre xs ys → StrsAre (xs.take n) (ys.take n)
  | _, _, 0, _ => by rw [List.take_zero, List.take_zero]; exact .nil
  | _, _, n + 1, .nil => by rw [List.take_nil, List.take_nil]; exact .nil
  | _, _, n + 1, .cons x t h => by rw [List.take_succ_cons, List.take_succ_cons]; exact .cons x t (strs_take n h)
end
end

-- part X2
section
open PySem PySem.W PyProof.Rows PyProof.V PySem.Spec
set_option rowWalk.seconds 0
variable {w : World} {mean : ExcName → Option Value} {mg mb : Str → Option Value} {loose : List Str}
    {dp un : Nat} {gd : Option (List Code)} {cn : Str} {cs : Scope} {a : Addr} {ccd : Value} {cl : List (Str × Addr)} {outer : List Env} {A₀ : Around} {base h₀ : Heap} {L : Addr} {m : Str → Option Value} {news : List (Addr × Obj)} {s : Shared}
    {Q E : Value → Shared → Prop}
/-- the law's own body and scope, read off the row -/
def lawBody : List Stmt := match PySem.Challenge.pw_nu0241_01.main.body.getLast? with
  | some (.FunctionDef _ _ b _ _ _ _ _ _ _) => b
  | _ => []
def lawScope : Scope := match PySem.Challenge.pw_nu0241_01.main.body.getLast? with
  | some (.FunctionDef _ _ _ _ _ _ sc _ _ _) => sc
  | _ => { kind := .function, names := [], isGenerator := false, isCoroutine := false }
theorem draw_N {fd lc : Addr} {fo : Obj} {sp wide : Int} {t tw : Tok} {cells : List Value} {ns : List Int} {kc : Nat} {g : Obj → List (Addr × Obj)}
    (B : Below A₀ base outer h₀) (F : Fr h₀ L s.heap m) (X : (Mine.hd.heap_1 w.params).In h₀) (N : News h₀ L s.heap news) (T : Top V loose mean mg mb h₀) (hk : cs.kind = .function)
    (hd : dp + 3 < recursionLimit) (hu : un + 20 < cLine)
    (U : UpdF fd fo news g) (hf : fo.IsDictOf (PySem.strKind P w) (feedOf lc sp t)) (hc : (lc, PySem.W.listOf cells.toArray kc) ∈ news) (hi : IntsAre cells ns) (hl : ns.length ≤ 40)
    (hs0 : 0 ≤ sp) (hs1 : sp ≤ 1000) (hw0 : 1 ≤ wide) (hw1 : wide ≤ 10000)
    (hret : ∀ (r : Nat) fo' t' h' tr tk', (r : Int) < wide → fo'.IsDictOf (PySem.strKind P w) (feedOf lc (sp + 1) t') → Fr h₀ L h' m → News h₀ L h' (g fo') → Q (.int r tr) { s with heap := h', toks := tk' }) :
    wpAny (model P w) (ktrTop dp un gd cn cs L a ccd cl outer) (call (.ref 220) [.ref fd, .int wide tw]) Q E s :=
  draw_tells B F X N T hk hd hu U hf hc hi hl hs0 hs1 hw0 hw1 fun r fo' t' h' tr tk' g0 g1 D F' N' => by
    obtain ⟨k, rfl⟩ := Int.eq_ofNat_of_zero_le g0
    exact hret k fo' t' h' tr tk' g1 D F' N'
theorem atoms_strs {a b c d : Tok} (n : Nat) : StrsAre (List.take n [Value.str (Str.ofString "A$0") a, Value.str (Str.ofString "A$1") b, Value.str (Str.ofString "B$0") c, Value.str (Str.ofString "a'b") d]) (names.take n) :=
  strs_take n (.cons _ _ (.cons _ _ (.cons _ _ (.cons _ _ .nil))))
def relNames : List Str := ["A", "A.f", "o/next"]
theorem rels_strs {a b c : Tok} (n : Nat) : StrsAre (List.take n [Value.str (Str.ofString "A") a, Value.str (Str.ofString "A.f") b, Value.str (Str.ofString "o/next") c]) (relNames.take n) :=
  strs_take n (.cons _ _ (.cons _ _ (.cons _ _ .nil)))
theorem relNames_short (n : Nat) : ∀ x ∈ relNames.take n, x.length ≤ 10 := fun x hx => by
  have : ∀ x ∈ relNames, x.length ≤ 10 := by decide +kernel
  exact this x (List.mem_of_mem_take hx)
theorem relNames_len {n : Nat} (h : n ≤ 3) : (relNames.take n).length = n := by rw [List.length_take]; exact Nat.min_eq_left h
theorem universe_atoms {l : Addr} {c k : Nat} {t1 t2 t3 t4 : Tok}
    (B : Below A₀ base outer h₀) (F : Fr h₀ L s.heap m) (X : (Mine.hd.heap_1 w.params).In h₀) (N : News h₀ L s.heap news) (T : Top V loose mean mg mb h₀) (hk : cs.kind = .function)
    (hd : dp + 6 < recursionLimit) (hu : un + 100 < cLine) (h4 : (k : Int) < 4)
    (hl : (l, PySem.W.listOf (List.take (1 + k) [Value.str (Str.ofString "A$0") t1, Value.str (Str.ofString "A$1") t2, Value.str (Str.ofString "B$0") t3, Value.str (Str.ofString "a'b") t4]).toArray c) ∈ news)
    (hret : ∀ u dx nt nd e1 e2 t1 t2 kk k3 nw h' tk' xs, Fr h₀ L h' m → News h₀ L h' nw → Above news nw → UnivAt nw u dx nt nd e1 e2 t1 t2 kk k3 xs (1 + k) → (∀ p ∈ news, p.1 < u ∧ p.1 < dx ∧ p.1 < nt) → Q (.ref u) { s with heap := h', toks := tk' }) :
    wpAny (model P w) (ktrTop dp un gd cn cs L a ccd cl outer) (call (.ref 207) [.ref l] []) Q E s :=
  universe_tells B F X N T hk hd hu (Nat.le_add_right 1 k) (by omega) hl (atoms_strs _) fun u dx nt nd e1 e2 t1 t2 kk k3 nw h' tk' F' N' ab U z => hret u dx nt nd e1 e2 t1 t2 kk k3 nw h' tk' _ F' N' ab U z
/-- the walker stops here -/
def Hold (p : Prop) : Prop := p
theorem hold_in {p : Prop} (h : Hold p) : p := h
theorem hold_out {p : Prop} (h : p) : Hold p := h
/-- what the law has made, between its statements: the feed fd, the rest, the universe u -/
structure LawIn (w : World) (c1 c2 : Addr) (ns : List Int) (fd : Addr) (fo : Obj) (rest : List (Addr × Obj)) (sp : Int) (many : Nat) (u dx nt nd : Addr) (e1 e2 : Int) (t1 t2 : Tok) (kk k3 : Nat) (xs : List Value) (lc : Addr) (cells : List Value) (kc : Nat) (o1 o2 : Obj) (t tm : Tok) : Prop where
  ne : ∀ p ∈ rest, p.1 ≠ fd
  tab : fo.IsDictOf (PySem.strKind P w) (feedOf lc sp t)
  cell : (lc, PySem.W.listOf (List.toArray cells) kc) ∈ rest
  nums : IntsAre cells (ns.take 40)
  m1 : (c1, o1) ∈ rest
  d1 : o1.data = .cell (some (.ref fd))
  m2 : (c2, o2) ∈ rest
  d2 : o2.data = .cell (some (.int many tm))
  lo : 1 ≤ many
  hi : many ≤ 4
  univ : UnivAt rest u dx nt nd e1 e2 t1 t2 kk k3 xs many
def LawSt (w : World) (c1 c2 : Addr) (ns : List Int) (fd : Addr) (fo : Obj) (rest : List (Addr × Obj)) (sp : Int) (many : Nat) (u : Addr) : Prop :=
  ∃ dx nt nd e1 e2 t1 t2 kk k3 xs lc cells kc o1 o2 t tm, LawIn w c1 c2 ns fd fo rest sp many u dx nt nd e1 e2 t1 t2 kk k3 xs lc cells kc o1 o2 t tm
theorem take40 {ns : List Int} : (ns.take 40).length ≤ 40 := by rw [List.length_take]; omega
theorem News.swap {h : Heap} {p q : Addr × Obj} (N : News h₀ L h (p :: q :: news)) : News h₀ L h (q :: p :: news) := fun x hx => by
  rcases List.mem_cons.mp hx with rfl | hx
  · exact N _ (.tail _ (.head _))
  · rcases List.mem_cons.mp hx with rfl | hx
    · exact N _ (.head _)
    · exact N _ (.tail _ (.tail _ hx))
theorem ne_cons {q : Addr × Obj} {b : Addr} (h : ∀ p ∈ news, p.1 ≠ b) (hq : @Ne Nat q.1 b) : ∀ p ∈ q :: news, p.1 ≠ b := fun p hp => by
  rcases List.mem_cons.mp hp with rfl | hp
  · exact hq
  · exact h p hp
theorem law_at (n : Nat) (h : n < lawBody.length) : lawBody.drop n = lawBody.getD n (.Pass ⟨0, 0, 0, 0⟩) :: lawBody.drop (n + 1) := by
  rw [List.drop_eq_getElem_cons h, List.getD_eq_getElem?_getD, List.getElem?_eq_getElem h]
  rfl
theorem ne_sameS {prog : Program} {A : Around} {x : Str} {t u : Tok} (h : Q (.bool false) s) : wpAny (model prog w) A (compareOp .NotEq (.str x t) (.str x u)) Q E s :=
  PyProof.Rows.ne_str (by rw [show (x != x) = false from by simp]; exact h)
end

-- part LA
section
open PySem PySem.W PyProof.Rows PyProof.V PySem.Spec
set_option rowWalk.seconds 0
variable {w : World} {mean : ExcName → Option Value} {mg mb : Str → Option Value} {loose : List Str}
    {dp un : Nat} {gd : Option (List Code)} {cn : Str} {cs : Scope} {a : Addr} {ccd : Value} {cl : List (Str × Addr)} {outer : List Env} {A₀ : Around} {base h₀ : Heap} {L : Addr} {m : Str → Option Value} {news : List (Addr × Obj)} {s : Shared}
    {Q E : Value → Shared → Prop}
theorem feed_new {lc : Addr} {sp : Int} {t u v : Tok} {o : Obj} (h : o.IsDictOf (PySem.strKind P w) (strPairs [(Value.str (Str.ofString "cells") u, Value.ref lc), (Value.str (Str.ofString "spot") v, Value.int sp t)])) : o.IsDictOf (PySem.strKind P w) (feedOf lc sp t) := h
theorem rows_LA_1 : True := by
  k_with_none
  (k_with "k_room" => first | exact room1 (by assumption) rfl | exact room2 (by assumption) rfl | exact room3 (by assumption) rfl | ktr_room)
  (k_with "k_units" => first | exact room1 (by assumption) rfl | exact room2 (by assumption) rfl | exact room3 (by assumption) rfl | ktr_units)
  (k_with "k_mem" => assumption)
  (k_with "k_mem" => exact Above.sub (by with_reducible assumption) _ (by assumption))
  (k_with "cell_enter" => refine code_defC (by k_asm) (by k_asm) (by k_asm) (by k_asm) (by k_asm) (by exact rfl) (by exact rfl) (by assumption) (by k_is) (by k_is) (by k_room) (by exact BindsTo.of_eq rfl) (by exact rfl) (by decide +kernel) ?_ (by exact rfl) (by exact rfl) (by exact rfl); k_whole; intro _ _ _ _ _ _ _ N'_w9 Y'_w9 B'_w9 _ _ l1_w9; (try k_lt l1_w9); k_cells Y'_w9; (try simp only [List.cons_append, List.nil_append] at N'_w9); (try dsimp only); (try k_lift B'_w9); (try k_fold))
  (k_with "k_all" => assumption)
  (k_with "execs cons" => k_here; (with_reducible show wpAny _ _ _ _ _ (Shared.mk _ _ _ (_ + _) _)); (refine gen_toks ?_); intro _)
  (k_with "execs nil" => k_here; (with_reducible show wpAny _ _ _ _ _ (Shared.mk _ _ _ (_ + _) _)); (refine gen_toks ?_); intro _)
  (k_with "eval Name" => k_here; k_dflt (refine nameX_L (by k_asm) (by first | assumption | exact rfl) ?_; k_whole))
  (k_with "k_mem" => first | assumption | exact List.Mem.head _ | exact List.Mem.tail _ (by assumption) | exact List.Mem.tail _ (List.Mem.tail _ (by assumption)) | exact List.Mem.tail _ (List.Mem.tail _ (List.Mem.tail _ (by assumption))) | ((repeat refine List.Mem.tail _ ?_); first | assumption | exact List.Mem.head _))
  (k_with "call ref" => k_here; (with_reducible show wpAny _ _ (call (Value.ref 220) _) _ _ _); k_dflt (refine draw_N (by k_asm) (by k_asm) (by k_asm) (by k_asm) (by k_asm) (by exact rfl) (by k_room) (by k_units) (by k_updF) (by assumption) (by k_mem) (by assumption) (by first | assumption | omega) (by omega) (by omega) (by omega) (by omega) ?_); intro _ _ _ _ _ _ _ _ _ _)
  (k_with "eval Name" => k_here; k_dflt (refine nameX_C (by k_asm) (by exact rfl) (by k_mem) (by assumption) ?_; k_whole))
  (k_with "storeName" => k_here; k_dflt (refine storeX_C (by k_asm) (by k_asm) (by exact rfl) (by k_updF) (by assumption) ?_); intro _ _ _ N'_w9 _; (try dsimp only at N'_w9))
  (k_with "subscriptTail Name Slice ref ref" => k_here; (with_reducible show wpAny _ _ (subscriptTail _ (PySem.Expr.Slice none (some _) none _) (Value.ref _) (Value.ref _)) _ _ _); k_dflt (refine slice_tupL (s := ⟨_, _, _, _, _⟩) (by k_asm) (by k_asm) (by exact top_tup (by k_asm) (by k_asm) (by k_is)) (by first | exact rfl | exact (Int.natCast_add 1 _).symm) (by (simp only [List.length_cons, List.length_nil]; omega)) (by decide) ?_ (by with_unfolding_all rfl) (by (intro _; with_unfolding_all rfl))); intro _ _ _ _ _)
  (k_with "call type:list" => k_here; (with_reducible show wpAny _ _ (call (Value.type _) [Value.ref _]) _ _ _); k_dflt (refine list_tupL (by k_asm) (by k_asm) (by assumption) (by (rw [List.length_take]; simp only [List.length_cons, List.length_nil]; omega)) ?_); intro _ _ _ _ _ l9_w9; (try k_lt l9_w9))
  (k_with "call ref" => k_here; (with_reducible show wpAny _ _ (call (Value.ref 207) _ _) _ _ _); k_dflt (refine universe_atoms (by k_asm) (by k_asm) (by k_asm) (by k_asm) (by k_asm) (by exact rfl) (by k_room) (by k_units) (by assumption) (by k_mem) ?_); intro _ _ _ _ _ _ _ _ _ _ _ _ _ _ _ _ _ _ _)
  (k_with "storeName" => k_here; k_dflt (refine storeX_L (by k_asm) (by k_asm) ?_ (by rfl) (by rfl)); intro _ _ _; (refine hold_in ?_))
  trivial
theorem law_a {c1 c2 l : Addr} {o1 o2 : Obj} {vs : List Value} {ns : List Int} {R : Flow → Shared → Prop}
    (B : Below A₀ base [] h₀) (F : Fr h₀ L s.heap m) (X : (Mine.hd.heap_1 w.params).In h₀) (N : News h₀ L s.heap [(c2, o2), (c1, o1)]) (T : Top V loose mean mg mb h₀) (hcs : cs = lawScope)
    (hd : dp + 40 < recursionLimit) (hu : un + 1000 < cLine) (ho1 : o1.data = .cell none) (ho2 : o2.data = .cell none) (h12 : @LT.lt Nat _ c1 c2)
    (hm : m "script" = some (.ref l)) (hl : h₀.IsList l vs.toArray) (hi : IntsAre vs ns) (h63 : ns.length ≤ 63)
    (hret : ∀ u fd fo rest many h' m' tk', Fr h₀ L h' m' → News h₀ L h' ((fd, fo) :: rest) → LawSt w c1 c2 ns fd fo rest 1 many u → m' "where" = some (.ref u) →
      wpAny (model P w) (ktrTop dp un gd cn cs L a ccd [("many", c2), ("feed", c1)] []) (execs (lawBody.drop 3) (envX cn cs L a ccd [("many", c2), ("feed", c1)])) R E { s with heap := h', toks := tk' }) :
    wpAny (model P w) (ktrTop dp un gd cn cs L a ccd [("many", c2), ("feed", c1)] []) (execs lawBody (envX cn cs L a ccd [("many", c2), ("feed", c1)])) R E s := by
  w_on
  obtain ⟨lb, hlb⟩ : ∃ lb, lb = lawBody := ⟨_, rfl⟩
  rw [← hlb]
  conv at hlb => rhs; whnf
  obtain ⟨l3, hl3⟩ : ∃ l3, l3 = lawBody.drop 3 := ⟨_, rfl⟩
  rw [← hl3] at hret
  conv at hl3 => rhs; whnf
  conv at hcs => rhs; whnf
  subst hlb hcs hl3
  have h40 := take40 (ns := ns)
  w_strict k_steps
  rename UnivAt _ _ _ _ _ _ _ _ _ _ _ _ _ => hU
  rename Above _ _ => hA
  rename Fr h₀ L _ _ => kF
  rename News h₀ L _ _ => kN
  rename IntsAre _ (List.take 40 ns) => hI
  rename Obj.IsDictOf _ _ (feedOf _ _ _) => hfd
  rename Obj.data _ = Data.cell (some (Value.int _ _)) => hd2
  rename Obj.data _ = Data.cell (some (Value.ref _)) => hd1
  rename (∀ p : Addr × Obj, List.Mem p (_ : List (Addr × Obj)) → p.1 < _ ∧ p.1 < _ ∧ p.1 < _) => hz
  refine hold_out ?_
  have zfd := hz _ (.tail _ (.tail _ (.tail _ (.head _))))
  refine hret _ _ _ _ _ _ _ _ kF (News.pick kN (hA.sub _ (.tail _ (.tail _ (.tail _ (.head _)))))) ⟨_, _, _, _, _, _, _, _, _, _, _, _, _, _, _, _, _, rest_ne, hfd, mem_rest (hA.sub _ (.tail _ (.head _))) (Nat.ne_of_gt (by omega)), hI,
    mem_rest (hA.sub _ (.tail _ (.tail _ (.tail _ (.tail _ (.tail _ (.head _))))))) (Nat.ne_of_lt (by omega)), hd1, mem_rest (hA.sub _ (.tail _ (.tail _ (.tail _ (.tail _ (.head _)))))) (Nat.ne_of_lt (by omega)),
    hd2.trans (congrArg (fun z => Data.cell (some (Value.int z _))) (Int.natCast_add 1 _).symm), Nat.le_add_right 1 _, by omega, mem_rest hU.inst (Nat.ne_of_gt zfd.1), mem_rest hU.dict (Nat.ne_of_gt zfd.2.1), mem_rest hU.tup (Nat.ne_of_gt zfd.2.2), hU.txts⟩ rfl
end

-- part LB
section
open PySem PySem.W PyProof.Rows PyProof.V PySem.Spec
set_option rowWalk.seconds 0
variable {w : World} {mean : ExcName → Option Value} {mg mb : Str → Option Value} {loose : List Str}
    {dp un : Nat} {gd : Option (List Code)} {cn : Str} {cs : Scope} {a : Addr} {ccd : Value} {cl : List (Str × Addr)} {outer : List Env} {A₀ : Around} {base h₀ : Heap} {L : Addr} {m : Str → Option Value} {news : List (Addr × Obj)} {s : Shared}
    {Q E : Value → Shared → Prop}
theorem rows_LB_1 : True := by
  k_with_none
  (k_with "k_room" => first | exact room1 (by assumption) rfl | exact room2 (by assumption) rfl | exact room3 (by assumption) rfl | ktr_room)
  (k_with "k_units" => first | exact room1 (by assumption) rfl | exact room2 (by assumption) rfl | exact room3 (by assumption) rfl | ktr_units)
  (k_with "k_mem" => assumption)
  (k_with "k_mem" => exact Above.sub (by with_reducible assumption) _ (by assumption))
  (k_with "cell_enter" => refine code_defC (by k_asm) (by k_asm) (by k_asm) (by k_asm) (by k_asm) (by exact rfl) (by exact rfl) (by assumption) (by k_is) (by k_is) (by k_room) (by exact BindsTo.of_eq rfl) (by exact rfl) (by decide +kernel) ?_ (by exact rfl) (by exact rfl) (by exact rfl); k_whole; intro _ _ _ _ _ _ _ N'_w9 Y'_w9 B'_w9 _ _ l1_w9; (try k_lt l1_w9); k_cells Y'_w9; (try simp only [List.cons_append, List.nil_append] at N'_w9); (try dsimp only); (try k_lift B'_w9); (try k_fold))
  (k_with "k_all" => assumption)
  (k_with "execs cons" => k_here; (with_reducible show wpAny _ _ _ _ _ (Shared.mk _ _ _ (_ + _) _)); (refine gen_toks ?_); intro _)
  (k_with "execs nil" => k_here; (with_reducible show wpAny _ _ _ _ _ (Shared.mk _ _ _ (_ + _) _)); (refine gen_toks ?_); intro _)
  (k_with "eval Name" => k_here; k_dflt (refine nameX_L (by k_asm) (by first | assumption | exact rfl) ?_; k_whole))
  (k_with "k_mem" => first | assumption | exact List.Mem.head _ | exact List.Mem.tail _ (by assumption) | exact List.Mem.tail _ (List.Mem.tail _ (by assumption)) | exact List.Mem.tail _ (List.Mem.tail _ (List.Mem.tail _ (by assumption))) | ((repeat refine List.Mem.tail _ ?_); first | assumption | exact List.Mem.head _))
  (k_with "call ref" => k_here; (with_reducible show wpAny _ _ (call (Value.ref 220) _) _ _ _); k_dflt (refine draw_N (by k_asm) (by k_asm) (by k_asm) (by k_asm) (by k_asm) (by exact rfl) (by k_room) (by k_units) (by k_updF) (by assumption) (by k_mem) (by assumption) (by first | assumption | omega) (by omega) (by omega) (by omega) (by omega) ?_); intro _ _ _ _ _ _ _ _ _ _)
  (k_with "eval Name" => k_here; k_dflt (refine nameX_C (by k_asm) (by exact rfl) (by k_mem) (by assumption) ?_; k_whole))
  (k_with "storeName" => k_here; k_dflt (refine storeX_C (by k_asm) (by k_asm) (by exact rfl) (by k_updF) (by assumption) ?_); intro _ _ _ N'_w9 _; (try dsimp only at N'_w9))
  (k_with "subscriptTail Name Slice ref ref" => k_here; (with_reducible show wpAny _ _ (subscriptTail _ (PySem.Expr.Slice none (some _) none _) (Value.ref _) (Value.ref _)) _ _ _); k_dflt (refine slice_tupL (s := ⟨_, _, _, _, _⟩) (by k_asm) (by k_asm) (by exact top_tup (by k_asm) (by k_asm) (by k_is)) (by first | exact rfl | exact (Int.natCast_add 1 _).symm) (by (simp only [List.length_cons, List.length_nil]; omega)) (by decide) ?_ (by with_unfolding_all rfl) (by (intro _; with_unfolding_all rfl))); intro _ _ _ _ _)
  (k_with "call type:list" => k_here; (with_reducible show wpAny _ _ (call (Value.type _) [Value.ref _]) _ _ _); k_dflt (refine list_tupL (by k_asm) (by k_asm) (by assumption) (by (rw [List.length_take]; simp only [List.length_cons, List.length_nil]; omega)) ?_); intro _ _ _ _ _ l9_w9; (try k_lt l9_w9))
  (k_with "call ref" => k_here; (with_reducible show wpAny _ _ (call (Value.ref 207) _ _) _ _ _); k_dflt (refine universe_atoms (by k_asm) (by k_asm) (by k_asm) (by k_asm) (by k_asm) (by exact rfl) (by k_room) (by k_units) (by assumption) (by k_mem) ?_); intro _ _ _ _ _ _ _ _ _ _ _ _ _ _ _ _ _ _ _)
  (k_with "storeName" => k_here; k_dflt (refine storeX_L (by k_asm) (by k_asm) ?_ (by rfl) (by rfl)); intro _ _ _; (refine hold_in ?_))
  trivial
theorem law_b {c1 c2 fd u : Addr} {fo : Obj} {rest : List (Addr × Obj)} {many : Nat} {ns : List Int} {R : Flow → Shared → Prop}
    (B : Below A₀ base [] h₀) (F : Fr h₀ L s.heap m) (X : (Mine.hd.heap_1 w.params).In h₀) (N : News h₀ L s.heap ((fd, fo) :: rest)) (T : Top V loose mean mg mb h₀) (hcs : cs = lawScope)
    (hd : dp + 40 < recursionLimit) (hu : un + 1000 < cLine) (S : LawSt w c1 c2 ns fd fo rest 1 many u) (hm : m "where" = some (.ref u))
    (hret : ∀ l1 xs k1 fo rest n h' m' tk', Fr h₀ L h' m' → News h₀ L h' ((fd, fo) :: rest) → LawSt w c1 c2 ns fd fo rest 2 many u → (l1, PySem.W.listOf (List.toArray xs) k1) ∈ rest → StrsAre xs (relNames.take n) → n ≤ 3 → m' "where" = some (.ref u) → m' "marks" = some (.ref l1) →
      wpAny (model P w) (ktrTop dp un gd cn cs L a ccd [("many", c2), ("feed", c1)] []) (execs (lawBody.drop 4) (envX cn cs L a ccd [("many", c2), ("feed", c1)])) R E { s with heap := h', toks := tk' }) :
    wpAny (model P w) (ktrTop dp un gd cn cs L a ccd [("many", c2), ("feed", c1)] []) (execs (lawBody.drop 3) (envX cn cs L a ccd [("many", c2), ("feed", c1)])) R E s := by
  w_on
  obtain ⟨lb, hlb⟩ : ∃ lb, lb = lawBody.drop 3 := ⟨_, rfl⟩
  rw [← hlb]
  conv at hlb => rhs; whnf
  obtain ⟨l3, hl3⟩ : ∃ l3, l3 = lawBody.drop 4 := ⟨_, rfl⟩
  rw [← hl3] at hret
  conv at hl3 => rhs; whnf
  conv at hcs => rhs; whnf
  subst hlb hcs hl3
  have h40 := take40 (ns := ns)
  obtain ⟨dx, nt, nd, e1, e2, t1, t2, kk, k3, xs, lc, cells, kc, o1, o2, t, tm, hne, hf, hc, hi, hc1, ho1, hc2, ho2, hm1, hm4, hU⟩ := S
  have hUF : UpdF fd fo ((fd, fo) :: rest) (fun o' => (fd, o') :: rest) := .head hne
  w_strict k_steps
  rename Fr h₀ L _ _ => kF
  rename News h₀ L _ _ => kN
  rename Obj.IsDictOf _ _ (feedOf _ _ _) => hfd
  rename (@LT.lt Nat _ fd _ ∧ _) => h9
  refine hold_out ?_
  exact hret _ _ _ _ _ _ _ _ _ kF (News.swap kN) ⟨dx, nt, nd, e1, e2, t1, t2, kk, k3, xs, lc, cells, kc, o1, o2, _, tm, ne_cons hne (Nat.ne_of_gt h9.1), hfd, .tail _ hc, hi, .tail _ hc1, ho1, .tail _ hc2, ho2, hm1, hm4, .tail _ hU.inst, .tail _ hU.dict, .tail _ hU.tup, hU.txts⟩
    (.head _) (rels_strs _) (by omega) hm rfl
end

-- part LC
section
open PySem PySem.W PyProof.Rows PyProof.V PySem.Spec
set_option rowWalk.seconds 0
variable {w : World} {mean : ExcName → Option Value} {mg mb : Str → Option Value} {loose : List Str}
    {dp un : Nat} {gd : Option (List Code)} {cn : Str} {cs : Scope} {a : Addr} {ccd : Value} {cl : List (Str × Addr)} {outer : List Env} {A₀ : Around} {base h₀ : Heap} {L : Addr} {m : Str → Option Value} {news : List (Addr × Obj)} {s : Shared}
    {Q E : Value → Shared → Prop}
/-- what a drawn relation is -/
def GoodRel (many : Nat) (rel : List (List Int)) : Prop := RowsSorted rel ∧ rel.length ≤ 4 ∧ ∃ wd, 1 ≤ wd ∧ wd ≤ 3 ∧ ∀ r ∈ rel, r.length = wd ∧ ∀ a ∈ r, 0 ≤ a ∧ a < (many : Int)
theorem rows_LC_1 : True := by
  k_with_none
  (k_with "k_room" => first | exact room1 (by assumption) rfl | exact room2 (by assumption) rfl | exact room3 (by assumption) rfl | ktr_room)
  (k_with "k_units" => first | exact room1 (by assumption) rfl | exact room2 (by assumption) rfl | exact room3 (by assumption) rfl | ktr_units)
  (k_with "k_mem" => assumption)
  (k_with "k_mem" => exact Above.sub (by with_reducible assumption) _ (by assumption))
  (k_with "cell_enter" => refine code_defC (by k_asm) (by k_asm) (by k_asm) (by k_asm) (by k_asm) (by exact rfl) (by exact rfl) (by assumption) (by k_is) (by k_is) (by k_room) (by exact BindsTo.of_eq rfl) (by exact rfl) (by decide +kernel) ?_ (by exact rfl) (by exact rfl) (by exact rfl); k_whole; intro _ _ _ _ _ _ _ N'_w9 Y'_w9 B'_w9 _ _ l1_w9; (try k_lt l1_w9); k_cells Y'_w9; (try simp only [List.cons_append, List.nil_append] at N'_w9); (try dsimp only); (try k_lift B'_w9); (try k_fold))
  (k_with "k_all" => assumption)
  (k_with "execs cons" => k_here; (with_reducible show wpAny _ _ _ _ _ (Shared.mk _ _ _ (_ + _) _)); (refine gen_toks ?_); intro _)
  (k_with "execs nil" => k_here; (with_reducible show wpAny _ _ _ _ _ (Shared.mk _ _ _ (_ + _) _)); (refine gen_toks ?_); intro _)
  (k_with "eval Name" => k_here; k_dflt (refine nameX_L (by k_asm) (by first | assumption | exact rfl) ?_; k_whole))
  (k_with "k_mem" => first | assumption | exact List.Mem.head _ | exact List.Mem.tail _ (by assumption) | exact List.Mem.tail _ (List.Mem.tail _ (by assumption)) | exact List.Mem.tail _ (List.Mem.tail _ (List.Mem.tail _ (by assumption))) | ((repeat refine List.Mem.tail _ ?_); first | assumption | exact List.Mem.head _))
  (k_with "call ref" => k_here; (with_reducible show wpAny _ _ (call (Value.ref 220) _) _ _ _); k_dflt (refine draw_N (by k_asm) (by k_asm) (by k_asm) (by k_asm) (by k_asm) (by exact rfl) (by k_room) (by k_units) (by k_updF) (by assumption) (by k_mem) (by assumption) (by first | assumption | omega) (by omega) (by omega) (by omega) (by omega) ?_); intro _ _ _ _ _ _ _ _ _ _)
  (k_with "eval Name" => k_here; k_dflt (refine nameX_C (by k_asm) (by exact rfl) (by k_mem) (by assumption) ?_; k_whole))
  (k_with "storeName" => k_here; k_dflt (refine storeX_C (by k_asm) (by k_asm) (by exact rfl) (by k_updF) (by assumption) ?_); intro _ _ _ N'_w9 _; (try dsimp only at N'_w9))
  (k_with "subscriptTail Name Slice ref ref" => k_here; (with_reducible show wpAny _ _ (subscriptTail _ (PySem.Expr.Slice none (some _) none _) (Value.ref _) (Value.ref _)) _ _ _); k_dflt (refine slice_tupL (s := ⟨_, _, _, _, _⟩) (by k_asm) (by k_asm) (by exact top_tup (by k_asm) (by k_asm) (by k_is)) (by first | exact rfl | exact (Int.natCast_add 1 _).symm) (by (simp only [List.length_cons, List.length_nil]; omega)) (by decide) ?_ (by with_unfolding_all rfl) (by (intro _; with_unfolding_all rfl))); intro _ _ _ _ _)
  (k_with "call type:list" => k_here; (with_reducible show wpAny _ _ (call (Value.type _) [Value.ref _]) _ _ _); k_dflt (refine list_tupL (by k_asm) (by k_asm) (by assumption) (by (rw [List.length_take]; simp only [List.length_cons, List.length_nil]; omega)) ?_); intro _ _ _ _ _ l9_w9; (try k_lt l9_w9))
  (k_with "call ref" => k_here; (with_reducible show wpAny _ _ (call (Value.ref 207) _ _) _ _ _); k_dflt (refine universe_atoms (by k_asm) (by k_asm) (by k_asm) (by k_asm) (by k_asm) (by exact rfl) (by k_room) (by k_units) (by assumption) (by k_mem) ?_); intro _ _ _ _ _ _ _ _ _ _ _ _ _ _ _ _ _ _ _)
  (k_with "storeName" => k_here; k_dflt (refine storeX_L (by k_asm) (by k_asm) ?_ (by rfl) (by rfl)); intro _ _ _; (refine hold_in ?_))
  (k_with "k_updF" => assumption)
  (k_with "eval ListComp" => k_dflt (refine listComp_W (by k_asm) (by with_unfolding_all rfl) (by decide) (by rfl) (by decide) (by rfl) ?_))
  (k_with "call ref" => k_here; (with_reducible show wpAny _ _ (call (Value.ref 225) _) _ _ _); k_dflt (refine relation_tells (by k_asm) (by k_asm) (by k_asm) (by k_asm) (by k_asm) (by exact rfl) (by k_room) (by k_units) (by k_updF) (by assumption) (by k_mem) (by assumption) (by assumption) (by assumption) (by assumption) (by assumption) (by assumption) ?_); intro _ _ _ _ _ _ _ _ _ _ _ _ _ _ _ _ _ _)
  trivial
theorem law_c {c1 c2 fd u l1 : Addr} {k1 : Nat} {xs : List Value} {marks : List Str} {fo : Obj} {rest : List (Addr × Obj)} {many : Nat} {ns : List Int} {R : Flow → Shared → Prop}
    (B : Below A₀ base [] h₀) (F : Fr h₀ L s.heap m) (X : (Mine.hd.heap_1 w.params).In h₀) (N : News h₀ L s.heap ((fd, fo) :: rest)) (T : Top V loose mean mg mb h₀) (hcs : cs = lawScope)
    (hd : dp + 40 < recursionLimit) (hu : un + 1000 < cLine) (S : LawSt w c1 c2 ns fd fo rest 2 many u) (hl1 : (l1, PySem.W.listOf xs.toArray k1) ∈ rest) (hx1 : StrsAre xs marks) (hm3 : marks.length ≤ 3) (hm : m "where" = some (.ref u)) (hm' : m "marks" = some (.ref l1))
    (hret : ∀ ld dus kd rels sp fo rest h' m' tk', Fr h₀ L h' m' → News h₀ L h' ((fd, fo) :: rest) → LawSt w c1 c2 ns fd fo rest sp many u → 0 ≤ sp → sp ≤ 100 → (l1, PySem.W.listOf xs.toArray k1) ∈ rest → (ld, PySem.W.listOf (List.toArray dus) kd) ∈ rest → DatAll rest dus (instD rels) →
      rels.length = marks.length → (∀ rel ∈ rels, GoodRel many rel) → m' "where" = some (.ref u) → m' "marks" = some (.ref l1) → m' "due" = some (.ref ld) →
      wpAny (model P w) (ktrTop dp un gd cn cs L a ccd [("many", c2), ("feed", c1)] []) (execs (lawBody.drop 5) (envX cn cs L a ccd [("many", c2), ("feed", c1)])) R E { s with heap := h', toks := tk' }) :
    wpAny (model P w) (ktrTop dp un gd cn cs L a ccd [("many", c2), ("feed", c1)] []) (execs (lawBody.drop 4) (envX cn cs L a ccd [("many", c2), ("feed", c1)])) R E s := by
  w_on
  obtain ⟨lb, hlb⟩ : ∃ lb, lb = lawBody.drop 4 := ⟨_, rfl⟩
  rw [← hlb]
  conv at hlb => rhs; whnf
  obtain ⟨l3, hl3⟩ : ∃ l3, l3 = lawBody.drop 5 := ⟨_, rfl⟩
  rw [← hl3] at hret
  conv at hl3 => rhs; whnf
  conv at hcs => rhs; whnf
  subst hlb hcs hl3
  have h40 := take40 (ns := ns)
  have hxl : xs.length = marks.length := StrsAre.length hx1
  obtain ⟨dx, nt, nd, e1, e2, t1, t2, kk, k3, uxs, lc, cells, kc, o1, o2, t, tm, hne, hf, hc, hi, hc1, ho1, hc2, ho2, hm1, hm4, hU⟩ := S
  w_strict k_steps
  refine LCg.CompSrc.ledger (its := xs.toArray) (k := k1) rfl F N (.tail _ hl1) (by rw [List.size_toArray, sizeLine_eq]; omega) fun g9 => ?_
  refine comp_run (fun i ys nw => ∃ rs fo t sp rels, nw = rs ++ (fd, fo) :: rest ∧ (∀ p ∈ rs, ∀ q ∈ (fd, fo) :: rest, q.1 < p.1) ∧ fo.IsDictOf (PySem.strKind P w) (feedOf lc sp t) ∧ 0 ≤ sp ∧ sp ≤ 2 + 20 * i ∧ DatAll rs ys (instD rels) ∧ rels.length = i ∧ ∀ rel ∈ rels, GoodRel many rel)
    ⟨[], fo, t, 2, [], rfl, (fun _ h => nomatch h), hf, by omega, by omega, .nil, rfl, fun _ h => nomatch h⟩ ?_ ?_
  · intro i9 ys nw v I oI C oC D m₂ h9 tk9 E' hi9 hJ hv hC hx IT
    obtain ⟨F9, N9, off9, ne9⟩ := IT
    obtain ⟨rs, fo5, t5, sp5, rels, rfl, hfr, hD5, hs0, hs1, hdd, hrl, hgr⟩ := hJ
    have hi9' : i9 < 3 := by rw [List.size_toArray] at hi9; omega
    have hs1' : sp5 ≤ 500 := by omega
    have o9 := off9.mem
    have hUF : UpdF fd fo5 (rs ++ (fd, fo5) :: rest) (fun o' => rs ++ (fd, o') :: rest) := updF_mid (fun p hp => Nat.ne_of_gt (hfr p hp _ (.head _))) hne
    have z9 := o9 (fd, fo5) (by simp)
    have nI : @Ne Nat I fd := z9.1.symm
    have nC : @Ne Nat C fd := z9.2.1.symm
    have nD : @Ne Nat D fd := z9.2.2.symm
    have q1 : (lc, PySem.W.listOf (List.toArray cells) kc) ∈ rs ++ (fd, fo5) :: rest := by simp [hc]
    have q2 : (c1, o1) ∈ rs ++ (fd, fo5) :: rest := by simp [hc1]
    have q3 : (c2, o2) ∈ rs ++ (fd, fo5) :: rest := by simp [hc2]
    k_steps
    rename_i tA rsA relA foA t2A spA hA tkA FA NA frA DA g0 g1 IA SA lA WA
    have memI : (I, oI) ∈ (I, oI) :: (C, oC) :: (D, LCg.lst ys) :: (rs ++ (fd, fo5) :: rest) := .head _
    have memC : (C, oC) ∈ (I, oI) :: (C, oC) :: (D, LCg.lst ys) :: (rs ++ (fd, fo5) :: rest) := .tail _ (.head _)
    have memD : (D, LCg.lst ys) ∈ (I, oI) :: (C, oC) :: (D, LCg.lst ys) :: (rs ++ (fd, fo5) :: rest) := .tail _ (.tail _ (.head _))
    refine comp_end ((rsA ++ rs) ++ (fd, foA) :: rest) FA NA (fun p hp => ?_) (.of fun p hp => ?_) (.inr ⟨_, List.mem_append_right _ (.tail _ hl1), rfl, _, rfl⟩) ⟨rsA ++ rs, foA, t2A, spA, rels ++ [relA], rfl, fun p hp q hq => ?_, DA, by omega, by push_cast; omega, ?_, by simp [hrl], fun rel hrel => ?_⟩
    · simp only [List.mem_cons, List.mem_append] at hp ⊢
      rcases hp with h | h | h | (h | h) | h | h
      · exact .inr (.inl h)
      · exact .inr (.inr (.inl h))
      · exact .inr (.inr (.inr (.inl h)))
      · exact .inl h
      · exact .inr (.inr (.inr (.inr (.inl h))))
      · exact .inr (.inr (.inr (.inr (.inr (.inl h)))))
      · exact .inr (.inr (.inr (.inr (.inr (.inr h)))))
    · rcases List.mem_append.mp hp with hp | hp
      · rcases List.mem_append.mp hp with hp | hp
        · exact ⟨Nat.ne_of_gt (frA p hp _ memI), Nat.ne_of_gt (frA p hp _ memC), Nat.ne_of_gt (frA p hp _ memD)⟩
        · exact o9 p (List.mem_append_left _ hp)
      · rcases List.mem_cons.mp hp with rfl | hp
        · exact z9
        · exact o9 p (List.mem_append_right _ (.tail _ hp))
    · rcases List.mem_append.mp hp with hp | hp
      · rcases List.mem_cons.mp hq with rfl | hq
        · exact frA p hp (fd, fo5) (by simp)
        · exact frA p hp q (by simp [hq])
      · rcases List.mem_cons.mp hq with rfl | hq
        · exact hfr p hp (fd, fo5) (.head _)
        · exact hfr p hp q (.tail _ hq)
    · unfold instD
      rw [List.map_append]
      exact (hdd.mono fun p hp => List.mem_append_right _ hp).append (.one (DatIn.mono (fun p hp => List.mem_append_left _ hp) IA))
    · rcases List.mem_append.mp hrel with h | h
      · exact hgr rel h
      · rw [List.mem_singleton.mp h]
        exact ⟨SA, lA, WA⟩
  · rintro ys nw ⟨rs, fo5, t5, sp5, rels, rfl, hfr, hD5, hs0, hs1, hdd, hrl, hgr⟩ D9 h9 tk9 F9 N9 off9
    have o1' := off1_ne off9
    have hn9 : xs.toArray.size ≤ 3 := by rw [List.size_toArray]; omega
    have kF := F9
    have kN := N9
    refine hret D9 ys _ rels sp5 fo5 ((D9, LCg.lst ys) :: (rs ++ rest)) _ _ _ kF (fun p hp => kN p ?_) ⟨dx, nt, nd, e1, e2, t1, t2, kk, k3, uxs, lc, cells, kc, o1, o2, _, tm, ?_, hD5, ?_, hi, ?_, ho1, ?_, ho2, hm1, hm4, ?_, ?_, ?_, hU.txts⟩ hs0 (by omega) ?_ (.head _) (hdd.mono fun p hp => .tail _ (List.mem_append_left _ hp)) ?_ hgr hm hm' rfl
    · simp only [List.mem_cons, List.mem_append] at hp ⊢
      rcases hp with h | h | h | h
      · exact .inr (.inr (.inl h))
      · exact .inl h
      · exact .inr (.inl h)
      · exact .inr (.inr (.inr h))
    · refine ne_cons (fun p hp => ?_) (o1' (fd, fo5) (by simp)).symm
      rcases List.mem_append.mp hp with hp | hp
      · exact Nat.ne_of_gt (hfr p hp _ (.head _))
      · exact hne p hp
    · exact .tail _ (List.mem_append_right _ hc)
    · exact .tail _ (List.mem_append_right _ hc1)
    · exact .tail _ (List.mem_append_right _ hc2)
    · exact .tail _ (List.mem_append_right _ hU.inst)
    · exact .tail _ (List.mem_append_right _ hU.dict)
    · exact .tail _ (List.mem_append_right _ hU.tup)
    · exact .tail _ (List.mem_append_right _ hl1)
    · rw [hrl, List.size_toArray, hxl]
end

-- part LD
section
open PySem PySem.W PyProof.Rows PyProof.V PySem.Spec
set_option rowWalk.seconds 0
variable {w : World} {mean : ExcName → Option Value} {mg mb : Str → Option Value} {loose : List Str}
    {dp un : Nat} {gd : Option (List Code)} {cn : Str} {cs : Scope} {a : Addr} {ccd : Value} {cl : List (Str × Addr)} {outer : List Env} {A₀ : Around} {base h₀ : Heap} {L : Addr} {m : Str → Option Value} {news : List (Addr × Obj)} {s : Shared}
    {Q E : Value → Shared → Prop}
theorem rows_LD_1 : True := by
  k_with_none
  (k_with "k_room" => first | exact room1 (by assumption) rfl | exact room2 (by assumption) rfl | exact room3 (by assumption) rfl | ktr_room)
  (k_with "k_units" => first | exact room1 (by assumption) rfl | exact room2 (by assumption) rfl | exact room3 (by assumption) rfl | ktr_units)
  (k_with "k_mem" => assumption)
  (k_with "k_mem" => exact Above.sub (by with_reducible assumption) _ (by assumption))
  (k_with "cell_enter" => refine code_defC (by k_asm) (by k_asm) (by k_asm) (by k_asm) (by k_asm) (by exact rfl) (by exact rfl) (by assumption) (by k_is) (by k_is) (by k_room) (by exact BindsTo.of_eq rfl) (by exact rfl) (by decide +kernel) ?_ (by exact rfl) (by exact rfl) (by exact rfl); k_whole; intro _ _ _ _ _ _ _ N'_w9 Y'_w9 B'_w9 _ _ l1_w9; (try k_lt l1_w9); k_cells Y'_w9; (try simp only [List.cons_append, List.nil_append] at N'_w9); (try dsimp only); (try k_lift B'_w9); (try k_fold))
  (k_with "k_all" => assumption)
  (k_with "execs cons" => k_here; (with_reducible show wpAny _ _ _ _ _ (Shared.mk _ _ _ (_ + _) _)); (refine gen_toks ?_); intro _)
  (k_with "execs nil" => k_here; (with_reducible show wpAny _ _ _ _ _ (Shared.mk _ _ _ (_ + _) _)); (refine gen_toks ?_); intro _)
  (k_with "eval Name" => k_here; k_dflt (refine nameX_L (by k_asm) (by first | assumption | exact rfl) ?_; k_whole))
  (k_with "k_mem" => first | assumption | exact List.Mem.head _ | exact List.Mem.tail _ (by assumption) | exact List.Mem.tail _ (List.Mem.tail _ (by assumption)) | exact List.Mem.tail _ (List.Mem.tail _ (List.Mem.tail _ (by assumption))) | ((repeat refine List.Mem.tail _ ?_); first | assumption | exact List.Mem.head _))
  (k_with "call ref" => k_here; (with_reducible show wpAny _ _ (call (Value.ref 220) _) _ _ _); k_dflt (refine draw_N (by k_asm) (by k_asm) (by k_asm) (by k_asm) (by k_asm) (by exact rfl) (by k_room) (by k_units) (by k_updF) (by assumption) (by k_mem) (by assumption) (by first | assumption | omega) (by omega) (by omega) (by omega) (by omega) ?_); intro _ _ _ _ _ _ _ _ _ _)
  (k_with "eval Name" => k_here; k_dflt (refine nameX_C (by k_asm) (by exact rfl) (by k_mem) (by assumption) ?_; k_whole))
  (k_with "storeName" => k_here; k_dflt (refine storeX_C (by k_asm) (by k_asm) (by exact rfl) (by k_updF) (by assumption) ?_); intro _ _ _ N'_w9 _; (try dsimp only at N'_w9))
  (k_with "subscriptTail Name Slice ref ref" => k_here; (with_reducible show wpAny _ _ (subscriptTail _ (PySem.Expr.Slice none (some _) none _) (Value.ref _) (Value.ref _)) _ _ _); k_dflt (refine slice_tupL (s := ⟨_, _, _, _, _⟩) (by k_asm) (by k_asm) (by exact top_tup (by k_asm) (by k_asm) (by k_is)) (by first | exact rfl | exact (Int.natCast_add 1 _).symm) (by (simp only [List.length_cons, List.length_nil]; omega)) (by decide) ?_ (by with_unfolding_all rfl) (by (intro _; with_unfolding_all rfl))); intro _ _ _ _ _)
  (k_with "call type:list" => k_here; (with_reducible show wpAny _ _ (call (Value.type _) [Value.ref _]) _ _ _); k_dflt (refine list_tupL (by k_asm) (by k_asm) (by assumption) (by (rw [List.length_take]; simp only [List.length_cons, List.length_nil]; omega)) ?_); intro _ _ _ _ _ l9_w9; (try k_lt l9_w9))
  (k_with "call ref" => k_here; (with_reducible show wpAny _ _ (call (Value.ref 207) _ _) _ _ _); k_dflt (refine universe_atoms (by k_asm) (by k_asm) (by k_asm) (by k_asm) (by k_asm) (by exact rfl) (by k_room) (by k_units) (by assumption) (by k_mem) ?_); intro _ _ _ _ _ _ _ _ _ _ _ _ _ _ _ _ _ _ _)
  (k_with "storeName" => k_here; k_dflt (refine storeX_L (by k_asm) (by k_asm) ?_ (by rfl) (by rfl)); intro _ _ _; (refine hold_in ?_))
  (k_with "eval ListComp" => k_dflt (refine listComp_zip (by k_asm) (by with_unfolding_all rfl) (by decide) (by rfl) (by decide) (by rfl) (by rfl) (by decide +kernel) ?_))
  (k_with "call type:zip" => (with_reducible show wpAny _ _ (call (Value.type _) [Value.ref _, Value.ref _]) (ZipSrc _ _ _ _ _ _ _ _ _ _ _ _ _) _ _); refine zip_src ?_)
  (k_with "call ref" => k_here; (with_reducible show wpAny _ _ (call (Value.ref 230) _) _ _ _); k_dflt (refine tuple_texts_tells (by k_asm) (by k_asm) (by k_asm) (by k_asm) (by k_asm) (by exact rfl) (by k_room) (by k_units) (by k_mem) (by assumption) (by assumption) (by assumption) ?_); intro _ _ _ _ _ _ _ l9_w9; (try k_lt l9_w9))
  (k_with "call ref" => k_here; (with_reducible show wpAny _ _ (call (Value.ref 237) _) _ _ _); k_dflt (refine law_row_tells (by k_asm) (by k_asm) (by k_asm) (by k_asm) (by k_asm) (by exact rfl) (by k_room) (by k_units) (by k_mem) (by assumption) (by assumption) (by assumption) (by assumption) ?_); intro _ _ _ _ _)
  (k_with "call ref" => k_here; (with_reducible show wpAny _ _ (call (Value.ref 112) _) _ _ _); k_dflt (refine instance_text_tells (by k_asm) (by k_asm) (by k_asm) (by k_asm) (by k_asm) (by exact rfl) (by k_room) (by k_units) (by assumption) (by assumption) (by assumption) (by assumption) (by assumption) (by assumption) (by assumption) (by assumption) (by assumption) (by assumption) ?_); intro _ _ _ _ _)
  (k_with "call ref" => k_here; (with_reducible show wpAny _ _ (call (Value.ref 244) _) _ _ _); k_dflt (refine is_read_tells (by k_asm) (by k_asm) (by k_asm) (by k_asm) (by k_asm) (by exact rfl) (by k_room) (by k_units) (by assumption) (by assumption) (by assumption) (by assumption) (by assumption) (by assumption) (by assumption) (by assumption) (by assumption) (by assumption) (by assumption) (by assumption) ?_); intro _ _ _ _)
  trivial
theorem law_d {c1 c2 fd u l1 ld : Addr} {k1 kd : Nat} {xs dus : List Value} {marks : List Str} {rels : List (List (List Int))} {sp : Int} {fo : Obj} {rest : List (Addr × Obj)} {many : Nat} {ns : List Int} {R : Flow → Shared → Prop}
    (B : Below A₀ base [] h₀) (F : Fr h₀ L s.heap m) (X : (Mine.hd.heap_1 w.params).In h₀) (N : News h₀ L s.heap ((fd, fo) :: rest)) (T : Top V loose mean mg mb h₀) (hcs : cs = lawScope)
    (hd : dp + 40 < recursionLimit) (hu : un + 1000 < cLine) (S : LawSt w c1 c2 ns fd fo rest sp many u) (hl1 : (l1, PySem.W.listOf xs.toArray k1) ∈ rest) (hx1 : StrsAre xs marks) (hm3 : marks.length ≤ 3) (hmk : ∀ x ∈ marks, x.length ≤ 10)
    (hl2 : (ld, PySem.W.listOf dus.toArray kd) ∈ rest) (hdu : DatAll rest dus (instD rels)) (hrl : rels.length = marks.length) (hgr : ∀ rel ∈ rels, GoodRel many rel)
    (hm : m "where" = some (.ref u)) (hm' : m "marks" = some (.ref l1)) (hm'' : m "due" = some (.ref ld))
    (hret : ∀ tt h' m' tk', Fr h₀ L h' m' → News h₀ L h' ((fd, fo) :: rest) → m' "where" = some (.ref u) → m' "marks" = some (.ref l1) → m' "due" = some (.ref ld) → m' "text" = some (.str (wholeText marks rels) tt) →
      wpAny (model P w) (ktrTop dp un gd cn cs L a ccd [("many", c2), ("feed", c1)] []) (execs (lawBody.drop 6) (envX cn cs L a ccd [("many", c2), ("feed", c1)])) R E { s with heap := h', toks := tk' }) :
    wpAny (model P w) (ktrTop dp un gd cn cs L a ccd [("many", c2), ("feed", c1)] []) (execs (lawBody.drop 5) (envX cn cs L a ccd [("many", c2), ("feed", c1)])) R E s := by
  w_on
  obtain ⟨x, hx⟩ : ∃ x, x = lawBody.getD 5 (.Pass ⟨0, 0, 0, 0⟩) := ⟨_, rfl⟩
  obtain ⟨l3, hl3⟩ : ∃ l3, l3 = lawBody.drop (5 + 1) := ⟨_, rfl⟩
  rw [law_at 5 (by decide +kernel), ← hx, ← hl3]
  rw [← hl3] at hret
  conv at hx => rhs; whnf
  conv at hcs => rhs; whnf
  subst hx hcs
  have hxl : xs.length = marks.length := StrsAre.length hx1
  have hyl : dus.length = rels.length := by rw [DatAll.length hdu, instD, List.length_map]
  obtain ⟨dx, nt, nd, e1, e2, t1, t2, kk, k3, uxs, lc, cells, kc, o1, o2, t, tm, hne, hf, hc, hi, hc1, ho1, hc2, ho2, hm1, hm4, hU⟩ := S
  w_strict k_steps
  refine ⟨l1, ld, xs, dus, k1, kd, _, fun i => rowStr (marks.getD i Str.empty) ((rels.getD i []).map rowText), rfl, rfl, rfl, by assumption, by assumption, .tail _ hl1, .tail _ hl2, by rw [sizeLine_eq]; omega, ?_, ?_⟩
  · rintro s₂ ⟨g, rfl⟩ i x y I oI C oC D vs m₂ h tk nw E' hx hy IC hC ha hb
    obtain ⟨mk, t, rfl, hmk2⟩ := StrsAre.item hx1 i x hx
    obtain ⟨rel, hrel, hmem, hdv⟩ := datAll_at hdu hy
    obtain ⟨F1, N1, hsub, off, ne⟩ := IC
    have hg1 : marks.getD i Str.empty = mk := by rw [List.getD_eq_getElem?_getD, hmk2]; rfl
    have hg2 : rels.getD i [] = rel := by rw [List.getD_eq_getElem?_getD, hrel]; rfl
    dsimp only
    rw [hg1, hg2]
    unfold rowStr
    have ⟨hgs, hgl, wd9, hw1, hw2, hw3⟩ := hgr rel hmem
    have hml := hmk _ (List.mem_of_getElem? hmk2)
    cases hdv with
    | @tuple b us kb ds hmb hds =>
    have hds9 : DatAll ((I, oI) :: (C, oC) :: (D, LCg.lst vs) :: nw) us (rel.map rowD) := hds.mono fun p hp => .tail _ (.tail _ (.tail _ (hsub _ (.tail _ hp))))
    have hmb9 : (b, tupOf us kb) ∈ nw := hsub _ (.tail _ hmb)
    have hn5 : rel.length ≤ 50 := by omega
    have hr5 : ∀ r ∈ rel, r.length ≤ 3 ∧ ∀ a ∈ r, 0 ≤ a ∧ a < 4 := fun r hr => ⟨by have := (hw3 r hr).1; omega, fun a ha => by have := (hw3 r hr).2 a ha; omega⟩
    have hn6 : (rel.map rowText).length ≤ 50 := by rw [List.length_map]; omega
    have hy6 : ∀ y ∈ rel.map rowText, y.length ≤ 1000 := fun y hy => by
      obtain ⟨r, hr, rfl⟩ := List.mem_map.mp hy
      have := rowText_len r (hr5 r hr).1
      omega
    clear hdu hU N F
    k_steps
    · assumption
    · rename News h₀ L _ _ => kN
      exact fun p hp => kN p (.tail _ hp)
  · intro D h tk vs hvs F1 N1 off
    have hkey : (List.range (min xs.length dus.length)).map (fun i => rowStr (marks.getD i Str.empty) ((rels.getD i []).map rowText)) = (marks.zip rels).map fun p => rowStr p.1 (p.2.map rowText) := by
      rw [hxl, hyl]
      exact zip_range marks rels _ _ (fun a b => rowStr a (b.map rowText))
    rw [hkey] at hvs
    k_steps
    refine join_at (lst_at (by assumption) (.head _)) hvs (by decide +kernel) ?_ ?_ ?_
    · simp only [List.length_map, List.length_zip]; omega
    · intro y hy
      obtain ⟨p, hp, rfl⟩ := List.mem_map.mp hy
      have h1 := List.of_mem_zip hp
      have h2 := hmk _ h1.1
      have ⟨hgs, hgl, wd9, hw1, hw2, hw3⟩ := hgr _ h1.2
      have h4 := relText_len p.2 (fun r hr' => by have := (hw3 r hr').1; omega) (by omega)
      have h5 : ("={" : Str).length = 2 := by decide +kernel
      have h6 : ("}" : Str).length = 1 := by decide +kernel
      unfold relText at h4
      unfold rowStr
      rw [Str.length_append, Str.length_append, Str.length_append, h5, h6]
      omega
    intro t5 k5 hj5
    k_steps
    rename Fr h₀ L _ _ => kF
    rename News h₀ L _ _ => kN
    refine hold_out ?_
    exact hret _ _ _ _ kF (fun p hp => kN p (.tail _ hp)) hm hm' hm'' rfl
theorem law_e {c1 c2 fd u l1 ld : Addr} {k1 kd : Nat} {xs dus : List Value} {marks : List Str} {tt : Tok} {rels : List (List (List Int))} {sp : Int} {fo : Obj} {rest : List (Addr × Obj)} {many : Nat} {ns : List Int} {R : Flow → Shared → Prop}
    (B : Below A₀ base [] h₀) (F : Fr h₀ L s.heap m) (X : (Mine.hd.heap_1 w.params).In h₀) (N : News h₀ L s.heap ((fd, fo) :: rest)) (T : Top V loose mean mg mb h₀) (hcs : cs = lawScope)
    (hd : dp + 40 < recursionLimit) (hu : un + 1000 < cLine) (S : LawSt w c1 c2 ns fd fo rest sp many u) (hl1 : (l1, PySem.W.listOf xs.toArray k1) ∈ rest) (hx1 : StrsAre xs marks) (hm3 : marks.length ≤ 3) (hmk : ∀ x ∈ marks, x.length ≤ 10)
    (hl2 : (ld, PySem.W.listOf dus.toArray kd) ∈ rest) (hdu : DatAll rest dus (instD rels)) (hrl : rels.length = marks.length) (hgr : ∀ rel ∈ rels, GoodRel many rel)
    (hm : m "where" = some (.ref u)) (hm' : m "marks" = some (.ref l1)) (hm'' : m "due" = some (.ref ld)) (hm3' : m "text" = some (.str (wholeText marks rels) tt))
    (hO : ReadOut many marks (wholeText marks rels) (.ok rels)) (htl : (wholeText marks rels).length ≤ 5000) (hsame : ∀ rels', Sorts rels' rels → rels' = rels)
    (hret : ∀ h' tk', Fr h₀ L h' m → News h₀ L h' ((fd, fo) :: rest) →
      wpAny (model P w) (ktrTop dp un gd cn cs L a ccd [("many", c2), ("feed", c1)] []) (execs (lawBody.drop 7) (envX cn cs L a ccd [("many", c2), ("feed", c1)])) R E { s with heap := h', toks := tk' }) :
    wpAny (model P w) (ktrTop dp un gd cn cs L a ccd [("many", c2), ("feed", c1)] []) (execs (lawBody.drop 6) (envX cn cs L a ccd [("many", c2), ("feed", c1)])) R E s := by
  w_on
  obtain ⟨x, hx⟩ : ∃ x, x = lawBody.getD 6 (.Pass ⟨0, 0, 0, 0⟩) := ⟨_, rfl⟩
  obtain ⟨l3, hl3⟩ : ∃ l3, l3 = lawBody.drop (6 + 1) := ⟨_, rfl⟩
  rw [law_at 6 (by decide +kernel), ← hx, ← hl3]
  rw [← hl3] at hret
  conv at hx => rhs; whnf
  conv at hcs => rhs; whnf
  subst hx hcs
  obtain ⟨dx, nt, nd, e1, e2, t1, t2, kk, k3, uxs, lc, cells, kc, o1, o2, t, tm, hne, hf, hc, hi, hc1, ho1, hc2, ho2, hm1, hm4, hU⟩ := S
  have hU9 : UnivAt ((fd, fo) :: rest) u dx nt nd e1 e2 t1 t2 kk k3 uxs many := hU.mono fun p hp => .tail _ hp
  have hl19 := List.Mem.tail (fd, fo) hl1
  have hl29 := List.Mem.tail (fd, fo) hl2
  have hdu9 : DatAll ((fd, fo) :: rest) dus (instD rels) := hdu.mono fun p hp => .tail _ hp
  have hr9 : ∀ rel ∈ rels, rel.length ≤ 50 ∧ ∀ row ∈ rel, row.length ≤ 3 ∧ ∀ a ∈ row, 0 ≤ a ∧ a < (many : Int) := fun rel hrel => by
    have ⟨hgs, hgl, wd9, hw1, hw2, hw3⟩ := hgr _ hrel
    exact ⟨by omega, fun r hr => ⟨by have := (hw3 r hr).1; omega, (hw3 r hr).2⟩⟩
  have hrl9 := hrl.symm
  clear hU hl1 hl2 hdu
  k_steps
  exact hret _ _ (by assumption) (by assumption)
end

-- part X3
section
open PySem PySem.W PyProof.Rows PyProof.V PySem.Spec
set_option rowWalk.seconds 0
variable {w : World} {mean : ExcName → Option Value} {mg mb : Str → Option Value} {loose : List Str}
    {dp un : Nat} {gd : Option (List Code)} {cn : Str} {cs : Scope} {a : Addr} {ccd : Value} {cl : List (Str × Addr)} {outer : List Env} {A₀ : Around} {base h₀ : Heap} {L : Addr} {m : Str → Option Value} {news : List (Addr × Obj)} {s : Shared}
    {Q E : Value → Shared → Prop}
section
variable {prog : Program} {A : Around}
theorem strs_app : ∀ {xs : List Value} {ys : List Str} {xs' : List Value} {ys' : List Str}, StrsAre xs ys → StrsAre xs' ys' → StrsAre (xs ++ xs') (ys ++ ys')
  | _, _, _, _, .nil, h => h
  | _, _, _, _, .cons x t a, h => .cons x t (strs_app a h)
theorem strs_rev : ∀ {xs : List Value} {ys : List Str}, StrsAre xs ys → StrsAre xs.reverse ys.reverse
  | _, _, .nil => .nil
  | _, _, .cons x t a => by rw [List.reverse_cons, List.reverse_cons]; exact strs_app (strs_rev a) (.cons x t .nil)
theorem strs_drop : ∀ {xs : List Value} {ys : List Str} (n : Nat), StrsAre xs ys → StrsAre (xs.drop n) (ys.drop n)
  | _, _, 0, h => h
  | _, _, _ + 1, .nil => .nil
  | _, _, n + 1, .cons _ _ h => strs_drop n h
theorem rev_L {value slice : Expr} {l : Addr} {vs : List Value} {c : Nat} {t : Tok} {ops : List Value} (F : Fr h₀ L s.heap m) (N : News h₀ L s.heap news) (hl : (l, PySem.W.listOf vs.toArray c) ∈ news) (hz : vs.length ≤ 100)
    (h : ∀ D h', Fr h₀ L h' m → News h₀ L h' ((D, PySem.W.listOf vs.reverse.toArray 0) :: news) → (∀ p ∈ news, p.1 < D) → Q (.ref D) { s with heap := h' })
    (hs : subscripted slice false (.ref l) (.ref s.heap.objs.size) = operate ops (getItem (.ref l) (.ref s.heap.objs.size))) (ht : ∀ r, letTemporaryGo value (.ref l) r = pure ()) :
    wpAny (model prog w) A (subscriptTail value slice (.ref l) (.ref s.heap.objs.size)) Q E { s with heap := s.heap.push { cls := .type "slice", data := .fields #[.none, .none, .int (-1) t] } } :=
  krv_lit (its := vs.toArray) (zs := vs.reverse) F N (lst_at N hl) (IsPart.int _ _) rfl h hs ht (by rw [List.size_toArray, sizeLine_eq]; omega)
theorem upto_L {value slice : Expr} {l : Addr} {vs : List Value} {c k : Nat} {t : Tok} (F : Fr h₀ L s.heap m) (N : News h₀ L s.heap news) (hl : (l, PySem.W.listOf vs.toArray c) ∈ news) (hz : vs.length ≤ 100)
    (h : ∀ D h', Fr h₀ L h' m → News h₀ L h' ((D, PySem.W.listOf (vs.take k).toArray 0) :: news) → (∀ p ∈ news, p.1 < D) → Q (.ref D) { s with heap := h' })
    (hs : subscripted slice false (.ref l) (.ref s.heap.objs.size) = operate [.ref s.heap.objs.size, .ref l] (getItem (.ref l) (.ref s.heap.objs.size))) (ht : ∀ r, letTemporaryGo value (.ref l) r = pure ()) :
    wpAny (model prog w) A (subscriptTail value slice (.ref l) (.ref s.heap.objs.size)) Q E { s with heap := s.heap.push { cls := .type "slice", data := .fields #[.none, .int k t, .none] } } :=
  kms_slice_lit (its := vs.toArray) (zs := vs.take k) F N (lst_at N hl) IsPart.none (IsPart.int _ _) (by
    show (vs.drop 0).take (kms_hi (some (k : Int)) vs.length - 0) = vs.take k
    have h1 : kms_hi (some (k : Int)) vs.length = min k vs.length := by
      unfold kms_hi
      have : ¬ ((k : Int) < 0) := by omega
      simp only [this, if_false, Int.toNat_natCast]
    rw [List.drop_zero, Nat.sub_zero, h1]
    exact kmk_take_min _ _) h hs ht (by rw [List.size_toArray, sizeLine_eq]; omega)
theorem from_L {value slice : Expr} {l : Addr} {vs : List Value} {c k : Nat} {i : Int} {t : Tok} (F : Fr h₀ L s.heap m) (N : News h₀ L s.heap news) (hl : (l, PySem.W.listOf vs.toArray c) ∈ news) (hz : vs.length ≤ 100) (hi : i = (k : Int))
    (h : ∀ D h', Fr h₀ L h' m → News h₀ L h' ((D, PySem.W.listOf (vs.drop k).toArray 0) :: news) → (∀ p ∈ news, p.1 < D) → Q (.ref D) { s with heap := h' })
    (hs : subscripted slice false (.ref l) (.ref s.heap.objs.size) = operate [.ref s.heap.objs.size, .ref l] (getItem (.ref l) (.ref s.heap.objs.size))) (ht : ∀ r, letTemporaryGo value (.ref l) r = pure ()) :
    wpAny (model prog w) A (subscriptTail value slice (.ref l) (.ref s.heap.objs.size)) Q E { s with heap := s.heap.push { cls := .type "slice", data := .fields #[.int i t, .none, .none] } } := by
  subst hi
  exact kms_slice_lit (its := vs.toArray) (zs := vs.drop k) F N (lst_at N hl) (IsPart.int _ _) IsPart.none (by
    show (vs.drop (kms_lo (some (k : Int)) vs.length)).take (vs.length - kms_lo (some (k : Int)) vs.length) = vs.drop k
    have h1 : kms_lo (some (k : Int)) vs.length = min k vs.length := by
      unfold kms_lo
      have : ¬ ((k : Int) < 0) := by omega
      simp only [this, if_false, Int.toNat_natCast]
    rw [h1, kmk_drop_min, List.take_of_length_le (by rw [List.length_drop]; omega)]) h hs ht (by rw [List.size_toArray, sizeLine_eq]; omega)
theorem add_L {a b : Addr} {vs ws : List Value} {c c' : Nat} (F : Fr h₀ L s.heap m) (N : News h₀ L s.heap news) (ha : (a, PySem.W.listOf vs.toArray c) ∈ news) (hb : (b, PySem.W.listOf ws.toArray c') ∈ news) (hz : vs.length ≤ 100) (hz' : ws.length ≤ 100)
    (h : ∀ D h', Fr h₀ L h' m → News h₀ L h' ((D, PySem.W.listOf (vs ++ ws).toArray 0) :: news) → (∀ p ∈ news, p.1 < D) → Q (.ref D) { s with heap := h' }) : wpAny (model prog w) A (binaryOp .Add (.ref a) (.ref b)) Q E s :=
  kmk_add_lit (its := vs.toArray) (its2 := ws.toArray) (zs := vs ++ ws) F N (lst_at N ha) (lst_at N hb) (by simp) h (by simp only [Array.length_toList, List.size_toArray, sizeLine_eq]; omega)
theorem item_L {value slice : Expr} {l : Addr} {vs : List Value} {c k : Nat} {u : Tok} {v : Value} (N : News h₀ L s.heap news) (hl : (l, PySem.W.listOf vs.toArray c) ∈ news) (hx : vs[k]? = some v) (hk : k ≤ 1000) (h : Q v s)
    (hs : subscripted slice false (.ref l) (.int k u) = operate [.ref l, .int k u] (getItem (.ref l) (.int k u))) (hg : ∀ r, letTemporaryGo value (.ref l) r = pure ()) :
    wpAny (model prog w) A (subscriptTail value slice (.ref l) (.int k u)) Q E s :=
  item_listL (lst_at N hl) (by omega) (by omega) (by simpa using hx) h hs hg
theorem sum_L {l : Addr} {vs : List Value} {ns : List Int} {c : Nat} (hh : A.handled = none) (F : Fr h₀ L s.heap m) (N : News h₀ L s.heap news) (hl : (l, PySem.W.listOf vs.toArray c) ∈ news) (hi : IntsAre vs ns)
    (h : ∀ h' tk t', Fr h₀ L h' m → News h₀ L h' news → Q (.int ns.sum t') { s with heap := h', toks := tk }) : wpAny (model prog w) A (call (.builtin "sum") [.ref l]) Q E s :=
  sumK hh F N (lst_at N hl) hi h
end
end

-- part LF
section
open PySem PySem.W PyProof.Rows PyProof.V PySem.Spec
set_option rowWalk.seconds 0
variable {w : World} {mean : ExcName → Option Value} {mg mb : Str → Option Value} {loose : List Str}
    {dp un : Nat} {gd : Option (List Code)} {cn : Str} {cs : Scope} {a : Addr} {ccd : Value} {cl : List (Str × Addr)} {outer : List Env} {A₀ : Around} {base h₀ : Heap} {L : Addr} {m : Str → Option Value} {news : List (Addr × Obj)} {s : Shared}
    {Q E : Value → Shared → Prop}
theorem short100 {vs : List Value} {ys : List Str} (h : StrsAre vs ys) (h2 : ys.length ≤ 50) : vs.length ≤ 100 := by rw [h.length]; omega
theorem rows_LF_1 : True := by
  k_with_none
  (k_with "k_room" => first | exact room1 (by assumption) rfl | exact room2 (by assumption) rfl | exact room3 (by assumption) rfl | ktr_room)
  (k_with "k_units" => first | exact room1 (by assumption) rfl | exact room2 (by assumption) rfl | exact room3 (by assumption) rfl | ktr_units)
  (k_with "k_mem" => assumption)
  (k_with "k_mem" => exact Above.sub (by with_reducible assumption) _ (by assumption))
  (k_with "cell_enter" => refine code_defC (by k_asm) (by k_asm) (by k_asm) (by k_asm) (by k_asm) (by exact rfl) (by exact rfl) (by assumption) (by k_is) (by k_is) (by k_room) (by exact BindsTo.of_eq rfl) (by exact rfl) (by decide +kernel) ?_ (by exact rfl) (by exact rfl) (by exact rfl); k_whole; intro _ _ _ _ _ _ _ N'_w9 Y'_w9 B'_w9 _ _ l1_w9; (try k_lt l1_w9); k_cells Y'_w9; (try simp only [List.cons_append, List.nil_append] at N'_w9); (try dsimp only); (try k_lift B'_w9); (try k_fold))
  (k_with "k_all" => assumption)
  (k_with "execs cons" => k_here; (with_reducible show wpAny _ _ _ _ _ (Shared.mk _ _ _ (_ + _) _)); (refine gen_toks ?_); intro _)
  (k_with "execs nil" => k_here; (with_reducible show wpAny _ _ _ _ _ (Shared.mk _ _ _ (_ + _) _)); (refine gen_toks ?_); intro _)
  (k_with "eval Name" => k_here; k_dflt (refine nameX_L (by k_asm) (by first | assumption | exact rfl) ?_; k_whole))
  (k_with "k_mem" => first | assumption | exact List.Mem.head _ | exact List.Mem.tail _ (by assumption) | exact List.Mem.tail _ (List.Mem.tail _ (by assumption)) | exact List.Mem.tail _ (List.Mem.tail _ (List.Mem.tail _ (by assumption))) | ((repeat refine List.Mem.tail _ ?_); first | assumption | exact List.Mem.head _))
  (k_with "call ref" => k_here; (with_reducible show wpAny _ _ (call (Value.ref 220) _) _ _ _); k_dflt (refine draw_N (by k_asm) (by k_asm) (by k_asm) (by k_asm) (by k_asm) (by exact rfl) (by k_room) (by k_units) (by k_updF) (by assumption) (by k_mem) (by assumption) (by first | assumption | omega) (by omega) (by omega) (by omega) (by omega) ?_); intro _ _ _ _ _ _ _ _ _ _)
  (k_with "eval Name" => k_here; k_dflt (refine nameX_C (by k_asm) (by exact rfl) (by k_mem) (by assumption) ?_; k_whole))
  (k_with "storeName" => k_here; k_dflt (refine storeX_C (by k_asm) (by k_asm) (by exact rfl) (by k_updF) (by assumption) ?_); intro _ _ _ N'_w9 _; (try dsimp only at N'_w9))
  (k_with "subscriptTail Name Slice ref ref" => k_here; (with_reducible show wpAny _ _ (subscriptTail _ (PySem.Expr.Slice none (some _) none _) (Value.ref _) (Value.ref _)) _ _ _); k_dflt (refine slice_tupL (s := ⟨_, _, _, _, _⟩) (by k_asm) (by k_asm) (by exact top_tup (by k_asm) (by k_asm) (by k_is)) (by first | exact rfl | exact (Int.natCast_add 1 _).symm) (by (simp only [List.length_cons, List.length_nil]; omega)) (by decide) ?_ (by with_unfolding_all rfl) (by (intro _; with_unfolding_all rfl))); intro _ _ _ _ _)
  (k_with "call type:list" => k_here; (with_reducible show wpAny _ _ (call (Value.type _) [Value.ref _]) _ _ _); k_dflt (refine list_tupL (by k_asm) (by k_asm) (by assumption) (by (rw [List.length_take]; simp only [List.length_cons, List.length_nil]; omega)) ?_); intro _ _ _ _ _ l9_w9; (try k_lt l9_w9))
  (k_with "call ref" => k_here; (with_reducible show wpAny _ _ (call (Value.ref 207) _ _) _ _ _); k_dflt (refine universe_atoms (by k_asm) (by k_asm) (by k_asm) (by k_asm) (by k_asm) (by exact rfl) (by k_room) (by k_units) (by assumption) (by k_mem) ?_); intro _ _ _ _ _ _ _ _ _ _ _ _ _ _ _ _ _ _ _)
  (k_with "storeName" => k_here; k_dflt (refine storeX_L (by k_asm) (by k_asm) ?_ (by rfl) (by rfl)); intro _ _ _; (refine hold_in ?_))
  (k_with "eval ListComp" => k_dflt (refine listComp_zip (by k_asm) (by with_unfolding_all rfl) (by decide) (by rfl) (by decide) (by rfl) (by rfl) (by decide +kernel) ?_))
  (k_with "call type:zip" => (with_reducible show wpAny _ _ (call (Value.type _) [Value.ref _, Value.ref _]) (ZipSrc _ _ _ _ _ _ _ _ _ _ _ _ _) _ _); refine zip_src ?_)
  (k_with "call ref" => k_here; (with_reducible show wpAny _ _ (call (Value.ref 230) _) _ _ _); k_dflt (refine tuple_texts_tells (by k_asm) (by k_asm) (by k_asm) (by k_asm) (by k_asm) (by exact rfl) (by k_room) (by k_units) (by k_mem) (by assumption) (by assumption) (by assumption) ?_); intro _ _ _ _ _ _ _ l9_w9; (try k_lt l9_w9))
  (k_with "call ref" => k_here; (with_reducible show wpAny _ _ (call (Value.ref 237) _) _ _ _); k_dflt (refine law_row_tells (by k_asm) (by k_asm) (by k_asm) (by k_asm) (by k_asm) (by exact rfl) (by k_room) (by k_units) (by k_mem) (by assumption) (by assumption) (by assumption) (by assumption) ?_); intro _ _ _ _ _)
  (k_with "call ref" => k_here; (with_reducible show wpAny _ _ (call (Value.ref 112) _) _ _ _); k_dflt (refine instance_text_tells (by k_asm) (by k_asm) (by k_asm) (by k_asm) (by k_asm) (by exact rfl) (by k_room) (by k_units) (by assumption) (by assumption) (by assumption) (by assumption) (by assumption) (by assumption) (by assumption) (by assumption) (by assumption) (by assumption) ?_); intro _ _ _ _ _)
  (k_with "call ref" => k_here; (with_reducible show wpAny _ _ (call (Value.ref 244) _) _ _ _); k_dflt (refine is_read_tells (by k_asm) (by k_asm) (by k_asm) (by k_asm) (by k_asm) (by exact rfl) (by k_room) (by k_units) (by assumption) (by assumption) (by assumption) (by assumption) (by assumption) (by assumption) (by assumption) (by assumption) (by assumption) (by assumption) (by assumption) (by assumption) ?_); intro _ _ _ _)
  (k_with "subscriptTail Name Slice ref ref" => k_here; (with_reducible show wpAny _ _ (subscriptTail _ (PySem.Expr.Slice none none (some _) _) (Value.ref _) (Value.ref _)) _ _ _); k_dflt (refine rev_L (s := ⟨_, _, _, _, _⟩) (by k_asm) (by k_asm) (by k_mem) (by assumption) ?_ (by with_unfolding_all rfl) (by (intro _; with_unfolding_all rfl))); intro _ _ _ _ l9_w9; (try k_lt l9_w9); (rename StrsAre _ _ => sA'_w9); (have sB'_w9 := strs_rev sA'_w9))
  (k_with "call ref" => k_here; (with_reducible show wpAny _ _ (call (Value.ref 230) _) _ _ _); k_dflt (refine tuple_texts_tells (by k_asm) (by k_asm) (by k_asm) (by k_asm) (by k_asm) (by exact rfl) (by k_room) (by k_units) (by k_mem) (by assumption) (by assumption) (by assumption) ?_); intro _ _ _ _ S'_w9 _ _ l9_w9; (try k_lt l9_w9); (have hz9_w9 := short100 S'_w9 (by assumption)))
  trivial
theorem zip_rev (marks : List Str) (rels : List (List (List Int))) : (marks.zip rels).map (fun p => rowStr p.1 (p.2.map rowText).reverse) = (marks.zip (rels.map List.reverse)).map fun p => rowStr p.1 (p.2.map rowText) := by
  rw [List.zip_map_right, List.map_map]
  refine List.map_congr_left fun p _ => ?_
  show _ = rowStr p.1 ((p.2.reverse).map rowText)
  rw [List.map_reverse]
theorem law_f {c1 c2 fd u l1 ld : Addr} {k1 kd : Nat} {xs dus : List Value} {marks : List Str} {tt0 : Tok} {rels : List (List (List Int))} {sp : Int} {fo : Obj} {rest : List (Addr × Obj)} {many : Nat} {ns : List Int} {R : Flow → Shared → Prop}
    (B : Below A₀ base [] h₀) (F : Fr h₀ L s.heap m) (X : (Mine.hd.heap_1 w.params).In h₀) (N : News h₀ L s.heap ((fd, fo) :: rest)) (T : Top V loose mean mg mb h₀) (hcs : cs = lawScope)
    (hd : dp + 40 < recursionLimit) (hu : un + 1000 < cLine) (S : LawSt w c1 c2 ns fd fo rest sp many u) (hl1 : (l1, PySem.W.listOf xs.toArray k1) ∈ rest) (hx1 : StrsAre xs marks) (hm3 : marks.length ≤ 3) (hmk : ∀ x ∈ marks, x.length ≤ 10)
    (hl2 : (ld, PySem.W.listOf dus.toArray kd) ∈ rest) (hdu : DatAll rest dus (instD rels)) (hrl : rels.length = marks.length) (hgr : ∀ rel ∈ rels, GoodRel many rel)
    (hm : m "where" = some (.ref u)) (hm' : m "marks" = some (.ref l1)) (hm'' : m "due" = some (.ref ld)) (hm3' : m "text" = some (.str (wholeText marks rels) tt0))
    (hret : ∀ tt h' m' tk', Fr h₀ L h' m' → News h₀ L h' ((fd, fo) :: rest) → m' "where" = some (.ref u) → m' "marks" = some (.ref l1) → m' "due" = some (.ref ld) → m' "text" = some (.str (wholeText marks rels) tt0) → m' "turned_about" = some (.str (wholeText marks (rels.map List.reverse)) tt) →
      wpAny (model P w) (ktrTop dp un gd cn cs L a ccd [("many", c2), ("feed", c1)] []) (execs (lawBody.drop 8) (envX cn cs L a ccd [("many", c2), ("feed", c1)])) R E { s with heap := h', toks := tk' }) :
    wpAny (model P w) (ktrTop dp un gd cn cs L a ccd [("many", c2), ("feed", c1)] []) (execs (lawBody.drop 7) (envX cn cs L a ccd [("many", c2), ("feed", c1)])) R E s := by
  w_on
  obtain ⟨x, hx⟩ : ∃ x, x = lawBody.getD 7 (.Pass ⟨0, 0, 0, 0⟩) := ⟨_, rfl⟩
  obtain ⟨l3, hl3⟩ : ∃ l3, l3 = lawBody.drop (7 + 1) := ⟨_, rfl⟩
  rw [law_at 7 (by decide +kernel), ← hx, ← hl3]
  rw [← hl3] at hret
  conv at hx => rhs; whnf
  conv at hcs => rhs; whnf
  subst hx hcs
  have hxl : xs.length = marks.length := StrsAre.length hx1
  have hyl : dus.length = rels.length := by rw [DatAll.length hdu, instD, List.length_map]
  obtain ⟨dx, nt, nd, e1, e2, t1, t2, kk, k3, uxs, lc, cells, kc, o1, o2, t, tm, hne, hf, hc, hi, hc1, ho1, hc2, ho2, hm1, hm4, hU⟩ := S
  w_strict k_steps
  refine ⟨l1, ld, xs, dus, k1, kd, _, fun i => rowStr (marks.getD i Str.empty) (((rels.getD i []).map rowText).reverse), rfl, rfl, rfl, by assumption, by assumption, .tail _ hl1, .tail _ hl2, by rw [sizeLine_eq]; omega, ?_, ?_⟩
  · rintro s₂ ⟨g, rfl⟩ i x y I oI C oC D vs m₂ h tk nw E' hx hy IC hC ha hb
    obtain ⟨mk, t, rfl, hmk2⟩ := StrsAre.item hx1 i x hx
    obtain ⟨rel, hrel, hmem, hdv⟩ := datAll_at hdu hy
    obtain ⟨F1, N1, hsub, off, ne⟩ := IC
    have hg1 : marks.getD i Str.empty = mk := by rw [List.getD_eq_getElem?_getD, hmk2]; rfl
    have hg2 : rels.getD i [] = rel := by rw [List.getD_eq_getElem?_getD, hrel]; rfl
    dsimp only
    rw [hg1, hg2]
    unfold rowStr
    have ⟨hgs, hgl, wd9, hw1, hw2, hw3⟩ := hgr rel hmem
    have hml := hmk _ (List.mem_of_getElem? hmk2)
    cases hdv with
    | @tuple b us kb ds hmb hds =>
    have hds9 : DatAll ((I, oI) :: (C, oC) :: (D, LCg.lst vs) :: nw) us (rel.map rowD) := hds.mono fun p hp => .tail _ (.tail _ (.tail _ (hsub _ (.tail _ hp))))
    have hmb9 : (b, tupOf us kb) ∈ nw := hsub _ (.tail _ hmb)
    have hn5 : rel.length ≤ 50 := by omega
    have hr5 : ∀ r ∈ rel, r.length ≤ 3 ∧ ∀ a ∈ r, 0 ≤ a ∧ a < 4 := fun r hr => ⟨by have := (hw3 r hr).1; omega, fun a ha => by have := (hw3 r hr).2 a ha; omega⟩
    have hn6 : (rel.map rowText).length ≤ 50 := by rw [List.length_map]; omega
    have hy6 : ∀ y ∈ rel.map rowText, y.length ≤ 1000 := fun y hy => by
      obtain ⟨r, hr, rfl⟩ := List.mem_map.mp hy
      have := rowText_len r (hr5 r hr).1
      omega
    have hn7 : (rel.map rowText).reverse.length ≤ 50 := by rw [List.length_reverse]; exact hn6
    have hy7 : ∀ y ∈ (rel.map rowText).reverse, y.length ≤ 1000 := fun y hy => hy6 y (List.mem_reverse.mp hy)
    clear hdu hU N F
    k_steps
    · assumption
    · rename News h₀ L _ _ => kN
      exact fun p hp => kN p (.tail _ (.tail _ hp))
  · intro D h tk vs hvs F1 N1 off
    have hkey : (List.range (min xs.length dus.length)).map (fun i => rowStr (marks.getD i Str.empty) (((rels.getD i []).map rowText).reverse)) = (marks.zip (rels.map List.reverse)).map fun p => rowStr p.1 (p.2.map rowText) := by
      rw [hxl, hyl, ← zip_rev]
      exact zip_range marks rels _ _ (fun a b => rowStr a (b.map rowText).reverse)
    rw [hkey] at hvs
    k_steps
    refine join_at (lst_at (by assumption) (.head _)) hvs (by decide +kernel) ?_ ?_ ?_
    · simp only [List.length_map, List.length_zip]; omega
    · intro y hy
      obtain ⟨p, hp, rfl⟩ := List.mem_map.mp hy
      have h1 := List.of_mem_zip hp
      have h2 := hmk _ h1.1
      obtain ⟨rel, hrel, he⟩ := List.mem_map.mp h1.2
      have ⟨hgs, hgl', wd9, hw1, hw2, hw3'⟩ := hgr _ hrel
      have hgl : p.2.length ≤ 4 := by rw [← he, List.length_reverse]; exact hgl'
      have hw3 : ∀ r ∈ p.2, r.length = wd9 := fun r hr => (hw3' r (by rw [← he] at hr; exact List.mem_reverse.mp hr)).1
      have h4 := relText_len p.2 (fun r hr' => by have := hw3 r hr'; omega) (by omega)
      have h5 : ("={" : Str).length = 2 := by decide +kernel
      have h6 : ("}" : Str).length = 1 := by decide +kernel
      unfold relText at h4
      unfold rowStr
      rw [Str.length_append, Str.length_append, Str.length_append, h5, h6]
      omega
    intro t5 k5 hj5
    k_steps
    rename Fr h₀ L _ _ => kF
    rename News h₀ L _ _ => kN
    refine hold_out ?_
    exact hret _ _ _ _ kF (fun p hp => kN p (.tail _ hp)) hm hm' hm'' hm3' rfl
theorem law_g {c1 c2 fd u l1 ld : Addr} {k1 kd : Nat} {xs dus : List Value} {marks : List Str} {tt : Tok} {rels : List (List (List Int))} {sp : Int} {fo : Obj} {rest : List (Addr × Obj)} {many : Nat} {ns : List Int} {R : Flow → Shared → Prop}
    (B : Below A₀ base [] h₀) (F : Fr h₀ L s.heap m) (X : (Mine.hd.heap_1 w.params).In h₀) (N : News h₀ L s.heap ((fd, fo) :: rest)) (T : Top V loose mean mg mb h₀) (hcs : cs = lawScope)
    (hd : dp + 40 < recursionLimit) (hu : un + 1000 < cLine) (S : LawSt w c1 c2 ns fd fo rest sp many u) (hl1 : (l1, PySem.W.listOf xs.toArray k1) ∈ rest) (hx1 : StrsAre xs marks) (hm3 : marks.length ≤ 3) (hmk : ∀ x ∈ marks, x.length ≤ 10)
    (hl2 : (ld, PySem.W.listOf dus.toArray kd) ∈ rest) (hdu : DatAll rest dus (instD rels)) (hrl : rels.length = marks.length) (hgr : ∀ rel ∈ rels, GoodRel many rel)
    (hm : m "where" = some (.ref u)) (hm' : m "marks" = some (.ref l1)) (hm'' : m "due" = some (.ref ld)) (hm3' : m "turned_about" = some (.str (wholeText marks (rels.map List.reverse)) tt))
    (hO : ReadOut many marks (wholeText marks (rels.map List.reverse)) (.ok (rels.map List.reverse))) (htl : (wholeText marks (rels.map List.reverse)).length ≤ 5000) (hsame : ∀ rels', Sorts rels' (rels.map List.reverse) → rels' = rels)
    (hret : ∀ h' tk', Fr h₀ L h' m → News h₀ L h' ((fd, fo) :: rest) →
      wpAny (model P w) (ktrTop dp un gd cn cs L a ccd [("many", c2), ("feed", c1)] []) (execs (lawBody.drop 9) (envX cn cs L a ccd [("many", c2), ("feed", c1)])) R E { s with heap := h', toks := tk' }) :
    wpAny (model P w) (ktrTop dp un gd cn cs L a ccd [("many", c2), ("feed", c1)] []) (execs (lawBody.drop 8) (envX cn cs L a ccd [("many", c2), ("feed", c1)])) R E s := by
  w_on
  obtain ⟨x, hx⟩ : ∃ x, x = lawBody.getD 8 (.Pass ⟨0, 0, 0, 0⟩) := ⟨_, rfl⟩
  obtain ⟨l3, hl3⟩ : ∃ l3, l3 = lawBody.drop (8 + 1) := ⟨_, rfl⟩
  rw [law_at 8 (by decide +kernel), ← hx, ← hl3]
  rw [← hl3] at hret
  conv at hx => rhs; whnf
  conv at hcs => rhs; whnf
  subst hx hcs
  obtain ⟨dx, nt, nd, e1, e2, t1, t2, kk, k3, uxs, lc, cells, kc, o1, o2, t, tm, hne, hf, hc, hi, hc1, ho1, hc2, ho2, hm1, hm4, hU⟩ := S
  have hU9 : UnivAt ((fd, fo) :: rest) u dx nt nd e1 e2 t1 t2 kk k3 uxs many := hU.mono fun p hp => .tail _ hp
  have hl19 := List.Mem.tail (fd, fo) hl1
  have hl29 := List.Mem.tail (fd, fo) hl2
  have hdu9 : DatAll ((fd, fo) :: rest) dus (instD rels) := hdu.mono fun p hp => .tail _ hp
  have hr9 : ∀ rel ∈ rels, rel.length ≤ 50 ∧ ∀ row ∈ rel, row.length ≤ 3 ∧ ∀ a ∈ row, 0 ≤ a ∧ a < (many : Int) := fun rel hrel => by
    have ⟨hgs, hgl, wd9, hw1, hw2, hw3⟩ := hgr _ hrel
    exact ⟨by omega, fun r hr => ⟨by have := (hw3 r hr).1; omega, (hw3 r hr).2⟩⟩
  have hrl9 := hrl.symm
  clear hU hl1 hl2 hdu
  k_steps
  exact hret _ _ (by assumption) (by assumption)
end

-- part C8
section
open PySem PySem.W PyProof.Rows PyProof.V PySem.Spec
set_option rowWalk.seconds 0
variable {w : World} {mean : ExcName → Option Value} {mg mb : Str → Option Value} {loose : List Str}
    {dp un : Nat} {gd : Option (List Code)} {cn : Str} {cs : Scope} {a : Addr} {ccd : Value} {cl : List (Str × Addr)} {outer : List Env} {A₀ : Around} {base h₀ : Heap} {L : Addr} {m : Str → Option Value} {news : List (Addr × Obj)} {s : Shared}
    {Q E : Value → Shared → Prop}
section
variable {prog : Program} {w : World} {A : Around} {E : Value → Shared → Prop} {s : Shared} {h₀ : Heap} {L : Addr} {m : Str → Option Value} {env : Env}
/-- what the call of zip hands on -/
structure ZipTA (prog : Program) (w : World) (A : Around) (h₀ : Heap) (L : Addr) (m : Str → Option Value) (env : Env) (elt : Expr) (a b : Str) (scope : Scope) (cl : List (Str × Addr)) (y : Str) (Q : Flow → Shared → Prop) (fv : Value) (args : List Value) (s₁ : Shared) : Prop where
  out : ∃ l1 l2 xs ys k1 k2 news g, fv = .type "zip" ∧ args = [.ref l1, .ref l2] ∧ A.handled = none ∧ Fr h₀ L s₁.heap m ∧ News h₀ L s₁.heap news ∧ (l1, listOf (List.toArray xs) k1) ∈ news ∧ (l2, listOf (List.toArray ys) k2) ∈ news ∧ min xs.length ys.length ≤ sizeLine ∧
    (∀ s₂ : Shared, (∃ h, s₂ = { s₁ with heap := h }) → ∀ i x y I oI C oC D vs m₂ h tk nw (E' : Value → Shared → Prop), xs[i]? = some x → ys[i]? = some y → InComp h₀ L m news I oI C oC D vs nw h → LCg.NsObj oC m₂ → m₂ a = some x → m₂ b = some y →
      wpAny (model prog w) A (eval elt (compEnvC scope cl C env)) (fun y s₄ => ∃ h' tk' t, s₄ = { s₂ with heap := h', toks := tk' } ∧ y = .str (g i) t ∧ Fr h₀ L h' m ∧ News h₀ L h' ((I, oI) :: (C, oC) :: (D, LCg.lst vs) :: nw)) E' { s₂ with heap := h, toks := tk }) ∧
    ∀ D h tk vs, StrsAre vs ((List.range (min xs.length ys.length)).map g) → Fr h₀ L h (fun z => if z = y then some (.ref D) else m z) → News h₀ L h ((D, LCg.lst vs) :: news) → (∀ p ∈ news, p.1 ≠ D) → Q .next { s₁ with heap := h, toks := tk }

structure ZipSrcA (prog : Program) (w : World) (A : Around) (h₀ : Heap) (L : Addr) (m : Str → Option Value) (env : Env) (elt : Expr) (a b : Str) (scope : Scope) (cl : List (Str × Addr)) (y : Str) (Q : Flow → Shared → Prop) (xv : Value) (s₁ : Shared) : Prop where
  out : ∃ fv args s₀, ZipTA prog w A h₀ L m env elt a b scope cl y Q fv args s₀ ∧ ∃ zh, xv = .ref zh ∧ ∃ h', s₁ = { s₀ with heap := h' } ∧ ∃ l1 l2, args = [.ref l1, .ref l2] ∧ s₀.heap.objs.size + 4 = zh ∧ IsZip h' (s₀.heap.objs.size + 4) (s₀.heap.objs.size + 2) (s₀.heap.objs.size + 3) .none ∧ IsPair h' (s₀.heap.objs.size + 2) (.ref s₀.heap.objs.size) (.ref (s₀.heap.objs.size + 1)) ∧
      IsPair h' (s₀.heap.objs.size + 3) .none .none ∧ h'.IsListIter s₀.heap.objs.size l1 0 ∧ h'.IsListIter (s₀.heap.objs.size + 1) l2 0 ∧ h'.objs.size = s₀.heap.objs.size + 5 ∧ (∀ c o, s₀.heap.get? c = some o → h'.get? c = some o)

theorem zip_srcA {elt : Expr} {a b y : Str} {scope : Scope} {cl : List (Str × Addr)} {Q : Flow → Shared → Prop} {l1 l2 : Addr} (Z : ZipTA prog w A h₀ L m env elt a b scope cl y Q (.type "zip") [.ref l1, .ref l2] s) :
    wpAny (model prog w) A (call (.type "zip") [.ref l1, .ref l2]) (ZipSrcA prog w A h₀ L m env elt a b scope cl y Q) E s := by
  obtain ⟨l1', l2', xs, ys, k1, k2, news, g, _, ha, hh, F, N, hm1, hm2, _⟩ := Z.out
  cases ha
  refine call_zip_2 ⟨_, (N _ hm1).1, rfl, _, rfl⟩ ⟨_, (N _ hm2).1, rfl, _, rfl⟩ fun h' hz hTI hTO hi1 hi2 hsize hk => ?_
  exact ⟨_, _, s, Z, _, rfl, h', rfl, _, _, rfl, rfl, hz, hTI, hTO, hi1, hi2, hsize, hk⟩

theorem assign_zip {elt iter : Expr} {a b y : Str} {pa pb tp py : Pos} {kk : Nat} {scope : Scope} {cl : List (Str × Addr)} {pos spos : Pos} {Q : Flow → Shared → Prop} (_F₀ : Fr h₀ L s.heap m) (hLe : env.locals = L)
    (hsw : swapsWith (.ListComp elt [⟨.Tuple [.Name a pa, .Name b pb] kk tp, iter, [], 0⟩] scope pos) (some (.Name y py)) spos.line env = pure true)
    (hclos : closureFor scope env = pure cl) (hcell : ∀ y ∈ scope.names, y.2 ≠ .cell) (hkind : scope.kind = .function)
    (hnames : ∀ y ∈ scope.names, y.2 = .local → scope.names.lookup y.1 = some .local) (hxa : scope.names.lookup a = some .local) (hxb : scope.names.lookup b = some .local) (hab : ¬ a = b)
    (hy : env.kindOf y = some .local) (hp : (env.scope.kind == .class || (env.scope.kind == .module && env.locals != env.globals)) = false)
    (h : wpAny (model prog w) A (eval iter env) (ZipSrcA prog w A h₀ L m env elt a b scope cl y Q) E s)
    (hs : ∀ x, foldedSetIterable iter env x = pure x := by intro _; rfl) :
    wpAny (model prog w) A (exec (.Assign [.Name y py] (.ListComp elt [⟨.Tuple [.Name a pa, .Name b pb] kk tp, iter, [], 0⟩] scope pos) spos) env) Q E s := by
  subst hLe
  rw [exec_Assign_Name_used _ _ _ _ hsw]
  refine wpAny_bind (wpAny_standAt (wpAny_bind ?_))
  show wpAny _ A (do let _ ← comprehension (.ListComp elt [⟨.Tuple [.Name a pa, .Name b pb] kk tp, iter, [], 0⟩] scope pos) scope env _ (newList []) false (eval iter env) (some (assign (.Name y py) env))) _ _ s
  refine wpAny_bind (wpAny_mono (wpAny_comprehension_free (use := some (assign (.Name y py) env)) (Q := fun _ s' => Q .next s') rfl hs hclos hkind hnames
    (wpAny_mono h (fun xv s₁ h₁ => ?_) fun _ _ e => e)) (fun _ s' hq => wpAny_pure (wpAny_pure hq)) fun _ _ e => e)
  obtain ⟨fv, args, s₀, ⟨l1, l2, xs, ys, k1, k2, news, g, rfl, rfl, hh, F, N, hm1, hm2, hsz, hturn, hfin⟩, zh, rfl, h', rfl, l1', l2', ha, rfl, hz, hTI, hTO, hi1, hi2, hsize, hk⟩ := h₁.out
  cases ha
  have hl1 : s₀.heap.IsList l1 xs.toArray := ⟨_, (N _ hm1).1, rfl, _, rfl⟩
  have hl2 : s₀.heap.IsList l2 ys.toArray := ⟨_, (N _ hm2).1, rfl, _, rfl⟩
  have a1 : l1 < s₀.heap.objs.size := Heap.lt_size (N _ hm1).1
  have a2 : l2 < s₀.heap.objs.size := Heap.lt_size (N _ hm2).1
  have D := zipApart_new a1 a2
  have W := KTurns.ofWalksU (elts := [.Name a pa, .Name b pb]) (k := kk) (pos := tp) (WalksT.zip2 (prog := prog) (w := w) hh _ _ _ _ _ _ _ D xs.toArray ys.toArray).toU
  have hF : Fr h₀ env.locals h' m := F.keeps hk
  have hN : News h₀ env.locals h' news := N.grown hk
  have hLlt : env.locals < s₀.heap.objs.size := F.ns.lt
  have hnl : ∀ p ∈ news, p.1 < s₀.heap.objs.size := fun p hp => Heap.lt_size (N p hp).1
  have fresh₀ : ∀ c, s₀.heap.objs.size ≤ c → h₀.get? c = none := fun c ha => by
    cases e : h₀.get? c with
    | none => rfl
    | some o' => exact absurd (Heap.lt_size (F.keep c o' e)) (Nat.not_lt.mpr ha)
  have hsz' : min xs.toArray.size ys.toArray.size = min xs.length ys.length := by simp
  rw [hsz'] at W
  refine wpAny_pyIter_zip hz ?_
  refine comp_pairs (Pt := fun i x y => xs[i]? = some x ∧ ys[i]? = some y) (news := news) g hh
    { sub := W.sub, frame := W.frame, item := W.item, done := W.done,
      go := fun i v s Q E hm hQ => W.go i v s Q E hm fun h'' hP => hQ h'' (by obtain ⟨T, vals, e, ⟨x, y, hx, hy, rfl⟩, hT⟩ := hP; exact ⟨T, x, y, e, ⟨by simpa using hx, by simpa using hy⟩, hT⟩) }
    hsz (fun s Q E st hq => wpAny_pyIter_zip st.1 hq) (by simp) (fresh₀ _ (by first | exact Nat.le_add_right _ 4 | exact Nat.le_add_right _ 3 | exact Nat.le_refl _ | exact Nat.le_add_right _ 1)) (fun i h st => ⟨_, st.1⟩) ?_ ?_ ?_ ?_ ?_ ⟨hz, hTI, ⟨_, _, hTO⟩, hi1, hi2, hl1.at fun o e => hk _ o e, hl2.at fun o e => hk _ o e⟩ hcell hkind hxa hxb hab hF hN ?_ ?_
  · intro c hc
    show c < h'.objs.size
    rw [hsize]
    simp only [List.mem_cons, List.not_mem_nil, or_false] at hc
    rcases hc with rfl | rfl | rfl | rfl | rfl | rfl | rfl <;> first | exact Nat.add_lt_add_left (by decide) _ | (refine Nat.lt_of_lt_of_le ?_ (Nat.le_add_right _ 5); assumption) | exact Nat.lt_add_of_pos_right (by decide)
  · intro c hc
    simp only [List.mem_cons, List.not_mem_nil, or_false] at hc
    rcases hc with rfl | rfl | rfl | rfl <;> exact fresh₀ _ (by first | exact Nat.le_add_right _ 4 | exact Nat.le_add_right _ 3 | exact Nat.le_refl _ | exact Nat.le_add_right _ 1)
  · intro hc
    simp only [List.mem_cons, List.not_mem_nil, or_false] at hc
    have n1 := (N _ hm1).2.1
    have n2 := (N _ hm2).2.1
    rcases hc with e | e | e | e | e | e | e
    · exact absurd hLlt (by rw [e]; exact Nat.not_lt.mpr (Nat.le_add_right _ 4))
    · exact absurd hLlt (by rw [e]; exact Nat.not_lt.mpr (Nat.le_add_right _ 2))
    · exact absurd hLlt (by rw [e]; exact Nat.not_lt.mpr (Nat.le_add_right _ 3))
    · exact absurd hLlt (by rw [e]; exact Nat.lt_irrefl _)
    · exact absurd hLlt (by rw [e]; exact Nat.not_lt.mpr (Nat.le_add_right _ _))
    · exact n1 e.symm
    · exact n2 e.symm
  · intro p hp hc
    have := hnl p hp
    simp only [List.mem_cons, List.not_mem_nil, or_false] at hc
    rcases hc with e | e | e | e <;> (rw [e] at this; first | exact Nat.not_lt.mpr (Nat.le_add_right _ 4) this | exact Nat.not_lt.mpr (Nat.le_add_right _ 3) this | exact Nat.lt_irrefl _ this | exact Nat.not_lt.mpr (Nat.le_add_right _ 1) this)
  · intro p hp e
    have := hnl p hp
    rw [e] at this
    exact Nat.not_lt.mpr (Nat.le_add_right _ 4) this
  · intro i x y oI C oC D ys' m₂ h tk nw E' hi hxy IC hC ha hb
    exact hturn _ ⟨h', rfl⟩ i x y _ oI C oC D ys' m₂ h tk nw E' hxy.1 hxy.2 IC hC ha hb
  · intro D C h tk m' vs hvs F' N' off hn hC₀ hD₀ hCL hDL hCD offC
    show wpAny _ A (assign (.Name y py) env (.ref D)) _ _ _
    refine wpAny_assign_Name (wpAny_storeName_local hy F'.ns (fun h₂ hn₂ hs₂ => ?_) hp)
    have hL₀ : h₀.get? env.locals = none := Heap.get?_none_of_le F'.above
    have F₂ : Fr h₀ env.locals h₂ (fun z => if z = y then some (.ref D) else m z) := ⟨hn₂, fun b o e => hs₂.extBut b o (fun q => by rw [q, hL₀] at e; cases e) (F'.keep b o e), F'.above⟩
    refine ⟨m', hn.sameBut hs₂ hCL, fun h'' hs'' => hfin D h'' _ vs hvs (F₂.change hs'' hCL hC₀) (fun p hp => ?_) off⟩
    have z : h₂.get? p.1 = some p.2 := hs₂.extBut _ _ (N' p hp).2.1 (N' p hp).1
    refine ⟨hs''.extBut _ _ ?_ z, (N' p hp).2⟩
    rcases List.mem_cons.mp hp with rfl | hp
    · exact Ne.symm hCD
    · exact offC p hp
end
end

-- part BA
section
open PySem PySem.W PyProof.Rows PyProof.V PySem.Spec
set_option rowWalk.seconds 0
variable {w : World} {mean : ExcName → Option Value} {mg mb : Str → Option Value} {loose : List Str}
    {dp un : Nat} {gd : Option (List Code)} {cn : Str} {cs : Scope} {a : Addr} {ccd : Value} {cl : List (Str × Addr)} {outer : List Env} {A₀ : Around} {base h₀ : Heap} {L : Addr} {m : Str → Option Value} {news : List (Addr × Obj)} {s : Shared}
    {Q E : Value → Shared → Prop}
/-- the body and scope of _law_bent, read off the row -/
def bentBody : List Stmt := match PySem.Challenge.pw_nu0241_01.main.body.getD 23 (.Pass ⟨0, 0, 0, 0⟩) with
  | .FunctionDef _ _ b _ _ _ _ _ _ _ => b
  | _ => []
def bentScope : Scope := match PySem.Challenge.pw_nu0241_01.main.body.getD 23 (.Pass ⟨0, 0, 0, 0⟩) with
  | .FunctionDef _ _ _ _ _ _ sc _ _ _ => sc
  | _ => { kind := .function, names := [], isGenerator := false, isCoroutine := false }
theorem bent_at (n : Nat) (h : n < bentBody.length) : bentBody.drop n = bentBody.getD n (.Pass ⟨0, 0, 0, 0⟩) :: bentBody.drop (n + 1) := by
  rw [List.drop_eq_getElem_cons h, List.getD_eq_getElem?_getD, List.getElem?_eq_getElem h]
  rfl
def rowsOf (marks : List Str) (rels : List (List (List Int))) : List Str := (marks.zip rels).map fun p => rowStr p.1 (p.2.map rowText)
theorem rowsOf_len {marks : List Str} {rels : List (List (List Int))} (h : rels.length = marks.length) : (rowsOf marks rels).length = marks.length := by
  unfold rowsOf
  rw [List.length_map, List.length_zip, h, Nat.min_self]
theorem rows_BA_1 : True := by
  k_with_none
  (k_with "k_room" => first | exact room1 (by assumption) rfl | exact room2 (by assumption) rfl | exact room3 (by assumption) rfl | ktr_room)
  (k_with "k_units" => first | exact room1 (by assumption) rfl | exact room2 (by assumption) rfl | exact room3 (by assumption) rfl | ktr_units)
  (k_with "k_mem" => assumption)
  (k_with "k_mem" => exact Above.sub (by with_reducible assumption) _ (by assumption))
  (k_with "cell_enter" => refine code_defC (by k_asm) (by k_asm) (by k_asm) (by k_asm) (by k_asm) (by exact rfl) (by exact rfl) (by assumption) (by k_is) (by k_is) (by k_room) (by exact BindsTo.of_eq rfl) (by exact rfl) (by decide +kernel) ?_ (by exact rfl) (by exact rfl) (by exact rfl); k_whole; intro _ _ _ _ _ _ _ N'_w9 Y'_w9 B'_w9 _ _ l1_w9; (try k_lt l1_w9); k_cells Y'_w9; (try simp only [List.cons_append, List.nil_append] at N'_w9); (try dsimp only); (try k_lift B'_w9); (try k_fold))
  (k_with "k_all" => assumption)
  (k_with "execs cons" => k_here; (with_reducible show wpAny _ _ _ _ _ (Shared.mk _ _ _ (_ + _) _)); (refine gen_toks ?_); intro _)
  (k_with "execs nil" => k_here; (with_reducible show wpAny _ _ _ _ _ (Shared.mk _ _ _ (_ + _) _)); (refine gen_toks ?_); intro _)
  (k_with "eval Name" => k_here; k_dflt (refine nameX_L (by k_asm) (by first | assumption | exact rfl) ?_; k_whole))
  (k_with "k_mem" => first | assumption | exact List.Mem.head _ | exact List.Mem.tail _ (by assumption) | exact List.Mem.tail _ (List.Mem.tail _ (by assumption)) | exact List.Mem.tail _ (List.Mem.tail _ (List.Mem.tail _ (by assumption))) | ((repeat refine List.Mem.tail _ ?_); first | assumption | exact List.Mem.head _))
  (k_with "call ref" => k_here; (with_reducible show wpAny _ _ (call (Value.ref 220) _) _ _ _); k_dflt (refine draw_N (by k_asm) (by k_asm) (by k_asm) (by k_asm) (by k_asm) (by exact rfl) (by k_room) (by k_units) (by k_updF) (by assumption) (by k_mem) (by assumption) (by first | assumption | omega) (by omega) (by omega) (by omega) (by omega) ?_); intro _ _ _ _ _ _ _ _ _ _)
  (k_with "eval Name" => k_here; k_dflt (refine nameX_C (by k_asm) (by exact rfl) (by k_mem) (by assumption) ?_; k_whole))
  (k_with "storeName" => k_here; k_dflt (refine storeX_C (by k_asm) (by k_asm) (by exact rfl) (by k_updF) (by assumption) ?_); intro _ _ _ N'_w9 _; (try dsimp only at N'_w9))
  (k_with "subscriptTail Name Slice ref ref" => k_here; (with_reducible show wpAny _ _ (subscriptTail _ (PySem.Expr.Slice none (some _) none _) (Value.ref _) (Value.ref _)) _ _ _); k_dflt (refine slice_tupL (s := ⟨_, _, _, _, _⟩) (by k_asm) (by k_asm) (by exact top_tup (by k_asm) (by k_asm) (by k_is)) (by first | exact rfl | exact (Int.natCast_add 1 _).symm) (by (simp only [List.length_cons, List.length_nil]; omega)) (by decide) ?_ (by with_unfolding_all rfl) (by (intro _; with_unfolding_all rfl))); intro _ _ _ _ _)
  (k_with "call type:list" => k_here; (with_reducible show wpAny _ _ (call (Value.type _) [Value.ref _]) _ _ _); k_dflt (refine list_tupL (by k_asm) (by k_asm) (by assumption) (by (rw [List.length_take]; simp only [List.length_cons, List.length_nil]; omega)) ?_); intro _ _ _ _ _ l9_w9; (try k_lt l9_w9))
  (k_with "call ref" => k_here; (with_reducible show wpAny _ _ (call (Value.ref 207) _ _) _ _ _); k_dflt (refine universe_atoms (by k_asm) (by k_asm) (by k_asm) (by k_asm) (by k_asm) (by exact rfl) (by k_room) (by k_units) (by assumption) (by k_mem) ?_); intro _ _ _ _ _ _ _ _ _ _ _ _ _ _ _ _ _ _ _)
  (k_with "storeName" => k_here; k_dflt (refine storeX_L (by k_asm) (by k_asm) ?_ (by rfl) (by rfl)); intro _ _ _; (refine hold_in ?_))
  (k_with "exec Assign cons ListComp" => k_here; k_dflt (refine assign_zip (by k_asm) (by rfl) (by with_unfolding_all rfl) (by with_unfolding_all rfl) (by decide) (by rfl) (by decide) (by rfl) (by rfl) (by decide +kernel) (by rfl) (by rfl) ?_))
  (k_with "call type:zip" => (with_reducible show wpAny _ _ (call (Value.type _) [Value.ref _, Value.ref _]) (ZipSrcA _ _ _ _ _ _ _ _ _ _ _ _ _ _) _ _); refine zip_srcA ?_)
  (k_with "call ref" => k_here; (with_reducible show wpAny _ _ (call (Value.ref 230) _) _ _ _); k_dflt (refine tuple_texts_tells (by k_asm) (by k_asm) (by k_asm) (by k_asm) (by k_asm) (by exact rfl) (by k_room) (by k_units) (by k_mem) (by assumption) (by assumption) (by assumption) ?_); intro _ _ _ _ _ _ _ l9_w9; (try k_lt l9_w9))
  (k_with "call ref" => k_here; (with_reducible show wpAny _ _ (call (Value.ref 237) _) _ _ _); k_dflt (refine law_row_tells (by k_asm) (by k_asm) (by k_asm) (by k_asm) (by k_asm) (by exact rfl) (by k_room) (by k_units) (by k_mem) (by assumption) (by assumption) (by assumption) (by assumption) ?_); intro _ _ _ _ _)
  trivial
theorem bent_rows {l1 ld fd : Addr} {k1 kd : Nat} {xs dus : List Value} {marks : List Str} {rels : List (List (List Int))} {fo : Obj} {rest : List (Addr × Obj)} {many : Nat} {R : Flow → Shared → Prop}
    (B : Below A₀ base outer h₀) (F : Fr h₀ L s.heap m) (X : (Mine.hd.heap_1 w.params).In h₀) (N : News h₀ L s.heap ((fd, fo) :: rest)) (T : Top V loose mean mg mb h₀) (hcs : cs = bentScope)
    (hd : dp + 20 < recursionLimit) (hu : un + 500 < cLine) (hl1 : (l1, PySem.W.listOf xs.toArray k1) ∈ rest) (hx1 : StrsAre xs marks) (hm3 : marks.length ≤ 3) (hmk : ∀ x ∈ marks, x.length ≤ 10)
    (hl2 : (ld, PySem.W.listOf dus.toArray kd) ∈ rest) (hdu : DatAll rest dus (instD rels)) (hrl : rels.length = marks.length) (hm4 : many ≤ 4) (hgr : ∀ rel ∈ rels, GoodRel many rel)
    (hm : m "feed" = some (.ref fd)) (hm' : m "marks" = some (.ref l1)) (hm'' : m "due" = some (.ref ld))
    (hret : ∀ D vs h' m' tk', Fr h₀ L h' m' → News h₀ L h' ((D, LCg.lst vs) :: (fd, fo) :: rest) → StrsAre vs (rowsOf marks rels) → (∀ p ∈ (fd, fo) :: rest, p.1 ≠ D) → m' "feed" = some (.ref fd) → m' "marks" = some (.ref l1) → m' "due" = some (.ref ld) → m' "rows" = some (.ref D) →
      wpAny (model P w) (ktrTop dp un gd cn cs L a ccd [] outer) (execs (bentBody.drop 1) (envX cn cs L a ccd [])) R E { s with heap := h', toks := tk' }) :
    wpAny (model P w) (ktrTop dp un gd cn cs L a ccd [] outer) (execs (bentBody.drop 0) (envX cn cs L a ccd [])) R E s := by
  w_on
  obtain ⟨x, hx⟩ : ∃ x, x = bentBody.getD 0 (.Pass ⟨0, 0, 0, 0⟩) := ⟨_, rfl⟩
  obtain ⟨l3, hl3⟩ : ∃ l3, l3 = bentBody.drop (0 + 1) := ⟨_, rfl⟩
  rw [bent_at 0 (by decide +kernel), ← hx, ← hl3]
  rw [← hl3] at hret
  conv at hx => rhs; whnf
  conv at hcs => rhs; whnf
  subst hx hcs
  have hxl : xs.length = marks.length := StrsAre.length hx1
  have hyl : dus.length = rels.length := by rw [DatAll.length hdu, instD, List.length_map]
  w_strict k_steps
  refine ⟨l1, ld, xs, dus, k1, kd, _, fun i => rowStr (marks.getD i Str.empty) ((rels.getD i []).map rowText), rfl, rfl, rfl, by assumption, by assumption, .tail _ hl1, .tail _ hl2, by rw [sizeLine_eq]; omega, ?_, ?_⟩
  · rintro s₂ ⟨g, rfl⟩ i x y I oI C oC D vs m₂ h tk nw E' hx hy IC hC ha hb
    obtain ⟨mk, t, rfl, hmk2⟩ := StrsAre.item hx1 i x hx
    obtain ⟨rel, hrel, hmem, hdv⟩ := datAll_at hdu hy
    obtain ⟨F1, N1, hsub, off, ne⟩ := IC
    have hg1 : marks.getD i Str.empty = mk := by rw [List.getD_eq_getElem?_getD, hmk2]; rfl
    have hg2 : rels.getD i [] = rel := by rw [List.getD_eq_getElem?_getD, hrel]; rfl
    dsimp only
    rw [hg1, hg2]
    unfold rowStr
    have ⟨hgs, hgl, wd9, hw1, hw2, hw3⟩ := hgr rel hmem
    have hml := hmk _ (List.mem_of_getElem? hmk2)
    cases hdv with
    | @tuple b us kb ds hmb hds =>
    have hds9 : DatAll ((I, oI) :: (C, oC) :: (D, LCg.lst vs) :: nw) us (rel.map rowD) := hds.mono fun p hp => .tail _ (.tail _ (.tail _ (hsub _ (.tail _ hp))))
    have hmb9 : (b, tupOf us kb) ∈ nw := hsub _ (.tail _ hmb)
    have hn5 : rel.length ≤ 50 := by omega
    have hr5 : ∀ r ∈ rel, r.length ≤ 3 ∧ ∀ a ∈ r, 0 ≤ a ∧ a < 4 := fun r hr => ⟨by have := (hw3 r hr).1; omega, fun a ha => by have := (hw3 r hr).2 a ha; omega⟩
    have hn6 : (rel.map rowText).length ≤ 50 := by rw [List.length_map]; omega
    have hy6 : ∀ y ∈ rel.map rowText, y.length ≤ 1000 := fun y hy => by
      obtain ⟨r, hr, rfl⟩ := List.mem_map.mp hy
      have := rowText_len r (hr5 r hr).1
      omega
    clear hdu N F
    k_steps
    · assumption
    · rename News h₀ L _ _ => kN
      exact fun p hp => kN p (.tail _ hp)
  · intro D h tk vs hvs F1 N1 off
    have hkey : (List.range (min xs.length dus.length)).map (fun i => rowStr (marks.getD i Str.empty) ((rels.getD i []).map rowText)) = rowsOf marks rels := by
      rw [hxl, hyl]
      exact zip_range marks rels _ _ (fun a b => rowStr a (b.map rowText))
    rw [hkey] at hvs
    exact hret _ _ _ _ _ F1 N1 hvs off hm hm' hm'' rfl
end

-- part BB
section
open PySem PySem.W PyProof.Rows PyProof.V PySem.Spec
set_option rowWalk.seconds 0
variable {w : World} {mean : ExcName → Option Value} {mg mb : Str → Option Value} {loose : List Str}
    {dp un : Nat} {gd : Option (List Code)} {cn : Str} {cs : Scope} {a : Addr} {ccd : Value} {cl : List (Str × Addr)} {outer : List Env} {A₀ : Around} {base h₀ : Heap} {L : Addr} {m : Str → Option Value} {news : List (Addr × Obj)} {s : Shared}
    {Q E : Value → Shared → Prop}
theorem rows_BB_1 : True := by
  k_with_none
  (k_with "k_room" => first | exact room1 (by assumption) rfl | exact room2 (by assumption) rfl | exact room3 (by assumption) rfl | ktr_room)
  (k_with "k_units" => first | exact room1 (by assumption) rfl | exact room2 (by assumption) rfl | exact room3 (by assumption) rfl | ktr_units)
  (k_with "k_mem" => assumption)
  (k_with "k_mem" => exact Above.sub (by with_reducible assumption) _ (by assumption))
  (k_with "cell_enter" => refine code_defC (by k_asm) (by k_asm) (by k_asm) (by k_asm) (by k_asm) (by exact rfl) (by exact rfl) (by assumption) (by k_is) (by k_is) (by k_room) (by exact BindsTo.of_eq rfl) (by exact rfl) (by decide +kernel) ?_ (by exact rfl) (by exact rfl) (by exact rfl); k_whole; intro _ _ _ _ _ _ _ N'_w9 Y'_w9 B'_w9 _ _ l1_w9; (try k_lt l1_w9); k_cells Y'_w9; (try simp only [List.cons_append, List.nil_append] at N'_w9); (try dsimp only); (try k_lift B'_w9); (try k_fold))
  (k_with "k_all" => assumption)
  (k_with "execs cons" => k_here; (with_reducible show wpAny _ _ _ _ _ (Shared.mk _ _ _ (_ + _) _)); (refine gen_toks ?_); intro _)
  (k_with "execs nil" => k_here; (with_reducible show wpAny _ _ _ _ _ (Shared.mk _ _ _ (_ + _) _)); (refine gen_toks ?_); intro _)
  (k_with "eval Name" => k_here; k_dflt (refine nameX_L (by k_asm) (by first | assumption | exact rfl) ?_; k_whole))
  (k_with "k_mem" => first | assumption | exact List.Mem.head _ | exact List.Mem.tail _ (by assumption) | exact List.Mem.tail _ (List.Mem.tail _ (by assumption)) | exact List.Mem.tail _ (List.Mem.tail _ (List.Mem.tail _ (by assumption))) | ((repeat refine List.Mem.tail _ ?_); first | assumption | exact List.Mem.head _))
  (k_with "call ref" => k_here; (with_reducible show wpAny _ _ (call (Value.ref 220) _) _ _ _); k_dflt (refine draw_N (by k_asm) (by k_asm) (by k_asm) (by k_asm) (by k_asm) (by exact rfl) (by k_room) (by k_units) (by k_updF) (by assumption) (by k_mem) (by assumption) (by first | assumption | omega) (by omega) (by omega) (by omega) (by omega) ?_); intro _ _ _ _ _ _ _ _ _ _)
  (k_with "eval Name" => k_here; k_dflt (refine nameX_C (by k_asm) (by exact rfl) (by k_mem) (by assumption) ?_; k_whole))
  (k_with "storeName" => k_here; k_dflt (refine storeX_C (by k_asm) (by k_asm) (by exact rfl) (by k_updF) (by assumption) ?_); intro _ _ _ N'_w9 _; (try dsimp only at N'_w9))
  (k_with "subscriptTail Name Slice ref ref" => k_here; (with_reducible show wpAny _ _ (subscriptTail _ (PySem.Expr.Slice none (some _) none _) (Value.ref _) (Value.ref _)) _ _ _); k_dflt (refine slice_tupL (s := ⟨_, _, _, _, _⟩) (by k_asm) (by k_asm) (by exact top_tup (by k_asm) (by k_asm) (by k_is)) (by first | exact rfl | exact (Int.natCast_add 1 _).symm) (by (simp only [List.length_cons, List.length_nil]; omega)) (by decide) ?_ (by with_unfolding_all rfl) (by (intro _; with_unfolding_all rfl))); intro _ _ _ _ _)
  (k_with "call type:list" => k_here; (with_reducible show wpAny _ _ (call (Value.type _) [Value.ref _]) _ _ _); k_dflt (refine list_tupL (by k_asm) (by k_asm) (by assumption) (by (rw [List.length_take]; simp only [List.length_cons, List.length_nil]; omega)) ?_); intro _ _ _ _ _ l9_w9; (try k_lt l9_w9))
  (k_with "call ref" => k_here; (with_reducible show wpAny _ _ (call (Value.ref 207) _ _) _ _ _); k_dflt (refine universe_atoms (by k_asm) (by k_asm) (by k_asm) (by k_asm) (by k_asm) (by exact rfl) (by k_room) (by k_units) (by assumption) (by k_mem) ?_); intro _ _ _ _ _ _ _ _ _ _ _ _ _ _ _ _ _ _ _)
  (k_with "storeName" => k_here; k_dflt (refine storeX_L (by k_asm) (by k_asm) ?_ (by rfl) (by rfl)); intro _ _ _; (refine hold_in ?_))
  (k_with "call builtin:len" => k_here; (with_reducible show wpAny _ _ (call (Value.builtin "len") [Value.ref _]) _ _ _); k_dflt (first | (refine len_L (by k_asm) (by k_mem) (by assumption) (by omega) ?_) | (refine len_T (by k_asm) (by k_mem) (by assumption) (by omega) ?_)); intro _ _)
  trivial
theorem bent_none {lr : Addr} {fd : Addr} {kr : Nat} {vs : List Value} {marks : List Str} {rels : List (List (List Int))} {fo : Obj} {rest : List (Addr × Obj)} {R : Flow → Shared → Prop} 
    (B : Below A₀ base outer h₀) (F : Fr h₀ L s.heap m) (X : (Mine.hd.heap_1 w.params).In h₀) (N : News h₀ L s.heap ((fd, fo) :: rest)) (T : Top V loose mean mg mb h₀) (hcs : cs = bentScope)
    (hd : dp + 20 < recursionLimit) (hu : un + 500 < cLine)
    (hlr : (lr, PySem.W.listOf vs.toArray kr) ∈ rest) (hvs : StrsAre vs (rowsOf marks rels)) (hrl : rels.length = marks.length) (hm3 : marks.length ≤ 3) (hmr : m "rows" = some (.ref lr)) (h0 : marks.length = 0)
    (hret : ∀ t k ts ti h' tk', Fr h₀ L h' m → News h₀ L h' ((t, tupOf [.str "A={}" ts, .int (-1) ti] k) :: (fd, fo) :: rest) → R (.ret (.ref t)) { s with heap := h', toks := tk' }) :
    wpAny (model P w) (ktrTop dp un gd cn cs L a ccd [] outer) (execs (bentBody.drop 1) (envX cn cs L a ccd [])) R E s := by
  w_on
  obtain ⟨x, hx⟩ : ∃ x, x = bentBody.getD 1 (.Pass ⟨0, 0, 0, 0⟩) := ⟨_, rfl⟩
  obtain ⟨l3, hl3⟩ : ∃ l3, l3 = bentBody.drop (1 + 1) := ⟨_, rfl⟩
  rw [bent_at 1 (by decide +kernel), ← hx, ← hl3]
  skip
  conv at hx => rhs; whnf
  conv at hcs => rhs; whnf
  subst hx hcs
  have hvl : vs.length = marks.length := by rw [hvs.length, rowsOf_len hrl]
  w_strict k_steps
  exact hret _ _ _ _ _ _ (by assumption) (by assumption)
theorem bent_some {lr : Addr} {fd : Addr} {kr : Nat} {vs : List Value} {marks : List Str} {rels : List (List (List Int))} {fo : Obj} {rest : List (Addr × Obj)} {R : Flow → Shared → Prop} 
    (B : Below A₀ base outer h₀) (F : Fr h₀ L s.heap m) (X : (Mine.hd.heap_1 w.params).In h₀) (N : News h₀ L s.heap ((fd, fo) :: rest)) (T : Top V loose mean mg mb h₀) (hcs : cs = bentScope)
    (hd : dp + 20 < recursionLimit) (hu : un + 500 < cLine)
    (hlr : (lr, PySem.W.listOf vs.toArray kr) ∈ rest) (hvs : StrsAre vs (rowsOf marks rels)) (hrl : rels.length = marks.length) (hm3 : marks.length ≤ 3) (hmr : m "rows" = some (.ref lr)) (h0 : 1 ≤ marks.length)
    (hret : ∀ h' tk', Fr h₀ L h' m → News h₀ L h' ((fd, fo) :: rest) →
      wpAny (model P w) (ktrTop dp un gd cn cs L a ccd [] outer) (execs (bentBody.drop 2) (envX cn cs L a ccd [])) R E { s with heap := h', toks := tk' }) :
    wpAny (model P w) (ktrTop dp un gd cn cs L a ccd [] outer) (execs (bentBody.drop 1) (envX cn cs L a ccd [])) R E s := by
  w_on
  obtain ⟨x, hx⟩ : ∃ x, x = bentBody.getD 1 (.Pass ⟨0, 0, 0, 0⟩) := ⟨_, rfl⟩
  obtain ⟨l3, hl3⟩ : ∃ l3, l3 = bentBody.drop (1 + 1) := ⟨_, rfl⟩
  rw [bent_at 1 (by decide +kernel), ← hx, ← hl3]
  rw [← hl3] at hret
  conv at hx => rhs; whnf
  conv at hcs => rhs; whnf
  subst hx hcs
  have hvl : vs.length = marks.length := by rw [hvs.length, rowsOf_len hrl]
  w_strict k_steps
  exact hret _ _ F N
theorem bent_draw {lr : Addr} {fd : Addr} {kr : Nat} {vs : List Value} {marks : List Str} {rels : List (List (List Int))} {fo : Obj} {rest : List (Addr × Obj)} {R : Flow → Shared → Prop} {lc : Addr} {sp : Int} {t : Tok} {cells : List Value} {ns : List Int} {kc : Nat}
    (B : Below A₀ base outer h₀) (F : Fr h₀ L s.heap m) (X : (Mine.hd.heap_1 w.params).In h₀) (N : News h₀ L s.heap ((fd, fo) :: rest)) (T : Top V loose mean mg mb h₀) (hcs : cs = bentScope)
    (hd : dp + 20 < recursionLimit) (hu : un + 500 < cLine)
    (hlr : (lr, PySem.W.listOf vs.toArray kr) ∈ rest) (hvs : StrsAre vs (rowsOf marks rels)) (hrl : rels.length = marks.length) (hm3 : marks.length ≤ 3) (hmr : m "rows" = some (.ref lr)) (h0 : 1 ≤ marks.length) (hne : ∀ p ∈ rest, p.1 ≠ fd) (hf : fo.IsDictOf (PySem.strKind P w) (feedOf lc sp t)) (hc : (lc, PySem.W.listOf cells.toArray kc) ∈ rest) (hi : IntsAre cells ns) (hl : ns.length ≤ 40) (hs0 : 0 ≤ sp) (hs1 : sp ≤ 200) (hmf : m "feed" = some (.ref fd))
    (hret : ∀ (k way : Nat) tk tw fo t h' m' tk', Fr h₀ L h' m' → News h₀ L h' ((fd, fo) :: rest) → fo.IsDictOf (PySem.strKind P w) (feedOf lc (sp + 2) t) → k < marks.length → way < 6 → (∀ y : Str, y ≠ "k" → y ≠ "way" → m' y = m y) → m' "k" = some (.int k tk) → m' "way" = some (.int way tw) →
      wpAny (model P w) (ktrTop dp un gd cn cs L a ccd [] outer) (execs (bentBody.drop 3) (envX cn cs L a ccd [])) R E { s with heap := h', toks := tk' }) :
    wpAny (model P w) (ktrTop dp un gd cn cs L a ccd [] outer) (execs (bentBody.drop 2) (envX cn cs L a ccd [])) R E s := by
  w_on
  obtain ⟨x, hx⟩ : ∃ x, x = bentBody.getD 2 (.Pass ⟨0, 0, 0, 0⟩) := ⟨_, rfl⟩
  obtain ⟨l3, hl3⟩ : ∃ l3, l3 = bentBody.drop (2 + 1) := ⟨_, rfl⟩
  rw [bent_at 2 (by decide +kernel), ← hx, ← hl3]
  rw [← hl3] at hret
  conv at hx => rhs; whnf
  conv at hcs => rhs; whnf
  subst hx hcs
  have hvl : vs.length = marks.length := by rw [hvs.length, rowsOf_len hrl]
  have hUF : UpdF fd fo ((fd, fo) :: rest) (fun o' => (fd, o') :: rest) := .head hne
  w_strict k_steps
  refine hold_out ?_
  k_steps
  refine hold_out ?_
  k_steps
  rename Fr h₀ L _ _ => kF
  rename News h₀ L _ _ => kN
  rename Obj.IsDictOf _ _ (feedOf lc (sp + 1 + 1) _) => hfd
  refine hret _ _ _ _ _ _ _ _ _ kF (fun p hp => kN p (.tail _ hp)) (by rw [Int.add_assoc] at hfd; exact hfd) (by omega) (by omega) (fun y h1 h2 => ?_) rfl rfl
  exact (if_neg h1).trans (if_neg h2)
end

-- part BC
section
open PySem PySem.W PyProof.Rows PyProof.V PySem.Spec
set_option rowWalk.seconds 0
variable {w : World} {mean : ExcName → Option Value} {mg mb : Str → Option Value} {loose : List Str}
    {dp un : Nat} {gd : Option (List Code)} {cn : Str} {cs : Scope} {a : Addr} {ccd : Value} {cl : List (Str × Addr)} {outer : List Env} {A₀ : Around} {base h₀ : Heap} {L : Addr} {m : Str → Option Value} {news : List (Addr × Obj)} {s : Shared}
    {Q E : Value → Shared → Prop}
theorem rows_BC_1 : True := by
  k_with_none
  (k_with "k_room" => first | exact room1 (by assumption) rfl | exact room2 (by assumption) rfl | exact room3 (by assumption) rfl | ktr_room)
  (k_with "k_units" => first | exact room1 (by assumption) rfl | exact room2 (by assumption) rfl | exact room3 (by assumption) rfl | ktr_units)
  (k_with "k_mem" => assumption)
  (k_with "k_mem" => exact Above.sub (by with_reducible assumption) _ (by assumption))
  (k_with "cell_enter" => refine code_defC (by k_asm) (by k_asm) (by k_asm) (by k_asm) (by k_asm) (by exact rfl) (by exact rfl) (by assumption) (by k_is) (by k_is) (by k_room) (by exact BindsTo.of_eq rfl) (by exact rfl) (by decide +kernel) ?_ (by exact rfl) (by exact rfl) (by exact rfl); k_whole; intro _ _ _ _ _ _ _ N'_w9 Y'_w9 B'_w9 _ _ l1_w9; (try k_lt l1_w9); k_cells Y'_w9; (try simp only [List.cons_append, List.nil_append] at N'_w9); (try dsimp only); (try k_lift B'_w9); (try k_fold))
  (k_with "k_all" => assumption)
  (k_with "execs cons" => k_here; (with_reducible show wpAny _ _ _ _ _ (Shared.mk _ _ _ (_ + _) _)); (refine gen_toks ?_); intro _)
  (k_with "execs nil" => k_here; (with_reducible show wpAny _ _ _ _ _ (Shared.mk _ _ _ (_ + _) _)); (refine gen_toks ?_); intro _)
  (k_with "eval Name" => k_here; k_dflt (refine nameX_L (by k_asm) (by first | assumption | exact rfl) ?_; k_whole))
  (k_with "k_mem" => first | assumption | exact List.Mem.head _ | exact List.Mem.tail _ (by assumption) | exact List.Mem.tail _ (List.Mem.tail _ (by assumption)) | exact List.Mem.tail _ (List.Mem.tail _ (List.Mem.tail _ (by assumption))) | ((repeat refine List.Mem.tail _ ?_); first | assumption | exact List.Mem.head _))
  (k_with "call ref" => k_here; (with_reducible show wpAny _ _ (call (Value.ref 220) _) _ _ _); k_dflt (refine draw_N (by k_asm) (by k_asm) (by k_asm) (by k_asm) (by k_asm) (by exact rfl) (by k_room) (by k_units) (by k_updF) (by assumption) (by k_mem) (by assumption) (by first | assumption | omega) (by omega) (by omega) (by omega) (by omega) ?_); intro _ _ _ _ _ _ _ _ _ _)
  (k_with "eval Name" => k_here; k_dflt (refine nameX_C (by k_asm) (by exact rfl) (by k_mem) (by assumption) ?_; k_whole))
  (k_with "storeName" => k_here; k_dflt (refine storeX_C (by k_asm) (by k_asm) (by exact rfl) (by k_updF) (by assumption) ?_); intro _ _ _ N'_w9 _; (try dsimp only at N'_w9))
  (k_with "subscriptTail Name Slice ref ref" => k_here; (with_reducible show wpAny _ _ (subscriptTail _ (PySem.Expr.Slice none (some _) none _) (Value.ref _) (Value.ref _)) _ _ _); k_dflt (refine slice_tupL (s := ⟨_, _, _, _, _⟩) (by k_asm) (by k_asm) (by exact top_tup (by k_asm) (by k_asm) (by k_is)) (by first | exact rfl | exact (Int.natCast_add 1 _).symm) (by (simp only [List.length_cons, List.length_nil]; omega)) (by decide) ?_ (by with_unfolding_all rfl) (by (intro _; with_unfolding_all rfl))); intro _ _ _ _ _)
  (k_with "call type:list" => k_here; (with_reducible show wpAny _ _ (call (Value.type _) [Value.ref _]) _ _ _); k_dflt (refine list_tupL (by k_asm) (by k_asm) (by assumption) (by (rw [List.length_take]; simp only [List.length_cons, List.length_nil]; omega)) ?_); intro _ _ _ _ _ l9_w9; (try k_lt l9_w9))
  (k_with "call ref" => k_here; (with_reducible show wpAny _ _ (call (Value.ref 207) _ _) _ _ _); k_dflt (refine universe_atoms (by k_asm) (by k_asm) (by k_asm) (by k_asm) (by k_asm) (by exact rfl) (by k_room) (by k_units) (by assumption) (by k_mem) ?_); intro _ _ _ _ _ _ _ _ _ _ _ _ _ _ _ _ _ _ _)
  (k_with "storeName" => k_here; k_dflt (refine storeX_L (by k_asm) (by k_asm) ?_ (by rfl) (by rfl)); intro _ _ _; (refine hold_in ?_))
  (k_with "subscriptTail Name Slice ref ref" => k_here; (with_reducible show wpAny _ _ (subscriptTail _ (PySem.Expr.Slice none (some _) none _) (Value.ref _) (Value.ref _)) _ _ _); k_dflt (refine upto_L (s := ⟨_, _, _, _, _⟩) (by k_asm) (by k_asm) (by k_mem) (by assumption) ?_ (by with_unfolding_all rfl) (by (intro _; with_unfolding_all rfl))); intro _ _ _ _ l9_w9; (try k_lt l9_w9))
  (k_with "subscriptTail Name Slice ref ref" => k_here; (with_reducible show wpAny _ _ (subscriptTail _ (PySem.Expr.Slice (some _) none none _) (Value.ref _) (Value.ref _)) _ _ _); k_dflt (refine from_L (s := ⟨_, _, _, _, _⟩) (by k_asm) (by k_asm) (by k_mem) (by assumption) (by exact (Int.natCast_add _ 1).symm) ?_ (by with_unfolding_all rfl) (by (intro _; with_unfolding_all rfl))); intro _ _ _ _ l9_w9; (try k_lt l9_w9))
  (k_with "subscriptTail Name Name ref int" => k_here; k_dflt (refine item_L (by k_asm) (by k_mem) (by assumption) (by omega) ?_ (by with_unfolding_all rfl) (by (intro _; with_unfolding_all rfl))))
  (k_with "eval ListComp" => k_dflt (refine listComp_W (by k_asm) (by with_unfolding_all rfl) (by decide) (by rfl) (by decide) (by rfl) ?_))
  (k_with "call builtin:sum" => k_here; (with_reducible show wpAny _ _ (call (Value.builtin "sum") [Value.ref _]) _ _ _); k_dflt (refine sum_L (by exact rfl) (by k_asm) (by k_asm) (by k_mem) (by assumption) ?_); intro _ _ _ _ _)
  (k_with "call builtin:len" => k_here; (with_reducible show wpAny _ _ (call (Value.builtin "len") [Value.str _ _]) _ _ _); k_dflt (refine len_str (by omega) ?_))
  (k_with "call ref" => k_here; (with_reducible show wpAny _ _ (call (Value.ref 230) _) _ _ _); k_dflt (refine tuple_texts_tells (by k_asm) (by k_asm) (by k_asm) (by k_asm) (by k_asm) (by exact rfl) (by k_room) (by k_units) (by k_mem) (by assumption) (by assumption) (by assumption) ?_); intro _ _ _ _ _ _ _ l9_w9; (try k_lt l9_w9))
  (k_with "call ref" => k_here; (with_reducible show wpAny _ _ (call (Value.ref 237) _) _ _ _); k_dflt (refine law_row_tells (by k_asm) (by k_asm) (by k_asm) (by k_asm) (by k_asm) (by exact rfl) (by k_room) (by k_units) (by k_mem) (by assumption) (by assumption) (by assumption) (by assumption) ?_); intro _ _ _ _ _)
  trivial
def beginOf (rows : List Str) (k : Nat) : Int := ((rows.take k).map fun r => (r.length : Int) + 1).sum
theorem bent_begin {lr : Addr} {fd : Addr} {kr : Nat} {vs : List Value} {marks : List Str} {rels : List (List (List Int))} {fo : Obj} {rest : List (Addr × Obj)} {R : Flow → Shared → Prop} {k : Nat} {tk : Tok}
    (B : Below A₀ base outer h₀) (F : Fr h₀ L s.heap m) (X : (Mine.hd.heap_1 w.params).In h₀) (N : News h₀ L s.heap ((fd, fo) :: rest)) (T : Top V loose mean mg mb h₀) (hcs : cs = bentScope)
    (hd : dp + 20 < recursionLimit) (hu : un + 500 < cLine)
    (hlr : (lr, PySem.W.listOf vs.toArray kr) ∈ rest) (hvs : StrsAre vs (rowsOf marks rels)) (hrl : rels.length = marks.length) (hm3 : marks.length ≤ 3) (hmr : m "rows" = some (.ref lr)) (hmk : m "k" = some (.int k tk)) (hk : k < marks.length) (hrs : ∀ r ∈ rowsOf marks rels, r.length ≤ 1000)
    (hret : ∀ tb h' m' tk', Fr h₀ L h' m' → News h₀ L h' ((fd, fo) :: rest) → (∀ y : Str, y ≠ "begin" → m' y = m y) → m' "begin" = some (.int (beginOf (rowsOf marks rels) k) tb) →
      wpAny (model P w) (ktrTop dp un gd cn cs L a ccd [] outer) (execs (bentBody.drop 4) (envX cn cs L a ccd [])) R E { s with heap := h', toks := tk' }) :
    wpAny (model P w) (ktrTop dp un gd cn cs L a ccd [] outer) (execs (bentBody.drop 3) (envX cn cs L a ccd [])) R E s := by
  w_on
  obtain ⟨x, hx⟩ : ∃ x, x = bentBody.getD 3 (.Pass ⟨0, 0, 0, 0⟩) := ⟨_, rfl⟩
  obtain ⟨l3, hl3⟩ : ∃ l3, l3 = bentBody.drop (3 + 1) := ⟨_, rfl⟩
  rw [bent_at 3 (by decide +kernel), ← hx, ← hl3]
  rw [← hl3] at hret
  conv at hx => rhs; whnf
  conv at hcs => rhs; whnf
  subst hx hcs
  have hvl : vs.length = marks.length := by rw [hvs.length, rowsOf_len hrl]
  have hz9 : vs.length ≤ 100 := by omega
  w_strict k_steps
  rename Fr h₀ L _ _ => kF
  rename News h₀ L _ _ => kN
  have hsz : (vs.take k).toArray.size ≤ sizeLine := by rw [List.size_toArray, List.length_take, sizeLine_eq]; omega
  refine ⟨LCg.CompSrc.ledger (its := (vs.take k).toArray) rfl kF kN (.head _) hsz fun g9 => ?_⟩
  have hst := strs_take k hvs
  refine comp_run (fun i ys nw => nw = _ ∧ IntsAre ys ((((rowsOf marks rels).take k).take i).map fun r => (r.length : Int) + 1)) ⟨rfl, .nil⟩ ?_ ?_
  · rintro i9 ys nw v I oI C oC D m₂ h9 tk9 E' hi9 ⟨rfl, hys⟩ hv hC hx IT
    obtain ⟨F9, N9, off9, ne9⟩ := IT
    rw [List.getElem?_toArray] at hv
    obtain ⟨y, t9, rfl, hy⟩ := StrsAre.item hst i9 v hv
    have hyl := hrs y (List.mem_of_mem_take (List.mem_of_getElem? hy))
    clear kF kN
    k_steps
    refine comp_end _ F9 N9 (fun _ h => h) off9 (.inr ⟨_, .head _, rfl, _, rfl⟩) ⟨rfl, ?_⟩
    rw [List.take_add_one, hy]
    simp only [Option.toList, List.map_append, List.map_cons, List.map_nil]
    exact hys.append (.cons _ _ .nil)
  · rintro ys nw ⟨rfl, hys⟩ D9 h9 tk9 F9 N9 off9
    rw [List.size_toArray, hst.length, List.take_length] at hys
    clear kF kN
    k_steps
    rename Fr h₀ L _ _ => kF
    rename News h₀ L _ _ => kN
    refine hold_out ?_
    exact hret _ _ _ _ kF (fun p hp => kN p (.tail _ (.tail _ hp))) (fun y h => if_neg h) rfl
theorem bent_texts {ld : Addr} {fd : Addr} {kd : Nat} {dus : List Value} {rels : List (List (List Int))} {fo : Obj} {rest : List (Addr × Obj)} {many : Nat} {R : Flow → Shared → Prop} {k : Nat} {tk : Tok} {rel : List (List Int)}
    (B : Below A₀ base outer h₀) (F : Fr h₀ L s.heap m) (X : (Mine.hd.heap_1 w.params).In h₀) (N : News h₀ L s.heap ((fd, fo) :: rest)) (T : Top V loose mean mg mb h₀) (hcs : cs = bentScope)
    (hd : dp + 20 < recursionLimit) (hu : un + 500 < cLine)
    (hl2 : (ld, PySem.W.listOf dus.toArray kd) ∈ rest) (hdu : DatAll rest dus (instD rels)) (hm3 : rels.length ≤ 3) (hmd : m "due" = some (.ref ld)) (hmk : m "k" = some (.int k tk)) (hk : rels[k]? = some rel) (hm4 : many ≤ 4) (hgr : GoodRel many rel)
    (hret : ∀ D us h' m' tk', Fr h₀ L h' m' → News h₀ L h' ((fd, fo) :: (D, LCg.lst us) :: rest) → (∀ p ∈ (fd, fo) :: rest, p.1 ≠ D) → StrsAre us (rel.map rowText) → (∀ y : Str, y ≠ "texts" → m' y = m y) → m' "texts" = some (.ref D) →
      wpAny (model P w) (ktrTop dp un gd cn cs L a ccd [] outer) (execs (bentBody.drop 5) (envX cn cs L a ccd [])) R E { s with heap := h', toks := tk' }) :
    wpAny (model P w) (ktrTop dp un gd cn cs L a ccd [] outer) (execs (bentBody.drop 4) (envX cn cs L a ccd [])) R E s := by
  w_on
  obtain ⟨x, hx⟩ : ∃ x, x = bentBody.getD 4 (.Pass ⟨0, 0, 0, 0⟩) := ⟨_, rfl⟩
  obtain ⟨l3, hl3⟩ : ∃ l3, l3 = bentBody.drop (4 + 1) := ⟨_, rfl⟩
  rw [bent_at 4 (by decide +kernel), ← hx, ← hl3]
  rw [← hl3] at hret
  conv at hx => rhs; whnf
  conv at hcs => rhs; whnf
  subst hx hcs
  have hyl : dus.length = rels.length := by rw [DatAll.length hdu, instD, List.length_map]
  have hkl : k < rels.length := (List.getElem?_eq_some_iff.mp hk).1
  obtain ⟨v, hv⟩ : ∃ v, dus[k]? = some v := ⟨_, List.getElem?_eq_getElem (by omega)⟩
  obtain ⟨rel', hk', _, hD⟩ := datAll_at hdu hv
  rw [hk] at hk'
  cases hk'
  obtain ⟨hgs, hgl, wd9, hw1, hw2, hw3⟩ := hgr
  cases hD with
  | @tuple b us kb ds hmb hds =>
  have hds9 : DatAll ((fd, fo) :: rest) us (rel.map rowD) := hds.mono fun p hp => .tail _ hp
  have hn5 : rel.length ≤ 50 := by omega
  have hr5 : ∀ r ∈ rel, r.length ≤ 3 ∧ ∀ a ∈ r, 0 ≤ a ∧ a < 4 := fun r hr => ⟨by have := (hw3 r hr).1; omega, fun a ha => by have := (hw3 r hr).2 a ha; omega⟩
  clear hdu hds
  w_strict k_steps
  rename Fr h₀ L _ _ => kF
  rename News h₀ L _ _ => kN
  rename StrsAre _ (rel.map rowText) => kS
  rename (∀ p ∈ (fd, fo) :: rest, p.1 ≠ _) => kO
  refine hold_out ?_
  exact hret _ _ _ _ _ kF (News.swap kN) kO kS (fun y h => if_neg h) rfl
end

-- part BD
section
open PySem PySem.W PyProof.Rows PyProof.V PySem.Spec
set_option rowWalk.seconds 0
variable {w : World} {mean : ExcName → Option Value} {mg mb : Str → Option Value} {loose : List Str}
    {dp un : Nat} {gd : Option (List Code)} {cn : Str} {cs : Scope} {a : Addr} {ccd : Value} {cl : List (Str × Addr)} {outer : List Env} {A₀ : Around} {base h₀ : Heap} {L : Addr} {m : Str → Option Value} {news : List (Addr × Obj)} {s : Shared}
    {Q E : Value → Shared → Prop}
theorem rows_BD_1 : True := by
  k_with_none
  (k_with "k_room" => first | exact room1 (by assumption) rfl | exact room2 (by assumption) rfl | exact room3 (by assumption) rfl | ktr_room)
  (k_with "k_units" => first | exact room1 (by assumption) rfl | exact room2 (by assumption) rfl | exact room3 (by assumption) rfl | ktr_units)
  (k_with "k_mem" => assumption)
  (k_with "k_mem" => exact Above.sub (by with_reducible assumption) _ (by assumption))
  (k_with "cell_enter" => refine code_defC (by k_asm) (by k_asm) (by k_asm) (by k_asm) (by k_asm) (by exact rfl) (by exact rfl) (by assumption) (by k_is) (by k_is) (by k_room) (by exact BindsTo.of_eq rfl) (by exact rfl) (by decide +kernel) ?_ (by exact rfl) (by exact rfl) (by exact rfl); k_whole; intro _ _ _ _ _ _ _ N'_w9 Y'_w9 B'_w9 _ _ l1_w9; (try k_lt l1_w9); k_cells Y'_w9; (try simp only [List.cons_append, List.nil_append] at N'_w9); (try dsimp only); (try k_lift B'_w9); (try k_fold))
  (k_with "k_all" => assumption)
  (k_with "execs cons" => k_here; (with_reducible show wpAny _ _ _ _ _ (Shared.mk _ _ _ (_ + _) _)); (refine gen_toks ?_); intro _)
  (k_with "execs nil" => k_here; (with_reducible show wpAny _ _ _ _ _ (Shared.mk _ _ _ (_ + _) _)); (refine gen_toks ?_); intro _)
  (k_with "eval Name" => k_here; k_dflt (refine nameX_L (by k_asm) (by first | assumption | exact rfl) ?_; k_whole))
  (k_with "k_mem" => first | assumption | exact List.Mem.head _ | exact List.Mem.tail _ (by assumption) | exact List.Mem.tail _ (List.Mem.tail _ (by assumption)) | exact List.Mem.tail _ (List.Mem.tail _ (List.Mem.tail _ (by assumption))) | ((repeat refine List.Mem.tail _ ?_); first | assumption | exact List.Mem.head _))
  (k_with "call ref" => k_here; (with_reducible show wpAny _ _ (call (Value.ref 220) _) _ _ _); k_dflt (refine draw_N (by k_asm) (by k_asm) (by k_asm) (by k_asm) (by k_asm) (by exact rfl) (by k_room) (by k_units) (by k_updF) (by assumption) (by k_mem) (by assumption) (by first | assumption | omega) (by omega) (by omega) (by omega) (by omega) ?_); intro _ _ _ _ _ _ _ _ _ _)
  (k_with "eval Name" => k_here; k_dflt (refine nameX_C (by k_asm) (by exact rfl) (by k_mem) (by assumption) ?_; k_whole))
  (k_with "storeName" => k_here; k_dflt (refine storeX_C (by k_asm) (by k_asm) (by exact rfl) (by k_updF) (by assumption) ?_); intro _ _ _ N'_w9 _; (try dsimp only at N'_w9))
  (k_with "subscriptTail Name Slice ref ref" => k_here; (with_reducible show wpAny _ _ (subscriptTail _ (PySem.Expr.Slice none (some _) none _) (Value.ref _) (Value.ref _)) _ _ _); k_dflt (refine slice_tupL (s := ⟨_, _, _, _, _⟩) (by k_asm) (by k_asm) (by exact top_tup (by k_asm) (by k_asm) (by k_is)) (by first | exact rfl | exact (Int.natCast_add 1 _).symm) (by (simp only [List.length_cons, List.length_nil]; omega)) (by decide) ?_ (by with_unfolding_all rfl) (by (intro _; with_unfolding_all rfl))); intro _ _ _ _ _)
  (k_with "call type:list" => k_here; (with_reducible show wpAny _ _ (call (Value.type _) [Value.ref _]) _ _ _); k_dflt (refine list_tupL (by k_asm) (by k_asm) (by assumption) (by (rw [List.length_take]; simp only [List.length_cons, List.length_nil]; omega)) ?_); intro _ _ _ _ _ l9_w9; (try k_lt l9_w9))
  (k_with "call ref" => k_here; (with_reducible show wpAny _ _ (call (Value.ref 207) _ _) _ _ _); k_dflt (refine universe_atoms (by k_asm) (by k_asm) (by k_asm) (by k_asm) (by k_asm) (by exact rfl) (by k_room) (by k_units) (by assumption) (by k_mem) ?_); intro _ _ _ _ _ _ _ _ _ _ _ _ _ _ _ _ _ _ _)
  (k_with "storeName" => k_here; k_dflt (refine storeX_L (by k_asm) (by k_asm) ?_ (by rfl) (by rfl)); intro _ _ _; (refine hold_in ?_))
  (k_with "subscriptTail Name Slice ref ref" => k_here; (with_reducible show wpAny _ _ (subscriptTail _ (PySem.Expr.Slice none (some _) none _) (Value.ref _) (Value.ref _)) _ _ _); k_dflt (refine upto_L (s := ⟨_, _, _, _, _⟩) (by k_asm) (by k_asm) (by k_mem) (by assumption) ?_ (by with_unfolding_all rfl) (by (intro _; with_unfolding_all rfl))); intro _ _ _ _ l9_w9; (try k_lt l9_w9))
  (k_with "subscriptTail Name Slice ref ref" => k_here; (with_reducible show wpAny _ _ (subscriptTail _ (PySem.Expr.Slice (some _) none none _) (Value.ref _) (Value.ref _)) _ _ _); k_dflt (refine from_L (s := ⟨_, _, _, _, _⟩) (by k_asm) (by k_asm) (by k_mem) (by assumption) (by exact (Int.natCast_add _ 1).symm) ?_ (by with_unfolding_all rfl) (by (intro _; with_unfolding_all rfl))); intro _ _ _ _ l9_w9; (try k_lt l9_w9))
  (k_with "subscriptTail Name Name ref int" => k_here; k_dflt (refine item_L (by k_asm) (by k_mem) (by assumption) (by omega) ?_ (by with_unfolding_all rfl) (by (intro _; with_unfolding_all rfl))))
  (k_with "eval ListComp" => k_dflt (refine listComp_W (by k_asm) (by with_unfolding_all rfl) (by decide) (by rfl) (by decide) (by rfl) ?_))
  (k_with "call builtin:sum" => k_here; (with_reducible show wpAny _ _ (call (Value.builtin "sum") [Value.ref _]) _ _ _); k_dflt (refine sum_L (by exact rfl) (by k_asm) (by k_asm) (by k_mem) (by assumption) ?_); intro _ _ _ _ _)
  (k_with "call builtin:len" => k_here; (with_reducible show wpAny _ _ (call (Value.builtin "len") [Value.str _ _]) _ _ _); k_dflt (refine len_str (by omega) ?_))
  (k_with "binaryOp Add ref ref" => k_here; (with_reducible show wpAny _ _ (binaryOp _ (Value.ref _) (Value.ref _)) _ _ _); k_dflt (refine add_L (by k_asm) (by k_asm) (by k_mem) (by k_mem) (by first | assumption | (simp only [List.length_append, List.length_take, List.length_drop, List.length_cons, List.length_nil]; omega)) (by first | assumption | (simp only [List.length_append, List.length_take, List.length_drop, List.length_cons, List.length_nil]; omega)) ?_); intro _ _ _ _ l9_w9; (try k_lt l9_w9))
  trivial
theorem row_at {vs : List Value} {rows : List Str} {k : Nat} (h : StrsAre vs rows) (hk : k < rows.length) : ∃ row t, rows[k]? = some row ∧ vs[k]? = some (.str row t) ∧ row ∈ rows := by
  have hk' : k < vs.length := by rw [h.length]; exact hk
  obtain ⟨y, t, e, hy⟩ := StrsAre.item h k _ (List.getElem?_eq_getElem hk')
  exact ⟨y, t, hy, by rw [List.getElem?_eq_getElem hk', e], List.mem_of_getElem? hy⟩
theorem mid_short {rows : List Str} {x : Str} {k : Nat} (h : ∀ r ∈ rows, r.length ≤ 900) (hx : x.length ≤ 1000) : ∀ y ∈ rows.take k ++ [x] ++ rows.drop (k + 1), y.length ≤ 1000 := fun y hy => by
  rcases List.mem_append.mp hy with hy | hy
  · rcases List.mem_append.mp hy with hy | hy
    · have := h y (List.mem_of_mem_take hy); omega
    · rw [List.mem_singleton.mp hy]; exact hx
  · have := h y (List.mem_of_mem_drop hy); omega
theorem x_len : ("x" : Str).length = 1 := by decide +kernel
theorem bent_w3 {lr : Addr} {fd : Addr} {kr : Nat} {vs : List Value} {marks : List Str} {rels : List (List (List Int))} {fo : Obj} {rest : List (Addr × Obj)} {R : Flow → Shared → Prop} {k : Nat} {tk tw tb : Tok} {bg : Int}
    (B : Below A₀ base outer h₀) (F : Fr h₀ L s.heap m) (X : (Mine.hd.heap_1 w.params).In h₀) (N : News h₀ L s.heap ((fd, fo) :: rest)) (T : Top V loose mean mg mb h₀) (hcs : cs = bentScope)
    (hd : dp + 20 < recursionLimit) (hu : un + 500 < cLine)
    (hlr : (lr, PySem.W.listOf vs.toArray kr) ∈ rest) (hvs : StrsAre vs (rowsOf marks rels)) (hrl : rels.length = marks.length) (hm3 : marks.length ≤ 3) (hmr : m "rows" = some (.ref lr)) (hrs : ∀ r ∈ rowsOf marks rels, r.length ≤ 900) (hmk : m "k" = some (.int k tk)) (hk : k < marks.length) (hmw : m "way" = some (.int 3 tw)) (hmb : m "begin" = some (.int bg tb))
    (hret : ∀ row t k2 ts ti h' tk', (rowsOf marks rels)[k]? = some row → Fr h₀ L h' m → News h₀ L h' ((t, tupOf [.str (Str.join "\n" ((rowsOf marks rels).take k ++ ["x" ++ row] ++ (rowsOf marks rels).drop (k + 1))) ts, .int bg ti] k2) :: (fd, fo) :: rest) → R (.ret (.ref t)) { s with heap := h', toks := tk' }) :
    wpAny (model P w) (ktrTop dp un gd cn cs L a ccd [] outer) (execs (bentBody.drop 5) (envX cn cs L a ccd [])) R E s := by
  w_on
  obtain ⟨x, hx⟩ : ∃ x, x = bentBody.getD 5 (.Pass ⟨0, 0, 0, 0⟩) := ⟨_, rfl⟩
  obtain ⟨l3, hl3⟩ : ∃ l3, l3 = bentBody.drop (5 + 1) := ⟨_, rfl⟩
  rw [bent_at 5 (by decide +kernel), ← hx, ← hl3]
  skip
  conv at hx => rhs; whnf
  conv at hcs => rhs; whnf
  subst hx hcs
  have hrn := rowsOf_len hrl
  have hvl : vs.length = marks.length := by rw [hvs.length, hrn]
  have hz9 : vs.length ≤ 100 := by omega
  obtain ⟨row, tr, hrow, hvr, hrm⟩ := row_at hvs (k := k) (by omega)
  have hrw := hrs row hrm
  w_strict k_steps
  refine join_at (lst_at (by assumption) (.head _)) (strs_app (strs_app (strs_take k hvs) (.cons _ _ .nil)) (strs_drop (k + 1) hvs)) (by decide +kernel) ?_ ?_ ?_
  · simp only [List.length_append, List.length_take, List.length_drop, List.length_cons, List.length_nil]; omega
  · exact mid_short hrs (by have := x_len; rw [Str.length_append]; omega)
  intro t5 k5 hj5
  k_steps
  rename Fr h₀ L _ _ => kF
  rename News h₀ L _ _ => kN
  exact hret _ _ _ _ _ _ _ hrow kF fun p hp => kN p (List.mem_cons.mpr ((List.mem_cons.mp hp).imp id fun h => by simp only [List.mem_cons] at h ⊢; rcases h with h | h <;> simp [h]))
theorem bent_w4 {lr : Addr} {fd : Addr} {kr : Nat} {vs : List Value} {marks : List Str} {rels : List (List (List Int))} {fo : Obj} {rest : List (Addr × Obj)} {R : Flow → Shared → Prop} {k : Nat} {tk tw : Tok}
    (B : Below A₀ base outer h₀) (F : Fr h₀ L s.heap m) (X : (Mine.hd.heap_1 w.params).In h₀) (N : News h₀ L s.heap ((fd, fo) :: rest)) (T : Top V loose mean mg mb h₀) (hcs : cs = bentScope)
    (hd : dp + 20 < recursionLimit) (hu : un + 500 < cLine)
    (hlr : (lr, PySem.W.listOf vs.toArray kr) ∈ rest) (hvs : StrsAre vs (rowsOf marks rels)) (hrl : rels.length = marks.length) (hm3 : marks.length ≤ 3) (hmr : m "rows" = some (.ref lr)) (hrs : ∀ r ∈ rowsOf marks rels, r.length ≤ 900) (hmk : m "k" = some (.int k tk)) (hk : k < marks.length) (hmw : m "way" = some (.int 4 tw))
    (hret : ∀ t k2 ts ti h' tk', Fr h₀ L h' m → News h₀ L h' ((t, tupOf [.str (Str.join "\n" ((rowsOf marks rels).take k ++ (rowsOf marks rels).drop (k + 1))) ts, .int (-1) ti] k2) :: (fd, fo) :: rest) → R (.ret (.ref t)) { s with heap := h', toks := tk' }) :
    wpAny (model P w) (ktrTop dp un gd cn cs L a ccd [] outer) (execs (bentBody.drop 6) (envX cn cs L a ccd [])) R E s := by
  w_on
  obtain ⟨x, hx⟩ : ∃ x, x = bentBody.getD 6 (.Pass ⟨0, 0, 0, 0⟩) := ⟨_, rfl⟩
  obtain ⟨l3, hl3⟩ : ∃ l3, l3 = bentBody.drop (6 + 1) := ⟨_, rfl⟩
  rw [bent_at 6 (by decide +kernel), ← hx, ← hl3]
  skip
  conv at hx => rhs; whnf
  conv at hcs => rhs; whnf
  subst hx hcs
  have hrn := rowsOf_len hrl
  have hvl : vs.length = marks.length := by rw [hvs.length, hrn]
  have hz9 : vs.length ≤ 100 := by omega
  obtain ⟨row, tr, hrow, hvr, hrm⟩ := row_at hvs (k := k) (by omega)
  have hrw := hrs row hrm
  w_strict k_steps
  refine join_at (lst_at (by assumption) (.head _)) (strs_app (strs_take k hvs) (strs_drop (k + 1) hvs)) (by decide +kernel) ?_ ?_ ?_
  · simp only [List.length_append, List.length_take, List.length_drop, List.length_cons, List.length_nil]; omega
  · intro y hy
    rcases List.mem_append.mp hy with hy | hy
    · have := hrs y (List.mem_of_mem_take hy); omega
    · have := hrs y (List.mem_of_mem_drop hy); omega
  intro t5 k5 hj5
  k_steps
  rename Fr h₀ L _ _ => kF
  rename News h₀ L _ _ => kN
  exact hret _ _ _ _ _ _ kF fun p hp => kN p (List.mem_cons.mpr ((List.mem_cons.mp hp).imp id fun h => by simp only [List.mem_cons] at h ⊢; rcases h with h | h <;> simp [h]))
theorem bent_w5 {lr : Addr} {fd : Addr} {kr : Nat} {vs : List Value} {marks : List Str} {rels : List (List (List Int))} {fo : Obj} {rest : List (Addr × Obj)} {R : Flow → Shared → Prop} {k : Nat} {tk tw : Tok}
    (B : Below A₀ base outer h₀) (F : Fr h₀ L s.heap m) (X : (Mine.hd.heap_1 w.params).In h₀) (N : News h₀ L s.heap ((fd, fo) :: rest)) (T : Top V loose mean mg mb h₀) (hcs : cs = bentScope)
    (hd : dp + 20 < recursionLimit) (hu : un + 500 < cLine)
    (hlr : (lr, PySem.W.listOf vs.toArray kr) ∈ rest) (hvs : StrsAre vs (rowsOf marks rels)) (hrl : rels.length = marks.length) (hm3 : marks.length ≤ 3) (hmr : m "rows" = some (.ref lr)) (hrs : ∀ r ∈ rowsOf marks rels, r.length ≤ 900) (hmk : m "k" = some (.int k tk)) (hk : k < marks.length) (hmw : m "way" = some (.int 5 tw))
    (hret : ∀ row t k2 ts ti h' tk', (rowsOf marks rels)[k]? = some row → Fr h₀ L h' m → News h₀ L h' ((t, tupOf [.str (Str.join "\n" (rowsOf marks rels ++ [row])) ts, .int (-1) ti] k2) :: (fd, fo) :: rest) → R (.ret (.ref t)) { s with heap := h', toks := tk' }) :
    wpAny (model P w) (ktrTop dp un gd cn cs L a ccd [] outer) (execs (bentBody.drop 7) (envX cn cs L a ccd [])) R E s := by
  w_on
  obtain ⟨x, hx⟩ : ∃ x, x = bentBody.getD 7 (.Pass ⟨0, 0, 0, 0⟩) := ⟨_, rfl⟩
  obtain ⟨l3, hl3⟩ : ∃ l3, l3 = bentBody.drop (7 + 1) := ⟨_, rfl⟩
  rw [bent_at 7 (by decide +kernel), ← hx, ← hl3]
  skip
  conv at hx => rhs; whnf
  conv at hcs => rhs; whnf
  subst hx hcs
  have hrn := rowsOf_len hrl
  have hvl : vs.length = marks.length := by rw [hvs.length, hrn]
  have hz9 : vs.length ≤ 100 := by omega
  obtain ⟨row, tr, hrow, hvr, hrm⟩ := row_at hvs (k := k) (by omega)
  have hrw := hrs row hrm
  w_strict k_steps
  refine join_at (lst_at (by assumption) (.head _)) (strs_app hvs (.cons _ _ .nil)) (by decide +kernel) ?_ ?_ ?_
  · simp only [List.length_append, List.length_take, List.length_drop, List.length_cons, List.length_nil]; omega
  · intro y hy
    rcases List.mem_append.mp hy with hy | hy
    · have := hrs y hy; omega
    · rw [List.mem_singleton.mp hy]; omega
  intro t5 k5 hj5
  k_steps
  rename Fr h₀ L _ _ => kF
  rename News h₀ L _ _ => kN
  exact hret _ _ _ _ _ _ _ hrow kF fun p hp => kN p (List.mem_cons.mpr ((List.mem_cons.mp hp).imp id fun h => by simp only [List.mem_cons] at h ⊢; rcases h with h | h <;> simp [h]))
theorem bent_p3 {fd : Addr} {fo : Obj} {rest : List (Addr × Obj)} {R : Flow → Shared → Prop} {way : Nat} {tw : Tok}
    (B : Below A₀ base outer h₀) (F : Fr h₀ L s.heap m) (X : (Mine.hd.heap_1 w.params).In h₀) (N : News h₀ L s.heap ((fd, fo) :: rest)) (T : Top V loose mean mg mb h₀) (hcs : cs = bentScope)
    (hd : dp + 20 < recursionLimit) (hu : un + 500 < cLine)
    (hmw : m "way" = some (.int way tw)) (hw : way ≠ 3)
    (hret : ∀ h' tk', Fr h₀ L h' m → News h₀ L h' ((fd, fo) :: rest) →
      wpAny (model P w) (ktrTop dp un gd cn cs L a ccd [] outer) (execs (bentBody.drop 6) (envX cn cs L a ccd [])) R E { s with heap := h', toks := tk' }) :
    wpAny (model P w) (ktrTop dp un gd cn cs L a ccd [] outer) (execs (bentBody.drop 5) (envX cn cs L a ccd [])) R E s := by
  w_on
  obtain ⟨x, hx⟩ : ∃ x, x = bentBody.getD 5 (.Pass ⟨0, 0, 0, 0⟩) := ⟨_, rfl⟩
  obtain ⟨l3, hl3⟩ : ∃ l3, l3 = bentBody.drop (5 + 1) := ⟨_, rfl⟩
  rw [bent_at 5 (by decide +kernel), ← hx, ← hl3]
  rw [← hl3] at hret
  conv at hx => rhs; whnf
  conv at hcs => rhs; whnf
  subst hx hcs
  w_strict k_steps
  all_goals first | (exfalso; omega) | exact hret _ _ F N
theorem bent_p4 {fd : Addr} {fo : Obj} {rest : List (Addr × Obj)} {R : Flow → Shared → Prop} {way : Nat} {tw : Tok}
    (B : Below A₀ base outer h₀) (F : Fr h₀ L s.heap m) (X : (Mine.hd.heap_1 w.params).In h₀) (N : News h₀ L s.heap ((fd, fo) :: rest)) (T : Top V loose mean mg mb h₀) (hcs : cs = bentScope)
    (hd : dp + 20 < recursionLimit) (hu : un + 500 < cLine)
    (hmw : m "way" = some (.int way tw)) (hw : way ≠ 4)
    (hret : ∀ h' tk', Fr h₀ L h' m → News h₀ L h' ((fd, fo) :: rest) →
      wpAny (model P w) (ktrTop dp un gd cn cs L a ccd [] outer) (execs (bentBody.drop 7) (envX cn cs L a ccd [])) R E { s with heap := h', toks := tk' }) :
    wpAny (model P w) (ktrTop dp un gd cn cs L a ccd [] outer) (execs (bentBody.drop 6) (envX cn cs L a ccd [])) R E s := by
  w_on
  obtain ⟨x, hx⟩ : ∃ x, x = bentBody.getD 6 (.Pass ⟨0, 0, 0, 0⟩) := ⟨_, rfl⟩
  obtain ⟨l3, hl3⟩ : ∃ l3, l3 = bentBody.drop (6 + 1) := ⟨_, rfl⟩
  rw [bent_at 6 (by decide +kernel), ← hx, ← hl3]
  rw [← hl3] at hret
  conv at hx => rhs; whnf
  conv at hcs => rhs; whnf
  subst hx hcs
  w_strict k_steps
  all_goals first | (exfalso; omega) | exact hret _ _ F N
theorem bent_p5 {fd : Addr} {fo : Obj} {rest : List (Addr × Obj)} {R : Flow → Shared → Prop} {way : Nat} {tw : Tok}
    (B : Below A₀ base outer h₀) (F : Fr h₀ L s.heap m) (X : (Mine.hd.heap_1 w.params).In h₀) (N : News h₀ L s.heap ((fd, fo) :: rest)) (T : Top V loose mean mg mb h₀) (hcs : cs = bentScope)
    (hd : dp + 20 < recursionLimit) (hu : un + 500 < cLine)
    (hmw : m "way" = some (.int way tw)) (hw : way ≠ 5)
    (hret : ∀ h' tk', Fr h₀ L h' m → News h₀ L h' ((fd, fo) :: rest) →
      wpAny (model P w) (ktrTop dp un gd cn cs L a ccd [] outer) (execs (bentBody.drop 8) (envX cn cs L a ccd [])) R E { s with heap := h', toks := tk' }) :
    wpAny (model P w) (ktrTop dp un gd cn cs L a ccd [] outer) (execs (bentBody.drop 7) (envX cn cs L a ccd [])) R E s := by
  w_on
  obtain ⟨x, hx⟩ : ∃ x, x = bentBody.getD 7 (.Pass ⟨0, 0, 0, 0⟩) := ⟨_, rfl⟩
  obtain ⟨l3, hl3⟩ : ∃ l3, l3 = bentBody.drop (7 + 1) := ⟨_, rfl⟩
  rw [bent_at 7 (by decide +kernel), ← hx, ← hl3]
  rw [← hl3] at hret
  conv at hx => rhs; whnf
  conv at hcs => rhs; whnf
  subst hx hcs
  w_strict k_steps
  all_goals first | (exfalso; omega) | exact hret _ _ F N
end

-- part BE
section
open PySem PySem.W PyProof.Rows PyProof.V PySem.Spec
set_option rowWalk.seconds 0
variable {w : World} {mean : ExcName → Option Value} {mg mb : Str → Option Value} {loose : List Str}
    {dp un : Nat} {gd : Option (List Code)} {cn : Str} {cs : Scope} {a : Addr} {ccd : Value} {cl : List (Str × Addr)} {outer : List Env} {A₀ : Around} {base h₀ : Heap} {L : Addr} {m : Str → Option Value} {news : List (Addr × Obj)} {s : Shared}
    {Q E : Value → Shared → Prop}
theorem rows_BE_1 : True := by
  k_with_none
  (k_with "k_room" => first | exact room1 (by assumption) rfl | exact room2 (by assumption) rfl | exact room3 (by assumption) rfl | ktr_room)
  (k_with "k_units" => first | exact room1 (by assumption) rfl | exact room2 (by assumption) rfl | exact room3 (by assumption) rfl | ktr_units)
  (k_with "k_mem" => assumption)
  (k_with "k_mem" => exact Above.sub (by with_reducible assumption) _ (by assumption))
  (k_with "cell_enter" => refine code_defC (by k_asm) (by k_asm) (by k_asm) (by k_asm) (by k_asm) (by exact rfl) (by exact rfl) (by assumption) (by k_is) (by k_is) (by k_room) (by exact BindsTo.of_eq rfl) (by exact rfl) (by decide +kernel) ?_ (by exact rfl) (by exact rfl) (by exact rfl); k_whole; intro _ _ _ _ _ _ _ N'_w9 Y'_w9 B'_w9 _ _ l1_w9; (try k_lt l1_w9); k_cells Y'_w9; (try simp only [List.cons_append, List.nil_append] at N'_w9); (try dsimp only); (try k_lift B'_w9); (try k_fold))
  (k_with "k_all" => assumption)
  (k_with "execs cons" => k_here; (with_reducible show wpAny _ _ _ _ _ (Shared.mk _ _ _ (_ + _) _)); (refine gen_toks ?_); intro _)
  (k_with "execs nil" => k_here; (with_reducible show wpAny _ _ _ _ _ (Shared.mk _ _ _ (_ + _) _)); (refine gen_toks ?_); intro _)
  (k_with "eval Name" => k_here; k_dflt (refine nameX_L (by k_asm) (by first | assumption | exact rfl) ?_; k_whole))
  (k_with "k_mem" => first | assumption | exact List.Mem.head _ | exact List.Mem.tail _ (by assumption) | exact List.Mem.tail _ (List.Mem.tail _ (by assumption)) | exact List.Mem.tail _ (List.Mem.tail _ (List.Mem.tail _ (by assumption))) | ((repeat refine List.Mem.tail _ ?_); first | assumption | exact List.Mem.head _))
  (k_with "call ref" => k_here; (with_reducible show wpAny _ _ (call (Value.ref 220) _) _ _ _); k_dflt (refine draw_N (by k_asm) (by k_asm) (by k_asm) (by k_asm) (by k_asm) (by exact rfl) (by k_room) (by k_units) (by k_updF) (by assumption) (by k_mem) (by assumption) (by first | assumption | omega) (by omega) (by omega) (by omega) (by omega) ?_); intro _ _ _ _ _ _ _ _ _ _)
  (k_with "eval Name" => k_here; k_dflt (refine nameX_C (by k_asm) (by exact rfl) (by k_mem) (by assumption) ?_; k_whole))
  (k_with "storeName" => k_here; k_dflt (refine storeX_C (by k_asm) (by k_asm) (by exact rfl) (by k_updF) (by assumption) ?_); intro _ _ _ N'_w9 _; (try dsimp only at N'_w9))
  (k_with "subscriptTail Name Slice ref ref" => k_here; (with_reducible show wpAny _ _ (subscriptTail _ (PySem.Expr.Slice none (some _) none _) (Value.ref _) (Value.ref _)) _ _ _); k_dflt (refine slice_tupL (s := ⟨_, _, _, _, _⟩) (by k_asm) (by k_asm) (by exact top_tup (by k_asm) (by k_asm) (by k_is)) (by first | exact rfl | exact (Int.natCast_add 1 _).symm) (by (simp only [List.length_cons, List.length_nil]; omega)) (by decide) ?_ (by with_unfolding_all rfl) (by (intro _; with_unfolding_all rfl))); intro _ _ _ _ _)
  (k_with "call type:list" => k_here; (with_reducible show wpAny _ _ (call (Value.type _) [Value.ref _]) _ _ _); k_dflt (refine list_tupL (by k_asm) (by k_asm) (by assumption) (by (rw [List.length_take]; simp only [List.length_cons, List.length_nil]; omega)) ?_); intro _ _ _ _ _ l9_w9; (try k_lt l9_w9))
  (k_with "call ref" => k_here; (with_reducible show wpAny _ _ (call (Value.ref 207) _ _) _ _ _); k_dflt (refine universe_atoms (by k_asm) (by k_asm) (by k_asm) (by k_asm) (by k_asm) (by exact rfl) (by k_room) (by k_units) (by assumption) (by k_mem) ?_); intro _ _ _ _ _ _ _ _ _ _ _ _ _ _ _ _ _ _ _)
  (k_with "storeName" => k_here; k_dflt (refine storeX_L (by k_asm) (by k_asm) ?_ (by rfl) (by rfl)); intro _ _ _; (refine hold_in ?_))
  (k_with "subscriptTail Name Slice ref ref" => k_here; (with_reducible show wpAny _ _ (subscriptTail _ (PySem.Expr.Slice none (some _) none _) (Value.ref _) (Value.ref _)) _ _ _); k_dflt (refine upto_L (s := ⟨_, _, _, _, _⟩) (by k_asm) (by k_asm) (by k_mem) (by assumption) ?_ (by with_unfolding_all rfl) (by (intro _; with_unfolding_all rfl))); intro _ _ _ _ l9_w9; (try k_lt l9_w9))
  (k_with "subscriptTail Name Slice ref ref" => k_here; (with_reducible show wpAny _ _ (subscriptTail _ (PySem.Expr.Slice (some _) none none _) (Value.ref _) (Value.ref _)) _ _ _); k_dflt (refine from_L (s := ⟨_, _, _, _, _⟩) (by k_asm) (by k_asm) (by k_mem) (by assumption) (by exact (Int.natCast_add _ 1).symm) ?_ (by with_unfolding_all rfl) (by (intro _; with_unfolding_all rfl))); intro _ _ _ _ l9_w9; (try k_lt l9_w9))
  (k_with "subscriptTail Name Name ref int" => k_here; k_dflt (refine item_L (by k_asm) (by k_mem) (by assumption) (by omega) ?_ (by with_unfolding_all rfl) (by (intro _; with_unfolding_all rfl))))
  (k_with "eval ListComp" => k_dflt (refine listComp_W (by k_asm) (by with_unfolding_all rfl) (by decide) (by rfl) (by decide) (by rfl) ?_))
  (k_with "call builtin:sum" => k_here; (with_reducible show wpAny _ _ (call (Value.builtin "sum") [Value.ref _]) _ _ _); k_dflt (refine sum_L (by exact rfl) (by k_asm) (by k_asm) (by k_mem) (by assumption) ?_); intro _ _ _ _ _)
  (k_with "call builtin:len" => k_here; (with_reducible show wpAny _ _ (call (Value.builtin "len") [Value.str _ _]) _ _ _); k_dflt (refine len_str (by omega) ?_))
  (k_with "call ref" => k_here; (with_reducible show wpAny _ _ (call (Value.ref 230) _) _ _ _); k_dflt (refine tuple_texts_tells (by k_asm) (by k_asm) (by k_asm) (by k_asm) (by k_asm) (by exact rfl) (by k_room) (by k_units) (by k_mem) (by assumption) (by assumption) (by assumption) ?_); intro _ _ _ _ _ _ _ l9_w9; (try k_lt l9_w9))
  (k_with "call ref" => k_here; (with_reducible show wpAny _ _ (call (Value.ref 237) _) _ _ _); k_dflt (refine law_row_tells (by k_asm) (by k_asm) (by k_asm) (by k_asm) (by k_asm) (by exact rfl) (by k_room) (by k_units) (by k_mem) (by assumption) (by assumption) (by assumption) (by assumption) ?_); intro _ _ _ _ _)
  trivial
theorem item0_L {prog : Program} {A : Around} {value slice : Expr} {l : Addr} {vs : List Value} {c : Nat} {u : Tok} {v : Value} (N : News h₀ L s.heap news) (hl : (l, PySem.W.listOf vs.toArray c) ∈ news) (hx : vs[0]? = some v) (h : Q v s)
    (hs : subscripted slice false (.ref l) (.int 0 u) = operate [.ref l, .int 0 u] (getItem (.ref l) (.int 0 u))) (hg : ∀ r, letTemporaryGo value (.ref l) r = pure ()) :
    wpAny (model prog w) A (subscriptTail value slice (.ref l) (.int 0 u)) Q E s :=
  item_listL (lst_at N hl) (by decide) (by decide) (by simpa using hx) h hs hg
theorem rows_BE_2 : True := by
  (k_with "subscriptTail" => k_here; (with_reducible show wpAny _ _ (subscriptTail _ _ (Value.ref _) (Value.int 0 _)) _ _ _); k_dflt (refine item0_L (by k_asm) (by k_mem) (by assumption) ?_ (by with_unfolding_all rfl) (by (intro _; with_unfolding_all rfl))))
  (k_with "binaryOp Add ref ref" => k_here; (with_reducible show wpAny _ _ (binaryOp _ (Value.ref _) (Value.ref _)) _ _ _); k_dflt (refine add_L (by k_asm) (by k_asm) (by k_mem) (by k_mem) (by first | assumption | omega | (simp only [List.length_append, List.length_take, List.length_drop, List.length_cons, List.length_nil]; omega)) (by first | assumption | omega | (simp only [List.length_append, List.length_take, List.length_drop, List.length_cons, List.length_nil]; omega)) ?_); intro _ _ _ _ l9_w9; (try k_lt l9_w9))
  (k_with "call builtin:len" => k_here; (with_reducible show wpAny _ _ (call (Value.builtin "len") [Value.ref _]) _ _ _); k_dflt (first | (refine len_L (by k_asm) (by k_mem) (by assumption) (by omega) ?_) | (refine len_T (by k_asm) (by k_mem) (by assumption) (by omega) ?_)); intro _ _)
  (k_with "call builtin:len" => k_here; (with_reducible show wpAny _ _ (call (Value.builtin "len") [Value.str _ _]) _ _ _); k_dflt (refine len_str (by omega) ?_))
  (k_with "call ref" => k_here; (with_reducible show wpAny _ _ (call (Value.ref 237) _) _ _ _); k_dflt (refine law_row_tells (by k_asm) (by k_asm) (by k_asm) (by k_asm) (by k_asm) (by exact rfl) (by k_room) (by k_units) (by k_mem) (by first | assumption | (rename (∀ tx, StrsAre _ _) => hus9_w9; exact hus9_w9 _)) (by assumption) (by assumption) (by assumption) ?_); intro _ _ _ _ _)
  trivial
theorem bent_l8 {fd : Addr} {fo : Obj} {rest : List (Addr × Obj)} {R : Flow → Shared → Prop} 
    (B : Below A₀ base outer h₀) (F : Fr h₀ L s.heap m) (X : (Mine.hd.heap_1 w.params).In h₀) (N : News h₀ L s.heap ((fd, fo) :: rest)) (T : Top V loose mean mg mb h₀) (hcs : cs = bentScope)
    (hd : dp + 20 < recursionLimit) (hu : un + 500 < cLine)
    
    (hret : ∀ tl h' m' tk', Fr h₀ L h' m' → News h₀ L h' ((fd, fo) :: rest) → (∀ y : Str, y ≠ "late" → m' y = m y) → m' "late" = some (.str "B$7" tl) →
      wpAny (model P w) (ktrTop dp un gd cn cs L a ccd [] outer) (execs (bentBody.drop 9) (envX cn cs L a ccd [])) R E { s with heap := h', toks := tk' }) :
    wpAny (model P w) (ktrTop dp un gd cn cs L a ccd [] outer) (execs (bentBody.drop 8) (envX cn cs L a ccd [])) R E s := by
  w_on
  obtain ⟨x, hx⟩ : ∃ x, x = bentBody.getD 8 (.Pass ⟨0, 0, 0, 0⟩) := ⟨_, rfl⟩
  obtain ⟨l3, hl3⟩ : ∃ l3, l3 = bentBody.drop (8 + 1) := ⟨_, rfl⟩
  rw [bent_at 8 (by decide +kernel), ← hx, ← hl3]
  rw [← hl3] at hret
  conv at hx => rhs; whnf
  conv at hcs => rhs; whnf
  subst hx hcs
  w_strict k_steps
  rename Fr h₀ L _ _ => kF
  rename News h₀ L _ _ => kN
  refine hold_out ?_
  exact hret _ _ _ _ kF kN (fun y h => if_neg h) rfl
theorem bent_l9a {fd : Addr} {fo : Obj} {rest : List (Addr × Obj)} {R : Flow → Shared → Prop} {lt : Addr} {kt : Nat} {us : List Value} {texts : List Str} {tw : Tok}
    (B : Below A₀ base outer h₀) (F : Fr h₀ L s.heap m) (X : (Mine.hd.heap_1 w.params).In h₀) (N : News h₀ L s.heap ((fd, fo) :: rest)) (T : Top V loose mean mg mb h₀) (hcs : cs = bentScope)
    (hd : dp + 20 < recursionLimit) (hu : un + 500 < cLine)
    (hlt : (lt, PySem.W.listOf us.toArray kt) ∈ rest) (hus : StrsAre us texts) (hmt : m "texts" = some (.ref lt)) (hmw : m "way" = some (.int 1 tw))
    (hret : ∀ h' tk', Fr h₀ L h' m → News h₀ L h' ((fd, fo) :: rest) →
      wpAny (model P w) (ktrTop dp un gd cn cs L a ccd [] outer) (execs (bentBody.drop 10) (envX cn cs L a ccd [])) R E { s with heap := h', toks := tk' }) :
    wpAny (model P w) (ktrTop dp un gd cn cs L a ccd [] outer) (execs (bentBody.drop 9) (envX cn cs L a ccd [])) R E s := by
  w_on
  obtain ⟨x, hx⟩ : ∃ x, x = bentBody.getD 9 (.Pass ⟨0, 0, 0, 0⟩) := ⟨_, rfl⟩
  obtain ⟨l3, hl3⟩ : ∃ l3, l3 = bentBody.drop (9 + 1) := ⟨_, rfl⟩
  rw [bent_at 9 (by decide +kernel), ← hx, ← hl3]
  rw [← hl3] at hret
  conv at hx => rhs; whnf
  conv at hcs => rhs; whnf
  subst hx hcs
  w_strict k_steps
  all_goals first | (exfalso; omega) | exact hret _ _ F N
theorem bent_l9n {fd : Addr} {fo : Obj} {rest : List (Addr × Obj)} {R : Flow → Shared → Prop} {lt : Addr} {kt : Nat} {us : List Value} {texts : List Str} {way : Nat} {tw : Tok}
    (B : Below A₀ base outer h₀) (F : Fr h₀ L s.heap m) (X : (Mine.hd.heap_1 w.params).In h₀) (N : News h₀ L s.heap ((fd, fo) :: rest)) (T : Top V loose mean mg mb h₀) (hcs : cs = bentScope)
    (hd : dp + 20 < recursionLimit) (hu : un + 500 < cLine)
    (hlt : (lt, PySem.W.listOf us.toArray kt) ∈ rest) (hus : StrsAre us texts) (hmt : m "texts" = some (.ref lt)) (hmw : m "way" = some (.int way tw)) (hte : texts.length = 0)
    (hret : ∀ h' tk', Fr h₀ L h' m → News h₀ L h' ((fd, fo) :: rest) →
      wpAny (model P w) (ktrTop dp un gd cn cs L a ccd [] outer) (execs (bentBody.drop 10) (envX cn cs L a ccd [])) R E { s with heap := h', toks := tk' }) :
    wpAny (model P w) (ktrTop dp un gd cn cs L a ccd [] outer) (execs (bentBody.drop 9) (envX cn cs L a ccd [])) R E s := by
  w_on
  obtain ⟨x, hx⟩ : ∃ x, x = bentBody.getD 9 (.Pass ⟨0, 0, 0, 0⟩) := ⟨_, rfl⟩
  obtain ⟨l3, hl3⟩ : ∃ l3, l3 = bentBody.drop (9 + 1) := ⟨_, rfl⟩
  rw [bent_at 9 (by decide +kernel), ← hx, ← hl3]
  rw [← hl3] at hret
  conv at hx => rhs; whnf
  conv at hcs => rhs; whnf
  subst hx hcs
  have hul : us.length = texts.length := hus.length
  w_strict k_steps
  all_goals first | (exfalso; omega) | exact hret _ _ F N
theorem bent_l9b {fd : Addr} {fo : Obj} {rest : List (Addr × Obj)} {R : Flow → Shared → Prop} {lt : Addr} {kt : Nat} {us : List Value} {texts : List Str} {y : Str} {tw : Tok}
    (B : Below A₀ base outer h₀) (F : Fr h₀ L s.heap m) (X : (Mine.hd.heap_1 w.params).In h₀) (N : News h₀ L s.heap ((fd, fo) :: rest)) (T : Top V loose mean mg mb h₀) (hcs : cs = bentScope)
    (hd : dp + 20 < recursionLimit) (hu : un + 500 < cLine)
    (hlt : (lt, PySem.W.listOf us.toArray kt) ∈ rest) (hus : StrsAre us texts) (hmt : m "texts" = some (.ref lt)) (hmw : m "way" = some (.int 0 tw)) (hte : texts[0]? = some y) (hyl : y.length ≤ 100) (htn : texts.length ≤ 50)
    (hret : ∀ tl h' m' tk', Fr h₀ L h' m' → News h₀ L h' ((fd, fo) :: rest) → (∀ y : Str, y ≠ "late" → m' y = m y) → m' "late" = some (.str y tl) →
      wpAny (model P w) (ktrTop dp un gd cn cs L a ccd [] outer) (execs (bentBody.drop 10) (envX cn cs L a ccd [])) R E { s with heap := h', toks := tk' }) :
    wpAny (model P w) (ktrTop dp un gd cn cs L a ccd [] outer) (execs (bentBody.drop 9) (envX cn cs L a ccd [])) R E s := by
  w_on
  obtain ⟨x, hx⟩ : ∃ x, x = bentBody.getD 9 (.Pass ⟨0, 0, 0, 0⟩) := ⟨_, rfl⟩
  obtain ⟨l3, hl3⟩ : ∃ l3, l3 = bentBody.drop (9 + 1) := ⟨_, rfl⟩
  rw [bent_at 9 (by decide +kernel), ← hx, ← hl3]
  rw [← hl3] at hret
  conv at hx => rhs; whnf
  conv at hcs => rhs; whnf
  subst hx hcs
  have hul : us.length = texts.length := hus.length
  have h1 : 0 < texts.length := (List.getElem?_eq_some_iff.mp hte).1
  obtain ⟨y', ty, e1, e2, e3⟩ := row_at hus (k := 0) h1
  rw [hte] at e1
  cases e1
  w_strict k_steps
  rename Fr h₀ L _ _ => kF
  rename News h₀ L _ _ => kN
  refine hold_out ?_
  k_steps
  exact hret _ _ _ _ kF kN (fun y h => if_neg h) rfl
theorem bent_l9c {fd : Addr} {fo : Obj} {rest : List (Addr × Obj)} {R : Flow → Shared → Prop} {lt : Addr} {kt : Nat} {us : List Value} {texts : List Str} {y : Str} {tw : Tok}
    (B : Below A₀ base outer h₀) (F : Fr h₀ L s.heap m) (X : (Mine.hd.heap_1 w.params).In h₀) (N : News h₀ L s.heap ((fd, fo) :: rest)) (T : Top V loose mean mg mb h₀) (hcs : cs = bentScope)
    (hd : dp + 20 < recursionLimit) (hu : un + 500 < cLine)
    (hlt : (lt, PySem.W.listOf us.toArray kt) ∈ rest) (hus : StrsAre us texts) (hmt : m "texts" = some (.ref lt)) (hmw : m "way" = some (.int 2 tw)) (hte : texts[0]? = some y) (hyl : y.length ≤ 100) (htn : texts.length ≤ 50)
    (hret : ∀ tl h' m' tk', Fr h₀ L h' m' → News h₀ L h' ((fd, fo) :: rest) → (∀ y : Str, y ≠ "late" → m' y = m y) → m' "late" = some (.str (y ++ "->" ++ "A$0") tl) →
      wpAny (model P w) (ktrTop dp un gd cn cs L a ccd [] outer) (execs (bentBody.drop 10) (envX cn cs L a ccd [])) R E { s with heap := h', toks := tk' }) :
    wpAny (model P w) (ktrTop dp un gd cn cs L a ccd [] outer) (execs (bentBody.drop 9) (envX cn cs L a ccd [])) R E s := by
  w_on
  obtain ⟨x, hx⟩ : ∃ x, x = bentBody.getD 9 (.Pass ⟨0, 0, 0, 0⟩) := ⟨_, rfl⟩
  obtain ⟨l3, hl3⟩ : ∃ l3, l3 = bentBody.drop (9 + 1) := ⟨_, rfl⟩
  rw [bent_at 9 (by decide +kernel), ← hx, ← hl3]
  rw [← hl3] at hret
  conv at hx => rhs; whnf
  conv at hcs => rhs; whnf
  subst hx hcs
  have hul : us.length = texts.length := hus.length
  have h1 : 0 < texts.length := (List.getElem?_eq_some_iff.mp hte).1
  obtain ⟨y', ty, e1, e2, e3⟩ := row_at hus (k := 0) h1
  rw [hte] at e1
  cases e1
  w_strict k_steps
  rename Fr h₀ L _ _ => kF
  rename News h₀ L _ _ => kN
  refine hold_out ?_
  k_steps
  exact hret _ _ _ _ kF kN (fun y h => if_neg h) rfl
theorem bent_spot {l1 : Addr} {fd : Addr} {k1 : Nat} {xs : List Value} {marks : List Str} {fo : Obj} {rest : List (Addr × Obj)} {R : Flow → Shared → Prop} {lt : Addr} {kt : Nat} {us : List Value} {texts : List Str} {k : Nat} {tk tb : Tok} {bg : Int} {mk : Str}
    (B : Below A₀ base outer h₀) (F : Fr h₀ L s.heap m) (X : (Mine.hd.heap_1 w.params).In h₀) (N : News h₀ L s.heap ((fd, fo) :: rest)) (T : Top V loose mean mg mb h₀) (hcs : cs = bentScope)
    (hd : dp + 20 < recursionLimit) (hu : un + 500 < cLine)
    (hlt : (lt, PySem.W.listOf us.toArray kt) ∈ rest) (hus : StrsAre us texts) (hmt : m "texts" = some (.ref lt)) (hl1 : (l1, PySem.W.listOf xs.toArray k1) ∈ rest) (hx1 : StrsAre xs marks) (hmm : m "marks" = some (.ref l1)) (hmk : m "k" = some (.int k tk)) (hk : marks[k]? = some mk) (hm3 : marks.length ≤ 3) (hml : mk.length ≤ 10) (hmb : m "begin" = some (.int bg tb)) (htn : texts.length ≤ 50) (hts : ∀ y ∈ texts, y.length ≤ 1000) (hnew : (rowStr mk texts).length ≤ 1000)
    (hret : ∀ ts h' m' tk', Fr h₀ L h' m' → News h₀ L h' ((fd, fo) :: rest) → (∀ y : Str, y ≠ "spot" → m' y = m y) → m' "spot" = some (.int (bg + (rowStr mk texts).length - 1 + (if 0 < texts.length then 2 else 0)) ts) →
      wpAny (model P w) (ktrTop dp un gd cn cs L a ccd [] outer) (execs (bentBody.drop 11) (envX cn cs L a ccd [])) R E { s with heap := h', toks := tk' }) :
    wpAny (model P w) (ktrTop dp un gd cn cs L a ccd [] outer) (execs (bentBody.drop 10) (envX cn cs L a ccd [])) R E s := by
  w_on
  obtain ⟨x, hx⟩ : ∃ x, x = bentBody.getD 10 (.Pass ⟨0, 0, 0, 0⟩) := ⟨_, rfl⟩
  obtain ⟨l3, hl3⟩ : ∃ l3, l3 = bentBody.drop (10 + 1) := ⟨_, rfl⟩
  rw [bent_at 10 (by decide +kernel), ← hx, ← hl3]
  rw [← hl3] at hret
  conv at hx => rhs; whnf
  conv at hcs => rhs; whnf
  subst hx hcs
  have hul : us.length = texts.length := hus.length
  have hkl : k < marks.length := (List.getElem?_eq_some_iff.mp hk).1
  obtain ⟨mk', tm', e1, e2, e3⟩ := row_at hx1 (k := k) hkl
  rw [hk] at e1
  cases e1
  unfold rowStr at hnew
  w_strict k_steps
  · rename Fr h₀ L _ _ => kF
    rename News h₀ L _ _ => kN
    refine hold_out ?_
    exact hret _ _ _ _ kF kN (fun y h => if_neg h) (by rw [if_pos (show 0 < texts.length by omega)]; rfl)
  · rename Fr h₀ L _ _ => kF
    rename News h₀ L _ _ => kN
    refine hold_out ?_
    exact hret _ _ _ _ kF kN (fun y h => if_neg h) (by rw [if_neg (show ¬ 0 < texts.length by omega)]; rfl)
theorem bent_ret {l1 : Addr} {lr : Addr} {fd : Addr} {k1 : Nat} {kr : Nat} {xs : List Value} {vs : List Value} {marks : List Str} {rels : List (List (List Int))} {fo : Obj} {rest : List (Addr × Obj)} {R : Flow → Shared → Prop} {lt : Addr} {kt : Nat} {us : List Value} {texts : List Str} {k : Nat} {tk tb tl : Tok} {spv : Int} {mk late : Str}
    (B : Below A₀ base outer h₀) (F : Fr h₀ L s.heap m) (X : (Mine.hd.heap_1 w.params).In h₀) (N : News h₀ L s.heap ((fd, fo) :: rest)) (T : Top V loose mean mg mb h₀) (hcs : cs = bentScope)
    (hd : dp + 20 < recursionLimit) (hu : un + 500 < cLine)
    (hlt : (lt, PySem.W.listOf us.toArray kt) ∈ rest) (hus : StrsAre us texts) (hmt : m "texts" = some (.ref lt)) (hlr : (lr, PySem.W.listOf vs.toArray kr) ∈ rest) (hvs : StrsAre vs (rowsOf marks rels)) (hrl : rels.length = marks.length) (hmr : m "rows" = some (.ref lr)) (hrs : ∀ r ∈ rowsOf marks rels, r.length ≤ 900) (hl1 : (l1, PySem.W.listOf xs.toArray k1) ∈ rest) (hx1 : StrsAre xs marks) (hmm : m "marks" = some (.ref l1)) (hmk : m "k" = some (.int k tk)) (hk : marks[k]? = some mk) (hm3 : marks.length ≤ 3) (hml : mk.length ≤ 10) (hms : m "spot" = some (.int spv tb)) (hmla : m "late" = some (.str late tl)) (htn : texts.length ≤ 49) (hts : ∀ y ∈ texts, y.length ≤ 1000) (hla : late.length ≤ 1000) (hnew : (rowStr mk (texts ++ [late])).length ≤ 1000)
    (hret : ∀ t k2 ts ti h' tk', Fr h₀ L h' m → News h₀ L h' ((t, tupOf [.str (Str.join "\n" ((rowsOf marks rels).take k ++ [rowStr mk (texts ++ [late])] ++ (rowsOf marks rels).drop (k + 1))) ts, .int spv ti] k2) :: (fd, fo) :: rest) → R (.ret (.ref t)) { s with heap := h', toks := tk' }) :
    wpAny (model P w) (ktrTop dp un gd cn cs L a ccd [] outer) (execs (bentBody.drop 11) (envX cn cs L a ccd [])) R E s := by
  w_on
  obtain ⟨x, hx⟩ : ∃ x, x = bentBody.getD 11 (.Pass ⟨0, 0, 0, 0⟩) := ⟨_, rfl⟩
  obtain ⟨l3, hl3⟩ : ∃ l3, l3 = bentBody.drop (11 + 1) := ⟨_, rfl⟩
  rw [bent_at 11 (by decide +kernel), ← hx, ← hl3]
  skip
  conv at hx => rhs; whnf
  conv at hcs => rhs; whnf
  subst hx hcs
  have hul : us.length = texts.length := hus.length
  have hrn := rowsOf_len hrl
  have hvl : vs.length = marks.length := by rw [hvs.length, hrn]
  have hz9 : vs.length ≤ 100 := by omega
  have hkl : k < marks.length := (List.getElem?_eq_some_iff.mp hk).1
  obtain ⟨mk', tm', e1, e2, e3⟩ := row_at hx1 (k := k) hkl
  rw [hk] at e1
  cases e1
  have hus2 : ∀ tx, StrsAre (us ++ [Value.str late tx]) (texts ++ [late]) := fun tx => strs_app hus (.cons _ _ .nil)
  have hn2 : (texts ++ [late]).length ≤ 50 := by rw [List.length_append]; show texts.length + 1 ≤ 50; omega
  have hy2 : ∀ y ∈ texts ++ [late], y.length ≤ 1000 := fun y hy => by
    rcases List.mem_append.mp hy with h | h
    · exact hts y h
    · rw [List.mem_singleton.mp h]; exact hla
  w_strict k_steps
  refine join_at (lst_at (by assumption) (.head _)) (strs_app (strs_app (strs_take k hvs) (.cons _ _ .nil)) (strs_drop (k + 1) hvs)) (by decide +kernel) ?_ ?_ ?_
  · simp only [List.length_append, List.length_take, List.length_drop, List.length_cons, List.length_nil]; omega
  · exact mid_short hrs hnew
  intro t5 k5 hj5
  k_steps
  rename Fr h₀ L _ _ => kF
  rename News h₀ L _ _ => kN
  exact hret _ _ _ _ _ _ kF fun p hp => kN p (List.mem_cons.mpr ((List.mem_cons.mp hp).imp id fun h => by simp only [List.mem_cons] at h ⊢; rcases h with h | h <;> simp [h]))
end

-- part BF
section
open PySem PySem.W PyProof.Rows PyProof.V PySem.Spec
set_option rowWalk.seconds 0
variable {w : World} {mean : ExcName → Option Value} {mg mb : Str → Option Value} {loose : List Str}
    {dp un : Nat} {gd : Option (List Code)} {cn : Str} {cs : Scope} {a : Addr} {ccd : Value} {cl : List (Str × Addr)} {outer : List Env} {A₀ : Around} {base h₀ : Heap} {L : Addr} {m : Str → Option Value} {news : List (Addr × Obj)} {s : Shared}
    {Q E : Value → Shared → Prop}
/-- what _law_bent makes -/
inductive Bent (marks : List Str) (rels : List (List (List Int))) : Str → Int → Prop
  | none : marks.length = 0 → Bent marks rels "A={}" (-1)
  | name {k : Nat} {row : Str} : (rowsOf marks rels)[k]? = some row → Bent marks rels (Str.join "\n" ((rowsOf marks rels).take k ++ ["x" ++ row] ++ (rowsOf marks rels).drop (k + 1))) (beginOf (rowsOf marks rels) k)
  | less {k : Nat} : k < marks.length → Bent marks rels (Str.join "\n" ((rowsOf marks rels).take k ++ (rowsOf marks rels).drop (k + 1))) (-1)
  | more {row : Str} : row ∈ rowsOf marks rels → Bent marks rels (Str.join "\n" (rowsOf marks rels ++ [row])) (-1)
  | late {k : Nat} {mk b : Str} {rel : List (List Int)} : marks[k]? = some mk → rels[k]? = some rel → BadPart rel b →
      Bent marks rels (Str.join "\n" ((rowsOf marks rels).take k ++ [rowStr mk (rel.map rowText ++ [b])] ++ (rowsOf marks rels).drop (k + 1))) (beginOf (rowsOf marks rels) k + (rowStr mk (rel.map rowText)).length - 1 + (if 0 < (rel.map rowText).length then 2 else 0))
theorem join_snoc (sep : Str) : ∀ (xs : List Str) (y : Str), xs ≠ [] → Str.join sep (xs ++ [y]) = Str.join sep xs ++ sep ++ y
  | [x], y, _ => rfl
  | x :: x2 :: r, y, _ => by
    have ih := join_snoc sep (x2 :: r) y (by simp)
    show x ++ sep ++ Str.join sep ((x2 :: r) ++ [y]) = (x ++ sep ++ Str.join sep (x2 :: r)) ++ sep ++ y
    rw [ih]
    simp only [Str.append_assoc]
theorem rowText_snoc {r : List Int} (h : r ≠ []) : rowText (r ++ [0]) = rowText r ++ "->" ++ "A$0" := by
  unfold rowText
  rw [List.map_append]
  exact join_snoc _ _ _ (by simpa using h)
theorem rel_short {many : Nat} {rel : List (List Int)} (hm4 : many ≤ 4) (h : GoodRel many rel) : rel.length ≤ 4 ∧ ∀ r ∈ rel, r.length ≤ 3 := by
  obtain ⟨_, hl, wd, h1, h3, hw⟩ := h
  exact ⟨hl, fun r hr => by have := (hw r hr).1; omega⟩
theorem rowStr_len {mk : Str} {texts : List Str} (hm : mk.length ≤ 10) (hn : texts.length ≤ 5) (ht : ∀ y ∈ texts, y.length ≤ 30) : (rowStr mk texts).length ≤ 900 := by
  have h1 := join_len ", " texts
  have h2 := sum_le_of texts 30 ht
  have h3 : (", " : Str).length = 2 := by decide +kernel
  have h4 : ("={" : Str).length = 2 := by decide +kernel
  have h5 : ("}" : Str).length = 1 := by decide +kernel
  rw [h3] at h1
  unfold rowStr
  rw [Str.length_append, Str.length_append, Str.length_append, h4, h5]
  omega
theorem texts_short {many : Nat} {rel : List (List Int)} (hm4 : many ≤ 4) (h : GoodRel many rel) : ∀ y ∈ rel.map rowText, y.length ≤ 30 := fun y hy => by
  obtain ⟨r, hr, rfl⟩ := List.mem_map.mp hy
  have := rowText_len r ((rel_short hm4 h).2 r hr)
  omega
theorem rows_short {many : Nat} {marks : List Str} {rels : List (List (List Int))} (hm4 : many ≤ 4) (hmk : ∀ x ∈ marks, x.length ≤ 10) (hgr : ∀ rel ∈ rels, GoodRel many rel) : ∀ r ∈ rowsOf marks rels, r.length ≤ 900 := fun r hr => by
  obtain ⟨p, hp, rfl⟩ := List.mem_map.mp hr
  have h := List.of_mem_zip hp
  have g := hgr _ h.2
  exact rowStr_len (hmk _ h.1) (by rw [List.length_map]; have := (rel_short hm4 g).1; omega) (texts_short hm4 g)
theorem bad_short {many : Nat} {rel : List (List Int)} {b : Str} (hm4 : many ≤ 4) (h : GoodRel many rel) (hb : BadPart rel b) : b.length ≤ 30 := by
  cases hb with
  | unknown => decide +kernel
  | @twice r rest e => exact texts_short hm4 h _ (by rw [e]; exact List.mem_map.mpr ⟨r, .head _, rfl⟩)
  | @longer r rest e =>
    have := (rel_short hm4 h).2 r (by rw [e]; exact .head _)
    have := rowText_len5 (r ++ [0])
    rw [List.length_append] at this
    have e1 : [(0 : Int)].length = 1 := rfl
    omega
theorem bent_body {l1 ld fd : Addr} {k1 kd : Nat} {xs dus : List Value} {marks : List Str} {rels : List (List (List Int))} {fo : Obj} {rest : List (Addr × Obj)} {many : Nat} {R : Flow → Shared → Prop} {lc : Addr} {sp : Int} {t : Tok} {cells : List Value} {ns : List Int} {kc : Nat}
    (B : Below A₀ base outer h₀) (F : Fr h₀ L s.heap m) (X : (Mine.hd.heap_1 w.params).In h₀) (N : News h₀ L s.heap ((fd, fo) :: rest)) (T : Top V loose mean mg mb h₀) (hcs : cs = bentScope)
    (hd : dp + 20 < recursionLimit) (hu : un + 500 < cLine) (hl1 : (l1, PySem.W.listOf xs.toArray k1) ∈ rest) (hx1 : StrsAre xs marks) (hm3 : marks.length ≤ 3) (hmk : ∀ x ∈ marks, x.length ≤ 10)
    (hl2 : (ld, PySem.W.listOf dus.toArray kd) ∈ rest) (hdu : DatAll rest dus (instD rels)) (hrl : rels.length = marks.length) (hm4 : many ≤ 4) (hgr : ∀ rel ∈ rels, GoodRel many rel)
    (hne : ∀ p ∈ rest, p.1 ≠ fd) (hf : fo.IsDictOf (PySem.strKind P w) (feedOf lc sp t)) (hc : (lc, PySem.W.listOf cells.toArray kc) ∈ rest) (hi : IntsAre cells ns) (hl : ns.length ≤ 40) (hs0 : 0 ≤ sp) (hs1 : sp ≤ 200)
    (hmf : m "feed" = some (.ref fd)) (hmm : m "marks" = some (.ref l1)) (hmd : m "due" = some (.ref ld))
    (hret : ∀ t bt spv ts ti k2 fo' t' sp' h' m' tk', Bent marks rels bt spv → fo'.IsDictOf (PySem.strKind P w) (feedOf lc sp' t') → sp ≤ sp' → sp' ≤ sp + 2 → Fr h₀ L h' m' → News h₀ L h' ((t, tupOf [.str bt ts, .int spv ti] k2) :: (fd, fo') :: rest) → R (.ret (.ref t)) { s with heap := h', toks := tk' }) :
    wpAny (model P w) (ktrTop dp un gd cn cs L a ccd [] outer) (execs (bentBody.drop 0) (envX cn cs L a ccd [])) R E s := by
  have hrn := rowsOf_len hrl
  have hrs := rows_short hm4 hmk hgr
  have hrs2 : ∀ r ∈ rowsOf marks rels, r.length ≤ 1000 := fun r hr => by have := hrs r hr; omega
  refine bent_rows B F X N T hcs hd hu hl1 hx1 hm3 hmk hl2 hdu hrl hm4 hgr hmf hmm hmd fun D vs h1 m1 tk1 F1 N1 S1 O1 a1 a2 a3 a4 => ?_
  have N1' := News.swap N1
  have drop1 : ∀ {h : Heap} {t : Addr} {o fo : Obj}, News h₀ L h ((t, o) :: (fd, fo) :: (D, LCg.lst vs) :: rest) → News h₀ L h ((t, o) :: (fd, fo) :: rest) := fun N p hp => N p (by
    simp only [List.mem_cons] at hp ⊢
    rcases hp with h | h | h
    · exact .inl h
    · exact .inr (.inl h)
    · exact .inr (.inr (.inr h)))
  by_cases h0 : marks.length = 0
  · exact bent_none (s := { s with heap := h1, toks := tk1 }) B F1 X N1' T hcs hd hu (.head _) S1 hrl hm3 a4 h0 fun t2 k2 ts ti h2 tk2 F2 N2 => hret t2 _ _ ts ti k2 fo t sp h2 m1 tk2 (.none h0) hf (Int.le_refl _) (by omega) F2 (drop1 N2)
  refine bent_some (s := { s with heap := h1, toks := tk1 }) B F1 X N1' T hcs hd hu (.head _) S1 hrl hm3 a4 (by omega) fun h2 tk2 F2 N2 => ?_
  have ne1 : ∀ p ∈ (D, LCg.lst vs) :: rest, p.1 ≠ fd := ne_cons hne (O1 (fd, fo) (.head _)).symm
  refine bent_draw (s := { s with heap := h2, toks := tk2 }) B F2 X N2 T hcs hd hu (.head _) S1 hrl hm3 a4 (by omega) ne1 hf (.tail _ hc) hi hl hs0 hs1 a1 fun k way tk tw fo3 t3 h3 m3 tk3 F3 N3 D3 k3 w3 e3 b1 b2 => ?_
  have b3 := (e3 "rows" (by decide +kernel) (by decide +kernel)).trans a4
  have b4 := (e3 "marks" (by decide +kernel) (by decide +kernel)).trans a2
  have b5 := (e3 "due" (by decide +kernel) (by decide +kernel)).trans a3
  refine bent_begin (s := { s with heap := h3, toks := tk3 }) B F3 X N3 T hcs hd hu (.head _) S1 hrl hm3 b3 b1 k3 hrs2 fun tb h4 m4 tk4 F4 N4 e4 c1 => ?_
  obtain ⟨rel, hrel⟩ : ∃ rel, rels[k]? = some rel := ⟨_, List.getElem?_eq_getElem (by omega)⟩
  obtain ⟨mk, hmk9⟩ : ∃ mk, marks[k]? = some mk := ⟨_, List.getElem?_eq_getElem k3⟩
  have gr := hgr rel (List.mem_of_getElem? hrel)
  have c2 := (e4 "rows" (by decide +kernel)).trans b3
  have c3 := (e4 "marks" (by decide +kernel)).trans b4
  have c4 := (e4 "due" (by decide +kernel)).trans b5
  have c5 := (e4 "k" (by decide +kernel)).trans b1
  have c6 := (e4 "way" (by decide +kernel)).trans b2
  refine bent_texts (s := { s with heap := h4, toks := tk4 }) B F4 X N4 T hcs hd hu (.tail _ hl2) (hdu.mono fun p hp => .tail _ hp) (by omega) c4 c5 hrel hm4 gr fun Dt us h5 m5 tk5 F5 N5 O5 S5 e5 d1 => ?_
  have d2 := (e5 "rows" (by decide +kernel)).trans c2
  have d3 := (e5 "marks" (by decide +kernel)).trans c3
  have d5 := (e5 "k" (by decide +kernel)).trans c5
  have d6 := (e5 "way" (by decide +kernel)).trans c6
  have d7 := (e5 "begin" (by decide +kernel)).trans c1
  have drop2 : ∀ {h : Heap} {t : Addr} {o fo : Obj}, News h₀ L h ((t, o) :: (fd, fo) :: (Dt, LCg.lst us) :: (D, LCg.lst vs) :: rest) → News h₀ L h ((t, o) :: (fd, fo) :: rest) := fun N => drop1 fun p hp => N p (by
    simp only [List.mem_cons] at hp ⊢
    rcases hp with h | h | h
    · exact .inl h
    · exact .inr (.inl h)
    · exact .inr (.inr (.inr h)))
  by_cases w3' : way = 3
  · subst w3'
    exact bent_w3 (s := { s with heap := h5, toks := tk5 }) B F5 X N5 T hcs hd hu (.tail _ (.head _)) S1 hrl hm3 d2 hrs d5 k3 d6 d7 fun row t2 k2 ts ti h6 tk6 hrow F6 N6 => hret t2 _ _ ts ti k2 fo3 t3 (sp + 2) h6 m5 tk6 (.name hrow) D3 (by omega) (Int.le_refl _) F6 (drop2 N6)
  refine bent_p3 (s := { s with heap := h5, toks := tk5 }) B F5 X N5 T hcs hd hu d6 w3' fun h6 tk6 F6 N6 => ?_
  by_cases w4' : way = 4
  · subst w4'
    exact bent_w4 (s := { s with heap := h6, toks := tk6 }) B F6 X N6 T hcs hd hu (.tail _ (.head _)) S1 hrl hm3 d2 hrs d5 k3 d6 fun t2 k2 ts ti h7 tk7 F7 N7 => hret t2 _ _ ts ti k2 fo3 t3 (sp + 2) h7 m5 tk7 (.less k3) D3 (by omega) (Int.le_refl _) F7 (drop2 N7)
  refine bent_p4 (s := { s with heap := h6, toks := tk6 }) B F6 X N6 T hcs hd hu d6 w4' fun h7 tk7 F7 N7 => ?_
  by_cases w5' : way = 5
  · subst w5'
    exact bent_w5 (s := { s with heap := h7, toks := tk7 }) B F7 X N7 T hcs hd hu (.tail _ (.head _)) S1 hrl hm3 d2 hrs d5 k3 d6 fun row t2 k2 ts ti h8 tk8 hrow F8 N8 => hret t2 _ _ ts ti k2 fo3 t3 (sp + 2) h8 m5 tk8 (.more (List.mem_of_getElem? hrow)) D3 (by omega) (Int.le_refl _) F8 (drop2 N8)
  refine bent_p5 (s := { s with heap := h7, toks := tk7 }) B F7 X N7 T hcs hd hu d6 w5' fun h8 tk8 F8 N8 => ?_
  refine bent_l8 (s := { s with heap := h8, toks := tk8 }) B F8 X N8 T hcs hd hu fun tl h9 m9 tk9 F9 N9 e9 f1 => ?_
  have f2 := (e9 "rows" (by decide +kernel)).trans d2
  have f3 := (e9 "marks" (by decide +kernel)).trans d3
  have f5 := (e9 "k" (by decide +kernel)).trans d5
  have f6 := (e9 "way" (by decide +kernel)).trans d6
  have f7 := (e9 "begin" (by decide +kernel)).trans d7
  have f8 := (e9 "texts" (by decide +kernel)).trans d1
  have rs := rel_short hm4 gr
  have ts9 := texts_short hm4 gr
  have tn9 : (rel.map rowText).length ≤ 4 := by rw [List.length_map]; exact rs.1
  have mk10 := hmk _ (List.mem_of_getElem? hmk9)
  -- the rest, once the late tuple is known
  have tail : ∀ (b : Str) tl h10 m10 tk10, BadPart rel b → Fr h₀ L h10 m10 → News h₀ L h10 ((fd, fo3) :: (Dt, LCg.lst us) :: (D, LCg.lst vs) :: rest) → (∀ y : Str, y ≠ "late" → m10 y = m9 y) → m10 "late" = some (.str b tl) →
      wpAny (model P w) (ktrTop dp un gd cn cs L a ccd [] outer) (execs (bentBody.drop 10) (envX cn cs L a ccd [])) R E { s with heap := h10, toks := tk10 } := by
    intro b tl h10 m10 tk10 hb F10 N10 e10 g1
    have g2 := (e10 "rows" (by decide +kernel)).trans f2
    have g3 := (e10 "marks" (by decide +kernel)).trans f3
    have g5 := (e10 "k" (by decide +kernel)).trans f5
    have g7 := (e10 "begin" (by decide +kernel)).trans f7
    have g8 := (e10 "texts" (by decide +kernel)).trans f8
    have rl := rowStr_len mk10 (by omega) ts9
    refine bent_spot (s := { s with heap := h10, toks := tk10 }) B F10 X N10 T hcs hd hu (.head _) S5 g8 (.tail _ (.tail _ hl1)) hx1 g3 g5 hmk9 hm3 mk10 g7 (by omega) (fun y hy => by have := ts9 y hy; omega) (by omega) fun ts h11 m11 tk11 F11 N11 e11 i1 => ?_
    have i2 := (e11 "rows" (by decide +kernel)).trans g2
    have i3 := (e11 "marks" (by decide +kernel)).trans g3
    have i5 := (e11 "k" (by decide +kernel)).trans g5
    have i8 := (e11 "texts" (by decide +kernel)).trans g8
    have i9 := (e11 "late" (by decide +kernel)).trans g1
    have bl := bad_short hm4 gr hb
    have nl : (rowStr mk (rel.map rowText ++ [b])).length ≤ 900 := rowStr_len mk10 (by rw [List.length_append]; show _ + 1 ≤ 5; omega) fun y hy => by
      rcases List.mem_append.mp hy with h | h
      · exact ts9 y h
      · rw [List.mem_singleton.mp h]; exact bl
    exact bent_ret (s := { s with heap := h11, toks := tk11 }) B F11 X N11 T hcs hd hu (.head _) S5 i8 (.tail _ (.head _)) S1 hrl i2 hrs (.tail _ (.tail _ hl1)) hx1 i3 i5 hmk9 hm3 mk10 i1 i9 (by omega) (fun y hy => by have := ts9 y hy; omega) (by omega) (by omega)
      fun t2 k2 ts ti h12 tk12 F12 N12 => hret t2 _ _ ts ti k2 fo3 t3 (sp + 2) h12 m11 tk12 (.late hmk9 hrel hb) D3 (by omega) (Int.le_refl _) F12 (drop2 N12)
  cases rel with
  | nil => exact bent_l9n (s := { s with heap := h9, toks := tk9 }) B F9 X N9 T hcs hd hu (.head _) S5 f8 f6 rfl fun h10 tk10 F10 N10 => tail _ _ h10 m9 tk10 .unknown F10 N10 (fun _ _ => rfl) f1
  | cons r rr =>
    have hr9 : r ≠ [] := by
      obtain ⟨_, _, wd, q1, q3, q⟩ := gr
      intro e
      have := (q r (.head _)).1
      rw [e] at this
      simp at this
      omega
    have ry : (rowText r).length ≤ 30 := ts9 _ (.head _)
    have hw : way = 0 ∨ way = 1 ∨ way = 2 := by omega
    rcases hw with rfl | rfl | rfl
    · exact bent_l9b (s := { s with heap := h9, toks := tk9 }) B F9 X N9 T hcs hd hu (.head _) S5 f8 f6 rfl (by omega) (by omega) fun tl h10 m10 tk10 F10 N10 e10 g1 => tail _ _ h10 m10 tk10 (.twice rfl) F10 N10 e10 g1
    · exact bent_l9a (s := { s with heap := h9, toks := tk9 }) B F9 X N9 T hcs hd hu (.head _) S5 f8 f6 fun h10 tk10 F10 N10 => tail _ _ h10 m9 tk10 .unknown F10 N10 (fun _ _ => rfl) f1
    · exact bent_l9c (s := { s with heap := h9, toks := tk9 }) B F9 X N9 T hcs hd hu (.head _) S5 f8 f6 rfl (by omega) (by omega) fun tl h10 m10 tk10 F10 N10 e10 g1 => tail _ tl h10 m10 tk10 (.longer rfl) F10 N10 e10 (by rw [rowText_snoc hr9]; exact g1)
end

-- part BG
section
open PySem PySem.W PyProof.Rows PyProof.V PySem.Spec
set_option rowWalk.seconds 0
variable {w : World} {mean : ExcName → Option Value} {mg mb : Str → Option Value} {loose : List Str}
    {dp un : Nat} {gd : Option (List Code)} {cn : Str} {cs : Scope} {a : Addr} {ccd : Value} {cl : List (Str × Addr)} {outer : List Env} {A₀ : Around} {base h₀ : Heap} {L : Addr} {m : Str → Option Value} {news : List (Addr × Obj)} {s : Shared}
    {Q E : Value → Shared → Prop}
theorem rows_BG_1 : True := by
  k_with_none
  (k_with "k_room" => first | exact room1 (by assumption) rfl | exact room2 (by assumption) rfl | exact room3 (by assumption) rfl | ktr_room)
  (k_with "k_units" => first | exact room1 (by assumption) rfl | exact room2 (by assumption) rfl | exact room3 (by assumption) rfl | ktr_units)
  (k_with "k_mem" => assumption)
  (k_with "k_mem" => exact Above.sub (by with_reducible assumption) _ (by assumption))
  (k_with "cell_enter" => refine code_defC (by k_asm) (by k_asm) (by k_asm) (by k_asm) (by k_asm) (by exact rfl) (by exact rfl) (by assumption) (by k_is) (by k_is) (by k_room) (by exact BindsTo.of_eq rfl) (by exact rfl) (by decide +kernel) ?_ (by exact rfl) (by exact rfl) (by exact rfl); k_whole; intro _ _ _ _ _ _ _ N'_w9 Y'_w9 B'_w9 _ _ l1_w9; (try k_lt l1_w9); k_cells Y'_w9; (try simp only [List.cons_append, List.nil_append] at N'_w9); (try dsimp only); (try k_lift B'_w9); (try k_fold))
  (k_with "k_all" => assumption)
  trivial
theorem bent_tells {l1 ld fd : Addr} {k1 kd : Nat} {xs dus : List Value} {marks : List Str} {rels : List (List (List Int))} {fo : Obj} {rest : List (Addr × Obj)} {many : Nat} {lc : Addr} {sp : Int} {t : Tok} {cells : List Value} {ns : List Int} {kc : Nat}
    (B : Below A₀ base outer h₀) (F : Fr h₀ L s.heap m) (X : (Mine.hd.heap_1 w.params).In h₀) (N : News h₀ L s.heap ((fd, fo) :: rest)) (T : Top V loose mean mg mb h₀) (hk : cs.kind = .function)
    (hd : dp + 24 < recursionLimit) (hu : un + 560 < cLine) (hl1 : (l1, PySem.W.listOf xs.toArray k1) ∈ rest) (hx1 : StrsAre xs marks) (hm3 : marks.length ≤ 3) (hmk : ∀ x ∈ marks, x.length ≤ 10)
    (hl2 : (ld, PySem.W.listOf dus.toArray kd) ∈ rest) (hdu : DatAll rest dus (instD rels)) (hrl : rels.length = marks.length) (hm4 : many ≤ 4) (hgr : ∀ rel ∈ rels, GoodRel many rel)
    (hne : ∀ p ∈ rest, p.1 ≠ fd) (hf : fo.IsDictOf (PySem.strKind P w) (feedOf lc sp t)) (hc : (lc, PySem.W.listOf cells.toArray kc) ∈ rest) (hi : IntsAre cells ns) (hl : ns.length ≤ 40) (hs0 : 0 ≤ sp) (hs1 : sp ≤ 200)
    (hret : ∀ t bt spv ts ti k2 fo' t' sp' h' tk', Bent marks rels bt spv → fo'.IsDictOf (PySem.strKind P w) (feedOf lc sp' t') → sp ≤ sp' → sp' ≤ sp + 2 → Fr h₀ L h' m → News h₀ L h' ((t, tupOf [.str bt ts, .int spv ti] k2) :: (fd, fo') :: rest) → Q (.ref t) { s with heap := h', toks := tk' }) :
    wpAny (model P w) (ktrTop dp un gd cn cs L a ccd cl outer) (call (.ref 256) [.ref fd, .ref l1, .ref ld]) Q E s := by
  w_on
  refine wpAny_call ?_
  k_dflt cell_enter
  rename Fr _ _ _ _ => lF
  rename News _ _ _ _ => lN
  rename Below _ _ _ _ => lB
  rename Top _ _ _ _ _ _ => lT
  rename_i X' _ _
  refine bent_body lB lF (by assumption) lN lT rfl (by k_room) (by k_units) hl1 hx1 hm3 hmk hl2 hdu hrl hm4 hgr hne hf hc hi hl hs0 hs1 rfl rfl rfl fun t bt spv ts ti k2 fo' t' sp' h' m' tk' hB hD g0 g1 F9 N9 => ?_
  clear lF lN
  w_strict k_steps
  rename Fr h₀ L _ _ => kF
  rename News h₀ L _ _ => kN
  exact hret _ _ _ _ _ _ _ _ _ _ _ hB hD g0 g1 kF kN
end

-- part LH
section
open PySem PySem.W PyProof.Rows PyProof.V PySem.Spec
set_option rowWalk.seconds 0
variable {w : World} {mean : ExcName → Option Value} {mg mb : Str → Option Value} {loose : List Str}
    {dp un : Nat} {gd : Option (List Code)} {cn : Str} {cs : Scope} {a : Addr} {ccd : Value} {cl : List (Str × Addr)} {outer : List Env} {A₀ : Around} {base h₀ : Heap} {L : Addr} {m : Str → Option Value} {news : List (Addr × Obj)} {s : Shared}
    {Q E : Value → Shared → Prop}
theorem rows_LH_1 : True := by
  k_with_none
  (k_with "k_room" => first | exact room1 (by assumption) rfl | exact room2 (by assumption) rfl | exact room3 (by assumption) rfl | ktr_room)
  (k_with "k_units" => first | exact room1 (by assumption) rfl | exact room2 (by assumption) rfl | exact room3 (by assumption) rfl | ktr_units)
  (k_with "k_mem" => assumption)
  (k_with "k_mem" => exact Above.sub (by with_reducible assumption) _ (by assumption))
  (k_with "cell_enter" => refine code_defC (by k_asm) (by k_asm) (by k_asm) (by k_asm) (by k_asm) (by exact rfl) (by exact rfl) (by assumption) (by k_is) (by k_is) (by k_room) (by exact BindsTo.of_eq rfl) (by exact rfl) (by decide +kernel) ?_ (by exact rfl) (by exact rfl) (by exact rfl); k_whole; intro _ _ _ _ _ _ _ N'_w9 Y'_w9 B'_w9 _ _ l1_w9; (try k_lt l1_w9); k_cells Y'_w9; (try simp only [List.cons_append, List.nil_append] at N'_w9); (try dsimp only); (try k_lift B'_w9); (try k_fold))
  (k_with "k_all" => assumption)
  (k_with "execs cons" => k_here; (with_reducible show wpAny _ _ _ _ _ (Shared.mk _ _ _ (_ + _) _)); (refine gen_toks ?_); intro _)
  (k_with "execs nil" => k_here; (with_reducible show wpAny _ _ _ _ _ (Shared.mk _ _ _ (_ + _) _)); (refine gen_toks ?_); intro _)
  (k_with "eval Name" => k_here; k_dflt (refine nameX_L (by k_asm) (by first | assumption | exact rfl) ?_; k_whole))
  (k_with "k_mem" => first | assumption | exact List.Mem.head _ | exact List.Mem.tail _ (by assumption) | exact List.Mem.tail _ (List.Mem.tail _ (by assumption)) | exact List.Mem.tail _ (List.Mem.tail _ (List.Mem.tail _ (by assumption))) | ((repeat refine List.Mem.tail _ ?_); first | assumption | exact List.Mem.head _))
  (k_with "call ref" => k_here; (with_reducible show wpAny _ _ (call (Value.ref 220) _) _ _ _); k_dflt (refine draw_N (by k_asm) (by k_asm) (by k_asm) (by k_asm) (by k_asm) (by exact rfl) (by k_room) (by k_units) (by k_updF) (by assumption) (by k_mem) (by assumption) (by first | assumption | omega) (by omega) (by omega) (by omega) (by omega) ?_); intro _ _ _ _ _ _ _ _ _ _)
  (k_with "eval Name" => k_here; k_dflt (refine nameX_C (by k_asm) (by exact rfl) (by k_mem) (by assumption) ?_; k_whole))
  (k_with "storeName" => k_here; k_dflt (refine storeX_C (by k_asm) (by k_asm) (by exact rfl) (by k_updF) (by assumption) ?_); intro _ _ _ N'_w9 _; (try dsimp only at N'_w9))
  (k_with "subscriptTail Name Slice ref ref" => k_here; (with_reducible show wpAny _ _ (subscriptTail _ (PySem.Expr.Slice none (some _) none _) (Value.ref _) (Value.ref _)) _ _ _); k_dflt (refine slice_tupL (s := ⟨_, _, _, _, _⟩) (by k_asm) (by k_asm) (by exact top_tup (by k_asm) (by k_asm) (by k_is)) (by first | exact rfl | exact (Int.natCast_add 1 _).symm) (by (simp only [List.length_cons, List.length_nil]; omega)) (by decide) ?_ (by with_unfolding_all rfl) (by (intro _; with_unfolding_all rfl))); intro _ _ _ _ _)
  (k_with "call type:list" => k_here; (with_reducible show wpAny _ _ (call (Value.type _) [Value.ref _]) _ _ _); k_dflt (refine list_tupL (by k_asm) (by k_asm) (by assumption) (by (rw [List.length_take]; simp only [List.length_cons, List.length_nil]; omega)) ?_); intro _ _ _ _ _ l9_w9; (try k_lt l9_w9))
  (k_with "call ref" => k_here; (with_reducible show wpAny _ _ (call (Value.ref 207) _ _) _ _ _); k_dflt (refine universe_atoms (by k_asm) (by k_asm) (by k_asm) (by k_asm) (by k_asm) (by exact rfl) (by k_room) (by k_units) (by assumption) (by k_mem) ?_); intro _ _ _ _ _ _ _ _ _ _ _ _ _ _ _ _ _ _ _)
  (k_with "storeName" => k_here; k_dflt (refine storeX_L (by k_asm) (by k_asm) ?_ (by rfl) (by rfl)); intro _ _ _; (refine hold_in ?_))
  (k_with "subscriptTail Name Slice str ref" => k_here; first | ((with_reducible show wpAny _ _ (subscriptTail _ (Expr.Slice (some _) (some _) none _) _ _) _ _ _); (refine slice_is (s := ⟨_, _, _, _, _⟩) (by k_asm) (by k_asm) (by assumption) (by assumption) ?_ (by with_unfolding_all rfl) (by (intro _; with_unfolding_all rfl)))) | ((with_reducible show wpAny _ _ (subscriptTail _ (Expr.Slice none (some _) none _) _ _) _ _ _); (refine slice_pre (s := ⟨_, _, _, _, _⟩) (by k_asm) (by k_asm) (by assumption) (by assumption) ?_ (by with_unfolding_all rfl) (by (intro _; with_unfolding_all rfl)))); intro _ _ _ _ _)
  trivial
theorem slice_short (x : Str) {k : Nat} (h : k ≤ x.length) : (Txt.slice x none (some (k : Int))).length ≤ x.length := by
  rw [slice_to x h]
  simp only [Str.length, List.size_toArray, List.length_take]
  exact Nat.le_trans (Nat.min_le_left _ _) h
theorem rows_LH_2 : True := by
  (k_with "k_updF" => assumption)
  (k_with "call ref" => k_here; (with_reducible show wpAny _ _ (call (Value.ref 256) _) _ _ _); k_dflt (refine bent_tells (by k_asm) (by k_asm) (by k_asm) (by k_asm) (by k_asm) (by exact rfl) (by k_room) (by k_units) (by assumption) (by assumption) (by assumption) (by assumption) (by assumption) (by assumption) (by assumption) (by assumption) (by assumption) (by assumption) (by assumption) (by assumption) (by assumption) (by assumption) (by omega) (by omega) ?_); intro _ _ _ _ _ _ _ _ _ _ _ _ _ _ _ _ _)
  (k_with "call ref" => k_here; (with_reducible show wpAny _ _ (call (Value.ref 251) _) _ _ _); k_dflt (refine refused_tells (by k_asm) (by k_asm) (by exact ‹Frag.In _ h₀›) (by k_asm) (by exact ‹Top _ _ _ _ _ h₀›) (by exact rfl) (by exact ‹Frag.In _ base›) (by exact ‹Top _ _ _ _ _ base›) (by k_room) (by k_units) (by assumption) (by assumption) (by assumption) (by assumption) (by assumption) (by assumption) (by assumption) (by assumption) (by assumption) (by assumption) (by assumption) ?_); intro _ _ _ _)
  trivial
theorem law_h {l1 : Addr} {ld : Addr} {fd : Addr} {u : Addr} {c1 : Addr} {c2 : Addr} {k1 : Nat} {kd : Nat} {xs : List Value} {dus : List Value} {marks : List Str} {rels : List (List (List Int))} {fo : Obj} {rest : List (Addr × Obj)} {sp : Int} {many : Nat} {ns : List Int} {R : Flow → Shared → Prop} 
    (B : Below A₀ base [] h₀) (F : Fr h₀ L s.heap m) (X : (Mine.hd.heap_1 w.params).In h₀) (N : News h₀ L s.heap ((fd, fo) :: rest)) (T : Top V loose mean mg mb h₀) (hcs : cs = lawScope)
    (hd : dp + 40 < recursionLimit) (hu : un + 1000 < cLine) (S : LawSt w c1 c2 ns fd fo rest sp many u) (hs0 : 0 ≤ sp) (hs1 : sp ≤ 100) (hl1 : (l1, PySem.W.listOf xs.toArray k1) ∈ rest) (hx1 : StrsAre xs marks) (hm3 : marks.length ≤ 3) (hmk : ∀ x ∈ marks, x.length ≤ 10) (hl2 : (ld, PySem.W.listOf dus.toArray kd) ∈ rest) (hdu : DatAll rest dus (instD rels)) (hrl : rels.length = marks.length) (hgr : ∀ rel ∈ rels, GoodRel many rel) (hm' : m "marks" = some (.ref l1)) (hm'' : m "due" = some (.ref ld))
    (hret : ∀ bt spv ts ti fo sp h' m' tk', Bent marks rels bt spv → Fr h₀ L h' m' → News h₀ L h' ((fd, fo) :: rest) → LawSt w c1 c2 ns fd fo rest sp many u → 0 ≤ sp → sp ≤ 102 → (∀ y : Str, y ≠ "bent" → y ≠ "spot" → m' y = m y) → m' "bent" = some (.str bt ts) → m' "spot" = some (.int spv ti) →
      wpAny (model P w) (ktrTop dp un gd cn cs L a ccd [("many", c2), ("feed", c1)] []) (execs (lawBody.drop 10) (envX cn cs L a ccd [("many", c2), ("feed", c1)])) R E { s with heap := h', toks := tk' }) :
    wpAny (model P w) (ktrTop dp un gd cn cs L a ccd [("many", c2), ("feed", c1)] []) (execs (lawBody.drop 9) (envX cn cs L a ccd [("many", c2), ("feed", c1)])) R E s := by
  w_on
  obtain ⟨x, hx⟩ : ∃ x, x = lawBody.getD 9 (.Pass ⟨0, 0, 0, 0⟩) := ⟨_, rfl⟩
  obtain ⟨l3, hl3⟩ : ∃ l3, l3 = lawBody.drop (9 + 1) := ⟨_, rfl⟩
  rw [law_at 9 (by decide +kernel), ← hx, ← hl3]
  rw [← hl3] at hret
  conv at hx => rhs; whnf
  conv at hcs => rhs; whnf
  subst hx hcs
  obtain ⟨dx, nt, nd, e1, e2, t1, t2, kk, k3, uxs, lc, cells, kc, o1, o2, t, tm, hne, hf, hc, hi, hc1, ho1, hc2, ho2, hm1, hm4, hU⟩ := S
  have h40 := take40 (ns := ns)
  w_strict k_steps
  refine hold_out ?_
  k_steps
  refine hold_out ?_
  k_steps
  rename Fr h₀ L _ _ => kF
  rename News h₀ L _ _ => kN
  rename Obj.IsDictOf _ _ (feedOf lc _ _) => hfd
  rename Bent _ _ _ _ => hB
  rename (_ ≤ sp + 2) => g1
  rename (sp ≤ _) => g0
  exact hret _ _ _ _ _ _ _ _ _ hB kF (fun p hp => kN p (.tail _ hp)) ⟨dx, nt, nd, e1, e2, t1, t2, kk, k3, uxs, lc, cells, kc, o1, o2, _, tm, hne, hfd, hc, hi, hc1, ho1, hc2, ho2, hm1, hm4, hU⟩ (by omega) (by omega) (fun y q1 q2 => by first | exact (if_neg q1).trans (if_neg q2) | exact (if_neg q2).trans (if_neg q1)) rfl rfl
theorem law_i {l1 : Addr} {fd : Addr} {u : Addr} {c1 : Addr} {c2 : Addr} {k1 : Nat} {xs : List Value} {marks : List Str} {fo : Obj} {rest : List (Addr × Obj)} {sp : Int} {many : Nat} {ns : List Int} {R : Flow → Shared → Prop} {bt : Str} {spv off : Int} {ts ti : Tok}
    (B : Below A₀ base [] h₀) (F : Fr h₀ L s.heap m) (X : (Mine.hd.heap_1 w.params).In h₀) (N : News h₀ L s.heap ((fd, fo) :: rest)) (T : Top V loose mean mg mb h₀) (hcs : cs = lawScope)
    (hd : dp + 40 < recursionLimit) (hu : un + 1000 < cLine) (XB : (Mine.hd.heap_1 w.params).In base) (TB : Top V loose mean mg mb base) (S : LawSt w c1 c2 ns fd fo rest sp many u) (hl1 : (l1, PySem.W.listOf xs.toArray k1) ∈ rest) (hx1 : StrsAre xs marks) (hm3 : marks.length ≤ 3) (hmk : ∀ x ∈ marks, x.length ≤ 10) (hm : m "where" = some (.ref u)) (hm' : m "marks" = some (.ref l1)) (hmb : m "bent" = some (.str bt ts)) (hms : m "spot" = some (.int spv ti)) (hO : ReadOut many marks bt (.error off)) (h0 : 0 ≤ off) (hs : off = spv ∨ spv = -1 ∧ off ≤ bt.length) (htl : bt.length ≤ 5000)
    (hret : ∀ h' tk', Fr h₀ L h' m → News h₀ L h' ((fd, fo) :: rest) →
      wpAny (model P w) (ktrTop dp un gd cn cs L a ccd [("many", c2), ("feed", c1)] []) (execs (lawBody.drop 11) (envX cn cs L a ccd [("many", c2), ("feed", c1)])) R E { s with heap := h', toks := tk' }) :
    wpAny (model P w) (ktrTop dp un gd cn cs L a ccd [("many", c2), ("feed", c1)] []) (execs (lawBody.drop 10) (envX cn cs L a ccd [("many", c2), ("feed", c1)])) R E s := by
  w_on
  obtain ⟨x, hx⟩ : ∃ x, x = lawBody.getD 10 (.Pass ⟨0, 0, 0, 0⟩) := ⟨_, rfl⟩
  obtain ⟨l3, hl3⟩ : ∃ l3, l3 = lawBody.drop (10 + 1) := ⟨_, rfl⟩
  rw [law_at 10 (by decide +kernel), ← hx, ← hl3]
  rw [← hl3] at hret
  conv at hx => rhs; whnf
  conv at hcs => rhs; whnf
  subst hx hcs
  obtain ⟨dx, nt, nd, e1, e2, t1, t2, kk, k3, uxs, lc, cells, kc, o1, o2, t, tm, hne, hf, hc, hi, hc1, ho1, hc2, ho2, hm1, hm4, hU⟩ := S
  have h40 := take40 (ns := ns)
  have hU9 : UnivAt ((fd, fo) :: rest) u dx nt nd e1 e2 t1 t2 kk k3 uxs many := hU.mono fun p hp => .tail _ hp
  have hl19 := List.Mem.tail (fd, fo) hl1
  clear hl1 hU
  w_strict k_steps
  exact hret _ _ (by assumption) (by assumption)
theorem law_j {fd : Addr} {u : Addr} {c1 : Addr} {c2 : Addr} {fo : Obj} {rest : List (Addr × Obj)} {sp : Int} {many : Nat} {ns : List Int} {text : Str} {tt : Tok} {R : Flow → Shared → Prop} 
    (B : Below A₀ base [] h₀) (F : Fr h₀ L s.heap m) (X : (Mine.hd.heap_1 w.params).In h₀) (N : News h₀ L s.heap ((fd, fo) :: rest)) (T : Top V loose mean mg mb h₀) (hcs : cs = lawScope)
    (hd : dp + 40 < recursionLimit) (hu : un + 1000 < cLine) (S : LawSt w c1 c2 ns fd fo rest sp many u) (hs0 : 0 ≤ sp) (hs1 : sp ≤ 102) (hmt : m "text" = some (.str text tt)) (htl : text.length ≤ 5000)
    (hret : ∀ (c : Nat) tc fo h' m' tk', Fr h₀ L h' m' → News h₀ L h' ((fd, fo) :: rest) → LawSt w c1 c2 ns fd fo rest (sp + 1) many u → c ≤ text.length → (∀ y : Str, y ≠ "cut" → m' y = m y) → m' "cut" = some (.int c tc) →
      wpAny (model P w) (ktrTop dp un gd cn cs L a ccd [("many", c2), ("feed", c1)] []) (execs (lawBody.drop 12) (envX cn cs L a ccd [("many", c2), ("feed", c1)])) R E { s with heap := h', toks := tk' }) :
    wpAny (model P w) (ktrTop dp un gd cn cs L a ccd [("many", c2), ("feed", c1)] []) (execs (lawBody.drop 11) (envX cn cs L a ccd [("many", c2), ("feed", c1)])) R E s := by
  w_on
  obtain ⟨x, hx⟩ : ∃ x, x = lawBody.getD 11 (.Pass ⟨0, 0, 0, 0⟩) := ⟨_, rfl⟩
  obtain ⟨l3, hl3⟩ : ∃ l3, l3 = lawBody.drop (11 + 1) := ⟨_, rfl⟩
  rw [law_at 11 (by decide +kernel), ← hx, ← hl3]
  rw [← hl3] at hret
  conv at hx => rhs; whnf
  conv at hcs => rhs; whnf
  subst hx hcs
  obtain ⟨dx, nt, nd, e1, e2, t1, t2, kk, k3, uxs, lc, cells, kc, o1, o2, t, tm, hne, hf, hc, hi, hc1, ho1, hc2, ho2, hm1, hm4, hU⟩ := S
  have h40 := take40 (ns := ns)
  have hUF : UpdF fd fo ((fd, fo) :: rest) (fun o' => (fd, o') :: rest) := .head hne
  w_strict k_steps
  refine hold_out ?_
  k_steps
  rename Fr h₀ L _ _ => kF
  rename News h₀ L _ _ => kN
  rename Obj.IsDictOf _ _ (feedOf lc (sp + 1) _) => hfd
  exact hret _ _ _ _ _ _ kF kN ⟨dx, nt, nd, e1, e2, t1, t2, kk, k3, uxs, lc, cells, kc, o1, o2, _, tm, hne, hfd, hc, hi, hc1, ho1, hc2, ho2, hm1, hm4, hU⟩ (by omega) (fun y q1 => if_neg q1) rfl
theorem law_k {l1 : Addr} {fd : Addr} {u : Addr} {c1 : Addr} {c2 : Addr} {k1 : Nat} {xs : List Value} {marks : List Str} {fo : Obj} {rest : List (Addr × Obj)} {sp : Int} {many : Nat} {ns : List Int} {text : Str} {tt : Tok} {R : Flow → Shared → Prop} {c : Nat} {tc : Tok}
    (B : Below A₀ base [] h₀) (F : Fr h₀ L s.heap m) (X : (Mine.hd.heap_1 w.params).In h₀) (N : News h₀ L s.heap ((fd, fo) :: rest)) (T : Top V loose mean mg mb h₀) (hcs : cs = lawScope)
    (hd : dp + 40 < recursionLimit) (hu : un + 1000 < cLine) (XB : (Mine.hd.heap_1 w.params).In base) (TB : Top V loose mean mg mb base) (S : LawSt w c1 c2 ns fd fo rest sp many u) (hl1 : (l1, PySem.W.listOf xs.toArray k1) ∈ rest) (hx1 : StrsAre xs marks) (hm3 : marks.length ≤ 3) (hmk : ∀ x ∈ marks, x.length ≤ 10) (hm : m "where" = some (.ref u)) (hm' : m "marks" = some (.ref l1)) (hmt : m "text" = some (.str text tt)) (hmc : m "cut" = some (.int c tc)) (hc : c ≤ text.length) (htl : text.length ≤ 5000) (hcut : c < text.length → ∃ off, ReadOut many marks (Txt.slice text none (some (c : Int))) (.error off) ∧ 0 ≤ off ∧ off ≤ (Txt.slice text none (some (c : Int))).length)
    (hret : ∀ h' tk', Fr h₀ L h' m → News h₀ L h' ((fd, fo) :: rest) → R (.ret (.bool true)) { s with heap := h', toks := tk' }) :
    wpAny (model P w) (ktrTop dp un gd cn cs L a ccd [("many", c2), ("feed", c1)] []) (execs (lawBody.drop 12) (envX cn cs L a ccd [("many", c2), ("feed", c1)])) R E s := by
  w_on
  obtain ⟨x, hx⟩ : ∃ x, x = lawBody.getD 12 (.Pass ⟨0, 0, 0, 0⟩) := ⟨_, rfl⟩
  obtain ⟨l3, hl3⟩ : ∃ l3, l3 = lawBody.drop (12 + 1) := ⟨_, rfl⟩
  rw [law_at 12 (by decide +kernel), ← hx, ← hl3]
  conv at hx => rhs; whnf
  conv at hcs => rhs; whnf
  subst hx hcs
  obtain ⟨dx, nt, nd, e1, e2, t1, t2, kk, k3, uxs, lc, cells, kc, o1, o2, t, tm, hne, hf, hlc, hi, hc1, ho1, hc2, ho2, hm1, hm4, hU⟩ := S
  have h40 := take40 (ns := ns)
  have hU9 : UnivAt ((fd, fo) :: rest) u dx nt nd e1 e2 t1 t2 kk k3 uxs many := hU.mono fun p hp => .tail _ hp
  have hl19 := List.Mem.tail (fd, fo) hl1
  clear hl1 hU
  have hx9 : text.length ≤ sizeLine := by rw [sizeLine_eq]; omega
  by_cases hcc : c = text.length
  · have e : ((c : Int) == (text.length : Int)) = true := by rw [hcc]; exact beq_self_eq_true _
    clear hcut hU9
    w_strict k_steps
    all_goals first | (rw [e]; exact hret _ _ F N) | (exfalso; simp_all)
  · have e : ((c : Int) == (text.length : Int)) = false := beq_eq_false_iff_ne.mpr (by omega)
    obtain ⟨off, hO, h0, ho⟩ := hcut (by omega)
    obtain ⟨sl, hsl⟩ : ∃ sl, Txt.slice text none (some (c : Int)) = sl := ⟨_, rfl⟩
    have hsn : sl.length ≤ 5000 := by rw [← hsl]; exact Nat.le_trans (slice_short _ hc) htl
    rw [hsl] at hO ho
    have hs9 : off = -1 ∨ (-1 : Int) = -1 ∧ off ≤ (sl.length : Int) := .inr ⟨rfl, ho⟩
    clear hcut
    w_strict k_steps
    all_goals first | exact hret _ _ (by assumption) (by assumption) | (exfalso; simp_all)
end

-- part LZ
section
open PySem PySem.W PyProof.Rows PyProof.V PySem.Spec
set_option rowWalk.seconds 0
variable {w : World} {mean : ExcName → Option Value} {mg mb : Str → Option Value} {loose : List Str}
    {dp un : Nat} {gd : Option (List Code)} {cn : Str} {cs : Scope} {a : Addr} {ccd : Value} {cl : List (Str × Addr)} {outer : List Env} {A₀ : Around} {base h₀ : Heap} {L : Addr} {m : Str → Option Value} {news : List (Addr × Obj)} {s : Shared}
    {Q E : Value → Shared → Prop}
/-- what is asked of the texts, in plain words -/
structure PlainOk (many : Nat) (marks : List Str) (rels : List (List (List Int))) : Prop where
  own : ReadOut many marks (wholeText marks rels) (.ok rels)
  len : (wholeText marks rels).length ≤ 5000
  same : ∀ rels', Sorts rels' rels → rels' = rels
  own2 : ReadOut many marks (wholeText marks (rels.map List.reverse)) (.ok (rels.map List.reverse))
  len2 : (wholeText marks (rels.map List.reverse)).length ≤ 5000
  same2 : ∀ rels', Sorts rels' (rels.map List.reverse) → rels' = rels
  bent : ∀ bt spv, Bent marks rels bt spv → ∃ off, ReadOut many marks bt (.error off) ∧ 0 ≤ off ∧ (off = spv ∨ spv = -1 ∧ off ≤ bt.length) ∧ bt.length ≤ 5000
  cut : ∀ c, c < (wholeText marks rels).length → ∃ off, ReadOut many marks (Txt.slice (wholeText marks rels) none (some (c : Int))) (.error off) ∧ 0 ≤ off ∧ off ≤ (Txt.slice (wholeText marks rels) none (some (c : Int))).length
theorem law_all {c1 c2 l : Addr} {o1 o2 : Obj} {vs : List Value} {ns : List Int} {R : Flow → Shared → Prop}
    (PL : ∀ many n rels, 1 ≤ many → many ≤ 4 → n ≤ 3 → rels.length = (relNames.take n).length → (∀ rel ∈ rels, GoodRel many rel) → PlainOk many (relNames.take n) rels)
    (B : Below A₀ base [] h₀) (F : Fr h₀ L s.heap m) (X : (Mine.hd.heap_1 w.params).In h₀) (N : News h₀ L s.heap [(c2, o2), (c1, o1)]) (T : Top V loose mean mg mb h₀) (hcs : cs = lawScope)
    (XB : (Mine.hd.heap_1 w.params).In base) (TB : Top V loose mean mg mb base)
    (hd : dp + 40 < recursionLimit) (hu : un + 1000 < cLine) (ho1 : o1.data = .cell none) (ho2 : o2.data = .cell none) (h12 : @LT.lt Nat _ c1 c2)
    (hm : m "script" = some (.ref l)) (hl : h₀.IsList l vs.toArray) (hi : IntsAre vs ns) (h63 : ns.length ≤ 63)
    (hret : ∀ fd fo rest h' m' tk', Fr h₀ L h' m' → News h₀ L h' ((fd, fo) :: rest) → R (.ret (.bool true)) { s with heap := h', toks := tk' }) :
    wpAny (model P w) (ktrTop dp un gd cn cs L a ccd [("many", c2), ("feed", c1)] []) (execs lawBody (envX cn cs L a ccd [("many", c2), ("feed", c1)])) R E s := by
  refine law_a B F X N T hcs hd hu ho1 ho2 h12 hm hl hi h63 fun u fd fo rest many h1 m1 tk1 F1 N1 S1 a1 => ?_
  refine law_b (s := { s with heap := h1, toks := tk1 }) B F1 X N1 T hcs hd hu S1 a1 fun l1 xs k1 fo2 rest2 n h2 m2 tk2 F2 N2 S2 hl1 hx1 hn b1 b2 => ?_
  have hml := relNames_len hn
  have hm3 : (relNames.take n).length ≤ 3 := by omega
  have hmk := relNames_short n
  refine law_c (s := { s with heap := h2, toks := tk2 }) B F2 X N2 T hcs hd hu S2 hl1 hx1 hm3 b1 b2 fun ld dus kd rels sp fo3 rest3 h3 m3 tk3 F3 N3 S3 s0 s1 hl13 hl23 hdu hrl hgr d1 d2 d3 => ?_
  obtain ⟨hm1, hm4⟩ : 1 ≤ many ∧ many ≤ 4 := by
    obtain ⟨_, _, _, _, _, _, _, _, _, _, _, _, _, _, _, _, _, _, _, _, _, _, _, _, _, q1, q2, _⟩ := S3
    exact ⟨q1, q2⟩
  have PK := PL many n rels hm1 hm4 hn hrl hgr
  refine law_d (s := { s with heap := h3, toks := tk3 }) B F3 X N3 T hcs hd hu S3 hl13 hx1 hm3 hmk hl23 hdu hrl hgr d1 d2 d3 fun tt h4 m4 tk4 F4 N4 e1 e2 e3 e4 => ?_
  refine law_e (s := { s with heap := h4, toks := tk4 }) B F4 X N4 T hcs hd hu S3 hl13 hx1 hm3 hmk hl23 hdu hrl hgr e1 e2 e3 e4 PK.own PK.len PK.same fun h5 tk5 F5 N5 => ?_
  refine law_f (s := { s with heap := h5, toks := tk5 }) B F5 X N5 T hcs hd hu S3 hl13 hx1 hm3 hmk hl23 hdu hrl hgr e1 e2 e3 e4 fun tt6 h6 m6 tk6 F6 N6 f1 f2 f3 f4 f5 => ?_
  refine law_g (s := { s with heap := h6, toks := tk6 }) B F6 X N6 T hcs hd hu S3 hl13 hx1 hm3 hmk hl23 hdu hrl hgr f1 f2 f3 f5 PK.own2 PK.len2 PK.same2 fun h7 tk7 F7 N7 => ?_
  refine law_h (s := { s with heap := h7, toks := tk7 }) B F7 X N7 T hcs hd hu S3 s0 s1 hl13 hx1 hm3 hmk hl23 hdu hrl hgr f2 f3 fun bt spv ts ti fo8 sp8 h8 m8 tk8 hB F8 N8 S8 s08 s18 e8 g1 g2 => ?_
  have g3 := (e8 "where" (by decide +kernel) (by decide +kernel)).trans f1
  have g4 := (e8 "marks" (by decide +kernel) (by decide +kernel)).trans f2
  have g5 := (e8 "text" (by decide +kernel) (by decide +kernel)).trans f4
  obtain ⟨off, hO, h0, hs, hbl⟩ := PK.bent bt spv hB
  refine law_i (s := { s with heap := h8, toks := tk8 }) B F8 X N8 T hcs hd hu XB TB S8 hl13 hx1 hm3 hmk g3 g4 g1 g2 hO h0 hs hbl fun h9 tk9 F9 N9 => ?_
  refine law_j (s := { s with heap := h9, toks := tk9 }) B F9 X N9 T hcs hd hu S8 s08 s18 g5 PK.len fun c tc fo10 h10 m10 tk10 F10 N10 S10 hc e10 i1 => ?_
  have i3 := (e10 "where" (by decide +kernel)).trans g3
  have i4 := (e10 "marks" (by decide +kernel)).trans g4
  have i5 := (e10 "text" (by decide +kernel)).trans g5
  exact law_k (s := { s with heap := h10, toks := tk10 }) B F10 X N10 T hcs hd hu XB TB S10 hl13 hx1 hm3 hmk i3 i4 i5 i1 hc PK.len (fun h => PK.cut c h) fun h11 tk11 F11 N11 => hret _ _ _ _ _ _ F11 N11
end

-- part LY
section
open PySem PySem.W PyProof.Rows PyProof.V PySem.Spec
set_option rowWalk.seconds 0
variable {w : World} {mean : ExcName → Option Value} {mg mb : Str → Option Value} {loose : List Str}
    {dp un : Nat} {gd : Option (List Code)} {cn : Str} {cs : Scope} {a : Addr} {ccd : Value} {cl : List (Str × Addr)} {outer : List Env} {A₀ : Around} {base h₀ : Heap} {L : Addr} {m : Str → Option Value} {news : List (Addr × Obj)} {s : Shared}
    {Q E : Value → Shared → Prop}
theorem law_cells (L : Addr) : cellsFrom (L + 1) lawScope.names [] = [(Str.ofString "many", L + 1 + 1), (Str.ofString "feed", L + 1)] := by
  rfl
theorem law_enter {name : Str} {scope : Scope} {body : List Stmt} {l fa : Addr} {cd : Value} {o1 o2 : Obj} {vs : List Value} {ns : List Int} {R : Flow → Shared → Prop}
    (PL : ∀ many n rels, 1 ≤ many → many ≤ 4 → n ≤ 3 → rels.length = (relNames.take n).length → (∀ rel ∈ rels, GoodRel many rel) → PlainOk many (relNames.take n) rels)
    (hb : body = lawBody) (hs : scope = lawScope)
    (F : Fr h₀ L s.heap m) (X : (Mine.hd.heap_1 w.params).In h₀) (N : News h₀ L s.heap [(L + 1 + 1, o2), (L + 1, o1)]) (T : Top V loose mean mg mb h₀)
    (ho1 : o1.data = .cell none) (ho2 : o2.data = .cell none)
    (hm : m "script" = some (.ref l)) (hl : h₀.IsList l vs.toArray) (hi : IntsAre vs ns) (h63 : ns.length ≤ 63)
    (hret : ∀ fd fo rest h' m' tk', Fr h₀ L h' m' → News h₀ L h' ((fd, fo) :: rest) → R (.ret (.bool true)) { s with heap := h', toks := tk' }) :
    wpAny (model P w) (callerA.deeper (envOfC name scope L fa cd)) (execs body (envOfC name scope L fa cd)) R E s := by
  subst hb hs
  have e : envOfC name lawScope L fa cd = envX name lawScope L fa cd [("many", L + 1 + 1), ("feed", L + 1)] := by
    unfold envOfC
    rw [law_cells]
  rw [e]
  exact law_all (dp := 1 + claimMargin + 1) (un := 7) (gd := some []) PL (below_caller h₀) F X N T rfl X T (by decide +kernel) (by decide +kernel) ho1 ho2 (Nat.lt_succ_self _) hm hl hi h63 hret
end

-- part FZ
section
open PySem PySem.W PyProof.Rows PyProof.V PySem.Spec
set_option rowWalk.seconds 0
variable {w : World} {mean : ExcName → Option Value} {mg mb : Str → Option Value} {loose : List Str}
    {dp un : Nat} {gd : Option (List Code)} {cn : Str} {cs : Scope} {a : Addr} {ccd : Value} {cl : List (Str × Addr)} {outer : List Env} {A₀ : Around} {base h₀ : Heap} {L : Addr} {m : Str → Option Value} {news : List (Addr × Obj)} {s : Shared}
    {Q E : Value → Shared → Prop}
theorem tryout (PL : ∀ many n rels, 1 ≤ many → many ≤ 4 → n ≤ 3 → rels.length = (relNames.take n).length → (∀ rel ∈ rels, GoodRel many rel) → PlainOk many (relNames.take n) rels) : PySem.Challenge.rw_nu0241_01.Holds := by
  refine Mine.hd ?_
  w_strict (k_go0; (all_goals try k_fold))
  rename Frag.In _ _ => gX
  rename Top _ _ _ _ _ _ => gT
  rename Fr _ _ _ _ => gF
  rename News _ _ _ _ => gN
  rename IntsAre _ _ => gI
  rename Heap.IsList _ _ _ => gL
  rename (¬ _ < _) => g63
  rename (Obj.data _ = Data.cell (bindC _ _ _ (Str.ofString "many"))) => gm
  rename (Obj.data _ = Data.cell (bindC _ _ _ (Str.ofString "feed"))) => gf
  refine' law_enter PL ?hb ?hs ?F ?X ?N ?T ?c1 ?c2 ?m ?L ?I ?c5 ?c6
  case F => exact gF
  case X => exact gX
  case N => exact gN
  case T => exact gT
  case c1 => exact gf
  case c2 => exact gm
  case L => exact gL
  case I => exact gI
  case c5 => omega
  case hb => rfl
  case hs => rfl
  case m => rfl
  case c6 =>
    intro fd fo rest h' m' tk' F' N'
    k_steps

end

-- part P1
section
open PySem PySem.W PyProof.Rows PyProof.V PySem.Spec
set_option rowWalk.seconds 0
variable {w : World} {mean : ExcName → Option Value} {mg mb : Str → Option Value} {loose : List Str}
    {dp un : Nat} {gd : Option (List Code)} {cn : Str} {cs : Scope} {a : Addr} {ccd : Value} {cl : List (Str × Addr)} {outer : List Env} {A₀ : Around} {base h₀ : Heap} {L : Addr} {m : Str → Option Value} {news : List (Addr × Obj)} {s : Shared}
    {Q E : Value → Shared → Prop}
open Builtin Builtin.Str StrLaws
/-- a line: no line's end within, not empty -/
def LineOk (r : Str) : Prop := 10 ∉ sg r ∧ 1 ≤ r.length
theorem join_ne {sep q : Str} {qs : List Str} (h : 1 ≤ q.length) : Str.join sep (q :: qs) ≠ "" := by
  intro e
  have h1 := join_some sep q qs
  rw [e] at h1
  have : ("" : Str).length = 0 := by decide +kernel
  omega
theorem split_lines {qs : List Str} (hne : qs ≠ []) (h : ∀ q ∈ qs, 10 ∉ sg q) : Txt.split (Str.join "\n" qs) "\n" = qs :=
  split_join (c0 := 10) (yt := []) (by decide +kernel) (by decide +kernel) hne h
theorem lines_join {qs : List Str} (h : ∀ q ∈ qs, LineOk q) : linesOf (Str.join "\n" qs) = qs := by
  unfold linesOf
  match qs with
  | [] => rw [if_pos (show Str.join "\n" [] = "" by decide +kernel)]
  | q :: r =>
    rw [if_neg (join_ne (h q (.head _)).2)]
    exact split_lines (by simp) fun q hq => (h q hq).1
theorem goodRows {many : Nat} {rel : List (List Int)} (h : GoodRel many rel) : GoodRows many rel := by
  obtain ⟨hs, hl, wd, h1, h3, hw⟩ := h
  refine ⟨?_, hl, ⟨wd, h1, h3, fun r hr => (hw r hr).1⟩, fun r hr => (hw r hr).2⟩
  refine List.Pairwise.imp (fun {a b} hab => ?_) hs
  intro e
  rw [e, rowLt_irrefl] at hab
  cases hab
theorem goodRows_rev {many : Nat} {rel : List (List Int)} (h : GoodRows many rel) : GoodRows many rel.reverse := by
  obtain ⟨hn, hl, ⟨wd, h1, h3, hw⟩, ha⟩ := h
  exact ⟨List.pairwise_reverse.mpr (hn.imp Ne.symm), by rw [List.length_reverse]; exact hl, ⟨wd, h1, h3, fun r hr => hw r (List.mem_reverse.mp hr)⟩, fun r hr => ha r (List.mem_reverse.mp hr)⟩
/-- the names of the relations: short, no signs of ours within -/
structure MarkOk (mk : Str) : Prop where
  short : mk.length ≤ 10
  some : 1 ≤ mk.length
  free : ∀ c ∈ sg mk, c ≠ 10 ∧ c ≠ 125
  head : (sg mk)[0]? ≠ Option.some 120
theorem marks_ok (n : Nat) : ∀ mk ∈ relNames.take n, MarkOk mk := by
  have h : ∀ mk ∈ relNames, MarkOk mk := by
    intro mk hmk
    simp only [relNames, List.mem_cons, List.not_mem_nil, or_false] at hmk
    rcases hmk with rfl | rfl | rfl <;> exact ⟨by decide +kernel, by decide +kernel, by decide +kernel, by decide +kernel⟩
  exact fun mk hmk => h mk (List.mem_of_mem_take hmk)
theorem join_free {c0 : Nat} {sep : Str} (hsep : c0 ∉ sg sep) : ∀ {qs : List Str}, (∀ q ∈ qs, c0 ∉ sg q) → c0 ∉ sg (Str.join sep qs)
  | [], _ => by simp [Str.join, Str.empty, sg]
  | [q], h => h q (.head _)
  | q :: q2 :: r, h => by
    show c0 ∉ sg (q ++ sep ++ Str.join sep (q2 :: r))
    rw [sg_app, sg_app]
    intro hc
    rcases List.mem_append.mp hc with hc | hc
    · rcases List.mem_append.mp hc with hc | hc
      · exact h q (.head _) hc
      · exact hsep hc
    · exact join_free hsep (fun p hp => h p (.tail _ hp)) hc
/-- a row up to its closing brace -/
def openRow (mk : Str) (texts : List Str) : Str := mk ++ "={" ++ Str.join ", " texts
theorem openRow_free {mk : Str} {texts : List Str} (hm : MarkOk mk) (ht : ∀ p ∈ texts, PartOk p) : ∀ c ∈ sg (openRow mk texts), c ≠ 10 ∧ c ≠ 125 := by
  intro c hc
  unfold openRow at hc
  rw [sg_app, sg_app] at hc
  rcases List.mem_append.mp hc with hc | hc
  · rcases List.mem_append.mp hc with hc | hc
    · exact ⟨(hm.free c hc).1, (hm.free c hc).2⟩
    · have : ∀ c ∈ sg "={", c ≠ 10 ∧ c ≠ 125 := by decide +kernel
      exact this c hc
  · refine ⟨fun e => ?_, fun e => ?_⟩
    · subst e
      exact join_free (c0 := 10) (by decide +kernel) (fun q hq h => ((ht q hq).free _ h).2.1 rfl) hc
    · subst e
      exact join_free (c0 := 125) (by decide +kernel) (fun q hq h => ((ht q hq).free _ h).2.2 rfl) hc
theorem rowStr_open (mk : Str) (texts : List Str) : rowStr mk texts = openRow mk texts ++ "}" := rfl
theorem row_line {mk : Str} {texts : List Str} (hm : MarkOk mk) (ht : ∀ p ∈ texts, PartOk p) : LineOk (rowStr mk texts) := by
  refine ⟨fun hc => ?_, ?_⟩
  · rw [rowStr_open, sg_app] at hc
    rcases List.mem_append.mp hc with hc | hc
    · exact (openRow_free hm ht _ hc).1 rfl
    · have : (10 : Nat) ∉ sg "}" := by decide +kernel
      exact this hc
  · have := hm.some
    unfold rowStr
    rw [Str.length_append, Str.length_append, Str.length_append]
    omega
theorem texts_ok {many : Nat} {rel : List (List Int)} (hm1 : 1 ≤ many) (hm4 : many ≤ 4) (hG : GoodRows many rel) : ∀ p ∈ rel.map rowText, PartOk p := fun p hp =>
  parts_ok (bad := none) hm1 hm4 hG (fun b hb => by cases hb) p (by simpa using hp)
theorem rowsOf_get {marks : List Str} {rels : List (List (List Int))} {i : Nat} {mk : Str} {rel : List (List Int)} (h1 : marks[i]? = some mk) (h2 : rels[i]? = some rel) : (rowsOf marks rels)[i]? = some (rowStr mk (rel.map rowText)) := by
  unfold rowsOf
  rw [List.getElem?_map, (List.getElem?_zip_eq_some (z := (mk, rel))).mpr ⟨h1, h2⟩]
  rfl
theorem rows_ok {many : Nat} {marks : List Str} {rels : List (List (List Int))} (hm1 : 1 ≤ many) (hm4 : many ≤ 4) (hmk : ∀ mk ∈ marks, MarkOk mk) (hg : ∀ rel ∈ rels, GoodRows many rel) : ∀ r ∈ rowsOf marks rels, LineOk r := fun r hr => by
  obtain ⟨p, hp, rfl⟩ := List.mem_map.mp hr
  have h := List.of_mem_zip hp
  exact row_line (hmk _ h.1) (texts_ok hm1 hm4 (hg _ h.2))
theorem read_own {many : Nat} {marks : List Str} {rels : List (List (List Int))} (hm1 : 1 ≤ many) (hm4 : many ≤ 4) (hmk : ∀ mk ∈ marks, MarkOk mk) (hg : ∀ rel ∈ rels, GoodRows many rel) (hl : rels.length = marks.length) : ReadOut many marks (wholeText marks rels) (.ok rels) := by
  have e : linesOf (wholeText marks rels) = rowsOf marks rels := lines_join (rows_ok hm1 hm4 hmk hg)
  refine .good (by rw [e]; exact rowsOf_len hl) hl fun i mk ln rel h1 h2 h3 => ?_
  rw [e, rowsOf_get h1 h3] at h2
  cases h2
  exact .good (hg rel (List.mem_of_getElem? h3))
theorem join_short {rows : List Str} (h : ∀ r ∈ rows, r.length ≤ 1000) (hn : rows.length ≤ 4) : (Str.join "\n" rows).length ≤ 5000 := by
  have h1 := join_len "\n" rows
  have h2 := sum_le_of rows 1000 h
  have h3 : ("\n" : Str).length = 1 := by decide +kernel
  rw [h3] at h1
  omega
theorem same_own : ∀ {rels : List (List (List Int))}, (∀ rel ∈ rels, RowsSorted rel) → ∀ rels', Sorts rels' rels → rels' = rels
  | _, _, _, .nil => rfl
  | _, h, _, .cons hp hs hr => by rw [rows_unique hp hs (h _ (.head _)), same_own (fun r hr => h r (.tail _ hr)) _ hr]
theorem same_rev : ∀ {rels : List (List (List Int))}, (∀ rel ∈ rels, RowsSorted rel) → ∀ rels', Sorts rels' (rels.map List.reverse) → rels' = rels
  | [], _, _, .nil => rfl
  | r :: rels, h, _, .cons hp hs hr => by rw [rows_unique (hp.trans (List.reverse_perm r)) hs (h _ (.head _)), same_rev (fun r hr => h r (.tail _ hr)) _ hr]
end

-- part P2
section
open PySem PySem.W PyProof.Rows PyProof.V PySem.Spec
set_option rowWalk.seconds 0
variable {w : World} {mean : ExcName → Option Value} {mg mb : Str → Option Value} {loose : List Str}
    {dp un : Nat} {gd : Option (List Code)} {cn : Str} {cs : Scope} {a : Addr} {ccd : Value} {cl : List (Str × Addr)} {outer : List Env} {A₀ : Around} {base h₀ : Heap} {L : Addr} {m : Str → Option Value} {news : List (Addr × Obj)} {s : Shared}
    {Q E : Value → Shared → Prop}
open Builtin Builtin.Str StrLaws
theorem starts_head {x y : Str} (h : Txt.startswith x y = true) {c : Nat} (hy : (sg y)[0]? = some c) : (sg x)[0]? = some c := by
  unfold Txt.startswith at h
  rw [Bool.and_eq_true, subAt_eq, beq_iff_eq, List.drop_zero] at h
  have h2 := h.2
  have : ((sg x).take y.length)[0]? = some c := by
    show (List.take y.length x.cps.toList)[0]? = some c
    rw [h2]; exact hy
  have hl : 0 < y.length := by
    rw [← sg_len]
    exact (List.getElem?_eq_some_iff.mp hy).1
  rwa [List.getElem?_take_of_lt hl] at this
theorem x_shape {mk row : Str} (hm : MarkOk mk) : Txt.startswith ("x" ++ row) (mk ++ "={") = false := by
  cases e : Txt.startswith ("x" ++ row) (mk ++ "={") with
  | false => rfl
  | true =>
    exfalso
    have hl : 0 < (sg mk).length := by rw [sg_len]; exact hm.some
    have h1 : (sg (mk ++ "={"))[0]? = some ((sg mk)[0]) := by
      rw [sg_app, List.getElem?_append_left hl, List.getElem?_eq_getElem hl]
    have h2 := starts_head e h1
    rw [sg_app] at h2
    have h3 : (sg "x" ++ sg row)[0]? = some 120 := rfl
    rw [h3] at h2
    exact hm.head (by rw [List.getElem?_eq_getElem hl]; exact h2.symm)
theorem x_line {row : Str} (h : LineOk row) : LineOk ("x" ++ row) := by
  refine ⟨fun hc => ?_, ?_⟩
  · rw [sg_app] at hc
    rcases List.mem_append.mp hc with hc | hc
    · have : (10 : Nat) ∉ sg "x" := by decide +kernel
      exact this hc
    · exact h.1 hc
  · rw [Str.length_append, x_len]; omega
theorem mid_fault {many : Nat} {marks : List Str} {rels : List (List (List Int))} {k : Nat} {mk x : Str} {off : Int} (hm1 : 1 ≤ many) (hm4 : many ≤ 4) (hmk : ∀ mk ∈ marks, MarkOk mk) (hg : ∀ rel ∈ rels, GoodRows many rel) (hl : rels.length = marks.length)
    (hk : marks[k]? = some mk) (hx : LineOk x) (hO : RowOut many mk x (.error off)) :
    ReadOut many marks (Str.join "\n" ((rowsOf marks rels).take k ++ [x] ++ (rowsOf marks rels).drop (k + 1))) (.error (beginOf (rowsOf marks rels) k + off)) := by
  have hkl : k < marks.length := (List.getElem?_eq_some_iff.mp hk).1
  have hrl := rowsOf_len hl
  have hr := rows_ok hm1 hm4 hmk hg
  have hall : ∀ q ∈ (rowsOf marks rels).take k ++ [x] ++ (rowsOf marks rels).drop (k + 1), LineOk q := fun q hq => by
    rcases List.mem_append.mp hq with hq | hq
    · rcases List.mem_append.mp hq with hq | hq
      · exact hr q (List.mem_of_mem_take hq)
      · rw [List.mem_singleton.mp hq]; exact hx
    · exact hr q (List.mem_of_mem_drop hq)
  have e := lines_join hall
  have htl : (List.take k (rowsOf marks rels)).length = k := by rw [List.length_take, hrl]; omega
  have hrk : (rels.take k).length = k := by rw [List.length_take]; omega
  have key := ReadOut.fault (many := many) (marks := marks) (text := Str.join "\n" ((rowsOf marks rels).take k ++ [x] ++ (rowsOf marks rels).drop (k + 1))) (rels := rels.take k) (mk := mk) (ln := x) (off := off)
    (by rw [e, List.length_append, List.length_append, htl, List.length_drop, hrl]; show k + 1 + _ = _; omega) (by rw [hrk]; exact hk)
    (by rw [e, hrk, List.append_assoc, List.getElem?_append_right (by omega), htl, Nat.sub_self]; rfl) (fun i mk' ln rel h1 h2 h3 => ?_) hO
  · have e2 : linesLen ((linesOf (Str.join "\n" ((rowsOf marks rels).take k ++ [x] ++ (rowsOf marks rels).drop (k + 1)))).take (rels.take k).length) = beginOf (rowsOf marks rels) k := by
      rw [e, hrk, List.append_assoc, List.take_append_of_le_length (by omega), List.take_of_length_le (l := List.take k (rowsOf marks rels)) (by omega)]
      rfl
    rw [e2] at key
    exact key
  · have hik : i < k := by have := (List.getElem?_eq_some_iff.mp h3).1; omega
    rw [List.getElem?_take_of_lt hik] at h3
    rw [e, List.append_assoc, List.getElem?_append_left (by omega), List.getElem?_take_of_lt hik, rowsOf_get h1 h3] at h2
    cases h2
    exact .good (hg rel (List.mem_of_getElem? h3))
theorem partsLen_eq (texts : List Str) : partsLen texts = ((texts.map (·.length)).sum : Nat) + 2 * (texts.length : Int) := by
  induction texts with
  | nil => rfl
  | cons t r ih =>
    unfold partsLen at ih ⊢
    simp only [List.map_cons, List.sum_cons, List.length_cons, ih]
    push_cast
    omega
theorem join_full (sep : Str) : ∀ (ys : List Str), ys ≠ [] → (Str.join sep ys).length + sep.length = (ys.map (·.length)).sum + ys.length * sep.length
  | [y], _ => by simp [Str.join]
  | y :: z :: r, _ => by
    have ih := join_full sep (z :: r) (by simp)
    show (y ++ sep ++ Str.join sep (z :: r)).length + sep.length = _
    rw [Str.length_append, Str.length_append]
    simp only [List.map_cons, List.sum_cons, List.length_cons] at ih ⊢
    have : (r.length + 1 + 1) * sep.length = (r.length + 1) * sep.length + sep.length := by rw [Nat.add_mul, Nat.one_mul]
    omega
theorem late_spot (mk : Str) (texts : List Str) : ((rowStr mk texts).length : Int) - 1 + (if 0 < texts.length then 2 else 0) = mk.length + 2 + partsLen texts := by
  have h2 : ("={" : Str).length = 2 := by decide +kernel
  have h3 : ("}" : Str).length = 1 := by decide +kernel
  have h4 : (", " : Str).length = 2 := by decide +kernel
  rw [partsLen_eq]
  unfold rowStr
  rw [Str.length_append, Str.length_append, Str.length_append, h2, h3]
  by_cases h : texts = []
  · subst h
    have : (Str.join ", " []).length = 0 := by decide +kernel
    rw [this]
    first | (simp; done) | (simp; omega)
  · have hl : 0 < texts.length := List.length_pos_iff.mpr h
    have h1 := join_full ", " texts h
    rw [h4] at h1
    rw [if_pos hl]
    push_cast
    omega
theorem sum_pos (rows : List Str) : 0 ≤ (rows.map fun r => (r.length : Int) + 1).sum := by
  induction rows with
  | nil => decide
  | cons r rs ih => rw [List.map_cons, List.sum_cons]; omega
theorem bent_read {many : Nat} {marks : List Str} {rels : List (List (List Int))} (hm1 : 1 ≤ many) (hm4 : many ≤ 4) (hmk : ∀ mk ∈ marks, MarkOk mk) (hm3 : marks.length ≤ 3) (hgr : ∀ rel ∈ rels, GoodRel many rel) (hl : rels.length = marks.length)
    {bt : Str} {spv : Int} (hB : Bent marks rels bt spv) : ∃ off, ReadOut many marks bt (.error off) ∧ 0 ≤ off ∧ (off = spv ∨ spv = -1 ∧ off ≤ bt.length) ∧ bt.length ≤ 5000 := by
  have hg : ∀ rel ∈ rels, GoodRows many rel := fun rel hr => goodRows (hgr rel hr)
  have hr := rows_ok hm1 hm4 hmk hg
  have hrl := rowsOf_len hl
  have hrs : ∀ r ∈ rowsOf marks rels, r.length ≤ 900 := rows_short hm4 (fun x hx => (hmk x hx).short) hgr
  have hb0 : ∀ k, 0 ≤ beginOf (rowsOf marks rels) k := fun k => by
    exact sum_pos _
  cases hB with
  | none h0 =>
    have e : linesOf "A={}" = [("A={}" : Str)] := lines_join (qs := [("A={}" : Str)]) fun q hq => by
      rw [List.mem_singleton.mp hq]
      exact ⟨by decide +kernel, by decide +kernel⟩
    exact ⟨_, .count (by rw [e, h0]; decide), by omega, .inr ⟨rfl, Int.le_refl _⟩, by decide +kernel⟩
  | @name k row hrow =>
    have hkl : k < marks.length := by have := (List.getElem?_eq_some_iff.mp hrow).1; omega
    have hm := List.mem_of_getElem? hrow
    obtain ⟨mk, hk⟩ : ∃ mk, marks[k]? = some mk := ⟨_, List.getElem?_eq_getElem hkl⟩
    have := mid_fault hm1 hm4 hmk hg hl hk (x_line (hr _ hm)) (.shape (.inl (x_shape (hmk _ (List.mem_of_getElem? hk)))))
    rw [Int.add_zero] at this
    refine ⟨_, this, hb0 k, .inl rfl, join_short (mid_short hrs (by rw [Str.length_append, x_len]; have := hrs _ hm; omega)) ?_⟩
    simp only [List.length_append, List.length_take, List.length_drop, List.length_cons, List.length_nil]; omega
  | @less k hk =>
    have hall : ∀ q ∈ (rowsOf marks rels).take k ++ (rowsOf marks rels).drop (k + 1), q ∈ rowsOf marks rels := fun q hq =>
      (List.mem_append.mp hq).elim List.mem_of_mem_take List.mem_of_mem_drop
    have e := lines_join fun q hq => hr q (hall q hq)
    refine ⟨_, .count (by rw [e]; simp only [List.length_append, List.length_take, List.length_drop]; omega), by omega, .inr ⟨rfl, Int.le_refl _⟩, join_short (fun r h => by have := hrs r (hall r h); omega) ?_⟩
    simp only [List.length_append, List.length_take, List.length_drop]; omega
  | @more row hrow =>
    have hall : ∀ q ∈ rowsOf marks rels ++ [row], q ∈ rowsOf marks rels := fun q hq =>
      (List.mem_append.mp hq).elim id fun h => by rw [List.mem_singleton.mp h]; exact hrow
    have e := lines_join fun q hq => hr q (hall q hq)
    refine ⟨_, .count (by rw [e, List.length_append]; show _ + 1 ≠ _; omega), by omega, .inr ⟨rfl, Int.le_refl _⟩, join_short (fun r h => by have := hrs r (hall r h); omega) ?_⟩
    rw [List.length_append]; show _ + 1 ≤ 4; omega
  | @late k mk b rel hk hrel hb =>
    have hmk' := hmk mk (List.mem_of_getElem? hk)
    have gr := hgr rel (List.mem_of_getElem? hrel)
    have gR := goodRows gr
    have hpo : ∀ p ∈ rel.map rowText ++ [b], PartOk p := parts_ok (bad := some b) hm1 hm4 gR fun b' e => by cases e; exact hb
    have := mid_fault hm1 hm4 hmk hg hl hk (row_line hmk' hpo) (.bad gR hb)
    have es := late_spot mk (rel.map rowText)
    refine ⟨_, this, ?_, .inl ?_, join_short (mid_short hrs ?_) ?_⟩
    · have h1 := hb0 k
      have h2 := partsLen_eq (rel.map rowText)
      omega
    · omega
    · have := row_len hpo (by rw [List.length_append, List.length_map]; show _ + 1 ≤ 5; have := gR.few; omega) hmk'.short
      omega
    · simp only [List.length_append, List.length_take, List.length_drop, List.length_cons, List.length_nil]; omega
end

-- part P3
section
open PySem PySem.W PyProof.Rows PyProof.V PySem.Spec
set_option rowWalk.seconds 0
variable {w : World} {mean : ExcName → Option Value} {mg mb : Str → Option Value} {loose : List Str}
    {dp un : Nat} {gd : Option (List Code)} {cn : Str} {cs : Scope} {a : Addr} {ccd : Value} {cl : List (Str × Addr)} {outer : List Env} {A₀ : Around} {base h₀ : Heap} {L : Addr} {m : Str → Option Value} {news : List (Addr × Obj)} {s : Shared}
    {Q E : Value → Shared → Prop}
open Builtin Builtin.Str StrLaws
theorem join_cons (sep x : Str) {ys : List Str} (h : ys ≠ []) : Str.join sep (x :: ys) = x ++ sep ++ Str.join sep ys := by
  match ys, h with
  | y :: r, _ => rfl
def cutOf (r : Str) (c : Nat) : Str := ⟨((sg r).take c).toArray⟩
theorem cutOf_sg (r : Str) (c : Nat) : sg (cutOf r c) = (sg r).take c := rfl
theorem cut_shape : ∀ (rows : List Str) (c : Nat), c < (Str.join "\n" rows).length → ∃ k p r q, rows[k]? = some r ∧ (sg (Str.join "\n" rows)).take c = sg (Str.join "\n" (rows.take k ++ [p])) ∧ sg r = sg p ++ q ∧ (q ≠ [] ∨ k + 1 < rows.length)
  | [], c, h => by
    have : (Str.join "\n" []).length = 0 := by decide +kernel
    omega
  | [r], c, h => by
    have h : c < r.length := h
    refine ⟨0, cutOf r c, r, (sg r).drop c, rfl, rfl, (List.take_append_drop c (sg r)).symm, .inl ?_⟩
    intro e
    have := congrArg List.length e
    rw [List.length_drop, sg_len] at this
    simp at this
    omega
  | r :: r2 :: rest, c, h => by
    have e1 : Str.join "\n" (r :: r2 :: rest) = r ++ "\n" ++ Str.join "\n" (r2 :: rest) := rfl
    have hn : sg "\n" = [10] := by decide +kernel
    by_cases hc : c ≤ r.length
    · refine ⟨0, cutOf r c, r, (sg r).drop c, rfl, ?_, (List.take_append_drop c (sg r)).symm, .inr (by simp)⟩
      show (sg (Str.join "\n" (r :: r2 :: rest))).take c = (sg r).take c
      rw [e1, sg_app, sg_app, List.append_assoc, List.take_append_of_le_length (by rw [sg_len]; exact hc)]
    · have h3 : ("\n" : Str).length = 1 := by decide +kernel
      rw [e1, Str.length_append, Str.length_append, h3] at h
      obtain ⟨k, p, r', q, i1, i2, i3, i4⟩ := cut_shape (r2 :: rest) (c - (r.length + 1)) (by omega)
      refine ⟨k + 1, p, r', q, by rw [List.getElem?_cons_succ]; exact i1, ?_, i3, ?_⟩
      · rw [e1, List.take_succ_cons, List.cons_append, join_cons "\n" r (by simp), sg_app, sg_app, sg_app, sg_app, ← i2]
        have hl : (sg r ++ sg "\n").length = r.length + 1 := by rw [List.length_append, sg_len, hn]; rfl
        rw [List.take_append, hl, List.take_of_length_le (by omega)]
      · rcases i4 with h | h
        · exact .inl h
        · exact .inr (by simp only [List.length_cons] at h ⊢; omega)
theorem join_snoc_len : ∀ (xs : List Str) (p : Str), ((Str.join "\n" (xs ++ [p])).length : Int) = linesLen xs + p.length
  | [], p => by show (p.length : Int) = 0 + p.length; omega
  | x :: r, p => by
    have h3 : ("\n" : Str).length = 1 := by decide +kernel
    rw [List.cons_append, join_cons "\n" x (by simp), Str.length_append, Str.length_append, h3]
    have ih := join_snoc_len r p
    unfold linesLen at ih ⊢
    rw [List.map_cons, List.sum_cons]
    push_cast at ih ⊢
    omega
theorem no_brace {p : Str} (h : 125 ∉ sg p) : Txt.endswith p "}" = false := by
  cases e : Txt.endswith p "}" with
  | false => rfl
  | true =>
    exfalso
    unfold Txt.endswith at e
    rw [Bool.and_eq_true, subAt_eq, beq_iff_eq] at e
    have h2 := e.2
    have hs : ("}" : Str).cps.toList = [125] := by decide +kernel
    rw [hs] at h2
    have : 125 ∈ ((sg p).drop (p.length - ("}" : Str).length)).take ("}" : Str).length := by
      show 125 ∈ List.take ("}" : Str).length (List.drop (p.length - ("}" : Str).length) p.cps.toList)
      rw [h2]; exact .head _
    exact h (List.mem_of_mem_drop (List.mem_of_mem_take this))
theorem prefix_open {a p q : List Nat} {c : Nat} (h : a ++ [c] = p ++ q) (hq : q ≠ []) : ∃ q', a = p ++ q' := by
  obtain ⟨q', z, rfl⟩ : ∃ q' z, q = q' ++ [z] := ⟨q.dropLast, q.getLast hq, (List.dropLast_concat_getLast hq).symm⟩
  rw [← List.append_assoc] at h
  exact ⟨q', (List.append_inj' h rfl).1⟩
theorem cut_read {many : Nat} {marks : List Str} {rels : List (List (List Int))} (hm1 : 1 ≤ many) (hm4 : many ≤ 4) (hmk : ∀ mk ∈ marks, MarkOk mk) (hg : ∀ rel ∈ rels, GoodRows many rel) (hl : rels.length = marks.length)
    {c : Nat} (hc : c < (wholeText marks rels).length) : ∃ off, ReadOut many marks (Txt.slice (wholeText marks rels) none (some (c : Int))) (.error off) ∧ 0 ≤ off ∧ off ≤ (Txt.slice (wholeText marks rels) none (some (c : Int))).length := by
  have hrl := rowsOf_len hl
  have hr := rows_ok hm1 hm4 hmk hg
  obtain ⟨k, p, r, q, h1, h2, h3, h4⟩ := cut_shape (rowsOf marks rels) c hc
  have ht : Txt.slice (wholeText marks rels) none (some (c : Int)) = Str.join "\n" ((rowsOf marks rels).take k ++ [p]) := by
    rw [slice_to _ (by omega)]
    apply sg_inj
    exact h2
  rw [ht]
  generalize hT : Str.join "\n" ((rowsOf marks rels).take k ++ [p]) = text
  have hkl : k < marks.length := by have := (List.getElem?_eq_some_iff.mp h1).1; omega
  have hrm := List.mem_of_getElem? h1
  have htl : (List.take k (rowsOf marks rels)).length = k := by rw [List.length_take, hrl]; omega
  by_cases h0 : text = ""
  · have e : linesOf text = [] := by unfold linesOf; rw [if_pos h0]
    exact ⟨_, .count (by rw [e]; show 0 ≠ _; omega), by omega, Int.le_refl _⟩
  · have e : linesOf text = (rowsOf marks rels).take k ++ [p] := by
      unfold linesOf
      rw [if_neg h0, ← hT]
      refine split_lines (by simp) fun x hx => ?_
      rcases List.mem_append.mp hx with hx | hx
      · exact (hr x (List.mem_of_mem_take hx)).1
      · rw [List.mem_singleton.mp hx]
        exact fun h => (hr r hrm).1 (by rw [h3]; exact List.mem_append_left _ h)
    have el : (linesOf text).length = k + 1 := by rw [e, List.length_append, htl]; rfl
    by_cases hk : k + 1 = marks.length
    · have hq : q ≠ [] := h4.elim id fun h => by omega
      obtain ⟨mk, hmk9⟩ : ∃ mk, marks[k]? = some mk := ⟨_, List.getElem?_eq_getElem hkl⟩
      obtain ⟨rel, hrel⟩ : ∃ rel, rels[k]? = some rel := ⟨_, List.getElem?_eq_getElem (by omega)⟩
      have hro := rowsOf_get hmk9 hrel
      rw [h1] at hro
      injection hro with hro
      rw [hro, rowStr_open, sg_app, show sg "}" = [125] by decide +kernel] at h3
      obtain ⟨q', hq'⟩ := prefix_open h3 hq
      have hb : 125 ∉ sg p := fun h => (openRow_free (hmk _ (List.mem_of_getElem? hmk9)) (texts_ok hm1 hm4 (hg _ (List.mem_of_getElem? hrel))) 125 (by rw [hq']; exact List.mem_append_left _ h)).2 rfl
      have hO : RowOut many mk p (.error 0) := .shape (by
        cases es : Txt.startswith p (mk ++ "={") with
        | false => exact .inl rfl
        | true => exact .inr ⟨rfl, no_brace hb⟩)
      have hrk : (rels.take k).length = k := by rw [List.length_take]; omega
      have key := ReadOut.fault (many := many) (marks := marks) (text := text) (rels := rels.take k) (mk := mk) (ln := p) (off := 0) (by rw [el]; exact hk) (by rw [hrk]; exact hmk9)
        (by rw [e, hrk, List.getElem?_append_right (by omega), htl, Nat.sub_self]; rfl) (fun i mk' ln rel h1 h2 h3 => ?_) hO
      · have e2 : linesLen ((linesOf text).take (rels.take k).length) = linesLen ((rowsOf marks rels).take k) := by
          rw [e, hrk, List.take_append_of_le_length (by omega), List.take_of_length_le (l := List.take k (rowsOf marks rels)) (by omega)]
        have h5 := join_snoc_len ((rowsOf marks rels).take k) p
        rw [hT] at h5
        have h6 : 0 ≤ linesLen ((rowsOf marks rels).take k) := sum_pos _
        rw [e2] at key
        exact ⟨_, key, by omega, by omega⟩
      · have hik : i < k := by have := (List.getElem?_eq_some_iff.mp h3).1; omega
        rw [List.getElem?_take_of_lt hik] at h3
        rw [e, List.getElem?_append_left (by omega), List.getElem?_take_of_lt hik, rowsOf_get h1 h3] at h2
        cases h2
        exact .good (hg rel (List.mem_of_getElem? h3))
    · exact ⟨_, .count (by rw [el]; exact hk), by omega, Int.le_refl _⟩
theorem plain_ok (many n : Nat) (rels : List (List (List Int))) (hm1 : 1 ≤ many) (hm4 : many ≤ 4) (hn : n ≤ 3) (hl : rels.length = (relNames.take n).length) (hgr : ∀ rel ∈ rels, GoodRel many rel) : PlainOk many (relNames.take n) rels := by
  have hmk := marks_ok n
  have hml := relNames_len hn
  have hg : ∀ rel ∈ rels, GoodRows many rel := fun rel hr => goodRows (hgr rel hr)
  have hg2 : ∀ rel ∈ rels.map List.reverse, GoodRows many rel := fun rel hr => by
    obtain ⟨r, hr2, rfl⟩ := List.mem_map.mp hr
    exact goodRows_rev (hg r hr2)
  have hl2 : (rels.map List.reverse).length = (relNames.take n).length := by rw [List.length_map]; exact hl
  have len : ∀ rs : List (List (List Int)), rs.length = (relNames.take n).length → (∀ rel ∈ rs, GoodRows many rel) → (wholeText (relNames.take n) rs).length ≤ 5000 := fun rs h1 h2 => by
    refine join_short (fun r hr => ?_) ?_
    · obtain ⟨p, hp, rfl⟩ := List.mem_map.mp hr
      have h := List.of_mem_zip hp
      have g := h2 _ h.2
      have := row_len (texts_ok hm1 hm4 g) (by rw [List.length_map]; have := g.few; omega) (hmk _ h.1).short
      omega
    · have := rowsOf_len h1
      unfold rowsOf at this
      omega
  exact ⟨read_own hm1 hm4 hmk hg hl, len _ hl hg, same_own fun r hr => (hgr r hr).1, read_own hm1 hm4 hmk hg2 hl2, len _ hl2 hg2, same_rev fun r hr => (hgr r hr).1,
    fun bt spv hB => bent_read hm1 hm4 hmk (by omega) hgr hl hB, fun c hc => cut_read hm1 hm4 hmk hg hl hc⟩
end

end Mine

theorem PySem.Challenge.cw_nu0241_01_holds : PySem.Challenge.rw_nu0241_01.Holds := by
  exact Mine.tryout Mine.plain_ok
