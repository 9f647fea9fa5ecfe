import PyProof.Rows.All
import Wide.All
import OpenK.AllK
import Wide.FinOn
import PySem.Challenge.RW_nt0076_01
set_option Elab.async false
set_option compiler.extract_closed false
set_option genSizeOf false
section
open PySem PySem.W PyProof.Rows
set_option maxRecDepth 100000
set_option maxHeartbeats 0
namespace Mine
abbrev PW : Program := PySem.Challenge.pw_nt0076_01
def keepIdx : List Nat := [0, 2, 3, 4, 5, 8, 9, 10, 11, 12, 13, 14, 15, 17, 18, 19, 21, 22, 24, 25, 26, 27, 28, 29, 30, 31, 32, 33, 34, 35, 37, 38, 39, 41, 42, 44, 45, 46, 47, 48, 49, 50, 51, 52, 53, 54, 55, 56]
def view : Program := { PW with main := { PW.main with body := keepIdx.filterMap fun i => PW.main.body[i]? } }
def looseNames : List Str := [Str.ofString "CollOptions", Str.ofString "weighted", Str.ofString "is_upper_third", Str.ofString "weights_key"]

noncomputable def runT (ok : Thread → Bool) (st : SharedT → Thread → Option (SharedT × Thread)) : Nat → SharedT → Thread → Option SharedT
  | 0, _, _ => none
  | n + 1, s, t => match through t with
    | true => some s
    | false => match ok t with
      | false => none
      | true => match st s t with
        | some (s', t') => runT ok st n s' t'
        | none => none
theorem runT_spec {tb : String → Option Builtin} {p : Program} {w : World} {n₀ : Nat} {ann : Option Value} : ∀ {n : Nat} {s r : SharedT} {t : Thread}, runT (stepOk n₀ ann) (stepT (denote tb) p w) n s t = some r → topRun tb p w n₀ ann n s.abs t = some r.abs
  | 0, _, _, _, h => by cases h
  | n + 1, s, r, t, h => by
    unfold runT at h
    unfold topRun
    cases he : through t with
    | true => rw [he] at h; cases h; rfl
    | false =>
      rw [he] at h
      cases hk : stepOk n₀ ann t with
      | false => rw [hk] at h; cases h
      | true =>
        rw [hk] at h
        cases hs : stepT (denote tb) p w s t with
        | none => rw [hs] at h; cases h
        | some q => obtain ⟨s₂, t₂⟩ := q; rw [hs] at h; dsimp only; rw [stepT_spec hs]; exact runT_spec h
noncomputable def insAll : List Obj → Nat → BT → BT
  | [], _, t => t
  | o :: l, n, t => insAll l (n + 1) (t.ins n o)
noncomputable def bootT (P : Params) : BT := insAll (boot_heap P).objs.toList 0 .nil
theorem bootT_eq (P : Params) : absHeap (bootT P) (boot_heap P).objs.size (boot_heap P).life = boot_heap P := by kernel_rfl
theorem left_of_tree {p q : Program} {loose : List Str} {Xt : Shared → Bool} {α : Type} {Yf : Shared → α} {Ya : World → α} {N : Nat} {m₀ : Nat} {ann : Option Value}
    (e : opening p = plainProg p.main.scope.names) (hN : Nat.ble 600 N = true) (f : ∀ s, fenceModules? p s = some s)
    (size : ∀ P, ((boot_heap P).isNs mainGlobals, (boot_heap P).objs.size, (boot_heap P).nsMap mainGlobals "__annotations__") = (true, m₀, ann))
    (run : ∀ (w : World) (os : OsState), (runT (stepOk m₀ ann) (stepT (denote treeTable) p w) N ⟨bootT w.params, (boot_heap w.params).objs.size, (boot_heap w.params).life, #[], boot_drawn, boot_toks, os⟩ (topStub p)).map (fun s =>
        ((staticsOk (importedModules p.main.body) (boot_heap w.params) s.abs.heap && namesBound p s.abs.heap && gensDone s.abs && laidKept (boot_heap w.params) s.abs.heap), openSeen q loose (importedModules p.main.body) Xt true s.abs, Yf s.abs)) = some (true, openGood q loose, Ya w)) :
    LeftO p q loose Xt Yf Ya N true := fun w => by
  obtain ⟨⟨h, gs, d, k, os⟩, e1, e2⟩ := Option.map_eq_some_iff.mp (boot_open e hN f w)
  obtain ⟨rfl, rfl, rfl, rfl⟩ : h = boot_heap w.params ∧ gs = Array.mk [] ∧ d = boot_drawn ∧ k = boot_toks := by simpa using e2
  obtain ⟨s, h1, h2⟩ := Option.map_eq_some_iff.mp (run w os)
  obtain ⟨z1, z2, z3⟩ : _ ∧ _ ∧ _ := by simpa only [Prod.mk.injEq] using size w.params
  obtain ⟨l1, l2, l3⟩ : _ ∧ _ ∧ _ := by simpa only [Prod.mk.injEq] using h2
  have r := runT_spec h1
  have r0 : SharedT.abs ⟨bootT w.params, (boot_heap w.params).objs.size, (boot_heap w.params).life, #[], boot_drawn, boot_toks, os⟩ = ⟨boot_heap w.params, Array.mk [], boot_drawn, boot_toks, os⟩ := by
    show (⟨absHeap _ _ _, _, _, _, _⟩ : Shared) = _
    rw [bootT_eq]
  rw [r0] at r
  have t : topFrom treeTable p w N ⟨boot_heap w.params, Array.mk [], boot_drawn, boot_toks, os⟩ = some s.abs := by
    unfold topFrom
    dsimp only
    rw [z1, z2, z3, r]
    show (match staticsOk (importedModules p.main.body) (boot_heap w.params) s.abs.heap && namesBound p s.abs.heap && gensDone s.abs && laidKept (boot_heap w.params) s.abs.heap with | true => _ | false => _) = _
    rw [l1]
  unfold openEnds
  rw [e1]
  show (topFrom treeTable p w N _).map _ = _
  rw [t]
  exact congrArg some (Prod.ext l2 l3)
theorem said_ok : OpenLaw.wellSaid PySem.Challenge.rw_nt0076_01 = true := by
  rw [PySem.W.Fast.te9446332074065402090]
  kernel_rfl
local macro_rules
  | `(tactic| o_law) => `(tactic| (refine holds_law Mine.said_ok fun said => ?_))
/-- the law's head with the look above -/
abbrev headX : Shared → Bool := fun s => xlAt Mine.view [] s && recOk (RowW.records (OpenRow.toRowW (OpenLaw.row PySem.Challenge.rw_nt0076_01))) s
theorem hopen {α : Type} {Yf : Shared → α} {Ya : World → α} {YP : World → Heap → Prop} {d : DefRec} {kwd : List (Str × Expr)}
    (left : LeftO (OpenLaw.row PySem.Challenge.rw_nt0076_01).prog Mine.view Mine.looseNames headX Yf Ya 6968) (hY : ∀ w s, Yf s = Ya w → YP w s.heap) (hYk : ∀ w h h', YP w h → (∀ b o, h.get? b = some o → h'.get? b = some o) → YP w h')
    (hw : (OpenLaw.row PySem.Challenge.rw_nt0076_01).toRowW.promised) (call : WalkO Mine.view Mine.looseNames (XL Mine.view []) YP (OpenLaw.row PySem.Challenge.rw_nt0076_01).toRowW d kwd fun f vs => PySem.call f vs)
    (k1 : (OpenLaw.row PySem.Challenge.rw_nt0076_01).wellSaid = true := by first | assumption | decide +kernel)
    (hdef : defOf Mine.view (OpenLaw.row PySem.Challenge.rw_nt0076_01).name = some (d, kwd) := by rfl) (hp : (OpenLaw.row PySem.Challenge.rw_nt0076_01).prog.theDef (OpenLaw.row PySem.Challenge.rw_nt0076_01).name = some (d.params, d.body, d.scope) := by rfl)
    (hk : kwWritten? d.params.kwonlyargs d.params.kw_defaults = some kwd := by rfl) : (OpenLaw.row PySem.Challenge.rw_nt0076_01).Holds :=
  holds_open left hY hYk (fun s e => xl_of s (Bool.and_eq_true_iff.mp e).1) XL.keeps hdef hp hk (fun s e => recFacts_of (Bool.and_eq_true_iff.mp e).2) (by rfl) k1 (by decide +kernel) ⟨rfl, rfl, rfl, rfl, rfl, by decide +kernel⟩ hw call
local macro_rules
  | `(tactic| o_head $H) => `(tactic| (
    refine hopen (Yf := Hook.obs $H) (Ya := Hook.val $H) (YP := Hook.says $H) ?hl (Hook.of $H) (Hook.keeps $H) ?hw ?hc
    case hl =>
      refine left_of_tree (m₀ := 11) (ann := some (.ref 6)) (by kernel_rfl) (by rfl) (fun s => rfl) (fun P => by kernel_rfl) fun w os => ?_
      rw [PySem.W.Fast.te10156331382660048174, PySem.W.Fast.te6613529449190102663, PySem.W.Fast.te11892475500146522536, PySem.W.Fast.te14364793385576792824, PySem.W.Fast.te4187177175401517315]
      kernel_rfl))
open_top hd for PySem.Challenge.rw_nt0076_01
end Mine

end
namespace Mine
protected def sxSeq (s : Array Lean.Syntax) : Lean.Syntax := .node .none `Lean.Parser.Tactic.tacticSeq #[.node .none `Lean.Parser.Tactic.tacticSeq1Indented #[.node .none `null s]]
protected def sxR : Lean.Syntax := Mine.sxSeq #[.node .none `Lean.Parser.Tactic.tacticRfl #[Lean.mkAtom "rfl"]]
protected def sxU : Lean.Syntax := Mine.sxSeq #[.node .none `Lean.Parser.Tactic.withUnfoldingAll #[Lean.mkAtom "with_unfolding_all", Mine.sxR]]
protected def sxI : Lean.Syntax := Mine.sxSeq #[.node .none `Lean.Parser.Tactic.intro #[Lean.mkAtom "intro", .node .none `null #[.node .none `Lean.Parser.Term.hole #[Lean.mkAtom "_"], .node .none `Lean.Parser.Term.hole #[Lean.mkAtom "_"]]], Lean.mkAtom ";", .node .none `Lean.Parser.Tactic.tacticRfl #[Lean.mkAtom "rfl"]]
protected def sxK : Lean.Syntax := Mine.sxSeq #[.node .none `tacticKernel_rfl #[Lean.mkAtom "kernel_rfl"]]
protected def sxA : Lean.Syntax := Mine.sxSeq #[.node .none `Lean.Parser.Tactic.assumption #[Lean.mkAtom "assumption"]]
protected def sxD : Lean.Syntax := Mine.sxSeq #[.node .none `Lean.Parser.Tactic.decide #[Lean.mkAtom "decide", .node .none `Lean.Parser.Tactic.optConfig #[.node .none `null #[]]]]
end Mine
section
set_option maxRecDepth 100000
namespace Mine
inductive X2 {α β : Type} (P : α → β → Prop) : Prop
  | mk (a : α) (b : β) : P a b → X2 P
inductive X3 {α β γ : Type} (P : α → β → γ → Prop) : Prop
  | mk (a : α) (b : β) (c : γ) : P a b c → X3 P
inductive X4 {α β γ δ : Type} (P : α → β → γ → δ → Prop) : Prop
  | mk (a : α) (b : β) (c : γ) (d : δ) : P a b c d → X4 P
inductive X5 {α β γ δ ε : Type} (P : α → β → γ → δ → ε → Prop) : Prop
  | mk (a : α) (b : β) (c : γ) (d : δ) (e : ε) : P a b c d e → X5 P
inductive A3 (p q r : Prop) : Prop
  | mk : p → q → r → A3 p q r
inductive A4 (p q r s : Prop) : Prop
  | mk : p → q → r → s → A4 p q r s
inductive A5 (p q r s t : Prop) : Prop
  | mk : p → q → r → s → t → A5 p q r s t
inductive A6 (p q r s t u : Prop) : Prop
  | mk : p → q → r → s → t → u → A6 p q r s t u
inductive A7 (p q r s t u v : Prop) : Prop
  | mk : p → q → r → s → t → u → v → A7 p q r s t u v
inductive A8 (p q r s t u v w : Prop) : Prop
  | mk : p → q → r → s → t → u → v → w → A8 p q r s t u v w
end Mine

end
section
set_option maxRecDepth 100000
set_option linter.unusedVariables false
set_option genSizeOf false
set_option genInjectivity false
namespace Mine
open PySem PySem.W PyProof.Rows PySem.Calls

/-- abstract values: tuples, lists, dicts, instances by value where nothing turns them any more; `ref`, `inst` where they may be turned -/
inductive V where
  | none
  | bool (b : Bool)
  | int (i : Int)
  | str (x : Str)
  | bts (b : Array UInt8)
  | cst (v : Value)
  | tup (vs : List V)
  | lst (vs : List V)
  | dI (kvs : List (Int × V))
  | dS (kvs : List (Str × V))
  | dT (kvs : List (List Int × V))
  | obj (C : Addr) (fs : List (Str × V))
  | rng (lo hi : Int)
  | ref (a : Addr)
  | inst (C dx : Addr)

inductive MO where
  | list (vs : List V)
  | dI (kvs : List (Int × V))
  | dS (kvs : List (Str × V))
  | dT (kvs : List (List Int × V))

noncomputable abbrev Fz := Addr → Option Obj
noncomputable abbrev Sig := Addr → Option MO
noncomputable abbrev tupO (xs : List Value) (n : Nat) : Obj := { cls := .type "tuple", data := .seq xs.toArray n }
noncomputable abbrev lstO (xs : List Value) (n : Nat) : Obj := { cls := .type "list", data := .seq xs.toArray n }

/-- the fixed surroundings of the call -/
structure G where
  prog : Program
  w : World
  hb : Heap
  os : OsState
  K : Frag
  mg : Str → Option Value
  mb : Str → Option Value
  hK : K.In hb
  hmg : hb.Ns mainGlobals mg
  hmb : hb.Ns builtinsNs mb
  hlim : hb.NoLimit

noncomputable abbrev G.I (g : G) := intKind g.prog g.w
noncomputable abbrev G.S (g : G) := strKind g.prog g.w
noncomputable abbrev G.T (g : G) := tupleKind (intKind g.prog g.w)

noncomputable def KeyAt (D : Fz) (ks : List Int) (a : Addr) : Prop := X2 fun xs n => D a = some (tupO xs n) ∧ IntsAre xs ks

mutual
inductive VR (g : G) (D : Fz) : V → Value → Prop
  | none : VR g D .none .none
  | bool (b : Bool) : VR g D (.bool b) (.bool b)
  | int (i : Int) (t : Tok) : VR g D (.int i) (.int i t)
  | str (x : Str) (t : Tok) : VR g D (.str x) (.str x t)
  | bts (b : Array UInt8) (t : Tok) : VR g D (.bts b) (.bytes b t)
  | cst (v : Value) : VR g D (.cst v) v
  | tup {a : Addr} {xs : List Value} {n : Nat} {vs : List V} : D a = some (tupO xs n) → VRs g D vs xs → VR g D (.tup vs) (.ref a)
  | lst {a : Addr} {xs : List Value} {n : Nat} {vs : List V} : D a = some (lstO xs n) → VRs g D vs xs → VR g D (.lst vs) (.ref a)
  | dI {a : Addr} {es : List DictEntry} {n : Nat} {cs : List Value} {kvs : List (Int × V)} : D a = some (dictOf es n) → KeysOf g.I es.toArray → Pairs g.I es ((kvs.map (·.1)).zip cs) →
      VRs g D (kvs.map (·.2)) cs → (kvs.map (·.1)).Nodup → VR g D (.dI kvs) (.ref a)
  | dS {a : Addr} {es : List DictEntry} {n : Nat} {cs : List Value} {kvs : List (Str × V)} : D a = some (dictOf es n) → KeysOf g.S es.toArray → Pairs g.S es ((kvs.map (·.1)).zip cs) →
      VRs g D (kvs.map (·.2)) cs → (kvs.map (·.1)).Nodup → VR g D (.dS kvs) (.ref a)
  | dT {a : Addr} {xs : List (List Int × Addr × Value)} {n : Nat} {kvs : List (List Int × V)} : D a = some (dictOf (xs.map (entryOfKey g.T)) n) → kvs.map (·.1) = xs.map (·.1) →
      (∀ x ∈ xs, KeyAt D x.1 x.2.1) → VRs g D (kvs.map (·.2)) (xs.map (·.2.2)) → (kvs.map (·.1)).Nodup → VR g D (.dT kvs) (.ref a)
  | obj {x C dx : Addr} {es : List DictEntry} {n : Nat} {cs : List Value} {kvs : List (Str × V)} : D x = some (instObj C dx) → D dx = some (dictOf es n) → KeysOf g.S es.toArray → Pairs g.S es ((kvs.map (·.1)).zip cs) →
      VRs g D (kvs.map (·.2)) cs → (kvs.map (·.1)).Nodup → VR g D (.obj C kvs) (.ref x)
  | rng {a : Addr} {lo hi : Int} {t u v : Tok} : D a = some { cls := .type "range", data := .fields #[.int lo t, .int hi u, .int 1 v] } → VR g D (.rng lo hi) (.ref a)
  | ref (a : Addr) : VR g D (.ref a) (.ref a)
  | inst {x C dx : Addr} : D x = some (instObj C dx) → VR g D (.inst C dx) (.ref x)
inductive VRs (g : G) (D : Fz) : List V → List Value → Prop
  | nil : VRs g D [] []
  | cons {v : V} {vs : List V} {c : Value} {cs : List Value} : VR g D v c → VRs g D vs cs → VRs g D (v :: vs) (c :: cs)
end

noncomputable def VR.Of (g : G) (D : Fz) : V → Value → Prop
  | .none, c => c = .none
  | .bool b, c => c = .bool b
  | .int i, c => ∃ t, c = .int i t
  | .str x, c => ∃ t, c = .str x t
  | .bts b, c => ∃ t, c = .bytes b t
  | .cst v, c => c = v
  | .tup vs, c => X3 fun (a : Addr) (xs : List Value) (n : Nat) => A3 (D a = some (tupO xs n)) (VRs g D vs xs) (c = .ref a)
  | .lst vs, c => X3 fun (a : Addr) (xs : List Value) (n : Nat) => A3 (D a = some (lstO xs n)) (VRs g D vs xs) (c = .ref a)
  | .dI kvs, c => X4 fun (a : Addr) (es : List DictEntry) (n : Nat) (cs : List Value) => A6 (D a = some (dictOf es n)) (KeysOf g.I es.toArray) (Pairs g.I es ((kvs.map (·.1)).zip cs)) (VRs g D (kvs.map (·.2)) cs) ((kvs.map (·.1)).Nodup) (c = .ref a)
  | .dS kvs, c => X4 fun (a : Addr) (es : List DictEntry) (n : Nat) (cs : List Value) => A6 (D a = some (dictOf es n)) (KeysOf g.S es.toArray) (Pairs g.S es ((kvs.map (·.1)).zip cs)) (VRs g D (kvs.map (·.2)) cs) ((kvs.map (·.1)).Nodup) (c = .ref a)
  | .dT kvs, c => X3 fun (a : Addr) (xs : List (List Int × Addr × Value)) (n : Nat) => A6 (D a = some (dictOf (xs.map (entryOfKey g.T)) n)) (kvs.map (·.1) = xs.map (·.1)) ((∀ x ∈ xs, KeyAt D x.1 x.2.1)) (VRs g D (kvs.map (·.2)) (xs.map (·.2.2))) ((kvs.map (·.1)).Nodup) (c = .ref a)
  | .obj C kvs, c => X5 fun (x dx : Addr) (es : List DictEntry) (n : Nat) (cs : List Value) => A7 (D x = some (instObj C dx)) (D dx = some (dictOf es n)) (KeysOf g.S es.toArray) (Pairs g.S es ((kvs.map (·.1)).zip cs)) (VRs g D (kvs.map (·.2)) cs) ((kvs.map (·.1)).Nodup) (c = .ref x)
  | .rng lo hi, c => X4 fun (a : Addr) (t u v : Tok) => D a = some { cls := .type "range", data := .fields #[.int lo t, .int hi u, .int 1 v] } ∧ c = .ref a
  | .ref a, c => c = .ref a
  | .inst C dx, c => ∃ x : Addr, D x = some (instObj C dx) ∧ c = .ref x
theorem VR.of {g : G} {D : Fz} {v : V} {c : Value} (r : VR g D v c) : VR.Of g D v c :=
  @VR.casesOn g D (fun v c _ => VR.Of g D v c) v c r rfl (fun _ => rfl) (fun i t => ⟨t, rfl⟩) (fun x t => ⟨t, rfl⟩) (fun b t => ⟨t, rfl⟩) (fun _ => rfl) (fun e r => ⟨_, _, _, e, r, rfl⟩) (fun e r => ⟨_, _, _, e, r, rfl⟩)
    (fun e k p r n => ⟨_, _, _, _, e, k, p, r, n, rfl⟩) (fun e k p r n => ⟨_, _, _, _, e, k, p, r, n, rfl⟩) (fun e k p r n => ⟨_, _, _, e, k, p, r, n, rfl⟩) (fun e e2 k p r n => ⟨_, _, _, _, _, e, e2, k, p, r, n, rfl⟩) (fun e => ⟨_, _, _, _, e, rfl⟩) (fun _ => rfl) (fun e => ⟨_, e, rfl⟩)

noncomputable def Fle (D D' : Fz) : Prop := ∀ b o, D b = some o → D' b = some o
theorem Fle.refl (D : Fz) : Fle D D := fun _ _ e => e
theorem Fle.trans {D D' D'' : Fz} (a : Fle D D') (b : Fle D' D'') : Fle D D'' := fun x o e => b x o (a x o e)
theorem KeyAt.mono {D D' : Fz} (h : Fle D D') {ks : List Int} {a : Addr} (k : KeyAt D ks a) : KeyAt D' ks a := let ⟨xs, n, e, i⟩ := k; ⟨xs, n, h _ _ e, i⟩

theorem VR.mono {g : G} {D D' : Fz} (h : Fle D D') {v : V} {c : Value} (r : VR g D v c) : VR g D' v c :=
  @VR.rec g D (fun v c _ => VR g D' v c) (fun vs cs _ => VRs g D' vs cs) .none .bool .int .str .bts .cst (fun e _ r => .tup (h _ _ e) r) (fun e _ r => .lst (h _ _ e) r) (fun e k p _ n r => .dI (h _ _ e) k p r n) (fun e k p _ n r => .dS (h _ _ e) k p r n) (fun e k p _ n r => .dT (h _ _ e) k (fun x hx => (p x hx).mono h) r n)
    (fun e e' k p _ n r => .obj (h _ _ e) (h _ _ e') k p r n) (fun e => .rng (h _ _ e)) .ref (fun e => .inst (h _ _ e)) .nil (fun _ _ a r => .cons a r) v c r
theorem VRs.mono {g : G} {D D' : Fz} (h : Fle D D') {vs : List V} {cs : List Value} (r : VRs g D vs cs) : VRs g D' vs cs :=
  @VRs.rec g D (fun v c _ => VR g D' v c) (fun vs cs _ => VRs g D' vs cs) .none .bool .int .str .bts .cst (fun e _ r => .tup (h _ _ e) r) (fun e _ r => .lst (h _ _ e) r) (fun e k p _ n r => .dI (h _ _ e) k p r n) (fun e k p _ n r => .dS (h _ _ e) k p r n) (fun e k p _ n r => .dT (h _ _ e) k (fun x hx => (p x hx).mono h) r n)
    (fun e e' k p _ n r => .obj (h _ _ e) (h _ _ e') k p r n) (fun e => .rng (h _ _ e)) .ref (fun e => .inst (h _ _ e)) .nil (fun _ _ a r => .cons a r) vs cs r

section
variable {g : G} {D : Fz}
theorem VRs.length {vs : List V} {cs : List Value} (h : VRs g D vs cs) : cs.length = vs.length := by
  induction vs generalizing cs with
  | nil => cases h; rfl
  | cons v vs ih => cases h with | cons _ r => simp [ih r]
theorem VRs.append {vs ws : List V} {cs ds : List Value} (h : VRs g D vs cs) (k : VRs g D ws ds) : VRs g D (vs ++ ws) (cs ++ ds) := by
  induction vs generalizing cs with
  | nil => cases h; exact k
  | cons v vs ih => cases h with | cons a r => exact .cons a (ih r)
theorem VRs.get {vs : List V} {cs : List Value} (h : VRs g D vs cs) {i : Nat} {v : V} (hi : vs[i]? = some v) : ∃ c, cs[i]? = some c ∧ VR g D v c := by
  induction vs generalizing cs i with
  | nil => simp at hi
  | cons u vs ih =>
    cases h with
    | cons a r =>
      cases i with
      | zero => simp at hi; subst hi; exact ⟨_, rfl, a⟩
      | succ i => exact ih r (by simpa using hi)
theorem VRs.take {vs : List V} {cs : List Value} (h : VRs g D vs cs) (k : Nat) : VRs g D (vs.take k) (cs.take k) := by
  induction vs generalizing cs k with
  | nil => cases h; simpa using VRs.nil
  | cons v vs ih => cases h with | cons a r => cases k with | zero => exact .nil | succ k => exact .cons a (ih r k)
theorem VRs.drop {vs : List V} {cs : List Value} (h : VRs g D vs cs) (k : Nat) : VRs g D (vs.drop k) (cs.drop k) := by
  induction vs generalizing cs k with
  | nil => cases h; simpa using VRs.nil
  | cons v vs ih => cases h with | cons a r => cases k with | zero => exact .cons a r | succ k => exact ih r k
theorem VRs.reverse {vs : List V} {cs : List Value} (h : VRs g D vs cs) : VRs g D vs.reverse cs.reverse := by
  induction vs generalizing cs with
  | nil => cases h; exact .nil
  | cons v vs ih => cases h with | cons a r => rw [List.reverse_cons, List.reverse_cons]; exact (ih r).append (.cons a .nil)
theorem VRs.ints {ns : List Int} {cs : List Value} (h : VRs g D (ns.map .int) cs) : IntsAre cs ns := by
  induction ns generalizing cs with
  | nil => cases h; exact .nil
  | cons n ns ih => cases h with | cons a r => obtain ⟨_, e⟩ := a.of; cases e; exact .cons _ _ (ih r)
theorem VRs.of_ints {ns : List Int} {cs : List Value} (h : IntsAre cs ns) : VRs g D (ns.map .int) cs := by
  induction h with
  | nil => exact .nil
  | cons n t _ ih => exact .cons (.int n t) ih
end

/-- what the heap holds of a mutable object -/
inductive OR (g : G) (D : Fz) : MO → Obj → Prop
  | list {xs : List Value} {n : Nat} {vs : List V} : VRs g D vs xs → OR g D (.list vs) (lstO xs n)
  | dI {es : List DictEntry} {n : Nat} {cs : List Value} {kvs : List (Int × V)} : KeysOf g.I es.toArray → Pairs g.I es ((kvs.map (·.1)).zip cs) → VRs g D (kvs.map (·.2)) cs → (kvs.map (·.1)).Nodup → OR g D (.dI kvs) (dictOf es n)
  | dS {es : List DictEntry} {n : Nat} {cs : List Value} {kvs : List (Str × V)} : KeysOf g.S es.toArray → Pairs g.S es ((kvs.map (·.1)).zip cs) → VRs g D (kvs.map (·.2)) cs → (kvs.map (·.1)).Nodup → OR g D (.dS kvs) (dictOf es n)
  | dT {xs : List (List Int × Addr × Value)} {n : Nat} {kvs : List (List Int × V)} : kvs.map (·.1) = xs.map (·.1) → (∀ x ∈ xs, KeyAt D x.1 x.2.1) → VRs g D (kvs.map (·.2)) (xs.map (·.2.2)) → (kvs.map (·.1)).Nodup →
      OR g D (.dT kvs) (dictOf (xs.map (entryOfKey g.T)) n)
noncomputable def OR.Of (g : G) (D : Fz) : MO → Obj → Prop
  | .list vs, o => X2 fun (xs : List Value) (n : Nat) => VRs g D vs xs ∧ o = lstO xs n
  | .dI kvs, o => X3 fun (es : List DictEntry) (n : Nat) (cs : List Value) => A5 (KeysOf g.I es.toArray) (Pairs g.I es ((kvs.map (·.1)).zip cs)) (VRs g D (kvs.map (·.2)) cs) ((kvs.map (·.1)).Nodup) (o = dictOf es n)
  | .dS kvs, o => X3 fun (es : List DictEntry) (n : Nat) (cs : List Value) => A5 (KeysOf g.S es.toArray) (Pairs g.S es ((kvs.map (·.1)).zip cs)) (VRs g D (kvs.map (·.2)) cs) ((kvs.map (·.1)).Nodup) (o = dictOf es n)
  | .dT kvs, o => X2 fun (xs : List (List Int × Addr × Value)) (n : Nat) => A5 (kvs.map (·.1) = xs.map (·.1)) (∀ x ∈ xs, KeyAt D x.1 x.2.1) (VRs g D (kvs.map (·.2)) (xs.map (·.2.2))) ((kvs.map (·.1)).Nodup) (o = dictOf (xs.map (entryOfKey g.T)) n)
theorem OR.of {g : G} {D : Fz} {m : MO} {o : Obj} (x : OR g D m o) : OR.Of g D m o :=
  @OR.casesOn g D (fun m o _ => OR.Of g D m o) m o x (fun r => ⟨_, _, r, rfl⟩) (fun k p r n => ⟨_, _, _, k, p, r, n, rfl⟩) (fun k p r n => ⟨_, _, _, k, p, r, n, rfl⟩) (fun k p r n => ⟨_, _, k, p, r, n, rfl⟩)
theorem OR.mono {g : G} {D D' : Fz} (h : Fle D D') {m : MO} {o : Obj} (x : OR g D m o) : OR g D' m o :=
  @OR.casesOn g D (fun m o _ => OR g D' m o) m o x (fun r => .list (r.mono h)) (fun k p r n => .dI k p (r.mono h) n) (fun k p r n => .dS k p (r.mono h) n) (fun k p r n => .dT k (fun x hx => (p x hx).mono h) (r.mono h) n)
theorem OR.notFreed {g : G} {D : Fz} {m : MO} {o : Obj} (x : OR g D m o) : o.isFreed = false :=
  @OR.casesOn g D (fun _ o _ => o.isFreed = false) m o x (fun _ => rfl) (fun _ _ _ _ => rfl) (fun _ _ _ _ => rfl) (fun _ _ _ _ => rfl)

/-- the state: D is kept, sigma may be turned, own is the frame's own (locals, cells) -/
structure St (g : G) (own : Addr → Prop) (D : Fz) (σ : Sig) (s : Shared) : Prop where
  base : ∀ b o, g.hb.get? b = some o → s.heap.get? b = some o
  dat : ∀ b o, D b = some o → s.heap.get? b = some o
  mt : ∀ b m, σ b = some m → ∃ o, s.heap.get? b = some o ∧ OR g D m o
  dσ : ∀ b o, D b = some o → σ b = none
  dO : ∀ b o, D b = some o → ¬ own b
  σO : ∀ b m, σ b = some m → ¬ own b
  bσ : ∀ b o, g.hb.get? b = some o → σ b = none
  bO : ∀ b o, g.hb.get? b = some o → ¬ own b
  oex : ∀ b, own b → ∃ o, s.heap.get? b = some o
  dsys : ∀ o, D sysModules = some o → o.cls ≠ .type "dict"
  ssys : σ sysModules = none
  gens : s.gens = #[]
  os : s.os = g.os

structure Step (own : Addr → Prop) (D : Fz) (σ : Sig) (s : Shared) (D' : Fz) (σ' : Sig) (s' : Shared) : Prop where
  fle : Fle D D'
  fresh : ∀ b o, D' b = some o → D b = some o ∨ s.heap.get? b = none ∨ (∃ m, σ b = some m)
  mfresh : ∀ b m, σ' b = some m → (∃ m, σ b = some m) ∨ s.heap.get? b = none
  keep : ∀ b o, s.heap.get? b = some o → σ b = none → ¬ own b → s'.heap.get? b = some o
  live : ∀ b o, s.heap.get? b = some o → ∃ o', s'.heap.get? b = some o'

theorem Step.refl {own : Addr → Prop} {D : Fz} {σ : Sig} {s : Shared} : Step own D σ s D σ s :=
  ⟨.refl _, fun _ _ e => .inl e, fun _ _ e => .inl ⟨_, e⟩, fun _ _ e _ _ => e, fun _ o e => ⟨o, e⟩⟩
theorem Step.dead {own : Addr → Prop} {D D' : Fz} {σ σ' : Sig} {s s' : Shared} (a : Step own D σ s D' σ' s') {b : Addr} (h : s'.heap.get? b = none) : s.heap.get? b = none := by
  cases q : s.heap.get? b with
  | none => rfl
  | some o => obtain ⟨o', e⟩ := a.live b o q; rw [h] at e; cases e
theorem Step.trans {own : Addr → Prop} {D D' D'' : Fz} {σ σ' σ'' : Sig} {s s' s'' : Shared} (a : Step own D σ s D' σ' s') (b : Step own D' σ' s' D'' σ'' s'') : Step own D σ s D'' σ'' s'' where
  fle := a.fle.trans b.fle
  fresh := fun x o e => by
    rcases b.fresh x o e with h | h | ⟨m, h⟩
    · exact a.fresh x o h
    · exact .inr (.inl (a.dead h))
    · rcases a.mfresh x m h with h | h
      · exact .inr (.inr h)
      · exact .inr (.inl h)
  mfresh := fun x m e => by
    rcases b.mfresh x m e with ⟨m', h⟩ | h
    · exact a.mfresh x m' h
    · exact .inr (a.dead h)
  keep := fun x o e h1 h2 => b.keep x o (a.keep x o e h1 h2) (by
    cases h : σ' x with
    | none => rfl
    | some m =>
      rcases a.mfresh x m h with ⟨m', h'⟩ | h'
      · rw [h1] at h'; cases h'
      · rw [e] at h'; cases h') h2
  live := fun x o e => let ⟨o', e'⟩ := a.live x o e; b.live x o' e'
theorem Step.own {own own' : Addr → Prop} {D D' : Fz} {σ σ' : Sig} {s s' : Shared} (a : Step own D σ s D' σ' s') (h : ∀ b, own b → own' b) : Step own' D σ s D' σ' s' :=
  ⟨a.fle, a.fresh, a.mfresh, fun b o e h1 h2 => a.keep b o e h1 fun x => h2 (h b x), a.live⟩

/-- room left: k calls deep -/
structure Room (k : Nat) (A : Around) : Prop where
  hh : A.handled = none
  dep : A.depth + 5 * k ≤ 700
  un : A.units + 100 * k ≤ 9000
theorem Room.mono {k k' : Nat} {A : Around} (h : Room k A) (e : k' ≤ k) : Room k' A := ⟨h.hh, Nat.le_trans (Nat.add_le_add_left (Nat.mul_le_mul_left 5 e) _) h.dep, Nat.le_trans (Nat.add_le_add_left (Nat.mul_le_mul_left 100 e) _) h.un⟩
theorem Room.depth {k : Nat} {A : Around} (h : Room k A) : A.depth < recursionLimit := Nat.lt_of_le_of_lt (Nat.le_trans (Nat.le_add_right _ _) h.dep) (Nat.le_of_ble_eq_true rfl : 700 + 1 ≤ 1000)
theorem Room.units {k : Nat} {A : Around} (h : Room k A) : A.units < cLine := Nat.lt_of_le_of_lt (Nat.le_trans (Nat.le_add_right _ _) h.un) (Nat.le_of_ble_eq_true rfl : 9000 + 1 ≤ 9900)
theorem Room.units1 {k : Nat} {A : Around} (h : Room k A) : A.units + 1 < cLine := Nat.lt_of_le_of_lt (Nat.add_le_add_right (Nat.le_trans (Nat.le_add_right _ _) h.un) 1) (Nat.le_of_ble_eq_true rfl : 9001 + 1 ≤ 9900)
theorem Room.units2 {k : Nat} {A : Around} (h : Room k A) : A.units + 2 < cLine := Nat.lt_of_le_of_lt (Nat.add_le_add_right (Nat.le_trans (Nat.le_add_right _ _) h.un) 2) (Nat.le_of_ble_eq_true rfl : 9002 + 1 ≤ 9900)
theorem Room.deeper {k : Nat} {A : Around} {env : Env} (h : Room (k + 1) A) : Room k (A.deeper env) :=
  ⟨h.hh, Nat.le_trans (Nat.le_of_eq (Nat.add_right_comm _ _ _)) (Nat.le_trans (Nat.add_le_add_left (Nat.le_of_ble_eq_true rfl : 1 ≤ 5) _) h.dep), Nat.le_trans (Nat.le_of_eq (Nat.add_right_comm _ _ _)) (Nat.le_trans (Nat.add_le_add_left (Nat.le_of_ble_eq_true rfl : 3 ≤ 100) _) h.un)⟩

noncomputable abbrev M (g : G) : Model := model g.prog g.w
noncomputable abbrev NoE : Value → Shared → Prop := fun _ _ => False

/-- a computation from a state to a state -/
inductive WR (g : G) (own md : Addr → Prop) (D : Fz) (σ : Sig) (s : Shared) (Q : Fz → Sig → Shared → Prop) (s' : Shared) : Prop
  | mk (D' : Fz) (σ' : Sig) : St g own D' σ' s' → Step md D σ s D' σ' s' → Q D' σ' s' → WR g own md D σ s Q s'
noncomputable def W {α : Type} (g : G) (A : Around) (own md : Addr → Prop) (t : Sem α) (D : Fz) (σ : Sig) (s : Shared) (Q : α → Fz → Sig → Shared → Prop) : Prop :=
  wpAny (M g) A t (fun a s' => WR g own md D σ s (Q a) s') NoE s

section
variable {α β : Type} {g : G} {A : Around} {own md : Addr → Prop} {D : Fz} {σ : Sig} {s : Shared}
theorem W.pure {a : α} {Q : α → Fz → Sig → Shared → Prop} (h : St g own D σ s) (q : Q a D σ s) : W g A own md (Pure.pure a) D σ s Q := wpAny_pure ⟨D, σ, h, .refl, q⟩
theorem W.mono {t : Sem α} {Q Q' : α → Fz → Sig → Shared → Prop} (h : W g A own md t D σ s Q) (q : ∀ a D' σ' s', St g own D' σ' s' → Step md D σ s D' σ' s' → Q a D' σ' s' → Q' a D' σ' s') : W g A own md t D σ s Q' :=
  wpAny_mono h (fun a s' ⟨D', σ', x, y, z⟩ => ⟨D', σ', x, y, q a D' σ' s' x y z⟩) fun _ _ e => e
theorem W.bind {t : Sem α} {f : α → Sem β} {Q : β → Fz → Sig → Shared → Prop} (h : W g A own md t D σ s fun a D' σ' s' => W g A own md (f a) D' σ' s' Q) : W g A own md (t >>= f) D σ s Q :=
  wpAny_bind (wpAny_mono h (fun a s' ⟨D', σ', _, y, z⟩ => wpAny_mono z (fun b s'' ⟨D'', σ'', x', y', z'⟩ => ⟨D'', σ'', x', y.trans y', z'⟩) fun _ _ e => e) fun _ _ e => e)
theorem W.holding {vs : List Value} {t : Sem α} {Q : α → Fz → Sig → Shared → Prop} (h : W g A own md t D σ s Q) : W g A own md (holding vs t) D σ s Q := wpAny_holding h
theorem W.standAt {pos : Pos} {f : Unit → Sem β} {Q : β → Fz → Sig → Shared → Prop} (h : W g A own md (f ()) D σ s Q) : W g A own md (standAt pos >>= f) D σ s Q := wpAny_bind (wpAny_standAt h)
/-- a step that leaves the heap as it is -/
theorem W.quiet {t : Sem α} {Q : α → Fz → Sig → Shared → Prop} (S : St g own D σ s) (h : wpAny (M g) A t (fun a s' => ∃ tk, s' = { s with toks := tk } ∧ Q a D σ s') NoE s) : W g A own md t D σ s Q :=
  wpAny_mono h (fun a s' ⟨tk, e, q⟩ => ⟨D, σ, by subst e; exact ⟨S.base, S.dat, S.mt, S.dσ, S.dO, S.σO, S.bσ, S.bO, S.oex, S.dsys, S.ssys, S.gens, S.os⟩, by
    subst e; exact ⟨.refl _, fun _ _ e => .inl e, fun _ _ e => .inl ⟨_, e⟩, fun _ _ e _ _ => e, fun _ o e => ⟨o, e⟩⟩, q⟩) fun _ _ e => e
end

theorem St.tok {g : G} {own : Addr → Prop} {D : Fz} {σ : Sig} {s : Shared} (S : St g own D σ s) (t : Nat) : St g own D σ { s with toks := t } := ⟨S.base, S.dat, S.mt, S.dσ, S.dO, S.σO, S.bσ, S.bO, S.oex, S.dsys, S.ssys, S.gens, S.os⟩
theorem Step.tok {own : Addr → Prop} {D : Fz} {σ : Sig} {s : Shared} (t : Nat) : Step own D σ s D σ { s with toks := t } := ⟨.refl _, fun _ _ e => .inl e, fun _ _ e => .inl ⟨_, e⟩, fun _ _ e _ _ => e, fun _ o e => ⟨o, e⟩⟩

noncomputable def Fz.put (D : Fz) (a : Addr) (o : Obj) : Fz := fun b => if b = a then some o else D b
noncomputable def Sig.set (σ : Sig) (a : Addr) (m : MO) : Sig := fun b => if b = a then some m else σ b
noncomputable def Sig.del (σ : Sig) (a : Addr) : Sig := fun b => if b = a then none else σ b
theorem Fz.put_self (D : Fz) (a : Addr) (o : Obj) : D.put a o a = some o := if_pos rfl
theorem Fz.put_le {D : Fz} {a : Addr} {o : Obj} (h : D a = none) : Fle D (D.put a o) := fun b o' e => by
  unfold Fz.put; split
  · rename_i q; rw [q, h] at e; cases e
  · exact e

section
variable {g : G} {own : Addr → Prop} {D : Fz} {σ : Sig} {s : Shared}
theorem no_some {α : Type} {o : Option α} (h : ∀ x, o = some x → False) : o = none := by
  cases o with
  | none => rfl
  | some x => exact (h x rfl).elim
theorem St.σ_own (S : St g own D σ s) {b : Addr} (h : own b) : σ b = none := no_some fun m e => S.σO b m e h
theorem St.D_own (S : St g own D σ s) {b : Addr} (h : own b) : D b = none := no_some fun o e => S.dO b o e h
theorem bfalse {b : Bool} (h : b = true → False) : b = false := by
  cases b with
  | false => rfl
  | true => exact (h rfl).elim
theorem St.sys_D (S : St g own D σ s) {a : Addr} {o : Obj} (e : D a = some o) (h : o.cls = .type "dict") : (a == sysModules) = false := bfalse fun q => S.dsys _ (beq_iff_eq.mp q ▸ e) h
theorem St.sys_σ (S : St g own D σ s) {a : Addr} {m : MO} (e : σ a = some m) : (a == sysModules) = false := bfalse fun q => nomatch (beq_iff_eq.mp q ▸ e).symm.trans S.ssys
theorem St.lt_D (S : St g own D σ s) {b : Addr} {o : Obj} (e : D b = some o) : b < s.heap.objs.size := Heap.lt_size (S.dat b o e)
theorem St.D_none (S : St g own D σ s) {b : Addr} (e : s.heap.get? b = none) : D b = none := by
  cases h : D b with
  | none => rfl
  | some o => rw [S.dat b o h] at e; cases e
theorem St.σ_none (S : St g own D σ s) {b : Addr} (e : s.heap.get? b = none) : σ b = none := by
  cases h : σ b with
  | none => rfl
  | some m => obtain ⟨o, q, _⟩ := S.mt b m h; rw [q] at e; cases e
theorem St.own_none (S : St g own D σ s) {b : Addr} (e : s.heap.get? b = none) : ¬ own b := fun x => by obtain ⟨o, q⟩ := S.oex b x; rw [q] at e; cases e
theorem St.ne_sys (S : St g own D σ s) : s.heap.objs.size ≠ sysModules := by
  obtain ⟨o, _, _, e, _⟩ := g.hmg
  have h : mainGlobals < s.heap.objs.size := Heap.lt_size (S.base _ _ e)
  have h' : (3 : Nat) < s.heap.objs.size := h
  show s.heap.objs.size ≠ (1 : Nat)
  omega
theorem get?_size (h : Heap) : h.get? h.objs.size = none := by
  cases q : h.get? h.objs.size with
  | none => rfl
  | some o => exact absurd (Heap.lt_size q) (Nat.lt_irrefl _)

/-- all objects kept, some tokens spent, new objects perhaps -/
theorem St.keeps (S : St g own D σ s) {h' : Heap} {tk : Nat} (k : ∀ b o, s.heap.get? b = some o → h'.get? b = some o) : St g own D σ { s with heap := h', toks := tk } :=
  ⟨fun b o e => k _ _ (S.base b o e), fun b o e => k _ _ (S.dat b o e), fun b m e => let ⟨o, h, r⟩ := S.mt b m e; ⟨o, k _ _ h, r⟩, S.dσ, S.dO, S.σO, S.bσ, S.bO, fun b x => let ⟨o, e⟩ := S.oex b x; ⟨o, k _ _ e⟩, S.dsys, S.ssys, S.gens, S.os⟩
theorem Step.keeps {md : Addr → Prop} {h' : Heap} {tk : Nat} (k : ∀ b o, s.heap.get? b = some o → h'.get? b = some o) : Step md D σ s D σ { s with heap := h', toks := tk } :=
  ⟨.refl _, fun _ _ e => .inl e, fun _ _ e => .inl ⟨_, e⟩, fun _ _ e _ _ => k _ _ e, fun _ o e => ⟨o, k _ _ e⟩⟩

/-- a new object as data -/
theorem St.newD (S : St g own D σ s) {h' : Heap} {a : Addr} {o : Obj} {tk : Nat} (k : ∀ b o, s.heap.get? b = some o → h'.get? b = some o) (ha : s.heap.get? a = none) (h3 : a ≠ sysModules) (ho : h'.get? a = some o) :
    St g own (D.put a o) σ { s with heap := h', toks := tk } := by
  have T : St g own D σ { s with heap := h', toks := tk } := S.keeps k
  refine ⟨T.base, fun b o' e => ?_, fun b m e => let ⟨o, h, r⟩ := T.mt b m e; ⟨o, h, r.mono (Fz.put_le (S.D_none ha))⟩, fun b o' e => ?_, fun b o' e => ?_, S.σO, S.bσ, S.bO, T.oex, fun o e => S.dsys o (by unfold Fz.put at e; rwa [if_neg (Ne.symm h3)] at e), S.ssys, S.gens, S.os⟩
  all_goals unfold Fz.put at e; split at e
  · rename_i q; cases e; rw [q]; exact ho
  · exact T.dat b o' e
  · rename_i q; rw [q]; exact S.σ_none ha
  · exact S.dσ b o' e
  · rename_i q; rw [q]; exact S.own_none ha
  · exact S.dO b o' e
theorem Step.newD {md : Addr → Prop} (S : St g own D σ s) {h' : Heap} {a : Addr} {o : Obj} {tk : Nat} (k : ∀ b o, s.heap.get? b = some o → h'.get? b = some o) (ha : s.heap.get? a = none) :
    Step md D σ s (D.put a o) σ { s with heap := h', toks := tk } :=
  ⟨Fz.put_le (S.D_none ha), fun b o' e => by
    unfold Fz.put at e; split at e
    · rename_i q; exact .inr (.inl (q ▸ ha))
    · exact .inl e, fun _ _ e => .inl ⟨_, e⟩, fun _ _ e _ _ => k _ _ e, fun _ o e => ⟨o, k _ _ e⟩⟩

/-- a new mutable object -/
theorem St.newM (S : St g own D σ s) {h' : Heap} {a : Addr} {o : Obj} {m : MO} {tk : Nat} (k : ∀ b o, s.heap.get? b = some o → h'.get? b = some o) (ha : s.heap.get? a = none) (h3 : a ≠ sysModules) (ho : h'.get? a = some o) (r : OR g D m o) :
    St g own D (σ.set a m) { s with heap := h', toks := tk } := by
  have T : St g own D σ { s with heap := h', toks := tk } := S.keeps k
  refine ⟨T.base, T.dat, fun b m' e => ?_, fun b o' e => ?_, S.dO, fun b m' e => ?_, fun b o' e => ?_, S.bO, T.oex, S.dsys, by unfold Sig.set; rw [if_neg (Ne.symm h3)]; exact S.ssys, S.gens, S.os⟩
  · unfold Sig.set at e; split at e
    · rename_i q; cases e; rw [q]; exact ⟨o, ho, r⟩
    · exact T.mt b m' e
  · unfold Sig.set; split
    · rename_i q; rw [q, S.D_none ha] at e; cases e
    · exact S.dσ b o' e
  · unfold Sig.set at e; split at e
    · rename_i q; rw [q]; exact S.own_none ha
    · exact S.σO b m' e
  · unfold Sig.set; split
    · rename_i q; have := S.base _ _ e; rw [q, ha] at this; cases this
    · exact S.bσ b o' e
theorem Step.newM {md : Addr → Prop} {h' : Heap} {a : Addr} {m : MO} {tk : Nat} (k : ∀ b o, s.heap.get? b = some o → h'.get? b = some o) (ha : s.heap.get? a = none) :
    Step md D σ s D (σ.set a m) { s with heap := h', toks := tk } :=
  ⟨.refl _, fun _ _ e => .inl e, fun b m' e => by
    unfold Sig.set at e; split at e
    · rename_i q; exact .inr (q ▸ ha)
    · exact .inl ⟨_, e⟩, fun _ _ e _ _ => k _ _ e, fun _ o e => ⟨o, k _ _ e⟩⟩

/-- a mutable object turned -/
theorem St.upd (S : St g own D σ s) {h' : Heap} {a : Addr} {m m' : MO} {o' : Obj} {tk : Nat} (ha : σ a = some m) (hs : Heap.SameBut a s.heap h') (ho : h'.get? a = some o') (r : OR g D m' o') :
    St g own D (σ.set a m') { s with heap := h', toks := tk } := by
  have ne : ∀ b, σ b = none → b ≠ a := fun b e q => by rw [q, ha] at e; cases e
  refine ⟨fun b o e => (hs.2 b (ne b (S.bσ b o e))).trans (S.base b o e), fun b o e => (hs.2 b (ne b (S.dσ b o e))).trans (S.dat b o e), fun b m'' e => ?_, fun b o e => ?_, S.dO, fun b m'' e => ?_, fun b o e => ?_, S.bO, fun b x => let ⟨o, e⟩ := S.oex b x; ⟨o, (hs.2 b fun q => S.σO a m ha (q ▸ x)).trans e⟩, S.dsys, by unfold Sig.set; rw [if_neg (Ne.symm (ne _ S.ssys).symm)]; exact S.ssys, S.gens, S.os⟩
  · unfold Sig.set at e; split at e
    · rename_i q; cases e; rw [q]; exact ⟨o', ho, r⟩
    · rename_i q; obtain ⟨o, h, r⟩ := S.mt b m'' e; exact ⟨o, (hs.2 b q).trans h, r⟩
  · unfold Sig.set; rw [if_neg (ne b (S.dσ b o e))]; exact S.dσ b o e
  · unfold Sig.set at e; split at e
    · rename_i q; rw [q]; exact S.σO a m ha
    · exact S.σO b m'' e
  · unfold Sig.set; rw [if_neg (ne b (S.bσ b o e))]; exact S.bσ b o e
theorem Step.upd {md : Addr → Prop} {h' : Heap} {a : Addr} {m m' : MO} {tk : Nat} (ha : σ a = some m) (hs : Heap.SameBut a s.heap h') {o' : Obj} (ho : h'.get? a = some o') : Step md D σ s D (σ.set a m') { s with heap := h', toks := tk } :=
  ⟨.refl _, fun _ _ e => .inl e, fun b m'' e => by
    unfold Sig.set at e; split at e
    · rename_i q; exact .inl ⟨m, q ▸ ha⟩
    · exact .inl ⟨_, e⟩, fun b o e h _ => (hs.2 b fun q => by rw [q, ha] at h; cases h).trans e, fun b o e => by
    by_cases q : b = a
    · exact ⟨o', q ▸ ho⟩
    · exact ⟨o, (hs.2 b q).trans e⟩⟩

/-- sigma forgets -/
noncomputable def Sle (σ σ' : Sig) : Prop := ∀ b m, σ b = some m → σ' b = some m
theorem Sle.refl (σ : Sig) : Sle σ σ := fun _ _ e => e
theorem Sle.trans {a b c : Sig} (x : Sle a b) (y : Sle b c) : Sle a c := fun d m e => y d m (x d m e)
theorem St.forget {σ' : Sig} (S : St g own D σ s) (h : Sle σ' σ) : St g own D σ' s := by
  have no : ∀ b, σ b = none → σ' b = none := fun b e => by
    cases q : σ' b with
    | none => rfl
    | some m => rw [h b m q] at e; cases e
  exact ⟨S.base, S.dat, fun b m e => S.mt b m (h b m e), fun b o e => no b (S.dσ b o e), S.dO, fun b m e => S.σO b m (h b m e), fun b o e => no b (S.bσ b o e), S.bO, S.oex, S.dsys, no _ S.ssys, S.gens, S.os⟩
theorem Step.forget {md : Addr → Prop} {D' : Fz} {σ' σ'' : Sig} {s' : Shared} (T : Step md D σ s D' σ' s') (h : Sle σ'' σ') : Step md D σ s D' σ'' s' :=
  ⟨T.fle, T.fresh, fun b m e => T.mfresh b m (h b m e), T.keep, T.live⟩
end
end Mine

end
section
set_option maxRecDepth 100000
set_option linter.unusedVariables false
namespace Mine
open PySem PySem.W PyProof.Rows PySem.Calls

noncomputable abbrev Rho := List (Str × V)
noncomputable abbrev No : Addr → Prop := fun _ => False

structure Fm where
  env : Env
  own : Addr → Prop
  md : Addr → Prop
  oc : Str → Option Addr

structure ER (g : G) (F : Fm) (ρ : Rho) (D : Fz) (h : Heap) : Prop where
  kind : F.env.scope.kind = .function
  glb : F.env.globals = mainGlobals
  blt : F.env.builtins = builtinsNs
  ownL : F.own F.env.locals
  mdL : F.md F.env.locals
  sub : ∀ b, F.md b → F.own b
  ndb : F.env.kindOf "__debug__" = none
  ncd : F.env.kindOf "__classdict__" = none
  locs : ∃ m, h.Ns F.env.locals m ∧ ∀ x v, ρ.lookup x = some v → F.env.kindOf x = some .local → ∃ c, m x = some c ∧ VR g D v c
  cls : ∀ x v, ρ.lookup x = some v → F.env.kindOf x ≠ some .local → (F.env.kindOf x = some .cell ∨ F.env.kindOf x = some .free) ∧ X2 fun ca c => A3 (F.env.cells.lookup x = some ca) (h.IsCell ca (some c)) (VR g D v c)
  oc : ∀ x ca, F.oc x = some ca → F.env.cells.lookup x = some ca ∧ F.md ca ∧ ∃ v, h.IsCell ca v
  ocl : ∀ x ca, F.env.cells.lookup x = some ca → F.own ca ∧ ca ≠ F.env.locals
  inj : ∀ x y ca, F.env.cells.lookup x = some ca → F.env.cells.lookup y = some ca → x = y

theorem ER.keeps {g : G} {F : Fm} {ρ : Rho} {D D' : Fz} {h h' : Heap} (E : ER g F ρ D h) (hD : Fle D D') (k : ∀ b o, F.own b → h.get? b = some o → h'.get? b = some o) : ER g F ρ D' h' where
  kind := E.kind
  glb := E.glb
  blt := E.blt
  ownL := E.ownL
  mdL := E.mdL
  sub := E.sub
  ndb := E.ndb
  ncd := E.ncd
  locs := by
    obtain ⟨m, hn, hm⟩ := E.locs
    exact ⟨m, hn.at' fun o e => k _ o E.ownL e, fun x v a b => let ⟨c, e, r⟩ := hm x v a b; ⟨c, e, r.mono hD⟩⟩
  cls := fun x v a b => by
    obtain ⟨hk, ca, c, e, ⟨o, ho, hd⟩, r⟩ := E.cls x v a b
    exact ⟨hk, ca, c, e, ⟨o, k _ o (E.ocl x ca e).1 ho, hd⟩, r.mono hD⟩
  oc := fun x ca a => by
    obtain ⟨e, m, v, o, ho, hd⟩ := E.oc x ca a
    exact ⟨e, m, v, o, k _ o (E.sub _ m) ho, hd⟩
  ocl := E.ocl
  inj := E.inj
theorem ER.step {g : G} {F : Fm} {ρ : Rho} {D D' : Fz} {σ σ' : Sig} {s s' : Shared} (E : ER g F ρ D s.heap) (S : St g F.own D σ s) (T : Step No D σ s D' σ' s') : ER g F ρ D' s'.heap :=
  E.keeps T.fle fun b o hb e => T.keep b o e (S.σ_own hb) fun x => x

/-- forgetting names -/
noncomputable def Rle (ρ ρ' : Rho) : Prop := ∀ x v, ρ.lookup x = some v → ρ'.lookup x = some v
theorem Rle.refl (ρ : Rho) : Rle ρ ρ := fun _ _ e => e
theorem ER.forget {g : G} {F : Fm} {ρ ρ' : Rho} {D : Fz} {h : Heap} (E : ER g F ρ D h) (r : Rle ρ' ρ) : ER g F ρ' D h :=
  { E with
    locs := let ⟨m, hn, hm⟩ := E.locs; ⟨m, hn, fun x v a b => hm x v (r x v a) b⟩
    cls := fun x v a b => E.cls x v (r x v a) b }

/-- an expression -/
inductive PV (g : G) (Q : V → Sig → Prop) (c : Value) (D' : Fz) (σ' : Sig) (s' : Shared) : Prop
  | mk (v : V) : VR g D' v c → Q v σ' → PV g Q c D' σ' s'
noncomputable def EV (g : G) (k : Nat) (sc : Scope) (ρ : Rho) (e : Expr) (σ : Sig) (Q : V → Sig → Prop) : Prop :=
  ∀ F A D s, F.env.scope = sc → Room k A → St g F.own D σ s → ER g F ρ D s.heap → W g A F.own No (eval e F.env) D σ s (PV g Q)
/-- a test -/
noncomputable def TR (g : G) (k : Nat) (sc : Scope) (ρ : Rho) (e : Expr) (σ : Sig) (Q : Bool → Sig → Prop) : Prop :=
  ∀ F A D s, F.env.scope = sc → Room k A → St g F.own D σ s → ER g F ρ D s.heap → W g A F.own No (isTrue e F.env (eval e F.env)) D σ s fun b D' σ' s' => Q b σ'
noncomputable def OP2 (g : G) (k : Nat) (f : Value → Value → Sem Value) (a b : V) (σ : Sig) (Q : V → Sig → Prop) : Prop :=
  ∀ A own D s c d, Room k A → St g own D σ s → VR g D a c → VR g D b d → W g A own No (f c d) D σ s (PV g Q)
noncomputable def TRU (g : G) (k : Nat) (a : V) (σ : Sig) (Q : Bool → Sig → Prop) : Prop :=
  ∀ A own D s c, Room k A → St g own D σ s → VR g D a c → W g A own No (truthy c) D σ s fun b D' σ' s' => Q b σ'
noncomputable abbrev cmpQ (Q : Bool → Sig → Prop) : V → Sig → Prop := fun v σ' => ∃ t, v = .bool t ∧ Q t σ'
noncomputable abbrev CMP (g : G) (k : Nat) (op : CmpOp) (a b : V) (σ : Sig) (Q : Bool → Sig → Prop) : Prop :=
  OP2 g k (compareOp op) a b σ (cmpQ Q)
/-- statements: N behind them, R at a return -/
noncomputable def XP (g : G) (F : Fm) (N : Rho → Sig → Prop) (R : V → Sig → Prop) (f : Flow) (D' : Fz) (σ' : Sig) (s' : Shared) : Prop := match f with
  | .next => ∃ ρ', ER g F ρ' D' s'.heap ∧ N ρ' σ'
  | .ret c => PV g R c D' σ' s'
  | _ => False
noncomputable def CellsOwn (F : Fm) : Prop := ∀ x, F.env.kindOf x = some .cell → (F.oc x).isSome = true
noncomputable def EX (g : G) (k : Nat) (sc : Scope) (ρ : Rho) (b : List Stmt) (σ : Sig) (N : Rho → Sig → Prop) (R : V → Sig → Prop) : Prop :=
  ∀ F A D s, F.env.scope = sc → CellsOwn F → Room k A → St g F.own D σ s → ER g F ρ D s.heap → W g A F.own F.md (execs b F.env) D σ s (XP g F N R)
noncomputable def EX1 (g : G) (k : Nat) (sc : Scope) (ρ : Rho) (b : Stmt) (σ : Sig) (N : Rho → Sig → Prop) (R : V → Sig → Prop) : Prop :=
  ∀ F A D s, F.env.scope = sc → CellsOwn F → Room k A → St g F.own D σ s → ER g F ρ D s.heap → W g A F.own F.md (exec b F.env) D σ s (XP g F N R)

/-- what comes behind, each in a name of its own: so a rule's use holds no lambda -/
noncomputable abbrev bopK2 (g : G) (k : Nat) (op : Operator) (Q : V → Sig → Prop) (a : V) : V → Sig → Prop := fun b σ₂ => OP2 g k (binaryOp op) a b σ₂ Q
noncomputable abbrev bopK (g : G) (k : Nat) (sc : Scope) (ρ : Rho) (op : Operator) (r : Expr) (Q : V → Sig → Prop) : V → Sig → Prop := fun a σ₁ => EV g k sc ρ r σ₁ (bopK2 g k op Q a)
noncomputable abbrev boolQ (Q : V → Sig → Prop) : Bool → Sig → Prop := fun t σ₃ => Q (.bool t) σ₃
noncomputable abbrev cmpK2 (g : G) (k : Nat) (op : CmpOp) (Q : Bool → Sig → Prop) (a : V) : V → Sig → Prop := fun b σ₂ => CMP g k op a b σ₂ Q
noncomputable abbrev cmpK1 (g : G) (k : Nat) (sc : Scope) (ρ : Rho) (op : CmpOp) (r : Expr) (Q : Bool → Sig → Prop) : V → Sig → Prop := fun a σ₁ => EV g k sc ρ r σ₁ (cmpK2 g k op Q a)
noncomputable abbrev chK3 (g : G) (k : Nat) (sc : Scope) (ρ : Rho) (op2 : CmpOp) (r : Expr) (Q : Bool → Sig → Prop) (b : V) : Bool → Sig → Prop := fun t σ₃ => if t = true then EV g k sc ρ r σ₃ (cmpK2 g k op2 Q b) else Q false σ₃
noncomputable abbrev chK2 (g : G) (k : Nat) (sc : Scope) (ρ : Rho) (op1 op2 : CmpOp) (r : Expr) (Q : Bool → Sig → Prop) (a : V) : V → Sig → Prop := fun b σ₂ => CMP g k op1 a b σ₂ (chK3 g k sc ρ op2 r Q b)
noncomputable abbrev chK (g : G) (k : Nat) (sc : Scope) (ρ : Rho) (op1 op2 : CmpOp) (m r : Expr) (Q : Bool → Sig → Prop) : V → Sig → Prop := fun a σ₁ => EV g k sc ρ m σ₁ (chK2 g k sc ρ op1 op2 r Q a)
noncomputable abbrev notK (Q : Bool → Sig → Prop) : Bool → Sig → Prop := fun b σ' => Q (!b) σ'
noncomputable abbrev truK (g : G) (k : Nat) (Q : Bool → Sig → Prop) : V → Sig → Prop := fun v σ' => TRU g k v σ' Q
noncomputable abbrev andK (g : G) (k : Nat) (sc : Scope) (ρ : Rho) (b : Expr) (Q : Bool → Sig → Prop) : Bool → Sig → Prop := fun t σ₁ => if t = true then TR g k sc ρ b σ₁ Q else Q false σ₁
noncomputable abbrev orK (g : G) (k : Nat) (sc : Scope) (ρ : Rho) (b : Expr) (Q : Bool → Sig → Prop) : Bool → Sig → Prop := fun t σ₁ => if t = true then Q true σ₁ else TR g k sc ρ b σ₁ Q
noncomputable abbrev ifeK (g : G) (k : Nat) (sc : Scope) (ρ : Rho) (a b : Expr) (Q : V → Sig → Prop) : Bool → Sig → Prop := fun c σ₁ => if c = true then EV g k sc ρ a σ₁ Q else EV g k sc ρ b σ₁ Q
noncomputable abbrev orvK2 (g : G) (k : Nat) (sc : Scope) (ρ : Rho) (b : Expr) (Q : V → Sig → Prop) (v : V) : Bool → Sig → Prop := fun t σ₂ => if t = true then Q v σ₂ else EV g k sc ρ b σ₂ Q
noncomputable abbrev orvK (g : G) (k : Nat) (sc : Scope) (ρ : Rho) (b : Expr) (Q : V → Sig → Prop) : V → Sig → Prop := fun v σ₁ => TRU g k v σ₁ (orvK2 g k sc ρ b Q v)
noncomputable abbrev andvK2 (g : G) (k : Nat) (sc : Scope) (ρ : Rho) (b : Expr) (Q : V → Sig → Prop) (v : V) : Bool → Sig → Prop := fun t σ₂ => if t = true then EV g k sc ρ b σ₂ Q else Q v σ₂
noncomputable abbrev andvK (g : G) (k : Nat) (sc : Scope) (ρ : Rho) (b : Expr) (Q : V → Sig → Prop) : V → Sig → Prop := fun v σ₁ => TRU g k v σ₁ (andvK2 g k sc ρ b Q v)
noncomputable abbrev exK (g : G) (k : Nat) (sc : Scope) (ss : List Stmt) (N : Rho → Sig → Prop) (R : V → Sig → Prop) : Rho → Sig → Prop := fun ρ' σ' => EX g k sc ρ' ss σ' N R
noncomputable abbrev ifK (g : G) (k : Nat) (sc : Scope) (ρ : Rho) (b o : List Stmt) (N : Rho → Sig → Prop) (R : V → Sig → Prop) : Bool → Sig → Prop := fun c σ' => if c = true then EX g k sc ρ b σ' N R else EX g k sc ρ o σ' N R

section
variable {g : G} {k : Nat} {sc : Scope} {ρ : Rho} {σ : Sig}

theorem W.sub {α : Type} {A : Around} {own md md' : Addr → Prop} {t : Sem α} {D : Fz} {s : Shared} {Q : α → Fz → Sig → Shared → Prop} (h : W g A own md t D σ s Q) (e : ∀ b, md b → md' b) : W g A own md' t D σ s Q :=
  wpAny_mono h (fun a s' ⟨D', σ', x, y, z⟩ => ⟨D', σ', x, y.own e, z⟩) fun _ _ e => e
theorem W.no {α : Type} {A : Around} {own md : Addr → Prop} {t : Sem α} {D : Fz} {s : Shared} {Q : α → Fz → Sig → Shared → Prop} (h : W g A own No t D σ s Q) : W g A own md t D σ s Q := h.sub fun _ x => x.elim
theorem W.operate {A : Around} {own md : Addr → Prop} {vs : List Value} {t : Sem Value} {D : Fz} {s : Shared} {Q : Value → Fz → Sig → Shared → Prop} (h : W g A own md t D σ s Q) : W g A own md (operate vs t) D σ s Q :=
  fun Γ p hΓ => by rw [Sem.wp_operate]; exact h Γ p hΓ

theorem EV.mono {e : Expr} {Q Q' : V → Sig → Prop} (h : EV g k sc ρ e σ Q) (q : ∀ v σ', Q v σ' → Q' v σ') : EV g k sc ρ e σ Q' :=
  fun F A D s hs R S E => (h F A D s hs R S E).mono fun _ _ _ _ _ _ ⟨v, r, x⟩ => ⟨v, r, q _ _ x⟩
theorem TR.mono {e : Expr} {Q Q' : Bool → Sig → Prop} (h : TR g k sc ρ e σ Q) (q : ∀ v σ', Q v σ' → Q' v σ') : TR g k sc ρ e σ Q' :=
  fun F A D s hs R S E => (h F A D s hs R S E).mono fun _ _ _ _ _ _ x => q _ _ x
theorem EV.room {e : Expr} {k' : Nat} {Q : V → Sig → Prop} (h : EV g k sc ρ e σ Q) (hk : k ≤ k') : EV g k' sc ρ e σ Q := fun F A D s hs R S E => h F A D s hs (R.mono hk) S E

/-- chaining -/
theorem EV.then {e : Expr} {α : Type} {f : Value → Sem α} {F : Fm} {A : Around} {D : Fz} {s : Shared} {Q : V → Sig → Prop} {P : α → Fz → Sig → Shared → Prop} (h : EV g k sc ρ e σ Q) (hs : F.env.scope = sc) (R : Room k A) (S : St g F.own D σ s) (E : ER g F ρ D s.heap)
    (n : ∀ c v D' σ' s', VR g D' v c → Q v σ' → St g F.own D' σ' s' → ER g F ρ D' s'.heap → Step No D σ s D' σ' s' → W g A F.own No (f c) D' σ' s' P) : W g A F.own No (eval e F.env >>= f) D σ s P :=
  W.bind ((h F A D s hs R S E).mono fun c D' σ' s' S' T' ⟨v, r, q⟩ => n c v D' σ' s' r q S' (E.step S T') T')

-- names, constants
theorem ev_name {x : Str} {pos : Pos} {v : V} {Q : V → Sig → Prop} (hv : ρ.lookup x = some v) (q : Q v σ) : EV g k sc ρ (.Name x pos) σ Q := by
  intro F A D s hs R S E
  have hd : (x == ("__debug__" : Str)) = false := by
    cases h : x == ("__debug__" : Str) with
    | false => rfl
    | true =>
      have e := beq_iff_eq.mp h
      exfalso
      have n := E.ndb
      rw [← e] at n
      by_cases hk : F.env.kindOf x = some .local
      · rw [n] at hk; cases hk
      · obtain ⟨hk, _⟩ := E.cls x v hv hk
        rw [n] at hk; rcases hk with hk | hk <;> cases hk
  refine W.quiet S ?_
  by_cases hk : F.env.kindOf x = some .local
  · obtain ⟨m, hn, hm⟩ := E.locs
    obtain ⟨c, hc, r⟩ := hm x v hv hk
    exact wpAny_Name (wpAny_loadName_local E.kind hk hn hc ⟨s.toks, rfl, v, r, q⟩) hd
  · obtain ⟨hk, ca, c, e, hc, r⟩ := E.cls x v hv hk
    rcases hk with hk | hk
    · exact wpAny_Name (wpAny_loadName_cell E.kind hk e hc ⟨s.toks, rfl, v, r, q⟩) hd
    · have hcd : (x == ("__classdict__" : Str)) = false := by
        cases h : x == ("__classdict__" : Str) with
        | false => rfl
        | true =>
          have n := E.ncd
          rw [← beq_iff_eq.mp h, hk] at n
          cases n
      exact wpAny_Name (wpAny_loadName_free E.kind hk e hc ⟨s.toks, rfl, v, r, q⟩ hcd) hd

/-- what every heap of the run tells of a value -/
theorem ev_glob {x : Str} {pos : Pos} {c : Value} {v : V} {Q : V → Sig → Prop} (hk : sc.names.lookup x = some .globalImplicit) (hc : g.mg x = some c) (r : ∀ D, VR g D v c) (q : Q v σ) (hd : autoParam ((x == ("__debug__" : Str)) = false) Mine.sxD) : EV g k sc ρ (.Name x pos) σ Q := by
  intro F A D s hs R S E
  refine W.quiet S (wpAny_Name ?_ hd)
  have hk' : F.env.kindOf x = some .globalImplicit := by unfold Env.kindOf; rw [hs]; exact hk
  rw [loadName_read E.kind hk']
  unfold loadGlobal
  rw [E.glb]
  refine wpAny_bind (wpAny_nsGet (g.hmg.keeps S.base) ?_)
  rw [hc]
  exact wpAny_pure ⟨s.toks, rfl, v, r D, q⟩
theorem ev_blt {x : Str} {pos : Pos} {c : Value} {Q : V → Sig → Prop} (hk : sc.names.lookup x = some .globalImplicit) (hn : g.mg x = none) (hc : g.mb x = some c) (q : Q (.cst c) σ) (hd : autoParam ((x == ("__debug__" : Str)) = false) Mine.sxD) : EV g k sc ρ (.Name x pos) σ Q := by
  intro F A D s hs R S E
  refine W.quiet S (wpAny_Name ?_ hd)
  have hk' : F.env.kindOf x = some .globalImplicit := by unfold Env.kindOf; rw [hs]; exact hk
  rw [loadName_read E.kind hk']
  unfold loadGlobal
  rw [E.glb, E.blt]
  refine wpAny_bind (wpAny_nsGet (g.hmg.keeps S.base) ?_)
  rw [hn]
  refine wpAny_bind (wpAny_nsGet (g.hmb.keeps S.base) ?_)
  rw [hc]
  exact wpAny_pure ⟨s.toks, rfl, _, .cst c, q⟩

theorem ev_int {i : Int} {n : Nat} {pos : Pos} {Q : V → Sig → Prop} (q : Q (.int i) σ) : EV g k sc ρ (.Constant (.int i) n pos) σ Q :=
  fun F A D s hs R S E => W.quiet S (wpAny_Constant_int ⟨_, rfl, _, .int i _, q⟩)
theorem ev_bool {b : Bool} {n : Nat} {pos : Pos} {Q : V → Sig → Prop} (q : Q (.bool b) σ) : EV g k sc ρ (.Constant (.bool b) n pos) σ Q :=
  fun F A D s hs R S E => W.quiet S (wpAny_pure (a := Value.bool b) ⟨s.toks, rfl, _, .bool b, q⟩)
theorem ev_none {n : Nat} {pos : Pos} {Q : V → Sig → Prop} (q : Q .none σ) : EV g k sc ρ (.Constant .none n pos) σ Q :=
  fun F A D s hs R S E => W.quiet S (wpAny_pure (a := Value.none) ⟨s.toks, rfl, _, .none, q⟩)
theorem ev_str {x : Str} {n : Nat} {pos : Pos} {Q : V → Sig → Prop} (q : Q (.str x) σ) : EV g k sc ρ (.Constant (.str x) n pos) σ Q :=
  fun F A D s hs R S E => W.quiet S (wpAny_mkText (x := x) ⟨_, rfl, _, .str x _, q⟩)

-- operators
theorem ev_binop {l r : Expr} {op : Operator} {pos : Pos} {Q : V → Sig → Prop} (h : EV g k sc ρ l σ (bopK g k sc ρ op r Q)) : EV g k sc ρ (.BinOp l op r pos) σ Q := by
  intro F A D s hs R S E
  rw [eval_BinOp]
  refine h.then hs R S E fun c v D₁ σ₁ s₁ r₁ h₁ S₁ E₁ T₁ => ?_
  refine W.bind (W.holding ((h₁ F A D₁ s₁ hs R S₁ E₁).mono fun d D₂ σ₂ s₂ S₂ T₂ w => ?_))
  obtain ⟨u, r₂, h₂⟩ := w
  exact W.standAt (W.operate (h₂ A F.own D₂ s₂ c d R S₂ (r₁.mono T₂.fle) r₂))
theorem ev_cmp {l r : Expr} {op : CmpOp} {pos : Pos} {Q : V → Sig → Prop} (h : EV g k sc ρ l σ (cmpK1 g k sc ρ op r (boolQ Q)))
    (hm : autoParam (behindInMarks op r = false) Mine.sxU) : EV g k sc ρ (.Compare l [op] [r] pos) σ Q := by
  intro F A D s hs R S E
  rw [eval_Compare1]
  refine h.then hs R S E fun c v D₁ σ₁ s₁ r₁ h₁ S₁ E₁ T₁ => ?_
  rw [markedBehindIn_of_false hm]
  refine W.bind (W.holding ((h₁ F A D₁ s₁ hs R S₁ E₁).mono fun d D₂ σ₂ s₂ S₂ T₂ w => ?_))
  obtain ⟨u, r₂, h₂⟩ := w
  refine W.standAt (W.operate ((h₂ A F.own D₂ s₂ c d R S₂ (r₁.mono T₂.fle) r₂).mono ?_))
  rintro c' D' σ' s' _ _ ⟨v, r, t, rfl, q⟩
  exact ⟨_, r, q⟩
theorem tr_cmp {l r : Expr} {op : CmpOp} {pos : Pos} {Q : Bool → Sig → Prop} (h : EV g k sc ρ l σ (cmpK1 g k sc ρ op r Q))
    (hm : autoParam (behindInMarks op r = false) Mine.sxU) : TR g k sc ρ (.Compare l [op] [r] pos) σ Q := by
  intro F A D s hs R S E
  rw [isTrue_Compare1]
  refine h.then hs R S E fun c v D₁ σ₁ s₁ r₁ h₁ S₁ E₁ T₁ => ?_
  rw [markedBehindIn_of_false hm]
  refine W.bind (W.holding ((h₁ F A D₁ s₁ hs R S₁ E₁).mono fun d D₂ σ₂ s₂ S₂ T₂ w => ?_))
  obtain ⟨u, r₂, h₂⟩ := w
  refine W.standAt (W.bind (W.operate ((h₂ A F.own D₂ s₂ c d R S₂ (r₁.mono T₂.fle) r₂).mono ?_)))
  rintro c' D' σ' s' S' _ ⟨v, r, t, rfl, q⟩
  obtain rfl := r.of
  exact W.holding (W.quiet S' (wpAny_truthy_bool ⟨s'.toks, rfl, q⟩))
theorem W.release {β : Type} {A : Around} {own md : Addr → Prop} {vs ks : List Value} {f : Unit → Sem β} {D : Fz} {s : Shared} {P : β → Fz → Sig → Shared → Prop} (h : W g A own md (f ()) D σ s P) : W g A own md (release vs ks >>= f) D σ s P := by
  intro Γ p hΓ
  rw [Sem.wp_bind', Sem.wp_release]; exact h Γ p hΓ
/-- l op1 m op2 r -/
theorem tr_cmp2 {l m r : Expr} {op1 op2 : CmpOp} {pos : Pos} {Q : Bool → Sig → Prop}
    (h : EV g k sc ρ l σ (chK g k sc ρ op1 op2 m r Q))
    (hm : autoParam (behindInMarks op2 r = false) Mine.sxU) : TR g k sc ρ (.Compare l [op1, op2] [m, r] pos) σ Q := by
  intro F A D s hs R S E
  show W g A F.own No (eval l F.env >>= fun left => testChain pos left [op1, op2] [eval m F.env, markedBehindIn op2 r (eval r F.env)]) D σ s _
  refine h.then hs R S E fun c v D₁ σ₁ s₁ r₁ h₁ S₁ E₁ T₁ => ?_
  rw [markedBehindIn_of_false hm]
  show W g A F.own No (holding [c] (eval m F.env) >>= _) D₁ σ₁ s₁ _
  refine W.bind (W.holding ((h₁ F A D₁ s₁ hs R S₁ E₁).mono fun d D₂ σ₂ s₂ S₂ T₂ w => ?_))
  obtain ⟨u, r₂, h₂⟩ := w
  refine W.standAt (W.bind (W.holding ((h₂ A F.own D₂ s₂ c d R S₂ (r₁.mono T₂.fle) r₂).mono ?_)))
  rintro c' D₃ σ₃ s₃ S₃ T₃ ⟨v, r₃, t, rfl, q⟩
  obtain rfl := r₃.of
  refine W.release (W.bind (W.holding (W.quiet S₃ (wpAny_truthy_bool ⟨s₃.toks, rfl, ?_⟩))))
  cases t with
  | false => exact W.pure S₃ q
  | true =>
    have q' : EV g k sc ρ r σ₃ fun c σ₄ => CMP g k op2 u c σ₄ Q := q
    show W g A F.own No (holding [d] (eval r F.env) >>= _) D₃ σ₃ s₃ _
    refine W.bind (W.holding ((q' F A D₃ s₃ hs R S₃ ((E₁.step S₁ T₂).step S₂ T₃)).mono fun e D₄ σ₄ s₄ S₄ T₄ w => ?_))
    obtain ⟨x, r₄, h₄⟩ := w
    refine W.standAt (W.bind (W.operate ((h₄ A F.own D₄ s₄ d e R S₄ ((r₂.mono T₃.fle).mono T₄.fle) r₄).mono ?_)))
    rintro c' D' σ' s' S' _ ⟨v, r, t, rfl, q⟩
    obtain rfl := r.of
    exact W.holding (W.quiet S' (wpAny_truthy_bool ⟨s'.toks, rfl, q⟩))

-- tests
theorem tr_not {x : Expr} {pos : Pos} {Q : Bool → Sig → Prop} (h : TR g k sc ρ x σ (notK Q)) : TR g k sc ρ (.UnaryOp .Not x pos) σ Q := by
  intro F A D s hs R S E
  show W g A F.own No (isTrue x F.env (eval x F.env) >>= fun b => pure (!b)) D σ s _
  exact W.bind ((h F A D s hs R S E).mono fun b D' σ' s' S' T' q => W.pure S' q)
theorem tr_of {e : Expr} {Q : Bool → Sig → Prop} (h : EV g k sc ρ e σ (truK g k Q)) (he : ∀ env, isTrue e env (eval e env) = (eval e env >>= fun v => standAt e.pos >>= fun _ => holding [v] (truthy v)) := by intro _; with_unfolding_all rfl) : TR g k sc ρ e σ Q := by
  intro F A D s hs R S E
  rw [he]
  exact h.then hs R S E fun c v D₁ σ₁ s₁ r₁ h₁ S₁ E₁ T₁ => W.standAt (W.holding (h₁ A F.own D₁ s₁ c R S₁ r₁))
theorem tru_bool {b : Bool} {Q : Bool → Sig → Prop} (q : Q b σ) : TRU g k (.bool b) σ Q := by
  intro A own D s c R S r
  obtain rfl := r.of
  exact W.quiet S (wpAny_truthy_bool ⟨s.toks, rfl, q⟩)
theorem tr_bool {op : BoolOp} {vs : List Expr} {pos : Pos} {Q : Bool → Sig → Prop} (h : ∀ F A D s, F.env.scope = sc → Room k A → St g F.own D σ s → ER g F ρ D s.heap → W g A F.own No (allTrue op vs F.env) D σ s fun b D' σ' s' => Q b σ') : TR g k sc ρ (.BoolOp op vs pos) σ Q := h
theorem at_nil {op : BoolOp} {F : Fm} {A : Around} {D : Fz} {s : Shared} {Q : Bool → Sig → Prop} (S : St g F.own D σ s) (q : Q (op == .And) σ) : W g A F.own No (allTrue op [] F.env) D σ s fun b D' σ' s' => Q b σ' := W.pure S q
theorem at_cons {op : BoolOp} {x : Expr} {r : List Expr} {Q : Bool → Sig → Prop}
    (h : TR g k sc ρ x σ fun b σ' => if b = (op == .And) then (∀ F A D s, F.env.scope = sc → Room k A → St g F.own D σ' s → ER g F ρ D s.heap → W g A F.own No (allTrue op r F.env) D σ' s fun b D' σ' s' => Q b σ') else Q b σ') :
    ∀ F A D s, F.env.scope = sc → Room k A → St g F.own D σ s → ER g F ρ D s.heap → W g A F.own No (allTrue op (x :: r) F.env) D σ s fun b D' σ' s' => Q b σ' := by
  intro F A D s hs R S E
  show W g A F.own No (isTrue x F.env (eval x F.env) >>= _) D σ s _
  refine W.bind ((h F A D s hs R S E).mono fun b D' σ' s' S' T' q => ?_)
  cases op <;> cases b
  · exact W.pure S' q
  · exact q F A D' s' hs R S' (E.step S T')
  · exact q F A D' s' hs R S' (E.step S T')
  · exact W.pure S' q
/-- a and b, a or b as tests -/
theorem tr_and {a b : Expr} {pos : Pos} {Q : Bool → Sig → Prop} (h : TR g k sc ρ a σ (andK g k sc ρ b Q)) : TR g k sc ρ (.BoolOp .And [a, b] pos) σ Q := by
  refine tr_bool (at_cons (h.mono fun t σ₁ q => ?_))
  cases t with
  | false => exact q
  | true =>
    refine at_cons (TR.mono q fun u σ₂ q => ?_)
    cases u with
    | false => exact q
    | true => exact fun F A D s hs R S E => at_nil S q
theorem tr_or {a b : Expr} {pos : Pos} {Q : Bool → Sig → Prop} (h : TR g k sc ρ a σ (orK g k sc ρ b Q)) : TR g k sc ρ (.BoolOp .Or [a, b] pos) σ Q := by
  refine tr_bool (at_cons (h.mono fun t σ₁ q => ?_))
  cases t with
  | true => exact q
  | false =>
    refine at_cons (TR.mono q fun u σ₂ q => ?_)
    cases u with
    | true => exact q
    | false => exact fun F A D s hs R S E => at_nil S q
theorem tr_and3 {a b c : Expr} {pos : Pos} {Q : Bool → Sig → Prop} (h : TR g k sc ρ a σ (andK g k sc ρ (.BoolOp .And [b, c] pos) Q)) : TR g k sc ρ (.BoolOp .And [a, b, c] pos) σ Q := by
  refine tr_bool (at_cons (h.mono fun t σ₁ q => ?_))
  cases t <;> exact q
theorem tr_or3 {a b c : Expr} {pos : Pos} {Q : Bool → Sig → Prop} (h : TR g k sc ρ a σ (orK g k sc ρ (.BoolOp .Or [b, c] pos) Q)) : TR g k sc ρ (.BoolOp .Or [a, b, c] pos) σ Q := by
  refine tr_bool (at_cons (h.mono fun t σ₁ q => ?_))
  cases t <;> exact q
theorem ev_ifexp {t a b : Expr} {pos : Pos} {Q : V → Sig → Prop} (h : TR g k sc ρ t σ (ifeK g k sc ρ a b Q)) : EV g k sc ρ (.IfExp t a b pos) σ Q := by
  intro F A D s hs R S E
  show W g A F.own No (isTrue t F.env (eval t F.env) >>= fun c => if c = true then eval a F.env else eval b F.env) D σ s _
  refine W.bind ((h F A D s hs R S E).mono fun c D' σ' s' S' T' q => ?_)
  cases c
  · exact q F A D' s' hs R S' (E.step S T')
  · exact q F A D' s' hs R S' (E.step S T')
/-- -1 and its like -/
theorem ev_neg {x : Expr} {pos : Pos} {i : Int} {Q : V → Sig → Prop} (h : EV g k sc ρ x σ fun v σ' => v = .int i ∧ Q (.int (-i)) σ') : EV g k sc ρ (.UnaryOp .USub x pos) σ Q := by
  intro F A D s hs R S E
  show W g A F.own No (eval x F.env >>= fun v => standAt pos >>= fun _ => holding [v] (unaryOp .USub v)) D σ s _
  refine h.then hs R S E fun c v D₁ σ₁ s₁ r₁ h₁ S₁ E₁ T₁ => W.standAt (W.holding ?_)
  obtain ⟨rfl, q⟩ := h₁
  obtain ⟨_, rfl⟩ := r₁.of
  exact W.quiet S₁ (PyProof.Rows.neg_int ⟨_, rfl, _, .int _ _, q⟩)
/-- a or b as values: bools -/
theorem ev_or {a b : Expr} {pos : Pos} {Q : V → Sig → Prop} (h : EV g k sc ρ a σ (orvK g k sc ρ b Q)) : EV g k sc ρ (.BoolOp .Or [a, b] pos) σ Q := by
  intro F A D s hs R S E
  show W g A F.own No (boolOp pos .Or [eval a F.env, eval b F.env]) D σ s _
  show W g A F.own No (eval a F.env >>= _) D σ s _
  refine h.then hs R S E fun c v D₁ σ₁ s₁ r₁ h₁ S₁ E₁ T₁ => W.standAt (W.bind (W.holding ((h₁ A F.own D₁ s₁ c R S₁ r₁).mono fun t D₂ σ₂ s₂ S₂ T₂ q => ?_)))
  cases t
  · exact q F A D₂ s₂ hs R S₂ (E₁.step S₁ T₂)
  · exact W.pure S₂ ⟨v, r₁.mono T₂.fle, q⟩
theorem ev_and {a b : Expr} {pos : Pos} {Q : V → Sig → Prop} (h : EV g k sc ρ a σ (andvK g k sc ρ b Q)) : EV g k sc ρ (.BoolOp .And [a, b] pos) σ Q := by
  intro F A D s hs R S E
  show W g A F.own No (boolOp pos .And [eval a F.env, eval b F.env]) D σ s _
  show W g A F.own No (eval a F.env >>= _) D σ s _
  refine h.then hs R S E fun c v D₁ σ₁ s₁ r₁ h₁ S₁ E₁ T₁ => W.standAt (W.bind (W.holding ((h₁ A F.own D₁ s₁ c R S₁ r₁).mono fun t D₂ σ₂ s₂ S₂ T₂ q => ?_)))
  cases t
  · exact W.pure S₂ ⟨v, r₁.mono T₂.fle, q⟩
  · exact q F A D₂ s₂ hs R S₂ (E₁.step S₁ T₂)

-- sums and comparisons of ints, strs, bools, None
theorem op_add {a b : Int} {Q : V → Sig → Prop} (q : Q (.int (a + b)) σ) : OP2 g k (binaryOp .Add) (.int a) (.int b) σ Q := by
  intro A own D s c d R S r₁ r₂; obtain ⟨_, rfl⟩ := r₁.of; obtain ⟨_, rfl⟩ := r₂.of; exact W.quiet S (PySem.P.add_int ⟨_, rfl, _, .int _ _, q⟩)
theorem op_sub {a b : Int} {Q : V → Sig → Prop} (q : Q (.int (a - b)) σ) : OP2 g k (binaryOp .Sub) (.int a) (.int b) σ Q := by
  intro A own D s c d R S r₁ r₂; obtain ⟨_, rfl⟩ := r₁.of; obtain ⟨_, rfl⟩ := r₂.of; exact W.quiet S (PySem.P.sub_int ⟨_, rfl, _, .int _ _, q⟩)
theorem op_mul {a b : Int} {Q : V → Sig → Prop} (q : Q (.int (a * b)) σ) (h : (-(2 ^ 64) < a ∧ a < 2 ^ 64) ∨ (-(2 ^ 64) < b ∧ b < 2 ^ 64)) : OP2 g k (binaryOp .Mult) (.int a) (.int b) σ Q := by
  intro A own D s c d R S r₁ r₂; obtain ⟨_, rfl⟩ := r₁.of; obtain ⟨_, rfl⟩ := r₂.of; exact W.quiet S (PyProof.Rows.mul_int ⟨_, rfl, _, .int _ _, q⟩ (h.elim (fun h => .of_left (intBits_le_64 h.1 h.2)) fun h => .of_right (intBits_le_64 h.1 h.2)))
theorem op_mod {a b : Int} {Q : V → Sig → Prop} (q : Q (.int (a.fmod b)) σ) (h : b ≠ 0) : OP2 g k (binaryOp .Mod) (.int a) (.int b) σ Q := by
  intro A own D s c d R S r₁ r₂; obtain ⟨_, rfl⟩ := r₁.of; obtain ⟨_, rfl⟩ := r₂.of; exact W.quiet S (PyProof.Rows.mod_int' h ⟨_, rfl, _, .int _ _, q⟩)
theorem op_div {a b : Int} {Q : V → Sig → Prop} (q : Q (.int (a.fdiv b)) σ) (h : b ≠ 0) (h2 : b.natAbs < 1073741824) : OP2 g k (binaryOp .FloorDiv) (.int a) (.int b) σ Q := by
  intro A own D s c d R S r₁ r₂; obtain ⟨_, rfl⟩ := r₁.of; obtain ⟨_, rfl⟩ := r₂.of; exact W.quiet S (PyProof.Rows.floordiv_int h ⟨_, rfl, _, .int _ _, q⟩ (.inl (PyProof.noPylong_small h2)))
theorem op_shr {a b : Int} {Q : V → Sig → Prop} (q : Q (.int (a.fdiv (2 ^ b.toNat))) σ) (h : 0 ≤ b) : OP2 g k (binaryOp .RShift) (.int a) (.int b) σ Q := by
  intro A own D s c d R S r₁ r₂; obtain ⟨_, rfl⟩ := r₁.of; obtain ⟨_, rfl⟩ := r₂.of; exact W.quiet S (PyProof.Rows.rshift_int h ⟨_, rfl, _, .int _ _, q⟩)
theorem op_and {a b : Int} {Q : V → Sig → Prop} (q : Q (.int (Builtin.bitAnd a b)) σ) : OP2 g k (binaryOp .BitAnd) (.int a) (.int b) σ Q := by
  intro A own D s c d R S r₁ r₂; obtain ⟨_, rfl⟩ := r₁.of; obtain ⟨_, rfl⟩ := r₂.of; exact W.quiet S (PyProof.Rows.and_int ⟨_, rfl, _, .int _ _, q⟩)
theorem cmp_lt {a b : Int} {Q : Bool → Sig → Prop} (q : Q (decide (a < b)) σ) : CMP g k .Lt (.int a) (.int b) σ Q := by
  intro A own D s c d R S r₁ r₂; obtain ⟨_, rfl⟩ := r₁.of; obtain ⟨_, rfl⟩ := r₂.of; exact W.quiet S (PySem.P.lt_int ⟨s.toks, rfl, _, .bool _, _, rfl, q⟩)
theorem cmp_le {a b : Int} {Q : Bool → Sig → Prop} (q : Q (decide (a ≤ b)) σ) : CMP g k .LtE (.int a) (.int b) σ Q := by
  intro A own D s c d R S r₁ r₂; obtain ⟨_, rfl⟩ := r₁.of; obtain ⟨_, rfl⟩ := r₂.of; exact W.quiet S (PySem.P.le_int ⟨s.toks, rfl, _, .bool _, _, rfl, q⟩)
theorem cmp_gt {a b : Int} {Q : Bool → Sig → Prop} (q : Q (decide (b < a)) σ) : CMP g k .Gt (.int a) (.int b) σ Q := by
  intro A own D s c d R S r₁ r₂; obtain ⟨_, rfl⟩ := r₁.of; obtain ⟨_, rfl⟩ := r₂.of; exact W.quiet S (PySem.P.gt_int ⟨s.toks, rfl, _, .bool _, _, rfl, q⟩)
theorem cmp_ge {a b : Int} {Q : Bool → Sig → Prop} (q : Q (decide (b ≤ a)) σ) : CMP g k .GtE (.int a) (.int b) σ Q := by
  intro A own D s c d R S r₁ r₂; obtain ⟨_, rfl⟩ := r₁.of; obtain ⟨_, rfl⟩ := r₂.of; exact W.quiet S (PySem.P.ge_int ⟨s.toks, rfl, _, .bool _, _, rfl, q⟩)
theorem cmp_eq {a b : Int} {Q : Bool → Sig → Prop} (q : Q (decide (a = b)) σ) : CMP g k .Eq (.int a) (.int b) σ Q := by
  intro A own D s c d R S r₁ r₂; obtain ⟨_, rfl⟩ := r₁.of; obtain ⟨_, rfl⟩ := r₂.of; exact W.quiet S (PySem.P.eq_int ⟨s.toks, rfl, _, .bool _, _, rfl, by rwa [show (a == b) = decide (a = b) from by by_cases h : a = b <;> simp [h]]⟩)
theorem cmp_ne {a b : Int} {Q : Bool → Sig → Prop} (q : Q (decide (a ≠ b)) σ) : CMP g k .NotEq (.int a) (.int b) σ Q := by
  intro A own D s c d R S r₁ r₂; obtain ⟨_, rfl⟩ := r₁.of; obtain ⟨_, rfl⟩ := r₂.of; exact W.quiet S (PySem.P.ne_int ⟨s.toks, rfl, _, .bool _, _, rfl, by rwa [show (a != b) = decide (a ≠ b) from by by_cases h : a = b <;> simp [h]]⟩)
theorem cmp_eq_str {a b : Str} {Q : Bool → Sig → Prop} (q : Q (a == b) σ) : CMP g k .Eq (.str a) (.str b) σ Q := by
  intro A own D s c d R S r₁ r₂; obtain ⟨_, rfl⟩ := r₁.of; obtain ⟨_, rfl⟩ := r₂.of; exact W.quiet S (PyProof.Rows.eq_str ⟨s.toks, rfl, _, .bool _, _, rfl, q⟩)
theorem cmp_ne_str {a b : Str} {Q : Bool → Sig → Prop} (q : Q (a != b) σ) : CMP g k .NotEq (.str a) (.str b) σ Q := by
  intro A own D s c d R S r₁ r₂; obtain ⟨_, rfl⟩ := r₁.of; obtain ⟨_, rfl⟩ := r₂.of; exact W.quiet S (PyProof.Rows.ne_str ⟨s.toks, rfl, _, .bool _, _, rfl, q⟩)
theorem cmp_eq_bool {a b : Bool} {Q : Bool → Sig → Prop} (q : Q (a == b) σ) : CMP g k .Eq (.bool a) (.bool b) σ Q := by
  intro A own D s c d R S r₁ r₂; obtain rfl := r₁.of; obtain rfl := r₂.of; exact W.quiet S (PyProof.Rows.eq_bool ⟨s.toks, rfl, _, .bool _, _, rfl, q⟩)
theorem cmp_ne_bool {a b : Bool} {Q : Bool → Sig → Prop} (q : Q (a != b) σ) : CMP g k .NotEq (.bool a) (.bool b) σ Q := by
  intro A own D s c d R S r₁ r₂; obtain rfl := r₁.of; obtain rfl := r₂.of; exact W.quiet S (PyProof.Rows.ne_bool ⟨s.toks, rfl, _, .bool _, _, rfl, q⟩)
noncomputable def V.isNone : V → Bool
  | .none => true
  | _ => false
theorem cmp_is_none {a : V} {Q : Bool → Sig → Prop} (q : Q a.isNone σ) (h : ∀ v, a ≠ .cst v := by intro v e; cases e) : CMP g k .Is a .none σ Q := by
  intro A own D s c d R S r₁ r₂; obtain rfl := r₂.of
  refine W.quiet S (PyProof.Rows.is_none_gen ⟨s.toks, rfl, _, .bool _, _, rfl, ?_⟩)
  cases r₁ <;> first | exact q | exact absurd rfl (h _)
theorem cmp_isnot_none {a : V} {Q : Bool → Sig → Prop} (q : Q (!a.isNone) σ) (h : ∀ v, a ≠ .cst v := by intro v e; cases e) : CMP g k .IsNot a .none σ Q := by
  intro A own D s c d R S r₁ r₂; obtain rfl := r₂.of
  refine W.quiet S (PyProof.Rows.isnot_none_gen ⟨s.toks, rfl, _, .bool _, _, rfl, ?_⟩)
  cases r₁ <;> first | exact q | exact absurd rfl (h _)

end
end Mine

end
section
set_option maxRecDepth 100000
set_option linter.unusedVariables false
namespace Mine
open PySem PySem.W PyProof.Rows PySem.Calls

section
variable {g : G} {k : Nat} {sc : Scope} {ρ : Rho} {σ : Sig} {A : Around} {own md : Addr → Prop} {D : Fz} {s : Shared}

theorem W.of_wp {α : Type} {t : Sem α} {Q : α → Fz → Sig → Shared → Prop} (h : wpAny (M g) A t (fun a s' => WR g own md D σ s (Q a) s') NoE s) : W g A own md t D σ s Q := h

-- new objects
theorem W.newTuple {vs : List V} {cs : List Value} {Q : Value → Fz → Sig → Shared → Prop} (S : St g own D σ s) (r : VRs g D vs cs) (hl : vs.length ≤ sizeLine) (q : ∀ a D' s', St g own D' σ s' → VR g D' (.tup vs) (.ref a) → Q (.ref a) D' σ s') :
    W g A own md (newTuple cs) D σ s Q := by
  refine wpAny_newObj_type ?_ (by show cs.toArray.size ≤ sizeLine; rw [List.size_toArray, r.length]; exact hl)
  have k : ∀ b o, s.heap.get? b = some o → (s.heap.push (tupO cs 0)).get? b = some o := fun b o e => Heap.get?_push_of_some _ e
  have S' := S.newD (tk := s.toks) k (get?_size _) S.ne_sys (Heap.get?_push_size _ rfl)
  exact ⟨_, σ, S', Step.newD S k (get?_size _), q _ _ _ S' (.tup (Fz.put_self ..) (r.mono (Fz.put_le (S.D_none (get?_size _)))))⟩
theorem W.newListF {vs : List V} {cs : List Value} {Q : Value → Fz → Sig → Shared → Prop} (S : St g own D σ s) (r : VRs g D vs cs) (hl : vs.length ≤ sizeLine) (q : ∀ a D' s', St g own D' σ s' → VR g D' (.lst vs) (.ref a) → Q (.ref a) D' σ s') :
    W g A own md (newList cs) D σ s Q := by
  refine wpAny_newObj_type ?_ (by show cs.toArray.size ≤ sizeLine; rw [List.size_toArray, r.length]; exact hl)
  have k : ∀ b o, s.heap.get? b = some o → (s.heap.push (lstO cs 0)).get? b = some o := fun b o e => Heap.get?_push_of_some _ e
  have S' := S.newD (tk := s.toks) k (get?_size _) S.ne_sys (Heap.get?_push_size _ rfl)
  exact ⟨_, σ, S', Step.newD S k (get?_size _), q _ _ _ S' (.lst (Fz.put_self ..) (r.mono (Fz.put_le (S.D_none (get?_size _)))))⟩
theorem W.newListM {vs : List V} {cs : List Value} {Q : Value → Fz → Sig → Shared → Prop} (S : St g own D σ s) (r : VRs g D vs cs) (hl : vs.length ≤ sizeLine) (q : ∀ a s', σ a = none → St g own D (σ.set a (.list vs)) s' → Q (.ref a) D (σ.set a (.list vs)) s') :
    W g A own md (newList cs) D σ s Q := by
  refine wpAny_newObj_type ?_ (by show cs.toArray.size ≤ sizeLine; rw [List.size_toArray, r.length]; exact hl)
  have k : ∀ b o, s.heap.get? b = some o → (s.heap.push (lstO cs 0)).get? b = some o := fun b o e => Heap.get?_push_of_some _ e
  have S' := S.newM (tk := s.toks) k (get?_size _) S.ne_sys (Heap.get?_push_size _ rfl) (.list (n := 0) r)
  exact ⟨_, _, S', Step.newM k (get?_size _), q _ _ (S.σ_none (get?_size _)) S'⟩

-- sequences of expressions
noncomputable def EVS (g : G) (k : Nat) (sc : Scope) (ρ : Rho) (es : List Expr) (σ : Sig) (Q : List V → Sig → Prop) : Prop :=
  ∀ F A D s, F.env.scope = sc → Room k A → St g F.own D σ s → ER g F ρ D s.heap → W g A F.own No (spliced (es.map fun e => (false, eval e F.env))) D σ s fun cs D' σ' s' => ∃ vs, VRs g D' vs cs ∧ Q vs σ'
noncomputable abbrev evsK2 (Q : List V → Sig → Prop) (v : V) : List V → Sig → Prop := fun vs σ₂ => Q (v :: vs) σ₂
noncomputable abbrev evsK (g : G) (k : Nat) (sc : Scope) (ρ : Rho) (es : List Expr) (Q : List V → Sig → Prop) : V → Sig → Prop := fun v σ₁ => EVS g k sc ρ es σ₁ (evsK2 Q v)
noncomputable abbrev tupQ (Q : V → Sig → Prop) : List V → Sig → Prop := fun vs σ' => vs.length ≤ sizeLine ∧ Q (.tup vs) σ'
noncomputable abbrev lstQ (Q : V → Sig → Prop) : List V → Sig → Prop := fun vs σ' => vs.length ≤ sizeLine ∧ Q (.lst vs) σ'
noncomputable abbrev lstMQ (Q : V → Sig → Prop) : List V → Sig → Prop := fun vs σ' => vs.length ≤ sizeLine ∧ ∀ a, σ' a = none → Q (.ref a) (σ'.set a (.list vs))
theorem evs_nil {Q : List V → Sig → Prop} (q : Q [] σ) : EVS g k sc ρ [] σ Q := fun F A D s hs R S E => W.pure S ⟨[], .nil, q⟩
theorem evs_cons {e : Expr} {es : List Expr} {Q : List V → Sig → Prop} (h : EV g k sc ρ e σ (evsK g k sc ρ es Q)) : EVS g k sc ρ (e :: es) σ Q := by
  intro F A D s hs R S E
  show W g A F.own No (eval e F.env >>= fun v => (pure [v] : Sem (List Value)) >>= fun here => holding here (spliced (es.map fun e => (false, eval e F.env))) >>= fun r => pure (here ++ r)) D σ s _
  refine h.then hs R S E fun c v D₁ σ₁ s₁ r₁ h₁ S₁ E₁ T₁ => ?_
  refine W.bind (W.pure S₁ (W.bind (W.holding ((h₁ F A D₁ s₁ hs R S₁ E₁).mono fun cs D₂ σ₂ s₂ S₂ T₂ w => ?_))))
  obtain ⟨vs, r₂, q⟩ := w
  exact W.pure S₂ ⟨v :: vs, .cons (r₁.mono T₂.fle) r₂, q⟩
theorem EVS.mono {es : List Expr} {Q Q' : List V → Sig → Prop} (h : EVS g k sc ρ es σ Q) (q : ∀ v σ', Q v σ' → Q' v σ') : EVS g k sc ρ es σ Q' :=
  fun F A D s hs R S E => (h F A D s hs R S E).mono fun _ _ _ _ _ _ ⟨v, r, x⟩ => ⟨v, r, q _ _ x⟩

noncomputable def noStar : List Expr → Bool
  | [] => true
  | .Starred .. :: _ => false
  | _ :: r => noStar r
theorem starEach_plain (env : Env) (pos : Pos) : ∀ es : List Expr, noStar es = true → backTo pos (starEach es env) = es.map fun e => (false, eval e env)
  | [], _ => rfl
  | e :: r, h => by
    cases e <;> first | exact Bool.noConfusion h | exact congrArg (_ :: ·) (starEach_plain env pos r h)
theorem any_plain (env : Env) (es : List Expr) : (es.map fun e => (false, eval e env)).any (·.1) = false := by
  induction es with
  | nil => rfl
  | cons e r ih => simp

theorem ev_tuple {es : List Expr} {n : Nat} {pos : Pos} {Q : V → Sig → Prop} (h : EVS g k sc ρ es σ (tupQ Q)) (hn : autoParam (noStar es = true) Mine.sxU) : EV g k sc ρ (.Tuple es n pos) σ Q := by
  intro F A D s hs R S E
  show W g A F.own No (standAt pos >>= fun _ => spliced (backTo pos (starEach es F.env)) >>= fun vs => newTuple vs) D σ s _
  rw [starEach_plain _ _ _ hn]
  refine W.standAt (W.bind ((h F A D s hs R S E).mono fun cs D₁ σ₁ s₁ S₁ T₁ w => ?_))
  obtain ⟨vs, r, hl, q⟩ := w
  exact W.newTuple S₁ r hl fun a D' s' S' r' => ⟨_, r', q⟩
/-- a list display that nothing turns -/
theorem ev_list {es : List Expr} {pos : Pos} {Q : V → Sig → Prop} (h : EVS g k sc ρ es σ (lstQ Q)) (hn : autoParam (noStar es = true) Mine.sxU) : EV g k sc ρ (.List es pos) σ Q := by
  intro F A D s hs R S E
  show W g A F.own No (standAt pos >>= fun _ => spliced (backTo pos (starEach es F.env)) >>= fun vs => newList vs) D σ s _
  rw [starEach_plain _ _ _ hn]
  refine W.standAt (W.bind ((h F A D s hs R S E).mono fun cs D₁ σ₁ s₁ S₁ T₁ w => ?_))
  obtain ⟨vs, r, hl, q⟩ := w
  exact W.newListF S₁ r hl fun a D' s' S' r' => ⟨_, r', q⟩
/-- a list display that is to be turned -/
theorem ev_listM {es : List Expr} {pos : Pos} {Q : V → Sig → Prop} (h : EVS g k sc ρ es σ (lstMQ Q)) (hn : autoParam (noStar es = true) Mine.sxU) : EV g k sc ρ (.List es pos) σ Q := by
  intro F A D s hs R S E
  show W g A F.own No (standAt pos >>= fun _ => spliced (backTo pos (starEach es F.env)) >>= fun vs => newList vs) D σ s _
  rw [starEach_plain _ _ _ hn]
  refine W.standAt (W.bind ((h F A D s hs R S E).mono fun cs D₁ σ₁ s₁ S₁ T₁ w => ?_))
  obtain ⟨vs, r, hl, q⟩ := w
  exact W.newListM S₁ r hl fun a s' ha S' => ⟨_, .ref a, q a ha⟩

-- calls
noncomputable def KEEP (g : G) (f : Value) : Prop := ∀ h : Heap, (∀ b o, g.hb.get? b = some o → h.get? b = some o) → ∃ k, (k = Keeper.frame ∨ k = Keeper.machine ∨ k = Keeper.boundFrame) ∧ Looks (M g) h (keeperOf f) k
theorem keep_builtin {id : String} : KEEP g (.builtin id) := fun h _ => ⟨.machine, .inr (.inl rfl), Looks.of_pure rfl⟩
theorem keep_type {id : String} : KEEP g (.type id) := fun h _ => ⟨.machine, .inr (.inl rfl), Looks.of_pure rfl⟩
theorem keep_in {f : Value} (h : keepIn g.K f = true) : KEEP g f := fun h' k => by
  obtain ⟨x, a, b⟩ := looks_keep (M := M g) h (g.hK.keeps k)
  exact ⟨x, a.elim .inl (fun e => .inr (.inl e)), b⟩

/-- a call by places -/
noncomputable def CALL (g : G) (k : Nat) (f : Value) (vs : List V) (σ : Sig) (Q : V → Sig → Prop) : Prop :=
  ∀ A own D s cs, Room k A → St g own D σ s → VRs g D vs cs → W g A own No (call f cs) D σ s (PV g Q)
theorem CALL.mono {f : Value} {vs : List V} {Q Q' : V → Sig → Prop} (h : CALL g k f vs σ Q) (q : ∀ v σ', Q v σ' → Q' v σ') : CALL g k f vs σ Q' :=
  fun A own D s cs R S r => (h A own D s cs R S r).mono fun _ _ _ _ _ _ ⟨v, r, x⟩ => ⟨v, r, q _ _ x⟩
theorem CALL.room {f : Value} {vs : List V} {Q : V → Sig → Prop} {k' : Nat} (h : CALL g k f vs σ Q) (hk : k ≤ k') : CALL g k' f vs σ Q := fun A own D s cs R S r => h A own D s cs (R.mono hk) S r

theorem W.callWith {F : Fm} {pos : Pos} {f : Value} {first : List Value} {es : List Expr} {Q : Value → Fz → Sig → Shared → Prop} (hk : KEEP g f) (S : St g own D σ s) (hn : noStar es = true) (hne : es ≠ [])
    (h : W g A own No (spliced (es.map fun e => (false, eval e F.env))) D σ s fun cs D₁ σ₁ s₁ => W g A own No (call f (first ++ cs)) D₁ σ₁ s₁ Q) :
    W g A own No (PySem.callWith pos f first (backTo pos (starEach es F.env)) (backToKw pos (keywordEach [] F.env))) D σ s Q := by
  rw [starEach_plain _ _ _ hn]
  refine callWith_of (P := fun h => ∀ b o, g.hb.get? b = some o → h.get? b = some o) (by show (_ || false) = false; rw [any_plain]; rfl) (fun h k => hk h k) ?_
  have fin : wpAny (M g) A (spliced (es.map fun e => (false, eval e F.env))) (fun cs s₁ => (∀ b o, g.hb.get? b = some o → s₁.heap.get? b = some o) ∧ wpAny (M g) A (call f (first ++ cs)) (fun a s' => WR g own No D σ s (Q a) s') NoE s₁) NoE s :=
    wpAny_mono h (fun cs s₁ ⟨D₁, σ₁, S₁, T₁, w⟩ => ⟨S₁.base, wpAny_mono w (fun a s' ⟨D', σ', x, y, z⟩ => ⟨D', σ', x, T₁.trans y, z⟩) fun _ _ e => e⟩) fun _ _ e => e
  obtain ⟨e, r, rfl⟩ : X2 fun e r => es = e :: r := by cases es with | nil => exact absurd rfl hne | cons e r => exact ⟨e, r, rfl⟩
  exact evalArgs_plain fin
theorem W.callWith0 {F : Fm} {pos : Pos} {f : Value} {first : List Value} {Q : Value → Fz → Sig → Shared → Prop} (hk : KEEP g f) (S : St g own D σ s) (h : W g A own No (call f first) D σ s Q) :
    W g A own No (PySem.callWith pos f first (backTo pos (starEach [] F.env)) (backToKw pos (keywordEach [] F.env))) D σ s Q :=
  callWith_of (P := fun h => ∀ b o, g.hb.get? b = some o → h.get? b = some o) rfl (fun h k => hk h k) (evalArgs_nil3 ⟨S.base, by rw [List.append_nil]; exact h⟩)

noncomputable abbrev callQ (g : G) (k : Nat) (f : Value) (Q : V → Sig → Prop) : List V → Sig → Prop := fun vs σ₂ => CALL g k f vs σ₂ Q
noncomputable abbrev callK (g : G) (k : Nat) (sc : Scope) (ρ : Rho) (es : List Expr) (Q : V → Sig → Prop) : V → Sig → Prop := fun fv σ₁ => ∃ f, A3 (fv = .cst f) (KEEP g f) (EVS g k sc ρ es σ₁ (callQ g k f Q))
noncomputable abbrev call0K (g : G) (k : Nat) (Q : V → Sig → Prop) : V → Sig → Prop := fun fv σ₁ => ∃ f, A3 (fv = .cst f) (KEEP g f) (CALL g k f [] σ₁ Q)
/-- f(x, ..) with f a name -/
theorem ev_call {x : Str} {px pos : Pos} {es : List Expr} {Q : V → Sig → Prop} (h : EV g k sc ρ (.Name x px) σ (callK g k sc ρ es Q))
    (hn : autoParam (noStar es = true) Mine.sxR) (hne : es ≠ [] := by intro h; cases h) : EV g k sc ρ (.Call (.Name x px) es [] pos) σ Q := by
  intro F A D s hs R S E
  show W g A F.own No (eval (.Name x px) F.env >>= fun f => callWith pos f [] (backTo pos (starEach es F.env)) (backToKw pos (keywordEach [] F.env))) D σ s _
  refine h.then hs R S E fun c v D₁ σ₁ s₁ r₁ ⟨f, e, hk, h₁⟩ S₁ E₁ T₁ => ?_
  subst e
  replace r₁ := r₁.of; obtain ⟨_, rfl⟩ := r₁
  refine W.callWith hk S₁ hn hne ((h₁ F A D₁ s₁ hs R S₁ E₁).mono fun cs D₂ σ₂ s₂ S₂ T₂ w => ?_)
  obtain ⟨vs, r₂, q⟩ := w
  exact q A F.own D₂ s₂ cs R S₂ r₂
theorem ev_call0 {x : Str} {px pos : Pos} {Q : V → Sig → Prop} (h : EV g k sc ρ (.Name x px) σ (call0K g k Q)) : EV g k sc ρ (.Call (.Name x px) [] [] pos) σ Q := by
  intro F A D s hs R S E
  show W g A F.own No (eval (.Name x px) F.env >>= fun f => callWith pos f [] (backTo pos (starEach [] F.env)) (backToKw pos (keywordEach [] F.env))) D σ s _
  refine h.then hs R S E fun c v D₁ σ₁ s₁ r₁ ⟨f, e, hk, h₁⟩ S₁ E₁ T₁ => ?_
  subst e
  replace r₁ := r₁.of; obtain ⟨_, rfl⟩ := r₁
  exact W.callWith0 hk S₁ (h₁ A F.own D₁ s₁ [] R S₁ .nil)

/-- what a method's name on a value gives: a function to be called with the value ahead -/
noncomputable def MRES (g : G) (o : V) (σ : Sig) (name : Str) (f : Value) : Prop :=
  ∀ A own D s c pl (Q : Value × List Value → Shared → Prop), St g own D σ s → VR g D o c → Q (f, [c]) s → wpAny (M g) A (getMethod c name pl) Q NoE s
noncomputable def superless : Expr → Bool
  | .Call _ [] _ _ => false
  | _ => true
theorem attributeBase_plain {o : Expr} (h : superless o = true) (name : Str) (env : Env) (w : Sem Value) : attributeBase o name env w = w := by
  cases o with
  | Call f as ks pos =>
    cases as with
    | cons => cases f <;> rfl
    | nil => exact Bool.noConfusion h
  | _ => rfl
noncomputable abbrev mcQ (g : G) (k : Nat) (f : Value) (ov : V) (Q : V → Sig → Prop) : List V → Sig → Prop := fun vs σ₂ => CALL g k f (ov :: vs) σ₂ Q
noncomputable abbrev mcK (g : G) (k : Nat) (sc : Scope) (ρ : Rho) (name : Str) (es : List Expr) (Q : V → Sig → Prop) : V → Sig → Prop := fun ov σ₁ => ∃ f, A3 (MRES g ov σ₁ name f) (KEEP g f) (EVS g k sc ρ es σ₁ (mcQ g k f ov Q))
noncomputable abbrev mc0K (g : G) (k : Nat) (name : Str) (Q : V → Sig → Prop) : V → Sig → Prop := fun ov σ₁ => ∃ f, A3 (MRES g ov σ₁ name f) (KEEP g f) (CALL g k f [ov] σ₁ Q)
theorem ev_mcall {o : Expr} {name : Str} {pa pos : Pos} {es : List Expr} {Q : V → Sig → Prop} (h : EV g k sc ρ o σ (mcK g k sc ρ name es Q))
    (hsup : autoParam (superless o = true) Mine.sxR) (hn : autoParam (noStar es = true) Mine.sxR) (hne : es ≠ [] := by intro h; cases h) (hl : autoParam (es.length < 30) Mine.sxD) (hp : autoParam (pa.endLine = pos.line) Mine.sxR) : EV g k sc ρ (.Call (.Attribute o name pa) es [] pos) σ Q := by
  intro F A D s hs R S E
  show W g A F.own No (attributeBase o name F.env (eval o F.env) >>= fun ov => standAt pa.atName >>= fun _ => methodCall o name pa pos F.env ov (es.length + 0) (backTo pos (starEach es F.env)) (backToKw pos (keywordEach [] F.env))) D σ s _
  rw [attributeBase_plain hsup]
  refine h.then hs R S E fun c v D₁ σ₁ s₁ r₁ ⟨f, hm, hk, h₁⟩ S₁ E₁ T₁ => W.standAt ?_
  have few : methodCallForm (es.length + 0) (backTo pos (starEach es F.env)) (backToKw pos (keywordEach [] F.env)) = true := by
    rw [starEach_plain _ _ _ hn]
    show (((es.map fun e => (false, eval e F.env)).all fun x => !x.1) && true && decide (es.length + 0 + 0 < 30)) = true
    rw [show ((es.map fun e => (false, eval e F.env)).all fun x => !x.1) = true from by simp]
    simpa using hl
  unfold methodCall
  rw [few]
  refine W.bind (W.holding (W.of_wp (hm A F.own D₁ s₁ c _ _ S₁ r₁ ⟨D₁, σ₁, S₁, .refl, ?_⟩)))
  show W g A F.own No (methodCallPos true o F.env pa pos >>= fun callPos => callWith callPos f [c] _ _) D₁ σ₁ s₁ _
  have hpos : methodCallPos true o F.env pa pos = pure pos := by
    unfold methodCallPos
    rw [show (!true || pa.endLine == pos.line) = true from by rw [hp]; simp]
    rfl
  rw [hpos]
  refine W.bind (W.pure S₁ ?_)
  refine W.callWith hk S₁ hn hne ((h₁ F A D₁ s₁ hs R S₁ E₁).mono fun cs D₂ σ₂ s₂ S₂ T₂ w => ?_)
  obtain ⟨vs, r₂, q⟩ := w
  exact q A F.own D₂ s₂ (c :: cs) R S₂ (.cons (r₁.mono T₂.fle) r₂)
theorem ev_mcall0 {o : Expr} {name : Str} {pa pos : Pos} {Q : V → Sig → Prop} (h : EV g k sc ρ o σ (mc0K g k name Q))
    (hsup : autoParam (superless o = true) Mine.sxR) (hp : autoParam (pa.endLine = pos.line) Mine.sxR) : EV g k sc ρ (.Call (.Attribute o name pa) [] [] pos) σ Q := by
  intro F A D s hs R S E
  show W g A F.own No (attributeBase o name F.env (eval o F.env) >>= fun ov => standAt pa.atName >>= fun _ => methodCall o name pa pos F.env ov 0 (backTo pos (starEach [] F.env)) (backToKw pos (keywordEach [] F.env))) D σ s _
  rw [attributeBase_plain hsup]
  refine h.then hs R S E fun c v D₁ σ₁ s₁ r₁ ⟨f, hm, hk, h₁⟩ S₁ E₁ T₁ => W.standAt ?_
  unfold methodCall
  rw [show methodCallForm 0 (backTo pos (starEach [] F.env)) (backToKw pos (keywordEach [] F.env)) = true from rfl]
  refine W.bind (W.holding (W.of_wp (hm A F.own D₁ s₁ c _ _ S₁ r₁ ⟨D₁, σ₁, S₁, .refl, ?_⟩)))
  show W g A F.own No (methodCallPos true o F.env pa pos >>= fun callPos => callWith callPos f [c] _ _) D₁ σ₁ s₁ _
  have hpos : methodCallPos true o F.env pa pos = pure pos := by
    unfold methodCallPos
    rw [show (!true || pa.endLine == pos.line) = true from by rw [hp]; simp]
    rfl
  rw [hpos]
  refine W.bind (W.pure S₁ ?_)
  exact W.callWith0 hk S₁ (h₁ A F.own D₁ s₁ [c] R S₁ (.cons r₁ .nil))
end
end Mine

end
section
set_option maxRecDepth 100000
set_option linter.unusedVariables false
namespace Mine
open PySem PySem.W PyProof.Rows PySem.Calls

structure FnAt (g : G) (f : Addr) (fd : FuncData) (body : List Stmt) : Prop where
  at_ : ∃ o, g.hb.get? f = some o ∧ o.data = .func fd
  bd : fd.body = .stmts body
  co : fd.scope.isCoroutine = false
  gen : fd.scope.isGenerator = false
  kind : fd.scope.kind = .function
  glb : fd.globals = mainGlobals
  blt : fd.builtins = builtinsNs
  clo : fd.closure = []
  code : g.hb.CodeRec fd.code fd.qualname
  ndb : fd.scope.names.lookup ("__debug__" : Str) = none
  ncd : fd.scope.names.lookup ("__classdict__" : Str) = none

theorem FnAt.of {g : G} {f : Addr} {fd : FuncData} {body : List Stmt} {oc : Value} {od : Option Addr} {sl : Array (Option Value)} (h : g.K.lookup f = some ⟨oc, od, .func fd, sl⟩) (hb : fd.body = .stmts body)
    (e : (!fd.scope.isCoroutine && !fd.scope.isGenerator && fd.scope.kind == .function && fd.globals == mainGlobals && fd.builtins == builtinsNs && fd.closure.isEmpty && (fd.scope.names.lookup ("__debug__" : Str)).isNone && (fd.scope.names.lookup ("__classdict__" : Str)).isNone) = true)
    (hc : codeIn g.K fd.code fd.qualname = true) : FnAt g f fd body := by
  simp only [Bool.and_eq_true, Bool.not_eq_true', beq_iff_eq, List.isEmpty_iff, Option.isNone_iff_eq_none] at e
  obtain ⟨⟨⟨⟨⟨⟨⟨h1, h2⟩, h3⟩, h4⟩, h5⟩, h6⟩, h7⟩, h8⟩ := e
  exact ⟨⟨_, g.hK _ _ h, rfl⟩, hb, h1, h2, h3, h4, h5, h6, codeRec_of g.hK hc, h7, h8⟩

section
variable {g : G} {k : Nat} {sc : Scope} {ρ : Rho} {σ : Sig} {A : Around} {own md : Addr → Prop} {D : Fz} {s : Shared}

theorem bindL_off {kindOf : Str → Option NameKind} {x : Str} : ∀ {ns : List Str} {cs : List Value} {m : Str → Option Value}, x ∉ ns → bindL kindOf (ns.zip cs) m x = m x
  | [], _, _, _ => by simp [bindL]
  | n :: ns, [], _, _ => by simp [bindL]
  | n :: ns, c :: cs, m, h => by
    rw [List.zip_cons_cons, bindL, bindL_off fun q => h (.tail _ q)]
    split
    · exact if_neg fun (q : x = n) => h (q ▸ .head _)
    · rfl
theorem bindC_off {kindOf : Str → Option NameKind} {x : Str} : ∀ {ns : List Str} {cs : List Value} {m : Str → Option Value}, x ∉ ns → bindC kindOf (ns.zip cs) m x = m x
  | [], _, _, _ => by simp [bindC]
  | n :: ns, [], _, _ => by simp [bindC]
  | n :: ns, c :: cs, m, h => by
    rw [List.zip_cons_cons, bindC, bindC_off fun q => h (.tail _ q)]
    split
    · rfl
    · exact if_neg fun (q : x = n) => h (q ▸ .head _)
theorem nsomeP {α : Type} {a : α} {p : Prop} (h : Option.none = some a) : p := by cases h
theorem bindL_on {kindOf : Str → Option NameKind} {x : Str} {v : V} : ∀ {ns : List Str} {vs : List V} {cs : List Value} {m : Str → Option Value}, ns.Nodup → VRs g D vs cs → (ns.zip vs).lookup x = some v → kindOf x = some .local →
    ∃ c, bindL kindOf (ns.zip cs) m x = some c ∧ VR g D v c := by
  intro ns
  induction ns with
  | nil => intro vs cs m _ _ h _; exact nsomeP h
  | cons n ns ih =>
    intro vs cs m hn r h hk
    cases r with
    | nil => exact nsomeP h
    | cons a r =>
      rw [List.zip_cons_cons, bindL]
      rw [List.zip_cons_cons, List.lookup_cons] at h
      obtain ⟨h1, h2⟩ := List.nodup_cons.mp hn
      cases q : x == n with
      | true =>
        rw [q] at h
        cases h
        have e := beq_iff_eq.mp q
        subst e
        rw [bindL_off h1, if_pos hk, if_pos rfl]
        exact ⟨_, rfl, a⟩
      | false =>
        rw [q] at h
        exact ih h2 r h hk
theorem bindC_on {kindOf : Str → Option NameKind} {x : Str} {v : V} : ∀ {ns : List Str} {vs : List V} {cs : List Value} {m : Str → Option Value}, ns.Nodup → VRs g D vs cs → (ns.zip vs).lookup x = some v → kindOf x ≠ some .local →
    ∃ c, bindC kindOf (ns.zip cs) m x = some c ∧ VR g D v c := by
  intro ns
  induction ns with
  | nil => intro vs cs m _ _ h _; exact nsomeP h
  | cons n ns ih =>
    intro vs cs m hn r h hk
    cases r with
    | nil => exact nsomeP h
    | cons a r =>
      rw [List.zip_cons_cons, bindC]
      rw [List.zip_cons_cons, List.lookup_cons] at h
      obtain ⟨h1, h2⟩ := List.nodup_cons.mp hn
      cases q : x == n with
      | true =>
        rw [q] at h
        cases h
        have e := beq_iff_eq.mp q
        subst e
        rw [bindC_off h1, if_neg hk, if_pos rfl]
        exact ⟨_, rfl, a⟩
      | false =>
        rw [q] at h
        exact ih h2 r h hk
theorem mem_zip_lookup {x : Str} {v : V} : ∀ {ns : List Str} {vs : List V}, (ns.zip vs).lookup x = some v → x ∈ ns
  | [], _, h => by simp at h
  | n :: ns, [], h => by simp at h
  | n :: ns, v' :: vs, h => by
    rw [List.zip_cons_cons, List.lookup_cons] at h
    cases q : x == n with
    | true => rw [beq_iff_eq.mp q]; exact .head _
    | false => rw [q] at h; exact .tail _ (mem_zip_lookup h)

theorem St.own_sub {own' : Addr → Prop} (S : St g own' D σ s) (h : ∀ b, own b → own' b) : St g own D σ s :=
  ⟨S.base, S.dat, S.mt, S.dσ, fun b o e x => S.dO b o e (h b x), fun b m e x => S.σO b m e (h b x), S.bσ, fun b o e x => S.bO b o e (h b x), fun b x => S.oex b (h b x), S.dsys, S.ssys, S.gens, S.os⟩

noncomputable def fnEnv (fd : FuncData) (f L : Addr) : Env := newEnv fd.scope L fd.globals (cellsFrom (L + 1) fd.scope.names []) (fd.qualname ++ ".<locals>.") (some f) fd.code none fd.builtins
noncomputable def fnFm (own : Addr → Prop) (fd : FuncData) (f L : Addr) : Fm where
  env := fnEnv fd f L
  own := fun b => own b ∨ b = L ∨ ∃ x, (fnEnv fd f L).cells.lookup x = some b
  md := fun b => b = L ∨ ∃ x, (fnEnv fd f L).cells.lookup x = some b
  oc := fun x => (fnEnv fd f L).cells.lookup x

/-- a call, its code -/
noncomputable def CALLC (g : G) (k : Nat) (f : Value) (vs : List V) (σ : Sig) (Q : V → Sig → Prop) : Prop :=
  ∀ A own D s cs, Room k A → St g own D σ s → VRs g D vs cs → codeAny (M g) A (.call f ⟨cs, []⟩) (fun r s' => match r with | .ok (.ret c) => WR g own No D σ s (PV g Q c) s' | .ok _ => False | .error e => NoE e s') s
theorem CALLC.call {f : Value} {vs : List V} {Q : V → Sig → Prop} (h : CALLC g k f vs σ Q) : CALL g k f vs σ Q := fun A own D s cs Rm S r => wpAny_call (h A own D s cs Rm S r)
theorem call_fnC {f : Addr} {fd : FuncData} {body : List Stmt} {names : List Str} {ds : List Value} {dvs vs : List V} {Q : V → Sig → Prop} (X : FnAt g f fd body)
    (hbind : ∀ (s : Shared) (cs : List Value), (∀ b o, g.hb.get? b = some o → s.heap.get? b = some o) → cs.length = vs.length → BindsTo s fd ⟨cs, []⟩ (names.zip (cs ++ ds)))
    (hd : ∀ D, VRs g D dvs ds) (hkind : (names.all fun y => fd.scope.names.lookup y == some .local || fd.scope.names.lookup y == some .cell) = true) (hnd : names.Nodup)
    (h : EX g k fd.scope (names.zip (vs ++ dvs)) body σ (fun _ σ' => Q .none σ') Q) : CALLC g (k + 1) (.ref f) vs σ Q := by
  intro A own D s cs R S r
  obtain ⟨o, ho, hdata⟩ := X.at_
  have Rin : Room k A.in1 := ⟨R.hh, by have := R.dep; show A.depth + 5 * k ≤ 700; lia, by have := R.un; show A.units + 1 + 100 * k ≤ 9000; lia⟩
  refine codeAny_call_function R.depth (S.base _ _ ho) hdata X.co X.gen X.bd (X.code.keeps S.base) ?_
  refine hbind s cs S.base r.length (M g) A.in1 _ _ ?_
  rw [X.clo]
  have hk2 : ∀ x ∈ names.zip (cs ++ ds), fd.scope.names.lookup x.1 = some .local ∨ fd.scope.names.lookup x.1 = some .cell := fun x hx => by
    have := List.all_eq_true.mp hkind x.1 (List.of_mem_zip hx).1
    rcases Bool.or_eq_true_iff.mp this with q | q
    · exact .inl (by simpa using q)
    · exact .inr (by simpa using q)
  refine wpAny_newFunctionEnv_cells X.kind (fun x hx => (hk2 x hx).imp id fun q => ⟨q, cellsFrom_some _ _ _ (.inl q)⟩) fun env he s' x => ⟨g.hlim.keeps fun b o e => x.toInCall.keep _ _ (S.base _ _ e), ?_⟩
  have he' : env = fnEnv fd f s.heap.objs.size := he
  clear he
  subst he'
  refine codeAny_func ?_
  have hL : s.heap.objs.size ≤ (fnEnv fd f s.heap.objs.size).locals := x.toInCall.fresh
  have eL : (fnEnv fd f s.heap.objs.size).locals = s.heap.objs.size := rfl
  have hcl : ∀ y c, (fnEnv fd f s.heap.objs.size).cells.lookup y = some c → s.heap.objs.size < c := fun y c hc => Nat.lt_of_le_of_lt hL (x.above y c (mem_of_lookup hc))
  have big : ∀ b, s.heap.objs.size ≤ b → s.heap.get? b = none := fun b hb => by
    cases q : s.heap.get? b with
    | none => rfl
    | some o => exact absurd (Heap.lt_size q) (Nat.not_lt.mpr hb)
  have hmd : ∀ b, (fnFm own fd f s.heap.objs.size).md b → s.heap.get? b = none := fun b hb => by
    rcases hb with rfl | ⟨y, hy⟩
    · exact big _ (Nat.le_refl _)
    · exact big _ (Nat.le_of_lt (hcl y b hy))
  obtain ⟨hh, tk, es⟩ := x.toInCall.same
  have S1 : St g own D σ s' := by
    subst es
    exact S.keeps fun b o e => x.toInCall.keep b o e
  have S' : St g (fnFm own fd f s.heap.objs.size).own D σ s' := by
    have nn : ∀ b, s.heap.get? b ≠ none → ¬ own b → ¬ (fnFm own fd f s.heap.objs.size).own b := fun b h1 h2 h3 => by
      rcases h3 with h3 | h3
      · exact h2 h3
      · exact h1 (hmd b h3)
    refine ⟨S1.base, S1.dat, S1.mt, S1.dσ, fun b o e => nn b (by rw [S.dat b o e]; intro q; cases q) (S.dO b o e), fun b m e => nn b (by obtain ⟨o, q, _⟩ := S.mt b m e; rw [q]; intro q; cases q) (S.σO b m e), S.bσ,
      fun b o e => nn b (by rw [S.base b o e]; intro q; cases q) (S.bO b o e), fun b hb => ?_, S1.dsys, S1.ssys, S1.gens, S1.os⟩
    rcases hb with hb | rfl | ⟨y, hy⟩
    · exact S1.oex b hb
    · obtain ⟨o, _, _, e, _⟩ := x.toInCall.ns; exact ⟨o, eL ▸ e⟩
    · obtain ⟨o, e, _⟩ := x.cell y b hy; exact ⟨o, e⟩
  have kof : ∀ y, (fnFm own fd f s.heap.objs.size).env.kindOf y = fd.scope.names.lookup y := fun y => rfl
  have ek : (fnEnv fd f s.heap.objs.size).kindOf = (fnFm own fd f s.heap.objs.size).env.kindOf := rfl
  have rr : VRs g D (vs ++ dvs) (cs ++ ds) := r.append (hd D)
  have E' : ER g (fnFm own fd f s.heap.objs.size) (names.zip (vs ++ dvs)) D s'.heap := by
    refine ⟨X.kind, X.glb, X.blt, .inr (.inl rfl), .inl rfl, fun b hb => .inr hb, X.ndb, X.ncd, ?_, ?_, ?_, ?_, ?_⟩
    · refine ⟨_, eL ▸ x.toInCall.ns, fun y v hy hk => ?_⟩
      rw [ek]
      exact bindL_on hnd rr hy hk
    · intro y v hy hk
      have hc : fd.scope.names.lookup y = some .cell := by
        have := List.all_eq_true.mp hkind y (mem_zip_lookup hy)
        rcases Bool.or_eq_true_iff.mp this with q | q
        · exact absurd (by simpa using q : fd.scope.names.lookup y = some .local) hk
        · simpa using q
      refine ⟨.inl hc, ?_⟩
      obtain ⟨ca, hca⟩ := Option.isSome_iff_exists.mp (cellsFrom_some (x := y) fd.scope.names (s.heap.objs.size + 1) [] (.inl hc))
      obtain ⟨c, h1, h2⟩ := bindC_on (kindOf := (fnFm own fd f s.heap.objs.size).env.kindOf) (m := fun _ => none) hnd rr hy hk
      refine ⟨ca, c, hca, ?_, h2⟩
      have := x.cell y ca hca
      rw [ek, h1] at this
      exact this
    · intro y ca hy
      exact ⟨hy, .inr ⟨y, hy⟩, _, x.cell y ca hy⟩
    · intro y ca hy
      exact ⟨.inr (.inr ⟨y, hy⟩), Nat.ne_of_gt (hcl y ca hy)⟩
    · intro y z ca hy hz
      have hy' : (fnEnv fd f s.heap.objs.size).cells.lookup y = some ca := hy
      have hz' : (fnEnv fd f s.heap.objs.size).cells.lookup z = some ca := hz
      exact name_of_addr x.apart (mem_of_lookup hy') (mem_of_lookup hz')
  have w := h (fnFm own fd f s.heap.objs.size) (A.deeper (fnEnv fd f s.heap.objs.size)) D s' rfl (fun y hy => cellsFrom_some _ _ _ (.inl hy)) R.deeper S' E'
  refine wpAny_mono w (fun fl s₂ hf => ?_) fun _ _ e => e.elim
  obtain ⟨D', σ', S₂, T₂, q⟩ := hf
  have fin : St g own D' σ' s₂ := S₂.own_sub fun b hb => .inl hb
  have T : Step No D σ s D' σ' s₂ := by
    have lift : ∀ b o, s.heap.get? b = some o → s'.heap.get? b = some o := fun b o e => x.toInCall.keep b o e
    have dead : ∀ b, s'.heap.get? b = none → s.heap.get? b = none := fun b e => by
      cases q : s.heap.get? b with
      | none => rfl
      | some o => rw [lift b o q] at e; cases e
    exact ⟨T₂.fle, fun b o e => (T₂.fresh b o e).imp id fun q => q.imp (dead b) id, fun b m e => (T₂.mfresh b m e).imp id (dead b),
      fun b o e h1 _ => T₂.keep b o (lift b o e) h1 (fun q => by rw [hmd b q] at e; cases e), fun b o e => T₂.live b o (lift b o e)⟩
  cases fl with
  | next =>
    obtain ⟨ρ', _, q⟩ := q
    exact ⟨D', σ', fin, T, _, .none, q⟩
  | ret c =>
    obtain ⟨v, rv, q⟩ := q
    exact ⟨D', σ', fin, T, v, rv, q⟩
  | brk => exact q.elim
  | cont => exact q.elim
end
end Mine

end
section
set_option maxRecDepth 100000
set_option linter.unusedVariables false
namespace Mine
open PySem PySem.W PyProof.Rows PySem.Calls

section
variable {g : G} {k : Nat} {sc : Scope} {ρ : Rho} {σ : Sig} {A : Around} {own md : Addr → Prop} {D : Fz} {s : Shared} {N : Rho → Sig → Prop} {R : V → Sig → Prop}

theorem EV.thenM {e : Expr} {α : Type} {f : Value → Sem α} {F : Fm} {Q : V → Sig → Prop} {P : α → Fz → Sig → Shared → Prop} (h : EV g k sc ρ e σ Q) (hs : F.env.scope = sc) (Rm : Room k A) (S : St g F.own D σ s) (E : ER g F ρ D s.heap)
    (n : ∀ c v D' σ' s', VR g D' v c → Q v σ' → St g F.own D' σ' s' → ER g F ρ D' s'.heap → Step No D σ s D' σ' s' → W g A F.own md (f c) D' σ' s' P) : W g A F.own md (eval e F.env >>= f) D σ s P :=
  W.bind (W.no ((h F A D s hs Rm S E).mono fun c D' σ' s' S' T' ⟨v, r, q⟩ => n c v D' σ' s' r q S' (E.step S T') T'))
theorem TR.thenM {e : Expr} {α : Type} {f : Bool → Sem α} {F : Fm} {Q : Bool → Sig → Prop} {P : α → Fz → Sig → Shared → Prop} (h : TR g k sc ρ e σ Q) (hs : F.env.scope = sc) (Rm : Room k A) (S : St g F.own D σ s) (E : ER g F ρ D s.heap)
    (n : ∀ b D' σ' s', Q b σ' → St g F.own D' σ' s' → ER g F ρ D' s'.heap → Step No D σ s D' σ' s' → W g A F.own md (f b) D' σ' s' P) : W g A F.own md (isTrue e F.env (eval e F.env) >>= f) D σ s P :=
  W.bind (W.no ((h F A D s hs Rm S E).mono fun c D' σ' s' S' T' q => n c D' σ' s' q S' (E.step S T') T'))

-- statements
theorem ex_nil (q : N ρ σ) : EX g k sc ρ [] σ N R := fun F A D s hs hc Rm S E => wpAny_execs_nil ⟨D, σ, S, .refl, ρ, E, q⟩
theorem ex_cons {st : Stmt} {rest : List Stmt} (h : EX1 g k sc ρ st σ (exK g k sc rest N R) R) : EX g k sc ρ (st :: rest) σ N R := by
  intro F A D s hs hc Rm S E
  refine wpAny_execs_cons (wpAny_mono (h F A D s hs hc Rm S E) (fun f s₁ w => ?_) fun _ _ e => e)
  obtain ⟨D₁, σ₁, S₁, T₁, q⟩ := w
  cases f with
  | next =>
    obtain ⟨ρ', E', q⟩ := q
    exact wpAny_mono (q F A D₁ s₁ hs hc Rm S₁ E') (fun f s₂ ⟨D₂, σ₂, S₂, T₂, q⟩ => ⟨D₂, σ₂, S₂, T₁.trans T₂, q⟩) fun _ _ e => e
  | ret c => exact ⟨D₁, σ₁, S₁, T₁, q⟩
  | brk => exact q.elim
  | cont => exact q.elim
theorem ex_return {e : Expr} {pos : Pos} (h : EV g k sc ρ e σ R) : EX1 g k sc ρ (.Return (some e) pos) σ N R := by
  intro F A D s hs hc Rm S E
  rw [exec_Return_some]
  exact W.standAt (h.thenM hs Rm S E fun c v D' σ' s' r q S' _ _ => W.pure S' ⟨v, r, q⟩)
theorem ex_if {t : Expr} {b o : List Stmt} {pos : Pos} (h : TR g k sc ρ t σ (ifK g k sc ρ b o N R)) : EX1 g k sc ρ (.If t b o pos) σ N R := by
  intro F A D s hs hc Rm S E
  rw [exec_If]
  refine W.standAt (h.thenM hs Rm S E fun c D₁ σ₁ s₁ q S₁ E₁ _ => ?_)
  cases c
  · exact q F A D₁ s₁ hs hc Rm S₁ E₁
  · exact q F A D₁ s₁ hs hc Rm S₁ E₁
theorem EX.mono {b : List Stmt} {N' : Rho → Sig → Prop} {R' : V → Sig → Prop} (h : EX g k sc ρ b σ N R) (n : ∀ ρ' σ', N ρ' σ' → N' ρ' σ') (r : ∀ v σ', R v σ' → R' v σ') : EX g k sc ρ b σ N' R' := by
  intro F A D s hs hc Rm S E
  refine (h F A D s hs hc Rm S E).mono fun f D' σ' s' S' T' q => ?_
  cases f with
  | next => obtain ⟨ρ', e, q⟩ := q; exact ⟨ρ', e, n _ _ q⟩
  | ret c => obtain ⟨v, e, q⟩ := q; exact ⟨v, e, r _ _ q⟩
  | brk => exact q
  | cont => exact q
/-- forgetting -/
theorem ex_forget {b : List Stmt} {ρ' : Rho} {σ' : Sig} (h : EX g k sc ρ' b σ' N R) (a : Rle ρ' ρ) (c : Sle σ' σ) : EX g k sc ρ b σ N R := by
  intro F A D s hs hc Rm S E
  refine wpAny_mono (h F A D s hs hc Rm (S.forget c) (E.forget a)) (fun f s₁ ⟨D₁, σ₁, S₁, T₁, q⟩ => ⟨D₁, σ₁, S₁, ?_, q⟩) fun _ _ e => e
  refine ⟨T₁.fle, fun b o e => ?_, fun b m e => ?_, fun b o e h1 h2 => T₁.keep b o e ?_ h2, T₁.live⟩
  · rcases T₁.fresh b o e with h | h | ⟨m, h⟩
    · exact .inl h
    · exact .inr (.inl h)
    · exact .inr (.inr ⟨m, c b m h⟩)
  · rcases T₁.mfresh b m e with ⟨m', h⟩ | h
    · exact .inl ⟨m', c b m' h⟩
    · exact .inr h
  · cases q : σ' b with
    | none => rfl
    | some m => rw [c b m q] at h1; cases h1

-- stores
theorem St.turnOwn (S : St g own D σ s) {a : Addr} {h' : Heap} {o : Obj} {tk : Nat} (ha : own a) (hs : Heap.SameBut a s.heap h') (ho : h'.get? a = some o) : St g own D σ { s with heap := h', toks := tk } :=
  ⟨fun b o e => (hs.2 b fun q => S.bO b o e (q ▸ ha)).trans (S.base b o e), fun b o e => (hs.2 b fun q => S.dO b o e (q ▸ ha)).trans (S.dat b o e), fun b m e => let ⟨o, h, r⟩ := S.mt b m e; ⟨o, (hs.2 b fun q => S.σO b m e (q ▸ ha)).trans h, r⟩,
    S.dσ, S.dO, S.σO, S.bσ, S.bO, fun b hb => by
      by_cases q : b = a
      · exact ⟨o, q ▸ ho⟩
      · obtain ⟨o', e⟩ := S.oex b hb; exact ⟨o', (hs.2 b q).trans e⟩, S.dsys, S.ssys, S.gens, S.os⟩
theorem Step.turnOwn {a : Addr} {h' : Heap} {o : Obj} {tk : Nat} (hm : md a) (hs : Heap.SameBut a s.heap h') (ho : h'.get? a = some o) : Step md D σ s D σ { s with heap := h', toks := tk } :=
  ⟨.refl _, fun _ _ e => .inl e, fun _ _ e => .inl ⟨_, e⟩, fun b o e _ h => (hs.2 b fun q => h (q ▸ hm)).trans e, fun b o' e => by
    by_cases q : b = a
    · exact ⟨o, q ▸ ho⟩
    · exact ⟨o', (hs.2 b q).trans e⟩⟩

theorem lookup_cons_str {x y : Str} {v : V} {ρ : Rho} : List.lookup y ((x, v) :: ρ) = if y = x then some v else ρ.lookup y := by
  rw [List.lookup_cons]
  cases q : y == x with
  | true => rw [if_pos (beq_iff_eq.mp q)]
  | false => rw [if_neg fun e => by rw [e] at q; simp at q]

noncomputable def Storable (F : Fm) (x : Str) : Prop := F.env.kindOf x = some .local ∨ (F.env.kindOf x = some .cell ∧ (F.oc x).isSome = true)

theorem W.bindName {F : Fm} {x : Str} {v : V} {c : Value} {Q : Unit → Fz → Sig → Shared → Prop} (S : St g F.own D σ s) (E : ER g F ρ D s.heap) (r : VR g D v c) (hk : Storable F x)
    (q : ∀ s', St g F.own D σ s' → ER g F ((x, v) :: ρ) D s'.heap → Q () D σ s') : W g A F.own F.md (PySem.bindName F.env x c) D σ s Q := by
  refine wpAny_bindName ?_
  rcases hk with hk | ⟨hk, hoc⟩
  · obtain ⟨m, hn, hm⟩ := E.locs
    refine wpAny_storeName_local hk hn (fun h' hn' hs => ?_) (by rw [E.kind]; rfl)
    obtain ⟨o, _, _, ho, _⟩ := id hn'
    have S' := S.turnOwn (tk := s.toks + 1) E.ownL hs ho
    refine ⟨D, σ, S', Step.turnOwn E.mdL hs ho, q _ S' ?_⟩
    refine { E with locs := ⟨_, hn', fun y u hy hl => ?_⟩, cls := fun y u hy hl => ?_, oc := fun y ca hy => ?_ }
    · rw [lookup_cons_str] at hy
      split at hy
      · rename_i e; cases hy; exact ⟨c, if_pos e, r⟩
      · rename_i e; obtain ⟨d, h1, h2⟩ := hm y u hy hl; exact ⟨d, (if_neg e).trans h1, h2⟩
    · rw [lookup_cons_str] at hy
      split at hy
      · rename_i e; exact absurd (e ▸ hk) hl
      · obtain ⟨a, ca, d, e1, e2, e3⟩ := E.cls y u hy hl
        exact ⟨a, ca, d, e1, e2.sameBut hs (E.ocl y ca e1).2, e3⟩
    · obtain ⟨e1, e2, w, e3⟩ := E.oc y ca hy
      exact ⟨e1, e2, w, e3.sameBut hs (E.ocl y ca e1).2⟩
  · obtain ⟨ca, hca⟩ := Option.isSome_iff_exists.mp hoc
    obtain ⟨e1, e2, w, e3⟩ := E.oc x ca hca
    refine wpAny_storeName_cell E.kind hk e1 e3 fun h' hc' hs => ?_
    obtain ⟨o, ho, _⟩ := id hc'
    have S' := S.turnOwn (tk := s.toks) (E.sub _ e2) hs ho
    refine ⟨D, σ, S', Step.turnOwn e2 hs ho, q _ S' ?_⟩
    have nL : F.env.locals ≠ ca := fun e => (E.ocl x ca e1).2 e.symm
    refine { E with locs := ?_, cls := fun y u hy hl => ?_, oc := fun y cb hy => ?_ }
    · obtain ⟨m, hn, hm⟩ := E.locs
      refine ⟨m, hn.sameBut hs nL, fun y u hy hl => ?_⟩
      rw [lookup_cons_str] at hy
      split at hy
      · rename_i e; rw [e, hk] at hl; cases hl
      · exact hm y u hy hl
    · rw [lookup_cons_str] at hy
      split at hy
      · rename_i e
        cases hy
        exact ⟨.inl (e ▸ hk), ca, c, e ▸ e1, hc', r⟩
      · rename_i e
        obtain ⟨a, cb, d, f1, f2, f3⟩ := E.cls y u hy hl
        exact ⟨a, cb, d, f1, f2.sameBut hs fun z => e (E.inj y x ca (z ▸ f1) e1), f3⟩
    · obtain ⟨f1, f2, w', f3⟩ := E.oc y cb hy
      by_cases z : cb = ca
      · exact ⟨f1, f2, _, z ▸ hc'⟩
      · exact ⟨f1, f2, w', f3.sameBut hs z⟩

/-- a target takes a value; fn: in a def's own frame -/
noncomputable def ASN (g : G) (k : Nat) (fn : Bool) (sc : Scope) (ρ : Rho) (t : Expr) (v : V) (σ : Sig) (N : Rho → Sig → Prop) : Prop :=
  ∀ F A D s c, F.env.scope = sc → (fn = true → CellsOwn F) → Room k A → St g F.own D σ s → ER g F ρ D s.heap → VR g D v c → W g A F.own F.md (assign t F.env c) D σ s fun _ D' σ' s' => ∃ ρ', ER g F ρ' D' s'.heap ∧ N ρ' σ'
noncomputable def storableIn (fn : Bool) (sc : Scope) (x : Str) : Bool := sc.names.lookup x == some .local || (fn && sc.names.lookup x == some .cell)
theorem storable_of {fn : Bool} {F : Fm} {x : Str} (h : storableIn fn F.env.scope x = true) (c : fn = true → CellsOwn F) : Storable F x := by
  unfold storableIn at h
  rcases Bool.or_eq_true_iff.mp h with h | h
  · exact .inl (by simpa using h : F.env.scope.names.lookup x = some .local)
  · rw [Bool.and_eq_true] at h
    have hk : F.env.kindOf x = some .cell := (by simpa using h.2 : F.env.scope.names.lookup x = some .cell)
    exact .inr ⟨hk, c h.1 x hk⟩
theorem asn_name {fn : Bool} {x : Str} {pos : Pos} {v : V} (hk : storableIn fn sc x = true) (q : N ((x, v) :: ρ) σ) : ASN g k fn sc ρ (.Name x pos) v σ N := by
  intro F A D s c hs hc Rm S E r
  subst hs
  show W g A F.own F.md (standAt pos >>= fun _ => PySem.bindName F.env x c) D σ s _
  exact W.standAt (W.bindName S E r (storable_of hk hc) fun s' S' E' => ⟨_, E', q⟩)
/-- names of a tuple of targets -/
noncomputable def ASNS (g : G) (k : Nat) (fn : Bool) (sc : Scope) (ρ : Rho) (ts : List Expr) (vs : List V) (σ : Sig) (N : Rho → Sig → Prop) : Prop :=
  ∀ F A D s cs, F.env.scope = sc → (fn = true → CellsOwn F) → Room k A → St g F.own D σ s → ER g F ρ D s.heap → VRs g D vs cs → W g A F.own F.md (assignInOrder (ts.map fun t => assign t F.env) cs) D σ s fun _ D' σ' s' => ∃ ρ', ER g F ρ' D' s'.heap ∧ N ρ' σ'
noncomputable abbrev asnsK (g : G) (k : Nat) (fn : Bool) (sc : Scope) (ts : List Expr) (vs : List V) (N : Rho → Sig → Prop) : Rho → Sig → Prop := fun ρ' σ' => ASNS g k fn sc ρ' ts vs σ' N
noncomputable abbrev asgK (g : G) (k : Nat) (sc : Scope) (ρ : Rho) (t : Expr) (N : Rho → Sig → Prop) : V → Sig → Prop := fun v σ₁ => ASN g k true sc ρ t v σ₁ N
noncomputable abbrev exprK (ρ : Rho) (N : Rho → Sig → Prop) : V → Sig → Prop := fun v σ' => v = .none ∧ N ρ σ'
theorem asns_nil {fn : Bool} {vs : List V} (q : N ρ σ) : ASNS g k fn sc ρ [] vs σ N := fun F A D s cs hs hc Rm S E r => W.pure S ⟨ρ, E, q⟩
theorem asns_cons {fn : Bool} {t : Expr} {ts : List Expr} {v : V} {vs : List V} (h : ASN g k fn sc ρ t v σ (asnsK g k fn sc ts vs N)) : ASNS g k fn sc ρ (t :: ts) (v :: vs) σ N := by
  intro F A D s cs hs hc Rm S E r
  cases r with
  | cons a r =>
    rename_i c cs
    show W g A F.own F.md (holding cs (assign t F.env c) >>= fun _ => assignInOrder (ts.map fun t => assign t F.env) cs) D σ s _
    refine W.bind (W.holding ((h F A D s c hs hc Rm S E a).mono fun _ D₁ σ₁ s₁ S₁ T₁ w => ?_))
    obtain ⟨ρ', E', q⟩ := w
    exact q F A D₁ s₁ cs hs hc Rm S₁ E' (r.mono T₁.fle)
theorem assignEach_plain (env : Env) : ∀ es : List Expr, noStar es = true → (assignEach es env) = es.map fun e => (false, assign e env)
  | [], _ => rfl
  | e :: r, h => by
    cases e <;> first | exact Bool.noConfusion h | exact congrArg (_ :: ·) (assignEach_plain env r h)
noncomputable def vItems : V → Option (List V)
  | .tup vs => some vs
  | .lst vs => some vs
  | _ => none
theorem W.unpackItems {v : V} {vs : List V} {c : Value} {n : Nat} {Q : List Value → Fz → Sig → Shared → Prop} (Rm : Room k A) (S : St g own D σ s) (r : VR g D v c) (hv : vItems v = some vs) (hn : vs.length = n)
    (q : ∀ cs s', St g own D σ s' → VRs g D vs cs → (∀ b o, s.heap.get? b = some o → s'.heap.get? b = some o) → Q cs D σ s') : W g A own md (unpackItems c n none) D σ s Q := by
  have fin : ∀ (a : Addr) (cs : List Value) (h' : Heap), VRs g D vs cs → Heap.ExtBut s.heap.objs.size s.heap h' → WR g own md D σ s (Q cs) { s with heap := h' } := fun a cs h' rs hx => by
    have kp : ∀ b o, s.heap.get? b = some o → h'.get? b = some o := fun b o e => hx b o (Nat.ne_of_lt (Heap.lt_size e)) e
    exact ⟨D, σ, S.keeps kp, Step.keeps kp, q _ _ (S.keeps kp) rs kp⟩
  cases r with
  | tup e rs =>
    cases hv
    rename_i a xs m
    have := wpAny_unpackItems_tuple (prog := g.prog) (w := g.w) (A := A) (E := NoE) (s := s) (t := a) (items := xs.toArray) (Q := fun cs s' => WR g own md D σ s (Q cs) s') Rm.hh ⟨_, S.dat _ _ e, rfl, m, rfl⟩ (fun h' hx => fin a _ h' (by simpa using rs) hx)
    rw [List.size_toArray, rs.length, hn] at this
    exact this
  | lst e rs =>
    cases hv
    rename_i a xs m
    have := kun_itemsOf (prog := g.prog) (w := g.w) (A := A) (E := NoE) (s := s) (l := a) (items := xs.toArray) (Q := fun cs s' => WR g own md D σ s (Q cs) s') Rm.hh ⟨_, S.dat _ _ e, rfl, m, rfl⟩ (fun h' hx => fin a _ h' (by simpa using rs) hx)
    rw [List.size_toArray, rs.length, hn] at this
    exact this
  | _ => cases hv
theorem asn_tuple {fn : Bool} {ts : List Expr} {n : Nat} {pos : Pos} {v : V} {vs : List V} (hv : vItems v = some vs) (hl : vs.length = ts.length) (h : ASNS g k fn sc ρ ts vs σ N) (hn : autoParam (noStar ts = true) Mine.sxR) : ASN g k fn sc ρ (.Tuple ts n pos) v σ N := by
  intro F A D s c hs hc Rm S E r
  show W g A F.own F.md (standAt pos >>= fun _ => unpack c (assignEach ts F.env)) D σ s _
  refine W.standAt ?_
  unfold unpack
  rw [assignEach_plain _ _ hn]
  rw [List.length_map, show (ts.map fun e => (false, assign e F.env)).findIdx? (·.1) = none from by rw [List.findIdx?_eq_none_iff]; simp]
  refine W.bind (W.holding (W.unpackItems Rm S r hv hl fun cs s' S' rs kp => ?_))
  rw [List.map_map]
  exact h F A D s' cs hs hc Rm S' (E.keeps (.refl _) fun b o _ e => kp b o e) rs

-- expression statements, assignments
theorem swaps_sc (v : Expr) (t : Option Expr) (n : Nat) (env : Env) : swapsWith v t n env = swapsWith v t n { scope := env.scope, locals := 0, globals := 0, cells := [] } := rfl
noncomputable def envS (sc : Scope) : Env := { scope := sc, locals := 0, globals := 0, cells := [] }
theorem swapsSole_sc (ts : List Expr) (v : Expr) (n : Nat) (env : Env) : swapsWithSole ts v n env = swapsWithSole ts v n (envS env.scope) := by
  cases ts with
  | nil => rfl
  | cons t r => cases r <;> rfl
theorem swapped_sc (ts : List Expr) (v : Expr) (env : Env) : swappedStores ts v env = swappedStores ts v (envS env.scope) := rfl
/-- a call for its effect -/
theorem ex_expr {e : Expr} {pos : Pos} (h : EV g k sc ρ e σ (exprK ρ N)) (hs : autoParam (swapsWith e none pos.line (envS sc) = pure false) Mine.sxR) : EX1 g k sc ρ (.Expr e pos) σ N R := by
  intro F A D s hsc hc Rm S E
  have hi : interactive F.env = false := by unfold interactive; rw [E.kind]; rfl
  rw [exec_Expr _ _ _ hi (by rw [swaps_sc, hsc]; exact hs)]
  refine W.standAt (h.thenM hsc Rm S E fun c v D' σ' s' r ⟨hv, q⟩ S' E' _ => ?_)
  subst hv
  replace r := r.of; obtain ⟨_, rfl⟩ := r
  rw [dropValue_plain (fun a e => by cases e)]
  exact W.pure S' ⟨ρ, E', q⟩
theorem ex_assign {t value : Expr} {pos : Pos} (h : EV g k sc ρ value σ (asgK g k sc ρ t N)) (hs : autoParam (swapsWithSole [t] value pos.line (envS sc) = pure false) Mine.sxU) (hw : autoParam (swappedStores [t] value (envS sc) = pure none) Mine.sxU)
    (ht : autoParam (noStar [t] = true) Mine.sxU) : EX1 g k sc ρ (.Assign [t] value pos) σ N R := by
  intro F A D s hsc hc Rm S E
  have e1 : swapsWithSole [t] value pos.line F.env = pure false := by rw [swapsSole_sc, hsc]; exact hs
  have e2 : swappedStores [t] value F.env = pure none := by rw [swapped_sc, hsc]; exact hw
  rw [arm_exec_Assign, e1]
  refine W.standAt (W.bind (W.pure S ?_))
  show W g A F.own F.md (eval value F.env >>= _) D σ s _
  refine h.thenM hsc Rm S E fun c v D' σ' s' r q S' E' _ => ?_
  rw [e2, assignEach_plain _ _ ht]
  refine W.bind (W.pure S' ?_)
  show W g A F.own F.md (assign t F.env c >>= fun _ => (pure .next : Sem Flow)) D' σ' s' _
  refine W.bind ((q F A D' s' c hsc (fun _ => hc) Rm S' E' r).mono fun _ D₂ σ₂ s₂ S₂ T₂ ⟨ρ', E₂, q⟩ => W.pure S₂ ⟨ρ', E₂, q⟩)
/-- a, b = x, y with the stores exchanged -/
noncomputable def namesRev : List Str → List V → Rho → Rho
  | x :: xs, v :: vs, ρ => (x, v) :: namesRev xs vs ρ
  | _, _, ρ => ρ
theorem W.storeRev {F : Fm} : ∀ (xs : List Str) (vs : List V) (cs : List Value) (D : Fz) (σ : Sig) (s : Shared) (ρ : Rho), (∀ x ∈ xs, Storable F x) → xs.length = vs.length → St g F.own D σ s → ER g F ρ D s.heap → VRs g D vs cs →
    ∀ (more : List Str) (mv : List Value) {P : Unit → Fz → Sig → Shared → Prop}, (∀ s', St g F.own D σ s' → ER g F (namesRev xs vs ρ) D s'.heap → W g A F.own F.md (assignInOrder (more.map fun n => PySem.bindName F.env n) mv) D σ s' P) →
    W g A F.own F.md (assignInOrder ((xs.reverse ++ more).map fun n => PySem.bindName F.env n) (cs.reverse ++ mv)) D σ s P := by
  intro xs
  induction xs with
  | nil =>
    intro vs cs D σ s ρ _ hl S E r more mv P h
    cases vs with
    | cons => cases hl
    | nil => cases r; exact h s S E
  | cons x xs ih =>
    intro vs cs D σ s ρ hk hl S E r more mv P h
    cases vs with
    | nil => cases hl
    | cons v vs =>
      cases r with
      | cons a r =>
        rename_i c cs
        rw [List.reverse_cons, List.append_assoc, List.reverse_cons, List.append_assoc]
        refine ih vs cs D σ s ρ (fun y hy => hk y (.tail _ hy)) (Nat.succ.inj hl) S E r (x :: more) (c :: mv) fun s' S' E' => ?_
        show W g A F.own F.md (PySem.holding mv (PySem.bindName F.env x c) >>= fun _ => assignInOrder (more.map fun n => PySem.bindName F.env n) mv) D σ s' P
        exact W.bind (W.holding (W.bindName S' E' a (hk x (.head _)) fun s'' S'' E'' => h s'' S'' E''))
noncomputable abbrev swK (names : List Str) (ρ : Rho) (N : Rho → Sig → Prop) : V → Sig → Prop := fun v σ₁ => ∃ vs, A3 (vItems v = some vs) (names.length = vs.length) (N (namesRev names vs ρ) σ₁)
theorem ex_swap {t value : Expr} {pos : Pos} {names : List Str} (h : EV g k sc ρ value σ (swK names ρ N)) (hk : (names.all fun x => storableIn true sc x) = true)
    (hs : autoParam (swapsWithSole [t] value pos.line (envS sc) = pure false) Mine.sxR) (hw : autoParam (swappedStores [t] value (envS sc) = pure (some names)) Mine.sxR) : EX1 g k sc ρ (.Assign [t] value pos) σ N R := by
  intro F A D s hsc hc Rm S E
  have e1 : swapsWithSole [t] value pos.line F.env = pure false := by rw [swapsSole_sc, hsc]; exact hs
  have e2 : swappedStores [t] value F.env = pure (some names) := by rw [swapped_sc, hsc]; exact hw
  rw [arm_exec_Assign, e1]
  refine W.standAt (W.bind (W.pure S ?_))
  show W g A F.own F.md (eval value F.env >>= _) D σ s _
  refine h.thenM hsc Rm S E fun c v D' σ' s' r ⟨vs, hv, hl, q⟩ S' E' _ => ?_
  rw [e2]
  refine W.bind (W.pure S' ?_)
  show W g A F.own F.md (rule "assign.swapped-stores" >>= fun _ => unpackItems c names.length none >>= fun items => assignInOrder (names.reverse.map fun n => PySem.bindName F.env n) items.reverse >>= fun _ => (pure .next : Sem Flow)) D' σ' s' _
  refine wpAny_bind (wpAny_rule ?_)
  refine W.bind (W.unpackItems Rm S' r hv hl.symm fun cs s₂ S₂ rs kp => ?_)
  have E₂ := E'.keeps (D' := D') (.refl _) fun b o _ e => kp b o e
  refine W.bind ?_
  have := W.storeRev (g := g) (A := A) names vs cs D' σ' s₂ ρ (fun x hx => by subst hsc; exact storable_of (List.all_eq_true.mp hk x hx) fun _ => hc) hl S₂ E₂ rs [] [] (P := fun _ D₃ σ₃ s₃ => W g A F.own F.md (pure .next : Sem Flow) D₃ σ₃ s₃ (XP g F N R)) fun s' S' E' => W.pure S' (W.pure S' (show XP g F N R .next D' σ' s' from ⟨_, E', q⟩))
  simpa using this
end
end Mine

end
section
set_option maxRecDepth 100000
set_option linter.unusedVariables false
namespace Mine
open PySem PySem.W PyProof.Rows PySem.Calls

/-- a pair put into a dict by value -/
noncomputable def kput {K α : Type} [DecidableEq K] : List (K × α) → K → α → List (K × α)
  | [], k, v => [(k, v)]
  | (k', v') :: r, k, v => if k' = k then (k', v) :: r else (k', v') :: kput r k v
noncomputable def kget {K α : Type} [DecidableEq K] : List (K × α) → K → Option α
  | [], _ => none
  | (k', v') :: r, k => if k' = k then some v' else kget r k
theorem kput_cons {K α : Type} [DecidableEq K] (k' : K) (v' : α) (r : List (K × α)) (k : K) (v : α) : kput ((k', v') :: r) k v = if k' = k then (k', v) :: r else (k', v') :: kput r k v := rfl
theorem kget_cons {K α : Type} [DecidableEq K] (k' : K) (v' : α) (r : List (K × α)) (k : K) : kget ((k', v') :: r) k = if k' = k then some v' else kget r k := rfl
theorem kput_keys {K α : Type} [DecidableEq K] (l : List (K × α)) (k : K) (v : α) : (kput l k v).map (·.1) = if k ∈ l.map (·.1) then l.map (·.1) else l.map (·.1) ++ [k] := by
  induction l with
  | nil => rfl
  | cons p r ih =>
    obtain ⟨k', v'⟩ := p
    rw [kput_cons]
    by_cases h : k' = k
    · rw [if_pos h]; simp [h]
    · rw [if_neg h, List.map_cons, ih]
      by_cases h2 : k ∈ r.map (·.1)
      · rw [if_pos h2, if_pos (by simp [h2])]; rfl
      · rw [if_neg h2, if_neg (by simp only [List.map_cons, List.mem_cons, not_or]; exact ⟨fun e => h e.symm, h2⟩)]; rfl
theorem kput_nodup {K α : Type} [DecidableEq K] {l : List (K × α)} {k : K} {v : α} (h : (l.map (·.1)).Nodup) : ((kput l k v).map (·.1)).Nodup := by
  rw [kput_keys]
  split
  · exact h
  · rename_i n
    exact List.nodup_append.mpr ⟨h, by simp, fun a ha b hb => by
      rw [List.mem_singleton.mp hb]; exact fun e => n (e ▸ ha)⟩
theorem kput_length {K α : Type} [DecidableEq K] (l : List (K × α)) (k : K) (v : α) : (kput l k v).length ≤ l.length + 1 := by
  induction l with
  | nil => exact Nat.le_refl 1
  | cons p r ih =>
    obtain ⟨k', v'⟩ := p
    rw [kput_cons]
    split
    · simp
    · simp only [List.length_cons]; lia
theorem kget_kput {K α : Type} [DecidableEq K] (l : List (K × α)) (k k' : K) (v : α) : kget (kput l k v) k' = if k' = k then some v else kget l k' := by
  induction l with
  | nil =>
    show (if k = k' then some v else none) = if k' = k then some v else none
    by_cases h : k = k'
    · rw [if_pos h, if_pos h.symm]
    · rw [if_neg h, if_neg (Ne.symm h)]
  | cons p r ih =>
    obtain ⟨a, b⟩ := p
    rw [kput_cons]
    by_cases h : a = k
    · rw [if_pos h, kget_cons, kget_cons]
      by_cases h2 : a = k'
      · rw [if_pos h2, if_pos (by rw [← h2, h])]
      · rw [if_neg h2, if_neg (fun e => h2 (by rw [h, e])), if_neg h2]
    · rw [if_neg h, kget_cons, kget_cons, ih]
      by_cases h2 : a = k'
      · rw [if_pos h2, if_pos h2, if_neg (fun e => h (by rw [h2, e]))]
      · rw [if_neg h2, if_neg h2]

section
variable {g : G} {k : Nat} {sc : Scope} {ρ : Rho} {σ : Sig} {A : Around} {own md : Addr → Prop} {D : Fz} {s : Shared} {N : Rho → Sig → Prop} {R : V → Sig → Prop}

/-- a dict by value against the concrete pairs -/
theorem kv_get {K : Type} [DecidableEq K] {kvs : List (K × V)} {cs : List Value} (r : VRs g D (kvs.map (·.2)) cs) (k : K) :
    match kget kvs k with
    | some v => ∃ c, valueAt ((kvs.map (·.1)).zip cs) k = some c ∧ VR g D v c
    | none => valueAt ((kvs.map (·.1)).zip cs) k = none := by
  induction kvs generalizing cs with
  | nil => rfl
  | cons p l ih =>
    obtain ⟨k', v'⟩ := p
    cases r with
    | cons a r =>
      rename_i c cs
      have ih := ih r
      rw [kget_cons]
      simp only [List.map_cons, List.zip_cons_cons, valueAt, List.find?_cons]
      by_cases h : k' = k
      · rw [if_pos h, decide_eq_true h]; exact ⟨c, rfl, a⟩
      · rw [if_neg h, decide_eq_false h]; exact ih
theorem kv_put {K : Type} [DecidableEq K] {kvs : List (K × V)} {cs : List Value} {k : K} {v : V} {c : Value} (r : VRs g D (kvs.map (·.2)) cs) (hn : (kvs.map (·.1)).Nodup) (a : VR g D v c) :
    ∃ cs', stored ((kvs.map (·.1)).zip cs) k c = ((kput kvs k v).map (·.1)).zip cs' ∧ VRs g D ((kput kvs k v).map (·.2)) cs' := by
  have main : ∀ (kvs : List (K × V)) (cs : List Value), VRs g D (kvs.map (·.2)) cs → (kvs.map (·.1)).Nodup →
      ∃ cs', stored ((kvs.map (·.1)).zip cs) k c = ((kput kvs k v).map (·.1)).zip cs' ∧ VRs g D ((kput kvs k v).map (·.2)) cs' := by
    intro kvs
    induction kvs with
    | nil => intro cs r _; cases r; exact ⟨[c], rfl, .cons a .nil⟩
    | cons p l ih =>
      obtain ⟨k', v'⟩ := p
      intro cs r hn
      cases r with
      | cons a' r =>
        rename_i c' cs
        obtain ⟨h1, h2⟩ := List.nodup_cons.mp hn
        have keys : ((l.map (·.1)).zip cs).map (·.1) = l.map (·.1) := by
          have hl : cs.length = l.length := by have := r.length; simpa using this
          apply List.map_fst_zip
          simp [hl]
        by_cases h : k' = k
        · subst h
          refine ⟨c :: cs, ?_, ?_⟩
          · rw [kput_cons, if_pos rfl]
            simp only [List.map_cons, List.zip_cons_cons, stored, List.any_cons, decide_true, Bool.true_or, if_true]
            rw [map_store_of_not_mem _ _ _ (by rw [keys]; exact h1)]
          · rw [kput_cons, if_pos rfl]; exact .cons a r
        · obtain ⟨cs', e, r'⟩ := ih cs r h2
          refine ⟨c' :: cs', ?_, ?_⟩
          · rw [kput_cons, if_neg h]
            simp only [List.map_cons, List.zip_cons_cons]
            rw [← e]
            unfold stored
            simp only [List.any_cons, decide_eq_false h, Bool.false_or, List.map_cons, if_neg h]
            split
            · rfl
            · rfl
          · rw [kput_cons, if_neg h]; exact .cons a' r'
  exact main kvs cs r hn

theorem dictOf_or {K : Type} [DecidableEq K] {knd : KeyKind g.prog g.w K} {h : Heap} {a : Addr} {ps : List (K × Value)} (x : h.DictOf knd a ps) : X2 fun es n => A4 (h.get? a = some (dictOf es n)) (KeysOf knd es.toArray) (Pairs knd es ps) ((ps.map (·.1)).Nodup) := by
  obtain ⟨o, es, ep, ho, ⟨h1, h2, h3⟩, hd, hk, hp, hn⟩ := x
  obtain ⟨c, d, dt, sl⟩ := o
  dsimp only at h1 h2 h3 hd
  subst h1 h2 h3 hd
  exact ⟨es.toList, ep, ho, by simpa using hk, hp, hn⟩
theorem or_dictOf {K : Type} [DecidableEq K] {knd : KeyKind g.prog g.w K} {h : Heap} {a : Addr} {es : List DictEntry} {n : Nat} {ps : List (K × Value)} (ho : h.get? a = some (dictOf es n)) (hk : KeysOf knd es.toArray) (hp : Pairs knd es ps) (hn : (ps.map (·.1)).Nodup) : h.DictOf knd a ps :=
  ⟨_, es.toArray, n, ho, ⟨rfl, rfl, rfl⟩, rfl, hk, by simpa using hp, hn⟩
theorem zip_keys {K : Type} {kvs : List (K × V)} {cs : List Value} (r : VRs g D (kvs.map (·.2)) cs) : ((kvs.map (·.1)).zip cs).map (·.1) = kvs.map (·.1) := by
  have hl : cs.length = kvs.length := by have := r.length; simpa using this
  apply List.map_fst_zip
  simp [hl]

/-- a dict of ints, of strs, of tuples of ints, to be read: frozen or not -/
inductive DI (σ : Sig) : V → List (Int × V) → Prop
  | f {kvs : List (Int × V)} : DI σ (.dI kvs) kvs
  | m {a : Addr} {kvs : List (Int × V)} : σ a = some (.dI kvs) → DI σ (.ref a) kvs
inductive DS (σ : Sig) : V → List (Str × V) → Prop
  | f {kvs : List (Str × V)} : DS σ (.dS kvs) kvs
  | m {a : Addr} {kvs : List (Str × V)} : σ a = some (.dS kvs) → DS σ (.ref a) kvs
inductive DT (σ : Sig) : V → List (List Int × V) → Prop
  | f {kvs : List (List Int × V)} : DT σ (.dT kvs) kvs
  | m {a : Addr} {kvs : List (List Int × V)} : σ a = some (.dT kvs) → DT σ (.ref a) kvs
/-- a list to be read: frozen or not -/
inductive LI (σ : Sig) : V → List V → Prop
  | f {vs : List V} : LI σ (.lst vs) vs
  | m {a : Addr} {vs : List V} : σ a = some (.list vs) → LI σ (.ref a) vs
theorem DI.of {σ : Sig} {v : V} {kvs : List (Int × V)} (d : DI σ v kvs) : v = .dI kvs ∨ ∃ a, v = .ref a ∧ σ a = some (.dI kvs) :=
  @DI.casesOn σ (fun v kvs _ => v = .dI kvs ∨ ∃ a, v = .ref a ∧ σ a = some (.dI kvs)) v kvs d (.inl rfl) fun e => .inr ⟨_, rfl, e⟩
theorem DS.of {σ : Sig} {v : V} {kvs : List (Str × V)} (d : DS σ v kvs) : v = .dS kvs ∨ ∃ a, v = .ref a ∧ σ a = some (.dS kvs) :=
  @DS.casesOn σ (fun v kvs _ => v = .dS kvs ∨ ∃ a, v = .ref a ∧ σ a = some (.dS kvs)) v kvs d (.inl rfl) fun e => .inr ⟨_, rfl, e⟩
theorem DT.of {σ : Sig} {v : V} {kvs : List (List Int × V)} (d : DT σ v kvs) : v = .dT kvs ∨ ∃ a, v = .ref a ∧ σ a = some (.dT kvs) :=
  @DT.casesOn σ (fun v kvs _ => v = .dT kvs ∨ ∃ a, v = .ref a ∧ σ a = some (.dT kvs)) v kvs d (.inl rfl) fun e => .inr ⟨_, rfl, e⟩
theorem LI.of {σ : Sig} {v : V} {kvs : List V} (d : LI σ v kvs) : v = .lst kvs ∨ ∃ a, v = .ref a ∧ σ a = some (.list kvs) :=
  @LI.casesOn σ (fun v kvs _ => v = .lst kvs ∨ ∃ a, v = .ref a ∧ σ a = some (.list kvs)) v kvs d (.inl rfl) fun e => .inr ⟨_, rfl, e⟩

theorem DI.at_ {v : V} {kvs : List (Int × V)} {c : Value} (S : St g own D σ s) (d : DI σ v kvs) (r : VR g D v c) : X2 fun a cs => A5 (c = .ref a) (s.heap.DictOf g.I a ((kvs.map (·.1)).zip cs)) (VRs g D (kvs.map (·.2)) cs) ((kvs.map (·.1)).Nodup) ((a == sysModules) = false) := by
  rcases d.of with rfl | ⟨b, rfl, e⟩
  · obtain ⟨a, es, m, cs, e, k, p, w, n, rfl⟩ := r.of
    exact ⟨a, cs, rfl, or_dictOf (S.dat _ _ e) k p (by rw [zip_keys w]; exact n), w, n, S.sys_D e rfl⟩
  · obtain rfl := r.of
    obtain ⟨o, ho, x⟩ := S.mt _ _ e
    obtain ⟨es, m, cs, k, p, w, n, rfl⟩ := x.of
    exact ⟨_, cs, rfl, or_dictOf ho k p (by rw [zip_keys w]; exact n), w, n, S.sys_σ e⟩
theorem DS.at_ {v : V} {kvs : List (Str × V)} {c : Value} (S : St g own D σ s) (d : DS σ v kvs) (r : VR g D v c) : X2 fun a cs => A5 (c = .ref a) (s.heap.DictOf g.S a ((kvs.map (·.1)).zip cs)) (VRs g D (kvs.map (·.2)) cs) ((kvs.map (·.1)).Nodup) ((a == sysModules) = false) := by
  rcases d.of with rfl | ⟨b, rfl, e⟩
  · obtain ⟨a, es, m, cs, e, k, p, w, n, rfl⟩ := r.of
    exact ⟨a, cs, rfl, or_dictOf (S.dat _ _ e) k p (by rw [zip_keys w]; exact n), w, n, S.sys_D e rfl⟩
  · obtain rfl := r.of
    obtain ⟨o, ho, x⟩ := S.mt _ _ e
    obtain ⟨es, m, cs, k, p, w, n, rfl⟩ := x.of
    exact ⟨_, cs, rfl, or_dictOf ho k p (by rw [zip_keys w]; exact n), w, n, S.sys_σ e⟩

theorem LI.at_ {v : V} {vs : List V} {c : Value} (S : St g own D σ s) (d : LI σ v vs) (r : VR g D v c) : X3 fun a cs n => A3 (c = .ref a) (s.heap.get? a = some (lstO cs n)) (VRs g D vs cs) := by
  rcases d.of with rfl | ⟨b, rfl, e⟩
  · obtain ⟨_, _, _, e, w, rfl⟩ := r.of; exact ⟨_, _, _, rfl, S.dat _ _ e, w⟩
  · obtain rfl := r.of
    obtain ⟨o, ho, x⟩ := S.mt _ _ e
    obtain ⟨_, _, w, rfl⟩ := x.of
    exact ⟨_, _, _, rfl, ho, w⟩
theorem intKeys {xs : List Value} {ns : List Int} (i : IntsAre xs ns) : PySem.ItemsAre g.I ns xs := by
  induction i with
  | nil => exact .nil
  | cons n t _ ih => exact .cons (by show Value.isInt n (.int n t) = true; simp [Value.isInt]) ih
theorem DT.at_ {v : V} {kvs : List (List Int × V)} {c : Value} (S : St g own D σ s) (d : DT σ v kvs) (r : VR g D v c) : X2 fun a xs => A7 (c = .ref a) (s.heap.DictOfH g.T a xs) (kvs.map (·.1) = xs.map (·.1)) ((∀ x ∈ xs, KeyAt D x.1 x.2.1)) (VRs g D (kvs.map (·.2)) (xs.map (·.2.2))) ((kvs.map (·.1)).Nodup) ((a == sysModules) = false) := by
  have keyis : ∀ {ks : List Int} {a : Addr}, KeyAt D ks a → g.T.is s.heap ks a := by
    rintro ks a ⟨xs, n, e, i⟩
    refine ⟨_, xs.toArray, n, S.dat _ _ e, rfl, rfl, ?_⟩
    show PySem.ItemsAre g.I ks xs.toArray.toList
    rw [List.toList_toArray]
    exact intKeys i
  rcases d.of with rfl | ⟨b, rfl, e⟩
  · obtain ⟨a, xs, n, e, h1, h2, h3, h4, rfl⟩ := r.of
    exact ⟨a, xs, rfl, ⟨_, _, n, S.dat _ _ e, ⟨rfl, rfl, rfl⟩, rfl, List.toList_toArray, fun x hx => keyis (h2 x hx), h1 ▸ h4⟩, h1, h2, h3, h4, S.sys_D e rfl⟩
  · obtain rfl := r.of
    obtain ⟨o, ho, x⟩ := S.mt _ _ e
    obtain ⟨xs, n, h1, h2, h3, h4, rfl⟩ := x.of
    exact ⟨_, xs, rfl, ⟨_, _, n, ho, ⟨rfl, rfl, rfl⟩, rfl, List.toList_toArray, fun x hx => keyis (h2 x hx), h1 ▸ h4⟩, h1, h2, h3, h4, S.sys_σ e⟩

-- attributes
/-- an object and its attributes, frozen or not -/
inductive AT (σ : Sig) : V → Addr → List (Str × V) → Prop
  | f {C : Addr} {fs : List (Str × V)} : AT σ (.obj C fs) C fs
  | m {C dx : Addr} {fs : List (Str × V)} : σ dx = some (.dS fs) → AT σ (.inst C dx) C fs
theorem AT.of {σ : Sig} {v : V} {C : Addr} {fs : List (Str × V)} (d : AT σ v C fs) : v = .obj C fs ∨ ∃ dx, v = .inst C dx ∧ σ dx = some (.dS fs) :=
  @AT.casesOn σ (fun v C fs _ => v = .obj C fs ∨ ∃ dx, v = .inst C dx ∧ σ dx = some (.dS fs)) v C fs d (.inl rfl) fun e => .inr ⟨_, rfl, e⟩
theorem AT.at_ {v : V} {C : Addr} {fs : List (Str × V)} {c : Value} (S : St g own D σ s) (d : AT σ v C fs) (r : VR g D v c) :
    X5 fun x dx es n cs => A8 (c = .ref x) (InstAt s.heap x (instObj C dx) C (some (dictOf es n))) (s.heap.get? dx = some (dictOf es n)) (KeysOf g.S es.toArray) (Pairs g.S es ((fs.map (·.1)).zip cs)) (VRs g D (fs.map (·.2)) cs) ((fs.map (·.1)).Nodup) ((∀ C' dx', v = .inst C' dx' → dx = dx')) := by
  rcases d.of with rfl | ⟨dx, rfl, e⟩
  · obtain ⟨x, dx, es, m, cs, e1, e2, k, p, w, n, rfl⟩ := r.of
    exact ⟨x, dx, es, m, cs, rfl, ⟨S.dat _ _ e1, rfl, rfl, S.dat _ _ e2⟩, S.dat _ _ e2, k, p, w, n, fun _ _ e => V.noConfusion e⟩
  · obtain ⟨x, e1, rfl⟩ := r.of
    obtain ⟨o, ho, y⟩ := S.mt _ _ e
    obtain ⟨es, m, cs, k, p, w, n, rfl⟩ := y.of
    exact ⟨x, _, es, m, cs, rfl, ⟨S.dat _ _ e1, rfl, rfl, ho⟩, ho, k, p, w, n, fun _ _ e => by cases e; rfl⟩
theorem getL_of {es : List DictEntry} {ps : List (Str × Value)} {x : Str} (k : KeysOf g.S es.toArray) (p : Pairs g.S es ps) : getL x es = some (valueAt ps x) := by
  have f := p.find x
  have q : (fun e : DictEntry => g.S.is x e.key) = fun e => e.key.isStr x := funext fun e => (isStr_of x e.key).symm
  rw [q] at f
  unfold getL
  rw [← f]
  cases h : es.find? (fun e => e.key.isStr x) with
  | some e => rfl
  | none =>
    have : es.any (·.refKey) = false := by
      rw [List.any_eq_false]
      intro e he
      obtain ⟨y, hy, _⟩ := k e (by simpa using he)
      obtain ⟨t, ht⟩ := Value.isStrOf_shape hy
      unfold DictEntry.refKey
      rw [ht]; simp
    simp only [this]; rfl
theorem handed_V {v : V} {c : Value} (r : VR g D v c) (h : ∀ w, v ≠ .cst w := by intro w e; cases e) : handedIn c = true :=
  @VR.casesOn g D (fun v c _ => (∀ w, v ≠ .cst w) → handedIn c = true) v c r (fun _ => rfl) (fun _ _ => rfl) (fun _ _ _ => rfl) (fun _ _ _ => rfl) (fun _ _ _ => rfl) (fun v h => absurd rfl (h v)) (fun _ _ _ => rfl) (fun _ _ _ => rfl) (fun _ _ _ _ _ _ => rfl) (fun _ _ _ _ _ _ => rfl) (fun _ _ _ _ _ _ => rfl) (fun _ _ _ _ _ _ _ => rfl) (fun _ _ => rfl) (fun _ _ => rfl) (fun _ _ => rfl) h

/-- how a class shows an attribute of its instances: from their own dict -/
noncomputable def OwnAttr (K : Frag) (C : Addr) (x : Str) : Prop := plainGet K C x = true ∧ hasDictIn K C = true ∧ ∃ a, findIn K (.ref C) x = some a ∧ noGet K a = true
theorem ev_attr {o : Expr} {x : Str} {pos : Pos} {Q : V → Sig → Prop} (h : EV g k sc ρ o σ fun ov σ₁ => X3 fun C fs v => A5 (AT σ₁ ov C fs) (kget fs x = some v) (OwnAttr g.K C x) ((∀ w, v ≠ .cst w)) (Q v σ₁)) (hsup : autoParam (superless o = true) Mine.sxR) :
    EV g k sc ρ (.Attribute o x pos) σ Q := by
  intro F A D s hs Rm S E
  show W g A F.own No (attributeBase o x F.env (eval o F.env) >>= fun ov => standAt pos.atName >>= fun _ => holding [ov] (getAttr ov x true) >>= fun r => letTemporaryGo o ov r >>= fun _ => pure r) D σ s _
  rw [attributeBase_plain hsup]
  refine h.then hs Rm S E fun c v D₁ σ₁ s₁ r₁ w S₁ E₁ T₁ => W.standAt (W.bind (W.holding ?_))
  obtain ⟨C, fs, u, hat, hf, ⟨o1, o2, a, o3, o4⟩, hc, q⟩ := w
  obtain ⟨y, dx, es, n, cs, rfl, I, hdx, ky, p, rs, nd, _⟩ := hat.at_ S₁ r₁
  have kv := kv_get rs x
  rw [hf] at kv
  obtain ⟨cv, hv, rv⟩ := kv
  refine get_value (g.hK.keeps S₁.base) I (plainGet_of o1).1 (findObj_own (C := C) o2 o3 o4 (by rw [lookIn_dict, getL_of ky p, hv])) (handed_V rv hc) ?_
  refine ⟨D₁, σ₁, S₁.tok _, Step.tok _, ?_⟩
  exact wpAny_bind (wpAny_letTemporaryGo (wpAny_pure ⟨D₁, σ₁, S₁.tok _, .refl, u, rv, q⟩))

/-- a method of the object's class -/
noncomputable def OwnMeth (K : Frag) (C : Addr) (x : Str) (f : Addr) : Prop := plainGet K C x = true ∧ findIn K (.ref C) x = some (some (.ref f)) ∧ typeIn K (.ref f) = some (.type "function")
theorem mres_inst {o : V} {C f : Addr} {fs : List (Str × V)} {x : Str} (hat : AT σ o C fs) (hn : kget fs x = none) (m : OwnMeth g.K C x f) : MRES g o σ x (.ref f) := by
  intro A own D s c pl Q S r q
  obtain ⟨y, dx, es, n, cs, rfl, I, hdx, ky, p, rs, nd, _⟩ := hat.at_ S r
  have kv := kv_get rs x
  rw [hn] at kv
  refine method_fn (g.hK.keeps S.base) I (plainGet_of m.1).1 (plainGet_of m.1).2 m.2.1 m.2.2 ?_ q
  show (lookIn x (dictOf es n)).map _ = _
  rw [lookIn_dict, getL_of ky p, kv]; rfl

theorem pairs_putL {es : List DictEntry} {ps : List (Str × Value)} {x : Str} {t : Tok} {c : Value} (p : Pairs g.S es ps) (hn : (ps.map (·.1)).Nodup) (h : Int) : Pairs g.S (putL x h (.str x t) c es) (stored ps x c) := by
  induction p with
  | nil => exact .cons (by show Value.isStrOf x (.str x t) = true; simp [Value.isStrOf]) rfl .nil
  | @cons e kv es kvs h1 h2 ht ih =>
    rw [List.map_cons, List.nodup_cons] at hn
    have his : e.key.isStr x = decide (x = kv.1) := by rw [isStr_of]; exact KeyKind.is_eq_decide (knd := g.S) h1 x
    rw [putL, his]
    by_cases hx : x = kv.1
    · subst hx
      rw [decide_eq_true rfl, if_pos rfl]
      simp only [stored, List.any_cons, decide_true, Bool.true_or, if_true, List.map_cons]
      rw [map_store_of_not_mem kvs _ c hn.1]
      exact .cons h1 rfl ht
    · have hx' : ¬ kv.1 = x := fun e => hx e.symm
      rw [decide_eq_false hx, if_neg Bool.false_ne_true]
      have : stored (kv :: kvs) x c = kv :: stored kvs x c := by
        simp only [stored, List.any_cons, decide_eq_false hx', Bool.false_or, List.map_cons, if_neg hx']
        split <;> rfl
      rw [this]
      exact .cons h1 h2 (ih hn.2)
theorem keys_putL {es : List DictEntry} {x : Str} {t : Tok} {c : Value} (k : KeysOf g.S es.toArray) : KeysOf g.S (putL x (PyData.keyHash g.w.params x) (.str x t) c es).toArray := by
  induction es with
  | nil =>
    intro e he
    have : e = ⟨PyData.keyHash g.w.params x, .str x t, c⟩ := by simpa [putL] using he
    subst this
    exact ⟨x, by show Value.isStrOf x (.str x t) = true; simp [Value.isStrOf], rfl⟩
  | cons e es ih =>
    intro e' he'
    have kt : KeysOf g.S es.toArray := fun y hy => k y (by simp at hy ⊢; exact .inr hy)
    have ke := k e (by simp)
    rw [putL] at he'
    split at he'
    · simp only [List.mem_toArray, List.mem_cons] at he'
      rcases he' with rfl | he'
      · exact ke
      · exact kt e' (by simpa using he')
    · simp only [List.mem_toArray, List.mem_cons] at he'
      rcases he' with rfl | he'
      · exact ke
      · exact ih kt e' (by simpa using he')
theorem putL_length {x : Str} {h : Int} {key c : Value} : ∀ es : List DictEntry, (putL x h key c es).length ≤ es.length + 1
  | [] => by simp [putL]
  | e :: r => by
    rw [putL]; split
    · simp
    · have := putL_length (x := x) (h := h) (key := key) (c := c) r; simp only [List.length_cons]; lia

/-- self.x = v -/
noncomputable def Settable (K : Frag) (C : Addr) (x : Str) : Prop := findIn K (.ref C) "__setattr__" = some (some (.builtin "object.__setattr__")) ∧ plainOver K C = true ∧ takerIn K C x = some none ∧ (clsIn K C).any (·.hasDict) = true
theorem W.setAttr {C dx : Addr} {x : Str} {fs : List (Str × V)} {v : V} {c cv : Value} (S : St g own D σ s) (hm : σ dx = some (.dS fs)) (r : VR g D (.inst C dx) c) (rv : VR g D v cv) (st : Settable g.K C x) (hz : fs.length ≤ 900) : W g A own No (setAttr c x cv) D σ s fun _ D' σ' _ => D' = D ∧ σ' = σ.set dx (.dS (kput fs x v)) := by
  obtain ⟨y, dx', es, n, cs, rfl, I, hdx, ky, p, rs, nd, hdd⟩ := (AT.m (C := C) hm).at_ S r
  have := hdd C dx rfl
  subst this
  have X := g.hK.keeps S.base
  refine set_plain X I st.1 ?_
  have S1 := S.tok (s.toks + 1)
  refine osa_open (s := { s with toks := s.toks + 1 }) X I st.2.1 st.2.2.1 fun b => ?_
  obtain ⟨cd, hc, hd'⟩ := any_some st.2.2.2
  obtain ⟨hx, hcl, hno, hdi⟩ := I
  refine wpAny_bind (wpAny_pure (wpAny_bind (wpAny_bind (wpAny_loadPart hx (wpAny_bind (looks_clsIn X hc _ _ _ _ (fun _ _ e => e) ?_))))))
  rw [hd']
  refine wpAny_pure (a := some dx') (wpAny_bind (wpAny_pure (wpAny_bind ?_)))
  unfold nsSet
  refine wpAny_bind (wpAny_bind (wpAny_askSetting (wpAny_pure (wpAny_bind (wpAny_mkText (wpAny_bind (wpAny_loadPart hdx ?_)))))))
  have c : (!es.toArray.any (·.key.isStr x) && es.toArray.any (·.refKey)) = false := by
    have : es.toArray.any (·.refKey) = false := by
      rw [Array.any_eq_false']
      intro e he
      obtain ⟨y, hy, _⟩ := ky e he
      obtain ⟨t, ht⟩ := Value.isStrOf_shape hy
      unfold DictEntry.refKey
      rw [ht]; simp
    rw [this, Bool.and_false]
  dsimp only
  rw [aRefKeyMayBeTheName_at, c]
  refine wpAny_updatePart hdx ?_
  obtain ⟨cs', e1, r1⟩ := kv_put (D := D) (k := x) rs nd rv
  have le : es.length ≤ fs.length := by
    have h1 := p.length
    have h2 : ((fs.map (·.1)).zip cs).length ≤ (fs.map (·.1)).length := by rw [List.length_zip]; exact Nat.min_le_left _ _
    rw [List.length_map] at h2
    lia
  have hnew : (s.heap.update dx' (Obj.putName x (PyData.keyHash g.w.params x) (.str x (s.toks + 1)) cv)).get? dx' = some (dictOf (putL x (PyData.keyHash g.w.params x) (.str x (s.toks + 1)) cv es) (putN x es n)) := by
    rw [Heap.get?_update_self _ hdx (by rw [putName_dict]; rfl), putName_dict]
  refine wpAny_bind (wpAny_lookBehind hnew (pastItsLine_dict (by rw [List.size_toArray, sizeLine_eq]; have := putL_length (x := x) (h := PyData.keyHash g.w.params x) (key := .str x (s.toks + 1)) (c := cv) es; lia)) ?_)
  have hs := Heap.SameBut.update s.heap dx' (Obj.putName x (PyData.keyHash g.w.params x) (.str x (s.toks + 1)) cv)
  have S2 := S.upd (tk := s.toks + 1 + 1) (m' := .dS (kput fs x v)) hm hs hnew (.dS (keys_putL ky) (e1 ▸ pairs_putL p (by rw [zip_keys rs]; exact nd) _) r1 (kput_nodup nd))
  exact wpAny_pure ⟨D, _, S2, Step.upd hm hs hnew, rfl, rfl⟩
end
end Mine

end
section
set_option maxRecDepth 100000
set_option linter.unusedVariables false
namespace Mine
open PySem PySem.W PyProof.Rows PySem.Calls

section
variable {g : G} {k : Nat} {sc : Scope} {ρ : Rho} {σ : Sig} {A : Around} {own md : Addr → Prop} {D : Fz} {s : Shared} {N : Rho → Sig → Prop} {R : V → Sig → Prop}

theorem W.release_end {vs ks : List Value} {P : Unit → Fz → Sig → Shared → Prop} (S : St g own D σ s) (h : P () D σ s) : W g A own md (PySem.release vs ks) D σ s P := by
  intro Γ p hΓ
  rw [Sem.wp_release]; exact ⟨D, σ, S, .refl, h⟩

-- targets: attributes, places
theorem asn_attr {fn : Bool} {o : Expr} {x : Str} {pos : Pos} {v : V} (h : EV g k sc ρ o σ fun ov σ₁ => X3 fun C dx fs => A5 (ov = .inst C dx) (σ₁ dx = some (.dS fs)) (Settable g.K C x) (fs.length ≤ 900) (N ρ (σ₁.set dx (.dS (kput fs x v))))) : ASN g k fn sc ρ (.Attribute o x pos) v σ N := by
  intro F A D s c hs hc Rm S E r
  show W g A F.own F.md (holding [c] (eval o F.env) >>= fun ov => standAt pos.atName >>= fun _ => holding [c, ov] (PySem.setAttr ov x c) >>= fun _ => release [c, ov] []) D σ s _
  refine W.no (W.bind (W.holding ((h F A D s hs Rm S E).mono fun oc D₁ σ₁ s₁ S₁ T₁ w => ?_)))
  obtain ⟨ov, r₁, C, dx, fs, e, hm, st, hz, q⟩ := w
  subst e
  refine W.standAt (W.bind (W.holding ((W.setAttr S₁ hm r₁ (r.mono T₁.fle) st hz).mono fun _ D₂ σ₂ s₂ S₂ T₂ w => ?_)))
  obtain ⟨e1, e2⟩ := w
  refine W.release_end S₂ ⟨ρ, (E.step S T₁).step S₁ T₂, e2 ▸ q⟩

theorem isI (i : Int) (t : Tok) : g.I.is i (.int i t) = true := by show Value.isInt i (.int i t) = true; simp [Value.isInt]
theorem isS (x : Str) (t : Tok) : g.S.is x (.str x t) = true := by show Value.isStrOf x (.str x t) = true; simp [Value.isStrOf]
/-- o[i] = v -/
noncomputable def SETI (g : G) (k : Nat) (o i v : V) (σ : Sig) (Q : Sig → Prop) : Prop :=
  ∀ A own D s co ci cv, Room k A → St g own D σ s → VR g D o co → VR g D i ci → VR g D v cv → W g A own No (setItem co ci cv) D σ s fun _ D' σ' s' => Q σ'
noncomputable def isSlice : Expr → Bool
  | .Slice .. => true
  | _ => false
noncomputable abbrev setN (ρ : Rho) (N : Rho → Sig → Prop) : Sig → Prop := fun σ₃ => N ρ σ₃
noncomputable abbrev asubK2 (g : G) (k : Nat) (ρ : Rho) (v : V) (N : Rho → Sig → Prop) (ov : V) : V → Sig → Prop := fun iv σ₂ => SETI g k ov iv v σ₂ (setN ρ N)
noncomputable abbrev asubK (g : G) (k : Nat) (sc : Scope) (ρ : Rho) (i : Expr) (v : V) (N : Rho → Sig → Prop) : V → Sig → Prop := fun ov σ₁ => EV g k sc ρ i σ₁ (asubK2 g k ρ v N ov)
theorem asn_sub {fn : Bool} {o i : Expr} {pos : Pos} {v : V} (h : EV g k sc ρ o σ (asubK g k sc ρ i v N)) : ASN g k fn sc ρ (.Subscript o i pos) v σ N := by
  intro F A D s c hs hc Rm S E r
  show W g A F.own F.md (holding [c] (eval o F.env) >>= fun ov => holding [c, ov] (eval i F.env) >>= fun iv => standAt pos >>= fun _ => holding [c, ov, iv] (setItem ov iv c) >>= fun _ => release _ []) D σ s _
  refine W.no (W.bind (W.holding ((h F A D s hs Rm S E).mono fun oc D₁ σ₁ s₁ S₁ T₁ w => ?_)))
  obtain ⟨ov, r₁, h₁⟩ := w
  refine W.bind (W.holding ((h₁ F A D₁ s₁ hs Rm S₁ (E.step S T₁)).mono fun ic D₂ σ₂ s₂ S₂ T₂ w => ?_))
  obtain ⟨iv, r₂, h₂⟩ := w
  refine W.standAt (W.bind (W.holding ((h₂ A F.own D₂ s₂ oc ic c Rm S₂ (r₁.mono T₂.fle) r₂ ((r.mono T₁.fle).mono T₂.fle)).mono fun _ D₃ σ₃ s₃ S₃ T₃ q => ?_)))
  exact W.release_end S₃ ⟨ρ, ((E.step S T₁).step S₁ T₂).step S₂ T₃, q⟩

theorem VRs.set {vs : List V} {cs : List Value} (r : VRs g D vs cs) {v : V} {c : Value} (a : VR g D v c) : ∀ i : Nat, VRs g D (vs.set i v) (cs.set i c) := by
  induction vs generalizing cs with
  | nil => cases r; intro i; exact .nil
  | cons u vs ih =>
    cases r with
    | cons b r =>
      intro i
      cases i with
      | zero => exact .cons a r
      | succ i => exact .cons b (ih r i)
theorem seti_list {a : Addr} {vs : List V} {i : Int} {v : V} {Q : Sig → Prop} (hm : σ a = some (.list vs)) (h0 : 0 ≤ i) (h1 : i < vs.length) (hl : vs.length ≤ sizeLine) (q : Q (σ.set a (.list (vs.set i.toNat v)))) : SETI g k (.ref a) (.int i) v σ Q := by
  intro A own D s co ci cv Rm S r1 r2 r3
  replace r1 := r1.of; obtain ⟨_, rfl⟩ := r1; replace r2 := r2.of; obtain ⟨_, rfl⟩ := r2
  obtain ⟨cs, n, ho, r⟩ : X2 fun cs n => s.heap.get? a = some (lstO cs n) ∧ VRs g D vs cs := by
    obtain ⟨o, ho, x⟩ := S.mt _ _ hm
    obtain ⟨_, _, r, rfl⟩ := x.of; exact ⟨_, _, ho, r⟩
  have hz := sizeLine_eq
  have hcl := r.length
  have hs := Heap.SameBut.update s.heap a (Obj.mapSeq (·.setIfInBounds i.toNat cv))
  have hnew : (s.heap.update a (Obj.mapSeq (·.setIfInBounds i.toNat cv))).get? a = some (lstO (cs.set i.toNat cv) n) := by
    rw [Heap.get?_update_self _ ho rfl]
    simp [Obj.mapSeq]
  exact ki_setAt ho h0 (by lia) (by rw [List.size_toArray, hcl]; exact h1) ⟨D, _, S.upd (tk := s.toks) hm hs hnew (.list (r.set r3 _)), Step.upd hm hs hnew, q⟩
theorem seti_dI {a : Addr} {kvs : List (Int × V)} {i : Int} {v : V} {Q : Sig → Prop} (hm : σ a = some (.dI kvs)) (hl : kvs.length ≤ 1000) (q : Q (σ.set a (.dI (kput kvs i v)))) : SETI g k (.ref a) (.int i) v σ Q := by
  intro A own D s co ci cv Rm S r1 r2 r3
  obtain ⟨a', cs, e, hd, r, nd, hsys⟩ := (DI.m hm).at_ S r1
  replace r1 := r1.of; obtain ⟨_, rfl⟩ := r1; cases e; replace r2 := r2.of; obtain ⟨_, rfl⟩ := r2
  obtain ⟨cs', e1, r'⟩ := kv_put (k := i) r nd r3
  have hlz : ((kvs.map (·.1)).zip cs).length ≤ sizeLine := by
    rw [List.length_zip, List.length_map, sizeLine_eq]
    have := Nat.min_le_left kvs.length cs.length
    lia
  refine wpAny_setItem_pairs (knd := g.I) (isI i _) hd (fun h' hd' hs => ?_) hlz
  rw [e1] at hd'
  obtain ⟨es, n, ho, hk, hp, hn⟩ := dictOf_or hd'
  have S' := S.upd (tk := s.toks + 1) (m' := .dI (kput kvs i v)) hm hs ho (.dI hk hp r' (kput_nodup nd))
  exact ⟨D, _, S', Step.upd hm hs ho, q⟩
theorem seti_dS {a : Addr} {kvs : List (Str × V)} {i : Str} {v : V} {Q : Sig → Prop} (hm : σ a = some (.dS kvs)) (hl : kvs.length ≤ 1000) (q : Q (σ.set a (.dS (kput kvs i v)))) : SETI g k (.ref a) (.str i) v σ Q := by
  intro A own D s co ci cv Rm S r1 r2 r3
  obtain ⟨a', cs, e, hd, r, nd, hsys⟩ := (DS.m hm).at_ S r1
  replace r1 := r1.of; obtain ⟨_, rfl⟩ := r1; cases e; replace r2 := r2.of; obtain ⟨_, rfl⟩ := r2
  obtain ⟨cs', e1, r'⟩ := kv_put (k := i) r nd r3
  have hlz : ((kvs.map (·.1)).zip cs).length ≤ sizeLine := by
    rw [List.length_zip, List.length_map, sizeLine_eq]
    have := Nat.min_le_left kvs.length cs.length
    lia
  refine wpAny_setItem_pairs (knd := g.S) (isS i _) hd (fun h' hd' hs => ?_) hlz
  rw [e1] at hd'
  obtain ⟨es, n, ho, hk, hp, hn⟩ := dictOf_or hd'
  have S' := S.upd (tk := s.toks + 1) (m' := .dS (kput kvs i v)) hm hs ho (.dS hk hp r' (kput_nodup nd))
  exact ⟨D, _, S', Step.upd hm hs ho, q⟩

-- places read
noncomputable def ITEM (g : G) (k : Nat) (o i : V) (σ : Sig) (Q : V → Sig → Prop) : Prop :=
  ∀ A own D s co ci, Room k A → St g own D σ s → VR g D o co → VR g D i ci → (X2 fun T id => s.TypeIs co T ∧ typeLookup (.type T) "__getitem__" = pure (some (.builtin id))) ∧ W g A own No (getItem co ci) D σ s (PV g Q)
noncomputable abbrev subK2 (g : G) (k : Nat) (Q : V → Sig → Prop) (ov : V) : V → Sig → Prop := fun iv σ₂ => ITEM g k ov iv σ₂ Q
noncomputable abbrev subK1 (g : G) (k : Nat) (sc : Scope) (ρ : Rho) (i : Expr) (Q : V → Sig → Prop) : V → Sig → Prop := fun ov σ₁ => EV g k sc ρ i σ₁ (subK2 g k Q ov)
theorem ev_sub {o i : Expr} {pos : Pos} {Q : V → Sig → Prop} (h : EV g k sc ρ o σ (subK1 g k sc ρ i Q)) (hs : autoParam (isSlice i = false) Mine.sxU) : EV g k sc ρ (.Subscript o i pos) σ Q := by
  intro F A D s hsc Rm S E
  refine Subscript_ ?_
  refine wpAny_mono (h F A D s hsc Rm S E) (fun oc s₁ w => ?_) fun _ _ e => e
  obtain ⟨D₁, σ₁, S₁, T₁, ov, r₁, h₁⟩ := w
  refine wpAny_mono (h₁ F A D₁ s₁ hsc Rm S₁ (E.step S T₁)) (fun ic s₂ w => ?_) fun _ _ e => e
  obtain ⟨D₂, σ₂, S₂, T₂, iv, r₂, h₂⟩ := w
  obtain ⟨⟨T, id, hT, hl⟩, w⟩ := h₂ A F.own D₂ s₂ oc ic Rm S₂ (r₁.mono T₂.fle) r₂
  refine tail_any (ops := [oc, ic]) hT hl (wpAny_mono w (fun c s' ⟨D', σ', x, y, z⟩ => ⟨D', σ', x, (T₁.trans T₂).trans y, z⟩) fun _ _ e => e) ?_
  cases i <;> first | rfl | exact Bool.noConfusion hs
theorem item_list {o : V} {vs : List V} {i : Int} {v : V} {Q : V → Sig → Prop} (hl : LI σ o vs) (h0 : 0 ≤ i) (hv : vs[i.toNat]? = some v) (hb : i < 2 ^ 63) (q : Q v σ) : ITEM g k o (.int i) σ Q := by
  intro A own D s co ci Rm S r1 r2
  obtain ⟨a, cs, n, rfl, ho, r⟩ := hl.at_ S r1
  replace r2 := r2.of; obtain ⟨_, rfl⟩ := r2
  obtain ⟨c, hc, rv⟩ := r.get hv
  have L : s.heap.IsList a cs.toArray := ⟨_, ho, rfl, n, rfl⟩
  exact ⟨⟨"list", _, L.typeIs, slot_list_getitem.lookup⟩, W.quiet S (wpAny_getItem_list L h0 hb (by simpa using hc) ⟨s.toks, rfl, v, rv, q⟩)⟩
theorem item_list_last {o : V} {vs : List V} {i : Int} {v : V} {Q : V → Sig → Prop} (hl : LI σ o vs) (h0 : i < 0) (h1 : -(vs.length : Int) ≤ i) (hz : vs.length ≤ sizeLine) (hv : vs[(i + vs.length).toNat]? = some v) (q : Q v σ) : ITEM g k o (.int i) σ Q := by
  intro A own D s co ci Rm S r1 r2
  obtain ⟨a, cs, n, rfl, ho, r⟩ := hl.at_ S r1
  replace r2 := r2.of; obtain ⟨_, rfl⟩ := r2
  obtain ⟨c, hc, rv⟩ := r.get hv
  have L : s.heap.IsList a cs.toArray := ⟨_, ho, rfl, n, rfl⟩
  have hcl := r.length
  have := sizeLine_eq
  exact ⟨⟨"list", _, L.typeIs, slot_list_getitem.lookup⟩, W.quiet S (wpAny_getItem_list_neg L h0 (by rw [List.size_toArray, hcl]; exact h1) (by lia) (by rw [List.size_toArray, hcl]; simpa using hc) ⟨s.toks, rfl, v, rv, q⟩)⟩
theorem item_tup {vs : List V} {i : Int} {j : Nat} {v : V} {Q : V → Sig → Prop} (hj : seqIndex? i vs.length = some j) (hv : vs[j]? = some v) (hb : -(2 ^ 63) ≤ i ∧ i < 2 ^ 63) (q : Q v σ) : ITEM g k (.tup vs) (.int i) σ Q := by
  intro A own D s co ci Rm S r1 r2
  replace r2 := r2.of; obtain ⟨_, rfl⟩ := r2
  replace r1 := r1.of; obtain ⟨a, xs, n, e, r, rfl⟩ := r1
  obtain ⟨c, hc, rv⟩ := r.get hv
  have T : IsTup s.heap a xs.toArray := ⟨_, S.dat _ _ e, rfl, n, rfl⟩
  exact ⟨⟨"tuple", _, ⟨_, S.dat _ _ e, rfl⟩, PySem.F.slot_tuple_getitem.lookup⟩, W.quiet S (PyProof.Rows.getItem_tuple T hb.1 hb.2 (by rw [List.size_toArray, r.length]; exact hj) (by simpa using hc) ⟨s.toks, rfl, v, rv, q⟩)⟩
theorem item_dI {o : V} {kvs : List (Int × V)} {i : Int} {v : V} {Q : V → Sig → Prop} (hl : DI σ o kvs) (hv : kget kvs i = some v) (q : Q v σ) : ITEM g k o (.int i) σ Q := by
  intro A own D s co ci Rm S r1 r2
  obtain ⟨a, cs, rfl, hd, r, nd, _⟩ := hl.at_ S r1
  replace r2 := r2.of; obtain ⟨_, rfl⟩ := r2
  have kv := kv_get r i
  rw [hv] at kv
  obtain ⟨c, hc, rv⟩ := kv
  exact ⟨⟨"dict", _, hd.mapOf.typeIs, slot_dict_getitem.lookup⟩, W.quiet S (wpAny_getItem_of (knd := g.I) (isI i _) hd.mapOf hc ⟨_, rfl, v, rv, q⟩)⟩
theorem item_dS {o : V} {kvs : List (Str × V)} {i : Str} {v : V} {Q : V → Sig → Prop} (hl : DS σ o kvs) (hv : kget kvs i = some v) (q : Q v σ) : ITEM g k o (.str i) σ Q := by
  intro A own D s co ci Rm S r1 r2
  obtain ⟨a, cs, rfl, hd, r, nd, _⟩ := hl.at_ S r1
  replace r2 := r2.of; obtain ⟨_, rfl⟩ := r2
  have kv := kv_get r i
  rw [hv] at kv
  obtain ⟨c, hc, rv⟩ := kv
  exact ⟨⟨"dict", _, hd.mapOf.typeIs, slot_dict_getitem.lookup⟩, W.quiet S (wpAny_getItem_of (knd := g.S) (isS i _) hd.mapOf hc ⟨_, rfl, v, rv, q⟩)⟩
end
end Mine

end
section
set_option maxRecDepth 100000
set_option linter.unusedVariables false
namespace Mine
open PySem PySem.W PyProof.Rows PySem.Calls

section
variable {g : G} {k : Nat} {sc : Scope} {ρ : Rho} {σ : Sig} {A : Around} {own md : Addr → Prop} {D : Fz} {s : Shared} {N : Rho → Sig → Prop} {R : V → Sig → Prop}

-- slices
noncomputable def PART (g : G) (k : Nat) (sc : Scope) (ρ : Rho) (e : Option Expr) (σ : Sig) (Q : Option Int → Sig → Prop) : Prop :=
  ∀ F A D s, F.env.scope = sc → Room k A → St g F.own D σ s → ER g F ρ D s.heap → W g A F.own No (valueOrNone (evalOpt e F.env)) D σ s fun c D' σ' s' => ∃ i, IsPart c i ∧ Q i σ'
theorem part_none {Q : Option Int → Sig → Prop} (q : Q none σ) : PART g k sc ρ none σ Q := fun F A D s hs Rm S E => W.pure S ⟨none, .none, q⟩
theorem part_some {e : Expr} {Q : Option Int → Sig → Prop} (h : EV g k sc ρ e σ fun v σ' => ∃ i, v = .int i ∧ Q (some i) σ') : PART g k sc ρ (some e) σ Q :=
  fun F A D s hs Rm S E => (h F A D s hs Rm S E).mono fun c D' σ' s' S' T' ⟨v, r, i, e, q⟩ => by subst e; replace r := r.of; obtain ⟨_, rfl⟩ := r; exact ⟨some i, .int _ _, q⟩
noncomputable def SLI (g : G) (k : Nat) (o : V) (lo hi st : Option Int) (σ : Sig) (Q : V → Sig → Prop) : Prop :=
  ∀ A own D s co sl vl vu vk, Room k A → St g own D σ s → VR g D o co → s.heap.IsSliceOf sl vl vu vk → IsPart vl lo → IsPart vu hi → IsPart vk st →
    (X2 fun T id => s.TypeIs co T ∧ typeLookup (.type T) "__getitem__" = pure (some (.builtin id))) ∧ W g A own No (getItem co (.ref sl)) D σ s (PV g Q)
theorem ev_slice {o : Expr} {lo hi st : Option Expr} {sp pos : Pos} {Q : V → Sig → Prop}
    (h : EV g k sc ρ o σ fun ov σ₁ => PART g k sc ρ lo σ₁ fun a σ₂ => PART g k sc ρ hi σ₂ fun b σ₃ => PART g k sc ρ st σ₃ fun c σ₄ => SLI g k ov a b c σ₄ Q) : EV g k sc ρ (.Subscript o (.Slice lo hi st sp) pos) σ Q := by
  intro F A D s hsc Rm S E
  refine Subscript_ ?_
  refine wpAny_mono (h F A D s hsc Rm S E) (fun oc s₁ w => ?_) fun _ _ e => e
  obtain ⟨D₁, σ₁, S₁, T₁, ov, r₁, h₁⟩ := w
  have E₁ := E.step S T₁
  have key : W g A F.own No (eval (.Slice lo hi st sp) F.env) D₁ σ₁ s₁ fun ic D' σ' s' => ∃ sl a b c vl vu vk, ic = .ref sl ∧ s'.heap.IsSliceOf sl vl vu vk ∧ IsPart vl a ∧ IsPart vu b ∧ IsPart vk c ∧ SLI g k ov a b c σ' Q := by
    show W g A F.own No (valueOrNone (evalOpt lo F.env) >>= fun l => holding [l] (valueOrNone (evalOpt hi F.env)) >>= fun u => holding [l, u] (valueOrNone (evalOpt st F.env)) >>= fun t => newFields "slice" [l, u, t]) D₁ σ₁ s₁ _
    refine W.bind ((h₁ F A D₁ s₁ hsc Rm S₁ E₁).mono fun vl D₂ σ₂ s₂ S₂ T₂ w => ?_)
    obtain ⟨a, pa, h₂⟩ := w
    have E₂ := E₁.step S₁ T₂
    refine W.bind (W.holding ((h₂ F A D₂ s₂ hsc Rm S₂ E₂).mono fun vu D₃ σ₃ s₃ S₃ T₃ w => ?_))
    obtain ⟨b, pb, h₃⟩ := w
    have E₃ := E₂.step S₂ T₃
    refine W.bind (W.holding ((h₃ F A D₃ s₃ hsc Rm S₃ E₃).mono fun vk D₄ σ₄ s₄ S₄ T₄ w => ?_))
    obtain ⟨c, pc, h₄⟩ := w
    refine wpAny_newObj_type ?_ (by have := sizeLine_eq; show (3 : Nat) ≤ sizeLine + 2; lia)
    have kp : ∀ b o, s₄.heap.get? b = some o → (s₄.heap.push { cls := .type "slice", dict := none, data := .fields [vl, vu, vk].toArray }).get? b = some o := fun b o e => Heap.get?_push_of_some _ e
    exact ⟨D₄, σ₄, S₄.keeps (tk := s₄.toks) kp, Step.keeps kp, s₄.heap.objs.size, a, b, c, vl, vu, vk, rfl, ⟨_, Heap.get?_push_size _ rfl, rfl, rfl⟩, pa, pb, pc, h₄⟩
  refine wpAny_mono key (fun ic s₂ w => ?_) fun _ _ e => e
  obtain ⟨D₂, σ₂, S₂, T₂, sl, a, b, c, vl, vu, vk, e, hsl, pa, pb, pc, h₂⟩ := w
  subst e
  obtain ⟨⟨T, id, hT, hl⟩, w⟩ := h₂ A F.own D₂ s₂ oc sl vl vu vk Rm S₂ (r₁.mono T₂.fle) hsl pa pb pc
  have w' : wpAny (M g) A (getItem oc (.ref sl)) (fun c s' => WR g F.own No D σ s (PV g Q c) s') NoE s₂ := wpAny_mono w (fun c s' ⟨D', σ', x, y, z⟩ => ⟨D', σ', x, (T₁.trans T₂).trans y, z⟩) fun _ _ e => e
  cases st with
  | none => exact tail_any (ops := [.ref sl, oc]) hT hl w' rfl
  | some z => exact tail_any (ops := [oc, .ref sl]) hT hl w' rfl

/-- the pieces of a list -/
theorem W.sliceL {o : V} {vs ws : List V} {lo hi st : Option Int} {Q : Value → Fz → Sig → Shared → Prop} {co vl vu vk : Value} {sl : Addr} (S : St g own D σ s) (hl : LI σ o vs) (r1 : VR g D o co) (hs : s.heap.IsSliceOf sl vl vu vk) (pl : IsPart vl lo) (pu : IsPart vu hi) (ps : IsPart vk st)
    (hz : vs.length ≤ sizeLine) (h0 : st ≠ some 0) (hp : ∀ cs, VRs g D vs cs → VRs g D ws (slicePick cs.toArray lo hi st).toList) (q : ∀ a D' s', St g own D' σ s' → VR g D' (.lst ws) (.ref a) → Q (.ref a) D' σ s') :
    W g A own No (getItem co (.ref sl)) D σ s Q := by
  obtain ⟨a, cs, n, rfl, ho, r⟩ := hl.at_ S r1
  have L : s.heap.IsList a cs.toArray := ⟨_, ho, rfl, n, rfl⟩
  refine wpAny_getItem_list_slice L hs pl pu ps h0 ?_ (by rw [List.size_toArray, r.length]; exact hz)
  have kp : ∀ b o, s.heap.get? b = some o → (s.heap.push (lstO (slicePick cs.toArray lo hi st).toList 0)).get? b = some o := fun b o e => Heap.get?_push_of_some _ e
  have S' := S.newD (tk := s.toks) kp (get?_size _) S.ne_sys (Heap.get?_push_size _ rfl)
  have e : ({ cls := .type "list", data := .seq (slicePick cs.toArray lo hi st) } : Obj) = lstO (slicePick cs.toArray lo hi st).toList 0 := by simp
  rw [e]
  exact ⟨_, σ, S', Step.newD S kp (get?_size _), q _ _ _ S' (.lst (Fz.put_self ..) ((hp cs r).mono (Fz.put_le (S.D_none (get?_size _)))))⟩
theorem W.sliceLM {o : V} {vs ws : List V} {lo hi st : Option Int} {Q : Value → Fz → Sig → Shared → Prop} {co vl vu vk : Value} {sl : Addr} (S : St g own D σ s) (hl : LI σ o vs) (r1 : VR g D o co) (hs : s.heap.IsSliceOf sl vl vu vk) (pl : IsPart vl lo) (pu : IsPart vu hi) (ps : IsPart vk st)
    (hz : vs.length ≤ sizeLine) (h0 : st ≠ some 0) (hp : ∀ cs, VRs g D vs cs → VRs g D ws (slicePick cs.toArray lo hi st).toList) (q : ∀ a s', σ a = none → St g own D (σ.set a (.list ws)) s' → Q (.ref a) D (σ.set a (.list ws)) s') :
    W g A own No (getItem co (.ref sl)) D σ s Q := by
  obtain ⟨a, cs, n, rfl, ho, r⟩ := hl.at_ S r1
  have L : s.heap.IsList a cs.toArray := ⟨_, ho, rfl, n, rfl⟩
  refine wpAny_getItem_list_slice L hs pl pu ps h0 ?_ (by rw [List.size_toArray, r.length]; exact hz)
  have kp : ∀ b o, s.heap.get? b = some o → (s.heap.push (lstO (slicePick cs.toArray lo hi st).toList 0)).get? b = some o := fun b o e => Heap.get?_push_of_some _ e
  have S' := S.newM (tk := s.toks) kp (get?_size _) S.ne_sys (Heap.get?_push_size _ rfl) (.list (n := 0) (hp cs r))
  have e : ({ cls := .type "list", data := .seq (slicePick cs.toArray lo hi st) } : Obj) = lstO (slicePick cs.toArray lo hi st).toList 0 := by simp
  rw [e]
  exact ⟨_, _, S', Step.newM kp (get?_size _), q _ _ (S.σ_none (get?_size _)) S'⟩
theorem getitem_list {o : V} {vs : List V} {co : Value} (S : St g own D σ s) (hl : LI σ o vs) (r1 : VR g D o co) : X2 fun T id => s.TypeIs co T ∧ typeLookup (.type T) "__getitem__" = pure (some (.builtin id)) := by
  obtain ⟨a, cs, n, rfl, ho, r⟩ := hl.at_ S r1
  have L : s.heap.IsList a cs.toArray := ⟨_, ho, rfl, n, rfl⟩
  exact ⟨"list", _, L.typeIs, slot_list_getitem.lookup⟩
/-- xs[:b] -/
theorem sli_upto {o : V} {vs : List V} {b : Int} {Q : V → Sig → Prop} (hl : LI σ o vs) (hz : vs.length ≤ sizeLine) (h0 : 0 ≤ b) (q : Q (.lst (vs.take b.toNat)) σ) : SLI g k o none (some b) none σ Q := by
  intro A own D s co sl vl vu vk Rm S r1 hs pl pu pk
  refine ⟨getitem_list S hl r1, W.sliceL (ws := vs.take b.toNat) S hl r1 hs pl pu pk hz (by intro h; cases h) (fun cs r => ?_) fun a D' s' S' r' => ⟨_, r', q⟩⟩
  obtain ⟨n, rfl⟩ := Int.eq_ofNat_of_zero_le h0
  rw [slicePick_upto']
  simpa using r.take n
theorem sli_uptoM {o : V} {vs : List V} {b : Int} {Q : V → Sig → Prop} (hl : LI σ o vs) (hz : vs.length ≤ sizeLine) (h0 : 0 ≤ b) (q : ∀ a, σ a = none → Q (.ref a) (σ.set a (.list (vs.take b.toNat)))) : SLI g k o none (some b) none σ Q := by
  intro A own D s co sl vl vu vk Rm S r1 hs pl pu pk
  refine ⟨getitem_list S hl r1, W.sliceLM (ws := vs.take b.toNat) S hl r1 hs pl pu pk hz (by intro h; cases h) (fun cs r => ?_) fun a s' ha S' => ⟨_, .ref a, q a ha⟩⟩
  obtain ⟨n, rfl⟩ := Int.eq_ofNat_of_zero_le h0
  rw [slicePick_upto']
  simpa using r.take n
/-- xs[a:] -/
theorem sli_from {o : V} {vs : List V} {a : Int} {Q : V → Sig → Prop} (hl : LI σ o vs) (hz : vs.length ≤ sizeLine) (h0 : 0 ≤ a) (q : Q (.lst (vs.drop a.toNat)) σ) : SLI g k o (some a) none none σ Q := by
  intro A own D s co sl vl vu vk Rm S r1 hs pl pu pk
  refine ⟨getitem_list S hl r1, W.sliceL (ws := vs.drop a.toNat) S hl r1 hs pl pu pk hz (by intro h; cases h) (fun cs r => ?_) fun a D' s' S' r' => ⟨_, r', q⟩⟩
  obtain ⟨n, rfl⟩ := Int.eq_ofNat_of_zero_le h0
  rw [slicePick_from']
  simpa using r.drop n
theorem sli_rev {o : V} {vs : List V} {Q : V → Sig → Prop} (hl : LI σ o vs) (hz : vs.length ≤ sizeLine) (q : Q (.lst vs.reverse) σ) : SLI g k o none none (some (-1)) σ Q := by
  intro A own D s co sl vl vu vk Rm S r1 hs pl pu pk
  refine ⟨getitem_list S hl r1, W.sliceL (ws := vs.reverse) S hl r1 hs pl pu pk hz (by intro h; cases h) (fun cs r => ?_) fun a D' s' S' r' => ⟨_, r', q⟩⟩
  rw [krv_pick]
  simpa using r.reverse

/-- t[:-1] of a tuple -/
theorem adjust_last (n : Nat) (hn : 1 ≤ n) : Builtin.Slice.sliceAdjust none (some (-1)) 1 (n : Int) = (0, (n : Int) - 1) := by
  unfold Builtin.Slice.sliceAdjust
  have h1 : ¬ ((1 : Int) < 0) := by lia
  have h2 : ((-1 : Int) < 0) := by lia
  simp only [h1, h2, if_false, if_true]
  congr 1
  lia
theorem places_last (n : Nat) (hn : 1 ≤ n) : Builtin.Slice.slicePlaces 0 ((n : Int) - 1) 1 = n - 1 := by
  unfold Builtin.Slice.slicePlaces
  have h1 : (1 : Int) > 0 := by lia
  simp only [h1, if_true, Int.ediv_one]
  split <;> lia
theorem sliceApplied_last {E : Value → Shared → Prop} {sl : Addr} {n : Nat} {u : Tok} {Q : Int × Int × Nat → Shared → Prop} (hs : s.heap.IsSliceOf sl .none (.int (-1) u) .none) (hn : 1 ≤ n) (h : Q (0, 1, n - 1) s) :
    wpAny (M g) A (Builtin.Slice.sliceApplied (.ref sl) (pure (n : Int))) Q E s := by
  obtain ⟨os, hos, hcs, hds⟩ := id hs
  unfold Builtin.Slice.sliceApplied Builtin.Slice.sliceFields
  refine wpAny_bind (wpAny_bind (wpAny_field hos hds (x := .none) rfl (wpAny_bind (wpAny_field hos hds (x := .int (-1) u) rfl (wpAny_bind (wpAny_field hos hds (x := .none) rfl (wpAny_pure ?_)))))))
  refine wpAny_bind (slicePart_none ?_)
  show wpAny _ _ (if ((1 : Int) == 0) = true then _ else _) _ _ s
  rw [if_neg (by decide)]
  refine wpAny_bind (slicePart_none (wpAny_bind (slicePart_int (wpAny_bind (wpAny_pure ?_)))))
  show wpAny _ _ (match Builtin.Slice.sliceAdjust none (some (-1)) 1 (n : Int) with | (lo, hi) => pure (lo, (1 : Int), Builtin.Slice.slicePlaces lo hi 1)) _ _ s
  rw [adjust_last n hn]
  show wpAny _ _ (pure ((0 : Int), (1 : Int), Builtin.Slice.slicePlaces 0 ((n : Int) - 1) 1)) _ _ s
  rw [places_last n hn]
  exact wpAny_pure h
theorem pick_last (xs : Array Value) : ((List.range (xs.size - 1)).filterMap fun (k : Nat) => xs[((0 : Int) + (k : Int) * 1).toNat]?).toArray = (xs.toList.take (xs.size - 1)).toArray := by
  have e : (fun (k : Nat) => xs[((0 : Int) + (k : Int) * 1).toNat]?) = fun k => xs[0 + k]? := by
    funext k
    have : ((0 : Int) + (k : Int) * 1).toNat = 0 + k := by lia
    rw [this]
  rw [e]
  have := pick_run xs 0 (xs.size - 1)
  rw [List.filterMap_map] at this
  have e2 : ((fun x => xs[x]?) ∘ fun x => 0 + x) = fun k => xs[0 + k]? := rfl
  rw [e2] at this
  rw [this, List.drop_zero]
theorem getItem_tuple_last {E : Value → Shared → Prop} {t sl : Addr} {items : Array Value} {u : Tok} {Q : Value → Shared → Prop} (ht : IsTup s.heap t items) (hs : s.heap.IsSliceOf sl .none (.int (-1) u) .none) (hn : 1 ≤ items.size)
    (h : Q (.ref s.heap.objs.size) { s with heap := s.heap.push { cls := .type "tuple", data := .seq (items.toList.take (items.size - 1)).toArray } })
    (hsz : items.size ≤ sizeLine) : wpAny (M g) A (getItem (.ref t) (.ref sl)) Q E s := by
  have hdrop : sizeOk (.seq (items.toList.take (items.size - 1)).toArray) := by
    show (items.toList.take (items.size - 1)).toArray.size ≤ sizeLine
    rw [List.size_toArray, List.length_take, Array.length_toList]
    lia
  obtain ⟨os, hos, hcs, hds⟩ := id hs
  have hTs : s.TypeIs (.ref sl) "slice" := ⟨os, hos, hcs⟩
  unfold getItem
  try with_reducible refine wpAny_holding ?_
  first | refine wpAny_bind (wpAny_pure ?_) | skip
  refine wpAny_bind (wpAny_sequenceKey ht.typeIs (by decide) ?_)
  refine wpAny_bind (wpAny_callSpecial?_slot (name := Str.ofString "__getitem__") ht.typeIs PySem.F.slot_tuple_getitem
    (wpAny_call_entry PySem.F.slot_tuple_getitem ht.typeIs PySem.F.entry_tuple_getitem ?_ (args_tuple_getitem _ _)))
  show wpAny _ _ (Builtin.Tuple.tupleItemsOf (.ref t) >>= _) _ _ s
  refine wpAny_bind (tupleItemsOf_ ht ?_)
  refine wpAny_bind (wpAny_typeOf hTs ?_)
  rw [if_pos (by decide)]
  refine wpAny_bind (wpAny_mono (sliceApplied_last (E := E) hs hn (Q := fun r s' => r = (0, 1, items.size - 1) ∧ s' = s) ⟨rfl, rfl⟩) (fun r s' h => ?_) fun _ _ e => e)
  obtain ⟨rfl, rfl⟩ := h
  have hno : ¬ (((0 : Int) == 0 && (1 : Int) == 1 && (items.size - 1) == items.size) = true) := by
    have : ((items.size - 1) == items.size) = false := by rw [beq_eq_false_iff_ne]; lia
    rw [this]; simp
  show wpAny _ _ (if ((0 : Int) == 0 && (1 : Int) == 1 && (items.size - 1) == items.size) = true then _ else _) _ _ s'
  rw [if_neg hno, pick_last items]
  first
    | exact wpAny_bind (m := Builtin.Tuple.tupleExact _) (wpAny_newObj_type (wpAny_pure ⟨_, rfl, wpAny_pure h⟩) hdrop)
    | exact wpAny_bind (m := Builtin.Tuple.tupleExact _) (wpAny_newObj_type (wpAny_bind (wpAny_pure (wpAny_pure ⟨_, rfl, wpAny_pure h⟩))) hdrop)
    | exact wpAny_bind (wpAny_bind (m := Builtin.Tuple.tupleExact _) (wpAny_newObj_type (wpAny_pure (wpAny_pure ⟨_, rfl, wpAny_pure h⟩)) hdrop))
    | exact wpAny_bind (wpAny_bind (m := Builtin.Tuple.tupleExact _) (wpAny_newObj_type (wpAny_pure ⟨_, rfl, wpAny_pure h⟩) hdrop))
theorem sli_tup_last {vs : List V} {Q : V → Sig → Prop} (hz : vs.length ≤ sizeLine) (hn : 1 ≤ vs.length) (q : Q (.tup (vs.take (vs.length - 1))) σ) : SLI g k (.tup vs) none (some (-1)) none σ Q := by
  intro A own D s co sl vl vu vk Rm S r1 hs pl pu pk
  replace r1 := r1.of; obtain ⟨a, cs, n, e, r, rfl⟩ := r1
  have L : IsTup s.heap a cs.toArray := ⟨_, S.dat _ _ e, rfl, n, rfl⟩
  cases pl; cases pk; cases pu
  refine ⟨⟨"tuple", _, L.typeIs, PySem.F.slot_tuple_getitem.lookup⟩, ?_⟩
  refine getItem_tuple_last L hs (by rw [List.size_toArray, r.length]; exact hn) ?_ (by rw [List.size_toArray, r.length]; exact hz)
  have kp : ∀ b o, s.heap.get? b = some o → (s.heap.push (tupO (cs.take (cs.length - 1)) 0)).get? b = some o := fun b o e => Heap.get?_push_of_some _ e
  have S' := S.newD (tk := s.toks) kp (get?_size _) S.ne_sys (Heap.get?_push_size _ rfl)
  exact ⟨_, σ, S', Step.newD S kp (get?_size _), _, .tup (Fz.put_self ..) (by rw [← r.length]; exact (r.take _).mono (Fz.put_le (S.D_none (get?_size _)))), q⟩
end
end Mine

end
section
set_option maxRecDepth 100000
set_option linter.unusedVariables false
namespace Mine
open PySem PySem.W PyProof.Rows PySem.Calls

section
variable {g : G} {k : Nat} {sc : Scope} {ρ : Rho} {σ : Sig} {A : Around} {own md wr : Addr → Prop} {D : Fz} {s : Shared} {N : Rho → Sig → Prop} {R : V → Sig → Prop}

theorem St.turnWr (S : St g own D σ s) {h' : Heap} {tk : Nat} (hw : ∀ b, wr b → own b) (kp : ∀ b o, ¬ wr b → s.heap.get? b = some o → h'.get? b = some o) (hx : ∀ b, wr b → ∃ o, h'.get? b = some o) :
    St g own D σ { s with heap := h', toks := tk } :=
  ⟨fun b o e => kp b o (fun q => S.bO b o e (hw b q)) (S.base b o e), fun b o e => kp b o (fun q => S.dO b o e (hw b q)) (S.dat b o e), fun b m e => let ⟨o, h, r⟩ := S.mt b m e; ⟨o, kp b o (fun q => S.σO b m e (hw b q)) h, r⟩,
    S.dσ, S.dO, S.σO, S.bσ, S.bO, fun b hb => by
      by_cases q : wr b
      · exact hx b q
      · obtain ⟨o', e⟩ := S.oex b hb; exact ⟨o', kp b o' q e⟩, S.dsys, S.ssys, S.gens, S.os⟩
theorem Step.turnWr {h' : Heap} {tk : Nat} (kp : ∀ b o, ¬ wr b → s.heap.get? b = some o → h'.get? b = some o) (hx : ∀ b, wr b → ∃ o, h'.get? b = some o) : Step wr D σ s D σ { s with heap := h', toks := tk } :=
  ⟨.refl _, fun _ _ e => .inl e, fun _ _ e => .inl ⟨_, e⟩, fun b o e _ h => kp b o h e, fun b o' e => by
    by_cases q : wr b
    · exact hx b q
    · exact ⟨o', kp b o' q e⟩⟩

/-- an iterator over values; wr: its own objects; t: the loop's target -/
structure Itr (g : G) (A : Around) (t : Expr) (it : Value) (wr : Addr → Prop) (D0 : Fz) (vs : List V) (IS : Nat → Heap → Prop) : Prop where
  frame : ∀ i h h', IS i h → (∀ b o, (wr b ∨ ∃ o', D0 b = some o') → h.get? b = some o → h'.get? b = some o) → IS i h'
  item : ∀ i v own D σ s, vs[i]? = some v → Fle D0 D → (∀ b, wr b → own b) → St g own D σ s → IS i s.heap →
    W g A own wr (pyNext it) D σ s fun r D₁ σ₁ s₁ => σ₁ = σ ∧ ∃ c, r = some c ∧ W g A own wr (letOwnedTupleGo t it c) D₁ σ s₁ fun _ D₂ σ₂ s₂ => σ₂ = σ ∧ IS (i + 1) s₂.heap ∧ VR g D₂ v c
  done : ∀ s, IS vs.length s.heap → wpAny (M g) A (pyNext it) (fun r s' => r = none ∧ X2 fun h' tk => s' = { s with heap := h', toks := tk } ∧ ∀ b o, ¬ wr b → s.heap.get? b = some o → h'.get? b = some o) NoE s
  self : ∀ s (Q : Value → Shared → Prop) E, IS 0 s.heap → Q it s → wpAny (M g) A (pyIter it) Q E s

noncomputable def PlainIt (o : Obj) : Prop := ∃ n, o.cls = .type n ∧ (n = "list_iterator" ∨ n = "tuple_iterator" ∨ n = "dict_keyiterator" ∨ n = "range_iterator")
theorem letGo_plain {t : Expr} {I : Addr} {o : Obj} {v : Value} {Q : Unit → Shared → Prop} {E : Value → Shared → Prop} (ho : s.heap.get? I = some o) (hp : PlainIt o) (h : Q () s) : wpAny (M g) A (letOwnedTupleGo t (.ref I) v) Q E s := by
  obtain ⟨n, hc, hn⟩ := hp
  have key : ∀ a, wpAny (M g) A (load I >>= fun o => match o.cls, o.data with
      | .type n, .fields vs => if ["enumerate", "zip", "dict_itemiterator", "dict_reverseitemiterator", "odict_iterator", "itertools.zip_longest", "itertools.pairwise"].contains n && vs[0]? == some (rawInt a) then (do rule "for.unpacks-the-owned-tuple"; updateField I 0 .none) else pure ()
      | _, _ => pure ()) Q E s := fun a => by
    refine wpAny_bind (wpAny_load ho ?_)
    rw [hc]
    cases o.data with
    | fields vs => rcases hn with rfl | rfl | rfl | rfl <;> exact wpAny_pure h
    | _ => exact wpAny_pure h
  unfold letOwnedTupleGo
  cases t <;> first
    | exact wpAny_pure h
    | (cases v <;> first
        | exact wpAny_pure h
        | exact key _)

theorem Itr.of_walks {t : Expr} {I : Addr} {fp : List Addr} {n : Nat} {P : Nat → Value → Prop} {St0 : Nat → Heap → Prop} {vs : List V} {D0 : Fz} (Wk : Walks g.prog g.w A I fp [I] n P St0) (hn : n = vs.length)
    (hP : ∀ i v c, P i c → vs[i]? = some v → VR g D0 v c) (hfp : ∀ b ∈ fp, b = I ∨ ∃ o, D0 b = some o) (ex : ∀ i h, St0 i h → ∃ o, h.get? I = some o ∧ PlainIt o) : Itr g A t (.ref I) (fun b => b = I) D0 vs St0 where
  frame := fun i h h' st kp => Wk.frame i h h' st fun b hb o e => kp b o (by rcases hfp b hb with q | q; exact .inl q; exact .inr q) e
  item := fun i v own D σ s hv hD hw S st => by
    have hi : i < n := by rw [hn]; exact (List.getElem?_eq_some_iff.mp hv).1
    refine Wk.item i s _ _ hi st fun c h' tk hc st' kp => ?_
    have kp' : ∀ b o, ¬ (b = I) → s.heap.get? b = some o → h'.get? b = some o := fun b o q e => kp b o (by simpa using q) e
    obtain ⟨o, ho, hpl⟩ := ex _ _ st'
    have hx : ∀ b, b = I → ∃ o, h'.get? b = some o := fun b q => ⟨o, q ▸ ho⟩
    have S' := S.turnWr (tk := tk) hw kp' hx
    refine ⟨D, σ, S', Step.turnWr kp' hx, rfl, c, rfl, ?_⟩
    exact letGo_plain ho hpl ⟨D, σ, S', .refl, rfl, st', (hP i v c hc hv).mono hD⟩
  done := fun s st => Wk.done s _ _ (hn ▸ st) fun h' tk kp => ⟨rfl, h', tk, rfl, fun b o q e => kp b o (by simpa using q) e⟩
  self := fun s Q E st q => Wk.self 0 s Q E st q

theorem St.turnOff (S : St g own D σ s) {h' : Heap} {tk : Nat} (kp : ∀ b o, ¬ wr b → s.heap.get? b = some o → h'.get? b = some o) (hb : ∀ b, wr b → g.hb.get? b = none ∧ D b = none ∧ σ b = none ∧ ¬ own b) :
    St g own D σ { s with heap := h', toks := tk } :=
  ⟨fun b o e => kp b o (fun q => by rw [(hb b q).1] at e; cases e) (S.base b o e), fun b o e => kp b o (fun q => by rw [(hb b q).2.1] at e; cases e) (S.dat b o e),
    fun b m e => let ⟨o, h, r⟩ := S.mt b m e; ⟨o, kp b o (fun q => by rw [(hb b q).2.2.1] at e; cases e) h, r⟩, S.dσ, S.dO, S.σO, S.bσ, S.bO, fun b h => let ⟨o, e⟩ := S.oex b h; ⟨o, kp b o (fun q => (hb b q).2.2.2 h) e⟩, S.dsys, S.ssys, S.gens, S.os⟩

/-- an iterable expression, made an iterator -/
noncomputable def ITQ (g : G) (A : Around) (t : Expr) (h0 : Heap) (Q : List V → Sig → Prop) (it : Value) (D₂ : Fz) (σ₂ : Sig) (s₂ : Shared) : Prop :=
  X3 fun (wr : Addr → Prop) (IS : Nat → Heap → Prop) (vs : List V) => A4 (Q vs σ₂) (Itr g A t it wr D₂ vs IS) (IS 0 s₂.heap) (∀ b, wr b → h0.get? b = none ∧ D₂ b = none ∧ σ₂ b = none ∧ ∃ o, s₂.heap.get? b = some o)
noncomputable def IT (g : G) (k : Nat) (sc : Scope) (ρ : Rho) (t iter : Expr) (σ : Sig) (Q : List V → Sig → Prop) : Prop :=
  ∀ F A D s, F.env.scope = sc → Room k A → St g F.own D σ s → ER g F ρ D s.heap → W g A F.own No (eval iter F.env) D σ s fun c D₁ σ₁ s₁ => W g A F.own No (pyIter c) D₁ σ₁ s₁ (ITQ g A t s.heap Q)

theorem IT.mono {t iter : Expr} {Q Q' : List V → Sig → Prop} (h : IT g k sc ρ t iter σ Q) (q : ∀ vs σ', Q vs σ' → Q' vs σ') : IT g k sc ρ t iter σ Q' := fun F A D s a b c d =>
  (h F A D s a b c d).mono fun c D' σ' s' _ _ w => w.mono fun it D'' σ'' s'' _ _ w => by
    obtain ⟨wr, IS, vs, x, y, z, u⟩ := w
    exact ⟨wr, IS, vs, q _ _ x, y, z, u⟩
noncomputable def withOwn (F : Fm) (wr : Addr → Prop) : Fm := { F with own := fun b => F.own b ∨ wr b }
theorem ER.more {F : Fm} {h : Heap} (E : ER g F ρ D h) (wr : Addr → Prop) : ER g (withOwn F wr) ρ D h :=
  { kind := E.kind, glb := E.glb, blt := E.blt, ownL := .inl E.ownL, mdL := E.mdL, sub := fun b q => .inl (E.sub b q), ndb := E.ndb, ncd := E.ncd, locs := E.locs, cls := E.cls, oc := E.oc, ocl := fun x ca q => ⟨.inl (E.ocl x ca q).1, (E.ocl x ca q).2⟩, inj := E.inj }
theorem ER.less {F : Fm} {wr : Addr → Prop} {ρ' : Rho} {D' : Fz} {h h' : Heap} (E : ER g F ρ D h) (E' : ER g (withOwn F wr) ρ' D' h') : ER g F ρ' D' h' :=
  { kind := E.kind, glb := E.glb, blt := E.blt, ownL := E.ownL, mdL := E.mdL, sub := E.sub, ndb := E.ndb, ncd := E.ncd, locs := E'.locs, cls := E'.cls, oc := E'.oc, ocl := E.ocl, inj := E.inj }
theorem St.more (S : St g own D σ s) (hb : ∀ b, wr b → g.hb.get? b = none ∧ D b = none ∧ σ b = none ∧ ∃ o, s.heap.get? b = some o) : St g (fun b => own b ∨ wr b) D σ s :=
  ⟨S.base, S.dat, S.mt, S.dσ, fun b o e q => q.elim (S.dO b o e) (fun q => by rw [(hb b q).2.1] at e; cases e), fun b m e q => q.elim (S.σO b m e) (fun q => by rw [(hb b q).2.2.1] at e; cases e), S.bσ,
    fun b o e q => q.elim (S.bO b o e) (fun q => by rw [(hb b q).1] at e; cases e), fun b q => q.elim (S.oex b) (fun q => (hb b q).2.2.2), S.dsys, S.ssys, S.gens, S.os⟩
theorem base_none (S : St g own D σ s) {b : Addr} (h : s.heap.get? b = none) : g.hb.get? b = none := by
  cases q : g.hb.get? b with
  | none => rfl
  | some o => rw [S.base b o q] at h; cases h

theorem drop_cons {α : Type} {vs : List α} {i : Nat} {v : α} {rest : List α} (h : vs.drop i = v :: rest) : vs[i]? = some v ∧ i < vs.length ∧ vs.drop (i + 1) = rest := by
  have hv : vs[i]? = some v := by have := congrArg (fun x : List α => x[0]?) h; simpa using this
  exact ⟨hv, (List.getElem?_eq_some_iff.mp hv).1, by simpa [List.drop_drop, Nat.add_comm] using congrArg (List.drop 1) h⟩
/-- what a loop holds; what a turn leaves -/
inductive FInv (g : G) (F : Fm) (wr : Addr → Prop) (IS : Nat → Heap → Prop) (vs : List V) (P : List V → Rho → Sig → Prop) (D0 : Fz) (σ0 : Sig) (s0 : Shared) (n : Nat) (s' : Shared) : Prop
  | mk (D' : Fz) (σ' : Sig) (ρ' : Rho) (i : Nat) (rest : List V) : St g (withOwn F wr).own D' σ' s' → Step (fun b => F.md b ∨ wr b) D0 σ0 s0 D' σ' s' → ER g (withOwn F wr) ρ' D' s'.heap → IS i s'.heap → vs.drop i = rest → i ≤ vs.length → P rest ρ' σ' → n = rest.length → FInv g F wr IS vs P D0 σ0 s0 n s'
inductive FPost (g : G) (F : Fm) (wr : Addr → Prop) (st : Heap → Prop) (N : Rho → Sig → Prop) (R : V → Sig → Prop) (D0 : Fz) (σ0 : Sig) (s0 : Shared) (f : Flow) (s' : Shared) : Prop
  | mk (D' : Fz) (σ' : Sig) : St g (withOwn F wr).own D' σ' s' → Step (fun b => F.md b ∨ wr b) D0 σ0 s0 D' σ' s' → st s'.heap → XP g (withOwn F wr) N R f D' σ' s' → FPost g F wr st N R D0 σ0 s0 f s'
theorem for_item {F : Fm} {t : Expr} {it : Value} {vs : List V} {IS : Nat → Heap → Prop} {i : Nat} {v : V} {body : List Stmt} {Dv Db : Fz} {h0 : Heap} {ρ0 : Rho} {Q : Option Value → Shared → Prop}
    (hs : F.env.scope = sc) (hc : CellsOwn F) (Rm : Room k A) (hv : vs[i]? = some v) (I : Itr g A t it wr Dv vs IS) (hDD : Fle Dv D) (st : IS i s.heap) (hw : ∀ b, wr b → ¬ F.own b) (E0 : ER g F ρ0 Db h0) (S : St g (withOwn F wr).own D σ s) (E : ER g (withOwn F wr) ρ D s.heap)
    (step : ASN g k true sc ρ t v σ fun ρ₁ σ₁ => EX g k sc ρ₁ body σ₁ N R)
    (q : ∀ c s', wpAny (M g) A (letOwnedTupleGo t it c) (fun _ s₁ => wpAny (M g) A (assign t F.env c) (fun _ s₂ => wpAny (M g) A (execs body F.env) (FPost g F wr (IS (i + 1)) N R D σ s) NoE s₂) NoE s₁) NoE s' → Q (some c) s') : wpAny (M g) A (pyNext it) Q NoE s := by
  refine wpAny_mono (I.item i v _ D σ s hv hDD (fun b q => .inr q) S st) (fun r s₃ w => ?_) fun _ _ e => e
  obtain ⟨D₃, σ₃, S₃, T₃, e, c, hr, h₃⟩ := w
  cases e
  cases hr
  refine q c s₃ (wpAny_mono h₃ (fun _ s₄ w => ?_) fun _ _ e => e)
  obtain ⟨D₄, σ₄, S₄, T₄, e, st4, rv⟩ := w
  cases e
  have Ti := T₃.trans T₄
  have E₄ : ER g (withOwn F wr) ρ D₄ s₄.heap := ((E0.less E).keeps Ti.fle fun b o hb e => Ti.keep b o e (S.σ_own (.inl hb)) fun q => hw b q hb).more wr
  refine wpAny_mono (step (withOwn F wr) A D₄ s₄ c hs (fun _ => hc) Rm S₄ E₄ rv) (fun _ s₅ w => ?_) fun _ _ e => e
  obtain ⟨D₅, σ₅, S₅, T₅, ρ₅, E₅, x₅⟩ := w
  refine wpAny_mono (x₅ (withOwn F wr) A D₅ s₅ hs hc Rm S₅ E₅) (fun f s₆ w => ?_) fun _ _ e => e
  obtain ⟨D₆, σ₆, S₆, T₆, x₆⟩ := w
  have Tb : Step F.md D₄ σ s₄ D₆ σ₆ s₆ := T₅.trans T₆
  refine ⟨D₆, σ₆, S₆, (Ti.own fun b q => .inr q).trans (Tb.own fun b q => .inl q), I.frame _ _ _ st4 fun b o hb e => ?_, x₆⟩
  rcases hb with q | ⟨o', q⟩
  · exact Tb.keep b o e (S₄.σ_own (.inr q)) fun m => hw b q (E0.sub b m)
  · have q' := (hDD.trans Ti.fle) b o' q
    cases e.symm.trans (S₄.dat b o' q')
    exact S₆.dat b _ (Tb.fle b _ q')
theorem Step.less {own own' : Addr → Prop} {D' : Fz} {σ' : Sig} {s' : Shared} (T : Step own D σ s D' σ' s') (h : ∀ b o, s.heap.get? b = some o → own b → own' b) : Step own' D σ s D' σ' s' :=
  ⟨T.fle, T.fresh, T.mfresh, fun b o e h1 h2 => T.keep b o e h1 fun q => h2 (h b o e q), T.live⟩
/-- for t in iter: body -/
theorem ex_for {t iter : Expr} {body : List Stmt} {pos : Pos} {P : List V → Rho → Sig → Prop} (hi : IT g k sc ρ t iter σ fun vs σ₁ => P vs ρ σ₁)
    (step : ∀ v rest ρ σ, P (v :: rest) ρ σ → ASN g k true sc ρ t v σ (exK g k sc body (P rest) R)) (fin : ∀ ρ σ, P [] ρ σ → N ρ σ)
    (hset : autoParam (∀ env x, foldedSetIterable iter env x = pure x) Mine.sxI) : EX1 g k sc ρ (.For t iter body [] pos) σ N R := by
  intro F A D s hs hc Rm S E
  refine wpAny_For ?_ (hset _)
  refine wpAny_mono (hi F A D s hs Rm S E) (fun c s₁ w => ?_) fun _ _ e => e.elim
  obtain ⟨D₁, σ₁, S₁, T₁, h₁⟩ := w
  refine wpAny_mono h₁ (fun it s₂ w => ?_) fun _ _ e => e.elim
  obtain ⟨D₂, σ₂, S₂, T₂, wr, IS, vs, hP, I, st, hw⟩ := w
  have T₀ := T₁.trans T₂
  have E₂ := (E.step S T₁).step S₁ T₂
  have hwO : ∀ b, wr b → ¬ F.own b := fun b q => S.own_none (hw b q).1
  have no : ∀ {b o}, s.heap.get? b = some o → ¬ wr b := fun {b o} e q => nomatch e.symm.trans (hw b q).1
  have fromS : ∀ {D3 : Fz} {σ3 : Sig} {s3 : Shared}, Step (fun b => F.md b ∨ wr b) D₂ σ₂ s₂ D3 σ3 s3 → Step F.md D σ s D3 σ3 s3 := fun T3 =>
    ((T₀.own (own' := fun b => F.md b ∨ wr b) fun b q => q.elim).trans T3).less fun b o e q => q.elim id fun q => absurd q (no e)
  refine codeAny_forLoop_any (FInv g F wr IS vs P D₂ σ₂ s₂) (fun n s' w => ?_) vs.length
    ⟨D₂, σ₂, ρ, 0, vs, S₂.more fun b q => ⟨base_none S (hw b q).1, (hw b q).2⟩, .refl, E₂.more wr, st, rfl, Nat.zero_le _, hP, rfl⟩
  obtain ⟨D', σ', ρ', i, rest, S', T', E', st', hr, hi', hP', hn⟩ := w
  cases rest with
  | nil =>
    cases Nat.le_antisymm hi' (List.drop_eq_nil_iff.mp hr)
    refine wpAny_mono (I.done s' st') (fun r s₃ w => ?_) fun _ _ e => e.elim
    obtain ⟨hr, h', tk, e, kp⟩ := w
    cases hr
    cases e
    have Tf := fromS T'
    exact wpAny_execs_nil ⟨D', σ', (S'.own_sub (own := F.own) fun b q => .inl q).turnOff (tk := tk) kp fun b q => ⟨base_none S (hw b q).1, S'.D_own (.inr q), S'.σ_own (.inr q), hwO b q⟩,
      ⟨Tf.fle, Tf.fresh, Tf.mfresh, fun b o e h1 h2 => kp b o (no e) (Tf.keep b o e h1 h2), fun b o e => let ⟨o', e'⟩ := Tf.live b o e; ⟨o', kp b o' (no e) e'⟩⟩,
      ρ', (E.less E').keeps (.refl _) fun b o hb e => kp b o (fun q => hwO b q hb) e, fin _ _ hP'⟩
  | cons v rest =>
    obtain ⟨hv, hlt, hd⟩ := drop_cons hr
    refine wpAny_mono (for_item (Q := fun r s₁ => ∃ c, r = some c ∧ wpAny (M g) A (letOwnedTupleGo t it c) (fun _ s₁ => wpAny (M g) A (assign t F.env c) (fun _ s₂ => wpAny (M g) A (execs body F.env) (FPost g F wr (IS (i + 1)) (P rest) R D' σ' s') NoE s₂) NoE s₁) NoE s₁)
      hs hc Rm hv I T'.fle st' hwO E S' E' (step v rest ρ' σ' hP') fun c s₃ w => ⟨c, rfl, w⟩) (fun r s₃ w => ?_) fun _ _ e => e.elim
    obtain ⟨c, e, w⟩ := w
    cases e
    refine wpAny_mono w (fun _ s₁ w => wpAny_mono w (fun _ s₂ w => wpAny_mono w (fun f s₆ w => ?_) fun _ _ e => e.elim) fun _ _ e => e.elim) fun _ _ e => e.elim
    obtain ⟨D₆, σ₆, S₆, T₆, st₆, x₆⟩ := w
    cases f with
    | next =>
      obtain ⟨ρ₆, E₆, hP6⟩ := x₆
      exact ⟨rest.length, by rw [hn]; exact Nat.lt_succ_self _, D₆, σ₆, ρ₆, i + 1, rest, S₆, T'.trans T₆, E₆, st₆, hd, hlt, hP6, rfl⟩
    | ret c => exact ⟨D₆, σ₆, S₆.own_sub fun b q => .inl q, fromS (T'.trans T₆), x₆⟩
    | brk => exact x₆.elim
    | cont => exact x₆.elim
end
end Mine

end
section
set_option maxRecDepth 100000
set_option linter.unusedVariables false
namespace Mine
open PySem PySem.W PyProof.Rows PySem.Calls

section
variable {g : G} {k : Nat} {sc : Scope} {ρ : Rho} {σ : Sig} {A : Around} {own md wr : Addr → Prop} {D : Fz} {s : Shared} {N : Rho → Sig → Prop} {R : V → Sig → Prop}

/-- values that may be gone through -/
noncomputable def ITV (g : G) (k : Nat) (t : Expr) (v : V) (vs : List V) : Prop :=
  ∀ A own D σ s c, Room k A → St g own D σ s → VR g D v c → W g A own No (pyIter c) D σ s (fun it D₂ σ₂ s₂ => σ₂ = σ ∧ ITQ g A t s.heap (fun us _ => us = vs) it D₂ σ₂ s₂)
noncomputable abbrev itK (g : G) (k : Nat) (t : Expr) (Q : List V → Sig → Prop) : V → Sig → Prop := fun v σ₁ => ∃ vs, ITV g k t v vs ∧ Q vs σ₁
theorem it_of {t iter : Expr} {Q : List V → Sig → Prop} (h : EV g k sc ρ iter σ (itK g k t Q)) : IT g k sc ρ t iter σ Q := by
  intro F A D s hs Rm S E
  refine (h F A D s hs Rm S E).mono fun c D₁ σ₁ s₁ S₁ T₁ w => ?_
  obtain ⟨v, rv, vs, hv, q⟩ := w
  refine (hv A F.own D₁ σ₁ s₁ c Rm S₁ rv).mono fun it D₂ σ₂ s₂ S₂ T₂ w => ?_
  obtain ⟨e, wr, IS, us, hu, I, st, hw⟩ := w
  subst hu
  subst e
  exact ⟨wr, IS, us, q, I, st, fun b hb => ⟨T₁.dead (hw b hb).1, (hw b hb).2⟩⟩

theorem pushIt (S : St g own D σ s) {o : Obj} {t : Expr} {vs : List V} {P : Nat → Value → Prop} {St0 : Nat → Heap → Prop} {n : Nat} {fp : List Addr} (hpl : PlainIt o) (hf : o.isFreed = false) (Wk : Walks g.prog g.w A s.heap.objs.size fp [s.heap.objs.size] n P St0) (hn : n = vs.length)
    (hP : ∀ i v c, P i c → vs[i]? = some v → VR g D v c) (hfp : ∀ b ∈ fp, b = s.heap.objs.size ∨ ∃ o, D b = some o) (ex : ∀ i h, St0 i h → ∃ o, h.get? s.heap.objs.size = some o ∧ PlainIt o) (st : St0 0 (s.heap.push o)) :
    WR g own No D σ s (fun D' σ' s' => σ' = σ ∧ ITQ g A t s.heap (fun us _ => us = vs) (.ref s.heap.objs.size) D' σ' s') { s with heap := s.heap.push o } := by
  have kp : ∀ b o', s.heap.get? b = some o' → (s.heap.push o).get? b = some o' := fun b o' e => Heap.get?_push_of_some _ e
  exact ⟨D, σ, S.keeps (tk := s.toks) kp, Step.keeps kp, rfl, _, _, vs, rfl, Itr.of_walks Wk hn hP hfp ex, st, fun b hb => by subst hb; exact ⟨get?_size _, S.D_none (get?_size _), S.σ_none (get?_size _), _, Heap.get?_push_size _ hf⟩⟩
theorem itv_lst {t : Expr} {vs : List V} : ITV g k t (.lst vs) vs := by
  intro A own D σ s c Rm S r
  replace r := r.of; obtain ⟨a, cs, n, e, rs, rfl⟩ := r
  have L : s.heap.IsList a cs.toArray := ⟨_, S.dat _ _ e, rfl, n, rfl⟩
  have hne : a ≠ s.heap.objs.size := Nat.ne_of_lt (S.lt_D e)
  refine wpAny_pyIter_list L (pushIt S ⟨_, rfl, .inl rfl⟩ rfl (Walks.list Rm.hh _ a hne cs.toArray) (by rw [List.size_toArray, rs.length]) (fun i v c h1 h2 => ?_) (fun b hb => ?_) (fun i h st => ?_) ⟨⟨_, Heap.get?_push_size _ rfl, rfl, rfl⟩, L.push _⟩)
  · obtain ⟨c', h3, r⟩ := rs.get h2
    have : cs[i]? = some c := by simpa using h1
    rw [h3] at this; cases this; exact r
  · rcases List.mem_cons.mp hb with q | hb
    · exact .inl q
    · exact .inr ⟨_, by rw [List.mem_singleton.mp hb]; exact e⟩
  · obtain ⟨o, ho, hc, _⟩ := st.1
    exact ⟨o, ho, _, hc, .inl rfl⟩
theorem itv_tup {t : Expr} {vs : List V} : ITV g k t (.tup vs) vs := by
  intro A own D σ s c Rm S r
  replace r := r.of; obtain ⟨a, cs, n, e, rs, rfl⟩ := r
  have L : s.heap.IsTuple a cs.toArray := ⟨_, S.dat _ _ e, rfl, n, rfl⟩
  have hne : a ≠ s.heap.objs.size := Nat.ne_of_lt (S.lt_D e)
  refine wpAny_pyIter_tuple L (pushIt S ⟨_, rfl, .inr (.inl rfl)⟩ rfl (Walks.tuple Rm.hh _ a hne cs.toArray) (by rw [List.size_toArray, rs.length]) (fun i v c h1 h2 => ?_) (fun b hb => ?_) (fun i h st => ?_) ⟨⟨_, Heap.get?_push_size _ rfl, rfl, rfl⟩, ⟨_, Heap.get?_push_of_some _ (S.dat _ _ e), rfl, n, rfl⟩⟩)
  · obtain ⟨c', h3, r⟩ := rs.get h2
    have : cs[i]? = some c := by simpa using h1
    rw [h3] at this; cases this; exact r
  · rcases List.mem_cons.mp hb with q | hb
    · exact .inl q
    · exact .inr ⟨_, by rw [List.mem_singleton.mp hb]; exact e⟩
  · obtain ⟨o, ho, hc, _⟩ := st.1
    exact ⟨o, ho, _, hc, .inr (.inl rfl)⟩

/-- the ints of a range -/
noncomputable def rangeV (lo hi : Int) : List V := (List.range (hi - lo).toNat).map fun (i : Nat) => V.int (lo + i)
theorem rangeV_length (lo hi : Int) : (rangeV lo hi).length = (hi - lo).toNat := by simp [rangeV]
theorem range_small {lo hi : Int} (h1 : -(2 ^ 40) < lo ∧ lo < 2 ^ 40) (h2 : -(2 ^ 40) < hi ∧ hi < 2 ^ 40) : Builtin.Range.small lo hi 1 = true ∧ Builtin.Range.rangeSize lo hi 1 = ((hi - lo).toNat : Int) := by
  have e : Builtin.Range.rangeSize lo hi 1 = ((hi - lo).toNat : Int) := by
    unfold Builtin.Range.rangeSize
    rw [if_pos (by lia)]
    split
    · rw [Int.ediv_one]; lia
    · lia
  refine ⟨?_, e⟩
  unfold Builtin.Range.small Builtin.Range.rangeFitsLong
  rw [e]
  simp only [Bool.and_eq_true, decide_eq_true_eq, Bool.or_eq_true, show (1 : Int) > 0 from by lia, if_true]
  refine ⟨⟨⟨⟨?_, ?_⟩, ?_⟩, ?_⟩, .inr ?_⟩ <;> constructor <;> lia
theorem itv_rng {t : Expr} {lo hi : Int} (h1 : -(2 ^ 40) < lo ∧ lo < 2 ^ 40) (h2 : -(2 ^ 40) < hi ∧ hi < 2 ^ 40) : ITV g k t (.rng lo hi) (rangeV lo hi) := by
  intro A own D σ s c Rm S r
  replace r := r.of; obtain ⟨a, t, u, v, e, rfl⟩ := r
  obtain ⟨sm, sz⟩ := range_small h1 h2
  refine wpAny_pyIter_range (S.dat _ _ e) sm (pushIt S ⟨_, rfl, .inr (.inr (.inr rfl))⟩ rfl (Walks.range Rm.hh _ lo 1 (hi - lo).toNat) (by rw [rangeV_length]) (fun i v c h1 h2 => ?_) (fun b hb => ?_) (fun i h st => ?_) ?_)
  · obtain ⟨t, rfl⟩ := h1
    rw [Int.mul_one]
    unfold rangeV at h2
    rw [List.getElem?_map] at h2
    cases q : (List.range (hi - lo).toNat)[i]? with
    | none => rw [q] at h2; cases h2
    | some j =>
      obtain ⟨h3, h4⟩ := List.getElem?_eq_some_iff.mp q
      rw [List.getElem_range] at h4
      rw [q] at h2
      subst h4
      cases h2
      exact .int _ _
  · exact .inl (List.mem_singleton.mp hb)
  · exact ⟨_, st, _, rfl, .inr (.inr (.inr rfl))⟩
  · rw [sz]
    show IsRangeIter _ _ _ _ _
    have := Heap.get?_push_size s.heap (o := { cls := .type "range_iterator", data := .fields #[rawInt lo, rawInt ((hi - lo).toNat : Int), rawInt 1] }) rfl
    simpa using this

-- the keys of a dict
theorem keys_make {d : Addr} {es : List DictEntry} {n : Nat} {Q : Value → Shared → Prop} {E : Value → Shared → Prop} (hd : (d == sysModules) = false) (ho : s.heap.get? d = some (dictOf es n))
    (hQ : Q (.ref s.heap.objs.size) { s with heap := s.heap.push { cls := .type "dict_keyiterator", data := .fields #[.ref d, .int 0 0, .int es.length 0, .int n 0] } }) : wpAny (M g) A (pyIter (.ref d)) Q E s := by
  have hT : s.TypeIs (.ref d) "dict" := ⟨_, ho, rfl⟩
  refine wpAny_pyIter_slot hT F.slot_dict_iter (wpAny_call_entry F.slot_dict_iter hT F.entry_dict_iter ?_ (F.args_dict_iter_1 _))
  unfold Builtin.«dict.__iter__»
  refine wpAny_bind ?_
  unfold Builtin.Dict.dictSlotNone
  refine wpAny_bind (wpAny_notOrdered_dict hT ?_)
  show wpAny _ _ (pure (Value.ref d)) _ _ s
  refine wpAny_pure ?_
  show wpAny _ _ (Builtin.Dict.showsAll d >>= _) _ _ s
  unfold Builtin.Dict.showsAll
  rw [if_neg (by rw [hd]; exact Bool.false_ne_true)]
  refine wpAny_bind (wpAny_pure ?_)
  refine wpAny_bind (wpAny_dictEntries ho rfl (wpAny_bind (wpAny_dictEpoch ho rfl ?_)))
  refine wpAny_bind (wpAny_newObj_type (wpAny_pure ⟨_, rfl, "dict_keyiterator", _, ⟨_, Heap.get?_push_size _ rfl, rfl⟩, F.slot_dict_keyiterator_next.lookup, ?_⟩))
  simpa [rawInt] using hQ
theorem keys_item {it d : Addr} {i : Nat} {es : List DictEntry} {n : Nat} {e : DictEntry} {Q : Option Value → Shared → Prop} {E : Value → Shared → Prop} (hit : s.heap.IsKeyIter it d i es.length n) (hod : s.heap.get? d = some (dictOf es n)) (hx : es[i]? = some e)
    (hQ : ∀ h', h'.IsKeyIter it d (i + 1) es.length n → Heap.SameBut it s.heap h' → Q (some e.key) { s with heap := h' }) : wpAny (M g) A (pyNext (.ref it)) Q E s := by
  obtain ⟨o, ho, hc, hd⟩ := id hit
  unfold pyNext
  refine wpAny_bind (wpAny_attempt (wpAny_callSpecial?_slot (name := Str.ofString "__next__") hit.typeIs F.slot_dict_keyiterator_next
    (wpAny_call_entry F.slot_dict_keyiterator_next hit.typeIs F.entry_dict_keyiterator_next ?_ (F.args_dict_keyiterator_next_1 _))))
  refine wpAny_bind (wpAny_pure (wpAny_bind (wpAny_bind ?_)))
  first | refine wpAny_bind (wpAny_typeNameOfWhole_keyiter hit.typeIs (wpAny_pure ?_)) | refine wpAny_bind (wpAny_typeNameOf_keyiter hit.typeIs (wpAny_pure ?_))
  refine wpAny_bind (wpAny_fieldsOf ho hd ?_)
  have hown : Builtin.Dict_items.ownsTuple "dict_keyiterator" = false := by decide
  rw [hown, if_neg Bool.false_ne_true]
  show wpAny _ _ (if (Value.ref d == Value.none) = true then _ else _) _ _ s
  rw [if_neg (show ¬ ((Value.ref d == Value.none) = true) from Bool.false_ne_true)]
  refine wpAny_bind (wpAny_pure (wpAny_bind (wpAny_dictEntries hod rfl ?_)))
  rw [if_neg (by simp)]
  refine wpAny_bind (wpAny_pure (wpAny_bind (wpAny_dictEpoch hod rfl ?_)))
  rw [if_neg (by simp)]
  refine wpAny_pure ?_
  have hlt : i < es.toArray.size := by rw [List.size_toArray]; exact (List.getElem?_eq_some_iff.mp hx).1
  have hk : es.toArray[i].key = e.key := by
    have := (List.getElem?_eq_some_iff.mp hx).2
    simp [this]
  dsimp only
  rw [if_neg (show ¬ ((i : Int) < 0) from Int.not_lt.mpr (Int.natCast_nonneg i)), Int.toNat_natCast, Array.getElem?_eq_getElem hlt]
  refine wpAny_bind ?_
  first | refine wpAny_bind (wpAny_typeNameOfWhole_keyiter hit.typeIs (wpAny_pure ?_)) | refine wpAny_bind (wpAny_typeNameOf_keyiter hit.typeIs (wpAny_pure ?_))
  refine wpAny_bind (wpAny_isOneOf_keyiter hit.typeIs ?_)
  show wpAny _ _ (setField (.ref it) 1 (rawInt ((i : Int) + 1)) >>= _) _ _ s
  refine wpAny_bind (wpAny_setField ho hd (by simp) ?_)
  have hit' : (s.heap.update it (Obj.mapFields (·.setIfInBounds 1 (rawInt ((i : Int) + 1))))).IsKeyIter it d (i + 1) es.length n :=
    ⟨_, Heap.get?_update_self _ ho (Obj.isFreed_of_fields (Obj.data_mapFields hd _)), (Obj.cls_mapFields ..).trans hc, by rw [Obj.data_mapFields hd]; simp [rawInt]⟩
  refine wpAny_bind (wpAny_holding ?_)
  refine wpAny_bind (wpAny_isOneOf_keyiter (s := { s with heap := s.heap.update it (Obj.mapFields (·.setIfInBounds 1 (rawInt ((i : Int) + 1)))) }) hit'.typeIs ?_)
  rw [hk]
  exact wpAny_pure (wpAny_pure ⟨_, rfl, wpAny_pure (hQ _ hit' (Heap.SameBut.update ..))⟩)
theorem keys_end {it d : Addr} {es : List DictEntry} {n : Nat} {Q : Option Value → Shared → Prop} {E : Value → Shared → Prop} (hh : A.handled = none) (hit : s.heap.IsKeyIter it d es.length es.length n) (hod : s.heap.get? d = some (dictOf es n))
    (hQ : ∀ h', Heap.ExtBut it s.heap h' → Q none { s with heap := h' }) : wpAny (M g) A (pyNext (.ref it)) Q E s := by
  obtain ⟨o, ho, hc, hd⟩ := id hit
  unfold pyNext
  refine wpAny_bind (wpAny_attempt (wpAny_callSpecial?_slot (name := Str.ofString "__next__") hit.typeIs F.slot_dict_keyiterator_next
    (wpAny_call_entry F.slot_dict_keyiterator_next hit.typeIs F.entry_dict_keyiterator_next ?_ (F.args_dict_keyiterator_next_1 _))))
  refine wpAny_bind (wpAny_pure (wpAny_bind (wpAny_bind ?_)))
  first | refine wpAny_bind (wpAny_typeNameOfWhole_keyiter hit.typeIs (wpAny_pure ?_)) | refine wpAny_bind (wpAny_typeNameOf_keyiter hit.typeIs (wpAny_pure ?_))
  refine wpAny_bind (wpAny_fieldsOf ho hd ?_)
  have hown : Builtin.Dict_items.ownsTuple "dict_keyiterator" = false := by decide
  rw [hown, if_neg Bool.false_ne_true]
  show wpAny _ _ (if (Value.ref d == Value.none) = true then _ else _) _ _ s
  rw [if_neg (show ¬ ((Value.ref d == Value.none) = true) from Bool.false_ne_true)]
  refine wpAny_bind (wpAny_pure (wpAny_bind (wpAny_dictEntries hod rfl ?_)))
  rw [if_neg (by simp)]
  refine wpAny_bind (wpAny_pure (wpAny_bind (wpAny_dictEpoch hod rfl ?_)))
  rw [if_neg (by simp)]
  refine wpAny_pure ?_
  have hge : es.toArray.size ≤ es.length := by rw [List.size_toArray]; exact Nat.le_refl _
  dsimp only
  rw [if_neg (show ¬ ((es.length : Int) < 0) from Int.not_lt.mpr (Int.natCast_nonneg _)), Int.toNat_natCast, Array.getElem?_eq_none hge]
  refine wpAny_bind ?_
  first | refine wpAny_bind (wpAny_typeNameOfWhole_keyiter hit.typeIs (wpAny_pure ?_)) | refine wpAny_bind (wpAny_typeNameOf_keyiter hit.typeIs (wpAny_pure ?_))
  show wpAny _ _ (setField (.ref it) 0 .none >>= _) _ _ s
  refine wpAny_bind (wpAny_setField ho hd (by simp) ?_)
  show wpAny _ _ (newExc (.type "StopIteration") [] >>= _) _ _ _
  refine wpAny_bind ?_
  simp only [newExc, PySem.newTuple]
  refine wpAny_bind (wpAny_newObj_type ?_ (by size_fits))
  refine wpAny_bind (m := firstArgMember _ _) (wpAny_of_eq (a := Value.none) (by first | rfl | (simp only [firstArgMember]; rfl)) ?_)
  refine wpAny_newObj_type ?_ (by size_fits)
  simp only [raiseNew]
  refine wpAny_bind (wpAny_handled ?_)
  rw [show A.in1.handled = none from hh]
  refine wpAny_bind (wpAny_pure (wpAny_throw ?_))
  refine wpAny_bind (wpAny_isInstance (T := "StopIteration") (b := true) ⟨_, Heap.get?_push_size _ rfl, rfl⟩ isSubtype_stop ?_)
  exact wpAny_pure (hQ _ (((Heap.SameBut.update ..).extBut.push _).push _))
theorem Walks.rawKeys (hh : A.handled = none) (I d : Addr) (hne : d ≠ I) (es : List DictEntry) (n : Nat) :
    Walks g.prog g.w A I [I, d] [I] es.length (fun i v => ∃ e, es[i]? = some e ∧ v = e.key) (fun i h => h.IsKeyIter I d i es.length n ∧ h.get? d = some (dictOf es n)) where
  sub := fun b hb => by simp at hb; simp [hb]
  frame := fun _ _ _ st hk => ⟨st.1.at fun o e => hk I (by simp) o e, hk d (by simp) _ st.2⟩
  item := fun i s Q E hi st hQ => by
    have hx : es[i]? = some es[i] := List.getElem?_eq_getElem hi
    refine keys_item st.1 st.2 hx fun h' hit' hs' => ?_
    exact hQ _ h' s.toks ⟨_, hx, rfl⟩ ⟨hit', hs'.extBut d _ hne st.2⟩ fun b o hb e => hs'.extBut b o (fun h => hb (by simp [h])) e
  done := fun s Q E st hQ => keys_end hh st.1 st.2 fun h' he' => hQ h' s.toks fun b o hb e => he' b o (fun h => hb (by simp [h])) e
  self := fun _ _ _ _ st hQ => wpAny_pyIter_keyiter st.1 hQ
theorem itv_keys {t : Expr} {vs : List V} {a : Addr} {es : List DictEntry} {n : Nat} (S : St g own D σ s) (Rm : Room k A) (e : D a = some (dictOf es n)) (rs : VRs g D vs (es.map (·.key))) :
    W g A own No (pyIter (.ref a)) D σ s (fun it D₂ σ₂ s₂ => σ₂ = σ ∧ ITQ g A t s.heap (fun us _ => us = vs) it D₂ σ₂ s₂) := by
  have hne : a ≠ s.heap.objs.size := Nat.ne_of_lt (S.lt_D e)
  have hsys : (a == sysModules) = false := S.sys_D e rfl
  refine keys_make hsys (S.dat _ _ e) (pushIt S ⟨_, rfl, .inr (.inr (.inl rfl))⟩ rfl (Walks.rawKeys Rm.hh _ a hne es n) (by rw [← rs.length, List.length_map]) (fun i v c h1 h2 => ?_) (fun b hb => ?_) (fun i h st => ?_) ⟨⟨_, Heap.get?_push_size _ rfl, rfl, rfl⟩, Heap.get?_push_of_some _ (S.dat _ _ e)⟩)
  · obtain ⟨e, h1, rfl⟩ := h1
    obtain ⟨c', h3, r⟩ := rs.get h2
    rw [List.getElem?_map, h1] at h3
    cases h3; exact r
  · rcases List.mem_cons.mp hb with q | hb
    · exact .inl q
    · exact .inr ⟨_, by rw [List.mem_singleton.mp hb]; exact e⟩
  · obtain ⟨o, ho, hc, _⟩ := st.1
    exact ⟨o, ho, _, hc, .inr (.inr (.inl rfl))⟩
theorem itv_dT {t : Expr} {kvs : List (List Int × V)} : ITV g k t (.dT kvs) (kvs.map fun p => .tup (p.1.map .int)) := by
  intro A own D σ s c Rm S r
  replace r := r.of; obtain ⟨a, xs, n, e, h1, h2, h3, h4, rfl⟩ := r
  refine itv_keys S Rm e ?_
  rw [List.map_map]
  have e1 : (kvs.map fun p => V.tup (p.1.map .int)) = xs.map fun x => V.tup (x.1.map .int) := by
    have := congrArg (List.map fun ks : List Int => V.tup (ks.map .int)) h1
    rw [List.map_map, List.map_map] at this
    exact this
  rw [e1]
  clear h1 h3 h4 e e1
  induction xs with
  | nil => exact .nil
  | cons x xs ih =>
    obtain ⟨ys, m, hd, hi⟩ := h2 x (.head _)
    exact .cons (.tup hd (VRs.of_ints hi)) (ih fun y hy => h2 y (.tail _ hy))
end
end Mine

end
section
set_option maxRecDepth 100000
set_option linter.unusedVariables false
namespace Mine
open PySem PySem.W PyProof.Rows PySem.Calls

section
variable {g : G} {k : Nat} {sc : Scope} {ρ : Rho} {σ : Sig} {A : Around} {own md wr : Addr → Prop} {D : Fz} {s : Shared} {N : Rho → Sig → Prop} {R : V → Sig → Prop}

theorem St.ghostD (S : St g own D σ s) {a : Addr} {o : Obj} (ho : s.heap.get? a = some o) (h1 : D a = none) (h2 : σ a = none) (h3 : ¬ own a) (h4 : a ≠ sysModules) : St g own (D.put a o) σ s := by
  refine ⟨S.base, fun b o' e => ?_, fun b m e => let ⟨o, h, r⟩ := S.mt b m e; ⟨o, h, r.mono (Fz.put_le h1)⟩, fun b o' e => ?_, fun b o' e => ?_, S.σO, S.bσ, S.bO, S.oex, fun o e => S.dsys o (by unfold Fz.put at e; rwa [if_neg (Ne.symm h4)] at e), S.ssys, S.gens, S.os⟩
  all_goals unfold Fz.put at e; split at e
  · rename_i q; cases e; rw [q]; exact ho
  · exact S.dat b o' e
  · rename_i q; rw [q]; exact h2
  · exact S.dσ b o' e
  · rename_i q; rw [q]; exact h3
  · exact S.dO b o' e
theorem Step.ghostD {σ' : Sig} {D' : Fz} {s' : Shared} (T : Step wr D σ s D' σ' s') {a : Addr} {o : Obj} (h1 : D' a = none) (ha : s.heap.get? a = none) : Step wr D σ s (D'.put a o) σ' s' :=
  ⟨T.fle.trans (Fz.put_le h1), fun b o' e => by
    unfold Fz.put at e; split at e
    · rename_i q; exact .inr (.inl (q ▸ ha))
    · exact T.fresh b o' e, T.mfresh, T.keep, T.live⟩
theorem none_ge (s : Shared) {a : Addr} (h : s.heap.objs.size ≤ a) : s.heap.get? a = none := by
  cases q : s.heap.get? a with
  | none => rfl
  | some o => exact absurd (Heap.lt_size q) (Nat.not_lt.mpr h)

noncomputable def enumV (vs : List V) (i : Nat) : List V := match vs with
  | [] => []
  | v :: r => .tup [.int i, v] :: enumV r (i + 1)
theorem enumV_length (vs : List V) (i : Nat) : (enumV vs i).length = vs.length := by
  induction vs generalizing i with
  | nil => rfl
  | cons v r ih => exact congrArg Nat.succ (ih (i + 1))
theorem enumV_get {vs : List V} {i j : Nat} {u : V} (h : (enumV vs i)[j]? = some u) : ∃ v, vs[j]? = some v ∧ u = .tup [.int ((i + j : Nat) : Int), v] := by
  induction vs generalizing i j with
  | nil => exact nomatch h
  | cons v r ih =>
    cases j with
    | zero => exact ⟨v, rfl, (Option.some.inj h).symm⟩
    | succ j =>
      obtain ⟨w, h1, h2⟩ := ih (i := i + 1) (j := j) h
      exact ⟨w, h1, by rw [h2, show i + 1 + j = i + (j + 1) from by lia]⟩

theorem enum_itr {ts : List Expr} {n m : Nat} {tp : Pos} {e it l : Addr} {cs : List Value} {vs : List V} (hh : A.handled = none) (hne : e ≠ it) (hl : D l = some (lstO cs m)) (rs : VRs g D vs cs) (hle : l ≠ e) (hli : l ≠ it) :
    Itr g A (.Tuple ts n tp) (.ref e) (fun b => b = e ∨ b = it) D (enumV vs 0) (fun i h => (∃ old, IsEnum h e it ((i : Nat) : Int) old) ∧ h.IsListIter it l i ∧ h.get? l = some (lstO cs m)) where
  frame := fun i h h' ⟨⟨old, h1⟩, h2, h3⟩ kp => ⟨⟨old, kp e _ (.inl (.inl rfl)) h1⟩, h2.at fun o e => kp it o (.inl (.inr rfl)) e, kp l _ (.inr ⟨_, hl⟩) h3⟩
  item := by
    intro i v own D' σ s hv hD hw S ⟨⟨old, h1⟩, h2, h3⟩
    obtain ⟨u, hu, rfl⟩ := enumV_get hv
    obtain ⟨c, hc, rc⟩ := rs.get hu
    have L : s.heap.IsList l cs.toArray := ⟨_, h3, rfl, m, rfl⟩
    refine wpAny_pyNext_enum_item h1 h2 L (by simpa using hc) hne fun h' e1 e2 e3 e4 kp => ?_
    have kp' : ∀ b o, ¬ (b = e ∨ b = it) → s.heap.get? b = some o → h'.get? b = some o := fun b o q x => kp b o (fun y => q (.inl y)) (fun y => q (.inr y)) x
    have hx : ∀ b, (b = e ∨ b = it) → ∃ o, h'.get? b = some o := fun b q => by
      rcases q with rfl | rfl
      · exact ⟨_, e1⟩
      · obtain ⟨o, ho, _⟩ := e2; exact ⟨o, ho⟩
    have S1 := S.turnWr (tk := s.toks + 1) hw kp' hx
    have T1 : Step (fun b => b = e ∨ b = it) D' σ s D' σ { s with heap := h', toks := s.toks + 1 } := Step.turnWr kp' hx
    have nz := get?_size s.heap
    have S2 := S1.ghostD (a := s.heap.objs.size) e3 (S.D_none nz) (S.σ_none nz) (S.own_none nz) S.ne_sys
    have T2 := T1.ghostD (a := s.heap.objs.size) (o := { cls := .type "tuple", data := .seq #[.int i s.toks, c] }) (S.D_none nz) nz
    refine ⟨_, σ, S2, T2, rfl, .ref s.heap.objs.size, rfl, ?_⟩
    refine wpAny_letOwnedTupleGo_enum e1 fun h'' f1 f2 => ?_
    have f2' : Heap.SameBut e h' h'' := f2
    have he : e < s.heap.objs.size := Heap.lt_size h1
    have kp2 : ∀ b o, ¬ (b = e ∨ b = it) → h'.get? b = some o → h''.get? b = some o := fun b o q x => f2'.extBut b o (fun y => q (.inl y)) x
    have hx2 : ∀ b, (b = e ∨ b = it) → ∃ o, h''.get? b = some o := fun b q => by
      rcases q with rfl | rfl
      · exact ⟨_, f1⟩
      · obtain ⟨o, ho, _⟩ := e2; exact ⟨o, f2'.extBut _ _ (Ne.symm hne) ho⟩
    have S3 := S2.turnWr (h' := h'') (tk := s.toks + 1) hw kp2 hx2
    refine ⟨_, σ, S3, Step.turnWr (s := { s with heap := h', toks := s.toks + 1 }) kp2 hx2, rfl, ⟨⟨_, by simpa using f1⟩, e2.at fun o x => f2'.extBut _ _ (Ne.symm hne) x, ?_⟩, ?_⟩
    · exact f2'.extBut _ _ hle (kp l _ hle hli h3)
    · have hput : Fle D' (D'.put s.heap.objs.size { cls := .type "tuple", data := .seq #[.int i s.toks, c] }) := Fz.put_le (S.D_none nz)
      refine .tup (xs := [.int i s.toks, c]) (n := 0) (Fz.put_self ..) ?_
      rw [Nat.zero_add]
      exact .cons (.int _ _) (.cons ((rc.mono hD).mono hput) .nil)
  done := by
    intro s ⟨⟨old, h1⟩, h2, h3⟩
    have L : s.heap.IsList l cs.toArray := ⟨_, h3, rfl, m, rfl⟩
    rw [enumV_length] at h1 h2
    refine wpAny_pyNext_enum_end hh h1 h2 L (by rw [List.getElem?_toArray, List.getElem?_eq_none (by rw [rs.length]; exact Nat.le_refl _)]) fun h' he => ?_
    exact ⟨rfl, h', s.toks, rfl, fun b o q x => he b o (fun y => q (.inr y)) x⟩
  self := fun s Q E ⟨⟨old, h1⟩, _⟩ q => wpAny_pyIter_enum h1 q

theorem it_enum {ts : List Expr} {n : Nat} {tp px pos : Pos} {x : Str} {e : Expr} {Q : List V → Sig → Prop} (hk : sc.names.lookup x = some .globalImplicit) (hn : g.mg x = none) (hc : g.mb x = some (.type "enumerate"))
    (h : EV g k sc ρ e σ fun v σ₁ => ∃ vs, v = .lst vs ∧ Q (enumV vs 0) σ₁) (hs : autoParam (noStar [e] = true) Mine.sxR) (hd : autoParam ((x == ("__debug__" : Str)) = false) Mine.sxD) : IT g k sc ρ (.Tuple ts n tp) (.Call (.Name x px) [e] [] pos) σ Q := by
  intro F A D s hsc Rm S E
  show W g A F.own No (eval (.Name x px) F.env >>= fun f => callWith pos f [] (backTo pos (starEach [e] F.env)) (backToKw pos (keywordEach [] F.env))) D σ s _
  refine (ev_blt (k := k) (Q := fun v σ' => v = .cst (.type "enumerate") ∧ σ' = σ) hk hn hc ⟨rfl, rfl⟩ hd).then hsc Rm S E fun c v D₁ σ₁ s₁ r₁ ⟨hv, hσ⟩ S₁ E₁ T₁ => ?_
  have hσ' := hσ
  clear hσ
  subst hσ'
  subst hv
  replace r₁ := r₁.of; obtain ⟨_, rfl⟩ := r₁
  refine W.callWith keep_type S₁ hs (by intro q; cases q) ?_
  have h1 : EVS g k sc ρ [e] σ₁ fun vs σ₂ => ∃ us, vs = [.lst us] ∧ Q (enumV us 0) σ₂ := evs_cons (h.mono fun v σ' ⟨us, h1, h2⟩ => evs_nil ⟨us, by rw [h1], h2⟩)
  refine (h1 F A D₁ s₁ hsc Rm S₁ E₁).mono fun cs D₂ σ₂ s₂ S₂ T₂ w => ?_
  obtain ⟨vs, rs, us, hv, q⟩ := w
  subst hv
  cases rs with
  | cons r rs =>
    cases rs
    replace r := r.of; obtain ⟨l, ys, m, hl, ru, rfl⟩ := r
    have hlt := S₂.lt_D hl
    refine call_enumerate_1 (S₂.dat _ _ hl) fun h' f1 f2 f3 kp => ?_
    have S3 := S₂.keeps (tk := s₂.toks) kp
    refine ⟨D₂, σ₂, S3, Step.keeps kp, ?_⟩
    refine wpAny_pyIter_enum f1 ⟨D₂, σ₂, S3, .refl, ?_⟩
    have n1 : s₂.heap.objs.size ≠ s₂.heap.objs.size + 1 := Nat.ne_of_lt (Nat.lt_succ_self _)
    refine ⟨_, _, enumV us 0, q, enum_itr (m := m) (cs := ys) Rm.hh n1.symm hl ru (Nat.ne_of_lt (Nat.lt_succ_of_lt hlt)) (Nat.ne_of_lt hlt), ⟨⟨_, f1⟩, f2, kp _ _ (S₂.dat _ _ hl)⟩, fun b hb => ?_⟩
    have T := T₁.trans T₂
    have hge : s₂.heap.objs.size ≤ b := by rcases hb with rfl | rfl; exact Nat.le_succ _; exact Nat.le_refl _
    have hz := none_ge s₂ hge
    refine ⟨T.dead hz, S₂.D_none hz, S₂.σ_none hz, ?_⟩
    rcases hb with rfl | rfl
    · exact ⟨_, f1⟩
    · obtain ⟨o, ho, _⟩ := f2; exact ⟨o, ho⟩
end
end Mine

end
section
set_option maxRecDepth 100000
set_option linter.unusedVariables false
namespace Mine
open PySem PySem.W PyProof.Rows PySem.Calls

section
variable {g : G} {k : Nat} {sc : Scope} {ρ : Rho} {σ : Sig} {A : Around} {own md wr : Addr → Prop} {D : Fz} {s : Shared} {N : Rho → Sig → Prop} {R : V → Sig → Prop}

/-- one turn of a comprehension -/
noncomputable def cturn (iterpos : Pos) (target : Expr) (ifs : List Expr) (it : Value) (env : Env) (BODY : Sem Unit) (again : Sem Fin) : Sem Fin := do
  standAt iterpos
  match ← pyNext it with
  | none => pure (.done .next)
  | some v =>
    letOwnedTupleGo target it v
    assign target env v
    let mut ok := true
    for c in ifs do
      if ok then ok ← isTrue c env (eval c env)
    if ok then
      BODY
    again

noncomputable def CLoop (g : G) (e : Expr) (d : Nat) : Prop := ∀ it acc env A, (Code.compLoop e d it acc env).quiet = true ∧ (M g).den (.compLoop e d it acc env) = (compTurn e d it acc env).onRaise (fun x => do noteFrame x env; theTreesLotGoes x) ∧ Around.under A (.compLoop e d it acc env) = A
noncomputable def AC (g : G) (D : Fz) (h : Heap) (a : Addr) (m : MO) : Prop := ∃ o, h.get? a = some o ∧ OR g D m o
/-- what is done of an item that passed the tests -/
noncomputable def CE (g : G) (k : Nat) (sc : Scope) (ρ : Rho) (a : Addr) (m : MO) (BODY : Env → Sem Unit) (σ : Sig) (Q : MO → Sig → Prop) : Prop :=
  ∀ F A D s, F.env.scope = sc → Room k A → St g F.own D σ s → ER g F ρ D s.heap → F.own a → ¬ F.md a → (∀ x ca, F.env.cells.lookup x = some ca → ca ≠ a) → AC g D s.heap a m →
    W g A F.own (fun b => F.md b ∨ b = a) (BODY F.env) D σ s fun _ D' σ' s' => ER g F ρ D' s'.heap ∧ ∃ m', AC g D' s'.heap a m' ∧ Q m' σ'
noncomputable def CB (g : G) (k : Nat) (sc : Scope) (ρ : Rho) (a : Addr) (m : MO) (ifs : List Expr) (BODY : Env → Sem Unit) (σ : Sig) (Q : MO → Sig → Prop) : Prop := match ifs with
  | [] => CE g k sc ρ a m BODY σ Q
  | [c] => TR g k sc ρ c σ fun b σ₁ => if b = true then CE g k sc ρ a m BODY σ₁ Q else Q m σ₁
  | _ => False

theorem AC.step {F : Fm} {a : Addr} {m : MO} {D' : Fz} {σ' : Sig} {s' : Shared} (S : St g own D σ s) (T : Step md D σ s D' σ' s') (ha : own a) (hm : ¬ md a) (x : AC g D s.heap a m) : AC g D' s'.heap a m := by
  obtain ⟨o, ho, r⟩ := x
  refine ⟨o, T.keep a o ho ?_ hm, r.mono T.fle⟩
  cases q : σ a with
  | none => rfl
  | some m => exact absurd ha (S.σO a m q)
theorem ER.forget1 {F : Fm} {x : Str} {v : V} {h : Heap} (E : ER g F ((x, v) :: ρ) D h) (hρ : ρ.lookup x = none) : ER g F ρ D h :=
  E.forget fun y u e => by
    rw [lookup_cons_str]
    split
    · rename_i q; rw [q, hρ] at e; cases e
    · exact e

/-- what a comprehension's loop leaves; what it holds -/
inductive CFin (g : G) (F : Fm) (ρ : Rho) (a : Addr) (P : MO → Sig → Prop) (D0 : Fz) (σ0 : Sig) (s0 s' : Shared) : Prop
  | mk (D' : Fz) (σ' : Sig) (m' : MO) : St g F.own D' σ' s' → Step (fun b => F.md b ∨ b = a) D0 σ0 s0 D' σ' s' → ER g F ρ D' s'.heap → AC g D' s'.heap a m' → P m' σ' → CFin g F ρ a P D0 σ0 s0 s'
inductive CInv (g : G) (F : Fm) (wr : Addr → Prop) (ρ : Rho) (a : Addr) (IS : Nat → Heap → Prop) (vs : List V) (P : List V → MO → Sig → Prop) (D D0 : Fz) (σ0 : Sig) (s0 : Shared) (n : Nat) (s' : Shared) : Prop
  | mk (D' : Fz) (σ' : Sig) (i : Nat) (rest : List V) (m' : MO) : St g (withOwn F wr).own D' σ' s' → Step (fun b => F.md b ∨ b = a ∨ wr b) D0 σ0 s0 D' σ' s' → Fle D D' → ER g (withOwn F wr) ρ D' s'.heap → AC g D' s'.heap a m' → IS i s'.heap → vs.drop i = rest → i ≤ vs.length → P rest m' σ' → n = rest.length → CInv g F wr ρ a IS vs P D D0 σ0 s0 n s'
/-- a turn with an item -/
theorem comp_item {F : Fm} {x : Str} {px ipos : Pos} {ifs : List Expr} {it : Value} {a : Addr} {m : MO} {BODY : Env → Sem Unit} {P : MO → Sig → Prop} {vs : List V} {IS : Nat → Heap → Prop} {i : Nat} {v : V} {D0 : Fz} {AG : Sem Fin} {POST : Fin → Shared → Prop} {ERR : Value → Shared → Prop}
    (hx : storableIn false sc x = true) (hρ : ρ.lookup x = none) {Db : Fz} {h0 : Heap} (E0 : ER g F ρ Db h0) (hs : F.env.scope = sc) (Rm : Room k A) (ha : F.own a) (hma : ¬ F.md a) (hca : ∀ x ca, F.env.cells.lookup x = some ca → ca ≠ a)
    (hv : vs[i]? = some v) (I : Itr g A (.Name x px) it wr D0 vs IS) (hDD : Fle D0 D) (st : IS i s.heap) (hw : ∀ b, wr b → ¬ F.own b) (S : St g (withOwn F wr).own D σ s) (E : ER g (withOwn F wr) ρ D s.heap) (hA : AC g D s.heap a m)
    (step : CB g k sc ((x, v) :: ρ) a m ifs BODY σ P)
    (next : ∀ D' σ' s' m', St g (withOwn F wr).own D' σ' s' → Step (fun b => F.md b ∨ b = a ∨ wr b) D σ s D' σ' s' → ER g (withOwn F wr) ρ D' s'.heap → AC g D' s'.heap a m' → IS (i + 1) s'.heap → P m' σ' → wpAny (M g) A AG POST ERR s') :
    wpAny (M g) A (cturn ipos (.Name x px) ifs it F.env (BODY F.env) AG) POST ERR s := by
  have ha' : (withOwn F wr).own a := .inl ha
  have hcs : (withOwn F wr).env.scope = sc := hs
  refine wpAny_bind (wpAny_standAt (wpAny_bind ?_))
  refine wpAny_mono (I.item i v _ D σ s hv hDD (fun b q => .inr q) S st) (fun r s₃ w => ?_) fun _ _ e => e.elim
  obtain ⟨D₃, σ₃, S₃, T₃, e, c, hr, h₃⟩ := w
  cases e
  cases hr
  refine wpAny_bind (wpAny_mono h₃ (fun _ s₄ w => ?_) fun _ _ e => e.elim)
  obtain ⟨D₄, σ, S₄, T₄, e, st4, rv⟩ := w
  cases e
  have Ti := T₃.trans T₄
  have kpO : ∀ b o, F.own b → s.heap.get? b = some o → s₄.heap.get? b = some o := fun b o hb e => Ti.keep b o e (S.σ_own (.inl hb)) fun q => hw b q hb
  have E₄ : ER g (withOwn F wr) ρ D₄ s₄.heap := ((E0.less E).keeps Ti.fle kpO).more wr
  have hA4 : AC g D₄ s₄.heap a m := let ⟨o, ho, r⟩ := hA; ⟨o, kpO a o ha ho, r.mono Ti.fle⟩
  refine wpAny_bind ?_
  refine wpAny_mono (asn_name (N := fun ρ₁ σ₁ => ρ₁ = (x, v) :: ρ ∧ σ₁ = σ) (fn := false) (pos := px) hx ⟨rfl, rfl⟩ (withOwn F wr) A D₄ s₄ c hcs (fun q => by cases q) Rm S₄ E₄ rv) (fun _ s₅ w => ?_) fun _ _ e => e.elim
  obtain ⟨D₅, σ₅, S₅, T₅, ρ₅, E₅, eρ, eσ⟩ := w
  cases eρ
  cases eσ
  have hA5 := AC.step (F := F) S₄ T₅ ha' hma hA4
  have fin : ∀ D₆ σ₆ s₆ m₆, St g (withOwn F wr).own D₆ σ₆ s₆ → Step (fun b => F.md b ∨ b = a) D₅ σ s₅ D₆ σ₆ s₆ → ER g (withOwn F wr) ((x, v) :: ρ) D₆ s₆.heap → AC g D₆ s₆.heap a m₆ → P m₆ σ₆ → wpAny (M g) A AG POST ERR s₆ := by
    intro D₆ σ₆ s₆ m₆ S₆ T₆ E₆ hA₆ hP₆
    have Tb : Step (fun b => F.md b ∨ b = a) D₄ σ s₄ D₆ σ₆ s₆ := (T₅.own fun b q => .inl q).trans T₆
    refine next D₆ σ₆ s₆ m₆ S₆ ((Ti.own fun b q => .inr (.inr q)).trans (Tb.own fun b q => q.elim .inl fun q => .inr (.inl q))) (E₆.forget1 hρ) hA₆ (I.frame _ _ _ st4 fun b o hb e => ?_) hP₆
    rcases hb with q | ⟨o', q⟩
    · exact Tb.keep b o e (S₄.σ_own (.inr q)) fun z => z.elim (fun m => hw b q (E0.sub b m)) fun e => hw b q (e ▸ ha)
    · have q' := (hDD.trans Ti.fle) b o' q
      cases e.symm.trans (S₄.dat b o' q')
      exact S₆.dat b _ (Tb.fle b _ q')
  have emit : ∀ D₆ σ₆ s₆, St g (withOwn F wr).own D₆ σ₆ s₆ → Step No D₅ σ s₅ D₆ σ₆ s₆ → CE g k sc ((x, v) :: ρ) a m BODY σ₆ P → wpAny (M g) A (BODY F.env >>= fun _ => AG) POST ERR s₆ := by
    intro D₆ σ₆ s₆ S₆ T₆ hce
    refine wpAny_bind (wpAny_mono (hce (withOwn F wr) A D₆ s₆ hcs Rm S₆ (E₅.step S₅ T₆) ha' hma hca (AC.step (F := F) S₅ T₆ ha' (fun q => q.elim) hA5)) (fun _ s₇ w => ?_) fun _ _ e => e.elim)
    obtain ⟨D₇, σ₇, S₇, T₇, E₇, m₇, hA₇, hP₇⟩ := w
    exact fin D₇ σ₇ s₇ m₇ S₇ ((T₆.own fun _ q => q.elim).trans T₇) E₇ hA₇ hP₇
  match ifs, step with
  | [], step => exact wpAny_bind (wpAny_tests_nil (emit D₅ σ s₅ S₅ .refl step))
  | _ :: _ :: _, step => exact step.elim
  | [c], step =>
    refine wpAny_bind (wpAny_tests_one (wpAny_mono (step (withOwn F wr) A D₅ s₅ hcs Rm S₅ E₅) (fun b s₆ w => ?_) fun _ _ e => e.elim))
    obtain ⟨D₆, σ₆, S₆, T₆, hb⟩ := w
    cases b with
    | true => exact emit D₆ σ₆ s₆ S₆ T₆ hb
    | false => exact fin D₆ σ₆ s₆ m S₆ (T₆.own fun _ q => q.elim) (E₅.step S₅ T₆) (AC.step (F := F) S₅ T₆ ha' (fun q => q.elim) hA5) hb
/-- the last turn -/
theorem comp_done {F : Fm} {x : Str} {px ipos : Pos} {ifs : List Expr} {it : Value} {a : Addr} {m : MO} {BODY : Sem Unit} {P : MO → Sig → Prop} {vs : List V} {IS : Nat → Heap → Prop} {Dv D0 : Fz} {σ0 : Sig} {s0 : Shared} {AG : Sem Fin} {POST : Fin → Shared → Prop} {ERR : Value → Shared → Prop}
    (ha : F.own a) (I : Itr g A (.Name x px) it wr Dv vs IS) (st : IS vs.length s.heap) (hw : ∀ b, wr b → g.hb.get? b = none ∧ ¬ F.own b ∧ s0.heap.get? b = none) (S : St g (withOwn F wr).own D σ s) (T : Step (fun b => F.md b ∨ b = a ∨ wr b) D0 σ0 s0 D σ s)
    (E : ER g F ρ D s.heap) (hA : AC g D s.heap a m) (hP : P m σ) (fin : ∀ s', CFin g F ρ a P D0 σ0 s0 s' → POST (.done .next) s') :
    wpAny (M g) A (cturn ipos (.Name x px) ifs it F.env BODY AG) POST ERR s := by
  refine wpAny_bind (wpAny_standAt (wpAny_bind ?_))
  refine wpAny_mono (I.done s st) (fun r s₃ w => ?_) fun _ _ e => e.elim
  obtain ⟨hr, h', tk, e, kp⟩ := w
  cases hr
  cases e
  have no : ∀ {b o}, s0.heap.get? b = some o → ¬ wr b := fun {b o} e q => nomatch e.symm.trans (hw b q).2.2
  obtain ⟨o, ho, r⟩ := hA
  refine wpAny_pure (fin _ ⟨D, σ, m, (S.own_sub (own := F.own) fun b q => .inl q).turnOff (tk := tk) kp fun b q => ⟨(hw b q).1, S.D_own (.inr q), S.σ_own (.inr q), (hw b q).2.1⟩,
    ⟨T.fle, T.fresh, T.mfresh, fun b o e h1 h2 => kp b o (no e) (T.keep b o e h1 fun q => q.elim (fun q => h2 (.inl q)) fun q => q.elim (fun q => h2 (.inr q)) (no e)), fun b o e => ?_⟩,
    E.keeps (.refl _) fun b o hb e => kp b o (fun q => (hw b q).2.1 hb) e, ⟨o, kp a o (fun q => (hw a q).2.1 ha) ho, r⟩, hP⟩)
  obtain ⟨o', e'⟩ := T.live b o e
  exact ⟨o', kp b o' (no e) e'⟩
theorem comp_loop {F : Fm} {e : Expr} {d : Nat} {x : Str} {px ipos : Pos} {ifs : List Expr} {it : Value} {a : Addr} {m : MO} {BODY : Env → Sem Unit} {P : List V → MO → Sig → Prop} {vs : List V} {IS : Nat → Heap → Prop}
    {D0 : Fz} {σ0 : Sig} {s0 : Shared} {md0 : Addr → Prop}
    (hC : CLoop g e d) (heq : ∀ env, compTurn e d it (.ref a) env = cturn ipos (.Name x px) ifs it env (BODY env) (again (.compLoop e d it (.ref a) env))) (hx : storableIn false sc x = true) (hρ : ρ.lookup x = none)
    (step : ∀ v rest m σ, P (v :: rest) m σ → CB g k sc ((x, v) :: ρ) a m ifs BODY σ (P rest))
    (hs : F.env.scope = sc) (Rm : Room k A) (ha : F.own a) (hma : ¬ F.md a) (hca : ∀ x ca, F.env.cells.lookup x = some ca → ca ≠ a) (S : St g F.own D σ s) (E : ER g F ρ D s.heap) (hAC : AC g D s.heap a m)
    (I : Itr g A (.Name x px) it wr D vs IS) (st : IS 0 s.heap) (hw : ∀ b, wr b → g.hb.get? b = none ∧ D b = none ∧ σ b = none ∧ ¬ F.own b ∧ s0.heap.get? b = none ∧ ∃ o, s.heap.get? b = some o) (hP : P vs m σ)
    (T0 : Step md0 D0 σ0 s0 D σ s) (hmd0 : ∀ b, md0 b → F.md b ∨ b = a ∨ wr b) :
    codeAny (M g) A (.compLoop e d it (.ref a) F.env) (fun r s' => r = .ok .next ∧ CFin g F ρ a (P []) D0 σ0 s0 s') s := by
  refine codeAny_loop (hC it (.ref a) F.env A).1 (CInv g F wr ρ a IS vs P D D0 σ0 s0) (fun n s' w => ?_) vs.length
    ⟨D, σ, 0, vs, m, S.more fun b q => ⟨(hw b q).1, (hw b q).2.1, (hw b q).2.2.1, (hw b q).2.2.2.2.2⟩, T0.own hmd0, .refl _, E.more wr, hAC, st, rfl, Nat.zero_le _, hP, rfl⟩
  rw [(hC it (.ref a) F.env A).2.2, (hC it (.ref a) F.env A).2.1]
  refine wpAny_noted ?_
  rw [heq]
  obtain ⟨D', σ', i, rest, m', S', T', hDD, E', hA', st', hr, hi', hP', hn⟩ := w
  cases rest with
  | nil =>
    cases Nat.le_antisymm hi' (List.drop_eq_nil_iff.mp hr)
    exact comp_done ha I st' (fun b q => ⟨(hw b q).1, (hw b q).2.2.2.1, (hw b q).2.2.2.2.1⟩) S' T' (E.less E') hA' hP' fun _ w => ⟨rfl, w⟩
  | cons v rest =>
    obtain ⟨hv, hlt, hd⟩ := drop_cons hr
    exact comp_item hx hρ E hs Rm ha hma hca hv I hDD st' (fun b q => (hw b q).2.2.2.1) S' E' hA' (step v rest m' σ' hP') fun D₆ σ₆ s₆ m₆ S₆ T₆ E₆ hA₆ st₆ hP₆ =>
      wpAny_pure ⟨rfl, rest.length, by rw [hn]; exact Nat.lt_succ_self _, ⟨D₆, σ₆, i + 1, rest, m₆, S₆, T'.trans T₆, hDD.trans T₆.fle, E₆, hA₆, st₆, hd, hlt, hP₆, rfl⟩⟩
end
end Mine

end
section
set_option maxRecDepth 100000
set_option linter.unusedVariables false
namespace Mine
open PySem PySem.W PyProof.Rows PySem.Calls

section
variable {g : G} {k : Nat} {sc : Scope} {ρ : Rho} {σ : Sig} {A : Around} {own md wr : Addr → Prop} {D : Fz} {s : Shared} {N : Rho → Sig → Prop} {R : V → Sig → Prop}

-- the cells that a comprehension takes along
noncomputable def closes (cells : List (Str × Addr)) : List (Str × NameKind) → List (Str × Addr) → List (Str × Addr)
  | [], acc => acc
  | (n, kd) :: r, acc => if kd == .free then closes cells r ((n, (cells.lookup n).getD 0) :: acc) else closes cells r acc
theorem closureFor_closes {scope : Scope} {env : Env} (h : ∀ n, (n, NameKind.free) ∈ scope.names → (env.cells.lookup n).isSome = true) : closureFor scope env = pure (closes env.cells scope.names []) := by
  have main : ∀ (l : List (Str × NameKind)) (acc : List (Str × Addr)), (∀ n, (n, NameKind.free) ∈ l → (env.cells.lookup n).isSome = true) →
      (forIn l acc fun (x : Str × NameKind) (r : List (Str × Addr)) => if (x.2 == NameKind.free) = true then (do let a ← cellOf env x.1; pure (ForInStep.yield ((x.1, a) :: r))) else pure (ForInStep.yield r)) = (pure (closes env.cells l acc) : Sem _) := by
    intro l
    induction l with
    | nil => intro acc _; rfl
    | cons p r ih =>
      obtain ⟨n, kd⟩ := p
      intro acc hl
      rw [List.forIn_cons]
      by_cases hk : (kd == NameKind.free) = true
      · have hkd : kd = .free := by cases kd <;> first | rfl | cases hk
        subst hkd
        obtain ⟨a, ha⟩ := Option.isSome_iff_exists.mp (hl n (.head _))
        have hc : cellOf env n = pure a := by unfold cellOf; rw [ha]
        rw [if_pos hk]
        show (cellOf env n >>= fun a => pure (ForInStep.yield ((n, a) :: acc))) >>= _ = _
        rw [hc]
        show (forIn r ((n, a) :: acc) _ : Sem _) = _
        rw [ih _ fun n hn => hl n (.tail _ hn)]
        show _ = pure (closes env.cells r ((n, (env.cells.lookup n).getD 0) :: acc))
        rw [ha]
        rfl
      · rw [if_neg hk]
        show (forIn r acc _ : Sem _) = _
        rw [ih _ fun n hn => hl n (.tail _ hn)]
        show _ = pure (if (kd == NameKind.free) = true then closes env.cells r ((n, (env.cells.lookup n).getD 0) :: acc) else closes env.cells r acc)
        rw [if_neg hk]
  have e := main scope.names [] h
  unfold closureFor
  show (forIn scope.names [] _ >>= fun cs => pure cs) = _
  rw [show (forIn scope.names ([] : List (Str × Addr)) fun (x : Str × NameKind) (r : List (Str × Addr)) => match x with | (name, kind) => if (kind == NameKind.free) = true then (do let a ← cellOf env name; pure (ForInStep.yield ((name, a) :: r))) else pure (ForInStep.yield r)) = (pure (closes env.cells scope.names []) : Sem _) from e]
  rfl
theorem closes_mem {cells : List (Str × Addr)} {x : Str} {ca : Addr} : ∀ {l : List (Str × NameKind)} {acc : List (Str × Addr)}, (closes cells l acc).lookup x = some ca → (∀ n, (n, NameKind.free) ∈ l → (cells.lookup n).isSome = true) → cells.lookup x = some ca ∨ acc.lookup x = some ca
  | [], _, h, _ => .inr h
  | (n, kd) :: r, acc, h, hl => by
    change List.lookup x (if (kd == NameKind.free) = true then closes cells r ((n, (cells.lookup n).getD 0) :: acc) else closes cells r acc) = some ca at h
    split at h
    · rename_i hk
      have hkd : kd = .free := by cases kd <;> first | rfl | cases hk
      subst hkd
      obtain ⟨a, ha⟩ := Option.isSome_iff_exists.mp (hl n (.head _))
      rw [ha] at h
      rcases closes_mem h (fun m hm => hl m (.tail _ hm)) with q | q
      · exact .inl q
      · rw [List.lookup_cons] at q
        cases e : x == n with
        | true => rw [e] at q; cases q; rw [beq_iff_eq.mp e]; exact .inl ha
        | false => rw [e] at q; exact .inr q
    · exact closes_mem h fun m hm => hl m (.tail _ hm)
theorem closes_some {cells : List (Str × Addr)} {x : Str} {ca : Addr} (hc : cells.lookup x = some ca) : ∀ {l : List (Str × NameKind)} {acc : List (Str × Addr)}, (∀ n, (n, NameKind.free) ∈ l → (cells.lookup n).isSome = true) → ((x, NameKind.free) ∈ l ∨ acc.lookup x = some ca) → (closes cells l acc).lookup x = some ca
  | [], _, _, h => h.elim (fun q => by cases q) id
  | (n, kd) :: r, acc, hl, h => by
    show List.lookup x (if (kd == NameKind.free) = true then closes cells r ((n, (cells.lookup n).getD 0) :: acc) else closes cells r acc) = some ca
    split
    · rename_i hk
      have hkd : kd = .free := by cases kd <;> first | rfl | cases hk
      subst hkd
      refine closes_some hc (fun m hm => hl m (.tail _ hm)) ?_
      rw [List.lookup_cons]
      cases e : x == n with
      | true => rw [← beq_iff_eq.mp e, hc]; exact .inr rfl
      | false =>
        rcases h with h | h
        · rcases List.mem_cons.mp h with q | q
          · cases q; simp at e
          · exact .inl q
        · exact .inr h
    · rename_i hk
      refine closes_some hc (fun m hm => hl m (.tail _ hm)) ?_
      rcases h with h | h
      · rcases List.mem_cons.mp h with q | q
        · cases q; exact absurd rfl hk
        · exact .inl q
      · exact .inr h

noncomputable def capt (scope : Scope) (ρ : Rho) : Rho := ρ.filter fun p => scope.names.lookup p.1 == some .free
theorem capt_lookup {scope : Scope} {x : Str} {v : V} : ∀ {ρ : Rho}, (capt scope ρ).lookup x = some v → ρ.lookup x = some v ∧ scope.names.lookup x = some .free
  | [], h => by simp [capt] at h
  | (n, u) :: r, h => by
    unfold capt at h
    rw [List.filter_cons] at h
    split at h
    · rename_i hk
      rw [List.lookup_cons] at h
      rw [List.lookup_cons]
      cases e : x == n with
      | true => rw [e] at h; cases h; rw [beq_iff_eq.mp e]; exact ⟨rfl, by simpa using hk⟩
      | false => rw [e] at h; exact capt_lookup h
    · rename_i hk
      obtain ⟨h1, h2⟩ := capt_lookup h
      refine ⟨?_, h2⟩
      rw [List.lookup_cons]
      cases e : x == n with
      | true => rw [beq_iff_eq.mp e] at h2; exact absurd (by rw [h2]; rfl) hk
      | false => exact h1
noncomputable def relS (scope sc : Scope) : Scope := relabel scope (envS sc)
theorem relabel_sc (scope : Scope) (env : Env) : relabel scope env = relS scope env.scope := rfl
noncomputable def compOK (scope sc : Scope) : Bool := scope.kind == .function && (scope.names.all fun p => !(p.2 == .cell) && (!(p.2 == .local) || scope.names.lookup p.1 == some .local) && (!(p.2 == .free) || sc.names.lookup p.1 == some .cell || sc.names.lookup p.1 == some .free)) &&
  (scope.names.lookup ("__debug__" : Str)).isNone && (scope.names.lookup ("__classdict__" : Str)).isNone
noncomputable def freeIn (scope : Scope) (ρ : Rho) : Bool := scope.names.all fun p => !(p.2 == .free) || (ρ.lookup p.1).isSome
theorem lookup_relabel_map {env : Env} {x : Str} : ∀ {names : List (Str × NameKind)}, (names.map fun (n, k) => if (k == NameKind.free && env.scope.kind == .function && env.kindOf n == some .cell) then (n, NameKind.cell) else (n, k)).lookup x =
    (names.lookup x).map fun k => if (k == NameKind.free && env.scope.kind == .function && env.kindOf x == some .cell) then .cell else k
  | [] => rfl
  | (n, k) :: r => by
    rw [List.map_cons]
    have key : (if (k == NameKind.free && env.scope.kind == .function && env.kindOf n == some .cell) = true then (n, NameKind.cell) else (n, k)) = (n, if (k == NameKind.free && env.scope.kind == .function && env.kindOf n == some .cell) = true then NameKind.cell else k) := by split <;> rfl
    show List.lookup x ((if (k == NameKind.free && env.scope.kind == .function && env.kindOf n == some .cell) = true then (n, NameKind.cell) else (n, k)) :: _) = _
    rw [key, List.lookup_cons, List.lookup_cons]
    cases e : x == n with
    | true => rw [beq_iff_eq.mp e]; rfl
    | false => exact lookup_relabel_map
noncomputable def cFm (F : Fm) (scope : Scope) (C : Addr) (a : Addr) : Fm := ⟨compEnvC scope (closes F.env.cells scope.names []) C F.env, fun b => F.own b ∨ (b = C ∨ b = a), fun b => b = C, fun _ => none⟩

structure Clos (F : Fm) (scope : Scope) : Prop where
  kind : scope.kind = .function
  nocell : ∀ x ∈ scope.names, x.2 ≠ .cell
  locl : ∀ x ∈ scope.names, x.2 = .local → scope.names.lookup x.1 = some .local
  ndb : scope.names.lookup ("__debug__" : Str) = none
  ncd : scope.names.lookup ("__classdict__" : Str) = none
  frees : ∀ n, (n, NameKind.free) ∈ scope.names → F.env.kindOf n ≠ some .local
  cells : ∀ n, (n, NameKind.free) ∈ scope.names → (F.env.cells.lookup n).isSome = true
theorem Clos.of {F : Fm} {scope : Scope} {h : Heap} (E : ER g F ρ D h) (h1 : compOK scope F.env.scope = true) (h2 : freeIn scope ρ = true) : Clos F scope := by
  unfold compOK at h1
  simp only [Bool.and_eq_true, Option.isNone_iff_eq_none] at h1
  obtain ⟨⟨⟨h3, h4⟩, h5⟩, h6⟩ := h1
  have all : ∀ x ∈ scope.names, (x.2 == NameKind.cell) = false ∧ ((x.2 == NameKind.local) = false ∨ scope.names.lookup x.1 = some .local) ∧ ((x.2 == NameKind.free) = false ∨ F.env.scope.names.lookup x.1 = some .cell ∨ F.env.scope.names.lookup x.1 = some .free) := fun x hx => by
    have := List.all_eq_true.mp h4 x hx
    simp only [Bool.and_eq_true, Bool.or_eq_true, Bool.not_eq_true', beq_iff_eq] at this
    obtain ⟨⟨a, b⟩, c⟩ := this
    refine ⟨?_, ?_, ?_⟩
    · exact a
    · exact b
    · rcases c with (c | c) | c
      · exact .inl c
      · exact .inr (.inl c)
      · exact .inr (.inr c)
  have fr : ∀ n, (n, NameKind.free) ∈ scope.names → F.env.kindOf n ≠ some .local := fun n hn e => by
    rcases (all _ hn).2.2 with q | q | q
    · cases q
    · exact absurd (q.symm.trans e) (by intro h; cases h)
    · exact absurd (q.symm.trans e) (by intro h; cases h)
  refine ⟨beq_kindS h3, fun x hx e => ?_, fun x hx e => ?_, h5, h6, fr, fun n hn => ?_⟩
  · have := (all x hx).1; rw [e] at this; cases this
  · rcases (all x hx).2.1 with q | q
    · rw [e] at q; cases q
    · exact q
  · have := List.all_eq_true.mp h2 _ hn
    have : (ρ.lookup n).isSome = true := by simpa using this
    obtain ⟨v, hv⟩ := Option.isSome_iff_exists.mp this
    obtain ⟨_, ca, c, e, _⟩ := E.cls n v hv (fr n hn)
    rw [e]; rfl
where
  beq_kindS {a b : ScopeKind} (h : (a == b) = true) : a = b := by cases a <;> cases b <;> first | rfl | cases h

theorem ER.comp {F : Fm} {scope : Scope} {C a : Addr} {m : Str → Option Value} {h : Heap} (E : ER g F ρ D h) (hc : Clos F scope) (hn : h.Ns C m) (hC : ∀ b, F.own b → b ≠ C) : ER g (cFm F scope C a) (capt scope ρ) D h := by
  have kof : ∀ x, (cFm F scope C a).env.kindOf x = (scope.names.lookup x).map fun k => if (k == NameKind.free && F.env.scope.kind == .function && F.env.kindOf x == some .cell) then .cell else k := fun x => lookup_relabel_map
  have cl : ∀ x ca, (closes F.env.cells scope.names []).lookup x = some ca → F.env.cells.lookup x = some ca := fun x ca e => (closes_mem e hc.cells).elim id fun q => by simp at q
  refine ⟨?_, E.glb, E.blt, .inr (.inl rfl), rfl, fun b hb => .inr (.inl hb), ?_, ?_, ⟨m, hn, fun x v hx hk => ?_⟩, fun x v hx hk => ?_, fun x ca e => (by cases e), fun x ca e => ?_, fun x y ca e1 e2 => E.inj x y ca (cl _ _ e1) (cl _ _ e2)⟩
  · exact hc.kind
  · rw [kof, hc.ndb]; rfl
  · rw [kof, hc.ncd]; rfl
  · obtain ⟨_, h2⟩ := capt_lookup hx
    rw [kof, h2] at hk
    simp only [Option.map_some] at hk
    split at hk <;> cases hk
  · obtain ⟨h1, h2⟩ := capt_lookup hx
    have hm : (x, NameKind.free) ∈ scope.names := mem_of_lookup h2
    obtain ⟨_, ca, c, e1, e2, e3⟩ := E.cls x v h1 (hc.frees x hm)
    refine ⟨?_, ca, c, closes_some e1 hc.cells (.inl hm), e2, e3⟩
    rw [kof, h2]
    simp only [Option.map_some]
    split
    · exact .inl rfl
    · exact .inr rfl
  · obtain ⟨o1, o2⟩ := E.ocl x ca (cl _ _ e)
    exact ⟨.inl o1, hC ca o1⟩
end
end Mine

end
section
set_option maxRecDepth 100000
set_option linter.unusedVariables false
namespace Mine
open PySem PySem.W PyProof.Rows PySem.Calls

section
variable {g : G} {k : Nat} {sc : Scope} {ρ : Rho} {σ : Sig} {A : Around} {own md wr : Addr → Prop} {D : Fz} {s : Shared} {N : Rho → Sig → Prop} {R : V → Sig → Prop}

noncomputable def CStart (g : G) (e : Expr) (d : Nat) : Prop := ∀ it acc env A, (M g).den (.compStart e d it acc env) = (compStart e d it acc env).onRaise (fun x => do noteFrame x env; standAt theWindowsPlace) ∧ Around.under A (.compStart e d it acc env) = A ∧ ∃ g0, (clausesOf e)[d]? = some g0 ∧ g0.is_async = 0
theorem comp_start {e : Expr} {d : Nat} {it acc : Value} {env : Env} {RR : Result → Shared → Prop} (hS : CStart g e d) (hC : CLoop g e d) (hself : ∀ (Q : Value → Shared → Prop) E, Q it s → wpAny (M g) A (pyIter it) Q E s)
    (h : codeAny (M g) A (.compLoop e d it acc env) RR s) : codeAny (M g) A (.compStart e d it acc env) RR s := by
  obtain ⟨h1, h2, g0, h3, h4⟩ := hS it acc env A
  have hq := (hC it acc env A).1
  refine codeAny_of_tree ?_
  rw [h1, h2]
  refine wpAny_notedAt ?_
  unfold compStart
  rw [h3]
  show wpAny _ A (if ((g0.is_async != 0) = true) then _ else _) _ _ s
  rw [h4]
  show wpAny _ A (ask >>= _) _ _ s
  refine wpAny_bind (wpAny_askSetting (wpAny_ite ?_))
  split
  · first
      | exact wpAny_bind (wpAny_pure (wpAny_pure ⟨hq, h⟩))
      | exact wpAny_pure ⟨hq, h⟩
  · refine wpAny_bind (wpAny_rule ?_)
    show wpAny _ _ (standAt g0.iter.pos >>= _) _ _ s
    exact wpAny_bind (wpAny_standAt (wpAny_bind (hself _ _ (wpAny_pure ⟨hq, h⟩))))

theorem Step.hide {md' : Addr → Prop} {D' : Fz} {σ' : Sig} {s' : Shared} (T : Step md' D σ s D' σ' s') (h : ∀ b, md' b → md b ∨ s.heap.get? b = none) : Step md D σ s D' σ' s' :=
  ⟨T.fle, T.fresh, T.mfresh, fun b o e h1 h2 => T.keep b o e h1 (fun q => (h b q).elim h2 (fun z => by rw [z] at e; cases e)), T.live⟩

noncomputable def UsePost (g : G) (A : Around) (use : Option (Value → Sem Unit)) (Q : Value → Shared → Prop) (a C : Addr) (s' : Shared) : Prop := match use with
  | none => ∀ h', Heap.SameBut C s'.heap h' → Q (.ref a) { s' with heap := h' }
  | some u => wpAny (M g) A (u (.ref a)) (fun _ s'' => ∃ m, s''.heap.Ns C m ∧ ∀ h', Heap.SameBut C s''.heap h' → Q .none { s'' with heap := h' }) NoE s'
theorem W.comp {F : Fm} {e : Expr} {scope : Scope} {pos : Pos} {newAcc : Sem Value} {x : Str} {px : Pos} {iter : Expr} {ifs : List Expr} {gs : List Comprehension} {o0 : Obj} {m0 : MO} {P : List V → MO → Sig → Prop} {BODY : Addr → Env → Sem Unit}
    {use : Option (Value → Sem Unit)} {Q : Value → Shared → Prop} (hcl : clausesOf e = ⟨.Name x px, iter, ifs, 0⟩ :: gs) (hset : ∀ env y, foldedSetIterable iter env y = Pure.pure y) (hok : compOK scope sc = true) (hfr : freeIn scope ρ = true)
    (hnew : ∀ s Q, Q (.ref s.heap.objs.size) { s with heap := s.heap.push o0 } → wpAny (M g) A newAcc Q NoE s) (ho0 : o0.isFreed = false) (hr0 : ∀ D, OR g D m0 o0) (hnd : ∀ D m o, OR g D m o → o.isFreed = false)
    (hC : CLoop g e 0) (hS : CStart g e 0) (heq : ∀ it a env, compTurn e 0 it (.ref a) env = cturn iter.pos (.Name x px) ifs it env (BODY a env) (again (.compLoop e 0 it (.ref a) env)))
    (hx : storableIn false (relS scope sc) x = true) (hρ : (capt scope ρ).lookup x = none) (hIT : IT g k sc ρ (.Name x px) iter σ fun vs σ₁ => P vs m0 σ₁)
    (step : ∀ a v rest m σ, P (v :: rest) m σ → CB g k (relS scope sc) ((x, v) :: capt scope ρ) a m ifs (BODY a) σ (P rest))
    (hs : F.env.scope = sc) (Rm : Room k A) (S : St g F.own D σ s) (E : ER g F ρ D s.heap)
    (fin : ∀ a C D' σ' s' m' o mm, St g (fun b => F.own b ∨ b = C) D' σ' s' → Step No D σ s D' σ' s' → ER g F ρ D' s'.heap → D' a = some o → OR g D' m' o → P [] m' σ' → s.heap.get? C = none → s'.heap.Ns C mm → g.hb.get? C = none ∧ D' C = none ∧ σ' C = none →
      UsePost g A use Q a C s') :
    wpAny (M g) A (comprehension e scope F.env pos newAcc false (eval iter F.env) use) Q NoE s := by
  have hc : Clos F scope := Clos.of E (by rw [hs]; exact hok) hfr
  refine wpAny_comprehension_free hcl (hset _) (closureFor_closes hc.cells) hc.kind hc.locl ?_
  refine wpAny_mono (hIT F A D s hs Rm S E) (fun c s₁ w => ?_) fun _ _ e => e.elim
  obtain ⟨D₁, σ₁, S₁, T₁, h₁⟩ := w
  refine wpAny_mono h₁ (fun it s₂ w => ?_) fun _ _ e => e.elim
  obtain ⟨D₂, σ₂, S₂, T₂, wr, IS, vs, hP, I, st, hw⟩ := w
  have T₀ := T₁.trans T₂
  refine hnew s₂ _ ?_
  refine wpAny_newFunctionEnv hc.nocell (by intro y hy; simp at hy) (fun h₁ hns₁ hsb₁ => ?_) hc.kind
  dsimp only at hns₁ hsb₁ ⊢
  generalize hH2 : s₂.heap.push o0 = H2 at hns₁ hsb₁ ⊢
  have hCs : H2.objs.size = s₂.heap.objs.size + 1 := by rw [← hH2, Heap.size_push]
  have hCa : H2.objs.size ≠ s₂.heap.objs.size := by rw [hCs]; exact Nat.succ_ne_self _
  have old : ∀ b o, s₂.heap.get? b = some o → h₁.get? b = some o := fun b o e => hsb₁.extBut b o (by have := Heap.lt_size e; rw [hCs]; exact Nat.ne_of_lt (Nat.lt_succ_of_lt this)) (Heap.get?_push_of_some _ (hH2 ▸ Heap.get?_push_of_some _ e))
  have hacc : h₁.get? s₂.heap.objs.size = some o0 := hsb₁.extBut _ _ hCa.symm (Heap.get?_push_of_some _ (hH2 ▸ Heap.get?_push_size _ ho0))
  have f2 : ∀ b, (b = H2.objs.size ∨ b = s₂.heap.objs.size) → s₂.heap.get? b = none := fun b hb => none_ge s₂ (by rcases hb with rfl | rfl; rw [hCs]; exact Nat.le_succ _; exact Nat.le_refl _)
  have f0 : ∀ b, (b = H2.objs.size ∨ b = s₂.heap.objs.size) → s.heap.get? b = none := fun b hb => T₀.dead (f2 b hb)
  obtain ⟨oC, _, _, hoC, _⟩ := id hns₁
  have Sk : St g F.own D₂ σ₂ { s₂ with heap := h₁, toks := s₂.toks + ([] : List (Str × Value)).length } := S₂.keeps old
  have Sm : St g (cFm F scope H2.objs.size s₂.heap.objs.size).own D₂ σ₂ { s₂ with heap := h₁, toks := s₂.toks + ([] : List (Str × Value)).length } := Sk.more (wr := fun b => b = H2.objs.size ∨ b = s₂.heap.objs.size) fun b hb => ⟨base_none S₂ (f2 b hb), S₂.D_none (f2 b hb), S₂.σ_none (f2 b hb), by
    rcases hb with rfl | rfl
    · exact ⟨_, hoC⟩
    · exact ⟨_, hacc⟩⟩
  have hoC' : ∀ b, F.own b → b ≠ H2.objs.size := fun b hb e => by
    obtain ⟨o, ho⟩ := S₂.oex b hb
    rw [f2 b (.inl e)] at ho; cases ho
  have E₂ := ((E.step S T₁).step S₁ T₂).keeps (h' := h₁) (D' := D₂) (.refl _) fun b o _ e => old b o e
  have Ec : ER g (cFm F scope H2.objs.size s₂.heap.objs.size) (capt scope ρ) D₂ h₁ := E₂.comp hc hns₁ hoC'
  have hscope : (cFm F scope H2.objs.size s₂.heap.objs.size).env.scope = relS scope sc := by
    show relabel scope F.env = _
    rw [relabel_sc, hs]
  have Tk : Step No D σ s D₂ σ₂ { s₂ with heap := h₁, toks := s₂.toks + ([] : List (Str × Value)).length } := T₀.trans (Step.keeps old)
  have loop := comp_loop (F := cFm F scope H2.objs.size s₂.heap.objs.size) (e := e) (d := 0) (md0 := No) (BODY := BODY s₂.heap.objs.size) (m := m0) hC (fun env => heq it s₂.heap.objs.size env) hx hρ (fun v rest m σ h => step s₂.heap.objs.size v rest m σ h) hscope Rm (.inr (.inr rfl)) hCa.symm (fun y ca hy e => by
      have hcl' := (closes_mem (show (closes F.env.cells scope.names []).lookup y = some ca from hy) hc.cells).elim id fun q => by simp at q
      obtain ⟨o, ho⟩ := S₂.oex ca (E.ocl y ca hcl').1
      rw [f2 ca (.inr e)] at ho; cases ho) Sm Ec
    ⟨o0, hacc, hr0 D₂⟩ I (I.frame 0 _ _ st fun b o _ e => old b o e) (s0 := s) (fun b hb => ⟨base_none S (hw b hb).1, (hw b hb).2.1, (hw b hb).2.2.1, (fun q => by
      obtain ⟨o, ho⟩ := (hw b hb).2.2.2
      rcases q with q | q
      · exact S.own_none (hw b hb).1 q
      · rw [f2 b q] at ho; cases ho), (hw b hb).1, by obtain ⟨o, ho⟩ := (hw b hb).2.2.2; exact ⟨o, old b o ho⟩⟩) hP Tk (fun b q => q.elim)
  refine comp_start hS hC (fun Q E q => I.self _ Q E (I.frame 0 _ _ st fun b o _ e => old b o e) q) (codeAny_mono loop fun r s' w => ?_)
  obtain ⟨hr, D', σ', m', S', T', E', ⟨o, ho, hor⟩, hP'⟩ := w
  subst hr
  obtain ⟨mm, hnC, _⟩ := E'.locs
  have hCmd : ∀ b, (b = H2.objs.size ∨ b = s₂.heap.objs.size) → (cFm F scope H2.objs.size s₂.heap.objs.size).own b := fun b hb => .inr hb
  have nD : ∀ b, (b = H2.objs.size ∨ b = s₂.heap.objs.size) → D' b = none ∧ σ' b = none := fun b hb => ⟨S'.D_own (hCmd b hb), S'.σ_own (hCmd b hb)⟩
  have Th : Step No D σ s D' σ' s' := T'.hide fun b q => .inr (f0 b q)
  have Eo := E.step S Th
  have S1 : St g (fun b => F.own b ∨ b = H2.objs.size) D' σ' s' := S'.own_sub fun b q => q.elim .inl fun q => .inr (.inl q)
  have ha := nD _ (.inr rfl)
  have hae : ¬ (F.own s₂.heap.objs.size ∨ s₂.heap.objs.size = H2.objs.size) := fun q => q.elim (fun q => S₂.own_none (f2 _ (.inr rfl)) q) fun q => hCa q.symm
  have S2 := S1.ghostD ho ha.1 ha.2 hae S₂.ne_sys
  have T2 := Th.ghostD (o := o) ha.1 (f0 _ (.inr rfl))
  have hle : Fle D' (D'.put s₂.heap.objs.size o) := Fz.put_le ha.1
  have C3 := nD _ (.inl rfl)
  have key := fin s₂.heap.objs.size H2.objs.size (D'.put s₂.heap.objs.size o) σ' s' m' o mm S2 T2 (Eo.keeps hle fun _ _ _ e => e) (Fz.put_self ..) (hor.mono hle) hP' (f0 _ (.inl rfl)) hnC
    ⟨base_none S (f0 _ (.inl rfl)), by unfold Fz.put; rw [if_neg hCa]; exact C3.1, C3.2⟩
  cases use with
  | none => exact ⟨mm, hnC, key⟩
  | some u => exact key

-- what is done of an item
theorem ER.turn {F : Fm} {h h' : Heap} {a : Addr} (E : ER g F ρ D h) (hs : Heap.SameBut a h h') (h1 : F.env.locals ≠ a) (h2 : ∀ x ca, F.env.cells.lookup x = some ca → ca ≠ a) : ER g F ρ D h' :=
  { E with
    locs := let ⟨m, hn, hm⟩ := E.locs; ⟨m, hn.sameBut hs h1, hm⟩
    cls := fun x v a b => let ⟨hk, ca, c, e, hc, r⟩ := E.cls x v a b; ⟨hk, ca, c, e, hc.sameBut hs (h2 x ca e), r⟩
    oc := fun x ca a => let ⟨e, m, v, hc⟩ := E.oc x ca a; ⟨e, m, v, hc.sameBut hs (h2 x ca e)⟩ }
theorem ce_list {a : Addr} {elt : Expr} {us : List V} {Q : MO → Sig → Prop} (h : EV g k sc ρ elt σ fun u σ₁ => us.length ≤ sizeLine ∧ Q (.list (us ++ [u])) σ₁) :
    CE g k sc ρ a (.list us) (fun env => do let _ ← call (.builtin "list.append") [.ref a, ← eval elt env]) σ Q := by
  intro F A D s hs Rm S E ha hma hca hac
  show W g A F.own (fun b => F.md b ∨ b = a) (eval elt F.env >>= fun v => call (.builtin "list.append") [.ref a, v] >>= fun _ => pure ()) D σ s _
  refine h.thenM hs Rm S E fun c u D₁ σ₁ s₁ r₁ ⟨hl, q⟩ S₁ E₁ T₁ => ?_
  obtain ⟨o, ho, r⟩ := AC.step (F := F) S T₁ ha (fun q => q.elim) hac
  cases r with
  | list rs =>
    rename_i cs n
    refine W.bind (append_at ho (fun h' hsb ho' => ?_) (by rw [List.size_toArray, rs.length]; exact hl))
    have e : ({ cls := .type "list", data := .seq (cs.toArray.push c) (n + 1) } : Obj) = lstO (cs ++ [c]) (n + 1) := by simp
    rw [e] at ho'
    have S2 := S₁.turnOwn (tk := s₁.toks) ha hsb ho'
    refine ⟨D₁, σ₁, S2, Step.turnOwn (.inr rfl) hsb ho', W.pure S2 ⟨E₁.turn hsb (fun e => hma (e ▸ E.mdL)) hca, _, ⟨_, ho', .list (rs.append (.cons r₁ .nil))⟩, q⟩⟩
end
end Mine

end
section
set_option maxRecDepth 100000
set_option linter.unusedVariables false
namespace Mine
open PySem PySem.W PyProof.Rows PySem.Calls

section
variable {g : G} {k : Nat} {sc : Scope} {ρ : Rho} {σ : Sig} {A : Around} {own md wr : Addr → Prop} {D : Fz} {s : Shared} {N : Rho → Sig → Prop} {R : V → Sig → Prop}

/-- a comprehension, its value told -/
noncomputable def CX (g : G) (k : Nat) (sc : Scope) (ρ : Rho) (e : Expr) (scope : Scope) (pos : Pos) (newAcc : Sem Value) (iter : Expr) (σ : Sig) (Qv : V → Sig → Prop) : Prop :=
  ∀ F A D s (use : Option (Value → Sem Unit)) (Q : Value → Shared → Prop), F.env.scope = sc → Room k A → St g F.own D σ s → ER g F ρ D s.heap →
    (∀ a C D' σ' s' v mm, St g (fun b => F.own b ∨ b = C) D' σ' s' → Step No D σ s D' σ' s' → ER g F ρ D' s'.heap → VR g D' v (.ref a) → Qv v σ' → s.heap.get? C = none → s'.heap.Ns C mm → g.hb.get? C = none ∧ D' C = none ∧ σ' C = none →
      UsePost g A use Q a C s') →
    wpAny (M g) A (comprehension e scope F.env pos newAcc false (eval iter F.env) use) Q NoE s

theorem clear_C {F : Fm} {C : Addr} {D' : Fz} {σ' : Sig} {s' : Shared} {h' : Heap} (S' : St g (fun b => F.own b ∨ b = C) D' σ' s') (T' : Step md D σ s D' σ' s') (hC : s.heap.get? C = none) (h3 : g.hb.get? C = none ∧ D' C = none ∧ σ' C = none) (hF : ¬ F.own C) (hs : Heap.SameBut C s'.heap h') :
    St g F.own D' σ' { s' with heap := h' } ∧ Step md D σ s D' σ' { s' with heap := h' } := by
  have kp : ∀ b o, ¬ (b = C) → s'.heap.get? b = some o → h'.get? b = some o := fun b o q e => hs.extBut b o q e
  have S1 := (S'.own_sub (own := F.own) fun b q => .inl q).turnOff (wr := fun b => b = C) (tk := s'.toks) kp fun b q => by subst q; exact ⟨h3.1, h3.2.1, h3.2.2, hF⟩
  refine ⟨S1, T'.fle, T'.fresh, T'.mfresh, fun b o e h1 h2 => kp b o (fun q => by rw [q, hC] at e; cases e) (T'.keep b o e h1 h2), fun b o e => ?_⟩
  obtain ⟨o', e'⟩ := T'.live b o e
  exact ⟨o', kp b o' (fun q => by rw [q, hC] at e; cases e) e'⟩

theorem ev_of_cx {e iter : Expr} {scope : Scope} {newAcc : Sem Value} {Q : V → Sig → Prop} (h : CX g k sc ρ e scope iter.pos newAcc iter σ Q) (he : ∀ env, eval e env = comprehension e scope env iter.pos newAcc false (eval iter env) none) : EV g k sc ρ e σ Q := by
  intro F A D s hs Rm S E
  rw [he]
  refine h F A D s none _ hs Rm S E fun a C D' σ' s' v mm S' T' E' rv q hC hn h3 => ?_
  intro h' hs'
  have hF : ¬ F.own C := S.own_none hC
  obtain ⟨S1, T1⟩ := clear_C S' T' hC h3 hF hs'
  exact ⟨D', σ', S1, T1, v, rv, q⟩
theorem ex_of_cx {e iter : Expr} {scope : Scope} {spos py : Pos} {newAcc : Sem Value} {y : Str} {N : Rho → Sig → Prop} (h : CX g k sc ρ e scope iter.pos newAcc iter σ fun v σ' => N ((y, v) :: ρ) σ')
    (he : ∀ env use, evalThenUse e env use = (do let _ ← comprehension e scope env iter.pos newAcc false (eval iter env) (some use))) (hk : storableIn true sc y = true)
    (hsw : autoParam (swapsWith e (some (.Name y py)) spos.line (envS sc) = pure true) Mine.sxR) : EX1 g k sc ρ (.Assign [.Name y py] e spos) σ N R := by
  intro F A D s hs hc Rm S E
  rw [exec_Assign_Name_used _ _ _ _ (by rw [swaps_sc, hs]; exact hsw), he]
  refine wpAny_bind (wpAny_standAt (wpAny_bind (wpAny_bind ?_)))
  refine wpAny_mono (h F A D s (some (assign (.Name y py) F.env)) (fun _ s' => WR g F.own F.md D σ s (fun D' σ' s' => XP g F N R .next D' σ' s') s') hs Rm S E fun a C D' σ' s' v mm S' T' E' rv q hC hn h3 => ?_) (fun _ s' hq => wpAny_pure (wpAny_pure hq)) fun _ _ e => e
  have hF : ¬ F.own C := S.own_none hC
  have hcs : (withOwn F fun b => b = C).env.scope = sc := hs
  refine wpAny_mono (asn_name (N := fun ρ₁ σ₁ => ρ₁ = (y, v) :: ρ ∧ σ₁ = σ') (fn := true) (pos := py) hk ⟨rfl, rfl⟩ (withOwn F fun b => b = C) A D' s' (.ref a) hcs (fun _ => hc) Rm S' (E'.more _) rv) (fun _ s₂ w => ?_) fun _ _ e => e.elim
  obtain ⟨D₂, σ₂, S₂, T₂, ρ₂, E₂, e1, e2⟩ := w
  subst e1
  have e2' := e2
  clear e2
  subst e2'
  have hnm : ¬ F.md C := fun q => hF (E.sub _ q)
  refine ⟨mm, hn.at' fun o e => T₂.keep C o e h3.2.2 hnm, fun h' hs' => ?_⟩
  have hD2 : D₂ C = none := by
    cases q : D₂ C with
    | none => rfl
    | some o => exact absurd (.inr rfl) (S₂.dO C o q)
  have T3 : Step F.md D σ s D₂ σ₂ s₂ := (T'.own fun _ q => q.elim).trans T₂
  obtain ⟨S1, T1⟩ := clear_C S₂ T3 hC ⟨h3.1, hD2, h3.2.2⟩ hF hs'
  refine ⟨D₂, σ₂, S1, T1, _, (E.less E₂).keeps (.refl _) fun b o hb e => hs'.extBut b o (fun q => hF (q ▸ hb)) e, q⟩

-- the steps of a list comprehension
noncomputable def listBody (elt : Expr) (a : Addr) (env : Env) : Sem Unit := do let _ ← call (.builtin "list.append") [.ref a, ← eval elt env]
noncomputable def LSTEP (g : G) (k : Nat) (sc : Scope) (ρ : Rho) (ifs : List Expr) (elt : Expr) (us : List V) (σ : Sig) (Q : List V → Sig → Prop) : Prop := match ifs with
  | [] => EV g k sc ρ elt σ fun u σ₁ => us.length ≤ sizeLine ∧ Q (us ++ [u]) σ₁
  | [c] => TR g k sc ρ c σ fun b σ₁ => if b = true then EV g k sc ρ elt σ₁ fun u σ₂ => us.length ≤ sizeLine ∧ Q (us ++ [u]) σ₂ else Q us σ₁
  | _ => False
theorem cb_of_lstep {ifs : List Expr} {elt : Expr} {us : List V} {Q : List V → Sig → Prop} {a : Addr} (h : LSTEP g k sc ρ ifs elt us σ Q) : CB g k sc ρ a (.list us) ifs (listBody elt a) σ fun m σ' => ∃ us', m = .list us' ∧ Q us' σ' := by
  cases ifs with
  | nil => exact ce_list (EV.mono h fun u σ' ⟨h1, h2⟩ => ⟨h1, _, rfl, h2⟩)
  | cons c r =>
    cases r with
    | cons => exact h.elim
    | nil =>
      refine TR.mono h fun b σ' q => ?_
      cases b
      · exact ⟨_, rfl, q⟩
      · exact ce_list (EV.mono q fun u σ' ⟨h1, h2⟩ => ⟨h1, _, rfl, h2⟩)
theorem OR.live {D : Fz} {m : MO} {o : Obj} (h : OR g D m o) : o.isFreed = false := h.notFreed
theorem cx_list {elt iter : Expr} {x : Str} {px pos : Pos} {ifs : List Expr} {scope : Scope} {P : List V → List V → Sig → Prop} {Q : V → Sig → Prop}
    (hIT : IT g k sc ρ (.Name x px) iter σ fun vs σ₁ => P vs [] σ₁)
    (step : ∀ v rest us σ, P (v :: rest) us σ → LSTEP g k (relS scope sc) ((x, v) :: capt scope ρ) ifs elt us σ (P rest)) (fin : ∀ us σ, P [] us σ → Q (.lst us) σ)
    (hok : compOK scope sc = true) (hfr : freeIn scope ρ = true) (hx : storableIn false (relS scope sc) x = true) (hρ : (capt scope ρ).lookup x = none)
    (hset : autoParam (∀ env y, foldedSetIterable iter env y = pure y) Mine.sxI) : CX g k sc ρ (.ListComp elt [⟨.Name x px, iter, ifs, 0⟩] scope pos) scope iter.pos (newList []) iter σ Q := by
  intro F A D s use Qf hs Rm S E hfin
  refine W.comp (m0 := .list []) (o0 := lstO [] 0) (P := fun vs m σ' => ∃ us, m = .list us ∧ P vs us σ') (BODY := listBody elt) rfl hset hok hfr (fun s Q q => wpAny_newObj_type q) rfl (fun D => .list .nil) (fun D m o h => h.notFreed) (fun it acc env A => ⟨rfl, rfl, rfl⟩) (fun it acc env A => ⟨rfl, rfl, _, rfl, rfl⟩)
    (fun it a env => rfl) hx hρ (hIT.mono fun _ _ q => ⟨[], rfl, q⟩) (fun a v rest m σ' ⟨us, hm, hp⟩ => by subst hm; exact cb_of_lstep (step v rest us σ' hp)) hs Rm S E ?_
  rintro a C D' σ' s' m' o mm S' T' E' hDa hor ⟨us, rfl, hp⟩ hC hn h3
  cases hor with
  | list rs => exact hfin a C D' σ' s' (.lst us) mm S' T' E' (.lst hDa rs) (fin us σ' hp) hC hn h3
theorem ev_listcomp {elt iter : Expr} {x : Str} {px pos : Pos} {ifs : List Expr} {scope : Scope} {Q : V → Sig → Prop} (h : CX g k sc ρ (.ListComp elt [⟨.Name x px, iter, ifs, 0⟩] scope pos) scope iter.pos (newList []) iter σ Q) :
    EV g k sc ρ (.ListComp elt [⟨.Name x px, iter, ifs, 0⟩] scope pos) σ Q := ev_of_cx h fun env => rfl
theorem ex_listcomp {elt iter : Expr} {x y : Str} {px py pos spos : Pos} {ifs : List Expr} {scope : Scope} {N : Rho → Sig → Prop} (h : CX g k sc ρ (.ListComp elt [⟨.Name x px, iter, ifs, 0⟩] scope pos) scope iter.pos (newList []) iter σ fun v σ' => N ((y, v) :: ρ) σ')
    (hk : storableIn true sc y = true) (hsw : autoParam (swapsWith (.ListComp elt [⟨.Name x px, iter, ifs, 0⟩] scope pos) (some (.Name y py)) spos.line (envS sc) = pure true) Mine.sxR) :
    EX1 g k sc ρ (.Assign [.Name y py] (.ListComp elt [⟨.Name x px, iter, ifs, 0⟩] scope pos) spos) σ N R := ex_of_cx h (fun env use => rfl) hk hsw

-- two clauses
noncomputable def gen2Body (e iter2 : Expr) (a : Addr) (env : Env) : Sem Unit := do
  let x ← eval iter2 env
  standAt iter2.pos
  let x ← foldedSetIterable iter2 env x
  let _ ← runOwn (.compStart e 1 (← holding [x] (pyIter x)) (.ref a) env) env
theorem cturn_gen2 (elt target iter target2 iter2 : Expr) (ifs2 : List Expr) (scope : Scope) (pos : Pos) (it : Value) (a : Addr) (env : Env) :
    compTurn (.ListComp elt [⟨target, iter, [], 0⟩, ⟨target2, iter2, ifs2, 0⟩] scope pos) 0 it (.ref a) env =
    cturn iter.pos target [] it env (gen2Body (.ListComp elt [⟨target, iter, [], 0⟩, ⟨target2, iter2, ifs2, 0⟩] scope pos) iter2 a env) (again (.compLoop (.ListComp elt [⟨target, iter, [], 0⟩, ⟨target2, iter2, ifs2, 0⟩] scope pos) 0 it (.ref a) env)) := by
  have e1 : compTurn (.ListComp elt [⟨target, iter, [], 0⟩, ⟨target2, iter2, ifs2, 0⟩] scope pos) 0 it (.ref a) env = (do
      standAt iter.pos
      match ← pyNext it with
      | none => pure (.done .next)
      | some v =>
        letOwnedTupleGo target it v
        assign target env v
        let x ← eval iter2 env
        standAt iter2.pos
        let x ← foldedSetIterable iter2 env x
        let _ ← runOwn (.compStart (.ListComp elt [⟨target, iter, [], 0⟩, ⟨target2, iter2, ifs2, 0⟩] scope pos) 1 (← holding [x] (pyIter x)) (.ref a) env) env
        again (.compLoop (.ListComp elt [⟨target, iter, [], 0⟩, ⟨target2, iter2, ifs2, 0⟩] scope pos) 0 it (.ref a) env)) := rfl
  rw [e1]
  unfold cturn gen2Body
  simp only [List.forIn_nil, pure_bind, if_true, bind_assoc]
  all_goals congr 1
theorem ce_gen2 {e iter2 : Expr} {a : Addr} {m : MO} {y : Str} {py : Pos} {ifs2 : List Expr} {P : List V → MO → Sig → Prop} {Q : MO → Sig → Prop} {BODY : Env → Sem Unit} (hC : CLoop g e 1) (hS : CStart g e 1)
    (heq : ∀ it env, compTurn e 1 it (.ref a) env = cturn iter2.pos (.Name y py) ifs2 it env (BODY env) (again (.compLoop e 1 it (.ref a) env)))
    (hset : ∀ env y, foldedSetIterable iter2 env y = pure y) (hx : storableIn false sc y = true) (hρ : ρ.lookup y = none)
    (hIT : IT g k sc ρ (.Name y py) iter2 σ fun vs σ₁ => P vs m σ₁)
    (step : ∀ v rest m σ, P (v :: rest) m σ → CB g k sc ((y, v) :: ρ) a m ifs2 BODY σ (P rest)) (fin : ∀ m σ, P [] m σ → Q m σ) :
    CE g k sc ρ a m (gen2Body e iter2 a) σ Q := by
  intro F A D s hs Rm S E ha hma hca hac
  show wpAny (M g) A (eval iter2 F.env >>= fun x => standAt iter2.pos >>= fun _ => foldedSetIterable iter2 F.env x >>= fun x => holding [x] (pyIter x) >>= fun it => runOwn (.compStart e 1 it (.ref a) F.env) F.env >>= fun _ => pure ()) _ _ s
  refine wpAny_bind (wpAny_mono (hIT F A D s hs Rm S E) (fun c s₁ w => ?_) fun _ _ e => e.elim)
  obtain ⟨D₁, σ₁, S₁, T₁, h₁⟩ := w
  refine wpAny_bind (wpAny_standAt (wpAny_bind (wpAny_of_eq (hset F.env c) (wpAny_bind (wpAny_holding ?_)))))
  refine wpAny_mono h₁ (fun it s₂ w => ?_) fun _ _ e => e.elim
  obtain ⟨D₂, σ₂, S₂, T₂, wr, IS, vs, hP, I, st, hw⟩ := w
  have T₀ := T₁.trans T₂
  refine wpAny_bind (wpAny_runOwn (comp_start hS hC (fun Q E q => I.self _ Q E st q) ?_))
  refine codeAny_mono (comp_loop (F := F) (md0 := No) (s0 := s) hC (fun env => heq it env) hx hρ step hs Rm ha hma hca S₂ ((E.step S T₁).step S₁ T₂) ((AC.step (F := F) S T₀ ha (fun q => q.elim) hac)) I st
    (fun b hb => ⟨base_none S (hw b hb).1, (hw b hb).2.1, (hw b hb).2.2.1, S.own_none (hw b hb).1, (hw b hb).1, (hw b hb).2.2.2⟩) hP T₀ fun b q => q.elim) fun r s' ⟨hr, D', σ', m', S', T', E', hA', hP'⟩ => ?_
  subst hr
  exact wpAny_pure ⟨D', σ', S', T', E', m', hA', fin m' σ' hP'⟩
theorem cx_list2 {elt iter iter2 : Expr} {x y : Str} {px py pos : Pos} {scope : Scope} {ifs2 : List Expr} {P : List V → List V → Sig → Prop} {P2 : V → List V → List V → List V → Sig → Prop} {Q : V → Sig → Prop}
    (hIT : IT g k sc ρ (.Name x px) iter σ fun vs σ₁ => P vs [] σ₁)
    (step : ∀ v rest us σ, P (v :: rest) us σ → IT g k (relS scope sc) ((x, v) :: capt scope ρ) (.Name y py) iter2 σ fun ws σ₁ => P2 v rest ws us σ₁)
    (step2 : ∀ v rest w ws us σ, P2 v rest (w :: ws) us σ → LSTEP g k (relS scope sc) ((y, w) :: (x, v) :: capt scope ρ) ifs2 elt us σ (P2 v rest ws))
    (fin2 : ∀ v rest us σ, P2 v rest [] us σ → P rest us σ) (fin : ∀ us σ, P [] us σ → Q (.lst us) σ)
    (hok : compOK scope sc = true) (hfr : freeIn scope ρ = true) (hx : storableIn false (relS scope sc) x = true) (hy : storableIn false (relS scope sc) y = true) (hρ : (capt scope ρ).lookup x = none) (hρ2 : (capt scope ρ).lookup y = none) (hxy : x ≠ y)
    (hset : autoParam (∀ env y, foldedSetIterable iter env y = pure y) Mine.sxI) (hset2 : autoParam (∀ env y, foldedSetIterable iter2 env y = pure y) Mine.sxI) :
    CX g k sc ρ (.ListComp elt [⟨.Name x px, iter, [], 0⟩, ⟨.Name y py, iter2, ifs2, 0⟩] scope pos) scope iter.pos (newList []) iter σ Q := by
  intro F A D s use Qf hs Rm S E hfin
  refine W.comp (m0 := .list []) (o0 := lstO [] 0) (P := fun vs m σ' => ∃ us, m = .list us ∧ P vs us σ') (BODY := gen2Body (.ListComp elt [⟨.Name x px, iter, [], 0⟩, ⟨.Name y py, iter2, ifs2, 0⟩] scope pos) iter2) rfl hset hok hfr (fun s Q q => wpAny_newObj_type q) rfl (fun D => .list .nil) (fun D m o h => h.notFreed) (fun it acc env A => ⟨rfl, rfl, rfl⟩) (fun it acc env A => ⟨rfl, rfl, _, rfl, rfl⟩)
    (fun it a env => cturn_gen2 ..) hx hρ (hIT.mono fun _ _ q => ⟨[], rfl, q⟩) (fun a v rest m σ' ⟨us, hm, hp⟩ => ?_) hs Rm S E ?_
  · subst hm
    refine ce_gen2 (BODY := listBody elt a) (P := fun ws m σ' => ∃ us, m = .list us ∧ P2 v rest ws us σ') (fun it acc env A => ⟨rfl, rfl, rfl⟩) (fun it acc env A => ⟨rfl, rfl, _, rfl, rfl⟩) (fun it env => rfl) hset2 hy ?_ ?_ ?_ ?_
    · rw [lookup_cons_str, if_neg (Ne.symm hxy)]; exact hρ2
    · exact (step v rest us σ' hp).mono fun _ _ q => ⟨us, rfl, q⟩
    · rintro w ws m σ'' ⟨us', rfl, hp2⟩
      exact cb_of_lstep (step2 v rest w ws us' σ'' hp2)
    · rintro m σ'' ⟨us', rfl, hp2⟩
      exact ⟨us', rfl, fin2 _ _ _ _ hp2⟩
  · rintro a C D' σ' s' m' o mm S' T' E' hDa hor ⟨us, rfl, hp⟩ hC hn h3
    cases hor with
    | list rs => exact hfin a C D' σ' s' (.lst us) mm S' T' E' (.lst hDa rs) (fin us σ' hp) hC hn h3
theorem ev_listcomp2 {elt iter iter2 : Expr} {x y : Str} {px py pos : Pos} {scope : Scope} {ifs2 : List Expr} {Q : V → Sig → Prop} (h : CX g k sc ρ (.ListComp elt [⟨.Name x px, iter, [], 0⟩, ⟨.Name y py, iter2, ifs2, 0⟩] scope pos) scope iter.pos (newList []) iter σ Q) :
    EV g k sc ρ (.ListComp elt [⟨.Name x px, iter, [], 0⟩, ⟨.Name y py, iter2, ifs2, 0⟩] scope pos) σ Q := ev_of_cx h fun env => rfl
theorem ex_listcomp2 {elt iter iter2 : Expr} {x y z : Str} {px py pz pos spos : Pos} {scope : Scope} {ifs2 : List Expr} {N : Rho → Sig → Prop} (h : CX g k sc ρ (.ListComp elt [⟨.Name x px, iter, [], 0⟩, ⟨.Name y py, iter2, ifs2, 0⟩] scope pos) scope iter.pos (newList []) iter σ fun v σ' => N ((z, v) :: ρ) σ')
    (hk : storableIn true sc z = true) (hsw : autoParam (swapsWith (.ListComp elt [⟨.Name x px, iter, [], 0⟩, ⟨.Name y py, iter2, ifs2, 0⟩] scope pos) (some (.Name z pz)) spos.line (envS sc) = pure true) Mine.sxR) :
    EX1 g k sc ρ (.Assign [.Name z pz] (.ListComp elt [⟨.Name x px, iter, [], 0⟩, ⟨.Name y py, iter2, ifs2, 0⟩] scope pos) spos) σ N R := ex_of_cx h (fun env use => rfl) hk hsw

-- dict comprehensions with ints as keys
noncomputable def dictBody (kx vx : Expr) (a : Addr) (env : Env) : Sem Unit := do
  let kv ← eval kx env
  let vv ← holding [kv] (eval vx env)
  standAt { kx.pos with endLine := vx.pos.endLine, endCol := vx.pos.endCol }
  holding [kv, vv] (dictSet a kv vv)
theorem ce_dictI {a : Addr} {kx vx : Expr} {kvs : List (Int × V)} {Q : MO → Sig → Prop} (h : EV g k sc ρ kx σ fun kv σ₁ => EV g k sc ρ vx σ₁ fun u σ₂ => ∃ i, A3 (kv = .int i) (kvs.length ≤ sizeLine) (Q (.dI (kput kvs i u)) σ₂)) :
    CE g k sc ρ a (.dI kvs) (dictBody kx vx a) σ Q := by
  intro F A D s hs Rm S E ha hma hca hac
  show W g A F.own (fun b => F.md b ∨ b = a) (eval kx F.env >>= fun kv => holding [kv] (eval vx F.env) >>= fun vv => standAt { kx.pos with endLine := vx.pos.endLine, endCol := vx.pos.endCol } >>= fun _ => holding [kv, vv] (dictSet a kv vv)) D σ s _
  refine h.thenM hs Rm S E fun ck kv D₁ σ₁ s₁ rk h₁ S₁ E₁ T₁ => ?_
  refine W.bind (W.holding (W.no ((h₁ F A D₁ s₁ hs Rm S₁ E₁).mono fun c D₂ σ₂ s₂ S₂ T₂ hx => ?_)))
  obtain ⟨w, r₂, i, rfl, hl, q⟩ := hx
  cases rk
  have hac2 := AC.step (F := F) S₁ T₂ ha (fun q => q.elim) (AC.step (F := F) S T₁ ha (fun q => q.elim) hac)
  have E₂ := E₁.step S₁ T₂
  obtain ⟨o, ho, r⟩ := hac2
  cases r with
  | dI k1 p1 r1 n1 =>
    rename_i es ep cs
    have hd : s₂.heap.DictOf g.I a ((kvs.map (·.1)).zip cs) := or_dictOf ho k1 p1 (by rw [zip_keys r1]; exact n1)
    refine W.standAt (W.holding (wpAny_dictSet_pairs (knd := g.I) (isI i _) hd (fun h' hd' hsb => ?_) ?_))
    · obtain ⟨cs', e1, rs'⟩ := kv_put (k := i) r1 n1 r₂
      rw [e1] at hd'
      obtain ⟨es', n', ho', k', p', nd'⟩ := dictOf_or hd'
      have S3 := S₂.turnOwn (tk := s₂.toks + 1) ha hsb ho'
      exact ⟨_, _, S3, Step.turnOwn (.inr rfl) hsb ho', E₂.turn hsb (fun e => hma (e ▸ E.mdL)) hca, _, ⟨_, ho', .dI k' p' rs' (kput_nodup n1)⟩, q⟩
    · have : ((kvs.map (·.1)).zip cs).length = kvs.length := by
        have := congrArg List.length (zip_keys r1)
        simpa using this
      rw [this]; exact hl
noncomputable def DSTEP (g : G) (k : Nat) (sc : Scope) (ρ : Rho) (ifs : List Expr) (kx vx : Expr) (kvs : List (Int × V)) (σ : Sig) (Q : List (Int × V) → Sig → Prop) : Prop := match ifs with
  | [] => EV g k sc ρ kx σ fun kv σ₁ => EV g k sc ρ vx σ₁ fun u σ₂ => ∃ i, A3 (kv = .int i) (kvs.length ≤ sizeLine) (Q (kput kvs i u) σ₂)
  | [c] => TR g k sc ρ c σ fun b σ₁ => if b = true then EV g k sc ρ kx σ₁ fun kv σ₁ => EV g k sc ρ vx σ₁ fun u σ₂ => ∃ i, A3 (kv = .int i) (kvs.length ≤ sizeLine) (Q (kput kvs i u) σ₂) else Q kvs σ₁
  | _ => False
theorem cb_of_dstep {ifs : List Expr} {kx vx : Expr} {kvs : List (Int × V)} {Q : List (Int × V) → Sig → Prop} {a : Addr} (h : DSTEP g k sc ρ ifs kx vx kvs σ Q) : CB g k sc ρ a (.dI kvs) ifs (dictBody kx vx a) σ fun m σ' => ∃ us', m = .dI us' ∧ Q us' σ' := by
  have go : ∀ σ₀, (EV g k sc ρ kx σ₀ fun kv σ₁ => EV g k sc ρ vx σ₁ fun u σ₂ => ∃ i, A3 (kv = .int i) (kvs.length ≤ sizeLine) (Q (kput kvs i u) σ₂)) → CE g k sc ρ a (.dI kvs) (dictBody kx vx a) σ₀ fun m σ' => ∃ us', m = .dI us' ∧ Q us' σ' := fun σ₀ h =>
    ce_dictI (EV.mono h fun kv σ₁ h1 => EV.mono h1 fun u σ₂ ⟨i, e, l, q⟩ => ⟨i, e, l, _, rfl, q⟩)
  cases ifs with
  | nil => exact go _ h
  | cons c r =>
    cases r with
    | cons => exact h.elim
    | nil =>
      refine TR.mono h fun b σ' q => ?_
      cases b
      · exact ⟨_, rfl, q⟩
      · exact go _ q
theorem cx_dictI {kx vx iter : Expr} {x : Str} {px pos : Pos} {ifs : List Expr} {scope : Scope} {P : List V → List (Int × V) → Sig → Prop} {Q : V → Sig → Prop}
    (hIT : IT g k sc ρ (.Name x px) iter σ fun vs σ₁ => P vs [] σ₁)
    (step : ∀ v rest us σ, P (v :: rest) us σ → DSTEP g k (relS scope sc) ((x, v) :: capt scope ρ) ifs kx vx us σ (P rest)) (fin : ∀ us σ, P [] us σ → Q (.dI us) σ)
    (hok : compOK scope sc = true) (hfr : freeIn scope ρ = true) (hx : storableIn false (relS scope sc) x = true) (hρ : (capt scope ρ).lookup x = none)
    (hset : autoParam (∀ env y, foldedSetIterable iter env y = pure y) Mine.sxI) : CX g k sc ρ (.DictComp kx vx [⟨.Name x px, iter, ifs, 0⟩] scope pos) scope iter.pos newDict iter σ Q := by
  intro F A D s use Qf hs Rm S E hfin
  refine W.comp (m0 := .dI []) (o0 := dictOf [] 0) (P := fun vs m σ' => ∃ us, m = .dI us ∧ P vs us σ') (BODY := dictBody kx vx) rfl hset hok hfr (fun s Q q => wpAny_newObj_type q) rfl (fun D => .dI (cs := []) (fun e he => by simp at he) .nil .nil .nil) (fun D m o h => h.notFreed) (fun it acc env A => ⟨rfl, rfl, rfl⟩) (fun it acc env A => ⟨rfl, rfl, _, rfl, rfl⟩)
    (fun it a env => rfl) hx hρ (hIT.mono fun _ _ q => ⟨[], rfl, q⟩) (fun a v rest m σ' ⟨us, hm, hp⟩ => by subst hm; exact cb_of_dstep (step v rest us σ' hp)) hs Rm S E ?_
  rintro a C D' σ' s' m' o mm S' T' E' hDa hor ⟨us, rfl, hp⟩ hC hn h3
  cases hor with
  | dI k1 p1 r1 n1 => exact hfin a C D' σ' s' (.dI us) mm S' T' E' (.dI hDa k1 p1 r1 n1) (fin us σ' hp) hC hn h3
theorem ev_dictcomp {kx vx iter : Expr} {x : Str} {px pos : Pos} {ifs : List Expr} {scope : Scope} {Q : V → Sig → Prop} (h : CX g k sc ρ (.DictComp kx vx [⟨.Name x px, iter, ifs, 0⟩] scope pos) scope iter.pos newDict iter σ Q) :
    EV g k sc ρ (.DictComp kx vx [⟨.Name x px, iter, ifs, 0⟩] scope pos) σ Q := ev_of_cx h fun env => rfl
end
end Mine

end
section
set_option maxRecDepth 100000
set_option linter.unusedVariables false
namespace Mine
open PySem PySem.W PyProof.Rows PySem.Calls

section
variable {g : G} {k : Nat} {sc : Scope} {ρ : Rho} {σ : Sig} {A : Around} {own md wr : Addr → Prop} {D : Fz} {s : Shared} {N : Rho → Sig → Prop} {R : V → Sig → Prop}

/-- while: n shrinks -/
theorem ex_while {t : Expr} {body : List Stmt} {pos : Pos} (P : Nat → Rho → Sig → Prop) (n0 : Nat) (h0 : P n0 ρ σ)
    (step : ∀ n ρ σ, P n ρ σ → TR g k sc ρ t σ fun b σ₁ => if b = true then EX g k sc ρ body σ₁ (fun ρ' σ' => ∃ m, m < n ∧ P m ρ' σ') R else N ρ σ₁) : EX1 g k sc ρ (.While t body [] pos) σ N R := by
  intro F A D s hs hc Rm S E
  refine wpAny_While (codeAny_whileLoop (fun n s' => X3 fun D' σ' ρ' => A4 (St g F.own D' σ' s') (Step F.md D σ s D' σ' s') (ER g F ρ' D' s'.heap) (P n ρ' σ')) ?_ n0 ⟨D, σ, ρ, S, .refl, E, h0⟩)
  rintro n s' ⟨D', σ', ρ', S', T', E', hP⟩
  refine wpAny_mono (step n ρ' σ' hP F A D' s' hs Rm S' E') (fun b s₁ w => ?_) fun _ _ e => e.elim
  obtain ⟨D₁, σ₁, S₁, T₁, hb⟩ := w
  have T2 := T'.trans (T₁.own (own' := F.md) fun _ q => q.elim)
  have E1 := E'.step S' T₁
  cases b with
  | true =>
    refine wpAny_mono (hb F A D₁ s₁ hs hc Rm S₁ E1) (fun f s₂ w => ?_) fun _ _ e => e.elim
    obtain ⟨D₂, σ₂, S₂, T₂, x⟩ := w
    cases f with
    | next =>
      obtain ⟨ρ₂, E₂, m, hm, hP2⟩ := x
      exact ⟨m, hm, D₂, σ₂, ρ₂, S₂, T2.trans T₂, E₂, hP2⟩
    | ret c => exact ⟨D₂, σ₂, S₂, T2.trans T₂, x⟩
    | brk => exact x.elim
    | cont => exact x.elim
  | false => exact wpAny_execs_nil ⟨D₁, σ₁, S₁, T2, ρ', E1, hb⟩

theorem W.via {α : Type} {t : Sem α} {D' : Fz} {σ' : Sig} {s' : Shared} {Q : α → Fz → Sig → Shared → Prop} (h : W g A own md t D σ s Q) (T : ∀ (a : α) D₂ σ₂ s₂, Step md D σ s D₂ σ₂ s₂ → Step md D' σ' s' D₂ σ₂ s₂) :
    wpAny (M g) A t (fun a s₂ => WR g own md D' σ' s' (Q a) s₂) NoE s := wpAny_mono h (fun a s₂ ⟨D₂, σ₂, x, y, z⟩ => ⟨D₂, σ₂, x, T a D₂ σ₂ s₂ y, z⟩) fun _ _ e => e
-- ghost steps: names to hold frozen values
noncomputable def GH (g : G) (ρ : Rho) (σ : Sig) (ρ' : Rho) (σ' : Sig) : Prop := ∀ F D s, St g F.own D σ s → ER g F ρ D s.heap → ∃ D', A3 (St g F.own D' σ' s) (Step No D σ s D' σ' s) (ER g F ρ' D' s.heap)
theorem ex_ghost {b : List Stmt} {ρ' : Rho} {σ' : Sig} (h : GH g ρ σ ρ' σ') (x : EX g k sc ρ' b σ' N R) : EX g k sc ρ b σ N R := by
  intro F A D s hs hc Rm S E
  obtain ⟨D', S', T', E'⟩ := h F D s S E
  exact W.via (x F A D' s hs hc Rm S' E') fun f D₂ σ₂ s₂ T₂ => (T'.own fun _ q => q.elim).trans T₂
theorem Sig.del_self (σ : Sig) (a : Addr) : σ.del a a = none := if_pos rfl
theorem Sig.del_ne {σ : Sig} {a b : Addr} (h : b ≠ a) : σ.del a b = σ b := if_neg h
theorem Sig.set_self (σ : Sig) (a : Addr) (m : MO) : σ.set a m a = some m := if_pos rfl
theorem Sig.set_ne {σ : Sig} {a b : Addr} {m : MO} (h : b ≠ a) : σ.set a m b = σ b := if_neg h
/-- sigma's object goes to D -/
theorem freeze (S : St g own D σ s) {a : Addr} {m : MO} (hm : σ a = some m) (hcls : ∀ kvs, m ≠ .dS kvs → True) : ∃ o, A5 (s.heap.get? a = some o) (OR g D m o) (D a = none) (St g own (D.put a o) (σ.del a) s) (Step No D σ s (D.put a o) (σ.del a) s) := by
  obtain ⟨o, ho, r⟩ := S.mt a m hm
  have hD : D a = none := by
    cases q : D a with
    | none => rfl
    | some o' => have := S.dσ a o' q; rw [hm] at this; cases this
  have hsys : a ≠ sysModules := fun e => by rw [e, S.ssys] at hm; cases hm
  have S1 : St g own D (σ.del a) s := S.forget fun b m' e => by
    unfold Sig.del at e; split at e
    · cases e
    · exact e
  refine ⟨o, ho, r, hD, S1.ghostD ho hD (Sig.del_self _ _) (S.σO a m hm) hsys, Fz.put_le hD, fun b o' e => ?_, fun b m' e => ?_, fun b o' e _ _ => e, fun b o' e => ⟨o', e⟩⟩
  · unfold Fz.put at e; split at e
    · rename_i q; exact .inr (.inr ⟨m, q ▸ hm⟩)
    · exact .inl e
  · unfold Sig.del at e; split at e
    · cases e
    · exact .inl ⟨m', e⟩

noncomputable def MO.toV : MO → V
  | .list vs => .lst vs
  | .dI kvs => .dI kvs
  | .dS kvs => .dS kvs
  | .dT kvs => .dT kvs
theorem VR.of_or {a : Addr} {m : MO} {o : Obj} (h : D a = some o) (r : OR g D m o) : VR g D m.toV (.ref a) := by
  cases r with
  | list r => exact .lst h r
  | dI k p r n => exact .dI h k p r n
  | dS k p r n => exact .dS h k p r n
  | dT k p r n => exact .dT h k p r n
theorem ER.retype {F : Fm} {h : Heap} {x : Str} {v v' : V} (E : ER g F ρ D h) (hx : ρ.lookup x = some v) (hv : ∀ c, VR g D v c → VR g D v' c) : ER g F ((x, v') :: ρ) D h :=
  { E with
    locs := by
      obtain ⟨m, hn, hm⟩ := E.locs
      refine ⟨m, hn, fun y u hy hl => ?_⟩
      rw [lookup_cons_str] at hy
      split at hy
      · rename_i e; cases hy; subst e; obtain ⟨c, h1, h2⟩ := hm y v hx hl; exact ⟨c, h1, hv c h2⟩
      · exact hm y u hy hl
    cls := fun y u hy hl => by
      rw [lookup_cons_str] at hy
      split at hy
      · rename_i e; cases hy; subst e; obtain ⟨hk, ca, c, h1, h2, h3⟩ := E.cls y v hx hl; exact ⟨hk, ca, c, h1, h2, hv c h3⟩
      · exact E.cls y u hy hl }
/-- a name that holds a mutable object holds it frozen from now on -/
theorem gh_name {x : Str} {a : Addr} {m : MO} (hx : ρ.lookup x = some (.ref a)) (hm : σ a = some m) : GH g ρ σ ((x, m.toV) :: ρ) (σ.del a) := by
  intro F D s S E
  obtain ⟨o, ho, r, hD, S', T'⟩ := freeze S hm fun _ _ => trivial
  have hle : Fle D (D.put a o) := Fz.put_le hD
  refine ⟨_, S', T', (E.keeps hle fun _ _ _ e => e).retype hx fun c hc => ?_⟩
  cases hc
  exact VR.of_or (Fz.put_self ..) (r.mono hle)
/-- an object that a name holds, its attributes' dict frozen -/
theorem gh_inst {x : Str} {C dx : Addr} {fs : List (Str × V)} (hx : ρ.lookup x = some (.inst C dx)) (hm : σ dx = some (.dS fs)) : GH g ρ σ ((x, .obj C fs) :: ρ) (σ.del dx) := by
  intro F D s S E
  obtain ⟨o, ho, r, hD, S', T'⟩ := freeze S hm fun _ _ => trivial
  have hle : Fle D (D.put dx o) := Fz.put_le hD
  refine ⟨_, S', T', (E.keeps hle fun _ _ _ e => e).retype hx fun c hc => ?_⟩
  replace hc := hc.of; obtain ⟨_, e1, rfl⟩ := hc
  cases r with
  | dS k p r n => exact .obj e1 (Fz.put_self ..) k p (r.mono hle) n
/-- an attribute of an object, frozen -/
theorem VRs_put {fs : List (Str × V)} {cs : List Value} {x : Str} {v v' : V} (r : VRs g D (fs.map (·.2)) cs) (h : kget fs x = some v) (hv : ∀ c, VR g D v c → VR g D v' c) : VRs g D ((kput fs x v').map (·.2)) cs := by
  induction fs generalizing cs with
  | nil => cases h
  | cons p l ih =>
    obtain ⟨y, u⟩ := p
    cases r with
    | cons a r =>
      rw [kget_cons] at h
      rw [kput_cons]
      by_cases q : y = x
      · rw [if_pos q] at h; cases h
        rw [if_pos q]
        exact .cons (hv _ a) r
      · rw [if_neg q] at h
        rw [if_neg q]
        exact .cons a (ih r h)
theorem kput_keys_in {K α : Type} [DecidableEq K] {l : List (K × α)} {k : K} {v w : α} (h : kget l k = some w) : (kput l k v).map (·.1) = l.map (·.1) := by
  induction l with
  | nil => cases h
  | cons p r ih =>
    obtain ⟨k', v'⟩ := p
    rw [kget_cons] at h
    rw [kput_cons]
    by_cases q : k' = k
    · rw [if_pos q]; rfl
    · rw [if_neg q] at h ⊢
      rw [List.map_cons, ih h]; rfl
theorem gh_attr {dx a : Addr} {fs : List (Str × V)} {x : Str} {m : MO} (hm : σ dx = some (.dS fs)) (hx : kget fs x = some (.ref a)) (ha : σ a = some m) (hne : a ≠ dx) : GH g ρ σ ρ ((σ.del a).set dx (.dS (kput fs x m.toV))) := by
  intro F D s S E
  obtain ⟨o, ho, r, hD, S', T'⟩ := freeze S ha fun _ _ => trivial
  have hle : Fle D (D.put a o) := Fz.put_le hD
  have hdx : (σ.del a) dx = some (.dS fs) := by rw [Sig.del_ne hne.symm]; exact hm
  obtain ⟨od, hod, rd⟩ := S'.mt dx _ hdx
  have rd' : OR g (D.put a o) (.dS (kput fs x m.toV)) od := by
    obtain ⟨_, _, _, k, p, rs, n, rfl⟩ := rd.of
    focus
      have e1 := kput_keys_in (v := m.toV) hx
      refine .dS (cs := _) k (by rw [e1]; exact p) (VRs_put rs hx fun c hc => ?_) (kput_nodup n)
      cases hc
      exact VR.of_or (Fz.put_self ..) (r.mono hle)
  have hs : Heap.SameBut dx s.heap s.heap := .refl ..
  exact ⟨_, S'.upd (tk := s.toks) hdx hs hod rd', T'.trans (Step.upd (tk := s.toks) hdx hs hod), E.keeps hle fun _ _ _ e => e⟩
/-- forgetting at the end of a body -/
theorem EX.fin {b : List Stmt} (h : EX g k sc ρ b σ (fun ρ' σ' => ∃ σ'', Sle σ'' σ' ∧ N ρ' σ'') (fun v σ' => ∃ σ'', Sle σ'' σ' ∧ R v σ'')) : EX g k sc ρ b σ N R := by
  intro F A D s hs hc Rm S E
  refine wpAny_mono (h F A D s hs hc Rm S E) (fun f s' w => ?_) fun _ _ e => e
  obtain ⟨D', σ', S', T', x⟩ := w
  cases f with
  | next => obtain ⟨ρ', E', σ'', hl, x⟩ := x; exact ⟨D', σ'', S'.forget hl, T'.forget hl, ρ', E', x⟩
  | ret c => obtain ⟨v, r, σ'', hl, x⟩ := x; exact ⟨D', σ'', S'.forget hl, T'.forget hl, v, r, x⟩
  | brk => exact x.elim
  | cont => exact x.elim
theorem asn_forget {fn : Bool} {t : Expr} {v : V} {ρ' : Rho} (h : ASN g k fn sc ρ' t v σ N) (a : Rle ρ' ρ) : ASN g k fn sc ρ t v σ N := fun F A D s c hs hc Rm S E r => h F A D s c hs hc Rm S (E.forget a) r
end
end Mine

end
section
set_option maxRecDepth 100000
set_option linter.unusedVariables false
namespace Mine
open PySem PySem.W PyProof.Rows PySem.Calls

section
variable {g : G} {k : Nat} {sc : Scope} {ρ : Rho} {σ : Sig} {A : Around} {own md wr : Addr → Prop} {D : Fz} {s : Shared} {N : Rho → Sig → Prop} {R : V → Sig → Prop}

-- len
theorem c_len {o : V} {vs : List V} {Q : V → Sig → Prop} (h : LI σ o vs) (hz : (vs.length : Int) < 2 ^ 63) (q : Q (.int vs.length) σ) : CALL g k (.builtin "len") [o] σ Q := by
  intro A own D s cs Rm S r
  cases r with
  | cons r r' =>
    cases r'
    obtain ⟨a, us, n, rfl, ho, rs⟩ := h.at_ S r
    refine call_len_list ⟨_, ho, rfl, n, rfl⟩ (by rw [List.size_toArray, rs.length]; exact hz) ⟨D, σ, S.tok _, Step.tok _, _, .int _ _, by rw [List.size_toArray, rs.length]; exact q⟩
theorem c_len_tup {vs : List V} {Q : V → Sig → Prop} (hz : (vs.length : Int) < 2 ^ 63) (q : Q (.int vs.length) σ) : CALL g k (.builtin "len") [.tup vs] σ Q := by
  intro A own D s cs Rm S r
  cases r with
  | cons r r' =>
    cases r'
    replace r := r.of; obtain ⟨_, _, _, e, rs, rfl⟩ := r
    refine PyProof.Rows.len_tuple ⟨_, S.dat _ _ e, rfl, _, rfl⟩ (by rw [List.size_toArray, rs.length]; exact hz) ⟨D, σ, S.tok _, Step.tok _, _, .int _ _, by rw [List.size_toArray, rs.length]; exact q⟩
-- range
theorem c_range1 {n : Int} {Q : V → Sig → Prop} (q : Q (.rng 0 n) σ) : CALL g k (.type "range") [.int n] σ Q := by
  intro A own D s cs Rm S r
  cases r with
  | cons r r' =>
    cases r'; replace r := r.of; obtain ⟨_, rfl⟩ := r
    rename_i tk
    refine call_range_1 ?_
    have kp : ∀ b o, s.heap.get? b = some o → (s.heap.push { cls := .type "range", data := .fields #[.int 0 s.toks, .int n tk, .int 1 (s.toks + 1)] }).get? b = some o := fun b o e => Heap.get?_push_of_some _ e
    exact ⟨_, σ, S.newD kp (get?_size _) S.ne_sys (Heap.get?_push_size _ rfl), Step.newD S kp (get?_size _), _, .rng (Fz.put_self ..), q⟩
theorem c_range2 {m n : Int} {Q : V → Sig → Prop} (q : Q (.rng m n) σ) : CALL g k (.type "range") [.int m, .int n] σ Q := by
  intro A own D s cs Rm S r
  cases r with
  | cons r r' =>
    cases r' with
    | cons r2 r' =>
      cases r'; replace r := r.of; obtain ⟨_, rfl⟩ := r; replace r2 := r2.of; obtain ⟨_, rfl⟩ := r2
      rename_i t1 t2
      refine call_range_2 ?_
      have kp : ∀ b o, s.heap.get? b = some o → (s.heap.push { cls := .type "range", data := .fields #[.int m t1, .int n t2, .int 1 s.toks] }).get? b = some o := fun b o e => Heap.get?_push_of_some _ e
      exact ⟨_, σ, S.newD kp (get?_size _) S.ne_sys (Heap.get?_push_size _ rfl), Step.newD S kp (get?_size _), _, .rng (Fz.put_self ..), q⟩
-- list, tuple
theorem c_list {o : V} {vs : List V} {Q : V → Sig → Prop} (h : LI σ o vs) (hz : vs.length ≤ sizeLine) (q : Q (.lst vs) σ) : CALL g k (.type "list") [o] σ Q := by
  intro A own D s cs Rm S r
  cases r with
  | cons r r' =>
    cases r'
    obtain ⟨a, us, n, rfl, ho, rs⟩ := h.at_ S r
    refine call_list_seq (hsz := by rw [List.size_toArray, rs.length]; exact hz) a (.inl rfl) ho rfl rfl fun h' c' kp hD => ?_
    have S' := S.newD (tk := s.toks) kp (get?_size _) S.ne_sys hD
    exact ⟨_, σ, S', Step.newD S kp (get?_size _), _, .lst (xs := us) (n := c') (Fz.put_self ..) (rs.mono (Fz.put_le (S.D_none (get?_size _)))), q⟩
theorem vrs_range {lo : Int} {m : Nat} {acc : Array Value} (h : ItemsOf (fun (i : Nat) (v : Value) => ∃ t, v = Value.int (lo + (i : Int) * 1) t) acc m) : VRs g D ((List.range m).map fun (i : Nat) => V.int (lo + i)) acc.toList := by
  obtain ⟨h1, h2⟩ := h
  have main : ∀ (l : List Value) (b : Nat), (∀ (j : Nat) (v : Value), l[j]? = some v → ∃ t, v = Value.int (lo + (b + j : Nat)) t) → VRs g D ((List.range' b l.length).map fun (i : Nat) => V.int (lo + i)) l := by
    intro l
    induction l with
    | nil => intro b _; exact .nil
    | cons v l ih =>
      intro b hl
      rw [List.length_cons, List.range'_succ, List.map_cons]
      obtain ⟨t, rfl⟩ := hl 0 v rfl
      exact .cons (.int _ _) (ih (b + 1) fun j w hj => by
        obtain ⟨t, e⟩ := hl (j + 1) w (by simpa using hj)
        exact ⟨t, by rw [e, show b + 1 + j = b + (j + 1) from by lia]⟩)
  have hlen : acc.toList.length = m := by simpa using h1
  have := main acc.toList 0 fun j v hj => by
    obtain ⟨t, e⟩ := h2 j v (by simpa using hj)
    exact ⟨t, by rw [e, Int.mul_one, Nat.zero_add]⟩
  rw [hlen, ← List.range_eq_range'] at this
  exact this
theorem c_list_rng {lo hi : Int} {Q : V → Sig → Prop} (h1 : -(2 ^ 40) < lo ∧ lo < 2 ^ 40) (h2 : -(2 ^ 40) < hi ∧ hi < 2 ^ 40) (h3 : (hi - lo).toNat ≤ 2 ^ 24) (q : ∀ a, σ a = none → Q (.ref a) (σ.set a (.list (rangeV lo hi)))) : CALL g k (.type "list") [.rng lo hi] σ Q := by
  intro A own D s cs Rm S r
  cases r with
  | cons r r' =>
    cases r'
    replace r := r.of; obtain ⟨_, _, _, _, e, rfl⟩ := r
    obtain ⟨sm, sz⟩ := range_small h1 h2
    refine call_list_range Rm.hh (S.dat _ _ e) sm sz h3 fun h' tk acc c kp hD hit => ?_
    have e2 : ({ cls := .type "list", dict := none, data := .seq acc c, slots := #[] } : Obj) = lstO acc.toList c := by simp
    rw [e2] at hD
    have S' := S.newM (tk := tk) kp (get?_size _) S.ne_sys hD (.list (n := c) (vrs_range hit))
    exact ⟨_, _, S', Step.newM kp (get?_size _), _, .ref _, q _ (S.σ_none (get?_size _))⟩
theorem c_tuple {vs : List V} {Q : V → Sig → Prop} (q : Q (.tup vs) σ) : CALL g k (.type "tuple") [.tup vs] σ Q := by
  intro A own D s cs Rm S r
  cases r with
  | cons r r' =>
    cases r'
    replace r := r.of; obtain ⟨_, _, _, e, rs, rfl⟩ := r
    exact call_tuple_same ⟨_, S.dat _ _ e, rfl, _, rfl⟩ ⟨D, σ, S, .refl, _, .tup e rs, q⟩
-- min, max of two
theorem c_min2 {a b : Int} {Q : V → Sig → Prop} (q : Q (.int (if b < a then b else a)) σ) : CALL g k (.builtin "min") [.int a, .int b] σ Q := by
  intro A own D s cs Rm S r
  cases r with
  | cons r r' =>
    cases r' with
    | cons r2 r' =>
      cases r'; replace r := r.of; obtain ⟨_, rfl⟩ := r; replace r2 := r2.of; obtain ⟨_, rfl⟩ := r2
      refine min_two_ints Rm.hh fun h' tk kp => ⟨D, σ, S.keeps kp, Step.keeps kp, .int (if b < a then b else a), ?_, q⟩
      by_cases h : b < a
      · rw [if_pos h, if_pos h]; exact .int _ _
      · rw [if_neg h, if_neg h]; exact .int _ _
theorem c_max2 {a b : Int} {Q : V → Sig → Prop} (q : Q (.int (if b > a then b else a)) σ) : CALL g k (.builtin "max") [.int a, .int b] σ Q := by
  intro A own D s cs Rm S r
  cases r with
  | cons r r' =>
    cases r' with
    | cons r2 r' =>
      cases r'; replace r := r.of; obtain ⟨_, rfl⟩ := r; replace r2 := r2.of; obtain ⟨_, rfl⟩ := r2
      refine max_two_ints Rm.hh fun h' tk kp => ⟨D, σ, S.keeps kp, Step.keeps kp, .int (if b > a then b else a), ?_, q⟩
      by_cases h : b > a
      · rw [if_pos h, if_pos h]; exact .int _ _
      · rw [if_neg h, if_neg h]; exact .int _ _
-- lists of ints as the library has them
theorem items_of_ints {cs : List Value} {ns : List Int} (h : IntsAre cs ns) : ∃ xs : Array (Int × Tok), A3 (cs.toArray = intItems xs) (xs.size = ns.length) (∀ i, i < ns.length → numAt xs i = ns.getD i 0) := by
  have : ∃ l : List (Int × Tok), cs = l.map (fun p => .int p.1 p.2) ∧ l.map (·.1) = ns := by
    induction h with
    | nil => exact ⟨[], rfl, rfl⟩
    | cons n t _ ih => obtain ⟨l, h1, h2⟩ := ih; exact ⟨(n, t) :: l, by rw [h1]; rfl, by rw [← h2]; rfl⟩
  obtain ⟨l, h1, h2⟩ := this
  refine ⟨l.toArray, by rw [h1]; simp [intItems], by rw [← h2]; simp, fun i hi => ?_⟩
  subst h2
  have hi' : i < l.length := by simpa using hi
  simp [numAt, List.getD, hi']
theorem preSum_eq {f : Nat → Int} {ns : List Int} : ∀ m, m ≤ ns.length → (∀ i, i < ns.length → f i = ns.getD i 0) → preSum f m = (ns.take m).sum := by
  intro m
  induction m with
  | zero => intro _ _; simp [preSum]
  | succ m ih =>
    intro hm hf
    have hlt : m < ns.length := hm
    rw [preSum, ih (by lia) hf, hf m hlt, List.take_add_one, List.getElem?_eq_getElem hlt, List.sum_append]
    simp [List.getD, hlt]
theorem c_sum {o : V} {ns : List Int} {Q : V → Sig → Prop} (h : LI σ o (ns.map .int)) (q : Q (.int ns.sum) σ) : CALL g k (.builtin "sum") [o] σ Q := by
  intro A own D s cs Rm S r
  cases r with
  | cons r r' =>
    cases r'
    obtain ⟨a, us, n, rfl, ho, rs⟩ := h.at_ S r
    obtain ⟨xs, e1, e2, e3⟩ := items_of_ints rs.ints
    have L : s.heap.IsList a (intItems xs) := ⟨_, ho, rfl, n, by rw [← e1]⟩
    refine sum_intListG Rm.hh L fun h' tk t' kp => ⟨D, σ, S.keeps kp, Step.keeps kp, _, ?_, q⟩
    rw [e2, preSum_eq ns.length (Nat.le_refl _) e3, List.take_length]
    exact .int _ _
theorem argBest_lt {bt : Nat → Nat → Bool} {n : Nat} (h : 0 < n) : argBest bt (n - 1) < n := by
  have : ∀ k, argBest bt k ≤ k := by
    intro k
    induction k with
    | zero => exact Nat.le_refl _
    | succ k ih =>
      unfold argBest
      split
      · exact Nat.le_refl _
      · lia
  have := this (n - 1)
  lia
theorem argBest_max {ns : List Int} : ∀ m, m < ns.length → ∀ i, i ≤ m → ns.getD i 0 ≤ ns.getD (argBest (fun i j => decide (ns.getD i 0 > ns.getD j 0)) m) 0 := by
  intro m
  induction m with
  | zero => intro _ i hi; rw [Nat.le_zero.mp hi]; exact Int.le_refl _
  | succ m ih =>
    intro hm i hi
    have ih := ih (by lia)
    unfold argBest
    split
    · rename_i h
      have h := of_decide_eq_true h
      by_cases e : i = m + 1
      · rw [e]; exact Int.le_refl _
      · have := ih i (by lia); lia
    · rename_i h
      have h := of_decide_eq_false (Bool.eq_false_iff.mpr h)
      by_cases e : i = m + 1
      · rw [e]; lia
      · exact ih i (by lia)
theorem argBest_min {ns : List Int} : ∀ m, m < ns.length → ∀ i, i ≤ m → ns.getD (argBest (fun i j => decide (ns.getD i 0 < ns.getD j 0)) m) 0 ≤ ns.getD i 0 := by
  intro m
  induction m with
  | zero => intro _ i hi; rw [Nat.le_zero.mp hi]; exact Int.le_refl _
  | succ m ih =>
    intro hm i hi
    have ih := ih (by lia)
    unfold argBest
    split
    · rename_i h
      have h := of_decide_eq_true h
      by_cases e : i = m + 1
      · rw [e]; exact Int.le_refl _
      · have := ih i (by lia); lia
    · rename_i h
      have h := of_decide_eq_false (Bool.eq_false_iff.mpr h)
      by_cases e : i = m + 1
      · rw [e]; lia
      · exact ih i (by lia)
theorem argBest_congr {bt bt' : Nat → Nat → Bool} : ∀ m, (∀ i j, i ≤ m → j ≤ m → bt i j = bt' i j) → argBest bt m = argBest bt' m := by
  intro m
  induction m with
  | zero => intro _; rfl
  | succ m ih =>
    intro h
    have e := ih fun i j hi hj => h i j (by lia) (by lia)
    have hle : argBest bt' m ≤ m + 1 := by
      have := @argBest_lt bt' (m + 1) (by lia)
      simp at this; lia
    unfold argBest
    rw [e, h (m + 1) _ (Nat.le_refl _) hle]
theorem c_max {o : V} {ns : List Int} {Q : V → Sig → Prop} (h : LI σ o (ns.map .int)) (hne : ns ≠ []) (q : ∀ m, m ∈ ns → (∀ x ∈ ns, x ≤ m) → Q (.int m) σ) : CALL g k (.builtin "max") [o] σ Q := by
  intro A own D s cs Rm S r
  cases r with
  | cons r r' =>
    cases r'
    obtain ⟨a, us, n, rfl, ho, rs⟩ := h.at_ S r
    obtain ⟨xs, e1, e2, e3⟩ := items_of_ints rs.ints
    have L : s.heap.IsList a (intItems xs) := ⟨_, ho, rfl, n, by rw [← e1]⟩
    have hpos : 0 < ns.length := by cases ns with | nil => exact absurd rfl hne | cons => simp
    refine max_intList Rm.hh L (by rw [e2]; exact hpos) fun v h' tk hv kp => ⟨D, σ, S.keeps kp, Step.keeps kp, ?_⟩
    obtain ⟨t, rfl⟩ := intItems_at hv
    refine ⟨_, .int _ _, ?_⟩
    rw [e2, argBest_congr (bt' := fun i j => decide (ns.getD i 0 > ns.getD j 0)) _ (fun i j hi hj => by rw [e3 i (by lia), e3 j (by lia)])]
    have hlt := @argBest_lt (fun i j => decide (ns.getD i 0 > ns.getD j 0)) _ hpos
    rw [e3 _ hlt]
    refine q _ ?_ fun x hx => ?_
    · have e : ∀ j, j < ns.length → ns.getD j 0 ∈ ns := fun j hj => by
        have : ns.getD j 0 = ns[j] := by simp [List.getD, hj]
        rw [this]; exact List.getElem_mem hj
      exact e _ hlt
    · obtain ⟨i, hi, rfl⟩ := List.mem_iff_getElem.mp hx
      have := argBest_max (ns := ns) (ns.length - 1) (by lia) i (by lia)
      have e : ns.getD i 0 = ns[i] := by simp [List.getD, hi]
      rw [e] at this
      exact this
theorem c_min {o : V} {ns : List Int} {Q : V → Sig → Prop} (h : LI σ o (ns.map .int)) (hne : ns ≠ []) (q : ∀ m, m ∈ ns → (∀ x ∈ ns, m ≤ x) → Q (.int m) σ) : CALL g k (.builtin "min") [o] σ Q := by
  intro A own D s cs Rm S r
  cases r with
  | cons r r' =>
    cases r'
    obtain ⟨a, us, n, rfl, ho, rs⟩ := h.at_ S r
    obtain ⟨xs, e1, e2, e3⟩ := items_of_ints rs.ints
    have L : s.heap.IsList a (intItems xs) := ⟨_, ho, rfl, n, by rw [← e1]⟩
    have hpos : 0 < ns.length := by cases ns with | nil => exact absurd rfl hne | cons => simp
    refine min_intList Rm.hh L (by rw [e2]; exact hpos) fun v h' tk hv kp => ⟨D, σ, S.keeps kp, Step.keeps kp, ?_⟩
    obtain ⟨t, rfl⟩ := intItems_at hv
    refine ⟨_, .int _ _, ?_⟩
    rw [e2, argBest_congr (bt' := fun i j => decide (ns.getD i 0 < ns.getD j 0)) _ (fun i j hi hj => by rw [e3 i (by lia), e3 j (by lia)])]
    have hlt := @argBest_lt (fun i j => decide (ns.getD i 0 < ns.getD j 0)) _ hpos
    rw [e3 _ hlt]
    refine q _ ?_ fun x hx => ?_
    · have e : ∀ j, j < ns.length → ns.getD j 0 ∈ ns := fun j hj => by
        have : ns.getD j 0 = ns[j] := by simp [List.getD, hj]
        rw [this]; exact List.getElem_mem hj
      exact e _ hlt
    · obtain ⟨i, hi, rfl⟩ := List.mem_iff_getElem.mp hx
      have := argBest_min (ns := ns) (ns.length - 1) (by lia) i (by lia)
      have e : ns.getD i 0 = ns[i] := by simp [List.getD, hi]
      rw [e] at this
      exact this
-- bytes
theorem c_bytes {o : V} {ns : List Int} {Q : V → Sig → Prop} (h : LI σ o (ns.map .int)) (hr : ∀ n ∈ ns, 0 ≤ n ∧ n < 256) (hz : ns.length ≤ sizeLine) (q : Q (.bts (byteArr ns)) σ) : CALL g k (.type "bytes") [o] σ Q := by
  intro A own D s cs Rm S r
  cases r with
  | cons r r' =>
    cases r'
    obtain ⟨a, us, n, rfl, ho, rs⟩ := h.at_ S r
    exact call_bytes_ints ⟨_, ho, rfl, n, rfl⟩ rs.ints hr (by rw [rs.length, List.length_map]; exact hz) Rm.hh fun h' t tk kp => ⟨D, σ, S.keeps kp, Step.keeps kp, _, .bts _ _, q⟩
-- isinstance(x, bool)
end
end Mine

end
section
set_option maxRecDepth 100000
set_option linter.unusedVariables false
namespace Mine
open PySem PySem.W PyProof.Rows PySem.Calls

section
variable {g : G} {k : Nat} {sc : Scope} {ρ : Rho} {σ : Sig} {A : Around} {own md wr : Addr → Prop} {D : Fz} {s : Shared} {N : Rho → Sig → Prop} {R : V → Sig → Prop}

-- methods of lists and dicts
theorem mres_list {o : V} {vs : List V} {name : Str} {id : String} (h : LI σ o vs) (slot : Slot "list" name id) (hty : typeOf (.builtin id) = pure (.type "method_descriptor")) : MRES g o σ name (.builtin id) := by
  intro A own D s c pl Q S r q
  obtain ⟨a, us, n, rfl, ho, rs⟩ := h.at_ S r
  exact getMethod_builtin ⟨_, ho, rfl⟩ PySem.F.plainAttrs_list slot hty (fun b e => by cases e; exact ⟨_, ho, rfl⟩) q
theorem mres_dict {o : V} {name : Str} {id : String} (h : (∃ kvs, DI σ o kvs) ∨ (∃ kvs, DS σ o kvs) ∨ ∃ kvs, DT σ o kvs) (slot : Slot "dict" name id) (hty : typeOf (.builtin id) = pure (.type "method_descriptor")) : MRES g o σ name (.builtin id) := by
  intro A own D s c pl Q S r q
  rcases h with ⟨kvs, h⟩ | ⟨kvs, h⟩ | ⟨kvs, h⟩
  · obtain ⟨a, us, rfl, hd, _⟩ := h.at_ S r
    exact getMethod_builtin hd.typeIs PySem.F.plainAttrs_dict slot hty hd.mapOf.noDict q
  · obtain ⟨a, us, rfl, hd, _⟩ := h.at_ S r
    exact getMethod_builtin hd.typeIs PySem.F.plainAttrs_dict slot hty hd.mapOf.noDict q
  · obtain ⟨a, us, rfl, hd, _⟩ := h.at_ S r
    exact getMethod_builtin hd.typeIs PySem.F.plainAttrs_dict slot hty (dictOfH_noDict hd) q
theorem list_at {a : Addr} {vs : List V} (S : St g own D σ s) (hm : σ a = some (.list vs)) : X2 fun cs n => s.heap.get? a = some (lstO cs n) ∧ VRs g D vs cs := by
  obtain ⟨o, ho, x⟩ := S.mt _ _ hm
  obtain ⟨_, _, r, rfl⟩ := x.of; exact ⟨_, _, ho, r⟩
theorem c_append {a : Addr} {vs : List V} {v : V} {Q : V → Sig → Prop} (hm : σ a = some (.list vs)) (hz : vs.length ≤ sizeLine) (q : Q .none (σ.set a (.list (vs ++ [v])))) : CALL g k (.builtin "list.append") [.ref a, v] σ Q := by
  intro A own D s cs Rm S r
  cases r with
  | cons r r' =>
    cases r' with
    | cons r2 r' =>
      cases r'; replace r := r.of; obtain ⟨_, rfl⟩ := r
      rename_i c
      obtain ⟨cs, n, ho, rs⟩ := list_at S hm
      refine append_at ho (fun h' hsb ho' => ?_) (by rw [List.size_toArray, rs.length]; exact hz)
      have e : ({ cls := .type "list", data := .seq (cs.toArray.push c) (n + 1) } : Obj) = lstO (cs ++ [c]) (n + 1) := by simp
      rw [e] at ho'
      exact ⟨D, _, S.upd (tk := s.toks) hm hsb ho' (.list (rs.append (.cons r2 .nil))), Step.upd hm hsb ho', _, .none, q⟩
theorem c_extend {a : Addr} {vs ws : List V} {o : V} {Q : V → Sig → Prop} (hm : σ a = some (.list vs)) (hl : LI σ o ws) (hz : vs.length + ws.length ≤ sizeLine) (q : Q .none (σ.set a (.list (vs ++ ws)))) : CALL g k (.builtin "list.extend") [.ref a, o] σ Q := by
  intro A own D s cs Rm S r
  cases r with
  | cons r r' =>
    cases r' with
    | cons r2 r' =>
      cases r'; replace r := r.of; obtain ⟨_, rfl⟩ := r
      obtain ⟨cs, n, ho, rs⟩ := list_at S hm
      obtain ⟨b, ds, m, rfl, hb, rd⟩ := hl.at_ S r2
      have h1 : cs.toArray.size + ds.toArray.size ≤ sizeLine := by rw [List.size_toArray, List.size_toArray, rs.length, rd.length]; exact hz
      refine call_meets PySem.F.slot_list_extend ⟨_, ho, rfl⟩ PySem.F.entry_list_extend (PySem.F.args_list_extend_2 _ _) (PySem.AutoSeq1.list_extend_list_list_0 a cs.toArray n b ds.toArray m (extend_door h1) (by lia) (by lia)) ⟨ho, hb, ?_⟩
      have hsb : Heap.SameBut a s.heap (s.heap.update a (Obj.mapSeq fun x => x ++ ds.toArray)) := .update ..
      have ho' : (s.heap.update a (Obj.mapSeq fun x => x ++ ds.toArray)).get? a = some (lstO (cs ++ ds) (if (cs.toArray ++ ds.toArray).size == cs.toArray.size then n else n + 1)) := by
        rw [Heap.get?_update_self _ ho (by rw [mapSeq_app]; rfl), mapSeq_app]
        simp
      exact ⟨D, _, S.upd (tk := s.toks) hm hsb ho' (.list (rs.append rd)), Step.upd hm hsb ho', _, .none, q⟩
theorem VRs.erase {vs : List V} {cs : List Value} (h : VRs g D vs cs) (i : Nat) : VRs g D (vs.eraseIdx i) (cs.eraseIdx i) := by
  induction vs generalizing cs i with
  | nil => cases h; exact .nil
  | cons v vs ih =>
    cases h with
    | cons a r =>
      cases i with
      | zero => exact r
      | succ i => exact .cons a (ih r i)
theorem c_pop {a : Addr} {vs : List V} {i : Int} {v : V} {Q : V → Sig → Prop} (hm : σ a = some (.list vs)) (h0 : 0 ≤ i) (hv : vs[i.toNat]? = some v) (hz : vs.length ≤ sizeLine) (q : Q v (σ.set a (.list (vs.eraseIdx i.toNat)))) : CALL g k (.builtin "list.pop") [.ref a, .int i] σ Q := by
  intro A own D s cs Rm S r
  cases r with
  | cons r r' =>
    cases r' with
    | cons r2 r' =>
      cases r'; replace r := r.of; obtain ⟨_, rfl⟩ := r; replace r2 := r2.of; obtain ⟨_, rfl⟩ := r2
      obtain ⟨cs, n, ho, rs⟩ := list_at S hm
      obtain ⟨c, hc, rv⟩ := rs.get hv
      have hlt : i.toNat < cs.length := (List.getElem?_eq_some_iff.mp hc).1
      have hz' := sizeLine_eq
      have hcl := rs.length
      have hk : seqIndex? i cs.toArray.size = some i.toNat := by
        unfold seqIndex?
        rw [List.size_toArray]
        have h1 : ¬ i < 0 := by lia
        have h2 : (i : Int) < (cs.length : Int) := by lia
        simp [h1, h0, h2]
      have hfit : Builtin.List.listFitsIndex i = true := by
        unfold Builtin.List.listFitsIndex
        simp only [Bool.and_eq_true, decide_eq_true_eq]
        constructor <;> lia
      refine call_meets PySem.F.slot_list_pop ⟨_, ho, rfl⟩ PySem.F.entry_list_pop (PySem.F.args_list_pop_2 _ _) (PySem.MeetsSeq.list_pop_at a cs.toArray n i _ i.toNat c hfit hk (by simpa using hc) (by rw [List.size_toArray]; lia)) ⟨ho, ?_⟩
      have hsb : Heap.SameBut a s.heap (s.heap.update a (Obj.mapSeq fun xs => xs.eraseIdxIfInBounds i.toNat)) := .update ..
      have ho' : (s.heap.update a (Obj.mapSeq fun xs => xs.eraseIdxIfInBounds i.toNat)).get? a = some (lstO (cs.eraseIdx i.toNat) (n + 1)) := by
        rw [Heap.get?_update_self _ ho (by rw [mapSeq_erase _ _ _ (by rw [List.size_toArray]; exact hlt)]; rfl), mapSeq_erase _ _ _ (by rw [List.size_toArray]; exact hlt)]
      exact ⟨D, _, S.upd (tk := s.toks) hm hsb ho' (.list (rs.erase _)), Step.upd hm hsb ho', _, rv, q⟩
theorem c_index {o : V} {ns : List Int} {x : Int} {Q : V → Sig → Prop} (hl : LI σ o (ns.map .int)) (hx : x ∈ ns) (hz : ns.length ≤ sizeLine) (q : Q (.int (ns.idxOf x : Nat)) σ) : CALL g k (.builtin "list.index") [o, .int x] σ Q := by
  intro A own D s cs Rm S r
  cases r with
  | cons r r' =>
    cases r' with
    | cons r2 r' =>
      cases r'; replace r2 := r2.of; obtain ⟨_, rfl⟩ := r2
      rename_i t
      obtain ⟨a, us, n, rfl, ho, rs⟩ := hl.at_ S r
      have hi := rs.ints
      have hlen := hi.length
      have hj : ns.idxOf x < ns.length := List.idxOf_lt_length_iff.mpr hx
      have hs := sizeLine_eq
      refine call_meets PySem.F.slot_list_index ⟨_, ho, rfl⟩ PySem.F.entry_list_index (PySem.F.args_list_index_2 _ _)
        (PySem.SeqAt.list_indexAt a us.toArray n none #[] (.int x t) (isInt x) (ns.idxOf x) (by simpa [hlen] using hj) (by lia) ?_ ?_) ⟨ho, fun y hy => (eq_isInt x t hi y (by simpa using hy)).at _ _, ⟨D, σ, S.tok _, Step.tok _, _, .int _ _, q⟩⟩
      · show isInt x us[ns.idxOf x] = true
        rw [isInt_at x hi _ (by lia) hj]
        simpa using List.getElem_idxOf hj
      · intro j hjs hlt
        show isInt x us[j] = false
        rw [isInt_at x hi j (by simpa using hjs) (by lia)]
        exact ne_of_lt_idxOf hlt _
-- dict.get
theorem c_get_Id {o : V} {kvs : List (Int × V)} {i : Int} {d : V} {Q : V → Sig → Prop} (h : DI σ o kvs) (q : Q ((kget kvs i).getD d) σ) : CALL g k (.builtin "dict.get") [o, .int i, d] σ Q := by
  intro A own D s cs Rm S r
  cases r with
  | cons r r' =>
    cases r' with
    | cons r2 r' =>
      cases r' with
      | cons r3 r' =>
        cases r'; replace r2 := r2.of; obtain ⟨_, rfl⟩ := r2
        obtain ⟨a, us, rfl, hd, rs, nd, hsys⟩ := h.at_ S r
        refine call_meetsIn PySem.F.slot_dict_get hd.typeIs PySem.F.entry_dict_get (PySem.F.args_dict_get_3 _ _ _) (meets_dict_get_default g.I a (isI i _) hsys _) ⟨_, hd.mapOf, D, σ, S.tok _, Step.tok _, (kget kvs i).getD d, ?_, q⟩
        have kv := kv_get rs i
        cases h : kget kvs i with
        | none => rw [h] at kv; rw [kv]; exact r3
        | some v => rw [h] at kv; obtain ⟨c, e1, e2⟩ := kv; rw [e1]; exact e2
theorem c_get_S {o : V} {kvs : List (Str × V)} {i : Str} {Q : V → Sig → Prop} (h : DS σ o kvs) (q : Q ((kget kvs i).getD .none) σ) : CALL g k (.builtin "dict.get") [o, .str i] σ Q := by
  intro A own D s cs Rm S r
  cases r with
  | cons r r' =>
    cases r' with
    | cons r2 r' =>
      cases r'; replace r2 := r2.of; obtain ⟨_, rfl⟩ := r2
      obtain ⟨a, us, rfl, hd, rs, nd, hsys⟩ := h.at_ S r
      refine call_meetsIn PySem.F.slot_dict_get hd.typeIs PySem.F.entry_dict_get (PySem.F.args_dict_get_2 _ _) (meets_dict_get g.S a (isS i _) hsys) ⟨_, hd.mapOf, D, σ, S.tok _, Step.tok _, (kget kvs i).getD .none, ?_, q⟩
      have kv := kv_get rs i
      cases h : kget kvs i with
      | none => rw [h] at kv; rw [kv]; exact .none
      | some v => rw [h] at kv; obtain ⟨c, e1, e2⟩ := kv; rw [e1]; exact e2

-- dicts with tuples of ints as keys
theorem keyT {ks : List Int} {c : Value} (S : St g own D σ s) (r : VR g D (.tup (ks.map .int)) c) : ∃ b, A3 (c = .ref b) (KeyAt D ks b) (g.T.is s.heap ks b) := by
  replace r := r.of; obtain ⟨b, xs, n, e, rs, rfl⟩ := r
  refine ⟨b, rfl, ⟨xs, n, e, rs.ints⟩, _, xs.toArray, n, S.dat _ _ e, rfl, rfl, ?_⟩
  show PySem.ItemsAre g.I ks xs.toArray.toList
  rw [List.toList_toArray]
  exact intKeys rs.ints
theorem kT_get {kvs : List (List Int × V)} {xs : List (List Int × Addr × Value)} (h1 : kvs.map (·.1) = xs.map (·.1)) (h3 : VRs g D (kvs.map (·.2)) (xs.map (·.2.2))) (ks : List Int) :
    match kget kvs ks with
    | some v => ∃ p, atKey xs ks = some p ∧ VR g D v p.2
    | none => atKey xs ks = none := by
  induction kvs generalizing xs with
  | nil => cases xs with | nil => rfl | cons => simp at h1
  | cons p r ih =>
    obtain ⟨k', v'⟩ := p
    cases xs with
    | nil => simp at h1
    | cons x xs =>
      simp only [List.map_cons, List.cons.injEq] at h1
      cases h3 with
      | cons a h3 =>
        have ih := ih h1.2 h3
        rw [kget_cons]
        unfold atKey at ih ⊢
        rw [List.find?_cons]
        by_cases h : k' = ks
        · rw [if_pos h]
          have : decide (x.1 = ks) = true := by rw [decide_eq_true_eq, ← h1.1, h]
          rw [this]
          exact ⟨_, rfl, a⟩
        · rw [if_neg h]
          have : decide (x.1 = ks) = false := by rw [decide_eq_false_iff_not, ← h1.1]; exact h
          rw [this]
          exact ih
theorem c_get_T {o : V} {kvs : List (List Int × V)} {ks : List Int} {Q : V → Sig → Prop} (h : DT σ o kvs) (q : Q ((kget kvs ks).getD .none) σ) : CALL g k (.builtin "dict.get") [o, .tup (ks.map .int)] σ Q := by
  intro A own D s cs Rm S r
  cases r with
  | cons r r' =>
    cases r' with
    | cons r2 r' =>
      cases r'
      obtain ⟨a, xs, rfl, hd, h1, h2, h3, nd, hsys⟩ := h.at_ S r
      obtain ⟨b, rfl, hb, hk⟩ := keyT S r2
      refine call_meetsIn PySem.F.slot_dict_get hd.typeIs PySem.F.entry_dict_get (PySem.F.args_dict_get_2 _ _) (meetsH_dict_get g.T a b hsys) ⟨show g.T.room A.in1 from Rm.units1, ks, xs, hk, hd, D, σ, S.tok _, Step.tok _, (kget kvs ks).getD .none, ?_, q⟩
      have kv := kT_get h1 h3 ks
      cases h : kget kvs ks with
      | none => rw [h] at kv; rw [kv]; exact .none
      | some v => rw [h] at kv; obtain ⟨p, e1, e2⟩ := kv; rw [e1]; exact e2
theorem item_dT {o : V} {kvs : List (List Int × V)} {ks : List Int} {v : V} {Q : V → Sig → Prop} (hl : DT σ o kvs) (hv : kget kvs ks = some v) (q : Q v σ) : ITEM g k o (.tup (ks.map .int)) σ Q := by
  intro A own D s co ci Rm S r1 r2
  obtain ⟨a, xs, rfl, hd, h1, h2, h3, nd, hsys⟩ := hl.at_ S r1
  obtain ⟨b, rfl, hb, hk⟩ := keyT S r2
  have kv := kT_get h1 h3 ks
  rw [hv] at kv
  obtain ⟨p, e1, e2⟩ := kv
  exact ⟨⟨"dict", _, hd.typeIs, slot_dict_getitem.lookup⟩, wpAny_getItem_heap (knd := g.T) (show g.T.room A.in1 from Rm.units1) hk hd e1 ⟨D, σ, S.tok _, Step.tok _, v, e2, q⟩⟩
theorem kT_put {kvs : List (List Int × V)} {xs : List (List Int × Addr × Value)} {ks : List Int} {b : Addr} {v : V} {c : Value} (h1 : kvs.map (·.1) = xs.map (·.1)) (h3 : VRs g D (kvs.map (·.2)) (xs.map (·.2.2))) (nd : (kvs.map (·.1)).Nodup) (a : VR g D v c) :
    (kput kvs ks v).map (·.1) = (storedH xs ks b c).map (·.1) ∧ VRs g D ((kput kvs ks v).map (·.2)) ((storedH xs ks b c).map (·.2.2)) := by
  induction kvs generalizing xs with
  | nil =>
    cases xs with
    | cons => simp at h1
    | nil => exact ⟨rfl, .cons a .nil⟩
  | cons p r ih =>
    obtain ⟨k', v'⟩ := p
    cases xs with
    | nil => simp at h1
    | cons x xs =>
      simp only [List.map_cons, List.cons.injEq] at h1
      rw [List.map_cons] at nd
      obtain ⟨n1, n2⟩ := List.nodup_cons.mp nd
      cases h3 with
      | cons a' h3 =>
        obtain ⟨i1, i2⟩ := ih h1.2 h3 n2
        rw [kput_cons]
        by_cases h : k' = ks
        · subst h
          have e : decide (x.1 = k') = true := by rw [decide_eq_true_eq, ← h1.1]
          have hs : storedH (x :: xs) k' b c = (x.1, x.2.1, c) :: xs := by
            unfold storedH atKey
            rw [List.find?_cons, e]
            show (if true = true then _ else _) = _
            rw [if_pos rfl, List.map_cons]
            have e2 : putAt k' c x = (x.1, x.2.1, c) := by unfold putAt; rw [if_pos (of_decide_eq_true e)]
            have e3 : xs.map (putAt k' c) = xs := by
              refine (List.map_congr_left fun y hy => ?_).trans (List.map_id _)
              unfold putAt
              rw [if_neg fun q => n1 (by rw [h1.2, ← q]; exact List.mem_map_of_mem hy)]
              rfl
            rw [e2, e3]
          rw [hs, if_pos rfl]
          refine ⟨?_, ?_⟩
          · rw [List.map_cons, List.map_cons, h1.2, h1.1]
          · exact .cons a h3
        · have e : decide (x.1 = ks) = false := by rw [decide_eq_false_iff_not, ← h1.1]; exact h
          have hs : storedH (x :: xs) ks b c = x :: storedH xs ks b c := by
            have e0 : atKey (x :: xs) ks = atKey xs ks := by unfold atKey; rw [List.find?_cons, e]
            unfold storedH
            rw [e0]
            by_cases q : (atKey xs ks).isSome = true
            · rw [if_pos q, if_pos q, List.map_cons]
              have e2 : putAt ks c x = x := by unfold putAt; rw [if_neg (of_decide_eq_false e)]
              rw [e2]
            · rw [if_neg q, if_neg q]; rfl
          rw [hs, if_neg h]
          refine ⟨?_, .cons a' i2⟩
          rw [List.map_cons, List.map_cons, i1, h1.1]
theorem seti_dT {a : Addr} {kvs : List (List Int × V)} {ks : List Int} {v : V} {Q : Sig → Prop} (hm : σ a = some (.dT kvs)) (hl : kvs.length ≤ 1000) (q : Q (σ.set a (.dT (kput kvs ks v)))) : SETI g k (.ref a) (.tup (ks.map .int)) v σ Q := by
  intro A own D s co ci cv Rm S r1 r2 r3
  obtain ⟨a', xs, e, hd, h1, h2, h3, nd, hsys⟩ := (DT.m hm).at_ S r1
  replace r1 := r1.of; obtain ⟨_, rfl⟩ := r1; cases e
  obtain ⟨b, rfl, hb, hk⟩ := keyT S r2
  have hx : xs.length = kvs.length := by have := congrArg List.length h1; simpa using this.symm
  refine wpAny_setItem_heap (knd := g.T) (show g.T.room A.in1 from Rm.units1) hk hd (fun h' hd' hs => ?_) (by rw [hx, sizeLine_eq]; lia)
  obtain ⟨p1, p2⟩ := kT_put (ks := ks) (b := b) h1 h3 nd r3
  obtain ⟨o, es, n, ho, ⟨c1, c2, c3⟩, hdat, hes, his, hnd⟩ := hd'
  obtain ⟨c, d, dt, sl⟩ := o
  dsimp only at c1 c2 c3 hdat
  subst c1 c2 c3 hdat
  have e : es = ((storedH xs ks b cv).map (entryOfKey g.T)).toArray := by rw [← hes]
  subst e
  have S' := S.upd (tk := s.toks + g.T.draws ks) (m' := .dT (kput kvs ks v)) hm hs ho (.dT p1 (fun x hx => by
    rcases mem_storedH hx with ⟨y, hy, e1, e2⟩ | ⟨e1, e2⟩
    · rw [e1, e2]; exact h2 y hy
    · rw [e1, e2]; exact hb) p2 (kput_nodup nd))
  exact ⟨D, _, S', Step.upd hm hs ho, q⟩

-- in
theorem cmp_in_S {o : V} {kvs : List (Str × V)} {x : Str} {Q : Bool → Sig → Prop} (h : DS σ o kvs) (q : Q (kget kvs x).isSome σ) : CMP g k .In (.str x) o σ Q := by
  intro A own D s c d Rm S r1 r2
  replace r1 := r1.of; obtain ⟨_, rfl⟩ := r1
  obtain ⟨a, us, rfl, hd, rs, nd, hsys⟩ := h.at_ S r2
  refine wpAny_in_of (knd := g.S) (isS x _) hsys hd.mapOf ⟨D, σ, S.tok _, Step.tok _, _, .bool _, _, rfl, ?_⟩
  have kv := kv_get rs x
  cases h : kget kvs x with
  | none => rw [h] at kv q; rw [kv]; exact q
  | some v => rw [h] at kv q; obtain ⟨c, e1, e2⟩ := kv; rw [e1]; exact q
theorem cmp_notin_S {o : V} {kvs : List (Str × V)} {x : Str} {Q : Bool → Sig → Prop} (h : DS σ o kvs) (q : Q (!(kget kvs x).isSome) σ) : CMP g k .NotIn (.str x) o σ Q := by
  intro A own D s c d Rm S r1 r2
  replace r1 := r1.of; obtain ⟨_, rfl⟩ := r1
  obtain ⟨a, us, rfl, hd, rs, nd, hsys⟩ := h.at_ S r2
  refine wpAny_notIn_of (knd := g.S) (isS x _) hsys hd.mapOf ⟨D, σ, S.tok _, Step.tok _, _, .bool _, _, rfl, ?_⟩
  have kv := kv_get rs x
  cases h : kget kvs x with
  | none => rw [h] at kv q; rw [kv]; exact q
  | some v => rw [h] at kv q; obtain ⟨c, e1, e2⟩ := kv; rw [e1]; exact q
theorem cmp_notin_T {o : V} {kvs : List (List Int × V)} {ks : List Int} {Q : Bool → Sig → Prop} (h : DT σ o kvs) (q : Q (!(kget kvs ks).isSome) σ) : CMP g k .NotIn (.tup (ks.map .int)) o σ Q := by
  intro A own D s c d Rm S r1 r2
  obtain ⟨a, xs, rfl, hd, h1, h2, h3, nd, hsys⟩ := h.at_ S r2
  obtain ⟨b, rfl, hb, hk⟩ := keyT S r1
  refine wpAny_notIn_heap (knd := g.T) (show g.T.room A.in1 from Rm.units1) hk hsys hd ⟨D, σ, S.tok _, Step.tok _, _, .bool _, _, rfl, ?_⟩
  have kv := kT_get h1 h3 ks
  cases h : kget kvs ks with
  | none => rw [h] at kv q; rw [kv]; exact q
  | some v => rw [h] at kv q; obtain ⟨p, e1, e2⟩ := kv; rw [e1]; exact q
theorem any_mem (ns : List Int) (x : Int) : ns.any (· == x) = decide (x ∈ ns) := by
  rw [Bool.eq_iff_iff]
  simp
theorem cmp_in_L {o : V} {ns : List Int} {x : Int} {Q : Bool → Sig → Prop} (h : LI σ o (ns.map .int)) (q : Q (decide (x ∈ ns)) σ) : CMP g k .In (.int x) o σ Q := by
  intro A own D s c d Rm S r1 r2
  replace r1 := r1.of; obtain ⟨_, rfl⟩ := r1
  obtain ⟨a, us, n, rfl, ho, rs⟩ := h.at_ S r2
  exact W.quiet S (in_list_ints ⟨_, ho, rfl, n, rfl⟩ rs.ints ⟨s.toks, rfl, _, .bool _, _, rfl, by rw [any_mem]; exact q⟩)
theorem cmp_notin_L {o : V} {ns : List Int} {x : Int} {Q : Bool → Sig → Prop} (h : LI σ o (ns.map .int)) (q : Q (!decide (x ∈ ns)) σ) : CMP g k .NotIn (.int x) o σ Q := by
  intro A own D s c d Rm S r1 r2
  replace r1 := r1.of; obtain ⟨_, rfl⟩ := r1
  obtain ⟨a, us, n, rfl, ho, rs⟩ := h.at_ S r2
  exact W.quiet S (notin_list_ints ⟨_, ho, rfl, n, rfl⟩ rs.ints ⟨s.toks, rfl, _, .bool _, _, rfl, by rw [any_mem]; exact q⟩)
theorem cmp_in_tup {ns : List Int} {x : Int} {Q : Bool → Sig → Prop} (q : Q (decide (x ∈ ns)) σ) : CMP g k .In (.int x) (.tup (ns.map .int)) σ Q := by
  intro A own D s c d Rm S r1 r2
  replace r1 := r1.of; obtain ⟨_, rfl⟩ := r1
  replace r2 := r2.of; obtain ⟨_, _, _, e, rs, rfl⟩ := r2
  exact W.quiet S (in_tuple_ints ⟨_, S.dat _ _ e, rfl, _, rfl⟩ (by simpa using rs.ints) ⟨s.toks, rfl, _, .bool _, _, rfl, by rw [any_mem]; exact q⟩)
theorem VRs.strs {ns : List Str} {cs : List Value} (h : VRs g D (ns.map .str) cs) : StrsAre cs ns := by
  induction ns generalizing cs with
  | nil => cases h; exact .nil
  | cons n ns ih => cases h with | cons a r => replace a := a.of; obtain ⟨_, rfl⟩ := a; exact .cons _ _ (ih r)
theorem cmp_notin_Ls {o : V} {ns : List Str} {x : Str} {Q : Bool → Sig → Prop} (h : LI σ o (ns.map .str)) (q : Q (!(ns.any (· == x))) σ) : CMP g k .NotIn (.str x) o σ Q := by
  intro A own D s c d Rm S r1 r2
  replace r1 := r1.of; obtain ⟨_, rfl⟩ := r1
  obtain ⟨a, us, n, rfl, ho, rs⟩ := h.at_ S r2
  exact W.quiet S (notin_list_strs ⟨_, ho, rfl, n, rfl⟩ rs.strs ⟨s.toks, rfl, _, .bool _, _, rfl, q⟩)
end
end Mine

end
section
set_option maxRecDepth 100000
set_option linter.unusedVariables false
namespace Mine
open PySem PySem.W PyProof.Rows PySem.Calls
open PySem.SeqAt (EqAt)

theorem slot_bytes_lt : Slot "bytes" (cmpInfo .Lt).2.1 "bytes.__lt__" :=
  .of (owner := "bytes") (n := "__lt__") (by rw [typeLookup_type, builtinLookup_eq_fast]; kernel_rfl) (by decide +kernel) (by decide +kernel) (by decide +kernel)
    (by first | exact .inl (by decide +kernel) | exact .inr (by decide +kernel)) (by rw [isSubtype_type]; kernel_rfl)
theorem slot_bytes_gt : Slot "bytes" (cmpInfo .Gt).2.1 "bytes.__gt__" :=
  .of (owner := "bytes") (n := "__gt__") (by rw [typeLookup_type, builtinLookup_eq_fast]; kernel_rfl) (by decide +kernel) (by decide +kernel) (by decide +kernel)
    (by first | exact .inl (by decide +kernel) | exact .inr (by decide +kernel)) (by rw [isSubtype_type]; kernel_rfl)
theorem entry_bytes_lt : entryFor table "bytes.__lt__" = some Builtin.«bytes.__lt__» := entryFor_of_tree (by kernel_rfl)
theorem entry_bytes_gt : entryFor table "bytes.__gt__" = some Builtin.«bytes.__gt__» := entryFor_of_tree (by kernel_rfl)
theorem args_bytes_lt (a b : Value) : argsOk "bytes.__lt__" ⟨[a, b], []⟩ := by unfold argsOk; kernel_rfl
theorem args_bytes_gt (a b : Value) : argsOk "bytes.__gt__" ⟨[a, b], []⟩ := by unfold argsOk; kernel_rfl
theorem sub_bytes_bytes : isSubtype (.type "bytes") (.type "bytes") = pure true := by rw [isSubtype_type]; kernel_rfl

section
variable {prog : Program} {w : World} {A : Around} {E : Value → Shared → Prop} {s : Shared}
theorem bytes_lt_tree {x y : Array UInt8} {t u : Tok} {Q : Value → Shared → Prop} (hu : A.units < cLine) (h : Q (.bool (Builtin.Bytes.order x.toList y.toList == .lt)) s) : wpAny (model prog w) A (compareOp .Lt (.bytes x t) (.bytes y u)) Q E s := by
  refine wpAny_richCompare_same_room (op := .Lt) (T := "bytes") rfl rfl slot_bytes_lt (wpAny_call_entry slot_bytes_lt rfl entry_bytes_lt ?_ (args_bytes_lt _ _)) hu
  refine wpAny_bind (m := slotArgs "__lt__" 1 _) (wpAny_pure (a := (Value.bytes x t, [Value.bytes y u])) ?_)
  refine wpAny_bind (wpAny_isInstance (T := "bytes") rfl sub_bytes_bytes ?_)
  simp only [Bool.not_true, Bool.false_eq_true, if_false]
  refine wpAny_bind (m := Builtin.Bytes.payload _) (wpAny_pure (a := x) ?_)
  refine wpAny_bind (m := Builtin.Bytes.payload _) (wpAny_pure (a := y) ?_)
  exact wpAny_pure ⟨_, rfl, (fun x => by cases x), h⟩
theorem bytes_gt_tree {x y : Array UInt8} {t u : Tok} {Q : Value → Shared → Prop} (hu : A.units < cLine) (h : Q (.bool (Builtin.Bytes.order x.toList y.toList == .gt)) s) : wpAny (model prog w) A (compareOp .Gt (.bytes x t) (.bytes y u)) Q E s := by
  refine wpAny_richCompare_same_room (op := .Gt) (T := "bytes") rfl rfl slot_bytes_gt (wpAny_call_entry slot_bytes_gt rfl entry_bytes_gt ?_ (args_bytes_gt _ _)) hu
  refine wpAny_bind (m := slotArgs "__gt__" 1 _) (wpAny_pure (a := (Value.bytes x t, [Value.bytes y u])) ?_)
  refine wpAny_bind (wpAny_isInstance (T := "bytes") rfl sub_bytes_bytes ?_)
  simp only [Bool.not_true, Bool.false_eq_true, if_false]
  refine wpAny_bind (m := Builtin.Bytes.payload _) (wpAny_pure (a := x) ?_)
  refine wpAny_bind (m := Builtin.Bytes.payload _) (wpAny_pure (a := y) ?_)
  exact wpAny_pure ⟨_, rfl, (fun x => by cases x), h⟩

end
-- lists in order
open AutoSeq1 (wpAny_loadPart')
/-- where two lists part -/
noncomputable def Parts (e : Nat → Bool) (m i : Nat) (P : Nat → Prop) (F : Prop) : Prop := (∀ k, i ≤ k → k < m → (∀ j, i ≤ j → j < k → e j = true) → e k = false → P k) ∧ ((∀ j, i ≤ j → j < m → e j = true) → F)
theorem Parts.next {e : Nat → Bool} {m i : Nat} {P : Nat → Prop} {F : Prop} (h : Parts e m i P F) (hi : e i = true) : Parts e m (i + 1) P F :=
  ⟨fun k h1 h2 h3 h4 => h.1 k (by lia) h2 (fun j a b => if q : j = i then q ▸ hi else h3 j (by lia) b) h4, fun h3 => h.2 fun j a b => if q : j = i then q ▸ hi else h3 j (by lia) b⟩
open MeetsSeq MeetsSeq2 MeetsSeq3 SeqRoads2 PySem.SeqAt
theorem lt_loop (l b : Addr) (items items2 : Array Value) (n n2 : Nat) (e : Nat → Bool) (k : Nat) :
    ∀ i : Nat, items.size - i = k → i ≤ items.size → i ≤ items2.size → ∀ (prog : Program) (w : World) (A : Around) (R : Result → Shared → Prop) (s : Shared),
      s.heap.get? l = some { cls := .type "list", dict := none, data := .seq items n, slots := #[] } → s.heap.get? b = some { cls := .type "list", dict := none, data := .seq items2 n2, slots := #[] } →
      (∀ j (h1 : j < items.size) (h2 : j < items2.size), EqAt A.in1 s items[j] items2[j] (e j)) →
      Parts e (min items.size items2.size) i (fun j => wpAny (model prog w) A.in1 (richCompare .Lt (items.getD j .none) (items2.getD j .none)) (fun v s' => R (.ok (.ret v)) s') (fun _ _ => False) s) (R (.ok (.ret (.bool (decide (items.size < items2.size))))) s) →
      wpAny (model prog w) A.in1 (Builtin.«list.__eq__.loop» ⟨[.ref l, .ref b, rawInt i, rawInt 0], []⟩) (fun fin s' => match fin with | .done f => R (.ok f) s' | .again c' => c'.quiet = true ∧ codeAny (model prog w) A c' R s') (fun e s' => R (.error e) s') s := by
  induction k with
  | zero =>
    intro i hk hle hle2 prog w A R s hl hb he h
    obtain ⟨hp, g, d, tk, os⟩ := s
    wp_walk using wpAny_loadPart' hl, wpAny_loadPart' hb
    have hi1 : items[((i : Nat) : Int).toNat]? = none := by simp; lia
    have fin := h.2 (fun j a b => by lia)
    rw [hi1]
    wp_walk using wpAny_loadPart' hl, wpAny_loadPart' hb
    exact fin
  | succ k ih =>
    intro i hk hle hle2 prog w A R s hl hb he h
    obtain ⟨hp, g, d, tk, os⟩ := s
    wp_walk using wpAny_loadPart' hl, wpAny_loadPart' hb
    have hlt : i < items.size := by lia
    have hi1 : items[((i : Nat) : Int).toNat]? = some items[i] := by simp [hlt]
    have hc : ((i : Int) + 1) = ((i + 1 : Nat) : Int) := by push_cast; rfl
    by_cases hlt2 : i < items2.size
    · have hi2 : items2[((i : Nat) : Int).toNat]? = some items2[i] := by simp [hlt2]
      rw [hi1, hi2]
      refine wpAny_bind (he i hlt hlt2 prog w _ _ ?_)
      cases hb' : e i with
      | true =>
        wp_walk
        rw [hc]
        exact ⟨plainId_quiet plain_eq_loop _, codeAny_builtin entry_eq_loop (by
          rw [Around.under_plainId plain_eq_loop _]
          exact ih (i + 1) (by lia) hlt hlt2 prog w A R _ hl hb he (h.next hb'))⟩
      | false =>
        wp_walk using wpAny_loadPart' hl, wpAny_loadPart' hb
        rw [hi1, hi2]
        have hp' := h.1 i (Nat.le_refl _) (by lia) (fun j a b => by lia) hb'
        have g1 : items.getD i .none = items[i] := by simp [Array.getD, hlt]
        have g2 : items2.getD i .none = items2[i] := by simp [Array.getD, hlt2]
        dsimp only at hp'
        rw [g1, g2] at hp'
        refine wpAny_bind (wpAny_mono hp' (fun v s' hv => ?_) fun _ _ x => x.elim)
        exact wpAny_pure hv
    · have hi2 : items2[((i : Nat) : Int).toNat]? = none := by simp; lia
      have fin := h.2 (fun j a b => by lia)
      rw [hi1, hi2]
      wp_walk using wpAny_loadPart' hl, wpAny_loadPart' hb
      exact fin
theorem lt_meets (l b : Addr) (items items2 : Array Value) (n n2 : Nat) (e : Nat → Bool) :
    Meets (Builtin.«list.__lt__» ⟨[.ref l, .ref b], []⟩) (fun A R s => s.heap.get? l = some { cls := .type "list", dict := none, data := .seq items n, slots := #[] } ∧ s.heap.get? b = some { cls := .type "list", dict := none, data := .seq items2 n2, slots := #[] } ∧
      (∀ j (h1 : j < items.size) (h2 : j < items2.size), EqAt A.in1 s items[j] items2[j] (e j)) ∧
      ∀ prog w, Parts e (min items.size items2.size) 0 (fun j => wpAny (model prog w) A.in1 (richCompare .Lt (items.getD j .none) (items2.getD j .none)) (fun v s' => R (.ok (.ret v)) s') (fun _ _ => False) s) (R (.ok (.ret (.bool (decide (items.size < items2.size))))) s)) := by
  intro prog w A R s h
  obtain ⟨hp, g, d, tk, os⟩ := s
  obtain ⟨hl, hb, he, h⟩ := h
  have f3 := AutoSeq1.sub_list_list
  wp_walk using wpAny_loadPart' hl, wpAny_loadPart' hb
  exact ⟨plainId_quiet plain_eq_loop _, codeAny_builtin entry_eq_loop (by
    rw [Around.under_plainId plain_eq_loop _]
    exact lt_loop l b items items2 n n2 e _ 0 rfl (Nat.zero_le _) (Nat.zero_le _) prog w A R _ hl hb he (h prog w))⟩
theorem gt_loop (l b : Addr) (items items2 : Array Value) (n n2 : Nat) (e : Nat → Bool) (k : Nat) :
    ∀ i : Nat, items.size - i = k → i ≤ items.size → i ≤ items2.size → ∀ (prog : Program) (w : World) (A : Around) (R : Result → Shared → Prop) (s : Shared),
      s.heap.get? l = some { cls := .type "list", dict := none, data := .seq items n, slots := #[] } → s.heap.get? b = some { cls := .type "list", dict := none, data := .seq items2 n2, slots := #[] } →
      (∀ j (h1 : j < items.size) (h2 : j < items2.size), EqAt A.in1 s items[j] items2[j] (e j)) →
      Parts e (min items.size items2.size) i (fun j => wpAny (model prog w) A.in1 (richCompare .Gt (items.getD j .none) (items2.getD j .none)) (fun v s' => R (.ok (.ret v)) s') (fun _ _ => False) s) (R (.ok (.ret (.bool (decide (items.size > items2.size))))) s) →
      wpAny (model prog w) A.in1 (Builtin.«list.__eq__.loop» ⟨[.ref l, .ref b, rawInt i, rawInt 4], []⟩) (fun fin s' => match fin with | .done f => R (.ok f) s' | .again c' => c'.quiet = true ∧ codeAny (model prog w) A c' R s') (fun e s' => R (.error e) s') s := by
  induction k with
  | zero =>
    intro i hk hle hle2 prog w A R s hl hb he h
    obtain ⟨hp, g, d, tk, os⟩ := s
    wp_walk using wpAny_loadPart' hl, wpAny_loadPart' hb
    have hi1 : items[((i : Nat) : Int).toNat]? = none := by simp; lia
    have fin := h.2 (fun j a b => by lia)
    rw [hi1]
    wp_walk using wpAny_loadPart' hl, wpAny_loadPart' hb
    exact fin
  | succ k ih =>
    intro i hk hle hle2 prog w A R s hl hb he h
    obtain ⟨hp, g, d, tk, os⟩ := s
    wp_walk using wpAny_loadPart' hl, wpAny_loadPart' hb
    have hlt : i < items.size := by lia
    have hi1 : items[((i : Nat) : Int).toNat]? = some items[i] := by simp [hlt]
    have hc : ((i : Int) + 1) = ((i + 1 : Nat) : Int) := by push_cast; rfl
    by_cases hlt2 : i < items2.size
    · have hi2 : items2[((i : Nat) : Int).toNat]? = some items2[i] := by simp [hlt2]
      rw [hi1, hi2]
      refine wpAny_bind (he i hlt hlt2 prog w _ _ ?_)
      cases hb' : e i with
      | true =>
        wp_walk
        rw [hc]
        exact ⟨plainId_quiet plain_eq_loop _, codeAny_builtin entry_eq_loop (by
          rw [Around.under_plainId plain_eq_loop _]
          exact ih (i + 1) (by lia) hlt hlt2 prog w A R _ hl hb he (h.next hb'))⟩
      | false =>
        wp_walk using wpAny_loadPart' hl, wpAny_loadPart' hb
        rw [hi1, hi2]
        have hp' := h.1 i (Nat.le_refl _) (by lia) (fun j a b => by lia) hb'
        have g1 : items.getD i .none = items[i] := by simp [Array.getD, hlt]
        have g2 : items2.getD i .none = items2[i] := by simp [Array.getD, hlt2]
        dsimp only at hp'
        rw [g1, g2] at hp'
        refine wpAny_bind (wpAny_mono hp' (fun v s' hv => ?_) fun _ _ x => x.elim)
        exact wpAny_pure hv
    · have hi2 : items2[((i : Nat) : Int).toNat]? = none := by simp; lia
      have fin := h.2 (fun j a b => by lia)
      rw [hi1, hi2]
      wp_walk using wpAny_loadPart' hl, wpAny_loadPart' hb
      exact fin
theorem gt_meets (l b : Addr) (items items2 : Array Value) (n n2 : Nat) (e : Nat → Bool) :
    Meets (Builtin.«list.__gt__» ⟨[.ref l, .ref b], []⟩) (fun A R s => s.heap.get? l = some { cls := .type "list", dict := none, data := .seq items n, slots := #[] } ∧ s.heap.get? b = some { cls := .type "list", dict := none, data := .seq items2 n2, slots := #[] } ∧
      (∀ j (h1 : j < items.size) (h2 : j < items2.size), EqAt A.in1 s items[j] items2[j] (e j)) ∧
      ∀ prog w, Parts e (min items.size items2.size) 0 (fun j => wpAny (model prog w) A.in1 (richCompare .Gt (items.getD j .none) (items2.getD j .none)) (fun v s' => R (.ok (.ret v)) s') (fun _ _ => False) s) (R (.ok (.ret (.bool (decide (items.size > items2.size))))) s)) := by
  intro prog w A R s h
  obtain ⟨hp, g, d, tk, os⟩ := s
  obtain ⟨hl, hb, he, h⟩ := h
  have f3 := AutoSeq1.sub_list_list
  wp_walk using wpAny_loadPart' hl, wpAny_loadPart' hb
  exact ⟨plainId_quiet plain_eq_loop _, codeAny_builtin entry_eq_loop (by
    rw [Around.under_plainId plain_eq_loop _]
    exact gt_loop l b items items2 n n2 e _ 0 rfl (Nat.zero_le _) (Nat.zero_le _) prog w A R _ hl hb he (h prog w))⟩

end Mine

end
section
set_option maxRecDepth 100000
set_option linter.unusedVariables false
namespace Mine
open PySem PySem.W PyProof.Rows PySem.Calls
open PySem.SeqAt (EqAt)

/-- order of lists by their first difference -/
noncomputable def lexB {α : Type} [DecidableEq α] (lt : α → α → Bool) : List α → List α → Bool
  | [], [] => false
  | [], _ :: _ => true
  | _ :: _, [] => false
  | a :: as, b :: bs => if a = b then lexB lt as bs else lt a b
theorem lexB_cons {α : Type} [DecidableEq α] (lt : α → α → Bool) (a : α) (as : List α) (b : α) (bs : List α) : lexB lt (a :: as) (b :: bs) = if a = b then lexB lt as bs else lt a b := rfl
theorem lexB_at {α : Type} [DecidableEq α] {lt : α → α → Bool} {as bs : List α} {d : α} : ∀ {k : Nat}, k < as.length → k < bs.length → (∀ j, j < k → as.getD j d = bs.getD j d) → as.getD k d ≠ bs.getD k d → lexB lt as bs = lt (as.getD k d) (bs.getD k d) := by
  induction as generalizing bs with
  | nil => intro k h; simp at h
  | cons a as ih =>
    intro k h1 h2 h3 h4
    cases bs with
    | nil => simp at h2
    | cons b bs =>
      rw [lexB_cons]
      cases k with
      | zero =>
        have : a ≠ b := by simpa using h4
        rw [if_neg this]; rfl
      | succ k =>
        have e : a = b := by simpa using h3 0 (Nat.succ_pos _)
        rw [if_pos e, ih (k := k) (by simpa using h1) (by simpa using h2) (fun j hj => by simpa using h3 (j + 1) (Nat.succ_lt_succ hj)) (by simpa using h4)]
        simp
theorem lexB_len {α : Type} [DecidableEq α] {lt : α → α → Bool} {as bs : List α} {d : α} (h : ∀ j, j < min as.length bs.length → as.getD j d = bs.getD j d) : lexB lt as bs = decide (as.length < bs.length) := by
  induction as generalizing bs with
  | nil => cases bs <;> rfl
  | cons a as ih =>
    cases bs with
    | nil => rfl
    | cons b bs =>
      have e : a = b := by simpa using h 0 (by simp)
      rw [lexB_cons, if_pos e, ih fun j hj => by simpa using h (j + 1) (by simp at hj ⊢; lia)]
      simp
noncomputable abbrev ltI (a b : Int) : Bool := decide (a < b)
noncomputable abbrev ltL : List Int → List Int → Bool := lexB ltI

section
variable {A : Around} {E : Value → Shared → Prop} {s : Shared}
theorem ints_getD {cs : List Value} {ns : List Int} (h : IntsAre cs ns) : ∀ j, j < ns.length → ∃ t, cs.toArray.getD j .none = .int (ns.getD j 0) t := by
  induction h with
  | nil => intro j hj; simp at hj
  | cons n t hr ih =>
    intro j hj
    cases j with
    | zero => exact ⟨t, rfl⟩
    | succ j =>
      obtain ⟨t, e⟩ := ih j (by simpa using hj)
      exact ⟨t, by simpa [Array.getD] using e⟩
theorem ints_parts {cs ds : List Value} {ns ms : List Int} (h1 : IntsAre cs ns) (h2 : IntsAre ds ms) : ∀ j (a : j < cs.toArray.size) (b : j < ds.toArray.size), EqAt A s cs.toArray[j] ds.toArray[j] (decide (ns.getD j 0 = ms.getD j 0)) := by
  intro j a b
  have l1 : j < ns.length := by have := h1.length; simp at a; lia
  have l2 : j < ms.length := by have := h2.length; simp at b; lia
  obtain ⟨t, e1⟩ := ints_getD h1 j l1
  obtain ⟨u, e2⟩ := ints_getD h2 j l2
  have g1 : cs.toArray.getD j .none = cs.toArray[j] := by
    unfold Array.getD; rw [dif_pos a]; rfl
  have g2 : ds.toArray.getD j .none = ds.toArray[j] := by
    unfold Array.getD; rw [dif_pos b]; rfl
  rw [← g1, ← g2, e1, e2]
  have := EqAt.int_int (A := A) (s := s) (ns.getD j 0) t (ms.getD j 0) u
  rwa [show (ns.getD j 0 == ms.getD j 0) = decide (ns.getD j 0 = ms.getD j 0) from by rw [Bool.eq_iff_iff, beq_iff_eq, decide_eq_true_eq]] at this
theorem lt_ints {prog : Program} {w : World} {l b : Addr} {cs ds : List Value} {n m : Nat} {ns ms : List Int} {Q : Value → Shared → Prop} (hl : s.heap.get? l = some (lstO cs n)) (hb : s.heap.get? b = some (lstO ds m)) (h1 : IntsAre cs ns) (h2 : IntsAre ds ms) (hu : A.units < cLine)
    (h : Q (.bool (ltL ns ms)) s) : wpAny (model prog w) A (compareOp .Lt (.ref l) (.ref b)) Q E s := by
  have e1 := h1.length
  have e2 := h2.length
  refine richCompare_meets_room (op := .Lt) ⟨_, hl, rfl⟩ ⟨_, hb, rfl⟩ PySem.F.slot_list_lt PySem.F.entry_list_lt (PySem.F.args_list_lt_2 _ _) (lt_meets l b cs.toArray ds.toArray n m fun j => decide (ns.getD j 0 = ms.getD j 0)) ⟨hl, hb, ints_parts h1 h2, fun prog w => ⟨fun j _ hj he hne => ?_, fun he => ?_⟩⟩ hu
  · have hj' : j < ns.length ∧ j < ms.length := by simp at hj; lia
    obtain ⟨t, g1⟩ := ints_getD h1 j hj'.1
    obtain ⟨u, g2⟩ := ints_getD h2 j hj'.2
    dsimp only
    rw [g1, g2]
    have key := lexB_at (lt := ltI) (d := 0) hj'.1 hj'.2 (fun i hi => of_decide_eq_true (he i (Nat.zero_le _) hi)) (of_decide_eq_false hne)
    rw [show ltL ns ms = ltI (ns.getD j 0) (ms.getD j 0) from key] at h
    exact PySem.P.lt_int ⟨(fun x => by cases x), h⟩
  · have key := lexB_len (lt := ltI) (as := ns) (bs := ms) (d := 0) fun j hj => of_decide_eq_true (he j (Nat.zero_le _) (by simp; lia))
    refine ⟨(fun x => by cases x), ?_⟩
    have : decide (cs.toArray.size < ds.toArray.size) = lexB ltI ns ms := by rw [key]; simp [e1, e2]
    rw [this]; exact h
theorem gt_ints {prog : Program} {w : World} {l b : Addr} {cs ds : List Value} {n m : Nat} {ns ms : List Int} {Q : Value → Shared → Prop} (hl : s.heap.get? l = some (lstO cs n)) (hb : s.heap.get? b = some (lstO ds m)) (h1 : IntsAre cs ns) (h2 : IntsAre ds ms) (hu : A.units < cLine)
    (h : Q (.bool (ltL ms ns)) s) : wpAny (model prog w) A (compareOp .Gt (.ref l) (.ref b)) Q E s := by
  have e1 := h1.length
  have e2 := h2.length
  refine richCompare_meets_room (op := .Gt) ⟨_, hl, rfl⟩ ⟨_, hb, rfl⟩ PySem.F.slot_list_gt PySem.F.entry_list_gt (PySem.F.args_list_gt_2 _ _) (gt_meets l b cs.toArray ds.toArray n m fun j => decide (ns.getD j 0 = ms.getD j 0)) ⟨hl, hb, ints_parts h1 h2, fun prog w => ⟨fun j _ hj he hne => ?_, fun he => ?_⟩⟩ hu
  · have hj' : j < ns.length ∧ j < ms.length := by simp at hj; lia
    obtain ⟨t, g1⟩ := ints_getD h1 j hj'.1
    obtain ⟨u, g2⟩ := ints_getD h2 j hj'.2
    dsimp only
    rw [g1, g2]
    have key := lexB_at (lt := ltI) (d := 0) hj'.2 hj'.1 (fun i hi => (of_decide_eq_true (he i (Nat.zero_le _) hi)).symm) (Ne.symm (of_decide_eq_false hne))
    rw [show ltL ms ns = ltI (ms.getD j 0) (ns.getD j 0) from key] at h
    exact PySem.P.gt_int ⟨(fun x => by cases x), h⟩
  · have key := lexB_len (lt := ltI) (as := ms) (bs := ns) (d := 0) fun j hj => (of_decide_eq_true (he j (Nat.zero_le _) (by simp; lia))).symm
    refine ⟨(fun x => by cases x), ?_⟩
    have : decide (cs.toArray.size > ds.toArray.size) = lexB ltI ms ns := by rw [key]; simp [e1, e2]
    rw [this]; exact h
end

section
variable {g : G} {k : Nat} {sc : Scope} {ρ : Rho} {σ : Sig} {A : Around} {own md wr : Addr → Prop} {D : Fz} {s : Shared} {N : Rho → Sig → Prop} {R : V → Sig → Prop}
noncomputable abbrev vInts (ns : List Int) : V := .lst (ns.map .int)
theorem rows_getD {cs : List Value} {nss : List (List Int)} (S : St g own D σ s) (h : VRs g D (nss.map vInts) cs) : ∀ j, j < nss.length → X3 fun a ds n => A3 (cs.toArray.getD j .none = .ref a) (s.heap.get? a = some (lstO ds n)) (IntsAre ds (nss.getD j [])) := by
  intro j hj
  have hv : (nss.map vInts)[j]? = some (vInts (nss.getD j [])) := by
    rw [List.getElem?_map, List.getElem?_eq_getElem hj]
    simp [List.getD, hj]
  obtain ⟨c, hc, r⟩ := h.get hv
  replace r := r.of; obtain ⟨_, _, _, e, rs, rfl⟩ := r
  refine ⟨_, _, _, ?_, S.dat _ _ e, rs.ints⟩
  have hlt : j < cs.toArray.size := by have := (List.getElem?_eq_some_iff.mp hc).1; simpa using this
  unfold Array.getD
  rw [dif_pos hlt]
  have := (List.getElem?_eq_some_iff.mp hc).2
  simpa using this
theorem rows_parts {cs ds : List Value} {nss mss : List (List Int)} (S : St g own D σ s) (h1 : VRs g D (nss.map vInts) cs) (h2 : VRs g D (mss.map vInts) ds) (hu : A.units + 65 < cLine) : ∀ j (a : j < cs.toArray.size) (b : j < ds.toArray.size), EqAt A.in1 s cs.toArray[j] ds.toArray[j] (decide (nss.getD j [] = mss.getD j [])) := by
  intro j a b
  have l1 : j < nss.length := by have := h1.length; simp at a this; lia
  have l2 : j < mss.length := by have := h2.length; simp at b this; lia
  obtain ⟨x, ps, n, e1, hx, i1⟩ := rows_getD S h1 j l1
  obtain ⟨y, qs, m, e2, hy, i2⟩ := rows_getD S h2 j l2
  have g1 : cs.toArray.getD j .none = cs.toArray[j] := by
    unfold Array.getD; rw [dif_pos a]; rfl
  have g2 : ds.toArray.getD j .none = ds.toArray[j] := by
    unfold Array.getD; rw [dif_pos b]; rfl
  rw [← g1, ← g2, e1, e2]
  exact keq_ints ⟨_, hx, rfl, n, rfl⟩ i1 ⟨_, hy, rfl, m, rfl⟩ i2 (by show A.units + 1 + 64 < cLine; lia)
theorem Room.units65 {k : Nat} {A : Around} (h : Room k A) : A.units + 66 < cLine := by have := h.un; show A.units + 66 < 9900; lia
theorem cmp_lt_rows {o1 o2 : V} {nss mss : List (List Int)} {Q : Bool → Sig → Prop} (h1 : LI σ o1 (nss.map vInts)) (h2 : LI σ o2 (mss.map vInts)) (q : Q (lexB ltL nss mss) σ) : CMP g k .Lt o1 o2 σ Q := by
  intro A own D s c d Rm S r1 r2
  obtain ⟨l, cs, n, rfl, hl, v1⟩ := h1.at_ S r1
  obtain ⟨b, ds, m, rfl, hb, v2⟩ := h2.at_ S r2
  have e1 := v1.length
  have e2 := v2.length
  rw [List.length_map] at e1 e2
  have hu := Rm.units65
  have h : WR g own No D σ s (PV g (fun v σ' => ∃ t, v = .bool t ∧ Q t σ') (.bool (lexB ltL nss mss))) s := ⟨D, σ, S, .refl, _, .bool _, _, rfl, q⟩
  refine richCompare_meets_room (op := .Lt) ⟨_, hl, rfl⟩ ⟨_, hb, rfl⟩ PySem.F.slot_list_lt PySem.F.entry_list_lt (PySem.F.args_list_lt_2 _ _) (lt_meets l b cs.toArray ds.toArray n m fun j => decide (nss.getD j [] = mss.getD j [])) ⟨hl, hb, rows_parts S v1 v2 (by lia), fun prog w => ⟨fun j _ hj he hne => ?_, fun he => ?_⟩⟩ Rm.units
  · have hj' : j < nss.length ∧ j < mss.length := by simp at hj; lia
    obtain ⟨x, ps, n', g1, hx, i1⟩ := rows_getD S v1 j hj'.1
    obtain ⟨y, qs, m', g2, hy, i2⟩ := rows_getD S v2 j hj'.2
    dsimp only
    rw [g1, g2]
    have key := lexB_at (lt := ltL) (d := []) hj'.1 hj'.2 (fun i hi => of_decide_eq_true (he i (Nat.zero_le _) hi)) (of_decide_eq_false hne)
    exact lt_ints hx hy i1 i2 (by show A.units + 1 < cLine; lia) ⟨(fun x => by cases x), key ▸ h⟩
  · have key := lexB_len (lt := ltL) (as := nss) (bs := mss) (d := []) fun j hj => of_decide_eq_true (he j (Nat.zero_le _) (by simp; lia))
    refine ⟨(fun x => by cases x), ?_⟩
    have : decide (cs.toArray.size < ds.toArray.size) = lexB ltL nss mss := by rw [key]; simp [e1, e2]
    rw [this]; exact h
theorem cmp_gt_rows {o1 o2 : V} {nss mss : List (List Int)} {Q : Bool → Sig → Prop} (h1 : LI σ o1 (nss.map vInts)) (h2 : LI σ o2 (mss.map vInts)) (q : Q (lexB ltL mss nss) σ) : CMP g k .Gt o1 o2 σ Q := by
  intro A own D s c d Rm S r1 r2
  obtain ⟨l, cs, n, rfl, hl, v1⟩ := h1.at_ S r1
  obtain ⟨b, ds, m, rfl, hb, v2⟩ := h2.at_ S r2
  have e1 := v1.length
  have e2 := v2.length
  rw [List.length_map] at e1 e2
  have hu := Rm.units65
  have h : WR g own No D σ s (PV g (fun v σ' => ∃ t, v = .bool t ∧ Q t σ') (.bool (lexB ltL mss nss))) s := ⟨D, σ, S, .refl, _, .bool _, _, rfl, q⟩
  refine richCompare_meets_room (op := .Gt) ⟨_, hl, rfl⟩ ⟨_, hb, rfl⟩ PySem.F.slot_list_gt PySem.F.entry_list_gt (PySem.F.args_list_gt_2 _ _) (gt_meets l b cs.toArray ds.toArray n m fun j => decide (nss.getD j [] = mss.getD j [])) ⟨hl, hb, rows_parts S v1 v2 (by lia), fun prog w => ⟨fun j _ hj he hne => ?_, fun he => ?_⟩⟩ Rm.units
  · have hj' : j < nss.length ∧ j < mss.length := by simp at hj; lia
    obtain ⟨x, ps, n', g1, hx, i1⟩ := rows_getD S v1 j hj'.1
    obtain ⟨y, qs, m', g2, hy, i2⟩ := rows_getD S v2 j hj'.2
    dsimp only
    rw [g1, g2]
    have key := lexB_at (lt := ltL) (d := []) hj'.2 hj'.1 (fun i hi => (of_decide_eq_true (he i (Nat.zero_le _) hi)).symm) (Ne.symm (of_decide_eq_false hne))
    exact gt_ints hx hy i1 i2 (by show A.units + 1 < cLine; lia) ⟨(fun x => by cases x), key ▸ h⟩
  · have key := lexB_len (lt := ltL) (as := mss) (bs := nss) (d := []) fun j hj => (of_decide_eq_true (he j (Nat.zero_le _) (by simp; lia))).symm
    refine ⟨(fun x => by cases x), ?_⟩
    have : decide (cs.toArray.size > ds.toArray.size) = lexB ltL mss nss := by rw [key]; simp [e1, e2]
    rw [this]; exact h
theorem cmp_lt_bts {a b : Array UInt8} {Q : Bool → Sig → Prop} (q : Q (Builtin.Bytes.order a.toList b.toList == .lt) σ) : CMP g k .Lt (.bts a) (.bts b) σ Q := by
  intro A own D s c d Rm S r₁ r₂; cases r₁; cases r₂; exact W.quiet S (bytes_lt_tree Rm.units ⟨s.toks, rfl, _, .bool _, _, rfl, q⟩)
theorem cmp_gt_bts {a b : Array UInt8} {Q : Bool → Sig → Prop} (q : Q (Builtin.Bytes.order a.toList b.toList == .gt) σ) : CMP g k .Gt (.bts a) (.bts b) σ Q := by
  intro A own D s c d Rm S r₁ r₂; cases r₁; cases r₂; exact W.quiet S (bytes_gt_tree Rm.units ⟨s.toks, rfl, _, .bool _, _, rfl, q⟩)
end
end Mine

end
section
set_option maxRecDepth 100000
set_option linter.unusedVariables false
namespace Mine
open PySem PySem.W PyProof.Rows PySem.Calls
open PySem.SeqAt (EqAt RcAt)

section
variable {g : G} {k : Nat} {sc : Scope} {ρ : Rho} {σ : Sig} {A : Around} {own md wr : Addr → Prop} {D : Fz} {s : Shared} {N : Rho → Sig → Prop} {R : V → Sig → Prop}

theorem eqv_ints (ns ms : List Int) : PyData.eqv (.list (ns.map PyData.int)) (.list (ms.map PyData.int)) = decide (ns = ms) := by
  rw [← SeqAt.same_eq_eqv _ _ (by simp only [SeqAt.noMix]; exact noMix_ints ns ms)]
  simp only [PySem.Spec.same]
  exact same_ints ns ms
theorem cmp_eq_ints {o1 o2 : V} {ns ms : List Int} {Q : Bool → Sig → Prop} (h1 : LI σ o1 (ns.map .int)) (h2 : LI σ o2 (ms.map .int)) (q : Q (decide (ns = ms)) σ) : CMP g k .Eq o1 o2 σ Q := by
  intro A own D s c d Rm S r1 r2
  obtain ⟨l, cs, n, rfl, hl, v1⟩ := h1.at_ S r1
  obtain ⟨b, ds, m, rfl, hb, v2⟩ := h2.at_ S r2
  exact W.quiet S (eq_dataH (reads_of_ints ⟨_, hl, rfl, n, rfl⟩ v1.ints) (reads_of_ints ⟨_, hb, rfl, m, rfl⟩ v2.ints) (shaped_ints ns) (shaped_ints ms) (by have := Rm.units65; lia) ⟨s.toks, rfl, _, .bool _, _, rfl, by rw [eqv_ints]; exact q⟩)
theorem cmp_ne_ints {o1 o2 : V} {ns ms : List Int} {Q : Bool → Sig → Prop} (h1 : LI σ o1 (ns.map .int)) (h2 : LI σ o2 (ms.map .int)) (q : Q (!decide (ns = ms)) σ) : CMP g k .NotEq o1 o2 σ Q := by
  intro A own D s c d Rm S r1 r2
  obtain ⟨l, cs, n, rfl, hl, v1⟩ := h1.at_ S r1
  obtain ⟨b, ds, m, rfl, hb, v2⟩ := h2.at_ S r2
  exact W.quiet S (ne_dataH (reads_of_ints ⟨_, hl, rfl, n, rfl⟩ v1.ints) (reads_of_ints ⟨_, hb, rfl, m, rfl⟩ v2.ints) (shaped_ints ns) (shaped_ints ms) (by have := Rm.units65; lia) ⟨s.toks, rfl, _, .bool _, _, rfl, by rw [eqv_ints]; exact q⟩)
theorem strs_getD {cs : List Value} {ns : List Str} (h : StrsAre cs ns) : ∀ j, j < ns.length → ∃ t, cs.toArray.getD j .none = .str (ns.getD j "") t := by
  induction h with
  | nil => intro j hj; simp at hj
  | cons n t hr ih =>
    intro j hj
    cases j with
    | zero => exact ⟨t, rfl⟩
    | succ j =>
      obtain ⟨t, e⟩ := ih j (by simpa using hj)
      exact ⟨t, by simpa [Array.getD] using e⟩
theorem StrsAre.len {cs : List Value} {ns : List Str} (h : StrsAre cs ns) : cs.length = ns.length := by
  induction h with
  | nil => rfl
  | cons n t hr ih => simp [ih]
theorem cmp_eq_strs {o1 o2 : V} {ns ms : List Str} {Q : Bool → Sig → Prop} (h1 : LI σ o1 (ns.map .str)) (h2 : LI σ o2 (ms.map .str)) (q : Q (decide (ns = ms)) σ) : CMP g k .Eq o1 o2 σ Q := by
  intro A own D s c d Rm S r1 r2
  obtain ⟨l, cs, n, rfl, hl, v1⟩ := h1.at_ S r1
  obtain ⟨b, ds, m, rfl, hb, v2⟩ := h2.at_ S r2
  have i1 := v1.strs
  have i2 := v2.strs
  have e1 := StrsAre.len i1
  have e2 := StrsAre.len i2
  refine W.quiet S ?_
  by_cases hz : ns.length = ms.length
  · refine SeqAt.eq_listAt (e := fun j => decide (ns.getD j "" = ms.getD j "")) ⟨_, hl, rfl, n, rfl⟩ ⟨_, hb, rfl, m, rfl⟩ (by simp; lia) Rm.units (fun j a b => ?_) ⟨s.toks, rfl, _, .bool _, _, rfl, ?_⟩
    · obtain ⟨t, g1⟩ := strs_getD i1 j (by simp at a; lia)
      obtain ⟨u, g2⟩ := strs_getD i2 j (by simp at b; lia)
      have k1 : cs.toArray.getD j .none = cs.toArray[j] := by unfold Array.getD; rw [dif_pos a]; rfl
      have k2 : ds.toArray.getD j .none = ds.toArray[j] := by unfold Array.getD; rw [dif_pos b]; rfl
      rw [← k1, ← k2, g1, g2]
      have := EqAt.str_str (A := A.in1) (s := s) (ns.getD j "") t (ms.getD j "") u
      rwa [show (ns.getD j "" == ms.getD j "") = decide (ns.getD j "" = ms.getD j "") from by rw [Bool.eq_iff_iff, beq_iff_eq, decide_eq_true_eq]] at this
    · have : ((List.range cs.toArray.size).all fun j => decide (ns.getD j "" = ms.getD j "")) = decide (ns = ms) := by
        rw [Bool.eq_iff_iff, List.all_eq_true, decide_eq_true_eq]
        constructor
        · intro h
          apply List.ext_getElem hz
          intro i a b
          have := of_decide_eq_true (h i (by simp; lia))
          simpa [List.getD, a, b] using this
        · rintro rfl j _; exact decide_eq_true rfl
      rw [this]; exact q
  · refine SeqAt.eq_list_lengthsAt ⟨_, hl, rfl, n, rfl⟩ ⟨_, hb, rfl, m, rfl⟩ (by simp; lia) Rm.units ⟨s.toks, rfl, _, .bool _, _, rfl, ?_⟩
    have : decide (ns = ms) = false := decide_eq_false fun e => hz (by rw [e])
    rw [this] at q; exact q

-- list + list
theorem op_addL {o1 o2 : V} {vs ws : List V} {Q : V → Sig → Prop} (h1 : LI σ o1 vs) (h2 : LI σ o2 ws) (hz : vs.length + ws.length ≤ sizeLine) (q : Q (.lst (vs ++ ws)) σ) : OP2 g k (binaryOp .Add) o1 o2 σ Q := by
  intro A own D s c d Rm S r1 r2
  obtain ⟨l, cs, n, rfl, hl, v1⟩ := h1.at_ S r1
  obtain ⟨b, ds, m, rfl, hb, v2⟩ := h2.at_ S r2
  refine P.add_list hl hb ?_ (by rw [List.size_toArray, List.size_toArray, v1.length, v2.length]; exact hz)
  have kp : ∀ b o, s.heap.get? b = some o → (s.heap.push (lstO (cs ++ ds) 0)).get? b = some o := fun b o e => Heap.get?_push_of_some _ e
  have e : ({ cls := .type "list", data := .seq (cs.toArray ++ ds.toArray) } : Obj) = lstO (cs ++ ds) 0 := by simp
  rw [e]
  exact ⟨_, σ, S.newD (tk := s.toks) kp (get?_size _) S.ne_sys (Heap.get?_push_size _ rfl), Step.newD S kp (get?_size _), _, .lst (Fz.put_self ..) ((v1.append v2).mono (Fz.put_le (S.D_none (get?_size _)))), q⟩

-- {}
theorem ev_dict0 {pos : Pos} {m0 : MO} {Q : V → Sig → Prop} (hm : m0 = .dI [] ∨ m0 = .dS [] ∨ m0 = .dT []) (q : ∀ a, σ a = none → Q (.ref a) (σ.set a m0)) : EV g k sc ρ (.Dict [] [] pos) σ Q := by
  intro F A D s hs Rm S E
  rw [eval_Dict_empty]
  refine W.standAt (wpAny_newObj_type ?_)
  have kp : ∀ b o, s.heap.get? b = some o → (s.heap.push (dictOf [] 0)).get? b = some o := fun b o e => Heap.get?_push_of_some _ e
  have r : OR g D m0 (dictOf [] 0) := by
    rcases hm with rfl | rfl | rfl
    · exact .dI (cs := []) (fun e he => by simp at he) .nil .nil .nil
    · exact .dS (cs := []) (fun e he => by simp at he) .nil .nil .nil
    · exact .dT (xs := []) rfl (fun e he => by simp at he) .nil .nil
  exact ⟨D, _, S.newM (tk := s.toks) kp (get?_size _) S.ne_sys (Heap.get?_push_size _ rfl) r, Step.newM kp (get?_size _), _, .ref _, q _ (S.σ_none (get?_size _))⟩
theorem ev_dict0f {pos : Pos} {Q : V → Sig → Prop} (q : Q (.dI []) σ) : EV g k sc ρ (.Dict [] [] pos) σ Q := by
  intro F A D s hs Rm S E
  rw [eval_Dict_empty]
  refine W.standAt (wpAny_newObj_type ?_)
  have kp : ∀ b o, s.heap.get? b = some o → (s.heap.push (dictOf [] 0)).get? b = some o := fun b o e => Heap.get?_push_of_some _ e
  exact ⟨_, σ, S.newD (tk := s.toks) kp (get?_size _) S.ne_sys (Heap.get?_push_size _ rfl), Step.newD S kp (get?_size _), _, .dI (kvs := []) (Fz.put_self ..) (cs := []) (fun e he => by simp at he) .nil .nil .nil, q⟩

-- equality of dicts of ints
noncomputable def allTrue (kvs : List (Int × V)) : Prop := ∀ p ∈ kvs, p.2 = .bool true
noncomputable def sameD (a c : List (Int × V)) : Bool := a.length == c.length && a.all fun p => (kget c p.1).isSome
theorem hits_of {a c : List (Int × V)} {cs ds : List Value} (ha : allTrue a) (hc : allTrue c) (r1 : VRs g D (a.map (·.2)) cs) (r2 : VRs g D (c.map (·.2)) ds) : KeqHits A s ((c.map (·.1)).zip ds) ((a.map (·.1)).zip cs) (a.all fun p => (kget c p.1).isSome) := by
  induction a generalizing cs with
  | nil => exact .nil
  | cons p a ih =>
    obtain ⟨i, v⟩ := p
    have hv : v = .bool true := ha _ (.head _)
    subst hv
    cases r1 with
    | cons x r1 =>
      cases x
      have ih := ih (fun p hp => ha p (.tail _ hp)) r1
      have kv := kv_get r2 i
      simp only [List.map_cons, List.zip_cons_cons, List.all_cons]
      cases h : kget c i with
      | none =>
        rw [h] at kv
        exact .miss kv
      | some u =>
        rw [h] at kv
        obtain ⟨e, he, re⟩ := kv
        have hu : u = .bool true := by
          have : ∀ (c : List (Int × V)), allTrue c → kget c i = some u → u = .bool true := by
            intro c
            induction c with
            | nil => intro _ h; cases h
            | cons p c ih =>
              intro hc h
              rw [kget_cons] at h
              by_cases q : p.1 = i
              · rw [if_pos q] at h; cases h; exact hc _ (.head _)
              · rw [if_neg q] at h; exact ih (fun p hp => hc p (.tail _ hp)) h
          exact this c hc h
        subst hu
        cases re
        have := EqAt.bool_bool (A := A) (s := s) true true
        exact .hit he this ih
theorem cmp_eq_dI {o1 o2 : V} {a c : List (Int × V)} {Q : Bool → Sig → Prop} (h1 : DI σ o1 a) (h2 : DI σ o2 c) (ha : allTrue a) (hc : allTrue c) (q : Q (sameD a c) σ) : CMP g k .Eq o1 o2 σ Q := by
  intro A own D s x y Rm S r1 r2
  obtain ⟨l, cs, rfl, hl, v1, n1, s1⟩ := h1.at_ S r1
  obtain ⟨b, ds, rfl, hb, v2, n2, s2⟩ := h2.at_ S r2
  have z1 : ((a.map (·.1)).zip cs).length = a.length := by have := congrArg List.length (zip_keys v1); simpa using this
  have z2 : ((c.map (·.1)).zip ds).length = c.length := by have := congrArg List.length (zip_keys v2); simpa using this
  refine W.quiet S (keq_eq (knd := g.I) s1 s2 hl hb Rm.units (fun _ => hits_of ha hc v1 v2) ⟨s.toks, rfl, _, .bool _, _, rfl, ?_⟩)
  rw [z1, z2]
  exact q
theorem pairs_move {prog : Program} {w : World} {es : List DictEntry} {ps : List (Int × Value)} (h : Pairs g.I es ps) : Pairs (intKind prog w) es ps := by
  induction h with
  | nil => exact .nil
  | cons a b _ ih => exact .cons a b ih
theorem dictOf_move {prog : Program} {w : World} {h : Heap} {d : Addr} {ps : List (Int × Value)} (x : h.DictOf g.I d ps) : h.DictOf (intKind prog w) d ps := by
  obtain ⟨o, es, ep, a, b, c, d, e, f⟩ := x
  exact ⟨o, es, ep, a, b, c, d, pairs_move e, f⟩
theorem eqAt_dI {v1 v2 : V} {x y : Value} {a c : List (Int × V)} (S : St g own D σ s) (h1 : DI σ v1 a) (h2 : DI σ v2 c) (ha : allTrue a) (hc : allTrue c) (r1 : VR g D v1 x) (r2 : VR g D v2 y) (hu : A.units < cLine) (hx : x ≠ y) : EqAt A s x y (sameD a c) := by
  obtain ⟨l, cs, rfl, hl, w1, n1, s1⟩ := h1.at_ S r1
  obtain ⟨b, ds, rfl, hb, w2, n2, s2⟩ := h2.at_ S r2
  have z1 : ((a.map (·.1)).zip cs).length = a.length := by have := congrArg List.length (zip_keys w1); simpa using this
  have z2 : ((c.map (·.1)).zip ds).length = c.length := by have := congrArg List.length (zip_keys w2); simpa using this
  refine EqAt.of_refs (fun e => hx (by rw [e])) fun prog w E Q hq => ?_
  have hl' : s.heap.DictOf (intKind prog w) l ((a.map (·.1)).zip cs) := dictOf_move hl
  have hb' : s.heap.DictOf (intKind prog w) b ((c.map (·.1)).zip ds) := dictOf_move hb
  refine keq_eq (prog := prog) (w := w) (knd := intKind prog w) s1 s2 hl' hb' hu (fun _ => hits_of ha hc w1 w2) ?_
  rw [z1, z2]
  exact hq
theorem kget_mem {K α : Type} [DecidableEq K] {l : List (K × α)} {k : K} (h : k ∈ l.map (·.1)) : (kget l k).isSome = true := by
  induction l with
  | nil => simp at h
  | cons p l ih =>
    rw [kget_cons]
    by_cases q : p.1 = k
    · rw [if_pos q]; rfl
    · rw [if_neg q]
      refine ih ?_
      rw [List.map_cons] at h
      rcases List.mem_cons.mp h with e | e
      · exact absurd e.symm q
      · exact e
theorem eqAt_dI' {x y : Value} {a c : List (Int × V)} (S : St g own D σ s) (ha : allTrue a) (hc : allTrue c) (r1 : VR g D (.dI a) x) (r2 : VR g D (.dI c) y) (hu : A.units < cLine) : EqAt A s x y (sameD a c) := by
  by_cases hx : x = y
  · subst hx
    have : sameD a c = true := by
      cases r1 with
      | dI e1 k1 p1 w1 n1 =>
        cases r2 with
        | dI e2 k2 p2 w2 n2 =>
          rename_i ad es n cs es' n' cs'
          have hq := congrArg Obj.data (Option.some.inj (e1.symm.trans e2))
          have hkeys : a.map (·.1) = c.map (·.1) := by
            have z1 := zip_keys w1
            have z2 := zip_keys w2
            rw [← z1, ← z2]
            have main : ∀ (es : List DictEntry) (ps qs : List (Int × Value)), Pairs g.I es ps → Pairs g.I es qs → ps.map (·.1) = qs.map (·.1) := by
              intro es
              induction es with
              | nil => intro ps qs h1 h2; cases h1; cases h2; rfl
              | cons e es ih =>
                intro ps qs h1 h2
                cases h1 with
                | cons a1 a2 a3 =>
                  cases h2 with
                  | cons b1 b2 b3 =>
                    rw [List.map_cons, List.map_cons, ih _ _ a3 b3, g.I.inj _ _ _ a1 b1]
            have e' : es = es' := by
              have h1 : es.toArray = es'.toArray := by injection hq
              exact by simpa using h1
            subst e'
            exact main _ _ _ p1 p2
          unfold sameD
          have hlen : a.length = c.length := by have := congrArg List.length hkeys; simpa using this
          rw [hlen, beq_self_eq_true, Bool.true_and, List.all_eq_true]
          exact fun p hp => kget_mem (by rw [← hkeys]; exact List.mem_map_of_mem hp)
    rw [this]
    exact EqAt.same x
  · exact eqAt_dI S .f .f ha hc r1 r2 hu hx
end
end Mine

end
section
set_option maxRecDepth 100000
set_option linter.unusedVariables false
namespace Mine
open PySem PySem.W PyProof.Rows PySem.Calls
open PySem.SeqAt (EqAt RcAt)

-- the sorts' tree of questions: whatever is answered, a permutation
noncomputable def OKT (m : Nat) {α : Type} (P : α → Prop) : KasT α → Prop
  | .ret a => P a
  | .ask i j k => i < m ∧ j < m ∧ ∀ b, OKT m P (k b)
theorem OKT.bind {m : Nat} {α β : Type} {P : α → Prop} {Q : β → Prop} {f : α → KasT β} : ∀ {t : KasT α}, OKT m P t → (∀ a, P a → OKT m Q (f a)) → OKT m Q (t.bind f)
  | .ret a, h, hf => hf a h
  | .ask i j k, h, hf => ⟨h.1, h.2.1, fun b => OKT.bind (h.2.2 b) hf⟩
theorem OKT.mono {m : Nat} {α : Type} {P Q : α → Prop} (h : ∀ a, P a → Q a) : ∀ {t : KasT α}, OKT m P t → OKT m Q t
  | .ret a, x => h a x
  | .ask i j k, x => ⟨x.1, x.2.1, fun b => OKT.mono h (x.2.2 b)⟩
noncomputable def PermN (m : Nat) (p : Array Nat) : Prop := p.Perm (List.toArray (List.range m))
theorem PermN.getD {m : Nat} {p : Array Nat} (h : PermN m p) (hm : 0 < m) (i : Nat) : p.getD i 0 < m := by
  unfold Array.getD
  split
  · rename_i hi
    have h2 : p[i] ∈ p := Array.getElem_mem hi
    have h3 := (h.mem_iff (a := p[i])).mp h2
    simpa using h3
  · exact hm
theorem PermN.rev {m : Nat} {p : Array Nat} (h : PermN m p) (i j : Nat) : PermN m (kas_rev p i j) := (mirror_perm _ _ _ _).trans h
theorem PermN.bub {m : Nat} {p : Array Nat} (h : PermN m p) (i j : Nat) : PermN m (bubble p i j) := (bubble_perm _ _ _).trans h
theorem okt_asc {m : Nat} {p : Array Nat} (h : PermN m p) (hm : 0 < m) : ∀ f n, OKT m (fun _ => True) (kas_asc p f n)
  | 0, n => trivial
  | f + 1, n => ⟨h.getD hm _, h.getD hm _, fun b => by cases b; exact okt_asc h hm f (n + 1); exact trivial⟩
theorem okt_desc {m : Nat} (hm : 0 < m) : ∀ f (p : Array Nat) n q, PermN m p → OKT m (fun r => PermN m r.1) (kas_desc f p n q)
  | 0, p, n, q, h => h
  | f + 1, p, n, q, h => ⟨h.getD hm _, h.getD hm _, fun b => by
      cases b
      · exact ⟨h.getD hm _, h.getD hm _, fun c => by
          cases c
          · exact okt_desc hm f p _ _ h
          · exact h⟩
      · show OKT m _ (if q > 0 then kas_desc f (kas_rev p (n - (q + 1)) n) (n + 1) 0 else kas_desc f p (n + 1) 0)
        split
        · exact okt_desc hm f _ _ _ (h.rev _ _)
        · exact okt_desc hm f p _ _ h⟩
theorem okt_tail {m : Nat} (hm : 0 < m) {p : Array Nat} (h : PermN m p) (n r : Nat) : OKT m (fun x => PermN m x.2) (kas_tail3 n r p) := (okt_asc (h.rev _ _) hm _ _).bind fun a _ => h.rev _ _
theorem okt_descPart {m : Nat} (hm : 0 < m) {p : Array Nat} (h : PermN m p) (n r : Nat) : OKT m (fun x => PermN m x.2) (kas_descPart n r p) := by
  refine (okt_desc hm _ p _ _ h).bind fun a ha => ?_
  split
  · exact okt_tail hm (ha.rev _ _) _ _
  · exact okt_tail hm ha _ _
theorem okt_count {m : Nat} (hm : 0 < m) {p : Array Nat} (h : PermN m p) (r : Nat) : OKT m (fun x => PermN m x.2) (kas_count r p) := by
  refine (okt_asc h hm _ _).bind fun n _ => ?_
  split
  · exact h
  · split
    · exact ⟨h.getD hm _, h.getD hm _, fun b => by
        cases b
        · exact okt_descPart hm (h.rev _ _) _ _
        · exact h⟩
    · exact okt_descPart hm h _ _
theorem okt_place {m : Nat} (hm : 0 < m) {p : Array Nat} (h : PermN m p) (k : Nat) : ∀ f l r, OKT m (fun _ => True) (kas_place p k f l r)
  | 0, l, r => trivial
  | f + 1, l, r => by
    show OKT m _ (if l ≥ r then .ret l else _)
    split
    · exact trivial
    · exact ⟨h.getD hm _, h.getD hm _, fun b => by
        cases b
        · exact okt_place hm h k f _ _
        · exact okt_place hm h k f _ _⟩
theorem okt_bin {m : Nat} (hm : 0 < m) : ∀ f (p : Array Nat) k, PermN m p → OKT m (PermN m) (kas_bin f p k)
  | 0, p, k, h => h
  | f + 1, p, k, h => (okt_place hm h k _ _ _).bind fun l _ => okt_bin hm f _ _ (h.bub _ _)
theorem okt_sort {m : Nat} (hm : 0 < m) : OKT m (PermN m) (kas_sort m) := by
  refine (okt_count hm (Array.Perm.refl _) m).bind fun a ha => ?_
  split
  · exact okt_bin hm _ _ _ ha
  · exact ha
theorem okt_wp {m : Nat} {α : Type} {P : α → Prop} {cmp : Nat → Nat → (Bool → Shared → Prop) → Shared → Prop} {s : Shared} (hc : ∀ i j (C : Bool → Shared → Prop), i < m → j < m → (∀ b, C b s) → cmp i j C s) : ∀ {t : KasT α}, OKT m P t → t.kasWp cmp (fun a s' => P a ∧ s' = s) s
  | .ret a, h => ⟨h, rfl⟩
  | .ask i j k, h => hc i j _ h.1 h.2.1 fun b => okt_wp hc (h.2.2 b)

-- a list of tuples of ints
noncomputable def TupsAt (h : Heap) (vs : List Value) : Prop := ∀ v ∈ vs, X4 fun a xs n ks => A4 (v = .ref a) (h.get? a = some (tupO xs n)) (IntsAre xs ks) (ks ≠ [])
section
variable {prog : Program} {w : World} {A : Around} {E : Value → Shared → Prop} {s : Shared}
theorem lex_ints {b fin : Bool} {C : Bool → Shared → Prop} (hC : ∀ b, C b s) : ∀ {xs ys : List Value} {ks ls : List Int} (i : Nat), IntsAre xs ks → IntsAre ys ls → KatLex prog w A b fin C (xs.zip ys) i s := by
  intro xs
  induction xs with
  | nil => intro ys ks ls i _ _; exact hC _
  | cons x xs ih =>
    intro ys ks ls i h1 h2
    cases h2 with
    | nil => exact hC _
    | cons l u h2 =>
      cases h1 with
      | cons k t h1 =>
        rw [List.zip_cons_cons]
        refine kat_cons (EqAt.int_int k t l u prog w _ _ ?_)
        refine kat_go (fun _ => kat_yes (ih (i + 1) h1 h2)) fun _ => kat_no ?_
        by_cases q : (b && i == 0) = true
        · rw [q]; exact oneLt_int (hC _)
        · rw [show (b && i == 0) = false from Bool.eq_false_iff.mpr q]
          exact kat_one _ _ (PySem.P.lt_int (hC _))
theorem cmp_tups {vs : List Value} (h : TupsAt s.heap vs) {b : Bool} (i j : Nat) (C : Bool → Shared → Prop) (hi : i < vs.length) (hj : j < vs.length) (hC : ∀ b, C b s) : kas_cmp prog w A (tuples' b) (pairsOf vs) i j C s := by
  unfold kas_cmp
  rw [kas_item_eq, kas_item_eq]
  have gi : vs.getD i .none ∈ vs := by
    have : vs.getD i .none = vs[i] := by simp [List.getD, hi]
    rw [this]; exact List.getElem_mem hi
  have gj : vs.getD j .none ∈ vs := by
    have : vs.getD j .none = vs[j] := by simp [List.getD, hj]
    rw [this]; exact List.getElem_mem hj
  obtain ⟨a, xs, n, ks, e1, h1, i1, _⟩ := h _ gi
  obtain ⟨c, ys, m, ls, e2, h2, i2, _⟩ := h _ gj
  dsimp only
  rw [e1, e2]
  exact kat_lt h1 rfl h2 rfl (lex_ints hC 0 (by simpa using i1) (by simpa using i2))
theorem katTups {h : Heap} : ∀ {vs : List Value}, TupsAt h vs → ∃ fs, A3 (KatTups h vs fs) (fs.length = vs.length) (∀ f ∈ fs, X2 fun k t => f = .int k t)
  | [], _ => ⟨[], .nil, rfl, by simp⟩
  | v :: vs, x => by
    obtain ⟨fs, h1, h2, h3⟩ := katTups (vs := vs) fun u hu => x u (.tail _ hu)
    obtain ⟨a, xs, n, ks, rfl, ho, hi, hne⟩ := x v (.head _)
    cases hi with
    | nil => exact absurd rfl hne
    | cons k t r => exact ⟨.int k t :: fs, .cons ho rfl rfl rfl h1, by simp [h2], fun f hf => by
        rcases List.mem_cons.mp hf with rfl | hf
        · exact ⟨k, t, rfl⟩
        · exact h3 f hf⟩
theorem sort_tups {a : Addr} {vs : List Value} {n : Nat} {P : PySem.Fin → Shared → Prop} (ho : s.heap.get? a = some (seqObj "list" vs.toArray n)) (hT : TupsAt s.heap vs) (h64 : vs.length < 64)
    (h : ∀ out : List Value, out.Perm vs → P (.done (.ret .none)) { s with heap := sortedHeap s.heap a vs out.toArray }) : wpAny (model prog w) A (Builtin.«list.sort» ⟨[.ref a], []⟩) P E s := by
  rw [list_sort_plain]
  have ha : a < s.heap.objs.size := Heap.lt_size ho
  refine wpAny_bind (listItems_at ho rfl ?_)
  refine wpAny_bind (listUpdate_at ho rfl ?_ (by rw [List.size_toArray, sizeLine_eq]; lia) (Nat.zero_le _))
  obtain ⟨e1, ho1⟩ : ∃ e1, (s.heap.update a (Obj.mapSeq fun _ => #[])).get? a = some (seqObj "list" #[] e1) := ⟨_, get?_update_seq ho (fun _ => #[])⟩
  refine wpAny_bind (seqEpoch_at ho1 rfl ?_)
  refine wpAny_bind (wpAny_newTuple ?_ (by show vs.length ≤ _; rw [sizeLine_eq]; lia))
  refine wpAny_bind (wpAny_newList ?_ (Nat.zero_le _))
  refine wpAny_holding ?_
  have ho6 : (((s.heap.update a (Obj.mapSeq fun _ => #[])).push (seqObj "tuple" vs.toArray 0)).push (seqObj "list" #[] 0)).get? a = some (seqObj "list" #[] e1) :=
    Heap.get?_push_of_some _ (Heap.get?_push_of_some _ ho1)
  have keep : ∀ b o, b ≠ a → s.heap.get? b = some o → (((s.heap.update a (Obj.mapSeq fun _ => #[])).push (seqObj "tuple" vs.toArray 0)).push (seqObj "list" #[] 0)).get? b = some o := fun b o hb e =>
    Heap.get?_push_of_some _ (Heap.get?_push_of_some _ ((Heap.SameBut.update s.heap a (Obj.mapSeq fun _ => #[])).extBut b o hb e))
  show wpAny (model prog w) A _ P E { s with heap := ((s.heap.update a (Obj.mapSeq fun _ => #[])).push (seqObj "tuple" vs.toArray 0)).push (seqObj "list" #[] 0) }
  have hT' : TupsAt (((s.heap.update a (Obj.mapSeq fun _ => #[])).push (seqObj "tuple" vs.toArray 0)).push (seqObj "list" #[] 0)) vs := fun v hv => by
    obtain ⟨b, xs, m, ks, e, hb, hi, hne⟩ := hT v hv
    refine ⟨b, xs, m, ks, e, keep b _ (fun q => ?_) hb, hi, hne⟩
    rw [q, ho] at hb
    have := congrArg Obj.cls (Option.some.inj hb)
    injection this with this
    exact absurd this (by decide)
  dsimp only
  by_cases h2 : vs.toArray.size < 2
  · rw [if_pos h2, if_pos h2]
    refine wpAny_bind (wpAny_pure ?_)
    rw [StateT.run_pure]
    refine wpAny_bind (wpAny_pure ?_)
    dsimp only
    refine wpAny_bind (seqEpoch_at ho6 rfl ?_)
    have hout : (arrOf (SortSt.mk' general' (vs.toArray.zip vs.toArray) #[] 7 none)).map (·.2) = vs.toArray := by
      show (vs.toArray.zip vs.toArray).map (·.2) = vs.toArray
      apply Array.toList_inj.mp
      rw [Array.toList_map, Array.toList_zip]
      exact List.map_snd_zip (Nat.le_refl _)
    rw [hout]
    refine wpAny_bind (listUpdate_at ho6 rfl ?_ (Nat.zero_le _) (by rw [List.size_toArray, sizeLine_eq]; lia))
    simp only [bne_self_eq_false, Bool.false_eq_true, if_false]
    exact wpAny_pure (h vs (List.Perm.refl _))
  · rw [if_neg h2, if_neg h2]
    have h2' : 2 ≤ vs.length := by rw [List.size_toArray] at h2; lia
    obtain ⟨fs, t1, t2, t3⟩ := katTups hT'
    refine wpAny_bind (kat_kind (T := .type "int") t1 (by lia) (fun v hv => by obtain ⟨k, t, rfl⟩ := t3 v hv; exact Looks.of_pure rfl) rfl ?_)
    have est : SortSt.mk' (tuples' (Value.type "int" != Value.type "tuple")) (vs.toArray.zip vs.toArray) #[] 7 none = kas_st (tuples' (Value.type "int" != Value.type "tuple")) (pairsOf vs) (List.toArray (List.range vs.length)) := by
      have e := kas_range (pairsOf vs)
      rw [pairsOf_size] at e
      show SortSt.mk' _ (pairsOf vs) #[] 7 none = SortSt.mk' _ ((List.toArray (List.range vs.length)).map (kas_item (pairsOf vs))) #[] 7 none
      rw [e]
    have run := kas_runs (prog := prog) (w := w) (A := A) (E := E) (it := pairsOf vs) (κ := tuples' (Value.type "int" != Value.type "tuple")) (Q := fun _ st' s' => ∃ p : Array Nat, A4 (PermN vs.length p) (arrOf st' = p.map (kas_item (pairsOf vs))) (failedOf st' = none) (s' = { s with heap := ((s.heap.update a (Obj.mapSeq fun _ => #[])).push (seqObj "tuple" vs.toArray 0)).push (seqObj "list" #[] 0) }))
      h2' h64 (fun p' st' s' a1 a2 a3 a4 => ⟨p', a4.1, a2, a3, a4.2⟩) (okt_wp (fun i j C hi hj hC => cmp_tups hT' i j C hi hj hC) (okt_sort (by lia)))
    rw [← est] at run
    refine wpAny_bind (wpAny_mono run ?_ fun _ _ e => e)
    rintro ⟨⟨⟩, st'⟩ s' ⟨p, hp, har, hf, rfl⟩
    dsimp only
    have hout : (arrOf st').map (·.2) = List.toArray (p.toList.map fun i => vs.getD i Value.none) := by
      apply Array.toList_inj.mp
      rw [har, Array.map_map, Array.toList_map]
      exact List.map_congr_left fun i _ => by show (kas_item (pairsOf vs) i).2 = _; rw [kas_item_eq]
    rw [hout]
    have hperm : (p.toList.map fun i => vs.getD i Value.none).Perm vs := by
      have h1 : p.toList.Perm (List.range vs.length) := by
        have := Array.perm_iff_toList_perm.mp hp
        simpa using this
      have h3 := h1.map fun i => vs.getD i Value.none
      have h4 : (List.range vs.length).map (fun i => vs.getD i Value.none) = vs := by
        apply List.ext_getElem
        · simp
        · intro i a b; simp [List.getD, b]
      rwa [h4] at h3
    refine wpAny_bind (seqEpoch_at ho6 rfl ?_)
    refine wpAny_bind (listUpdate_at ho6 rfl ?_ (Nat.zero_le _) (by rw [List.size_toArray, hperm.length_eq, sizeLine_eq]; lia))
    rw [hf]
    simp only [bne_self_eq_false, Bool.false_eq_true, if_false]
    exact wpAny_pure (h _ hperm)
end
end Mine

end
section
set_option maxRecDepth 100000
set_option linter.unusedVariables false
namespace Mine
open PySem PySem.W PyProof.Rows PySem.Calls
open PySem.SeqAt (EqAt RcAt)

section
variable {g : G} {k : Nat} {sc : Scope} {ρ : Rho} {σ : Sig} {A : Around} {own md wr : Addr → Prop} {D : Fz} {s : Shared} {N : Rho → Sig → Prop} {R : V → Sig → Prop}
theorem kdl_raw {d : Addr} {es : List DictEntry} {n : Nat} (lo : (d == sysModules) = false) : KdlSrc g.prog g.w "dict" d d es.length (fun i v => ∃ e, es[i]? = some e ∧ v = e.key) (fun h => h.get? d = some (dictOf es n)) where
  type := fun _ hm => ⟨_, hm, rfl⟩
  there := fun _ hm => ⟨Heap.lt_size hm, Heap.lt_size hm⟩
  keep := fun _ _ hm hk => hk d (.inl rfl) _ hm
  notList := by decide
  notTuple := by decide
  hint := fun _ _ _ _ hm hq => kdl_hint_dict ⟨_, hm, rfl⟩ hq
  iter := fun _ _ hh hm => ⟨_, _, (fun _ _ hq => keys_make lo hm hq), Walks.rawKeys hh _ d (Nat.ne_of_lt (Heap.lt_size hm)) es n, ⟨⟨_, Heap.get?_push_size _ rfl, rfl, rfl⟩, Heap.get?_push_of_some _ hm⟩⟩
theorem sorted_raw {d : Addr} {es : List DictEntry} {n : Nat} {E : Value → Shared → Prop} {Q : Value → Shared → Prop} (hh : A.handled = none) (lo : (d == sysModules) = false) (hd : s.heap.get? d = some (dictOf es n)) (hz : es.length < 64)
    (h : ∀ (B : Addr) (h' : Heap) (tk : Nat) (A' : Around), (∀ b o, s.heap.get? b = some o → b < B) → (∀ b o, s.heap.get? b = some o → h'.get? b = some o) → h'.get? B = some (seqObj "list" (es.map (·.key)).toArray 0) →
      wpAny (M g) A' (Builtin.«list.sort» ⟨[.ref B], []⟩) (fun fin s' => fin = .done (.ret .none) ∧ Q (.ref B) s') E { s with heap := h', toks := tk }) :
    wpAny (M g) A (call (.builtin "sorted") [.ref d]) Q E s := by
  refine Calls.call_function_entry kind_sorted plain_sorted entry_sorted (args_sorted1 _) ?_
  unfold Builtin.«sorted»
  refine wpAny_bind (m := checkCount "sorted" 1 1 _) (wpAny_pure ?_)
  refine wpAny_bind (kdu_collect (A := A.in1) (kdl_raw (n := n) (es := es) lo) hh hd (by rw [sizeLine_eq]; lia) fun h' tk acc hk hacc => ?_)
  have hl : acc.toList = es.map (·.key) := by
    apply List.ext_getElem?
    intro i
    rw [List.getElem?_map]
    cases q : es[i]? with
    | none =>
      have h1 : es.length ≤ i := by simpa using q
      have h2 : acc.size = es.length := hacc.1
      simp [Array.getElem?_eq_none (show acc.size ≤ i by lia)]
    | some e =>
      have h1 : i < es.length := (List.getElem?_eq_some_iff.mp q).1
      have h2 : i < acc.size := by rw [hacc.1]; exact h1
      obtain ⟨e', h3, h4⟩ := hacc.2 i acc[i] (by simp [h2])
      rw [q] at h3
      cases h3
      rw [List.getElem?_eq_getElem (by simpa using h2), Option.map_some, ← h4]
      simp
  rw [hl]
  refine wpAny_bind (wpAny_newList ?_ (by rw [List.length_map, sizeLine_eq]; lia))
  refine wpAny_bind (wpAny_holding (wpAny_call_entry slot_list_sort ⟨_, Heap.get?_push_size _ rfl, rfl⟩ entry_list_sort (wpAny_mono (h h'.objs.size (h'.push (seqObj "list" (es.map (·.key)).toArray 0)) tk _ (fun b o e => Heap.lt_size (hk b o e)) (fun b o e => Heap.get?_push_of_some _ (hk b o e)) (Heap.get?_push_size _ rfl)) (fun fin s' ⟨e, q⟩ => ⟨_, e, ?_⟩) fun _ _ e => e) (args_list_sort _)))
  exact wpAny_pure ⟨_, rfl, q⟩

theorem sortedHeap_keep {h : Heap} {a b : Addr} {o : Obj} {vs : List Value} {out : Array Value} (e : h.get? b = some o) (hb : b ≠ a) : (sortedHeap h a vs out).get? b = some o := by
  unfold sortedHeap
  exact (Heap.SameBut.update _ a _).extBut b o hb (Heap.get?_push_of_some _ (Heap.get?_push_of_some _ ((Heap.SameBut.update h a _).extBut b o hb e)))
theorem sortedHeap_at {h : Heap} {a : Addr} {xs : Array Value} {n : Nat} {vs : List Value} {out : Array Value} (e : h.get? a = some (seqObj "list" xs n)) : ∃ c, (sortedHeap h a vs out).get? a = some (lstO out.toList c) := by
  unfold sortedHeap
  obtain ⟨e1, ho1⟩ : ∃ e1, (h.update a (Obj.mapSeq fun _ => #[])).get? a = some (seqObj "list" #[] e1) := ⟨_, get?_update_seq e (fun _ => #[])⟩
  have h2 : (((h.update a (Obj.mapSeq fun _ => #[])).push (seqObj "tuple" vs.toArray 0)).push (seqObj "list" #[] 0)).get? a = some (seqObj "list" #[] e1) := Heap.get?_push_of_some _ (Heap.get?_push_of_some _ ho1)
  have := get?_update_seq h2 (fun _ => out)
  refine ⟨if out.size == (#[] : Array Value).size then e1 else e1 + 1, this.trans ?_⟩
  rw [Array.toArray_toList]
theorem W.sortedAt {B : Addr} {h' : Heap} {tk : Nat} {xs : Array Value} {n : Nat} {vs : List Value} {out : Array Value} {us : List V} (S : St g own D σ s) (hB : ∀ b o, s.heap.get? b = some o → b < B) (kp : ∀ b o, s.heap.get? b = some o → h'.get? b = some o)
    (e : h'.get? B = some (seqObj "list" xs n)) (r : VRs g D us out.toList) : X2 fun D' σ' => A4 (St g own D' σ' { s with heap := sortedHeap h' B vs out, toks := tk }) (Step No D σ s D' σ' { s with heap := sortedHeap h' B vs out, toks := tk }) (VR g D' (.lst us) (.ref B)) (σ' = σ) := by
  obtain ⟨c, hc⟩ := sortedHeap_at (vs := vs) (out := out) e
  have hn : s.heap.get? B = none := by
    cases q : s.heap.get? B with
    | none => rfl
    | some o => exact absurd (hB B o q) (Nat.lt_irrefl _)
  have kp' : ∀ b o, s.heap.get? b = some o → (sortedHeap h' B vs out).get? b = some o := fun b o q => sortedHeap_keep (kp b o q) (Nat.ne_of_lt (hB b o q))
  have h3 : B ≠ sysModules := by
    obtain ⟨o, _, _, e, _⟩ := g.hmg
    have h1 : (3 : Nat) < B := hB _ _ (S.base _ _ e)
    exact Nat.ne_of_gt (Nat.lt_trans (show (1 : Nat) < 3 by decide) h1)
  exact ⟨_, σ, S.newD kp' hn h3 hc, Step.newD S kp' hn, .lst (Fz.put_self ..) (r.mono (Fz.put_le (S.D_none hn))), rfl⟩
theorem sys_ne {d : Addr} {es : List DictEntry} {n : Nat} (S : St g own D σ s) (e : D d = some (dictOf es n)) : (d == sysModules) = false := by
  exact S.sys_D e rfl
theorem keys_ints {es : List DictEntry} {ps : List (Int × Value)} (p : Pairs g.I es ps) : IntsAre (es.map (·.key)) (ps.map (·.1)) := by
  induction p with
  | nil => exact .nil
  | @cons e kv es ps a b _ ih =>
    rw [List.map_cons, List.map_cons]
    obtain ⟨t, ht⟩ := Value.isInt_shape (show Value.isInt kv.1 e.key = true from a)
    rw [ht]
    exact .cons _ _ ih
theorem keys_strs {es : List DictEntry} {ps : List (Str × Value)} (p : Pairs g.S es ps) : StrsAre (es.map (·.key)) (ps.map (·.1)) := by
  induction p with
  | nil => exact .nil
  | @cons e kv es ps a b _ ih =>
    rw [List.map_cons, List.map_cons]
    obtain ⟨t, ht⟩ := Value.isStrOf_shape (show Value.isStrOf kv.1 e.key = true from a)
    rw [ht]
    exact .cons _ _ ih
theorem VRs.of_strs {ns : List Str} {cs : List Value} (h : StrsAre cs ns) : VRs g D (ns.map .str) cs := by
  induction h with
  | nil => exact .nil
  | cons n t _ ih => exact .cons (.str n t) ih
theorem c_sorted_I {kvs : List (Int × V)} {Q : V → Sig → Prop} (hz : kvs.length < 64) (q : ∀ ns : List Int, ns.Perm (kvs.map (·.1)) → ns.Pairwise (· ≤ ·) → Q (.lst (ns.map .int)) σ) : CALL g k (.builtin "sorted") [.dI kvs] σ Q := by
  intro A own D s cs Rm S r
  cases r with
  | cons r r' =>
    cases r'
    replace r := r.of; obtain ⟨_, _, _, _, e, ky, p, rs, nd, rfl⟩ := r
    have hi := keys_ints p
    have hl : (IntsAre.length hi) = IntsAre.length hi := rfl
    have hlen := hi.length
    rw [zip_keys rs] at hi
    have hz2 := hi.length
    rw [List.length_map, List.length_map] at hz2
    refine sorted_raw Rm.hh (sys_ne S e) (S.dat _ _ e) (by lia) fun B h' tk A' hB kp hb => ?_
    refine list_sort_tree hb hi (by rw [List.length_map]; lia) fun out ns h1 h2 h3 => ⟨rfl, ?_⟩
    obtain ⟨D', σ', S', T', rv, hs⟩ := W.sortedAt (tk := tk) (vs := (_ : List Value)) S hB kp hb (VRs.of_ints (g := g) (D := D) h1)
    exact ⟨D', σ', S', T', _, rv, hs ▸ q ns h2 h3⟩
theorem c_sorted_S {kvs : List (Str × V)} {Q : V → Sig → Prop} (hz : kvs.length < 64) (q : ∀ ns : List Str, ns.Perm (kvs.map (·.1)) → sortedS ns = true → Q (.lst (ns.map .str)) σ) : CALL g k (.builtin "sorted") [.dS kvs] σ Q := by
  intro A own D s cs Rm S r
  cases r with
  | cons r r' =>
    cases r'
    replace r := r.of; obtain ⟨_, _, _, _, e, ky, p, rs, nd, rfl⟩ := r
    have hi := keys_strs p
    rw [zip_keys rs] at hi
    have hz2 := StrsAre.len hi
    rw [List.length_map, List.length_map] at hz2
    refine sorted_raw Rm.hh (sys_ne S e) (S.dat _ _ e) (by lia) fun B h' tk A' hB kp hb => ?_
    refine list_sort_treeK strKind_oneLt hb hi.keysOf (fun v₁ v₂ rest e => keyKind_strs (by rw [← e]; exact hi)) (by rw [List.length_map]; lia) fun st' hp hs => ⟨rfl, ?_⟩
    obtain ⟨ss', h1, h2, h3⟩ := sorted_out_str hi hp hs
    obtain ⟨D', σ', S', T', rv, hs⟩ := W.sortedAt (tk := tk) (vs := (_ : List Value)) S hB kp hb (VRs.of_strs (g := g) (D := D) h1)
    exact ⟨D', σ', S', T', _, rv, hs ▸ q ss' h2 h3⟩
theorem perm_VRs {vs : List V} {cs ds : List Value} (h : VRs g D vs cs) (p : ds.Perm cs) : ∃ us : List V, us.Perm vs ∧ VRs g D us ds := by
  induction p generalizing vs with
  | nil => cases h; exact ⟨[], .nil, .nil⟩
  | cons x p ih =>
    cases h with
    | cons a r => obtain ⟨us, h1, h2⟩ := ih r; exact ⟨_, h1.cons _, .cons a h2⟩
  | swap x y l =>
    cases h with
    | cons a r => cases r with | cons b r => exact ⟨_, .swap _ _ _, .cons b (.cons a r)⟩
  | trans p1 p2 ih1 ih2 =>
    obtain ⟨us, h1, h2⟩ := ih2 h
    obtain ⟨ws, h3, h4⟩ := ih1 h2
    exact ⟨ws, h3.trans h1, h4⟩
theorem c_sorted_T {kvs : List (List Int × V)} {Q : V → Sig → Prop} (hz : kvs.length < 64) (hne : ∀ p ∈ kvs, p.1 ≠ []) (q : ∀ ks : List (List Int), ks.Perm (kvs.map (·.1)) → Q (.lst (ks.map fun l => .tup (l.map .int))) σ) : CALL g k (.builtin "sorted") [.dT kvs] σ Q := by
  intro A own D s cs Rm S r
  cases r with
  | cons r r' =>
    cases r'
    replace r := r.of; obtain ⟨a, xs, n, e, h1, h2, h3, nd, rfl⟩ := r
    have hx : xs.length = kvs.length := by have := congrArg List.length h1; simpa using this.symm
    refine sorted_raw Rm.hh (sys_ne S e) (S.dat _ _ e) (by rw [List.length_map]; lia) fun B h' tk A' hB kp hb => ?_
    have hT : TupsAt h' ((xs.map (entryOfKey g.T)).map (·.key)) := fun v hv => by
      rw [List.map_map] at hv
      obtain ⟨x, hx, rfl⟩ := List.mem_map.mp hv
      obtain ⟨ys, m, hd, hi⟩ := h2 x hx
      refine ⟨x.2.1, ys, m, x.1, rfl, kp _ _ (S.dat _ _ hd), hi, ?_⟩
      have : x.1 ∈ kvs.map (·.1) := by rw [h1]; exact List.mem_map_of_mem hx
      obtain ⟨p, hp, e⟩ := List.mem_map.mp this
      rw [← e]; exact hne p hp
    refine sort_tups hb hT (by rw [List.length_map, List.length_map]; lia) fun out hperm => ⟨rfl, ?_⟩
    have hv : VRs g D (kvs.map fun p => V.tup (p.1.map .int)) ((xs.map (entryOfKey g.T)).map (·.key)) := by
      rw [List.map_map]
      have e1 : (kvs.map fun p => V.tup (p.1.map .int)) = xs.map fun x => V.tup (x.1.map .int) := by
        have := congrArg (List.map fun ks : List Int => V.tup (ks.map .int)) h1
        rw [List.map_map, List.map_map] at this
        exact this
      rw [e1]
      clear h1 h3 e1 hT hb hperm hx e
      induction xs with
      | nil => exact .nil
      | cons x xs ih =>
        obtain ⟨ys, m, hd, hi⟩ := h2 x (.head _)
        exact .cons (.tup hd (VRs.of_ints hi)) (ih fun y hy => h2 y (.tail _ hy))
    obtain ⟨us, p1, p2⟩ := perm_VRs hv hperm
    obtain ⟨ks, hk1, hk2⟩ : ∃ ks : List (List Int), ks.Perm (kvs.map (·.1)) ∧ us = ks.map fun l => V.tup (l.map .int) := by
      have e1 : (kvs.map fun p => V.tup (p.1.map .int)) = (kvs.map (·.1)).map fun l => V.tup (l.map .int) := by rw [List.map_map]; rfl
      rw [e1] at p1
      exact perm_map_inv p1
    obtain ⟨D', σ', S', T', rv, hs⟩ := W.sortedAt (tk := tk) (vs := (_ : List Value)) S hB kp hb (by simpa using p2)
    exact ⟨D', σ', S', T', _, rv, hs ▸ hk2 ▸ q ks hk1⟩
where
  perm_map_inv {α β : Type} {f : α → β} {us : List β} {l : List α} (p : us.Perm (l.map f)) : ∃ ks : List α, ks.Perm l ∧ us = ks.map f := by
    generalize hm : l.map f = ms at p
    induction p generalizing l with
    | nil => cases l with | nil => exact ⟨[], .nil, rfl⟩ | cons => simp at hm
    | cons x p ih =>
      cases l with
      | nil => simp at hm
      | cons y l =>
        simp only [List.map_cons, List.cons.injEq] at hm
        obtain ⟨ks, h1, h2⟩ := ih hm.2
        exact ⟨y :: ks, h1.cons _, by rw [h2, List.map_cons, hm.1]⟩
    | swap x y l' =>
      match l, hm with
      | a :: b :: l, hm =>
        simp only [List.map_cons, List.cons.injEq] at hm
        exact ⟨b :: a :: l, .swap _ _ _, by rw [List.map_cons, List.map_cons, hm.1, hm.2.1, hm.2.2]⟩
    | trans p1 p2 ih1 ih2 =>
      obtain ⟨ks, h1, h2⟩ := ih2 hm
      obtain ⟨ks', h3, h4⟩ := ih1 h2.symm
      exact ⟨ks', h3.trans h1, h4⟩
end
end Mine

end
section
set_option maxRecDepth 100000
set_option linter.unusedVariables false
namespace Mine
open PySem PySem.W PyProof.Rows PySem.Calls
open PySem.SeqAt (EqAt RcAt)

section
variable {g : G} {k : Nat} {sc : Scope} {ρ : Rho} {σ : Sig} {A : Around} {own md wr : Addr → Prop} {D : Fz} {s : Shared} {N : Rho → Sig → Prop} {R : V → Sig → Prop}

-- an object made
theorem weight_typeCall (C : Addr) (r : List Value) (kw : List (Str × Value)) : (Code.builtin "type.__call__" ⟨.ref C :: r, kw⟩).weight = 1 := by kernel_rfl
theorem units_typeCall (C : Addr) (r : List Value) (kw : List (Str × Value)) : (Code.builtin "type.__call__" ⟨.ref C :: r, kw⟩).cUnits = 1 := by kernel_rfl
theorem call_make {C fI : Addr} {vs : List V} {Q : V → Sig → Prop} (hm : makesIn g.K C = true) (hi : findIn g.K (.ref C) "__init__" = some (some (.ref fI))) (hf : typeIn g.K (.ref fI) = some (.type "function"))
    (h : ∀ dx, σ dx = none → CALLC g k (.ref fI) (.inst C dx :: vs) (σ.set dx (.dS [])) fun v σ' => v = .none ∧ Q (.inst C dx) σ') : CALL g (k + 1) (.ref C) vs σ Q := by
  intro A own D s cs Rm S r
  refine wpAny_call ?_
  obtain ⟨hh, gs, d, t, os⟩ := s
  have X := g.hK.keeps S.base
  refine make_core (makes_of X hm) (looks_findIn X hi) (fun self => bind_fn X self hf) (.inl rfl) ?_
  have kp1 : ∀ b o, hh.get? b = some o → (hh.push emptyDict).get? b = some o := fun b o e => Heap.get?_push_of_some _ e
  have n1 : hh.get? hh.objs.size = none := get?_size hh
  have r0 : OR g D (.dS []) emptyDict := .dS (es := []) (n := 0) (cs := []) (fun e he => by simp at he) .nil .nil .nil
  have S1 : St g own D (σ.set hh.objs.size (.dS [])) { heap := hh.push emptyDict, gens := gs, drawn := d, toks := t, os := os } := S.newM (tk := t) kp1 n1 S.ne_sys (Heap.get?_push_size _ rfl) r0
  have T1 : Step No D σ { heap := hh, gens := gs, drawn := d, toks := t, os := os } D (σ.set hh.objs.size (.dS [])) { heap := hh.push emptyDict, gens := gs, drawn := d, toks := t, os := os } := Step.newM (tk := t) kp1 n1
  have e1 : (hh.push emptyDict).objs.size = hh.objs.size + 1 := Heap.size_push ..
  have kp2 : ∀ b o, (hh.push emptyDict).get? b = some o → ((hh.push emptyDict).push (instObj C hh.objs.size)).get? b = some o := fun b o e => Heap.get?_push_of_some _ e
  have n2 : (hh.push emptyDict).get? (hh.objs.size + 1) = none := by rw [← e1]; exact get?_size _
  have h2 : ((hh.push emptyDict).push (instObj C hh.objs.size)).get? (hh.objs.size + 1) = some (instObj C hh.objs.size) := by rw [← e1]; exact Heap.get?_push_size _ rfl
  have hs2 : hh.objs.size + 1 ≠ sysModules := by have := S1.ne_sys; rw [show (Shared.heap { heap := hh.push emptyDict, gens := gs, drawn := d, toks := t, os := os }).objs.size = hh.objs.size + 1 from e1] at this; exact this
  have S2 := S1.newD (tk := t) kp2 n2 hs2 h2
  have T2 : Step No D (σ.set hh.objs.size (.dS [])) { heap := hh.push emptyDict, gens := gs, drawn := d, toks := t, os := os } (D.put (hh.objs.size + 1) (instObj C hh.objs.size)) (σ.set hh.objs.size (.dS [])) { heap := (hh.push emptyDict).push (instObj C hh.objs.size), gens := gs, drawn := d, toks := t, os := os } := Step.newD (tk := t) S1 kp2 n2
  have hle : Fle D (D.put (hh.objs.size + 1) (instObj C hh.objs.size)) := Fz.put_le (S1.D_none n2)
  refine codeAny_mono (h hh.objs.size (S.σ_none n1) _ own _ _ (.ref (hh.objs.size + 1) :: cs) (by have := Rm.dep; have := Rm.un; exact ⟨Rm.hh, by show A.depth + (Code.builtin "type.__call__" _).weight + 5 * k ≤ 700; rw [weight_typeCall]; lia, by show A.units + (Code.builtin "type.__call__" _).cUnits + 100 * k ≤ 9000; rw [units_typeCall]; lia⟩) S2 (.cons (.inst (Fz.put_self ..)) (r.mono hle))) fun q s' hq => ?_
  rcases q with e | (v | _ | _ | _)
  · exact hq.elim
  all_goals first
    | exact hq.elim
    | (obtain ⟨D', σ', S', T', v', rv, rfl, q⟩ := hq
       cases rv
       exact ⟨rfl, D', σ', S', (T1.trans T2).trans T', _, .inst (T'.fle _ _ (Fz.put_self ..)), q⟩)

-- a chain of comparisons as a value
theorem ev_cmp2 {l m r : Expr} {op1 op2 : CmpOp} {pos : Pos} {Q : V → Sig → Prop}
    (h : EV g k sc ρ l σ (chK g k sc ρ op1 op2 m r (boolQ Q)))
    (hm : autoParam (behindInMarks op2 r = false) Mine.sxU) : EV g k sc ρ (.Compare l [op1, op2] [m, r] pos) σ Q := by
  intro F A D s hs R S E
  show W g A F.own No (eval l F.env >>= fun left => compareChain pos left [op1, op2] [eval m F.env, markedBehindIn op2 r (eval r F.env)]) D σ s _
  refine h.then hs R S E fun c v D₁ σ₁ s₁ r₁ h₁ S₁ E₁ T₁ => ?_
  rw [markedBehindIn_of_false hm]
  show W g A F.own No (holding [c] (eval m F.env) >>= _) D₁ σ₁ s₁ _
  refine W.bind (W.holding ((h₁ F A D₁ s₁ hs R S₁ E₁).mono fun d D₂ σ₂ s₂ S₂ T₂ w => ?_))
  obtain ⟨u, r₂, h₂⟩ := w
  refine W.standAt (W.bind (W.holding ((h₂ A F.own D₂ s₂ c d R S₂ (r₁.mono T₂.fle) r₂).mono ?_)))
  rintro c' D₃ σ₃ s₃ S₃ T₃ ⟨v, r₃, t, rfl, q⟩
  cases r₃
  refine W.release (W.bind (W.holding (W.quiet S₃ (wpAny_truthy_bool ⟨s₃.toks, rfl, ?_⟩))))
  cases t with
  | false => exact W.pure S₃ ⟨_, .bool false, q⟩
  | true =>
    have q' : EV g k sc ρ r σ₃ fun c σ₄ => CMP g k op2 u c σ₄ fun t σ₅ => Q (.bool t) σ₅ := q
    show W g A F.own No (holding [d] (eval r F.env) >>= _) D₃ σ₃ s₃ _
    refine W.bind (W.holding ((q' F A D₃ s₃ hs R S₃ ((E₁.step S₁ T₂).step S₂ T₃)).mono fun e D₄ σ₄ s₄ S₄ T₄ w => ?_))
    obtain ⟨x, r₄, h₄⟩ := w
    refine W.standAt (W.operate ((h₄ A F.own D₄ s₄ d e R S₄ ((r₂.mono T₃.fle).mono T₄.fle) r₄).mono ?_))
    rintro c' D' σ' s' S' _ ⟨v, r, t, rfl, q⟩
    exact ⟨_, r, q⟩

-- pairs of dicts
theorem cmp_ne_dd {a b c d : List (Int × V)} {Q : Bool → Sig → Prop} (ha : allTrue a) (hb : allTrue b) (hc : allTrue c) (hd : allTrue d) (q : Q (!(sameD a c && sameD b d)) σ) : CMP g k .NotEq (.tup [.dI a, .dI b]) (.tup [.dI c, .dI d]) σ Q := by
  intro A own D s x y Rm S r1 r2
  replace r1 := r1.of; obtain ⟨_, _, _, e1, v1, rfl⟩ := r1
  replace r2 := r2.of; obtain ⟨_, _, _, e2, v2, rfl⟩ := r2
  cases v1 with
  | cons va v1 =>
    cases v1 with
    | cons vb v1 =>
      cases v1
      cases v2 with
      | cons vc v2 =>
        cases v2 with
        | cons vd v2 =>
          cases v2
          refine W.quiet S (SeqAt.RcNeAt.tuples (items := (List.toArray [_, _])) (items2 := (List.toArray [_, _])) (e := fun j => if j = 0 then sameD a c else sameD b d) ⟨_, S.dat _ _ e1, rfl, _, rfl⟩ ⟨_, S.dat _ _ e2, rfl, _, rfl⟩ Rm.units (fun j h1 h2 => ?_) g.prog g.w _ _ ⟨s.toks, rfl, _, .bool _, _, rfl, ?_⟩)
          · have hj : j = 0 ∨ j = 1 := by
              have : j < 2 := h1
              lia
            have hu := Rm.units2
            rcases hj with rfl | rfl
            · exact eqAt_dI' S ha hc va vc (by show A.units + 1 < cLine; lia)
            · exact eqAt_dI' S hb hd vb vd (by show A.units + 1 < cLine; lia)
          · have e : ((List.range 2).all fun j => if j = 0 then sameD a c else sameD b d) = (sameD a c && sameD b d) := by simp [List.range_succ]
            show Q (!(((List.range 2).all fun j => if j = 0 then sameD a c else sameD b d) && true)) σ
            rw [e, Bool.and_true]; exact q
end
end Mine

end
section
set_option maxRecDepth 100000
set_option linter.unusedVariables false
namespace Mine
open PySem PySem.W PyProof.Rows PySem.Calls

section
variable {g : G} {k : Nat} {sc : Scope} {ρ : Rho} {σ : Sig} {A : Around} {own md wr : Addr → Prop} {D : Fz} {s : Shared} {N : Rho → Sig → Prop} {R : V → Sig → Prop}

theorem St.ghostM (S : St g own D σ s) {a : Addr} {o : Obj} {m : MO} (ho : s.heap.get? a = some o) (h0 : g.hb.get? a = none) (h1 : D a = none) (h3 : ¬ own a) (h4 : a ≠ sysModules) (r : OR g D m o) : St g own D (σ.set a m) s := by
  refine ⟨S.base, S.dat, fun b m' e => ?_, fun b o' e => ?_, S.dO, fun b m' e => ?_, fun b o' e => ?_, S.bO, S.oex, S.dsys, by unfold Sig.set; rw [if_neg (Ne.symm h4)]; exact S.ssys, S.gens, S.os⟩
  · unfold Sig.set at e; split at e
    · rename_i q; cases e; rw [q]; exact ⟨o, ho, r⟩
    · exact S.mt b m' e
  · unfold Sig.set; split
    · rename_i q; rw [q, h1] at e; cases e
    · exact S.dσ b o' e
  · unfold Sig.set at e; split at e
    · rename_i q; rw [q]; exact h3
    · exact S.σO b m' e
  · unfold Sig.set; split
    · rename_i q; rw [q, h0] at e; cases e
    · exact S.bσ b o' e
theorem Step.ghostM {D' : Fz} {σ' : Sig} {s' : Shared} {a : Addr} {m : MO} (T : Step md D σ s D' σ' s') (ha : s.heap.get? a = none) : Step md D σ s D' (σ'.set a m) s' :=
  ⟨T.fle, T.fresh, fun b m' e => by
    unfold Sig.set at e; split at e
    · rename_i q; exact .inr (q ▸ ha)
    · exact T.mfresh b m' e, T.keep, T.live⟩

noncomputable def kputs (l acc : List (Str × V)) : List (Str × V) := l.foldl (fun m p => kput m p.1 p.2) acc
noncomputable def pairE (pos : Pos) (env : Env) (p : Expr × Expr) : Sem Value × Sem Value := (eval p.1 env, do let x ← eval p.2 env; standAt pos; pure x)
theorem shape_pairs (pos : Pos) (env : Env) : ∀ ps : List (Expr × Expr), (evalEachOpt (ps.map fun p => some p.1) env).zip ((evalEach (ps.map (·.2)) env).map fun v => do let x ← v; standAt pos; pure x) = (ps.map (pairE pos env)).map fun p => (some p.1, p.2)
  | [] => rfl
  | p :: r => congrArg (_ :: ·) (shape_pairs pos env r)
/-- the pairs of a display -/
noncomputable def EVP (g : G) (k : Nat) (sc : Scope) (ρ : Rho) : List (Expr × Expr) → Sig → (List (Str × V) → Sig → Prop) → Prop
  | [], σ, Q => Q [] σ
  | p :: r, σ, Q => EV g k sc ρ p.1 σ fun kv σ₁ => EV g k sc ρ p.2 σ₁ fun v σ₂ => ∃ x, kv = .str x ∧ EVP g k sc ρ r σ₂ fun l σ₃ => Q ((x, v) :: l) σ₃
theorem evp_run {F : Fm} {pos : Pos} (hs : F.env.scope = sc) (Rm : Room k A) : ∀ (ps : List (Expr × Expr)) (σ : Sig) (D : Fz) (s : Shared) (Q : List (Str × V) → Sig → Prop), EVP g k sc ρ ps σ Q → St g F.own D σ s → ER g F ρ D s.heap →
    W g A F.own No (evalPairs (ps.map (pairE pos F.env))) D σ s fun vs D' σ' s' => X2 fun l cs => A3 (Carries g.S vs ((l.map (·.1)).zip cs)) (VRs g D' (l.map (·.2)) cs) (Q l σ')
  | [], σ, D, s, Q, h, S, E => W.pure S ⟨[], [], trivial, .nil, h⟩
  | p :: r, σ, D, s, Q, h, S, E => by
    have h' : EV g k sc ρ p.1 σ fun kv σ₁ => EV g k sc ρ p.2 σ₁ fun v σ₂ => ∃ x, kv = .str x ∧ EVP g k sc ρ r σ₂ fun l σ₃ => Q ((x, v) :: l) σ₃ := h
    refine evalPairs_cons ?_
    refine wpAny_mono (h' F A D s hs Rm S E) (fun kc s₁ w => ?_) fun _ _ e => e
    obtain ⟨D₁, σ₁, S₁, T₁, kv, rk, h₁⟩ := w
    have E₁ := E.step S T₁
    refine wpAny_bind (wpAny_mono (h₁ F A D₁ s₁ hs Rm S₁ E₁) (fun vc s₂ ⟨D₂, σ₂, S₂, T₂, v, rv, x, hx, h₂⟩ => wpAny_bind (wpAny_standAt (wpAny_pure ?_))) fun _ _ e => e)
    have E₂ := E₁.step S₁ T₂
    refine wpAny_mono (evp_run hs Rm r σ₂ D₂ s₂ _ h₂ S₂ E₂) (fun vs s₃ w => ?_) fun _ _ e => e
    obtain ⟨D₃, σ₃, S₃, T₃, l, cs, hc, rs, q⟩ := w
    subst hx
    cases rk
    exact ⟨D₃, σ₃, S₃, (T₁.trans T₂).trans T₃, (x, v) :: l, vc :: cs, ⟨isS x _, rfl, hc⟩, .cons (rv.mono T₃.fle) rs, q⟩
theorem merged_kputs {l acc : List (Str × V)} {cs ds : List Value} (r1 : VRs g D (acc.map (·.2)) ds) (n1 : (acc.map (·.1)).Nodup) (r2 : VRs g D (l.map (·.2)) cs) :
    ∃ es, A3 (merged ((acc.map (·.1)).zip ds) ((l.map (·.1)).zip cs) = ((kputs l acc).map (·.1)).zip es) (VRs g D ((kputs l acc).map (·.2)) es) (((kputs l acc).map (·.1)).Nodup) := by
  induction l generalizing acc cs ds with
  | nil => cases r2; exact ⟨ds, rfl, r1, n1⟩
  | cons p l ih =>
    obtain ⟨x, v⟩ := p
    cases r2 with
    | cons a r2 =>
      rename_i c cs
      obtain ⟨ds', e, r1'⟩ := kv_put (k := x) r1 n1 a
      obtain ⟨es, h1, h2, h3⟩ := ih r1' (kput_nodup n1) r2
      refine ⟨es, ?_, h2, h3⟩
      show merged (stored ((acc.map (·.1)).zip ds) x c) ((l.map (·.1)).zip cs) = _
      rw [e]
      exact h1
theorem ev_dictS {keys : List (Option Expr)} {values : List Expr} {pos : Pos} {Q : V → Sig → Prop} (ps : List (Expr × Expr)) (hk : keys = ps.map fun p => some p.1) (hv : values = ps.map (·.2)) (h0 : ps ≠ []) (hl : ps.length ≤ 15)
    (h : EVP g k sc ρ ps σ fun l σ' => ∀ a, σ' a = none → Q (.ref a) (σ'.set a (.dS (kputs l [])))) : EV g k sc ρ (.Dict keys values pos) σ Q := by
  intro F A D s hs Rm S E
  subst hk hv
  refine wpAny_Dict_pairs (knd := g.S) (shape_pairs pos F.env ps) (by intro e; exact h0 (by simpa using e)) (by rw [List.length_map]; exact hl) ?_
  have kp : ∀ b o, s.heap.get? b = some o → (s.heap.push { cls := .type "dict", data := .dict #[] }).get? b = some o := fun b o e => Heap.get?_push_of_some _ e
  have S1 : St g F.own D σ { s with heap := s.heap.push { cls := .type "dict", data := .dict #[] }, toks := s.toks } := S.keeps kp
  have nz := get?_size s.heap
  refine wpAny_mono (evp_run (A := A) (pos := pos) hs Rm ps σ D { s with heap := s.heap.push { cls := .type "dict", data := .dict #[] } } _ h S1 (E.keeps (.refl _) fun b o _ e => kp b o e)) (fun vs s₁ w => ?_) fun _ _ e => e
  obtain ⟨D₁, σ₁, S₁, T₁, l, cs, hc, rs, q⟩ := w
  have ha1 : s₁.heap.get? s.heap.objs.size = some { cls := .type "dict", data := .dict #[] } := T₁.keep _ _ (Heap.get?_push_size _ rfl) (S.σ_none nz) fun q => q
  have T0 : Step No D σ s D₁ σ₁ s₁ := (Step.keeps (tk := s.toks) kp).trans T₁
  have hD : D₁ s.heap.objs.size = none := by
    cases q : D₁ s.heap.objs.size with
    | none => rfl
    | some o =>
      rcases T₁.fresh _ o q with e | e | ⟨m, e⟩
      · rw [S.D_none nz] at e; cases e
      · rw [show (Shared.heap { s with heap := s.heap.push { cls := .type "dict", data := .dict #[] } }).get? s.heap.objs.size = _ from Heap.get?_push_size _ rfl] at e; cases e
      · rw [S.σ_none nz] at e; cases e
  have hσ : σ₁ s.heap.objs.size = none := by
    cases q : σ₁ s.heap.objs.size with
    | none => rfl
    | some m =>
      rcases T₁.mfresh _ m q with ⟨m', e⟩ | e
      · rw [S.σ_none nz] at e; cases e
      · rw [show (Shared.heap { s with heap := s.heap.push { cls := .type "dict", data := .dict #[] } }).get? s.heap.objs.size = _ from Heap.get?_push_size _ rfl] at e; cases e
  have hO : ¬ F.own s.heap.objs.size := S.own_none nz
  have hbn : g.hb.get? s.heap.objs.size = none := base_none S nz
  refine ⟨_, hc, ?_, fun h' hd' hsb => ?_⟩
  · exact ⟨_, #[], 0, ha1, ⟨rfl, rfl, rfl⟩, rfl, fun e he => by simp at he, .nil, .nil⟩
  · obtain ⟨es, e1, r1, n1⟩ := merged_kputs (l := l) (acc := []) (cs := cs) (ds := []) (g := g) (D := D₁) .nil .nil rs
    have e1' : merged [] ((l.map (·.1)).zip cs) = ((kputs l []).map (·.1)).zip es := e1
    rw [e1'] at hd'
    obtain ⟨es2, n, ho, hk, hp, hn⟩ := dictOf_or hd'
    have kp2 : ∀ b o, ¬ (b = s.heap.objs.size) → s₁.heap.get? b = some o → h'.get? b = some o := fun b o hb e => hsb.extBut b o hb e
    have S2 := S₁.turnOff (wr := fun b => b = s.heap.objs.size) (tk := s₁.toks + vs.length) kp2 fun b hb => by subst hb; exact ⟨hbn, hD, hσ, hO⟩
    have S3 := S2.ghostM (m := .dS (kputs l [])) ho hbn hD hO S.ne_sys (.dS hk hp r1 n1)
    have T2 : Step No D σ s D₁ σ₁ { s₁ with heap := h', toks := s₁.toks + vs.length } := ⟨T0.fle, T0.fresh, T0.mfresh, fun b o e a b2 => kp2 b o (fun q => by rw [q, nz] at e; cases e) (T0.keep b o e a b2), fun b o e => by
      obtain ⟨o', e'⟩ := T0.live b o e
      exact ⟨o', kp2 b o' (fun q => by rw [q, nz] at e; cases e) e'⟩⟩
    exact ⟨D₁, _, S3, T2.ghostM nz, _, .ref _, q _ hσ⟩
end
end Mine

end
section
set_option maxRecDepth 100000
set_option linter.unusedVariables false
namespace Mine
open PySem PySem.W PyProof.Rows PySem.Calls

/-- the surroundings as the head has them -/
structure GK (g : G) : Prop where
  hK : g.K = hd.heap_1 g.w.params
  glob : ∀ x v, nsIn g.K mainGlobals x = some (some v) → g.mg x = some v
  noglob : ∀ x, nsIn g.K mainGlobals x = some none → g.mg x = none
  blt : ∀ x v, bootBuiltins x = some v → x ≠ "__name__" → g.mb x = some v
noncomputable abbrev KH (g : G) : Frag := hd.heap_1 g.w.params

section
variable {g : G} {k : Nat} {sc : Scope} {ρ : Rho} {σ : Sig}
theorem ev_gname (H : GK g) {x : Str} {pos : Pos} {f : Addr} {Q : V → Sig → Prop} (hk : sc.names.lookup x = some .globalImplicit) (e : nsIn (KH g) mainGlobals x = some (some (.ref f))) (q : Q (.cst (.ref f)) σ) (hd : autoParam ((x == ("__debug__" : Str)) = false) Mine.sxD) :
    EV g k sc ρ (.Name x pos) σ Q := ev_glob hk (H.glob x _ (by rw [H.hK]; exact e)) (fun D => .cst _) q hd
theorem ev_gint (H : GK g) {x : Str} {pos : Pos} {i : Int} {t : Tok} {Q : V → Sig → Prop} (hk : sc.names.lookup x = some .globalImplicit) (e : nsIn (KH g) mainGlobals x = some (some (.int i t))) (q : Q (.int i) σ) (hd : autoParam ((x == ("__debug__" : Str)) = false) Mine.sxD) :
    EV g k sc ρ (.Name x pos) σ Q := ev_glob hk (H.glob x _ (by rw [H.hK]; exact e)) (fun D => .int i t) q hd
theorem ev_bname (H : GK g) {x : Str} {pos : Pos} {c : Value} {Q : V → Sig → Prop} (hk : sc.names.lookup x = some .globalImplicit) (e : nsIn (KH g) mainGlobals x = some none) (b : bootBuiltins x = some c) (q : Q (.cst c) σ) (hn : autoParam (x ≠ "__name__") Mine.sxD) (hd : autoParam ((x == ("__debug__" : Str)) = false) Mine.sxD) :
    EV g k sc ρ (.Name x pos) σ Q := ev_blt hk (H.noglob x (by rw [H.hK]; exact e)) (H.blt x c b hn) q hd
theorem keep_fn (H : GK g) {f : Addr} (e : keepIn (KH g) (.ref f) = true) : KEEP g (.ref f) := keep_in (by rw [H.hK]; exact e)
noncomputable def AllL {α : Type} : Nat → (List α → Prop) → Prop
  | 0, P => P []
  | n + 1, P => ∀ a, AllL n fun r => P (a :: r)
theorem all0 {α : Type} {P : List α → Prop} (h : P []) : AllL 0 P := h
theorem allS {α : Type} {n : Nat} {P : List α → Prop} (h : ∀ a, AllL n fun r => P (a :: r)) : AllL (n + 1) P := h
theorem allL {α : Type} : ∀ (cs : List α) (n : Nat) (P : List α → Prop), AllL n P → cs.length = n → P cs
  | [], _, P, h, e => by subst e; exact h
  | a :: r, _, P, h, e => by subst e; exact allL r r.length (fun r => P (a :: r)) (h a) rfl
theorem brd {p P Q : Prop} {_ : Decidable p} (h1 : p → P) (h2 : ¬ p → Q) : if decide p = true then P else Q := by
  by_cases h : p
  · rw [if_pos (decide_eq_true h)]; exact h1 h
  · rw [if_neg (by simpa using h)]; exact h2 h
theorem brT {P Q : Prop} (h : P) : if true = true then P else Q := by simpa using h
theorem brF {P Q : Prop} (h : Q) : if false = true then P else Q := by simpa using h
theorem br {c : Bool} {P Q : Prop} (h1 : c = true → P) (h2 : c = false → Q) : if c = true then P else Q := by cases c; exact h2 rfl; exact h1 rfl

/-- a call of one of the text's functions -/
theorem enter (H : GK g) {f : Addr} {fd : FuncData} {body : List Stmt} {names : List Str} {ds : List Value} {dvs vs : List V} {ρ0 : Rho} {Q : V → Sig → Prop} {oc : Value} {od : Option Addr} {sl : Array (Option Value)}
    (h : (KH g).lookup f = some ⟨oc, od, .func fd, sl⟩) (hb : fd.body = .stmts body)
    (e : (!fd.scope.isCoroutine && !fd.scope.isGenerator && fd.scope.kind == .function && fd.globals == mainGlobals && fd.builtins == builtinsNs && fd.closure.isEmpty && (fd.scope.names.lookup ("__debug__" : Str)).isNone && (fd.scope.names.lookup ("__classdict__" : Str)).isNone) = true)
    (hc : codeIn (KH g) fd.code fd.qualname = true) (hn : fd.params.args.map (·.arg) = names)
    (hbind : ∀ s : Shared, (KH g).In s.heap → AllL vs.length fun cs => BindsTo s fd ⟨cs, []⟩ (names.zip (cs ++ ds)))
    (hd : ∀ D, VRs g D dvs ds) (hkind : (names.all fun y => fd.scope.names.lookup y == some .local || fd.scope.names.lookup y == some .cell) = true) (hnd : names.Nodup)
    (hsc : fd.scope = sc) (hρ : names.zip (vs ++ dvs) = ρ0) (X : EX g k sc ρ0 body σ (fun _ σ' => Q .none σ') Q) : CALLC g (k + 1) (.ref f) vs σ Q := by
  subst hsc hρ
  exact call_fnC (FnAt.of (by rw [H.hK]; exact h) hb e (by rw [H.hK]; exact hc)) (fun s cs hk hl => allL cs _ _ (hbind s (by have := g.hK.keeps hk; rw [H.hK] at this; exact this)) hl) hd hkind hnd X
theorem enter0 (H : GK g) {f : Addr} {fd : FuncData} {body : List Stmt} {names : List Str} {vs : List V} {ρ0 : Rho} {Q : V → Sig → Prop} {oc : Value} {od : Option Addr} {sl : Array (Option Value)}
    (h : (KH g).lookup f = some ⟨oc, od, .func fd, sl⟩) (hb : fd.body = .stmts body)
    (e : (!fd.scope.isCoroutine && !fd.scope.isGenerator && fd.scope.kind == .function && fd.globals == mainGlobals && fd.builtins == builtinsNs && fd.closure.isEmpty && (fd.scope.names.lookup ("__debug__" : Str)).isNone && (fd.scope.names.lookup ("__classdict__" : Str)).isNone) = true)
    (hc : codeIn (KH g) fd.code fd.qualname = true) (hn : fd.params.args.map (·.arg) = names)
    (bind : ∀ s : Shared, (KH g).In s.heap → AllL vs.length fun cs => BindsTo s fd ⟨cs, []⟩ (names.zip (cs ++ [])))
    (kd : (names.all fun y => fd.scope.names.lookup y == some .local || fd.scope.names.lookup y == some .cell) = true) (nd : names.Nodup)
    (hsc : fd.scope = sc) (hρ : names.zip (vs ++ []) = ρ0) (body : EX g k sc ρ0 body σ (fun _ σ' => Q .none σ') Q) : CALLC g (k + 1) (.ref f) vs σ Q :=
  enter H h hb e hc hn bind (fun _ => .nil) kd nd hsc hρ body
end

theorem rangeV_cons {v : V} {rest : List V} {lo hi : Int} (h : v :: rest = rangeV lo hi) : v = .int lo ∧ lo < hi ∧ rest = rangeV (lo + 1) hi := by
  unfold rangeV at h
  have hl : (hi - lo).toNat ≠ 0 := by intro e; rw [e] at h; cases h
  obtain ⟨n, hn⟩ : ∃ n, (hi - lo).toNat = n + 1 := ⟨(hi - lo).toNat - 1, by lia⟩
  rw [hn, List.range_succ_eq_map] at h
  simp only [List.map_cons, List.map_map, List.cons.injEq] at h
  refine ⟨by rw [h.1]; simp, by lia, ?_⟩
  rw [h.2]
  unfold rangeV
  rw [show (hi - (lo + 1)).toNat = n by lia]
  refine List.map_congr_left fun i _ => ?_
  show V.int (lo + ((i + 1 : Nat) : Int)) = _
  congr 1
  lia
theorem rangeV_nil {lo hi : Int} (h : [] = rangeV lo hi) : hi ≤ lo := by
  have := congrArg List.length h
  rw [rangeV_length] at this
  simp at this
  lia
theorem ints_get {ns : List Int} {i : Nat} (h : i < ns.length) : (ns.map V.int)[i]? = some (.int ns[i]) := by simp [h]

section
variable {g : G} {k : Nat} {sc : Scope} {ρ : Rho} {σ : Sig} {N : Rho → Sig → Prop} {R : V → Sig → Prop}
noncomputable abbrev apK (a : Addr) (ρ : Rho) (N : Rho → Sig → Prop) : V → Sig → Prop := fun v σ₁ => ∃ vs, A3 (σ₁ a = some (.list vs)) (vs.length ≤ sizeLine) (N ρ (σ₁.set a (.list (vs ++ [v]))))
noncomputable abbrev extK (a : Addr) (ρ : Rho) (N : Rho → Sig → Prop) : V → Sig → Prop := fun v σ₁ => X2 fun vs ws => A4 (σ₁ a = some (.list vs)) (LI σ₁ v ws) (vs.length + ws.length ≤ sizeLine) (N ρ (σ₁.set a (.list (vs ++ ws))))
/-- x.append(e), x.extend(e) as statements, x a list that may be turned -/
theorem ex_append {x : Str} {p1 p2 p3 p4 : Pos} {e : Expr} {a : Addr} {vs0 : List V} (hx : ρ.lookup x = some (.ref a)) (ha : σ a = some (.list vs0)) (h : EV g k sc ρ e σ (apK a ρ N))
    (hs : autoParam (swapsWith (.Call (.Attribute (.Name x p1) "append" p2) [e] [] p3) none p4.line (envS sc) = pure false) Mine.sxR) (hn : autoParam (noStar [e] = true) Mine.sxR) (hp : autoParam (p2.endLine = p3.line) Mine.sxR) : EX1 g k sc ρ (.Expr (.Call (.Attribute (.Name x p1) "append" p2) [e] [] p3) p4) σ N R :=
  ex_expr (ev_mcall (ev_name hx ⟨_, mres_list (.m ha) slot_list_append rfl, keep_builtin, evs_cons (h.mono fun v σ' ⟨vs, e1, e2, e3⟩ => evs_nil (c_append e1 e2 ⟨rfl, e3⟩))⟩) rfl hn (hl := by show 1 < 30; decide) (hp := hp)) hs
theorem ex_extend {x : Str} {p1 p2 p3 p4 : Pos} {e : Expr} {a : Addr} {vs0 : List V} (hx : ρ.lookup x = some (.ref a)) (ha : σ a = some (.list vs0)) (h : EV g k sc ρ e σ (extK a ρ N))
    (hs : autoParam (swapsWith (.Call (.Attribute (.Name x p1) "extend" p2) [e] [] p3) none p4.line (envS sc) = pure false) Mine.sxR) (hn : autoParam (noStar [e] = true) Mine.sxR) (hp : autoParam (p2.endLine = p3.line) Mine.sxR) : EX1 g k sc ρ (.Expr (.Call (.Attribute (.Name x p1) "extend" p2) [e] [] p3) p4) σ N R :=
  ex_expr (ev_mcall (ev_name hx ⟨_, mres_list (.m ha) PySem.F.slot_list_extend rfl, keep_builtin, evs_cons (h.mono fun v σ' ⟨vs, ws, e1, e2, e3, e4⟩ => evs_nil (c_extend e1 e2 e3 ⟨rfl, e4⟩))⟩) rfl hn (hl := by show 1 < 30; decide) (hp := hp)) hs
theorem ne_of_set {a b : Addr} {m : MO} (h1 : σ a = some m) (h2 : σ b = none) : a ≠ b := fun e => by rw [e, h2] at h1; cases h1
theorem Sle.set_new {σ' : Sig} {a : Addr} {m : MO} (h : σ' a = none) : Sle σ' (σ'.set a m) := fun b m' e => by
  rw [Sig.set_ne (fun q => by rw [q, h] at e; cases e)]; exact e
theorem Sle.set_set {σ' : Sig} {a : Addr} {m m' : MO} (h : σ' a = none) : Sle σ' ((σ'.set a m).set a m') := fun b m'' e => by
  have : b ≠ a := fun q => by rw [q, h] at e; cases e
  rw [Sig.set_ne this, Sig.set_ne this]; exact e
theorem Sig.set_set {σ : Sig} {a : Addr} {m m' : MO} : (σ.set a m).set a m' = σ.set a m' := by
  funext b
  by_cases h : b = a
  · subst h; rw [Sig.set_self, Sig.set_self]
  · rw [Sig.set_ne h, Sig.set_ne h, Sig.set_ne h]
theorem Sig.del_set {σ : Sig} {a : Addr} {m : MO} (h : σ a = none) : (σ.set a m).del a = σ := by
  funext b
  by_cases q : b = a
  · subst q; rw [Sig.del_self, h]
  · rw [Sig.del_ne q, Sig.set_ne q]
end

noncomputable def ownAttrB (K : Frag) (C : Addr) (x : Str) : Bool := plainGet K C x && hasDictIn K C && match findIn K (.ref C) x with
  | some a => noGet K a
  | .none => false
theorem own_attr {g : G} (H : GK g) {C : Addr} {x : Str} (h : ownAttrB (KH g) C x = true) : OwnAttr g.K C x := by
  rw [H.hK]
  unfold ownAttrB at h
  obtain ⟨h12, h3⟩ := Bool.and_eq_true_iff.mp h
  obtain ⟨h1, h2⟩ := Bool.and_eq_true_iff.mp h12
  refine ⟨h1, h2, ?_⟩
  cases q : findIn (KH g) (.ref C) x with
  | none => rw [q] at h3; cases h3
  | some a => rw [q] at h3; exact ⟨a, rfl, h3⟩
theorem own_meth {g : G} (H : GK g) {C f : Addr} {x : Str} (h : plainGet (KH g) C x = true) (h2 : findIn (KH g) (.ref C) x = some (some (.ref f))) (h3 : typeIn (KH g) (.ref f) = some (.type "function")) : OwnMeth g.K C x f := by
  rw [OwnMeth, H.hK]; exact ⟨h, h2, h3⟩

theorem tr_forget {g : G} {k : Nat} {sc : Scope} {ρ ρ' : Rho} {σ : Sig} {e : Expr} {Q : Bool → Sig → Prop} (h : TR g k sc ρ' e σ Q) (a : Rle ρ' ρ) : TR g k sc ρ e σ Q := fun F A D s hs Rm S E => h F A D s hs Rm S (E.forget a)
theorem lookup_mem {x : Str} {v : V} : ∀ {ρ : Rho}, ρ.lookup x = some v → (x, v) ∈ ρ
  | [], h => nomatch h
  | (y, w) :: ρ, h => by
    rw [lookup_cons_str] at h
    split at h
    · rename_i e; cases h; rw [e]; exact .head _
    · exact .tail _ (lookup_mem h)
theorem rle_of {ρ ρ' : Rho} (h : (ρ'.map fun p => ρ.lookup p.1) = ρ'.map fun p => some p.2) : Rle ρ' ρ := fun x v hx => List.map_inj_left.mp h (x, v) (lookup_mem hx)
theorem getD_lt {α : Type} {l : List α} {d : α} {i : Nat} (h : i < l.length) : l.getD i d = l[i] := by simp [List.getD, h]

section
variable {g : G} {k : Nat} {sc : Scope} {ρ : Rho} {σ : Sig} {N : Rho → Sig → Prop} {R : V → Sig → Prop}
/-- loops whose names are told by a function of x -/
theorem ex_forR {α : Type} {t iter : Expr} {body : List Stmt} {pos : Pos} (ρf : α → Rho) (P : List V → α → Sig → Prop) (hi : IT g k sc ρ t iter σ fun vs σ₁ => ∃ x, Rle (ρf x) ρ ∧ P vs x σ₁)
    (step : ∀ v rest x σ, P (v :: rest) x σ → ∀ N' : Rho → Sig → Prop, (∀ ρ' σ' y, Rle (ρf y) ρ' → P rest y σ' → N' ρ' σ') → ASN g k true sc (ρf x) t v σ (exK g k sc body N' R)) (fin : ∀ x σ, P [] x σ → N (ρf x) σ)
    (hN : ∀ ρ ρ' σ, Rle ρ' ρ → N ρ' σ → N ρ σ := by intro _ _ _ r h; exact ex_forget h r fun _ _ h => h) (hset : autoParam (∀ env x, foldedSetIterable iter env x = pure x) Mine.sxI) : EX1 g k sc ρ (.For t iter body [] pos) σ N R :=
  ex_for (P := fun vs ρ σ => ∃ x, Rle (ρf x) ρ ∧ P vs x σ) hi (fun v rest ρ σ ⟨x, r, h⟩ => asn_forget (step v rest x σ h _ fun _ _ y r q => ⟨y, r, q⟩) r) (fun ρ σ ⟨x, r, h⟩ => hN _ _ _ r (fin x σ h)) hset
theorem ex_whileR {α : Type} {t : Expr} {body : List Stmt} {pos : Pos} (ρf : α → Rho) (P : Nat → α → Sig → Prop) (n0 : Nat) (x0 : α) (r0 : Rle (ρf x0) ρ) (h0 : P n0 x0 σ)
    (step : ∀ n x σ, P n x σ → TR g k sc (ρf x) t σ fun b σ₁ => if b = true then EX g k sc (ρf x) body σ₁ (fun ρ' σ' => X2 fun m y => A3 (m < n) (Rle (ρf y) ρ') (P m y σ')) R else N (ρf x) σ₁)
    (hN : ∀ ρ ρ' σ, Rle ρ' ρ → N ρ' σ → N ρ σ := by intro _ _ _ r h; exact ex_forget h r fun _ _ h => h) : EX1 g k sc ρ (.While t body [] pos) σ N R :=
  ex_while (fun n ρ σ => ∃ x, Rle (ρf x) ρ ∧ P n x σ) n0 ⟨x0, r0, h0⟩ fun n ρ σ ⟨x, r, h⟩ => tr_forget ((step n x σ h).mono fun b σ₁ => by
    cases b
    · rw [if_neg Bool.false_ne_true, if_neg Bool.false_ne_true]; exact hN _ _ _ r
    · rw [if_pos rfl, if_pos rfl]; exact fun h => ex_forget (h.mono (fun ρ' σ' ⟨m, y, h1, h2, h3⟩ => ⟨m, h1, y, h2, h3⟩) fun _ _ q => q) r fun _ _ h => h) r
end

theorem settable_of {g : G} (H : GK g) {C : Addr} {x : Str} (h1 : findIn (KH g) (.ref C) "__setattr__" = some (some (.builtin "object.__setattr__"))) (h2 : plainOver (KH g) C = true) (h3 : takerIn (KH g) C x = some none) (h4 : (clsIn (KH g) C).any (·.hasDict) = true) : Settable g.K C x := by
  rw [Settable, H.hK]; exact ⟨h1, h2, h3, h4⟩

section
variable {g : G} {k : Nat} {sc : Scope} {ρ : Rho} {σ : Sig}
theorem LSTEP.mono {ifs : List Expr} {elt : Expr} {us : List V} {Q Q' : List V → Sig → Prop} (h : LSTEP g k sc ρ ifs elt us σ Q) (q : ∀ us σ, Q us σ → Q' us σ) : LSTEP g k sc ρ ifs elt us σ Q' := by
  cases ifs with
  | nil => exact EV.mono h fun u σ' ⟨a, b⟩ => ⟨a, q _ _ b⟩
  | cons c r =>
    cases r with
    | cons => exact h.elim
    | nil =>
      refine TR.mono h fun b σ' x => ?_
      cases b
      · exact q _ _ x
      · exact EV.mono x fun u σ' ⟨a, b⟩ => ⟨a, q _ _ b⟩
/-- a comprehension that turns nothing -/
theorem cx_mapV {α : Type} {elt iter : Expr} {x : Str} {px pos : Pos} {ifs : List Expr} {scope : Scope} {Q : V → Sig → Prop} (xs : List α) (vf : α → V) (out : α → List V)
    (hIT : IT g k sc ρ (.Name x px) iter σ fun vs σ₁ => vs = xs.map vf ∧ σ₁ = σ) (h1 : ∀ e, (out e).length ≤ 1) (hl : xs.length ≤ 100000)
    (step : ∀ e ∈ xs, ∀ us : List V, us.length ≤ sizeLine → LSTEP g k (relS scope sc) ((x, vf e) :: capt scope ρ) ifs elt us σ fun us' σ' => us' = us ++ out e ∧ σ' = σ) (fin : Q (.lst (xs.flatMap out)) σ)
    (hok : autoParam (compOK scope sc = true) Mine.sxR) (hfr : autoParam (freeIn scope ρ = true) Mine.sxR) (hx : autoParam (storableIn false (relS scope sc) x = true) Mine.sxR) (hρ : autoParam ((capt scope ρ).lookup x = none) Mine.sxR)
    (hset : autoParam (∀ env y, foldedSetIterable iter env y = pure y) Mine.sxI) : CX g k sc ρ (.ListComp elt [⟨.Name x px, iter, ifs, 0⟩] scope pos) scope iter.pos (newList []) iter σ Q := by
  have hfm : ∀ l : List α, (l.flatMap out).length ≤ l.length := fun l => by
    induction l with
    | nil => exact Nat.le_refl _
    | cons e l ih => have := h1 e; simp only [List.flatMap_cons, List.length_append, List.length_cons]; lia
  refine cx_list (P := fun vs us σ' => σ = σ' ∧ X2 fun dn rest => A3 (xs = dn ++ rest) (vs = rest.map vf) (us = dn.flatMap out)) ?_ ?_ ?_ hok hfr hx hρ hset
  · exact hIT.mono fun _ _ q => ⟨q.2.symm, [], xs, rfl, q.1, rfl⟩
  · rintro v rest us σ' ⟨rfl, dn, r, hxs, hv, rfl⟩
    cases r with
    | nil => cases hv
    | cons e r =>
      obtain ⟨rfl, rfl⟩ := List.cons.inj hv
      have := step e (by rw [hxs]; simp) (dn.flatMap out) (by have := hfm dn; have h3 := congrArg List.length hxs; simp at h3; have := sizeLine_eq; lia)
      refine LSTEP.mono this ?_
      rintro us' σ'' ⟨rfl, rfl⟩
      exact ⟨rfl, dn ++ [e], r, by rw [hxs]; simp, rfl, by simp⟩
  · rintro us σ' ⟨rfl, dn, r, hxs, hv, rfl⟩
    cases r with
    | cons => cases hv
    | nil => rw [List.append_nil] at hxs; subst hxs; exact fin
theorem cx_mapI {α : Type} {elt iter : Expr} {x : Str} {px pos : Pos} {ifs : List Expr} {scope : Scope} {Q : V → Sig → Prop} (xs : List α) (vf : α → V) (out : α → List Int)
    (hIT : IT g k sc ρ (.Name x px) iter σ fun vs σ₁ => vs = xs.map vf ∧ σ₁ = σ) (h1 : ∀ e, (out e).length ≤ 1) (hl : xs.length ≤ 100000)
    (step : ∀ e ∈ xs, ∀ us : List V, us.length ≤ sizeLine → LSTEP g k (relS scope sc) ((x, vf e) :: capt scope ρ) ifs elt us σ fun us' σ' => us' = us ++ (out e).map .int ∧ σ' = σ) (fin : Q (.lst ((xs.flatMap out).map .int)) σ)
    (hok : autoParam (compOK scope sc = true) Mine.sxR) (hfr : autoParam (freeIn scope ρ = true) Mine.sxR) (hx : autoParam (storableIn false (relS scope sc) x = true) Mine.sxR) (hρ : autoParam ((capt scope ρ).lookup x = none) Mine.sxR)
    (hset : autoParam (∀ env y, foldedSetIterable iter env y = pure y) Mine.sxI) : CX g k sc ρ (.ListComp elt [⟨.Name x px, iter, ifs, 0⟩] scope pos) scope iter.pos (newList []) iter σ Q :=
  cx_mapV xs vf (fun e => (out e).map .int) hIT (fun e => by rw [List.length_map]; exact h1 e) hl step (by rw [List.map_flatMap] at fin; exact fin) hok hfr hx hρ hset
end

section
variable {g : G} {k : Nat} {σ : Sig}
theorem cmp_is_none_b {a : V} {b : Bool} {Q : Bool → Sig → Prop} (e : a.isNone = b) (q : Q b σ) (h : ∀ v, a ≠ .cst v := by intro v e; cases e) : CMP g k .Is a .none σ Q := cmp_is_none (by rw [e]; exact q) h
theorem cmp_isnot_none_b {a : V} {b : Bool} {Q : Bool → Sig → Prop} (e : (!a.isNone) = b) (q : Q b σ) (h : ∀ v, a ≠ .cst v := by intro v e; cases e) : CMP g k .IsNot a .none σ Q := cmp_isnot_none (by rw [e]; exact q) h
end

section
variable {g : G} {k : Nat} {sc : Scope} {ρ : Rho} {σ : Sig} {N : Rho → Sig → Prop} {R : V → Sig → Prop}
/-- what is given back, frozen -/
theorem EX.frz {b : List Stmt} (h : EX g k sc ρ b σ (fun ρ' σ' => ∃ σ'', Sle σ'' σ' ∧ N ρ' σ'') (fun v σ' => X2 fun a m => A3 (v = .ref a) (σ' a = some m) (∃ σ'', Sle σ'' (σ'.del a) ∧ R m.toV σ''))) : EX g k sc ρ b σ N R := by
  intro F A D s hs hc Rm S E
  refine wpAny_mono (h F A D s hs hc Rm S E) (fun f s' w => ?_) fun _ _ e => e
  obtain ⟨D', σ', S', T', x⟩ := w
  cases f with
  | next => obtain ⟨ρ', E', σ'', hl, x⟩ := x; exact ⟨D', σ'', S'.forget hl, T'.forget hl, ρ', E', x⟩
  | ret c =>
    obtain ⟨v, r, a, m, rfl, hm, σ'', hl, x⟩ := x
    obtain ⟨o, ho, r2, hD, S2, T2⟩ := freeze S' hm fun _ _ => trivial
    cases r
    have T3 := T'.trans (T2.own (own' := F.md) fun _ q => q.elim)
    exact ⟨_, σ'', S2.forget hl, T3.forget hl, _, VR.of_or (Fz.put_self ..) (r2.mono (Fz.put_le hD)), x⟩
  | brk => exact x.elim
  | cont => exact x.elim
theorem Sle.del_new {σ σ' : Sig} {a : Addr} (ha : σ a = none) (h : ∀ b, b ≠ a → σ' b = σ b) : Sle σ (σ'.del a) := fun b m e => by
  have hb : b ≠ a := fun q => by rw [q, ha] at e; cases e
  rw [Sig.del_ne hb, h b hb]; exact e
end

section
variable {g : G} {k : Nat} {sc : Scope} {ρ : Rho} {σ : Sig} {N : Rho → Sig → Prop} {R : V → Sig → Prop}
/-- an if whose two ways meet again -/
theorem ex_ifJ {t : Expr} {b o : List Stmt} {pos : Pos} (J : Sig → Prop) (h : ∀ N' : Rho → Sig → Prop, (∀ ρ' σ'', Rle ρ ρ' → J σ'' → N' ρ' σ'') → TR g k sc ρ t σ (ifK g k sc ρ b o N' R))
    (n : ∀ σ', J σ' → N ρ σ') (hN : ∀ ρ ρ' σ, Rle ρ' ρ → N ρ' σ → N ρ σ := by intro _ _ _ r h; exact ex_forget h r fun _ _ h => h) : EX1 g k sc ρ (.If t b o pos) σ N R :=
  ex_if (h N fun ρ' σ'' r j => hN _ _ _ r (n _ j))
end

theorem ex_swap2 {g : G} {k : Nat} {sc : Scope} {ρ : Rho} {σ : Sig} {N : Rho → Sig → Prop} {R : V → Sig → Prop} {t value : Expr} {pos : Pos} {names : List Str} (hw : swappedStores [t] value (envS sc) = pure (some names)) (hk : (names.all fun x => storableIn true sc x) = true)
    (hs : swapsWithSole [t] value pos.line (envS sc) = pure false) (h : EV g k sc ρ value σ (swK names ρ N)) : EX1 g k sc ρ (.Assign [t] value pos) σ N R := ex_swap h hk hs hw
end Mine

end
section
set_option maxRecDepth 100000
set_option linter.unusedVariables false
namespace Mine
open PySem PySem.W PyProof.Rows PySem.Calls

/-- pure expressions, computed: each with what is to be done with its value -/
theorem nsome {α : Type} {a : α} {p : Prop} (h : Option.none = some a) : p := by cases h
section
variable {α : Type}
noncomputable def iK (a : V) (k : Int → Option α) : Option α := match a with
  | .int i => k i
  | _ => none
noncomputable def sK (a : V) (k : Str → Option α) : Option α := match a with
  | .str i => k i
  | _ => none
noncomputable def bK (a : V) (k : Bool → Option α) : Option α := match a with
  | .bool i => k i
  | _ => none
noncomputable def tK (a : V) (k : List V → Option α) : Option α := match a with
  | .tup i => k i
  | _ => none
noncomputable def nK (a : V) (k : Bool → Option α) : Option α := match a with
  | .none => k true
  | .cst _ => none
  | _ => k false
noncomputable def opK (op : Operator) (x y : Int) (k : V → Option α) : Option α := match op with
  | .Add => k (.int (x + y))
  | .Sub => k (.int (x - y))
  | .BitAnd => k (.int (Builtin.bitAnd x y))
  | _ => none
noncomputable def cmpI (op : CmpOp) (x y : Int) (k : Bool → Option α) : Option α := match op with
  | .Lt => k (decide (x < y))
  | .LtE => k (decide (x ≤ y))
  | .Gt => k (decide (y < x))
  | .GtE => k (decide (y ≤ x))
  | .Eq => k (decide (x = y))
  | .NotEq => k (decide (x ≠ y))
  | _ => none
noncomputable def cmpS (op : CmpOp) (x y : Str) (k : Bool → Option α) : Option α := match op with
  | .Eq => k (x == y)
  | .NotEq => k (x != y)
  | _ => none
noncomputable def cmpB (op : CmpOp) (x y : Bool) (k : Bool → Option α) : Option α := match op with
  | .Eq => k (x == y)
  | .NotEq => k (x != y)
  | _ => none
noncomputable def cmpN (op : CmpOp) (x : Bool) (k : Bool → Option α) : Option α := match op with
  | .Is => k x
  | .IsNot => k (!x)
  | _ => none
noncomputable def cmpK (op : CmpOp) (a b : V) (k : Bool → Option α) : Option α := match b with
  | .int y => iK a fun x => cmpI op x y k
  | .str y => sK a fun x => cmpS op x y k
  | .bool y => bK a fun x => cmpB op x y k
  | .none => nK a fun x => cmpN op x k
  | _ => none
noncomputable def oK {β : Type} (o : Option β) (k : β → Option α) : Option α := match o with
  | some v => k v
  | none => none
noncomputable def gK (p : Prop) [Decidable p] (k : Option α) : Option α := if p then k else none
noncomputable def itemK (vs : List V) (i : Int) (k : V → Option α) : Option α := oK (seqIndex? i vs.length) fun j => gK (-(2 ^ 63) ≤ i ∧ i < 2 ^ 63) (oK vs[j]? k)
noncomputable def cK (c : Const) (k : V → Option α) : Option α := match c with
  | .int i => k (.int i)
  | .str x => k (.str x)
  | .bool b => k (.bool b)
  | .none => k .none
  | _ => none
noncomputable def evKs (f : Expr → (V → Option α) → Option α) : List Expr → (List V → Option α) → Option α
  | [], k => k []
  | e :: es, k => f e fun v => evKs f es fun vs => k (v :: vs)
noncomputable def tupK (f : Expr → (V → Option α) → Option α) (es : List Expr) (k : List V → Option α) : Option α :=
  gK (noStar es = true) (evKs f es fun vs => gK (Nat.ble vs.length sizeLine = true) (k vs))
noncomputable def binK (f : Expr → (V → Option α) → Option α) (l : Expr) (op : Operator) (r : Expr) (k : V → Option α) : Option α :=
  f l fun a => f r fun b => iK a fun x => iK b fun y => opK op x y k
noncomputable def cmp1K (f : Expr → (V → Option α) → Option α) (l : Expr) (op : CmpOp) (r : Expr) (k : Bool → Option α) : Option α :=
  gK (behindInMarks op r = false) (f l fun a => f r fun b => cmpK op a b k)
noncomputable def cmpsK (f : Expr → (V → Option α) → Option α) (l : Expr) (ops : List CmpOp) (rs : List Expr) (k : V → Option α) : Option α := match ops with
  | [] => none
  | op :: ops => match ops with
    | [] => match rs with
      | [] => none
      | r :: rs => match rs with
        | [] => cmp1K f l op r fun t => k (.bool t)
        | _ :: _ => none
    | _ :: _ => none
noncomputable def lstK (f : Expr → (V → Option α) → Option α) (es : List Expr) (k : V → Option α) : Option α := match es with
  | [] => none
  | e :: es => tupK f (e :: es) fun vs => k (.lst vs)
noncomputable def subK (f : Expr → (V → Option α) → Option α) (o i : Expr) (k : V → Option α) : Option α :=
  gK (isSlice i = false) (f o fun a => f i fun b => tK a fun vs => iK b fun j => itemK vs j k)
noncomputable def unK (f : Expr → (V → Option α) → Option α) (e : Expr) (op : UnaryOp) (k : V → Option α) : Option α := match op with
  | .USub => f e fun a => iK a fun i => k (.int (-i))
  | _ => none
noncomputable def evK (n : Nat) (ρ : Rho) (e : Expr) (k : V → Option α) : Option α := match n with
  | 0 => none
  | n + 1 => match e with
    | .Name x _ => oK (ρ.lookup x) k
    | .Constant c _ _ => cK c k
    | .BinOp l op r _ => binK (evK n ρ) l op r k
    | .Compare l ops rs _ => cmpsK (evK n ρ) l ops rs k
    | .Tuple es _ _ => tupK (evK n ρ) es fun vs => k (.tup vs)
    | .List es _ => lstK (evK n ρ) es k
    | .Subscript o i _ => subK (evK n ρ) o i k
    | .UnaryOp op e _ => unK (evK n ρ) e op k
    | _ => none

variable {x : α}
theorem iK_s {k : Int → Option α} (a : V) : iK a k = some x → ∃ i, a = .int i ∧ k i = some x :=
  @V.casesOn (fun a => iK a k = some x → ∃ i, a = .int i ∧ k i = some x) a nsome (fun _ => nsome) (fun i h => ⟨i, rfl, h⟩) (fun _ => nsome) (fun _ => nsome) (fun _ => nsome) (fun _ => nsome) (fun _ => nsome) (fun _ => nsome) (fun _ => nsome) (fun _ => nsome) (fun _ _ => nsome) (fun _ _ => nsome) (fun _ => nsome) (fun _ _ => nsome)
theorem sK_s {k : Str → Option α} (a : V) : sK a k = some x → ∃ i, a = .str i ∧ k i = some x :=
  @V.casesOn (fun a => sK a k = some x → ∃ i, a = .str i ∧ k i = some x) a nsome (fun _ => nsome) (fun _ => nsome) (fun i h => ⟨i, rfl, h⟩) (fun _ => nsome) (fun _ => nsome) (fun _ => nsome) (fun _ => nsome) (fun _ => nsome) (fun _ => nsome) (fun _ => nsome) (fun _ _ => nsome) (fun _ _ => nsome) (fun _ => nsome) (fun _ _ => nsome)
theorem bK_s {k : Bool → Option α} (a : V) : bK a k = some x → ∃ i, a = .bool i ∧ k i = some x :=
  @V.casesOn (fun a => bK a k = some x → ∃ i, a = .bool i ∧ k i = some x) a nsome (fun i h => ⟨i, rfl, h⟩) (fun _ => nsome) (fun _ => nsome) (fun _ => nsome) (fun _ => nsome) (fun _ => nsome) (fun _ => nsome) (fun _ => nsome) (fun _ => nsome) (fun _ => nsome) (fun _ _ => nsome) (fun _ _ => nsome) (fun _ => nsome) (fun _ _ => nsome)
theorem tK_s {k : List V → Option α} (a : V) : tK a k = some x → ∃ i, a = .tup i ∧ k i = some x :=
  @V.casesOn (fun a => tK a k = some x → ∃ i, a = .tup i ∧ k i = some x) a nsome (fun _ => nsome) (fun _ => nsome) (fun _ => nsome) (fun _ => nsome) (fun _ => nsome) (fun i h => ⟨i, rfl, h⟩) (fun _ => nsome) (fun _ => nsome) (fun _ => nsome) (fun _ => nsome) (fun _ _ => nsome) (fun _ _ => nsome) (fun _ => nsome) (fun _ _ => nsome)
theorem nK_s {k : Bool → Option α} (a : V) : nK a k = some x → ∃ b, (a.isNone = b ∧ ∀ w, a ≠ .cst w) ∧ k b = some x :=
  have z : ∀ {a : V}, a.isNone = false → (∀ w, a ≠ .cst w) → k false = some x → ∃ b, (a.isNone = b ∧ ∀ w, a ≠ .cst w) ∧ k b = some x := fun h1 h2 h3 => ⟨_, ⟨h1, h2⟩, h3⟩
  @V.casesOn (fun a => nK a k = some x → ∃ b, (a.isNone = b ∧ ∀ w, a ≠ .cst w) ∧ k b = some x) a (fun h => ⟨_, ⟨rfl, fun _ e => V.noConfusion e⟩, h⟩) (fun _ => z rfl fun _ e => V.noConfusion e) (fun _ => z rfl fun _ e => V.noConfusion e) (fun _ => z rfl fun _ e => V.noConfusion e) (fun _ => z rfl fun _ e => V.noConfusion e) (fun _ => nsome)
    (fun _ => z rfl fun _ e => V.noConfusion e) (fun _ => z rfl fun _ e => V.noConfusion e) (fun _ => z rfl fun _ e => V.noConfusion e) (fun _ => z rfl fun _ e => V.noConfusion e) (fun _ => z rfl fun _ e => V.noConfusion e) (fun _ _ => z rfl fun _ e => V.noConfusion e) (fun _ _ => z rfl fun _ e => V.noConfusion e) (fun _ => z rfl fun _ e => V.noConfusion e) (fun _ _ => z rfl fun _ e => V.noConfusion e)
theorem oK_s {β : Type} {k : β → Option α} : ∀ (o : Option β), oK o k = some x → ∃ v, o = some v ∧ k v = some x
  | .some v, h => ⟨v, rfl, h⟩
  | .none, h => nsome h
theorem gK_s {p : Prop} [Decidable p] {k : Option α} (h : gK p k = some x) : p ∧ k = some x := by
  unfold gK at h
  by_cases hp : p
  · exact ⟨hp, by rwa [if_pos hp] at h⟩
  · rw [if_neg hp] at h; exact nsome h

section
variable {g : G} {k : Nat} {sc : Scope} {ρ : Rho} {σ : Sig} {N : Rho → Sig → Prop} {R : V → Sig → Prop}
theorem opK_s {op : Operator} {i j : Int} {f : V → Option α} (h : opK op i j f = some x) : ∃ v, f v = some x ∧ ∀ (σ : Sig) (Q : V → Sig → Prop), Q v σ → OP2 g k (binaryOp op) (.int i) (.int j) σ Q := by
  cases op <;> first
    | exact nsome h
    | exact ⟨_, h, fun σ Q => op_add⟩
    | exact ⟨_, h, fun σ Q => op_sub⟩
    | exact ⟨_, h, fun σ Q => op_and⟩
theorem cmpI_s {op : CmpOp} {i j : Int} {f : Bool → Option α} (h : cmpI op i j f = some x) : ∃ v, f v = some x ∧ ∀ (σ : Sig) (Q : Bool → Sig → Prop), Q v σ → CMP g k op (.int i) (.int j) σ Q := by
  cases op <;> first
    | exact nsome h
    | exact ⟨_, h, fun σ Q => cmp_eq⟩
    | exact ⟨_, h, fun σ Q => cmp_ne⟩
    | exact ⟨_, h, fun σ Q => cmp_lt⟩
    | exact ⟨_, h, fun σ Q => cmp_le⟩
    | exact ⟨_, h, fun σ Q => cmp_gt⟩
    | exact ⟨_, h, fun σ Q => cmp_ge⟩
theorem cmpS_s {op : CmpOp} {i j : Str} {f : Bool → Option α} (h : cmpS op i j f = some x) : ∃ v, f v = some x ∧ ∀ (σ : Sig) (Q : Bool → Sig → Prop), Q v σ → CMP g k op (.str i) (.str j) σ Q := by
  cases op <;> first
    | exact nsome h
    | exact ⟨_, h, fun σ Q => cmp_eq_str⟩
    | exact ⟨_, h, fun σ Q => cmp_ne_str⟩
theorem cmpB_s {op : CmpOp} {i j : Bool} {f : Bool → Option α} (h : cmpB op i j f = some x) : ∃ v, f v = some x ∧ ∀ (σ : Sig) (Q : Bool → Sig → Prop), Q v σ → CMP g k op (.bool i) (.bool j) σ Q := by
  cases op <;> first
    | exact nsome h
    | exact ⟨_, h, fun σ Q => cmp_eq_bool⟩
    | exact ⟨_, h, fun σ Q => cmp_ne_bool⟩
theorem cmpN_s {op : CmpOp} {a : V} {b : Bool} {f : Bool → Option α} (ha : a.isNone = b ∧ ∀ w, a ≠ .cst w) (h : cmpN op b f = some x) : ∃ v, f v = some x ∧ ∀ (σ : Sig) (Q : Bool → Sig → Prop), Q v σ → CMP g k op a .none σ Q := by
  cases op <;> first
    | exact nsome h
    | exact ⟨_, h, fun σ Q q => cmp_is_none_b ha.1 q ha.2⟩
    | exact ⟨_, h, fun σ Q q => cmp_isnot_none_b (congrArg _ ha.1) q ha.2⟩
theorem cmpK_s {op : CmpOp} {a b : V} {f : Bool → Option α} (h : cmpK op a b f = some x) : ∃ v, f v = some x ∧ ∀ (σ : Sig) (Q : Bool → Sig → Prop), Q v σ → CMP g k op a b σ Q := by
  cases b <;> first
    | exact nsome h
    | (obtain ⟨y, rfl, h⟩ := iK_s _ h; exact cmpI_s h)
    | (obtain ⟨y, rfl, h⟩ := sK_s _ h; exact cmpS_s h)
    | (obtain ⟨y, rfl, h⟩ := bK_s _ h; exact cmpB_s h)
    | (have h' : nK a (fun x => cmpN op x f) = some x := h
       obtain ⟨y, ha, h⟩ := nK_s _ h'; exact cmpN_s ha h)
theorem itemK_s {vs : List V} {i : Int} {f : V → Option α} (h : itemK vs i f = some x) : ∃ v, f v = some x ∧ ∀ (σ : Sig) (Q : V → Sig → Prop), Q v σ → ITEM g k (.tup vs) (.int i) σ Q := by
  obtain ⟨j, hj, h⟩ := oK_s _ h
  obtain ⟨hb, h⟩ := gK_s h
  obtain ⟨v, hv, h⟩ := oK_s _ h
  exact ⟨v, h, fun σ Q => item_tup hj hv hb⟩
/-- what a value's expression may be taken for -/
noncomputable def PE (g : G) (k : Nat) (sc : Scope) (ρ : Rho) (e : Expr) (v : V) : Prop := ∀ (σ : Sig) (Q : V → Sig → Prop), Q v σ → EV g k sc ρ e σ Q
noncomputable def PEs (g : G) (k : Nat) (sc : Scope) (ρ : Rho) (es : List Expr) (vs : List V) : Prop := ∀ (σ : Sig) (Q : List V → Sig → Prop), Q vs σ → EVS g k sc ρ es σ Q
theorem cK_s {c : Const} {n : Nat} {pos : Pos} {f : V → Option α} (h : cK c f = some x) : ∃ v, f v = some x ∧ PE g k sc ρ (.Constant c n pos) v := by
  cases c <;> first
    | exact nsome h
    | exact ⟨_, h, fun σ Q => ev_none⟩
    | exact ⟨_, h, fun σ Q => ev_bool⟩
    | exact ⟨_, h, fun σ Q => ev_int⟩
    | exact ⟨_, h, fun σ Q => ev_str⟩
variable {f : Expr → (V → Option α) → Option α} (hf : ∀ (e : Expr) (k' : V → Option α), f e k' = some x → ∃ v, k' v = some x ∧ PE g k sc ρ e v)
include hf
theorem evKs_s : ∀ (es : List Expr) (k' : List V → Option α), evKs f es k' = some x → ∃ vs, k' vs = some x ∧ PEs g k sc ρ es vs
  | [], k', h => ⟨[], h, fun σ Q => evs_nil⟩
  | e :: es, k', h => by
    obtain ⟨v, h, p⟩ := hf e _ h
    obtain ⟨vs, h, ps⟩ := evKs_s es _ h
    exact ⟨v :: vs, h, fun σ Q q => evs_cons (p σ _ (ps σ _ q))⟩
theorem tupK_s {es : List Expr} {k' : List V → Option α} (h : tupK f es k' = some x) : ∃ vs, k' vs = some x ∧ noStar es = true ∧ vs.length ≤ sizeLine ∧ PEs g k sc ρ es vs := by
  obtain ⟨hn, h⟩ := gK_s h
  obtain ⟨vs, h, p⟩ := evKs_s hf _ _ h
  obtain ⟨hz, h⟩ := gK_s h
  exact ⟨vs, h, hn, Nat.le_of_ble_eq_true hz, p⟩
theorem binK_s {l r : Expr} {op : Operator} {pos : Pos} {k' : V → Option α} (h : binK f l op r k' = some x) : ∃ v, k' v = some x ∧ PE g k sc ρ (.BinOp l op r pos) v := by
  obtain ⟨a, h, p⟩ := hf _ _ h
  obtain ⟨b, h, p'⟩ := hf _ _ h
  obtain ⟨i, ea, h⟩ := iK_s a h
  obtain ⟨j, eb, h⟩ := iK_s b h
  subst ea eb
  obtain ⟨v, h, q'⟩ := opK_s h
  exact ⟨v, h, fun σ Q q => ev_binop (p _ _ (p' _ _ (q' _ _ q)))⟩
theorem cmp1K_s {l r : Expr} {op : CmpOp} {k' : Bool → Option α} (h : cmp1K f l op r k' = some x) :
    ∃ v, k' v = some x ∧ behindInMarks op r = false ∧ ∀ (σ : Sig) (Q : Bool → Sig → Prop), Q v σ → EV g k sc ρ l σ fun a σ₁ => EV g k sc ρ r σ₁ fun b σ₂ => CMP g k op a b σ₂ Q := by
  obtain ⟨hm, h⟩ := gK_s h
  obtain ⟨a, h, p⟩ := hf _ _ h
  obtain ⟨b, h, p'⟩ := hf _ _ h
  obtain ⟨v, h, q'⟩ := cmpK_s h
  exact ⟨v, h, hm, fun σ Q q => p _ _ (p' _ _ (q' _ _ q))⟩
theorem cmpsK_s {l : Expr} {pos : Pos} {k' : V → Option α} : ∀ {ops : List CmpOp} {rs : List Expr}, cmpsK f l ops rs k' = some x → ∃ v, k' v = some x ∧ PE g k sc ρ (.Compare l ops rs pos) v
  | [], _, h => nsome h
  | _ :: _ :: _, _, h => nsome h
  | [_], [], h => nsome h
  | [_], _ :: _ :: _, h => nsome h
  | [op], [r], h => by
    obtain ⟨v, h, hm, p⟩ := cmp1K_s hf (k' := fun t => k' (.bool t)) h
    exact ⟨_, h, fun σ Q q => ev_cmp (p σ (fun t => Q (.bool t)) q) hm⟩
theorem lstK_s {pos : Pos} {k' : V → Option α} : ∀ {es : List Expr}, lstK f es k' = some x → ∃ v, k' v = some x ∧ PE g k sc ρ (.List es pos) v
  | [], h => nsome h
  | e :: es, h => by
    obtain ⟨vs, h, hn, hz, p⟩ := tupK_s hf (k' := fun vs => k' (.lst vs)) h
    exact ⟨_, h, fun σ Q q => ev_list (p σ _ ⟨hz, q⟩) hn⟩
theorem subK_s {o i : Expr} {pos : Pos} {k' : V → Option α} (h : subK f o i k' = some x) : ∃ v, k' v = some x ∧ PE g k sc ρ (.Subscript o i pos) v := by
  obtain ⟨hs, h⟩ := gK_s h
  obtain ⟨a, h, p⟩ := hf _ _ h
  obtain ⟨b, h, p'⟩ := hf _ _ h
  obtain ⟨vs, ea, h⟩ := tK_s a h
  obtain ⟨j, eb, h⟩ := iK_s b h
  subst ea eb
  obtain ⟨v, h, q'⟩ := itemK_s h
  exact ⟨v, h, fun σ Q q => ev_sub (p _ _ (p' _ _ (q' _ _ q))) hs⟩
theorem unK_s {e : Expr} {op : UnaryOp} {pos : Pos} {k' : V → Option α} (h : unK f e op k' = some x) : ∃ v, k' v = some x ∧ PE g k sc ρ (.UnaryOp op e pos) v := by
  cases op with
  | USub =>
    obtain ⟨a, h, p⟩ := hf _ _ h
    obtain ⟨i, ea, h⟩ := iK_s a h
    exact ⟨_, h, fun σ Q q => ev_neg (p _ _ ⟨ea, q⟩)⟩
  | _ => exact nsome h
omit hf
theorem evK_s : ∀ (n : Nat) (e : Expr) (k' : V → Option α), evK n ρ e k' = some x → ∃ v, k' v = some x ∧ PE g k sc ρ e v
  | 0, _, _, h => nsome h
  | n + 1, e, k', h => by
    have hf : ∀ (e : Expr) (k' : V → Option α), evK n ρ e k' = some x → ∃ v, k' v = some x ∧ PE g k sc ρ e v := evK_s n
    cases e with
    | Name x pos =>
      obtain ⟨v, hv, h⟩ := oK_s _ h
      exact ⟨v, h, fun σ Q => ev_name hv⟩
    | Constant c n pos => exact cK_s h
    | BinOp l op r pos => exact binK_s hf h
    | Compare l ops rs pos => exact cmpsK_s hf h
    | Tuple es n pos =>
      obtain ⟨vs, h, hn, hz, p⟩ := tupK_s hf (k' := fun vs => k' (.tup vs)) h
      exact ⟨_, h, fun σ Q q => ev_tuple (p σ _ ⟨hz, q⟩) hn⟩
    | List es pos => exact lstK_s hf h
    | Subscript o i pos => exact subK_s hf h
    | UnaryOp op e pos => exact unK_s hf h
    | _ => exact nsome h
end
end
section
variable {g : G} {k : Nat} {sc : Scope} {ρ : Rho} {σ : Sig} {N : Rho → Sig → Prop} {R : V → Sig → Prop}
theorem ev_pure {e : Expr} {v : V} {Q : V → Sig → Prop} (q : Q v σ) (h : autoParam (evK 20 ρ e some = some v) Mine.sxU) : EV g k sc ρ e σ Q := by
  obtain ⟨w, e, p⟩ := evK_s (g := g) (k := k) (sc := sc) 20 _ _ h
  cases e
  exact p σ Q q
theorem evs_pure {es : List Expr} {vs : List V} {Q : List V → Sig → Prop} (q : Q vs σ) (h : autoParam (evKs (evK 20 ρ) es some = some vs) Mine.sxU) : EVS g k sc ρ es σ Q := by
  obtain ⟨w, e, p⟩ := evKs_s (g := g) (k := k) (sc := sc) (evK_s 20) _ _ h
  cases e
  exact p σ Q q
theorem op_pure {op : Operator} {i j : Int} {v : V} {Q : V → Sig → Prop} (q : Q v σ) (h : autoParam (opK op i j some = some v) Mine.sxU) : OP2 g k (binaryOp op) (.int i) (.int j) σ Q := by
  obtain ⟨w, e, p⟩ := opK_s (g := g) (k := k) h
  cases e
  exact p σ Q q
theorem cmp_pure {op : CmpOp} {a b : V} {v : Bool} {Q : Bool → Sig → Prop} (q : Q v σ) (h : autoParam (cmpK op a b some = some v) Mine.sxU) : CMP g k op a b σ Q := by
  obtain ⟨w, e, p⟩ := cmpK_s (g := g) (k := k) h
  cases e
  exact p σ Q q
theorem tr_pureC {l r : Expr} {op : CmpOp} {pos : Pos} {b : Bool} {Q : Bool → Sig → Prop} (q : Q b σ) (h : autoParam (cmp1K (evK 20 ρ) l op r some = some b) Mine.sxU) : TR g k sc ρ (.Compare l [op] [r] pos) σ Q := by
  obtain ⟨w, e, hm, p⟩ := cmp1K_s (g := g) (k := k) (sc := sc) (evK_s 20) h
  cases e
  exact tr_cmp (p σ Q q) hm
theorem tr_pure {e : Expr} {b : Bool} {Q : Bool → Sig → Prop} (q : Q b σ) (h : evK 20 ρ e (fun v => bK v some) = some b) (he : ∀ env, isTrue e env (eval e env) = (eval e env >>= fun v => standAt e.pos >>= fun _ => holding [v] (truthy v))) : TR g k sc ρ e σ Q := by
  obtain ⟨w, h, p⟩ := evK_s (g := g) (k := k) (sc := sc) 20 _ _ h
  obtain ⟨c, e, h⟩ := bK_s w h
  cases h
  subst e
  exact tr_of (p σ _ (tru_bool q)) he
theorem tr_pureN {x : Str} {pos : Pos} {b : Bool} {Q : Bool → Sig → Prop} (q : Q b σ) (h : autoParam (evK 20 ρ (.Name x pos) (fun v => bK v some) = some b) Mine.sxU) : TR g k sc ρ (.Name x pos) σ Q := tr_pure q h fun _ => rfl
theorem tr_pureS {o i : Expr} {pos : Pos} {b : Bool} {Q : Bool → Sig → Prop} (q : Q b σ) (h : autoParam (evK 20 ρ (.Subscript o i pos) (fun v => bK v some) = some b) Mine.sxU) : TR g k sc ρ (.Subscript o i pos) σ Q := tr_pure q h fun _ => rfl
theorem tr_ofN {x : Str} {pos : Pos} {Q : Bool → Sig → Prop} (h : EV g k sc ρ (.Name x pos) σ (truK g k Q)) : TR g k sc ρ (.Name x pos) σ Q := tr_of h fun _ => rfl
theorem tr_ofS {o i : Expr} {pos : Pos} {Q : Bool → Sig → Prop} (h : EV g k sc ρ (.Subscript o i pos) σ (truK g k Q)) : TR g k sc ρ (.Subscript o i pos) σ Q := tr_of h fun _ => rfl
theorem tr_ofA {o : Expr} {x : Str} {pos : Pos} {Q : Bool → Sig → Prop} (h : EV g k sc ρ (.Attribute o x pos) σ (truK g k Q)) : TR g k sc ρ (.Attribute o x pos) σ Q := tr_of h fun _ => rfl
theorem tr_ofC {f : Expr} {es : List Expr} {ks : List Keyword} {pos : Pos} {Q : Bool → Sig → Prop} (h : EV g k sc ρ (.Call f es ks pos) σ (truK g k Q)) : TR g k sc ρ (.Call f es ks pos) σ Q := tr_of h fun _ => rfl
theorem ev_listC {e : Expr} {es : List Expr} {pos : Pos} {Q : V → Sig → Prop} (h : EVS g k sc ρ (e :: es) σ (lstQ Q)) (hn : autoParam (noStar (e :: es) = true) Mine.sxU) : EV g k sc ρ (.List (e :: es) pos) σ Q := ev_list h hn
theorem ev_listN {op : CmpOp} {a : V} {pos : Pos} {Q : Bool → Sig → Prop} (h : CMP g k op a (.lst []) σ Q) : EV g k sc ρ (.List [] pos) σ (cmpK2 g k op Q a) := ev_list (evs_nil ⟨Nat.zero_le _, h⟩)
theorem ex_set {x : Str} {px pos : Pos} {e : Expr} {ss : List Stmt} {v : V} (q : EX g k sc ((x, v) :: ρ) ss σ N R) (h : autoParam (evK 20 ρ e some = some v) Mine.sxU) (hk : autoParam (storableIn true sc x = true) Mine.sxU)
    (hs : autoParam (swapsWithSole [.Name x px] e pos.line (envS sc) = pure false) Mine.sxU) (hw : autoParam (swappedStores [.Name x px] e (envS sc) = pure none) Mine.sxU) : EX g k sc ρ (.Assign [.Name x px] e pos :: ss) σ N R :=
  ex_cons (ex_assign (ev_pure (asn_name hk q) h) hs hw)
theorem ex_ret {pos : Pos} {e : Expr} {ss : List Stmt} {v : V} (q : R v σ) (h : autoParam (evK 20 ρ e some = some v) Mine.sxU) : EX g k sc ρ (.Return (some e) pos :: ss) σ N R := ex_cons (ex_return (ev_pure q h))
theorem ex_swapT {ts es : List Expr} {n m : Nat} {p1 p2 pos : Pos} {names : List Str} (h : EV g k sc ρ (.Tuple es m p2) σ (swK names ρ N)) (hw : autoParam (swappedStores [.Tuple ts n p1] (.Tuple es m p2) (envS sc) = pure (some names)) Mine.sxU) (hk : autoParam ((names.all fun x => storableIn true sc x) = true) Mine.sxU)
    (hs : autoParam (swapsWithSole [.Tuple ts n p1] (.Tuple es m p2) pos.line (envS sc) = pure false) Mine.sxU) : EX1 g k sc ρ (.Assign [.Tuple ts n p1] (.Tuple es m p2) pos) σ N R := ex_swap2 hw hk hs h
theorem asn_nameA {fn : Bool} {x : Str} {pos : Pos} {v : V} (q : N ((x, v) :: ρ) σ) (hk : autoParam (storableIn fn sc x = true) Mine.sxU) : ASN g k fn sc ρ (.Name x pos) v σ N := asn_name hk q
theorem asn_tupA {fn : Bool} {ts : List Expr} {n : Nat} {pos : Pos} {v : V} {vs : List V} (h : ASNS g k fn sc ρ ts vs σ N) (hv : autoParam (vItems v = some vs) Mine.sxU) (hl : autoParam (vs.length = ts.length) Mine.sxU) (hn : autoParam (noStar ts = true) Mine.sxU) : ASN g k fn sc ρ (.Tuple ts n pos) v σ N := asn_tuple hv hl h hn
theorem item_tupA {v0 : V} {vs : List V} {i : Int} {j : Nat} {v : V} {Q : V → Sig → Prop} (q : Q v σ) (hj : autoParam (seqIndex? i (v0 :: vs).length = some j) Mine.sxU) (hv : autoParam ((v0 :: vs)[j]? = some v) Mine.sxU) (hb : autoParam (-(2 ^ 63) ≤ i ∧ i < 2 ^ 63) Mine.sxD) : ITEM g k (.tup (v0 :: vs)) (.int i) σ Q := item_tup hj hv hb q
theorem item_in4 {a b c d x : Int} {Q : Bool → Sig → Prop} (q : Q (decide (x ∈ [a, b, c, d])) σ) : CMP g k .In (.int x) (.tup [.int a, .int b, .int c, .int d]) σ Q := cmp_in_tup (ns := [a, b, c, d]) q
theorem cmp_eqN {ns : List Int} {Q : Bool → Sig → Prop} (q : Q (decide (ns = [])) σ) : CMP g k .Eq (.lst (ns.map .int)) (.lst []) σ Q := cmp_eq_ints (ms := []) .f .f q
theorem sw_ok {names : List Str} {v : V} {vs : List V} (q : N (namesRev names vs ρ) σ) (hv : autoParam (vItems v = some vs) Mine.sxU) (hl : autoParam (names.length = vs.length) Mine.sxU) : swK names ρ N v σ := ⟨vs, hv, hl, q⟩
theorem ev_callg (H : GK g) {x : Str} {px pos : Pos} {es : List Expr} {f : Addr} {Q : V → Sig → Prop} (hk : sc.names.lookup x = some .globalImplicit) (e : nsIn (KH g) mainGlobals x = some (some (.ref f))) (kp : keepIn (KH g) (.ref f) = true)
    (h : EVS g k sc ρ es σ (callQ g k (.ref f) Q)) (hd : autoParam ((x == ("__debug__" : Str)) = false) Mine.sxR) (hn : autoParam (noStar es = true) Mine.sxR) (hne : es ≠ [] := by intro h; cases h) : EV g k sc ρ (.Call (.Name x px) es [] pos) σ Q :=
  ev_call (ev_gname H hk e ⟨_, rfl, keep_fn H kp, h⟩ hd) hn hne
theorem ev_callb (H : GK g) {x : Str} {px pos : Pos} {es : List Expr} {c : Value} {Q : V → Sig → Prop} (hk : sc.names.lookup x = some .globalImplicit) (e : nsIn (KH g) mainGlobals x = some none) (b : bootBuiltins x = some c) (kp : KEEP g c)
    (h : EVS g k sc ρ es σ (callQ g k c Q)) (hd : autoParam ((x == ("__debug__" : Str)) = false) Mine.sxR) (hn0 : autoParam ((x == ("__name__" : Str)) = false) Mine.sxR) (hn : autoParam (noStar es = true) Mine.sxR) (hne : es ≠ [] := by intro h; cases h) : EV g k sc ρ (.Call (.Name x px) es [] pos) σ Q :=
  ev_call (ev_bname H hk e b ⟨_, rfl, kp, h⟩ (fun q => by rw [q] at hn0; cases hn0) hd) hn hne
theorem ev_attrF (H : GK g) {x y : Str} {px pos : Pos} {ov v : V} {C : Addr} {fs : List (Str × V)} {Q : V → Sig → Prop} (hx : ρ.lookup x = some ov) (hat : AT σ ov C fs) (hv : kget fs y = some v) (ho : ownAttrB (KH g) C y = true) (hc : (nK v some).isSome = true) (q : Q v σ) :
    EV g k sc ρ (.Attribute (.Name x px) y pos) σ Q :=
  ev_attr (ev_name hx ⟨C, fs, v, hat, hv, own_attr H ho, by obtain ⟨b, hb⟩ := Option.isSome_iff_exists.mp hc; obtain ⟨_, e, _⟩ := nK_s v hb; exact e.2, q⟩)
end
end Mine

end
section
set_option maxRecDepth 100000
set_option linter.unusedVariables false
namespace Mine
open PySem PySem.W PyProof.Rows PySem.Calls
section
variable {g : G} {k : Nat} {sc : Scope} {ρ : Rho} {σ : Sig} {N : Rho → Sig → Prop} {R : V → Sig → Prop} {α β : Type} {t iter : Expr} {body : List Stmt} {pos : Pos}
/-- loops over the values of a list: what is done, one item, what is left -/
theorem ex_forC (ρf : α → Rho) (C : List β → Prop) (F : β → V) (P : List β → α → Sig → Prop) (hi : IT g k sc ρ t iter σ fun vs σ₁ => X2 fun (L : List β) (x : α) => A4 (C L) (vs = L.map F) (Rle (ρf x) ρ) (P [] x σ₁))
    (step : ∀ dn e r x σ, C (dn ++ e :: r) → P dn x σ → ∀ N' : Rho → Sig → Prop, (∀ ρ' σ' y, Rle (ρf y) ρ' → P (dn ++ [e]) y σ' → N' ρ' σ') → ASN g k true sc (ρf x) t (F e) σ (exK g k sc body N' R)) (fin : ∀ L x σ, C L → P L x σ → N (ρf x) σ)
    (hN : ∀ ρ ρ' σ, Rle ρ' ρ → N ρ' σ → N ρ σ := by intro _ _ _ r h; exact ex_forget h r fun _ _ h => h) (hset : autoParam (∀ env x, foldedSetIterable iter env x = pure x) Mine.sxI) : EX1 g k sc ρ (.For t iter body [] pos) σ N R := by
  refine ex_forR ρf (fun vs x σ' => X2 fun dn r => A3 (C (dn ++ r)) (vs = r.map F) (P dn x σ')) (hi.mono fun vs σ' w => ?_) (fun v rest x σ' w N' hN' => ?_) (fun x σ' w => ?_) hN hset
  · obtain ⟨L, x, c, e, r, p⟩ := w
    exact ⟨x, r, [], L, c, e, p⟩
  · obtain ⟨dn, r, c, e, p⟩ := w
    cases r with
    | nil => cases e
    | cons b r =>
      cases e
      exact step dn b r x σ' c p N' fun ρ' σ' y q p => hN' ρ' σ' y q ⟨dn ++ [b], r, by rw [List.append_assoc]; exact c, rfl, p⟩
  · obtain ⟨dn, r, c, e, p⟩ := w
    cases r with
    | nil => rw [List.append_nil] at c; exact fin dn x σ' c p
    | cons b r => cases e
theorem ex_forL (ρf : α → Rho) (L : List β) (F : β → V) (P : List β → α → Sig → Prop) (hi : IT g k sc ρ t iter σ fun vs σ₁ => ∃ x, A3 (vs = L.map F) (Rle (ρf x) ρ) (P [] x σ₁))
    (step : ∀ dn e r x σ, L = dn ++ e :: r → P dn x σ → ∀ N' : Rho → Sig → Prop, (∀ ρ' σ' y, Rle (ρf y) ρ' → P (dn ++ [e]) y σ' → N' ρ' σ') → ASN g k true sc (ρf x) t (F e) σ (exK g k sc body N' R)) (fin : ∀ x σ, P L x σ → N (ρf x) σ)
    (hN : ∀ ρ ρ' σ, Rle ρ' ρ → N ρ' σ → N ρ σ := by intro _ _ _ r h; exact ex_forget h r fun _ _ h => h) (hset : autoParam (∀ env x, foldedSetIterable iter env x = pure x) Mine.sxI) : EX1 g k sc ρ (.For t iter body [] pos) σ N R :=
  ex_forC ρf (fun l => L = l) F P (hi.mono fun vs σ' ⟨x, e, r, p⟩ => ⟨L, x, rfl, e, r, p⟩) step (fun l x σ' e p => by subst e; exact fin x σ' p) hN hset
theorem ex_forP (ρf : α → Rho) (B : List β) (F : β → V) (P : List β → α → Sig → Prop) (hi : IT g k sc ρ t iter σ fun vs σ₁ => X2 fun (L : List β) (x : α) => A4 (L.Perm B) (vs = L.map F) (Rle (ρf x) ρ) (P [] x σ₁))
    (step : ∀ dn e r x σ, (dn ++ e :: r).Perm B → P dn x σ → ∀ N' : Rho → Sig → Prop, (∀ ρ' σ' y, Rle (ρf y) ρ' → P (dn ++ [e]) y σ' → N' ρ' σ') → ASN g k true sc (ρf x) t (F e) σ (exK g k sc body N' R)) (fin : ∀ L x σ, L.Perm B → P L x σ → N (ρf x) σ)
    (hN : ∀ ρ ρ' σ, Rle ρ' ρ → N ρ' σ → N ρ σ := by intro _ _ _ r h; exact ex_forget h r fun _ _ h => h) (hset : autoParam (∀ env x, foldedSetIterable iter env x = pure x) Mine.sxI) : EX1 g k sc ρ (.For t iter body [] pos) σ N R :=
  ex_forC ρf (fun l => l.Perm B) F P hi step fin hN hset
/-- for i, x in enumerate(..) -/
theorem ex_forE (ρf : α → Rho) (L : List β) (F : β → V) (P : List β → α → Sig → Prop) (hi : IT g k sc ρ t iter σ fun vs σ₁ => ∃ x, A3 (vs = enumV (L.map F) 0) (Rle (ρf x) ρ) (P [] x σ₁))
    (step : ∀ dn e r x σ, L = dn ++ e :: r → P dn x σ → ∀ N' : Rho → Sig → Prop, (∀ ρ' σ' y, Rle (ρf y) ρ' → P (dn ++ [e]) y σ' → N' ρ' σ') → ASN g k true sc (ρf x) t (.tup [.int (dn.length : Nat), F e]) σ (exK g k sc body N' R)) (fin : ∀ x σ, P L x σ → N (ρf x) σ)
    (hN : ∀ ρ ρ' σ, Rle ρ' ρ → N ρ' σ → N ρ σ := by intro _ _ _ r h; exact ex_forget h r fun _ _ h => h) (hset : autoParam (∀ env x, foldedSetIterable iter env x = pure x) Mine.sxI) : EX1 g k sc ρ (.For t iter body [] pos) σ N R := by
  refine ex_forR ρf (fun vs x σ' => X2 fun dn r => A3 (L = dn ++ r) (vs = enumV (r.map F) dn.length) (P dn x σ')) (hi.mono fun vs σ' w => ?_) (fun v rest x σ' w N' hN' => ?_) (fun x σ' w => ?_) hN hset
  · obtain ⟨x, e, r, p⟩ := w
    exact ⟨x, r, [], L, rfl, e, p⟩
  · obtain ⟨dn, r, c, e, p⟩ := w
    cases r with
    | nil => cases e
    | cons b r =>
      cases e
      exact step dn b r x σ' c p N' fun ρ' σ' y q p => hN' ρ' σ' y q ⟨dn ++ [b], r, by rw [List.append_assoc]; exact c, by rw [List.length_append]; rfl, p⟩
  · obtain ⟨dn, r, c, e, p⟩ := w
    cases r with
    | nil => rw [List.append_nil] at c; subst c; exact fin x σ' p
    | cons b r => cases e
theorem ex_forES {rest : List Stmt} (ρf : α → Rho) (L : List β) (F : β → V) (P : List β → α → Sig → Prop) (hi : IT g k sc ρ t iter σ fun vs σ₁ => ∃ x, A3 (vs = enumV (L.map F) 0) (Rle (ρf x) ρ) (P [] x σ₁))
    (step : ∀ dn e r x σ, L = dn ++ e :: r → P dn x σ → ∀ N' : Rho → Sig → Prop, (∀ ρ' σ' y, Rle (ρf y) ρ' → P (dn ++ [e]) y σ' → N' ρ' σ') → ASN g k true sc (ρf x) t (.tup [.int (dn.length : Nat), F e]) σ (exK g k sc body N' R)) (fin : ∀ x σ, P L x σ → EX g k sc (ρf x) rest σ N R)
    (hset : autoParam (∀ env x, foldedSetIterable iter env x = pure x) Mine.sxI) : EX g k sc ρ (.For t iter body [] pos :: rest) σ N R :=
  ex_cons (ex_forE (N := exK g k sc rest N R) ρf L F P hi step fin (fun _ _ _ r h => ex_forget h r (Sle.refl _)) hset)
theorem ex_forLS {rest : List Stmt} (ρf : α → Rho) (L : List β) (F : β → V) (P : List β → α → Sig → Prop) (hi : IT g k sc ρ t iter σ fun vs σ₁ => ∃ x, A3 (vs = L.map F) (Rle (ρf x) ρ) (P [] x σ₁))
    (step : ∀ dn e r x σ, L = dn ++ e :: r → P dn x σ → ∀ N' : Rho → Sig → Prop, (∀ ρ' σ' y, Rle (ρf y) ρ' → P (dn ++ [e]) y σ' → N' ρ' σ') → ASN g k true sc (ρf x) t (F e) σ (exK g k sc body N' R)) (fin : ∀ x σ, P L x σ → EX g k sc (ρf x) rest σ N R)
    (hset : autoParam (∀ env x, foldedSetIterable iter env x = pure x) Mine.sxI) : EX g k sc ρ (.For t iter body [] pos :: rest) σ N R :=
  ex_cons (ex_forL (N := exK g k sc rest N R) ρf L F P hi step fin (fun _ _ _ r h => ex_forget h r (Sle.refl _)) hset)
end
section
variable {g : G} {k : Nat} {sc : Scope} {ρ : Rho} {σ : Sig} {Q : V → Sig → Prop} {β γ : Type} {iter : Expr} {x : Str} {px pos : Pos} {scope : Scope}
/-- a dict comprehension over the values of a list that turns nothing -/
theorem cx_dictL {kx vx : Expr} {ifs : List Expr} (L : List β) (F : β → V) (P : List β → List (Int × V) → Prop) (hIT : IT g k sc ρ (.Name x px) iter σ fun vs σ₁ => vs = L.map F ∧ σ₁ = σ) (h0 : P [] [])
    (step : ∀ dn e r us, L = dn ++ e :: r → P dn us → ∀ Q' : List (Int × V) → Sig → Prop, (∀ us', P (dn ++ [e]) us' → Q' us' σ) → DSTEP g k (relS scope sc) ((x, F e) :: capt scope ρ) ifs kx vx us σ Q') (fin : ∀ us, P L us → Q (.dI us) σ)
    (hok : compOK scope sc = true) (hfr : freeIn scope ρ = true) (hx : storableIn false (relS scope sc) x = true) (hρ : (capt scope ρ).lookup x = none)
    (hset : autoParam (∀ env y, foldedSetIterable iter env y = pure y) Mine.sxI) : CX g k sc ρ (.DictComp kx vx [⟨.Name x px, iter, ifs, 0⟩] scope pos) scope iter.pos newDict iter σ Q := by
  refine cx_dictI (P := fun vs us σ' => X2 fun dn r => A4 (L = dn ++ r) (vs = r.map F) (P dn us) (σ = σ')) (hIT.mono fun vs σ' w => ?_) (fun v rest us σ' w => ?_) (fun us σ' w => ?_) hok hfr hx hρ hset
  · exact ⟨[], L, rfl, w.1, h0, w.2.symm⟩
  · obtain ⟨dn, r, e, m, p, rfl⟩ := w
    cases r with
    | nil => cases m
    | cons b r =>
      cases m
      exact step dn b r us e p _ fun us' q => ⟨dn ++ [b], r, by rw [List.append_assoc]; exact e, rfl, q, rfl⟩
  · obtain ⟨dn, r, e, m, p, rfl⟩ := w
    cases r with
    | nil => rw [List.append_nil] at e; subst e; exact fin us p
    | cons b r => cases m
inductive CF1 (L : List β) (F : β → V) (ys : β → List γ) (H : γ → V) (σ : Sig) (vs us : List V) (σ' : Sig) : Prop
  | mk (dn r : List β) : L = dn ++ r → vs = r.map F → us = (dn.flatMap ys).map H → σ = σ' → CF1 L F ys H σ vs us σ'
inductive CF2 (L : List β) (F : β → V) (ys : β → List γ) (H : γ → V) (σ : Sig) (v : V) (rest ws us : List V) (σ' : Sig) : Prop
  | mk (dn : List β) (e : β) (r : List β) (ed er : List γ) : L = dn ++ e :: r → v = F e → rest = r.map F → ys e = ed ++ er → ws = er.map H → us = (dn.flatMap ys ++ ed).map H → σ = σ' → CF2 L F ys H σ v rest ws us σ'
/-- [y for x in .. for y in ..] -/
theorem cx_flat {elt iter2 : Expr} {y : Str} {py : Pos} (L : List β) (F : β → V) (ys : β → List γ) (H : γ → V) (hIT : IT g k sc ρ (.Name x px) iter σ fun vs σ₁ => vs = L.map F ∧ σ₁ = σ)
    (step : ∀ e ∈ L, IT g k (relS scope sc) ((x, F e) :: capt scope ρ) (.Name y py) iter2 σ fun ws σ₁ => ws = (ys e).map H ∧ σ₁ = σ)
    (step2 : ∀ e c (Q' : V → Sig → Prop), Q' (H c) σ → EV g k (relS scope sc) ((y, H c) :: (x, F e) :: capt scope ρ) elt σ Q') (hl : (L.flatMap ys).length ≤ 100000) (fin : Q (.lst ((L.flatMap ys).map H)) σ)
    (hok : compOK scope sc = true) (hfr : freeIn scope ρ = true) (hx : storableIn false (relS scope sc) x = true) (hy : storableIn false (relS scope sc) y = true) (hρ : (capt scope ρ).lookup x = none) (hρ2 : (capt scope ρ).lookup y = none) (hxy : x ≠ y)
    (hset : autoParam (∀ env y, foldedSetIterable iter env y = pure y) Mine.sxI) (hset2 : autoParam (∀ env y, foldedSetIterable iter2 env y = pure y) Mine.sxI) :
    CX g k sc ρ (.ListComp elt [⟨.Name x px, iter, [], 0⟩, ⟨.Name y py, iter2, [], 0⟩] scope pos) scope iter.pos (newList []) iter σ Q := by
  have hs := sizeLine_eq
  refine cx_list2 (P := CF1 L F ys H σ) (P2 := CF2 L F ys H σ)
    (hIT.mono fun vs σ' w => ?_) (fun v rest us σ' w => ?_) (fun v rest w ws us σ' w => ?_) (fun v rest us σ' w => ?_) (fun us σ' w => ?_) hok hfr hx hy hρ hρ2 hxy hset hset2
  · exact ⟨[], L, rfl, w.1, rfl, w.2.symm⟩
  · obtain ⟨dn, r, e, m, rfl, rfl⟩ := w
    cases r with
    | nil => cases m
    | cons b r =>
      cases m
      exact (step b (by rw [e]; exact List.mem_append.mpr (.inr (.head _)))).mono fun ws σ' w => ⟨dn, b, r, [], ys b, e, rfl, rfl, rfl, w.1, by rw [List.append_nil], w.2.symm⟩
  · obtain ⟨dn, e, r, ed, er, h1, rfl, rfl, h2, m, rfl, rfl⟩ := w
    cases er with
    | nil => cases m
    | cons c er =>
      cases m
      have hz : (dn.flatMap ys ++ ed).length ≤ sizeLine := by
        rw [h1, List.flatMap_append, List.flatMap_cons, h2] at hl
        simp only [List.length_append] at hl ⊢
        lia
      exact step2 e c _ ⟨by rw [List.length_map]; exact hz, dn, e, r, ed ++ [c], er, h1, rfl, rfl, by rw [List.append_assoc]; exact h2, rfl, by rw [← List.append_assoc, List.map_append (l₁ := dn.flatMap ys ++ ed)]; rfl, rfl⟩
  · obtain ⟨dn, e, r, ed, er, h1, rfl, rfl, h2, m, rfl, rfl⟩ := w
    cases er with
    | nil => exact ⟨dn ++ [e], r, by rw [List.append_assoc]; exact h1, rfl, by rw [List.flatMap_append, List.flatMap_singleton, h2, List.append_nil], rfl⟩
    | cons c er => cases m
  · obtain ⟨dn, r, e, m, rfl, rfl⟩ := w
    cases r with
    | nil => rw [List.append_nil] at e; subst e; exact fin
    | cons b r => cases m
end
section
variable {g : G} {k : Nat} {sc : Scope} {ρ : Rho} {σ : Sig} {N : Rho → Sig → Prop} {R : V → Sig → Prop} {Q : V → Sig → Prop}
-- rules for the driver: what is to be shown beside is shown by default
theorem m_len {vs : List V} (q : Q (.int vs.length) σ) (h : (vs.length : Int) < 2 ^ 63 := by (try simp only [List.length_map]); lia) : CALL g k (.builtin "len") [.lst vs] σ Q := c_len .f h q
theorem m_lenT {vs : List V} (q : Q (.int vs.length) σ) (h : (vs.length : Int) < 2 ^ 63 := by (try simp only [List.length_map]); lia) : CALL g k (.builtin "len") [.tup vs] σ Q := c_len_tup h q
theorem m_list {vs : List V} (q : Q (.lst vs) σ) (h : vs.length ≤ sizeLine := by have := sizeLine_eq; (try simp only [List.length_map]); lia) : CALL g k (.type "list") [.lst vs] σ Q := c_list .f h q
theorem m_mul {a b : Int} (q : Q (.int (a * b)) σ) (h : (-(2 ^ 64) < a ∧ a < 2 ^ 64) ∨ (-(2 ^ 64) < b ∧ b < 2 ^ 64) := by lia) : OP2 g k (binaryOp .Mult) (.int a) (.int b) σ Q := op_mul q h
theorem m_shr {a b : Int} (q : Q (.int (a.fdiv (2 ^ b.toNat))) σ) (h : autoParam (0 ≤ b) Mine.sxD) : OP2 g k (binaryOp .RShift) (.int a) (.int b) σ Q := op_shr q h
theorem m_and {vs : List V} {p : Prop} (q : p) (h : autoParam (Nat.ble vs.length sizeLine = true) Mine.sxU) : vs.length ≤ sizeLine ∧ p := ⟨Nat.le_of_ble_eq_true h, q⟩
theorem m_callg {x : Str} {px pos : Pos} {e : Expr} {es : List Expr} {f : Addr} (h : EVS g k sc ρ (e :: es) σ (callQ g k (.ref f) Q)) (H : autoParam (GK g) Mine.sxA) (hk : autoParam (sc.names.lookup x = some .globalImplicit) Mine.sxU)
    (e1 : autoParam (nsIn (KH g) mainGlobals x = some (some (.ref f))) Mine.sxU) (kp : autoParam (keepIn (KH g) (.ref f) = true) Mine.sxK) (hd : autoParam ((x == ("__debug__" : Str)) = false) Mine.sxU) (hn : autoParam (noStar (e :: es) = true) Mine.sxU) :
    EV g k sc ρ (.Call (.Name x px) (e :: es) [] pos) σ Q := ev_callg H hk e1 kp h hd hn
theorem m_callb {x : Str} {px pos : Pos} {e : Expr} {es : List Expr} {id : String} (h : EVS g k sc ρ (e :: es) σ (callQ g k (.builtin id) Q)) (H : autoParam (GK g) Mine.sxA) (hk : autoParam (sc.names.lookup x = some .globalImplicit) Mine.sxU)
    (e1 : autoParam (nsIn (KH g) mainGlobals x = some none) Mine.sxK) (b : autoParam (bootBuiltins x = some (.builtin id)) Mine.sxU) (hd : autoParam ((x == ("__debug__" : Str)) = false) Mine.sxU) (hn0 : autoParam ((x == ("__name__" : Str)) = false) Mine.sxU) (hn : autoParam (noStar (e :: es) = true) Mine.sxU) :
    EV g k sc ρ (.Call (.Name x px) (e :: es) [] pos) σ Q := ev_callb H hk e1 b keep_builtin h hd hn0 hn
theorem m_callt {x : Str} {px pos : Pos} {e : Expr} {es : List Expr} {id : String} (h : EVS g k sc ρ (e :: es) σ (callQ g k (.type id) Q)) (H : autoParam (GK g) Mine.sxA) (hk : autoParam (sc.names.lookup x = some .globalImplicit) Mine.sxU)
    (e1 : autoParam (nsIn (KH g) mainGlobals x = some none) Mine.sxK) (b : autoParam (bootBuiltins x = some (.type id)) Mine.sxU) (hd : autoParam ((x == ("__debug__" : Str)) = false) Mine.sxU) (hn0 : autoParam ((x == ("__name__" : Str)) = false) Mine.sxU) (hn : autoParam (noStar (e :: es) = true) Mine.sxU) :
    EV g k sc ρ (.Call (.Name x px) (e :: es) [] pos) σ Q := ev_callb H hk e1 b keep_type h hd hn0 hn
theorem m_attr {x y : Str} {px pos : Pos} {ov v : V} {C : Addr} {fs : List (Str × V)} (q : Q v σ) (H : autoParam (GK g) Mine.sxA) (hx : autoParam (ρ.lookup x = some ov) Mine.sxU) (hat : AT σ ov C fs := by first | exact .f | exact .m (by first | assumption | exact Sig.set_self ..))
    (hv : autoParam (kget fs y = some v) Mine.sxU) (ho : autoParam (ownAttrB (KH g) C y = true) Mine.sxK) (hc : autoParam ((nK v some).isSome = true) Mine.sxU) : EV g k sc ρ (.Attribute (.Name x px) y pos) σ Q := ev_attrF H hx hat hv ho hc q
theorem m_gint {x : Str} {pos : Pos} {i : Int} {t : Tok} (q : Q (.int i) σ) (H : autoParam (GK g) Mine.sxA) (hk : autoParam (sc.names.lookup x = some .globalImplicit) Mine.sxU) (e : autoParam (nsIn (KH g) mainGlobals x = some (some (.int i t))) Mine.sxU) (hd : autoParam ((x == ("__debug__" : Str)) = false) Mine.sxU) :
    EV g k sc ρ (.Name x pos) σ Q := ev_gint H hk e q hd
theorem m_append {x : Str} {p1 p2 p3 p4 : Pos} {e : Expr} {a : Addr} {vs0 : List V} (h : EV g k sc ρ e σ (apK a ρ N)) (hx : autoParam (ρ.lookup x = some (.ref a)) Mine.sxU) (ha : σ a = some (.list vs0) := by first | exact Sig.set_self .. | assumption)
    (hs : autoParam (swapsWith (.Call (.Attribute (.Name x p1) "append" p2) [e] [] p3) none p4.line (envS sc) = pure false) Mine.sxU) (hn : autoParam (noStar [e] = true) Mine.sxU) (hp : autoParam (p2.endLine = p3.line) Mine.sxU) :
    EX1 g k sc ρ (.Expr (.Call (.Attribute (.Name x p1) (Str.ofString "append") p2) [e] [] p3) p4) σ N R := ex_append hx ha h hs hn hp
theorem m_extend {x : Str} {p1 p2 p3 p4 : Pos} {e : Expr} {a : Addr} {vs0 : List V} (h : EV g k sc ρ e σ (extK a ρ N)) (hx : autoParam (ρ.lookup x = some (.ref a)) Mine.sxU) (ha : σ a = some (.list vs0) := by first | exact Sig.set_self .. | assumption)
    (hs : autoParam (swapsWith (.Call (.Attribute (.Name x p1) "extend" p2) [e] [] p3) none p4.line (envS sc) = pure false) Mine.sxU) (hn : autoParam (noStar [e] = true) Mine.sxU) (hp : autoParam (p2.endLine = p3.line) Mine.sxU) :
    EX1 g k sc ρ (.Expr (.Call (.Attribute (.Name x p1) (Str.ofString "extend") p2) [e] [] p3) p4) σ N R := ex_extend hx ha h hs hn hp
theorem m_asa {x y : Str} {px pos : Pos} {fn : Bool} {v : V} {C dx : Addr} {fs : List (Str × V)} (q : N ρ (σ.set dx (.dS (kput fs y v)))) (H : autoParam (GK g) Mine.sxA) (hx : autoParam (ρ.lookup x = some (.inst C dx)) Mine.sxU) (ha : σ dx = some (.dS fs) := by first | assumption | exact Sig.set_self ..)
    (h1 : autoParam (findIn (KH g) (.ref C) "__setattr__" = some (some (.builtin "object.__setattr__"))) Mine.sxK) (h2 : autoParam (plainOver (KH g) C = true) Mine.sxK) (h3 : autoParam (takerIn (KH g) C y = some none) Mine.sxK) (h4 : autoParam ((clsIn (KH g) C).any (·.hasDict) = true) Mine.sxK)
    (hz : autoParam (Nat.ble fs.length 900 = true) Mine.sxU) : ASN g k fn sc ρ (.Attribute (.Name x px) y pos) v σ N :=
  asn_attr (ev_name hx ⟨_, _, _, rfl, ha, settable_of H h1 h2 h3 h4, Nat.le_of_ble_eq_true hz, q⟩)
end
end Mine

end
set_option maxRecDepth 100000
set_option linter.unusedVariables false
set_option maxHeartbeats 4000000
set_option compiler.extract_closed false
namespace Mine
open PySem PySem.W PyProof.Rows PySem.Calls
local macro_rules
  | `(tactic| bv_omega) => `(tactic| first
      | (with_reducible assumption)
      | ((with_reducible refine Nat.le_trans (by with_reducible assumption) ?_); exact Nat.le_of_ble_eq_true rfl)
      | (with_reducible exact Int.natCast_nonneg _)
      | lia
      | omega)
-- entering, stepping
local macro_rules
  | `(tactic| walk_at "fnT") => `(tactic| (
      case h => rfl
      case hb => (dsimp only; try rfl)
      case e => rfl
      case hc => kernel_rfl
      case hn => (dsimp only [List.map]; try rfl)
      case kd => rfl
      case nd => decide
      case hsc => (dsimp only; try rfl)
      case hρ => (simp only [List.zip_cons_cons, List.zip_nil_left, List.nil_append, List.cons_append, List.append_nil, List.zip_nil_right]; try rfl)
      case bind =>
        intro s X
        repeat refine allS fun _ => ?_
        refine all0 ?_
        first | exact BindsTo.of_eq rfl | exact binds_K X rfl rfl rfl rfl rfl))
  | `(tactic| walk_at "fn0") => `(tactic| (apply enter0 (by assumption); walk_at "fnT"))
  | `(tactic| walk_at "x") => `(tactic| repeat' ((fail_if_success (with_reducible show EX _ _ _ _ _ _ _ _)); walk_at "m"))
  | `(tactic| walk_at "rle") => `(tactic| exact rle_of rfl)
local macro_rules
  | `(tactic| walk_at "m") => do
    let mk (s : String) : Lean.MacroM (Lean.TSyntax ``Lean.Parser.Tactic.tacticSeq) := do
      match s.splitOn " " with
      | c :: n :: l =>
        let rs ← l.toArray.mapM fun r => `(Lean.Parser.Tactic.tacticSeq| refine $(Lean.mkIdent (.mkSimple r)) ?_)
        let hs : Array (Lean.TSyntax `term) := (Array.range n.toNat!).map fun _ => ⟨Lean.mkHole .missing⟩
        let t ← `($(Lean.mkIdent (.mkSimple c)) $hs*)
        `(Lean.Parser.Tactic.tacticSeq| (fail_if_success (fail_if_success show $t)); first $[| $rs]*)
      | _ => Lean.Macro.throwUnsupported
    let gs ← ("EV 7 ev_pure ev_binop ev_cmp ev_cmp2 ev_or ev_and ev_ifexp ev_tuple ev_listC ev_listN m_callg m_callb m_callt m_attr m_gint ev_sub/EX 8 ex_nil ex_set ex_ret ex_cons/EX1 8 ex_return ex_if ex_swapT ex_assign m_append m_extend/TR 7 tr_pureC tr_pureN tr_pureS tr_cmp tr_cmp2 tr_not tr_and tr_or tr_and3 tr_or3 tr_ofN tr_ofA tr_ofC tr_ofS/EVS 7 evs_pure evs_cons/ASN 9 asn_sub asn_tupA asn_nameA m_asa/ASNS 9 asns_nil asns_cons/CALL 6 m_len m_lenT m_list c_range1 c_range2 c_min2 c_max2/CMP 7 cmp_eqN item_in4 cmp_pure/OP2 7 op_pure m_mul m_shr/ITEM 6 item_tupA/TRU 5 tru_bool".splitOn "/").toArray.mapM mk
    `(tactic| first
      | (with_reducible first $[| $gs]* | refine sw_ok ?_ | refine m_and ?_ | refine brT ?_ | refine brF ?_)
      | (refine brd (fun hb => ?_) (fun hb => ?_))
      | ((with_reducible show if _ then _ else _); refine br (fun hb => ?_) (fun hb => ?_)))
section
section
variable {g : G} {k : Nat} {σ : Sig} {Q : V → Sig → Prop}
/-- whether a third is of an upper kind -/
noncomputable def upperB (kind : Int) : Bool := decide (8 ≤ kind ∧ kind ≤ 12 ∨ kind ∈ ([14, 17, 18, 29] : List Int))
theorem c_upper (H : GK g) {third spread : Int} (h0 : spread ≠ 0) (h1 : spread.natAbs < 1073741824) (q : Q (.bool (upperB (third.fdiv spread))) σ) : CALLC g (k + 1) (.ref 74) [.int third, .int spread] σ Q := by
  walk_at "fn0"
  case body =>
    refine ex_cons (ex_assign (ev_binop (ev_name rfl (ev_name rfl (op_div ?_ h0 h1)))))
    repeat' walk_at "m"
    all_goals unfold upperB at q
    · rename_i c1 c2
      rw [decide_eq_true (Or.inl ⟨c1, c2⟩)] at q; rw [decide_eq_true c2]; exact q
    all_goals (rw [decide_eq_decide.mpr (or_iff_right (by bv_omega))] at q; exact q)
noncomputable def sgnL : List Int → List Int → Int
  | [], [] => 0
  | [], _ :: _ => -1
  | _ :: _, [] => 1
  | a :: as, b :: bs => if a = b then sgnL as bs else if a < b then -1 else 1
theorem sgnL_drop {ns ms : List Int} {i : Nat} (h1 : i < ns.length) (h2 : i < ms.length) : sgnL (ns.drop i) (ms.drop i) = if ns[i] = ms[i] then sgnL (ns.drop (i + 1)) (ms.drop (i + 1)) else if ns[i] < ms[i] then -1 else 1 := by
  rw [List.drop_eq_getElem_cons h1, List.drop_eq_getElem_cons h2]; rfl
theorem sgnL_end {ns ms : List Int} {i : Nat} (h : min ns.length ms.length ≤ i) (hi : i ≤ min ns.length ms.length) : sgnL (ns.drop i) (ms.drop i) = if ns.length = ms.length then 0 else if ns.length < ms.length then -1 else 1 := by
  by_cases a : ns.length ≤ i
  · rw [List.drop_eq_nil_of_le a]
    by_cases b : ms.length ≤ i
    · rw [List.drop_eq_nil_of_le b, if_pos (by bv_omega)]; rfl
    · rw [List.drop_eq_getElem_cons (by bv_omega), if_neg (by bv_omega), if_pos (by bv_omega)]; rfl
  · rw [List.drop_eq_getElem_cons (l := ns) (by bv_omega), List.drop_eq_nil_of_le (as := ms) (by bv_omega), if_neg (by bv_omega), if_neg (by bv_omega)]; rfl
theorem c_compare_lists (H : GK g) {ns ms : List Int} (h1 : ns.length ≤ 1000000) (h2 : ms.length ≤ 1000000) (q : Q (.int (sgnL ns ms)) σ) : CALLC g (k + 1) (.ref 159) [.lst (ns.map .int), .lst (ms.map .int)] σ Q := by
  walk_at "fn0"
  case body =>
    refine ex_cons (ex_for (P := fun vs ρ σ' => σ' = σ ∧ Rle [("one", .lst (ns.map .int)), ("other", .lst (ms.map .int))] ρ ∧ ∃ i : Nat, A3 (vs = rangeV i (min ns.length ms.length : Nat)) (i ≤ min ns.length ms.length) (sgnL ns ms = sgnL (ns.drop i) (ms.drop i))) ?_ ?_ ?_)
    · refine it_of ?_
      repeat' walk_at "m"
      · rw [List.length_map, List.length_map]
        refine ⟨_, itv_rng (by bv_omega) (by split <;> bv_omega), rfl, Rle.refl _, 0, ?_, by bv_omega, by simp⟩
        congr 1
        split <;> bv_omega
    · intro v rest ρ σ' P
      obtain ⟨e, r, i, hv, hi, hs⟩ := P
      subst e
      obtain ⟨e, hlt, hr⟩ := rangeV_cons hv
      subst e
      have g1 : i < ns.length := by bv_omega
      have g2 : i < ms.length := by bv_omega
      have t1 : (ns.map V.int)[(i : Int).toNat]? = some (.int ns[i]) := by rw [Int.toNat_natCast]; exact ints_get g1
      have t2 : (ms.map V.int)[(i : Int).toNat]? = some (.int ms[i]) := by rw [Int.toNat_natCast]; exact ints_get g2
      refine asn_forget ?_ r
      repeat' first | walk_at "m" | refine item_list .f (Int.natCast_nonneg i) t1 (by bv_omega) ?_ | refine item_list .f (Int.natCast_nonneg i) t2 (by bv_omega) ?_
      all_goals rw [sgnL_drop g1 g2] at hs
      · rename_i c1 c2
        rw [hs, if_neg c1, if_pos c2] at q; exact q
      · rename_i c1 c2
        rw [hs, if_neg c1, if_neg c2] at q; exact q
      · rename_i c1
        exact ⟨rfl, by walk_at "rle", i + 1, by rw [hr]; congr 1, by bv_omega, by rw [hs, if_pos (by simpa using c1)]⟩
    · intro ρ σ' P
      obtain ⟨e, r, i, hv, hi, hs⟩ := P
      subst e
      have := rangeV_nil hv
      rw [sgnL_end (by bv_omega) hi] at hs
      refine ex_forget ?_ r (fun _ _ h => h)
      rw [hs] at q
      repeat' walk_at "m"
      all_goals simp only [List.length_map] at *
      · rw [if_pos (by bv_omega)] at q; exact q
      · rw [if_neg (by bv_omega), if_pos (by bv_omega)] at q; exact q
      · rw [if_neg (by bv_omega), if_neg (by bv_omega)] at q; exact q
end
end
section
section
variable {g : G} {k : Nat} {σ : Sig} {Q : V → Sig → Prop}
/-- the octets of a key of small weights -/
noncomputable def octs : List Int → List Int
  | [] => []
  | w :: r => w / 256 :: w % 256 :: octs r
theorem octs_append (a b : List Int) : octs (a ++ b) = octs a ++ octs b := by
  induction a with
  | nil => rfl
  | cons x a ih => simp [octs, ih]
theorem octs_length (a : List Int) : (octs a).length = 2 * a.length := by
  induction a with
  | nil => rfl
  | cons x a ih => simp [octs, ih]; bv_omega
theorem bitAnd_255 {w : Int} (h : 0 ≤ w) : Builtin.bitAnd w 255 = w % 256 := by
  rw [bitAnd_pp h (by decide)]
  have := Nat.and_two_pow_sub_one_eq_mod w.toNat 8
  rw [show (255 : Int).toNat = 2 ^ 8 - 1 from rfl, this]
  bv_omega
theorem octs_range {ns : List Int} (h : ∀ n ∈ ns, 0 ≤ n ∧ n < 65535) : ∀ n ∈ octs ns, 0 ≤ n ∧ n < 256 := by
  induction ns with
  | nil => intro n hn; cases hn
  | cons w r ih =>
    intro n hn
    have hw := h w (.head _)
    rcases List.mem_cons.mp hn with rfl | hn
    · bv_omega
    · rcases List.mem_cons.mp hn with rfl | hn
      · bv_omega
      · exact ih (fun x hx => h x (.tail _ hx)) n hn
theorem c_octets (H : GK g) {ns : List Int} (hn : ∀ n ∈ ns, 0 ≤ n ∧ n < 65535) (hl : ns.length ≤ 1000) (q : Q (.bts (byteArr (octs ns))) σ) : CALLC g (k + 1) (.ref 152) [.lst (ns.map .int)] σ Q := by
  walk_at "fn0"
  case body =>
    refine EX.fin ?_
    refine ex_cons (ex_assign (ev_listM (evs_nil ⟨by decide, fun a ha => asn_name rfl ?_⟩)))
    refine ex_cons (ex_for (P := fun vs ρ σ' => Rle [("found", .ref a)] ρ ∧ ∃ i : Nat, A3 (i ≤ ns.length) (vs = (ns.drop i).map .int) (σ' = σ.set a (.list ((octs (ns.take i)).map .int)))) ?_ ?_ ?_)
    · refine it_of (ev_name rfl ⟨_, itv_lst, by walk_at "rle", 0, by bv_omega, by simp, by simp [octs]⟩)
    · rintro v rest ρ σ' ⟨r, i, hi, hv, hs⟩
      have hi2 : i < ns.length := by
        rcases Nat.lt_or_ge i ns.length with h | h
        · exact h
        · rw [List.drop_eq_nil_of_le h] at hv; cases hv
      rw [List.drop_eq_getElem_cons hi2] at hv
      obtain ⟨rfl, rfl⟩ := List.cons.inj hv
      subst hs
      have hw := hn ns[i] (List.getElem_mem hi2)
      refine asn_forget ?_ r
      repeat' walk_at "m"
      · refine ⟨_, _, Sig.set_self .., .f, ?_, ex_nil (ex_nil ⟨by walk_at "rle", i + 1, by bv_omega, rfl, ?_⟩)⟩
        · have := sizeLine_eq; simp [octs_length]; bv_omega
        · rw [Sig.set_set, List.take_succ_eq_append_getElem hi2, octs_append, List.map_append]
          rw [bitAnd_255 hw.1]
          show _ = σ.set a (.list (_ ++ [.int (ns[i] / 256), .int (ns[i] % 256)]))
          rw [Int.fdiv_eq_ediv_of_nonneg _ (by decide)]
          rfl
      · bv_omega
    · rintro ρ σ' ⟨r, i, hi, hv, hs⟩
      subst hs
      have hi2 : i = ns.length := by
        rcases Nat.lt_or_ge i ns.length with h | h
        · rw [List.drop_eq_getElem_cons h] at hv; cases hv
        · bv_omega
      subst hi2
      rw [List.take_length]
      refine ex_forget ?_ r (fun _ _ h => h)
      repeat' walk_at "m"
      refine c_bytes (.m (Sig.set_self ..)) (octs_range hn) (by have := sizeLine_eq; rw [octs_length]; bv_omega) ⟨_, Sle.set_new ha, q⟩
end
end
section
section
variable {g : G} {k : Nat} {σ : Sig} {Q : V → Sig → Prop}
noncomputable def lotOf : List Int → Int → Nat
  | [], _ => 0
  | f :: r, p => if f ≤ p then lotOf r p + 1 else 0
noncomputable abbrev dII (m : List (Int × Int)) : List (Int × V) := m.map fun p => (p.1, .int p.2)
theorem kget_dII (m : List (Int × Int)) (i : Int) : kget (dII m) i = (kget m i).map .int := by
  induction m with
  | nil => rfl
  | cons p m ih => show (if p.1 = i then _ else _) = Option.map _ (if p.1 = i then _ else _); split; rfl; exact ih
noncomputable def movedI (firsts : List Int) (m : List (Int × Int)) (end_ p : Int) : Int :=
  if firsts = [] ∨ p < firsts.headD 0 ∨ end_ ≤ p then p else (kget m (lotOf firsts.tail p)).getD 0 + p - firsts.getD (lotOf firsts.tail p) 0
noncomputable abbrev reoV (firsts : List Int) (m : List (Int × Int)) (end_ : Int) : V := .obj 98 [("firsts", .lst (firsts.map .int)), ("begun", .dI (dII m)), ("end", .int end_)]
theorem lotOf_step {r : List Int} {p : Int} {i : Nat} (h : i < r.length) : (lotOf (r.drop i) p) = if r[i] ≤ p then lotOf (r.drop (i + 1)) p + 1 else 0 := by
  rw [List.drop_eq_getElem_cons h]; rfl
theorem c_moved (H : GK g) {firsts : List Int} {m : List (Int × Int)} {end_ p : Int} (hm : ∀ i : Nat, i < firsts.length → (kget m (i : Int)).isSome = true) (hl : firsts.length ≤ 1000) (q : Q (.int (movedI firsts m end_ p)) σ) : CALLC g (k + 1) (.ref 95) [reoV firsts m end_, .int p] σ Q := by
  walk_at "fn0"
  case body =>
    have e0 : ¬ firsts = [] → (firsts.map V.int)[(0 : Int).toNat]? = some (.int (firsts.headD 0)) := fun h => by cases firsts with | nil => exact absurd rfl h | cons f r => rfl
    have qb : firsts = [] ∨ p < firsts.headD 0 ∨ end_ ≤ p → Q (.int p) σ := fun h => by rw [movedI, if_pos h] at q; exact q
    refine ex_cons (ex_if ?_)
    repeat' walk_at "m"
    · rename_i h; exact qb (.inl h)
    · rename_i h
      refine item_list .f (by decide) (e0 h) (by decide) ?_
      repeat' walk_at "m"
      · rename_i h2; exact qb (.inr (.inl h2))
      · rename_i h2; exact qb (.inr (.inr h2))
      · rename_i h2 h3
        have q' : Q (.int ((kget m (lotOf firsts.tail p : Nat)).getD 0 + p - firsts.getD (lotOf firsts.tail p) 0)) σ := by rw [movedI, if_neg (fun o => o.elim h (fun o => o.elim h2 h3))] at q; exact q
        have hn : firsts.length = firsts.tail.length + 1 := by cases firsts with | nil => exact absurd rfl h | cons f r => rfl
        refine ex_whileR (fun i : Nat => [("lot", .int i), ("self", reoV firsts m end_), ("primary", .int p)]) (fun n i σ' => σ' = σ ∧ i + lotOf (firsts.tail.drop i) p = lotOf firsts.tail p ∧ i < firsts.length ∧ n = firsts.length - i) firsts.length 0 (by walk_at "rle") ⟨rfl, by simp, by bv_omega, by bv_omega⟩ ?_
        rintro n i σ' ⟨e, hi, hlt, hn'⟩
        subst e
        have e1 : ∀ j : Nat, j < firsts.length → (firsts.map V.int)[(j : Int).toNat]? = some (.int (firsts.getD j 0)) := fun j hj => by rw [Int.toNat_natCast, ints_get hj, getD_lt hj]
        repeat' walk_at "m"
        · rename_i h4
          simp only [List.length_map] at h4
          have h5 : i < firsts.tail.length := by bv_omega
          have h6 : firsts.tail[i] = firsts.getD (i + 1) 0 := by rw [List.getElem_tail, getD_lt (by bv_omega)]
          rw [lotOf_step h5, h6] at hi
          refine item_list .f (by bv_omega) (e1 (i + 1) (by bv_omega)) (by bv_omega) ?_
          repeat' walk_at "m"
          · rename_i h7
            rw [if_pos h7] at hi
            exact ⟨firsts.length - (i + 1), i + 1, by bv_omega, by walk_at "rle", rfl, by bv_omega, by bv_omega, rfl⟩
          · rename_i h7
            rw [if_neg h7] at hi
            have hi' : i = lotOf firsts.tail p := by bv_omega
            subst hi'
            obtain ⟨b, hb⟩ := Option.isSome_iff_exists.mp (hm _ hlt)
            refine item_dI .f (by rw [kget_dII, hb]; rfl) ?_
            repeat' walk_at "m"
            refine item_list .f (by bv_omega) (e1 _ hlt) (by bv_omega) ?_
            repeat' walk_at "m"
            rw [hb] at q'; exact q'
        · rename_i h4
          simp only [List.length_map] at h4
          rw [List.drop_eq_nil_of_le (by bv_omega)] at hi
          have hi' : i = lotOf firsts.tail p := by simpa [lotOf] using hi
          subst hi'
          obtain ⟨b, hb⟩ := Option.isSome_iff_exists.mp (hm _ hlt)
          refine item_dI .f (by rw [kget_dII, hb]; rfl) ?_
          repeat' walk_at "m"
          refine item_list .f (by bv_omega) (e1 _ hlt) (by bv_omega) ?_
          repeat' walk_at "m"
          rw [hb] at q'; exact q'
end
end
section
section
variable {g : G} {k : Nat} {σ : Sig} {Q : V → Sig → Prop}
noncomputable def gapOf (firsts : List Int) (end_ : Int) (lot : Nat) : Int := (if lot + 1 < firsts.length then firsts.getD (lot + 1) 0 else end_) - firsts.getD lot 0
noncomputable def begunM (firsts : List Int) (end_ : Int) : List Nat → Int → List (Int × Int) → List (Int × Int)
  | [], _, m => m
  | lot :: r, at_, m => begunM firsts end_ r (at_ + gapOf firsts end_ lot) (kput m (lot : Int) at_)
theorem kput_dII (m : List (Int × Int)) (i v : Int) : kput (dII m) i (.int v) = dII (kput m i v) := by
  induction m with
  | nil => rfl
  | cons p m ih =>
    show (if p.1 = i then _ else _) = dII (if p.1 = i then _ else _)
    split
    · rfl
    · show (p.1, V.int p.2) :: kput (dII m) i (.int v) = _
      rw [ih]; rfl
theorem c_reorder_init (H : GK g) {firsts : List Int} {order : List Nat} {end_ : Int} {dx : Addr} (hd : σ dx = some (.dS [])) (hn : firsts ≠ []) (ho : ∀ i ∈ order, i < firsts.length) (hl : firsts.length ≤ 100) (hl2 : order.length ≤ 100)
    (q : Q .none (σ.set dx (.dS [("firsts", .lst (firsts.map .int)), ("begun", .dI (dII (begunM firsts end_ order (firsts.headD 0) []))), ("end", .int end_)]))) :
    CALLC g (k + 1) (.ref 88) [.inst 98 dx, .lst (firsts.map .int), .lst (order.map fun i : Nat => V.int i), .int end_] σ Q := by
  walk_at "fn0"
  case body =>
    refine EX.fin ?_
    repeat' walk_at "m"
    refine ev_dict0 (.inl rfl) fun a ha => ?_
    have hne : dx ≠ a := ne_of_set (Sig.set_self ..) ha
    have ha' : σ a = none := by rw [Sig.set_ne hne.symm] at ha; exact ha
    refine asn_attr (ev_name rfl ⟨_, _, _, rfl, by rw [Sig.set_ne hne, Sig.set_self], settable_of (by assumption) (by kernel_rfl) (by kernel_rfl) (by kernel_rfl) (by kernel_rfl), Nat.le_of_ble_eq_true rfl, ?_⟩)
    have e0 : ∀ j : Nat, j < firsts.length → (firsts.map V.int)[(j : Int).toNat]? = some (.int (firsts.getD j 0)) := fun j hj => by rw [Int.toNat_natCast, ints_get hj, getD_lt hj]
    have hl0 : 0 < firsts.length := List.length_pos_iff.mpr hn
    generalize hs : ((((σ.set dx _).set a _).set dx _) : Sig) = σ'
    have s1 : σ' dx = some (.dS [("firsts", .lst (firsts.map .int)), ("begun", .ref a)]) := by rw [← hs]; exact Sig.set_self ..
    have s2 : σ' a = some (.dI (dII [])) := by rw [← hs, Sig.set_ne hne.symm, Sig.set_self]; rfl
    have s3 : ∀ b, b ≠ dx → b ≠ a → σ' b = σ b := fun b h1 h2 => by rw [← hs, Sig.set_ne h1, Sig.set_ne h2, Sig.set_ne h1]
    clear hs ha
    repeat' walk_at "m"
    · refine item_list .f (by decide) (e0 0 hl0) (by decide) ?_
      repeat' walk_at "m"
      refine ex_forR (fun x : Int × List (Int × Int) => [("at", .int x.1), ("self", .inst 98 dx), ("firsts", .lst (firsts.map .int)), ("order", .lst (order.map fun i : Nat => V.int i)), ("end", .int end_)])
        (fun vs x σ' => ∃ r : List Nat, A8 (vs = r.map (fun i : Nat => V.int i)) (r.length ≤ order.length) ((∀ i ∈ r, i < firsts.length)) (begunM firsts end_ r x.1 x.2 = begunM firsts end_ order (firsts.headD 0) []) (x.2.length + r.length ≤ order.length) (σ' dx = some (.dS [("firsts", .lst (firsts.map .int)), ("begun", .ref a)])) (σ' a = some (.dI (dII x.2))) (∀ b, b ≠ dx → b ≠ a → σ' b = σ b)) ?_ ?_ ?_
      · refine it_of (ev_name rfl ⟨_, itv_lst, (firsts.headD 0, []), ?_, order, rfl, Nat.le_refl _, ho, rfl, by simp, s1, s2, s3⟩)
        have : firsts.getD 0 0 = firsts.headD 0 := by cases firsts <;> rfl
        rw [this]
        walk_at "rle"
      · rintro v rest ⟨at_, m⟩ σ' ⟨r, hv, hr, hr2, hr3, hr4, t1, t2, t3⟩
        cases r with
        | nil => cases hv
        | cons lot r =>
          obtain ⟨rfl, rfl⟩ := List.cons.inj hv
          have hlot := hr2 lot (.head _)
          intro N' hN
          refine asn_name rfl ?_
          repeat' walk_at "m"
          refine seti_dI t2 (by rw [List.length_map]; have : m.length ≤ 100 := by simp at hr4; bv_omega
                                bv_omega) ?_
          have u1 : ∀ mo, (σ'.set a mo) dx = some (.dS [("firsts", .lst (firsts.map .int)), ("begun", .ref a)]) := fun mo => by rw [Sig.set_ne hne]; exact t1
          have fin : Rle [("at", .int (at_ + gapOf firsts end_ lot)), ("self", .inst 98 dx), ("firsts", .lst (firsts.map .int)), ("order", .lst (order.map fun i : Nat => V.int i)), ("end", .int end_)] [("at", .int (at_ + gapOf firsts end_ lot)), ("lot", .int lot), ("at", .int at_), ("self", .inst 98 dx), ("firsts", .lst (firsts.map .int)), ("order", .lst (order.map fun i : Nat => V.int i)), ("end", .int end_)] := by walk_at "rle"
          have fin2 : ∃ r' : List Nat, A8 (r.map (fun i : Nat => V.int i) = r'.map (fun i : Nat => V.int i)) (r'.length ≤ order.length) ((∀ i ∈ r', i < firsts.length)) (begunM firsts end_ r' (at_ + gapOf firsts end_ lot) (kput m (lot : Int) at_) = begunM firsts end_ order (firsts.headD 0) []) ((kput m (lot : Int) at_).length + r'.length ≤ order.length) ((σ'.set a (.dI (kput (dII m) (lot : Int) (.int at_)))) dx = some (.dS [("firsts", .lst (firsts.map .int)), ("begun", .ref a)])) ((σ'.set a (.dI (kput (dII m) (lot : Int) (.int at_)))) a = some (.dI (dII (kput m (lot : Int) at_)))) (∀ b, b ≠ dx → b ≠ a → (σ'.set a (.dI (kput (dII m) (lot : Int) (.int at_)))) b = σ b) :=
            ⟨r, rfl, by simp at hr; bv_omega, fun i hi => hr2 i (.tail _ hi), hr3, by have := kput_length m (lot : Int) at_; simp at hr4; bv_omega, u1 _, by rw [Sig.set_self, kput_dII], fun b h1 h2 => by rw [Sig.set_ne h2]; exact t3 b h1 h2⟩
          dsimp only at *
          repeat' walk_at "m"
          · rename_i h1
            simp only [List.length_map] at h1
            refine item_list .f (by bv_omega) (e0 (lot + 1) (by bv_omega)) (by bv_omega) ?_
            repeat' walk_at "m"
            refine item_list .f (by bv_omega) (e0 lot hlot) (by bv_omega) ?_
            repeat' walk_at "m"
            rw [show at_ + firsts.getD (lot + 1) 0 - firsts.getD lot 0 = at_ + gapOf firsts end_ lot by unfold gapOf; rw [if_pos (by bv_omega)]; bv_omega]
            exact hN _ _ (_, _) fin fin2
          · rename_i h1
            simp only [List.length_map] at h1
            refine item_list .f (by bv_omega) (e0 lot hlot) (by bv_omega) ?_
            repeat' walk_at "m"
            rw [show at_ + end_ - firsts.getD lot 0 = at_ + gapOf firsts end_ lot by unfold gapOf; rw [if_neg (by bv_omega)]; bv_omega]
            exact hN _ _ (_, _) fin fin2
      · rintro ⟨at_, m⟩ σ' ⟨r, hv, _, _, hr3, _, t1, t2, t3⟩
        cases r with
        | cons => cases hv
        | nil =>
          refine ex_ghost (gh_attr (x := "begun") t1 rfl t2 hne.symm) ?_
          repeat' walk_at "m"
          refine ⟨_, ?_, q⟩
          rw [← hr3]
          intro b mo hb
          by_cases h : b = dx
          · subst h; rw [Sig.set_self] at hb ⊢; exact hb
          · rw [Sig.set_ne h] at hb ⊢
            have h2 : b ≠ a := fun e => by rw [e, ha'] at hb; cases hb
            rw [Sig.set_ne h, Sig.del_ne h2, t3 b h h2]; exact hb
    · rename_i h; simp only [List.length_map] at h; bv_omega
end
end
section
section
variable {g : G} {k : Nat} {σ : Sig} {Q : V → Sig → Prop}
noncomputable abbrev Row := Int × Int × Int × Int
noncomputable abbrev rowV (r : Row) : V := .tup [.int r.1, .int r.2.1, .int r.2.2.1, .int r.2.2.2]
noncomputable abbrev rowsV (rs : List Row) : V := .lst (rs.map rowV)
noncomputable abbrev optV (strength : Int) (back : Bool) (caseF : Str) (reo : V) (spread : Int) : V :=
  .obj 40 [("factors", .tup [.int 1, .int 1, .int spread]), ("how", .str "non-ignorable"), ("strength", .int strength), ("is_backwards", .bool back), ("case_first", .str caseF), ("has_case_level", .bool false), ("is_numeric", .bool false), ("reorder", reo)]
noncomputable def colOf (f : Row → Int) (r : Row) : List Int := if f r = 0 then [] else [f r]
theorem colOf_len (f : Row → Int) (r : Row) : (colOf f r).length ≤ 1 := by unfold colOf; split <;> simp
noncomputable def moveO (reo : Option (List Int × List (Int × Int) × Int)) (p : Int) : Int := match reo with
  | none => p
  | some (a, b, c) => movedI a b c p
noncomputable def reoO : Option (List Int × List (Int × Int) × Int) → V
  | none => .none
  | some (a, b, c) => reoV a b c
noncomputable def ReoOK : Option (List Int × List (Int × Int) × Int) → Prop
  | none => True
  | some (a, b, c) => (∀ i : Nat, i < a.length → (kget b (i : Int)).isSome = true) ∧ a.length ≤ 1000
theorem flat_le {α β : Type} {f : α → List β} (h : ∀ e, (f e).length ≤ 1) (l : List α) : (l.flatMap f).length ≤ l.length := by
  induction l with
  | nil => exact Nat.le_refl _
  | cons e l ih => have := h e; simp only [List.flatMap_cons, List.length_append, List.length_cons]; bv_omega
theorem flat_one {α β : Type} (f : α → β) (l : List α) : (l.flatMap fun e => [f e]) = l.map f := by
  induction l with
  | nil => rfl
  | cons e l ih => simp [ih]
theorem c_first (H : GK g) {rs : List Row} {st sp : Int} {bk : Bool} {cf : Str} {reo : Option (List Int × List (Int × Int) × Int)} (hr : ReoOK reo) (hl : rs.length ≤ 1000)
    (q : Q (.lst (((rs.flatMap (colOf (·.1))).map (moveO reo)).map .int)) σ) : CALLC g (k + 2) (.ref 107) [rowsV rs, optV st bk cf (reoO reo) sp] σ Q := by
  walk_at "fn0"
  case body =>
    refine ex_cons (ex_listcomp (cx_mapI rs rowV (colOf (·.1)) (it_of (ev_name rfl ⟨_, itv_lst, rfl, rfl⟩)) (colOf_len _) (by bv_omega) ?_ ?_) rfl)
    · intro r hr us hus
      show TR _ _ _ _ _ _ _
      repeat' walk_at "m"
      · rename_i h
        exact ⟨hus, by rw [colOf, if_neg h]; rfl, rfl⟩
      · rename_i h
        exact ⟨by rw [colOf, if_pos (Decidable.not_not.mp h)]; simp, rfl⟩
    · obtain _ | ⟨a, b, c⟩ := reo
      · rw [show moveO none = id from rfl, List.map_id] at q
        dsimp only [reoO]
        repeat' walk_at "m"
        exact q
      · dsimp only [reoO]
        repeat' walk_at "m"
        refine ev_listcomp (cx_mapI (rs.flatMap (colOf (·.1))) .int (fun p => [movedI a b c p]) (it_of (ev_name rfl ⟨_, itv_lst, rfl, rfl⟩)) (fun _ => Nat.le_refl 1) ?_ ?_ ?_)
        · exact Nat.le_trans (flat_le (colOf_len _) rs) (by bv_omega)
        · intro p hp us hus
          show EV _ _ _ _ _ _ _
          refine ev_mcall ?_
          repeat' walk_at "m"
          refine ⟨_, mres_inst .f rfl (own_meth H (by kernel_rfl) (by rfl) (by kernel_rfl)), keep_fn H (by kernel_rfl), ?_⟩
          repeat' walk_at "m"
          exact (c_moved H hr.1 hr.2 ⟨hus, rfl, rfl⟩).call
        · rw [flat_one]; exact q
end
section
variable {g : G} {k : Nat} {σ : Sig} {Q : V → Sig → Prop}
theorem c_second (H : GK g) {rs : List Row} {st sp : Int} {bk : Bool} {cf : Str} {reo : V} (hl : rs.length ≤ 1000)
    (q : Q (.lst ((if bk = true then (rs.flatMap (colOf (·.2.1))).reverse else rs.flatMap (colOf (·.2.1))).map .int)) σ) : CALLC g (k + 1) (.ref 112) [rowsV rs, optV st bk cf reo sp] σ Q := by
  walk_at "fn0"
  case body =>
    have hl2 := flat_le (colOf_len (·.2.1)) rs
    refine ex_cons (ex_listcomp (cx_mapI rs rowV (colOf (·.2.1)) (it_of (ev_name rfl ⟨_, itv_lst, rfl, rfl⟩)) (colOf_len _) (by bv_omega) ?_ ?_) rfl)
    · intro r hr us hus
      show TR _ _ _ _ _ _ _
      repeat' walk_at "m"
      · rename_i h
        exact ⟨hus, by rw [colOf, if_neg h]; rfl, rfl⟩
      · rename_i h
        exact ⟨by rw [colOf, if_pos (Decidable.not_not.mp h)]; simp, rfl⟩
    · repeat' walk_at "m"
      · rename_i h
        rw [if_pos h] at q
        refine ev_slice (ev_name rfl (part_none (part_none (part_some (ev_neg (ev_int ⟨rfl, _, rfl, ?_⟩))))))
        exact sli_rev .f (by have := sizeLine_eq; rw [List.length_map]; bv_omega) (by rw [← List.map_reverse]; exact q)
      · rename_i h
        rw [if_neg (by rw [h]; decide)] at q; exact q
end
end
section
section
variable {g : G} {k : Nat} {σ : Sig} {Q : V → Sig → Prop}
noncomputable def shiftT (cf : Str) (sp t : Int) : Int := t + (if upperB (t.fdiv sp) = (cf == "upper") then 0 else 256 * sp)
noncomputable def thirdsOf (cf : Str) (sp : Int) (rs : List Row) : List Int := if cf = "" then rs.flatMap (colOf (·.2.2.1)) else (rs.flatMap (colOf (·.2.2.1))).map (shiftT cf sp)
theorem c_third (H : GK g) {rs : List Row} {st sp : Int} {bk : Bool} {cf : Str} {reo : V} (h0 : 0 < sp) (h1 : sp < 1000) (hl : rs.length ≤ 1000)
    (q : Q (.lst ((thirdsOf cf sp rs).map .int)) σ) : CALLC g (k + 2) (.ref 122) [rowsV rs, optV st bk cf reo sp] σ Q := by
  walk_at "fn0"
  case body =>
    have hl2 := flat_le (colOf_len (·.2.2.1)) rs
    refine ex_cons (ex_listcomp (cx_mapI rs rowV (colOf (·.2.2.1)) (it_of (ev_name rfl ⟨_, itv_lst, rfl, rfl⟩)) (colOf_len _) (by bv_omega) ?_ ?_) rfl)
    · intro r hr us hus
      show TR _ _ _ _ _ _ _
      repeat' walk_at "m"
      · rename_i h
        exact ⟨hus, by rw [colOf, if_neg h]; rfl, rfl⟩
      · rename_i h
        exact ⟨by rw [colOf, if_pos (Decidable.not_not.mp h)]; simp, rfl⟩
    · repeat' walk_at "m"
      · rename_i h
        rw [thirdsOf, if_pos h] at q
        exact q
      · rename_i h
        rw [thirdsOf, if_neg h] at q
        refine ev_listcomp (cx_mapI (rs.flatMap (colOf (·.2.2.1))) .int (fun t => [shiftT cf sp t]) (it_of (ev_name rfl ⟨_, itv_lst, rfl, rfl⟩)) (fun _ => Nat.le_refl 1) (by bv_omega) ?_ (by rw [flat_one]; exact q))
        intro t ht us hus
        show EV _ _ _ _ _ _ _
        repeat' walk_at "m"
        refine (c_upper H (by bv_omega) (by bv_omega) ?_).call
        repeat' walk_at "m"
        · rename_i h2
          exact ⟨hus, by rw [shiftT, if_pos h2]; rfl, rfl⟩
        · rename_i h2
          exact ⟨hus, by rw [shiftT, if_neg h2]; rfl, rfl⟩
noncomputable abbrev firstsOf (reo : Option (List Int × List (Int × Int) × Int)) (rs : List Row) : List Int := (rs.flatMap (colOf (·.1))).map (moveO reo)
noncomputable abbrev secondsOf (bk : Bool) (rs : List Row) : List Int := if bk = true then (rs.flatMap (colOf (·.2.1))).reverse else rs.flatMap (colOf (·.2.1))
noncomputable def levelsOf (st sp : Int) (bk : Bool) (cf : Str) (reo : Option (List Int × List (Int × Int) × Int)) (rs : List Row) : List (List Int) :=
  if 3 ≤ st then [firstsOf reo rs, secondsOf bk rs, thirdsOf cf sp rs] else if 2 ≤ st then [firstsOf reo rs, secondsOf bk rs] else [firstsOf reo rs]
theorem c_levels (H : GK g) {rs : List Row} {st sp : Int} {bk : Bool} {cf : Str} {reo : Option (List Int × List (Int × Int) × Int)} (hr : ReoOK reo) (h0 : 0 < sp) (h1 : sp < 1000) (hs : st ≤ 3) (hl : rs.length ≤ 1000)
    (q : Q (.lst ((levelsOf st sp bk cf reo rs).map vInts)) σ) : CALLC g (k + 3) (.ref 134) [rowsV rs, optV st bk cf (reoO reo) sp] σ Q := by
  walk_at "fn0"
  case body =>
    refine EX.frz ?_
    refine ex_cons (ex_assign (ev_listM ?_))
    refine evs_cons ?_
    repeat' walk_at "m"
    refine (c_first H hr hl ?_).call
    refine evs_nil ⟨Nat.le_of_ble_eq_true rfl, fun a ha => ?_⟩
    unfold levelsOf at q
    have hq : ∀ (σ' : Sig) (us : List V), σ' a = some (.list us) → (∀ b, b ≠ a → σ' b = σ b) → us = ((if 3 ≤ st then [firstsOf reo rs, secondsOf bk rs, thirdsOf cf sp rs] else if 2 ≤ st then [firstsOf reo rs, secondsOf bk rs] else [firstsOf reo rs]).map vInts) → X2 fun (a' : Addr) (m : MO) => A3 (V.ref a = .ref a') (σ' a' = some m) (∃ σ'' : Sig, Sle σ'' (σ'.del a') ∧ Q m.toV σ'') :=
      fun σ' us h1 h2 h3 => ⟨a, _, rfl, h1, σ, Sle.del_new ha h2, by rw [h3]; exact q⟩
    repeat' walk_at "m"
    · refine (c_second H hl ⟨_, Sig.set_self .., Nat.le_of_ble_eq_true rfl, ?_⟩).call
      repeat' walk_at "m"
      · refine (c_third H h0 h1 hl ⟨_, Sig.set_self .., Nat.le_of_ble_eq_true rfl, ?_⟩).call
        repeat' walk_at "m"
        · bv_omega
        · rename_i h3 _
          rw [if_pos h3] at hq
          exact hq _ _ (Sig.set_self ..) (fun b hb => by rw [Sig.set_ne hb, Sig.set_ne hb, Sig.set_ne hb]) rfl
      · bv_omega
      · rename_i h2 h3 _
        rw [if_neg h3, if_pos h2] at hq
        exact hq _ _ (Sig.set_self ..) (fun b hb => by rw [Sig.set_ne hb, Sig.set_ne hb]) rfl
    · bv_omega
    · bv_omega
    · rename_i h2 h3 _
      rw [if_neg h3, if_neg h2] at hq
      exact hq _ _ (Sig.set_self ..) (fun b hb => by rw [Sig.set_ne hb]) rfl
end
end
section
section
variable {g : G} {k : Nat} {σ : Sig} {Q : V → Sig → Prop}
noncomputable def makersV (st : Int) : List V := if 3 ≤ st then [.int 1, .int 2, .int 3] else if 2 ≤ st then [.int 1, .int 2] else [.int 1]
theorem makers_get {st : Int} {n : Nat} (h : n < (makersV st).length) : (makersV st)[(n : Int).toNat]? = some (.int (n + 1)) := by
  rw [Int.toNat_natCast]
  unfold makersV at h ⊢
  split at h
  · rename_i h1
    rw [if_pos h1]
    match n, h with
    | 0, _ => rfl
    | 1, _ => rfl
    | 2, _ => rfl
  · rename_i h1
    rw [if_neg h1]
    split at h
    · rename_i h2
      rw [if_pos h2]
      match n, h with
      | 0, _ => rfl
      | 1, _ => rfl
    · rename_i h2
      rw [if_neg h2]
      match n, h with
      | 0, _ => rfl
theorem levels_some {st sp : Int} {bk : Bool} {cf : Str} {reo : Option (List Int × List (Int × Int) × Int)} {rs : List Row} {n : Nat} (h : n < (makersV st).length) :
    (levelsOf st sp bk cf reo rs)[n]? = some (if n = 0 then firstsOf reo rs else if n = 1 then secondsOf bk rs else thirdsOf cf sp rs) := by
  unfold makersV at h
  unfold levelsOf
  split at h
  · rename_i h1
    rw [if_pos h1]
    match n, h with
    | 0, _ => rfl
    | 1, _ => rfl
    | 2, _ => rfl
  · rename_i h1
    rw [if_neg h1]
    split at h
    · rename_i h2
      rw [if_pos h2]
      match n, h with
      | 0, _ => rfl
      | 1, _ => rfl
    · rename_i h2
      rw [if_neg h2]
      match n, h with
      | 0, _ => rfl
theorem levels_none {st sp : Int} {bk : Bool} {cf : Str} {reo : Option (List Int × List (Int × Int) × Int)} {rs : List Row} {n : Nat} (h : ¬ n < (makersV st).length) : (levelsOf st sp bk cf reo rs)[n]? = none := by
  refine List.getElem?_eq_none (Nat.le_trans (Nat.le_of_eq ?_) (Nat.not_lt.mp h))
  unfold makersV levelsOf
  split
  · rfl
  · split <;> rfl
theorem c_level (H : GK g) {rs : List Row} {st sp : Int} {bk : Bool} {cf : Str} {reo : Option (List Int × List (Int × Int) × Int)} {n : Nat} (hr : ReoOK reo) (h0 : 0 < sp) (h1 : sp < 1000) (hs : st ≤ 3) (hl : rs.length ≤ 1000)
    (q : Q (match (levelsOf st sp bk cf reo rs)[n]? with | some l => vInts l | none => .none) σ) : CALLC g (k + 3) (.ref 141) [rowsV rs, .int n, optV st bk cf (reoO reo) sp] σ Q := by
  walk_at "fn0"
  case body =>
    refine EX.fin ?_
    refine ex_cons (ex_assign (ev_listM ?_))
    refine evs_cons (ev_int (evs_nil ⟨Nat.le_of_ble_eq_true rfl, fun a ha => asn_name rfl ?_⟩))
    refine ex_cons ?_
    refine ex_ifJ (fun σ' => σ' a = some (.list (if 2 ≤ st then [.int 1, .int 2] else [.int 1])) ∧ ∀ b, b ≠ a → σ' b = σ b) ?_ ?_
    · intro M' hJ
      repeat' walk_at "m"
      · rename_i h
        exact ⟨_, Sig.set_self .., Nat.le_of_ble_eq_true rfl, ex_nil (hJ _ _ (Rle.refl _) ⟨by rw [Sig.set_self, if_pos h]; rfl, fun b hb => by rw [Sig.set_ne hb, Sig.set_ne hb]⟩)⟩
      · rename_i h
        exact hJ _ _ (Rle.refl _) ⟨by rw [Sig.set_self, if_neg h], fun b hb => by rw [Sig.set_ne hb]⟩
    rintro σ' ⟨t1, t2⟩
    refine ex_cons ?_
    refine ex_ifJ (fun σ'' => σ'' = σ') ?_ ?_
    · intro M' hJ
      repeat' walk_at "m"
      exact hJ _ _ (Rle.refl _) rfl
    rintro σ'' rfl
    refine ex_cons ?_
    refine ex_ifJ (fun σ' => σ' a = some (.list (makersV st)) ∧ ∀ b, b ≠ a → σ' b = σ b) ?_ ?_
    · intro M' hJ
      repeat' walk_at "m"
      · rename_i h
        rw [if_pos (by bv_omega)] at t1
        exact ⟨_, t1, Nat.le_of_ble_eq_true rfl, ex_nil (hJ _ _ (Rle.refl _) ⟨by rw [Sig.set_self, makersV, if_pos h]; rfl, fun b hb => by rw [Sig.set_ne hb]; exact t2 b hb⟩)⟩
      · rename_i h
        exact hJ _ _ (Rle.refl _) ⟨by rw [t1, makersV, if_neg h], t2⟩
    rintro σ' ⟨t1, t2⟩
    refine ex_cons ?_
    refine ex_ifJ (fun σ'' => σ'' = σ') ?_ ?_
    · intro M' hJ
      repeat' walk_at "m"
      · bv_omega
      · exact hJ _ _ (Rle.refl _) rfl
    rintro σ'' rfl
    have hle : Sle σ σ'' := fun b m e => by
      have hb : b ≠ a := fun q => by rw [q, ha] at e; cases e
      rw [t2 b hb]; exact e
    have hmk := fun h => makers_get (st := st) (n := n) h
    have hml : (makersV st).length ≤ 3 := by unfold makersV; split; exact Nat.le_refl _; split <;> decide
    have qn : ¬ n < (makersV st).length → Q .none σ := fun h => by
      rw [levels_none h] at q; exact q
    have qs : n < (makersV st).length → Q (vInts (if n = 0 then firstsOf reo rs else if n = 1 then secondsOf bk rs else thirdsOf cf sp rs)) σ := fun h => by
      rw [levels_some h] at q; exact q
    refine ex_cons ?_
    repeat' walk_at "m"
    refine c_len (.m t1) (by bv_omega) ?_
    repeat' walk_at "m"
    · exact ⟨σ, hle, qn (by bv_omega)⟩
    · rename_i h
      refine item_list (.m t1) (by bv_omega) (hmk (by bv_omega)) (by bv_omega) ?_
      have hi := fun Q => item_list (g := g) (k := k + 2) (Q := Q) (.m t1) (Int.natCast_nonneg n) (hmk (by bv_omega)) (by bv_omega)
      replace qs := qs (by bv_omega)
      repeat' first | refine hi _ ?_ | walk_at "m"
      · rw [if_pos (by bv_omega)] at qs
        exact (c_first H hr hl ⟨σ, hle, qs⟩).call
      · rw [if_neg (by bv_omega), if_pos (by bv_omega)] at qs
        exact (c_second H hl ⟨σ, hle, qs⟩).call
      · bv_omega
      · rw [if_neg (by bv_omega), if_neg (by bv_omega)] at qs
        exact (c_third H h0 h1 hl ⟨σ, hle, qs⟩).call
      · bv_omega
/-- the rows' weights -/
noncomputable abbrev Elem := Int × Int × Int × Bool
noncomputable abbrev elV (e : Elem) : V := .tup [.int e.1, .int e.2.1, .int e.2.2.1, .bool e.2.2.2]
noncomputable abbrev elsV (es : List Elem) : V := .lst (es.map elV)
noncomputable def rowOf (e : Elem) : Row := (e.1, e.2.1, e.2.2.1, if 0 < e.1 + e.2.1 + e.2.2.1 then 65535 else 0)
theorem c_weighted (H : GK g) {es : List Elem} (hl : es.length ≤ 1000) (q : Q (rowsV (es.map rowOf)) σ) : CALLC g (k + 1) (.ref 66) [elsV es, .str "non-ignorable", .int 1] σ Q := by
  walk_at "fn0"
  case body =>
    refine EX.frz ?_
    repeat' walk_at "m"
    · exact absurd ‹_› (by decide)
    · exact absurd ‹_› (by decide)
    · refine ev_listM (evs_nil ⟨Nat.le_of_ble_eq_true rfl, fun a ha => asn_name rfl ?_⟩)
      refine ex_cons ?_
      refine ex_forL (fun _ : Unit => [("found", .ref a), ("top", .int 65535)]) es elV (fun dn _ σ' => σ' a = some (.list ((dn.map rowOf).map rowV)) ∧ ∀ b, b ≠ a → σ' b = σ b) ?_ ?_ ?_
      · refine it_of (ev_name rfl ⟨_, itv_lst, (), rfl, by walk_at "rle", Sig.set_self .., fun b hb => Sig.set_ne hb⟩)
      · rintro dn e r _ σ' hes ⟨t1, t2⟩
        focus
          have hle : dn.length ≤ es.length := by rw [hes]; simp
          intro N' hN
          repeat' walk_at "m"
          all_goals refine ⟨_, t1, by have := sizeLine_eq; simp only [List.length_map]; bv_omega, ?_⟩
          all_goals repeat' walk_at "m"
          all_goals refine hN _ _ () (by walk_at "rle") ⟨?_, fun b hb => by rw [Sig.set_ne hb]; exact t2 b hb⟩
          all_goals rename_i h
          · rw [Sig.set_self, List.map_append, List.map_append]
            show _ = some (MO.list (_ ++ [rowV (rowOf e)]))
            rw [rowOf, if_pos h]
          · rw [Sig.set_self, List.map_append, List.map_append]
            show _ = some (MO.list (_ ++ [rowV (rowOf e)]))
            rw [rowOf, if_neg h]
      · rintro _ σ' ⟨t1, t2⟩
        focus
          repeat' walk_at "m"
          exact ⟨a, _, rfl, t1, σ, Sle.del_new ha t2, q⟩
end
end
section
section
variable {g : G} {k : Nat} {σ : Sig} {Q : V → Sig → Prop}
noncomputable def keyOf : List (List Int) → List Int
  | [] => []
  | l :: r => l ++ r.flatMap (fun x => 0 :: x)
theorem keyOf_snoc (ls : List (List Int)) (l : List Int) : keyOf (ls ++ [l]) = keyOf ls ++ (if ls = [] then l else 0 :: l) := by
  cases ls with
  | nil => simp [keyOf]
  | cons a r => simp [keyOf]
theorem keyOf_len {ls : List (List Int)} {m : Nat} (h : ∀ l ∈ ls, l.length ≤ m) : (keyOf ls).length ≤ ls.length * (m + 1) := by
  have hf : ∀ r : List (List Int), (∀ l ∈ r, l.length ≤ m) → (r.flatMap (fun x => 0 :: x)).length ≤ r.length * (m + 1) := fun r => by
    induction r with
    | nil => intro _; simp
    | cons a r ih =>
      intro h
      have h1 := h a (.head _)
      have h2 := ih fun l hl => h l (.tail _ hl)
      simp only [List.flatMap_cons, List.length_append, List.length_cons, Nat.add_mul]; bv_omega
  cases ls with
  | nil => simp [keyOf]
  | cons a r =>
    have h1 := h a (.head _)
    have h2 := hf r fun l hl => h l (.tail _ hl)
    simp only [keyOf, List.length_append, List.length_cons, Nat.add_mul]; bv_omega
theorem levels_small {st sp : Int} {bk : Bool} {cf : Str} {reo : Option (List Int × List (Int × Int) × Int)} {rs : List Row} : (levelsOf st sp bk cf reo rs).length ≤ 3 ∧ ∀ l ∈ levelsOf st sp bk cf reo rs, l.length ≤ rs.length := by
  have a1 : (firstsOf reo rs).length ≤ rs.length := by rw [List.length_map]; exact flat_le (colOf_len _) rs
  have a2 : (secondsOf bk rs).length ≤ rs.length := by unfold secondsOf; split; rw [List.length_reverse]; exact flat_le (colOf_len _) rs; exact flat_le (colOf_len _) rs
  have a3 : (thirdsOf cf sp rs).length ≤ rs.length := by unfold thirdsOf; split; exact flat_le (colOf_len _) rs; rw [List.length_map]; exact flat_le (colOf_len _) rs
  unfold levelsOf
  split
  · exact ⟨Nat.le_refl _, by intro l hl; simp only [List.mem_cons, List.not_mem_nil, or_false] at hl; rcases hl with rfl | rfl | rfl <;> assumption⟩
  · split
    · exact ⟨Nat.le_of_ble_eq_true rfl, by intro l hl; simp only [List.mem_cons, List.not_mem_nil, or_false] at hl; rcases hl with rfl | rfl <;> assumption⟩
    · exact ⟨Nat.le_of_ble_eq_true rfl, by intro l hl; simp only [List.mem_cons, List.not_mem_nil, or_false] at hl; subst hl; exact a1⟩
theorem c_key (H : GK g) {rs : List Row} {st sp : Int} {bk : Bool} {cf : Str} {reo : Option (List Int × List (Int × Int) × Int)} (hr : ReoOK reo) (h0 : 0 < sp) (h1 : sp < 1000) (hs : st ≤ 3) (hl : rs.length ≤ 1000)
    (q : Q (.lst ((keyOf (levelsOf st sp bk cf reo rs)).map .int)) σ) : CALLC g (k + 4) (.ref 147) [rowsV rs, optV st bk cf (reoO reo) sp] σ Q := by
  refine' enter (by assumption) (ds := [.none]) (dvs := [.none]) ?h ?hb ?e ?hc ?hn ?bind (fun _ => .cons .none .nil) ?kd ?nd ?hsc ?hρ ?body
  walk_at "fnT"
  case body =>
    refine EX.frz ?_
    have hls := levels_small (st := st) (sp := sp) (bk := bk) (cf := cf) (reo := reo) (rs := rs)
    generalize hL : levelsOf st sp bk cf reo rs = L at q hls
    repeat' walk_at "m"
    refine ev_listM (evs_nil ⟨Nat.le_of_ble_eq_true rfl, fun a ha => ?_⟩)
    repeat' walk_at "m"
    refine ex_forR (fun b : Bool => [("found", .ref a), ("is_first", .bool b), ("options", optV st bk cf (reoO reo) sp), ("plain", .none)]) (fun vs b σ' => X2 fun dn r => A5 (L = dn ++ r) (vs = r.map vInts) (b = decide (dn = [])) (σ' a = some (.list ((keyOf dn).map .int))) (∀ b, b ≠ a → σ' b = σ b)) ?_ ?_ ?_
    · refine it_of ?_
      repeat' walk_at "m"
      refine (c_levels H hr h0 h1 hs hl ?_).call
      rw [hL]
      exact ⟨_, itv_lst, true, by walk_at "rle", [], L, rfl, rfl, rfl, Sig.set_self .., fun b hb => Sig.set_ne hb⟩
    · rintro v rest b σ' ⟨dn, r, hd, hv, hb, t1, t2⟩
      cases r with
      | nil => cases hv
      | cons l r =>
        obtain ⟨rfl, rfl⟩ := List.cons.inj hv
        have k1 : l.length ≤ 1000 := Nat.le_trans (hls.2 l (by rw [hd]; simp)) hl
        have k2 : dn.length ≤ 3 := by have := hls.1; rw [hd] at this; simp at this; bv_omega
        have k3 : (keyOf dn).length ≤ dn.length * 1001 := keyOf_len fun x hx => Nat.le_trans (hls.2 x (by rw [hd]; simp [hx])) hl
        have hsz := sizeLine_eq
        intro N' hN
        have hstep : ∀ σ₁ : Sig, σ₁ a = some (.list ((keyOf dn).map .int ++ (if dn = [] then [] else [V.int 0]))) → (∀ b, b ≠ a → σ₁ b = σ b) → ∀ ws, ws = l.map V.int → N' [("is_first", .bool false), ("level", vInts l), ("found", .ref a), ("is_first", .bool b), ("options", optV st bk cf (reoO reo) sp), ("plain", .none)] (σ₁.set a (.list (((keyOf dn).map .int ++ (if dn = [] then [] else [V.int 0])) ++ ws))) := by
          rintro σ₁ e1 e2 ws rfl
          refine hN _ _ false (by walk_at "rle") ⟨dn ++ [l], r, by rw [hd]; simp, rfl, by simp, ?_, fun b hb => by rw [Sig.set_ne hb]; exact e2 b hb⟩
          rw [Sig.set_self, keyOf_snoc]
          split <;> simp
        repeat' walk_at "m"
        · rename_i h
          have hdn : ¬ dn = [] := by rw [hb] at h; simpa using h
          rw [if_neg hdn] at hstep
          refine ⟨_, t1, by rw [List.length_map]; bv_omega, ?_⟩
          repeat' walk_at "m"
          refine ⟨_, _, Sig.set_self .., .f, by simp; bv_omega, ?_⟩
          repeat' walk_at "m"
          exact hstep _ (Sig.set_self ..) (fun b hb => by rw [Sig.set_ne hb]; exact t2 b hb) _ rfl
        · rename_i h
          have hdn : dn = [] := by rw [hb] at h; simpa using h
          rw [if_pos hdn] at hstep
          rw [List.append_nil] at hstep
          refine ⟨_, _, t1, .f, by simp; bv_omega, ?_⟩
          repeat' walk_at "m"
          exact hstep _ t1 t2 _ rfl
    · rintro b σ' ⟨dn, r, hd, hv, hb, t1, t2⟩
      cases r with
      | cons => cases hv
      | nil =>
        rw [List.append_nil] at hd
        subst hd
        repeat' walk_at "m"
        all_goals first
          | bv_omega
          | exact ⟨a, _, rfl, t1, σ, Sle.del_new ha t2, q⟩
end
end
section
section
variable {g : G} {k : Nat} {σ : Sig} {Q : V → Sig → Prop}
noncomputable def sgnLL : List (List Int) → List (List Int) → Int
  | a :: as, b :: bs => if sgnL a b = 0 then sgnLL as bs else sgnL a b
  | _, _ => 0
theorem c_cmpw (H : GK g) {rs ss : List Row} {st sp : Int} {bk : Bool} {cf : Str} {reo : Option (List Int × List (Int × Int) × Int)} (hr : ReoOK reo) (h0 : 0 < sp) (h1 : sp < 1000) (hs : st ≤ 3) (hl : rs.length ≤ 1000) (hl2 : ss.length ≤ 1000)
    (q : Q (.int (sgnLL (levelsOf st sp bk cf reo rs) (levelsOf st sp bk cf reo ss))) σ) : CALLC g (k + 4) (.ref 166) [rowsV rs, rowsV ss, optV st bk cf (reoO reo) sp] σ Q := by
  walk_at "fn0"
  case body =>
    have A1 := levels_small (st := st) (sp := sp) (bk := bk) (cf := cf) (reo := reo) (rs := rs)
    have A2 := levels_small (st := st) (sp := sp) (bk := bk) (cf := cf) (reo := reo) (rs := ss)
    have L1 := fun (n : Nat) (Q : V → Sig → Prop) => c_level (n := n) (k := k) (σ := σ) (Q := Q) H (sp := sp) (bk := bk) (cf := cf) hr h0 h1 hs hl
    have L2 := fun (n : Nat) (Q : V → Sig → Prop) => c_level (n := n) (k := k) (σ := σ) (Q := Q) H (sp := sp) (bk := bk) (cf := cf) hr h0 h1 hs hl2
    generalize levelsOf st sp bk cf reo rs = X at *
    generalize levelsOf st sp bk cf reo ss = Y at *
    repeat' walk_at "m"
    refine ex_whileR (fun x : Nat × Int => [("number", .int x.1), ("told", .int x.2), ("one", rowsV rs), ("other", rowsV ss), ("options", optV st bk cf (reoO reo) sp)]) (fun n x σ' => σ' = σ ∧ sgnLL X Y = (if x.2 = 0 then sgnLL (X.drop x.1) (Y.drop x.1) else x.2) ∧ n = X.length + 1 - x.1 ∧ x.1 ≤ X.length) (X.length + 1) (0, 0) (by walk_at "rle") ⟨rfl, rfl, rfl, Nat.zero_le _⟩ ?_
    rintro n ⟨i, t⟩ σ' ⟨e, e1, e2, e3⟩
    subst e
    dsimp only at *
    repeat' walk_at "m"
    · refine (L1 _ _ ?_).call
      repeat' walk_at "m"
      refine (L2 _ _ ?_).call
      have hxy : (X[i]? = none ∨ Y[i]? = none) → Q (.int 0) σ' := fun h => by
        rw [e1, if_pos ‹_›] at q
        have : sgnLL (X.drop i) (Y.drop i) = 0 := by
          rcases h with h | h
          · rw [List.drop_eq_nil_of_le (List.getElem?_eq_none_iff.mp h)]; unfold sgnLL; rfl
          · rw [List.drop_eq_nil_of_le (List.getElem?_eq_none_iff.mp h)]; unfold sgnLL; split <;> first | rfl | contradiction
        rw [this] at q; exact q
      cases hx : X[i]? with
      | none =>
        dsimp only
        cases hy : Y[i]? with
        | none => dsimp only; (repeat' walk_at "m"); exact hxy (.inl hx)
        | some b => dsimp only; (repeat' walk_at "m"); exact hxy (.inl hx)
      | some a =>
        dsimp only
        cases hy : Y[i]? with
        | none => dsimp only; (repeat' walk_at "m"); exact hxy (.inr hy)
        | some b =>
          dsimp only
          have m1 := A1.2 a (List.mem_of_getElem? hx)
          have m2 := A2.2 b (List.mem_of_getElem? hy)
          obtain ⟨i1, f1⟩ := List.getElem?_eq_some_iff.mp hx
          obtain ⟨i2, f2⟩ := List.getElem?_eq_some_iff.mp hy
          repeat' walk_at "m"
          refine (c_compare_lists H (by bv_omega) (by bv_omega) ?_).call
          repeat' walk_at "m"
          refine ⟨X.length + 1 - (i + 1), (i + 1, sgnL a b), by bv_omega, by walk_at "rle", rfl, ?_, rfl, i1⟩
          rw [e1, if_pos ‹_›, List.drop_eq_getElem_cons i1, List.drop_eq_getElem_cons i2, f1, f2]
          rfl
    · rw [e1, if_neg ‹_›] at q; exact q
end
end
section
section
variable {g : G} {k : Nat} {σ : Sig} {Q : V → Sig → Prop}
theorem c_place (H : GK g) {o : V} {ns : List Int} {x : Int} {c : Nat} (ho : LI σ o (ns.map .int)) (hl : ns.length ≤ 1000) (hc : c ≤ ns.length) (hs : ∀ i : Nat, (h : i < ns.length) → (ns[i] ≤ x ↔ i < c)) (q : Q (.int (c - 1)) σ) : CALLC g (k + 1) (.ref 173) [o, .int x] σ Q := by
  walk_at "fn0"
  case body =>
    repeat' walk_at "m"
    refine c_len ho (by rw [List.length_map]; bv_omega) ?_
    rw [List.length_map]
    repeat' walk_at "m"
    refine ex_whileR (fun y : Nat × Nat => [("low", .int y.1), ("high", .int y.2), ("firsts", o), ("number", .int x)]) (fun n y σ' => σ' = σ ∧ y.1 ≤ c ∧ c ≤ y.2 ∧ y.2 ≤ ns.length ∧ n = y.2 - y.1) ns.length (0, ns.length) (by walk_at "rle") ⟨rfl, Nat.zero_le _, hc, Nat.le_refl _, rfl⟩ ?_
    rintro n ⟨lo, hi⟩ σ' ⟨e, e1, e2, e3, e4⟩
    subst e
    dsimp only at *
    repeat' walk_at "m"
    · rename_i h
      refine op_div ?_ (by decide) (by decide)
      obtain ⟨md, hm, b1, b2⟩ : ∃ md : Nat, ((lo : Int) + hi).fdiv 2 = md ∧ lo ≤ md ∧ md < hi := ⟨(lo + hi) / 2, by rw [Int.fdiv_eq_ediv_of_nonneg _ (by decide)]; bv_omega, by bv_omega, by bv_omega⟩
      rw [hm]
      have b3 : md < ns.length := by bv_omega
      repeat' walk_at "m"
      refine item_list ho (by bv_omega) (by rw [Int.toNat_natCast]; exact ints_get b3) (by bv_omega) ?_
      repeat' walk_at "m"
      · rename_i h2
        have := (hs md b3).mp h2
        exact ⟨hi - (md + 1), (md + 1, hi), by bv_omega, by walk_at "rle", rfl, by bv_omega, e2, e3, rfl⟩
      · rename_i h2
        have := mt (hs md b3).mpr h2
        exact ⟨md - lo, (lo, md), by bv_omega, by walk_at "rle", rfl, e1, by bv_omega, by bv_omega, rfl⟩
    · have : lo = c := by bv_omega
      subst this
      exact q
end
end
section
section
variable {g : G} {k : Nat} {σ : Sig} {Q : V → Sig → Prop}
theorem c_opt_init (H : GK g) {st sp : Int} {bk : Bool} {cf : Str} {reo : V} {dx : Addr} (hd : σ dx = some (.dS []))
    (q : Q .none (σ.set dx (.dS [("factors", .tup [.int 1, .int 1, .int sp]), ("how", .str "non-ignorable"), ("strength", .int st), ("is_backwards", .bool bk), ("case_first", .str cf), ("has_case_level", .bool false), ("is_numeric", .bool false), ("reorder", reo)]))) :
    CALLC g (k + 1) (.ref 37) [.inst 40 dx, .str "non-ignorable", .int st, .bool bk, .str cf, .bool false, .bool false, reo, .tup [.int 1, .int 1, .int sp]] σ Q := by
  walk_at "fn0"
  case body =>
    repeat' walk_at "m"
    simp only [Sig.set_set]
    exact q
theorem c_range_init (H : GK g) {i : Int} {dx : Addr} (hd : σ dx = some (.dS [])) (q : Q .none (σ.set dx (.dS [("default", .int i), ("starts", .lst [.int 0]), ("values", .lst [.int i])]))) : CALLC g (k + 1) (.ref 380) [.inst 409 dx, .int i] σ Q := by
  walk_at "fn0"
  case body =>
    repeat' walk_at "m"
    simp only [Sig.set_set]
    exact q
theorem c_range_get (H : GK g) {sts vals : List Int} {o : V} {d : V} {x v : Int} {c : Nat} (ho : AT σ o 409 [("default", d), ("starts", .lst (sts.map .int)), ("values", .lst (vals.map .int))]) (hl : sts.length ≤ 1000) (hc : c < sts.length) (hs : ∀ i : Nat, (h : i < sts.length) → (sts[i] ≤ x ↔ i < c + 1)) (hv : vals[c]? = some v) (q : Q (.int v) σ) :
    CALLC g (k + 2) (.ref 387) [o, .int x] σ Q := by
  walk_at "fn0"
  case body =>
    refine ex_cons (ex_return (ev_sub (ev_attr (ev_name rfl ⟨_, _, .lst (vals.map .int), ho, rfl, own_attr H (by kernel_rfl), (by intro w e; cases e), ?_⟩))))
    walk_at "m"
    refine evs_cons (ev_attr (ev_name rfl ⟨_, _, .lst (sts.map .int), ho, rfl, own_attr H (by kernel_rfl), (by intro w e; cases e), ?_⟩))
    repeat' walk_at "m"
    refine (c_place H (c := c + 1) .f hl (by bv_omega) hs ?_).call
    refine item_list .f (by bv_omega) (v := .int v) ?_ (by bv_omega) q
    rw [show (((c + 1 : Nat) : Int) - 1).toNat = c by bv_omega, List.getElem?_map, hv]
    rfl
end
end
section
section
variable {g : G} {k : Nat} {sc : Scope} {ρ : Rho} {σ : Sig} {N : Rho → Sig → Prop} {Q : V → Sig → Prop}
/-- a list that may be turned, taken apart -/
theorem asn_tupleL {fn : Bool} {ts : List Expr} {n : Nat} {pos : Pos} {v : V} {vs : List V} (hv : LI σ v vs) (hl : vs.length = ts.length) (h : ASNS g k fn sc ρ ts vs σ N) (hn : autoParam (noStar ts = true) Mine.sxR) : ASN g k fn sc ρ (.Tuple ts n pos) v σ N := by
  intro F A D s c hs hc Rm S E r
  show W g A F.own F.md (standAt pos >>= fun _ => unpack c (assignEach ts F.env)) D σ s _
  refine W.standAt ?_
  unfold unpack
  rw [assignEach_plain _ _ hn]
  rw [List.length_map, show (ts.map fun e => (false, assign e F.env)).findIdx? (·.1) = none from by rw [List.findIdx?_eq_none_iff]; simp]
  obtain ⟨a, cs, m, rfl, ho, rs⟩ := hv.at_ S r
  refine W.bind (W.holding ?_)
  have := kun_itemsOf (prog := g.prog) (w := g.w) (A := A) (E := NoE) (s := s) (l := a) (items := cs.toArray) (Q := fun cs s' => WR g F.own F.md D σ s (fun D' σ' s' => W g A F.own F.md (((ts.map fun e => (false, assign e F.env)).map (·.2) |> fun l => assignInOrder l cs)) D' σ' s' fun _ D' σ' s' => ∃ ρ', ER g F ρ' D' s'.heap ∧ N ρ' σ') s') Rm.hh ⟨_, ho, rfl, m, rfl⟩ (fun h' hx => by
    have kp : ∀ b o, s.heap.get? b = some o → h'.get? b = some o := fun b o e => hx b o (Nat.ne_of_lt (Heap.lt_size e)) e
    refine ⟨D, σ, S.keeps kp, Step.keeps kp, ?_⟩
    rw [List.map_map]
    exact h F A D _ cs hs hc Rm (S.keeps kp) (E.keeps (.refl _) fun b o _ e => kp b o e) rs)
  rw [List.size_toArray, rs.length, hl] at this
  exact this
noncomputable abbrev wellM (ns : List Int) (p : Nat) : MO := .list [.lst (ns.map .int), .int p]
theorem c_draw (H : GK g) {a : Addr} {ns : List Int} {p : Nat} {m : Int} (hσ : σ a = some (wellM ns p)) (hl : ns.length ≤ 1000) (hp : p ≤ 100000) (hm : 0 < m)
    (q : ∀ i : Int, 0 ≤ i → i < m → Q (.int i) (σ.set a (wellM ns (p + 1)))) : CALLC g (k + 1) (.ref 490) [.ref a, .int m] σ Q := by
  have fm : ∀ x : Int, Q (.int (x.fmod m)) (σ.set a (wellM ns (p + 1))) := fun x => q _ (Int.fmod_nonneg_of_pos _ hm) (Int.fmod_lt_of_pos _ hm)
  walk_at "fn0"
  case body =>
    walk_at "m"
    walk_at "m"
    walk_at "m"
    refine asn_tupleL (.m hσ) rfl ?_
    repeat' walk_at "m"
    refine seti_list hσ (by decide) (by show (1:Int) < (2:Nat); decide) (Nat.le_of_ble_eq_true rfl) ?_
    repeat' walk_at "m"
    · refine item_list .f (by bv_omega) (v := .int (ns.getD p 0)) ?_ (by bv_omega) ?_
      · rename_i hb
        rw [Int.toNat_natCast, List.getElem?_map, List.getD_eq_getElem?_getD, List.getElem?_eq_getElem (by rw [List.length_map] at hb; bv_omega)]
        rfl
      · repeat' walk_at "m"
        exact op_mod (fm _) (by bv_omega)
    · refine op_div ?_ (by decide) (by decide)
      repeat' walk_at "m"
      exact op_mod (fm _) (by bv_omega)
theorem c_drawS (H : GK g) {a : Addr} {ns : List Int} {p : Nat} {m : Int} (hl : ns.length ≤ 1000) (hp : p ≤ 100000) (hm : 0 < m) (q : ∀ i : Int, 0 ≤ i → i < m → Q (.int i) (σ.set a (wellM ns (p + 1)))) : CALL g (k + 1) (.ref 490) [.ref a, .int m] (σ.set a (wellM ns p)) Q :=
  (c_draw H (Sig.set_self ..) hl hp hm fun i a b => by rw [Sig.set_set]; exact q i a b).call
end
end
section
section
variable {g : G} {k : Nat} {σ : Sig} {Q : V → Sig → Prop}
noncomputable abbrev capsL : List Int := [8, 9, 10, 11, 12, 14, 17, 18, 29]
theorem c_caps (H : GK g) (q : Q (.lst (capsL.map .int)) σ) : CALLC g (k + 1) (.ref 476) [] σ Q := by
  walk_at "fn0"
  case body =>
    repeat' walk_at "m"
    exact q
noncomputable abbrev codesL : List (List Int) := [[97], [98], [97, 768], [97, 768, 769], [97, 98], [97, 98, 769], [97, 98, 99], [768]]
theorem c_codes (H : GK g) (q : Q (.lst (codesL.map fun l => .tup (l.map .int))) σ) : CALLC g (k + 1) (.ref 483) [] σ Q := by
  walk_at "fn0"
  case body =>
    repeat' walk_at "m"
    exact q
noncomputable def sgnP (lt gt : Bool) : Int := if gt = true then 1 else if lt = true then -1 else 0
theorem c_sign_rows (H : GK g) {as bs : List (List Int)} (q : Q (.int (sgnP (lexB ltL as bs) (lexB ltL bs as))) σ) : CALLC g (k + 1) (.ref 519) [.lst (as.map vInts), .lst (bs.map vInts)] σ Q := by
  walk_at "fn0"
  case body =>
    repeat' first | refine cmp_gt_rows .f .f ?_ | refine cmp_lt_rows .f .f ?_ | walk_at "m"
    · rename_i h; rw [sgnP, if_pos h] at q; exact q
    · rename_i h1 h2; rw [sgnP, if_neg (by rw [h1]; exact Bool.false_ne_true), if_pos h2] at q; exact q
    · rename_i h1 h2; rw [sgnP, if_neg (by rw [h1]; exact Bool.false_ne_true), if_neg (by rw [h2]; exact Bool.false_ne_true)] at q; exact q
theorem c_sign_bts (H : GK g) {a b : Array UInt8} {lt gt : Bool} (h1 : (Builtin.Bytes.order a.toList b.toList == .lt) = lt) (h2 : (Builtin.Bytes.order a.toList b.toList == .gt) = gt) (q : Q (.int (sgnP lt gt)) σ) : CALLC g (k + 1) (.ref 519) [.bts a, .bts b] σ Q := by
  walk_at "fn0"
  case body =>
    repeat' first | (refine cmp_gt_bts ?_; rw [h2]) | (refine cmp_lt_bts ?_; rw [h1]) | walk_at "m"
    · rename_i h; rw [sgnP, if_pos h] at q; exact q
    · rename_i h1 h2; rw [sgnP, if_neg (by rw [h1]; exact Bool.false_ne_true), if_pos h2] at q; exact q
    · rename_i h1 h2; rw [sgnP, if_neg (by rw [h1]; exact Bool.false_ne_true), if_neg (by rw [h2]; exact Bool.false_ne_true)] at q; exact q
theorem item_pick {vs : List V} {i : Int} (h0 : 0 ≤ i) (h1 : i < vs.length) (hl : vs.length ≤ 1000) (q : ∀ v ∈ vs, Q v σ) : ITEM g k (.lst vs) (.int i) σ Q :=
  item_list .f h0 (List.getElem?_eq_getElem (by bv_omega)) (by bv_omega) (q _ (List.getElem_mem _))
theorem item_pickI {ns : List Int} {i : Int} (h0 : 0 ≤ i) (h1 : i < ns.length) (hl : ns.length ≤ 1000) (q : ∀ n ∈ ns, Q (.int n) σ) : ITEM g k (.lst (ns.map .int)) (.int i) σ Q :=
  item_pick h0 (by rw [List.length_map]; exact h1) (by rw [List.length_map]; exact hl) fun v hv => by
    obtain ⟨n, hn, rfl⟩ := List.mem_map.mp hv
    exact q n hn
end
end
section
section
variable {g : G} {k : Nat} {σ : Sig} {Q : V → Sig → Prop}
noncomputable abbrev natsV (l : List Nat) : V := .lst (l.map fun i : Nat => V.int i)
noncomputable abbrev lotsV (starts sizes : List Int) (order : List Nat) : V := .tup [.lst (starts.map .int), .lst (sizes.map .int), natsV order]
structure LotsOK (starts sizes : List Int) (order : List Nat) : Prop where
  len : starts.length = sizes.length
  lo : 2 ≤ sizes.length
  hi : sizes.length ≤ 5
  sz : ∀ s ∈ sizes, 1 ≤ s ∧ s ≤ 4
  st : ∃ b : Int, 20 ≤ b ∧ b ≤ 28 ∧ starts = (List.range sizes.length).map fun i => b + (sizes.take i).sum
  perm : order.Perm (List.range sizes.length)
theorem LotsOK.olen {starts sizes : List Int} {order : List Nat} (h : LotsOK starts sizes order) : order.length = sizes.length := by rw [h.perm.length_eq, List.length_range]
theorem LotsOK.mem {starts sizes : List Int} {order : List Nat} (h : LotsOK starts sizes order) {i : Nat} (hi : i ∈ order) : i < sizes.length := List.mem_range.mp (h.perm.mem_iff.mp hi)
noncomputable def lotRow (starts sizes : List Int) (lot : Nat) : List Int := (List.range (sizes.getD lot 0).toNat).map fun i : Nat => starts.getD lot 0 + i
noncomputable def lawRow (starts sizes : List Int) (order : List Nat) : List Int := order.flatMap (lotRow starts sizes)
noncomputable def lawMoved (starts sizes : List Int) (order : List Nat) (p : Int) : Int := if p ∈ lawRow starts sizes order then starts.getD 0 0 + ((lawRow starts sizes order).idxOf p : Nat) else p
theorem LotsOK.szD {starts sizes : List Int} {order : List Nat} (h : LotsOK starts sizes order) {i : Nat} (hi : i < sizes.length) : 1 ≤ sizes.getD i 0 ∧ sizes.getD i 0 ≤ 4 := by
  rw [getD_lt hi]; exact h.sz _ (List.getElem_mem _)
theorem lawRow_len {starts sizes : List Int} {order : List Nat} (h : LotsOK starts sizes order) : ∀ {l : List Nat}, (∀ i ∈ l, i ∈ order) → (lawRow starts sizes l).length ≤ 4 * l.length := by
  intro l
  induction l with
  | nil => intro _; exact Nat.le_refl _
  | cons i l ih =>
    intro hl
    have := ih fun j hj => hl j (.tail _ hj)
    have h2 := h.szD (h.mem (hl i (.head _)))
    simp only [lawRow, List.flatMap_cons, List.length_append, List.length_cons] at this ⊢
    have h3 : (lotRow starts sizes i).length = (sizes.getD i 0).toNat := by simp [lotRow]
    bv_omega
theorem get_ints {ns : List Int} {i : Nat} (h : i < ns.length) : (ns.map V.int)[(i : Int).toNat]? = some (.int (ns.getD i 0)) := by rw [Int.toNat_natCast, ints_get h, getD_lt h]
theorem c_lmoved (H : GK g) {starts sizes : List Int} {order : List Nat} {p : Int} (hL : LotsOK starts sizes order) (q : Q (.int (lawMoved starts sizes order p)) σ) : CALLC g (k + 1) (.ref 500) [lotsV starts sizes order, .int p] σ Q := by
  walk_at "fn0"
  case body =>
    refine EX.fin ?_
    repeat' walk_at "m"
    refine ev_listM (evs_nil ⟨Nat.le_of_ble_eq_true rfl, fun a ha => asn_name rfl ?_⟩)
    have h5 := hL.hi
    have h6 := hL.olen
    have h7 := hL.len
    refine ex_cons ?_
    refine ex_forL (fun _ : Unit => [("row", .ref a), ("starts", .lst (starts.map .int)), ("sizes", .lst (sizes.map .int)), ("primary", .int p)]) order (fun i : Nat => V.int i) (fun dn _ σ' => σ' a = some (.list ((lawRow starts sizes dn).map .int)) ∧ ∀ b, b ≠ a → σ' b = σ b) ?_ ?_ ?_
    · refine it_of (ev_name rfl ⟨_, itv_lst, (), rfl, by walk_at "rle", Sig.set_self .., fun b hb => Sig.set_ne hb⟩)
    · rintro dn e r _ σ' hes ⟨t1, t2⟩
      focus
        have he : e < sizes.length := hL.mem (by rw [hes]; simp)
        have hz := hL.szD he
        have hd := lawRow_len hL (l := dn) fun i hi => by rw [hes]; exact List.mem_append_left _ hi
        have hdl : dn.length ≤ 5 := by have := congrArg List.length hes; rw [List.length_append] at this; bv_omega
        intro N' hN
        repeat' walk_at "m"
        refine ev_listcomp (cx_mapI (List.range (sizes.getD e 0).toNat) (fun i : Nat => .int (0 + i)) (fun i => [starts.getD e 0 + i]) ?_ (fun _ => Nat.le_refl 1) (by rw [List.length_range]; bv_omega) ?_ ?_)
        · refine it_of ?_
          repeat' walk_at "m"
          refine item_list .f (Int.natCast_nonneg e) (get_ints he) (by bv_omega) ?_
          repeat' walk_at "m"
          refine ⟨_, itv_rng (by decide) (by bv_omega), ?_, rfl⟩
          rw [rangeV, Int.sub_zero]
        · intro i hi us hus
          show EV _ _ _ _ _ _ _
          repeat' walk_at "m"
          refine item_list .f (Int.natCast_nonneg e) (get_ints (by bv_omega)) (by bv_omega) ?_
          repeat' walk_at "m"
          rw [Int.zero_add]
          exact ⟨hus, rfl, rfl⟩
        · rw [flat_one]
          refine ⟨_, _, t1, .f, by have := sizeLine_eq; simp only [List.length_map, List.length_range]; bv_omega, ?_⟩
          refine ex_nil (hN _ _ () (by walk_at "rle") ⟨?_, fun b hb => by rw [Sig.set_ne hb]; exact t2 b hb⟩)
          rw [Sig.set_self, ← List.map_append]
          show _ = some (MO.list ((lawRow starts sizes (dn ++ [e])).map V.int))
          simp [lawRow, lotRow]
    · rintro _ σ' ⟨t1, t2⟩
      focus
        have hle : Sle σ σ' := fun b m e => by
          have hb : b ≠ a := fun q => by rw [q, ha] at e; cases e
          rw [t2 b hb]; exact e
        have hd := lawRow_len hL (l := order) fun i hi => hi
        repeat' first | refine cmp_in_L (.m t1) ?_ | walk_at "m"
        · rename_i h
          refine item_list .f (by decide) (get_ints (i := 0) (by have := hL.lo; bv_omega)) (by decide) ?_
          refine ev_mcall (ev_name rfl ⟨_, mres_list (.m t1) PySem.F.slot_list_index rfl, keep_builtin, ?_⟩)
          repeat' walk_at "m"
          refine c_index (.m t1) h (by have := sizeLine_eq; bv_omega) ?_
          refine op_add ⟨σ, hle, ?_⟩
          rw [lawMoved, if_pos h] at q
          exact q
        · rename_i h
          rw [lawMoved, if_neg h] at q
          exact ⟨σ, hle, q⟩
end
end
section
section
variable {g : G} {k : Nat} {σ : Sig} {Q : V → Sig → Prop}
structure ElemOK (e : Elem) : Prop where
  a : 0 ≤ e.1 ∧ e.1 ≤ 100
  b : 0 ≤ e.2.1 ∧ e.2.1 ≤ 100
  c : 0 ≤ e.2.2.1 ∧ e.2.2.1 ≤ 100
  d : e.2.2.2 = false
theorem LotsOK.s0 {starts sizes : List Int} {order : List Nat} (h : LotsOK starts sizes order) : 20 ≤ starts.getD 0 0 ∧ starts.getD 0 0 ≤ 28 := by
  obtain ⟨b, h1, h2, e⟩ := h.st
  have := h.lo
  rw [e, getD_lt (by rw [List.length_map, List.length_range]; bv_omega)]
  simp
  bv_omega
theorem sum_le {l : List Int} (h : ∀ s ∈ l, 1 ≤ s ∧ s ≤ 4) : (l.length : Int) ≤ l.sum ∧ l.sum ≤ 4 * l.length := by
  induction l with
  | nil => exact ⟨Int.le_refl _, Int.le_refl _⟩
  | cons a l ih =>
    have h1 := ih fun s hs => h s (.tail _ hs)
    have h2 := h a (.head _)
    simp only [List.sum_cons, List.length_cons]
    bv_omega
theorem c_element (H : GK g) {a : Addr} {ns : List Int} {p : Nat} {starts sizes : List Int} {order : List Nat} {sp : Int} (hσ : σ a = some (wellM ns p)) (hl : ns.length ≤ 1000) (hp : p ≤ 10000) (hL : LotsOK starts sizes order) (hsp : 1 ≤ sp ∧ sp ≤ 3)
    (q : ∀ e p', ElemOK e → p ≤ p' → p' ≤ p + 5 → Q (elV e) (σ.set a (wellM ns p'))) : CALLC g (k + 2) (.ref 507) [.ref a, lotsV starts sizes order, .int sp] σ Q := by
  have s0 := hL.s0
  have s1 := sum_le hL.sz
  have h5 := hL.hi
  have h7 := hL.len
  have h2 := hL.lo
  walk_at "fn0"
  case body =>
    refine ex_cons ?_
    repeat' walk_at "m"
    refine item_list .f (by decide) (get_ints (i := 0) (by bv_omega)) (by decide) ?_
    repeat' walk_at "m"
    refine c_sum .f ?_
    walk_at "x"
    refine ex_cons (ex_assign (EV.mono (Q := fun v σ' => X2 fun (pr : Int) (p1 : Nat) => A5 (v = .int pr) ((0 ≤ pr ∧ pr ≤ 100)) (p ≤ p1) (p1 ≤ p + 2) (σ' = σ.set a (wellM ns p1))) ?_ ?_))
    · repeat' walk_at "m"
      refine (c_draw H hσ hl (by bv_omega) (by decide) fun i1 a1 b1 => ?_).call
      repeat' walk_at "m"
      · exact ⟨0, p + 1, rfl, by decide, by bv_omega, by bv_omega, rfl⟩
      · refine c_drawS H hl (by bv_omega) (by bv_omega) fun i2 a2 b2 => ?_
        repeat' walk_at "m"
        exact ⟨_, p + 1 + 1, rfl, by bv_omega, by bv_omega, by bv_omega, rfl⟩
    rintro _ _ ⟨pr, p1, rfl, r1, r3, r4, rfl⟩
    repeat' walk_at "m"
    refine c_drawS H hl (by bv_omega) (by decide) fun i2 a2 b2 => ?_
    refine item_pickI (ns := [32, 0, 33, 34]) a2 b2 (by decide) fun s hs => ?_
    repeat' walk_at "m"
    refine c_drawS H hl (by bv_omega) (by decide) fun i3 a3 b3 => ?_
    refine item_pickI (ns := [2, 8, 0, 4, 9, 14, 29, 30]) a3 b3 (by decide) fun t ht => ?_
    repeat' walk_at "m"
    refine c_drawS H hl (by bv_omega) (by bv_omega) fun i4 a4 b4 => ?_
    have hs2 : 0 ≤ s ∧ s ≤ 34 := (by decide : ∀ s ∈ ([32, 0, 33, 34] : List Int), 0 ≤ s ∧ s ≤ 34) s hs
    have ht2 : 0 ≤ t ∧ t ≤ 30 := (by decide : ∀ s ∈ ([2, 8, 0, 4, 9, 14, 29, 30] : List Int), 0 ≤ s ∧ s ≤ 30) t ht
    have hm : 0 ≤ t * sp ∧ t * sp ≤ 30 * 3 := ⟨Int.mul_nonneg ht2.1 (by bv_omega), Int.mul_le_mul ht2.2 hsp.2 (by bv_omega) (by decide)⟩
    repeat' walk_at "m"
    · exact q (pr, s, 0, false) _ ⟨r1, ⟨hs2.1, by show s ≤ 100; bv_omega⟩, ⟨Int.le_refl 0, by show (0 : Int) ≤ 100; decide⟩, rfl⟩ (by bv_omega) (by bv_omega)
    · exact q (pr, s, t * sp + i4, false) _ ⟨r1, ⟨hs2.1, by show s ≤ 100; bv_omega⟩, ⟨by show 0 ≤ t * sp + i4; bv_omega, by show t * sp + i4 ≤ 100; bv_omega⟩, rfl⟩ (by bv_omega) (by bv_omega)
end
end
section
section
variable {g : G} {k : Nat} {σ : Sig} {Q : V → Sig → Prop}
theorem eraseIdx_perm {α : Type} {l : List α} {j : Nat} (h : j < l.length) : (l[j] :: l.eraseIdx j).Perm l := by
  rw [List.eraseIdx_eq_take_drop_succ]
  refine List.perm_middle.symm.trans ?_
  rw [← List.drop_eq_getElem_cons h, List.take_append_drop]
theorem eraseIdx_mapV {α β : Type} (f : α → β) (l : List α) (j : Nat) : (l.map f).eraseIdx j = (l.eraseIdx j).map f := by
  rw [List.eraseIdx_eq_take_drop_succ, List.eraseIdx_eq_take_drop_succ, List.map_append, List.map_take, List.map_drop]
theorem c_lots (H : GK g) {a : Addr} {ns : List Int} {p : Nat} (hσ : σ a = some (wellM ns p)) (hl : ns.length ≤ 1000) (hp : p ≤ 10000)
    (q : ∀ starts sizes order p', LotsOK starts sizes order → p ≤ p' → p' ≤ p + 12 → Q (lotsV starts sizes order) (σ.set a (wellM ns p'))) : CALLC g (k + 2) (.ref 495) [.ref a] σ Q := by
  walk_at "fn0"
  case body =>
    refine EX.fin ?_
    repeat' walk_at "m"
    refine (c_draw H hσ hl (by bv_omega) (by decide) fun bg a1 b1 => ?_).call
    repeat' walk_at "m"
    refine c_drawS H hl (by bv_omega) (by decide) fun mn a2 b2 => ?_
    walk_at "x"
    obtain ⟨n, hn, hn2, hn5⟩ : ∃ n : Nat, 2 + mn = n ∧ 2 ≤ n ∧ n ≤ 5 := ⟨(2 + mn).toNat, by bv_omega, by bv_omega, by bv_omega⟩
    rw [hn]
    refine ex_cons (ex_assign (ev_listcomp (cx_list (P := fun vs us σ' => ∃ sz : List Int, A4 (us = sz.map .int) ((∀ s ∈ sz, 1 ≤ s ∧ s ≤ 4)) (vs.length + sz.length = n) (σ' = σ.set a (wellM ns (p + 2 + sz.length)))) ?_ ?_ ?_ rfl rfl rfl rfl)))
    · refine it_of ?_
      repeat' walk_at "m"
      exact ⟨_, itv_rng (by decide) (by bv_omega), [], rfl, (fun s hs => by cases hs), by rw [rangeV_length, List.length_nil]; bv_omega, rfl⟩
    · rintro v rest us σ' ⟨sz, rfl, hs, hlen, rfl⟩
      rw [List.length_cons] at hlen
      show EV _ _ _ _ _ _ _
      repeat' walk_at "m"
      refine c_drawS H hl (by bv_omega) (by decide) fun i a3 b3 => ?_
      repeat' walk_at "m"
      refine ⟨by have := sizeLine_eq; rw [List.length_map]; bv_omega, sz ++ [1 + i], by rw [List.map_append]; rfl, fun s h => ?_, by rw [List.length_append, List.length_singleton]; bv_omega, by rw [List.length_append]; rfl⟩
      rcases List.mem_append.mp h with h | h
      · exact hs s h
      · cases List.mem_singleton.mp h; bv_omega
    rintro us σ' ⟨sz, rfl, hs, hlen, rfl⟩
    refine asn_name rfl ?_
    rw [List.length_nil, Nat.zero_add] at hlen
    refine ex_cons (ex_listcomp (cx_mapI (List.range n) (fun i : Nat => .int (0 + i)) (fun i => [20 + bg + (sz.take i).sum]) ?_ (fun _ => Nat.le_refl 1) (by rw [List.length_range]; bv_omega) ?_ ?_) rfl)
    · refine it_of ?_
      repeat' walk_at "m"
      refine ⟨_, itv_rng (by decide) (by bv_omega), ?_, rfl⟩
      rw [rangeV, Int.sub_zero, Int.toNat_natCast]
    · intro i hi us hus
      show EV _ _ _ _ _ _ _
      repeat' walk_at "m"
      refine ev_slice (ev_name rfl (part_none (part_some (ev_name rfl ⟨_, rfl, part_none ?_⟩))))
      refine sli_upto .f (by have := sizeLine_eq; rw [List.length_map]; bv_omega) (by bv_omega) ?_
      refine evs_nil (c_sum (ns := sz.take i) (by rw [Int.zero_add, Int.toNat_natCast, ← List.map_take]; exact .f) ?_)
      repeat' walk_at "m"
      exact ⟨hus, rfl, rfl⟩
    rw [flat_one]
    generalize hst : (List.range n).map (fun i : Nat => 20 + bg + (sz.take i).sum) = sts
    refine ex_cons ?_
    repeat' walk_at "m"
    refine c_list_rng (by decide) (by bv_omega) (by bv_omega) fun l hl0 => ?_
    refine evs_cons (ev_listM (evs_nil ⟨Nat.le_of_ble_eq_true rfl, fun o ho0 => ?_⟩))
    walk_at "x"
    have la : l ≠ a := (ne_of_set (Sig.set_self ..) hl0).symm
    have lo : l ≠ o := ne_of_set (Sig.set_self ..) ho0
    have oa : o ≠ a := fun e => by rw [e, Sig.set_ne la.symm, Sig.set_self] at ho0; cases ho0
    have ol0 : σ o = none := by rw [Sig.set_ne lo.symm, Sig.set_ne oa] at ho0; exact ho0
    have ll0 : σ l = none := by rw [Sig.set_ne la] at hl0; exact hl0
    refine ex_cons ?_
    refine ex_forR (fun _ : Unit => [("order", .ref o), ("left", .ref l), ("well", .ref a), ("starts", .lst (sts.map .int)), ("sizes", .lst (sz.map .int))])
      (fun vs _ σ' => X2 fun (lf od : List Nat) => A6 ((lf ++ od).Perm (List.range n)) (lf.length = vs.length) (σ' l = some (.list (lf.map fun i : Nat => .int i))) (σ' o = some (.list (od.map fun i : Nat => .int i))) (σ' a = some (wellM ns (p + 2 + n + od.length))) (∀ b, b ≠ l → b ≠ o → b ≠ a → σ' b = σ b)) ?_ ?_ ?_
    · refine it_of ?_
      repeat' walk_at "m"
      refine ⟨_, itv_rng (by decide) (by bv_omega), (), by walk_at "rle", List.range n, [], by rw [List.append_nil], by rw [rangeV_length, List.length_range]; bv_omega, ?_, Sig.set_self .., ?_, fun b h1 h2 h3 => ?_⟩
      · rw [Sig.set_ne lo, Sig.set_self, rangeV]
        simp
      · rw [Sig.set_ne oa.symm, Sig.set_ne la.symm, Sig.set_self, hlen]; rfl
      · rw [Sig.set_ne h2, Sig.set_ne h1, Sig.set_ne h3]
    · rintro v rest _ σ' ⟨lf, od, hpm, hll, t1, t2, t3, t4⟩
      have hpl := hpm.length_eq
      rw [List.length_append, List.length_range] at hpl
      rw [List.length_cons] at hll
      intro N' hN
      repeat' walk_at "m"
      refine ev_mcall (ev_name rfl ⟨_, mres_list (.m t1) PySem.F.slot_list_pop rfl, keep_builtin, ?_⟩)
      repeat' walk_at "m"
      refine c_len (.m t1) (by rw [List.length_map]; bv_omega) ?_
      rw [List.length_map]
      walk_at "m"
      refine (c_draw H t3 hl (by bv_omega) (by bv_omega) fun i a3 b3 => ?_).call
      obtain ⟨j, rfl⟩ : ∃ j : Nat, i = j := ⟨i.toNat, by bv_omega⟩
      have hj : j < lf.length := by bv_omega
      walk_at "m"
      refine c_pop (v := .int (lf[j] : Nat)) ((Sig.set_ne la).trans t1) a3 (by rw [Int.toNat_natCast]; simp [hj]) (by have := sizeLine_eq; rw [List.length_map]; bv_omega) ?_
      refine ⟨_, ((Sig.set_ne lo.symm).trans (Sig.set_ne oa)).trans t2, by have := sizeLine_eq; rw [List.length_map]; bv_omega, ?_⟩
      refine ex_nil (hN _ _ () (by walk_at "rle") ⟨lf.eraseIdx j, od ++ [lf[j]], ?_, ?_, ?_, ?_, ?_, fun b h1 h2 h3 => ?_⟩)
      · refine List.Perm.trans ?_ hpm
        rw [← List.append_assoc]
        refine List.perm_append_comm.trans ?_
        show (lf[j] :: (lf.eraseIdx j ++ od)).Perm _
        exact (eraseIdx_perm hj).append_right od
      · rw [List.length_eraseIdx_of_lt hj]; bv_omega
      · rw [Sig.set_ne lo, Sig.set_self, Int.toNat_natCast, eraseIdx_mapV]
      · rw [Sig.set_self, List.map_append]; rfl
      · rw [Sig.set_ne oa.symm, Sig.set_ne la.symm, Sig.set_self, List.length_append]; rfl
      · rw [Sig.set_ne h2, Sig.set_ne h1, Sig.set_ne h3]; exact t4 b h1 h2 h3
    · rintro _ σ' ⟨lf, od, hpm, hll, t1, t2, t3, t4⟩
      cases lf with
      | cons => cases hll
      | nil =>
        have hpl := hpm.length_eq
        rw [List.nil_append, List.length_range] at hpl
        refine ex_ghost (gh_name (x := "order") rfl t2) ?_
        repeat' walk_at "m"
        refine ⟨σ.set a (wellM ns (p + 2 + n + od.length)), fun b m e => ?_, q sts sz od _ ?_ (by bv_omega) (by bv_omega)⟩
        · by_cases hb : b = a
          · subst hb; rw [Sig.del_ne oa.symm, t3, ← e, Sig.set_self]
          · rw [Sig.set_ne hb] at e
            have h1 : b ≠ l := fun q => by rw [q, ll0] at e; cases e
            have h2 : b ≠ o := fun q => by rw [q, ol0] at e; cases e
            rw [Sig.del_ne h2, t4 b h1 h2 hb, e]
        · exact ⟨by rw [← hst, List.length_map, List.length_range, hlen], by bv_omega, by bv_omega, hs, ⟨20 + bg, by bv_omega, by bv_omega, by rw [hlen]; exact hst.symm⟩, by rw [hlen]; exact hpm⟩
end
end
section
section
variable {g : G} {k : Nat} {σ : Sig} {Q : V → Sig → Prop}
noncomputable def lateB (cf : Str) (sp t : Int) : Bool := (cf == "upper" && !decide (t.fdiv sp ∈ capsL)) || (cf == "lower" && decide (t.fdiv sp ∈ capsL))
noncomputable def posL (x y : Int) : List Int := if 0 < x then [y] else []
theorem posL_len (x y : Int) : (posL x y).length ≤ 1 := by unfold posL; split <;> simp
noncomputable def lawThird (cf : Str) (sp : Int) (e : Elem) : List Int := posL e.2.2.1 (if lateB cf sp e.2.2.1 = true then e.2.2.1 + 256 * sp else e.2.2.1)
noncomputable def lawFirst (starts sizes : List Int) (order : List Nat) (mv : Bool) (e : Elem) : List Int := posL e.1 (if mv = true then lawMoved starts sizes order e.1 else e.1)
noncomputable def lawSecond (e : Elem) : List Int := posL e.2.1 e.2.1
noncomputable def lawLevels (starts sizes : List Int) (order : List Nat) (st sp : Int) (bk : Bool) (cf : Str) (mv : Bool) (es : List Elem) : List (List Int) :=
  ([es.flatMap (lawFirst starts sizes order mv), if bk = true then (es.flatMap lawSecond).reverse else es.flatMap lawSecond, es.flatMap (lawThird cf sp)] : List (List Int)).take st.toNat
theorem c_llevels (H : GK g) {starts sizes : List Int} {order : List Nat} {st sp : Int} {bk mv : Bool} {cf : Str} {es : List Elem} (hL : LotsOK starts sizes order) (hsp : 1 ≤ sp ∧ sp ≤ 3) (hst : 0 ≤ st) (hes : es.length ≤ 100)
    (q : Q (.lst ((lawLevels starts sizes order st sp bk cf mv es).map vInts)) σ) : CALLC g (k + 2) (.ref 512) [elsV es, lotsV starts sizes order, .tup [.int st, .bool bk, .str cf, .bool mv], .int sp] σ Q := by
  walk_at "fn0"
  case body =>
    refine EX.fin ?_
    walk_at "m"
    walk_at "m"
    walk_at "x"
    refine ex_cons (ex_listcomp (cx_mapI es elV (lawFirst starts sizes order mv) (it_of (ev_name rfl ⟨_, itv_lst, rfl, rfl⟩)) (fun e => posL_len _ _) (by bv_omega) ?_ ?_) rfl)
    · intro e he us hus
      show TR _ _ _ _ _ _ _
      repeat' walk_at "m"
      · rename_i h1 h2
        refine (c_lmoved H hL ⟨hus, ?_, rfl⟩).call
        rw [lawFirst, posL, if_pos h1, if_pos h2]; rfl
      · rename_i h1 h2
        exact ⟨hus, by rw [lawFirst, posL, if_pos h1, h2, if_neg Bool.false_ne_true]; rfl, rfl⟩
      · rename_i h1
        exact ⟨by rw [lawFirst, posL, if_neg h1, List.map_nil, List.append_nil], rfl⟩
    refine ex_cons (ex_listcomp (cx_mapI es elV lawSecond (it_of (ev_name rfl ⟨_, itv_lst, rfl, rfl⟩)) (fun e => posL_len _ _) (by bv_omega) ?_ ?_) rfl)
    · intro e he us hus
      show TR _ _ _ _ _ _ _
      repeat' walk_at "m"
      · rename_i h1
        exact ⟨hus, by rw [lawSecond, posL, if_pos h1]; rfl, rfl⟩
      · rename_i h1
        exact ⟨by rw [lawSecond, posL, if_neg h1, List.map_nil, List.append_nil], rfl⟩
    refine ex_cons (ex_assign (ev_listM (evs_nil ⟨Nat.le_of_ble_eq_true rfl, fun a ha => asn_name rfl ?_⟩)))
    refine ex_cons ?_
    refine ex_forL (fun _ : Unit => [("thirds", .ref a), ("seconds", vInts (es.flatMap lawSecond)), ("primaries", vInts (es.flatMap (lawFirst starts sizes order mv))), ("strength", .int st), ("is_back", .bool bk), ("ahead", .str cf), ("spread", .int sp)]) es elV (fun dn _ σ' => σ' a = some (.list ((dn.flatMap (lawThird cf sp)).map .int)) ∧ ∀ b, b ≠ a → σ' b = σ b) ?_ ?_ ?_
    · refine it_of (ev_name rfl ⟨_, itv_lst, (), rfl, by walk_at "rle", Sig.set_self .., fun b hb => Sig.set_ne hb⟩)
    · rintro dn e r _ σ1 hes' ⟨t1, t2⟩
      focus
        have hdl : (dn.flatMap (lawThird cf sp)).length ≤ 100 := by
          have := congrArg List.length hes'
          rw [List.length_append] at this
          exact Nat.le_trans (flat_le (fun e => posL_len _ _) dn) (by bv_omega)
        intro N' hN
        walk_at "m"
        refine ex_cons (ex_assign (EV.mono (Q := fun v σ'' => v = .bool (cf == "upper" && !decide (e.2.2.1.fdiv sp ∈ capsL)) ∧ σ1 = σ'') ?_ ?_))
        · repeat' walk_at "m"
          · rename_i h1
            refine op_div ?_ (by bv_omega) (by bv_omega)
            refine ev_call0 (ev_gname H rfl rfl ⟨_, rfl, keep_fn H (by kernel_rfl), (c_caps H ?_).call⟩)
            refine cmp_notin_L .f ⟨?_, rfl⟩
            rw [show (cf == "upper") = true from beq_iff_eq.mpr h1, Bool.true_and]
          · rename_i h1
            exact ⟨by rw [show (cf == "upper") = false from beq_eq_false_iff_ne.mpr h1, Bool.false_and], rfl⟩
        rintro _ _ ⟨rfl, rfl⟩
        walk_at "m"
        refine ex_cons (ex_assign (EV.mono (Q := fun v σ'' => v = .bool (lateB cf sp e.2.2.1) ∧ σ1 = σ'') ?_ ?_))
        · repeat' walk_at "m"
          · rename_i h1
            exact ⟨by rw [lateB, h1, Bool.true_or], rfl⟩
          · rename_i h1 h2
            refine op_div ?_ (by bv_omega) (by bv_omega)
            refine ev_call0 (ev_gname H rfl rfl ⟨_, rfl, keep_fn H (by kernel_rfl), (c_caps H ?_).call⟩)
            refine cmp_in_L .f ⟨?_, rfl⟩
            rw [lateB, h1, show (cf == "lower") = true from beq_iff_eq.mpr h2, Bool.false_or, Bool.true_and]
          · rename_i h1 h2
            exact ⟨by rw [lateB, h1, show (cf == "lower") = false from beq_eq_false_iff_ne.mpr h2, Bool.false_and, Bool.false_or], rfl⟩
        rintro _ _ ⟨rfl, rfl⟩
        have fin : ∀ l : List Int, lawThird cf sp e = l → (σ1.set a (MO.list ((dn.flatMap (lawThird cf sp)).map V.int ++ l.map V.int))) a = some (MO.list (((dn ++ [e]).flatMap (lawThird cf sp)).map .int)) := fun l hl => by
          rw [Sig.set_self, ← List.map_append, List.flatMap_append]
          simp [hl]
        have fin0 : lawThird cf sp e = [] → σ1 a = some (MO.list (((dn ++ [e]).flatMap (lawThird cf sp)).map .int)) := fun hl => by
          rw [t1, List.flatMap_append]
          simp [hl]
        repeat' walk_at "m"
        · rename_i h1 h2
          refine ⟨_, t1, by have := sizeLine_eq; rw [List.length_map]; bv_omega, ?_⟩
          repeat' walk_at "m"
          exact hN _ _ () (by walk_at "rle") ⟨fin [_] (by rw [lawThird, posL, if_pos h1, if_pos h2]), fun b hb => by rw [Sig.set_ne hb]; exact t2 b hb⟩
        · rename_i h1 h2
          refine ⟨_, t1, by have := sizeLine_eq; rw [List.length_map]; bv_omega, ?_⟩
          repeat' walk_at "m"
          exact hN _ _ () (by walk_at "rle") ⟨fin [_] (by rw [lawThird, posL, if_pos h1, h2, if_neg Bool.false_ne_true]), fun b hb => by rw [Sig.set_ne hb]; exact t2 b hb⟩
        · rename_i h1
          exact hN _ _ () (by walk_at "rle") ⟨fin0 (by rw [lawThird, posL, if_neg h1]), t2⟩
    · rintro _ σ' ⟨t1, t2⟩
      focus
        have hle : Sle σ (σ'.del a) := Sle.del_new ha t2
        have hl2 := flat_le (fun e => posL_len e.2.1 e.2.1) es
        refine ex_ghost (gh_name (x := "thirds") rfl t1) ?_
        refine ex_cons (ex_return (ev_slice (ev_list ?_)))
        have fin : ∀ s : List Int, (if bk = true then (es.flatMap lawSecond).reverse else es.flatMap lawSecond) = s → Q (.lst (List.take st.toNat [vInts (es.flatMap (lawFirst starts sizes order mv)), vInts s, vInts (es.flatMap (lawThird cf sp))])) σ := fun s hs => by
          rw [lawLevels, hs, List.map_take] at q
          exact q
        repeat' walk_at "m"
        · rename_i h1
          refine ev_slice (ev_name rfl (part_none (part_none (part_some (ev_neg (ev_int ⟨rfl, _, rfl, ?_⟩))))))
          refine sli_rev .f (by have := sizeLine_eq; rw [List.length_map]; exact Nat.le_trans hl2 (by bv_omega)) ?_
          repeat' walk_at "m"
          refine part_none (part_some (ev_name rfl ⟨_, rfl, part_none ?_⟩))
          rw [← List.map_reverse]
          exact sli_upto .f (Nat.le_of_ble_eq_true rfl) hst ⟨σ, hle, fin _ (if_pos h1)⟩
        · rename_i h1
          repeat' walk_at "m"
          refine part_none (part_some (ev_name rfl ⟨_, rfl, part_none ?_⟩))
          exact sli_upto .f (Nat.le_of_ble_eq_true rfl) hst ⟨σ, hle, fin _ (if_neg (by rw [h1]; exact Bool.false_ne_true))⟩
end
end
section
set_option maxRecDepth 100000
set_option linter.unusedVariables false
open PySem PySem.W PyProof.Rows PySem.Calls
noncomputable def endOf (starts sizes : List Int) : Int := starts.getD (sizes.length - 1) 0 + sizes.getD (sizes.length - 1) 0
noncomputable abbrev begOf (starts sizes : List Int) (order : List Nat) : List (Int × Int) := begunM starts (endOf starts sizes) order (starts.headD 0) []
noncomputable abbrev reoOf (starts sizes : List Int) (order : List Nat) : List Int × List (Int × Int) × Int := (starts, begOf starts sizes order, endOf starts sizes)
theorem isSome_kput {K α : Type} [DecidableEq K] {l : List (K × α)} {k k' : K} {v : α} (h : k' = k ∨ (kget l k').isSome = true) : (kget (kput l k v) k').isSome = true := by
  rw [kget_kput]
  split
  · rfl
  · rcases h with h | h
    · contradiction
    · exact h
theorem begun_some {starts : List Int} {e : Int} : ∀ (order : List Nat) (a : Int) (m : List (Int × Int)) (i : Nat), (i ∈ order ∨ (kget m (i : Int)).isSome = true) → (kget (begunM starts e order a m) (i : Int)).isSome = true
  | [], _, _, _, h => by
    rcases h with h | h
    · cases h
    · exact h
  | lot :: r, a, m, i, h => by
    refine begun_some r _ _ i ?_
    rcases h with h | h
    · rcases List.mem_cons.mp h with rfl | h
      · exact .inr (isSome_kput (.inl rfl))
      · exact .inl h
    · exact .inr (isSome_kput (.inr h))
theorem reo_ok {starts sizes : List Int} {order : List Nat} (h : LotsOK starts sizes order) : ReoOK (some (reoOf starts sizes order)) := by
  refine ⟨fun i hi => begun_some _ _ _ _ (.inl ?_), by have := h.len; have := h.hi; lia⟩
  exact h.perm.mem_iff.mpr (List.mem_range.mpr (by rw [← h.len]; exact hi))
theorem begun_off {starts : List Int} {e : Int} : ∀ (order : List Nat) (a : Int) (m : List (Int × Int)) (i : Nat), i ∉ order → kget (begunM starts e order a m) (i : Int) = kget m (i : Int)
  | [], _, _, _, _ => rfl
  | lot :: r, a, m, i, h => by
    show kget (begunM starts e r _ (kput m (lot : Int) a)) (i : Int) = _
    rw [begun_off r _ _ i fun x => h (.tail _ x), kget_kput, if_neg]
    intro e
    exact h (by rw [Int.ofNat.inj e]; exact .head _)
theorem mem_lotRow {starts sizes : List Int} {i : Nat} {p : Int} : p ∈ lotRow starts sizes i ↔ starts.getD i 0 ≤ p ∧ p < starts.getD i 0 + sizes.getD i 0 := by
  unfold lotRow
  rw [List.mem_map]
  constructor
  · rintro ⟨j, hj, rfl⟩
    rw [List.mem_range] at hj
    lia
  · intro h
    exact ⟨(p - starts.getD i 0).toNat, List.mem_range.mpr (by lia), by lia⟩
theorem idxOf_range {s : Int} {n j : Nat} (h : j < n) : ((List.range n).map fun i : Nat => s + i).idxOf (s + j) = j := by
  induction n generalizing j with
  | zero => lia
  | succ n ih =>
    rw [List.range_succ, List.map_append, List.idxOf_append]
    by_cases hj : j < n
    · rw [if_pos (List.mem_map.mpr ⟨j, List.mem_range.mpr hj, rfl⟩), ih hj]
    · have : j = n := by lia
      subst this
      rw [if_neg]
      · simp
      · intro hm
        obtain ⟨i, hi, e⟩ := List.mem_map.mp hm
        rw [List.mem_range] at hi
        lia
theorem begun_at {starts sizes : List Int} {e : Int} {L : Nat} {p : Int} (hp : p ∈ lotRow starts sizes L) : ∀ (order : List Nat) (a : Int) (m : List (Int × Int)), order.Nodup → (∀ i ∈ order, gapOf starts e i = ((lotRow starts sizes i).length : Int)) → L ∈ order →
    (∀ i ∈ order, i ≠ L → p ∉ lotRow starts sizes i) → p ∈ lawRow starts sizes order ∧ kget (begunM starts e order a m) (L : Int) = some (a + ((lawRow starts sizes order).idxOf p : Nat) + starts.getD L 0 - p)
  | [], _, _, _, _, h, _ => by cases h
  | lot :: r, a, m, nd, hg, h, hd => by
    have e0 : lawRow starts sizes (lot :: r) = lotRow starts sizes lot ++ lawRow starts sizes r := List.flatMap_cons ..
    have nd' := List.nodup_cons.mp nd
    rw [e0]
    show _ ∧ kget (begunM starts e r (a + gapOf starts e lot) (kput m (lot : Int) a)) (L : Int) = _
    by_cases hl : L = lot
    · subst hl
      refine ⟨List.mem_append.mpr (.inl hp), ?_⟩
      rw [begun_off r _ _ L nd'.1, kget_kput, if_pos rfl, List.idxOf_append, if_pos hp]
      have h2 := mem_lotRow.mp hp
      have : (lotRow starts sizes L).idxOf p = (p - starts.getD L 0).toNat := by
        have h3 := idxOf_range (s := starts.getD L 0) (n := (sizes.getD L 0).toNat) (j := (p - starts.getD L 0).toNat) (by lia)
        rw [show starts.getD L 0 + ((p - starts.getD L 0).toNat : Int) = p by lia] at h3
        exact h3
      rw [this]
      congr 1
      lia
    · have hr : L ∈ r := by
        rcases List.mem_cons.mp h with h | h
        · contradiction
        · exact h
      obtain ⟨i1, i2⟩ := begun_at hp r (a + gapOf starts e lot) (kput m (lot : Int) a) nd'.2 (fun i hi => hg i (.tail _ hi)) hr fun i hi => hd i (.tail _ hi)
      refine ⟨List.mem_append.mpr (.inr i1), ?_⟩
      rw [i2, List.idxOf_append, if_neg (hd lot (.head _) fun x => hl x.symm), hg lot (.head _)]
      congr 1
      lia
theorem lawRow_not {starts sizes : List Int} {order : List Nat} {p : Int} (h : ∀ i ∈ order, p ∉ lotRow starts sizes i) : p ∉ lawRow starts sizes order := by
  intro hp
  obtain ⟨i, hi, h2⟩ := List.mem_flatMap.mp hp
  exact h i hi h2
structure LotsFacts (starts sizes : List Int) (p : Int) : Prop where
  ne : starts ≠ []
  hd : starts.headD 0 = starts.getD 0 0
  gap : ∀ i, i < sizes.length → gapOf starts (endOf starts sizes) i = sizes.getD i 0
  low : p < starts.getD 0 0 → ∀ i, i < sizes.length → p < starts.getD i 0
  high : endOf starts sizes ≤ p → ∀ i, i < sizes.length → starts.getD i 0 + sizes.getD i 0 ≤ p
  mid : starts.getD 0 0 ≤ p → p < endOf starts sizes → ∃ L, L < sizes.length ∧ lotOf starts.tail p = L ∧ starts.getD L 0 ≤ p ∧ p < starts.getD L 0 + sizes.getD L 0 ∧ ∀ i, i < sizes.length → i ≠ L → ¬ (starts.getD i 0 ≤ p ∧ p < starts.getD i 0 + sizes.getD i 0)
theorem pre_succ : ∀ (sizes : List Int) (i : Nat), i < sizes.length → (sizes.take (i + 1)).sum = (sizes.take i).sum + sizes.getD i 0
  | [], _, h => absurd h (Nat.not_lt_zero _)
  | a :: r, 0, _ => by simp
  | a :: r, i + 1, h => by
    have := pre_succ r i (Nat.lt_of_succ_lt_succ h)
    rw [List.take_succ_cons, List.take_succ_cons, List.sum_cons, List.sum_cons, this, List.getD_cons_succ]
    lia
theorem pre_mono {sizes : List Int} (h : ∀ i, i < sizes.length → 1 ≤ sizes.getD i 0) {i : Nat} : ∀ {j : Nat}, i ≤ j → j ≤ sizes.length → (sizes.take i).sum ≤ (sizes.take j).sum
  | 0, h1, _ => by rw [Nat.le_zero.mp h1]; exact Int.le_refl _
  | j + 1, h1, h2 => by
    rcases Nat.lt_or_eq_of_le h1 with h3 | rfl
    · have := pre_mono h (Nat.le_of_lt_succ h3) (Nat.le_of_succ_le h2)
      have := pre_succ sizes j h2
      have := h j h2
      lia
    · exact Int.le_refl _
theorem lotOf_mid {starts : List Int} {p : Int} {L : Nat} (h1 : ∀ i, i < starts.length → i ≤ L → starts.getD i 0 ≤ p) (h2 : ∀ i, i < starts.length → L < i → p < starts.getD i 0) (hL : L < starts.length) : ∀ d j, d = L - j → j ≤ L → lotOf (starts.drop (j + 1)) p = L - j := by
  intro d
  induction d with
  | zero =>
    intro j e hj
    have : j = L := by lia
    subst this
    by_cases hk : j + 1 < starts.length
    · rw [lotOf_step hk, if_neg]
      · lia
      · have := h2 (j + 1) hk (by lia)
        rw [getD_lt hk] at this
        lia
    · rw [List.drop_eq_nil_of_le (by lia)]
      show 0 = _
      lia
  | succ d ih =>
    intro j e hj
    have hk : j + 1 < starts.length := by lia
    rw [lotOf_step hk, if_pos, ih (j + 1) (by lia) (by lia)]
    · lia
    · have := h1 (j + 1) hk (by lia)
      rw [getD_lt hk] at this
      exact this
theorem LotsOK.facts {starts sizes : List Int} {order : List Nat} (h : LotsOK starts sizes order) (p : Int) : LotsFacts starts sizes p := by
  obtain ⟨b, hb1, hb2, hst⟩ := h.st
  have hsz : ∀ i, i < sizes.length → 1 ≤ sizes.getD i 0 := fun i hi => (h.szD hi).1
  have hlen := h.len
  have hlo := h.lo
  have hg : ∀ i, i < sizes.length → starts.getD i 0 = b + (sizes.take i).sum := fun i hi => by
    rw [getD_lt (by lia)]
    have : starts[i]'(by lia) = ((List.range sizes.length).map fun i => b + (sizes.take i).sum)[i]'(by simpa using hi) := by
      congr 1
    rw [this]
    simp
  have he : endOf starts sizes = b + (sizes.take sizes.length).sum := by
    unfold endOf
    rw [hg _ (by lia)]
    have := pre_succ sizes (sizes.length - 1) (by lia)
    rw [show sizes.length - 1 + 1 = sizes.length by lia] at this
    lia
  refine ⟨fun e => by rw [e] at hlen; simp at hlen; lia, ?_, fun i hi => ?_, fun h1 i hi => ?_, fun h1 i hi => ?_, fun h1 h2 => ?_⟩
  · cases starts <;> rfl
  · unfold gapOf
    have h3 := pre_succ sizes i hi
    split
    · rename_i h4
      rw [hg i hi, hg (i + 1) (by lia)]
      lia
    · have h5 : i + 1 = sizes.length := by lia
      rw [he, hg i hi, ← h5, h3]
      lia
  · rw [hg 0 (by lia)] at h1
    rw [hg i hi]
    have := pre_mono hsz (Nat.zero_le i) (by lia)
    lia
  · have h3 := pre_succ sizes i hi
    have := pre_mono hsz (i := i + 1) (j := sizes.length) (by lia) (by lia)
    rw [hg i hi]
    lia
  · have hex : ∀ n, n ≤ sizes.length → p < b + (sizes.take n).sum → ∃ L, L < n ∧ b + (sizes.take L).sum ≤ p ∧ p < b + (sizes.take (L + 1)).sum := by
      intro n
      induction n with
      | zero => intro _ h3; rw [hg 0 (by lia)] at h1; lia
      | succ n ih =>
        intro hn h3
        by_cases h4 : p < b + (sizes.take n).sum
        · obtain ⟨L, h5, h6⟩ := ih (by lia) h4
          exact ⟨L, by lia, h6⟩
        · exact ⟨n, by lia, by lia, h3⟩
    obtain ⟨L, hL, h3, h4⟩ := hex sizes.length (Nat.le_refl _) (by lia)
    have h5 := pre_succ sizes L hL
    refine ⟨L, hL, ?_, by rw [hg L hL]; lia, by rw [hg L hL]; lia, fun i hi hne h6 => ?_⟩
    · have := lotOf_mid (starts := starts) (p := p) (L := L) (fun i hi hiL => by rw [hg i (by lia)]; have := pre_mono hsz hiL (by lia); lia) (fun i hi hiL => by rw [hg i (by lia)]; have := pre_mono hsz (i := L + 1) (j := i) (by lia) (by lia); lia) (by lia) L 0 (by lia) (by lia)
      rw [Nat.sub_zero] at this
      rw [← this]
      simp
    · rw [hg i hi] at h6
      have h7 := pre_succ sizes i hi
      rcases Nat.lt_or_gt_of_ne hne with h8 | h8
      · have := pre_mono hsz (i := i + 1) (j := L) (by lia) (by lia)
        lia
      · have := pre_mono hsz (i := L + 1) (j := i) (by lia) (by lia)
        lia
theorem moved_law {starts sizes : List Int} {order : List Nat} (h : LotsOK starts sizes order) (p : Int) : movedI starts (begOf starts sizes order) (endOf starts sizes) p = lawMoved starts sizes order p := by
  have F := h.facts p
  unfold movedI lawMoved
  have hm : ∀ i ∈ order, i < sizes.length := fun i hi => h.mem hi
  by_cases h1 : p < starts.getD 0 0
  · rw [if_pos (.inr (.inl (by rw [F.hd]; exact h1))), if_neg]
    exact lawRow_not fun i hi h2 => by have := F.low h1 i (hm i hi); have := mem_lotRow.mp h2; lia
  · by_cases h2 : endOf starts sizes ≤ p
    · rw [if_pos (.inr (.inr h2)), if_neg]
      exact lawRow_not fun i hi h3 => by have := F.high h2 i (hm i hi); have := mem_lotRow.mp h3; lia
    · obtain ⟨L, hL, e1, h3, h4, h5⟩ := F.mid (by lia) (by lia)
      rw [if_neg (by rintro (h6 | h6 | h6); exact F.ne h6; rw [F.hd] at h6; exact h1 h6; exact h2 h6), e1]
      have hp := mem_lotRow.mpr ⟨h3, h4⟩
      have nd : order.Nodup := h.perm.nodup_iff.mpr List.nodup_range
      obtain ⟨i1, i2⟩ := begun_at (e := endOf starts sizes) hp order (starts.headD 0) [] nd (fun i hi => by
        rw [F.gap i (hm i hi)]
        have := h.szD (hm i hi)
        unfold lotRow
        rw [List.length_map, List.length_range]
        lia) (h.perm.mem_iff.mpr (List.mem_range.mpr hL)) fun i hi hne h6 => h5 i (hm i hi) hne (mem_lotRow.mp h6)
      rw [if_pos i1, i2, F.hd]
      simp only [Option.getD_some]
      lia
theorem end_bound {starts sizes : List Int} {order : List Nat} (h : LotsOK starts sizes order) : 0 ≤ endOf starts sizes ∧ endOf starts sizes ≤ 100 := by
  obtain ⟨b, hb1, hb2, hst⟩ := h.st
  have hlo := h.lo
  have hhi := h.hi
  have hlen := h.len
  have h1 := h.szD (i := sizes.length - 1) (by lia)
  have h2 : starts.getD (sizes.length - 1) 0 = b + (sizes.take (sizes.length - 1)).sum := by
    rw [getD_lt (by lia)]
    have : starts[sizes.length - 1]'(by lia) = ((List.range sizes.length).map fun i => b + (sizes.take i).sum)[sizes.length - 1]'(by simp; lia) := by
      congr 1
    rw [this]
    simp
  have h3 := sum_le (l := sizes.take (sizes.length - 1)) fun s hs => h.sz s (List.mem_of_mem_take hs)
  rw [List.length_take] at h3
  unfold endOf
  lia
theorem upper_caps (x : Int) : upperB x = decide (x ∈ capsL) := by
  unfold upperB
  refine decide_eq_decide.mpr ?_
  constructor
  · rintro (⟨h1, h2⟩ | h)
    · obtain ⟨n, rfl⟩ : ∃ n : Nat, x = 8 + n := ⟨(x - 8).toNat, by lia⟩
      have : n < 5 := by lia
      exact (by decide : ∀ n : Fin 5, (8 + ((n : Nat) : Int)) ∈ capsL) ⟨n, this⟩
    · exact (by decide : ∀ y ∈ ([14, 17, 18, 29] : List Int), y ∈ capsL) x h
  · exact (by decide : ∀ y ∈ capsL, 8 ≤ y ∧ y ≤ 12 ∨ y ∈ ([14, 17, 18, 29] : List Int)) x
theorem fdiv_add {t m sp : Int} (h : 0 ≤ m) (h2 : m < sp) : (t * sp + m).fdiv sp = t := by
  rw [Int.fdiv_eq_ediv_of_nonneg _ (by lia), Int.add_comm, Int.add_mul_ediv_right _ _ (by lia), Int.ediv_eq_zero_of_lt h h2, Int.zero_add]
noncomputable abbrev reoIf (mv : Bool) (starts sizes : List Int) (order : List Nat) : Option (List Int × List (Int × Int) × Int) := if mv = true then some (reoOf starts sizes order) else none
theorem flat_congr {α β : Type} {f h : α → List β} : ∀ {l : List α}, (∀ e ∈ l, f e = h e) → l.flatMap f = l.flatMap h
  | [], _ => rfl
  | a :: l, H => by rw [List.flatMap_cons, List.flatMap_cons, H a (.head _), flat_congr fun e he => H e (.tail _ he)]
theorem flat_rows (f : Row → List Int) (es : List Elem) : (es.map rowOf).flatMap f = es.flatMap fun e => f (rowOf e) := by rw [List.flatMap_map]
theorem pos_col {f : Row → Int} {r : Row} (h : 0 ≤ f r) (g : Int → Int) : (colOf f r).map g = posL (f r) (g (f r)) := by
  unfold colOf posL
  by_cases e : f r = 0
  · rw [if_pos e, if_neg (by lia)]; rfl
  · rw [if_neg e, if_pos (by lia)]; rfl
theorem pos_col0 {f : Row → Int} {r : Row} (h : 0 ≤ f r) : colOf f r = posL (f r) (f r) := by
  have := pos_col h id
  rwa [List.map_id] at this
theorem firsts_law {starts sizes : List Int} {order : List Nat} {mv : Bool} {es : List Elem} (h : LotsOK starts sizes order) (hes : ∀ e ∈ es, ElemOK e) : firstsOf (reoIf mv starts sizes order) (es.map rowOf) = es.flatMap (lawFirst starts sizes order mv) := by
  unfold firstsOf
  rw [flat_rows, List.map_flatMap]
  refine flat_congr fun e he => ?_
  rw [pos_col (f := fun r => r.1) (hes e he).a.1]
  unfold lawFirst
  congr 1
  cases mv
  · rfl
  · exact moved_law h e.1
theorem seconds_law {bk : Bool} {es : List Elem} (hes : ∀ e ∈ es, ElemOK e) : secondsOf bk (es.map rowOf) = if bk = true then (es.flatMap lawSecond).reverse else es.flatMap lawSecond := by
  unfold secondsOf
  rw [flat_rows, flat_congr fun e he => pos_col0 (f := fun r => r.2.1) (r := rowOf e) (hes e he).b.1]
  rfl
theorem thirds_law {sp : Int} {cf : Str} {es : List Elem} (hes : ∀ e ∈ es, ElemOK e) (hcf : cf = "" ∨ cf = "upper" ∨ cf = "lower") : thirdsOf cf sp (es.map rowOf) = es.flatMap (lawThird cf sp) := by
  unfold thirdsOf
  rw [flat_rows, List.map_flatMap]
  have e1 : ∀ e : Elem, (rowOf e).2.2.1 = e.2.2.1 := fun _ => rfl
  rcases hcf with rfl | rfl | rfl
  · rw [if_pos rfl]
    refine flat_congr fun e he => ?_
    rw [pos_col0 (f := fun r => r.2.2.1) (hes e he).c.1]
    unfold lawThird
    rw [e1]
    rfl
  · rw [if_neg (by decide)]
    refine flat_congr fun e he => ?_
    rw [pos_col (f := fun r => r.2.2.1) (hes e he).c.1]
    unfold lawThird shiftT lateB
    rw [e1, upper_caps]
    congr 1
    have u1 : (("upper" : Str) == "upper") = true := by decide
    have u2 : (("upper" : Str) == "lower") = false := by decide
    rw [u1, u2]
    cases decide (e.2.2.1.fdiv sp ∈ capsL)
    · rfl
    · simp
  · rw [if_neg (by decide)]
    refine flat_congr fun e he => ?_
    rw [pos_col (f := fun r => r.2.2.1) (hes e he).c.1]
    unfold lawThird shiftT lateB
    rw [e1, upper_caps]
    congr 1
    have u1 : (("lower" : Str) == "upper") = false := by decide
    have u2 : (("lower" : Str) == "lower") = true := by decide
    rw [u1, u2]
    cases decide (e.2.2.1.fdiv sp ∈ capsL)
    · simp
    · simp
theorem st_cases {st : Int} (h1 : 1 ≤ st) (h3 : st ≤ 3) : st = 1 ∨ st = 2 ∨ st = 3 := by lia
theorem levels_law {starts sizes : List Int} {order : List Nat} {st sp : Int} {bk mv : Bool} {cf : Str} {es : List Elem} (h : LotsOK starts sizes order) (hes : ∀ e ∈ es, ElemOK e) (hcf : cf = "" ∨ cf = "upper" ∨ cf = "lower") (h1 : 1 ≤ st) (h3 : st ≤ 3) (hsp : 1 ≤ sp ∧ sp ≤ 3) :
    levelsOf st sp bk cf (reoIf mv starts sizes order) (es.map rowOf) = lawLevels starts sizes order st sp bk cf mv es := by
  unfold levelsOf lawLevels
  rw [firsts_law h hes, seconds_law hes, thirds_law hes hcf]
  rcases st_cases h1 h3 with rfl | rfl | rfl <;> rfl
theorem lawLevels_len {starts sizes : List Int} {order : List Nat} {st sp : Int} {bk mv : Bool} {cf : Str} (es : List Elem) (h1 : 1 ≤ st) (h3 : st ≤ 3) : (lawLevels starts sizes order st sp bk cf mv es).length = st.toNat := by
  unfold lawLevels
  rcases st_cases h1 h3 with rfl | rfl | rfl <;> rfl
theorem posL_mem {x y z : Int} (h : z ∈ posL x y) : 0 < x ∧ z = y := by
  unfold posL at h
  split at h
  · exact ⟨by assumption, List.mem_singleton.mp h⟩
  · cases h
theorem lawMoved_pos {starts sizes : List Int} {order : List Nat} (h : LotsOK starts sizes order) {p : Int} (h0 : 0 < p) (h1 : p ≤ 100) : 0 < lawMoved starts sizes order p ∧ lawMoved starts sizes order p < 1000 := by
  unfold lawMoved
  split
  · have := h.s0
    rename_i hm
    have h2 := List.idxOf_lt_length_of_mem hm
    have h3 := lawRow_len h (l := order) fun _ hi => hi
    have := h.olen
    have := h.hi
    lia
  · lia
theorem lawLevels_pos {starts sizes : List Int} {order : List Nat} {st sp : Int} {bk mv : Bool} {cf : Str} {es : List Elem} (h : LotsOK starts sizes order) (hes : ∀ e ∈ es, ElemOK e) (hsp : 1 ≤ sp ∧ sp ≤ 3) :
    ∀ l ∈ lawLevels starts sizes order st sp bk cf mv es, l.length ≤ es.length ∧ ∀ x ∈ l, 0 < x ∧ x < 65535 := by
  intro l hl
  unfold lawLevels at hl
  have h2 := List.mem_of_mem_take hl
  have s1 : (es.flatMap lawSecond).length ≤ es.length ∧ ∀ x ∈ es.flatMap lawSecond, 0 < x ∧ x < 65535 := ⟨flat_le (fun e => posL_len _ _) es, fun x hx => by
    obtain ⟨e, he, h3⟩ := List.mem_flatMap.mp hx
    have := posL_mem h3
    have := (hes e he).b
    lia⟩
  simp only [List.mem_cons, List.not_mem_nil, or_false] at h2
  rcases h2 with rfl | rfl | rfl
  · refine ⟨flat_le (fun e => posL_len _ _) es, fun x hx => ?_⟩
    obtain ⟨e, he, h3⟩ := List.mem_flatMap.mp hx
    obtain ⟨h4, rfl⟩ := posL_mem h3
    have := (hes e he).a
    split
    · have := lawMoved_pos h h4 (by lia)
      lia
    · lia
  · split
    · rw [List.length_reverse]
      exact ⟨s1.1, fun x hx => s1.2 x (List.mem_reverse.mp hx)⟩
    · exact s1
  · refine ⟨flat_le (fun e => posL_len _ _) es, fun x hx => ?_⟩
    obtain ⟨e, he, h3⟩ := List.mem_flatMap.mp hx
    obtain ⟨h4, rfl⟩ := posL_mem h3
    have := (hes e he).c
    split <;> lia
theorem key_bound {ls : List (List Int)} (h : ls.length ≤ 3) (h2 : ∀ l ∈ ls, l.length ≤ 6 ∧ ∀ x ∈ l, 0 < x ∧ x < 65535) : (keyOf ls).length ≤ 1000 ∧ ∀ n ∈ keyOf ls, 0 ≤ n ∧ n < 65535 := by
  have := keyOf_len (m := 6) fun l hl => (h2 l hl).1
  refine ⟨by lia, fun n hn => ?_⟩
  cases ls with
  | nil => cases hn
  | cons a r =>
    rcases List.mem_append.mp hn with hn | hn
    · have := (h2 a (.head _)).2 n hn
      lia
    · obtain ⟨l, hl, hn⟩ := List.mem_flatMap.mp hn
      rcases List.mem_cons.mp hn with rfl | hn
      · lia
      · have := (h2 l (.tail _ hl)).2 n hn
        lia
theorem sgnL_self : ∀ a : List Int, sgnL a a = 0
  | [] => rfl
  | x :: a => by show (if x = x then _ else _) = _; rw [if_pos rfl]; exact sgnL_self a
theorem sgnL_zero : ∀ {a b : List Int}, sgnL a b = 0 → a = b
  | [], [], _ => rfl
  | [], _ :: _, h => by cases h
  | _ :: _, [], h => by cases h
  | x :: a, y :: b, h => by
    change (if x = y then sgnL a b else if x < y then -1 else 1) = 0 at h
    split at h
    · rename_i e; rw [e, sgnL_zero h]
    · split at h <;> cases h
theorem sgnL_neg : ∀ a b : List Int, sgnL b a = -sgnL a b
  | [], [] => rfl
  | [], _ :: _ => rfl
  | _ :: _, [] => rfl
  | x :: a, y :: b => by
    show (if y = x then sgnL b a else if y < x then -1 else 1) = -(if x = y then sgnL a b else if x < y then -1 else 1)
    by_cases h : x = y
    · rw [if_pos h, if_pos h.symm]; exact sgnL_neg a b
    · rw [if_neg h, if_neg fun e => h e.symm]
      split <;> split <;> lia
theorem sgnL_lt : ∀ a b : List Int, sgnL a b = sgnP (ltL a b) (ltL b a)
  | [], [] => rfl
  | [], _ :: _ => rfl
  | _ :: _, [] => rfl
  | x :: a, y :: b => by
    show (if x = y then sgnL a b else if x < y then -1 else 1) = sgnP (if x = y then ltL a b else decide (x < y)) (if y = x then ltL b a else decide (y < x))
    by_cases h : x = y
    · rw [if_pos h, if_pos h, if_pos h.symm]; exact sgnL_lt a b
    · rw [if_neg h, if_neg h, if_neg (show ¬ y = x from fun e => h e.symm)]
      unfold sgnP
      by_cases h2 : x < y
      · have h3 : ¬ y < x := by lia
        simp [h2, h3]
      · have h3 : y < x := by lia
        simp [h2, h3]
theorem sgn_law {as bs : List (List Int)} (h : as.length = bs.length) : sgnP (lexB ltL as bs) (lexB ltL bs as) = sgnLL as bs := by
  induction as generalizing bs with
  | nil => cases bs with
    | nil => rfl
    | cons => cases h
  | cons a as ih => cases bs with
    | nil => cases h
    | cons b bs =>
      show sgnP (if a = b then lexB ltL as bs else ltL a b) (if b = a then lexB ltL bs as else ltL b a) = if sgnL a b = 0 then sgnLL as bs else sgnL a b
      by_cases e : a = b
      · rw [if_pos e, if_pos e.symm, if_pos (by rw [e]; exact sgnL_self b)]
        exact ih (Nat.succ.inj h)
      · rw [if_neg e, if_neg fun x => e x.symm, if_neg fun x => e (sgnL_zero x)]
        exact (sgnL_lt a b).symm
theorem sgnLL_neg {as bs : List (List Int)} (h : as.length = bs.length) : sgnLL bs as = -sgnLL as bs := by
  induction as generalizing bs with
  | nil => cases bs with
    | nil => rfl
    | cons => cases h
  | cons a as ih => cases bs with
    | nil => cases h
    | cons b bs =>
      show (if sgnL b a = 0 then sgnLL bs as else sgnL b a) = -(if sgnL a b = 0 then sgnLL as bs else sgnL a b)
      have := sgnL_neg a b
      by_cases e : sgnL a b = 0
      · rw [if_pos e, if_pos (by lia)]
        exact ih (Nat.succ.inj h)
      · rw [if_neg e, if_neg (by lia)]
        exact this
noncomputable abbrev sepT (r : List (List Int)) : List Int := r.flatMap fun x => 0 :: x
theorem sgnL_app {as bs : List (List Int)} (h : as.length = bs.length) : ∀ {a b : List Int}, (∀ x ∈ a, 0 < x) → (∀ x ∈ b, 0 < x) → sgnL (a ++ sepT as) (b ++ sepT bs) = if sgnL a b = 0 then sgnL (sepT as) (sepT bs) else sgnL a b
  | [], [], _, _ => rfl
  | [], y :: b, _, hb => by
    have := hb y (.head _)
    show sgnL (sepT as) (y :: (b ++ sepT bs)) = -1
    cases as with
    | nil => rfl
    | cons a as =>
      show (if (0 : Int) = y then _ else if (0 : Int) < y then -1 else 1) = _
      rw [if_neg (by lia), if_pos this]
  | x :: a, [], ha, _ => by
    have := ha x (.head _)
    show sgnL (x :: (a ++ sepT as)) (sepT bs) = 1
    cases bs with
    | nil => rfl
    | cons b bs =>
      show (if x = (0 : Int) then _ else if x < (0 : Int) then -1 else 1) = _
      rw [if_neg (by lia), if_neg (by lia)]
  | x :: a, y :: b, ha, hb => by
    show (if x = y then sgnL (a ++ sepT as) (b ++ sepT bs) else if x < y then -1 else 1) = if (if x = y then sgnL a b else if x < y then -1 else 1) = 0 then sgnL (sepT as) (sepT bs) else (if x = y then sgnL a b else if x < y then -1 else 1)
    by_cases e : x = y
    · rw [if_pos e, if_pos e]
      exact sgnL_app h (fun z hz => ha z (.tail _ hz)) fun z hz => hb z (.tail _ hz)
    · rw [if_neg e, if_neg e]
      split <;> rfl
theorem sgnL_sep : ∀ {as bs : List (List Int)}, as.length = bs.length → (∀ l ∈ as, ∀ x ∈ l, 0 < x) → (∀ l ∈ bs, ∀ x ∈ l, 0 < x) → sgnL (sepT as) (sepT bs) = sgnLL as bs
  | [], [], _, _, _ => rfl
  | [], _ :: _, h, _, _ => by cases h
  | _ :: _, [], h, _, _ => by cases h
  | a :: as, b :: bs, h, ha, hb => by
    show (if (0 : Int) = 0 then sgnL (a ++ sepT as) (b ++ sepT bs) else _) = if sgnL a b = 0 then sgnLL as bs else sgnL a b
    rw [if_pos rfl, sgnL_app (Nat.succ.inj h) (ha a (.head _)) (hb b (.head _)), sgnL_sep (Nat.succ.inj h) (fun l hl => ha l (.tail _ hl)) fun l hl => hb l (.tail _ hl)]
theorem sgnL_key {as bs : List (List Int)} (h : as.length = bs.length) (ha : ∀ l ∈ as, ∀ x ∈ l, 0 < x) (hb : ∀ l ∈ bs, ∀ x ∈ l, 0 < x) : sgnL (keyOf as) (keyOf bs) = sgnLL as bs := by
  cases as with
  | nil => cases bs with
    | nil => rfl
    | cons => cases h
  | cons a as => cases bs with
    | nil => cases h
    | cons b bs =>
      show sgnL (a ++ sepT as) (b ++ sepT bs) = if sgnL a b = 0 then sgnLL as bs else sgnL a b
      rw [sgnL_app (Nat.succ.inj h) (ha a (.head _)) (hb b (.head _)), sgnL_sep (Nat.succ.inj h) (fun l hl => ha l (.tail _ hl)) fun l hl => hb l (.tail _ hl)]
noncomputable abbrev u8 (n : Int) : UInt8 := n.toNat.toUInt8
theorem u8_nat {n : Int} (h : 0 ≤ n ∧ n < 256) : (u8 n).toNat = n.toNat := by
  show n.toNat.toUInt8.toNat = _
  rw [UInt8.toNat_ofNat', Nat.mod_eq_of_lt (by lia)]
noncomputable def ordI : List Int → List Int → Ordering
  | [], [] => .eq
  | [], _ :: _ => .lt
  | _ :: _, [] => .gt
  | x :: a, y :: b => if x < y then .lt else if y < x then .gt else ordI a b
theorem order_ordI : ∀ {a b : List Int}, (∀ n ∈ a, 0 ≤ n ∧ n < 256) → (∀ n ∈ b, 0 ≤ n ∧ n < 256) → Builtin.Bytes.order (a.map u8) (b.map u8) = ordI a b
  | [], [], _, _ => rfl
  | [], _ :: _, _, _ => rfl
  | _ :: _, [], _, _ => rfl
  | x :: a, y :: b, ha, hb => by
    have hx := ha x (.head _)
    have hy := hb y (.head _)
    have ih := order_ordI (fun n hn => ha n (.tail _ hn)) fun n hn => hb n (.tail _ hn)
    have e1 := u8_nat hx
    have e2 := u8_nat hy
    show (if u8 x < u8 y then _ else _) = if x < y then Ordering.lt else if y < x then .gt else ordI a b
    have k1 : u8 x < u8 y ↔ x < y := by rw [UInt8.lt_iff_toNat_lt, e1, e2, ← Int.ofNat_lt, Int.toNat_of_nonneg hx.1, Int.toNat_of_nonneg hy.1]
    have k2 : u8 y < u8 x ↔ y < x := by rw [UInt8.lt_iff_toNat_lt, e1, e2, ← Int.ofNat_lt, Int.toNat_of_nonneg hx.1, Int.toNat_of_nonneg hy.1]
    simp only [k1, k2, ih]
theorem ordI_octs : ∀ {a b : List Int}, (∀ n ∈ a, 0 ≤ n ∧ n < 65535) → (∀ n ∈ b, 0 ≤ n ∧ n < 65535) → sgnP (ordI (octs a) (octs b) == .lt) (ordI (octs a) (octs b) == .gt) = sgnL a b
  | [], [], _, _ => rfl
  | [], _ :: _, _, _ => rfl
  | _ :: _, [], _, _ => rfl
  | x :: a, y :: b, ha, hb => by
    have hx := ha x (.head _)
    have hy := hb y (.head _)
    have ih := ordI_octs (fun n hn => ha n (.tail _ hn)) fun n hn => hb n (.tail _ hn)
    have e : ordI (octs (x :: a)) (octs (y :: b)) = if x / 256 < y / 256 then .lt else if y / 256 < x / 256 then .gt else if x % 256 < y % 256 then .lt else if y % 256 < x % 256 then .gt else ordI (octs a) (octs b) := rfl
    rw [e]
    show _ = if x = y then sgnL a b else if x < y then -1 else 1
    by_cases e1 : x = y
    · subst e1
      rw [if_neg (by lia), if_neg (by lia), if_neg (by lia), if_neg (by lia), if_pos rfl]
      exact ih
    · rw [if_neg e1]
      by_cases e2 : x < y
      · rw [if_pos e2]
        by_cases e3 : x / 256 < y / 256
        · rw [if_pos e3]; rfl
        · rw [if_neg e3, if_neg (by lia), if_pos (by lia)]; rfl
      · rw [if_neg e2]
        by_cases e3 : y / 256 < x / 256
        · rw [if_neg (by lia), if_pos e3]; rfl
        · rw [if_neg (by lia), if_neg e3, if_neg (by lia), if_pos (by lia)]; rfl
theorem octs_law {a b : List Int} (ha : ∀ n ∈ a, 0 ≤ n ∧ n < 65535) (hb : ∀ n ∈ b, 0 ≤ n ∧ n < 65535) :
    sgnP (Builtin.Bytes.order (byteArr (octs a)).toList (byteArr (octs b)).toList == .lt) (Builtin.Bytes.order (byteArr (octs a)).toList (byteArr (octs b)).toList == .gt) = sgnL a b := by
  have e : Builtin.Bytes.order (byteArr (octs a)).toList (byteArr (octs b)).toList = ordI (octs a) (octs b) := order_ordI (octs_range ha) (octs_range hb)
  rw [e]
  exact ordI_octs ha hb

end
section
section
variable {g : G} {k : Nat} {sc : Scope} {ρ : Rho} {σ : Sig} {Q : V → Sig → Prop}
theorem ev_frzI {e : Expr} (h : EV g k sc ρ e σ fun v σ' => ∃ C dx fs, v = .inst C dx ∧ σ' dx = some (.dS fs) ∧ Q (.obj C fs) (σ'.del dx)) : EV g k sc ρ e σ Q := by
  intro F A D s hs Rm S E
  refine wpAny_mono (h F A D s hs Rm S E) (fun c s' ⟨D', σ', S', T', v, r, x⟩ => ?_) fun _ _ e => e
  obtain ⟨C, dx, fs, rfl, hm, x⟩ := x
  obtain ⟨o, ho, r2, hD, S2, T2⟩ := freeze S' hm fun _ _ => trivial
  cases r with
  | inst e1 =>
    cases r2 with
    | dS k p r n => exact ⟨_, _, S2, T'.trans T2, _, .obj (Fz.put_le hD _ _ e1) (Fz.put_self ..) k p (r.mono (Fz.put_le hD)) n, x⟩
theorem Sle.del_set2 {m m' : MO} {dx : Addr} (h : σ dx = none) : ((σ.set dx m).set dx m').del dx = σ := by rw [Sig.set_set, Sig.del_set h]
end
section
variable {g : G} {k : Nat} {σ : Sig} {Q : V → Sig → Prop}
theorem c_reorder (H : GK g) {starts sizes : List Int} {order : List Nat} (hL : LotsOK starts sizes order)
    (q : ∀ dx, σ dx = none → Q (.inst 98 dx) ((σ.set dx (.dS [])).set dx (.dS [("firsts", .lst (starts.map .int)), ("begun", .dI (dII (begOf starts sizes order))), ("end", .int (endOf starts sizes))]))) :
    CALL g (k + 2) (.ref 98) [.lst (starts.map .int), natsV order, .int (endOf starts sizes)] σ Q :=
  call_make (by rw [H.hK]; kernel_rfl) (by rw [H.hK]; rfl) (by rw [H.hK]; kernel_rfl) fun dx hdx =>
    c_reorder_init H (Sig.set_self ..) (fun e => by have := hL.len; have := hL.lo; rw [e] at *; simp at *; bv_omega) (fun i hi => by rw [hL.len]; exact hL.mem hi) (by rw [hL.len]; have := hL.hi; bv_omega) (by rw [hL.olen]; have := hL.hi; bv_omega) ⟨rfl, q dx hdx⟩
theorem last_ints {ns : List Int} {n : Nat} (h : ns.length = n) (h1 : 1 ≤ n) : (ns.map V.int)[((-1 : Int) + (ns.map V.int).length).toNat]? = some (.int (ns.getD (n - 1) 0)) := by
  rw [List.length_map, h, show ((-1 : Int) + (n : Int)).toNat = n - 1 by bv_omega, ints_get (by bv_omega), getD_lt (by bv_omega)]
theorem c_lots_right (H : GK g) {starts sizes : List Int} {order : List Nat} {sp : Int} (hL : LotsOK starts sizes order) (hsp : 1 ≤ sp ∧ sp ≤ 3) (q : Q (.bool true) σ) : CALLC g (k + 3) (.ref 526) [lotsV starts sizes order, .int sp] σ Q := by
  have h2 := hL.lo
  have h5 := hL.hi
  have h7 := hL.len
  have h8 := hL.olen
  have hs := sizeLine_eq
  walk_at "fn0"
  case body =>
    repeat' walk_at "m"
    refine item_list_last .f (by decide) (by rw [List.length_map]; bv_omega) (by rw [List.length_map]; bv_omega) (last_ints h7 (by bv_omega)) ?_
    repeat' walk_at "m"
    refine item_list_last .f (by decide) (by rw [List.length_map]; bv_omega) (by rw [List.length_map]; bv_omega) (last_ints rfl (by bv_omega)) ?_
    walk_at "x"
    refine ex_cons (ex_assign (ev_frzI ?_))
    repeat' walk_at "m"
    refine c_reorder H hL fun dx hdx => ⟨_, _, _, rfl, Sig.set_self .., ?_⟩
    rw [Sle.del_set2 hdx]
    refine asn_name rfl ?_
    obtain ⟨hi, hhi, hb1, hb2⟩ : ∃ hi, endOf starts sizes + 4 = hi ∧ hi < 1000 ∧ -1000 < hi := ⟨_, rfl, by have := end_bound hL; bv_omega, by have := end_bound hL; bv_omega⟩
    have s0 := hL.s0
    refine ex_cons ?_
    refine ex_forR (fun _ : Unit => [("turned", reoV starts (begOf starts sizes order) (endOf starts sizes)), ("lots", lotsV starts sizes order), ("spread", .int sp)]) (fun vs _ σ' => σ' = σ ∧ ∃ lo, vs = rangeV lo hi) ?_ ?_ ?_
    · refine it_of ?_
      repeat' walk_at "m"
      refine item_list .f (by decide) (get_ints (i := 0) (by bv_omega)) (by decide) ?_
      repeat' walk_at "m"
      show ∃ vs, ITV _ _ _ (.rng _ (endOf starts sizes + 4)) vs ∧ _
      rw [hhi]
      exact ⟨_, itv_rng (by bv_omega) (by bv_omega), (), by walk_at "rle", rfl, _, rfl⟩
    · rintro v rest _ σ' ⟨rfl, lo, hv⟩
      obtain ⟨rfl, _, rfl⟩ := rangeV_cons hv
      intro N' hN
      walk_at "m"
      repeat' walk_at "m"
      refine ev_mcall ?_
      repeat' walk_at "m"
      refine ⟨_, mres_inst .f rfl (own_meth H (by kernel_rfl) (by rfl) (by kernel_rfl)), keep_fn H (by kernel_rfl), ?_⟩
      repeat' walk_at "m"
      refine (c_moved H (reo_ok hL).1 (reo_ok hL).2 ?_).call
      repeat' walk_at "m"
      refine (c_lmoved H hL ?_).call
      rw [moved_law hL]
      repeat' walk_at "m"
      · exact absurd rfl ‹_›
      · exact hN _ _ () (by walk_at "rle") ⟨rfl, _, rfl⟩
    rintro _ σ' ⟨rfl, lo, hv⟩
    refine ex_cons ?_
    refine ex_forR (fun _ : Unit => [("spread", .int sp)]) (fun vs _ σ'' => σ' = σ'' ∧ ∃ lo, vs = rangeV lo 34) ?_ ?_ ?_
    · refine it_of ?_
      repeat' walk_at "m"
      exact ⟨_, itv_rng (by decide) (by decide), (), by walk_at "rle", rfl, _, rfl⟩
    · rintro v rest _ σ'' ⟨rfl, lo, hv⟩
      obtain ⟨rfl, hlo, rfl⟩ := rangeV_cons hv
      intro N' hN
      walk_at "m"
      refine ex_cons ?_
      refine ex_forR (fun _ : Unit => [("third", .int lo), ("spread", .int sp)]) (fun vs _ σ'' => σ' = σ'' ∧ ∃ lo, 0 ≤ lo ∧ vs = rangeV lo sp) ?_ ?_ ?_
      · refine it_of ?_
        repeat' walk_at "m"
        exact ⟨_, itv_rng (by decide) (by bv_omega), (), by walk_at "rle", rfl, _, Int.le_refl 0, rfl⟩
      · rintro v rest _ σ'' ⟨rfl, m, hm, hv⟩
        obtain ⟨rfl, hlm, rfl⟩ := rangeV_cons hv
        intro N' hN
        repeat' walk_at "m"
        refine (c_upper H (by bv_omega) (by bv_omega) ?_).call
        rw [fdiv_add hm hlm, upper_caps]
        repeat' walk_at "m"
        refine ev_call0 (ev_gname H rfl rfl ⟨_, rfl, keep_fn H (by kernel_rfl), (c_caps H ?_).call⟩)
        refine cmp_in_L .f ?_
        repeat' walk_at "m"
        · exact absurd ‹_› (by rw [bne_self_eq_false]; exact Bool.false_ne_true)
        · exact hN _ _ () (by walk_at "rle") ⟨rfl, _, by bv_omega, rfl⟩
      · rintro _ σ'' ⟨rfl, m, hm, hv⟩
        walk_at "m"
        exact hN _ _ () (by walk_at "rle") ⟨rfl, _, rfl⟩
    · rintro _ σ'' ⟨rfl, lo, hv⟩
      repeat' walk_at "m"
      exact q
end
end
section
section
variable {g : G} {k : Nat} {σ : Sig} {Q : V → Sig → Prop}
theorem get_last {α : Type} (l : List α) (x : α) : (l ++ [x])[((-1 : Int) + (l ++ [x]).length).toNat]? = some x := by
  rw [List.length_append, List.length_singleton, show ((-1 : Int) + ((l.length + 1 : Nat) : Int)).toNat = l.length by bv_omega]
  simp
theorem it_enumH {sc : Scope} {ρ : Rho} {ts : List Expr} {n : Nat} {tp px pos : Pos} {e : Expr} {Q : List V → Sig → Prop} (H : GK g) (hk : sc.names.lookup ("enumerate" : Str) = some .globalImplicit)
    (h : EV g k sc ρ e σ fun v σ₁ => ∃ vs, v = .lst vs ∧ Q (enumV vs 0) σ₁) (hs : autoParam (noStar [e] = true) Mine.sxR) : IT g k sc ρ (.Tuple ts n tp) (.Call (.Name "enumerate" px) [e] [] pos) σ Q :=
  it_enum hk (H.noglob _ (by rw [H.hK]; rfl)) (H.blt _ _ (by kernel_rfl) (by decide)) h hs
theorem c_order_right (H : GK g) {a : Addr} {ns : List Int} {p : Nat} {starts sizes : List Int} {order : List Nat} {sp : Int} (hσ : σ a = some (wellM ns p)) (hl : ns.length ≤ 1000) (hp : p ≤ 1000) (hL : LotsOK starts sizes order) (hsp : 1 ≤ sp ∧ sp ≤ 3)
    (q : ∀ p', p ≤ p' → p' ≤ p + 60 → Q (.bool true) (σ.set a (wellM ns p'))) : CALLC g (k + 5) (.ref 531) [.ref a, lotsV starts sizes order, .int sp] σ Q := by
  have h2 := hL.lo
  have h5 := hL.hi
  have h7 := hL.len
  have h8 := hL.olen
  have hs := sizeLine_eq
  walk_at "fn0"
  case body =>
    refine EX.fin ?_
    repeat' walk_at "m"
    refine (c_draw H hσ hl (by bv_omega) (by decide) fun i1 a1 b1 => ?_).call
    repeat' walk_at "m"
    refine c_drawS H hl (by bv_omega) (by decide) fun i2 a2 b2 => ?_
    repeat' walk_at "m"
    generalize hst : 1 + i1 = st
    generalize hbk : decide (i2 = 1) = bk
    have hst2 : 1 ≤ st ∧ st ≤ 3 := by bv_omega
    refine c_drawS H hl (by bv_omega) (by decide) fun i3 a3 b3 => ?_
    refine item_pick (vs := [.str "", .str "upper", .str "lower"]) a3 b3 (by decide) fun v hv => ?_
    obtain ⟨cf, rfl, hcf⟩ : ∃ cf : Str, v = .str cf ∧ (cf = "" ∨ cf = "upper" ∨ cf = "lower") := by
      simp only [List.mem_cons, List.not_mem_nil, or_false] at hv
      rcases hv with rfl | rfl | rfl
      · exact ⟨_, rfl, .inl rfl⟩
      · exact ⟨_, rfl, .inr (.inl rfl)⟩
      · exact ⟨_, rfl, .inr (.inr rfl)⟩
    clear hv
    repeat' walk_at "m"
    refine c_drawS H hl (by bv_omega) (by decide) fun i4 a4 b4 => ?_
    walk_at "x"
    generalize hmv : decide (0 < i4) = mv
    refine ex_cons (ex_listcomp (cx_list (P := fun vs us σ' => ∃ es : List Elem, A4 (us = es.map elV) ((∀ e ∈ es, ElemOK e)) (es.length + vs.length ≤ 4) (∃ p', A3 (p ≤ p') (p' + 5 * vs.length ≤ p + 25) (σ' = σ.set a (wellM ns p')))) ?_ ?_ ?_ rfl rfl rfl rfl) rfl)
    · refine it_of ?_
      repeat' walk_at "m"
      refine c_drawS H hl (by bv_omega) (by decide) fun i5 a5 b5 => ?_
      repeat' walk_at "m"
      exact ⟨_, itv_rng (by decide) (by bv_omega), [], rfl, (fun s hs => by cases hs), by rw [rangeV_length, List.length_nil]; bv_omega, _, by bv_omega, by rw [rangeV_length]; bv_omega, rfl⟩
    · rintro v rest us σ' ⟨es, rfl, he, hlen, p', hp1, hp2, rfl⟩
      rw [List.length_cons] at hlen hp2
      show EV _ _ _ _ _ _ _
      repeat' walk_at "m"
      refine (c_element H (Sig.set_self ..) hl (by bv_omega) hL hsp fun e p'' ok u1 u2 => ?_).call
      refine ⟨by rw [List.length_map]; bv_omega, es ++ [e], by rw [List.map_append]; rfl, fun s h => ?_, by rw [List.length_append, List.length_singleton]; bv_omega, p'', by bv_omega, by bv_omega, by rw [Sig.set_set]⟩
      rcases List.mem_append.mp h with h | h
      · exact he s h
      · cases List.mem_singleton.mp h; exact ok
    rintro us σ' ⟨e1, rfl, he1, hl1, p1, hp1, hp2, rfl⟩
    rw [List.length_nil] at hl1 hp2
    refine ex_cons (ex_assign (ev_slice (ev_name rfl (part_none (part_some ?_)))))
    repeat' walk_at "m"
    refine c_drawS H hl (by bv_omega) (by bv_omega) fun i6 a6 b6 => ?_
    refine ⟨_, rfl, part_none ?_⟩
    refine sli_uptoM .f (by rw [List.length_map]; bv_omega) a6 fun s2 hs2 => ?_
    have ne : s2 ≠ a := (ne_of_set (Sig.set_self ..) hs2).symm
    have hs2' : σ s2 = none := by rw [Sig.set_ne ne] at hs2; exact hs2
    refine asn_name rfl ?_
    refine ex_cons ?_
    refine ex_extend rfl (Sig.set_self ..) ?_
    refine ev_listcomp (cx_list (P := fun vs us σ' => ∃ es : List Elem, A4 (us = es.map elV) ((∀ e ∈ es, ElemOK e)) (es.length + vs.length ≤ 2) (∃ p', A5 (p ≤ p') (p' + 5 * vs.length ≤ p + 37) (σ' a = some (wellM ns p')) (σ' s2 = some (.list ((e1.take i6.toNat).map elV))) (∀ b, b ≠ a → b ≠ s2 → σ' b = σ b))) ?_ ?_ ?_ rfl rfl rfl rfl)
    · refine it_of ?_
      repeat' walk_at "m"
      refine (c_draw H ((Sig.set_ne ne.symm).trans (Sig.set_self ..)) hl (by bv_omega) (by decide) fun i5 a5 b5 => ?_).call
      repeat' walk_at "m"
      exact ⟨_, itv_rng (by decide) (by bv_omega), [], rfl, (fun s hs => by cases hs), by rw [rangeV_length, List.length_nil]; bv_omega, _, by bv_omega, by rw [rangeV_length]; bv_omega, Sig.set_self .., by rw [Sig.set_ne ne, Sig.set_self, List.map_take], fun b h1 h2 => by rw [Sig.set_ne h1, Sig.set_ne h2, Sig.set_ne h1]⟩
    · rintro v rest us σ' ⟨es, rfl, he, hlen, p', hp1, hp2, t1, t2, t3⟩
      rw [List.length_cons] at hlen hp2
      show EV _ _ _ _ _ _ _
      repeat' walk_at "m"
      refine (c_element H t1 hl (by bv_omega) hL hsp fun e p'' ok u1 u2 => ?_).call
      refine ⟨by rw [List.length_map]; bv_omega, es ++ [e], by rw [List.map_append]; rfl, fun s h => ?_, by rw [List.length_append, List.length_singleton]; bv_omega, p'', by bv_omega, by bv_omega, Sig.set_self .., by rw [Sig.set_ne ne]; exact t2, fun b h1 h2 => by rw [Sig.set_ne h1]; exact t3 b h1 h2⟩
      rcases List.mem_append.mp h with h | h
      · exact he s h
      · cases List.mem_singleton.mp h; exact ok
    rintro us σ' ⟨e3, rfl, he3, hl3, p2, hp3, hp4, t1, t2, t3⟩
    rw [List.length_nil] at hl3 hp4
    refine ⟨_, _, t2, .f, by rw [List.length_map, List.length_map, List.length_take]; bv_omega, ?_⟩
    rw [← List.map_append]
    obtain ⟨e2, hE2, he2, hl2⟩ : ∃ e2, e1.take i6.toNat ++ e3 = e2 ∧ (∀ e ∈ e2, ElemOK e) ∧ e2.length ≤ 6 := ⟨_, rfl, fun e h => by
      rcases List.mem_append.mp h with h | h
      · exact he1 e (List.mem_of_mem_take h)
      · exact he3 e h, by rw [List.length_append, List.length_take]; bv_omega⟩
    rw [hE2]
    refine ex_ghost (gh_name (x := "second") rfl (Sig.set_self ..)) ?_
    show EX g _ _ ((_, elsV e2) :: _) _ _ _ _
    generalize hs3 : (σ'.set s2 _).del s2 = σ3
    have v1 : σ3 a = some (wellM ns p2) := by rw [← hs3, Sig.del_ne ne.symm, Sig.set_ne ne.symm, t1]
    have v2 : ∀ b m, σ b = some m → b ≠ a → σ3 b = some m := fun b m e h => by
      have : b ≠ s2 := fun q => by rw [q, hs2'] at e; cases e
      rw [← hs3, Sig.del_ne this, Sig.set_ne this, t3 b h this, e]
    refine ex_cons (ex_assign (EV.mono (Q := fun v σ' => v = reoO (reoIf mv starts sizes order) ∧ σ3 = σ') ?_ ?_))
    · iterate 3 walk_at "m"
      · rename_i h1
        rw [h1]
        refine ev_frzI ?_
        repeat' walk_at "m"
        refine item_list_last .f (by decide) (by rw [List.length_map]; bv_omega) (by rw [List.length_map]; bv_omega) (last_ints h7 (by bv_omega)) ?_
        repeat' walk_at "m"
        refine item_list_last .f (by decide) (by rw [List.length_map]; bv_omega) (by rw [List.length_map]; bv_omega) (last_ints rfl (by bv_omega)) ?_
        repeat' walk_at "m"
        refine c_reorder H hL fun dx hdx => ⟨_, _, _, rfl, Sig.set_self .., rfl, ?_⟩
        rw [Sle.del_set2 hdx]
      · rename_i h1
        rw [h1]
        walk_at "m"
        exact ⟨rfl, rfl⟩
    rintro _ _ ⟨rfl, rfl⟩
    refine asn_name rfl ?_
    refine ex_cons (ex_assign (ev_frzI ?_))
    repeat' walk_at "m"
    refine call_make (by rw [H.hK]; kernel_rfl) (by rw [H.hK]; rfl) (by rw [H.hK]; kernel_rfl) fun dx hdx => c_opt_init H (Sig.set_self ..) ⟨rfl, _, _, _, rfl, Sig.set_self .., ?_⟩
    rw [Sle.del_set2 hdx]
    refine asn_name rfl ?_
    clear hs2 t1 t2 t3 hs3
    refine ex_cons ?_
    walk_at "m"
    walk_at "m"
    refine evs_cons (ev_listM (evs_nil ⟨Nat.le_of_ble_eq_true rfl, fun lv hlv => evs_cons (ev_listM (evs_nil ⟨Nat.le_of_ble_eq_true rfl, fun ky hky => evs_cons (ev_listM (evs_nil ⟨Nat.le_of_ble_eq_true rfl, fun wt hwt => ?_⟩))⟩))⟩))
    walk_at "x"
    have n1 : ky ≠ lv := (ne_of_set (Sig.set_self ..) hky).symm
    have n2 : wt ≠ ky := (ne_of_set (Sig.set_self ..) hwt).symm
    have n3 : wt ≠ lv := fun e => by rw [e, Sig.set_ne n1.symm, Sig.set_self] at hwt; cases hwt
    have fr : ∀ b m, σ b = some m → b ≠ a → b ≠ lv ∧ b ≠ ky ∧ b ≠ wt := fun b m e h => by
      have e' := v2 b m e h
      refine ⟨fun q => ?_, fun q => ?_, fun q => ?_⟩
      · rw [q, hlv] at e'; cases e'
      · rw [q] at e'; rw [Sig.set_ne n1] at hky; rw [hky] at e'; cases e'
      · rw [q] at e'; rw [Sig.set_ne n2, Sig.set_ne n3] at hwt; rw [hwt] at e'; cases e'
    have fa : a ≠ lv ∧ a ≠ ky ∧ a ≠ wt := by
      refine ⟨fun q => ?_, fun q => ?_, fun q => ?_⟩
      · rw [← q, v1] at hlv; cases hlv
      · rw [Sig.set_ne n1, ← q, v1] at hky; cases hky
      · rw [Sig.set_ne n2, Sig.set_ne n3, ← q, v1] at hwt; cases hwt
    have lawE : ∀ es : List Elem, (∀ e ∈ es, ElemOK e) → levelsOf st sp bk cf (reoIf mv starts sizes order) (es.map rowOf) = lawLevels starts sizes order st sp bk cf mv es := fun es h => levels_law hL h hcf hst2.1 hst2.2 hsp
    have rok : ReoOK (reoIf mv starts sizes order) := by
      unfold reoIf
      split
      · exact reo_ok hL
      · trivial
    generalize hLv : (fun es => lawLevels starts sizes order st sp bk cf mv es) = L
    have hLe : ∀ es, lawLevels starts sizes order st sp bk cf mv es = L es := fun es => by rw [← hLv]
    refine ex_cons ?_
    refine ex_forL (fun _ : Unit => [("weights", .ref wt), ("keys", .ref ky), ("levels", .ref lv), ("options", optV st bk cf (reoO (reoIf mv starts sizes order)) sp), ("way", .tup [.int st, .bool bk, .str cf, .bool mv]), ("lots", lotsV starts sizes order), ("spread", .int sp)]) [e1, e2] elsV (fun dn _ σ' => A4 (σ' lv = some (.list (dn.map fun es => .lst ((L es).map vInts)))) (σ' ky = some (.list (dn.map fun es => vInts (keyOf (L es))))) (σ' wt = some (.list (dn.map fun es => rowsV (es.map rowOf)))) (∀ b m, σ3 b = some m → b ≠ lv → b ≠ ky → b ≠ wt → σ' b = some m)) ?_ ?_ ?_
    · refine it_of ?_
      repeat' walk_at "m"
      exact ⟨_, itv_tup, (), rfl, by walk_at "rle", by rw [Sig.set_ne n3.symm, Sig.set_ne n1.symm, Sig.set_self]; rfl, by rw [Sig.set_ne n2.symm, Sig.set_self]; rfl, Sig.set_self .., fun b m e w1 w2 w3 => by rw [Sig.set_ne w3, Sig.set_ne w2, Sig.set_ne w1]; exact e⟩
    · rintro dn e r _ σ1 hes ⟨u1, u2, u3, u4⟩
      focus
        have hdn : dn.length ≤ 2 := by have := congrArg List.length hes; rw [List.length_append] at this; simp only [List.length_cons, List.length_nil] at this; bv_omega
        have hmem : e ∈ [e1, e2] := by rw [hes]; simp
        have hok : ∀ x ∈ e, ElemOK x := by
          simp only [List.mem_cons, List.not_mem_nil, or_false] at hmem
          rcases hmem with h | h
          · rw [h]; exact he1
          · rw [h]; exact he2
        have hle : e.length ≤ 6 := by
          simp only [List.mem_cons, List.not_mem_nil, or_false] at hmem
          rcases hmem with h | h
          · rw [h]; bv_omega
          · rw [h]; exact hl2
        intro N' hN
        repeat' walk_at "m"
        refine (c_llevels H hL hsp (by bv_omega) (by bv_omega) ?_).call
        rw [hLe]
        repeat' walk_at "m"
        refine (c_weighted H (by bv_omega) ?_).call
        refine ⟨_, u3, by rw [List.length_map]; bv_omega, ?_⟩
        walk_at "m"
        have u2' : ∀ m, (σ1.set wt m) ky = some (.list (dn.map fun es => vInts (keyOf (L es)))) := fun m => by rw [Sig.set_ne n2.symm]; exact u2
        refine ex_append rfl (u2' _) ?_
        repeat' walk_at "m"
        refine item_list_last (.m (Sig.set_self ..)) (by decide) (by rw [List.length_append, List.length_singleton]; bv_omega) (by rw [List.length_append, List.length_singleton, List.length_map]; bv_omega) (get_last _ _) ?_
        repeat' walk_at "m"
        refine (c_key H rok (by bv_omega) (by bv_omega) hst2.2 (by rw [List.length_map]; bv_omega) ?_).call
        rw [lawE e hok, hLe]
        refine ⟨_, u2' _, by rw [List.length_map]; bv_omega, ?_⟩
        walk_at "m"
        have u1' : ∀ m m', ((σ1.set wt m).set ky m') lv = some (.list (dn.map fun es => .lst ((L es).map vInts))) := fun m m' => by rw [Sig.set_ne n1.symm, Sig.set_ne n3.symm]; exact u1
        refine ex_append rfl (u1' _ _) ?_
        repeat' walk_at "m"
        refine ⟨_, u1' _ _, by rw [List.length_map]; bv_omega, ?_⟩
        generalize hs4 : (((σ1.set wt _).set ky _).set lv _ : Sig) = σ4
        have w1 : σ4 lv = some (.list ((dn ++ [e]).map fun es => .lst ((L es).map vInts))) := by rw [← hs4, Sig.set_self, List.map_append]; rfl
        have w2 : σ4 ky = some (.list ((dn ++ [e]).map fun es => vInts (keyOf (L es)))) := by rw [← hs4, Sig.set_ne n1, Sig.set_self, List.map_append]; rfl
        have w3 : σ4 wt = some (.list ((dn ++ [e]).map fun es => rowsV (es.map rowOf))) := by rw [← hs4, Sig.set_ne n3, Sig.set_ne n2, Sig.set_self, List.map_append]; rfl
        have w4 : ∀ b m, σ3 b = some m → b ≠ lv → b ≠ ky → b ≠ wt → σ4 b = some m := fun b m e q1 q2 q3 => by rw [← hs4, Sig.set_ne q1, Sig.set_ne q2, Sig.set_ne q3]; exact u4 b m e q1 q2 q3
        clear hs4 u1 u2 u3 u4 u1' u2'
        refine ex_cons (ex_assign (ev_listM (evs_nil ⟨Nat.le_of_ble_eq_true rfl, fun fl hfl => asn_name rfl ?_⟩)))
        have f1 : lv ≠ fl := ne_of_set w1 hfl
        have f2 : ky ≠ fl := ne_of_set w2 hfl
        have f3 : wt ≠ fl := ne_of_set w3 hfl
        have hLl : (L e).length = st.toNat := by rw [← hLe]; exact lawLevels_len e hst2.1 hst2.2
        have hLk : ∀ l ∈ L e, l.length ≤ 6 := fun l hl => by rw [← hLe] at hl; exact Nat.le_trans (lawLevels_pos hL hok hsp l hl).1 hle
        refine ex_cons ?_
        refine ex_forE (fun _ : Unit => [("flat", .ref fl), ("weights", .ref wt), ("keys", .ref ky), ("levels", .ref lv), ("options", optV st bk cf (reoO (reoIf mv starts sizes order)) sp), ("way", .tup [.int st, .bool bk, .str cf, .bool mv]), ("lots", lotsV starts sizes order), ("spread", .int sp)])
          (L e) vInts (fun dl _ σ' => σ' fl = some (.list ((keyOf dl).map .int)) ∧ ∀ b, b ≠ fl → σ' b = σ4 b) ?_ ?_ ?_
        · refine it_enumH H rfl (ev_name rfl ⟨_, rfl, (), rfl, by walk_at "rle", Sig.set_self .., fun b hb => Sig.set_ne hb⟩)
        · rintro dl l rl _ σ5 hdl ⟨x1, x2⟩
          focus
            have hdl3 : dl.length < 3 := by have := congrArg List.length hdl; rw [List.length_append, List.length_cons] at this; bv_omega
            have hkl : (keyOf dl).length ≤ 3 * 7 := Nat.le_trans (keyOf_len (m := 6) fun l h => hLk l (by rw [hdl]; exact List.mem_append_left _ h)) (Nat.mul_le_mul (by bv_omega) (Nat.le_refl _))
            have hll := hLk l (by rw [hdl]; simp)
            have hd0 : (0 < (dl.length : Int)) ↔ dl ≠ [] := by cases dl <;> simp
            intro N' hN
            repeat' walk_at "m"
            · rename_i h1
              refine op_addL .f .f (by rw [List.length_map]; show 1 + l.length ≤ _; bv_omega) ⟨_, _, x1, .f, by rw [List.length_map, List.length_append, List.length_map]; show _ + (1 + l.length) ≤ _; bv_omega, ?_⟩
              repeat' walk_at "m"
              refine hN _ _ () (by walk_at "rle") ⟨?_, fun b hb => by rw [Sig.set_ne hb]; exact x2 b hb⟩
              rw [Sig.set_self, keyOf_snoc, if_neg (hd0.mp h1), List.map_append]; rfl
            · rename_i h1
              refine ev_list (evs_nil ⟨Nat.le_of_ble_eq_true rfl, ?_⟩)
              repeat' walk_at "m"
              refine op_addL .f .f (by rw [List.length_map]; show 0 + l.length ≤ _; bv_omega) ⟨_, _, x1, .f, by rw [List.length_map, List.length_append, List.length_map]; show _ + (0 + l.length) ≤ _; bv_omega, ?_⟩
              repeat' walk_at "m"
              refine hN _ _ () (by walk_at "rle") ⟨?_, fun b hb => by rw [Sig.set_ne hb]; exact x2 b hb⟩
              rw [Sig.set_self, keyOf_snoc, if_pos (Decidable.not_not.mp (mt hd0.mpr h1)), List.map_append]; rfl
        · rintro _ σ5 ⟨x1, x2⟩
          focus
            have w2' := (x2 ky f2).trans w2
            have w2'' := w2'
            rw [List.map_append] at w2''
            repeat' walk_at "m"
            refine item_list_last (.m w2'') (by decide) (by rw [List.length_append, List.map_singleton, List.length_singleton]; bv_omega) (by rw [List.length_append, List.map_singleton, List.length_singleton, List.length_map]; bv_omega) (get_last _ _) ?_
            walk_at "m"
            refine cmp_ne_ints .f (.m x1) ?_
            rw [decide_eq_true rfl]
            refine brF ?_
            walk_at "m"
            walk_at "m"
            exact hN _ _ () (by walk_at "rle") ⟨(x2 lv f1).trans w1, w2', (x2 wt f3).trans w3, fun b m e q1 q2 q3 => (x2 b fun q => by rw [← q, w4 b m e q1 q2 q3] at hfl; cases hfl).trans (w4 b m e q1 q2 q3)⟩
    · rintro _ σ1 ⟨u1, u2, u3, u4⟩
      focus
        have hle : Sle (σ.set a (wellM ns p2)) σ1 := fun b m e => by
          by_cases hb : b = a
          · subst hb
            rw [Sig.set_self] at e
            exact u4 b m (v1.trans e) fa.1 fa.2.1 fa.2.2
          · rw [Sig.set_ne hb] at e
            have h := fr b m e hb
            exact u4 b m (v2 b m e hb) h.1 h.2.1 h.2.2
        have lE1 := lawE e1 he1
        have lE2 := lawE e2 he2
        rw [hLe] at lE1 lE2
        have n12 : (L e1).length = (L e2).length := by rw [← hLe, ← hLe, lawLevels_len e1 hst2.1 hst2.2, lawLevels_len e2 hst2.1 hst2.2]
        have po1 : ∀ l ∈ L e1, ∀ x ∈ l, 0 < x := fun l h x hx => by rw [← hLe] at h; exact ((lawLevels_pos hL he1 hsp l h).2 x hx).1
        have po2 : ∀ l ∈ L e2, ∀ x ∈ l, 0 < x := fun l h x hx => by rw [← hLe] at h; exact ((lawLevels_pos hL he2 hsp l h).2 x hx).1
        have kb1 := key_bound (ls := L e1) (by rw [← hLe, lawLevels_len e1 hst2.1 hst2.2]; bv_omega) fun l h => by rw [← hLe] at h; have := lawLevels_pos hL he1 hsp l h; exact ⟨by bv_omega, this.2⟩
        have kb2 := key_bound (ls := L e2) (by rw [← hLe, lawLevels_len e2 hst2.1 hst2.2]; bv_omega) fun l h => by rw [← hLe] at h; have := lawLevels_pos hL he2 hsp l h; exact ⟨by bv_omega, this.2⟩
        have le1 : (e1.map rowOf).length ≤ 1000 := by rw [List.length_map]; bv_omega
        have le2 : (e2.map rowOf).length ≤ 1000 := by rw [List.length_map]; bv_omega
        repeat' walk_at "m"
        refine item_list (.m u1) (by decide) rfl (by decide) ?_
        repeat' walk_at "m"
        refine item_list (.m u1) (by decide) rfl (by decide) ?_
        walk_at "m"
        refine (c_sign_rows H ?_).call
        rw [sgn_law n12]
        repeat' walk_at "m"
        refine item_list (.m u3) (by decide) rfl (by decide) ?_
        repeat' walk_at "m"
        refine item_list (.m u3) (by decide) rfl (by decide) ?_
        repeat' walk_at "m"
        refine (c_cmpw H rok (by bv_omega) (by bv_omega) hst2.2 le1 le2 ?_).call
        rw [lE1, lE2]
        repeat' walk_at "m"
        · exact absurd rfl ‹_›
        refine item_list (.m u3) (by decide) rfl (by decide) ?_
        repeat' walk_at "m"
        refine item_list (.m u3) (by decide) rfl (by decide) ?_
        repeat' walk_at "m"
        refine (c_cmpw H rok (by bv_omega) (by bv_omega) hst2.2 le2 le1 ?_).call
        rw [lE1, lE2, sgnLL_neg n12]
        refine ev_neg (ev_name rfl ⟨rfl, ?_⟩)
        repeat' walk_at "m"
        · exact absurd rfl ‹_›
        refine item_list (.m u2) (by decide) rfl (by decide) ?_
        repeat' walk_at "m"
        refine item_list (.m u2) (by decide) rfl (by decide) ?_
        walk_at "m"
        refine (c_compare_lists H (by bv_omega) (by bv_omega) ?_).call
        rw [sgnL_key n12 po1 po2]
        repeat' walk_at "m"
        · exact absurd rfl ‹_›
        refine item_list (.m u2) (by decide) rfl (by decide) ?_
        walk_at "m"
        refine (c_octets H kb1.2 kb1.1 ?_).call
        repeat' walk_at "m"
        refine item_list (.m u2) (by decide) rfl (by decide) ?_
        walk_at "m"
        refine (c_octets H kb2.2 kb2.1 ?_).call
        walk_at "m"
        refine (c_sign_bts H rfl rfl ?_).call
        rw [octs_law kb1.2 kb2.2, sgnL_key n12 po1 po2]
        repeat' walk_at "m"
        rw [decide_eq_true rfl]
        exact ⟨_, hle, q p2 (by bv_omega) (by bv_omega)⟩
end
end
section
section
variable {g : G} {k : Nat} {σ : Sig} {Q : V → Sig → Prop}
theorem c_base_init (H : GK g) {a b c : Int} {dx : Addr} (hd : σ dx = some (.dS [])) (q : Q .none (σ.set dx (.dS [("first", .int a), ("last", .int b), ("base", .int c), ("origin", .none)]))) : CALLC g (k + 1) (.ref 195) [.inst 205 dx, .int a, .int b, .int c] σ Q := by
  refine' enter (by assumption) (ds := [.none]) (dvs := [.none]) ?h ?hb ?e ?hc ?hn ?bind (fun _ => .cons .none .nil) ?kd ?nd ?hsc ?hρ ?body
  walk_at "fnT"
  case body =>
    repeat' walk_at "m"
    simp only [Sig.set_set]
    exact q
noncomputable abbrev basesV : V := .lst [.obj 205 [("first", .int 0), ("last", .int 1114111), ("base", .int 64448), ("origin", .none)]]
noncomputable abbrev elFs (t1 t2 : V) (fac : V) : List (Str × V) := [("table", t1), ("longest", t2), ("factors", fac), ("bases", basesV)]
theorem c_elem_init (H : GK g) {dx : Addr} (hd : σ dx = some (.dS []))
    (q : ∀ t1 t2 σ', σ t1 = none → σ t2 = none → t1 ≠ t2 → σ' dx = some (.dS (elFs (.ref t1) (.ref t2) (.tup [.int 1, .int 1, .int 1]))) → σ' t1 = some (.dT []) → σ' t2 = some (.dI []) → (∀ b, b ≠ dx → b ≠ t1 → b ≠ t2 → σ' b = σ b) → Q .none σ') :
    CALLC g (k + 3) (.ref 229) [.inst 322 dx, .bool false] σ Q := by
  walk_at "fn0"
  case body =>
    walk_at "m"
    walk_at "m"
    refine ev_dict0 (.inr (.inr rfl)) fun t1 ht1 => ?_
    have n1 : dx ≠ t1 := ne_of_set hd ht1
    refine asn_attr (ev_name rfl ⟨_, _, _, rfl, (Sig.set_ne n1).trans hd, settable_of H (by kernel_rfl) (by kernel_rfl) (by kernel_rfl) (by kernel_rfl), Nat.le_of_ble_eq_true rfl, ?_⟩)
    walk_at "m"
    walk_at "m"
    refine ev_dict0 (.inl rfl) fun t2 ht2 => ?_
    have n2 : dx ≠ t2 := ne_of_set (Sig.set_self ..) ht2
    have n3 : t1 ≠ t2 := fun e => by rw [← e, Sig.set_ne n1.symm, Sig.set_self] at ht2; cases ht2
    have ht2' : σ t2 = none := by rw [Sig.set_ne n2.symm, Sig.set_ne n3.symm] at ht2; exact ht2
    refine asn_attr (ev_name rfl ⟨_, _, _, rfl, (Sig.set_ne n2).trans (Sig.set_self ..), settable_of H (by kernel_rfl) (by kernel_rfl) (by kernel_rfl) (by kernel_rfl), Nat.le_of_ble_eq_true rfl, ?_⟩)
    walk_at "m"
    walk_at "x"
    iterate 4 walk_at "m"
    refine ev_frzI ?_
    repeat' walk_at "m"
    refine call_make (by rw [H.hK]; kernel_rfl) (by rw [H.hK]; rfl) (by rw [H.hK]; kernel_rfl) fun bx hbx => c_base_init H (Sig.set_self ..) ⟨rfl, _, _, _, rfl, Sig.set_self .., ?_⟩
    rw [Sle.del_set2 hbx]
    repeat' walk_at "m"
    refine q t1 t2 _ ht1 ht2' n3 (Sig.set_self ..) ?_ ?_ fun b h1 h2 h3 => ?_
    · simp only [Sig.set_set]
      rw [Sig.set_ne n1.symm, Sig.set_ne n3, Sig.set_ne n1.symm, Sig.set_self]
    · simp only [Sig.set_set]
      rw [Sig.set_ne n2.symm, Sig.set_self]
    · simp only [Sig.set_set]
      rw [Sig.set_ne h1, Sig.set_ne h3, Sig.set_ne h1, Sig.set_ne h2]
end
end
section
noncomputable abbrev Tab := List (List Int × List Elem)
noncomputable abbrev tabV (B : Tab) : List (List Int × V) := B.map fun p => (p.1, elsV p.2)
noncomputable abbrev elO (B : Tab) (m : List (Int × Int)) (fac : V) : V := .obj 322 (elFs (.dT (tabV B)) (.dI (dII m)) fac)
theorem kput_map {K α β : Type} [DecidableEq K] (f : α → β) (l : List (K × α)) (k : K) (v : α) : kput (l.map fun p => (p.1, f p.2)) k (f v) = (kput l k v).map fun p => (p.1, f p.2) := by
  induction l with
  | nil => rfl
  | cons p l ih =>
    rw [List.map_cons, kput_cons, kput_cons]
    split
    · rfl
    · rw [ih]; rfl
theorem kget_map {K α β : Type} [DecidableEq K] (f : α → β) (l : List (K × α)) (k : K) : kget (l.map fun p => (p.1, f p.2)) k = (kget l k).map f := by
  induction l with
  | nil => rfl
  | cons p l ih =>
    rw [List.map_cons, kget_cons, kget_cons]
    split
    · rfl
    · exact ih
theorem seq_at {n : Nat} (h : 0 < n) : seqIndex? 0 n = some 0 := by
  unfold seqIndex?
  simp [h]
section
variable {g : G} {k : Nat} {σ : Sig} {Q : V → Sig → Prop}
theorem c_put (H : GK g) {dx t1 t2 : Addr} {fac : V} {B : Tab} {m : List (Int × Int)} {x : Int} {xs : List Int} {es : List Elem}
    (h0 : σ dx = some (.dS (elFs (.ref t1) (.ref t2) fac))) (h1 : σ t1 = some (.dT (tabV B))) (h2 : σ t2 = some (.dI (dII m))) (n1 : dx ≠ t1) (n2 : dx ≠ t2) (n3 : t1 ≠ t2)
    (hB : B.length ≤ 900) (hm : m.length ≤ 900) (hx : xs.length ≤ 100) (hes : es.length ≤ 1000)
    (q : ∀ m' σ', m'.length ≤ m.length + 1 → σ' dx = some (.dS (elFs (.ref t1) (.ref t2) fac)) → σ' t1 = some (.dT (tabV (kput B (x :: xs) es))) → σ' t2 = some (.dI (dII m')) → (∀ b, b ≠ dx → b ≠ t1 → b ≠ t2 → σ' b = σ b) → Q .none σ') :
    CALLC g (k + 1) (.ref 236) [.inst 322 dx, .tup ((x :: xs).map .int), elsV es] σ Q := by
  have hs := sizeLine_eq
  walk_at "fn0"
  case body =>
    repeat' walk_at "m"
    refine c_tuple ?_
    repeat' walk_at "m"
    refine seti_dT h1 (by rw [List.length_map]; bv_omega) ?_
    have h0' := (Sig.set_ne (σ := σ) (m := .dT (kput (tabV B) (x :: xs) (elsV es))) n1).trans h0
    have h2' := (Sig.set_ne (σ := σ) (m := .dT (kput (tabV B) (x :: xs) (elsV es))) n3.symm).trans h2
    have hk0 : kput (tabV B) (x :: xs) (elsV es) = tabV (kput B (x :: xs) es) := kput_map ..
    have hp : seqIndex? 0 ((x :: xs).map V.int).length = some 0 := seq_at (by rw [List.length_map, List.length_cons]; exact Nat.succ_pos _)
    generalize hσ1 : σ.set t1 (.dT (kput (tabV B) (x :: xs) (elsV es))) = σ1 at *
    have g0 : σ1 t1 = some (.dT (tabV (kput B (x :: xs) es))) := by rw [← hσ1, Sig.set_self, hk0]
    have gb : ∀ b, b ≠ t1 → σ1 b = σ b := fun b h => by rw [← hσ1, Sig.set_ne h]
    refine ex_cons (ex_if (tr_cmp ?_))
    refine ev_mcall (ev_attr (ev_name rfl ⟨_, _, .ref t2, .m h0', rfl, own_attr H (by kernel_rfl), (by intro w e; cases e), _, mres_dict (.inl ⟨_, .m h2'⟩) PySem.F.slot_dict_get rfl, keep_builtin, ?_⟩))
    repeat' walk_at "m"
    refine item_tup (j := 0) hp rfl (by decide) ?_
    repeat' walk_at "m"
    refine c_get_Id (.m h2') ?_
    rw [show (kget (dII m) x).getD (.int 0) = .int ((kget m x).getD 0) by rw [kget_dII]; cases kget m x <;> rfl]
    repeat' walk_at "m"
    refine c_len_tup (by rw [List.length_map, List.length_cons]; bv_omega) ?_
    repeat' walk_at "m"
    · refine c_len_tup (by rw [List.length_map, List.length_cons]; bv_omega) ?_
      repeat' walk_at "m"
      refine item_tup (j := 0) hp rfl (by decide) ?_
      refine seti_dI h2' (by rw [List.length_map]; bv_omega) ?_
      repeat' walk_at "m"
      rw [kput_dII]
      refine q _ _ (kput_length ..) ((Sig.set_ne n2).trans h0') ((Sig.set_ne n3).trans g0) (Sig.set_self ..) fun b e1 e2 e3 => ?_
      rw [Sig.set_ne e3, gb b e2]
    · exact q _ _ (Nat.le_succ _) h0' g0 h2' fun b e1 e2 e3 => gb b e2
end
end
section
theorem itv_dI {g : G} {k : Nat} {t : Expr} {kvs : List (Int × V)} : ITV g k t (.dI kvs) (kvs.map fun p => .int p.1) := by
  intro A own D σ s c Rm S r
  cases r with
  | dI e h1 h2 h3 h4 =>
    rename_i a es n cs
    refine itv_keys S Rm e ?_
    have := keys_ints h2
    rw [zip_keys h3] at this
    have := VRs.of_ints (g := g) (D := D) this
    rw [List.map_map] at this
    exact this
theorem gh_ent {g : G} {ρ : Rho} {σ : Sig} {mx rx C : Addr} {fs gs : List (Str × V)} {x : Str} (hm : σ mx = some (.dS fs)) (hx : kget fs x = some (.inst C rx)) (ha : σ rx = some (.dS gs)) (hne : rx ≠ mx) : GH g ρ σ ρ ((σ.del rx).set mx (.dS (kput fs x (.obj C gs)))) := by
  intro F D s S E
  obtain ⟨o, ho, r, hD, S', T'⟩ := freeze S ha fun _ _ => trivial
  have hle : Fle D (D.put rx o) := Fz.put_le hD
  have hdx : (σ.del rx) mx = some (.dS fs) := by rw [Sig.del_ne hne.symm]; exact hm
  obtain ⟨od, hod, rd⟩ := S'.mt mx _ hdx
  have rd' : OR g (D.put rx o) (.dS (kput fs x (.obj C gs))) od := by
    cases rd with
    | dS k p rs n =>
      have e1 := kput_keys_in (v := V.obj C gs) hx
      refine .dS (cs := _) k (by rw [e1]; exact p) (VRs_put rs hx fun c hc => ?_) (kput_nodup n)
      cases hc with
      | inst e2 =>
        cases r with
        | dS k2 p2 r2 n2 => exact .obj e2 (Fz.put_self ..) k2 p2 (r2.mono hle) n2
  have hs : Heap.SameBut mx s.heap s.heap := .refl ..
  exact ⟨_, S'.upd (tk := s.toks) hdx hs hod rd', T'.trans (Step.upd (tk := s.toks) hdx hs hod), E.keeps hle fun _ _ _ e => e⟩
theorem kget_nodup {K α : Type} [DecidableEq K] {l : List (K × α)} (h : (l.map (·.1)).Nodup) {p : K × α} (hp : p ∈ l) : kget l p.1 = some p.2 := by
  induction l with
  | nil => cases hp
  | cons a l ih =>
    rw [List.map_cons, List.nodup_cons] at h
    show (if a.1 = p.1 then some a.2 else kget l p.1) = _
    rcases List.mem_cons.mp hp with rfl | hp
    · rw [if_pos rfl]
    · rw [if_neg fun e => h.1 (List.mem_map.mpr ⟨p, hp, e.symm⟩)]
      exact ih h.2 hp
structure TabOK (B : Tab) : Prop where
  len : B.length ≤ 6
  nd : (B.map (·.1)).Nodup
  key : ∀ p ∈ B, p.1 ∈ codesL
  els : ∀ p ∈ B, p.2.length ≤ 2 ∧ ∀ e ∈ p.2, 0 ≤ e.1 ∧ 0 ≤ e.2.1 ∧ 0 ≤ e.2.2.1
theorem TabOK.ne {B : Tab} (h : TabOK B) {p : List Int × List Elem} (hp : p ∈ B) : p.1 ≠ [] := by
  have := h.key p hp
  intro e
  rw [e] at this
  revert this
  decide
theorem TabOK.get {B : Tab} (h : TabOK B) {p : List Int × List Elem} (hp : p ∈ B) : kget (tabV B) p.1 = some (elsV p.2) := by
  rw [kget_map elsV, kget_nodup h.nd hp]; rfl
noncomputable abbrev keyV (p : List Int × List Elem) : V := .tup (p.1.map .int)
noncomputable abbrev rowT (p : List Int × List Elem) : V := .tup [keyV p, elsV p.2]
noncomputable def scaleE (a b c : Int) (e : Elem) : Elem := (e.1 * a, e.2.1 * b, e.2.2.1 * c, e.2.2.2)
noncomputable def colE (i : Nat) (e : Elem) : Int := if i = 0 then e.1 else if i = 1 then e.2.1 else e.2.2.1
structure Most (i : Nat) (B : Tab) (m : Int) : Prop where
  pos : 0 ≤ m
  all : ∀ p ∈ B, ∀ e ∈ p.2, colE i e ≤ m
  mem : m = 0 ∨ ∃ p ∈ B, ∃ e ∈ p.2, colE i e = m
section
variable {g : G} {k : Nat} {σ : Sig} {Q : V → Sig → Prop}
theorem c_get (H : GK g) {B : Tab} {m : List (Int × Int)} {fac : V} {ks : List Int} (q : Q (match kget B ks with | some es => elsV es | none => .none) σ) : CALLC g (k + 1) (.ref 250) [elO B m fac, .tup (ks.map .int)] σ Q := by
  walk_at "fn0"
  case body =>
    refine ex_cons (ex_return ?_)
    refine ev_mcall (ev_attr (ev_name rfl ⟨_, _, _, .f, rfl, own_attr H (by kernel_rfl), (by intro w e; cases e), _, mres_dict (.inr (.inr ⟨_, .f⟩)) PySem.F.slot_dict_get rfl, keep_builtin, ?_⟩))
    repeat' walk_at "m"
    refine c_tuple ?_
    repeat' walk_at "m"
    refine c_get_T .f ?_
    rw [kget_map elsV]
    cases hk : kget B ks <;> (rw [hk] at q; exact q)
theorem c_rows (H : GK g) {B : Tab} {m : List (Int × Int)} {fac : V} (hB : TabOK B) (q : ∀ R : Tab, R.Perm B → Q (.lst (R.map rowT)) σ) : CALLC g (k + 1) (.ref 255) [elO B m fac] σ Q := by
  have hs := sizeLine_eq
  have hl := hB.len
  walk_at "fn0"
  case body =>
    refine ex_cons (ex_return (ev_listcomp (cx_list (P := fun vs us σ' => X2 fun (R1 R2 : Tab) => A4 ((R1 ++ R2).Perm B) (vs = R2.map keyV) (us = R1.map rowT) (σ' = σ)) ?_ ?_ ?_ rfl rfl rfl rfl)))
    · refine it_of ?_
      repeat' walk_at "m"
      refine c_sorted_T (by rw [List.length_map]; bv_omega) ?_ fun ks hks => ⟨_, itv_lst, [], ks.map fun l => (l, (kget B l).getD []), ?_, by rw [List.map_map]; rfl, rfl, rfl⟩
      · intro p hp
        obtain ⟨p0, h0, rfl⟩ := List.mem_map.mp hp
        exact hB.ne h0
      · have h1 := hks.map fun l => (l, (kget B l).getD ([] : List Elem))
        rw [List.map_map, List.map_map] at h1
        have h2 : (B.map fun p => (p.1, (kget B p.1).getD ([] : List Elem))) = B := by
          have : B.map (fun p => (p.1, (kget B p.1).getD ([] : List Elem))) = B.map id := List.map_congr_left fun p hp => by rw [kget_nodup hB.nd hp]; rfl
          rw [this, List.map_id]
        exact h1.trans (List.Perm.of_eq h2)
    · rintro v rest us σ' ⟨R1, R2, hp, hv, rfl, rfl⟩
      cases R2 with
      | nil => cases hv
      | cons p R2 =>
        obtain ⟨rfl, rfl⟩ := List.cons.inj hv
        have hm : p ∈ B := hp.mem_iff.mp (List.mem_append.mpr (.inr (.head _)))
        have hl2 := hp.length_eq
        rw [List.length_append] at hl2
        show EV _ _ _ _ _ _ _
        repeat' walk_at "m"
        refine item_dT .f (hB.get hm) ?_
        repeat' walk_at "m"
        exact ⟨by rw [List.length_map]; bv_omega, R1 ++ [p], R2, by rw [List.append_assoc]; exact hp, rfl, by rw [List.map_append]; rfl, rfl⟩
    · rintro us σ' ⟨R1, R2, hp, hv, rfl, rfl⟩
      cases R2 with
      | cons => cases hv
      | nil =>
        rw [List.append_nil] at hp
        exact q R1 hp
theorem c_scale (H : GK g) {es : List Elem} {a b c : Int} (hl : es.length ≤ 1000) (ha : 0 ≤ a ∧ a ≤ 1000) (hb : 0 ≤ b ∧ b ≤ 1000) (hc : 0 ≤ c ∧ c ≤ 1000) (q : Q (elsV (es.map (scaleE a b c))) σ) : CALLC g (k + 1) (.ref 214) [elsV es, .tup [.int a, .int b, .int c]] σ Q := by
  walk_at "fn0"
  case body =>
    walk_at "m"
    walk_at "x"
    refine ex_cons (ex_return (ev_listcomp (cx_mapV es elV (fun e => [elV (scaleE a b c e)]) (it_of (ev_name rfl ⟨_, itv_lst, rfl, rfl⟩)) (fun e => Nat.le_refl 1) (by bv_omega) ?_ ?_)))
    · intro e he us hus
      show EV _ _ _ _ _ _ _
      repeat' walk_at "m"
      exact ⟨hus, rfl, rfl⟩
    · rw [flat_one, ← Function.comp_def, ← List.map_map]
      exact q
theorem c_greatest (H : GK g) {B : Tab} {m : List (Int × Int)} {fac : V} {i : Nat} (hB : TabOK B) (hi : i < 3) (q : ∀ x, Most i B x → Q (.int x) σ) : CALLC g (k + 1) (.ref 291) [elO B m fac, .int i] σ Q := by
  walk_at "fn0"
  case body =>
    walk_at "m"
    walk_at "x"
    refine ex_cons ?_
    refine ex_forL (fun x : Int => [("most", .int x), ("self", elO B m fac), ("level", .int i)]) B keyV (fun dn x σ' => σ = σ' ∧ Most i dn x) ?_ ?_ ?_
    · refine it_of (ev_attr (ev_name rfl ⟨_, _, _, .f, rfl, own_attr H (by kernel_rfl), (by intro w e; cases e), _, itv_dT, 0, by rw [List.map_map]; rfl, by walk_at "rle", rfl, Int.le_refl 0, (fun p hp => by cases hp), .inl rfl⟩))
    · rintro dn p r x σ' hb ⟨rfl, hM⟩
      focus
        have hm : p ∈ B := by rw [hb]; exact List.mem_append.mpr (.inr (.head _))
        intro N' hN
        walk_at "m"
        refine ex_cons ?_
        refine ex_forL (fun x : Int => [("most", .int x), ("self", elO B m fac), ("level", .int i)]) p.2 elV (fun ed x σ'' => σ = σ'' ∧ Most i (dn ++ [(p.1, ed)]) x) ?_ ?_ ?_
        · refine it_of ?_
          repeat' walk_at "m"
          refine item_dT .f (hB.get hm) ⟨_, itv_lst, x, rfl, by walk_at "rle", rfl, hM.pos, fun p' hp' e he => ?_, ?_⟩
          · rcases List.mem_append.mp hp' with h | h
            · exact hM.all _ h e he
            · cases List.mem_singleton.mp h; cases he
          · rcases hM.mem with h | ⟨p', h1, e, h2, h3⟩
            · exact .inl h
            · exact .inr ⟨p', List.mem_append.mpr (.inl h1), e, h2, h3⟩
        · rintro ed e er x σ'' he ⟨rfl, hM⟩
          focus
            intro N' hN
            repeat' walk_at "m"
            refine item_tup (j := i) (v := .int (colE i e)) ?_ ?_ (by bv_omega) ?_
            · have : i = 0 ∨ i = 1 ∨ i = 2 := by bv_omega
              rcases this with rfl | rfl | rfl <;> rfl
            · have : i = 0 ∨ i = 1 ∨ i = 2 := by bv_omega
              rcases this with rfl | rfl | rfl <;> rfl
            repeat' walk_at "m"
            refine hN _ _ _ (by walk_at "rle") ⟨rfl, ?_, fun p' hp' e' he' => ?_, ?_⟩
            · have := hM.pos
              split <;> bv_omega
            · have h0 : colE i e' ≤ x ∨ colE i e' = colE i e := by
                rcases List.mem_append.mp hp' with h | h
                · exact .inl (hM.all p' (List.mem_append.mpr (.inl h)) e' he')
                · cases List.mem_singleton.mp h
                  rcases List.mem_append.mp he' with h | h
                  · exact .inl (hM.all (p.1, ed) (List.mem_append.mpr (.inr (.head _))) e' h)
                  · exact .inr (by rw [List.mem_singleton.mp h])
              split <;> bv_omega
            · split
              · exact .inr ⟨(p.1, ed ++ [e]), List.mem_append.mpr (.inr (.head _)), e, List.mem_append.mpr (.inr (.head _)), rfl⟩
              · rcases hM.mem with h | ⟨p', h1, e', h2, h3⟩
                · exact .inl h
                · rcases List.mem_append.mp h1 with h | h
                  · exact .inr ⟨p', List.mem_append.mpr (.inl h), e', h2, h3⟩
                  · cases List.mem_singleton.mp h
                    exact .inr ⟨(p.1, ed ++ [e]), List.mem_append.mpr (.inr (.head _)), e', List.mem_append.mpr (.inl h2), h3⟩
        · rintro x σ'' ⟨rfl, hM⟩
          exact ex_nil (hN _ _ x (by walk_at "rle") ⟨rfl, hM⟩)
    · rintro x σ' ⟨rfl, hM⟩
      focus
        repeat' walk_at "m"
        exact q x hM
end
end
section
theorem kput_new {K α : Type} [DecidableEq K] {l : List (K × α)} {k : K} {v : α} (h : k ∉ l.map (·.1)) : kput l k v = l ++ [(k, v)] := by
  induction l with
  | nil => rfl
  | cons p l ih =>
    rw [List.map_cons] at h
    show (if p.1 = k then _ else _) = _
    rw [if_neg fun e => h (by rw [← e]; exact .head _), ih fun e => h (.tail _ e)]
    rfl
noncomputable def scaleT (a b c : Int) (B : Tab) : Tab := B.map fun p => (p.1, p.2.map (scaleE a b c))
theorem scaleT_keys (a b c : Int) (B : Tab) : (scaleT a b c B).map (·.1) = B.map (·.1) := by
  unfold scaleT
  rw [List.map_map]
  rfl
theorem TabOK.scale {B : Tab} (h : TabOK B) {a b c : Int} (ha : 0 ≤ a) (hb : 0 ≤ b) (hc : 0 ≤ c) : TabOK (scaleT a b c B) := by
  refine ⟨by rw [scaleT, List.length_map]; exact h.len, by rw [scaleT_keys]; exact h.nd, fun p hp => ?_, fun p hp => ?_⟩
  · obtain ⟨p, hp', rfl⟩ := List.mem_map.mp hp
    exact h.key p hp'
  · obtain ⟨p, hp', rfl⟩ := List.mem_map.mp hp
    refine ⟨by rw [List.length_map]; exact (h.els p hp').1, fun e he => ?_⟩
    obtain ⟨e, he', rfl⟩ := List.mem_map.mp he
    have := (h.els p hp').2 e he'
    exact ⟨Int.mul_nonneg this.1 ha, Int.mul_nonneg this.2.1 hb, Int.mul_nonneg this.2.2 hc⟩
section
variable {g : G} {k : Nat} {σ : Sig} {Q : V → Sig → Prop}
theorem c_scaled (H : GK g) {B : Tab} {m : List (Int × Int)} {a b c : Int} (hB : TabOK B) (ha : 0 ≤ a ∧ a ≤ 1000) (hb : 0 ≤ b ∧ b ≤ 1000) (hc : 0 ≤ c ∧ c ≤ 1000) (q : ∀ m' fac, Q (elO (scaleT a b c B) m' fac) σ) :
    CALLC g (k + 5) (.ref 269) [elO B m (.tup [.int 1, .int 1, .int 1]), .int a, .int b, .int c] σ Q := by
  have hs := sizeLine_eq
  have hl := hB.len
  walk_at "fn0"
  case body =>
    refine EX.fin ?_
    repeat' walk_at "m"
    refine call_make (by rw [H.hK]; kernel_rfl) (by rw [H.hK]; rfl) (by rw [H.hK]; kernel_rfl) fun dx hdx => c_elem_init H (Sig.set_self ..) fun t1 t2 σ1 e1 e2 e3 f0 f1 f2 fr => ⟨rfl, ?_⟩
    have n1 : dx ≠ t1 := ne_of_set (Sig.set_self ..) e1
    have n2 : dx ≠ t2 := ne_of_set (Sig.set_self ..) e2
    rw [Sig.set_ne n1.symm] at e1
    rw [Sig.set_ne n2.symm] at e2
    refine asn_name rfl ?_
    refine ex_cons ?_
    refine ex_forL (fun _ : Unit => [("found", .inst 322 dx), ("self", elO B m (.tup [.int 1, .int 1, .int 1])), ("first", .int a), ("second", .int b), ("third", .int c)])
      B keyV (fun dn _ σ' => ∃ mm, A5 (mm.length ≤ dn.length) (σ' dx = some (.dS (elFs (.ref t1) (.ref t2) (.tup [.int 1, .int 1, .int 1])))) (σ' t1 = some (.dT (tabV (scaleT a b c dn)))) (σ' t2 = some (.dI (dII mm))) (∀ b, b ≠ dx → b ≠ t1 → b ≠ t2 → σ' b = σ b)) ?_ ?_ ?_
    · refine it_of (ev_attr (ev_name rfl ⟨_, _, _, .f, rfl, own_attr H (by kernel_rfl), (by intro w e; cases e), _, itv_dT, (), by rw [List.map_map]; rfl, by walk_at "rle", [], Nat.le_refl _, f0, f1, f2, fun b h1 h2 h3 => ?_⟩))
      rw [fr b h1 h2 h3, Sig.set_ne h1]
    · rintro dn p r _ σ' hbe ⟨mm, hmm, g0, g1, g2, gr⟩
      focus
        have hm : p ∈ B := by rw [hbe]; exact List.mem_append.mpr (.inr (.head _))
        have hln := congrArg List.length hbe
        rw [List.length_append, List.length_cons] at hln
        have hget := hB.get hm
        have hels := hB.els p hm
        have hnew : p.1 ∉ (scaleT a b c dn).map (·.1) := by
          rw [scaleT_keys]
          intro hin
          have nd := hB.nd
          rw [hbe, List.map_append, List.nodup_append] at nd
          exact nd.2.2 _ hin _ (List.mem_map.mpr ⟨p, .head _, rfl⟩) rfl
        have hke := hB.ne hm
        have hkl : p.1.length ≤ 3 := by
          have := hB.key p hm
          revert this
          have : ∀ x ∈ codesL, x.length ≤ 3 := by decide
          exact this _
        obtain ⟨ks, es⟩ := p
        cases ks with
        | nil => exact absurd rfl hke
        | cons x xs =>
          rw [List.length_cons] at hkl
          intro N' hN
          walk_at "m"
          refine ex_cons (ex_expr (ev_mcall (ev_name rfl ⟨_, mres_inst (.m g0) rfl (own_meth H (by kernel_rfl) (by rfl) (by kernel_rfl)), keep_fn H (by kernel_rfl), ?_⟩)) rfl)
          repeat' walk_at "m"
          refine item_dT .f hget ?_
          repeat' walk_at "m"
          refine (c_scale H (by bv_omega) ha hb hc ?_).call
          repeat' walk_at "m"
          refine (c_put H g0 g1 g2 n1 n2 e3 (by rw [scaleT, List.length_map]; bv_omega) (by bv_omega) (by bv_omega) (by rw [List.length_map]; bv_omega) fun m' σ2 l1 u0 u1 u2 ur => ⟨rfl, ?_⟩).call
          refine ex_nil (hN _ _ () (by walk_at "rle") ⟨m', by rw [List.length_append, List.length_singleton]; bv_omega, u0, ?_, u2, fun b h1 h2 h3 => by rw [ur b h1 h2 h3, gr b h1 h2 h3]⟩)
          rw [u1, kput_new hnew]
          unfold scaleT
          rw [List.map_append (l₁ := dn)]
          rfl
    · rintro _ σ' ⟨mm, hmm, g0, g1, g2, gr⟩
      focus
        refine ex_cons (ex_assign ?_)
        iterate 4 walk_at "m"
        refine c_list .f (Nat.le_of_ble_eq_true rfl) ?_
        walk_at "x"
        walk_at "m"
        walk_at "x"
        have w0 : ∀ mo mo', ((σ'.set dx mo).set dx mo') dx = some mo' := fun _ _ => Sig.set_self ..
        refine ex_ghost (gh_attr (dx := dx) (x := "table") (a := t1) (Sig.set_self ..) rfl (by rw [Sig.set_set, Sig.set_ne n1.symm]; exact g1) n1.symm) ?_
        refine ex_ghost (gh_attr (dx := dx) (x := "longest") (a := t2) (Sig.set_self ..) rfl (by rw [Sig.set_ne n2.symm, Sig.del_ne e3.symm, Sig.set_set, Sig.set_ne n2.symm]; exact g2) n2.symm) ?_
        refine ex_ghost (gh_inst (x := "found") rfl (Sig.set_self ..)) ?_
        repeat' walk_at "m"
        refine ⟨σ, fun b m hb => ?_, q mm _⟩
        have h1 : b ≠ dx := fun e => by rw [e, hdx] at hb; cases hb
        have h2 : b ≠ t1 := fun e => by rw [e, e1] at hb; cases hb
        have h3 : b ≠ t2 := fun e => by rw [e, e2] at hb; cases hb
        rw [Sig.del_ne h1, Sig.set_ne h1, Sig.del_ne h3, Sig.set_ne h1, Sig.del_ne h2, Sig.set_set, Sig.set_ne h1, gr b h1 h2 h3]
        exact hb
end
end
section
structure KS (b : List (Int × V)) (l : List Int) : Prop where
  tr : allTrue b
  nd : (b.map (·.1)).Nodup
  len : b.length ≤ l.length
  mem : ∀ x, x ∈ b.map (·.1) ↔ x ∈ l
theorem KS.nil : KS [] [] := ⟨(fun _ h => nomatch h), List.nodup_nil, Nat.le_refl _, fun _ => Iff.rfl⟩
theorem kput_true : ∀ {b : List (Int × V)} {x : Int}, allTrue b → allTrue (kput b x (.bool true))
  | [], x, _, p, hp => by cases List.mem_singleton.mp hp; rfl
  | q :: b, x, h, p, hp => by
    change p ∈ (if q.1 = x then (q.1, V.bool true) :: b else q :: kput b x (.bool true)) at hp
    split at hp
    · rcases List.mem_cons.mp hp with rfl | hp
      · rfl
      · exact h p (.tail _ hp)
    · rcases List.mem_cons.mp hp with rfl | hp
      · exact h _ (.head _)
      · exact kput_true (fun p' h' => h p' (.tail _ h')) p hp
theorem KS.snoc {b : List (Int × V)} {l : List Int} (h : KS b l) (x : Int) : KS (kput b x (.bool true)) (l ++ [x]) := by
  refine ⟨kput_true h.tr, kput_nodup h.nd, ?_, fun y => ?_⟩
  · have := kput_length b x (.bool true)
    have := h.len
    rw [List.length_append, List.length_singleton]
    bv_omega
  · rw [kput_keys]
    have := h.mem y
    have hx := h.mem x
    split
    · rw [this, List.mem_append, List.mem_singleton]
      exact ⟨.inl, fun e => e.elim id fun e => by rw [e]; exact hx.mp (by assumption)⟩
    · rw [List.mem_append, List.mem_append, this]
theorem KS.add {b : List (Int × V)} {l l' : List Int} (h : KS b l) {x : Int} (e : l' = l ++ [x]) : KS (kput b x (.bool true)) l' := e ▸ h.snoc x
theorem KS.perm {b : List (Int × V)} {l l' : List Int} (h : KS b l) (p : l.Perm l') : KS b l' := ⟨h.tr, h.nd, by rw [← p.length_eq]; exact h.len, fun x => (h.mem x).trans p.mem_iff⟩
noncomputable abbrev everyT (B : Tab) : List Elem := B.flatMap fun p => p.2
theorem everyT_len : ∀ {B : Tab}, (∀ p ∈ B, p.2.length ≤ 2) → (everyT B).length ≤ 2 * B.length
  | [], _ => Nat.le_refl _
  | p :: B, h => by
    have h1 := h p (.head _)
    have h2 := everyT_len fun q hq => h q (.tail _ hq)
    show (List.flatMap _ (p :: B)).length ≤ _
    rw [List.flatMap_cons, List.length_append, List.length_cons]
    change (List.flatMap _ B).length ≤ _ at h2
    bv_omega
theorem TabOK.perm {B R : Tab} (h : TabOK B) (p : R.Perm B) : TabOK R := ⟨by rw [p.length_eq]; exact h.len, (p.map _).nodup_iff.mpr h.nd, fun q hq => h.key q (p.mem_iff.mp hq), fun q hq => h.els q (p.mem_iff.mp hq)⟩
theorem TabOK.every {B : Tab} (h : TabOK B) : (everyT B).length ≤ 12 := by
  have := everyT_len fun p hp => (h.els p hp).1
  have := h.len
  bv_omega
noncomputable def secB (e : Elem) : List Int := if 0 < e.1 then posL e.2.1 e.2.1 else []
noncomputable def secA (e : Elem) : List Int := if 0 < e.1 then [] else posL e.2.1 e.2.1
noncomputable def terB (e : Elem) : List Int := if 0 < e.1 ∨ 0 < e.2.1 then posL e.2.2.1 e.2.2.1 else []
noncomputable def terA (e : Elem) : List Int := if 0 < e.1 ∨ 0 < e.2.1 then [] else posL e.2.2.1 e.2.2.1
theorem secB_len (e : Elem) : (secB e).length ≤ 1 := by unfold secB; split; exact posL_len ..; exact Nat.zero_le _
theorem secA_len (e : Elem) : (secA e).length ≤ 1 := by unfold secA; split; exact Nat.zero_le _; exact posL_len ..
theorem terB_len (e : Elem) : (terB e).length ≤ 1 := by unfold terB; split; exact posL_len ..; exact Nat.zero_le _
theorem terA_len (e : Elem) : (terA e).length ≤ 1 := by unfold terA; split; exact Nat.zero_le _; exact posL_len ..
theorem posL1 {x : Int} (h : 0 < x) : posL x x = [x] := if_pos h
theorem posL0 {x : Int} (h : ¬ 0 < x) : posL x x = [] := if_neg h
theorem flat_snoc {α β : Type} (f : α → List β) (l : List α) (x : α) : (l ++ [x]).flatMap f = l.flatMap f ++ f x := by rw [List.flatMap_append, List.flatMap_singleton]
theorem everyT_snoc (B : Tab) (p : List Int × List Elem) : everyT (B ++ [p]) = everyT B ++ p.2 := flat_snoc ..
section
variable {g : G} {k : Nat} {σ : Sig} {Q : V → Sig → Prop}
/-- a row's one element, looked at: what two dicts hold ahead of it and behind it -/
structure Two (σ σ' : Sig) (bd al : Addr) (f h : Elem → List Int) (l : List Elem) (b a : List (Int × V)) : Prop where
  hb : σ' bd = some (.dI b)
  ha : σ' al = some (.dI a)
  kb : KS b (l.flatMap f)
  ka : KS a (l.flatMap h)
  oth : ∀ x, x ≠ bd → x ≠ al → σ' x = σ x
theorem Two.same {σ' : Sig} {bd al : Addr} {f h : Elem → List Int} {l : List Elem} {b a : List (Int × V)} {e : Elem} (T : Two σ σ' bd al f h l b a) (h1 : f e = []) (h2 : h e = []) : Two σ σ' bd al f h (l ++ [e]) b a :=
  ⟨T.hb, T.ha, by rw [flat_snoc, h1, List.append_nil]; exact T.kb, by rw [flat_snoc, h2, List.append_nil]; exact T.ka, T.oth⟩
theorem Two.addB {σ' : Sig} {bd al : Addr} {f h : Elem → List Int} {l : List Elem} {b a : List (Int × V)} {e : Elem} {x : Int} (T : Two σ σ' bd al f h l b a) (ne : bd ≠ al) (h1 : f e = [x]) (h2 : h e = []) : Two σ (σ'.set bd (.dI (kput b x (.bool true)))) bd al f h (l ++ [e]) (kput b x (.bool true)) a :=
  ⟨Sig.set_self .., (Sig.set_ne ne.symm).trans T.ha, by rw [flat_snoc, h1]; exact T.kb.snoc x, by rw [flat_snoc, h2, List.append_nil]; exact T.ka, fun y e1 e2 => (Sig.set_ne e1).trans (T.oth y e1 e2)⟩
theorem Two.addA {σ' : Sig} {bd al : Addr} {f h : Elem → List Int} {l : List Elem} {b a : List (Int × V)} {e : Elem} {x : Int} (T : Two σ σ' bd al f h l b a) (ne : bd ≠ al) (h1 : f e = []) (h2 : h e = [x]) : Two σ (σ'.set al (.dI (kput a x (.bool true)))) bd al f h (l ++ [e]) b (kput a x (.bool true)) :=
  ⟨(Sig.set_ne ne).trans T.hb, Sig.set_self .., by rw [flat_snoc, h1, List.append_nil]; exact T.kb, by rw [flat_snoc, h2]; exact T.ka.snoc x, fun y e1 e2 => (Sig.set_ne e2).trans (T.oth y e1 e2)⟩
theorem two_len {σ' : Sig} {bd al : Addr} {f h : Elem → List Int} {l : List Elem} {b a : List (Int × V)} (T : Two σ σ' bd al f h l b a) (h1 : ∀ e, (f e).length ≤ 1) (h2 : ∀ e, (h e).length ≤ 1) (hl : l.length ≤ 120) : b.length ≤ 1000 ∧ a.length ≤ 1000 := by
  have := T.kb.len
  have := T.ka.len
  have := flat_le h1 l
  have := flat_le h2 l
  bv_omega
theorem c_seconds (H : GK g) {B : Tab} {m : List (Int × Int)} {fac : V} (hB : TabOK B) (q : ∀ b a, KS b ((everyT B).flatMap secB) → KS a ((everyT B).flatMap secA) → Q (.tup [.dI b, .dI a]) σ) : CALLC g (k + 2) (.ref 333) [elO B m fac] σ Q := by
  have hs := sizeLine_eq
  walk_at "fn0"
  case body =>
    refine EX.fin ?_
    refine ex_cons (ex_swap2 rfl rfl rfl (ev_tuple (evs_cons (ev_dict0 (.inl rfl) fun bd hbd => evs_cons (ev_dict0 (.inl rfl) fun al hal => evs_nil ⟨Nat.le_of_ble_eq_true rfl, _, rfl, rfl, ?_⟩)))))
    have ne : bd ≠ al := ne_of_set (Sig.set_self ..) hal
    rw [Sig.set_ne ne.symm] at hal
    refine ex_cons ?_
    refine ex_forP (fun _ : Unit => [("beside", .ref bd), ("alone", .ref al)]) B rowT (fun dn _ σ' => X2 fun b a => Two σ σ' bd al secB secA (everyT dn) b a) ?_ ?_ ?_
    · refine it_of (ev_mcall0 (ev_name rfl ⟨_, mres_inst .f rfl (own_meth H (by kernel_rfl) (by rfl) (by kernel_rfl)), keep_fn H (by kernel_rfl), (c_rows H hB fun R hR => ⟨_, itv_lst, R, (), hR, rfl, by walk_at "rle", [], [], ?_⟩).call⟩))
      exact ⟨(Sig.set_ne ne).trans (Sig.set_self ..), Sig.set_self .., KS.nil, KS.nil, fun x e1 e2 => by rw [Sig.set_ne e2, Sig.set_ne e1]⟩
    · rintro dn p r _ σ' hR ⟨b, a, T⟩
      focus
        have hl := (hB.perm hR).every
        intro N' hN
        walk_at "m"
        repeat' walk_at "m"
        refine ex_forL (fun _ : Unit => [("beside", .ref bd), ("alone", .ref al)]) p.2 elV (fun ed _ σ' => X2 fun b a => Two σ σ' bd al secB secA (everyT dn ++ ed) b a) ?_ ?_ ?_
        · exact it_of (ev_name rfl ⟨_, itv_lst, (), rfl, by walk_at "rle", b, a, by rw [List.append_nil]; exact T⟩)
        · rintro ed e er _ σ' he ⟨b, a, T⟩
          focus
            have hl2 : (everyT dn ++ ed).length ≤ 120 := by
              rw [everyT, List.flatMap_append, List.flatMap_cons, he] at hl
              simp only [List.length_append, everyT] at hl ⊢
              bv_omega
            have hln := two_len T secB_len secA_len hl2
            obtain ⟨e1, e2, e3, e4⟩ := e
            intro N' hN
            repeat' walk_at "m"
            · rename_i h1 h2
              refine seti_dI T.hb hln.1 ?_
              repeat' walk_at "m"
              exact hN _ _ () (by walk_at "rle") ⟨_, _, by rw [← List.append_assoc]; exact T.addB ne (by rw [secB, if_pos h1, posL1 h2]) (by rw [secA, if_pos h1])⟩
            · rename_i h1 h2
              exact hN _ _ () (by walk_at "rle") ⟨_, _, by rw [← List.append_assoc]; exact T.same (by rw [secB, if_pos h1, posL0 h2]) (by rw [secA, if_pos h1])⟩
            · rename_i h1 h2
              refine seti_dI T.ha hln.2 ?_
              repeat' walk_at "m"
              exact hN _ _ () (by walk_at "rle") ⟨_, _, by rw [← List.append_assoc]; exact T.addA ne (by rw [secB, if_neg h1]) (by rw [secA, if_neg h1, posL1 h2])⟩
            · rename_i h1 h2
              exact hN _ _ () (by walk_at "rle") ⟨_, _, by rw [← List.append_assoc]; exact T.same (by rw [secB, if_neg h1]) (by rw [secA, if_neg h1, posL0 h2])⟩
        · rintro _ σ' ⟨b, a, T⟩
          focus
            refine ex_nil (hN _ _ () (by walk_at "rle") ⟨b, a, ?_⟩)
            rw [everyT_snoc]
            exact T
    · rintro dn _ σ' hR ⟨b, a, T⟩
      focus
        refine ex_ghost (gh_name (x := "beside") rfl T.hb) ?_
        refine ex_ghost (gh_name (x := "alone") rfl ((Sig.del_ne ne.symm).trans T.ha)) ?_
        have hp : (everyT dn).Perm (everyT B) := hR.flatMap_right _
        repeat' walk_at "m"
        refine ⟨σ, fun x mm hx => ?_, q b a (T.kb.perm (hp.flatMap_right _)) (T.ka.perm (hp.flatMap_right _))⟩
        have h1 : x ≠ bd := fun e => by rw [e, hbd] at hx; cases hx
        have h2 : x ≠ al := fun e => by rw [e, hal] at hx; cases hx
        rw [Sig.del_ne h2, Sig.del_ne h1, T.oth x h1 h2]
        exact hx
end
end
section
section
variable {g : G} {k : Nat} {σ : Sig} {Q : V → Sig → Prop}
theorem c_thirds (H : GK g) {B : Tab} {m : List (Int × Int)} {fac : V} (hB : TabOK B) (q : ∀ b a, KS b ((everyT B).flatMap terB) → KS a ((everyT B).flatMap terA) → Q (.tup [.dI b, .dI a]) σ) : CALLC g (k + 2) (.ref 340) [elO B m fac] σ Q := by
  have hs := sizeLine_eq
  walk_at "fn0"
  case body =>
    refine EX.fin ?_
    refine ex_cons (ex_swap2 rfl rfl rfl (ev_tuple (evs_cons (ev_dict0 (.inl rfl) fun bd hbd => evs_cons (ev_dict0 (.inl rfl) fun al hal => evs_nil ⟨Nat.le_of_ble_eq_true rfl, _, rfl, rfl, ?_⟩)))))
    have ne : bd ≠ al := ne_of_set (Sig.set_self ..) hal
    rw [Sig.set_ne ne.symm] at hal
    refine ex_cons ?_
    refine ex_forP (fun _ : Unit => [("beside", .ref bd), ("alone", .ref al)]) B rowT (fun dn _ σ' => X2 fun b a => Two σ σ' bd al terB terA (everyT dn) b a) ?_ ?_ ?_
    · refine it_of (ev_mcall0 (ev_name rfl ⟨_, mres_inst .f rfl (own_meth H (by kernel_rfl) (by rfl) (by kernel_rfl)), keep_fn H (by kernel_rfl), (c_rows H hB fun R hR => ⟨_, itv_lst, R, (), hR, rfl, by walk_at "rle", [], [], ?_⟩).call⟩))
      exact ⟨(Sig.set_ne ne).trans (Sig.set_self ..), Sig.set_self .., KS.nil, KS.nil, fun x e1 e2 => by rw [Sig.set_ne e2, Sig.set_ne e1]⟩
    · rintro dn p r _ σ' hR ⟨b, a, T⟩
      focus
        have hl := (hB.perm hR).every
        intro N' hN
        walk_at "m"
        repeat' walk_at "m"
        refine ex_forL (fun _ : Unit => [("beside", .ref bd), ("alone", .ref al)]) p.2 elV (fun ed _ σ' => X2 fun b a => Two σ σ' bd al terB terA (everyT dn ++ ed) b a) ?_ ?_ ?_
        · exact it_of (ev_name rfl ⟨_, itv_lst, (), rfl, by walk_at "rle", b, a, by rw [List.append_nil]; exact T⟩)
        · rintro ed e er _ σ' he ⟨b, a, T⟩
          focus
            have hl2 : (everyT dn ++ ed).length ≤ 120 := by
              rw [everyT, List.flatMap_append, List.flatMap_cons, he] at hl
              simp only [List.length_append, everyT] at hl ⊢
              bv_omega
            have hln := two_len T terB_len terA_len hl2
            have he' : p.2 = (ed ++ [e]) ++ er := by rw [he]; simp
            obtain ⟨e1, e2, e3, e4⟩ := e
            intro N' hN
            repeat' walk_at "m"
            · rename_i h1 h2
              refine seti_dI T.hb hln.1 ?_
              repeat' walk_at "m"
              exact hN _ _ () (by walk_at "rle") ⟨_, _, by rw [← List.append_assoc]; exact T.addB ne (by rw [terB, if_pos (.inl h1), posL1 h2]) (by rw [terA, if_pos (.inl h1)])⟩
            · rename_i h1 h2
              exact hN _ _ () (by walk_at "rle") ⟨_, _, by rw [← List.append_assoc]; exact T.same (by rw [terB, if_pos (.inl h1), posL0 h2]) (by rw [terA, if_pos (.inl h1)])⟩
            · rename_i h0 h1 h2
              refine seti_dI T.hb hln.1 ?_
              repeat' walk_at "m"
              exact hN _ _ () (by walk_at "rle") ⟨_, _, by rw [← List.append_assoc]; exact T.addB ne (by rw [terB, if_pos (.inr h1), posL1 h2]) (by rw [terA, if_pos (.inr h1)])⟩
            · rename_i h0 h1 h2
              exact hN _ _ () (by walk_at "rle") ⟨_, _, by rw [← List.append_assoc]; exact T.same (by rw [terB, if_pos (.inr h1), posL0 h2]) (by rw [terA, if_pos (.inr h1)])⟩
            · rename_i h0 h1 h2
              refine seti_dI T.ha hln.2 ?_
              repeat' walk_at "m"
              exact hN _ _ () (by walk_at "rle") ⟨_, _, by rw [← List.append_assoc]; exact T.addA ne (by rw [terB, if_neg (fun h => h.elim h0 h1)]) (by rw [terA, if_neg (fun h => h.elim h0 h1), posL1 h2])⟩
            · rename_i h0 h1 h2
              exact hN _ _ () (by walk_at "rle") ⟨_, _, by rw [← List.append_assoc]; exact T.same (by rw [terB, if_neg (fun h => h.elim h0 h1)]) (by rw [terA, if_neg (fun h => h.elim h0 h1), posL0 h2])⟩
        · rintro _ σ' ⟨b, a, T⟩
          focus
            refine ex_nil (hN _ _ () (by walk_at "rle") ⟨b, a, ?_⟩)
            rw [everyT_snoc]
            exact T
    · rintro dn _ σ' hR ⟨b, a, T⟩
      focus
        refine ex_ghost (gh_name (x := "beside") rfl T.hb) ?_
        refine ex_ghost (gh_name (x := "alone") rfl ((Sig.del_ne ne.symm).trans T.ha)) ?_
        have hp : (everyT dn).Perm (everyT B) := hR.flatMap_right _
        repeat' walk_at "m"
        refine ⟨σ, fun x mm hx => ?_, q b a (T.kb.perm (hp.flatMap_right _)) (T.ka.perm (hp.flatMap_right _))⟩
        have h1 : x ≠ bd := fun e => by rw [e, hbd] at hx; cases hx
        have h2 : x ≠ al := fun e => by rw [e, hal] at hx; cases hx
        rw [Sig.del_ne h2, Sig.del_ne h1, T.oth x h1 h2]
        exact hx
end
end
section
noncomputable def varB (e : Elem) : List Int := if e.2.2.2 = true then posL e.1 e.1 else []
noncomputable def varA (e : Elem) : List Int := if e.2.2.2 = true then [] else posL e.1 e.1
theorem varB_len (e : Elem) : (varB e).length ≤ 1 := by unfold varB; split; exact posL_len ..; exact Nat.zero_le _
theorem varA_len (e : Elem) : (varA e).length ≤ 1 := by unfold varA; split; exact Nat.zero_le _; exact posL_len ..
theorem sameD_nil (b : List (Int × V)) : sameD b [] = decide (b = []) := by cases b <;> rfl
theorem allT_nil : allTrue [] := fun _ h => nomatch h
section
variable {g : G} {k : Nat} {σ : Sig} {Q : V → Sig → Prop}
theorem ev_or3 {sc : Scope} {ρ : Rho} {a b c : Expr} {pos : Pos} (h : EV g k sc ρ a σ fun v σ₁ => TRU g k v σ₁ fun t σ₂ => if t = true then Q v σ₂ else EV g k sc ρ (.BoolOp .Or [b, c] pos) σ₂ Q) : EV g k sc ρ (.BoolOp .Or [a, b, c] pos) σ Q := by
  intro F A D s hs R S E
  show W g A F.own No (boolOp pos .Or [eval a F.env, eval b F.env, eval c F.env]) D σ s _
  unfold boolOp
  refine h.then hs R S E fun c v D₁ σ₁ s₁ r₁ h₁ S₁ E₁ T₁ => W.standAt (W.bind (W.holding ((h₁ A F.own D₁ s₁ c R S₁ r₁).mono fun t D₂ σ₂ s₂ S₂ T₂ q => ?_)))
  cases t
  · exact q F A D₂ s₂ hs R S₂ (E₁.step S₁ T₂)
  · exact W.pure S₂ ⟨v, r₁.mono T₂.fle, q⟩
theorem perm_ne {ns : List Int} {b : List (Int × V)} (h : ns.Perm (b.map (·.1))) (hb : ¬ b = []) : ns ≠ [] := by
  rintro rfl
  exact hb (List.map_eq_nil_iff.mp (List.nil_perm.mp h))
theorem c_apart (H : GK g) {b a : List (Int × V)} (hb : allTrue b) (ha : allTrue a) (lb : b.length < 64) (la : a.length < 64) (q : ∀ r : Bool, (r = true ↔ ∀ x ∈ b.map (·.1), ∀ y ∈ a.map (·.1), x < y) → Q (.bool r) σ) : CALLC g (k + 1) (.ref 347) [.dI b, .dI a] σ Q := by
  walk_at "fn0"
  case body =>
    refine ex_cons (ex_return (ev_or3 ?_))
    refine ev_cmp (ev_name rfl (ev_dict0f (cmp_eq_dI .f .f hb allT_nil ?_)))
    rw [sameD_nil]
    repeat' walk_at "m"
    · rename_i h1
      exact q _ ⟨fun _ x hx => (by rw [h1] at hx; cases hx), fun _ => decide_eq_true h1⟩
    · rename_i h1
      refine ev_dict0f (cmp_eq_dI .f .f ha allT_nil ?_)
      rw [sameD_nil]
      repeat' walk_at "m"
      · rename_i h2
        exact q _ ⟨fun _ x hx y hy => (by rw [h2] at hy; cases hy), fun _ => decide_eq_true h2⟩
      · rename_i h2
        refine c_sorted_I lb fun ns p1 _ => ?_
        repeat' walk_at "m"
        refine c_max .f (perm_ne p1 h1) fun m m1 m2 => ?_
        repeat' walk_at "m"
        refine c_sorted_I la fun ms p2 _ => ?_
        repeat' walk_at "m"
        refine c_min .f (perm_ne p2 h2) fun w w1 w2 => ?_
        repeat' walk_at "m"
        refine q _ ⟨fun h x hx y hy => ?_, fun h => decide_eq_true (h m (p1.mem_iff.mp m1) w (p2.mem_iff.mp w1))⟩
        have := of_decide_eq_true h
        have := m2 x (p1.mem_iff.mpr hx)
        have := w2 y (p2.mem_iff.mpr hy)
        bv_omega
theorem c_variables (H : GK g) {B : Tab} {m : List (Int × Int)} {fac : V} (hB : TabOK B) (q : ∀ r : Bool, (r = true ↔ ∀ v1 ∈ (everyT B).flatMap varB, ∀ v2 ∈ (everyT B).flatMap varB, ∀ w ∈ (everyT B).flatMap varA, ¬ (v1 ≤ w ∧ w ≤ v2)) → Q (.bool r) σ) : CALLC g (k + 2) (.ref 352) [elO B m fac] σ Q := by
  have hs := sizeLine_eq
  walk_at "fn0"
  case body =>
    refine EX.fin ?_
    refine ex_cons (ex_swap2 rfl rfl rfl (ev_tuple (evs_cons (ev_dict0 (.inl rfl) fun bd hbd => evs_cons (ev_dict0 (.inl rfl) fun al hal => evs_nil ⟨Nat.le_of_ble_eq_true rfl, _, rfl, rfl, ?_⟩)))))
    have ne : bd ≠ al := ne_of_set (Sig.set_self ..) hal
    rw [Sig.set_ne ne.symm] at hal
    refine ex_cons ?_
    refine ex_forP (fun _ : Unit => [("variable", .ref bd), ("fixed", .ref al)]) B rowT (fun dn _ σ' => X2 fun b a => Two σ σ' bd al varB varA (everyT dn) b a) ?_ ?_ ?_
    · refine it_of (ev_mcall0 (ev_name rfl ⟨_, mres_inst .f rfl (own_meth H (by kernel_rfl) (by rfl) (by kernel_rfl)), keep_fn H (by kernel_rfl), (c_rows H hB fun R hR => ⟨_, itv_lst, R, (), hR, rfl, by walk_at "rle", [], [], ?_⟩).call⟩))
      exact ⟨(Sig.set_ne ne).trans (Sig.set_self ..), Sig.set_self .., KS.nil, KS.nil, fun x e1 e2 => by rw [Sig.set_ne e2, Sig.set_ne e1]⟩
    · rintro dn p r _ σ' hR ⟨b, a, T⟩
      focus
        have hl := (hB.perm hR).every
        intro N' hN
        walk_at "m"
        repeat' walk_at "m"
        refine ex_forL (fun _ : Unit => [("variable", .ref bd), ("fixed", .ref al)]) p.2 elV (fun ed _ σ' => X2 fun b a => Two σ σ' bd al varB varA (everyT dn ++ ed) b a) ?_ ?_ ?_
        · exact it_of (ev_name rfl ⟨_, itv_lst, (), rfl, by walk_at "rle", b, a, by rw [List.append_nil]; exact T⟩)
        · rintro ed e er _ σ' he ⟨b, a, T⟩
          focus
            have hl2 : (everyT dn ++ ed).length ≤ 120 := by
              rw [everyT, List.flatMap_append, List.flatMap_cons, he] at hl
              simp only [List.length_append, everyT] at hl ⊢
              bv_omega
            have hln := two_len T varB_len varA_len hl2
            have he' : p.2 = (ed ++ [e]) ++ er := by rw [he]; simp
            obtain ⟨e1, e2, e3, e4⟩ := e
            intro N' hN
            repeat' walk_at "m"
            · rename_i h1 h2
              refine seti_dI T.hb hln.1 ?_
              repeat' walk_at "m"
              exact hN _ _ () (by walk_at "rle") ⟨_, _, by rw [← List.append_assoc]; exact T.addB ne (by rw [varB, if_pos h1, posL1 h2]) (by rw [varA, if_pos h1])⟩
            · rename_i h1 h2
              exact hN _ _ () (by walk_at "rle") ⟨_, _, by rw [← List.append_assoc]; exact T.same (by rw [varB, if_pos h1, posL0 h2]) (by rw [varA, if_pos h1])⟩
            · rename_i h1 h2
              refine seti_dI T.ha hln.2 ?_
              repeat' walk_at "m"
              exact hN _ _ () (by walk_at "rle") ⟨_, _, by rw [← List.append_assoc]; exact T.addA ne (by rw [varB, if_neg (by rw [h1]; exact Bool.false_ne_true)]) (by rw [varA, if_neg (by rw [h1]; exact Bool.false_ne_true), posL1 h2])⟩
            · rename_i h1 h2
              exact hN _ _ () (by walk_at "rle") ⟨_, _, by rw [← List.append_assoc]; exact T.same (by rw [varB, if_neg (by rw [h1]; exact Bool.false_ne_true)]) (by rw [varA, if_neg (by rw [h1]; exact Bool.false_ne_true), posL0 h2])⟩
        · rintro _ σ' ⟨b, a, T⟩
          focus
            refine ex_nil (hN _ _ () (by walk_at "rle") ⟨b, a, ?_⟩)
            rw [everyT_snoc]
            exact T
    · rintro dn _ σ' hR ⟨b, a, T⟩
      focus
        refine ex_ghost (gh_name (x := "variable") rfl T.hb) ?_
        refine ex_ghost (gh_name (x := "fixed") rfl ((Sig.del_ne ne.symm).trans T.ha)) ?_
        have hp : (everyT dn).Perm (everyT B) := hR.flatMap_right _
        have K1 := T.kb.perm (hp.flatMap_right _)
        have K2 := T.ka.perm (hp.flatMap_right _)
        have hle : Sle σ ((σ'.del bd).del al) := fun x mm hx => by
          have h1 : x ≠ bd := fun e => by rw [e, hbd] at hx; cases hx
          have h2 : x ≠ al := fun e => by rw [e, hal] at hx; cases hx
          rw [Sig.del_ne h2, Sig.del_ne h1, T.oth x h1 h2]
          exact hx
        have hlen := hB.every
        have l1 := flat_le varB_len (everyT B)
        have l2 := flat_le varA_len (everyT B)
        have l3 := K1.len
        have l4 := K2.len
        refine ex_cons (ex_if (tr_cmp (ev_name rfl (ev_dict0f (cmp_eq_dI .f .f K1.tr allT_nil ?_)))))
        rw [sameD_nil]
        repeat' walk_at "m"
        · rename_i h1
          exact ⟨σ, hle, q _ ⟨fun _ v1 hv => (by rw [← K1.mem, h1] at hv; cases hv), fun _ => rfl⟩⟩
        · rename_i h1
          have u : ∀ (ns : List Int), ns.Perm (b.map (·.1)) → ∀ x, x ∈ ns ↔ x ∈ (everyT B).flatMap varB := fun ns hns x => hns.mem_iff.trans (K1.mem x)
          refine c_sorted_I (by bv_omega) fun ns p1 _ => ?_
          repeat' walk_at "m"
          refine c_min .f (perm_ne p1 h1) fun lo o1 o2 => ?_
          repeat' walk_at "m"
          refine c_sorted_I (by bv_omega) fun ns' p2 _ => ?_
          repeat' walk_at "m"
          refine c_max .f (perm_ne p2 h1) fun hi i1 i2 => ?_
          walk_at "x"
          refine ex_cons (ex_return (ev_cmp (ev_listcomp (cx_list (P := fun vs us σ'' => X2 fun (dn r : List Int) => A4 ((dn ++ r).Perm (a.map (·.1))) (vs = r.map .int) (us = (dn.flatMap fun w => if lo ≤ w ∧ w ≤ hi then [w] else []).map .int) (σ'' = (σ'.del bd).del al)) ?_ ?_ ?_ rfl rfl rfl rfl))))
          · refine it_of ?_
            repeat' walk_at "m"
            exact c_sorted_I (by bv_omega) fun ws p3 _ => ⟨_, itv_lst, [], ws, p3, rfl, rfl, rfl⟩
          · rintro v rest us σ2 ⟨dn, r, hp, hv, rfl, rfl⟩
            cases r with
            | nil => cases hv
            | cons w r =>
              obtain ⟨rfl, rfl⟩ := List.cons.inj hv
              have hlu : (dn.flatMap fun w => if lo ≤ w ∧ w ≤ hi then [w] else []).length ≤ dn.length := flat_le (fun e => by split; exact Nat.le_refl 1; exact Nat.zero_le _) dn
              have hl3 := hp.length_eq
              rw [List.length_append, List.length_map] at hl3
              show TR _ _ _ _ _ _ _
              repeat' walk_at "m"
              · rename_i h2 h3
                exact ⟨by rw [List.length_map]; bv_omega, dn ++ [w], r, by rw [List.append_assoc]; exact hp, rfl, by rw [flat_snoc, if_pos ⟨h2, h3⟩, List.map_append]; rfl, rfl⟩
              · rename_i h2 h3
                exact ⟨dn ++ [w], r, by rw [List.append_assoc]; exact hp, rfl, by rw [flat_snoc, if_neg fun h => h3 h.2, List.append_nil], rfl⟩
              · rename_i h2
                exact ⟨dn ++ [w], r, by rw [List.append_assoc]; exact hp, rfl, by rw [flat_snoc, if_neg fun h => h2 h.1, List.append_nil], rfl⟩
          · rintro us σ2 ⟨dn, r, hp, hv, rfl, rfl⟩
            cases r with
            | cons => cases hv
            | nil =>
              rw [List.append_nil] at hp
              repeat' walk_at "m"
              refine ⟨σ, hle, q _ ⟨fun h v1 h1 v2 h2 w hw h3 => ?_, fun h => decide_eq_true ?_⟩⟩
              · have := of_decide_eq_true h
                have hin := hp.mem_iff.mpr ((K2.mem w).mpr hw)
                have a1 := o2 v1 ((u _ p1 v1).mpr h1)
                have a2 := i2 v2 ((u _ p2 v2).mpr h2)
                have := List.flatMap_eq_nil_iff.mp this w hin
                rw [if_pos ⟨by bv_omega, by bv_omega⟩] at this
                cases this
              · refine List.flatMap_eq_nil_iff.mpr fun w hw => if_neg ?_
                exact h lo ((u _ p1 lo).mp o1) hi ((u _ p2 hi).mp i1) w ((K2.mem w).mp (hp.mem_iff.mp hw))
end
end
section
noncomputable abbrev ccO : V := .obj 409 [("default", .int 0), ("starts", .lst (([0, 768, 770] : List Int).map .int)), ("values", .lst (([0, 230, 0] : List Int).map .int))]
noncomputable abbrev dataO (d p w : V) : V := .obj 465 [("defaults", d), ("maps", .dS [("ccc", ccO)]), ("properties", p), ("words", w)]
noncomputable def cccOf (x : Int) : Int := if 768 ≤ x ∧ x ≤ 769 then 230 else 0
structure SS (b : List (Str × V)) (l : List Str) : Prop where
  nd : (b.map (·.1)).Nodup
  len : b.length ≤ l.length
  mem : ∀ x, x ∈ b.map (·.1) ↔ x ∈ l
theorem SS.nil : SS [] [] := ⟨List.nodup_nil, Nat.le_refl _, fun _ => Iff.rfl⟩
theorem SS.snoc {b : List (Str × V)} {l : List Str} (h : SS b l) (x : Str) : SS (kput b x (.bool true)) (l ++ [x]) := by
  refine ⟨kput_nodup h.nd, ?_, fun y => ?_⟩
  · have := kput_length b x (.bool true)
    have := h.len
    rw [List.length_append, List.length_singleton]
    bv_omega
  · rw [kput_keys]
    have := h.mem y
    have hx := h.mem x
    split
    · rw [this, List.mem_append, List.mem_singleton]
      exact ⟨.inl, fun e => e.elim id fun e => by rw [e]; exact hx.mp (by assumption)⟩
    · rw [List.mem_append, List.mem_append, this]
noncomputable def ifW (p : Prop) (w : Str) : List Str := @ite _ p (Classical.propDecidable p) [w] []
theorem ifW_len (p : Prop) (w : Str) : (ifW p w).length ≤ 1 := by unfold ifW; split; exact Nat.le_refl 1; exact Nat.zero_le _
theorem mem_ifW {p : Prop} {w x : Str} : x ∈ ifW p w ↔ p ∧ x = w := by
  unfold ifW
  split
  · exact ⟨fun h => ⟨by assumption, List.mem_singleton.mp h⟩, fun h => List.mem_singleton.mpr h.2⟩
  · exact ⟨(fun h => nomatch h), fun h => absurd h.1 (by assumption)⟩
/-- a dict of words, told by its reference -/
structure SD (σ σ' : Sig) (fd : Addr) (l : List Str) (b : List (Str × V)) : Prop where
  h : σ' fd = some (.dS b)
  s : SS b l
  oth : ∀ x, x ≠ fd → σ' x = σ x
theorem SD.put {σ σ' : Sig} {fd : Addr} {l : List Str} {b : List (Str × V)} {p : Prop} {w : Str} (S : SD σ σ' fd l b) (hp : p) : SD σ (σ'.set fd (.dS (kput b w (.bool true)))) fd (l ++ ifW p w) (kput b w (.bool true)) :=
  ⟨Sig.set_self .., by rw [ifW, if_pos hp]; exact S.s.snoc w, fun x e => (Sig.set_ne e).trans (S.oth x e)⟩
theorem SD.off {σ σ' : Sig} {fd : Addr} {l : List Str} {b : List (Str × V)} {p : Prop} {w : Str} (S : SD σ σ' fd l b) (hp : ¬ p) : SD σ σ' fd (l ++ ifW p w) b :=
  ⟨S.h, by rw [ifW, if_neg hp, List.append_nil]; exact S.s, S.oth⟩
section
variable {g : G} {k : Nat} {σ : Sig} {Q : V → Sig → Prop}
theorem c_data_get (H : GK g) {d p w : V} {x : Int} (hx : 0 ≤ x) (q : Q (.int (cccOf x)) σ) : CALLC g (k + 3) (.ref 455) [dataO d p w, .str "ccc", .int x] σ Q := by
  walk_at "fn0"
  case body =>
    refine ex_cons (ex_if (tr_cmp ?_))
    repeat' walk_at "m"
    refine cmp_in_S .f (brT ?_)
    refine ex_cons (ex_return (ev_mcall (ev_sub ?_)))
    repeat' walk_at "m"
    refine item_dS .f rfl ⟨_, mres_inst .f rfl (own_meth H (by kernel_rfl) (by rfl) (by kernel_rfl)), keep_fn H (by kernel_rfl), ?_⟩
    repeat' walk_at "m"
    refine (c_range_get H (c := if x < 768 then 0 else if x < 770 then 1 else 2) .f (by decide) ?_ ?_ ?_ q).call
    · split
      · decide
      · split <;> decide
    · intro i hi
      change i < 3 at hi
      have : i = 0 ∨ i = 1 ∨ i = 2 := by bv_omega
      rcases this with rfl | rfl | rfl
      · show (0 : Int) ≤ x ↔ _; (repeat' split) <;> bv_omega
      · show (768 : Int) ≤ x ↔ _; (repeat' split) <;> bv_omega
      · show (770 : Int) ≤ x ↔ _; (repeat' split) <;> bv_omega
    · unfold cccOf
      split
      · rw [if_neg (by bv_omega)]; rfl
      · split
        · rw [if_pos (by bv_omega)]; rfl
        · rw [if_neg (by bv_omega)]; rfl
end
end
section
noncomputable def gapW (e : Elem) : List Str := ifW ((0 < e.1 ∧ e.2.1 = 0) ∨ (0 < e.2.1 ∧ e.2.2.1 = 0)) "gap"
noncomputable def vrW (e : Elem) : List Str := ifW (e.2.2.2 = true ∧ e.1 = 0) "variable"
noncomputable def elW (e : Elem) : List Str := gapW e ++ vrW e
noncomputable def conP (B : Tab) (ks : List Int) : Prop := 2 < ks.length ∧ 0 < cccOf (ks.getD (ks.length - 1) 0) ∧ kget B (ks.take (ks.length - 1)) = none
noncomputable def rowW (B : Tab) (p : List Int × List Elem) : List Str := p.2.flatMap elW ++ ifW (conP B p.1) "contraction"
noncomputable def apartP (f h : Elem → List Int) (B : Tab) : Prop := ∀ x ∈ (everyT B).flatMap f, ∀ y ∈ (everyT B).flatMap h, x < y
noncomputable def varsP (B : Tab) : Prop := ∀ v1 ∈ (everyT B).flatMap varB, ∀ v2 ∈ (everyT B).flatMap varB, ∀ w ∈ (everyT B).flatMap varA, ¬ (v1 ≤ w ∧ w ≤ v2)
theorem bool_iff {a b : Bool} (h : a = true ↔ b = true) : a = b := by
  cases a
  · cases b
    · rfl
    · exact absurd (h.mpr rfl) Bool.false_ne_true
  · exact (h.mp rfl).symm
theorem not_false_b {a : Bool} (h : (!a) = false) : a = true := by cases a; cases h; rfl
theorem elW_len (e : Elem) : (elW e).length ≤ 2 := by
  unfold elW gapW vrW
  rw [List.length_append]
  have := ifW_len ((0 < e.1 ∧ e.2.1 = 0) ∨ (0 < e.2.1 ∧ e.2.2.1 = 0)) "gap"
  have := ifW_len (e.2.2.2 = true ∧ e.1 = 0) "variable"
  bv_omega
theorem flat_le2 {α β : Type} {f : α → List β} {n : Nat} (l : List α) (h : ∀ e ∈ l, (f e).length ≤ n) : (l.flatMap f).length ≤ n * l.length := by
  induction l with
  | nil => exact Nat.zero_le _
  | cons e l ih =>
    have := h e (.head _)
    have := ih fun x hx => h x (.tail _ hx)
    rw [List.flatMap_cons, List.length_append, List.length_cons, Nat.mul_succ]
    bv_omega
theorem rowW_len {B : Tab} {p : List Int × List Elem} (h : p.2.length ≤ 2) : (rowW B p).length ≤ 5 := by
  have h1 := flat_le2 (f := elW) p.2 fun e _ => elW_len e
  have := ifW_len (conP B p.1) "contraction"
  unfold rowW
  rw [List.length_append]
  bv_omega
theorem rows_len {B R : Tab} (h : TabOK R) : (R.flatMap (rowW B)).length ≤ 30 := by
  have := flat_le2 (f := rowW B) R fun p hp => rowW_len (h.els p hp).1
  have := h.len
  bv_omega
theorem codes_last {ks : List Int} (h : ks ∈ codesL) : ks ≠ [] ∧ 0 ≤ ks.getD (ks.length - 1) 0 ∧ ks.length ≤ 3 := by
  have : ∀ x ∈ codesL, x ≠ [] ∧ 0 ≤ x.getD (x.length - 1) 0 ∧ x.length ≤ 3 := by decide
  exact this ks h
theorem seq_last {n : Nat} (h : 1 ≤ n) : seqIndex? (-1) n = some (n - 1) := by
  show (if (decide (0 ≤ (if (-1 : Int) < 0 then (-1 : Int) + n else -1)) && decide ((if (-1 : Int) < 0 then (-1 : Int) + n else -1) < n)) = true then some (if (-1 : Int) < 0 then (-1 : Int) + n else -1).toNat else none) = _
  rw [if_pos (show (-1 : Int) < 0 by decide), if_pos]
  · congr 1; bv_omega
  · rw [Bool.and_eq_true, decide_eq_true_eq, decide_eq_true_eq]; bv_omega
theorem tup_last {ks : List Int} (h : ks ≠ []) : (ks.map V.int)[ks.length - 1]? = some (.int (ks.getD (ks.length - 1) 0)) := by
  have : ks.length - 1 < ks.length := by
    cases ks with
    | nil => exact absurd rfl h
    | cons => simp
  rw [List.getElem?_map, List.getElem?_eq_getElem this, getD_lt this]; rfl
section
variable {g : G} {k : Nat} {σ : Sig} {Q : V → Sig → Prop}
theorem c_faults (H : GK g) {B : Tab} {m : List (Int × Int)} {fac dv pv wv : V} (hB : TabOK B)
    (q : ∀ (r1 r2 r3 : Bool) (R : Tab) (ws : List Str), R.Perm B → (r1 = true ↔ apartP secB secA B) → (r2 = true ↔ apartP terB terA B) → (r3 = true ↔ varsP B) → sortedS ws = true → ws.Nodup →
      (∀ x, x ∈ ws ↔ x ∈ R.flatMap (rowW B) ++ ifW (¬ r1 = true) "secondary" ++ ifW (¬ r2 = true) "tertiary" ++ ifW (¬ r3 = true) "variable") → Q (.lst (ws.map .str)) σ) :
    CALLC g (k + 4) (.ref 359) [elO B m fac, dataO dv pv wv] σ Q := by
  have hs := sizeLine_eq
  walk_at "fn0"
  case body =>
    refine EX.fin ?_
    walk_at "m"
    walk_at "m"
    refine ev_dict0 (.inr (.inl rfl)) fun fd hfd => ?_
    refine asn_name rfl ?_
    refine ex_cons ?_
    refine ex_forP (fun _ : Unit => [("found", .ref fd), ("elements", elO B m fac), ("data", dataO dv pv wv)]) B rowT (fun dn _ σ' => ∃ b, SD σ σ' fd (dn.flatMap (rowW B)) b) ?_ ?_ ?_
    · refine it_of (ev_mcall0 (ev_name rfl ⟨_, mres_inst .f rfl (own_meth H (by kernel_rfl) (by rfl) (by kernel_rfl)), keep_fn H (by kernel_rfl), (c_rows H hB fun R hR => ⟨_, itv_lst, R, (), hR, rfl, by walk_at "rle", [], ?_⟩).call⟩))
      exact ⟨Sig.set_self .., SS.nil, fun x e1 => Sig.set_ne e1⟩
    · rintro dn p r _ σ' hR ⟨b, T⟩
      focus
        have hl := rows_len (B := B) (hB.perm hR)
        rw [List.flatMap_append, List.flatMap_cons, rowW] at hl
        simp only [List.length_append] at hl
        have hpB : p ∈ B := hR.mem_iff.mp (List.mem_append.mpr (.inr (.head _)))
        have hcl := codes_last (hB.key p hpB)
        intro N' hN
        walk_at "m"
        repeat' walk_at "m"
        refine ex_forL (fun _ : Unit => [("found", .ref fd), ("key", keyV p), ("elements", elO B m fac), ("data", dataO dv pv wv)]) p.2 elV (fun ed _ σ' => ∃ b, SD σ σ' fd (dn.flatMap (rowW B) ++ ed.flatMap elW) b) ?_ ?_ ?_
        · exact it_of (ev_name rfl ⟨_, itv_lst, (), rfl, by walk_at "rle", b, by rw [List.flatMap_nil, List.append_nil]; exact T⟩)
        · rintro ed e er _ σ' he ⟨b, T⟩
          focus
            have he' : p.2 = (ed ++ [e]) ++ er := by rw [he]; simp
            have hl2 : (dn.flatMap (rowW B) ++ ed.flatMap elW ++ gapW e).length ≤ 60 := by
              have := flat_le2 (f := elW) ed fun e _ => elW_len e
              have := (hB.els p hpB).1
              have h3 := congrArg List.length he
              have := ifW_len ((0 < e.1 ∧ e.2.1 = 0) ∨ (0 < e.2.1 ∧ e.2.2.1 = 0)) "gap"
              rw [List.length_append, List.length_cons] at h3
              simp only [List.length_append, gapW]
              bv_omega
            have hl3 : b.length ≤ 1000 := by
              have := T.s.len
              simp only [List.length_append] at hl2 this
              bv_omega
            obtain ⟨e1, e2, e3, e4⟩ := e
            intro N' hN
            walk_at "m"
            walk_at "x"
            refine ex_cons (ex_ifJ (fun σ'' => ∃ b, SD σ σ'' fd (dn.flatMap (rowW B) ++ ed.flatMap elW ++ gapW (e1, e2, e3, e4)) b) ?_ ?_)
            · intro M' hJ
              repeat' walk_at "m"
              all_goals first
                | exact seti_dS T.h hl3 (ex_nil (hJ _ _ (Rle.refl _) ⟨_, T.put (by bv_omega)⟩))
                | exact hJ _ _ (Rle.refl _) ⟨_, T.off (by bv_omega)⟩
            rintro σ2 ⟨b2, T2⟩
            have hl4 : b2.length ≤ 1000 := by
              have := T2.s.len
              bv_omega
            refine ex_cons (ex_ifJ (fun σ'' => ∃ b, SD σ σ'' fd (dn.flatMap (rowW B) ++ ed.flatMap elW ++ gapW (e1, e2, e3, e4) ++ vrW (e1, e2, e3, e4)) b) ?_ ?_)
            · intro M' hJ
              repeat' walk_at "m"
              · exact seti_dS T2.h hl4 (ex_nil (hJ _ _ (Rle.refl _) ⟨_, T2.put ⟨by assumption, by assumption⟩⟩))
              · exact hJ _ _ (Rle.refl _) ⟨_, T2.off fun h => absurd h.2 (by assumption)⟩
              · rename_i h1
                exact hJ _ _ (Rle.refl _) ⟨_, T2.off fun h => Bool.false_ne_true (h1.symm.trans h.1)⟩
            rintro σ3 ⟨b3, T3⟩
            refine ex_nil (hN _ _ () (by walk_at "rle") ⟨b3, ?_⟩)
            rw [flat_snoc, elW]
            rw [List.append_assoc, List.append_assoc] at T3
            exact T3
        · rintro _ σ' ⟨b, T⟩
          focus
            have hk : (p.1.map V.int).length = p.1.length := List.length_map ..
            have hl5 : b.length ≤ 1000 := by
              have := T.s.len
              rw [List.length_append] at this
              bv_omega
            refine ex_cons (ex_ifJ (fun σ'' => ∃ b, SD σ σ'' fd (dn.flatMap (rowW B) ++ p.2.flatMap elW ++ ifW (conP B p.1) "contraction") b) ?_ ?_)
            · intro M' hJ
              refine tr_and3 (tr_cmp ?_)
              repeat' walk_at "m"
              · rename_i h1
                rw [hk] at h1
                refine ev_mcall (ev_name rfl ⟨_, mres_inst .f rfl (own_meth H (by kernel_rfl) (by rfl) (by kernel_rfl)), keep_fn H (by kernel_rfl), ?_⟩)
                repeat' walk_at "m"
                refine item_tup (j := p.1.length - 1) (by rw [hk]; exact seq_last (by bv_omega)) (tup_last hcl.1) (by decide) ?_
                repeat' walk_at "m"
                refine (c_data_get H hcl.2.1 ?_).call
                repeat' walk_at "m"
                · rename_i h2
                  refine ev_mcall (ev_name rfl ⟨_, mres_inst .f rfl (own_meth H (by kernel_rfl) (by rfl) (by kernel_rfl)), keep_fn H (by kernel_rfl), ?_⟩)
                  refine evs_cons (ev_slice (ev_name rfl (part_none (part_some (ev_neg (ev_int ⟨rfl, _, rfl, part_none ?_⟩))))))
                  refine sli_tup_last (by rw [hk]; bv_omega) (by rw [hk]; bv_omega) ?_
                  rw [hk, ← List.map_take]
                  repeat' walk_at "m"
                  refine (c_get H ?_).call
                  cases hg : kget B (p.1.take (p.1.length - 1)) with
                  | none =>
                    repeat' walk_at "m"
                    exact seti_dS T.h hl5 (ex_nil (hJ _ _ (Rle.refl _) ⟨_, T.put ⟨by bv_omega, by assumption, hg⟩⟩))
                  | some es' =>
                    repeat' walk_at "m"
                    exact hJ _ _ (Rle.refl _) ⟨_, T.off fun h => nomatch hg.symm.trans h.2.2⟩
                · rename_i h2
                  exact hJ _ _ (Rle.refl _) ⟨_, T.off fun h => h2 h.2.1⟩
              · rename_i h1
                rw [hk] at h1
                exact hJ _ _ (Rle.refl _) ⟨_, T.off fun h => h1 (by have := h.1; bv_omega)⟩
            rintro σ3 ⟨b3, T3⟩
            refine ex_nil (hN _ _ () (by walk_at "rle") ⟨b3, ?_⟩)
            rw [flat_snoc, rowW, ← List.append_assoc]
            exact T3
    · rintro dn _ σ' hR ⟨b, T⟩
      focus
        have hl := rows_len (B := B) (hB.perm hR)
        have hev := hB.every
        have hl5 : ∀ {l : List Str} {b : List (Str × V)}, SS b l → l.length ≤ 60 → b.length ≤ 1000 := fun s h => Nat.le_trans s.len (by bv_omega)
        have w1 := fun p => ifW_len (¬ p = true)
        refine ex_cons (ex_assign ?_)
        repeat' walk_at "m"
        refine (c_seconds H hB fun b1 a1 k1 k2 => ?_).call
        walk_at "x"
        have l1 := flat_le secB_len (everyT B)
        have l2 := flat_le secA_len (everyT B)
        have l3 := k1.len
        have l4 := k2.len
        obtain ⟨r1, hr1⟩ : ∃ r1 : Bool, r1 = true ↔ apartP secB secA B := by
          by_cases h : apartP secB secA B
          · exact ⟨true, fun _ => h, fun _ => rfl⟩
          · exact ⟨false, (fun e => nomatch e), fun e => absurd e h⟩
        refine ex_cons (ex_ifJ (fun σ'' => ∃ b, SD σ σ'' fd (dn.flatMap (rowW B) ++ ifW (¬ r1 = true) "secondary") b) ?_ ?_)
        · intro M' hJ
          refine tr_not (tr_of ?_)
          repeat' walk_at "m"
          refine (c_apart H k1.tr k2.tr (by bv_omega) (by bv_omega) fun r hr => ?_).call
          have : r = r1 := by
            have h2 : r = true ↔ r1 = true := by
              rw [hr, hr1]
              exact ⟨fun h x hx y hy => h x ((k1.mem x).mpr hx) y ((k2.mem y).mpr hy), fun h x hx y hy => h x ((k1.mem x).mp hx) y ((k2.mem y).mp hy)⟩
            exact bool_iff h2
          subst this
          repeat' walk_at "m"
          · rename_i h1
            exact seti_dS T.h (hl5 T.s (by bv_omega)) (ex_nil (hJ _ _ (Rle.refl _) ⟨_, T.put fun h => by rw [h] at h1; cases h1⟩))
          · rename_i h1
            exact hJ _ _ (Rle.refl _) ⟨_, T.off fun h => h (not_false_b h1)⟩
        rintro σ1 ⟨b2, T2⟩
        have lw1 := ifW_len (¬ r1 = true) "secondary"
        have lw2 : (dn.flatMap (rowW B) ++ ifW (¬ r1 = true) "secondary").length ≤ 31 := by rw [List.length_append]; bv_omega
        clear l1 l2 l3 l4 k1 k2
        refine ex_cons (ex_assign ?_)
        repeat' walk_at "m"
        refine (c_thirds H hB fun b1 a1 k1 k2 => ?_).call
        walk_at "x"
        have l1 := flat_le terB_len (everyT B)
        have l2 := flat_le terA_len (everyT B)
        have l3 := k1.len
        have l4 := k2.len
        obtain ⟨r2, hr2⟩ : ∃ r1 : Bool, r1 = true ↔ apartP terB terA B := by
          by_cases h : apartP terB terA B
          · exact ⟨true, fun _ => h, fun _ => rfl⟩
          · exact ⟨false, (fun e => nomatch e), fun e => absurd e h⟩
        refine ex_cons (ex_ifJ (fun σ'' => ∃ b, SD σ σ'' fd (dn.flatMap (rowW B) ++ ifW (¬ r1 = true) "secondary" ++ ifW (¬ r2 = true) "tertiary") b) ?_ ?_)
        · intro M' hJ
          refine tr_not (tr_of ?_)
          repeat' walk_at "m"
          refine (c_apart H k1.tr k2.tr (by bv_omega) (by bv_omega) fun r hr => ?_).call
          have : r = r2 := by
            have h2 : r = true ↔ r2 = true := by
              rw [hr, hr2]
              exact ⟨fun h x hx y hy => h x ((k1.mem x).mpr hx) y ((k2.mem y).mpr hy), fun h x hx y hy => h x ((k1.mem x).mp hx) y ((k2.mem y).mp hy)⟩
            exact bool_iff h2
          subst this
          repeat' walk_at "m"
          · rename_i h1
            exact seti_dS T2.h (hl5 T2.s (by bv_omega)) (ex_nil (hJ _ _ (Rle.refl _) ⟨_, T2.put fun h => by rw [h] at h1; cases h1⟩))
          · rename_i h1
            exact hJ _ _ (Rle.refl _) ⟨_, T2.off fun h => h (not_false_b h1)⟩
        rintro σ2 ⟨b3, T3⟩
        have lw3 := ifW_len (¬ r2 = true) "tertiary"
        have lw4 : (dn.flatMap (rowW B) ++ ifW (¬ r1 = true) "secondary" ++ ifW (¬ r2 = true) "tertiary").length ≤ 32 := by rw [List.length_append]; bv_omega
        clear l1 l2 l3 l4 k1 k2
        obtain ⟨r3, hr3⟩ : ∃ r1 : Bool, r1 = true ↔ varsP B := by
          by_cases h : varsP B
          · exact ⟨true, fun _ => h, fun _ => rfl⟩
          · exact ⟨false, (fun e => nomatch e), fun e => absurd e h⟩
        refine ex_cons (ex_ifJ (fun σ'' => ∃ b, SD σ σ'' fd (dn.flatMap (rowW B) ++ ifW (¬ r1 = true) "secondary" ++ ifW (¬ r2 = true) "tertiary" ++ ifW (¬ r3 = true) "variable") b) ?_ ?_)
        · intro M' hJ
          refine tr_not (tr_of ?_)
          repeat' walk_at "m"
          refine (c_variables H hB fun r hr => ?_).call
          have : r = r3 := by
            have h2 : r = true ↔ r3 = true := hr.trans hr3.symm
            exact bool_iff h2
          subst this
          repeat' walk_at "m"
          · rename_i h1
            exact seti_dS T3.h (hl5 T3.s (by bv_omega)) (ex_nil (hJ _ _ (Rle.refl _) ⟨_, T3.put fun h => by rw [h] at h1; cases h1⟩))
          · rename_i h1
            exact hJ _ _ (Rle.refl _) ⟨_, T3.off fun h => h (not_false_b h1)⟩
        rintro σ3 ⟨b4, T4⟩
        have lw5 := ifW_len (¬ r3 = true) "variable"
        have lw6 := T4.s.len
        rw [List.length_append] at lw6
        refine ex_ghost (gh_name (x := "found") rfl T4.h) ?_
        repeat' walk_at "m"
        refine c_sorted_S (by bv_omega) fun ws p1 hso => ⟨σ, fun x mm hx => ?_, q r1 r2 r3 dn ws hR hr1 hr2 hr3 hso (p1.nodup_iff.mpr T4.s.nd) fun x => p1.mem_iff.trans (T4.s.mem x)⟩
        have h1 : x ≠ fd := fun e => by rw [e, hfd] at hx; cases hx
        rw [Sig.del_ne h1, T4.oth x h1]
        exact hx
end
end
section
theorem brt {c : Bool} {P Q : Prop} (h : c = true) (p : P) : if c = true then P else Q := by rw [if_pos h]; exact p
theorem brf {c : Bool} {P Q : Prop} (h : c = false) (p : Q) : if c = true then P else Q := by rw [h]; exact p
section
variable {g : G} {k : Nat} {σ : Sig} {Q : V → Sig → Prop}
theorem c_like (H : GK g) {a b : Int} (h : a ≠ b) (q : Q (.bool false) σ) : CALLC g (k + 1) (.ref 366) [.int a, .int b] σ Q := by
  walk_at "fn0"
  case body =>
    repeat' walk_at "m"
    · exact absurd ‹a = b› h
    · rw [decide_eq_false h]; exact q
noncomputable abbrev rngF (sts vals : List Int) : List (Str × V) := [("default", .int 0), ("starts", .lst (sts.map .int)), ("values", .lst (vals.map .int))]
theorem c_range_put (H : GK g) {rx : Addr} (hr : σ rx = some (.dS (rngF [0] [0]))) (q : Q .none (σ.set rx (.dS (rngF [0, 768, 770] [0, 230, 0])))) : CALLC g (k + 2) (.ref 394) [.inst 409 rx, .int 768, .int 769, .int 230] σ Q := by
  walk_at "fn0"
  case body =>
    refine EX.fin ?_
    walk_at "m"
    walk_at "x"
    · exact absurd ‹(769 : Int) < 768› (by decide)
    walk_at "m"
    refine ex_cons ?_
    repeat' walk_at "m"
    refine (c_place H (ns := [0]) (c := 1) .f (by decide) (by decide) (fun i hi => ?_) ?_).call
    · cases i with
      | zero => show (0 : Int) ≤ 768 - 1 ↔ 0 < 1; decide
      | succ i => exact absurd hi (by simp)
    walk_at "x"
    rw [show (((1 : Nat) : Int) - 1 + 1) = 1 from rfl]
    refine ex_cons ?_
    repeat' walk_at "m"
    refine (c_place H (ns := [0]) (c := 1) .f (by decide) (by decide) (fun i hi => ?_) ?_).call
    · cases i with
      | zero => show (0 : Int) ≤ 769 + 1 ↔ 0 < 1; decide
      | succ i => exact absurd hi (by simp)
    walk_at "x"
    rw [show (((1 : Nat) : Int) - 1 + 1) = 1 from rfl]
    refine ex_cons ?_
    repeat' walk_at "m"
    refine item_list .f (by decide) (v := .int 0) rfl (by decide) ?_
    walk_at "x"
    refine ex_cons (ex_swap2 rfl rfl rfl (ev_tuple (evs_cons (ev_listM (evs_cons (ev_name rfl (evs_nil ⟨Nat.le_of_ble_eq_true rfl, fun sa hsa => evs_cons (ev_listM (evs_cons (ev_name rfl (evs_nil ⟨Nat.le_of_ble_eq_true rfl, fun va hva => evs_nil ⟨Nat.le_of_ble_eq_true rfl, _, rfl, rfl, ?_⟩⟩))))⟩)))))))
    have ne : sa ≠ va := ne_of_set (Sig.set_self ..) hva
    rw [Sig.set_ne ne.symm] at hva
    have n1 : rx ≠ sa := ne_of_set hr hsa
    have n2 : rx ≠ va := ne_of_set hr hva
    have g0 : ((σ.set sa (.list [.int 768])).set va (.list [.int 230])) rx = some (.dS (rngF [0] [0])) := by rw [Sig.set_ne n2, Sig.set_ne n1]; exact hr
    have g1 : ((σ.set sa (.list [.int 768])).set va (.list [.int 230])) sa = some (.list [.int 768]) := by rw [Sig.set_ne ne, Sig.set_self]
    have g2 : ((σ.set sa (.list [.int 768])).set va (.list [.int 230])) va = some (.list [.int 230]) := Sig.set_self ..
    have gr : ∀ b, b ≠ sa → b ≠ va → ((σ.set sa (.list [.int 768])).set va (.list [.int 230])) b = σ b := fun b e1 e2 => by rw [Sig.set_ne e2, Sig.set_ne e1]
    generalize (σ.set sa (.list [.int 768])).set va (.list [.int 230]) = σ2 at *
    refine ex_cons (ex_if (tr_and (tr_cmp (ev_name rfl (ev_gint H (by rfl) (by rfl) (cmp_lt (brt rfl ?_)))))))
    repeat' walk_at "m"
    refine (c_like H (by decide) ?_).call
    refine tru_bool (brt rfl ?_)
    refine ex_cons (ex_append rfl g1 ?_)
    repeat' walk_at "m"
    refine ⟨_, g1, Nat.le_of_ble_eq_true rfl, ?_⟩
    have h2 : (σ2.set sa (.list ([.int 768] ++ [.int (769 + 1)]))) va = some (.list [.int 230]) := by rw [Sig.set_ne ne.symm]; exact g2
    refine ex_cons (ex_append rfl h2 ?_)
    repeat' walk_at "m"
    refine ⟨_, h2, Nat.le_of_ble_eq_true rfl, ?_⟩
    have k1 : ((σ2.set sa (.list ([.int 768] ++ [.int (769 + 1)]))).set va (.list ([.int 230] ++ [.int 0]))) sa = some (.list (([768, 770] : List Int).map .int)) := by rw [Sig.set_ne ne, Sig.set_self]; rfl
    have k2 : ((σ2.set sa (.list ([.int 768] ++ [.int (769 + 1)]))).set va (.list ([.int 230] ++ [.int 0]))) va = some (.list (([230, 0] : List Int).map .int)) := Sig.set_self ..
    have k0 : ((σ2.set sa (.list ([.int 768] ++ [.int (769 + 1)]))).set va (.list ([.int 230] ++ [.int 0]))) rx = some (.dS (rngF [0] [0])) := by rw [Sig.set_ne n2, Sig.set_ne n1]; exact g0
    have kr : ∀ b, b ≠ sa → b ≠ va → ((σ2.set sa (.list ([.int 768] ++ [.int (769 + 1)]))).set va (.list ([.int 230] ++ [.int 0]))) b = σ b := fun b e1 e2 => by rw [Sig.set_ne e2, Sig.set_ne e1]; exact gr b e1 e2
    generalize (σ2.set sa (.list ([.int 768] ++ [.int (769 + 1)]))).set va (.list ([.int 230] ++ [.int 0])) = σ3 at *
    refine ex_nil (ex_cons (ex_if (tr_and (tr_cmp (ev_name rfl (ev_int (cmp_gt (brt rfl ?_))))))))
    repeat' walk_at "m"
    refine item_list .f (by decide) (v := .int 0) rfl (by decide) ?_
    repeat' walk_at "m"
    refine (c_like H (by decide) ?_).call
    refine tru_bool (brf rfl (ex_nil ?_))
    refine ex_cons (ex_assign (ev_binop (ev_binop ?_)))
    refine ev_slice ?_
    repeat' walk_at "m"
    refine part_none (part_some (ev_name rfl ⟨_, rfl, part_none ?_⟩))
    refine sli_upto .f (Nat.le_of_ble_eq_true rfl) (by decide) ?_
    repeat' walk_at "m"
    refine op_addL .f (.m k1) (Nat.le_of_ble_eq_true rfl) ?_
    refine ev_slice ?_
    repeat' walk_at "m"
    refine part_some (ev_name rfl ⟨_, rfl, part_none (part_none ?_)⟩)
    refine sli_from .f (Nat.le_of_ble_eq_true rfl) (by decide) ?_
    refine op_addL .f .f (Nat.le_of_ble_eq_true rfl) ?_
    walk_at "m"
    have m0 : (σ3.set rx (.dS (kput (rngF [0] [0]) "starts" (.lst ([V.int 0].take (1 : Int).toNat ++ ([768, 770] : List Int).map .int ++ [V.int 0].drop (1 : Int).toNat))))) rx = some (.dS (rngF [0, 768, 770] [0])) := Sig.set_self ..
    have m2 : (σ3.set rx (.dS (kput (rngF [0] [0]) "starts" (.lst ([V.int 0].take (1 : Int).toNat ++ ([768, 770] : List Int).map .int ++ [V.int 0].drop (1 : Int).toNat))))) va = some (.list (([230, 0] : List Int).map .int)) := (Sig.set_ne n2.symm).trans k2
    refine ex_cons (ex_assign (ev_binop (ev_binop ?_)))
    refine ev_slice ?_
    refine ev_attr (ev_name rfl ⟨_, _, _, .m m0, rfl, own_attr H (by kernel_rfl), (by intro w e; cases e), ?_⟩)
    refine part_none (part_some (ev_name rfl ⟨_, rfl, part_none ?_⟩))
    refine sli_upto .f (Nat.le_of_ble_eq_true rfl) (by decide) ?_
    repeat' walk_at "m"
    refine op_addL .f (.m m2) (Nat.le_of_ble_eq_true rfl) ?_
    refine ev_slice ?_
    refine ev_attr (ev_name rfl ⟨_, _, _, .m m0, rfl, own_attr H (by kernel_rfl), (by intro w e; cases e), ?_⟩)
    refine part_some (ev_name rfl ⟨_, rfl, part_none (part_none ?_)⟩)
    refine sli_from .f (Nat.le_of_ble_eq_true rfl) (by decide) ?_
    refine op_addL .f .f (Nat.le_of_ble_eq_true rfl) ?_
    refine asn_attr (ev_name rfl ⟨_, _, _, rfl, m0, settable_of H (by kernel_rfl) (by kernel_rfl) (by kernel_rfl) (by kernel_rfl), Nat.le_of_ble_eq_true rfl, ?_⟩)
    refine ex_nil ⟨_, fun b m hb => ?_, q⟩
    by_cases e : b = rx
    · rw [e, Sig.set_self] at hb ⊢
      exact hb
    · rw [Sig.set_ne e] at hb
      have e1 : b ≠ sa := fun x => by rw [x, hsa] at hb; cases hb
      have e2 : b ≠ va := fun x => by rw [x, hva] at hb; cases hb
      rw [Sig.set_ne e, Sig.set_ne e, kr b e1 e2]
      exact hb
end
end
section
structure DF (σ σ' : Sig) (fd : Addr) (n : Nat) (kvs : List (Str × V)) : Prop where
  h : σ' fd = some (.dS kvs)
  len : kvs.length + n ≤ 100
  ccc : kget kvs "ccc" = some (.int 0)
  oth : ∀ x, x ≠ fd → σ' x = σ x
theorem DF.put {σ σ' : Sig} {fd : Addr} {n : Nat} {kvs : List (Str × V)} {x : Str} {v : V} (D : DF σ σ' fd (n + 1) kvs) (hx : x ≠ "ccc") : DF σ (σ'.set fd (.dS (kput kvs x v))) fd n (kput kvs x v) :=
  ⟨Sig.set_self .., by have := kput_length kvs x v; have := D.len; bv_omega, by rw [kget_kput, if_neg fun e => hx e.symm]; exact D.ccc, fun y e => (Sig.set_ne e).trans (D.oth y e)⟩
section
variable {g : G} {k : Nat} {σ : Sig} {Q : V → Sig → Prop}
theorem ex_forS {α : Type} {sc : Scope} {ρ : Rho} {N : Rho → Sig → Prop} {R : V → Sig → Prop} {t iter : Expr} {body rest : List Stmt} {pos : Pos} (ρf : α → Rho) (P : List V → α → Sig → Prop) (hi : IT g k sc ρ t iter σ fun vs σ₁ => ∃ x, Rle (ρf x) ρ ∧ P vs x σ₁)
    (step : ∀ v rest x σ, P (v :: rest) x σ → ∀ N' : Rho → Sig → Prop, (∀ ρ' σ' y, Rle (ρf y) ρ' → P rest y σ' → N' ρ' σ') → ASN g k true sc (ρf x) t v σ fun ρ₁ σ₁ => EX g k sc ρ₁ body σ₁ N' R) (fin : ∀ x σ, P [] x σ → EX g k sc (ρf x) rest σ N R)
    (hset : autoParam (∀ env x, foldedSetIterable iter env x = pure x) Mine.sxI) : EX g k sc ρ (.For t iter body [] pos :: rest) σ N R :=
  ex_cons (ex_forR (N := fun ρ' σ' => EX g k sc ρ' rest σ' N R) ρf P hi step fin (fun _ _ _ r h => ex_forget h r (Sle.refl _)) hset)
theorem ev_dict8 {sc : Scope} {ρ : Rho} {a1 b1 a2 b2 a3 b3 a4 b4 a5 b5 a6 b6 a7 b7 a8 b8 : Expr} {pos : Pos} (h : EVP g k sc ρ [(a1, b1), (a2, b2), (a3, b3), (a4, b4), (a5, b5), (a6, b6), (a7, b7), (a8, b8)] σ fun l σ' => ∀ a, σ' a = none → Q (.ref a) (σ'.set a (.dS (kputs l [])))) : EV g k sc ρ (.Dict [some a1, some a2, some a3, some a4, some a5, some a6, some a7, some a8] [b1, b2, b3, b4, b5, b6, b7, b8] pos) σ Q :=
  ev_dictS [(a1, b1), (a2, b2), (a3, b3), (a4, b4), (a5, b5), (a6, b6), (a7, b7), (a8, b8)] rfl rfl (fun h => nomatch h) (Nat.le_of_ble_eq_true rfl) h
/-- for name in ('a', 'b', ..): found[name] = v -/
theorem df_loop {sc : Scope} {N : Rho → Sig → Prop} {R : V → Sig → Prop} {iter val : Expr} {p1 p2 p3 p4 p5 pos : Pos} {rest : List Stmt} {fd : Addr} {s s' : Sig} {kvs : List (Str × V)} {n : Nat} (ns : List Str) (v : V) (D : DF s s' fd (ns.length + n) kvs)
    (q : ∀ s' kvs, DF s s' fd n kvs → EX g k sc [("found", .ref fd)] rest s' N R) (hns : ∀ m ∈ ns, m ≠ "ccc") (hit : evK 20 [("found", .ref fd)] iter some = some (.tup (ns.map .str))) (hval : ∀ x, evK 20 [("name", .str x), ("found", .ref fd)] val some = some v)
    (hx : storableIn true sc "name" = true) (hs : swapsWithSole [.Subscript (.Name "found" p2) (.Name "name" p3) p4] val p5.line (envS sc) = pure false) (hw : swappedStores [.Subscript (.Name "found" p2) (.Name "name" p3) p4] val (envS sc) = pure none)
    (hset : ∀ env x, foldedSetIterable iter env x = pure x) : EX g k sc [("found", .ref fd)] (.For (.Name "name" p1) iter [.Assign [.Subscript (.Name "found" p2) (.Name "name" p3) p4] val p5] [] pos :: rest) s' N R := by
  refine ex_forLS (fun _ : Unit => [("found", .ref fd)]) ns V.str (fun dn _ σ' => X2 fun m kvs => m + dn.length = ns.length + n ∧ DF s σ' fd m kvs) ?_ ?_ ?_ hset
  · exact it_of (ev_pure ⟨_, itv_tup, (), rfl, by walk_at "rle", ns.length + n, kvs, rfl, D⟩ hit)
  · rintro dn e r _ σ' he ⟨m, kv, hm, D'⟩ N' hN
    have hl : ns.length = dn.length + (r.length + 1) := by rw [he, List.length_append, List.length_cons]
    obtain ⟨m, rfl⟩ : ∃ m', m = m' + 1 := ⟨m - 1, by bv_omega⟩
    refine asn_name hx (ex_cons (ex_assign (ev_pure (asn_sub (ev_name rfl (ev_name rfl ?_))) (hval e)) hs hw rfl))
    refine seti_dS D'.h (by have := D'.len; bv_omega) (ex_nil (hN _ _ () (rle_of rfl) ⟨m, _, by rw [List.length_append, List.length_singleton]; bv_omega, D'.put (hns e (by rw [he]; exact List.mem_append.mpr (.inr (.head _))))⟩))
  · rintro _ σ' ⟨m, kv, hm, D'⟩
    obtain rfl : m = n := by bv_omega
    exact q σ' kv D'
theorem c_defaults (H : GK g) (q : ∀ kvs : List (Str × V), kget kvs "ccc" = some (.int 0) → Q (.dS kvs) σ) : CALLC g (k + 1) (.ref 427) [] σ Q := by
  walk_at "fn0"
  case body =>
    refine EX.frz ?_
    walk_at "m"
    walk_at "m"
    refine ev_dict8 ?_
    iterate 8 (refine ev_str ?_; first | refine ev_str ⟨_, rfl, ?_⟩ | refine ev_int ⟨_, rfl, ?_⟩)
    intro fd hfd
    refine asn_name rfl ?_
    have D0 : DF σ (σ.set fd (.dS (kputs [("gc", .str "Cn"), ("ccc", .int 0), ("bc", .str "L"), ("lb", .str "XX"), ("ea", .str "N"), ("sc", .str "Zzzz"), ("jt", .str "U"), ("incb", .str "None")] []))) fd 34 (kputs [("gc", .str "Cn"), ("ccc", .int 0), ("bc", .str "L"), ("lb", .str "XX"), ("ea", .str "N"), ("sc", .str "Zzzz"), ("jt", .str "U"), ("incb", .str "None")] []) :=
      ⟨Sig.set_self .., by decide, rfl, fun x e => Sig.set_ne e⟩
    generalize kputs [("gc", .str "Cn"), ("ccc", .int 0), ("bc", .str "L"), ("lb", .str "XX"), ("ea", .str "N"), ("sc", .str "Zzzz"), ("jt", .str "U"), ("incb", .str "None")] [] = kv0 at *
    generalize σ.set fd (.dS kv0) = s0 at *
    with_reducible refine df_loop (n := 31) ["gcb", "wb", "sb"] (.str "Other") D0 (fun s1 kv1 D1 => ?_) (by decide) ?h1 ?h2 ?h3 ?h4 ?h5 (fun _ _ => rfl)
    case h1 => rfl
    case h2 => exact fun _ => rfl
    case h3 => rfl
    case h4 => rfl
    case h5 => rfl
    with_reducible refine df_loop (n := 18) ["ex", "sd", "cased", "ci", "ep", "di", "ids", "idc", "xids", "xidc", "pat_syn", "pat_ws", "idst"] (.bool false) D1 (fun s2 kv2 D2 => ?_) (by decide) ?h1 ?h2 ?h3 ?h4 ?h5 (fun _ _ => rfl)
    case h1 => rfl
    case h2 => exact fun _ => rfl
    case h3 => rfl
    case h4 => rfl
    case h5 => rfl
    with_reducible refine df_loop (n := 5) ["dm", "uc", "lc", "tc", "cf", "bm", "bpb", "scx", "nt", "nv", "name", "conf", "nfkc_cf"] (.none) D2 (fun s3 kv3 D3 => ?_) (by decide) ?h1 ?h2 ?h3 ?h4 ?h5 (fun _ _ => rfl)
    case h1 => rfl
    case h2 => exact fun _ => rfl
    case h3 => rfl
    case h4 => rfl
    case h5 => rfl
    with_reducible refine df_loop (n := 1) ["suc", "slc", "stc", "alias"] (.tup []) D3 (fun s4 kv4 D4 => ?_) (by decide) ?h1 ?h2 ?h3 ?h4 ?h5 (fun _ _ => rfl)
    case h1 => rfl
    case h2 => exact fun _ => rfl
    case h3 => rfl
    case h4 => rfl
    case h5 => rfl
    repeat' walk_at "m"
    refine seti_dS D4.h (by have := D4.len; bv_omega) ?_
    have D5 := D4.put (x := "idna") (v := .tup [.str "disallowed", .tup []]) (by decide)
    repeat' walk_at "m"
    refine ⟨fd, _, rfl, D5.h, σ, fun x mm hx => ?_, q _ D5.ccc⟩
    have h1 : x ≠ fd := fun e => by rw [e, hfd] at hx; cases hx
    rw [Sig.del_ne h1, D5.oth x h1]
    exact hx
end
end
section
section
variable {g : G} {k : Nat} {σ : Sig} {Q : V → Sig → Prop}
noncomputable abbrev datF (kvs : List (Str × V)) (mv : V) : List (Str × V) := [("defaults", .dS kvs), ("maps", mv), ("properties", .dI []), ("words", .dI [])]
theorem c_data_init (H : GK g) {dx : Addr} (hd : σ dx = some (.dS []))
    (q : ∀ (kvs : List (Str × V)) mx σ', kget kvs "ccc" = some (.int 0) → σ mx = none → σ' dx = some (.dS (datF kvs (.ref mx))) → σ' mx = some (.dS []) → (∀ b, b ≠ dx → b ≠ mx → σ' b = σ b) → Q .none σ') :
    CALLC g (k + 2) (.ref 441) [.inst 465 dx] σ Q := by
  walk_at "fn0"
  case body =>
    refine ex_cons (ex_assign (ev_call0 (ev_gname H rfl rfl ⟨_, rfl, keep_fn H (by kernel_rfl), (c_defaults H fun kvs hk => ?_).call⟩)))
    walk_at "m"
    refine ex_cons (ex_assign ?_)
    refine ev_dict0 (.inr (.inl rfl)) fun mx hmx => ?_
    have n1 : dx ≠ mx := ne_of_set (Sig.set_self ..) hmx
    refine asn_attr (ev_name rfl ⟨_, _, _, rfl, (Sig.set_ne n1).trans (Sig.set_self ..), settable_of H (by kernel_rfl) (by kernel_rfl) (by kernel_rfl) (by kernel_rfl), Nat.le_of_ble_eq_true rfl, ?_⟩)
    refine ex_cons (ex_assign (ev_dict0f ?_))
    walk_at "m"
    refine ex_cons (ex_assign (ev_dict0f ?_))
    repeat' walk_at "m"
    refine q kvs mx _ hk (by rw [← hmx, Sig.set_ne n1.symm]) (Sig.set_self ..) ?_ fun b h1 h2 => ?_
    · simp only [Sig.set_set]
      rw [Sig.set_ne n1.symm, Sig.set_self]
    · simp only [Sig.set_set]
      rw [Sig.set_ne h1, Sig.set_ne h2, Sig.set_ne h1]
theorem c_map_of (H : GK g) {dx mx : Addr} {kvs : List (Str × V)} (hk : kget kvs "ccc" = some (.int 0)) (hd : σ dx = some (.dS (datF kvs (.ref mx)))) (hm : σ mx = some (.dS []))
    (q : ∀ rx σ', σ rx = none → σ' rx = some (.dS (rngF [0] [0])) → σ' mx = some (.dS [("ccc", .inst 409 rx)]) → (∀ b, b ≠ rx → b ≠ mx → σ' b = σ b) → Q (.inst 409 rx) σ') :
    CALLC g (k + 3) (.ref 462) [.inst 465 dx, .str "ccc"] σ Q := by
  walk_at "fn0"
  case body =>
    refine ex_cons (ex_if (tr_cmp ?_))
    repeat' walk_at "m"
    refine cmp_notin_S (.m hm) (brt rfl ?_)
    refine ex_cons (ex_assign ?_)
    iterate 2 walk_at "m"
    refine ev_mcall (ev_attr (ev_name rfl ⟨_, _, _, .m hd, rfl, own_attr H (by kernel_rfl), (by intro w e; cases e), _, mres_dict (.inr (.inl ⟨_, .f⟩)) PySem.F.slot_dict_get rfl, keep_builtin, ?_⟩))
    repeat' walk_at "m"
    refine c_get_S .f ?_
    rw [hk]
    repeat' walk_at "m"
    refine call_make (by rw [H.hK]; kernel_rfl) (by rw [H.hK]; rfl) (by rw [H.hK]; kernel_rfl) fun rx hrx => c_range_init H (Sig.set_self ..) ⟨rfl, ?_⟩
    rw [Sig.set_set]
    have n1 : dx ≠ rx := ne_of_set hd hrx
    have n2 : mx ≠ rx := ne_of_set hm hrx
    have hd' := (Sig.set_ne (m := .dS [("default", .int 0), ("starts", .lst [.int 0]), ("values", .lst [.int 0])]) n1).trans hd
    have hm' := (Sig.set_ne (m := .dS [("default", .int 0), ("starts", .lst [.int 0]), ("values", .lst [.int 0])]) n2).trans hm
    repeat' walk_at "m"
    refine seti_dS hm' (Nat.le_of_ble_eq_true rfl) ?_
    have n3 : dx ≠ mx := fun e => by rw [e, hm] at hd; cases hd
    have hd2 := (Sig.set_ne (m := .dS (kput [] "ccc" (.inst 409 rx))) n3).trans hd'
    refine ex_nil (ex_cons (ex_return (ev_sub ?_)))
    refine ev_attr (ev_name rfl ⟨_, _, _, .m hd2, rfl, own_attr H (by kernel_rfl), (by intro w e; cases e), ?_⟩)
    repeat' walk_at "m"
    refine item_dS (.m (Sig.set_self ..)) rfl ?_
    refine q rx _ hrx ((Sig.set_ne n2.symm).trans (Sig.set_self ..)) (Sig.set_self ..) fun b h1 h2 => ?_
    rw [Sig.set_ne h2, Sig.set_ne h1]
theorem c_data_put (H : GK g) {dx mx : Addr} {kvs : List (Str × V)} (hk : kget kvs "ccc" = some (.int 0)) (hd : σ dx = some (.dS (datF kvs (.ref mx)))) (hm : σ mx = some (.dS []))
    (q : ∀ rx σ', σ rx = none → σ' rx = some (.dS (rngF [0, 768, 770] [0, 230, 0])) → σ' mx = some (.dS [("ccc", .inst 409 rx)]) → (∀ b, b ≠ rx → b ≠ mx → σ' b = σ b) → Q .none σ') :
    CALLC g (k + 4) (.ref 448) [.inst 465 dx, .str "ccc", .int 768, .int 769, .int 230] σ Q := by
  walk_at "fn0"
  case body =>
    refine ex_cons (ex_expr ?_ rfl)
    refine ev_mcall (ev_mcall (ev_name rfl ⟨_, mres_inst (.m hd) rfl (own_meth H (by kernel_rfl) (by rfl) (by kernel_rfl)), keep_fn H (by kernel_rfl), ?_⟩))
    repeat' walk_at "m"
    refine (c_map_of H hk hd hm fun rx σ1 e1 f1 f2 fr => ⟨_, mres_inst (.m f1) rfl (own_meth H (by kernel_rfl) (by rfl) (by kernel_rfl)), keep_fn H (by kernel_rfl), ?_⟩).call
    repeat' walk_at "m"
    refine (c_range_put H f1 ⟨rfl, ?_⟩).call
    have n2 : mx ≠ rx := fun e => by rw [← e, hm] at e1; cases e1
    refine ex_nil (q rx _ e1 (Sig.set_self ..) ((Sig.set_ne n2).trans f2) fun b h1 h2 => ?_)
    rw [Sig.set_ne h1]
    exact fr b h1 h2
end
end
section
noncomputable def marks (B : Tab) : List Int := (everyT B).flatMap fun e => if e.2.2.2 = true then [e.1] else []
noncomputable def belowL (l : List Int) (x : Int) : List Int := l.flatMap fun p => if 0 < p ∧ p ≤ x then [p] else []
noncomputable def aboveL (l : List Int) (x : Int) : List Int := l.flatMap fun p => if x ≤ p then [p] else []
noncomputable def mW (B : Tab) (e : Elem) : List Str := ifW (¬ e.2.2.2 = true ∧ belowL (marks B) e.1 ≠ [] ∧ aboveL (marks B) e.1 ≠ []) "variable"
noncomputable def elQ (B : Tab) (e : Elem) : List Str := gapW e ++ vrW e ++ mW B e
noncomputable def leL (a b : List (Int × V)) : List Int := (a.map (·.1)).flatMap fun x => (b.map (·.1)).flatMap fun y => if x ≤ y then [x] else []
noncomputable abbrev Pr := Str × List (Int × V) × List (Int × V)
noncomputable def prW (p : Pr) : List Str := ifW (leL p.2.2 p.2.1 ≠ []) p.1
noncomputable def conQ (B : Tab) (ks : List Int) : Prop := 2 < ks.length ∧ 768 ≤ ks.getD (ks.length - 1) 0 ∧ kget B (ks.take (ks.length - 1)) = none
noncomputable def cnW (B : Tab) (p : List Int × List Elem) : List Str := ifW (conQ B p.1) "contraction"
noncomputable def wordsL (B : Tab) (ps : List Pr) : List Str := (everyT B).flatMap (elQ B) ++ ps.flatMap prW ++ B.flatMap (cnW B)
theorem ne_of_nd {p : Prop} [Decidable p] (h : (!decide p) = true) : ¬ p := fun hp => by rw [decide_eq_true hp] at h; cases h
theorem ne_of_nb {a : Bool} (h : (!a) = true) : ¬ a = true := fun hp => by rw [hp] at h; cases h
theorem one_le (p : Prop) [Decidable p] (x : Int) : (if p then [x] else [] : List Int).length ≤ 1 := by split; exact Nat.le_refl 1; exact Nat.zero_le _
theorem elQ_len (B : Tab) (e : Elem) : (elQ B e).length ≤ 3 := by
  unfold elQ
  rw [List.length_append]
  have h1 := elW_len e
  have h2 : (mW B e).length ≤ 1 := ifW_len ..
  unfold elW at h1
  bv_omega
theorem marks_len {B : Tab} (h : TabOK B) : (marks B).length ≤ 12 := Nat.le_trans (flat_le (fun _ => one_le _ _) _) h.every
section
variable {g : G} {k : Nat} {σ : Sig} {Q : V → Sig → Prop}
theorem c_words (H : GK g) {B : Tab} {b0 a0 b1 a1 : List (Int × V)} (hB : TabOK B) (l0 : b0.length ≤ 12) (l1 : a0.length ≤ 12) (l2 : b1.length ≤ 12) (l3 : a1.length ≤ 12)
    (q : ∀ ws : List Str, sortedS ws = true → ws.Nodup → (∀ x, x ∈ ws ↔ x ∈ wordsL B [("secondary", b0, a0), ("tertiary", b1, a1)]) → Q (.lst (ws.map .str)) σ) :
    CALLC g (k + 1) (.ref 536) [.dT (tabV B), .lst [.dI b0, .dI b1], .lst [.dI a0, .dI a1]] σ Q := by
  have hs := sizeLine_eq
  have hev := hB.every
  have hml := marks_len hB
  have hBl := hB.len
  walk_at "fn0"
  case body =>
    refine EX.fin ?_
    refine ex_cons (ex_swap2 rfl rfl rfl (ev_tuple (evs_cons (ev_dict0 (.inr (.inl rfl)) fun fd hfd => evs_cons (ev_listcomp2 (cx_flat B keyV (fun p => p.2) elV (it_of (ev_name rfl ⟨_, itv_dT, by rw [List.map_map]; rfl, rfl⟩)) (fun p hm => it_of ?_) (fun p e Q' q => ev_name rfl q) (by bv_omega) ?_ rfl rfl rfl rfl rfl rfl (by decide)))))))
    · repeat' walk_at "m"
      exact item_dT .f (hB.get hm) ⟨_, itv_lst, rfl, rfl⟩
    · focus
        refine evs_nil ⟨Nat.le_of_ble_eq_true rfl, _, rfl, rfl, ?_⟩
        refine ex_cons (ex_listcomp (cx_mapI (everyT B) elV (fun e => if e.2.2.2 = true then [e.1] else []) (it_of (ev_name rfl ⟨_, itv_lst, rfl, rfl⟩)) (fun _ => one_le _ _) (by bv_omega) ?_ ?_) rfl)
        · intro e he us hus
          show TR _ _ _ _ _ _ _
          repeat' walk_at "m"
          · rename_i h1
            exact ⟨hus, by rw [if_pos h1]; rfl, rfl⟩
          · rename_i h1
            exact ⟨by rw [if_neg (by rw [h1]; exact Bool.false_ne_true), List.map_nil, List.append_nil], rfl⟩
        refine ex_forLS (fun _ : Unit => [("found", .ref fd), ("every", elsV (everyT B)), ("marked", vInts (marks B)), ("book", .dT (tabV B)), ("beside", .lst [.dI b0, .dI b1]), ("alone", .lst [.dI a0, .dI a1])]) (everyT B) elV (fun ed _ σ' => ∃ b, SD σ σ' fd (ed.flatMap (elQ B)) b) ?_ ?_ ?_
        · exact it_of (ev_name rfl ⟨_, itv_lst, (), rfl, by walk_at "rle", [], Sig.set_self .., SS.nil, fun x e1 => Sig.set_ne e1⟩)
        · rintro ed e er _ σ' he ⟨b, T⟩
          focus
            have he' : everyT B = (ed ++ [e]) ++ er := by rw [he]; simp
            have hl2 : (ed.flatMap (elQ B)).length ≤ 36 := by
              have := flat_le2 (f := elQ B) ed fun e _ => elQ_len B e
              rw [he, List.length_append] at hev
              bv_omega
            have hl3 : b.length ≤ 1000 := by
              have := T.s.len
              bv_omega
            intro N' hN
            walk_at "m"
            refine ex_cons (ex_ifJ (fun σ'' => ∃ b, SD σ σ'' fd (ed.flatMap (elQ B) ++ gapW e) b) ?_ ?_)
            · intro M' hJ
              repeat' walk_at "m"
              all_goals first
                | exact seti_dS T.h hl3 (ex_nil (hJ _ _ (Rle.refl _) ⟨_, T.put (by bv_omega)⟩))
                | exact hJ _ _ (Rle.refl _) ⟨_, T.off (by bv_omega)⟩
            rintro σ2 ⟨b2, T2⟩
            have hl4 : b2.length ≤ 1000 := by
              have := T2.s.len
              have h3 : (gapW e).length ≤ 1 := ifW_len ..
              rw [List.length_append] at this
              bv_omega
            refine ex_cons (ex_ifJ (fun σ'' => ∃ b, SD σ σ'' fd (ed.flatMap (elQ B) ++ gapW e ++ vrW e) b) ?_ ?_)
            · intro M' hJ
              repeat' walk_at "m"
              · exact seti_dS T2.h hl4 (ex_nil (hJ _ _ (Rle.refl _) ⟨_, T2.put ⟨by assumption, by assumption⟩⟩))
              · exact hJ _ _ (Rle.refl _) ⟨_, T2.off fun h => absurd h.2 (by assumption)⟩
              · rename_i h1
                exact hJ _ _ (Rle.refl _) ⟨_, T2.off fun h => Bool.false_ne_true (h1.symm.trans h.1)⟩
            rintro σ3 ⟨b3, T3⟩
            have hl5 : b3.length ≤ 1000 := by
              have := T3.s.len
              have h3 : (gapW e).length ≤ 1 := ifW_len ..
              have h4 : (vrW e).length ≤ 1 := ifW_len ..
              rw [List.length_append, List.length_append] at this
              bv_omega
            refine ex_cons (ex_ifJ (fun σ'' => ∃ b, SD σ σ'' fd (ed.flatMap (elQ B) ++ gapW e ++ vrW e ++ mW B e) b) ?_ ?_)
            · intro M' hJ
              refine tr_and3 (tr_not (tr_of ?_))
              repeat' walk_at "m"
              · rename_i h1
                refine ev_listcomp (cx_mapI (marks B) .int (fun p => if 0 < p ∧ p ≤ e.1 then [p] else []) (it_of (ev_name rfl ⟨_, itv_lst, rfl, rfl⟩)) (fun _ => one_le _ _) (by bv_omega) ?_ ?_)
                · intro p hp us hus
                  show TR _ _ _ _ _ _ _
                  repeat' walk_at "m"
                  · rename_i h2 h3
                    exact ⟨hus, by rw [if_pos ⟨h2, h3⟩]; rfl, rfl⟩
                  · rename_i h2 h3
                    exact ⟨by rw [if_neg fun h => h3 h.2, List.map_nil, List.append_nil], rfl⟩
                  · rename_i h2
                    exact ⟨by rw [if_neg fun h => h2 h.1, List.map_nil, List.append_nil], rfl⟩
                repeat' walk_at "m"
                refine cmp_ne_ints (ms := []) .f .f ?_
                repeat' walk_at "m"
                · rename_i h2
                  refine ev_listcomp (cx_mapI (marks B) .int (fun p => if e.1 ≤ p then [p] else []) (it_of (ev_name rfl ⟨_, itv_lst, rfl, rfl⟩)) (fun _ => one_le _ _) (by bv_omega) ?_ ?_)
                  · intro p hp us hus
                    show TR _ _ _ _ _ _ _
                    repeat' walk_at "m"
                    · rename_i h3
                      exact ⟨hus, by rw [if_pos h3]; rfl, rfl⟩
                    · rename_i h3
                      exact ⟨by rw [if_neg h3, List.map_nil, List.append_nil], rfl⟩
                  repeat' walk_at "m"
                  refine cmp_ne_ints (ms := []) .f .f ?_
                  repeat' walk_at "m"
                  · rename_i h3
                    exact seti_dS T3.h hl5 (ex_nil (hJ _ _ (Rle.refl _) ⟨_, T3.put ⟨ne_of_nb h1, ne_of_nd h2, ne_of_nd h3⟩⟩))
                  · rename_i h3
                    exact hJ _ _ (Rle.refl _) ⟨_, T3.off fun h => h.2.2 (of_decide_eq_true (not_false_b h3))⟩
                · rename_i h2
                  exact hJ _ _ (Rle.refl _) ⟨_, T3.off fun h => h.2.1 (of_decide_eq_true (not_false_b h2))⟩
              · rename_i h1
                exact hJ _ _ (Rle.refl _) ⟨_, T3.off fun h => h.1 (not_false_b h1)⟩
            rintro σ4 ⟨b4, T4⟩
            refine ex_nil (hN _ _ () (by walk_at "rle") ⟨b4, ?_⟩)
            rw [flat_snoc, elQ]
            simp only [List.append_assoc] at T4 ⊢
            exact T4
        · rintro _ σ1 ⟨b, T⟩
          focus
          have hL0 : ((everyT B).flatMap (elQ B)).length ≤ 36 := by
            have := flat_le2 (f := elQ B) (everyT B) fun e _ => elQ_len B e
            bv_omega
          generalize hps : ([("secondary", b0, a0), ("tertiary", b1, a1)] : List Pr) = ps at q
          have hp1 : ps.map (fun p => V.dI p.2.1) = [.dI b0, .dI b1] := by rw [← hps]; rfl
          have hp2 : ps.map (fun p => V.dI p.2.2) = [.dI a0, .dI a1] := by rw [← hps]; rfl
          have hp3 : ∀ p ∈ ps, p.2.1.length ≤ 12 ∧ p.2.2.length ≤ 12 := by
            rw [← hps]
            intro p hp
            rcases List.mem_cons.mp hp with rfl | hp
            · exact ⟨l0, l1⟩
            · cases List.mem_singleton.mp hp; exact ⟨l2, l3⟩
          have hp4 : ps.length = 2 := by rw [← hps]; rfl
          have hp5 : enumV [.str "secondary", .str "tertiary"] 0 = enumV (ps.map fun p => .str p.1) 0 := by rw [← hps]; rfl
          clear hps
          refine ex_forES (fun _ : Unit => [("found", .ref fd), ("book", .dT (tabV B)), ("beside", .lst [.dI b0, .dI b1]), ("alone", .lst [.dI a0, .dI a1])])
            ps (fun p => .str p.1) (fun dn _ σ' => ∃ b, SD σ σ' fd ((everyT B).flatMap (elQ B) ++ dn.flatMap prW) b) ?_ ?_ ?_
          · refine it_enumH H rfl ?_
            repeat' walk_at "m"
            exact ⟨_, rfl, (), hp5, by walk_at "rle", b, by rw [List.flatMap_nil, List.append_nil]; exact T⟩
          · rintro dn p r _ σ2 he ⟨b2, T2⟩
            focus
              have hpm := hp3 p (by rw [he]; exact List.mem_append.mpr (.inr (.head _)))
              have g1 : [V.dI b0, .dI b1][((dn.length : Nat) : Int).toNat]? = some (.dI p.2.1) := by rw [← hp1, he]; simp
              have g2 : [V.dI a0, .dI a1][((dn.length : Nat) : Int).toNat]? = some (.dI p.2.2) := by rw [← hp2, he]; simp
              have hdl := congrArg List.length he
              rw [List.length_append, List.length_cons, hp4] at hdl
              have hl6 : ((everyT B).flatMap (elQ B) ++ dn.flatMap prW).length ≤ 60 := by
                have := flat_le (f := prW) (fun p => ifW_len ..) dn
                rw [List.length_append]
                bv_omega
              have hl7 : b2.length ≤ 1000 := Nat.le_trans T2.s.len (by bv_omega)
              have hF : ∀ x, ((p.2.1.map (·.1)).flatMap fun y => if x ≤ y then [x] else [] : List Int).length ≤ 12 := fun x => by
                have := flat_le (f := fun y => (if x ≤ y then [x] else [] : List Int)) (fun _ => one_le _ _) (p.2.1.map (·.1))
                rw [List.length_map] at this
                bv_omega
              intro N' hN
              walk_at "x"
              refine ex_cons (ex_ifJ (fun σ'' => ∃ b, SD σ σ'' fd ((everyT B).flatMap (elQ B) ++ dn.flatMap prW ++ prW p) b) ?_ ?_)
              · intro M' hJ
                refine tr_cmp (ev_listcomp2 (cx_list2
                  (P := fun vs us σ' => X2 fun (xs ys : List Int) => A4 (p.2.2.map (·.1) = xs ++ ys) (vs = ys.map .int) (us = (xs.flatMap fun x => (p.2.1.map (·.1)).flatMap fun y => if x ≤ y then [x] else []).map .int) (σ' = σ2))
                  (P2 := fun v rest ws us σ' => X5 fun (xs : List Int) (x : Int) (ys zs ts : List Int) => A7 (p.2.2.map (·.1) = xs ++ x :: ys) (v = .int x) (rest = ys.map .int) (p.2.1.map (·.1) = zs ++ ts) (ws = ts.map .int) (us = ((xs.flatMap fun x => (p.2.1.map (·.1)).flatMap fun y => if x ≤ y then [x] else []) ++ zs.flatMap fun y => if x ≤ y then [x] else []).map .int) (σ' = σ2))
                  ?_ ?_ ?_ ?_ ?_ rfl rfl rfl rfl rfl rfl (by decide)))
                · refine it_of ?_
                  repeat' walk_at "m"
                  exact item_list .f (by bv_omega) g2 (by bv_omega) ⟨_, itv_dI, [], _, rfl, by rw [List.map_map]; rfl, rfl, rfl⟩
                · rintro v rest us σ3 ⟨xs, ys, hx, hv, rfl, rfl⟩
                  cases ys with
                  | nil => cases hv
                  | cons x ys =>
                    obtain ⟨rfl, rfl⟩ := List.cons.inj hv
                    refine it_of ?_
                    repeat' walk_at "m"
                    exact item_list .f (by bv_omega) g1 (by bv_omega) ⟨_, itv_dI, xs, x, ys, [], _, hx, rfl, rfl, rfl, by rw [List.map_map]; rfl, by rw [List.flatMap_nil, List.append_nil], rfl⟩
                · rintro v rest w ws us σ3 ⟨xs, x, ys, zs, ts, hx, rfl, hr, hz, hw, rfl, rfl⟩
                  cases ts with
                  | nil => cases hw
                  | cons y ts =>
                    obtain ⟨rfl, rfl⟩ := List.cons.inj hw
                    have n1 := flat_le2 (f := fun x => (p.2.1.map (·.1)).flatMap fun y => (if x ≤ y then [x] else [] : List Int)) xs fun x _ => hF x
                    have n2 := flat_le (f := fun y => (if x ≤ y then [x] else [] : List Int)) (fun _ => one_le _ _) zs
                    have n3 := congrArg List.length hx
                    have n4 := congrArg List.length hz
                    rw [List.length_append, List.length_map, List.length_cons] at n3 n4
                    show TR _ _ _ _ _ _ _
                    repeat' walk_at "m"
                    · rename_i h1
                      exact ⟨by rw [List.length_map, List.length_append]; bv_omega, xs, x, ys, zs ++ [y], ts, hx, rfl, hr, by rw [hz]; simp, rfl, by rw [flat_snoc, if_pos h1, ← List.append_assoc, List.map_append (l₁ := _ ++ _)]; rfl, rfl⟩
                    · rename_i h1
                      exact ⟨xs, x, ys, zs ++ [y], ts, hx, rfl, hr, by rw [hz]; simp, rfl, by rw [flat_snoc, if_neg h1, List.append_nil], rfl⟩
                · rintro v rest us σ3 ⟨xs, x, ys, zs, ts, hx, rfl, hr, hz, hw, rfl, rfl⟩
                  cases ts with
                  | cons => cases hw
                  | nil =>
                    rw [List.append_nil] at hz
                    exact ⟨xs ++ [x], ys, by rw [hx]; simp, hr, by rw [flat_snoc, ← hz], rfl⟩
                · rintro us σ3 ⟨xs, ys, hx, hv, rfl, rfl⟩
                  cases ys with
                  | cons => cases hv
                  | nil =>
                    rw [List.append_nil] at hx
                    subst hx
                    repeat' walk_at "m"
                    refine cmp_ne_ints (ms := []) .f .f ?_
                    repeat' walk_at "m"
                    · rename_i h1
                      exact seti_dS T2.h hl7 (ex_nil (hJ _ _ (Rle.refl _) ⟨_, T2.put (ne_of_nd h1)⟩))
                    · rename_i h1
                      exact hJ _ _ (Rle.refl _) ⟨_, T2.off fun h => h (of_decide_eq_true (not_false_b h1))⟩
              rintro σ4 ⟨b4, T4⟩
              refine ex_nil (hN _ _ () (by walk_at "rle") ⟨b4, ?_⟩)
              rw [flat_snoc, ← List.append_assoc]
              exact T4
          · rintro _ σ2 ⟨b2, T2⟩
            focus
              have hL1 : ((everyT B).flatMap (elQ B) ++ ps.flatMap prW).length ≤ 38 := by
                have := flat_le (f := prW) (fun p => ifW_len ..) ps
                rw [List.length_append]
                bv_omega
              refine ex_forLS (fun _ : Unit => [("found", .ref fd), ("book", .dT (tabV B))]) B keyV (fun dn _ σ' => ∃ b, SD σ σ' fd ((everyT B).flatMap (elQ B) ++ ps.flatMap prW ++ dn.flatMap (cnW B)) b) ?_ ?_ ?_
              · exact it_of (ev_name rfl ⟨_, itv_dT, (), by rw [List.map_map]; rfl, by walk_at "rle", b2, by rw [List.flatMap_nil, List.append_nil]; exact T2⟩)
              · rintro dn p r _ σ3 hb ⟨b3, T3⟩
                focus
                  have hpB : p ∈ B := by rw [hb]; exact List.mem_append.mpr (.inr (.head _))
                  have hcl := codes_last (hB.key p hpB)
                  have hk : (p.1.map V.int).length = p.1.length := List.length_map ..
                  have hn := congrArg List.length hb
                  rw [List.length_append, List.length_cons] at hn
                  have hl8 : b3.length ≤ 1000 := by
                    have := flat_le (f := cnW B) (fun p => ifW_len ..) dn
                    have := T3.s.len
                    rw [List.length_append] at this
                    bv_omega
                  intro N' hN
                  walk_at "m"
                  refine ex_cons (ex_ifJ (fun σ'' => ∃ b, SD σ σ'' fd ((everyT B).flatMap (elQ B) ++ ps.flatMap prW ++ dn.flatMap (cnW B) ++ cnW B p) b) ?_ ?_)
                  · intro M' hJ
                    refine tr_and3 (tr_cmp ?_)
                    repeat' walk_at "m"
                    · rename_i h1
                      rw [hk] at h1
                      refine item_tup (j := p.1.length - 1) (by rw [hk]; exact seq_last (by bv_omega)) (tup_last hcl.1) (by decide) ?_
                      repeat' walk_at "m"
                      · rename_i h2
                        refine ev_slice (ev_name rfl (part_none (part_some (ev_neg (ev_int ⟨rfl, _, rfl, part_none ?_⟩)))))
                        refine sli_tup_last (by rw [hk]; bv_omega) (by rw [hk]; bv_omega) ?_
                        rw [hk, ← List.map_take]
                        repeat' walk_at "m"
                        refine cmp_notin_T .f ?_
                        rw [kget_map elsV]
                        repeat' walk_at "m"
                        · rename_i h3
                          refine seti_dS T3.h hl8 (ex_nil (hJ _ _ (Rle.refl _) ⟨_, T3.put ⟨by bv_omega, h2, ?_⟩⟩))
                          cases hg : kget B (p.1.take (p.1.length - 1)) with
                          | none => rfl
                          | some => rw [hg] at h3; cases h3
                        · rename_i h3
                          refine hJ _ _ (Rle.refl _) ⟨_, T3.off fun h => ?_⟩
                          rw [h.2.2] at h3
                          cases h3
                      · rename_i h2
                        exact hJ _ _ (Rle.refl _) ⟨_, T3.off fun h => h2 h.2.1⟩
                    · rename_i h1
                      rw [hk] at h1
                      exact hJ _ _ (Rle.refl _) ⟨_, T3.off fun h => h1 (by have := h.1; bv_omega)⟩
                  rintro σ4 ⟨b4, T4⟩
                  refine ex_nil (hN _ _ () (by walk_at "rle") ⟨b4, ?_⟩)
                  rw [flat_snoc, ← List.append_assoc]
                  exact T4
              · rintro _ σ3 ⟨b3, T3⟩
                focus
                  have hl9 : b3.length < 64 := by
                    have := flat_le (f := cnW B) (fun p => ifW_len ..) B
                    have := T3.s.len
                    rw [List.length_append] at this
                    bv_omega
                  refine ex_ghost (gh_name (x := "found") rfl T3.h) ?_
                  repeat' walk_at "m"
                  refine c_sorted_S hl9 fun ws p1 hso => ⟨σ, fun x mm hx => ?_, q ws hso (p1.nodup_iff.mpr T3.s.nd) fun x => p1.mem_iff.trans (T3.s.mem x)⟩
                  have h1 : x ≠ fd := fun e => by rw [e, hfd] at hx; cases hx
                  rw [Sig.del_ne h1, T3.oth x h1]
                  exact hx
end
end
section

set_option maxRecDepth 100000
set_option linter.unusedVariables false
open PySem PySem.W PyProof.Rows PySem.Calls PySem.Spec
theorem KS.same {b b' : List (Int × V)} {l : List Int} (h : KS b l) (h' : KS b' l) : sameD b b' = true := by
  have hp : (b.map (·.1)).Perm (b'.map (·.1)) := (List.perm_ext_iff_of_nodup h.nd h'.nd).mpr fun x => (h.mem x).trans (h'.mem x).symm
  have hl := hp.length_eq
  rw [List.length_map, List.length_map] at hl
  unfold sameD
  rw [Bool.and_eq_true, beq_iff_eq, List.all_eq_true]
  exact ⟨hl, fun p hp' => kget_mem (hp.mem_iff.mp (List.mem_map.mpr ⟨p, hp', rfl⟩))⟩
theorem Most.le {i : Nat} {B : Tab} {x y : Int} (h : Most i B x) (h' : Most i B y) : x ≤ y := by
  rcases h.mem with rfl | ⟨p, hp, e, he, rfl⟩
  · exact h'.pos
  · exact h'.all p hp e he
theorem Most.uniq {i : Nat} {B : Tab} {x y : Int} (h : Most i B x) (h' : Most i B y) : x = y := Int.le_antisymm (h.le h') (h'.le h)
theorem Most.of_max {i : Nat} {B : Tab} {m : Int} (h1 : m ∈ 0 :: (everyT B).map (colE i)) (h2 : ∀ x ∈ 0 :: (everyT B).map (colE i), x ≤ m) : Most i B m := by
  refine ⟨h2 0 (.head _), fun p hp e he => h2 _ (.tail _ (List.mem_map.mpr ⟨e, List.mem_flatMap.mpr ⟨p, hp, he⟩, rfl⟩)), ?_⟩
  rcases List.mem_cons.mp h1 with h | h
  · exact .inl h
  · obtain ⟨e, he, rfl⟩ := List.mem_map.mp h
    obtain ⟨p, hp, he⟩ := List.mem_flatMap.mp he
    exact .inr ⟨p, hp, e, he, rfl⟩
theorem col_scale {i : Nat} {sp f : Int} (hf : ([2, 3, sp] : List Int)[i]? = some f) (e : Elem) : colE i (scaleE 2 3 sp e) = f * colE i e := by
  match i, hf with
  | 0, h => cases h; exact Int.mul_comm ..
  | 1, h => cases h; exact Int.mul_comm ..
  | 2, h => cases h; exact Int.mul_comm ..
theorem Most.scale {i : Nat} {B : Tab} {sp m y f : Int} (hsp : 0 < sp) (h : Most i B m) (h' : Most i (scaleT 2 3 sp B) y) (hf : ([2, 3, sp] : List Int)[i]? = some f) : y = f * m := by
  have hf0 : 0 ≤ f := by
    match i, hf with
    | 0, h => cases h; decide
    | 1, h => cases h; decide
    | 2, h => cases h; omega
  refine h'.uniq ⟨Int.mul_nonneg hf0 h.pos, fun p hp e he => ?_, ?_⟩
  · obtain ⟨p, hp', rfl⟩ := List.mem_map.mp hp
    obtain ⟨e, he', rfl⟩ := List.mem_map.mp he
    rw [col_scale hf]
    exact Int.mul_le_mul_of_nonneg_left (h.all p hp' e he') hf0
  · rcases h.mem with rfl | ⟨p, hp, e, he, rfl⟩
    · exact .inl (Int.mul_zero f)
    · exact .inr ⟨_, List.mem_map.mpr ⟨p, hp, rfl⟩, _, List.mem_map.mpr ⟨e, he, rfl⟩, col_scale hf e⟩
noncomputable def gapC (e : Elem) : Prop := (0 < e.1 ∧ e.2.1 = 0) ∨ (0 < e.2.1 ∧ e.2.2.1 = 0)
noncomputable def vrC (e : Elem) : Prop := e.2.2.2 = true ∧ e.1 = 0
noncomputable def mC (B : Tab) (e : Elem) : Prop := ¬ e.2.2.2 = true ∧ belowL (marks B) e.1 ≠ [] ∧ aboveL (marks B) e.1 ≠ []
theorem mem_elW {x : Str} {e : Elem} : x ∈ elW e ↔ (gapC e ∧ x = "gap") ∨ (vrC e ∧ x = "variable") := by
  unfold elW
  rw [List.mem_append]
  exact or_congr mem_ifW mem_ifW
theorem mem_elQ {B : Tab} {x : Str} {e : Elem} : x ∈ elQ B e ↔ ((gapC e ∧ x = "gap") ∨ (vrC e ∧ x = "variable")) ∨ (mC B e ∧ x = "variable") := by
  unfold elQ
  rw [List.mem_append]
  exact or_congr mem_elW mem_ifW
theorem mem_words {B : Tab} {ps : List Pr} {x : Str} : x ∈ wordsL B ps ↔ ((∃ e ∈ everyT B, x ∈ elQ B e) ∨ ∃ p ∈ ps, leL p.2.2 p.2.1 ≠ [] ∧ x = p.1) ∨ ∃ p ∈ B, conQ B p.1 ∧ x = "contraction" := by
  unfold wordsL
  rw [List.mem_append, List.mem_append, List.mem_flatMap, List.mem_flatMap, List.mem_flatMap]
  refine or_congr (or_congr Iff.rfl ?_) ?_
  · exact exists_congr fun p => and_congr_right fun _ => mem_ifW
  · exact exists_congr fun p => and_congr_right fun _ => mem_ifW
theorem mem_rows {B R : Tab} {x : Str} : x ∈ R.flatMap (rowW B) ↔ ∃ p ∈ R, (∃ e ∈ p.2, x ∈ elW e) ∨ (conP B p.1 ∧ x = "contraction") := by
  rw [List.mem_flatMap]
  refine exists_congr fun p => and_congr_right fun _ => ?_
  unfold rowW
  rw [List.mem_append, List.mem_flatMap]
  exact or_congr Iff.rfl mem_ifW
theorem leL_nil {a b : List (Int × V)} : leL a b = [] ↔ ∀ x ∈ b.map (·.1), ∀ y ∈ a.map (·.1), x < y := by
  unfold leL
  rw [List.flatMap_eq_nil_iff]
  constructor
  · intro h x hx y hy
    have h1 := List.flatMap_eq_nil_iff.mp (h y hy) x hx
    by_cases h2 : y ≤ x
    · rw [if_pos h2] at h1; cases h1
    · omega
  · intro h y hy
    refine List.flatMap_eq_nil_iff.mpr fun x hx => if_neg ?_
    have := h x hx y hy
    omega
theorem any_words {ws : List Str} {w : Str} : ws.any (· == w) = true ↔ w ∈ ws := by
  rw [List.any_eq_true]
  exact ⟨fun ⟨x, hx, e⟩ => by rw [← eq_of_beq e]; exact hx, fun h => ⟨w, h, beq_self_eq_true w⟩⟩
theorem words_any {B : Tab} {b0 a0 b1 a1 : List (Int × V)} {ws : List Str} (h : ∀ x, x ∈ ws ↔ x ∈ wordsL B [("secondary", b0, a0), ("tertiary", b1, a1)]) :
    ∀ p ∈ ([("secondary", b0, a0), ("tertiary", b1, a1)] : List Pr), ∀ r : Bool, (r = true ↔ ∀ x ∈ p.2.1.map (·.1), ∀ y ∈ p.2.2.map (·.1), x < y) → (!(ws.any (· == p.1))) = r := by
  intro p hp r hr
  have key : p.1 ∈ ws ↔ leL p.2.2 p.2.1 ≠ [] := by
    rw [h, mem_words]
    constructor
    · rintro ((⟨e, he, h1⟩ | ⟨p', hp', h1, h2⟩) | ⟨p', hp', h1, h2⟩)
      · exfalso
        have : p.1 = "gap" ∨ p.1 = "variable" := by
          rcases mem_elQ.mp h1 with (h | h) | h
          · exact .inl h.2
          · exact .inr h.2
          · exact .inr h.2
        rcases List.mem_cons.mp hp with rfl | hp
        · exact this.elim (fun h => absurd (show ("secondary" : Str) = "gap" from h) (by decide)) fun h => absurd (show ("secondary" : Str) = "variable" from h) (by decide)
        · cases List.mem_singleton.mp hp
          exact this.elim (fun h => absurd (show ("tertiary" : Str) = "gap" from h) (by decide)) fun h => absurd (show ("tertiary" : Str) = "variable" from h) (by decide)
      · rcases List.mem_cons.mp hp with rfl | hp
        · rcases List.mem_cons.mp hp' with rfl | hp'
          · exact h1
          · cases List.mem_singleton.mp hp'
            exact absurd (show ("secondary" : Str) = "tertiary" from h2) (by decide)
        · cases List.mem_singleton.mp hp
          rcases List.mem_cons.mp hp' with rfl | hp'
          · exact absurd (show ("tertiary" : Str) = "secondary" from h2) (by decide)
          · cases List.mem_singleton.mp hp'
            exact h1
      · exfalso
        rcases List.mem_cons.mp hp with rfl | hp
        · exact absurd (show ("secondary" : Str) = "contraction" from h2) (by decide)
        · cases List.mem_singleton.mp hp
          exact absurd (show ("tertiary" : Str) = "contraction" from h2) (by decide)
    · exact fun h1 => .inl (.inr ⟨p, hp, h1, rfl⟩)
  rw [← leL_nil] at hr
  have k2 := any_words.trans key
  cases h1 : ws.any (· == p.1)
  · rw [h1] at k2
    refine (hr.mpr ?_).symm
    exact Decidable.of_not_not fun h => Bool.false_ne_true (k2.mpr h)
  · rw [h1] at k2
    cases r
    · rfl
    · exact absurd (hr.mp rfl) (k2.mp rfl)
structure FaultsOf (B : Tab) (ws : List Str) : Prop where
  out : ∃ (r1 r2 r3 : Bool) (R : Tab), R.Perm B ∧ (r1 = true ↔ apartP secB secA B) ∧ (r2 = true ↔ apartP terB terA B) ∧ (r3 = true ↔ varsP B) ∧
      (∀ x, x ∈ ws ↔ x ∈ R.flatMap (rowW B) ++ ifW (¬ r1 = true) "secondary" ++ ifW (¬ r2 = true) "tertiary" ++ ifW (¬ r3 = true) "variable")
  so : sortedS ws = true
  nd : ws.Nodup
/-- the words of a table's faults, told by what holds -/
noncomputable def faultsP (B : Tab) (x : Str) : Prop := (((∃ p ∈ B, (∃ e ∈ p.2, x ∈ elW e) ∨ (conP B p.1 ∧ x = "contraction")) ∨ (¬ apartP secB secA B ∧ x = "secondary")) ∨ (¬ apartP terB terA B ∧ x = "tertiary")) ∨ (¬ varsP B ∧ x = "variable")
theorem FaultsOf.mem {B : Tab} {ws : List Str} (F : FaultsOf B ws) (x : Str) : x ∈ ws ↔ faultsP B x := by
  obtain ⟨r1, r2, r3, R, hR, h1, h2, h3, h⟩ := F.out
  rw [h, List.mem_append, List.mem_append, List.mem_append, mem_rows, mem_ifW, mem_ifW, mem_ifW, h1, h2, h3]
  refine or_congr (or_congr (or_congr ?_ Iff.rfl) Iff.rfl) Iff.rfl
  exact exists_congr fun p => and_congr hR.mem_iff Iff.rfl
theorem FaultsOf.of_mem {B : Tab} {ws : List Str} (h : ∀ x, x ∈ ws ↔ faultsP B x) (so : sortedS ws = true) (nd : ws.Nodup) : FaultsOf B ws := by
  have dec : ∀ p : Prop, ∃ r : Bool, r = true ↔ p := fun p => by
    by_cases h : p
    · exact ⟨true, fun _ => h, fun _ => rfl⟩
    · exact ⟨false, (fun e => nomatch e), fun e => absurd e h⟩
  obtain ⟨r1, h1⟩ := dec (apartP secB secA B)
  obtain ⟨r2, h2⟩ := dec (apartP terB terA B)
  obtain ⟨r3, h3⟩ := dec (varsP B)
  refine ⟨⟨r1, r2, r3, B, .refl _, h1, h2, h3, fun x => ?_⟩, so, nd⟩
  rw [h, List.mem_append, List.mem_append, List.mem_append, mem_rows, mem_ifW, mem_ifW, mem_ifW, h1, h2, h3]
  exact Iff.rfl
theorem codes_ccc {ks : List Int} (h : ks ∈ codesL) : 0 < cccOf (ks.getD (ks.length - 1) 0) ↔ 768 ≤ ks.getD (ks.length - 1) 0 := by
  have : ∀ x ∈ codesL, (0 < cccOf (x.getD (x.length - 1) 0) ↔ 768 ≤ x.getD (x.length - 1) 0) := by decide
  exact this ks h
theorem conP_conQ {B : Tab} {ks : List Int} (h : ks ∈ codesL) : conP B ks ↔ conQ B ks := by
  unfold conP conQ
  rw [codes_ccc h]
theorem mem_varB {B : Tab} {x : Int} : x ∈ (everyT B).flatMap varB ↔ 0 < x ∧ x ∈ marks B := by
  unfold marks
  rw [List.mem_flatMap, List.mem_flatMap]
  constructor
  · rintro ⟨e, he, h⟩
    unfold varB at h
    split at h
    · rename_i h1
      obtain ⟨h2, rfl⟩ := posL_mem h
      exact ⟨h2, e, he, by rw [if_pos h1]; exact .head _⟩
    · cases h
  · rintro ⟨h0, e, he, h⟩
    refine ⟨e, he, ?_⟩
    split at h
    · rename_i h1
      cases List.mem_singleton.mp h
      rw [varB, if_pos h1, posL1 h0]
      exact .head _
    · cases h
theorem mem_varA {B : Tab} {x : Int} : x ∈ (everyT B).flatMap varA ↔ 0 < x ∧ ∃ e ∈ everyT B, ¬ e.2.2.2 = true ∧ e.1 = x := by
  rw [List.mem_flatMap]
  constructor
  · rintro ⟨e, he, h⟩
    unfold varA at h
    split at h
    · cases h
    · rename_i h1
      obtain ⟨h2, rfl⟩ := posL_mem h
      exact ⟨h2, e, he, h1, rfl⟩
  · rintro ⟨h0, e, he, h1, rfl⟩
    exact ⟨e, he, by rw [varA, if_neg h1, posL1 h0]; exact .head _⟩
theorem below_ne {l : List Int} {x : Int} : belowL l x ≠ [] ↔ ∃ p ∈ l, 0 < p ∧ p ≤ x := by
  unfold belowL
  rw [Ne, List.flatMap_eq_nil_iff]
  constructor
  · intro h
    refine Decidable.of_not_not fun h2 => h fun p hp => if_neg fun h3 => h2 ⟨p, hp, h3⟩
  · rintro ⟨p, hp, h1⟩ h
    have := h p hp
    rw [if_pos h1] at this
    cases this
theorem above_ne {l : List Int} {x : Int} : aboveL l x ≠ [] ↔ ∃ p ∈ l, x ≤ p := by
  unfold aboveL
  rw [Ne, List.flatMap_eq_nil_iff]
  constructor
  · intro h
    refine Decidable.of_not_not fun h2 => h fun p hp => if_neg fun h3 => h2 ⟨p, hp, h3⟩
  · rintro ⟨p, hp, h1⟩ h
    have := h p hp
    rw [if_pos h1] at this
    cases this
theorem vars_mC {B : Tab} : (∃ e ∈ everyT B, mC B e) ↔ ¬ varsP B := by
  constructor
  · rintro ⟨e, he, h1, h2, h3⟩ h
    obtain ⟨p, hp, p0, p1⟩ := below_ne.mp h2
    obtain ⟨r, hr, r1⟩ := above_ne.mp h3
    exact h p (mem_varB.mpr ⟨p0, hp⟩) r (mem_varB.mpr ⟨by omega, hr⟩) e.1 (mem_varA.mpr ⟨by omega, e, he, h1, rfl⟩) ⟨p1, r1⟩
  · intro h
    refine Classical.byContradiction fun h2 => h fun v1 k1 v2 k2 w kw h3 => ?_
    obtain ⟨p0, hp⟩ := mem_varB.mp k1
    obtain ⟨r0, hr⟩ := mem_varB.mp k2
    obtain ⟨w0, e, he, h4, rfl⟩ := mem_varA.mp kw
    exact h2 ⟨e, he, h4, below_ne.mpr ⟨v1, hp, p0, h3.1⟩, above_ne.mpr ⟨v2, hr, h3.2⟩⟩
theorem apart_leL {f h : Elem → List Int} {B : Tab} {b a : List (Int × V)} (kb : KS b ((everyT B).flatMap f)) (ka : KS a ((everyT B).flatMap h)) : leL a b ≠ [] ↔ ¬ apartP f h B := by
  refine not_congr (leL_nil.trans ?_)
  unfold apartP
  exact ⟨fun H x hx y hy => H x ((kb.mem x).mpr hx) y ((ka.mem y).mpr hy), fun H x hx y hy => H x ((kb.mem x).mp hx) y ((ka.mem y).mp hy)⟩
theorem faults_words {B : Tab} {b0 a0 b1 a1 : List (Int × V)} (hB : TabOK B) (k0 : KS b0 ((everyT B).flatMap secB)) (k1 : KS a0 ((everyT B).flatMap secA)) (k2 : KS b1 ((everyT B).flatMap terB)) (k3 : KS a1 ((everyT B).flatMap terA)) (x : Str) :
    faultsP B x ↔ x ∈ wordsL B [("secondary", b0, a0), ("tertiary", b1, a1)] := by
  rw [mem_words]
  constructor
  · rintro (((⟨p, hp, ⟨e, he, h⟩ | ⟨h, rfl⟩⟩ | ⟨h, rfl⟩) | ⟨h, rfl⟩) | ⟨h, rfl⟩)
    · exact .inl (.inl ⟨e, List.mem_flatMap.mpr ⟨p, hp, he⟩, mem_elQ.mpr (.inl (mem_elW.mp h))⟩)
    · exact .inr ⟨p, hp, (conP_conQ (hB.key p hp)).mp h, rfl⟩
    · exact .inl (.inr ⟨_, .head _, (apart_leL k0 k1).mpr h, rfl⟩)
    · exact .inl (.inr ⟨_, .tail _ (.head _), (apart_leL k2 k3).mpr h, rfl⟩)
    · obtain ⟨e, he, h⟩ := vars_mC.mpr h
      exact .inl (.inl ⟨e, he, mem_elQ.mpr (.inr ⟨h, rfl⟩)⟩)
  · rintro ((⟨e, he, h⟩ | ⟨p, hp, h, rfl⟩) | ⟨p, hp, h, rfl⟩)
    · rcases mem_elQ.mp h with h' | ⟨h', rfl⟩
      · obtain ⟨p, hp, he⟩ := List.mem_flatMap.mp he
        exact .inl (.inl (.inl ⟨p, hp, .inl ⟨e, he, mem_elW.mpr h'⟩⟩))
      · exact .inr ⟨vars_mC.mp ⟨e, he, h'⟩, rfl⟩
    · rcases List.mem_cons.mp hp with rfl | hp
      · exact .inl (.inl (.inr ⟨(apart_leL k0 k1).mp h, rfl⟩))
      · cases List.mem_singleton.mp hp
        exact .inl (.inr ⟨(apart_leL k2 k3).mp h, rfl⟩)
    · exact .inl (.inl (.inl ⟨p, hp, .inr ⟨(conP_conQ (hB.key p hp)).mpr h, rfl⟩⟩))
noncomputable abbrev sle (a b : Str) : Prop := a.cps.toList ≤ b.cps.toList
theorem sle_of {a b : Str} (h : (!ltCps b.cps.toList a.cps.toList) = true) : sle a b := by
  rw [ltCps_eq] at h
  exact List.not_lt.mp (ne_of_nd h)
theorem sle_anti {a b : Str} (h1 : sle a b) (h2 : sle b a) : a = b := by
  have := List.le_antisymm h1 h2
  cases a; cases b
  exact congrArg Str.mk (Array.toList_inj.mp this)
theorem rising_le : ∀ {l : List Str} {p : Str}, risingS p l = true → ∀ x ∈ l, sle p x
  | [], _, _, _, h => nomatch h
  | y :: r, p, h, x, hx => by
    change (!ltCps y.cps.toList p.cps.toList && risingS y r) = true at h
    rw [Bool.and_eq_true] at h
    have h1 := sle_of h.1
    rcases List.mem_cons.mp hx with rfl | hx
    · exact h1
    · exact List.le_trans h1 (rising_le h.2 x hx)
theorem sorted_tail {x : Str} : ∀ {r : List Str}, risingS x r = true → sortedS r = true
  | [], _ => rfl
  | y :: r, h => by
    change (!ltCps y.cps.toList x.cps.toList && risingS y r) = true at h
    rw [Bool.and_eq_true] at h
    exact h.2
theorem sorted_unique : ∀ {l m : List Str}, sortedS l = true → sortedS m = true → l.Nodup → m.Nodup → (∀ x, x ∈ l ↔ x ∈ m) → l = m
  | [], [], _, _, _, _, _ => rfl
  | [], y :: m, _, _, _, _, h => nomatch (h y).mpr (.head _)
  | x :: l, [], _, _, _, _, h => nomatch (h x).mp (.head _)
  | x :: l, y :: m, h1, h2, n1, n2, h => by
    have e1 : sle y x := by
      rcases List.mem_cons.mp ((h x).mp (.head _)) with e | e
      · rw [e]; exact List.le_refl _
      · exact rising_le h2 x e
    have e2 : sle x y := by
      rcases List.mem_cons.mp ((h y).mpr (.head _)) with e | e
      · rw [e]; exact List.le_refl _
      · exact rising_le h1 y e
    have e := sle_anti e2 e1
    subst e
    rw [List.nodup_cons] at n1 n2
    rw [sorted_unique (sorted_tail h1) (sorted_tail h2) n1.2 n2.2 fun z => ?_]
    constructor
    · intro hz
      rcases List.mem_cons.mp ((h z).mp (.tail _ hz)) with rfl | h3
      · exact absurd hz n1.1
      · exact h3
    · intro hz
      rcases List.mem_cons.mp ((h z).mpr (.tail _ hz)) with rfl | h3
      · exact absurd hz n2.1
      · exact h3
theorem faults_law {B : Tab} {b0 a0 b1 a1 : List (Int × V)} {ws ws' : List Str} (hB : TabOK B) (k0 : KS b0 ((everyT B).flatMap secB)) (k1 : KS a0 ((everyT B).flatMap secA)) (k2 : KS b1 ((everyT B).flatMap terB)) (k3 : KS a1 ((everyT B).flatMap terA))
    (h : ∀ x, x ∈ ws ↔ x ∈ wordsL B [("secondary", b0, a0), ("tertiary", b1, a1)]) (so : sortedS ws = true) (nd : ws.Nodup) (F : FaultsOf B ws') : ws' = ws :=
  sorted_unique F.so so F.nd nd fun x => (F.mem x).trans ((faults_words hB k0 k1 k2 k3 x).trans (h x).symm)
theorem every_scale {a b c : Int} {B : Tab} : everyT (scaleT a b c B) = (everyT B).map (scaleE a b c) := by
  unfold scaleT everyT
  rw [List.flatMap_map, List.map_flatMap]
theorem pos_mul {x f : Int} (hf : 0 < f) : 0 < x * f ↔ 0 < x := by
  constructor
  · intro h
    refine Decidable.of_not_not fun h2 => ?_
    have := Int.mul_le_mul_of_nonneg_right (show x ≤ 0 by omega) (show 0 ≤ f by omega)
    omega
  · exact fun h => Int.mul_pos h hf
theorem zero_mul_iff {x f : Int} (hf : 0 < f) : x * f = 0 ↔ x = 0 := by
  rw [Int.mul_eq_zero]
  exact ⟨fun h => h.elim id fun h => by omega, .inl⟩
theorem posL_scale {x f : Int} (hf : 0 < f) : posL (x * f) (x * f) = (posL x x).map (· * f) := by
  by_cases h : 0 < x
  · rw [posL1 h, posL1 ((pos_mul hf).mpr h)]; rfl
  · rw [posL0 h, posL0 fun h2 => h ((pos_mul hf).mp h2)]; rfl
theorem scale_flat {a b c f : Int} {fn : Elem → List Int} {B : Tab} (h : ∀ e, fn (scaleE a b c e) = (fn e).map (· * f)) : (everyT (scaleT a b c B)).flatMap fn = ((everyT B).flatMap fn).map (· * f) := by
  rw [every_scale, List.flatMap_map, List.map_flatMap]
  exact flat_congr fun e _ => h e
theorem secB_scale {sp : Int} (e : Elem) : secB (scaleE 2 3 sp e) = (secB e).map (· * 3) := by
  unfold secB scaleE
  simp only [pos_mul (show (0 : Int) < 2 by decide)]
  split
  · exact posL_scale (by decide)
  · rfl
theorem secA_scale {sp : Int} (e : Elem) : secA (scaleE 2 3 sp e) = (secA e).map (· * 3) := by
  unfold secA scaleE
  simp only [pos_mul (show (0 : Int) < 2 by decide)]
  split
  · rfl
  · exact posL_scale (by decide)
theorem terB_scale {sp : Int} (hsp : 0 < sp) (e : Elem) : terB (scaleE 2 3 sp e) = (terB e).map (· * sp) := by
  unfold terB scaleE
  simp only [pos_mul (show (0 : Int) < 2 by decide), pos_mul (show (0 : Int) < 3 by decide)]
  split
  · exact posL_scale hsp
  · rfl
theorem terA_scale {sp : Int} (hsp : 0 < sp) (e : Elem) : terA (scaleE 2 3 sp e) = (terA e).map (· * sp) := by
  unfold terA scaleE
  simp only [pos_mul (show (0 : Int) < 2 by decide), pos_mul (show (0 : Int) < 3 by decide)]
  split
  · rfl
  · exact posL_scale hsp
theorem varB_scale {sp : Int} (e : Elem) : varB (scaleE 2 3 sp e) = (varB e).map (· * 2) := by
  unfold varB scaleE
  dsimp only
  split
  · exact posL_scale (by decide)
  · rfl
theorem varA_scale {sp : Int} (e : Elem) : varA (scaleE 2 3 sp e) = (varA e).map (· * 2) := by
  unfold varA scaleE
  dsimp only
  split
  · rfl
  · exact posL_scale (by decide)
theorem mul_lt_iff {x y f : Int} (hf : 0 < f) : x * f < y * f ↔ x < y := ⟨fun h => Int.lt_of_mul_lt_mul_right h (by omega), fun h => Int.mul_lt_mul_of_pos_right h hf⟩
theorem apart_scale {a b c f : Int} {fb fa : Elem → List Int} {B : Tab} (hf : 0 < f) (h1 : ∀ e, fb (scaleE a b c e) = (fb e).map (· * f)) (h2 : ∀ e, fa (scaleE a b c e) = (fa e).map (· * f)) : apartP fb fa (scaleT a b c B) ↔ apartP fb fa B := by
  unfold apartP
  rw [scale_flat h1, scale_flat h2]
  constructor
  · exact fun H x hx y hy => (mul_lt_iff hf).mp (H _ (List.mem_map.mpr ⟨x, hx, rfl⟩) _ (List.mem_map.mpr ⟨y, hy, rfl⟩))
  · intro H x hx y hy
    obtain ⟨x, hx', rfl⟩ := List.mem_map.mp hx
    obtain ⟨y, hy', rfl⟩ := List.mem_map.mp hy
    exact (mul_lt_iff hf).mpr (H x hx' y hy')
theorem vars_scale {sp : Int} {B : Tab} : varsP (scaleT 2 3 sp B) ↔ varsP B := by
  unfold varsP
  rw [scale_flat (f := 2) varB_scale, scale_flat (f := 2) varA_scale]
  constructor
  · intro H v1 h1 v2 h2 w hw h3
    exact H _ (List.mem_map.mpr ⟨v1, h1, rfl⟩) _ (List.mem_map.mpr ⟨v2, h2, rfl⟩) _ (List.mem_map.mpr ⟨w, hw, rfl⟩) ⟨by show v1 * 2 ≤ w * 2; omega, by show w * 2 ≤ v2 * 2; omega⟩
  · intro H v1 h1 v2 h2 w hw h3
    obtain ⟨v1, h1', rfl⟩ := List.mem_map.mp h1
    obtain ⟨v2, h2', rfl⟩ := List.mem_map.mp h2
    obtain ⟨w, hw', rfl⟩ := List.mem_map.mp hw
    change v1 * 2 ≤ w * 2 ∧ w * 2 ≤ v2 * 2 at h3
    exact H v1 h1' v2 h2' w hw' ⟨by omega, by omega⟩
theorem elW_scale {sp : Int} (hsp : 0 < sp) {x : Str} (e : Elem) : x ∈ elW (scaleE 2 3 sp e) ↔ x ∈ elW e := by
  rw [mem_elW, mem_elW]
  unfold gapC vrC scaleE
  simp only [pos_mul (show (0 : Int) < 2 by decide), pos_mul (show (0 : Int) < 3 by decide), zero_mul_iff (show (0 : Int) < 2 by decide), zero_mul_iff (show (0 : Int) < 3 by decide), zero_mul_iff hsp]
theorem conP_scale {a b c : Int} {B : Tab} {ks : List Int} : conP (scaleT a b c B) ks ↔ conP B ks := by
  unfold conP scaleT
  rw [kget_map fun es : List Elem => es.map (scaleE a b c)]
  refine and_congr Iff.rfl (and_congr Iff.rfl ?_)
  cases kget B (ks.take (ks.length - 1)) <;> simp
theorem FaultsOf.scale {B : Tab} {sp : Int} {ws : List Str} (hB : TabOK B) (hsp : 0 < sp) (F : FaultsOf (scaleT 2 3 sp B) ws) : FaultsOf B ws := by
  refine FaultsOf.of_mem (fun x => (F.mem x).trans ?_) F.so F.nd
  unfold faultsP
  rw [apart_scale (B := B) (show (0 : Int) < 3 by decide) secB_scale secA_scale, apart_scale (B := B) hsp (terB_scale hsp) (terA_scale hsp), vars_scale]
  refine or_congr (or_congr (or_congr ?_ Iff.rfl) Iff.rfl) Iff.rfl
  constructor
  · rintro ⟨p, hp, h⟩
    obtain ⟨p, hp', rfl⟩ := List.mem_map.mp hp
    refine ⟨p, hp', h.imp (fun ⟨e, he, h⟩ => ?_) fun ⟨h, e⟩ => ⟨conP_scale.mp h, e⟩⟩
    obtain ⟨e, he', rfl⟩ := List.mem_map.mp he
    exact ⟨e, he', (elW_scale hsp e).mp h⟩
  · rintro ⟨p, hp, h⟩
    exact ⟨_, List.mem_map.mpr ⟨p, hp, rfl⟩, h.imp (fun ⟨e, he, h⟩ => ⟨_, List.mem_map.mpr ⟨e, he, rfl⟩, (elW_scale hsp e).mpr h⟩) fun ⟨h, e⟩ => ⟨conP_scale.mpr h, e⟩⟩

end
section
noncomputable abbrev fac1 : V := .tup [.int 1, .int 1, .int 1]
structure TS (σ' : Sig) (a tx t1 t2 bk : Addr) (ns : List Int) (p : Nat) (B : Tab) (m : List (Int × Int)) : Prop where
  w : σ' a = some (wellM ns p)
  x : σ' tx = some (.dS (elFs (.ref t1) (.ref t2) fac1))
  t : σ' t1 = some (.dT (tabV B))
  l : σ' t2 = some (.dI (dII m))
  b : σ' bk = some (.dT (tabV B))
  ne : bk ≠ t1
theorem ne_of_val {σ : Sig} {a b : Addr} {m n : MO} (h1 : σ a = some m) (h2 : σ b = some n) (h : m ≠ n) : a ≠ b := fun e => h (by rw [e, h2] at h1; cases h1; rfl)
theorem TS.draw {σ' : Sig} {a tx t1 t2 bk : Addr} {ns : List Int} {p p' : Nat} {B : Tab} {m : List (Int × Int)} (T : TS σ' a tx t1 t2 bk ns p B m) : TS (σ'.set a (wellM ns p')) a tx t1 t2 bk ns p' B m :=
  ⟨Sig.set_self .., (Sig.set_ne (ne_of_val T.x T.w (by intro e; cases e))).trans T.x, (Sig.set_ne (ne_of_val T.t T.w (by intro e; cases e))).trans T.t, (Sig.set_ne (ne_of_val T.l T.w (by intro e; cases e))).trans T.l, (Sig.set_ne (ne_of_val T.b T.w (by intro e; cases e))).trans T.b, T.ne⟩
theorem TS.list {σ' : Sig} {a tx t1 t2 bk tl : Addr} {ns : List Int} {p : Nat} {B : Tab} {m : List (Int × Int)} {vs ws : List V} (T : TS σ' a tx t1 t2 bk ns p B m) (h : σ' tl = some (.list vs)) (hn : tl ≠ a) : TS (σ'.set tl (.list ws)) a tx t1 t2 bk ns p B m :=
  ⟨(Sig.set_ne hn.symm).trans T.w, (Sig.set_ne (ne_of_val T.x h (by intro e; cases e))).trans T.x, (Sig.set_ne (ne_of_val T.t h (by intro e; cases e))).trans T.t, (Sig.set_ne (ne_of_val T.l h (by intro e; cases e))).trans T.l, (Sig.set_ne (ne_of_val T.b h (by intro e; cases e))).trans T.b, T.ne⟩
theorem TS.new {σ' : Sig} {a tx t1 t2 bk tl : Addr} {ns : List Int} {p : Nat} {B : Tab} {m : List (Int × Int)} {o : MO} (T : TS σ' a tx t1 t2 bk ns p B m) (h : σ' tl = none) : TS (σ'.set tl o) a tx t1 t2 bk ns p B m :=
  ⟨(Sig.set_ne (ne_of_set T.w h)).trans T.w, (Sig.set_ne (ne_of_set T.x h)).trans T.x, (Sig.set_ne (ne_of_set T.t h)).trans T.t, (Sig.set_ne (ne_of_set T.l h)).trans T.l, (Sig.set_ne (ne_of_set T.b h)).trans T.b, T.ne⟩
theorem TS.del {σ' : Sig} {a tx t1 t2 bk tl : Addr} {ns : List Int} {p : Nat} {B : Tab} {m : List (Int × Int)} {vs : List V} (T : TS σ' a tx t1 t2 bk ns p B m) (h : σ' tl = some (.list vs)) (hn : tl ≠ a) : TS (σ'.del tl) a tx t1 t2 bk ns p B m :=
  ⟨(Sig.del_ne hn.symm).trans T.w, (Sig.del_ne (ne_of_val T.x h (by intro e; cases e))).trans T.x, (Sig.del_ne (ne_of_val T.t h (by intro e; cases e))).trans T.t, (Sig.del_ne (ne_of_val T.l h (by intro e; cases e))).trans T.l, (Sig.del_ne (ne_of_val T.b h (by intro e; cases e))).trans T.b, T.ne⟩
theorem mem_kput {K α : Type} [DecidableEq K] {k : K} {v : α} {x : K × α} : ∀ {l : List (K × α)}, x ∈ kput l k v → x ∈ l ∨ x = (k, v)
  | [], h => .inr (List.mem_singleton.mp h)
  | p :: l, h => by
    change x ∈ (if p.1 = k then (p.1, v) :: l else p :: kput l k v) at h
    split at h
    · rename_i e
      rcases List.mem_cons.mp h with rfl | h
      · exact .inr (by rw [e])
      · exact .inl (.tail _ h)
    · rcases List.mem_cons.mp h with rfl | h
      · exact .inl (.head _)
      · exact (mem_kput h).imp (.tail _) id
theorem TabOK.put {B : Tab} (h : TabOK B) (hl : B.length ≤ 5) {ks : List Int} {es : List Elem} (hk : ks ∈ codesL) (he : es.length ≤ 2 ∧ ∀ e ∈ es, 0 ≤ e.1 ∧ 0 ≤ e.2.1 ∧ 0 ≤ e.2.2.1) : TabOK (kput B ks es) := by
  refine ⟨by have := kput_length B ks es; bv_omega, kput_nodup h.nd, fun p hp => ?_, fun p hp => ?_⟩
  · rcases mem_kput hp with hp | rfl
    · exact h.key p hp
    · exact hk
  · rcases mem_kput hp with hp | rfl
    · exact h.els p hp
    · exact he
theorem KS.step1 {f : Elem → List Int} {us : List (Int × V)} {ed : List Elem} {e : Elem} {x : Int} (K : KS us (ed.flatMap f)) (h : f e = [x]) : KS (kput us x (.bool true)) ((ed ++ [e]).flatMap f) := K.add (by rw [flat_snoc, h])
theorem KS.step0 {f : Elem → List Int} {us : List (Int × V)} {ed : List Elem} {e : Elem} (K : KS us (ed.flatMap f)) (h : f e = []) : KS us ((ed ++ [e]).flatMap f) := by rw [flat_snoc, h, List.append_nil]; exact K
section
variable {g : G} {k : Nat} {σ : Sig} {Q : V → Sig → Prop}
theorem c_drawT (H : GK g) {a tx t1 t2 bk tl : Addr} {ns : List Int} {p : Nat} {B : Tab} {m : List (Int × Int)} {n : Int} {vs : List V} (T : TS σ a tx t1 t2 bk ns p B m) (ht : σ tl = some (.list vs)) (hne : tl ≠ a) (hl : ns.length ≤ 1000) (hp : p ≤ 100000) (hm : 0 < n)
    (q : ∀ i σ', 0 ≤ i → i < n → TS σ' a tx t1 t2 bk ns (p + 1) B m → σ' tl = some (.list vs) → Q (.int i) σ') : CALL g (k + 1) (.ref 490) [.ref a, .int n] σ Q :=
  (c_draw H T.w hl hp hm fun i h0 h1 => q i _ h0 h1 T.draw ((Sig.set_ne hne).trans ht)).call
/-- {f(x): True for x in L if ..}: what is put of an element is its f -/
theorem cx_dictK {sc : Scope} {ρ : Rho} {kx vx iter : Expr} {x : Str} {px pos : Pos} {ifs : List Expr} {scope : Scope} {Q : V → Sig → Prop} (L : List Elem) (f : Elem → List Int) (hf : ∀ e, (f e).length ≤ 1) (hl : L.length ≤ 12)
    (hIT : IT g k sc ρ (.Name x px) iter σ fun vs σ₁ => vs = L.map elV ∧ σ₁ = σ)
    (step : ∀ e us, e ∈ L → us.length ≤ 12 → ∀ Q' : List (Int × V) → Sig → Prop, (∀ y, f e = [y] → Q' (kput us y (.bool true)) σ) → (f e = [] → Q' us σ) → DSTEP g k (relS scope sc) ((x, elV e) :: capt scope ρ) ifs kx vx us σ Q')
    (fin : ∀ us, KS us (L.flatMap f) → Q (.dI us) σ) (hok : compOK scope sc = true) (hfr : freeIn scope ρ = true) (hx : storableIn false (relS scope sc) x = true) (hρ : (capt scope ρ).lookup x = none)
    (hset : autoParam (∀ env y, foldedSetIterable iter env y = pure y) Mine.sxI) : CX g k sc ρ (.DictComp kx vx [⟨.Name x px, iter, ifs, 0⟩] scope pos) scope iter.pos newDict iter σ Q :=
  cx_dictL L elV (fun ed us => KS us (ed.flatMap f)) hIT KS.nil (fun ed e er us he K Q' hQ => step e us (by rw [he]; exact List.mem_append.mpr (.inr (.head _)))
    (by have := K.len; have := flat_le hf ed; rw [he, List.length_append] at hl; bv_omega) Q' (fun y h => hQ _ (K.step1 h)) fun h => hQ _ (K.step0 h)) fin hok hfr hx hρ hset
theorem c_table_right (H : GK g) {a : Addr} {ns : List Int} {p : Nat} {sp : Int} (hσ : σ a = some (wellM ns p)) (hl : ns.length ≤ 1000) (hp : p ≤ 2000) (hsp : 1 ≤ sp ∧ sp ≤ 3) (q : ∀ σ', Q (.bool true) σ') : CALLC g (k + 7) (.ref 541) [.ref a, .int sp] σ Q := by
  have hs := sizeLine_eq
  walk_at "fn0"
  case body =>
    refine ex_cons (ex_assign (ev_tuple (evs_cons ?_)))
    repeat' walk_at "m"
    refine call_make (by rw [H.hK]; kernel_rfl) (by rw [H.hK]; rfl) (by rw [H.hK]; kernel_rfl) fun tx htx => c_elem_init H (Sig.set_self ..) fun t1 t2 σ1 e1 e2 e3 f0 f1 f2 fr => ⟨rfl, ?_⟩
    refine evs_cons (ev_dict0 (.inr (.inr rfl)) fun bk hbk => evs_cons (ev_call0 (ev_gname H rfl rfl ⟨_, rfl, keep_fn H (by kernel_rfl), ?_⟩)))
    have x1 : a ≠ tx := ne_of_set hσ htx
    have hσ' : (σ.set tx (.dS [])) a = some (wellM ns p) := (Sig.set_ne x1).trans hσ
    have x2 : a ≠ t1 := ne_of_set hσ' e1
    have x3 : a ≠ t2 := ne_of_set hσ' e2
    have w1 : σ1 a = some (wellM ns p) := by rw [fr a x1 x2 x3]; exact hσ'
    have T : TS (σ1.set bk (.dT [])) a tx t1 t2 bk ns p [] [] :=
      ⟨(Sig.set_ne (ne_of_set w1 hbk)).trans w1, (Sig.set_ne (ne_of_set f0 hbk)).trans f0, (Sig.set_ne (ne_of_set f1 hbk)).trans f1, (Sig.set_ne (ne_of_set f2 hbk)).trans f2, Sig.set_self .., (ne_of_set f1 hbk).symm⟩
    clear fr f0 f1 f2 hσ hσ' htx e1 e2
    generalize σ1.set bk (.dT []) = σ2 at *
    refine call_make (by rw [H.hK]; kernel_rfl) (by rw [H.hK]; rfl) (by rw [H.hK]; kernel_rfl) fun dx hdx => c_data_init H (Sig.set_self ..) fun kvs mx σ3 hk e1 d0 d1 dr => ⟨rfl, ?_⟩
    have y1 : mx ≠ dx := fun e => by rw [e, d0] at d1; cases d1
    have T2 : TS σ3 a tx t1 t2 bk ns p [] [] := by
      have hx : ∀ {b m}, σ2 b = some m → σ3 b = some m := fun {b m} h => by
        have n1 : b ≠ dx := ne_of_set h hdx
        have n2 : b ≠ mx := ne_of_set ((Sig.set_ne n1).trans h) e1
        rw [dr b n1 n2, Sig.set_ne n1]
        exact h
      exact ⟨hx T.w, hx T.x, hx T.t, hx T.l, hx T.b, T.ne⟩
    refine evs_nil ⟨Nat.le_of_ble_eq_true rfl, ?_⟩
    walk_at "x"
    refine ex_cons (ex_expr (ev_mcall (ev_name rfl ⟨_, mres_inst (.m d0) rfl (own_meth H (by kernel_rfl) (by rfl) (by kernel_rfl)), keep_fn H (by kernel_rfl), ?_⟩)) rfl)
    repeat' walk_at "m"
    refine (c_data_put H hk d0 d1 fun rx σ4 r0 r1 r2 rr => ⟨rfl, ?_⟩).call
    have z1 : rx ≠ mx := fun e => by rw [e, d1] at r0; cases r0
    have z2 : rx ≠ dx := fun e => by rw [e, d0] at r0; cases r0
    have d0' : σ4 dx = some (.dS (datF kvs (.ref mx))) := by rw [rr dx z2.symm y1.symm]; exact d0
    refine ex_ghost (gh_ent (mx := mx) (rx := rx) (x := "ccc") (C := 409) r2 rfl r1 z1) ?_
    refine ex_ghost (gh_attr (dx := dx) (x := "maps") (a := mx) ((Sig.set_ne y1.symm).trans ((Sig.del_ne z2.symm).trans d0')) rfl (Sig.set_self ..) y1) ?_
    refine ex_ghost (gh_inst (x := "data") rfl (Sig.set_self ..)) ?_
    have T3 : TS (((((σ4.del rx).set mx (.dS (kput [("ccc", .inst 409 rx)] "ccc" (.obj 409 (rngF [0, 768, 770] [0, 230, 0]))))).del mx).set dx (.dS (kput (datF kvs (.ref mx)) "maps" (MO.dS (kput [("ccc", .inst 409 rx)] "ccc" (.obj 409 (rngF [0, 768, 770] [0, 230, 0])))).toV))).del dx) a tx t1 t2 bk ns p [] [] := by
      have hx : ∀ {b m}, σ3 b = some m → m ≠ .dS [] → m ≠ .dS (datF kvs (.ref mx)) → (((((σ4.del rx).set mx (.dS (kput [("ccc", .inst 409 rx)] "ccc" (.obj 409 (rngF [0, 768, 770] [0, 230, 0]))))).del mx).set dx (.dS (kput (datF kvs (.ref mx)) "maps" (MO.dS (kput [("ccc", .inst 409 rx)] "ccc" (.obj 409 (rngF [0, 768, 770] [0, 230, 0])))).toV))).del dx) b = some m := fun {b m} h i1 i2 => by
        have n1 : b ≠ rx := ne_of_set h r0
        have n2 : b ≠ mx := ne_of_val h d1 i1
        have n3 : b ≠ dx := ne_of_val h d0 i2
        rw [Sig.del_ne n3, Sig.set_ne n3, Sig.del_ne n2, Sig.set_ne n2, Sig.del_ne n1, rr b n1 n2]
        exact h
      exact ⟨hx T2.w (by intro e; cases e) (by intro e; cases e), hx T2.x (by intro e; cases e) (by intro e; cases e), hx T2.t (by intro e; cases e) (by intro e; cases e), hx T2.l (by intro e; cases e) (by intro e; cases e), hx T2.b (by intro e; cases e) (by intro e; cases e), T2.ne⟩
    generalize ((((σ4.del rx).set mx (.dS (kput [("ccc", .inst 409 rx)] "ccc" (.obj 409 (rngF [0, 768, 770] [0, 230, 0]))))).del mx).set dx (.dS (kput (datF kvs (.ref mx)) "maps" (MO.dS (kput [("ccc", .inst 409 rx)] "ccc" (.obj 409 (rngF [0, 768, 770] [0, 230, 0])))).toV))).del dx = σ5 at *
    clear T T2 d0 d0' d1 dr rr r0 r1 r2 z1 z2 y1 hdx e1 w1 hbk
    refine ex_forS (fun _ : Unit => [("well", .ref a), ("spread", .int sp), ("table", .inst 322 tx), ("book", .ref bk), ("data", dataO (.dS kvs) (.dI []) (.dI []))])
      (fun vs _ σ' => X5 fun lo hi B m p' => A6 (vs = rangeV lo hi) (TabOK B) (B.length + (hi - lo).toNat ≤ 5) (m.length + (hi - lo).toNat ≤ 5) (p' + 20 * (hi - lo).toNat ≤ p + 101) (TS σ' a tx t1 t2 bk ns p' B m)) ?_ ?_ ?_
    · refine it_of ?_
      repeat' walk_at "m"
      refine (c_draw H T3.w hl (by bv_omega) (by decide) fun i i0 i1 => ?_).call
      repeat' walk_at "m"
      refine ⟨_, itv_rng (by decide) (by bv_omega), (), by walk_at "rle", 0, i, [], [], p + 1, rfl, ⟨by decide, List.nodup_nil, (fun p hp => nomatch hp), fun p hp => nomatch hp⟩, ?_, ?_, ?_, T3.draw⟩
      · simp only [List.length_nil]; bv_omega
      · simp only [List.length_nil]; bv_omega
      · bv_omega
    · rintro v rest _ σ6 ⟨lo, hi, B, m, p', hv, hB, b1, b2, b3, T⟩
      obtain ⟨rfl, hlo, rfl⟩ := rangeV_cons hv
      intro N' hN
      walk_at "m"
      with_reducible refine ex_cons (ex_swapT (ev_tuple (evs_cons (ev_sub ?_))))
      refine ev_call0 (ev_gname H rfl rfl ⟨_, rfl, keep_fn H (by kernel_rfl), (c_codes H ?_).call⟩)
      repeat' walk_at "m"
      refine (c_draw H T.w hl (by bv_omega) (by decide) fun j j0 j1 => ?_).call
      refine item_pick j0 (by rw [List.length_map]; exact j1) (by decide) fun v hv => ?_
      obtain ⟨ks, hks, rfl⟩ := List.mem_map.mp hv
      clear hv j0 j1
      refine evs_cons (ev_listM (evs_nil ⟨Nat.le_of_ble_eq_true rfl, fun tl htl => evs_nil ⟨Nat.le_of_ble_eq_true rfl, _, rfl, rfl, ?_⟩⟩))
      have hne : tl ≠ a := (ne_of_set (Sig.set_self ..) htl).symm
      have T2 : TS ((σ6.set a (wellM ns (p' + 1))).set tl (.list [])) a tx t1 t2 bk ns (p' + 1) B m := T.draw.new htl
      have ht : ((σ6.set a (wellM ns (p' + 1))).set tl (.list [])) tl = some (.list []) := Sig.set_self ..
      clear htl T
      generalize (σ6.set a (wellM ns (p' + 1))).set tl (.list []) = σ7 at *
      clear σ6
      refine ex_forS (fun _ : Unit => [("told", .ref tl), ("codes", .tup (ks.map .int)), ("well", .ref a), ("spread", .int sp), ("table", .inst 322 tx), ("book", .ref bk), ("data", dataO (.dS kvs) (.dI []) (.dI []))])
        (fun vs _ σ' => X4 fun (lo2 hi2 : Int) (es : List Elem) (p2 : Nat) => A6 (vs = rangeV lo2 hi2) ((∀ e : Elem, e ∈ es → 0 ≤ e.1 ∧ 0 ≤ e.2.1 ∧ 0 ≤ e.2.2.1)) (es.length + (hi2 - lo2).toNat ≤ 2) (p2 + 4 * (hi2 - lo2).toNat ≤ p' + 10) (TS σ' a tx t1 t2 bk ns p2 B m) (σ' tl = some (.list (es.map elV)))) ?_ ?_ ?_
      · refine it_of ?_
        repeat' walk_at "m"
        refine c_drawT H T2 ht hne hl (by bv_omega) (by decide) fun i σ8 i0 i1 T3 ht3 => ?_
        repeat' walk_at "m"
        refine ⟨_, itv_rng (by decide) (by bv_omega), (), by walk_at "rle", 0, 1 + i, [], p' + 1 + 1, rfl, (fun e he => nomatch he), ?_, ?_, T3, ht3⟩
        · simp only [List.length_nil]; bv_omega
        · bv_omega
      · rintro v rest _ σ8 ⟨lo2, hi2, es, p2, hv, hes, c1, c2, T3, ht3⟩
        obtain ⟨rfl, hlo2, rfl⟩ := rangeV_cons hv
        intro N' hN
        walk_at "m"
        with_reducible refine ex_cons (ex_swapT (ev_tuple (evs_cons (ev_sub ?_))))
        repeat' walk_at "m"
        refine c_drawT H T3 ht3 hne hl (by bv_omega) (by decide) fun i σ9 i0 i1 T4 ht4 => ?_
        refine item_pickI (ns := [40, 0, 41, 42, 43, 44]) i0 i1 (by decide) fun n1 hn1 => ?_
        clear i0 i1
        repeat' walk_at "m"
        refine c_drawT H T4 ht4 hne hl (by bv_omega) (by decide) fun i σ10 i0 i1 T5 ht5 => ?_
        refine item_pickI (ns := [32, 0, 33, 40]) i0 i1 (by decide) fun n2 hn2 => ?_
        clear i0 i1
        walk_at "x"
        refine ex_cons (ex_append rfl ht5 ?_)
        repeat' walk_at "m"
        refine c_drawT H T5 ht5 hne hl (by bv_omega) (by decide) fun i σ11 i0 i1 T6 ht6 => ?_
        refine item_pickI (ns := [2, 0, 3, 8]) i0 i1 (by decide) fun n3 hn3 => ?_
        clear i0 i1
        repeat' walk_at "m"
        refine c_drawT H T6 ht6 hne hl (by bv_omega) (by decide) fun i σ12 i0 i1 T7 ht7 => ?_
        repeat' walk_at "m"
        refine ⟨_, ht7, by rw [List.length_map]; bv_omega, ?_⟩
        have m1 : ∀ n ∈ ([40, 0, 41, 42, 43, 44] : List Int), 0 ≤ n := by decide
        have m2 : ∀ n ∈ ([32, 0, 33, 40] : List Int), 0 ≤ n := by decide
        have m3 : ∀ n ∈ ([2, 0, 3, 8] : List Int), 0 ≤ n := by decide
        refine ex_nil (hN _ _ () (by walk_at "rle") ⟨lo2 + 1, hi2, es ++ [(n1, n2, n3, decide (i = 2))], _, rfl, fun e he => ?_, by rw [List.length_append, List.length_singleton]; bv_omega, by bv_omega, T7.list ht7 hne, by rw [Sig.set_self, List.map_append]; rfl⟩)
        rcases List.mem_append.mp he with he | he
        · exact hes e he
        · cases List.mem_singleton.mp he
          exact ⟨m1 _ hn1, m2 _ hn2, m3 _ hn3⟩
      · rintro _ σ8 ⟨lo2, hi2, es, p2, hv, hes, c1, c2, T3, ht3⟩
        have hlo2 := rangeV_nil hv
        clear hv
        have hkl := codes_last hks
        cases ks with
        | nil => exact absurd rfl hkl.1
        | cons x xs =>
          rw [List.length_cons] at hkl
          refine ex_cons (ex_expr (ev_mcall (ev_name rfl ⟨_, mres_inst (.m T3.x) rfl (own_meth H (by kernel_rfl) (by rfl) (by kernel_rfl)), keep_fn H (by kernel_rfl), ?_⟩)) rfl)
          repeat' walk_at "m"
          refine c_list (.m ht3) (by rw [List.length_map]; bv_omega) ?_
          repeat' walk_at "m"
          have a1 : a ≠ tx := ne_of_val T3.w T3.x (by intro e; cases e)
          have a2 : a ≠ t1 := ne_of_val T3.w T3.t (by intro e; cases e)
          have a3 : a ≠ t2 := ne_of_val T3.w T3.l (by intro e; cases e)
          have a4 : bk ≠ tx := ne_of_val T3.b T3.x (by intro e; cases e)
          have a5 : bk ≠ t2 := ne_of_val T3.b T3.l (by intro e; cases e)
          have a6 : tl ≠ tx := ne_of_val ht3 T3.x (by intro e; cases e)
          have a7 : tl ≠ t1 := ne_of_val ht3 T3.t (by intro e; cases e)
          have a8 : tl ≠ t2 := ne_of_val ht3 T3.l (by intro e; cases e)
          have a9 : tx ≠ bk := a4.symm
          have b0 : tl ≠ bk := ne_of_val ht3 T3.b (by intro e; cases e)
          refine (c_put H T3.x T3.t T3.l (ne_of_val T3.x T3.t (by intro e; cases e)) (ne_of_val T3.x T3.l (by intro e; cases e)) (ne_of_val T3.t T3.l (by intro e; cases e)) (by bv_omega) (by bv_omega) (by bv_omega) (by bv_omega) fun m' σ9 l1 u0 u1 u2 ur => ⟨rfl, ?_⟩).call
          have ht4 : σ9 tl = some (.list (es.map elV)) := by rw [ur tl a6 a7 a8]; exact ht3
          have hb4 : (σ9.del tl) bk = some (.dT (tabV B)) := by rw [Sig.del_ne b0.symm, ur bk a4 T3.ne a5]; exact T3.b
          refine ex_ghost (gh_name (x := "told") rfl ht4) ?_
          repeat' walk_at "m"
          refine seti_dT hb4 (by rw [List.length_map]; bv_omega) ?_
          have hkp := kput_length B (x :: xs) es
          refine ex_nil (hN _ _ () (by walk_at "rle") ⟨lo + 1, hi, kput B (x :: xs) es, m', p2, rfl, hB.put (by bv_omega) hks ⟨by bv_omega, hes⟩, by bv_omega, by bv_omega, by bv_omega, ?_⟩)
          refine ⟨?_, ?_, ?_, ?_, ?_, T3.ne⟩
          · rw [Sig.set_ne (ne_of_val T3.w T3.b (by intro e; cases e)), Sig.del_ne hne.symm, ur a a1 a2 a3]; exact T3.w
          · rw [Sig.set_ne a9, Sig.del_ne a6.symm]; exact u0
          · rw [Sig.set_ne T3.ne.symm, Sig.del_ne a7.symm]; exact u1
          · rw [Sig.set_ne a5.symm, Sig.del_ne a8.symm]; exact u2
          · rw [Sig.set_self]; exact congrArg (fun x => some (MO.dT x)) (kput_map elsV B (x :: xs) es)
    · rintro _ σ6 ⟨lo, hi, B, m, p', hv, hB, b1, b2, b3, T⟩
      clear hv b3 T3
      have q1 : t1 ≠ tx := ne_of_val T.t T.x (by intro e; cases e)
      have q2 : t2 ≠ tx := ne_of_val T.l T.x (by intro e; cases e)
      have q3 : t2 ≠ t1 := ne_of_val T.l T.t (by intro e; cases e)
      have q4 : bk ≠ tx := ne_of_val T.b T.x (by intro e; cases e)
      have q5 : bk ≠ t2 := ne_of_val T.b T.l (by intro e; cases e)
      refine ex_ghost (gh_attr (dx := tx) (x := "table") (a := t1) T.x rfl T.t q1) ?_
      refine ex_ghost (gh_attr (dx := tx) (x := "longest") (a := t2) (Sig.set_self ..) rfl (by rw [Sig.set_ne q2, Sig.del_ne q3]; exact T.l) q2) ?_
      refine ex_ghost (gh_inst (x := "table") rfl (Sig.set_self ..)) ?_
      refine ex_ghost (gh_name (x := "book") rfl (by rw [Sig.del_ne q4, Sig.set_ne q4, Sig.del_ne q5, Sig.set_ne q4, Sig.del_ne T.ne]; exact T.b)) ?_
      refine ex_forget (ρ' := [("book", .dT (tabV B)), ("table", elO B m fac1), ("spread", .int sp), ("data", dataO (.dS kvs) (.dI []) (.dI []))]) ?_ (by walk_at "rle") (Sle.refl _)
      generalize Sig.del _ bk = σ7
      clear q1 q2 q3 q4 q5 T σ6 p'
      have hev := hB.every
      have hpos : ∀ e ∈ everyT B, 0 ≤ e.1 ∧ 0 ≤ e.2.1 ∧ 0 ≤ e.2.2.1 := fun e he => by
        obtain ⟨p, hp, he⟩ := List.mem_flatMap.mp he
        exact (hB.els p hp).2 e he
      refine ex_cons (ex_listcomp2 (cx_flat B keyV (fun p => p.2) elV (it_of (ev_name rfl ⟨_, itv_dT, by rw [List.map_map]; rfl, rfl⟩)) (fun p hm => it_of ?_) (fun p e Q' q => ev_name rfl q) (by bv_omega) ?_ rfl rfl rfl rfl rfl rfl (by decide)) rfl)
      · repeat' walk_at "m"
        exact item_dT .f (hB.get hm) ⟨_, itv_lst, rfl, rfl⟩
      generalize σ7 = s0
      refine ex_cons (ex_assign (ev_listM (evs_cons (ev_dictcomp (cx_dictK (everyT B) secB secB_len hev (it_of (ev_name rfl ⟨_, itv_lst, rfl, rfl⟩)) ?_ ?_ rfl rfl rfl rfl)))))
      · intro e us he hll Q' q1 q0
        focus
          have hp := hpos e he
          show TR _ _ _ _ _ _ _
          repeat' walk_at "m"
          · rename_i h1 h2
            exact ⟨_, rfl, by bv_omega, q1 _ (by rw [secB, if_pos h1, posL1 h2])⟩
          · rename_i h1 h2
            exact q0 (by rw [secB, if_pos h1, posL0 h2])
          · rename_i h1
            exact q0 (by rw [secB, if_neg h1])
      intro d1 K1
      refine evs_nil ⟨Nat.le_of_ble_eq_true rfl, fun be hbe => asn_name rfl ?_⟩
      have hb1 : (s0.set be (.list [.dI d1])) be = some (.list [.dI d1]) := Sig.set_self ..
      clear hbe
      generalize s0.set be (.list [.dI d1]) = s2 at *
      refine ex_cons (ex_append rfl hb1 (ev_dictcomp (cx_dictK (everyT B) terB terB_len hev (it_of (ev_name rfl ⟨_, itv_lst, rfl, rfl⟩)) ?_ ?_ rfl rfl rfl rfl)))
      · intro e us he hll Q' q1 q0
        focus
          have hp := hpos e he
          show TR _ _ _ _ _ _ _
          repeat' walk_at "m"
          · rename_i h1 h2
            exact ⟨_, rfl, by bv_omega, q1 _ (by rw [terB, if_pos (by bv_omega), posL1 h2])⟩
          · rename_i h1 h2
            exact q0 (by rw [terB, if_pos (by bv_omega), posL0 h2])
          · rename_i h1
            exact q0 (by rw [terB, if_neg (by bv_omega)])
      intro d2 K2
      refine ⟨_, hb1, Nat.le_of_ble_eq_true rfl, ?_⟩
      have hb2 : (s2.set be (.list ([.dI d1] ++ [.dI d2]))) be = some (.list [.dI d1, .dI d2]) := Sig.set_self ..
      clear hb1
      generalize s2.set be (.list ([.dI d1] ++ [.dI d2])) = s4 at *
      refine ex_cons (ex_assign (ev_listM (evs_cons (ev_dictcomp (cx_dictK (everyT B) secA secA_len hev (it_of (ev_name rfl ⟨_, itv_lst, rfl, rfl⟩)) ?_ ?_ rfl rfl rfl rfl)))))
      · intro e us he hll Q' q1 q0
        focus
          have hp := hpos e he
          show TR _ _ _ _ _ _ _
          repeat' walk_at "m"
          · rename_i h1 h2
            exact ⟨_, rfl, by bv_omega, q1 _ (by rw [secA, if_neg (by bv_omega), posL1 h2])⟩
          · rename_i h1 h2
            exact q0 (by rw [secA, if_neg (by bv_omega), posL0 h2])
          · rename_i h1
            exact q0 (by rw [secA, if_pos (by bv_omega)])
      intro d3 K3
      refine evs_nil ⟨Nat.le_of_ble_eq_true rfl, fun al hal => asn_name rfl ?_⟩
      have nea : be ≠ al := ne_of_set hb2 hal
      have hb3 : (s4.set al (.list [.dI d3])) be = some (.list [.dI d1, .dI d2]) := (Sig.set_ne nea).trans hb2
      have ha1 : (s4.set al (.list [.dI d3])) al = some (.list [.dI d3]) := Sig.set_self ..
      clear hb2 hal
      generalize s4.set al (.list [.dI d3]) = s6 at *
      refine ex_cons (ex_append rfl ha1 (ev_dictcomp (cx_dictK (everyT B) terA terA_len hev (it_of (ev_name rfl ⟨_, itv_lst, rfl, rfl⟩)) ?_ ?_ rfl rfl rfl rfl)))
      · intro e us he hll Q' q1 q0
        focus
          have hp := hpos e he
          show TR _ _ _ _ _ _ _
          repeat' walk_at "m"
          · rename_i h1 h2
            exact ⟨_, rfl, by bv_omega, q1 _ (by rw [terA, if_neg (by bv_omega), posL1 h2])⟩
          · rename_i h1 h2
            exact q0 (by rw [terA, if_neg (by bv_omega), posL0 h2])
          · rename_i h1
            exact q0 (by rw [terA, if_pos (by bv_omega)])
      intro d4 K4
      refine ⟨_, ha1, Nat.le_of_ble_eq_true rfl, ?_⟩
      have hb4 : (s6.set al (.list ([.dI d3] ++ [.dI d4]))) be = some (.list [.dI d1, .dI d2]) := (Sig.set_ne nea).trans hb3
      have ha2 : (s6.set al (.list ([.dI d3] ++ [.dI d4]))) al = some (.list [.dI d3, .dI d4]) := Sig.set_self ..
      clear hb3 ha1
      generalize s6.set al (.list ([.dI d3] ++ [.dI d4])) = s8 at *
      refine ex_ghost (gh_name (x := "beside") rfl hb4) ?_
      refine ex_ghost (gh_name (x := "alone") rfl ((Sig.del_ne nea.symm).trans ha2)) ?_
      refine ex_forget (ρ' := [("beside", .lst [.dI d1, .dI d2]), ("alone", .lst [.dI d3, .dI d4]), ("every", elsV (everyT B)), ("book", .dT (tabV B)), ("table", elO B m fac1), ("spread", .int sp), ("data", dataO (.dS kvs) (.dI []) (.dI []))]) ?_ (by walk_at "rle") (Sle.refl _)
      generalize Sig.del _ al = s9
      clear hb4 ha2 nea s8
      have e1 := flat_le secB_len (everyT B)
      have e2 := flat_le terB_len (everyT B)
      have e3 := flat_le secA_len (everyT B)
      have e4 := flat_le terA_len (everyT B)
      have l1 : d1.length ≤ 12 := Nat.le_trans K1.len (by bv_omega)
      have l2 : d2.length ≤ 12 := Nat.le_trans K2.len (by bv_omega)
      have l3 : d3.length ≤ 12 := Nat.le_trans K3.len (by bv_omega)
      have l4 : d4.length ≤ 12 := Nat.le_trans K4.len (by bv_omega)
      clear e1 e2 e3 e4
      refine ex_cons (ex_if (tr_or (tr_cmp ?_)))
      repeat' walk_at "m"
      refine (c_seconds H hB fun b a kb ka => ?_).call
      repeat' walk_at "m"
      refine item_list .f (by decide) rfl (by decide) ?_
      repeat' walk_at "m"
      refine item_list .f (by decide) rfl (by decide) ?_
      repeat' walk_at "m"
      refine cmp_ne_dd kb.tr ka.tr K1.tr K3.tr ?_
      rw [kb.same K1, ka.same K3]
      refine brf rfl ?_
      refine tr_cmp ?_
      repeat' walk_at "m"
      refine (c_thirds H hB fun b a kb ka => ?_).call
      repeat' walk_at "m"
      refine item_list .f (by decide) rfl (by decide) ?_
      repeat' walk_at "m"
      refine item_list .f (by decide) rfl (by decide) ?_
      repeat' walk_at "m"
      refine cmp_ne_dd kb.tr ka.tr K2.tr K4.tr ?_
      rw [kb.same K2, ka.same K4]
      refine brf rfl ?_
      refine ex_nil ?_
      with_reducible refine ex_cons (ex_swapT (ev_tuple (evs_cons ?_)))
      repeat' walk_at "m"
      refine (c_words H hB l1 l3 l2 l4 fun ws so nd hw => ?_).call
      refine evs_cons (ev_mcall (ev_name rfl ⟨_, mres_inst .f rfl (own_meth H (by kernel_rfl) (by rfl) (by kernel_rfl)), keep_fn H (by kernel_rfl), ?_⟩))
      repeat' walk_at "m"
      refine (c_scaled H hB (by decide) (by decide) (by bv_omega) fun m' fac => ?_).call
      refine evs_nil ⟨Nat.le_of_ble_eq_true rfl, _, rfl, rfl, ?_⟩
      have hwp := words_any hw
      generalize hps : ([("secondary", d1, d3), ("tertiary", d2, d4)] : List Pr) = ps at hwp
      have hp1 : ps.map (fun p => V.dI p.2.1) = [.dI d1, .dI d2] := by rw [← hps]; rfl
      have hp2 : ps.map (fun p => V.dI p.2.2) = [.dI d3, .dI d4] := by rw [← hps]; rfl
      have hp0 : ps.map (fun p => V.str p.1) = [.str "secondary", .str "tertiary"] := by rw [← hps]; rfl
      have hp3 : ∀ p ∈ ps, (p.2.1.length < 64 ∧ p.2.2.length < 64) ∧ allTrue p.2.1 ∧ allTrue p.2.2 := by
        rw [← hps]
        intro p hp
        rcases List.mem_cons.mp hp with rfl | hp
        · exact ⟨⟨Nat.lt_of_le_of_lt l1 (by decide), Nat.lt_of_le_of_lt l3 (by decide)⟩, K1.tr, K3.tr⟩
        · cases List.mem_singleton.mp hp; exact ⟨⟨Nat.lt_of_le_of_lt l2 (by decide), Nat.lt_of_le_of_lt l4 (by decide)⟩, K2.tr, K4.tr⟩
      have hp4 : ps.length = 2 := by rw [← hps]; rfl
      clear hps
      refine ex_forS (fun _ : Unit => [("faulty", .lst (ws.map .str)), ("great", elO (scaleT 2 3 sp B) m' fac), ("beside", .lst [.dI d1, .dI d2]), ("alone", .lst [.dI d3, .dI d4]), ("every", elsV (everyT B)), ("table", elO B m fac1), ("spread", .int sp), ("data", dataO (.dS kvs) (.dI []) (.dI []))])
        (fun vs _ σ' => σ' = s9 ∧ X2 fun (dn r : List Pr) => ps = dn ++ r ∧ vs = rangeV dn.length 2) ?_ ?_ ?_
      · refine it_of ?_
        repeat' walk_at "m"
        exact ⟨_, itv_tup, (), by walk_at "rle", rfl, [], ps, rfl, rfl⟩
      · rintro v rest _ s10 ⟨rfl, dn, r, he, hv⟩
        obtain ⟨rfl, hd2, rfl⟩ := rangeV_cons hv
        cases r with
        | nil =>
          rw [List.append_nil] at he
          rw [he] at hp4
          bv_omega
        | cons p rt =>
          have hpm := hp3 p (by rw [he]; exact List.mem_append.mpr (.inr (.head _)))
          have hpw := hwp p (by rw [he]; exact List.mem_append.mpr (.inr (.head _)))
          have g0 : [V.str "secondary", .str "tertiary"][((dn.length : Nat) : Int).toNat]? = some (.str p.1) := by rw [← hp0, he]; simp
          have g1 : [V.dI d1, .dI d2][((dn.length : Nat) : Int).toNat]? = some (.dI p.2.1) := by rw [← hp1, he]; simp
          have g2 : [V.dI d3, .dI d4][((dn.length : Nat) : Int).toNat]? = some (.dI p.2.2) := by rw [← hp2, he]; simp
          intro N' hN
          walk_at "m"
          refine ex_cons (ex_if (tr_cmp ?_))
          repeat' walk_at "m"
          refine item_list .f (by bv_omega) g1 (by bv_omega) ?_
          repeat' walk_at "m"
          refine item_list .f (by bv_omega) g2 (by bv_omega) ?_
          repeat' walk_at "m"
          refine (c_apart H hpm.2.1 hpm.2.2 hpm.1.1 hpm.1.2 fun r hr => ?_).call
          repeat' walk_at "m"
          refine item_list .f (by bv_omega) g0 (by bv_omega) ?_
          repeat' walk_at "m"
          refine cmp_notin_Ls .f ?_
          rw [hpw r hr]
          refine cmp_ne_bool ?_
          refine brf (bne_self_eq_false _) (ex_nil (ex_nil (hN _ _ () (by walk_at "rle") ⟨rfl, dn ++ [p], rt, by rw [he]; simp, by rw [List.length_append]; rfl⟩)))
      · rintro _ s10 ⟨rfl, dn, r, u1, u2⟩
        clear u1 u2 r dn hwp hp0 hp1 hp2 hp3 hp4 ps
        have hBs : TabOK (scaleT 2 3 sp B) := hB.scale (by decide) (by decide) (by bv_omega)
        refine ex_forS (fun _ : Unit => [("faulty", .lst (ws.map .str)), ("great", elO (scaleT 2 3 sp B) m' fac), ("every", elsV (everyT B)), ("table", elO B m fac1), ("data", dataO (.dS kvs) (.dI []) (.dI []))])
          (fun vs _ σ' => σ' = s10 ∧ X2 fun (dn r : List Int) => [2, 3, sp] = dn ++ r ∧ vs = enumV (r.map .int) dn.length) ?_ ?_ ?_
        · refine it_enumH H rfl ?_
          repeat' walk_at "m"
          exact ⟨_, rfl, (), by walk_at "rle", rfl, [], [2, 3, sp], rfl, rfl⟩
        · rintro v rest _ s11 ⟨rfl, dn, r, he, hv⟩
          cases r with
          | nil => cases hv
          | cons f rt =>
            obtain ⟨rfl, rfl⟩ := List.cons.inj hv
            have hln : (3 : Nat) = dn.length + (rt.length + 1) := by
              have h := congrArg List.length he
              rw [List.length_append (as := dn), List.length_cons (as := rt)] at h
              exact h
            have hi : dn.length < 3 := by bv_omega
            have hfi : ([2, 3, sp] : List Int)[dn.length]? = some f := by rw [he]; simp
            have hf3 : 0 ≤ f ∧ f ≤ 3 := by
              have : f ∈ ([2, 3, sp] : List Int) := by rw [he]; exact List.mem_append.mpr (.inr (.head _))
              simp only [List.mem_cons, List.not_mem_nil, or_false] at this
              bv_omega
            generalize hdn : dn.length = i at *
            intro N' hN
            walk_at "m"
            walk_at "x"
            refine ex_cons (ex_assign ?_)
            repeat' walk_at "m"
            refine ev_listcomp (cx_mapI (everyT B) elV (fun e => [colE i e]) (it_of (ev_name rfl ⟨_, itv_lst, rfl, rfl⟩)) (fun _ => Nat.le_refl 1) (by bv_omega) ?_ ?_)
            · intro e hem us hus
              show EV _ _ _ _ _ _ _
              repeat' walk_at "m"
              refine item_tup (j := i) (v := .int (colE i e)) ?_ ?_ (by bv_omega) ⟨hus, rfl, rfl⟩
              · have : i = 0 ∨ i = 1 ∨ i = 2 := by bv_omega
                rcases this with rfl | rfl | rfl <;> rfl
              · have : i = 0 ∨ i = 1 ∨ i = 2 := by bv_omega
                rcases this with rfl | rfl | rfl <;> rfl
            rw [flat_one]
            refine op_addL .f .f (by rw [List.length_map, List.length_map]; show 1 + _ ≤ _; bv_omega) ?_
            repeat' walk_at "m"
            refine c_max (ns := 0 :: (everyT B).map (colE i)) .f (fun h => nomatch h) fun mst h1 h2 => ?_
            have hM : Most i B mst := Most.of_max h1 h2
            clear h1 h2
            walk_at "x"
            refine ex_cons (ex_if (tr_or (tr_cmp ?_)))
            refine ev_mcall (ev_name rfl ⟨_, mres_inst .f rfl (own_meth H (by kernel_rfl) (by rfl) (by kernel_rfl)), keep_fn H (by kernel_rfl), ?_⟩)
            repeat' walk_at "m"
            refine (c_greatest H hB hi fun x hx => ?_).call
            rw [hx.uniq hM]
            refine ev_name rfl (cmp_ne ?_)
            refine brf (decide_eq_false fun h => h rfl) ?_
            refine tr_cmp ?_
            refine ev_mcall (ev_name rfl ⟨_, mres_inst .f rfl (own_meth H (by kernel_rfl) (by rfl) (by kernel_rfl)), keep_fn H (by kernel_rfl), ?_⟩)
            repeat' walk_at "m"
            refine (c_greatest H hBs hi fun y hy => ?_).call
            rw [hM.scale (by bv_omega) hy hfi]
            refine ev_binop (ev_name rfl (ev_name rfl (op_mul (cmp_ne ?_) (by bv_omega))))
            refine brf (decide_eq_false fun h => h rfl) (ex_nil (ex_nil (hN _ _ () (by walk_at "rle") ⟨rfl, dn ++ [f], rt, by rw [he]; simp, by rw [List.length_append, hdn]; rfl⟩)))
        · rintro _ s11 ⟨rfl, dn, r, u1, u2⟩
          refine ex_cons (ex_return (ev_and (ev_cmp ?_)))
          repeat' walk_at "m"
          refine (c_faults H hB fun r1 r2 r3 R ws1 h1 h2 h3 h4 h5 h6 h7 => ?_).call
          refine ev_name rfl (cmp_eq_strs .f .f ?_)
          rw [faults_law hB K1 K3 K2 K4 hw so nd ⟨⟨r1, r2, r3, R, h1, h2, h3, h4, h7⟩, h5, h6⟩, decide_eq_true (rfl : ws = ws)]
          clear h1 h2 h3 h4 h5 h6 h7 r1 r2 r3 R ws1
          refine tru_bool (brt rfl (ev_cmp ?_))
          repeat' walk_at "m"
          refine (c_faults H hBs fun r1 r2 r3 R ws1 h1 h2 h3 h4 h5 h6 h7 => ?_).call
          refine ev_name rfl (cmp_eq_strs .f .f ?_)
          rw [faults_law hB K1 K3 K2 K4 hw so nd (FaultsOf.scale hB (by bv_omega) ⟨⟨r1, r2, r3, R, h1, h2, h3, h4, h7⟩, h5, h6⟩), decide_eq_true (rfl : ws = ws)]
          exact q _
end
end
section
set_option maxRecDepth 100000
set_option linter.unusedVariables false
set_option maxHeartbeats 1000000
open PySem PySem.W PyProof.Rows PySem.Calls
theorem well_list {P : Params} {h : Heap} {a : Addr} {d : WData} {xs : List WData} (w : Well P h (.ref a) d) (e : d = .list xs) : ∃ vs : List Value, h.get? a = some (lstO vs 0) := by
  cases w with
  | list h1 h2 => exact ⟨_, h1⟩
  | _ => cases e
theorem head_run {g : G} {k : Nat} {name : Str} {sc : Scope} {fa l : Addr} {cd : Value} {body : List Stmt} {ns : List Int} {vs : List Value} {s : Shared} {A : Around} {m : Str → Option Value} {d : WData} {xs : List WData}
    (hsc : (sc.kind == .function && (sc.names.all fun p => p.2 == .local || p.2 == .globalImplicit) && (sc.names.lookup ("__debug__" : Str)).isNone && (sc.names.lookup ("__classdict__" : Str)).isNone && sc.names.lookup ("script" : Str) == some .local) = true)
    (hL : g.hb.IsList l vs.toArray) (hw : Well g.w.params g.hb (.ref l) d) (hd : d = .list xs) (hI : IntsAre vs ns) (F : Fr g.hb g.hb.objs.size s.heap m) (hm : m "script" = some (.ref l))
    (gens : s.gens = #[]) (hos : s.os = g.os) (R : Room k A)
    (h : EX g k sc [("script", .lst (ns.map .int))] body (fun _ => none) (fun _ _ => False) (fun v _ => v = .bool true)) :
    wpAny (M g) A (execs body (envOf name sc g.hb.objs.size fa cd)) (fun f s' => f = .ret (.bool true) ∧ (∀ b o, g.hb.get? b = some o → s'.heap.get? b = some o) ∧ s'.os = g.os ∧ s'.gens = #[]) (fun _ _ => False) s := by
  obtain ⟨vs', hv⟩ := well_list hw hd
  obtain ⟨o, ho, hc, n, hdat⟩ := hL
  rw [hv] at ho
  cases ho
  have evs : vs'.toArray = vs.toArray := (Data.seq.inj hdat).1
  have evs' : vs' = vs := by simpa using congrArg Array.toList evs
  subst evs'
  simp only [Bool.and_eq_true] at hsc
  obtain ⟨⟨⟨⟨hk, hall⟩, hdb⟩, hcd⟩, hscr⟩ := hsc
  have knd : ∀ x kk, sc.names.lookup x = some kk → kk = .local ∨ kk = .globalImplicit := fun x kk hx => by
    have := List.all_eq_true.mp hall _ (mem_of_lookup hx)
    rcases Bool.or_eq_true_iff.mp this with q | q
    · exact .inl (by simpa using q)
    · exact .inr (by simpa using q)
  let D0 : Fz := fun b => if b = l then some (lstO vs' 0) else none
  have hD : ∀ b o, D0 b = some o → b = l ∧ o = lstO vs' 0 := fun b o e => by
    by_cases hb : b = l
    · rw [show D0 b = some (lstO vs' 0) from if_pos hb] at e; exact ⟨hb, (Option.some.inj e).symm⟩
    · rw [show D0 b = none from if_neg hb] at e; cases e
  have hDl : D0 l = some (lstO vs' 0) := if_pos rfl
  have hne : ∀ b o, g.hb.get? b = some o → b ≠ g.hb.objs.size := fun b o e => Nat.ne_of_lt (Heap.lt_size e)
  let Fm0 : Fm := ⟨envOf name sc g.hb.objs.size fa cd, fun b => b = g.hb.objs.size, fun b => b = g.hb.objs.size, fun _ => none⟩
  have S : St g Fm0.own D0 (fun _ => none) s := by
    refine ⟨F.keep, fun b o e => ?_, (fun _ _ e => nomatch e), fun _ _ _ => rfl, fun b o e => ?_, (fun _ _ e => nomatch e), fun _ _ _ => rfl, fun b o e h => hne b o e h, fun b hb => ?_, fun o e => ?_, rfl, gens, hos⟩
    · obtain ⟨rfl, rfl⟩ := hD b o e; exact F.keep _ _ hv
    · obtain ⟨rfl, rfl⟩ := hD b o e; exact hne _ _ hv
    · obtain ⟨o, _, _, e, _⟩ := F.ns; rw [hb]; exact ⟨o, e⟩
    · obtain ⟨_, rfl⟩ := hD _ o e
      intro hq
      exact absurd (show Value.type "list" = Value.type "dict" from hq) (by decide)
  have E : ER g Fm0 [("script", .lst (ns.map .int))] D0 s.heap := by
    refine ⟨(by simpa using hk : sc.kind = .function), rfl, rfl, rfl, rfl, fun _ hb => hb, Option.isNone_iff_eq_none.mp hdb, Option.isNone_iff_eq_none.mp hcd, ⟨m, F.ns, fun x v hx _ => ?_⟩, fun x v hx hn => ?_, (fun _ _ e => nomatch e), (fun _ _ e => nomatch e), fun _ _ _ e => nomatch e⟩
    · rw [lookup_cons_str] at hx
      split at hx
      · rename_i e
        cases hx
        rw [e]
        exact ⟨_, hm, .lst hDl (VRs.of_ints hI)⟩
      · cases hx
    · rw [lookup_cons_str] at hx
      split at hx
      · rename_i e
        rw [e] at hn
        exact absurd (by simpa using hscr : sc.names.lookup ("script" : Str) = some .local) hn
      · cases hx
  refine wpAny_mono (h Fm0 A D0 s rfl (fun x hx => ?_) R S E) (fun f s' hf => ?_) fun _ _ e => e
  · rcases knd x _ hx with e | e <;> cases e
  · obtain ⟨D', σ', S₂, T₂, q⟩ := hf
    have fin : ∀ c v, VR g D' v c → v = .bool true → c = .bool true := fun c v r e => by subst e; cases r; rfl
    cases f with
    | next => obtain ⟨ρ', _, q⟩ := q; exact q.elim
    | ret c =>
      obtain ⟨v, rv, q⟩ := q
      exact ⟨by rw [fin c v rv q], S₂.base, S₂.os, S₂.gens⟩
    | brk => exact q.elim
    | cont => exact q.elim
theorem law_end {p q : Program} {w : World} {s₁ : Shared} {loose : List Str} {mean mean' : ExcName → Option Value} {mg mb : Str → Option Value} {name : Str} {sc : Scope} {fa l : Addr} {cd : Value} {body : List Stmt} {ns : List Int} {vs : List Value} {h₁ : Heap} {m : Str → Option Value}
    {c : ClaimW} {cl : Str → Option Addr} {args : List WData} {tk : Nat} {dr : Drawn} {E : Value → Shared → Prop}
    (KX : (hd.heap_1 w.params).In s₁.heap) (T : Top q loose mean mg mb s₁.heap) (hg : s₁.gens = #[]) (hL : s₁.heap.IsList l vs.toArray) (hw : Well w.params s₁.heap (.ref l) (ofPy (.list (ns.map .int)))) (hI : IntsAre vs ns) (hc : ¬ (63 : Int) < ns.length)
    (F : Fr s₁.heap s₁.heap.objs.size h₁ m) (hm : m "script" = some (.ref l))
    (hsc : (sc.kind == .function && (sc.names.all fun p => p.2 == .local || p.2 == .globalImplicit) && (sc.names.lookup ("__debug__" : Str)).isNone && (sc.names.lookup ("__classdict__" : Str)).isNone && sc.names.lookup ("script" : Str) == some .local) = true)
    (hn : ∀ cls, c.raises args cls = false) (hp : c.post args (.bool true) args = true)
    (h : ∀ (g : G) (ns : List Int) (σ : Sig), GK g → ns.length ≤ 100 → EX g 8 sc [("script", .lst (ns.map .int))] body σ (fun _ _ => False) (fun v _ => v = .bool true)) :
    wpAny (model p w) (callerA.deeper (envOf name sc s₁.heap.objs.size fa cd)) (execs body (envOf name sc s₁.heap.objs.size fa cd))
      (fun f s' => GoodW c cl mean' args s₁ (.ok (.ret (match f with | .ret v => v | _ => .none))) s') E { heap := h₁, gens := s₁.gens, drawn := dr, toks := tk, os := s₁.os } := by
  let g : G := ⟨p, w, s₁.heap, s₁.os, hd.heap_1 w.params, mg, mb, KX, T.g, T.b, T.nolimit⟩
  have H : GK g := ⟨rfl, fun x v e => mg_of KX T.g e, fun x e => mg_none_of KX T.g e, fun x v e hx => (T.builtins x hx).trans e⟩
  refine wpAny_mono (head_run (g := g) (k := 8) hsc hL hw rfl hI F hm hg rfl ⟨rfl, ?_, ?_⟩ (h g ns _ H (by omega))) (fun f s' hf => ?_) fun _ _ e => e.elim
  · show claimMargin + 2 + 5 * 8 ≤ 700
    decide
  · exact Nat.le_of_ble_eq_true rfl
  · obtain ⟨rfl, k1, k2, k3⟩ := hf
    exact ⟨.inl ⟨.bool true, .bool true, [], rfl, hn, .bool true, hp, unshared_nil⟩, k1, k2, k3⟩

end
section
local macro_rules
  | `(tactic| k_qdec) => `(tactic| kernel_rfl)
set_option maxHeartbeats 8000000 in
theorem final : PySem.Challenge.rw_nt0076_01.Holds := hd (by
  w_strict (
    (k_go0; refine law_end (by assumption) (by assumption) (by assumption) (by assumption) (by assumption) (by assumption) (by assumption) (by assumption) (by rfl) (by rfl) (raisesW_false (by wrow_none_raised)) (by wrow_post) ?_)
    (intro g ns σ H hl
     dsimp only
     have hs := sizeLine_eq
     walk_at "m"
     walk_at "m"
     refine ev_listM (evs_cons (ev_listcomp (cx_mapI (ns.take 40) .int (fun n => [n.fmod 1000003]) (it_of (ev_slice (ev_name rfl (part_none (part_some (ev_int ⟨_, rfl, part_none (sli_upto .f (by rw [List.length_map]; omega) (by decide) ⟨_, itv_lst, List.map_take.symm, rfl⟩)⟩)))))) (fun _ => Nat.le_refl 1) (by rw [List.length_take]; omega) ?_ ?_)))
     · intro n hn us hus
       show EV _ _ _ _ _ _ _
       repeat' walk_at "m"
       exact op_mod ⟨hus, rfl, rfl⟩ (by decide)
     rw [flat_one]
     have hl2 : ((ns.take 40).map fun n => n.fmod 1000003).length ≤ 1000 := by rw [List.length_map, List.length_take]; omega
     generalize (ns.take 40).map (fun n => n.fmod 1000003) = ms at *
     refine evs_cons (ev_int (evs_nil ⟨Nat.le_of_ble_eq_true rfl, fun a ha => asn_name rfl ?_⟩))
     have h0 : (σ.set a (.list [.lst (ms.map .int), .int 0])) a = some (wellM ms 0) := Sig.set_self ..
     generalize σ.set a (.list [.lst (ms.map .int), .int 0]) = s0 at *
     walk_at "m"
     refine ex_assign ?_
     repeat' walk_at "m"
     refine (c_draw H h0 hl2 (by decide) (by decide) fun i i0 i1 => ?_).call
     have h1 : (s0.set a (wellM ms (0 + 1))) a = some (wellM ms 1) := Sig.set_self ..
     generalize s0.set a (wellM ms (0 + 1)) = s1 at *
     walk_at "x"
     refine ex_cons (ex_assign ?_)
     repeat' walk_at "m"
     refine (c_lots H h1 hl2 (by decide) fun starts sizes order p hL p0 p1 => ?_).call
     have h2 : (s1.set a (wellM ms p)) a = some (wellM ms p) := Sig.set_self ..
     generalize s1.set a (wellM ms p) = s2 at *
     walk_at "x"
     refine ex_cons (ex_if (tr_or (tr_not (tr_of ?_))))
     repeat' walk_at "m"
     refine (c_lots_right H hL (by omega) ?_).call
     refine tru_bool (brf rfl (tr_not (tr_of ?_)))
     repeat' walk_at "m"
     refine (c_order_right H h2 hl2 (by omega) hL (by omega) fun p' p2 p3 => ?_).call
     refine tru_bool (brf rfl (ex_nil ?_))
     repeat' walk_at "m"
     exact (c_table_right H (Sig.set_self ..) hl2 (by omega) (by omega) fun σ' => rfl).call
     )))
end
end Mine
theorem PySem.Challenge.cw_nt0076_01_holds : PySem.Challenge.rw_nt0076_01.Holds := by
  exact Mine.final
