import PyProof.Rows.All
import Wide.All
import OpenK.AllK
import Wide.FinOn
import Lean
import PySem.Challenge.RW_pf0001_01
set_option Elab.async false
set_option maxRecDepth 100000
set_option maxHeartbeats 4000000
set_option linter.unusedVariables false
namespace Mine
open PySem PySem.W PySem.Calls PyProof.Rows
/-! the head: the text's top is run by the kernel at once, over a tree of objects; no pieces (their twins weigh 16 MB) -/
noncomputable def topRunT (tb : String → Option Builtin) (p : Program) (w : World) (n₀ : Nat) (ann : Option Value) : Nat → SharedT → Thread → Option SharedT
  | 0, _, _ => none
  | n + 1, s, t => match through t with
    | true => some s
    | false => match stepOk n₀ ann t with
      | false => none
      | true => match stepT (denote tb) p w s t with
        | some (s', t') => topRunT tb p w n₀ ann n s' t'
        | none => none
theorem topRun_ofT {tb : String → Option Builtin} {p : Program} {w : World} {n₀ : Nat} {ann : Option Value} : ∀ {n : Nat} {s s' : SharedT} {t : Thread}, topRunT tb p w n₀ ann n s t = some s' → topRun tb p w n₀ ann n s.abs t = some s'.abs
  | 0, _, _, _, h => by cases h
  | n + 1, s, s', t, h => by
    unfold topRunT at h
    unfold topRun
    cases he : through t with
    | true => rw [he] at h; cases h; rfl
    | false =>
      rw [he] at h
      cases hk : stepOk n₀ ann t with
      | false => rw [hk] at h; cases h
      | true =>
        rw [hk] at h
        cases hs : stepT (denote tb) p w s t with
        | none => rw [hs] at h; cases h
        | some r => obtain ⟨s₂, t₂⟩ := r; rw [hs] at h; rw [stepT_spec hs]; exact topRun_ofT h

/-- the same with the library's quick twins -/
noncomputable def topRunQ (tb : String → Option Builtin) (p : Program) (w : World) (n₀ : Nat) (ann : Option Value) : Nat → SharedT → Thread → Option SharedT
  | 0, _, _ => none
  | n + 1, s, t => match through t with
    | true => some s
    | false => match PySem.W.Fast.tw6613529449190102663 n₀ ann t with
      | false => none
      | true => match PySem.W.Fast.tw10156331382660048174 (PySem.W.Fast.tw11892475500146522536 tb) p w s t with
        | some (s', t') => topRunQ tb p w n₀ ann n s' t'
        | none => none
theorem topRunQ_eq {tb : String → Option Builtin} {p : Program} {w : World} {n₀ : Nat} {ann : Option Value} : ∀ (n : Nat) (s : SharedT) (t : Thread), topRunT tb p w n₀ ann n s t = topRunQ tb p w n₀ ann n s t
  | 0, _, _ => rfl
  | n + 1, s, t => by
    unfold topRunT topRunQ
    rw [PySem.W.Fast.te6613529449190102663, PySem.W.Fast.te10156331382660048174, PySem.W.Fast.te11892475500146522536]
    simp only [topRunQ_eq n]
noncomputable def btOf : Nat → List Obj → BT → BT
  | _, [], t => t
  | n, o :: l, t => btOf (n + 1) l (t.ins n o)
noncomputable def bootT (P : Params) : BT := btOf 0 (boot_heap P).objs.toList .nil
theorem boot_abs (P : Params) : absHeap (bootT P) 11 {} = boot_heap P := by kernel_rfl
theorem boot_ann (P : Params) : (boot_heap P).nsMap mainGlobals "__annotations__" = some (.ref 6) := by kernel_rfl
theorem boot_isNs (P : Params) : (boot_heap P).isNs mainGlobals = true := by kernel_rfl
theorem boot_size (P : Params) : (boot_heap P).objs.size = 11 := by kernel_rfl
noncomputable def st0 (w : World) (os : OsState) : SharedT := ⟨bootT w.params, 11, {}, Array.mk [], boot_drawn, boot_toks, os⟩
theorem st0_abs (w : World) (os : OsState) : (st0 w os).abs = ⟨boot_heap w.params, Array.mk [], boot_drawn, boot_toks, os⟩ := by
  unfold st0 SharedT.abs
  dsimp only
  rw [boot_abs]
noncomputable def topOk (p : Program) (h₀ : Heap) (s₁ : Shared) : Bool := staticsOk (importedModules p.main.body) h₀ s₁.heap && namesBound p s₁.heap && gensDone s₁ && laidKept h₀ s₁.heap
theorem left_ofT {p q : Program} {loose : List Str} {Xt : Shared → Bool} {α : Type} {Yf : Shared → α} {Ya : World → α} {N : Nat} {g0 : Bool}
    (o : ∀ w : World, (fencedOpening treeTable p w N).map (fun s => (s.heap, s.gens, s.drawn, s.toks)) = some (boot_heap w.params, Array.mk [], boot_drawn, boot_toks))
    (h : ∀ w os, (topRunQ PySem.W.Fast.tw14364793385576792824 p w 11 (some (.ref 6)) N (st0 w os) (topStub p)).map (fun s => (topOk p (boot_heap w.params) s.abs, PySem.W.Fast.tw4187177175401517315 q loose (importedModules p.main.body) Xt g0 s.abs, Yf s.abs)) = some (true, openGood q loose, Ya w)) : LeftO p q loose Xt Yf Ya N g0 := fun w => by
  obtain ⟨s, hs, e⟩ := Option.map_eq_some_iff.mp (o w)
  obtain ⟨H, G, D, K, os⟩ := s
  simp only [Prod.mk.injEq] at e
  obtain ⟨rfl, rfl, rfl, rfl⟩ := e
  have h := h w os
  rw [← topRunQ_eq, ← PySem.W.Fast.te14364793385576792824, ← PySem.W.Fast.te4187177175401517315] at h
  obtain ⟨s₁, h1, e⟩ := Option.map_eq_some_iff.mp h
  simp only [Prod.mk.injEq] at e
  obtain ⟨e1, e2, e3⟩ := e
  have r := topRun_ofT h1
  rw [st0_abs] at r
  unfold openEnds
  rw [hs]
  show Option.map _ (topFrom treeTable p w N ⟨boot_heap w.params, Array.mk [], boot_drawn, boot_toks, os⟩) = _
  unfold topFrom
  dsimp only
  rw [boot_isNs, boot_ann, boot_size, r]
  show Option.map _ (match topOk p (boot_heap w.params) s₁.abs with
      | true => some s₁.abs
      | false => none) = _
  rw [e1, ← e2, ← e3]
  rfl
noncomputable def vw : Program := view PySem.Challenge.pw_pf0001_01 [0, 2, 3, 5, 6, 7, 9, 10, 11, 12, 13, 14, 15, 16, 17, 18]
theorem openW (H : Hook) {d : DefRec} {kwd : List (Str × PySem.Expr)} (left : LeftO PySem.Challenge.rw_pf0001_01.row.prog vw [] (fun s => xlAt vw [] s && recOk (RowW.records PySem.Challenge.rw_pf0001_01.row.toRowW) s) H.obs H.val 3108)
    (hw : PySem.Challenge.rw_pf0001_01.row.toRowW.promised) (call : WalkO vw [] (XL vw []) H.says PySem.Challenge.rw_pf0001_01.row.toRowW d kwd fun f vs => PySem.call f vs)
    (hdef : defOf vw PySem.Challenge.rw_pf0001_01.row.name = some (d, kwd)) (hp : PySem.Challenge.rw_pf0001_01.row.prog.theDef PySem.Challenge.rw_pf0001_01.row.name = some (d.params, d.body, d.scope)) (hk : kwWritten? d.params.kwonlyargs d.params.kw_defaults = some kwd)
    (k1 : PySem.Challenge.rw_pf0001_01.row.wellSaid = true) : PySem.Challenge.rw_pf0001_01.row.Holds :=
  holds_open left H.of H.keeps (fun s e => xl_of s (Bool.and_eq_true_iff.mp e).1) XL.keeps hdef hp hk (fun s e => recFacts_of (Bool.and_eq_true_iff.mp e).2) (by rfl) k1 (by decide +kernel) ⟨rfl, rfl, rfl, rfl, rfl, by decide +kernel⟩ hw call
local macro_rules | `(tactic| o_head $H) => do
  let hw := Lean.mkIdent `hw
  `(tactic| (refine openW $H (left_ofT (boot_open (by rfl) (by decide) (fun s => by rfl)) ?a) ?$hw ?b (by rfl) (by rfl) (by rfl) (by assumption); (focus (intro w os; kernel_rfl))))
open_top hd for PySem.Challenge.rw_pf0001_01

noncomputable abbrev KF (w : World) : Frag := hd.heap_39 w.params

def IsT (o : Obj) : Prop := o.cls = .type "tuple" ∧ ∃ its n, o.data = .seq its n
/-- what a run turns: S may turn, tuples never, nothing vanishes -/
structure Kp (S : Addr → Prop) (h h' : Heap) : Prop where
  keep : ∀ a o, h.get? a = some o → ¬ S a → h'.get? a = some o
  tup : ∀ a o, h.get? a = some o → IsT o → h'.get? a = some o
def No : Addr → Prop := fun _ => False
abbrev Kp0 := Kp No

section
variable {S S' : Addr → Prop} {h h' h'' : Heap}
theorem Kp.refl : Kp S h h := ⟨fun _ _ e _ => e, fun _ _ e _ => e⟩
theorem Kp.trans (x : Kp S h h') (y : Kp S h' h'') : Kp S h h'' :=
  ⟨fun a o e n => y.keep a o (x.keep a o e n) n, fun a o e c => y.tup a o (x.tup a o e c) c⟩
theorem Kp.mono (x : Kp S h h') (m : ∀ a, S a → S' a) : Kp S' h h' := ⟨fun a o e n => x.keep a o e fun q => n (m a q), x.tup⟩
theorem Kp.of0 (x : Kp0 h h') : Kp S h h' := x.mono fun _ q => q.elim
theorem Kp.stays (x : Kp0 h h') : ∀ b o, h.get? b = some o → h'.get? b = some o := fun b o e => x.keep b o e id
theorem Kp.of_stays (k : ∀ b o, h.get? b = some o → h'.get? b = some o) : Kp S h h' := ⟨fun a o e _ => k a o e, fun a o e _ => k a o e⟩
theorem Kp.push (o : Obj) : Kp S h (h.push o) := .of_stays fun _ _ e => Heap.get?_push_of_some o e
theorem Kp.same {D : Addr} (hs : Heap.SameBut D h h') (hD : S D) (ht : ∀ o, h.get? D = some o → ¬ IsT o) : Kp S h h' :=
  ⟨fun a o e n => (hs.2 a fun q => n (q ▸ hD)).trans e, fun a o e c => (hs.2 a fun q => ht o (q ▸ e) c).trans e⟩
/-- what did not stand at h may turn besides -/
theorem Kp.drop (x : Kp S h h') (m : ∀ a o, h.get? a = some o → S a → S' a) : Kp S' h h' :=
  ⟨fun a o e n => x.keep a o e fun q => n (m a o e q), x.tup⟩
theorem Kp.then (x : Kp S h h') (y : Kp S' h' h'') (m : ∀ a o, h.get? a = some o → S' a → S a) : Kp S h h'' :=
  ⟨fun a o e n => y.keep a o (x.keep a o e n) fun q => n (m a o e q), fun a o e c => y.tup a o (x.tup a o e c) c⟩
/-- a step first, and then a part that is smaller -/
theorem Kp.behind (x : Kp0 h h') (y : Kp S h' h'') : Kp S h h'' := x.of0.trans y
end

structure Wd (w : World) (g : Heap) : Prop where
  X : (KF w).In g
  T : ∃ mg mb, TopRead vw (looseW vw []) mg mb g


/-- the locals, as a written list -/
def mp (l : List (Str × Value)) : Str → Option Value := fun x => l.lookup x
theorem mp_cons (x : Str) (v : Value) (l : List (Str × Value)) : (fun y => if y = x then some v else mp l y) = mp ((x, v) :: l) := by
  funext y
  unfold mp
  rw [List.lookup_cons]
  by_cases h : y = x
  · rw [if_pos h, show (y == x) = true from by simpa using h]
  · rw [if_neg h, show (y == x) = false from by simpa using h]

/-- in a def's body: the heap at its call (or where one looks from) h₀, its frame L with locals l (some of them), the heap now h; S is what may have turned of h₀ -/
structure Bd (g : Heap) (S : Addr → Prop) (h₀ : Heap) (L : Addr) (l : List (Str × Value)) (h : Heap) : Prop where
  ns : ∃ m, h.Ns L m ∧ ∀ y v, mp l y = some v → m y = some v
  kp : Kp S h₀ h
  st : Kp0 g h
  st₀ : Kp0 g h₀
  lo : h₀.get? L = none ∨ S L
  far : ∀ a, S a → g.get? a = none

section
variable {g h h' h₀ : Heap} {S S' : Addr → Prop} {L : Addr} {l : List (Str × Value)}
theorem Bd.ne (B : Bd g S h₀ L l h) {a : Addr} {o : Obj} (e : h₀.get? a = some o) (n : ¬ S a) : a ≠ L := fun q => B.lo.elim (fun z => by rw [q, z] at e; cases e) fun z => n (q ▸ z)
theorem Bd.gone (B : Bd g S h₀ L l h) : g.get? L = none := by
  cases q : g.get? L with
  | none => rfl
  | some o => exact B.lo.elim (fun z => by have := B.st₀.stays _ _ q; rw [z] at this; cases this) fun z => by rw [B.far L z] at q; cases q
theorem Bd.nt (B : Bd g S h₀ L l h) : ∀ o, h.get? L = some o → ¬ IsT o := fun o e q => by
  obtain ⟨m, ⟨ob, es, ep, hob, hdb, _⟩, _⟩ := B.ns
  obtain ⟨_, its, n, hd⟩ := q
  rw [hob] at e; cases e; rw [hdb] at hd; cases hd
theorem Bd.at_ (B : Bd g S h₀ L l h) : ∃ o, h.get? L = some o := let ⟨_, ⟨o, _, _, ho, _⟩, _⟩ := B.ns; ⟨o, ho⟩
theorem Bd.stored {m : Str → Option Value} {x : Str} {v : Value} (B : Bd g S h₀ L l h) (hm : ∀ y v, mp l y = some v → m y = some v) (hn : h'.Ns L (fun y => if y = x then some v else m y)) (hs : Heap.SameBut L h h') : Bd g S h₀ L ((x, v) :: l) h' where
  ns := ⟨_, hn, fun y u e => by
    rw [← mp_cons] at e
    dsimp only at e ⊢
    split
    · rename_i q; rw [if_pos q] at e; exact e
    · rename_i q; rw [if_neg q] at e; exact hm y u e⟩
  kp := ⟨fun a o e n => (hs.2 a (B.ne e n)).trans (B.kp.keep a o e n), fun a o e c => (hs.2 a fun q => B.nt o (q ▸ B.kp.tup a o e c) c).trans (B.kp.tup a o e c)⟩
  st := .of_stays fun a o e => (hs.2 a fun q => by rw [q, B.gone] at e; cases e).trans (B.st.stays a o e)
  st₀ := B.st₀
  lo := B.lo
  far := B.far
theorem Bd.weak {l' : List (Str × Value)} (B : Bd g S h₀ L l h) (w : ∀ y v, mp l' y = some v → mp l y = some v) : Bd g S h₀ L l' h :=
  { B with ns := let ⟨m, a, b⟩ := B.ns; ⟨m, a, fun y v e => b y v (w y v e)⟩ }
/-- a name is forgotten -/
theorem Bd.pop {x : Str} {v : Value} (B : Bd g S h₀ L ((x, v) :: l) h) (e : mp l x = none) : Bd g S h₀ L l h := B.weak fun y u q => by
  rw [← mp_cons]
  dsimp only
  split
  · rename_i z; rw [z, e] at q; cases q
  · exact q
theorem Bd.step (B : Bd g S h₀ L l h) (k : Kp S' h h') (m : ∀ a, S' a → (S a ∨ h₀.get? a = none) ∧ a ≠ L) : Bd g S h₀ L l h' where
  ns := let ⟨f, a, b⟩ := B.ns; ⟨f, a.at' fun o e => k.keep L o e fun q => (m L q).2 rfl, b⟩
  kp := B.kp.then k fun a o e q => (m a q).1.elim id fun z => by rw [z] at e; cases e
  st := .of_stays fun a o e => k.keep a o (B.st.stays a o e) fun q => (m a q).1.elim (fun z => by rw [B.far a z] at e; cases e) fun z => by
    have := B.st₀.stays a o e; rw [z] at this; cases this
  st₀ := B.st₀
  lo := B.lo
  far := B.far
theorem Bd.step0 (B : Bd g S h₀ L l h) (k : Kp0 h h') : Bd g S h₀ L l h' := B.step k fun _ q => q.elim
/-- one object that may turn, or that is new, is turned -/
theorem Bd.turn {D : Addr} (B : Bd g S h₀ L l h) (hs : Heap.SameBut D h h') (hD : S D ∨ h₀.get? D = none) (hL : D ≠ L) (ht : ∀ o, h.get? D = some o → ¬ IsT o) : Bd g S h₀ L l h' :=
  B.step (S' := (· = D)) (Kp.same hs rfl ht) fun _ q => ⟨q ▸ hD, q ▸ hL⟩
/-- what does not stand now, did not stand at the call, or may turn -/
theorem Bd.new (B : Bd g S h₀ L l h) {D : Addr} (e : h.get? D = none) : (S D ∨ h₀.get? D = none) ∧ D ≠ L := by
  refine ⟨?_, fun q => by obtain ⟨o, ho⟩ := B.at_; rw [← q, e] at ho; cases ho⟩
  cases q : h₀.get? D with
  | none => exact .inr rfl
  | some o =>
    by_cases z : S D
    · exact .inl z
    · have := B.kp.keep D o q z; rw [e] at this; cases this
/-- seen from here on: the frame itself may turn besides -/
theorem Bd.here (B : Bd g S h₀ L l h) : Bd g (fun a => S a ∨ a = L) h L l h :=
  ⟨B.ns, .refl, B.st, B.st, .inr (.inr rfl), fun a q => q.elim (B.far a) fun z => z ▸ B.gone⟩
theorem Bd.comp {l' : List (Str × Value)} (B : Bd g S h₀ L l h) (B' : Bd g (fun a => S a ∨ a = L) h L l' h') : Bd g S h₀ L l' h' where
  ns := B'.ns
  kp := ⟨fun a o e n => B'.kp.keep a o (B.kp.keep a o e n) fun q => q.elim n (B.ne e n), fun a o e c => B'.kp.tup a o (B.kp.tup a o e c) c⟩
  st := B'.st
  st₀ := B.st₀
  lo := B.lo
  far := B.far
theorem ne_of_none {h : Heap} {a b : Addr} {o : Obj} (e : h.get? a = some o) (n : h.get? b = none) : a ≠ b := fun q => by rw [q, n] at e; cases e
theorem fresh_size (h : Heap) : h.get? h.objs.size = none := by
  cases q : h.get? h.objs.size with
  | none => rfl
  | some o => exact absurd (Heap.lt_size q) (Nat.lt_irrefl _)
end

section
variable {M : Model} {w : World} {A : Around} {E : Value → Shared → Prop} {s : Shared} {g : Heap} {env : Env} {x : Str} {pos : Pos} {v : Value} {Q : Value → Shared → Prop} {m : Str → Option Value} {c : Addr} {S : Addr → Prop} {h₀ : Heap} {L : Addr} {l : List (Str × Value)}

theorem sL {Q : Unit → Shared → Prop} (B : Bd g S h₀ L l s.heap) (h : ∀ h', Bd g S h₀ L ((x, v) :: l) h' → Heap.SameBut L s.heap h' → Q () { s with heap := h', toks := s.toks + 1 }) (hL : env.locals = L := by rfl)
    (hl : env.kindOf x = some .local := by rfl) (hp : (env.scope.kind == .class || (env.scope.kind == .module && env.locals != env.globals)) = false := by rfl) : wpAny M A (storeName env x v) Q E s := by
  subst hL
  obtain ⟨m, hn, hm⟩ := B.ns
  exact wpAny_storeName_local hl hn (fun h' hn hs => h h' (B.stored hm hn hs) hs) hp
end

section
variable {prog : Program} {w : World} {A : Around} {E : Value → Shared → Prop} {s : Shared} {g : Heap}
  {name qual : Str} {params : Arguments} {body : List Stmt} {scope : Scope} {dV kV doc pm cdv ct oc : Value} {an od : Option Addr} {osl : Array (Option Value)} {f : Addr} {S : Addr → Prop} {pos : List Value} {kw : List (Str × Value)} {binds : List (Str × Value)} {Q : Value → Shared → Prop}
/-- a call of a def without cells that raises nothing -/
theorem callF (W : Wd w g) (st : Kp0 g s.heap) (ho : (KF w).lookup f = some ⟨oc, od, .func (fnOf name qual params body scope dV kV doc pm an cdv ct), osl⟩) (hcd : codeIn (KF w) cdv qual = true)
    (hroom : A.depth < recursionLimit) (hbind : BindsTo s (fnOf name qual params body scope dV kV doc pm an cdv ct) ⟨pos, kw⟩ binds) (hloc : ∀ y ∈ binds, scope.names.lookup y.1 = some .local)
    (far : ∀ a, S a → g.get? a = none)
    (h : ∀ h₁ L, Bd g S s.heap L binds.reverse h₁ → Kp0 s.heap h₁ → s.heap.get? L = none →
      wpAny (model prog w) (A.deeper (envOf qual scope L f cdv)) (execs body (envOf qual scope L f cdv)) (fun fl s' => Q (match fl with | .ret v => v | _ => .none) s') (fun _ _ => False) { s with heap := h₁, toks := s.toks + binds.length })
    (hcell : ∀ x ∈ scope.names, x.2 ≠ .cell) (hco : scope.isCoroutine = false := by rfl) (hgen : scope.isGenerator = false := by rfl) (hk : scope.kind = .function := by rfl) :
    wpAny (model prog w) A (call (.ref f) pos kw) Q E s := by
  obtain ⟨mg, mb, T⟩ := W.T
  have this : ∀ h₀, Heap.SameBut s.heap.objs.size (s.heap.push { cls := .type "frame", data := .dict #[] }) h₀ → Kp0 s.heap h₀ := fun h₀ hsb₀ =>
    .of_stays fun b o e => hsb₀.extBut b o (Nat.ne_of_lt (Heap.lt_size e)) (Heap.get?_push_of_some _ e)
  refine wpAny_call (codeAny_call_function (fd := fnOf name qual params body scope dV kV doc pm an cdv ct) hroom ((W.X.keeps st.stays) _ _ ho) rfl hco hgen rfl (codeRec_of (W.X.keeps st.stays) hcd) (hbind _ _ _ _ ?_))
  refine wpAny_newFunctionEnv hcell hloc (fun h₀ hns₀ hsb₀ => ⟨(T.nolimit.keeps st.stays).fresh _ hsb₀, codeAny_func (wpAny_mono (h h₀ _ ⟨⟨_, hns₀, fun _ _ e => e⟩, Kp.of0 (this h₀ hsb₀), (st.trans (this h₀ hsb₀)), st, .inl (fresh_size _), far⟩ (this h₀ hsb₀) (fresh_size _)) (fun _ _ q => q) fun _ _ q => q.elim)⟩) hk
end

section
variable {M : Model} {w : World} {A : Around} {E : Value → Shared → Prop} {s : Shared} {g : Heap} {env : Env} {x : Str} {pos : Pos} {f : Value} {first : List Value} {args : List PySem.Expr} {Q : Value → Shared → Prop}
theorem evalArgs_any {trees : List (Bool × Sem Value)} {Q : Args → Shared → Prop} (hp : trees.any (·.1) = false) (h : wpAny M A (spliced trees) (fun vs s' => Q ⟨vs, []⟩ s') E s) : wpAny M A (evalArgs f true trees []) Q E s := by
  cases trees with
  | nil =>
    unfold evalArgs
    show wpAny M A (spliced [] >>= _) Q E s
    refine wpAny_bind (wpAny_mono h (fun vs s' h' => wpAny_bind (wpAny_pure ?_)) fun _ _ x => x)
    refine wpAny_holding ?_
    exact wpAny_bind (wpAny_pure (wpAny_bind (wpAny_pure (wpAny_pure h'))))
  | cons a r =>
    obtain ⟨b, x⟩ := a
    obtain rfl : b = false := by
      rw [List.any_cons, Bool.or_eq_false_iff] at hp; exact hp.1
    exact evalArgs_plain h
/-- a call of what the written part keeps: a def or a class of the text -/
theorem cwK {prog : Program} (hk : keepIn (KF w) f = true) (h : wpAny (model prog w) A (spliced (backTo pos (starEach args env))) (fun vs s₁ => (KF w).In s₁.heap ∧ wpAny (model prog w) A (call f (first ++ vs)) Q E s₁) E s)
    (hp : (backTo pos (starEach args env)).any (·.1) = false := by rfl) : wpAny (model prog w) A (callWith pos f first (backTo pos (starEach args env)) []) Q E s :=
  callWith_of (by rw [hp]; rfl) (keeps_K hk) (evalArgs_any hp h)
theorem cwB {id : String} (h : wpAny M A (spliced (backTo pos (starEach args env))) (fun vs s₁ => wpAny M A (call (.builtin id) (first ++ vs)) Q E s₁) E s)
    (hp : (backTo pos (starEach args env)).any (·.1) = false := by rfl) : wpAny M A (callWith pos (.builtin id) first (backTo pos (starEach args env)) []) Q E s :=
  callWith_builtin hp (evalArgs_any hp h)
theorem cwT {T : String} (h : wpAny M A (spliced (backTo pos (starEach args env))) (fun vs s₁ => wpAny M A (call (.type T) (first ++ vs)) Q E s₁) E s)
    (hp : (backTo pos (starEach args env)).any (·.1) = false := by rfl) : wpAny M A (callWith pos (.type T) first (backTo pos (starEach args env)) []) Q E s :=
  PyProof.Rows.callWith_type hp (evalArgs_any hp h)
end

section
variable {prog : Program} {w : World} {A : Around} {E : Value → Shared → Prop} {s : Shared} {g : Heap} {Q : Value → Shared → Prop}
theorem dict_at {K : Type} [DecidableEq K] {knd : KeyKind prog w K} {h : Heap} {a : Addr} {kvs : List (K × Value)} (x : h.DictOf knd a kvs) : ∃ o, h.get? a = some o := let ⟨o, _, _, ho, _⟩ := x; ⟨o, ho⟩
theorem list_at {h : Heap} {a : Addr} {its : Array Value} (x : h.IsList a its) : ∃ o, h.get? a = some o := let ⟨o, ho, _⟩ := x; ⟨o, ho⟩
theorem dict_lt {K : Type} [DecidableEq K] {knd : KeyKind prog w K} {h : Heap} {a : Addr} {kvs : List (K × Value)} (x : h.DictOf knd a kvs) : a < h.objs.size := let ⟨_, _, _, ho, _⟩ := x; Heap.lt_size ho
theorem dict_noTup {K : Type} [DecidableEq K] {knd : KeyKind prog w K} {h : Heap} {a : Addr} {kvs : List (K × Value)} (x : h.DictOf knd a kvs) : ∀ o, h.get? a = some o → ¬ IsT o := by
  obtain ⟨o, _, _, ho, hc, _⟩ := x
  intro o' ho' e
  rw [ho] at ho'; cases ho'
  have z := e.1
  rw [hc.1] at z; exact absurd z (by decide)
theorem list_lt {h : Heap} {a : Addr} {its : Array Value} (x : h.IsList a its) : a < h.objs.size := let ⟨_, ho, _⟩ := x; Heap.lt_size ho
theorem list_noTup {h : Heap} {a : Addr} {its : Array Value} (x : h.IsList a its) : ∀ o, h.get? a = some o → ¬ IsT o := by
  obtain ⟨o, ho, hc, _⟩ := x
  intro o' ho' e
  rw [ho] at ho'; cases ho'
  have z := e.1
  rw [hc] at z; exact absurd z (by decide)
theorem list_ne_dict {K : Type} [DecidableEq K] {knd : KeyKind prog w K} {h : Heap} {a b : Addr} {kvs : List (K × Value)} {its : Array Value} (x : h.IsList a its) (y : h.DictOf knd b kvs) : a ≠ b := by
  rintro rfl
  obtain ⟨o, ho, hc, _⟩ := x
  obtain ⟨o', _, _, ho', hc', _⟩ := y
  rw [ho] at ho'; cases ho'
  have z := hc'.1
  rw [hc] at z; exact absurd z (by decide)
theorem isList_at {h h' : Heap} {a : Addr} {its : Array Value} (x : h.IsList a its) (k : ∀ o, h.get? a = some o → h'.get? a = some o) : h'.IsList a its := let ⟨o, ho, r⟩ := x; ⟨o, k o ho, r⟩
theorem kp_list {S : Addr → Prop} {h h' : Heap} {a : Addr} {its : Array Value} (k : Kp S h h') (x : h.IsList a its) (n : ¬ S a) : h'.IsList a its := isList_at x fun o e => k.keep a o e n

theorem dictItem {value slice : PySem.Expr} {d : Addr} {kvs : List (Str × Value)} {x : Str} {t : Tok} {v : Value} (hd : s.heap.DictOf (strKind prog w) d kvs) (hv : valueAt kvs x = some v) (h : Q v { s with toks := s.toks + 1 })
    (hs : subscripted slice false (.ref d) (.str x t) = operate [.ref d, .str x t] (getItem (.ref d) (.str x t)) := by with_unfolding_all rfl) :
    wpAny (model prog w) A (subscriptTail value slice (.ref d) (.str x t)) Q E s :=
  tail_any hd.typeIs slot_dict_getitem.lookup (wpAny_getItem_of (knd := strKind prog w) (k := x) (strKind_is prog w x t) hd.mapOf hv h) hs
theorem listItem {value slice : PySem.Expr} {l : Addr} {its : Array Value} {k : Int} {u : Tok} {v : Value} (hl : s.heap.IsList l its) (h0 : 0 ≤ k) (hhi : k < 2 ^ 63) (hx : its[k.toNat]? = some v) (h : Q v s)
    (hs : subscripted slice false (.ref l) (.int k u) = operate [.ref l, .int k u] (getItem (.ref l) (.int k u)) := by with_unfolding_all rfl) :
    wpAny (model prog w) A (subscriptTail value slice (.ref l) (.int k u)) Q E s :=
  tail_any hl.typeIs slot_list_getitem.lookup (wpAny_getItem_list hl h0 hhi hx h) hs
end

theorem itT {P R : Prop} {b : Bool} (hb : b = true) (h : P) : if b = true then P else R := by rw [if_pos hb]; exact h
theorem itF {P R : Prop} {b : Bool} (hb : b = false) (h : R) : if b = true then P else R := by rw [if_neg (by rw [hb]; decide)]; exact h
theorem lenList {prog : Program} {w : World} {A : Around} {E : Value → Shared → Prop} {s : Shared} {Q : Value → Shared → Prop} {l : Addr} {its : Array Value} {n : Int} (hl : s.heap.IsList l its) (hn : (its.size : Int) = n) (hfit : n < 2 ^ 63)
    (h : ∀ t tk, Q (.int n t) { s with toks := tk }) : wpAny (model prog w) A (call (.builtin "len") [.ref l]) Q E s := by
  subst hn; exact call_len_list hl hfit (h _ _)

section
variable {α : Type} {M : Model} {A : Around} {t : Sem α} {P : α → Shared → Prop} {E : Value → Shared → Prop} {s : Shared}
/-- what comes behind is put into a box: the walk's terms stay small -/
theorem bx (h : ∀ Q : α → Shared → Prop, (∀ v s', P v s' → Q v s') → wpAny M A t Q E s) : wpAny M A t P E s := h P fun _ _ x => x
theorem bxE {Q : α → Shared → Prop} {v : α} (h : ∀ v s', P v s' → Q v s') (p : P v s) : Q v s := h v s p
end
/-! the names of the text, and what they are -/
noncomputable def gtab : List (Str × Addr) := [("_law_draw", 190), ("_law_is_kept", 220), ("_law_put", 200), ("_law_term", 205), ("_law_count", 210), ("_law_height", 215), ("_law_drawn", 195), ("_law_box", 183), ("_law_taken_right", 225), ("Bank", 174), ("is_op", 67), ("parts", 72), ("TermFault", 60), ("law", 230)]
noncomputable def btab : List (Str × Value) := [("len", .builtin "len"), ("tuple", .type "tuple"), ("max", .builtin "max"), ("sum", .builtin "sum"), ("range", .type "range"), ("enumerate", .type "enumerate"), ("sorted", .builtin "sorted"), ("list", .type "list"), ("int", .type "int")]
noncomputable def bORt (v : Value) : Bool := match v with | .builtin _ | .type _ => true | _ => false
theorem gt_all (w : World) : gtab.map (fun p => (nsIn (KF w) mainGlobals p.1, keepIn (KF w) (.ref p.2))) = gtab.map fun p => (some (some (.ref p.2)), true) := by kernel_rfl
theorem bt_all (w : World) : btab.map (fun p => (nsIn (KF w) mainGlobals p.1, bootBuiltins p.1, bORt p.2)) = btab.map fun p => (some none, some p.2, true) := by kernel_rfl
theorem of_tab {β γ : Type} {f g : Str × β → γ} {x : Str} {r : β} : ∀ {l : List (Str × β)}, l.map f = l.map g → l.lookup x = some r → f (x, r) = g (x, r)
  | [], _, e => by cases e
  | (y, u) :: l, h, e => by
    rw [List.map_cons, List.map_cons] at h
    injection h with h1 h2
    rw [List.lookup_cons] at e
    cases q : x == y with
    | true => rw [q] at e; cases e; rw [eq_of_beq q]; exact h1
    | false => rw [q] at e; exact of_tab h2 e
theorem gt (w : World) {x : Str} {f : Addr} (e : gtab.lookup x = some f) : nsIn (KF w) mainGlobals x = some (some (.ref f)) ∧ keepIn (KF w) (.ref f) = true := by
  have h := of_tab (gt_all w) e
  exact ⟨congrArg Prod.fst h, congrArg Prod.snd h⟩
theorem bt (w : World) {x : Str} {v : Value} (e : btab.lookup x = some v) : nsIn (KF w) mainGlobals x = some none ∧ bootBuiltins x = some v ∧ bORt v = true := by
  have h := of_tab (bt_all w) e
  exact ⟨congrArg Prod.fst h, congrArg (fun z => z.2.1) h, congrArg (fun z => z.2.2) h⟩
theorem kn_tf (w : World) : nsIn (KF w) mainGlobals "TermFault" = some (some (.ref 60)) := (gt w (by rfl)).1
theorem kk_tf (w : World) : keepIn (KF w) (.ref 60) = true := (gt w (x := "TermFault") (by rfl)).2
theorem kn_law (w : World) : nsIn (KF w) mainGlobals "law" = some (some (.ref 230)) := (gt w (by rfl)).1
theorem of4 {α β γ δ : Type} {a a' : α} {b b' : β} {c c' : γ} {d d' : δ} (h : (a, b, c, d) = (a', b', c', d')) : a = a' ∧ b = b' ∧ c = c' ∧ d = d' := by simpa using h
section
variable {M : Model} {w : World} {A : Around} {E : Value → Shared → Prop} {s : Shared} {g : Heap} {env : Env} {x : Str} {pos : Pos} {v : Value} {Q : Value → Shared → Prop} {c : Addr} {S : Addr → Prop} {h₀ : Heap} {L : Addr} {l : List (Str × Value)}
/-- a name: a local one, a cell, a free one, one of the text's, a builtin -/
theorem nL (B : Bd g S h₀ L l s.heap) (hv : mp l x = some v) (h : Q v s) (hs : (env.locals, env.scope.kind, env.kindOf x, x == ("__debug__" : Str)) = (L, .function, some .local, false)) : wpAny M A (eval (.Name x pos) env) Q E s := by
  obtain ⟨hL, hk, hl, hd⟩ := of4 hs
  subst hL
  obtain ⟨m, hn, hm⟩ := B.ns
  exact wpAny_Name (wpAny_loadName_local hk hl hn (hm _ _ hv) h) hd
theorem nC (hs : (env.cells.lookup x, env.scope.kind, env.kindOf x, x == ("__debug__" : Str)) = (some c, .function, some .cell, false)) (hv : s.heap.IsCell c (some v)) (h : Q v s) : wpAny M A (eval (.Name x pos) env) Q E s := by
  obtain ⟨hc, hk, hl, hd⟩ := of4 hs
  exact wpAny_Name (wpAny_loadName_cell hk hl hc hv h) hd
theorem nF (hs : (env.cells.lookup x, env.scope.kind, env.kindOf x, x == ("__debug__" : Str), x == ("__classdict__" : Str)) = (some c, .function, some .free, false, false)) (hv : s.heap.IsCell c (some v)) (h : Q v s) : wpAny M A (eval (.Name x pos) env) Q E s := by
  obtain ⟨hc, hk, hl, hd⟩ := of4 hs
  obtain ⟨hd, hn⟩ := Prod.mk.inj hd
  exact wpAny_Name (wpAny_loadName_free hk hl hc hv h hn) hd
theorem nG {f : Addr} (W : Wd w g) (B : Bd g S h₀ L l s.heap) (e : gtab.lookup x = some f) (h : Q (.ref f) s) (hs : (env.scope.kind, env.kindOf x, env.globals, x == ("__debug__" : Str)) = (.function, some .globalImplicit, mainGlobals, false)) : wpAny M A (eval (.Name x pos) env) Q E s := by
  obtain ⟨hk, hx, hg, hd⟩ := of4 hs
  obtain ⟨mg, mb, T⟩ := W.T
  exact Name_function_global hk hx (loadGlobal_global (hg ▸ T.g.keeps B.st.stays) (mg_of W.X T.g (gt w e).1) h) hd
theorem nB (W : Wd w g) (B : Bd g S h₀ L l s.heap) (e : btab.lookup x = some v) (h : Q v s) (hs : (env.scope.kind, env.kindOf x, env.globals, env.builtins, x == ("__debug__" : Str), x == ("__name__" : Str)) = (.function, some .globalImplicit, mainGlobals, builtinsNs, false, false)) :
    wpAny M A (eval (.Name x pos) env) Q E s := by
  obtain ⟨hk, hx, hg, hs⟩ := of4 hs
  obtain ⟨hb, hs⟩ := Prod.mk.inj hs
  obtain ⟨hd, hn⟩ := Prod.mk.inj hs
  obtain ⟨mg, mb, T⟩ := W.T
  exact Name_function_global hk hx (loadGlobal_builtin (hg ▸ T.g.keeps B.st.stays) (mg_none_of W.X T.g (bt w e).1) (hb ▸ T.b.keeps B.st.stays) ((T.builtins x (fun q => by rw [q] at hn; exact absurd hn (by decide))).trans (bt w e).2.1) h) hd
/-- an argument that is a local name -/
theorem iL {rest : List PySem.Expr} {p : Pos} {Q : List Value → Shared → Prop} (B : Bd g S h₀ L l s.heap) (hv : mp l x = some v) (h : wpAny M A (spliced (backTo p (starEach rest env))) (fun vs s₂ => Q (v :: vs) s₂) E s)
    (hs : (env.locals, env.scope.kind, env.kindOf x, x == ("__debug__" : Str)) = (L, .function, some .local, false)) : wpAny M A (spliced (backTo p (starEach (.Name x pos :: rest) env))) Q E s := wpAny_items_cons (nL B hv h hs) (by rfl)
end
section
variable {prog : Program} {w : World} {A : Around} {E : Value → Shared → Prop} {s : Shared} {g : Heap} {env : Env} {x : Str} {xp pos : Pos} {v : Value} {Q : Value → Shared → Prop} {c : Addr} {S : Addr → Prop} {h₀ : Heap} {L : Addr} {l : List (Str × Value)} {args : List PySem.Expr}
theorem cw_bt {first : List Value} (hv : bORt v = true) (h : wpAny (model prog w) A (spliced (backTo pos (starEach args env))) (fun vs s₁ => wpAny (model prog w) A (call v (first ++ vs)) Q E s₁) E s)
    (hp : (backTo pos (starEach args env)).any (·.1) = false) : wpAny (model prog w) A (callWith pos v first (backTo pos (starEach args env)) []) Q E s := by
  cases v with
  | builtin id => exact cwB h hp
  | type T => exact cwT h hp
  | _ => cases hv
/-- a call by a name: a def or class of the text, a builtin -/
theorem gK {f : Addr} (W : Wd w g) (B : Bd g S h₀ L l s.heap) (e : gtab.lookup x = some f) (h : wpAny (model prog w) A (spliced (backTo pos (starEach args env))) (fun vs s₁ => (KF w).In s₁.heap ∧ wpAny (model prog w) A (call (.ref f) vs) Q E s₁) E s)
    (hs : (env.scope.kind, env.kindOf x, env.globals, x == ("__debug__" : Str), (backTo pos (starEach args env)).any (·.1)) = (.function, some .globalImplicit, mainGlobals, false, false)) :
    wpAny (model prog w) A (eval (.Call (.Name x xp) args [] pos) env) Q E s := by
  obtain ⟨hk, hx, hg, hs⟩ := of4 hs
  obtain ⟨hd, hp⟩ := Prod.mk.inj hs
  refine Call_ (nG W B e ?_ (by rw [hk, hx, hg, hd])) (by rfl)
  exact cwK (first := []) (gt w e).2 h hp
theorem gB (W : Wd w g) (B : Bd g S h₀ L l s.heap) (e : btab.lookup x = some v) (h : wpAny (model prog w) A (spliced (backTo pos (starEach args env))) (fun vs s₁ => wpAny (model prog w) A (call v vs) Q E s₁) E s)
    (hs : (env.scope.kind, env.kindOf x, env.globals, env.builtins, x == ("__debug__" : Str), x == ("__name__" : Str), (backTo pos (starEach args env)).any (·.1)) = (.function, some .globalImplicit, mainGlobals, builtinsNs, false, false, false)) :
    wpAny (model prog w) A (eval (.Call (.Name x xp) args [] pos) env) Q E s := by
  obtain ⟨hk, hx, hg, hs⟩ := of4 hs
  obtain ⟨hb, hs⟩ := Prod.mk.inj hs
  obtain ⟨hd, hs⟩ := Prod.mk.inj hs
  obtain ⟨hn, hp⟩ := Prod.mk.inj hs
  refine Call_ (nB W B e ?_ (by rw [hk, hx, hg, hb, hd, hn])) (by rfl)
  exact cw_bt (first := []) (bt w e).2.2 h hp
end
/-! steps whose state is written out: it stays flat -/
section
variable {prog : Program} {w : World} {M : Model} {A : Around} {E : Value → Shared → Prop} {env : Env} {sh : Heap} {sg : Array GenState} {sd : Drawn} {sk : Nat} {so : OsState} {Q : Value → Shared → Prop} {k : Nat} {pos : Pos} {i a b : Int} {t u : Tok} {x : Str} {v : Value}
theorem cInt (h : Q (.int i sk) ⟨sh, sg, sd, sk.succ, so⟩) : wpAny M A (eval (.Constant (.int i) k pos) env) Q E ⟨sh, sg, sd, sk, so⟩ := wpAny_Constant_int h
theorem cStr (h : Q (.str x sk) ⟨sh, sg, sd, sk.succ, so⟩) : wpAny M A (eval (.Constant (.str x) k pos) env) Q E ⟨sh, sg, sd, sk, so⟩ := wpAny_Constant_str h
theorem negI (h : Q (.int (-a) sk) ⟨sh, sg, sd, sk.succ, so⟩) : wpAny (model prog w) A (unaryOp .USub (.int a t)) Q E ⟨sh, sg, sd, sk, so⟩ := PySem.P.neg_int h
theorem addI (h : Q (.int (a + b) sk) ⟨sh, sg, sd, sk.succ, so⟩) : wpAny (model prog w) A (binaryOp .Add (.int a t) (.int b u)) Q E ⟨sh, sg, sd, sk, so⟩ := PyProof.Rows.add_int h
theorem subI (h : Q (.int (a - b) sk) ⟨sh, sg, sd, sk.succ, so⟩) : wpAny (model prog w) A (binaryOp .Sub (.int a t) (.int b u)) Q E ⟨sh, sg, sd, sk, so⟩ := PyProof.Rows.sub_int h
theorem mulI (h : Q (.int (a * b) sk) ⟨sh, sg, sd, sk.succ, so⟩) (hm : IntMulOk a b) : wpAny (model prog w) A (binaryOp .Mult (.int a t) (.int b u)) Q E ⟨sh, sg, sd, sk, so⟩ := PyProof.Rows.mul_int h hm
theorem sLf {g h₀ : Heap} {S : Addr → Prop} {L : Addr} {l : List (Str × Value)} {Q : Unit → Shared → Prop} (B : Bd g S h₀ L l sh) (h : ∀ h', Bd g S h₀ L ((x, v) :: l) h' → Heap.SameBut L sh h' → Q () ⟨h', sg, sd, sk.succ, so⟩) (hL : env.locals = L := by rfl)
    (hl : env.kindOf x = some .local := by rfl) (hp : (env.scope.kind == .class || (env.scope.kind == .module && env.locals != env.globals)) = false := by rfl) : wpAny M A (storeName env x v) Q E ⟨sh, sg, sd, sk, so⟩ := sL B h hL hl hp
end

-- MACROS BEGIN
local macro_rules | `(tactic| walk_at "cv") => `(tactic| assumption)
local macro_rules | `(tactic| walk_at "x") => `(tactic| fail)
local macro_rules | `(tactic| walk_at "s") => `(tactic| with_reducible first
  | refine' iL (by assumption) (by k_dflt rfl) ?_ (by k_dflt rfl)
  | refine wpAny_items_cons ?_ (by k_dflt rfl)
  | refine wpAny_items_nil ?_
  | refine' nL (by assumption) (by k_dflt rfl) ?_ (by k_dflt rfl)
  | refine' nC (by k_dflt rfl) (by walk_at "cv") ?_
  | refine' nF (by k_dflt rfl) (by walk_at "cv") ?_
  | refine cInt ?_
  | refine cStr ?_
  | walk_at "x"
  | refine' gK (by assumption) (by assumption) (by k_dflt rfl) ?_ (by k_dflt rfl)
  | refine' gB (by assumption) (by assumption) (by k_dflt rfl) ?_ (by k_dflt rfl)
  | refine' nG (by assumption) (by assumption) (by k_dflt rfl) ?_ (by k_dflt rfl)
  | refine' nB (by assumption) (by assumption) (by k_dflt rfl) ?_ (by k_dflt rfl)
  | refine wpAny_Constant_bool ?_
  | refine wpAny_Constant_none ?_
  | refine MethodCall_ ?_ (by k_dflt rfl)
  | refine Call_ ?_ (by k_dflt rfl)
  | refine wpAny_BinOp ?_
  | refine wpAny_Compare1 ?_ (by k_dflt rfl)
  | refine Subscript_ ?_
  | refine PyProof.Rows.List_ ?_
  | refine PyProof.Rows.Tuple_ ?_
  | (refine wpAny_execs_cons ?_; (try dsimp only); (try k_gentoks); refine bx fun _ _ => ?_)
  | refine wpAny_execs_nil ?_
  | refine wpAny_Assign_Name ?_ (by k_dflt rfl)
  | refine wpAny_Assign_Subscript ?_ (by k_dflt rfl)
  | refine wpAny_If ?_
  | refine wpAny_Return_some ?_
  | refine wpAny_Expr_any ?_ (by k_dflt rfl) (by k_dflt rfl)
  | refine wpAny_isTrue_Compare1 ?_ (by k_dflt rfl)
  | refine cwB ?_ (by k_dflt rfl)
  | refine cwT ?_ (by k_dflt rfl)
  | refine PyProof.Rows.lt_int ?_
  | refine PyProof.Rows.gt_int ?_
  | refine PyProof.Rows.ge_int ?_
  | refine PyProof.Rows.le_int ?_
  | refine PyProof.Rows.eq_int ?_
  | refine PyProof.Rows.ne_int ?_
  | refine addI ?_
  | refine subI ?_
  | refine mulI ?_ (by first | exact IntMulOk.of_right (intBits_le_64 (by omega) (by omega)) | exact IntMulOk.of_left (intBits_le_64 (by omega) (by omega)))
  | refine' sLf (by assumption) ?_ (by k_dflt rfl) (by k_dflt rfl) (by k_dflt rfl)
  | refine wpAny_truthy_bool ?_
  | k_dflt refine ⟨(Wd.X (by assumption)).keeps (Bd.st (by assumption)).stays, ?_⟩
  | (refine bxE (by assumption) ?_; first | walk_at "s" | skip))
local macro_rules | `(tactic| walk_at "r") => `(tactic| ((try dsimp only); repeat walk_at "s"))
local macro_rules | `(tactic| walk_at "z") => `(tactic| ((try with_reducible refine bxE (by assumption) ?_); refine wpAny_execs_nil ?_))
local macro_rules | `(tactic| walk_at "q") => `(tactic| repeat (with_reducible refine bxE (by assumption) ?_))
local macro_rules | `(tactic| walk_at "n") => `(tactic| ((try with_reducible refine bxE (by assumption) ?_); show wpAny _ _ (execs _ _) _ _ _))
-- MACROS END
section
variable {h h' : Heap} {S : Addr → Prop}
theorem cell_kp {c : Addr} {v : Option Value} (x : h.IsCell c v) (k : Kp S h h') (n : ¬ S c) : h'.IsCell c v := let ⟨o, ho, hd⟩ := x; ⟨o, k.keep c o ho n, hd⟩
theorem cell_at {c : Addr} {v : Option Value} (x : h.IsCell c v) : ∃ o, h.get? c = some o := let ⟨o, ho, _⟩ := x; ⟨o, ho⟩
theorem mp_again (x : Str) (v u : Value) : mp [(x, v), (x, u)] = mp [(x, v)] := by
  funext y
  unfold mp
  simp only [List.lookup_cons, List.lookup_nil]
  cases y == x <;> rfl
theorem bindL_mp (k : Str → Option NameKind) : ∀ (b l : List (Str × Value)), bindL k b (mp l) = mp ((b.filter fun y => decide (k y.1 = some .local)).reverse ++ l)
  | [], _ => rfl
  | (n, v) :: r, l => by
    unfold bindL
    by_cases hk : k n = some .local
    · rw [if_pos hk, mp_cons, bindL_mp k r]; simp [hk]
    · rw [if_neg hk, bindL_mp k r]; simp [hk]
theorem mp_nil : mp [] = fun _ => none := rfl
end

section
variable {prog : Program} {w : World} {A : Around} {E : Value → Shared → Prop} {s : Shared} {g : Heap}
  {name qual : Str} {params : Arguments} {body : List Stmt} {scope : Scope} {dV kV doc pm cdv ct oc : Value} {an od : Option Addr} {osl : Array (Option Value)} {f : Addr} {S : Addr → Prop} {pos : List Value} {kw : List (Str × Value)} {binds l : List (Str × Value)} {Q : Value → Shared → Prop}
/-- a call of a def with cells that raises nothing -/
theorem callFC (W : Wd w g) (st : Kp0 g s.heap) (ho : (KF w).lookup f = some ⟨oc, od, .func (fnOf name qual params body scope dV kV doc pm an cdv ct), osl⟩) (hcd : codeIn (KF w) cdv qual = true)
    (hroom : A.depth < recursionLimit) (hbind : BindsTo s (fnOf name qual params body scope dV kV doc pm an cdv ct) ⟨pos, kw⟩ binds)
    (hkind : (binds.all fun y => scope.names.lookup y.1 == some .local || scope.names.lookup y.1 == some .cell) = true)
    (el : (binds.filter fun y => decide ((envOfC qual scope 0 f cdv).kindOf y.1 = some .local)).reverse = l)
    (far : ∀ a, S a → g.get? a = none)
    (h : ∀ h₁ L tk, Bd g S s.heap L l h₁ → Kp0 s.heap h₁ → s.heap.get? L = none → (∀ n c, (cellsFrom (L + 1) scope.names []).lookup n = some c → h₁.IsCell c (bindC (envOfC qual scope L f cdv).kindOf binds (fun _ => none) n) ∧ s.heap.get? c = none ∧ c ≠ L) →
      wpAny (model prog w) (A.deeper (envOfC qual scope L f cdv)) (execs body (envOfC qual scope L f cdv)) (fun fl s' => Q (match fl with | .ret v => v | _ => .none) s') (fun _ _ => False) { s with heap := h₁, toks := tk })
    (hco : scope.isCoroutine = false := by rfl) (hgen : scope.isGenerator = false := by rfl) (hk : scope.kind = .function := by rfl) :
    wpAny (model prog w) A (call (.ref f) pos kw) Q E s := by
  obtain ⟨mg, mb, T⟩ := W.T
  refine wpAny_call (codeAny_call_function (fd := fnOf name qual params body scope dV kV doc pm an cdv ct) hroom ((W.X.keeps st.stays) _ _ ho) rfl hco hgen rfl (codeRec_of (W.X.keeps st.stays) hcd) (hbind _ _ _ _ ?_))
  refine wpAny_newFunctionEnv_cells hk (kindsX hkind _) fun env' he s' x => ?_
  subst he
  obtain ⟨h₁, tk, rfl, hk₁⟩ := x.done
  have e : bindL (envOfC qual scope s.heap.objs.size f cdv).kindOf binds (fun _ => none) = mp l := by
    have := bindL_mp (envOfC qual scope s.heap.objs.size f cdv).kindOf binds []
    rw [mp_nil, List.append_nil] at this
    exact this.trans (congrArg mp el)
  refine ⟨(T.nolimit.keeps st.stays).keeps hk₁, codeAny_func (wpAny_mono (h h₁ s.heap.objs.size tk ⟨⟨_, e ▸ x.toInCall.ns, fun _ _ e => e⟩, Kp.of_stays hk₁, st.trans (.of_stays hk₁), st, .inl (fresh_size _), far⟩ (.of_stays hk₁) (fresh_size _) fun n c hc => ⟨x.cell n c hc, ?_, ?_⟩) (fun _ _ q => q) fun _ _ q => q.elim)⟩
  · have hlt := x.above n c (mem_of_lookup hc)
    exact Heap.get?_none_of_le (Nat.le_of_lt hlt)
  · exact Nat.ne_of_gt (x.above n c (mem_of_lookup hc))
end

section
variable {prog : Program} {w : World} {A : Around} {E : Value → Shared → Prop} {env : Env}

/-- what the element of a list comprehension does, turn by turn -/
structure LcBody (prog : Program) (w : World) (A : Around) (env : Env) (scope : Scope) (cl : List (Str × Addr)) (x : Str) (elt : PySem.Expr) (g : Heap) (S : Addr → Prop) (fp wr : List Addr) (n : Nat) (P : Nat → Value → Prop)
    (St : Nat → Heap → Prop) (Inv : Nat → List Value → Heap → Prop) (s₂ : Shared) : Prop where
  st : Kp0 g s₂.heap
  farS : ∀ a, S a → g.get? a = none
  farW : ∀ b ∈ wr, g.get? b = none
  live : ∀ b ∈ fp, ∃ o, s₂.heap.get? b = some o
  liveS : ∀ a, S a → ∃ o, s₂.heap.get? a = some o
  nt : ∀ i h, St i h → ∀ b ∈ wr, ∀ o, h.get? b = some o → ¬ IsT o
  apart : ∀ b ∈ fp, ¬ S b
  inv0 : Inv 0 [] s₂.heap
  stab : ∀ i ys h h', Inv i ys h → Kp (fun a => a ∈ wr ∨ s₂.heap.get? a = none) h h' → Inv i ys h'
  step : ∀ C i v ys (s₃ : Shared) E', i < n → P i v → Inv i ys s₃.heap → Bd g (fun a => S a ∨ a ∈ wr) s₂.heap C [(x, v)] s₃.heap → s₂.heap.get? C = none → (∃ h tk, s₃ = { s₂ with heap := h, toks := tk }) →
    wpAny (model prog w) A (eval elt (compEnvC scope cl C env)) (fun y s₄ => ∃ h' tk', s₄ = { s₂ with heap := h', toks := tk' } ∧ Kp S s₃.heap h' ∧ Inv (i + 1) (ys ++ [y]) h') E' s₃

theorem lcR {s : Shared} {elt iter : PySem.Expr} {x : Str} {px : Pos} {scope : Scope} {cl : List (Str × Addr)} {pos : Pos} {Q : Value → Shared → Prop} {g : Heap} {S : Addr → Prop}
    (hclos : closureFor scope env = pure cl) (hcell : ∀ y ∈ scope.names, y.2 ≠ .cell) (hkind : scope.kind = .function)
    (hnames : ∀ y ∈ scope.names, y.2 = .local → scope.names.lookup y.1 = some .local) (hx : scope.names.lookup x = some .local)
    (h : wpAny (model prog w) A (eval iter env) (fun xv s₁ => wpAny (model prog w) A (pyIter xv) (fun it s₂ => ∃ I fp wr n P St Inv, it = .ref I ∧ Walks prog w A I fp wr n P St ∧ n ≤ sizeLine ∧ St 0 s₂.heap ∧
      LcBody prog w A env scope cl x elt g S fp wr n P St Inv s₂ ∧
      (∀ D ys h' tk, s₂.heap.get? D = none → h'.IsList D (List.toArray ys) → ys.length = n → Inv n ys h' → Kp (fun a => S a ∨ a ∈ wr) s₂.heap h' → Q (.ref D) { s₂ with heap := h', toks := tk })) E s₁) E s)
    (hs : ∀ x, foldedSetIterable iter env x = pure x := by intro _; rfl) :
    wpAny (model prog w) A (eval (.ListComp elt [⟨.Name x px, iter, [], 0⟩] scope pos) env) Q E s := by
  rw [eval_ListComp]
  refine wpAny_comprehension_free (use := none) rfl hs hclos hkind hnames (wpAny_mono h (fun xv s₁ h₁ => wpAny_mono h₁ (fun it s₂ h₂ => ?_) fun _ _ e => e) fun _ _ e => e)
  obtain ⟨I, fp, wr, n, P, St, Inv, rfl, W, hsz, hst, LB, fin⟩ := h₂
  refine wpAny_newObj_type (wpAny_newFunctionEnv hcell (by intro y hy; simp at hy) (fun h₁ hns₁ hsb₁ => ?_) hkind)
  dsimp only at hns₁ hsb₁ ⊢
  generalize hH2 : s₂.heap.push { cls := .type "list", dict := none, data := .seq ([] : List Value).toArray } = H2 at hns₁ hsb₁ ⊢
  have hC : H2.objs.size = s₂.heap.objs.size + 1 := by rw [← hH2, Heap.size_push]
  generalize hDe : s₂.heap.objs.size = D at hC
  generalize hCe : H2.objs.size = C at hC hns₁ hsb₁
  have hDn : s₂.heap.get? D = none := hDe ▸ fresh_size _
  have hCn : s₂.heap.get? C = none := Heap.get?_none_of_le (by omega)
  have hDC : D ≠ C := by omega
  have old : ∀ b o, s₂.heap.get? b = some o → h₁.get? b = some o := fun b o e => hsb₁.extBut b o (fun q => by rw [q, hCn] at e; cases e) (Heap.get?_push_of_some _ (hH2 ▸ Heap.get?_push_of_some _ e))
  have hacc : h₁.IsList D #[] := ⟨_, hsb₁.extBut _ _ hDC (Heap.get?_push_of_some _ (hH2 ▸ hDe ▸ Heap.get?_push_size _ rfl)), rfl, _, rfl⟩
  have hCf : C ∉ fp := fun q => by obtain ⟨o, ho⟩ := LB.live C q; rw [hCn] at ho; cases ho
  have hDf : D ∉ fp := fun q => by obtain ⟨o, ho⟩ := LB.live D q; rw [hDn] at ho; cases ho
  have hCw : C ∉ wr := fun q => hCf (W.sub _ q)
  have hDw : D ∉ wr := fun q => hDf (W.sub _ q)
  have hCS : ¬ S C := fun q => by obtain ⟨o, ho⟩ := LB.liveS C q; rw [hCn] at ho; cases ho
  have hDS : ¬ S D := fun q => by obtain ⟨o, ho⟩ := LB.liveS D q; rw [hDn] at ho; cases ho
  have B₁ : Bd g (fun a => S a ∨ a ∈ wr) s₂.heap C [] h₁ := ⟨⟨_, hns₁, fun _ _ e => by cases e⟩, Kp.of_stays old, LB.st.trans (.of_stays old), LB.st, .inl hCn, fun a q => q.elim (LB.farS a) (LB.farW a)⟩
  have hxl : (compEnvC scope cl C env).kindOf x = some .local := lookup_relabel_local hx
  have loop : ∀ s₃ : Shared, s₃ = { s₂ with heap := h₁, toks := s₂.toks + ([] : List (Str × Value)).length } →
      codeAny (model prog w) A (.compLoop (.ListComp elt [⟨.Name x px, iter, [], 0⟩] scope pos) 0 (.ref I) (.ref D) (compEnvC scope cl C env)) (compPost (model prog w) A E none Q (.ref D) C) s₃ := by
    rintro s₃ rfl
    refine codeAny_compLoop_list (fun k s' => ∃ h' tk i ys, s' = { s₂ with heap := h', toks := tk } ∧ i ≤ n ∧ k = n + 1 - i ∧ St i h' ∧ Inv i ys h' ∧ ys.length = i ∧ h'.IsList D (List.toArray ys) ∧
        Bd g (fun a => S a ∨ a ∈ wr) s₂.heap C [] h') ?_ (n + 1)
      ⟨h₁, _, 0, [], rfl, Nat.zero_le _, rfl, W.frame _ _ _ hst fun b _ o e => old b o e, LB.stab _ _ _ _ LB.inv0 (Kp.of_stays old), rfl, hacc, B₁⟩
    rintro k s' ⟨H, tk, i, ys, rfl, hi, rfl, hstH, hInv, hlen, hD, B⟩
    by_cases hlt : i < n
    · refine W.item i _ _ _ hlt hstH fun v h₂ tk₂ hP st₂ hk₂ => ?_
      have k₂ : Kp (fun a => a ∈ wr) H h₂ := ⟨fun a o e q => hk₂ a o q e, fun a o e c => hk₂ a o (fun q => LB.nt i H hstH a q o e c) e⟩
      replace B := B.step k₂ fun a q => ⟨.inl (.inr q), fun z => hCw (z ▸ q)⟩
      replace hD : h₂.IsList D (List.toArray ys) := kp_list k₂ hD hDw
      replace hInv := LB.stab _ _ _ _ hInv (k₂.mono fun a q => .inl q)
      obtain ⟨mB, hnB, hmB⟩ := B.ns
      refine wpAny_assign_Name (wpAny_storeName_local hxl hnB (fun h₃ hn₃ hs₃ => ?_) (by show (scope.kind == .class || (scope.kind == .module && _)) = false; rw [hkind]; rfl))
      dsimp only at hn₃ hs₃
      have k₃ : Kp (fun a => a = C) h₂ h₃ := Kp.same hs₃ rfl B.nt
      have B₃ : Bd g (fun a => S a ∨ a ∈ wr) s₂.heap C [(x, v)] h₃ := B.stored hmB hn₃ hs₃
      replace hD : h₃.IsList D (List.toArray ys) := kp_list k₃ hD hDC
      replace hInv := LB.stab _ _ _ _ hInv (k₃.mono fun a q => .inr (q ▸ hCn))
      have st₃ : St (i + 1) h₃ := W.frame _ _ _ st₂ fun b q o e => k₃.keep b o e fun z => hCf (z ▸ q)
      refine wpAny_mono (LB.step C i v ys { s₂ with heap := h₃, toks := tk₂ + 1 } _ hlt hP hInv B₃ hCn ⟨_, _, rfl⟩) (fun y s₄ h₄ => ?_) fun _ _ q => q
      obtain ⟨h₄, tk₄, rfl, k₄, hInv₄⟩ := h₄
      dsimp only at k₄
      have B₄ := B₃.step k₄ fun a q => ⟨.inl (.inl q), fun z => hCS (z ▸ q)⟩
      replace hD : h₄.IsList D (List.toArray ys) := kp_list k₄ hD hDS
      have st₄ : St (i + 1) h₄ := W.frame _ _ _ st₃ fun b q o e => k₄.keep b o e fun z => LB.apart b q z
      refine wpAny_list_append (hsz := by rw [List.size_toArray]; omega) hD fun h₅ hD₅ hs₅ => ?_
      dsimp only at hs₅
      have k₅ : Kp (fun a => a = D) h₄ h₅ := Kp.same hs₅ rfl (list_noTup hD)
      refine ⟨n + 1 - (i + 1), by omega, h₅, tk₄, i + 1, ys ++ [y], rfl, hlt, rfl, W.frame _ _ _ st₄ fun b q o e => k₅.keep b o e fun z => hDf (z ▸ q),
        LB.stab _ _ _ _ hInv₄ (k₅.mono fun a q => .inr (q ▸ hDn)), by simp [hlen], by simpa using hD₅, (B₄.step k₅ fun a q => ⟨.inr (q ▸ hDn), fun z => hDC (q ▸ z)⟩).pop rfl⟩
    · obtain rfl : i = n := by omega
      refine W.done _ _ _ hstH fun h₂ tk₂ hk₂ => ?_
      have k₂ : Kp (fun a => a ∈ wr) H h₂ := ⟨fun a o e q => hk₂ a o q e, fun a o e c => hk₂ a o (fun q => LB.nt i H hstH a q o e c) e⟩
      replace B := B.step k₂ fun a q => ⟨.inl (.inr q), fun z => hCw (z ▸ q)⟩
      replace hD : h₂.IsList D (List.toArray ys) := kp_list k₂ hD hDw
      replace hInv := LB.stab _ _ _ _ hInv (k₂.mono fun a q => .inl q)
      obtain ⟨mB, hnB, hmB⟩ := B.ns
      refine ⟨_, hnB, fun h₃ hs₃ => ?_⟩
      dsimp only at hs₃
      have k₃ : Kp (fun a => a = C) h₂ h₃ := Kp.same hs₃ rfl B.nt
      exact fin D ys h₃ _ hDn (kp_list k₃ hD hDC) hlen (LB.stab _ _ _ _ hInv (k₃.mono fun a q => .inr (q ▸ hCn)))
        (B.kp.then k₃ fun a o e q => by rw [q, hCn] at e; cases e)
  exact codeAny_compStart_list (loop _ rfl) (W.self 0 _ _ _ (W.frame _ _ _ hst fun b _ o e => old b o e) (loop _ rfl))
end

section
variable {prog : Program} {w : World} {A : Around} {E : Value → Shared → Prop} {env : Env}

/-- a for loop, its letting go of an owned pair told by hand -/
theorem forGo {R : Result → Shared → Prop} {s : Shared} {target : PySem.Expr} {it : Value} {body orelse : List Stmt} (J : Nat → Shared → Prop)
    (turn : ∀ n s, J n s → wpAny (model prog w) A (pyNext it) (fun r s₁ => match r with
      | none => wpAny (model prog w) A (execs orelse env) (fun f s₃ => R (.ok f) s₃) (notedBy (model prog w) A env fun e s' => R (.error e) s') s₁
      | some v => wpAny (model prog w) A (letOwnedTupleGo target it v) (fun _ s₁' => wpAny (model prog w) A (assign target env v) (fun _ s₂ => wpAny (model prog w) A (execs body env) (fun f s₃ => match f with
          | .next | .cont => ∃ m, m < n ∧ J m s₃
          | .brk => R (.ok .next) s₃
          | .ret v => R (.ok (.ret v)) s₃) (notedBy (model prog w) A env fun e s' => R (.error e) s') s₂) (notedBy (model prog w) A env fun e s' => R (.error e) s') s₁') (notedBy (model prog w) A env fun e s' => R (.error e) s') s₁)
      (notedBy (model prog w) A env fun e s' => R (.error e) s') s)
    (n : Nat) (h : J n s) : codeAny (model prog w) A (.forLoop target it body orelse env) R s := by
  refine codeAny_loop' rfl J (fun n s hJ => ?_) n h
  show wpAny _ _ ((forTurn target it body orelse env).onRaise (fun x => do noteFrame x env; theTreesLotGoes x)) _ _ s
  refine wpAny_noted ?_
  unfold forTurn
  refine wpAny_bind (wpAny_standAt (wpAny_bind (wpAny_onRaise (wpAny_mono (turn n s hJ) (fun r s₁ h₁ => ?_) fun _ _ q => wpAny_standAt q))))
  cases r with
  | none => exact wpAny_pure (.inr ⟨rfl, codeAny_block h₁⟩)
  | some v =>
    refine wpAny_bind (wpAny_mono h₁ (fun _ s₁' h₁' => wpAny_bind (wpAny_mono h₁' (fun _ s₂ h₂ => wpAny_bind (wpAny_mono h₂ (fun f s₃ h₃ => ?_) fun _ _ q => q)) fun _ _ q => q)) fun _ _ q => q)
    cases f with
    | next => exact wpAny_pure (.inl ⟨rfl, h₃⟩)
    | cont => exact wpAny_pure (.inl ⟨rfl, h₃⟩)
    | brk => exact wpAny_pure h₃
    | ret v => exact wpAny_pure h₃

/-- what the body of a for loop does, turn by turn -/
structure FoBody (prog : Program) (w : World) (A : Around) (E : Value → Shared → Prop) (env : Env) (target : PySem.Expr) (body : List Stmt) (fp wr : List Addr) (n : Nat) (P : Nat → Value → Prop)
    (St : Nat → Heap → Prop) (J : Nat → Heap → Prop) (s₂ : Shared) (Q : Flow → Shared → Prop) : Prop where
  nt : ∀ i h, St i h → ∀ b ∈ wr, ∀ o, h.get? b = some o → ¬ IsT o
  j0 : J 0 s₂.heap
  stab : ∀ i h h', J i h → Kp (fun a => a ∈ wr) h h' → J i h'
  turn : ∀ i v (s₃ : Shared), i < n → P i v → St (i + 1) s₃.heap → J i s₃.heap → (∃ h tk, s₃ = { s₂ with heap := h, toks := tk }) →
    wpAny (model prog w) A (assign target env v) (fun _ s₄ => wpAny (model prog w) A (execs body env) (fun f s₅ => match f with
      | .next | .cont => ∃ h' tk', s₅ = { s₂ with heap := h', toks := tk' } ∧ (∀ b ∈ fp, ∀ o, s₃.heap.get? b = some o → h'.get? b = some o) ∧ J (i + 1) h'
      | .brk => Q .next s₅
      | .ret v => Q (.ret v) s₅) (notedBy (model prog w) A env (cameBackBy (model prog w) A env E)) s₄) (notedBy (model prog w) A env (cameBackBy (model prog w) A env E)) s₃
  fin : ∀ h' tk, J n h' → Q .next { s₂ with heap := h', toks := tk }

theorem forR {s : Shared} {target iter : PySem.Expr} {body : List Stmt} {pos : Pos} {Q : Flow → Shared → Prop}
    (h : wpAny (model prog w) A (eval iter env) (fun xv s₁ => wpAny (model prog w) A (pyIter xv) (fun it s₂ => ∃ I fp wr n P St J, it = .ref I ∧ Walks prog w A I fp wr n P St ∧ St 0 s₂.heap ∧
      FoBody prog w A E env target body fp wr n P St J s₂ Q) E s₁) E s)
    (ht : ∀ it v, letOwnedTupleGo target it v = pure () := by intro _ _; rfl) (hs : ∀ x, foldedSetIterable iter env x = pure x := by intro _; rfl) :
    wpAny (model prog w) A (exec (.For target iter body [] pos) env) Q E s := by
  refine wpAny_For (wpAny_mono h (fun xv s₁ h₁ => wpAny_mono h₁ (fun it s₂ h₂ => ?_) fun _ _ q => q) fun _ _ q => q) hs
  obtain ⟨I, fp, wr, n, P, St, J, rfl, W, hst, FB⟩ := h₂
  refine codeAny_forLoop (fun k s' => ∃ h' tk i, s' = { s₂ with heap := h', toks := tk } ∧ i ≤ n ∧ k = n + 1 - i ∧ St i h' ∧ J i h') ?_ (n + 1) ⟨s₂.heap, s₂.toks, 0, rfl, Nat.zero_le _, rfl, hst, FB.j0⟩ (ht _)
  rintro k s' ⟨H, tk, i, rfl, hi, rfl, hstH, hJ⟩
  by_cases hlt : i < n
  · refine W.item i _ _ _ hlt hstH fun v h₂ tk₂ hP st₂ hk₂ => ?_
    have k₂ : Kp (fun a => a ∈ wr) H h₂ := ⟨fun a o e q => hk₂ a o q e, fun a o e c => hk₂ a o (fun q => FB.nt i H hstH a q o e c) e⟩
    refine wpAny_mono (FB.turn i v { s₂ with heap := h₂, toks := tk₂ } hlt hP st₂ (FB.stab _ _ _ hJ k₂) ⟨_, _, rfl⟩) (fun _ s₄ h₄ => wpAny_mono h₄ (fun f s₅ h₅ => ?_) fun _ _ q => q) fun _ _ q => q
    cases f with
    | next => obtain ⟨h', tk', rfl, hf, hJ'⟩ := h₅; exact ⟨n + 1 - (i + 1), by omega, h', tk', i + 1, rfl, hlt, rfl, W.frame _ _ _ st₂ hf, hJ'⟩
    | cont => obtain ⟨h', tk', rfl, hf, hJ'⟩ := h₅; exact ⟨n + 1 - (i + 1), by omega, h', tk', i + 1, rfl, hlt, rfl, W.frame _ _ _ st₂ hf, hJ'⟩
    | brk => exact h₅
    | ret v => exact h₅
  · obtain rfl : i = n := by omega
    refine W.done _ _ _ hstH fun h₂ tk₂ hk₂ => ?_
    have k₂ : Kp (fun a => a ∈ wr) H h₂ := ⟨fun a o e q => hk₂ a o q e, fun a o e c => hk₂ a o (fun q => FB.nt i H hstH a q o e c) e⟩
    exact wpAny_execs_nil (FB.fin h₂ _ (FB.stab _ _ _ hJ k₂))
end

section
variable {prog : Program} {w : World} {A : Around} {E : Value → Shared → Prop} {s : Shared} {Q : Value → Shared → Prop}
theorem listIter_nt {h : Heap} {I l : Addr} {i : Nat} (x : h.IsListIter I l i) : ∀ b ∈ [I], ∀ o, h.get? b = some o → ¬ IsT o := by
  intro b hb o ho q
  rw [List.mem_singleton] at hb; subst hb
  obtain ⟨o', ho', hc, _⟩ := x
  rw [ho] at ho'; cases ho'
  have z := q.1; rw [hc] at z; exact absurd z (by decide)
theorem tupIter_nt {h : Heap} {I l : Addr} {i : Nat} (x : h.IsTupleIter I l i) : ∀ b ∈ [I], ∀ o, h.get? b = some o → ¬ IsT o := by
  intro b hb o ho q
  rw [List.mem_singleton] at hb; subst hb
  obtain ⟨o', ho', hc, _⟩ := x
  rw [ho] at ho'; cases ho'
  have z := q.1; rw [hc] at z; exact absurd z (by decide)
theorem rangeIter_nt {h : Heap} {I : Addr} {a b c : Int} (x : IsRangeIter h I a b c) : ∀ b ∈ [I], ∀ o, h.get? b = some o → ¬ IsT o := by
  intro b hb o ho q
  rw [List.mem_singleton] at hb; subst hb
  have x' : h.get? b = _ := x
  rw [ho] at x'; cases x'
  have z := q.1; exact absurd z (by simp)
end

section
variable {prog : Program} {w : World} {A : Around} {E : Value → Shared → Prop} {s : Shared} {Q : Value → Shared → Prop}
theorem tup_kp {S : Addr → Prop} {h h' : Heap} {a : Addr} {its : Array Value} (x : IsTup h a its) (k : Kp S h h') : IsTup h' a its :=
  let ⟨o, ho, hc, n, hd⟩ := x; ⟨o, k.tup a o ho ⟨hc, its, n, hd⟩, hc, n, hd⟩
theorem tupleNew {vs : List Value} (h : ∀ a h', Kp0 s.heap h' → IsTup h' a vs.toArray → Q (.ref a) { s with heap := h' }) (hsz : vs.length ≤ sizeLine) : wpAny (model prog w) A (newTuple vs) Q E s :=
  wpAny_newTuple (hsz := hsz) (h _ _ (.push _) (IsTup.new _ _))
theorem listNew {vs : List Value} (h : ∀ a h', Kp0 s.heap h' → s.heap.get? a = none → h'.PlainList a vs.toArray → Q (.ref a) { s with heap := h' }) (hsz : vs.length ≤ sizeLine) : wpAny (model prog w) A (newList vs) Q E s :=
  wpAny_newList (hsz := hsz) (h _ _ (.push _) (fresh_size _) ⟨_, Heap.get?_push_size _ rfl⟩)
theorem addTup {t b : Addr} {vs ws : List Value} (ht : IsTup s.heap t vs.toArray) (hb : IsTup s.heap b ws.toArray) (hv : vs ≠ []) (hsz : vs.length + ws.length ≤ sizeLine)
    (h : ∀ a h', Kp0 s.heap h' → IsTup h' a (vs ++ ws).toArray → Q (.ref a) { s with heap := h' }) : wpAny (model prog w) A (binaryOp .Add (.ref t) (.ref b)) Q E s := by
  have ht' := ht
  obtain ⟨⟨c1, d1, x1, s1⟩, ho1, e1, n1, f1⟩ := ht
  obtain ⟨⟨c2, d2, x2, s2⟩, ho2, e2, n2, f2⟩ := hb
  dsimp only at e1 f1 e2 f2
  subst e1 f1 e2 f2
  have T1 : s.TypeIs (.ref t) "tuple" := ⟨_, ho1, rfl⟩
  have T2 : s.TypeIs (.ref b) "tuple" := ⟨_, ho2, rfl⟩
  cases ws with
  | nil =>
    exact concat_meets T1 T2 noFill_tuple_add seq_tuple_add PySem.F.slot_tuple_add PySem.F.entry_tuple_add (PySem.F.args_tuple_add_2 _ _)
      (tuple_addW1 t b vs.toArray (([] : List Value).toArray) n1 n2 d1 d2 s1 s2 (by simpa using hv) (by simp)) ⟨ho1, ho2, h t s.heap .refl (by simpa using ht')⟩
  | cons v r =>
    refine concat_meets T1 T2 noFill_tuple_add seq_tuple_add PySem.F.slot_tuple_add PySem.F.entry_tuple_add (PySem.F.args_tuple_add_2 _ _)
      (tuple_addW2 t b vs.toArray (v :: r).toArray n1 n2 d1 d2 s1 s2 (by simpa using hv) (by simp) (by simpa using hsz)) ⟨ho1, ho2, ?_⟩
    exact h _ _ (.push _) (by rw [List.append_toArray]; exact IsTup.new _ _)
theorem tupItem {value slice : PySem.Expr} {t : Addr} {l : List Value} {k : Int} {u : Tok} {j : Nat} {x : Value} (ht : IsTup s.heap t l.toArray) (hk : k = j) (hhi : k < 2 ^ 63) (hx : l[j]? = some x) (h : Q x s)
    (hs : subscripted slice false (.ref t) (.int k u) = operate [.ref t, .int k u] (getItem (.ref t) (.int k u)) := by with_unfolding_all rfl) :
    wpAny (model prog w) A (subscriptTail value slice (.ref t) (.int k u)) Q E s := by
  subst hk
  have hlt : j < l.length := (List.getElem?_eq_some_iff.mp hx).1
  exact item_tupleT ht (by omega) hhi (by unfold seqIndex?; simp; omega) hx h hs
/-- t[a:] -/
inductive TfEnd (Q : Value → Shared → Prop) (a : Nat) (v : Value) (s₁ : Shared) : Prop
  | mk (t : Addr) (l : List Value) (hv : v = .ref t) (ht : IsTup s₁.heap t (List.toArray l)) (h1 : 1 ≤ a) (ha : a ≤ l.length) (hsz : l.length ≤ sizeLine)
      (h : ∀ b h' tk, Kp0 s₁.heap h' → IsTup h' b (l.drop a).toArray → Q (.ref b) { s₁ with heap := h', toks := tk }) : TfEnd Q a v s₁
theorem tupFrom {env : Env} {value : PySem.Expr} {p pos : Pos} {k : Nat} {ep : Pos} {a : Nat}
    (h : wpAny (model prog w) A (eval value env) (fun v s₁ => TfEnd Q a v s₁) E s) :
    wpAny (model prog w) A (eval (.Subscript value (.Slice (some (.Constant (.int a) k ep)) none none p) pos) env) Q E s := by
  refine Subscript_ (wpAny_mono h (fun v s₁ h₁ => ?_) fun _ _ q => q)
  obtain ⟨t, l, rfl, ht, h1, ha, hsz, hq⟩ := h₁
  refine wpAny_Slice ?_
  show wpAny _ _ (eval (.Constant (.int a) k ep) env) _ _ _
  refine wpAny_Constant_int (wpAny_pure (wpAny_pure ?_))
  have ht₂ := tup_kp (S := No) ht (Kp.push { cls := .type "slice", data := .fields #[.int (a : Int) s₁.toks, .none, .none] })
  refine tail_any (ops := [.ref s₁.heap.objs.size, .ref t]) ht₂.typeIs slot_tuple_getitem.lookup (getItem_tuple_from ht₂ (Heap.IsSliceOf.new ..) h1 (by simpa using ha) ?_ (by simpa using hsz)) (by with_unfolding_all rfl)
  exact hq _ _ _ ((Kp.push _).trans (.push _)) (IsTup.new _ _)
/-- tuple(list) -/
theorem tupOfList {l : Addr} {its : List Value} (hl : s.heap.IsList l its.toArray) (hsz : its.length ≤ sizeLine) (h : ∀ a h', Kp0 s.heap h' → IsTup h' a its.toArray → Q (.ref a) { s with heap := h' }) :
    wpAny (model prog w) A (call (.type "tuple") [.ref l]) Q E s :=
  call_tuple_list hl (fun h' k => h _ _ ((Kp.of_stays k).trans (.push _)) (IsTup.new _ _)) (by simpa using hsz)
theorem tupOfTup {t : Addr} {its : Array Value} (ht : IsTup s.heap t its) (h : Q (.ref t) s) : wpAny (model prog w) A (call (.type "tuple") [.ref t]) Q E s := call_tuple_same ht h
/-- a list's cut -/
inductive LcutEnd (Q : Value → Shared → Prop) (v a b c : Value) (s₄ : Shared) : Prop
  | mk (l : Addr) (items : Array Value) (lo' hi' st' : Option Int) (hv : v = .ref l) (hl : s₄.heap.IsList l items) (pa : IsPart a lo') (pb : IsPart b hi') (pc : IsPart c st') (h0 : st' ≠ some 0) (hsz : items.size ≤ sizeLine)
      (h : ∀ d h' tk, Kp0 s₄.heap h' → s₄.heap.get? d = none → h'.PlainList d (slicePick items lo' hi' st') → Q (.ref d) { s₄ with heap := h', toks := tk }) : LcutEnd Q v a b c s₄
theorem listCut {env : Env} {value : PySem.Expr} {lo hi st : Option PySem.Expr} {p pos : Pos}
    (h : wpAny (model prog w) A (eval value env) (fun v s₁ => wpAny (model prog w) A (evalPart lo env) (fun a s₂ => wpAny (model prog w) A (evalPart hi env) (fun b s₃ => wpAny (model prog w) A (evalPart st env) (fun c s₄ => LcutEnd Q v a b c s₄) E s₃) E s₂) E s₁) E s)
    (ops : Value → Value → List Value) (hs : ∀ o i, subscripted (.Slice lo hi st p) false o i = operate (ops o i) (getItem o i)) :
    wpAny (model prog w) A (eval (.Subscript value (.Slice lo hi st p) pos) env) Q E s := by
  refine Subscript_ (wpAny_mono h (fun v s₁ h₁ => wpAny_Slice (wpAny_mono h₁ (fun a s₂ h₂ => wpAny_mono h₂ (fun b s₃ h₃ => wpAny_mono h₃ (fun c s₄ h₄ => ?_) fun _ _ q => q) fun _ _ q => q) fun _ _ q => q)) fun _ _ q => q)
  obtain ⟨l, items, lo', hi', st', rfl, hl, pa, pb, pc, h0, hsz, hq⟩ := h₄
  have hl₂ := kp_list (Kp.push (S := No) { cls := .type "slice", data := .fields #[a, b, c] }) hl id
  exact tail_any (ops := ops _ _) hl₂.typeIs slot_list_getitem.lookup (wpAny_getItem_list_slice (hsz := hsz) hl₂ (Heap.IsSliceOf.new ..) pa pb pc h0
    (hq _ _ _ ((Kp.push _).trans (.push _)) (by have := fresh_size (s₄.heap.push { cls := .type "slice", data := .fields #[a, b, c] }); rw [Heap.size_push] at this ⊢; exact Heap.get?_none_of_le (Nat.le_succ _)) ⟨_, Heap.get?_push_size _ rfl⟩)) (hs _ _)
theorem addList {l b : Addr} {vs ws : List Value} (hl : s.heap.IsList l vs.toArray) (hb : s.heap.IsList b ws.toArray) (hsz : vs.length + ws.length ≤ sizeLine)
    (h : ∀ a h', Kp0 s.heap h' → s.heap.get? a = none → h'.PlainList a (vs ++ ws).toArray → Q (.ref a) { s with heap := h' }) : wpAny (model prog w) A (binaryOp .Add (.ref l) (.ref b)) Q E s := by
  obtain ⟨⟨c1, d1, x1, s1⟩, ho1, e1, n1, f1⟩ := hl
  obtain ⟨⟨c2, d2, x2, s2⟩, ho2, e2, n2, f2⟩ := hb
  dsimp only at e1 f1 e2 f2
  subst e1 f1 e2 f2
  refine concat_meets ⟨_, ho1, rfl⟩ ⟨_, ho2, rfl⟩ noFill_list_add seq_list_add PySem.F.slot_list_add PySem.F.entry_list_add (PySem.F.args_list_add_2 _ _)
    (list_addW l b vs.toArray ws.toArray n1 n2 d1 d2 s1 s2 (by simpa using hsz)) ⟨ho1, ho2, ?_⟩
  exact h _ _ (.push _) (fresh_size _) (by rw [List.append_toArray]; exact ⟨_, Heap.get?_push_size _ rfl⟩)
end

inductive Tm where
  | mk (op : Str) (kids : List Tm)

structure Nd where
  op : Str
  kids : List Int
  deriving DecidableEq

mutual
def tmD : Tm → PyData
  | .mk op ks => .tuple (.str op :: tmDs ks)
def tmDs : List Tm → List PyData
  | [] => []
  | t :: ts => tmD t :: tmDs ts
end
def Nd.data (n : Nd) : PyData := .tuple (.str n.op :: n.kids.map .int)

theorem tmDs_map : ∀ ts : List Tm, tmDs ts = ts.map tmD
  | [] => by rw [tmDs]; rfl
  | t :: ts => by rw [tmDs, tmDs_map ts]; rfl

abbrev Rd (h : Heap) (v : Value) (d : PyData) : Prop := PySem.Reads h v d []
abbrev RdAll (h : Heap) (vs : List Value) (ds : List PyData) : Prop := PySem.ReadsAll h vs ds []

section
open PySem.Spec
variable {h h' : Heap} {S : Addr → Prop}
mutual
theorem rd_kp' : ∀ {v : Value} {d : PyData} {as : List Addr}, Reads h v d as → as = [] → Kp S h h' → Rd h' v d
  | _, _, _, .none, _, _ => .none
  | _, _, _, .bool b, _, _ => .bool b
  | _, _, _, .int i t, _, _ => .int i t
  | _, _, _, .str x t, _, _ => .str x t
  | _, _, _, .list _ _ _ _, e, _ => by cases e
  | _, _, _, .tuple (vs := vs) (n := n) ho hc hd r, e, k => .tuple (k.tup _ _ ho ⟨hc, vs, n, hd⟩) hc hd (rdAll_kp' r e k)
  | _, _, _, .dict _ _ _ _ _, e, _ => by cases e
theorem rdAll_kp' : ∀ {vs : List Value} {ds : List PyData} {as : List Addr}, ReadsAll h vs ds as → as = [] → Kp S h h' → RdAll h' vs ds
  | _, _, _, .nil, _, _ => .nil
  | _, _, _, .cons (as := as) (bs := bs) x y, e, k => by
    obtain ⟨e1, e2⟩ := List.append_eq_nil_iff.mp e
    have a := rd_kp' x e1 k
    have b := rdAll_kp' y e2 k
    exact ReadsAll.cons a b
end
theorem rd_kp {v : Value} {d : PyData} (x : Rd h v d) (k : Kp S h h') : Rd h' v d := rd_kp' x rfl k
theorem rdAll_kp {vs : List Value} {ds : List PyData} (x : RdAll h vs ds) (k : Kp S h h') : RdAll h' vs ds := rdAll_kp' x rfl k
theorem rd_tup {a : Addr} {its : List Value} {ds : List PyData} (x : IsTup h a its.toArray) (y : RdAll h its ds) : Rd h (.ref a) (.tuple ds) := by
  obtain ⟨o, ho, hc, n, hd⟩ := x
  exact .tuple ho hc hd (by simpa using y)
theorem rd_tup_inv {v : Value} {ds : List PyData} (x : Rd h v (.tuple ds)) : ∃ a its, v = .ref a ∧ IsTup h a (List.toArray its) ∧ RdAll h its ds := by
  have key : ∀ D as, Reads h v D as → D = .tuple ds → as = [] → ∃ a its, v = .ref a ∧ IsTup h a (List.toArray its) ∧ RdAll h its ds := by
    intro D as x e1 e2
    cases x with
    | @tuple a o vs n _ _ ho hc hd r =>
      injection e1 with e1
      subst e1 e2
      exact ⟨a, vs.toList, rfl, ⟨o, ho, hc, n, by simpa using hd⟩, r⟩
    | _ => cases e1
  exact key _ _ x rfl rfl
theorem rdAll_cons {vs : List Value} {d : PyData} {ds : List PyData} (x : RdAll h vs (d :: ds)) : ∃ v r, vs = v :: r ∧ Rd h v d ∧ RdAll h r ds := by
  have key : ∀ D as, ReadsAll h vs D as → D = d :: ds → as = [] → ∃ v r, vs = v :: r ∧ Rd h v d ∧ RdAll h r ds := by
    intro D as x e1 e2
    cases x with
    | nil => cases e1
    | cons a b =>
      injection e1 with e1 e3
      subst e1 e3
      obtain ⟨e4, e5⟩ := List.append_eq_nil_iff.mp e2
      subst e4 e5
      exact ⟨_, _, rfl, a, b⟩
  exact key _ _ x rfl rfl
theorem rdAll_nil {vs : List Value} (x : RdAll h vs []) : vs = [] := by cases x; rfl
theorem rdCons {v : Value} {r : List Value} {d : PyData} {ds : List PyData} (a : Rd h v d) (b : RdAll h r ds) : RdAll h (v :: r) (d :: ds) := ReadsAll.cons a b
theorem rd_str {v : Value} {x : Str} (r : Rd h v (.str x)) : ∃ t, v = .str x t := by cases r; exact ⟨_, rfl⟩
theorem rd_int {v : Value} {i : Int} (r : Rd h v (.int i)) : ∃ t, v = .int i t := by cases r; exact ⟨_, rfl⟩
theorem rdAll_length : ∀ {ds : List PyData} {vs : List Value}, RdAll h vs ds → vs.length = ds.length
  | [], _, x => by rw [rdAll_nil x]; rfl
  | d :: ds, _, x => by obtain ⟨v, r, rfl, _, y⟩ := rdAll_cons x; rw [List.length_cons, List.length_cons, rdAll_length y]
theorem rdAll_get : ∀ {ds : List PyData} {vs : List Value}, RdAll h vs ds → ∀ (i : Nat) (d : PyData), ds[i]? = some d → ∃ v, vs[i]? = some v ∧ Rd h v d
  | [], _, _, i, d, e => by simp at e
  | d :: ds, _, x, 0, d', e => by obtain ⟨v, r, rfl, y, _⟩ := rdAll_cons x; simp at e; subst e; exact ⟨v, rfl, y⟩
  | d :: ds, _, x, i + 1, d', e => by obtain ⟨v, r, rfl, _, y⟩ := rdAll_cons x; simpa using rdAll_get y i d' (by simpa using e)
theorem rdAll_at : ∀ {ds : List PyData} {vs : List Value}, RdAll h vs ds → ∀ (i : Nat) (v : Value), vs[i]? = some v → ∃ d, ds[i]? = some d ∧ Rd h v d
  | [], _, x, i, v, e => by rw [rdAll_nil x] at e; simp at e
  | d :: ds, _, x, 0, v', e => by obtain ⟨v, r, rfl, y, _⟩ := rdAll_cons x; simp at e; subst e; exact ⟨d, rfl, y⟩
  | d :: ds, _, x, i + 1, v', e => by obtain ⟨v, r, rfl, _, y⟩ := rdAll_cons x; simpa using rdAll_at y i v' (by simpa using e)
theorem rdAll_append : ∀ {ds es : List PyData} {vs us : List Value}, RdAll h vs ds → RdAll h us es → RdAll h (vs ++ us) (ds ++ es)
  | [], _, _, _, x, y => by rw [rdAll_nil x]; exact y
  | d :: ds, _, _, _, x, y => by obtain ⟨v, r, rfl, a, b⟩ := rdAll_cons x; exact rdCons a (rdAll_append b y)
theorem rdAll_drop : ∀ {ds : List PyData} {vs : List Value} (k : Nat), RdAll h vs ds → RdAll h (vs.drop k) (ds.drop k)
  | [], _, _, x => by rw [rdAll_nil x]; simp; exact .nil
  | d :: ds, _, 0, x => by simpa using x
  | d :: ds, _, k + 1, x => by obtain ⟨v, r, rfl, _, b⟩ := rdAll_cons x; simpa using rdAll_drop k b
theorem rdAll_take : ∀ {ds : List PyData} {vs : List Value} (k : Nat), RdAll h vs ds → RdAll h (vs.take k) (ds.take k)
  | [], _, _, x => by rw [rdAll_nil x]; simp; exact .nil
  | d :: ds, _, 0, x => by simpa using ReadsAll.nil
  | d :: ds, _, k + 1, x => by obtain ⟨v, r, rfl, a, b⟩ := rdAll_cons x; simpa using rdCons a (rdAll_take k b)
theorem rdAll_ints : ∀ {ns : List Int} {vs : List Value}, RdAll h vs (ns.map .int) → IntsAre vs ns
  | [], _, x => by rw [rdAll_nil x]; exact .nil
  | n :: ns, _, x => by obtain ⟨v, r, rfl, a, b⟩ := rdAll_cons x; obtain ⟨t, rfl⟩ := rd_int a; exact .cons n t (rdAll_ints b)
theorem ints_rdAll : ∀ {vs : List Value} {ns : List Int}, IntsAre vs ns → RdAll h vs (ns.map .int)
  | _, _, .nil => .nil
  | _, _, .cons n t r => rdCons (.int n t) (ints_rdAll r)

theorem rd_nd {v : Value} {n : Nd} (x : Rd h v n.data) : ∃ a t vs, v = .ref a ∧ IsTup h a (List.toArray (.str n.op t :: vs)) ∧ IntsAre vs n.kids := by
  obtain ⟨a, its, rfl, ht, r⟩ := rd_tup_inv x
  obtain ⟨v, r', rfl, y, z⟩ := rdAll_cons r
  obtain ⟨t, rfl⟩ := rd_str y
  exact ⟨a, t, r', rfl, ht, rdAll_ints z⟩
theorem nd_rd {a : Addr} {t : Tok} {vs : List Value} {n : Nd} (x : IsTup h a (List.toArray (.str n.op t :: vs))) (y : IntsAre vs n.kids) : Rd h (.ref a) n.data := rd_tup x (rdCons (.str _ _) (ints_rdAll y))
theorem rd_tm {v : Value} {op : Str} {ks : List Tm} (x : Rd h v (tmD (.mk op ks))) : ∃ a t vs, v = .ref a ∧ IsTup h a (List.toArray (.str op t :: vs)) ∧ RdAll h vs (tmDs ks) := by
  rw [tmD] at x
  obtain ⟨a, its, rfl, ht, r⟩ := rd_tup_inv x
  obtain ⟨v, r', rfl, y, z⟩ := rdAll_cons r
  obtain ⟨t, rfl⟩ := rd_str y
  exact ⟨a, t, r', rfl, ht, z⟩
theorem tm_rd {a : Addr} {t : Tok} {op : Str} {ks : List Tm} {vs : List Value} (x : IsTup h a (List.toArray (.str op t :: vs))) (y : RdAll h vs (tmDs ks)) : Rd h (.ref a) (tmD (.mk op ks)) := by
  rw [tmD]; exact rd_tup x (rdCons (.str _ _) y)
end

theorem eqvAll_ints : ∀ a b : List Int, PyData.eqvAll (a.map .int) (b.map .int) = decide (a = b)
  | [], [] => by simp [PyData.eqvAll]
  | [], _ :: _ => by simp [PyData.eqvAll]
  | _ :: _, [] => by simp [PyData.eqvAll]
  | x :: a, y :: b => by
    rw [List.map_cons, List.map_cons, PyData.eqvAll, eqvAll_ints a b, PyData.eqv]
    by_cases h : x = y <;> simp [h]
theorem eqv_nd (a b : Nd) : PyData.eqv a.data b.data = decide (a = b) := by
  obtain ⟨x, k⟩ := a
  obtain ⟨y, l⟩ := b
  rw [Nd.data, Nd.data, PyData.eqv, PyData.eqvAll, eqvAll_ints, PyData.eqv]
  by_cases h : x = y <;> simp [h, beq_iff_eq]

/-- the ops there are -/
def ltrs : List Str := ["a", "b", "c", "f", "g"]
theorem ltr_ok : ∀ x ∈ ltrs, PyData.strOk x = true := by decide +kernel
theorem canLay_ints : ∀ l : List Int, PyData.canLayAll0 (l.map .int) = true
  | [] => by simp [PyData.canLayAll0]
  | x :: l => by rw [List.map_cons, PyData.canLayAll0, canLay_ints l]; simp [PyData.canLay0]
theorem canLay_nd {n : Nd} (x : n.op ∈ ltrs) : n.data.canLay0 = true := by
  rw [Nd.data, PyData.canLay0, PyData.canLayAll0, canLay_ints, PyData.canLay0, ltr_ok _ x]; rfl
theorem depth_ints : ∀ l : List Int, PyData.depthAll (l.map .int) = 0
  | [] => by simp [PyData.depthAll]
  | x :: l => by rw [List.map_cons, PyData.depthAll, depth_ints l]; simp [PyData.depth]
theorem depth_nd (n : Nd) : n.data.depth = 1 := by rw [Nd.data, PyData.depth, PyData.depthAll, depth_ints]; simp [PyData.depth]

/-- what may be walked: how its iterator comes to be -/
structure Src (prog : Program) (w : World) (A : Around) (xv : Value) (h : Heap) (n : Nat) (P : Nat → Value → Prop) (fp : List Addr) : Prop where
  go : ∀ (s : Shared) (Q : Value → Shared → Prop) (E : Value → Shared → Prop), s.heap = h →
    (∀ I h₂ tk St, Kp0 h h₂ → h.get? I = none → Walks prog w A I (I :: fp) [I] n P St → St 0 h₂ → (∀ i h, St i h → ∀ b ∈ [I], ∀ o, h.get? b = some o → ¬ IsT o) → (∃ o, h₂.get? I = some o) → Q (.ref I) { s with heap := h₂, toks := tk }) →
    wpAny (model prog w) A (pyIter xv) Q E s
  live : ∀ b ∈ fp, ∃ o, h.get? b = some o
  size : n ≤ sizeLine

section
variable {prog : Program} {w : World} {A : Around} {h : Heap}
theorem Src.list (hh : A.handled = none) {l : Addr} {its : Array Value} (hl : h.IsList l its) (hsz : its.size ≤ sizeLine) : Src prog w A (.ref l) h its.size (fun i v => its[i]? = some v) [l] where
  go := by
    rintro s Q E rfl hq
    have e : s.heap.get? s.heap.objs.size = none := fresh_size _
    obtain ⟨o, ho⟩ := list_at hl
    exact wpAny_pyIter_list hl (hq _ _ _ _ (.push _) e (Walks.list hh _ l (fun q => by rw [q, e] at ho; cases ho) its) ⟨⟨_, Heap.get?_push_size _ rfl, rfl, rfl⟩, hl.push _⟩ (fun i h x => listIter_nt x.1) ⟨_, Heap.get?_push_size _ rfl⟩)
  live := fun b hb => by rw [List.mem_singleton] at hb; subst hb; exact list_at hl
  size := hsz
theorem Src.tup (hh : A.handled = none) {l : Addr} {its : Array Value} (hl : IsTup h l its) (hsz : its.size ≤ sizeLine) : Src prog w A (.ref l) h its.size (fun i v => its[i]? = some v) [l] where
  go := by
    rintro s Q E rfl hq
    have e : s.heap.get? s.heap.objs.size = none := fresh_size _
    obtain ⟨o, ho, _⟩ := id hl
    exact wpAny_pyIter_tuple hl (hq _ _ _ _ (.push _) e (Walks.tuple hh _ l (fun q => by rw [q, e] at ho; cases ho) its) ⟨⟨_, Heap.get?_push_size _ rfl, rfl, rfl⟩, hl.push _⟩ (fun i h x => tupIter_nt x.1) ⟨_, Heap.get?_push_size _ rfl⟩)
  live := fun b hb => by rw [List.mem_singleton] at hb; subst hb; obtain ⟨o, ho, _⟩ := hl; exact ⟨o, ho⟩
  size := hsz
end

section
variable {g h₀ h₁ h : Heap} {S S' : Addr → Prop} {L : Addr} {l : List (Str × Value)}
theorem Bd.rebase (B : Bd g S' h₁ L l h) (k : Kp0 h₀ h₁) (st : Kp0 g h₀) (m : ∀ a o, h₀.get? a = some o → S' a → S a) (far : ∀ a, S a → g.get? a = none) (hL : h₀.get? L = none) : Bd g S h₀ L l h where
  ns := B.ns
  kp := (k.of0.trans B.kp).drop m
  st := B.st
  st₀ := st
  lo := .inl hL
  far := far
end

section
variable {prog : Program} {w : World} {A : Around} {E : Value → Shared → Prop} {env : Env} {g : Heap} {S : Addr → Prop}
/-- what is to be shown where the source of a list comprehension stands: the element, turn by turn, for any Qb; and the end -/
inductive LcEnd (prog : Program) (w : World) (A : Around) (env : Env) (g : Heap) (S : Addr → Prop) (elt : PySem.Expr) (x : Str) (scope : Scope) (cl : List (Str × Addr)) (Q : Value → Shared → Prop) (xv : Value) (s₁ : Shared) : Prop
  | mk (n : Nat) (P : Nat → Value → Prop) (fp : List Addr) (Inv : Nat → List Value → Heap → Prop) (src : Src prog w A xv s₁.heap n P fp) (st : Kp0 g s₁.heap) (farS : ∀ a, S a → g.get? a = none) (liveS : ∀ a, S a → ∃ o, s₁.heap.get? a = some o) (apart : ∀ b ∈ fp, ¬ S b)
      (inv0 : Inv 0 [] s₁.heap) (stab : ∀ i ys h h', Inv i ys h → Kp (fun a => s₁.heap.get? a = none) h h' → Inv i ys h')
      (step : ∀ C i v ys h₃ tk₃ (Qb : Value → Shared → Prop) E', (∀ y h' tk', Kp S h₃ h' → Inv (i + 1) (ys ++ [y]) h' → Qb y { s₁ with heap := h', toks := tk' }) → i < n → P i v → Inv i ys h₃ → Bd g S s₁.heap C [(x, v)] h₃ → s₁.heap.get? C = none →
        wpAny (model prog w) A (eval elt (compEnvC scope cl C env)) Qb E' { s₁ with heap := h₃, toks := tk₃ })
      (fin : ∀ D ys h' tk, s₁.heap.get? D = none → h'.IsList D (List.toArray ys) → ys.length = n → Inv n ys h' → Kp S s₁.heap h' → Q (.ref D) { s₁ with heap := h', toks := tk }) : LcEnd prog w A env g S elt x scope cl Q xv s₁
/-- a list comprehension over a source: what the element does, turn by turn -/
theorem lcS {s : Shared} {elt iter : PySem.Expr} {x : Str} {px : Pos} {scope : Scope} {cl : List (Str × Addr)} {pos : Pos} {Q : Value → Shared → Prop}
    (hclos : closureFor scope env = pure cl) (hcell : ∀ y ∈ scope.names, y.2 ≠ .cell) (hkind : scope.kind = .function)
    (hnames : ∀ y ∈ scope.names, y.2 = .local → scope.names.lookup y.1 = some .local) (hx : scope.names.lookup x = some .local)
    (h : wpAny (model prog w) A (eval iter env) (fun xv s₁ => LcEnd prog w A env g S elt x scope cl Q xv s₁) E s)
    (hs : ∀ x, foldedSetIterable iter env x = pure x := by intro _; rfl) :
    wpAny (model prog w) A (eval (.ListComp elt [⟨.Name x px, iter, [], 0⟩] scope pos) env) Q E s := by
  refine lcR (g := g) (S := S) hclos hcell hkind hnames hx (wpAny_mono h (fun xv s₁ h₁ => ?_) fun _ _ q => q) hs
  obtain ⟨n, P, fp, Inv, src, st, farS, liveS, apart, inv0, stab, step, fin⟩ := h₁
  refine src.go _ _ _ rfl fun I h₂ tk St k₂ hI W hst nt hI₂ => ?_
  have low : ∀ a, h₂.get? a = none → s₁.heap.get? a = none := fun a e => by
    cases q : s₁.heap.get? a with
    | none => rfl
    | some o => have := k₂.stays _ _ q; rw [e] at this; cases this
  have hIg : g.get? I = none := by
    cases q : g.get? I with
    | none => rfl
    | some o => have := st.stays _ _ q; rw [hI] at this; cases this
  refine ⟨I, I :: fp, [I], n, P, St, Inv, rfl, W, src.size, hst, ⟨st.trans k₂, farS, ?_, ?_, ?_, nt, ?_, ?_, ?_, ?_⟩, fun D ys h' tk' hD hl hlen hInv k => ?_⟩
  · intro b hb; rw [List.mem_singleton] at hb; subst hb; exact hIg
  · intro b hb
    rcases List.mem_cons.mp hb with rfl | hb
    · exact hI₂
    · obtain ⟨o, ho⟩ := src.live b hb; exact ⟨o, k₂.stays _ _ ho⟩
  · intro a ha; obtain ⟨o, ho⟩ := liveS a ha; exact ⟨o, k₂.stays _ _ ho⟩
  · intro b hb
    rcases List.mem_cons.mp hb with rfl | hb
    · intro q; obtain ⟨o, ho⟩ := liveS _ q; rw [hI] at ho; cases ho
    · exact apart b hb
  · exact stab _ _ _ _ inv0 k₂.of0
  · intro i ys h h' hi k
    refine stab i ys h h' hi (k.mono fun a q => ?_)
    rcases q with q | q
    · rw [List.mem_singleton] at q; rw [q]; exact hI
    · exact low a q
  · rintro C i v ys s₃ E' hi hP hInv B hC ⟨hh, tkk, rfl⟩
    refine step C i v ys _ _ _ E' (fun y h' tk' k i => ⟨h', tk', rfl, k, i⟩) hi hP hInv (B.rebase k₂ st (fun a o e q => ?_) farS (low C hC)) (low C hC)
    rcases q with q | q
    · exact q
    · rw [List.mem_singleton] at q; rw [q, hI] at e; cases e
  · refine fin D ys h' tk' (low D hD) hl hlen hInv ((k₂.of0.trans k).drop fun a o e q => ?_)
    rcases q with q | q
    · exact q
    · rw [List.mem_singleton] at q; rw [q, hI] at e; cases e

/-- what is to be shown where the source of a for loop stands -/
inductive ForEnd (prog : Program) (w : World) (A : Around) (E : Value → Shared → Prop) (env : Env) (g : Heap) (S : Addr → Prop) (target : PySem.Expr) (body : List Stmt) (h₀ : Heap) (L : Addr) (l : List (Str × Value)) (Q : Flow → Shared → Prop) (xv : Value) (s₁ : Shared) : Prop
  | mk (n : Nat) (P : Nat → Value → Prop) (fp : List Addr) (J : Nat → Heap → Prop) (src : Src prog w A xv s₁.heap n P fp) (B : Bd g S h₀ L l s₁.heap) (liveS : ∀ a, S a → ∃ o, s₁.heap.get? a = some o) (apart : ∀ b ∈ fp, ¬ S b ∧ b ≠ L)
      (j0 : J 0 s₁.heap) (stab : ∀ i h h' I, s₁.heap.get? I = none → J i h → Kp (fun a => a = I) h h' → J i h')
      (turn : ∀ i v h₃ tk₃ (Qb : Flow → Shared → Prop) (Eb : Value → Shared → Prop), (∀ h' tk', Bd g (fun a => S a ∨ a = L) h₃ L l h' → J (i + 1) h' → Qb .next { s₁ with heap := h', toks := tk' }) → (∀ v s', Q (.ret v) s' → Qb (.ret v) s') →
        (∀ e s', notedBy (model prog w) A env (cameBackBy (model prog w) A env E) e s' → Eb e s') → i < n → P i v → Bd g S h₀ L l h₃ → Bd g (fun a => S a ∨ a = L) h₃ L l h₃ → J i h₃ →
        wpAny (model prog w) A (assign target env v) (fun _ s₄ => wpAny (model prog w) A (execs body env) Qb Eb s₄) Eb { s₁ with heap := h₃, toks := tk₃ })
      (fin : ∀ h' tk, Bd g S h₀ L l h' → J n h' → Q .next { s₁ with heap := h', toks := tk }) : ForEnd prog w A E env g S target body h₀ L l Q xv s₁
/-- a for loop over a source -/
theorem forS {s : Shared} {target iter : PySem.Expr} {body : List Stmt} {pos : Pos} {Q : Flow → Shared → Prop} {h₀ : Heap} {L : Addr} {l : List (Str × Value)}
    (h : wpAny (model prog w) A (eval iter env) (fun xv s₁ => ForEnd prog w A E env g S target body h₀ L l Q xv s₁) E s)
    (ht : ∀ it v, letOwnedTupleGo target it v = pure () := by intro _ _; rfl) (hs : ∀ x, foldedSetIterable iter env x = pure x := by intro _; rfl) :
    wpAny (model prog w) A (exec (.For target iter body [] pos) env) Q E s := by
  refine forR (wpAny_mono h (fun xv s₁ h₁ => ?_) fun _ _ q => q) ht hs
  obtain ⟨n, P, fp, J, src, B, liveS, apart, j0, stab, turn, fin⟩ := h₁
  refine src.go _ _ _ rfl fun I h₂ tk St k₂ hI W hst nt hI₂ => ?_
  obtain ⟨oL, hL⟩ := B.at_
  have hIL : I ≠ L := fun q => by rw [q, hL] at hI; cases hI
  have hIS : ¬ S I := fun q => by obtain ⟨o, ho⟩ := liveS I q; rw [hI] at ho; cases ho
  have one : ∀ (a : Addr), a ∈ [I] → a = I := fun a q => List.mem_singleton.mp q
  have turnI : ∀ {h h' : Heap}, Bd g S h₀ L l h → Kp (fun a => a ∈ [I]) h h' → Bd g S h₀ L l h' := fun B' k => B'.step k fun a q => by
    rw [one a q]; exact ⟨(B.new hI).1, hIL⟩
  refine ⟨I, I :: fp, [I], n, P, St, fun i h => Bd g S h₀ L l h ∧ J i h, rfl, W, hst, ⟨nt, ⟨B.step0 k₂, stab _ _ _ I hI j0 k₂.of0⟩, fun i h h' hj k => ⟨turnI hj.1 k, stab _ _ _ I hI hj.2 (k.mono one)⟩, fun i v s₃ hi hP st hj hs₃ => ?_, fun h' tk' hj => fin h' tk' hj.1 hj.2⟩⟩
  have back : ∀ h' , Bd g (fun a => S a ∨ a = L) s₃.heap L l h' → ∀ b ∈ I :: fp, ∀ o, s₃.heap.get? b = some o → h'.get? b = some o := fun h' B' b hb o e => B'.kp.keep b o e fun q => by
    rcases List.mem_cons.mp hb with rfl | hb
    · exact q.elim hIS hIL
    · exact q.elim (apart b hb).1 (apart b hb).2
  obtain ⟨h₃, tk₃, rfl⟩ := hs₃
  exact turn i v h₃ tk₃ _ _ (fun h' tk' B' hJ => ⟨h', tk', rfl, back h' B', hj.1.comp B', hJ⟩) (fun _ _ q => q) (fun _ _ q => q) hi hP hj.1 hj.1.here hj.2
end

section
variable {prog : Program} {w : World} {A : Around} {E : Value → Shared → Prop} {s : Shared} {Q : Value → Shared → Prop}
theorem preSum_list (ns : List Int) : ∀ j, j ≤ ns.length → preSum (fun i => ns.getD i 0) j = (ns.take j).sum
  | 0, _ => by simp [preSum]
  | j + 1, h => by
    rw [preSum, preSum_list ns j (by omega), List.take_add_one, List.sum_append]
    simp [List.getD, List.getElem?_eq_getElem (show j < ns.length by omega)]
theorem sumList {l : Addr} {its : List Value} {ns : List Int} (hh : A.handled = none) (hl : s.heap.IsList l its.toArray) (hi : IntsAre its ns)
    (h : ∀ t h' tk, Kp0 s.heap h' → Q (.int ns.sum t) { s with heap := h', toks := tk }) : wpAny (model prog w) A (call (.builtin "sum") [.ref l]) Q E s := by
  have hlen := hi.length
  refine call_sum_walkG (wpAny_pyIter_list hl ?_)
  have e : s.heap.get? s.heap.objs.size = none := fresh_size _
  obtain ⟨o, ho⟩ := list_at hl
  have hlI : l ≠ s.heap.objs.size := fun q => by rw [q, e] at ho; cases ho
  refine ⟨_, _, _, _, _, _, fun i => ns.getD i 0, rfl, Walks.list (A := A.in1) hh _ l hlI its.toArray, ⟨⟨_, Heap.get?_push_size _ rfl, rfl, rfl⟩, hl.push _⟩, fun b hb => ?_, fun i v hv => ?_, fun h' tk t' k => ?_⟩
  · simp only [List.mem_cons, List.not_mem_nil, or_false] at hb
    rcases hb with rfl | rfl
    · rw [Heap.size_push]; exact Nat.lt_succ_self _
    · rw [Heap.size_push]; exact Nat.lt_succ_of_lt (list_lt hl)
  · have hv' : its[i]? = some v := by simpa using hv
    have hlt : i < ns.length := by rw [← hlen]; exact (List.getElem?_eq_some_iff.mp hv').1
    obtain ⟨t, hx⟩ := hi.get i (ns.getD i 0) (by simp [List.getD, hlt])
    rw [hv'] at hx; cases hx; exact ⟨t, rfl⟩
  · have z := h t' h' tk (.of_stays fun b o e' => k b o (by simp only [List.mem_singleton]; rintro rfl; rw [e] at e'; cases e') (Heap.get?_push_of_some _ e'))
    have q : preSum (fun i => ns.getD i 0) its.toArray.size = ns.sum := by rw [List.size_toArray, preSum_list ns _ (Nat.le_of_eq hlen), List.take_of_length_le (by omega)]
    rw [q]; exact z
theorem maxList {l : Addr} {its : List Value} {ns : List Int} (hh : A.handled = none) (hl : s.heap.IsList l its.toArray) (hi : IntsAre its ns) (hne : 0 < ns.length)
    (h : ∀ M t h' tk, M ∈ ns → (∀ a ∈ ns, a ≤ M) → Kp0 s.heap h' → Q (.int M t) { s with heap := h', toks := tk }) : wpAny (model prog w) A (call (.builtin "max") [.ref l]) Q E s := by
  obtain ⟨xs, e⟩ := hi.allInts.items
  have hns : ns = xs.toList.map (·.1) := by
    rw [← hi.numsOf, ← nums_intItems, ← e]
  have hsz : 0 < xs.size := by
    rw [hns, List.length_map, Array.length_toList] at hne; exact hne
  rw [e] at hl
  refine max_intList hh hl hsz fun v h' tk hv hk => ?_
  obtain ⟨t, rfl⟩ := intItems_at hv
  obtain ⟨h1, h2⟩ := argBest_gt (numAt xs) (xs.size - 1)
  refine h _ t h' tk ?_ (fun a ha => ?_) (.of_stays hk)
  · rw [hns, numAt_eq]; exact getD_mem (by rw [List.length_map, Array.length_toList]; omega)
  · rw [hns] at ha
    obtain ⟨j, hj, rfl⟩ := mem_getD ha
    rw [List.length_map, Array.length_toList] at hj
    rw [← numAt_eq]; exact h2 j (by omega)
theorem maxTwo {a b : Int} {t u : Tok} (hh : A.handled = none) (h : ∀ t h' tk, Kp0 s.heap h' → Q (.int (max a b) t) { s with heap := h', toks := tk }) : wpAny (model prog w) A (call (.builtin "max") [.int a t, .int b u]) Q E s :=
  max_two_ints hh fun h' tk hk => by
    by_cases c : b > a
    · rw [if_pos c]; have := h u h' tk (.of_stays hk); rwa [show max a b = b by omega] at this
    · rw [if_neg c]; have := h t h' tk (.of_stays hk); rwa [show max a b = a by omega] at this
end

/-- the box of draws: its cells, and how many are drawn -/
def BoxAt (prog : Program) (w : World) (h : Heap) (b D : Addr) (cs : List Int) (k : Nat) : Prop :=
  ∃ ys t, h.DictOf (strKind prog w) b [(("cells" : Str), .ref D), (("lid" : Str), .int (k : Int) t)] ∧ h.IsList D ys ∧ IntsAre ys.toList cs

def drawZ (cs : List Int) (k : Nat) (many : Int) : Int :=
  if k < cs.length then (cs.getD k 0).fmod many else (((3 * (k : Int) * k + 10 * k + 4 * cs.length + 2).fmod 59)).fmod many

section
variable {prog : Program} {w : World} {A : Around} {E : Value → Shared → Prop} {s : Shared} {g : Heap} {b D : Addr} {cs : List Int} {k : Nat} {many : Int} {tm : Tok} {Q : Value → Shared → Prop}
theorem draw_ok (W : Wd w g) (st : Kp0 g s.heap) (hb : BoxAt prog w s.heap b D cs k) (hm : 0 < many) (hk : k < 1000) (hl : cs.length < 1000) (hroom : A.depth < recursionLimit) (hfar : g.get? b = none)
    (hQ : ∀ t h' tk, Kp (· = b) s.heap h' → BoxAt prog w h' b D cs (k + 1) → Q (.int (drawZ cs k many) t) { s with heap := h', toks := tk }) :
    wpAny (model prog w) A (call (.ref 190) [.ref b, .int many tm] []) Q E s := by
  obtain ⟨ys, t, hd, hD, hi⟩ := hb
  replace hfar : ∀ a, a = b → g.get? a = none := fun a e => e ▸ hfar
  refine callF W st (by rfl) (by kernel_rfl) hroom (binds := [("box", .ref b), ("many", .int many tm)]) (S := (· = b)) (BindsTo.of_eq rfl) (locs rfl) hfar (fun h₁ L B kp0 hLn => ?_) (by decide)
  walk_at "r"
  have hbL : b ≠ L := ne_of_none (dict_at hd).choose_spec hLn
  have hDb : D ≠ b := list_ne_dict hD hd
  
  replace hd := hd.keep kp0.stays
  refine dictItem hd (by rfl) ?_
  walk_at "s"
  intro h₂ B hs
  replace hd := hd.sameBut hs hbL
  walk_at "r"
  refine wpAny_setItem_pairs (knd := strKind prog w) (k := "lid") (strKind_is prog w _ _) hd (fun h₃ hd₃ hs₃ => ?_) (by simp [sizeLine_eq])
  dsimp only at hd₃ hs₃
  replace B := B.turn hs₃ (.inl rfl) hbL (dict_noTup hd)
  walk_at "r"
  have hD := kp_list B.kp hD hDb
  refine dictItem hd₃ (by rfl) ?_
  walk_at "r"
  have hlen : (ys.size : Int) = cs.length := by have e := hi.length; simp only [Array.length_toList] at e; omega
  refine lenList hD hlen (by omega) fun t₁ tk₁ => ?_
  walk_at "r"
  have hbox : BoxAt prog w h₃ b D cs (k + 1) := ⟨ys, _, hd₃, hD, hi⟩
  by_cases hlt : k < cs.length
  · refine itT (decide_eq_true (by omega)) ?_
    walk_at "r"
    refine dictItem hd₃ (by rfl) ?_
    walk_at "r"
    obtain ⟨t', hx⟩ := hi.get k (cs.getD k 0) (by simp [List.getD, hlt])
    refine listItem hD (by omega) (by omega) (by simpa using hx) ?_
    walk_at "r"
    refine mod_int' (by omega) ?_
    simp only [drawZ, if_pos hlt] at hQ
    walk_at "q"
    exact hQ _ _ _ B.kp hbox
  · refine itF (decide_eq_false (by omega)) ?_
    walk_at "r"
    refine dictItem hd₃ (by rfl) ?_
    walk_at "r"
    refine lenList hD hlen (by omega) fun t₁ tk₁ => ?_
    walk_at "r"
    refine mod_int' (by decide) ?_
    walk_at "r"
    refine mod_int' (by omega) ?_
    simp only [drawZ, if_neg hlt] at hQ
    walk_at "q"
    exact hQ _ _ _ B.kp hbox
end

mutual
def cnt : Tm → Nat
  | .mk _ ks => 1 + cnts ks
def cnts : List Tm → Nat
  | [] => 0
  | t :: ts => cnt t + cnts ts
end
mutual
def hgt : Tm → Nat
  | .mk _ ks => 1 + hgts ks
def hgts : List Tm → Nat
  | [] => 0
  | t :: ts => max (hgt t) (hgts ts)
end
mutual
def TmOk : Tm → Prop
  | .mk op ks => op ∈ ltrs ∧ ks.length ≤ 2 ∧ TmsOk ks
def TmsOk : List Tm → Prop
  | [] => True
  | t :: ts => TmOk t ∧ TmsOk ts
end
theorem cnts_map : ∀ ts : List Tm, cnts ts = (ts.map cnt).sum
  | [] => by rw [cnts]; rfl
  | t :: ts => by rw [cnts, cnts_map ts]; rfl
theorem tmsOk_iff : ∀ ts : List Tm, TmsOk ts ↔ ∀ t ∈ ts, TmOk t
  | [] => by rw [TmsOk]; simp
  | t :: ts => by rw [TmsOk, tmsOk_iff ts]; simp
theorem hgt_le : ∀ {ts : List Tm} {t : Tm}, t ∈ ts → hgt t ≤ hgts ts
  | a :: ts, t, h => by
    rw [hgts]
    rcases List.mem_cons.mp h with rfl | h
    · omega
    · have := hgt_le h; omega
theorem hgts_le {n : Nat} : ∀ {ts : List Tm}, (∀ t ∈ ts, hgt t ≤ n) → hgts ts ≤ n
  | [], _ => by rw [hgts]; omega
  | a :: ts, h => by
    rw [hgts]
    have := h a (.head _)
    have := hgts_le (ts := ts) fun t q => h t (.tail _ q)
    omega
theorem hgts_mem : ∀ {ts : List Tm}, ts ≠ [] → ∃ t ∈ ts, hgt t = hgts ts
  | [a], _ => ⟨a, .head _, by rw [hgts, hgts]; omega⟩
  | a :: b :: ts, _ => by
    obtain ⟨t, ht, e⟩ := hgts_mem (ts := b :: ts) (by simp)
    rw [hgts]
    by_cases q : hgt a ≤ hgts (b :: ts)
    · exact ⟨t, .tail _ ht, by omega⟩
    · exact ⟨a, .head _, by omega⟩

theorem natCast_sum : ∀ l : List Nat, ((l.sum : Nat) : Int) = (l.map fun n : Nat => (n : Int)).sum
  | [] => rfl
  | a :: l => by rw [List.sum_cons, List.map_cons, List.sum_cons, Int.natCast_add, natCast_sum l]

/-- what the call may take of frames and of C's units -/
structure Ao (A : Around) (d : Nat) : Prop where
  handled : A.handled = none
  depth : A.depth + d < recursionLimit
  units : A.units + 8 * d + 90 < cLine
theorem Ao.deeper {A : Around} {d : Nat} (x : Ao A (d + 1)) (env : Env) : Ao (A.deeper env) d :=
  ⟨x.handled, by show A.depth + 1 + d < _; have := x.depth; omega, by show A.units + 3 + 8 * d + 90 < _; have := x.units; omega⟩
theorem Ao.le {A : Around} {d e : Nat} (x : Ao A d) (h : e ≤ d) : Ao A e := ⟨x.handled, by have := x.depth; omega, by have := x.units; omega⟩
theorem Ao.room {A : Around} {d : Nat} (x : Ao A d) : A.depth < recursionLimit := by have := x.depth; omega

theorem tmDs_get {ks : List Tm} {i : Nat} {d : PyData} (e : (tmDs ks)[i]? = some d) : ∃ t, ks[i]? = some t ∧ d = tmD t := by
  rw [tmDs_map, List.getElem?_map] at e
  obtain ⟨t, ht, rfl⟩ := Option.map_eq_some_iff.mp e
  exact ⟨t, ht, rfl⟩

section
variable {prog : Program} {w : World}
theorem count_ok : ∀ (n : Nat) (t : Tm), hgt t ≤ n → TmOk t → ∀ (A : Around) (s : Shared) (g : Heap) (v : Value) (Q E : Value → Shared → Prop), Wd w g → Kp0 g s.heap → Rd s.heap v (tmD t) → Ao A n →
    (∀ u h' tk, Kp0 s.heap h' → Q (.int (cnt t) u) { s with heap := h', toks := tk }) → wpAny (model prog w) A (call (.ref 210) [v] []) Q E s
  | 0, .mk op ks, hn, _ => by rw [hgt] at hn; omega
  | n + 1, .mk op ks, hn, ok => by
    intro A s g v Q E W st hv hA hQ
    rw [hgt] at hn
    rw [TmOk] at ok
    obtain ⟨-, hk2, oks⟩ := ok
    refine callF W st (by rfl) (by kernel_rfl) hA.room (binds := [("t", v)]) (S := No) (BindsTo.of_eq rfl) (locs rfl) (fun _ q => q.elim) (fun h₁ L B kp0 hLn => ?_) (by decide)
    obtain ⟨a, to, vs, rfl, ht, hvs⟩ := rd_tm (rd_kp hv kp0)
    walk_at "r"
    have hlen : vs.length = ks.length := by rw [rdAll_length hvs, tmDs_map, List.length_map]
    have hA' := fun env => hA.deeper env
    refine lcS (g := g) (S := No) (cl := []) rfl (by decide) rfl (by decide) rfl ?_
    refine tupFrom ?_
    walk_at "s"
    refine ⟨a, _, rfl, ht, Nat.le_refl _, by simp, by simp [sizeLine_eq]; omega, fun b h₂ tk₂ k₂ ht₂ => ?_⟩
    dsimp only at k₂
    have hvs₂ := rdAll_kp hvs k₂
    refine ⟨_, _, [b], fun i ys h => IntsAre ys ((ks.take i).map fun t => (cnt t : Int)), Src.tup (hA' _).handled ht₂ (by simp [sizeLine_eq]; omega), B.st.trans k₂, fun _ q => q.elim, fun _ q => q.elim, fun _ _ q => q.elim,
      .nil, fun _ _ _ _ x _ => x, ?_, ?_⟩
    · rintro C i x ys h₃ tk₃ Qb E' hQb hi hx hInv B₃ hC
      have hx' : vs[i]? = some x := by simpa using hx
      obtain ⟨d, hd, hr⟩ := rdAll_at hvs₂ i x hx'
      obtain ⟨t, hti, rfl⟩ := tmDs_get hd
      have htm : t ∈ ks := List.mem_of_getElem? hti
      walk_at "r"
      refine count_ok n t (by have := hgt_le htm; omega) ((tmsOk_iff ks).mp oks t htm) _ _ g _ _ _ W (by exact B₃.st) (by exact rd_kp hr B₃.kp) (hA' _) fun u h₄ tk₄ k₄ => ?_
      walk_at "q"
      refine hQb _ _ _ k₄ ?_
      show IntsAre _ _
      rw [List.take_add_one, hti, List.map_append]
      exact hInv.append (.cons _ _ .nil)
    · intro D ys h₃ tk₃ hD hl hlen' hInv k₃
      walk_at "r"
      refine sumList (hA' default).handled hl hInv fun u h₄ tk₄ k₄ => ?_
      walk_at "r"
      have hQ' : ∀ m : Int, m = cnt (.mk op ks) → ∀ u h' tk, Kp0 s.heap h' → Q (.int m u) { s with heap := h', toks := tk } := fun m e => e ▸ hQ
      walk_at "q"
      refine hQ' _ ?_ _ _ _ (kp0.trans (k₂.trans (k₃.trans k₄)))
      rw [List.drop_succ_cons, List.drop_zero, List.size_toArray, hlen, List.take_of_length_le (Nat.le_refl _), cnt, cnts_map, Int.natCast_add, natCast_sum, List.map_map]
      rfl
theorem height_ok : ∀ (n : Nat) (t : Tm), hgt t ≤ n → TmOk t → ∀ (A : Around) (s : Shared) (g : Heap) (v : Value) (Q E : Value → Shared → Prop), Wd w g → Kp0 g s.heap → Rd s.heap v (tmD t) → Ao A n →
    (∀ u h' tk, Kp0 s.heap h' → Q (.int (hgt t) u) { s with heap := h', toks := tk }) → wpAny (model prog w) A (call (.ref 215) [v] []) Q E s
  | 0, .mk op ks, hn, _ => by rw [hgt] at hn; omega
  | n + 1, .mk op ks, hn, ok => by
    intro A s g v Q E W st hv hA hQ
    rw [hgt] at hn
    rw [TmOk] at ok
    obtain ⟨-, hk2, oks⟩ := ok
    refine callF W st (by rfl) (by kernel_rfl) hA.room (binds := [("t", v)]) (S := No) (BindsTo.of_eq rfl) (locs rfl) (fun _ q => q.elim) (fun h₁ L B kp0 hLn => ?_) (by decide)
    obtain ⟨a, to, vs, rfl, ht, hvs⟩ := rd_tm (rd_kp hv kp0)
    walk_at "r"
    have hlen : vs.length = ks.length := by rw [rdAll_length hvs, tmDs_map, List.length_map]
    have hA' := fun env => hA.deeper env
    refine lcS (g := g) (S := No) (cl := []) rfl (by decide) rfl (by decide) rfl ?_
    refine tupFrom ?_
    walk_at "s"
    refine ⟨a, _, rfl, ht, Nat.le_refl _, by simp, by simp [sizeLine_eq]; omega, fun b h₂ tk₂ k₂ ht₂ => ?_⟩
    dsimp only at k₂
    have hvs₂ := rdAll_kp hvs k₂
    refine ⟨_, _, [b], fun i ys h => IntsAre ys ((ks.take i).map fun t => (hgt t : Int)), Src.tup (hA' _).handled ht₂ (by simp [sizeLine_eq]; omega), B.st.trans k₂, fun _ q => q.elim, fun _ q => q.elim, fun _ _ q => q.elim,
      .nil, fun _ _ _ _ x _ => x, ?_, ?_⟩
    · rintro C i x ys h₃ tk₃ Qb E' hQb hi hx hInv B₃ hC
      have hx' : vs[i]? = some x := by simpa using hx
      obtain ⟨d, hd, hr⟩ := rdAll_at hvs₂ i x hx'
      obtain ⟨t, hti, rfl⟩ := tmDs_get hd
      have htm : t ∈ ks := List.mem_of_getElem? hti
      walk_at "r"
      refine height_ok n t (by have := hgt_le htm; omega) ((tmsOk_iff ks).mp oks t htm) _ _ g _ _ _ W (by exact B₃.st) (by exact rd_kp hr B₃.kp) (hA' _) fun u h₄ tk₄ k₄ => ?_
      walk_at "q"
      refine hQb _ _ _ k₄ ?_
      show IntsAre _ _
      rw [List.take_add_one, hti, List.map_append]
      exact hInv.append (.cons _ _ .nil)
    · intro D ys h₃ tk₃ hD hl hlen' hInv k₃
      walk_at "r"
      refine listNew (fun z h₄ k₄ hz hz₄ => ?_) (by simp [sizeLine_eq])
      dsimp only at k₄ hz
      have hlz : ys.length = ks.length := by rw [hlen']; simp [hlen]
      refine addList (kp_list k₄ hl id) hz₄.isList (by simp [sizeLine_eq]; omega) (fun y h₅ k₅ hy hy₅ => ?_)
      dsimp only at k₅ hy
      walk_at "r"
      refine maxList (hA' default).handled hy₅.isList (hInv.append (.cons 0 _ .nil)) (by simp) fun M u h₆ tk₆ hM hle k₆ => ?_
      walk_at "r"
      have hQ' : ∀ m : Int, m = hgt (.mk op ks) → ∀ u h' tk, Kp0 s.heap h' → Q (.int m u) { s with heap := h', toks := tk } := fun m e => e ▸ hQ
      walk_at "q"
      refine hQ' _ ?_ _ _ _ (kp0.trans (k₂.trans (k₃.trans (k₄.trans (k₅.trans k₆)))))
      rw [List.drop_succ_cons, List.drop_zero, List.size_toArray, hlen, List.take_of_length_le (Nat.le_refl _)] at hM hle
      rw [hgt, Int.natCast_add]
      congr 1
      have h1 : (hgts ks : Int) ≤ M := by
        by_cases q : ks = []
        · subst q; rw [hgts]; exact hle 0 (by simp)
        · obtain ⟨t, ht', e⟩ := hgts_mem q
          rw [← e]; exact hle _ (List.mem_append_left _ (List.mem_map_of_mem ht'))
      have h2 : M ≤ hgts ks := by
        rcases List.mem_append.mp hM with q | q
        · obtain ⟨t, ht', rfl⟩ := List.mem_map.mp q
          have := hgt_le ht'; omega
        · rw [List.mem_singleton] at q; omega
      omega
end

/-! The plain law's own words: rows, the terms that they tell -/
def dfl : Tm := .mk "a" []
def grow (acc : List Tm) (nd : Nd) : List Tm := acc ++ [.mk nd.op (nd.kids.map fun k => acc.getD k.toNat dfl)]
def terms (rows : List Nd) : List Tm := rows.foldl grow []
theorem terms_snoc (rows : List Nd) (nd : Nd) : terms (rows ++ [nd]) = grow (terms rows) nd := by unfold terms; rw [List.foldl_append]; rfl
theorem foldl_grow_prefix : ∀ (b : List Nd) (acc : List Tm), ∃ t, b.foldl grow acc = acc ++ t ∧ t.length = b.length
  | [], acc => ⟨[], by simp, rfl⟩
  | nd :: b, acc => by
    obtain ⟨t, e, hl⟩ := foldl_grow_prefix b (grow acc nd)
    refine ⟨.mk nd.op (nd.kids.map fun k => acc.getD k.toNat dfl) :: t, ?_, by simp [hl]⟩
    rw [List.foldl_cons, e, grow, List.append_assoc]; rfl
theorem terms_append (a b : List Nd) : ∃ t, terms (a ++ b) = terms a ++ t ∧ t.length = b.length := by
  obtain ⟨t, e, hl⟩ := foldl_grow_prefix b (terms a)
  exact ⟨t, by unfold terms at e ⊢; rw [List.foldl_append, e], hl⟩
theorem terms_length (rows : List Nd) : (terms rows).length = rows.length := by
  obtain ⟨t, e, hl⟩ := foldl_grow_prefix rows []
  unfold terms; rw [e]; simpa using hl
theorem terms_getD_append (a b : List Nd) {i : Nat} (h : i < a.length) : (terms (a ++ b)).getD i dfl = (terms a).getD i dfl := by
  obtain ⟨t, e, _⟩ := terms_append a b
  rw [e]
  simp only [List.getD]
  rw [List.getElem?_append_left (by rw [terms_length]; exact h)]
/-- rows as a bank may have them -/
structure RowsOk (rows : List Nd) : Prop where
  op : ∀ nd ∈ rows, nd.op ∈ ltrs ∧ nd.kids.length ≤ 2
  kid : ∀ (i : Nat) (nd : Nd), rows[i]? = some nd → ∀ k : Int, k ∈ nd.kids → 0 ≤ k ∧ k < i
  nodup : rows.Nodup
theorem RowsOk.nil : RowsOk [] := ⟨fun _ h => by simp at h, fun _ _ h => by simp at h, List.nodup_nil⟩
theorem RowsOk.left {a b : List Nd} (x : RowsOk (a ++ b)) : RowsOk a where
  op := fun nd h => x.op nd (List.mem_append_left _ h)
  kid := fun i nd e => x.kid i nd (by rw [List.getElem?_append_left (List.getElem?_eq_some_iff.mp e).1]; exact e)
  nodup := (List.nodup_append.mp x.nodup).1
theorem RowsOk.take {a : List Nd} (x : RowsOk a) (n : Nat) : RowsOk (a.take n) := by
  rw [← List.take_append_drop n a] at x; exact x.left
theorem terms_at {rows : List Nd} (ok : RowsOk rows) {i : Nat} {nd : Nd} (h : rows[i]? = some nd) : (terms rows).getD i dfl = .mk nd.op (nd.kids.map fun k => (terms rows).getD k.toNat dfl) := by
  have hi := (List.getElem?_eq_some_iff.mp h).1
  have e : rows = rows.take i ++ [nd] ++ rows.drop (i + 1) := by
    conv => lhs; rw [← List.take_append_drop (i + 1) rows]
    rw [List.take_add_one, h]; rfl
  have hl : (rows.take i).length = i := by rw [List.length_take]; omega
  have kids : nd.kids.map (fun k => (terms rows).getD k.toNat dfl) = nd.kids.map fun k => (terms (rows.take i)).getD k.toNat dfl := by
    refine List.map_congr_left fun k hk => ?_
    have hk := ok.kid i nd h k hk
    conv => lhs; rw [e, List.append_assoc]
    exact terms_getD_append _ _ (by rw [hl]; omega)
  rw [kids]
  have z : (terms (rows.take i ++ [nd] ++ rows.drop (i + 1))).getD i dfl = (terms (rows.take i ++ [nd])).getD i dfl := terms_getD_append _ _ (by simp [hl])
  rw [← e] at z
  rw [z, terms_snoc, grow]
  simp only [List.getD]
  rw [List.getElem?_append_right (by rw [terms_length, hl]; exact Nat.le_refl _), terms_length, hl, Nat.sub_self]
  rfl
abbrev tm (rows : List Nd) (i : Nat) : Tm := (terms rows).getD i dfl
theorem tm_ok {rows : List Nd} (ok : RowsOk rows) : ∀ i, i < rows.length → TmOk (tm rows i) := by
  intro i
  induction i using Nat.strongRecOn with
  | ind i ih =>
    intro hi
    have h := List.getElem?_eq_getElem hi
    show TmOk ((terms rows).getD i dfl)
    rw [terms_at ok h, TmOk, tmsOk_iff]
    have o := ok.op _ (List.mem_of_getElem? h)
    refine ⟨o.1, by rw [List.length_map]; exact o.2, fun t ht => ?_⟩
    obtain ⟨k, hk, rfl⟩ := List.mem_map.mp ht
    have := ok.kid i _ h k hk
    exact ih k.toNat (by omega) (by omega)
theorem tm_kid_hgt {rows : List Nd} (ok : RowsOk rows) {i : Nat} {nd : Nd} (h : rows[i]? = some nd) {k : Int} (hk : k ∈ nd.kids) : hgt (tm rows k.toNat) < hgt (tm rows i) := by
  show _ < hgt ((terms rows).getD i dfl)
  rw [terms_at ok h, hgt]
  have : hgt (tm rows k.toNat) ≤ hgts (nd.kids.map fun k => (terms rows).getD k.toNat dfl) := hgt_le (List.mem_map_of_mem hk)
  omega

def addNd (rows : List Nd) (nd : Nd) : List Nd × Nat := if nd ∈ rows then (rows, rows.idxOf nd) else (rows ++ [nd], rows.length)
def nats (l : List Nat) : List Int := l.map fun n : Nat => (n : Int)
mutual
def put : Tm → List Nd → List Nd × Nat
  | .mk op ks, rows => addNd (puts ks rows).1 ⟨op, nats (puts ks rows).2⟩
def puts : List Tm → List Nd → List Nd × List Nat
  | [], rows => (rows, [])
  | t :: ts, rows => ((puts ts (put t rows).1).1, (put t rows).2 :: (puts ts (put t rows).1).2)
end
theorem puts_snoc : ∀ (a : List Tm) (t : Tm) (rows : List Nd), puts (a ++ [t]) rows = ((put t (puts a rows).1).1, (puts a rows).2 ++ [(put t (puts a rows).1).2])
  | [], t, rows => by rw [List.nil_append, puts, puts, puts]; rfl
  | b :: a, t, rows => by rw [List.cons_append, puts, puts_snoc a t, puts]; rfl

/-- what rows' has of rows, where a part was put whose terms are no higher than H -/
structure Grown (rows rows' : List Nd) (c H : Nat) : Prop where
  ok : RowsOk rows'
  pre : ∃ x, rows' = rows ++ x
  len : rows'.length ≤ rows.length + c
  hgt : ∀ i, rows.length ≤ i → i < rows'.length → hgt (tm rows' i) ≤ H
theorem Grown.refl {rows : List Nd} (ok : RowsOk rows) (c H : Nat) : Grown rows rows c H := ⟨ok, ⟨[], by simp⟩, by omega, fun i a b => by omega⟩
theorem Grown.tm_eq {rows rows' : List Nd} {c H : Nat} (x : Grown rows rows' c H) {i : Nat} (h : i < rows.length) : tm rows' i = tm rows i := by
  obtain ⟨y, rfl⟩ := x.pre
  exact terms_getD_append rows y h
theorem Grown.le {rows rows' : List Nd} {c H : Nat} (x : Grown rows rows' c H) : rows.length ≤ rows'.length := by
  obtain ⟨y, rfl⟩ := x.pre
  simp
theorem Grown.trans {a b c : List Nd} {m n G H : Nat} (x : Grown a b m G) (y : Grown b c n H) : Grown a c (m + n) (max G H) where
  ok := y.ok
  pre := by
    obtain ⟨u, rfl⟩ := x.pre
    obtain ⟨v, rfl⟩ := y.pre
    exact ⟨u ++ v, by simp⟩
  len := by have := x.len; have := y.len; omega
  hgt := fun i h1 h2 => by
    by_cases q : i < b.length
    · rw [y.tm_eq q]; have := x.hgt i h1 q; omega
    · have := y.hgt i (by omega) h2; omega
theorem Grown.mono {a b : List Nd} {m n G H : Nat} (x : Grown a b m G) (h1 : m ≤ n) (h2 : G ≤ H) : Grown a b n H :=
  ⟨x.ok, x.pre, by have := x.len; omega, fun i a b => by have := x.hgt i a b; omega⟩

theorem getElem?_of_idxOf {rows : List Nd} {nd : Nd} (h : nd ∈ rows) : rows[rows.idxOf nd]? = some nd := by
  have hj : rows.idxOf nd < rows.length := List.idxOf_lt_length_iff.mpr h
  rw [List.getElem?_eq_getElem hj, List.getElem_idxOf hj]
theorem addNd_ok {rows : List Nd} (ok : RowsOk rows) {nd : Nd} (ho : nd.op ∈ ltrs) (hk : nd.kids.length ≤ 2) (hl : ∀ k : Int, k ∈ nd.kids → 0 ≤ k ∧ k < rows.length) :
    Grown rows (addNd rows nd).1 1 (1 + hgts (nd.kids.map fun k => tm rows k.toNat)) ∧ (addNd rows nd).2 < (addNd rows nd).1.length ∧ (addNd rows nd).1[(addNd rows nd).2]? = some nd ∧
    tm (addNd rows nd).1 (addNd rows nd).2 = .mk nd.op (nd.kids.map fun k => tm rows k.toNat) := by
  unfold addNd
  by_cases h : nd ∈ rows
  · rw [if_pos h]
    have hg := getElem?_of_idxOf h
    exact ⟨Grown.refl ok _ _, List.idxOf_lt_length_iff.mpr h, hg, terms_at ok hg⟩
  · rw [if_neg h]
    have hg : (rows ++ [nd])[rows.length]? = some nd := by simp
    have ok' : RowsOk (rows ++ [nd]) := by
      refine ⟨fun n hn => ?_, fun i n hn k hkn => ?_, ?_⟩
      · rcases List.mem_append.mp hn with q | q
        · exact ok.op n q
        · rw [List.mem_singleton] at q; subst q; exact ⟨ho, hk⟩
      · by_cases q : i < rows.length
        · rw [List.getElem?_append_left q] at hn; exact ok.kid i n hn k hkn
        · have hi := (List.getElem?_eq_some_iff.mp hn).1
          rw [List.length_append, List.length_singleton] at hi
          obtain rfl : i = rows.length := by omega
          rw [hg] at hn; cases hn
          exact hl k hkn
      · rw [List.nodup_append]
        refine ⟨ok.nodup, by simp, fun a ha b hb => ?_⟩
        rw [List.mem_singleton] at hb; subst hb
        rintro rfl; exact h ha
    have e : tm (rows ++ [nd]) rows.length = .mk nd.op (nd.kids.map fun k => tm rows k.toNat) := by
      show (terms (rows ++ [nd])).getD rows.length dfl = _
      rw [terms_at ok' hg]
      congr 1
      refine List.map_congr_left fun k hkn => ?_
      have := hl k hkn
      exact terms_getD_append rows [nd] (by omega)
    refine ⟨⟨ok', ⟨[nd], rfl⟩, by simp, fun i h1 h2 => ?_⟩, by simp, hg, e⟩
    rw [List.length_append, List.length_singleton] at h2
    obtain rfl : i = rows.length := by omega
    rw [e, Mine.hgt]; exact Nat.le_refl _

theorem nats_mem {l : List Nat} {k : Int} (h : k ∈ nats l) : ∃ n ∈ l, k = n := by
  obtain ⟨n, hn, rfl⟩ := List.mem_map.mp h
  exact ⟨n, hn, rfl⟩
theorem nats_length (l : List Nat) : (nats l).length = l.length := List.length_map ..
mutual
theorem put_ok : ∀ (t : Tm) {rows : List Nd}, RowsOk rows → TmOk t → Grown rows (put t rows).1 (cnt t) (hgt t) ∧ (put t rows).2 < (put t rows).1.length ∧ tm (put t rows).1 (put t rows).2 = t
  | .mk op ks, rows, ok, ht => by
    rw [TmOk] at ht
    obtain ⟨ho, hk, hs⟩ := ht
    obtain ⟨G, hlen, hlt, he⟩ := puts_ok ks ok hs
    have hkid : ∀ k : Int, k ∈ nats (puts ks rows).2 → 0 ≤ k ∧ k < (puts ks rows).1.length := fun k hk => by
      obtain ⟨n, hn, rfl⟩ := nats_mem hk
      have := hlt n hn; omega
    have hmap : (nats (puts ks rows).2).map (fun k => tm (puts ks rows).1 k.toNat) = ks := by
      unfold nats; rw [List.map_map]; exact he
    obtain ⟨G', h2, h3, h4⟩ := addNd_ok G.ok (nd := ⟨op, nats (puts ks rows).2⟩) ho (by show (nats _).length ≤ 2; rw [nats_length, hlen]; exact hk) hkid
    rw [put, cnt, hgt]
    rw [hmap] at G' h4
    exact ⟨(G.trans G').mono (by omega) (by omega), h2, h4⟩
theorem puts_ok : ∀ (ts : List Tm) {rows : List Nd}, RowsOk rows → TmsOk ts → Grown rows (puts ts rows).1 (cnts ts) (hgts ts) ∧ (puts ts rows).2.length = ts.length ∧ (∀ n ∈ (puts ts rows).2, n < (puts ts rows).1.length) ∧
    (puts ts rows).2.map (fun n : Nat => tm (puts ts rows).1 n) = ts
  | [], rows, ok, _ => by rw [puts]; exact ⟨Grown.refl ok _ _, rfl, fun n h => by simp at h, rfl⟩
  | t :: ts, rows, ok, h => by
    rw [TmsOk] at h
    obtain ⟨G, hlt, e⟩ := put_ok t ok h.1
    obtain ⟨G', hlen, hlts, es⟩ := puts_ok ts G.ok h.2
    rw [puts, cnts, hgts]
    refine ⟨G.trans G', by simp [hlen], fun n hn => ?_, ?_⟩
    · rcases List.mem_cons.mp hn with rfl | hn
      · exact Nat.lt_of_lt_of_le hlt G'.le
      · exact hlts n hn
    · rw [List.map_cons, es, G'.tm_eq hlt, e]
end

theorem plain_kp {S : Addr → Prop} {h h' : Heap} {a : Addr} {its : Array Value} (x : h.PlainList a its) (k : Kp S h h') (n : ¬ S a) : h'.PlainList a its := let ⟨m, e⟩ := x; ⟨m, k.keep _ _ e n⟩
theorem plain_at {h : Heap} {a : Addr} {its : Array Value} (x : h.PlainList a its) : ∃ o, h.get? a = some o := let ⟨_, e⟩ := x; ⟨_, e⟩
/-- a list that holds rows -/
def RowsAt (h : Heap) (l : Addr) (rows : List Nd) : Prop := ∃ vs, h.PlainList l (List.toArray vs) ∧ RdAll h vs (rows.map Nd.data)
theorem RowsAt.kp {S : Addr → Prop} {h h' : Heap} {l : Addr} {rows : List Nd} (x : RowsAt h l rows) (k : Kp S h h') (n : ¬ S l) : RowsAt h' l rows := let ⟨vs, a, b⟩ := x; ⟨vs, plain_kp a k n, rdAll_kp b k⟩
theorem RowsAt.get {h : Heap} {rows : List Nd} {vs : List Value} (b : RdAll h vs (rows.map Nd.data)) {i : Nat} {nd : Nd} (e : rows[i]? = some nd) : ∃ v, vs[i]? = some v ∧ Rd h v nd.data :=
  rdAll_get b i nd.data (by rw [List.getElem?_map, e]; rfl)
theorem RowsAt.at_ {h : Heap} {l : Addr} {rows : List Nd} (x : RowsAt h l rows) : ∃ o, h.get? l = some o := let ⟨_, a, _⟩ := x; plain_at a
theorem RowsAt.noTup {h : Heap} {l : Addr} {rows : List Nd} (x : RowsAt h l rows) : ∀ o, h.get? l = some o → ¬ IsT o := let ⟨_, a, _⟩ := x; list_noTup a.isList
theorem RowsAt.reads {h : Heap} {l : Addr} {rows : List Nd} (x : RowsAt h l rows) : ∃ as, PySem.Reads h (.ref l) (.list (rows.map Nd.data)) as := by
  obtain ⟨vs, ⟨n, e⟩, b⟩ := x
  exact ⟨_, .list e rfl rfl b⟩
theorem canLay_rows : ∀ {rows : List Nd}, (∀ nd ∈ rows, nd.op ∈ ltrs) → PyData.canLayAll0 (rows.map Nd.data) = true
  | [], _ => by simp [PyData.canLayAll0]
  | a :: r, h => by rw [List.map_cons, PyData.canLayAll0, canLay_nd (h a (.head _)), canLay_rows fun nd q => h nd (.tail _ q)]; rfl
theorem idxOf_le {α : Type} [DecidableEq α] {x : α} : ∀ {l : List α} {m : Nat}, l[m]? = some x → l.idxOf x ≤ m
  | a :: l, 0, h => by simp at h; subst h; simp
  | a :: l, m + 1, h => by
    rw [List.idxOf_cons]
    cases hb : a == x with
    | true => simp
    | false => simpa using idxOf_le (by simpa using h)
theorem any_nd (rows : List Nd) (nd : Nd) : ((rows.map Nd.data).any fun y => PyData.eqv y nd.data) = decide (nd ∈ rows) := by
  rw [List.any_map]
  induction rows with
  | nil => rfl
  | cons a r ih =>
    rw [List.any_cons, ih]
    simp only [Function.comp, eqv_nd, List.mem_cons, Bool.decide_or]
    congr 1
    by_cases h : a = nd
    · simp [h]
    · rw [decide_eq_false h, decide_eq_false fun q => h q.symm]

section
variable {prog : Program} {w : World} {A : Around} {E : Value → Shared → Prop} {s : Shared} {Q : Value → Shared → Prop} {l : Addr}
theorem inRows {rows : List Nd} {v : Value} {nd : Nd} (hr : RowsAt s.heap l rows) (ho : ∀ nd ∈ rows, nd.op ∈ ltrs) (hv : Rd s.heap v nd.data) (hn : nd.op ∈ ltrs) (hu : A.units + 3 < cLine) (h : Q (.bool (decide (nd ∈ rows))) s) :
    wpAny (model prog w) A (compareOp .In v (.ref l)) Q E s := by
  obtain ⟨as, rc⟩ := hr.reads
  exact PySem.SeqAt.in_list_reads rc hv (canLay_rows ho) (canLay_nd hn) (by rw [depth_nd]; omega) (by rw [any_nd]; exact h)
theorem notInRows {rows : List Nd} {v : Value} {nd : Nd} (hr : RowsAt s.heap l rows) (ho : ∀ nd ∈ rows, nd.op ∈ ltrs) (hv : Rd s.heap v nd.data) (hn : nd.op ∈ ltrs) (hu : A.units + 3 < cLine) (h : Q (.bool (!decide (nd ∈ rows))) s) :
    wpAny (model prog w) A (compareOp .NotIn v (.ref l)) Q E s := by
  obtain ⟨as, rc⟩ := hr.reads
  exact PySem.SeqAt.notIn_list_reads rc hv (canLay_rows ho) (canLay_nd hn) (by rw [depth_nd]; omega) (by rw [any_nd]; exact h)
theorem gmList {its : Array Value} {name : Str} {id : String} {pl : Sem Bool} {Q : Value × List Value → Shared → Prop} (hl : s.heap.PlainList l its) (slot : Slot "list" name id) (hty : typeOf (.builtin id) = pure (.type "method_descriptor"))
    (h : Q (.builtin id, [.ref l]) s) : wpAny (model prog w) A (getMethod (.ref l) name pl) Q E s :=
  let ⟨_, e⟩ := hl; getMethod_builtin ⟨_, e, rfl⟩ PySem.F.plainAttrs_list slot hty (fun a q => by cases q; exact ⟨_, e, rfl⟩) h
theorem appendL {its : List Value} {x : Value} (hl : s.heap.PlainList l its.toArray) (hsz : its.length ≤ sizeLine) (h : ∀ h', h'.PlainList l (its ++ [x]).toArray → Heap.SameBut l s.heap h' → Q .none { s with heap := h' }) :
    wpAny (model prog w) A (call (.builtin "list.append") [.ref l, x]) Q E s :=
  wpAny_list_append_plain (hsz := by simpa using hsz) hl fun h' a b => h h' (by simpa using a) b
theorem indexRows {rows : List Nd} {v : Value} {nd : Nd} (hr : RowsAt s.heap l rows) (ho : ∀ nd ∈ rows, nd.op ∈ ltrs) (hv : Rd s.heap v nd.data) (hm : nd ∈ rows) (hsz : rows.length < 100000) (hu : A.units + 3 < cLine)
    (h : ∀ t tk, Q (.int (rows.idxOf nd : Nat) t) { s with toks := tk }) : wpAny (model prog w) A (call (.builtin "list.index") [.ref l, v]) Q E s := by
  obtain ⟨vs, ⟨n, e⟩, b⟩ := hr
  have hlen : vs.length = rows.length := by rw [rdAll_length b, List.length_map]
  have hj : rows.idxOf nd < rows.length := List.idxOf_lt_length_iff.mpr hm
  have f1 := PySem.SeqAt.items_eqAt (A := A) (vs := vs.toArray) (by simpa using b) hv (canLay_rows ho) (canLay_nd (ho _ hm)) (by rw [depth_nd]; omega)
  have at_ : ∀ (i : Nat) (hi : i < vs.length), PyData.eqv (PySem.SeqAt.readOf s.heap vs[i]) nd.data = decide (rows[i]'(by omega) = nd) := fun i hi => by
    obtain ⟨u, hu', hru⟩ := RowsAt.get b (List.getElem?_eq_getElem (show i < rows.length by omega))
    rw [List.getElem?_eq_getElem hi] at hu'
    cases hu'
    rw [PySem.SeqAt.readOf_eq (canLay_nd (ho _ (List.getElem_mem _))) hru, eqv_nd]
  refine call_meets PySem.F.slot_list_index ⟨_, e, rfl⟩ PySem.F.entry_list_index (PySem.F.args_list_index_2 _ _)
    (PySem.SeqAt.list_indexAt l vs.toArray n none #[] v (fun y => PyData.eqv (PySem.SeqAt.readOf s.heap y) nd.data) (rows.idxOf nd) (by simp; omega) (by omega) ?_ ?_) ⟨e, f1, h _ _⟩
  · have q := at_ (rows.idxOf nd) (by omega)
    rw [decide_eq_true (List.getElem_idxOf hj)] at q
    simpa using q
  · intro m hm' hlt
    have q := at_ m (by simpa using hm')
    rw [decide_eq_false fun z => ?_] at q
    · simpa using q
    · have z1 : rows.idxOf nd ≤ m := by
        exact idxOf_le ((List.getElem?_eq_getElem (by have := hm'; simp at this; omega)).trans (congrArg some z))
      omega
end

section
variable {prog : Program} {w : World}
theorem term_ok {rows : List Nd} (ok : RowsOk rows) (hsz : rows.length < 100000) : ∀ (n i : Nat), i < rows.length → hgt (tm rows i) ≤ n → ∀ (A : Around) (s : Shared) (g : Heap) (l : Addr) (t : Tok) (Q E : Value → Shared → Prop), Wd w g → Kp0 g s.heap → RowsAt s.heap l rows → Ao A n →
    (∀ v h' tk, Kp0 s.heap h' → Rd h' v (tmD (tm rows i)) → Q v { s with heap := h', toks := tk }) → wpAny (model prog w) A (call (.ref 205) [.ref l, .int i t] []) Q E s
  | 0, i, hi, hn => by
    have h := terms_at ok (List.getElem?_eq_getElem hi)
    rw [tm, h, hgt] at hn; omega
  | n + 1, i, hi, hn => by
    intro A s g l t Q E W st hr hA hQ
    have hnd := List.getElem?_eq_getElem hi
    generalize rows[i] = nd at hnd
    have htm := terms_at ok hnd
    refine callFC W st (by rfl) (by kernel_rfl) hA.room (binds := [("rows", .ref l), ("n", .int i t)]) (l := [("n", .int i t)]) (S := No) (BindsTo.of_eq rfl) (by rfl) (by rfl) (fun _ q => q.elim) (fun h₁ L tk₁ B kp0 hLn hcs => ?_)
    obtain ⟨hc, hcn, hcL⟩ := hcs "rows" (L + 1) rfl
    change h₁.IsCell (L + 1) (some (.ref l)) at hc
    obtain ⟨vs, hl, hvs⟩ := hr.kp kp0 id
    have hA' := fun env => hA.deeper env
    walk_at "r"
    obtain ⟨v, hv, hrv⟩ := RowsAt.get hvs hnd
    obtain ⟨a, to, ks, rfl, hta, hks⟩ := rd_nd hrv
    have o := ok.op nd (List.mem_of_getElem? hnd)
    have hkl : ks.length = nd.kids.length := hks.length
    refine listItem hl.isList (by omega) (by omega) (by simpa using hv) ?_
    walk_at "r"
    refine tupItem (j := 0) hta rfl (by decide) rfl ?_
    walk_at "r"
    refine tupleNew (fun b h₂ k₂ htb => ?_) (by simp [sizeLine_eq])
    dsimp only at k₂
    replace B := B.step0 k₂
    replace hc := cell_kp hc k₂ id
    replace hl := plain_kp hl k₂ id
    replace hta := tup_kp hta k₂
    walk_at "r"
    refine lcS (g := g) (S := No) (cl := [("rows", L + 1)]) rfl (by decide) rfl (by decide) rfl ?_
    refine tupFrom ?_
    walk_at "r"
    refine listItem hl.isList (by omega) (by omega) (by simpa using hv) ?_
    refine ⟨a, _, rfl, hta, Nat.le_refl _, by simp, by simp [sizeLine_eq]; omega, fun d h₃ tk₃ k₃ htd => ?_⟩
    dsimp only at k₃
    have hcell := cell_kp hc k₃ id
    have hl₃ := plain_kp hl k₃ id
    have hvs₃ := rdAll_kp (rdAll_kp hvs k₂) k₃
    refine ⟨_, _, [d], fun i ys h => RdAll h ys ((nd.kids.take i).map fun k => tmD (tm rows k.toNat)), Src.tup (hA' _).handled htd (by simp [sizeLine_eq]; omega), B.st.trans k₃, fun _ q => q.elim, fun _ q => q.elim, fun _ _ q => q.elim,
      .nil, fun _ _ _ _ x k => rdAll_kp x k, ?_, ?_⟩
    · rintro C j x ys h₄ tk₄ Qb E' hQb hj hx hInv B₃ hC
      have hx' : ks[j]? = some x := by simpa using hx
      have hjl : j < nd.kids.length := by rw [← hkl]; exact (List.getElem?_eq_some_iff.mp hx').1
      obtain ⟨u, hu⟩ := hks.get j _ (List.getElem?_eq_getElem hjl)
      rw [hx'] at hu; cases hu
      have hmem := List.getElem_mem hjl
      have hkid := ok.kid i nd hnd _ hmem
      have hlt := tm_kid_hgt ok hnd hmem
      generalize hke : nd.kids[j] = k at *
      obtain ⟨kn, rfl⟩ := Int.eq_ofNat_of_zero_le hkid.1
      have hcell := cell_kp hcell B₃.kp id
      walk_at "r"
      refine term_ok ok hsz n kn (by omega) (by simp only [Int.toNat_natCast] at hlt; omega) _ _ g _ _ _ _ W (by exact B₃.st) (by exact RowsAt.kp ⟨vs, hl₃, hvs₃⟩ B₃.kp id) (hA' _) fun v h₅ tk₅ k₅ hv₅ => ?_
      walk_at "q"
      refine hQb _ _ _ k₅ ?_
      show RdAll _ _ _
      rw [List.take_add_one, List.getElem?_eq_getElem hjl, hke, List.map_append]
      exact rdAll_append (rdAll_kp hInv k₅) (rdCons hv₅ .nil)
    · intro D ys h₄ tk₄ hD hl₄ hlen' hInv k₄
      walk_at "r"
      have hys : ys.length = nd.kids.length := by rw [hlen']; simp [hkl]
      refine tupOfList hl₄ (by rw [sizeLine_eq]; omega) fun e h₅ k₅ hte => ?_
      dsimp only at k₅
      refine addTup (tup_kp htb (k₃.trans (k₄.trans k₅))) hte (by simp) (by simp [sizeLine_eq]; omega) fun z h₆ k₆ htz => ?_
      dsimp only at k₆
      walk_at "r"
      walk_at "q"
      refine hQ _ _ _ (kp0.trans (k₂.trans (k₃.trans (k₄.trans (k₅.trans k₆))))) ?_
      show Rd _ _ (tmD ((terms rows).getD i dfl))
      rw [htm]
      refine tm_rd htz ?_
      rw [List.drop_succ_cons, List.drop_zero, List.size_toArray, hkl, List.take_of_length_le (Nat.le_refl _)] at hInv
      have q := rdAll_kp (rdAll_kp hInv k₅) k₆
      rw [tmDs_map, List.map_map]
      exact q
end

theorem cnts_append : ∀ a b : List Tm, cnts (a ++ b) = cnts a + cnts b
  | [], b => by rw [List.nil_append, cnts]; omega
  | t :: a, b => by rw [List.cons_append, cnts, cnts, cnts_append a b]; omega
theorem cnts_take_le (ts : List Tm) (i : Nat) : cnts (ts.take i) ≤ cnts ts := by
  conv => rhs; rw [← List.take_append_drop i ts, cnts_append]
  omega
theorem cnts_take_get {ts : List Tm} {i : Nat} {t : Tm} (h : ts[i]? = some t) : cnts (ts.take i) + cnt t ≤ cnts ts := by
  have := cnts_take_le ts (i + 1)
  rw [List.take_add_one, h, cnts_append] at this
  simp only [Option.toList, cnts] at this
  omega
theorem tmsOk_take {ts : List Tm} (h : TmsOk ts) (i : Nat) : TmsOk (ts.take i) := (tmsOk_iff _).mpr fun t q => (tmsOk_iff _).mp h t (List.mem_of_mem_take q)
section
variable {prog : Program} {w : World}
theorem lput_ok : ∀ (n : Nat) (t : Tm), hgt t ≤ n → TmOk t → ∀ (A : Around) (s : Shared) (g : Heap) (l : Addr) (v : Value) (rows : List Nd) (Q E : Value → Shared → Prop), Wd w g → Kp0 g s.heap → RowsAt s.heap l rows → RowsOk rows → rows.length + cnt t < 100000 → Rd s.heap v (tmD t) → Ao A n → g.get? l = none →
    (∀ u h' tk, Kp (· = l) s.heap h' → RowsAt h' l (put t rows).1 → Q (.int ((put t rows).2 : Nat) u) { s with heap := h', toks := tk }) → wpAny (model prog w) A (call (.ref 200) [.ref l, v] []) Q E s
  | 0, .mk op ks, hn, _ => by rw [hgt] at hn; omega
  | n + 1, .mk op ks, hn, ok => by
    intro A s g l v rows Q E W st hr hok hsz hv hA hlg hQ
    rw [hgt] at hn
    have ok' := ok
    rw [TmOk] at ok
    rw [cnt] at hsz
    obtain ⟨hop, hk2, oks⟩ := ok
    have hfar : ∀ a, a = l → g.get? a = none := fun a e => e ▸ hlg
    obtain ⟨ol, hol⟩ := hr.at_
    refine callFC W st (by rfl) (by kernel_rfl) hA.room (binds := [("rows", .ref l), ("t", v)]) (l := [("t", v)]) (S := (· = l)) (BindsTo.of_eq rfl) (by rfl) (by rfl) hfar (fun h₁ L tk₁ B kp0 hLn hcs => ?_)
    obtain ⟨hc, hcn, hcL⟩ := hcs "rows" (L + 1) rfl
    change h₁.IsCell (L + 1) (some (.ref l)) at hc
    have hlc : L + 1 ≠ l := fun q => by rw [q, hol] at hcn; cases hcn
    have hlL : l ≠ L := fun q => by rw [q, hLn] at hol; cases hol
    replace hr := hr.kp kp0 id
    obtain ⟨a, to, vs, rfl, ht, hvs⟩ := rd_tm (rd_kp hv kp0)
    have hA' := fun env => hA.deeper env
    have hlen : vs.length = ks.length := by rw [rdAll_length hvs, tmDs_map, List.length_map]
    walk_at "r"
    refine tupItem (j := 0) ht rfl (by decide) rfl ?_
    walk_at "r"
    refine tupleNew (fun b h₂ k₂ htb => ?_) (by simp [sizeLine_eq])
    dsimp only at k₂
    replace B := B.step0 k₂
    replace hc := cell_kp hc k₂ id
    replace hr := hr.kp k₂ id
    replace ht := tup_kp ht k₂
    replace hvs := rdAll_kp hvs k₂
    walk_at "r"
    refine lcS (g := g) (S := (· = l)) (cl := [("rows", L + 1)]) rfl (by decide) rfl (by decide) rfl ?_
    refine tupFrom ?_
    walk_at "r"
    refine ⟨a, _, rfl, ht, Nat.le_refl _, by simp, by simp [sizeLine_eq]; omega, fun d h₃ tk₃ k₃ htd => ?_⟩
    dsimp only at k₃
    have hcell := cell_kp hc k₃ id
    have hr₃ := hr.kp k₃ id
    have hvs₃ := rdAll_kp hvs k₃
    obtain ⟨ol₃, hol₃⟩ := hr₃.at_
    have hdl : d ≠ l := fun q => by subst q; obtain ⟨o, ho, r⟩ := id htd; exact hr₃.noTup o ho ⟨r.1, _, r.2⟩
    refine ⟨_, _, [d], fun i ys h => RowsAt h l (puts (ks.take i) rows).1 ∧ IntsAre ys (nats (puts (ks.take i) rows).2), Src.tup (hA' _).handled htd (by simp [sizeLine_eq]; omega), B.st.trans k₃, hfar, ?_, ?_, ?_, ?_, ?_, ?_⟩
    · rintro a rfl; exact ⟨_, hol₃⟩
    · intro b hb; rw [List.mem_singleton] at hb; rw [hb]; exact hdl
    · show RowsAt _ _ _ ∧ _
      rw [List.take_zero, puts]
      exact ⟨hr₃, .nil⟩
    · rintro i ys h h' ⟨x, y⟩ k
      exact ⟨x.kp k fun q => by (dsimp only at q; rw [hol₃] at q; cases q), y⟩
    · rintro C j x ys h₄ tk₄ Qb E' hQb hj hx ⟨hI1, hI2⟩ B₃ hC
      have hx' : vs[j]? = some x := by simpa using hx
      obtain ⟨dd, hd, hrd⟩ := rdAll_at hvs₃ j x hx'
      obtain ⟨t, hti, rfl⟩ := tmDs_get hd
      have htm : t ∈ ks := List.mem_of_getElem? hti
      obtain ⟨G, -, -, -⟩ := puts_ok (ks.take j) hok (tmsOk_take oks j)
      have hb := cnts_take_get hti
      have hGl := G.len
      have hcell := cell_kp hcell B₃.kp hlc
      walk_at "r"
      refine lput_ok n t (by have := hgt_le htm; omega) ((tmsOk_iff ks).mp oks t htm) _ _ g _ _ _ _ _ W (by exact B₃.st) hI1 G.ok (by omega) (by exact rd_kp hrd B₃.kp) (hA' _) hlg fun u h₅ tk₅ k₅ hr₅ => ?_
      walk_at "q"
      refine hQb _ _ _ k₅ ?_
      show RowsAt _ _ _ ∧ _
      have e : ks.take (j + 1) = ks.take j ++ [t] := by rw [List.take_add_one, hti]; rfl
      have e2 := puts_snoc (ks.take j) t rows
      rw [e, e2]
      refine ⟨hr₅, ?_⟩
      show IntsAre _ (nats (_ ++ _))
      unfold nats
      rw [List.map_append]
      exact hI2.append (.cons _ _ .nil)
    · intro D ys h₄ tk₄ hD hl₄ hlen' hInv k₄
      obtain ⟨hI1, hI2⟩ : RowsAt h₄ l (puts (ks.take ks.length) rows).1 ∧ IntsAre ys (nats (puts (ks.take ks.length) rows).2) := by
        have e : (List.drop 1 (Value.str op to :: vs)).toArray.size = ks.length := by simp [hlen]
        rw [e] at hInv; exact hInv
      rw [List.take_length] at hI1 hI2
      obtain ⟨G, hpl, hplt, hpe⟩ := puts_ok ks hok oks
      have hGl := G.len
      have hys : ys.length = ks.length := by rw [hlen']; simp [hlen]
      have B := (B.step0 k₃).step k₄ fun a q => ⟨.inl q, fun z => hlL (q.symm.trans z)⟩
      replace hcell := cell_kp hcell k₄ hlc
      walk_at "r"
      refine tupOfList hl₄ (by rw [sizeLine_eq]; omega) fun e h₅ k₅ hte => ?_
      dsimp only at k₅
      refine addTup (tup_kp (tup_kp (tup_kp htb k₃) k₄) k₅) hte (by simp) (by simp [sizeLine_eq]; omega) fun z h₆ k₆ htz => ?_
      dsimp only at k₆
      replace B := (B.step0 k₅).step0 k₆
      replace hcell := cell_kp (cell_kp hcell k₅ id) k₆ id
      replace hI1 := (hI1.kp k₅ id).kp k₆ id
      generalize hnd : (⟨op, nats (puts ks rows).2⟩ : Nd) = nd
      have hrz : Rd h₆ (.ref z) nd.data := by rw [← hnd]; exact nd_rd htz hI2
      have hndo : nd.op ∈ ltrs := by rw [← hnd]; exact hop
      have hput : put (.mk op ks) rows = addNd (puts ks rows).1 nd := by rw [put, hnd]
      rw [hput] at hQ
      generalize (puts ks rows).1 = rows₁ at *
      walk_at "r"
      intro h₇ B hs₇
      have k₇ : Kp (fun a => a = L) h₆ h₇ := Kp.same hs₇ rfl (by assumption : Bd g (· = l) s.heap L _ h₆).nt
      replace hI1 := hI1.kp k₇ hlL
      replace hcell := cell_kp hcell k₇ hcL
      replace hrz := rd_kp hrz k₇
      walk_at "r"
      refine notInRows hI1 (fun nd q => (G.ok.op nd q).1) hrz hndo (by have := (hA' default).units; show A.units + 3 + 3 < _; have := hA.units; omega) ?_
      walk_at "s"
      by_cases hm : nd ∈ rows₁
      · refine itF (by simp [hm]) ?_
        walk_at "r"
        obtain ⟨vs₇, hp₇, hv₇⟩ := id hI1
        refine gmList (by exact hp₇) PySem.F.slot_list_index PySem.F.type_list_index ?_
        walk_at "r"
        have ea : addNd rows₁ nd = (rows₁, rows₁.idxOf nd) := by unfold addNd; rw [if_pos hm]
        rw [ea] at hQ
        refine indexRows hI1 (fun nd q => (G.ok.op nd q).1) hrz hm (by omega) (by have := hA.units; show A.units + 3 + 3 < _; omega) fun u tk => ?_
        walk_at "q"
        exact hQ _ _ _ (by exact Bd.kp (by assumption)) hI1
      · refine itT (by simp [hm]) ?_
        walk_at "r"
        obtain ⟨vs₇, hp₇, hv₇⟩ := id hI1
        refine gmList (by exact hp₇) PySem.F.slot_list_append PySem.F.type_list_append ?_
        walk_at "r"
        have ea : addNd rows₁ nd = (rows₁ ++ [nd], rows₁.length) := by unfold addNd; rw [if_neg hm]
        rw [ea] at hQ
        have hlv : vs₇.length = rows₁.length := by rw [rdAll_length hv₇, List.length_map]
        refine appendL hp₇ (by rw [sizeLine_eq]; omega) fun h₈ hp₈ hs₈ => ?_
        dsimp only at hs₈
        have k₈ : Kp (· = l) h₇ h₈ := Kp.same hs₈ rfl hI1.noTup
        replace B := Bd.step (by assumption) k₈ fun a q => ⟨.inl q, fun z => hlL (q.symm.trans z)⟩
        have hcell := cell_kp hcell k₈ hlc
        have hI8 : RowsAt h₈ l (rows₁ ++ [nd]) := ⟨_, hp₈, by rw [List.map_append]; exact rdAll_append (rdAll_kp hv₇ k₈) (rdCons (rd_kp hrz k₈) .nil)⟩
        replace hrz := rd_kp hrz k₈
        walk_at "r"
        obtain ⟨vs₉, hp₉, hv₉⟩ := id hI8
        refine gmList (by exact hp₉) PySem.F.slot_list_index PySem.F.type_list_index ?_
        walk_at "r"
        have hQ' : ∀ m : Nat, m = rows₁.length → ∀ (u : Tok) (h' : Heap) (tk : Nat), Kp (· = l) s.heap h' → RowsAt h' l (rows₁ ++ [nd]) → Q (.int (m : Nat) u) { s with heap := h', toks := tk } := fun m e => e ▸ hQ
        refine indexRows hI8 (fun nd' q => ?_) hrz (by simp) (by simp; omega) (by have := hA.units; show A.units + 3 + 3 < _; omega) fun u tk => ?_
        · rcases List.mem_append.mp q with q | q
          · exact (G.ok.op _ q).1
          · rw [List.mem_singleton] at q; subst q; exact hndo
        · walk_at "q"
          refine hQ' _ ?_ _ _ _ (by exact Bd.kp (by assumption)) hI8
          rw [List.idxOf_append, if_neg hm]; simp [List.idxOf_cons]
end

theorem Src.range {prog : Program} {w : World} {A : Around} {h : Heap} (hh : A.handled = none) {r : Addr} {n : Nat} {t u v : Tok} (hr : IsRange h r 0 (n : Int) 1 t u v) (hsz : n < 100000) : Src prog w A (.ref r) h n (fun i x => ∃ t, x = .int (i : Nat) t) [] where
  go := by
    rintro s Q E rfl hq
    have e : s.heap.get? s.heap.objs.size = none := fresh_size _
    have hn : Builtin.Range.rangeSize 0 (n : Int) 1 = (n : Int) := by rw [rangeSize_one]; split <;> omega
    refine wpAny_pyIter_range hr (small_one (by omega) (by omega) (by omega) (by omega)) (hq s.heap.objs.size _ s.toks (St := fun i h => IsRangeIter h s.heap.objs.size (0 + (i : Nat) * 1) ((n : Int) - (i : Nat)) 1) (.push _) e ?_ (by show IsRangeIter _ _ _ _ _; rw [hn]; simpa using Heap.get?_push_size _ rfl) (fun i h x => rangeIter_nt x) ⟨_, Heap.get?_push_size _ rfl⟩)
    have W : Walks prog w A s.heap.objs.size [s.heap.objs.size] [s.heap.objs.size] n (fun i v => ∃ t, v = .int (0 + (i : Int)) t) (fun i h => IsRangeIter h s.heap.objs.size (0 + (i : Nat) * 1) ((n : Int) - (i : Nat)) 1) := by
      have W₀ := (Walks.range (prog := prog) (w := w) hh s.heap.objs.size 0 1 n)
      have eP : (fun (i : Nat) (x : Value) => ∃ t, x = .int (0 + (i : Int) * 1) t) = fun (i : Nat) (x : Value) => ∃ t, x = .int (0 + (i : Int)) t := by funext i x; simp
      first | (rw [eP] at W₀; exact W₀) | exact W₀
    have eP : (fun (i : Nat) (x : Value) => ∃ t, x = .int (0 + (i : Int)) t) = fun (i : Nat) (x : Value) => ∃ t, x = .int (i : Int) t := by funext i x; simp
    rw [eP] at W
    exact W
  live := fun b hb => by simp at hb
  size := by rw [sizeLine_eq]; omega
theorem rangeNew {prog : Program} {w : World} {A : Around} {E : Value → Shared → Prop} {s : Shared} {Q : Value → Shared → Prop} {n : Int} {t : Tok}
    (h : ∀ r h' tk t₁ u₁ v₁, Kp0 s.heap h' → IsRange h' r 0 n 1 t₁ u₁ v₁ → Q (.ref r) { s with heap := h', toks := tk }) : wpAny (model prog w) A (call (.type "range") [.int n t]) Q E s :=
  call_range_1 (h _ _ _ _ _ _ (.push _) (IsRange.new ..))
theorem strItem {prog : Program} {w : World} {A : Around} {E : Value → Shared → Prop} {s : Shared} {Q : Value → Shared → Prop} {value slice : PySem.Expr} {x : Str} {t u : Tok} {i : Int} {j c : Nat} (hi : i = j) (hj : j < 1000) (hc : x.cps[j]? = some c) (h : ∀ t' tk, Q (.str ⟨#[c]⟩ t') { s with toks := tk })
    (hs : subscripted slice false (.str x t) (.int i u) = operate [.str x t, .int i u] (getItem (.str x t) (.int i u)) := by with_unfolding_all rfl) :
    wpAny (model prog w) A (subscriptTail value slice (.str x t) (.int i u)) Q E s := by
  subst hi
  have hlt : j < x.cps.size := by
    by_cases q : j < x.cps.size
    · exact q
    · rw [Array.getElem?_eq_none (by omega)] at hc; cases hc
  refine tail_any (typeIs_str s x t) F.slot_str_getitem.lookup (P.getItem_str (c := c) (by simp; omega) ?_ (h _ _)) hs
  have : seqIndex? (j : Int) x.length = some j := by
    unfold seqIndex?
    have : x.length = x.cps.size := rfl
    simp; omega
  rw [this]; exact hc

/-- the box, told roughly: at most K are drawn -/
def Box (prog : Program) (w : World) (h : Heap) (b D : Addr) (K : Nat) : Prop := ∃ cs k, k ≤ K ∧ cs.length < 1000 ∧ BoxAt prog w h b D cs k
theorem Box.kp {prog : Program} {w : World} {S : Addr → Prop} {h h' : Heap} {b D : Addr} {K : Nat} (x : Box prog w h b D K) (k : Kp S h h') (n : ¬ S b) (m : ¬ S D) : Box prog w h' b D K := by
  obtain ⟨cs, j, hj, hc, ys, t, hd, hD, hi⟩ := x
  refine ⟨cs, j, hj, hc, ys, t, ?_, kp_list k hD m, hi⟩
  obtain ⟨o, es, p, ho, r⟩ := hd
  exact ⟨o, es, p, k.keep _ _ ho n, r⟩
theorem Box.mono {prog : Program} {w : World} {h : Heap} {b D : Addr} {K K' : Nat} (x : Box prog w h b D K) (m : K ≤ K') : Box prog w h b D K' := let ⟨cs, j, hj, r⟩ := x; ⟨cs, j, by omega, r⟩
theorem Box.at_ {prog : Program} {w : World} {h : Heap} {b D : Addr} {K : Nat} (x : Box prog w h b D K) : ∃ o, h.get? b = some o := let ⟨_, _, _, _, _, _, hd, _, _⟩ := x; dict_at hd
theorem Box.atD {prog : Program} {w : World} {h : Heap} {b D : Addr} {K : Nat} (x : Box prog w h b D K) : ∃ o, h.get? D = some o := let ⟨_, _, _, _, _, _, _, hD, _⟩ := x; list_at hD
theorem Box.noTup {prog : Program} {w : World} {h : Heap} {b D : Addr} {K : Nat} (x : Box prog w h b D K) : ∀ o, h.get? b = some o → ¬ IsT o := let ⟨_, _, _, _, _, _, hd, _, _⟩ := x; dict_noTup hd
theorem Box.ne {prog : Program} {w : World} {h : Heap} {b D : Addr} {K : Nat} (x : Box prog w h b D K) : D ≠ b := let ⟨_, _, _, _, _, _, hd, hD, _⟩ := x; list_ne_dict hD hd
section
variable {prog : Program} {w : World} {A : Around} {E : Value → Shared → Prop} {s : Shared} {g : Heap} {b D : Addr} {K : Nat} {many : Int} {tm : Tok} {Q : Value → Shared → Prop}
theorem drawZ_range (cs : List Int) (k : Nat) {many : Int} (hm : 0 < many) : 0 ≤ drawZ cs k many ∧ drawZ cs k many < many := by
  unfold drawZ
  split
  · exact ⟨Int.fmod_nonneg_of_pos _ hm, Int.fmod_lt_of_pos _ hm⟩
  · exact ⟨Int.fmod_nonneg_of_pos _ hm, Int.fmod_lt_of_pos _ hm⟩
theorem drawn (W : Wd w g) (st : Kp0 g s.heap) (hb : Box prog w s.heap b D K) (hm : 0 < many) (hk : K < 900) (hroom : A.depth < recursionLimit) (hfar : g.get? b = none)
    (hQ : ∀ (m : Nat) t h' tk, (m : Int) < many → Kp (· = b) s.heap h' → Box prog w h' b D (K + 1) → Q (.int (m : Nat) t) { s with heap := h', toks := tk }) :
    wpAny (model prog w) A (call (.ref 190) [.ref b, .int many tm] []) Q E s := by
  obtain ⟨cs, k, hkK, hc, hb⟩ := hb
  refine draw_ok W st hb hm (by omega) hc hroom hfar fun t h' tk kp hb' => ?_
  obtain ⟨h0, h1⟩ := drawZ_range cs k hm
  obtain ⟨m, e⟩ := Int.eq_ofNat_of_zero_le h0
  rw [e] at h1 ⊢
  walk_at "q"
  exact hQ m t h' tk h1 kp ⟨cs, k + 1, by omega, hc, hb'⟩
end
/-- how many draws a term of this height takes at most -/
def drs : Nat → Nat
  | 0 => 1
  | h + 1 => 2 + 2 * drs h
section
variable {prog : Program} {w : World}
theorem drawn_ok : ∀ (n : Nat), n ≤ 2 → ∀ (A : Around) (s : Shared) (g : Heap) (b D : Addr) (K : Nat) (t : Tok) (Q E : Value → Shared → Prop), Wd w g → Kp0 g s.heap → Box prog w s.heap b D K → K + drs n < 800 → Ao A (n + 2) → g.get? b = none →
    (∀ v T h' tk, Kp (· = b) s.heap h' → Box prog w h' b D (K + drs n) → Rd h' v (tmD T) → TmOk T → hgt T ≤ n + 1 → Q v { s with heap := h', toks := tk }) → wpAny (model prog w) A (call (.ref 195) [.ref b, .int n t] []) Q E s := by
  intro n
  induction n using Nat.strongRecOn with | ind n ih =>
  intro hn2 A s g b D K t Q E W st hb hK hA hbg hQ
  have hfar : ∀ a, a = b → g.get? a = none := fun a e => e ▸ hbg
  obtain ⟨ob, hob⟩ := hb.at_
  obtain ⟨oD, hoD⟩ := hb.atD
  refine callFC W st (by rfl) (by kernel_rfl) hA.room (binds := [("box", .ref b), ("high", .int n t)]) (l := []) (S := (· = b)) (BindsTo.of_eq rfl) (by rfl) (by rfl) hfar (fun h₁ L tk₁ B kp0 hLn hcs => ?_)
  obtain ⟨hc, hcn, hcL⟩ := hcs "box" (L + 1) rfl
  change h₁.IsCell (L + 1) (some (.ref b)) at hc
  obtain ⟨hc2, hcn2, hcL2⟩ := hcs "high" (L + 2) rfl
  change h₁.IsCell (L + 2) (some (.int n t)) at hc2
  have hDb := hb.ne
  have hcb : L + 1 ≠ b := fun q => by rw [q, hob] at hcn; cases hcn
  have hcb2 : L + 2 ≠ b := fun q => by rw [q, hob] at hcn2; cases hcn2
  have hbL : b ≠ L := fun q => by rw [q, hLn] at hob; cases hob
  replace hb := hb.kp kp0 id id
  have hA' := fun env => hA.deeper env
  walk_at "r"
  refine wpAny_mono (Q := fun v s' => ∃ (m : Nat) (u : Tok) (h' : Heap) (tk' : Nat), v = Value.int m u ∧ s' = { s with heap := h', toks := tk' } ∧ m < 4 ∧ (n = 0 → m = 0) ∧ Kp (· = b) h₁ h' ∧ Box prog w h' b D (K + if n = 0 then 0 else 1)) ?_ (fun v s₂ h₂ => ?_) fun _ _ q => q
  · refine IfExp_ ?_
    walk_at "r"
    by_cases hn : n = 0
    · refine itF (by simp; omega) ?_
      walk_at "r"
      exact ⟨0, _, _, _, rfl, rfl, by decide, fun _ => rfl, .refl, by rw [if_pos hn]; exact hb⟩
    · refine itT (by simp; omega) ?_
      walk_at "r"
      refine drawn W (by exact B.st) hb (by decide) (by omega) (hA' default).room hbg fun m u h₂ tk₂ hm k₂ hb₂ => ?_
      exact ⟨m, u, _, _, rfl, rfl, by omega, fun q => absurd q hn, k₂, by rw [if_neg hn]; exact hb₂⟩
  obtain ⟨m, u, h₂, tk₂, rfl, rfl, hm4, hm0, k₂, hb₂⟩ := h₂
  replace B := B.step k₂ fun a q => ⟨.inl q, fun z => hbL (q.symm.trans z)⟩
  replace hc := cell_kp hc k₂ hcb
  replace hc2 := cell_kp hc2 k₂ hcb2
  walk_at "r"
  intro h₃ B hs₃
  have k₃ : Kp (· = L) h₂ h₃ := Kp.same hs₃ rfl (by assumption : Bd g (· = b) s.heap L _ h₂).nt
  replace hc := cell_kp hc k₃ hcL
  replace hc2 := cell_kp hc2 k₃ hcL2
  have hDL : D ≠ L := fun q => by rw [q, hLn] at hoD; cases hoD
  replace hb₂ := hb₂.kp k₃ hbL hDL
  walk_at "r"
  by_cases hm2 : m < 2
  · refine itT (by simp; omega) ?_
    walk_at "r"
    refine drawn W (by exact Bd.st (by assumption)) hb₂ (by decide) (by split <;> omega) (hA' default).room hbg fun i u₂ h₄ tk₄ hi k₄ hb₄ => ?_
    dsimp only at k₄
    have hi3 : i < 3 := by omega
    obtain ⟨x, hx, hxl⟩ : ∃ c, ("abc" : Str).cps[i]? = some c ∧ (⟨#[c]⟩ : Str) ∈ ltrs := by
      have : i = 0 ∨ i = 1 ∨ i = 2 := by omega
      rcases this with rfl | rfl | rfl
      · exact ⟨_, rfl, by decide +kernel⟩
      · exact ⟨_, rfl, by decide +kernel⟩
      · exact ⟨_, rfl, by decide +kernel⟩
    refine strItem rfl (by omega) hx fun u₃ tk₅ => ?_
    walk_at "r"
    refine tupleNew (fun a h₅ k₅ hta => ?_) (by simp [sizeLine_eq])
    dsimp only at k₅
    replace B := (B.step k₄ fun a q => ⟨.inl q, fun z => hbL (q.symm.trans z)⟩).step0 k₅
    walk_at "q"
    refine hQ _ (.mk ⟨#[x]⟩ []) _ _ B.kp ((hb₄.kp k₅ id id).mono ?_) (tm_rd hta (by rw [tmDs]; exact .nil)) (by rw [TmOk, TmsOk]; exact ⟨hxl, by simp, trivial⟩) (by rw [hgt, hgts]; omega)
    cases n with
    | zero => rw [drs, if_pos rfl]; omega
    | succ n => rw [drs, if_neg (by omega)]; omega
  · refine itF (by simp; omega) ?_
    obtain ⟨n, rfl⟩ : ∃ k, n = k + 1 := ⟨n - 1, by have := mt hm0; omega⟩
    rw [if_neg (by omega)] at hb₂
    walk_at "r"
    obtain ⟨x, hx, hxl⟩ : ∃ c, ("fg" : Str).cps[m - 2]? = some c ∧ (⟨#[c]⟩ : Str) ∈ ltrs := by
      have : m = 2 ∨ m = 3 := by omega
      rcases this with rfl | rfl
      · exact ⟨_, rfl, by decide +kernel⟩
      · exact ⟨_, rfl, by decide +kernel⟩
    refine strItem (j := m - 2) (by omega) (by omega) hx fun u₃ tk₅ => ?_
    walk_at "r"
    refine tupleNew (fun a h₄ k₄ hta => ?_) (by simp [sizeLine_eq])
    dsimp only at k₄
    replace B := Bd.step0 (by assumption) k₄
    replace hc := cell_kp hc k₄ id
    replace hc2 := cell_kp hc2 k₄ id
    replace hb₂ := hb₂.kp k₄ id id
    walk_at "r"
    refine lcS (g := g) (S := (· = b)) (cl := [("high", L + 2), ("box", L + 1)]) rfl (by decide) rfl (by decide) rfl ?_
    walk_at "r"
    have hQ' : ∀ k : Int, k = ((m - 1 : Nat) : Int) → ∀ (r : Addr) (h' : Heap) (tk : Nat) t₁ u₁ v₁, IsRange h' r 0 k 1 t₁ u₁ v₁ → IsRange h' r 0 ((m - 1 : Nat) : Int) 1 t₁ u₁ v₁ := fun k e => by subst e; exact fun _ _ _ _ _ _ q => q
    refine rangeNew fun r h₅ tk₆ t₁ u₁ v₁ k₅ hr => ?_
    replace hr := hQ' _ (by omega) _ _ 0 _ _ _ hr
    dsimp only at k₅
    replace B := Bd.step0 (by assumption) k₅
    replace hc := cell_kp hc k₅ id
    replace hc2 := cell_kp hc2 k₅ id
    replace hb₂ := hb₂.kp k₅ id id
    obtain ⟨ob₅, hob₅⟩ := hb₂.at_
    obtain ⟨oD₅, hoD₅⟩ := hb₂.atD
    refine ⟨_, _, [], fun i ys h => ∃ ts, ts.length = i ∧ RdAll h ys (tmDs ts) ∧ TmsOk ts ∧ hgts ts ≤ n + 1 ∧ Box prog w h b D (K + 1 + i * drs n), Src.range (hA' _).handled hr (by omega), by exact Bd.st (by assumption), hfar, ?_, by simp, ?_, ?_, ?_, ?_⟩
    · rintro a rfl; exact ⟨_, hob₅⟩
    · exact ⟨[], rfl, by rw [tmDs]; exact .nil, by rw [TmsOk]; trivial, by rw [hgts]; omega, by simpa using hb₂⟩
    · rintro i ys h h' ⟨ts, h1, h2, h3, h4, h5⟩ k
      exact ⟨ts, h1, rdAll_kp h2 k, h3, h4, h5.kp k (fun q => by dsimp only at q; rw [hob₅] at q; cases q) (fun q => by dsimp only at q; rw [hoD₅] at q; cases q)⟩
    · rintro C i y ys h₆ tk₇ Qb E' hQb hi ⟨ti, rfl⟩ ⟨ts, h1, h2, h3, h4, h5⟩ B₃ hC
      have hc := cell_kp hc B₃.kp hcb
      have hc2 := cell_kp hc2 B₃.kp hcb2
      walk_at "r"
      have ih' : ∀ k : Int, k = ((n : Nat) : Int) → ∀ (A : Around) (s : Shared) (g : Heap) (b D : Addr) (K : Nat) (t : Tok) (Q E : Value → Shared → Prop), Wd w g → Kp0 g s.heap → Box prog w s.heap b D K → K + drs n < 800 → Ao A (n + 2) → g.get? b = none →
          (∀ v T h' tk, Kp (· = b) s.heap h' → Box prog w h' b D (K + drs n) → Rd h' v (tmD T) → TmOk T → hgt T ≤ n + 1 → Q v { s with heap := h', toks := tk }) → wpAny (model prog w) A (call (.ref 195) [.ref b, .int k t] []) Q E s := fun k e => e ▸ ih n (by omega) (by omega)
      have hd : drs n ≤ 4 := by
        have : n = 0 ∨ n = 1 := by omega
        rcases this with rfl | rfl <;> simp [drs]
      have hid : i * drs n ≤ i * 4 := Nat.mul_le_mul_left i hd
      have hid2 : i * drs n ≤ 1 * drs n := Nat.mul_le_mul_right _ (by omega)
      rw [drs] at hK
      refine ih' _ (by omega) _ _ g _ D (K + 1 + i * drs n) _ _ _ W (by exact B₃.st) h5 (by omega) (hA' _) hbg fun v T h₇ tk₈ k₇ hb₇ hv₇ ok₇ hg₇ => ?_
      walk_at "q"
      refine hQb _ _ _ k₇ ⟨ts ++ [T], by simp [h1], ?_, ?_, ?_, ?_⟩
      · rw [tmDs_map, List.map_append]; rw [tmDs_map] at h2
        exact rdAll_append (rdAll_kp h2 k₇) (rdCons hv₇ .nil)
      · rw [tmsOk_iff] at h3 ⊢
        intro t ht
        rcases List.mem_append.mp ht with q | q
        · exact h3 t q
        · rw [List.mem_singleton] at q; subst q; exact ok₇
      · refine hgts_le fun t ht => ?_
        rcases List.mem_append.mp ht with q | q
        · have := hgt_le q; omega
        · rw [List.mem_singleton] at q; subst q; exact hg₇
      · refine hb₇.mono ?_
        rw [Nat.add_mul]; omega
    · rintro Dl ys h₆ tk₇ hDl hl₆ hlen' ⟨ts, h1, h2, h3, h4, h5⟩ k₆
      replace B := Bd.step (by assumption) k₆ fun a q => ⟨.inl q, fun z => hbL (q.symm.trans z)⟩
      walk_at "r"
      have htl : ts.length ≤ 2 := by omega
      have hys : ys.length ≤ 2 := by omega
      refine tupOfList hl₆ (by rw [sizeLine_eq]; omega) fun e h₇ k₇ hte => ?_
      dsimp only at k₇
      refine addTup (tup_kp (tup_kp (tup_kp hta k₅) k₆) k₇) hte (by simp) (by simp [sizeLine_eq]; omega) fun z h₈ k₈ htz => ?_
      dsimp only at k₈
      replace B := (B.step0 k₇).step0 k₈
      walk_at "q"
      refine hQ _ (.mk ⟨#[x]⟩ ts) _ _ B.kp (((h5.kp k₇ id id).kp k₈ id id).mono ?_) (tm_rd htz (rdAll_kp (rdAll_kp h2 k₇) k₈)) (by rw [TmOk]; exact ⟨hxl, htl, h3⟩) (by rw [hgt]; omega)
      rw [drs]
      have : (m - 1) * drs n ≤ 2 * drs n := Nat.mul_le_mul_right _ (by omega)
      omega
end

/-! the dict whose keys are nodes: tuples of a str and ints -/
inductive Ky where
  | s (x : Str)
  | i (n : Int)
  deriving DecidableEq
def Ky.is : Ky → Value → Bool
  | .s x, v => Value.isStrOf x v
  | .i n, v => Value.isInt n v
theorem Ky.is_s {x : Str} {v : Value} (h : Ky.is (.s x) v = true) : ∃ t, v = .str x t := Value.isStrOf_shape h
theorem Ky.is_i {n : Int} {v : Value} (h : Ky.is (.i n) v = true) : ∃ t, v = .int n t := Value.isInt_shape h
section
variable {prog : Program} {w : World} {A : Around} {E : Value → Shared → Prop} {s : Shared}
theorem eqBool_si {x : Str} {n : Int} {t u : Tok} {Q : Bool → Shared → Prop} (h : Q false s) : wpAny (model prog w) A (eqBool (.str x t) (.int n u)) Q E s := by
  unfold eqBool
  try with_reducible refine wpAny_holding ?_
  show wpAny _ _ (if (Value.str x t == Value.int n u) = true then _ else _) Q E s
  rw [if_neg (by simp)]
  exact wpAny_bind (EqMixed.eq_str_int (wpAny_truthy_bool h))
theorem eqBool_is {x : Str} {n : Int} {t u : Tok} {Q : Bool → Shared → Prop} (h : Q false s) : wpAny (model prog w) A (eqBool (.int n t) (.str x u)) Q E s := by
  unfold eqBool
  try with_reducible refine wpAny_holding ?_
  show wpAny _ _ (if (Value.int n t == Value.str x u) = true then _ else _) Q E s
  rw [if_neg (by simp)]
  exact wpAny_bind (EqMixed.eq_int_str (wpAny_truthy_bool h))
end
def mix (prog : Program) (w : World) : KeyKind prog w Ky where
  is := Ky.is
  hash := fun k => match k with | .s x => hashStr w x | .i n => hashInt n
  inj := fun v a b ha hb => by
    cases a <;> cases b
    · obtain ⟨t, rfl⟩ := Ky.is_s ha; obtain ⟨u, e⟩ := Ky.is_s hb; cases e; rfl
    · obtain ⟨t, rfl⟩ := Ky.is_s ha; obtain ⟨u, e⟩ := Ky.is_i hb; cases e
    · obtain ⟨t, rfl⟩ := Ky.is_i ha; obtain ⟨u, e⟩ := Ky.is_s hb; cases e
    · obtain ⟨t, rfl⟩ := Ky.is_i ha; obtain ⟨u, e⟩ := Ky.is_i hb; cases e; rfl
  byValue := fun k v h => by
    cases k
    · obtain ⟨t, rfl⟩ := Ky.is_s h; rfl
    · obtain ⟨t, rfl⟩ := Ky.is_i h; rfl
  pyHash := fun {A E s k v Q} hv h => by
    cases k
    · obtain ⟨t, rfl⟩ := Ky.is_s hv; exact wpAny_pyHash_str h
    · obtain ⟨t, rfl⟩ := Ky.is_i hv; exact wpAny_pyHash_int h
  eqBool := fun {A E s a b u v Q} hu hv h => by
    cases a <;> cases b
    · obtain ⟨t, rfl⟩ := Ky.is_s hu; obtain ⟨t', rfl⟩ := Ky.is_s hv; exact wpAny_eqBool_str (by simpa using h)
    · obtain ⟨t, rfl⟩ := Ky.is_s hu; obtain ⟨t', rfl⟩ := Ky.is_i hv; exact eqBool_si (by simpa using h)
    · obtain ⟨t, rfl⟩ := Ky.is_i hu; obtain ⟨t', rfl⟩ := Ky.is_s hv; exact eqBool_is (by simpa using h)
    · obtain ⟨t, rfl⟩ := Ky.is_i hu; obtain ⟨t', rfl⟩ := Ky.is_i hv; exact wpAny_eqBool_int (by simpa [Bool.beq_eq_decide_eq] using h)
  «strs» := fun k x t v h => by
    cases k with
    | s y =>
      obtain ⟨u, hu⟩ := Ky.is_s h
      injection hu with hx
      subst hx
      cases v <;> rfl
    | i n => obtain ⟨u, hu⟩ := Ky.is_i h; cases hu
def Nd.ky (n : Nd) : List Ky := .s n.op :: n.kids.map .i
theorem ky_inj {a b : Nd} (h : a.ky = b.ky) : a = b := by
  obtain ⟨x, k⟩ := a
  obtain ⟨y, l⟩ := b
  simp only [Nd.ky, List.cons.injEq, Ky.s.injEq] at h
  obtain ⟨rfl, h⟩ := h
  congr
  exact (List.map_inj_right (fun _ _ e => by cases e; rfl)).mp h
theorem ints_items {prog : Program} {w : World} : ∀ {vs : List Value} {ns : List Int}, IntsAre vs ns → ItemsAre (mix prog w) (ns.map .i) vs
  | _, _, .nil => .nil
  | _, _, .cons n t r => .cons (by show Value.isInt n (.int n t) = true; simp [Value.isInt]) (ints_items r)
theorem rd_isKey {prog : Program} {w : World} {h : Heap} {v : Value} {n : Nd} (x : Rd h v n.data) : ∃ a, v = .ref a ∧ IsTupleKey (mix prog w) h n.ky a := by
  obtain ⟨a, t, vs, rfl, ⟨o, ho, hc, m, hd⟩, hi⟩ := rd_nd x
  exact ⟨a, rfl, o, _, m, ho, hc, hd, .cons (by show Value.isStrOf n.op (.str n.op t) = true; simp [Value.isStrOf]) (ints_items hi)⟩
theorem isKey_kp {prog : Program} {w : World} {S : Addr → Prop} {h h' : Heap} {ks : List Ky} {a : Addr} (x : IsTupleKey (mix prog w) h ks a) (k : Kp S h h') : IsTupleKey (mix prog w) h' ks a :=
  let ⟨o, its, n, ho, hc, hd, hi⟩ := x; ⟨o, its, n, k.tup a o ho ⟨hc, its, n, hd⟩, hc, hd, hi⟩
def ndk (prog : Program) (w : World) : HeapKind prog w Nd where
  is := fun h n a => IsTupleKey (mix prog w) h n.ky a
  hash := fun n => tupleKeyHash (mix prog w) n.ky
  draws := fun n => n.ky.length + 1
  room := fun A => A.units < cLine
  inj := fun hx hy => ky_inj (hx.inj hy)
  keeps := fun x ho hd hs => x.keeps ho hd hs
  pyHash := fun hu hk h => wpAny_pyHash_tuple hu hk h
  eqBool := fun {A E s x y a b Q} hu hx hy h => wpAny_eqBool_tuple hu hx hy (by
    have e : decide (x.ky = y.ky) = decide (x = y) := by
      by_cases q : x = y
      · simp [q]
      · rw [decide_eq_false q, decide_eq_false fun z => q (ky_inj z)]
    rw [e]; exact h)
  quiet := fun hk h => wpAny_eqIsQuiet_tuple hk h

/-- the dict that numbers the rows -/
structure NumAt (prog : Program) (w : World) (h : Heap) (d : Addr) (rows : List Nd) : Prop where
  sm : (d == sysModules) = false
  ok : ∃ xs : List (Nd × Addr × Value), h.DictOfH (ndk prog w) d xs ∧ xs.map (·.1) = rows ∧ ∀ (i : Nat) x, xs[i]? = some x → ∃ t, x.2.2 = .int (i : Nat) t
section
variable {prog : Program} {w : World}
theorem NumAt.kp {S : Addr → Prop} {h h' : Heap} {d : Addr} {rows : List Nd} (x : NumAt prog w h d rows) (k : Kp S h h') (n : ¬ S d) : NumAt prog w h' d rows := by
  obtain ⟨sm, xs, ⟨o, es, ep, ho, hc, hd, he, hi, hn⟩, e, hv⟩ := x
  exact ⟨sm, xs, ⟨o, es, ep, k.keep _ _ ho n, hc, hd, he, fun y hy => isKey_kp (hi y hy) k, hn⟩, e, hv⟩
theorem NumAt.at_ {h : Heap} {d : Addr} {rows : List Nd} (x : NumAt prog w h d rows) : ∃ o, h.get? d = some o := let ⟨_, _, ⟨o, _, _, ho, _⟩, _⟩ := x; ⟨o, ho⟩
theorem NumAt.noTup {h : Heap} {d : Addr} {rows : List Nd} (x : NumAt prog w h d rows) : ∀ o, h.get? d = some o → ¬ IsT o := by
  obtain ⟨_, _, ⟨o, _, _, ho, hc, _⟩, _⟩ := x
  intro o' ho' e
  rw [ho] at ho'; cases ho'
  have z := e.1
  rw [hc.1] at z; exact absurd z (by decide)
theorem NumAt.nodup {h : Heap} {d : Addr} {rows : List Nd} (x : NumAt prog w h d rows) : rows.Nodup := by
  obtain ⟨_, xs, ⟨o, es, ep, _, _, _, _, _, hn⟩, e, _⟩ := x
  rw [← e]; exact hn
theorem num_found {rows : List Nd} {xs : List (Nd × Addr × Value)} (e : xs.map (·.1) = rows) (hn : rows.Nodup) (hv : ∀ (i : Nat) x, xs[i]? = some x → ∃ t, x.2.2 = .int (i : Nat) t) {nd : Nd} (hm : nd ∈ rows) : ∃ a t, atKey xs nd = some (a, .int (rows.idxOf nd : Nat) t) := by
  have hg := getElem?_of_idxOf hm
  have hg' := hg
  conv at hg => lhs; rw [← e]
  rw [List.getElem?_map, e] at hg
  obtain ⟨⟨k, a, v⟩, hx, hk⟩ := Option.map_eq_some_iff.mp hg
  dsimp only at hk; subst hk
  obtain ⟨t, ht⟩ := hv _ _ hx
  dsimp only at ht; subst ht
  exact ⟨a, t, atKey_of_get (by rw [e]; exact hn) hx⟩
theorem num_lost {rows : List Nd} {xs : List (Nd × Addr × Value)} (e : xs.map (·.1) = rows) {nd : Nd} (hm : nd ∉ rows) : atKey xs nd = none :=
  atKey_none_of_get fun j p hj => hm (by rw [← e]; exact List.mem_map.mpr ⟨_, List.mem_of_getElem? hj, rfl⟩)

variable {A : Around} {E : Value → Shared → Prop} {s : Shared} {Q : Value → Shared → Prop} {d : Addr} {rows : List Nd} {v : Value} {nd : Nd}
theorem numIn (hd : NumAt prog w s.heap d rows) (hv : Rd s.heap v nd.data) (hu : A.units + 3 < cLine) (h : ∀ tk, Q (.bool (decide (nd ∈ rows))) { s with toks := tk }) : wpAny (model prog w) A (compareOp .In v (.ref d)) Q E s := by
  obtain ⟨a, rfl, hk⟩ := rd_isKey (prog := prog) (w := w) hv
  have hn := hd.nodup
  obtain ⟨sm, xs, hD, e, hvs⟩ := hd
  refine wpAny_in_heap (knd := ndk prog w) (show A.units + 1 < cLine by omega) hk sm hD ?_
  have e' : (atKey xs nd).isSome = decide (nd ∈ rows) := by
    by_cases hm : nd ∈ rows
    · obtain ⟨a, t, ea⟩ := num_found e hn hvs hm; rw [ea, decide_eq_true hm]; rfl
    · rw [num_lost e hm, decide_eq_false hm]; rfl
  rw [e']; exact h _
theorem numItem {value slice : PySem.Expr} (hd : NumAt prog w s.heap d rows) (hv : Rd s.heap v nd.data) (hm : nd ∈ rows) (hu : A.units + 3 < cLine) (h : ∀ t tk, Q (.int (rows.idxOf nd : Nat) t) { s with toks := tk })
    (hs : ∀ a, v = .ref a → subscripted slice false (.ref d) (.ref a) = operate [.ref d, .ref a] (getItem (.ref d) (.ref a)) := by intro _ _; with_unfolding_all rfl) :
    wpAny (model prog w) A (subscriptTail value slice (.ref d) v) Q E s := by
  obtain ⟨a, rfl, hk⟩ := rd_isKey (prog := prog) (w := w) hv
  have hn := hd.nodup
  obtain ⟨sm, xs, hD, e, hvs⟩ := hd
  obtain ⟨b, t, ea⟩ := num_found e hn hvs hm
  exact tail_any hD.typeIs slot_dict_getitem.lookup (wpAny_getItem_heap (knd := ndk prog w) (show A.units + 1 < cLine by omega) hk hD ea (h _ _)) (hs a rfl)
theorem numSet {Q : Unit → Shared → Prop} {t : Tok} (hd : NumAt prog w s.heap d rows) (hv : Rd s.heap v nd.data) (hm : nd ∉ rows) (hsz : rows.length ≤ sizeLine) (hu : A.units + 3 < cLine)
    (h : ∀ h' tk, NumAt prog w h' d (rows ++ [nd]) → Heap.SameBut d s.heap h' → Q () { s with heap := h', toks := tk }) : wpAny (model prog w) A (setItem (.ref d) v (.int (rows.length : Nat) t)) Q E s := by
  obtain ⟨a, rfl, hk⟩ := rd_isKey (prog := prog) (w := w) hv
  obtain ⟨sm, xs, hD, e, hvs⟩ := hd
  have hlen : xs.length = rows.length := by rw [← e, List.length_map]
  refine wpAny_setItem_heap (knd := ndk prog w) (show A.units + 1 < cLine by omega) hk hD (fun h' hD' hs => h h' _ ⟨sm, _, hD', ?_, ?_⟩ hs) (by omega)
  · rw [storedH_new (num_lost e hm), List.map_append, e]; rfl
  · rw [storedH_new (num_lost e hm)]
    intro i x hx
    by_cases q : i < xs.length
    · rw [List.getElem?_append_left q] at hx; exact hvs i x hx
    · have := (List.getElem?_eq_some_iff.mp hx).1
      rw [List.length_append, List.length_singleton] at this
      obtain rfl : i = xs.length := by omega
      simp at hx; subst hx
      exact ⟨t, by rw [hlen]⟩
theorem numGet {t : Tok} (hd : NumAt prog w s.heap d rows) (hv : Rd s.heap v nd.data) (hu : A.units + 3 < cLine) (h : ∀ t tk, Q (.int (if nd ∈ rows then ((rows.idxOf nd : Nat) : Int) else -1) t) { s with toks := tk }) :
    wpAny (model prog w) A (call (.builtin "dict.get") [.ref d, v, .int (-1) t]) Q E s := by
  obtain ⟨a, rfl, hk⟩ := rd_isKey (prog := prog) (w := w) hv
  have hn := hd.nodup
  obtain ⟨sm, xs, hD, e, hvs⟩ := hd
  refine call_meetsIn PySem.F.slot_dict_get hD.typeIs PySem.F.entry_dict_get (PySem.F.args_dict_get_3 _ _ _) (meetsH_dict_get_default (ndk prog w) d a sm (.int (-1) t)) ⟨show A.units + 1 < cLine by omega, nd, xs, hk, hD, ?_⟩
  by_cases hm : nd ∈ rows
  · obtain ⟨b, t', ea⟩ := num_found e hn hvs hm
    simp only [if_pos hm] at h
    rw [ea]; exact h _ _
  · simp only [if_neg hm] at h
    rw [num_lost e hm]; exact h _ _

theorem takeOut_last {xs : List (Nd × Addr × Value)} {x : Nd × Addr × Value} {a : Addr} {Q : Option DictEntry → Shared → Prop} (hu : A.units < cLine) (hk : IsTupleKey (mix prog w) s.heap x.1.ky a) (hm : s.heap.DictOfH (ndk prog w) d (xs ++ [x]))
    (hsz : (xs ++ [x]).length ≤ sizeLine) (hsome : ∀ h' tk, h'.DictOfH (ndk prog w) d xs → Heap.SameBut d s.heap h' → Q (some (entryOfKey (ndk prog w) x)) { s with heap := h', toks := tk }) :
    wpAny (model prog w) A (Builtin.Dict.takeOut d (.ref a)) Q E s := by
  obtain ⟨o, es, ep, ho, hc, hd, he, his, hn⟩ := hm
  have hlast : (xs ++ [x])[xs.length]? = some (x.1, x.2) := by simp
  unfold Builtin.Dict.takeOut
  try with_reducible refine wpAny_holding ?_
  refine wpAny_bind ((ndk prog w).pyHash (k := x.1) hu hk (wpAny_bind (wpAny_dictFind_heap (knd := ndk prog w) (s := { s with toks := s.toks + (ndk prog w).draws x.1 }) hu hk ho hd he his hn ?_ ?_)))
  · intro hno
    exact absurd hlast (hno _ _)
  · intro j p hj
    obtain rfl := idxH_unique hn hj hlast
    rw [hlast] at hj
    cases hj
    refine wpAny_bind (wpAny_dictEntries (s := { s with toks := s.toks + (ndk prog w).draws x.1 }) ho hd ?_)
    rw [entry_at he, hlast]
    have hes : es.size = (xs ++ [x]).length := size_of_entries he
    refine wpAny_bind (wpAny_updateDictKeys (hz := by omega) (s := { s with toks := s.toks + (ndk prog w).draws x.1 }) ho hd (wpAny_pure (hsome _ _ ⟨_, _, ep + 1, Heap.get?_update_self _ ho (Obj.isFreed_of_dict (Obj.data_mapDictKeys hd _)),
      hc.mapDictKeys _, Obj.data_mapDictKeys hd _, ?_, ?_, ?_⟩ (Heap.SameBut.update ..))))
    · obtain ⟨l⟩ := es
      simp only at he
      subst he
      have el : xs.length = (xs.map (entryOfKey (ndk prog w))).length := by simp
      simp only [List.map_append, List.map_cons, List.map_nil, List.eraseIdxIfInBounds_toArray, el]
      rw [List.eraseIdx_append_of_length_le (Nat.le_refl _)]; simp
    · intro y hy
      exact (his y (List.mem_append_left _ hy)).keeps ho hd (Heap.SameBut.update ..)
    · rw [List.map_append] at hn
      exact (List.nodup_append.mp hn).1
theorem numPop {rest : List Nd} (hd : NumAt prog w s.heap d (rest ++ [nd])) (hv : Rd s.heap v nd.data) (hsz : rest.length < 100000) (hu : A.units + 3 < cLine)
    (h : ∀ t h' tk, NumAt prog w h' d rest → Heap.SameBut d s.heap h' → Q (.int (rest.length : Nat) t) { s with heap := h', toks := tk }) : wpAny (model prog w) A (call (.builtin "dict.pop") [.ref d, v]) Q E s := by
  obtain ⟨a, rfl, hk⟩ := rd_isKey (prog := prog) (w := w) hv
  obtain ⟨sm, xs, hD, e, hvs⟩ := hd
  obtain ⟨ys, x, rfl⟩ : ∃ ys x, xs = ys ++ [x] := by
    rcases List.eq_nil_or_concat xs with q | ⟨ys, x, q⟩
    · rw [q] at e; simp at e
    · exact ⟨ys, x, by simpa using q⟩
  rw [List.map_append] at e
  obtain ⟨e1, e2⟩ := List.append_inj' e rfl
  simp only [List.map_cons, List.map_nil, List.cons.injEq, and_true] at e2
  subst e2
  have hl : ys.length = rest.length := by rw [← e1, List.length_map]
  obtain ⟨t, ht⟩ := hvs ys.length x (by simp)
  refine call_meetsIn PySem.F.slot_dict_pop hD.typeIs PySem.F.entry_dict_pop (PySem.F.args_dict_pop_2 _ _) (S := fun A' R s' => s' = s ∧ A'.units = A.units ∧ ∀ h' tk, NumAt prog w h' d rest → Heap.SameBut d s.heap h' → R (.ok (.ret (.int (rest.length : Nat) t))) { s with heap := h', toks := tk }) ?_ ⟨rfl, rfl, fun h' tk a b => h t h' tk a b⟩
  refine .of_wp fun A' R s' ⟨es, eu, hq⟩ => ?_
  subst es
  have hlen : (ys ++ [x]).length = rest.length + 1 := by simp [hl]
  unfold Builtin.«dict.pop»
  refine wpAny_bind ?_
  unfold Builtin.Dict.keyAndDefault
  refine wpAny_bind (wpAny_notOrdered_dict hD.typeIs ?_)
  show wpAny _ _ (pure (d, Value.ref a, none)) _ _ s'
  refine wpAny_pure ?_
  simp only [show (keyPart (Value.ref a)).isSome = false from rfl, Bool.false_eq_true, if_false]
  obtain ⟨o, es, ep, ho, hc, hd, he, his, hn⟩ := id hD
  refine wpAny_bind (wpAny_dictEntries ho hd (wpAny_bind (wpAny_pure ?_)))
  have hne : es.isEmpty = false := by
    have : es.size = (ys ++ [x]).length := size_of_entries he
    rw [Array.isEmpty]; exact decide_eq_false (by omega)
  rw [hne]
  simp only [Bool.false_eq_true, if_false]
  refine wpAny_bind (takeOut_last (by show A'.units + 1 < _; omega) hk hD (by rw [hlen, sizeLine_eq]; omega) fun h' tk hD' hs' => ?_)
  simp only [Option.isNone_some, Bool.false_eq_true, if_false]
  refine wpAny_bind (wpAny_letGo (wpAny_pure ⟨_, rfl, ?_⟩))
  show R (.ok (.ret x.2.2)) _
  rw [ht, hl]
  exact hq h' tk ⟨sm, ys, hD', e1, fun i z hz => hvs i z (by rw [List.getElem?_append_left (List.getElem?_eq_some_iff.mp hz).1]; exact hz)⟩ hs'
end

/-! the bank: an object, its dict, its four collections -/
structure BA where
  b : Addr
  dx : Addr
  ln : Addr
  nd : Addr
  lw : Addr
  ld : Addr
def BA.S (B : BA) (a : Addr) : Prop := a = B.ln ∨ a = B.nd ∨ a = B.lw ∨ a = B.ld
def BA.all (B : BA) : List Addr := [B.b, B.dx, B.ln, B.nd, B.lw, B.ld]
def wts (rows : List Nd) : List Int := (terms rows).map fun t => (cnt t : Int)
def dps (rows : List Nd) : List Int := (terms rows).map fun t => (hgt t : Int)
theorem wts_length (rows : List Nd) : (wts rows).length = rows.length := by rw [wts, List.length_map, terms_length]
theorem dps_length (rows : List Nd) : (dps rows).length = rows.length := by rw [dps, List.length_map, terms_length]
abbrev bankD (h1 h2 h3 h4 : Int) (t1 t2 t3 t4 : Tok) (B : BA) (n : Nat) : Obj :=
  dictOf [⟨h1, .str "nodes" t1, .ref B.ln⟩, ⟨h2, .str "numbers" t2, .ref B.nd⟩, ⟨h3, .str "weights" t3, .ref B.lw⟩, ⟨h4, .str "depths" t4, .ref B.ld⟩] n
def IntsL (h : Heap) (l : Addr) (ns : List Int) : Prop := ∃ vs, h.PlainList l (List.toArray vs) ∧ IntsAre vs ns
theorem IntsL.kp {S : Addr → Prop} {h h' : Heap} {l : Addr} {ns : List Int} (x : IntsL h l ns) (k : Kp S h h') (n : ¬ S l) : IntsL h' l ns := let ⟨vs, a, b⟩ := x; ⟨vs, plain_kp a k n, b⟩
theorem IntsL.noTup {h : Heap} {l : Addr} {ns : List Int} (x : IntsL h l ns) : ∀ o, h.get? l = some o → ¬ IsT o := let ⟨_, a, _⟩ := x; list_noTup a.isList
theorem IntsL.at_ {h : Heap} {l : Addr} {ns : List Int} (x : IntsL h l ns) : ∃ o, h.get? l = some o := let ⟨_, a, _⟩ := x; plain_at a
/-- what the attributes are read from -/
def BankI (h : Heap) (B : BA) : Prop := h.get? B.b = some (instObj 174 B.dx) ∧ ∃ h1 h2 h3 h4 t1 t2 t3 t4 n, h.get? B.dx = some (bankD h1 h2 h3 h4 t1 t2 t3 t4 B n)
theorem BankI.kp {S : Addr → Prop} {h h' : Heap} {B : BA} (x : BankI h B) (k : Kp S h h') (n : ¬ S B.b) (m : ¬ S B.dx) : BankI h' B :=
  ⟨k.keep _ _ x.1 n, let ⟨h1, h2, h3, h4, t1, t2, t3, t4, j, e⟩ := x.2; ⟨h1, h2, h3, h4, t1, t2, t3, t4, j, k.keep _ _ e m⟩⟩
structure BankAt (prog : Program) (w : World) (h : Heap) (B : BA) (rows : List Nd) : Prop where
  inst : h.get? B.b = some (instObj 174 B.dx)
  dict : ∃ h1 h2 h3 h4 t1 t2 t3 t4 n, h.get? B.dx = some (bankD h1 h2 h3 h4 t1 t2 t3 t4 B n)
  nodes : RowsAt h B.ln rows
  nums : NumAt prog w h B.nd rows
  ws : IntsL h B.lw (wts rows)
  ds : IntsL h B.ld (dps rows)
  nodup : B.all.Nodup
theorem BankAt.i {prog : Program} {w : World} {h : Heap} {B : BA} {rows : List Nd} (x : BankAt prog w h B rows) : BankI h B := ⟨x.inst, x.dict⟩
theorem BankAt.kp {prog : Program} {w : World} {S : Addr → Prop} {h h' : Heap} {B : BA} {rows : List Nd} (x : BankAt prog w h B rows) (k : Kp S h h') (n : ∀ a ∈ B.all, ¬ S a) : BankAt prog w h' B rows where
  inst := k.keep _ _ x.inst (n _ (by simp [BA.all]))
  dict := let ⟨h1, h2, h3, h4, t1, t2, t3, t4, m, e⟩ := x.dict; ⟨h1, h2, h3, h4, t1, t2, t3, t4, m, k.keep _ _ e (n _ (by simp [BA.all]))⟩
  nodes := x.nodes.kp k (n _ (by simp [BA.all]))
  nums := x.nums.kp k (n _ (by simp [BA.all]))
  ws := x.ws.kp k (n _ (by simp [BA.all]))
  ds := x.ds.kp k (n _ (by simp [BA.all]))
  nodup := x.nodup
theorem BankAt.kp0 {prog : Program} {w : World} {h h' : Heap} {B : BA} {rows : List Nd} (x : BankAt prog w h B rows) (k : Kp0 h h') : BankAt prog w h' B rows := x.kp k fun _ _ => id
theorem BankAt.live {prog : Program} {w : World} {h : Heap} {B : BA} {rows : List Nd} (x : BankAt prog w h B rows) : ∀ a ∈ B.all, ∃ o, h.get? a = some o := by
  intro a ha
  simp only [BA.all, List.mem_cons, List.not_mem_nil, or_false] at ha
  rcases ha with rfl | rfl | rfl | rfl | rfl | rfl
  · exact ⟨_, x.inst⟩
  · obtain ⟨_, _, _, _, _, _, _, _, _, e⟩ := x.dict; exact ⟨_, e⟩
  · exact x.nodes.at_
  · exact x.nums.at_
  · exact x.ws.at_
  · exact x.ds.at_
theorem BankAt.ne {prog : Program} {w : World} {h : Heap} {B : BA} {rows : List Nd} (x : BankAt prog w h B rows) : B.ln ≠ B.nd ∧ B.ln ≠ B.lw ∧ B.ln ≠ B.ld ∧ B.nd ≠ B.lw ∧ B.nd ≠ B.ld ∧ B.lw ≠ B.ld ∧ ¬ B.S B.b ∧ ¬ B.S B.dx := by
  have := x.nodup
  simp only [BA.all, List.nodup_cons, List.mem_cons, List.not_mem_nil, or_false, not_or, not_false_eq_true, List.nodup_nil, and_true] at this
  obtain ⟨⟨a1, a2, a3, a4, a5⟩, ⟨b2, b3, b4, b5⟩, ⟨c3, c4, c5⟩, ⟨d4, d5⟩, e5⟩ := this
  exact ⟨c3, c4, c5, d4, d5, e5, fun q => by rcases q with q | q | q | q <;> contradiction, fun q => by rcases q with q | q | q | q <;> contradiction⟩
section
variable (w : World)
theorem bk_ga : findIn (KF w) (.ref 174) "__getattribute__" = some (some (.builtin "object.__getattribute__")) := by kernel_rfl
theorem bk_gt : findIn (KF w) (.ref 174) "__getattr__" = some none := by kernel_rfl
end
section
variable {prog : Program} {w : World} {A : Around} {E : Value → Shared → Prop} {s : Shared} {g : Heap} {B : BA} {rows : List Nd}
theorem BankI.instAt {h : Heap} (x : BankI h B) : ∃ h1 h2 h3 h4 t1 t2 t3 t4 n, InstAt h B.b (instObj 174 B.dx) 174 (some (bankD h1 h2 h3 h4 t1 t2 t3 t4 B n)) :=
  let ⟨h1, h2, h3, h4, t1, t2, t3, t4, n, e⟩ := x.2; ⟨h1, h2, h3, h4, t1, t2, t3, t4, n, x.1, rfl, rfl, e⟩
/-- what the bank's attributes are, and its methods -/
noncomputable def batt (B : BA) : List (Str × Value) := [("nodes", .ref B.ln), ("numbers", .ref B.nd), ("weights", .ref B.lw), ("depths", .ref B.ld)]
theorem batt_all (w : World) (h1 h2 h3 h4 : Int) (t1 t2 t3 t4 : Tok) (B : BA) (n : Nat) : (batt B).map (fun p => findObj (KF w) 174 (some (bankD h1 h2 h3 h4 t1 t2 t3 t4 B n)) p.1) = (batt B).map fun p => some (.value p.2) := by kernel_rfl
noncomputable def mtab : List (Str × Addr) := [("size", 93), ("take", 98), ("require", 105), ("put", 112), ("put_all", 117), ("cut", 124), ("op", 131), ("kids", 138), ("node", 145), ("term", 150), ("weight", 157), ("depth", 164), ("seek", 171)]
theorem mtab_all (w : World) : mtab.map (fun p => (findIn (KF w) (.ref 174) p.1, typeIn (KF w) (.ref p.2), keepIn (KF w) (.ref p.2))) = mtab.map fun p => (some (some (.ref p.2)), some (.type "function"), true) := by kernel_rfl
theorem msh_all (h1 h2 h3 h4 : Int) (t1 t2 t3 t4 : Tok) (B : BA) (n : Nat) : mtab.map (fun p => shadowIn (some (bankD h1 h2 h3 h4 t1 t2 t3 t4 B n)) p.1) = mtab.map fun _ => some false := by kernel_rfl
theorem mt (w : World) {x : Str} {f : Addr} (e : mtab.lookup x = some f) : findIn (KF w) (.ref 174) x = some (some (.ref f)) ∧ typeIn (KF w) (.ref f) = some (.type "function") ∧ keepIn (KF w) (.ref f) = true := by
  have h := of_tab (mtab_all w) e
  exact ⟨congrArg Prod.fst h, congrArg (fun z => z.2.1) h, congrArg (fun z => z.2.2) h⟩
section
variable {env : Env} {x attr : Str} {xp ap pos : Pos} {h₀ : Heap} {S : Addr → Prop} {L : Addr} {l : List (Str × Value)} {v : Value} {Q : Value → Shared → Prop} {sh : Heap} {sg : Array GenState} {sd : Drawn} {sk : Nat} {so : OsState} {args : List PySem.Expr}
theorem bAttr {ex : Bool} (W : Wd w g) (st : Kp0 g sh) (hb : BankI sh B) (e : (batt B).lookup attr = some v) (h : Q v ⟨sh, sg, sd, sk.succ, so⟩) : wpAny (model prog w) A (getAttr (.ref B.b) attr ex) Q E ⟨sh, sg, sd, sk, so⟩ := by
  obtain ⟨h1, h2, h3, h4, t1, t2, t3, t4, n, I⟩ := hb.instAt
  exact get_value (W.X.keeps st.stays) I (bk_ga w) (of_tab (batt_all w h1 h2 h3 h4 t1 t2 t3 t4 B n) e) (by
    unfold batt at e
    simp only [List.lookup_cons, List.lookup_nil] at e
    repeat' (split at e)
    all_goals first | (cases e; rfl) | cases e) h
theorem bMeth {pl : Sem Bool} {f : Addr} {Q : Value × List Value → Shared → Prop} (W : Wd w g) (st : Kp0 g s.heap) (hb : BankI s.heap B) (e : mtab.lookup attr = some f) (h : Q (.ref f, [.ref B.b]) s) : wpAny (model prog w) A (getMethod (.ref B.b) attr pl) Q E s := by
  obtain ⟨h1, h2, h3, h4, t1, t2, t3, t4, n, I⟩ := hb.instAt
  obtain ⟨m1, m2, -⟩ := mt w e
  exact method_fn (W.X.keeps st.stays) I (bk_ga w) (bk_gt w) m1 m2 (of_tab (msh_all h1 h2 h3 h4 t1 t2 t3 t4 B n) e) h
/-- a method's call goes on -/
theorem cwMt {f : Addr} {first : List Value} (e : (mtab.map (·.2)).contains f = true) (h : wpAny (model prog w) A (spliced (backTo pos (starEach args env))) (fun vs s₁ => (KF w).In s₁.heap ∧ wpAny (model prog w) A (call (.ref f) (first ++ vs)) Q E s₁) E s)
    (hp : (backTo pos (starEach args env)).any (·.1) = false) : wpAny (model prog w) A (callWith pos (.ref f) first (backTo pos (starEach args env)) []) Q E s := by
  refine cwK ?_ h hp
  obtain ⟨p, hp, rfl⟩ := List.mem_map.mp (List.contains_iff_mem.mp e)
  have : ∀ {l : List (Str × Addr)}, l.map (fun p => (findIn (KF w) (.ref 174) p.1, typeIn (KF w) (.ref p.2), keepIn (KF w) (.ref p.2))) = l.map (fun p => (some (some (.ref p.2)), some (.type "function"), true)) → ∀ p ∈ l, keepIn (KF w) (.ref p.2) = true := fun h p hp => congrArg (fun z => z.2.2) (List.map_inj_left.mp h p hp)
  exact this (mtab_all w) p hp
/-- an attribute of the bank, where it is a local name -/
theorem aL (W : Wd w g) (D : Bd g S h₀ L l sh) (hb : BankI sh B) (hv : mp l x = some (.ref B.b)) (e : (batt B).lookup attr = some v) (h : Q v ⟨sh, sg, sd, sk.succ, so⟩) (hs : (env.locals, env.scope.kind, env.kindOf x, x == ("__debug__" : Str)) = (L, .function, some .local, false)) :
    wpAny (model prog w) A (eval (.Attribute (.Name x xp) attr pos) env) Q E ⟨sh, sg, sd, sk, so⟩ := Attribute_name (nL D hv (bAttr W D.st hb e h) hs)
/-- a call of the bank's method, where it is a local name -/
theorem mL {f : Addr} {pl : Sem Bool} (W : Wd w g) (D : Bd g S h₀ L l s.heap) (hb : BankI s.heap B) (hv : mp l x = some (.ref B.b)) (e : mtab.lookup attr = some f)
    (h : wpAny (model prog w) A (spliced (backTo pos (starEach args env))) (fun vs s₁ => (KF w).In s₁.heap ∧ wpAny (model prog w) A (call (.ref f) (.ref B.b :: vs)) Q E s₁) E s)
    (hs : (env.locals, env.scope.kind, env.kindOf x, x == ("__debug__" : Str), (backTo pos (starEach args env)).any (·.1)) = (L, .function, some .local, false, false))
    (he : eval (.Call (.Attribute (.Name x xp) attr ap) args [] pos) env = (do
      let ov ← eval (.Name x xp) env
      standAt ap.atName
      let (f, first) ← holding [ov] (getMethod ov attr pl)
      callWith pos f first (backTo pos (starEach args env)) [])) :
    wpAny (model prog w) A (eval (.Call (.Attribute (.Name x xp) attr ap) args [] pos) env) Q E s := by
  obtain ⟨hL, hk, hl, hd⟩ := of4 hs
  obtain ⟨hd, hp⟩ := Prod.mk.inj hd
  refine MethodCall_ (nL D hv (bMeth W D.st hb e ?_) (by rw [hL, hk, hl, hd])) he
  exact cwK (first := [.ref B.b]) (mt w e).2.2 h hp
end
end

-- MACROS2 BEGIN
local macro_rules | `(tactic| walk_at "bk") => `(tactic| first | assumption | exact BankAt.i (by assumption))
local macro_rules | `(tactic| walk_at "x") => `(tactic| with_reducible first
  | refine' aL (by assumption) (by assumption) (by walk_at "bk") (by k_dflt rfl) (by k_dflt rfl) ?_ (by k_dflt rfl)
  | refine' mL (by assumption) (by assumption) (by walk_at "bk") (by k_dflt rfl) (by k_dflt rfl) ?_ (by k_dflt rfl) (by k_dflt rfl)
  | refine Attribute_name ?_
  | ((show wpAny _ _ (eval (PySem.Expr.Subscript _ (PySem.Expr.Slice _ _ _ _) _) _) _ _ _); k_dflt refine tupFrom ?_)
  | refine PyProof.Rows.UnaryOp_ ?_
  | refine BoolOp_and ?_
  | refine BoolOp_or ?_
  | refine BoolOp_one ?_
  | refine isTrue_not ?_
  | refine isTrue_or_nil ?_
  | refine isTrue_and_nil ?_
  | refine isTrue_or ?_
  | refine isTrue_and ?_
  | refine isTrue_chain ?_ (by k_dflt rfl)
  | refine' bAttr (by assumption) (Bd.st (by assumption)) (by walk_at "bk") (by k_dflt rfl) ?_
  | refine' bMeth (by assumption) (Bd.st (by assumption)) (by walk_at "bk") (by k_dflt rfl) ?_
  | refine cwMt (by k_dflt rfl) ?_ (by k_dflt rfl)
  | ((show wpAny _ _ (testChain _ _ _ _) _ _ _); k_dflt first | refine test_link ?_ | refine test_last ?_)
  | refine negI ?_)
-- MACROS2 END
theorem wts_get {rows : List Nd} {n : Nat} (hn : n < rows.length) : (wts rows)[n]? = some (cnt (tm rows n) : Int) := by
  rw [wts, List.getElem?_map, List.getElem?_eq_getElem (by rw [terms_length]; exact hn)]; simp [tm, List.getD, terms_length, hn]
theorem dps_get {rows : List Nd} {n : Nat} (hn : n < rows.length) : (dps rows)[n]? = some (hgt (tm rows n) : Int) := by
  rw [dps, List.getElem?_map, List.getElem?_eq_getElem (by rw [terms_length]; exact hn)]; simp [tm, List.getD, terms_length, hn]
theorem wts_snoc (rows : List Nd) (nd : Nd) : wts (rows ++ [nd]) = wts rows ++ [1 + (nd.kids.map fun k => (cnt (tm rows k.toNat) : Int)).sum] := by
  unfold wts
  rw [terms_snoc, grow, List.map_append, List.map_cons, List.map_nil, cnt, cnts_map, Int.natCast_add, natCast_sum, List.map_map, List.map_map]
  rfl
theorem dps_snoc (rows : List Nd) (nd : Nd) {M : Int} (hM : M ∈ (nd.kids.map fun k => (hgt (tm rows k.toNat) : Int)) ++ [0]) (hle : ∀ a ∈ (nd.kids.map fun k => (hgt (tm rows k.toNat) : Int)) ++ [0], a ≤ M) : dps (rows ++ [nd]) = dps rows ++ [1 + M] := by
  unfold dps
  rw [terms_snoc, grow, List.map_append, List.map_cons, List.map_nil, hgt, Int.natCast_add]
  congr 2
  have h1 : (hgts (nd.kids.map fun k => tm rows k.toNat) : Int) ≤ M := by
    by_cases q : (nd.kids.map fun k => tm rows k.toNat) = []
    · rw [q, hgts]; exact hle 0 (by simp)
    · obtain ⟨t, ht', e⟩ := hgts_mem q
      rw [← e]
      obtain ⟨k, hk, rfl⟩ := List.mem_map.mp ht'
      exact hle _ (List.mem_append_left _ (List.mem_map.mpr ⟨k, hk, rfl⟩))
  have h2 : M ≤ hgts (nd.kids.map fun k => tm rows k.toNat) := by
    rcases List.mem_append.mp hM with q | q
    · obtain ⟨k, hk, rfl⟩ := List.mem_map.mp q
      have := hgt_le (List.mem_map_of_mem (f := fun k : Int => tm rows k.toNat) hk); omega
    · rw [List.mem_singleton] at q; omega
  have : ((hgts (nd.kids.map fun k => (terms rows).getD k.toNat dfl) : Nat) : Int) = M := by
    show ((hgts (nd.kids.map fun k => tm rows k.toNat) : Nat) : Int) = M
    omega
  rw [this]; rfl

section
variable {prog : Program} {w : World} {A : Around} {s : Shared} {g : Heap} {B : BA} {rows : List Nd} {Q E : Value → Shared → Prop}
theorem size_ok (W : Wd w g) (st : Kp0 g s.heap) (hb : BankAt prog w s.heap B rows) (hsz : rows.length < 100000) (hA : Ao A 0)
    (hQ : ∀ u h' tk, Kp0 s.heap h' → Q (.int (rows.length : Nat) u) { s with heap := h', toks := tk }) : wpAny (model prog w) A (call (.ref 93) [.ref B.b] []) Q E s := by
  refine callF W st (by rfl) (by kernel_rfl) hA.room (binds := [("self", .ref B.b)]) (S := No) (BindsTo.of_eq rfl) (locs rfl) (fun _ q => q.elim) (fun h₁ L B' kp0 hLn => ?_) (by decide)
  replace hb := hb.kp0 kp0
  obtain ⟨vs, hl, hv⟩ := id hb.nodes
  have hlen : vs.length = rows.length := by rw [rdAll_length hv, List.length_map]
  walk_at "r"
  refine lenList (n := (rows.length : Nat)) hl.isList (by simp [hlen]) (by omega) fun t tk => ?_
  walk_at "r"
  walk_at "q"
  exact hQ _ _ _ kp0
theorem node_ok {n : Nat} {nd : Nd} {t : Tok} (W : Wd w g) (st : Kp0 g s.heap) (hb : BankAt prog w s.heap B rows) (hn : rows[n]? = some nd) (hsz : n < 100000) (hA : Ao A 0)
    (hQ : ∀ v h' tk, Kp0 s.heap h' → Rd h' v nd.data → Q v { s with heap := h', toks := tk }) : wpAny (model prog w) A (call (.ref 145) [.ref B.b, .int n t] []) Q E s := by
  refine callF W st (by rfl) (by kernel_rfl) hA.room (binds := [("self", .ref B.b), ("n", .int n t)]) (S := No) (BindsTo.of_eq rfl) (locs rfl) (fun _ q => q.elim) (fun h₁ L B' kp0 hLn => ?_) (by decide)
  replace hb := hb.kp0 kp0
  obtain ⟨vs, hl, hv⟩ := id hb.nodes
  obtain ⟨v, hx, hr⟩ := RowsAt.get hv hn
  walk_at "r"
  refine listItem hl.isList (by omega) (by omega) (by simpa using hx) ?_
  walk_at "q"
  exact hQ _ _ _ kp0 hr
theorem op_ok {n : Nat} {nd : Nd} {t : Tok} (W : Wd w g) (st : Kp0 g s.heap) (hb : BankAt prog w s.heap B rows) (hn : rows[n]? = some nd) (hsz : n < 100000) (hA : Ao A 0)
    (hQ : ∀ u h' tk, Kp0 s.heap h' → Q (.str nd.op u) { s with heap := h', toks := tk }) : wpAny (model prog w) A (call (.ref 131) [.ref B.b, .int n t] []) Q E s := by
  refine callF W st (by rfl) (by kernel_rfl) hA.room (binds := [("self", .ref B.b), ("n", .int n t)]) (S := No) (BindsTo.of_eq rfl) (locs rfl) (fun _ q => q.elim) (fun h₁ L B' kp0 hLn => ?_) (by decide)
  replace hb := hb.kp0 kp0
  obtain ⟨vs, hl, hv⟩ := id hb.nodes
  obtain ⟨v, hx, hr⟩ := RowsAt.get hv hn
  obtain ⟨a, to, ks, rfl, hta, hks⟩ := rd_nd hr
  walk_at "r"
  refine listItem hl.isList (by omega) (by omega) (by simpa using hx) ?_
  walk_at "r"
  refine tupItem (j := 0) hta rfl (by decide) rfl ?_
  walk_at "q"
  exact hQ _ _ _ kp0
theorem kids_ok {n : Nat} {nd : Nd} {t : Tok} (W : Wd w g) (st : Kp0 g s.heap) (hb : BankAt prog w s.heap B rows) (hn : rows[n]? = some nd) (hk : nd.kids.length ≤ 2) (hsz : n < 100000) (hA : Ao A 0)
    (hQ : ∀ a vs h' tk, Kp0 s.heap h' → IsTup h' a (List.toArray vs) → IntsAre vs nd.kids → Q (.ref a) { s with heap := h', toks := tk }) : wpAny (model prog w) A (call (.ref 138) [.ref B.b, .int n t] []) Q E s := by
  refine callF W st (by rfl) (by kernel_rfl) hA.room (binds := [("self", .ref B.b), ("n", .int n t)]) (S := No) (BindsTo.of_eq rfl) (locs rfl) (fun _ q => q.elim) (fun h₁ L B' kp0 hLn => ?_) (by decide)
  replace hb := hb.kp0 kp0
  obtain ⟨vs, hl, hv⟩ := id hb.nodes
  obtain ⟨v, hx, hr⟩ := RowsAt.get hv hn
  obtain ⟨a, to, ks, rfl, hta, hks⟩ := rd_nd hr
  have hkl : ks.length = nd.kids.length := hks.length
  walk_at "r"
  refine listItem hl.isList (by omega) (by omega) (by simpa using hx) ?_
  refine ⟨a, _, rfl, hta, Nat.le_refl _, by simp, by simp [sizeLine_eq]; omega, fun d h₃ tk₃ k₃ htd => ?_⟩
  walk_at "q"
  exact hQ d _ _ _ (kp0.trans k₃) htd (by simpa using hks)
theorem weight_ok {n : Nat} {t : Tok} (W : Wd w g) (st : Kp0 g s.heap) (hb : BankAt prog w s.heap B rows) (hn : n < rows.length) (hsz : n < 100000) (hA : Ao A 0)
    (hQ : ∀ u h' tk, Kp0 s.heap h' → Q (.int (cnt (tm rows n)) u) { s with heap := h', toks := tk }) : wpAny (model prog w) A (call (.ref 157) [.ref B.b, .int n t] []) Q E s := by
  refine callF W st (by rfl) (by kernel_rfl) hA.room (binds := [("self", .ref B.b), ("n", .int n t)]) (S := No) (BindsTo.of_eq rfl) (locs rfl) (fun _ q => q.elim) (fun h₁ L B' kp0 hLn => ?_) (by decide)
  replace hb := hb.kp0 kp0
  obtain ⟨vs, hl, hv⟩ := id hb.ws
  obtain ⟨u, hu⟩ := hv.get n (cnt (tm rows n)) (by rw [wts, List.getElem?_map, List.getElem?_eq_getElem (by rw [terms_length]; exact hn)]; simp [tm, List.getD, terms_length, hn])
  walk_at "r"
  refine listItem hl.isList (by omega) (by omega) (by simpa using hu) ?_
  walk_at "q"
  exact hQ _ _ _ kp0
theorem depth_ok {n : Nat} {t : Tok} (W : Wd w g) (st : Kp0 g s.heap) (hb : BankAt prog w s.heap B rows) (hn : n < rows.length) (hsz : n < 100000) (hA : Ao A 0)
    (hQ : ∀ u h' tk, Kp0 s.heap h' → Q (.int (hgt (tm rows n)) u) { s with heap := h', toks := tk }) : wpAny (model prog w) A (call (.ref 164) [.ref B.b, .int n t] []) Q E s := by
  refine callF W st (by rfl) (by kernel_rfl) hA.room (binds := [("self", .ref B.b), ("n", .int n t)]) (S := No) (BindsTo.of_eq rfl) (locs rfl) (fun _ q => q.elim) (fun h₁ L B' kp0 hLn => ?_) (by decide)
  replace hb := hb.kp0 kp0
  obtain ⟨vs, hl, hv⟩ := id hb.ds
  obtain ⟨u, hu⟩ := hv.get n (hgt (tm rows n)) (by rw [dps, List.getElem?_map, List.getElem?_eq_getElem (by rw [terms_length]; exact hn)]; simp [tm, List.getD, terms_length, hn])
  walk_at "r"
  refine listItem hl.isList (by omega) (by omega) (by simpa using hu) ?_
  walk_at "q"
  exact hQ _ _ _ kp0
theorem gmNum {d : Addr} {name : Str} {id : String} {pl : Sem Bool} {Q : Value × List Value → Shared → Prop} (hd : NumAt prog w s.heap d rows) (slot : Slot "dict" name id) (hty : typeOf (.builtin id) = pure (.type "method_descriptor"))
    (h : Q (.builtin id, [.ref d]) s) : wpAny (model prog w) A (getMethod (.ref d) name pl) Q E s := by
  obtain ⟨_, xs, ⟨o, es, ep, ho, hc, r⟩, _⟩ := hd
  exact getMethod_builtin ⟨o, ho, hc.1⟩ PySem.F.plainAttrs_dict slot hty (fun a q => by cases q; exact ⟨_, ho, hc.2.1⟩) h
/-- a value whose items are ints: a tuple, or a list -/
def IntSeq (h : Heap) (v : Value) (ks : List Int) : Prop := ∃ a vs, v = .ref a ∧ IntsAre vs ks ∧ (IsTup h a (List.toArray vs) ∨ h.IsList a (List.toArray vs))
theorem tupOfSeq {v : Value} {ks : List Int} (hv : IntSeq s.heap v ks) (hsz : ks.length ≤ 100) (h : ∀ a vs h', Kp0 s.heap h' → IsTup h' a (List.toArray vs) → IntsAre vs ks → Q (.ref a) { s with heap := h' }) : wpAny (model prog w) A (call (.type "tuple") [v]) Q E s := by
  obtain ⟨a, vs, rfl, hi, ht | hl⟩ := hv
  · exact tupOfTup ht (h a vs s.heap .refl ht hi)
  · exact tupOfList hl (by have := hi.length; rw [sizeLine_eq]; omega) fun b h' k htb => h b vs h' k htb hi
theorem IntSeq.kp0 {h h' : Heap} {v : Value} {ks : List Int} (x : IntSeq h v ks) (k : Kp0 h h') : IntSeq h' v ks := by
  obtain ⟨a, vs, rfl, hi, ht | hl⟩ := x
  · exact ⟨a, vs, rfl, hi, .inl (tup_kp ht k)⟩
  · exact ⟨a, vs, rfl, hi, .inr (kp_list k hl id)⟩
theorem seek_ok {op : Str} {ks : List Int} {v : Value} {t : Tok} (W : Wd w g) (st : Kp0 g s.heap) (hb : BankAt prog w s.heap B rows) (hv : IntSeq s.heap v ks) (hk : ks.length ≤ 100) (hA : Ao A 0)
    (hQ : ∀ u h' tk, Kp0 s.heap h' → Q (.int (if (⟨op, ks⟩ : Nd) ∈ rows then ((rows.idxOf (⟨op, ks⟩ : Nd) : Nat) : Int) else -1) u) { s with heap := h', toks := tk }) : wpAny (model prog w) A (call (.ref 171) [.ref B.b, .str op t, v] []) Q E s := by
  refine callF W st (by rfl) (by kernel_rfl) hA.room (binds := [("self", .ref B.b), ("op", .str op t), ("kids", v)]) (S := No) (BindsTo.of_eq rfl) (locs rfl) (fun _ q => q.elim) (fun h₁ L B' kp0 hLn => ?_) (by decide)
  replace hb := hb.kp0 kp0
  replace hv := hv.kp0 kp0
  walk_at "r"
  refine gmNum hb.nums PySem.F.slot_dict_get PySem.F.type_dict_get ?_
  walk_at "r"
  refine tupleNew (fun b h₂ k₂ htb => ?_) (by simp [sizeLine_eq])
  dsimp only at k₂
  replace B' := B'.step0 k₂
  replace hb := hb.kp0 k₂
  replace hv := hv.kp0 k₂
  walk_at "r"
  refine tupOfSeq hv hk fun a vs h₃ k₃ hta hi => ?_
  dsimp only at k₃
  have hl := hi.length
  refine addTup (tup_kp htb k₃) hta (by simp) (by simp [sizeLine_eq]; omega) fun z h₄ k₄ htz => ?_
  dsimp only at k₄
  replace B' := (B'.step0 k₃).step0 k₄
  replace hb := (hb.kp0 k₃).kp0 k₄
  walk_at "r"
  refine numGet (nd := ⟨op, ks⟩) hb.nums (nd_rd (n := ⟨op, ks⟩) htz (by simpa using hi)) (by have := hA.units; show A.units + 3 + 3 < _; omega) fun u tk => ?_
  walk_at "q"
  exact hQ _ _ _ (kp0.trans (k₂.trans (k₃.trans k₄)))
end

theorem Src.str {prog : Program} {w : World} {A : Around} {h : Heap} (hh : A.handled = none) {x : Str} {t : Tok} (ha : x.cps.all (· < 128) = true) (hsz : x.cps.size ≤ sizeLine) : Src prog w A (.str x t) h x.cps.size (SignAt x) [] where
  go := by
    rintro s Q E rfl hq
    have e : s.heap.get? s.heap.objs.size = none := fresh_size _
    refine wpAny_pyIter_ascii ha (hq s.heap.objs.size _ s.toks (fun i h => h.IsStrIter s.heap.objs.size "str_ascii_iterator" x t i) (.push _) e (Walks.strAscii hh _ x t) ⟨_, Heap.get?_push_size _ rfl, rfl, rfl⟩ (fun i h y => ?_) ⟨_, Heap.get?_push_size _ rfl⟩)
    intro b hb o ho q
    rw [List.mem_singleton] at hb; subst hb
    obtain ⟨o', ho', hc, _⟩ := y
    rw [ho] at ho'; cases ho'
    have z := q.1; rw [hc] at z; exact absurd z (by decide)
  live := fun b hb => by simp at hb
  size := hsz
theorem ltr_one : ∀ x ∈ ltrs, x.cps.size = 1 ∧ (⟨#[x.cps[0]!]⟩ : Str) = x ∧ x.cps.all (· < 128) = true ∧ (x != "") = true ∧ Txt.isspace x = false ∧ (!(Builtin.Str.occurrences "()[]{},:" x 0 ("()[]{},:" : Str).length 1).isEmpty) = false ∧ (x == ("?" : Str)) = false := by decide +kernel
theorem ltr_sign {x : Str} (h : x ∈ ltrs) {i : Nat} {v : Value} (y : SignAt x i v) : i = 0 ∧ ∃ u, v = .str x u := by
  obtain ⟨c, u, hc, rfl⟩ := y
  obtain ⟨h1, h2, -⟩ := ltr_one x h
  have hi : i = 0 := by have := (Array.getElem?_eq_some_iff.mp hc).1; omega
  subst hi
  have e : x.cps[0]! = c := by rw [Array.getElem!_eq_getD, Array.getD_eq_getD_getElem?, hc]; rfl
  rw [e] at h2
  exact ⟨rfl, u, by rw [h2]⟩
section
variable {prog : Program} {w : World} {A : Around} {s : Shared} {g : Heap} {Q E : Value → Shared → Prop}
theorem eqNil {a b : Addr} (ha : s.heap.PlainList a #[]) (hb : s.heap.PlainList b #[]) (hu : A.units + 3 < cLine) (h : Q (.bool true) s) : wpAny (model prog w) A (compareOp .Eq (.ref a) (.ref b)) Q E s := by
  obtain ⟨n, ea⟩ := ha
  obtain ⟨m, eb⟩ := hb
  exact PySem.EqBoolInt.of_rc (PySem.SeqAt.rcAt_reads (da := .list []) (db := .list []) (.list ea rfl rfl .nil) (.list eb rfl rfl .nil) (by simp [PyData.canLay0, PyData.canLayAll0]) (by simp [PyData.canLay0, PyData.canLayAll0]) (by simp [PyData.depth, PyData.depthAll]; omega)) (by simpa [PyData.eqv, PyData.eqvAll] using h)
theorem is_op_ok {op : Str} {t : Tok} (W : Wd w g) (st : Kp0 g s.heap) (ho : op ∈ ltrs) (hA : Ao A 0)
    (hQ : ∀ h' tk, Kp0 s.heap h' → Q (.bool true) { s with heap := h', toks := tk }) : wpAny (model prog w) A (call (.ref 67) [.str op t] []) Q E s := by
  refine callF W st (by rfl) (by kernel_rfl) hA.room (binds := [("text", .str op t)]) (S := No) (BindsTo.of_eq rfl) (locs rfl) (fun _ q => q.elim) (fun h₁ L B kp0 hLn => ?_) (by decide)
  obtain ⟨f1, f2, f3, f4, f5, f6, f7⟩ := ltr_one op ho
  have hh : (A.deeper default).handled = none := hA.handled
  walk_at "r"
  refine PyProof.Rows.ne_str ?_
  walk_at "s"
  refine itT f4 ?_
  walk_at "r"
  refine wpAny_ListComp_free (cl := []) (p := fun _ => false) (F := fun _ _ => True) rfl (by decide) rfl (by decide) rfl ?_
  walk_at "s"
  refine (Src.str (h := h₁) (t := t) (show (A.deeper _).handled = none from hA.handled) f3 (by rw [f1, sizeLine_eq]; omega)).go _ _ _ (by rfl) fun I h₂ tk₂ St k₂ hI Wk hst nt hI₂ => ?_
  dsimp only
  refine ⟨I, [I], [I], _, _, St, rfl, Wk, by rw [f1, sizeLine_eq]; omega, hst, fun b hb => by rw [List.mem_singleton] at hb; subst hb; exact Heap.lt_size hI₂.choose_spec, ⟨?_, fun C i v s₃ m₃ E' _ _ q => by cases q⟩, ?_⟩
  · intro C i v s₃ m₃ E' hC hP hn hm hk ht
    obtain ⟨rfl, u, rfl⟩ := ltr_sign ho hP
    rw [List.forIn_cons, if_pos rfl]
    refine wpAny_bind (wpAny_bind ?_)
    walk_at "s"
    refine isTrue_plain ?_
    refine MethodCall_ ?_
    refine wpAny_Name (wpAny_loadName_local rfl rfl hn hm ?_) rfl
    refine PySem.GM.isspace ?_
    walk_at "s"
    refine wpAny_items_nil ?_
    refine PySem.SC.isspace ?_
    refine wpAny_truthy_bool ?_
    refine itF f5 ?_
    refine isTrue_or ?_
    walk_at "s"
    refine wpAny_Name (wpAny_loadName_local rfl rfl hn hm ?_) rfl
    walk_at "r"
    refine PyProof.Rows.in_str ?_
    walk_at "s"
    refine itF f6 ?_
    refine isTrue_or_nil (wpAny_pure ?_)
    show wpAny _ _ (forIn [] false _) _ _ _
    rw [List.forIn_nil]
    exact wpAny_pure ⟨rfl, _, _, rfl, fun _ _ e => e⟩
  · intro D h' tk' ys vs hD hl hp hlen hPv hpair hk
    have hys : ys = #[] := by
      have : vs.filter (fun _ => false) = [] := by simp
      rw [this] at hpair
      cases hz : ys.toList with
      | nil => simpa using hz
      | cons a b => rw [hz] at hpair; cases hpair
    subst hys
    have k₃ : Kp0 h₁ h' := .of_stays fun a o e => hk a o (fun q => by rw [List.mem_singleton] at q; rw [q, hI] at e; cases e) (k₂.stays _ _ e)
    walk_at "r"
    refine listNew (fun b h₄ k₄ hb hl₄ => ?_) (by simp [sizeLine_eq])
    dsimp only at k₄ hb
    refine eqNil (plain_kp hp k₄ id) hl₄ (by have := hA.units; show A.units + 3 + 3 < _; omega) ?_
    walk_at "r"
    walk_at "q"
    exact hQ _ _ (kp0.trans (k₃.trans k₄))
end

section
variable {prog : Program} {w : World} {A : Around} {E : Value → Shared → Prop} {s : Shared}
theorem nextOf_tup {it t : Addr} {i : Nat} {items} {x : Value} {Q : Value → Shared → Prop} (hit : s.heap.IsTupleIter it t i) (ht : IsTup s.heap t items) (hx : items[i]? = some x)
    (hQ : ∀ h', h'.IsTupleIter it t (i + 1) → Heap.SameBut it s.heap h' → Q x { s with heap := h' }) : wpAny (model prog w) A (Builtin.SmallTypes.nextOf (.ref it)) Q E s := by
  obtain ⟨o, ho, hc, hd⟩ := id hit
  obtain ⟨ol, hol, _, nl, hdl⟩ := ht
  unfold Builtin.SmallTypes.nextOf
  refine wpAny_bind (wpAny_callSpecial?_slot (name := Str.ofString "__next__") hit.typeIs PySem.F.slot_tuple_iterator_next
    (wpAny_call_entry PySem.F.slot_tuple_iterator_next hit.typeIs PySem.F.entry_tuple_iterator_next ?_ (PySem.F.args_tuple_iterator_next_1 _)))
  show wpAny _ _ (field (.ref it) 0 >>= _) _ _ s
  refine wpAny_bind (wpAny_field ho hd (x := .ref t) rfl ?_)
  show wpAny _ _ (if (Value.ref t == Value.none) = true then _ else _) _ _ s
  rw [if_neg (show ¬ ((Value.ref t == Value.none) = true) from Bool.false_ne_true)]
  show wpAny _ _ (field (.ref it) 1 >>= _) _ _ s
  refine wpAny_bind (wpAny_field ho hd (x := .int i 0) rfl ?_)
  show wpAny _ _ (seqItems? (.ref t) >>= _) _ _ s
  refine wpAny_bind (wpAny_seqItems hol hdl ?_)
  simp only [Int.toNat_natCast, hx]
  refine wpAny_bind (wpAny_setField ho hd (by simp) (wpAny_pure ⟨x, rfl, wpAny_pure (hQ _ ?_ (Heap.SameBut.update ..))⟩))
  exact ⟨_, Heap.get?_update_self _ ho (Obj.isFreed_of_fields (Obj.data_mapFields hd _)), (Obj.cls_mapFields ..).trans hc, by
    rw [Obj.data_mapFields hd]; simp [rawInt]⟩
theorem nextOf_tup_end {it t : Addr} {i : Nat} {items} {Q : Value → Shared → Prop} (hh : A.handled = none) (hit : s.heap.IsTupleIter it t i) (ht : IsTup s.heap t items) (hx : items[i]? = none)
    (hE : ∀ h' e, Heap.ExtBut it s.heap h' → (∃ o, h'.get? e = some o ∧ o.cls = .type "StopIteration") → E (.ref e) { s with heap := h' }) : wpAny (model prog w) A (Builtin.SmallTypes.nextOf (.ref it)) Q E s := by
  obtain ⟨o, ho, hc, hd⟩ := id hit
  obtain ⟨ol, hol, _, nl, hdl⟩ := ht
  unfold Builtin.SmallTypes.nextOf
  refine wpAny_bind (wpAny_callSpecial?_slot (name := Str.ofString "__next__") hit.typeIs PySem.F.slot_tuple_iterator_next
    (wpAny_call_entry PySem.F.slot_tuple_iterator_next hit.typeIs PySem.F.entry_tuple_iterator_next ?_ (PySem.F.args_tuple_iterator_next_1 _)))
  show wpAny _ _ (field (.ref it) 0 >>= _) _ _ s
  refine wpAny_bind (wpAny_field ho hd (x := .ref t) rfl ?_)
  show wpAny _ _ (if (Value.ref t == Value.none) = true then _ else _) _ _ s
  rw [if_neg (show ¬ ((Value.ref t == Value.none) = true) from Bool.false_ne_true)]
  show wpAny _ _ (field (.ref it) 1 >>= _) _ _ s
  refine wpAny_bind (wpAny_field ho hd (x := .int i 0) rfl ?_)
  show wpAny _ _ (seqItems? (.ref t) >>= _) _ _ s
  refine wpAny_bind (wpAny_seqItems hol hdl ?_)
  simp only [Int.toNat_natCast, hx]
  refine wpAny_bind (wpAny_rule (wpAny_bind (wpAny_setField ho hd (by simp) ?_)))
  show wpAny _ _ (newExc (.type "StopIteration") [] >>= _) _ _ _
  refine wpAny_bind ?_
  simp only [newExc, newTuple]
  refine wpAny_bind (wpAny_newObj_type ?_ (by size_fits))
  refine wpAny_bind (m := firstArgMember _ _) (wpAny_of_eq (a := Value.none) (by first | rfl | (simp only [firstArgMember]; rfl)) ?_)
  refine wpAny_newObj_type ?_ (by size_fits)
  simp only [raiseNew]
  refine wpAny_bind (wpAny_handled ?_)
  first | rw [show A.in1.handled = none from hh] | rw [hh]
  refine wpAny_bind (wpAny_pure (wpAny_throw ?_))
  exact hE _ _ (((Heap.SameBut.update ..).extBut.push _).push _) ⟨_, Heap.get?_push_size _ rfl, rfl⟩
end
theorem drawsTup {prog : Program} {w : World} {A : Around} (hh : A.handled = none) (it t : Addr) (hne : t ≠ it) (items : Array Value) :
    Draws prog w A it [it, t] items.size (fun i v => items[i]? = some v) (fun i h => h.IsTupleIter it t i ∧ IsTup h t items) where
  live := fun _ _ st => let ⟨o, ho, _⟩ := st.1; ⟨o, ho⟩
  frame := fun _ _ _ st hk => ⟨let ⟨o, ho, r⟩ := st.1; ⟨o, hk it (by simp) o ho, r⟩, let ⟨o, ho, r⟩ := st.2; ⟨o, hk t (by simp) o ho, r⟩⟩
  item := fun i s Q E hi st hQ => by
    refine nextOf_tup st.1 st.2 (x := items[i]) (by simp [hi]) fun h' hit' hs' => ?_
    exact hQ _ h' s.toks (by simp [hi]) ⟨hit', let ⟨o, ho, r⟩ := st.2; ⟨o, (hs'.2 t hne).trans ho, r⟩⟩ hs'
  done := fun s Q E st hE => nextOf_tup_end hh st.1 st.2 (by simp) hE
set_option maxHeartbeats 4000000 in
theorem meets_enum_tup (t : Addr) (items : Array Value) (n : Nat) (dct : Option Addr) (sl : Array (Option Value)) :
    Meets (Builtin.«enumerate.__new__» ⟨[.type "enumerate", .ref t], []⟩) (fun _ R s => s.heap.get? t = some { cls := .type "tuple", data := .seq items n, dict := dct, slots := sl } ∧
      R (.ok (.ret (.ref (s.heap.push { cls := .type "tuple_iterator", data := .fields #[.ref t, .int 0 0] }).objs.size)))
        { s with heap := (s.heap.push { cls := .type "tuple_iterator", data := .fields #[.ref t, .int 0 0] }).push { cls := .type "enumerate", data := .fields #[.none, .bool false, .ref s.heap.objs.size, rawInt 0, .none, .none] } }) :=
  .of_wp fun prog w A R s h => by
    obtain ⟨hp, g, d, tk, os⟩ := s; obtain ⟨hl, h⟩ := h
    have hsub := sub_enumerate
    have hL : Heap.IsTuple (Shared.heap ⟨hp, g, d, tk, os⟩) t items := ⟨_, hl, rfl, n, rfl⟩
    wp_walk using AutoSeq1.wpAny_loadPart' hl
    refine wpAny_stack_any fun st => wpAny_pure ?_
    split
    · rename_i c _ _ _ _ _
      cases (c == Value.type "enumerate")
      · wp_walk using AutoSeq1.wpAny_loadPart' hl, wpAny_pyIter_tuple hL
        exact ⟨_, rfl, h⟩
      · wp_walk using AutoSeq1.wpAny_loadPart' hl, wpAny_pyIter_tuple hL
        exact ⟨_, rfl, h⟩
    · wp_walk using AutoSeq1.wpAny_loadPart' hl, wpAny_pyIter_tuple hL
      exact ⟨_, rfl, h⟩

/-- an enumerate that stands at its start -/
structure EnumAt (prog : Program) (w : World) (A : Around) (h : Heap) (e it : Addr) (n : Nat) (P : Nat → Value → Prop) (St : Nat → Heap → Prop) (fp : List Addr) : Prop where
  en : IsEnum h e it 0 .none
  st : St 0 h
  D : Draws prog w A.in1 it (it :: fp) n P St
  ei : e ≠ it
  ef : e ∉ fp
  nt : ∀ i h, St i h → ∀ o, h.get? it = some o → ¬ IsT o
section
variable {prog : Program} {w : World} {A : Around} {E : Value → Shared → Prop} {s : Shared}
theorem enumNew {items : List Value} {Q : Value → Shared → Prop} {l : Addr} (hh : A.handled = none) (hl : IsTup s.heap l items.toArray ∨ s.heap.IsList l items.toArray)
    (h : ∀ e it h' St, Kp0 s.heap h' → s.heap.get? e = none → s.heap.get? it = none → EnumAt prog w A h' e it items.length (fun i v => items[i]? = some v) St [l] → Q (.ref e) { s with heap := h' }) :
    wpAny (model prog w) A (call (.type "enumerate") [.ref l]) Q E s := by
  have n0 : s.heap.get? s.heap.objs.size = none := fresh_size _
  have n1 : s.heap.get? (s.heap.objs.size + 1) = none := Heap.get?_none_of_le (Nat.le_succ _)
  rcases hl with ht | hl
  · obtain ⟨⟨c, dct, dt, sl⟩, ho, hc, n, hd⟩ := ht
    replace hc : c = .type "tuple" := hc
    replace hd : dt = .seq items.toArray n := hd
    subst hc hd
    refine callType_new PySem.F.called_enumerate (by decide) (PySem.F.typeCall_enumerate_1 _) (PySem.F.newCall_enumerate_1 _) (fun obj => PySem.F.args_object_init_2 obj _) PySem.F.entry_enumerate_new
      (meets_enum_tup l items.toArray n dct sl) ⟨ho, ?_⟩
    have hz : (s.heap.push { cls := .type "tuple_iterator", data := .fields #[.ref l, .int 0 0] }).objs.size = s.heap.objs.size + 1 := Heap.size_push ..
    show _ ∧ _
    rw [hz]
    have he : IsEnum ((s.heap.push { cls := .type "tuple_iterator", data := .fields #[.ref l, .int 0 0] }).push
        { cls := .type "enumerate", data := .fields #[.none, .bool false, .ref s.heap.objs.size, rawInt 0, .none, .none] }) (s.heap.objs.size + 1) s.heap.objs.size 0 .none := by
      have := Heap.get?_push_size (s.heap.push { cls := .type "tuple_iterator", data := .fields #[.ref l, .int 0 0] })
        (o := { cls := .type "enumerate", data := .fields #[.none, .bool false, .ref s.heap.objs.size, rawInt 0, .none, .none] }) rfl
      rw [hz] at this; exact this
    have hlt := Heap.lt_size ho
    refine ⟨⟨_, he, rfl⟩, h _ _ _ (fun i h => h.IsTupleIter s.heap.objs.size l i ∧ IsTup h l items.toArray) ((Kp.push _).trans (.push _)) n1 n0 ⟨he, ⟨⟨_, Heap.get?_push_of_some _ (Heap.get?_push_size _ rfl), rfl, rfl⟩, ⟨_, Heap.get?_push_of_some _ (Heap.get?_push_of_some _ ho), rfl, n, rfl⟩⟩,
      (by have := drawsTup (prog := prog) (w := w) (A := A.in1) hh s.heap.objs.size l (Nat.ne_of_lt hlt) items.toArray; simpa using this), Nat.succ_ne_self _, fun q => by (rw [List.mem_singleton] at q; exact Nat.ne_of_gt (Nat.lt_succ_of_lt hlt) q), fun i h x => tupIter_nt x.1 _ (by simp)⟩⟩
  · refine call_enumerate_list hl fun h' he hi hsz hk => ?_
    have hlt := list_lt hl
    exact h _ _ _ (fun i h => h.IsListIter s.heap.objs.size l i ∧ h.IsList l items.toArray) (.of_stays hk) n1 n0 ⟨he, ⟨hi, isList_at hl fun o e => hk _ _ e⟩, (by have := Draws.list (prog := prog) (w := w) (A := A.in1) hh s.heap.objs.size l (Nat.ne_of_lt hlt) items.toArray; simpa using this), Nat.succ_ne_self _, fun q => by (rw [List.mem_singleton] at q; exact Nat.ne_of_gt (Nat.lt_succ_of_lt hlt) q), fun i h x => listIter_nt x.1 _ (by simp)⟩
theorem assign2 {env : Env} {x y : Str} {p q pos : Pos} {k : Nat} {T : Addr} {u v : Value} {Q : Unit → Shared → Prop} {g h₀ : Heap} {S : Addr → Prop} {L : Addr} {l : List (Str × Value)} (hh : A.handled = none) (B : Bd g S h₀ L l s.heap) (ht : IsTup s.heap T #[u, v])
    (h : ∀ h' tk, Bd g S h₀ L ((y, v) :: (x, u) :: l) h' → Kp (· = L) s.heap h' → Q () { s with heap := h', toks := tk }) (hL : env.locals = L := by rfl)
    (hx : env.kindOf x = some .local := by rfl) (hy : env.kindOf y = some .local := by rfl) (hp : (env.scope.kind == .class || (env.scope.kind == .module && env.locals != env.globals)) = false := by rfl) :
    wpAny (model prog w) A (assign (.Tuple [.Name x p, .Name y q] k pos) env (.ref T)) Q E s := by
  refine wpAny_assign_Tuple hh ht rfl rfl fun h' hE => ?_
  have k₁ : Kp0 s.heap h' := .of_stays fun b o e => hE b o (fun z => by rw [z, fresh_size] at e; cases e) e
  have B₁ := B.step0 k₁
  show wpAny _ _ (do holding [v] (assign (.Name x p) env u); assignInOrder [assign (.Name y q) env] [v]) _ _ _
  refine wpAny_bind (wpAny_holding (wpAny_assign_Name (sL B₁ (fun h₂ B₂ hs₂ => ?_) hL hx hp)))
  show wpAny _ _ (do holding [] (assign (.Name y q) env v); assignInOrder [] []) _ _ _
  refine wpAny_bind (wpAny_holding (wpAny_assign_Name (sL B₂ (fun h₃ B₃ hs₃ => ?_) hL hy hp)))
  exact wpAny_pure (h _ _ B₃ ((k₁.of0.trans (Kp.same (S := fun a => a = L) hs₂ rfl B₁.nt)).trans (Kp.same hs₃ rfl B₂.nt)))
end
section
variable {prog : Program} {w : World} {A : Around} {E : Value → Shared → Prop} {env : Env} {g : Heap} {S : Addr → Prop}
/-- what is to be shown where an enumerate stands -/
inductive EnumEnd (prog : Program) (w : World) (A : Around) (E : Value → Shared → Prop) (env : Env) (g : Heap) (S : Addr → Prop) (target : PySem.Expr) (body : List Stmt) (h₀ : Heap) (L : Addr) (l : List (Str × Value)) (Q : Flow → Shared → Prop) (xv : Value) (s₁ : Shared) : Prop
  | mk (e it : Addr) (n : Nat) (P : Nat → Value → Prop) (St : Nat → Heap → Prop) (fp : List Addr) (J : Nat → Heap → Prop) (hx : xv = .ref e) (en : EnumAt prog w A s₁.heap e it n P St fp) (B : Bd g S h₀ L l s₁.heap)
      (fr : ∀ a, a = e ∨ a = it → h₀.get? a = none ∧ a ≠ L ∧ ¬ S a) (apart : ∀ b ∈ fp, ¬ S b ∧ b ≠ L)
      (j0 : J 0 s₁.heap) (stab : ∀ i h h', J i h → Kp (fun a => a = e ∨ a = it) h h' → J i h')
      (turn : ∀ i t x T h₃ tk₃ (Qb : Flow → Shared → Prop) (Eb : Value → Shared → Prop), (∀ h' tk', Bd g (fun a => S a ∨ a = L) h₃ L l h' → J (i + 1) h' → Qb .next { s₁ with heap := h', toks := tk' }) → (∀ v s', Q (.ret v) s' → Qb (.ret v) s') →
        (∀ e s', notedBy (model prog w) A env (cameBackBy (model prog w) A env E) e s' → Eb e s') → i < n → P i x → IsTup h₃ T #[.int i t, x] → Bd g S h₀ L l h₃ → Bd g (fun a => S a ∨ a = L) h₃ L l h₃ → J i h₃ →
        wpAny (model prog w) A (assign target env (.ref T)) (fun _ s₄ => wpAny (model prog w) A (execs body env) Qb Eb s₄) Eb { s₁ with heap := h₃, toks := tk₃ })
      (fin : ∀ h' tk, Bd g S h₀ L l h' → J n h' → Q .next { s₁ with heap := h', toks := tk }) : EnumEnd prog w A E env g S target body h₀ L l Q xv s₁
theorem forE {s : Shared} {elts : List PySem.Expr} {kt : Nat} {tpos : Pos} {iter : PySem.Expr} {body : List Stmt} {pos : Pos} {Q : Flow → Shared → Prop} {h₀ : Heap} {L : Addr} {l : List (Str × Value)}
    (h : wpAny (model prog w) A (eval iter env) (fun xv s₁ => EnumEnd prog w A E env g S (.Tuple elts kt tpos) body h₀ L l Q xv s₁) E s)
    (hs : ∀ x, foldedSetIterable iter env x = pure x := by intro _; rfl) :
    wpAny (model prog w) A (exec (.For (.Tuple elts kt tpos) iter body [] pos) env) Q E s := by
  refine wpAny_For (wpAny_mono h (fun xv s₁ h₁ => ?_) fun _ _ q => q) hs
  obtain ⟨e, it, n, P, St, fp, J, rfl, ⟨en, st0, D, ei, ef, nt⟩, B, fr, apart, j0, stab, turn, fin⟩ := h₁
  refine wpAny_pyIter_enum en ?_
  have hef : e ∉ it :: fp := fun q => by
    rcases List.mem_cons.mp q with q | q
    · exact ei q
    · exact ef q
  have W := WalksT.enumerateD D e ei hef (by simp)
  have entt : ∀ {h : Heap} {i : Int} {old : Value}, IsEnum h e it i old → ∀ o, h.get? e = some o → ¬ IsT o := fun x o ho q => by
    rw [show _ = _ from x] at ho; cases ho; have z := q.1; exact absurd z (by simp)
  have kpe : ∀ {i : Nat} {h h' : Heap} {old : Value}, IsEnum h e it i old → St i h → (∀ b o, b ∉ [e, it] → h.get? b = some o → h'.get? b = some o) → Kp (fun a => a = e ∨ a = it) h h' := fun {i h h' old} en st k =>
    ⟨fun a o x q => k a o (by simpa [not_or] using q) x, fun a o x c => k a o (fun q => by
      simp only [List.mem_cons, List.not_mem_nil, or_false] at q
      rcases q with rfl | rfl
      · exact entt en o x c
      · exact nt _ _ st o x c) x⟩
  have turnB : ∀ {h h' : Heap}, Bd g S h₀ L l h → Kp (fun a => a = e ∨ a = it) h h' → Bd g S h₀ L l h' := fun B' k => B'.step k fun a q => ⟨.inr (fr a q).1, (fr a q).2.1⟩
  refine forGo (fun k s' => ∃ h' tk i, s' = { s₁ with heap := h', toks := tk } ∧ i ≤ n ∧ k = n + 1 - i ∧ ((∃ old, IsEnum h' e it i old) ∧ St i h') ∧ Bd g S h₀ L l h' ∧ J i h') ?_ (n + 1) ⟨s₁.heap, s₁.toks, 0, rfl, Nat.zero_le _, rfl, ⟨⟨_, en⟩, st0⟩, B, j0⟩
  rintro k s' ⟨H, tk, i, rfl, hi, rfl, ⟨⟨old, he⟩, hst⟩, hB, hJ⟩
  by_cases hlt : i < n
  · refine W.item i _ _ _ hlt ⟨⟨old, he⟩, hst⟩ fun T vals h₂ tk₂ hP hTsz hT hMid hk => ?_
    obtain ⟨t, x, hPx, rfl⟩ := hP
    dsimp only at hk hMid
    have k₂ := kpe he hst hk
    obtain ⟨⟨y, heo⟩, hst₂, hTe, hTi⟩ := id hMid
    refine W.go _ _ _ i T _ _ _ hMid fun h₃ hst₃ hk₃ => ?_
    dsimp only at hk₃ hst₃
    have k₃ : Kp (fun a => a = e ∨ a = it) h₂ h₃ := ⟨fun a o x q => hk₃ a o (by simpa [not_or] using q) x, fun a o x c => hk₃ a o (fun q => by
      simp only [List.mem_cons, List.not_mem_nil, or_false] at q
      rcases q with rfl | rfl
      · rw [show _ = _ from heo] at x; cases x; have z := c.1; exact absurd z (by simp)
      · exact nt _ _ hst₂ o x c) x⟩
    have hB₃ := turnB (turnB hB k₂) k₃
    have hT₃ : IsTup h₃ T #[.int i t, x] := tup_kp hT k₃
    refine turn i t x T h₃ tk₂ _ _ ?_ (fun _ _ q => q) (fun _ _ q => q) hlt hPx hT₃ hB₃ hB₃.here (stab _ _ _ (stab _ _ _ hJ k₂) k₃)
    have back : ∀ h' , Bd g (fun a => S a ∨ a = L) h₃ L l h' → (∃ old, IsEnum h' e it ((i + 1 : Nat) : Int) old) ∧ St (i + 1) h' := fun h' B' => W.frame (i + 1) _ _ hst₃ fun b hb o x => B'.kp.keep b o x fun q => by
      rcases List.mem_cons.mp hb with rfl | hb
      · exact q.elim (fr _ (.inl rfl)).2.2 (fr _ (.inl rfl)).2.1
      · rcases List.mem_cons.mp hb with rfl | hb
        · exact q.elim (fr _ (.inr rfl)).2.2 (fr _ (.inr rfl)).2.1
        · exact q.elim (apart b hb).1 (apart b hb).2
    exact fun h' tk' B' hJ' => ⟨n + 1 - (i + 1), by omega, h', tk', i + 1, rfl, hlt, rfl, back h' B', hB₃.comp B', hJ'⟩
  · obtain rfl : i = n := by omega
    refine W.done _ _ _ ⟨⟨old, he⟩, hst⟩ fun h₂ tk₂ hk => ?_
    have k₂ := kpe he hst hk
    exact wpAny_execs_nil (fin h₂ _ (turnB hB k₂) (stab _ _ _ hJ k₂))
end

section
variable {prog : Program} {w : World} {A : Around} {E : Value → Shared → Prop} {env : Env}
inductive LcpEnd (prog : Program) (w : World) (A : Around) (env : Env) (g : Heap) (elt : PySem.Expr) (x y : Str) (scope : Scope) (cl : List (Str × Addr)) (Q : Value → Shared → Prop) (xv : Value) (s₁ : Shared) : Prop
  | mk (l : Addr) (its : List Value) (Inv : Nat → List Value → Heap → Prop) (hx : xv = .ref l) (hh : A.handled = none) (hl : s₁.heap.IsList l its.toArray) (hsz : its.length ≤ sizeLine)
      (hpair : ∀ v ∈ its, ∃ T u₁ u₂, v = .ref T ∧ IsTup s₁.heap T #[u₁, u₂]) (hst : Kp0 g s₁.heap) (inv0 : Inv 0 [] s₁.heap) (stab : ∀ i ys h h', Inv i ys h → Kp (fun a => s₁.heap.get? a = none) h h' → Inv i ys h')
      (step : ∀ C i T u₁ u₂ ys h₃ tk₃ (Qb : Value → Shared → Prop) E', (∀ z h' tk', Kp0 h₃ h' → Inv (i + 1) (ys ++ [z]) h' → Qb z { s₁ with heap := h', toks := tk' }) → its[i]? = some (.ref T) → IsTup h₃ T #[u₁, u₂] → Inv i ys h₃ → Bd g No s₁.heap C [(y, u₂), (x, u₁)] h₃ → s₁.heap.get? C = none →
        wpAny (model prog w) A (eval elt (compEnvC scope cl C env)) Qb E' { s₁ with heap := h₃, toks := tk₃ })
      (fin : ∀ D ys h' tk, s₁.heap.get? D = none → h'.PlainList D (List.toArray ys) → ys.length = its.length → Inv its.length ys h' → Kp0 s₁.heap h' → Q (.ref D) { s₁ with heap := h', toks := tk }) : LcpEnd prog w A env g elt x y scope cl Q xv s₁
/-- a list comprehension with a pair for its target, over a list of pairs -/
theorem lcP {s : Shared} {elt iter : PySem.Expr} {x y : Str} {px py tp : Pos} {kt : Nat} {scope : Scope} {cl : List (Str × Addr)} {pos : Pos} {Q : Value → Shared → Prop} {g : Heap}
    (hclos : closureFor scope env = pure cl) (hcell : ∀ y ∈ scope.names, y.2 ≠ .cell) (hkind : scope.kind = .function)
    (hnames : ∀ y ∈ scope.names, y.2 = .local → scope.names.lookup y.1 = some .local) (hx : scope.names.lookup x = some .local) (hy : scope.names.lookup y = some .local)
    (h : wpAny (model prog w) A (eval iter env) (fun xv s₁ => LcpEnd prog w A env g elt x y scope cl Q xv s₁) E s)
    (hs : ∀ x, foldedSetIterable iter env x = pure x := by intro _; rfl) :
    wpAny (model prog w) A (eval (.ListComp elt [⟨.Tuple [.Name x px, .Name y py] kt tp, iter, [], 0⟩] scope pos) env) Q E s := by
  rw [eval_ListComp]
  refine wpAny_comprehension_free (use := none) rfl hs hclos hkind hnames (wpAny_mono h (fun xv s₁ h₁ => ?_) fun _ _ e => e)
  obtain ⟨l, its, Inv, rfl, hh, hl, hsz, hpair, hst, inv0, stab, step, fin⟩ := h₁
  have hIn : s₁.heap.get? s₁.heap.objs.size = none := fresh_size _
  have hlt := list_lt hl
  refine wpAny_pyIter_list hl ?_
  have hIl : l ≠ s₁.heap.objs.size := Nat.ne_of_lt hlt
  have W := Walks.list (prog := prog) (w := w) hh s₁.heap.objs.size l hIl its.toArray
  have kI : Kp0 s₁.heap (s₁.heap.push { cls := .type "list_iterator", data := .fields #[.ref l, .int 0 0] }) := .push _
  have hst2 : (s₁.heap.push { cls := .type "list_iterator", data := .fields #[.ref l, .int 0 0] }).IsListIter s₁.heap.objs.size l 0 ∧ (s₁.heap.push { cls := .type "list_iterator", data := .fields #[.ref l, .int 0 0] }).IsList l its.toArray :=
    ⟨⟨_, Heap.get?_push_size _ rfl, rfl, rfl⟩, hl.push _⟩
  generalize hH : s₁.heap.push { cls := .type "list_iterator", data := .fields #[.ref l, .int 0 0] } = H₁ at kI hst2 ⊢
  have hHs : H₁.objs.size = s₁.heap.objs.size + 1 := by rw [← hH, Heap.size_push]
  generalize hIe : s₁.heap.objs.size = I at *
  refine wpAny_newObj_type (wpAny_newFunctionEnv hcell (by intro y hy; simp at hy) (fun h₁ hns₁ hsb₁ => ?_) hkind)
  dsimp only at hns₁ hsb₁ ⊢
  generalize hH2 : H₁.push { cls := .type "list", dict := none, data := .seq ([] : List Value).toArray } = H2 at hns₁ hsb₁ ⊢
  have hC : H2.objs.size = H₁.objs.size + 1 := by rw [← hH2, Heap.size_push]
  generalize hDe : H₁.objs.size = D at *
  generalize hCe : H2.objs.size = C at hC hns₁ hsb₁
  have hDn : H₁.get? D = none := hDe ▸ fresh_size _
  have hCn : H₁.get? C = none := Heap.get?_none_of_le (by omega)
  have low : ∀ a, H₁.get? a = none → s₁.heap.get? a = none := fun a e => by
    cases q : s₁.heap.get? a with
    | none => rfl
    | some o => have := kI.stays _ _ q; rw [e] at this; cases this
  have hDC : D ≠ C := by omega
  have hDI : D ≠ I := by omega
  have hCI : C ≠ I := by omega
  have hDl : D ≠ l := fun q => by obtain ⟨o, ho⟩ := list_at hst2.2; rw [← q, hDn] at ho; cases ho
  have hCl : C ≠ l := fun q => by obtain ⟨o, ho⟩ := list_at hst2.2; rw [← q, hCn] at ho; cases ho
  have old : ∀ b o, H₁.get? b = some o → h₁.get? b = some o := fun b o e => hsb₁.extBut b o (fun q => by rw [q, hCn] at e; cases e) (Heap.get?_push_of_some _ (hH2 ▸ Heap.get?_push_of_some _ e))
  have hacc : h₁.PlainList D #[] := ⟨_, hsb₁.extBut _ _ hDC (Heap.get?_push_of_some _ (hH2 ▸ hDe ▸ Heap.get?_push_size _ rfl))⟩
  have B₁ : Bd g No s₁.heap C [] h₁ := ⟨⟨_, hns₁, fun _ _ e => by cases e⟩, Kp.of_stays fun b o e => old b o (kI.stays b o e), (hst.trans kI).trans (.of_stays old), hst, .inl (low C hCn), fun a q => q.elim⟩
  have hxl : (compEnvC scope cl C env).kindOf x = some .local := lookup_relabel_local hx
  have hyl : (compEnvC scope cl C env).kindOf y = some .local := lookup_relabel_local hy
  have hpp : ((compEnvC scope cl C env).scope.kind == .class || ((compEnvC scope cl C env).scope.kind == .module && (compEnvC scope cl C env).locals != (compEnvC scope cl C env).globals)) = false := by show (scope.kind == .class || (scope.kind == .module && _)) = false; rw [hkind]; rfl
  have loop : ∀ s₃ : Shared, s₃ = { s₁ with heap := h₁, toks := s₁.toks + ([] : List (Str × Value)).length } →
      codeAny (model prog w) A (.compLoop (.ListComp elt [⟨.Tuple [.Name x px, .Name y py] kt tp, iter, [], 0⟩] scope pos) 0 (.ref I) (.ref D) (compEnvC scope cl C env)) (compPost (model prog w) A E none Q (.ref D) C) s₃ := by
    rintro s₃ rfl
    refine LCp.codeAny_compLoop_pair (fun k s' => ∃ h' tk i ys, s' = { s₁ with heap := h', toks := tk } ∧ i ≤ its.length ∧ k = its.length + 1 - i ∧ (h'.IsListIter I l i ∧ h'.IsList l its.toArray) ∧ Inv i ys h' ∧ ys.length = i ∧ h'.PlainList D (List.toArray ys) ∧
        Bd g No s₁.heap C [] h') ?_ (its.length + 1)
      ⟨h₁, _, 0, [], rfl, Nat.zero_le _, rfl, W.frame _ _ _ hst2 fun b _ o e => old b o e, stab _ _ _ _ inv0 (Kp.of_stays fun b o e => old b o (kI.stays b o e)), rfl, hacc, B₁⟩
    rintro k s' ⟨H, tk, i, ys, rfl, hi, rfl, hstH, hInv, hlen, hD, B⟩
    have nt := listIter_nt hstH.1
    by_cases hlt' : i < its.length
    · refine W.item i _ _ _ (by simpa using hlt') hstH fun v h₂ tk₂ hP st₂ hk₂ => ?_
      have hv : its[i]? = some v := by simpa using hP
      obtain ⟨T, u₁, u₂, rfl, hT⟩ := hpair v (List.mem_of_getElem? hv)
      dsimp only at hk₂
      have k₂ : Kp (fun a => a = I) H h₂ := ⟨fun a o e q => hk₂ a o (fun z => q (List.mem_singleton.mp z)) e, fun a o e c => hk₂ a o (fun q => nt a q o e c) e⟩
      replace B := B.step k₂ fun a q => ⟨.inr (by rw [q]; exact hIn), fun z => hCI (z.symm.trans q)⟩
      replace hD : h₂.PlainList D (List.toArray ys) := plain_kp hD k₂ hDI
      replace hInv := stab _ _ _ _ hInv (k₂.mono fun a q => by rw [q]; exact hIn)
      refine wpAny_letOwnedTupleGo_listiter st₂.1 ?_
      refine assign2 (env := compEnvC scope cl C env) (L := C) hh B (tup_kp hT B.kp) (fun h₃ tk₃ B₃ k₃ => ?_) rfl hxl hyl hpp
      dsimp only at k₃
      replace hD : h₃.PlainList D (List.toArray ys) := plain_kp hD k₃ hDC
      replace hInv := stab _ _ _ _ hInv (k₃.mono fun a q => by rw [q]; exact low C hCn)
      have st₃ := W.frame _ _ _ st₂ fun b q o e => k₃.keep b o e fun z => by
        simp only [List.mem_cons, List.not_mem_nil, or_false] at q
        rcases q with q | q
        · exact hCI (z.symm.trans q)
        · exact hCl (z.symm.trans q)
      refine step C i T u₁ u₂ ys h₃ tk₃ _ _ (fun z h₄ tk₄ k₄ hInv₄ => ?_) hv (tup_kp hT B₃.kp) hInv B₃ (low C hCn)
      have B₄ := B₃.step0 k₄
      replace hD : h₄.PlainList D (List.toArray ys) := plain_kp hD k₄ id
      have st₄ := W.frame _ _ _ st₃ fun b q o e => k₄.keep b o e id
      refine wpAny_list_append_plain (hsz := by rw [List.size_toArray]; omega) hD fun h₅ hD₅ hs₅ => ?_
      dsimp only at hs₅
      have k₅ : Kp (fun a => a = D) h₄ h₅ := Kp.same hs₅ rfl (list_noTup hD.isList)
      refine ⟨its.length + 1 - (i + 1), by omega, h₅, tk₄, i + 1, ys ++ [z], rfl, hlt', rfl, W.frame _ _ _ st₄ fun b q o e => k₅.keep b o e fun z => ?_,
        stab _ _ _ _ hInv₄ (k₅.mono fun a q => by rw [q]; exact low D hDn), by simp [hlen], by simpa using hD₅, ((B₄.step k₅ fun a q => ⟨.inr (by rw [q]; exact low D hDn), fun z => hDC (q.symm.trans z)⟩).weak fun y v e => by cases e)⟩
      simp only [List.mem_cons, List.not_mem_nil, or_false] at q
      rcases q with q | q
      · exact hDI (z.symm.trans q)
      · exact hDl (z.symm.trans q)
    · obtain rfl : i = its.length := by omega
      refine W.done _ _ _ (by simpa using hstH) fun h₂ tk₂ hk₂ => ?_
      dsimp only at hk₂
      have k₂ : Kp (fun a => a = I) H h₂ := ⟨fun a o e q => hk₂ a o (fun z => q (List.mem_singleton.mp z)) e, fun a o e c => hk₂ a o (fun q => nt a q o e c) e⟩
      replace B := B.step k₂ fun a q => ⟨.inr (by rw [q]; exact hIn), fun z => hCI (z.symm.trans q)⟩
      replace hD : h₂.PlainList D (List.toArray ys) := plain_kp hD k₂ hDI
      replace hInv := stab _ _ _ _ hInv (k₂.mono fun a q => by rw [q]; exact hIn)
      obtain ⟨mB, hnB, hmB⟩ := B.ns
      refine ⟨_, hnB, fun h₃ hs₃ => ?_⟩
      dsimp only at hs₃
      have k₃ : Kp (fun a => a = C) h₂ h₃ := Kp.same hs₃ rfl B.nt
      exact fin D ys h₃ _ (low D hDn) (plain_kp hD k₃ hDC) hlen (stab _ _ _ _ hInv (k₃.mono fun a q => by rw [q]; exact low C hCn))
        (B.kp.then k₃ fun a o e q => by rw [q, low C hCn] at e; cases e)
  exact codeAny_compStart_list (loop _ rfl) (W.self 0 _ _ _ (W.frame _ _ _ hst2 fun b _ o e => old b o e) (loop _ rfl))
inductive ForpEnd (prog : Program) (w : World) (A : Around) (E : Value → Shared → Prop) (env : Env) (g : Heap) (S : Addr → Prop) (target : PySem.Expr) (body : List Stmt) (h₀ : Heap) (L : Addr) (lc : List (Str × Value)) (Q : Flow → Shared → Prop) (xv : Value) (s₁ : Shared) : Prop
  | mk (l : Addr) (its : List Value) (J : Nat → Heap → Prop) (hx : xv = .ref l) (hh : A.handled = none) (hl : s₁.heap.IsList l its.toArray) (hpair : ∀ v ∈ its, ∃ T u₁ u₂, v = .ref T ∧ IsTup s₁.heap T #[u₁, u₂])
      (B : Bd g S h₀ L lc s₁.heap) (hlS : ¬ S l) (hlL : l ≠ L) (liveS : ∀ a, S a → ∃ o, s₁.heap.get? a = some o) (j0 : J 0 s₁.heap) (stab : ∀ i h h' I, s₁.heap.get? I = none → J i h → Kp (fun a => a = I) h h' → J i h')
      (turn : ∀ i T u₁ u₂ h₃ tk₃ (Qb : Flow → Shared → Prop) (Eb : Value → Shared → Prop), (∀ h' tk', Bd g (fun a => S a ∨ a = L) h₃ L lc h' → J (i + 1) h' → Qb .next { s₁ with heap := h', toks := tk' }) → (∀ v s', Q (.ret v) s' → Qb (.ret v) s') →
        (∀ e s', notedBy (model prog w) A env (cameBackBy (model prog w) A env E) e s' → Eb e s') → its[i]? = some (.ref T) → IsTup h₃ T #[u₁, u₂] → Bd g S h₀ L lc h₃ → Bd g (fun a => S a ∨ a = L) h₃ L lc h₃ → J i h₃ →
        wpAny (model prog w) A (assign target env (.ref T)) (fun _ s₄ => wpAny (model prog w) A (execs body env) Qb Eb s₄) Eb { s₁ with heap := h₃, toks := tk₃ })
      (fin : ∀ h' tk, Bd g S h₀ L lc h' → J its.length h' → Q .next { s₁ with heap := h', toks := tk }) : ForpEnd prog w A E env g S target body h₀ L lc Q xv s₁
/-- a for loop with a pair for its target, over a list of pairs -/
theorem forP {s : Shared} {elts : List PySem.Expr} {kt : Nat} {tpos : Pos} {iter : PySem.Expr} {body : List Stmt} {pos : Pos} {Q : Flow → Shared → Prop} {g h₀ : Heap} {S : Addr → Prop} {L : Addr} {lc : List (Str × Value)}
    (h : wpAny (model prog w) A (eval iter env) (fun xv s₁ => ForpEnd prog w A E env g S (.Tuple elts kt tpos) body h₀ L lc Q xv s₁) E s)
    (hs : ∀ x, foldedSetIterable iter env x = pure x := by intro _; rfl) :
    wpAny (model prog w) A (exec (.For (.Tuple elts kt tpos) iter body [] pos) env) Q E s := by
  refine wpAny_For (wpAny_mono h (fun xv s₁ h₁ => ?_) fun _ _ q => q) hs
  obtain ⟨l, its, J, rfl, hh, hl, hpair, B, hlS, hlL, liveS, j0, stab, turn, fin⟩ := h₁
  have hIn : s₁.heap.get? s₁.heap.objs.size = none := fresh_size _
  have hIl : l ≠ s₁.heap.objs.size := Nat.ne_of_lt (list_lt hl)
  refine wpAny_pyIter_list hl ?_
  have W := Walks.list (prog := prog) (w := w) hh s₁.heap.objs.size l hIl its.toArray
  generalize hIe : s₁.heap.objs.size = I at *
  obtain ⟨oL, hL⟩ := B.at_
  have hIL : I ≠ L := fun q => by rw [q, hL] at hIn; cases hIn
  have hIS : ¬ S I := fun q => by obtain ⟨o, ho⟩ := liveS I q; rw [hIn] at ho; cases ho
  have hst2 : (s₁.heap.push { cls := .type "list_iterator", data := .fields #[.ref l, .int 0 0] }).IsListIter I l 0 ∧ (s₁.heap.push { cls := .type "list_iterator", data := .fields #[.ref l, .int 0 0] }).IsList l its.toArray :=
    ⟨⟨_, hIe ▸ Heap.get?_push_size _ rfl, rfl, rfl⟩, hl.push _⟩
  have kI : Kp0 s₁.heap (s₁.heap.push { cls := .type "list_iterator", data := .fields #[.ref l, .int 0 0] }) := .push _
  generalize hH : s₁.heap.push { cls := .type "list_iterator", data := .fields #[.ref l, .int 0 0] } = H₁ at kI hst2 ⊢
  have turnI : ∀ {h h' : Heap}, Bd g S h₀ L lc h → Kp (fun a => a = I) h h' → Bd g S h₀ L lc h' := fun B' k => B'.step k fun a q => by rw [q]; exact ⟨(B.new hIn).1, hIL⟩
  refine forGo (fun k s' => ∃ h' tk i, s' = { s₁ with heap := h', toks := tk } ∧ i ≤ its.length ∧ k = its.length + 1 - i ∧ (h'.IsListIter I l i ∧ h'.IsList l its.toArray) ∧ (∀ v ∈ its, ∃ T u₁ u₂, v = .ref T ∧ IsTup h' T #[u₁, u₂]) ∧ Bd g S h₀ L lc h' ∧ J i h') ?_ (its.length + 1)
    ⟨H₁, s₁.toks, 0, rfl, Nat.zero_le _, rfl, hst2, fun v hv => let ⟨T, u₁, u₂, e, ht⟩ := hpair v hv; ⟨T, u₁, u₂, e, tup_kp ht kI⟩, B.step0 kI, stab _ _ _ I hIn j0 kI.of0⟩
  rintro k s' ⟨H, tk, i, rfl, hi, rfl, hst, hpr, hB, hJ⟩
  have nt := listIter_nt hst.1
  have pr : ∀ {S' : Addr → Prop} {h h' : Heap}, Kp S' h h' → (∀ v ∈ its, ∃ T u₁ u₂, v = .ref T ∧ IsTup h T #[u₁, u₂]) → ∀ v ∈ its, ∃ T u₁ u₂, v = .ref T ∧ IsTup h' T #[u₁, u₂] := fun k p v hv => let ⟨T, u₁, u₂, e, ht⟩ := p v hv; ⟨T, u₁, u₂, e, tup_kp ht k⟩
  by_cases hlt : i < its.length
  · refine W.item i _ _ _ (by simpa using hlt) hst fun v h₂ tk₂ hP st₂ hk₂ => ?_
    have hv : its[i]? = some v := by simpa using hP
    dsimp only at hk₂
    have k₂ : Kp (fun a => a = I) H h₂ := ⟨fun a o e q => hk₂ a o (fun z => q (List.mem_singleton.mp z)) e, fun a o e c => hk₂ a o (fun q => nt a q o e c) e⟩
    have hpr₂ := pr k₂ hpr
    obtain ⟨T, u₁, u₂, rfl, hT⟩ := hpr₂ v (List.mem_of_getElem? hv)
    refine wpAny_letOwnedTupleGo_listiter st₂.1 ?_
    have hB₂ := turnI hB k₂
    refine turn i T u₁ u₂ h₂ tk₂ _ _ ?_ (fun _ _ q => q) (fun _ _ q => q) hv hT hB₂ hB₂.here (stab _ _ _ I hIn hJ k₂)
    have back : ∀ h' , Bd g (fun a => S a ∨ a = L) h₂ L lc h' → (h'.IsListIter I l (i + 1) ∧ h'.IsList l its.toArray) := fun h' B' => W.frame (i + 1) _ _ st₂ fun b hb o x => B'.kp.keep b o x fun q => by
      simp only [List.mem_cons, List.not_mem_nil, or_false] at hb
      rcases hb with rfl | rfl
      · exact q.elim hIS hIL
      · exact q.elim hlS hlL
    exact fun h' tk' B' hJ' => ⟨its.length + 1 - (i + 1), by omega, h', tk', i + 1, rfl, hlt, rfl, back h' B', pr B'.kp hpr₂, hB₂.comp B', hJ'⟩
  · obtain rfl : i = its.length := by omega
    refine W.done _ _ _ (by simpa using hst) fun h₂ tk₂ hk₂ => ?_
    dsimp only at hk₂
    have k₂ : Kp (fun a => a = I) H h₂ := ⟨fun a o e q => hk₂ a o (fun z => q (List.mem_singleton.mp z)) e, fun a o e c => hk₂ a o (fun q => nt a q o e c) e⟩
    exact wpAny_execs_nil (fin h₂ _ (turnI hB k₂) (stab _ _ _ I hIn hJ k₂))
end
theorem Bd.grow {g h₀ h : Heap} {S S' : Addr → Prop} {L : Addr} {l : List (Str × Value)} (B : Bd g S h₀ L l h) (m : ∀ a, S a → S' a) (far : ∀ a, S' a → g.get? a = none) : Bd g S' h₀ L l h :=
  ⟨B.ns, B.kp.mono m, B.st, B.st₀, B.lo.imp id (m L), far⟩
theorem Bd.kp0 {g h₀ h : Heap} {S : Addr → Prop} {L : Addr} {l : List (Str × Value)} (B : Bd g S h₀ L l h) (m : ∀ a, S a → h₀.get? a = none) : Kp0 h₀ h :=
  B.kp.drop fun a o e q => by have := m a q; rw [this] at e; cases e
theorem extendL {prog : Program} {w : World} {A : Around} {E : Value → Shared → Prop} {s : Shared} {Q : Value → Shared → Prop} {l b : Addr} {its its2 : List Value} (hl : s.heap.PlainList l its.toArray) (hb : s.heap.PlainList b its2.toArray) (hsz : its.length + its2.length < 100000)
    (h : ∀ h', h'.PlainList l (its ++ its2).toArray → Heap.SameBut l s.heap h' → Q .none { s with heap := h' }) : wpAny (model prog w) A (call (.builtin "list.extend") [.ref l, .ref b]) Q E s := by
  obtain ⟨n, el⟩ := hl
  obtain ⟨m, eb⟩ := hb
  have hsl : its.toArray.size + its2.toArray.size ≤ sizeLine := by simp [sizeLine_eq]; omega
  refine call_meets PySem.F.slot_list_extend ⟨_, el, rfl⟩ PySem.F.entry_list_extend (PySem.F.args_list_extend_2 _ _) (PySem.AutoSeq1.list_extend_list_list_0 l its.toArray n b its2.toArray m (extend_door hsl) (Nat.le_trans (Nat.le_add_right _ _) hsl)) ⟨el, eb, ?_⟩
  refine h _ ⟨if (its.toArray ++ its2.toArray).size == its.toArray.size then n else n + 1, ?_⟩ (Heap.SameBut.update ..)
  rw [Heap.get?_update_self _ el (by rw [mapSeq_app]; rfl), mapSeq_app]
  have e : its.toArray ++ its2.toArray = (its ++ its2).toArray := by simp
  rw [e]

def PartOk (n : Nat) (h : Heap) (v : Value) : Prop := ∃ T p pits q t, v = .ref T ∧ IsTup h T #[.ref p, q] ∧ IsTup h p (List.toArray pits) ∧ pits.length ≤ n ∧ Rd h q (tmD t) ∧ TmOk t
theorem PartOk.kp {S : Addr → Prop} {n : Nat} {h h' : Heap} {v : Value} (x : PartOk n h v) (k : Kp S h h') : PartOk n h' v :=
  let ⟨T, p, pits, q, t, e, a, b, c, d, f⟩ := x; ⟨T, p, pits, q, t, e, tup_kp a k, tup_kp b k, c, rd_kp d k, f⟩
theorem PartOk.le {n m : Nat} {h : Heap} {v : Value} (x : PartOk n h v) (l : n ≤ m) : PartOk m h v :=
  let ⟨T, p, pits, q, t, e, a, b, c, d, f⟩ := x; ⟨T, p, pits, q, t, e, a, b, by omega, d, f⟩
theorem assignCL {prog : Program} {w : World} {A : Around} {E : Value → Shared → Prop} {s : Shared} {env : Env} {x y : Str} {p q pos : Pos} {k : Nat} {T c : Addr} {u v : Value} {v₀ : Option Value} {Q : Unit → Shared → Prop} {g h₀ : Heap} {S : Addr → Prop} {L : Addr} {l : List (Str × Value)} (hh : A.handled = none) (B : Bd g S h₀ L l s.heap) (ht : IsTup s.heap T #[u, v])
    (hcell : s.heap.IsCell c v₀) (hS : S c) (hcL : c ≠ L)
    (h : ∀ h' tk, Bd g S h₀ L ((y, v) :: l) h' → h'.IsCell c (some u) → Kp (fun a => a = L ∨ a = c) s.heap h' → Q () { s with heap := h', toks := tk }) (hL : env.locals = L := by rfl)
    (hk : env.scope.kind = .function := by rfl) (hx : env.kindOf x = some .cell := by rfl) (hc : env.cells.lookup x = some c := by rfl) (hy : env.kindOf y = some .local := by rfl) (hp : (env.scope.kind == .class || (env.scope.kind == .module && env.locals != env.globals)) = false := by rfl) :
    wpAny (model prog w) A (assign (.Tuple [.Name x p, .Name y q] k pos) env (.ref T)) Q E s := by
  refine wpAny_assign_Tuple hh ht rfl rfl fun h' hE => ?_
  have k₁ : Kp0 s.heap h' := .of_stays fun b o e => hE b o (fun z => by rw [z, fresh_size] at e; cases e) e
  have B₁ := B.step0 k₁
  have hcell₁ := cell_kp hcell k₁ id
  have cnt₁ : ∀ o, h'.get? c = some o → ¬ IsT o := fun o e q => by
    obtain ⟨o', e', hd⟩ := hcell₁
    rw [e] at e'; cases e'
    obtain ⟨_, its, n, hd'⟩ := q
    rw [hd] at hd'; cases hd'
  show wpAny _ _ (do holding [v] (assign (.Name x p) env u); assignInOrder [assign (.Name y q) env] [v]) _ _ _
  refine wpAny_bind (wpAny_holding (wpAny_assign_Name (wpAny_storeName_cell hk hx hc hcell₁ (fun h₂ hc₂ hs₂ => ?_))))
  dsimp only at hs₂
  have B₂ := B₁.turn hs₂ (.inl hS) hcL cnt₁
  show wpAny _ _ (do holding [] (assign (.Name y q) env v); assignInOrder [] []) _ _ _
  refine wpAny_bind (wpAny_holding (wpAny_assign_Name (sL B₂ (fun h₃ B₃ hs₃ => ?_) hL hy hp)))
  have k₃ : Kp (fun a => a = L) h₂ h₃ := Kp.same hs₃ rfl B₂.nt
  exact wpAny_pure (h _ _ B₃ (cell_kp hc₂ k₃ hcL) ((k₁.of0.trans (Kp.same (S := fun a => a = L ∨ a = c) hs₂ (.inr rfl) cnt₁)).trans (k₃.mono fun a q => .inl q)))
theorem cell_noTup {h : Heap} {c : Addr} {v : Option Value} (x : h.IsCell c v) : ∀ o, h.get? c = some o → ¬ IsT o := fun o e q => by
  obtain ⟨o', e', hd⟩ := x
  rw [e] at e'; cases e'
  obtain ⟨_, its, n, hd'⟩ := q
  rw [hd] at hd'; cases hd'
section
variable {prog : Program} {w : World}
theorem parts_ok : ∀ (n : Nat) (t : Tm), hgt t ≤ n → cnt t < 10000 → n < 100 → TmOk t → ∀ (A : Around) (s : Shared) (g : Heap) (v : Value) (Q E : Value → Shared → Prop), Wd w g → Kp0 g s.heap → Rd s.heap v (tmD t) → Ao A n →
    (∀ l its h' tk, Kp0 s.heap h' → s.heap.get? l = none → h'.PlainList l (List.toArray its) → (∀ v ∈ its, PartOk n h' v) → its.length ≤ cnt t → Q (.ref l) { s with heap := h', toks := tk }) → wpAny (model prog w) A (call (.ref 72) [v] []) Q E s
  | 0, .mk op ks, hn, _, _, _ => by rw [hgt] at hn; omega
  | n + 1, .mk op ks, hn, hcnt, hnn, ok => by
    intro A s g v Q E W st hv hA hQ
    rw [hgt] at hn
    rw [cnt] at hcnt
    have ok' := ok
    rw [TmOk] at ok
    obtain ⟨-, hk2, oks⟩ := ok
    obtain ⟨a, to, vs, rfl, ht₀, hvs₀⟩ := rd_tm hv
    refine callFC W st (by rfl) (by kernel_rfl) hA.room (binds := [("t", .ref a)]) (l := [("t", .ref a)]) (S := No) (BindsTo.of_eq rfl) (by rfl) (by rfl) (fun _ q => q.elim) (fun h₁ L tk₁ B kp0 hLn hcs => ?_)
    walk_at "r"
    refine tupleNew (fun p₀ h₂ k₂ hp₀ => ?_) (by simp [sizeLine_eq])
    dsimp only at k₂
    replace B := B.step0 k₂
    walk_at "r"
    refine tupleNew (fun T₀ h₃ k₃ hT₀ => ?_) (by simp [sizeLine_eq])
    dsimp only at k₃
    replace B := B.step0 k₃
    walk_at "r"
    refine listNew (fun fl h₄ k₄ hfl hl => ?_) (by simp [sizeLine_eq])
    dsimp only at k₄ hfl
    have hfL : fl ≠ L := (B.new hfl).2
    replace B := B.step0 k₄
    obtain ⟨hc, hcn, hcL⟩ := hcs "k" (L + 1) rfl
    have k14 : Kp0 h₁ h₄ := k₂.trans (k₃.trans k₄)
    have hc₄ := cell_kp hc k14 id
    obtain ⟨oc, hoc⟩ := cell_at hc₄
    have hfc : fl ≠ L + 1 := fun q => by obtain ⟨o, ho⟩ := cell_at (cell_kp hc (k₂.trans k₃) id); rw [← q, hfl] at ho; cases ho
    have hfs : s.heap.get? fl = none := by
      cases q : s.heap.get? fl with
      | none => rfl
      | some o => have := (kp0.trans (k₂.trans k₃)).stays _ _ q; rw [hfl] at this; cases this
    have B := B.grow (S' := fun a => a = fl ∨ a = L + 1) (fun _ q => q.elim) fun a q => by
      rcases q with rfl | rfl
      · cases z : g.get? a with
        | none => rfl
        | some o => have := st.stays _ _ z; rw [hfs] at this; cases this
      · cases z : g.get? (L + 1) with
        | none => rfl
        | some o => have := st.stays _ _ z; rw [hcn] at this; cases this
    walk_at "s"
    intro h₅ B hs₅
    have k₅ : Kp (fun a => a = L) h₄ h₅ := Kp.same hs₅ rfl (by assumption : Bd g (fun a => a = fl ∨ a = L + 1) s.heap L _ h₄).nt
    walk_at "s"
    refine forE (g := g) (S := fun a => a = fl ∨ a = L + 1) (h₀ := s.heap) (L := L) (l := [("found", .ref fl), ("t", .ref a)]) ?_
    walk_at "r"
    have ht := tup_kp (tup_kp (tup_kp ht₀ kp0) k14) k₅
    have hvs := rdAll_kp (rdAll_kp (rdAll_kp hvs₀ kp0) k14) k₅
    have hlen : vs.length = ks.length := by rw [rdAll_length hvs, tmDs_map, List.length_map]
    refine ⟨a, _, rfl, ht, Nat.le_refl _, by simp, by simp [sizeLine_eq]; omega, fun b h₆ tk₆ k₆ htb => ?_⟩
    dsimp only at k₆
    have hA' := fun env => hA.deeper env
    walk_at "r"
    refine enumNew (hA' default).handled (.inl htb) fun e it h₇ St k₇ he₀ hi₀ hEn => ?_
    dsimp only at k₇ he₀ hi₀
    have k57 : Kp0 h₅ h₇ := k₆.trans k₇
    have B := (Bd.step0 (by assumption : Bd g (fun a => a = fl ∨ a = L + 1) s.heap L _ h₅) k57)
    have hv₇ := rdAll_kp (rdAll_kp hvs k₆) k₇
    have hl₅ := plain_kp (plain_kp hl k₅ hfL) k57 id
    have hc₅ := cell_kp (cell_kp hc₄ k₅ hcL) k57 id
    have hT₀' : IsTup h₇ T₀ #[.ref p₀, .ref a] := tup_kp (tup_kp (tup_kp hT₀ k₄) k₅) k57
    have hp₀' : IsTup h₇ p₀ (List.toArray []) := tup_kp (tup_kp (tup_kp (tup_kp hp₀ k₃) k₄) k₅) k57
    have ht₇ := tup_kp ht k57
    have hfe : fl ≠ e := fun q => by obtain ⟨o, ho⟩ := plain_at (plain_kp hl k₅ hfL); have := k₆.stays _ _ ho; rw [q, he₀] at this; cases this
    have hfi : fl ≠ it := fun q => by obtain ⟨o, ho⟩ := plain_at (plain_kp hl k₅ hfL); have := k₆.stays _ _ ho; rw [q, hi₀] at this; cases this
    obtain ⟨oc₅, hoc₅⟩ := cell_at (cell_kp hc₄ k₅ hcL)
    have hce : L + 1 ≠ e := fun q => by have := k₆.stays _ _ hoc₅; rw [q, he₀] at this; cases this
    have hci : L + 1 ≠ it := fun q => by have := k₆.stays _ _ hoc₅; rw [q, hi₀] at this; cases this
    have hB6 := (by assumption : Bd g (fun a => a = fl ∨ a = L + 1) s.heap L _ h₅).step0 k₆
    have fresh : ∀ a, h₆.get? a = none → s.heap.get? a = none ∧ a ≠ L ∧ ¬ (a = fl ∨ a = L + 1) := fun a z => by
      have q := hB6.new z
      have ns : ¬ (a = fl ∨ a = L + 1) := fun q => by
        rcases q with q | q
        · obtain ⟨o, ho⟩ := plain_at (plain_kp hl k₅ hfL); have := k₆.stays _ _ ho; rw [← q, z] at this; cases this
        · have := k₆.stays _ _ hoc₅; rw [← q, z] at this; cases this
      exact ⟨q.1.elim (fun y => absurd y ns) id, q.2, ns⟩
    have hbS : ¬ (b = fl ∨ b = L + 1) ∧ b ≠ L := by
      obtain ⟨o, ho, hcl, hdt⟩ := id htb
      refine ⟨fun q => ?_, fun q => hB6.nt o (q ▸ ho) ⟨hcl, _, hdt⟩⟩
      rcases q with q | q
      · exact list_noTup (plain_kp (plain_kp hl k₅ hfL) k₆ id).isList o (q ▸ ho) ⟨hcl, _, hdt⟩
      · exact cell_noTup (cell_kp (cell_kp hc₄ k₅ hcL) k₆ id) o (q ▸ ho) ⟨hcl, _, hdt⟩
    refine ⟨e, it, _, _, St, _, fun i h => (∃ its, h.PlainList fl (List.toArray its) ∧ (∀ v ∈ its, PartOk (n + 1) h v) ∧ its.length ≤ 1 + cnts (ks.take i)) ∧ ∃ v, h.IsCell (L + 1) v, rfl, hEn, B, ?_, ?_, ?_, ?_, ?_, ?_⟩
    · rintro a (rfl | rfl)
      · exact fresh _ he₀
      · exact fresh _ hi₀
    · intro b' hb'; rw [List.mem_singleton] at hb'; rw [hb']; exact hbS
    · refine ⟨⟨[.ref T₀], hl₅, fun v hv => ?_, by simp⟩, _, hc₅⟩
      rw [List.mem_singleton] at hv; subst hv
      exact ⟨T₀, p₀, [], .ref a, .mk op ks, rfl, hT₀', hp₀', by simp, tm_rd ht₇ hv₇, ok'⟩
    · rintro i h h' ⟨⟨its, x1, x2, x3⟩, v, x4⟩ k
      exact ⟨⟨its, plain_kp x1 k (fun q => q.elim hfe hfi), fun v hv => (x2 v hv).kp k, x3⟩, v, cell_kp x4 k fun q => q.elim hce hci⟩
    · rintro i ti x T h₈ tk₈ Qt Et hQt - - hi hP hT B₃ Bp ⟨⟨its, x1, x2, x3⟩, v₀, x4⟩
      have hx' : vs[i]? = some x := by simpa using hP
      obtain ⟨d, hd, hr⟩ := rdAll_at hvs₀ i x hx'
      obtain ⟨t', hti, rfl⟩ := tmDs_get hd
      have htm : t' ∈ ks := List.mem_of_getElem? hti
      have hcg := cnts_take_get hti
      refine assignCL (hA' default).handled Bp hT x4 (.inl (.inr rfl)) hcL fun h₉ tk₉ B₉ hc₉ k₉ => ?_
      dsimp only at k₉
      have hfk : ¬ (fl = L ∨ fl = L + 1) := fun q => q.elim hfL hfc
      have x1' := plain_kp x1 k₉ hfk
      have hr₉ : Rd h₉ x (tmD t') := rd_kp (rd_kp hr B₃.kp) k₉
      walk_at "r"
      refine gmList x1' PySem.F.slot_list_extend PySem.F.type_list_extend ?_
      walk_at "r"
      refine lcP (g := g) (cl := [("k", L + 1)]) rfl (by decide) rfl (by decide) rfl rfl ?_
      walk_at "r"
      refine parts_ok n t' (by have := hgt_le htm; omega) (by omega) (by omega) ((tmsOk_iff ks).mp oks t' htm) _ _ g _ _ _ W (by exact B₉.st) (by exact hr₉) (hA' _) fun l2 its2 h₁₀ tk₁₀ k₁₀ hl2 hpl2 hok2 hlen2 => ?_
      dsimp only at k₁₀ hl2
      refine ⟨l2, its2, fun j ys h => (∀ y ∈ ys, PartOk (n + 1) h y) ∧ h.IsCell (L + 1) (some (.int i ti)), rfl, (hA' default).handled, hpl2.isList, by rw [sizeLine_eq]; omega, fun v hv => ?_, B₉.st.trans k₁₀, ⟨fun _ q => by simp at q, cell_kp hc₉ k₁₀ id⟩, ?_, ?_, ?_⟩
      · obtain ⟨T, p, pits, q, t, e, a, b, c, d, f⟩ := hok2 v hv; exact ⟨T, _, _, e, a⟩
      · rintro j ys h h' ⟨y1, y2⟩ k
        exact ⟨fun y hy => (y1 y hy).kp k, cell_kp y2 k fun q => by obtain ⟨o, ho⟩ := cell_at (cell_kp hc₉ k₁₀ id); dsimp only at q; rw [ho] at q; cases q⟩
      · rintro C j T' u₁ u₂ ys h₁₁ tk₁₁ Qb E' hQb hj hT' ⟨y1, y2⟩ B₄ hC
        obtain ⟨T'', p, pits, q, tq, e1, hTq, hpq, hpl, hrq, hokq⟩ := (hok2 _ (List.mem_of_getElem? hj)).kp B₄.kp
        cases e1
        have eT : (#[u₁, u₂] : Array Value) = #[.ref p, q] := by
          obtain ⟨o, ho, _, m, hd⟩ := hT'
          obtain ⟨o', ho', _, m', hd'⟩ := hTq
          rw [ho] at ho'; cases ho'; rw [hd] at hd'; cases hd'; rfl
        cases eT
        walk_at "r"
        refine tupleNew (fun z h₁₂ k₁₂ hz => ?_) (by simp [sizeLine_eq])
        dsimp only at k₁₂
        replace B₄ := B₄.step0 k₁₂
        walk_at "r"
        refine addTup hz (tup_kp hpq k₁₂) (by simp) (by simp [sizeLine_eq]; omega) fun z2 h₁₃ k₁₃ hz2 => ?_
        dsimp only at k₁₃
        replace B₄ := B₄.step0 k₁₃
        walk_at "r"
        refine tupleNew (fun z3 h₁₄ k₁₄ hz3 => ?_) (by simp [sizeLine_eq])
        dsimp only at k₁₄
        have kk := k₁₂.trans (k₁₃.trans k₁₄)
        walk_at "q"
        refine hQb _ _ _ kk ⟨fun y hy => ?_, cell_kp y2 kk id⟩
        rcases List.mem_append.mp hy with hy | hy
        · exact (y1 y hy).kp kk
        · rw [List.mem_singleton] at hy; subst hy
          exact ⟨z3, z2, _, _, tq, rfl, hz3, tup_kp hz2 k₁₄, by simp; omega, rd_kp hrq kk, hokq⟩
      · intro D ys h₁₁ tk₁₁ hD hplD hlenD ⟨y1, y2⟩ k₁₁
        walk_at "r"
        have x1'' := plain_kp (plain_kp x1' k₁₀ id) k₁₁ id
        refine extendL x1'' hplD (by omega) fun h₁₂ hp12 hs12 => ?_
        dsimp only at hs12
        have k₁₂ : Kp (fun a => a = fl) h₁₁ h₁₂ := Kp.same hs12 rfl (list_noTup x1''.isList)
        have B₁₂ := ((B₉.step0 k₁₀).step0 k₁₁).step k₁₂ fun a q => ⟨.inl (by rw [q]; exact .inl (.inl rfl)), fun z => hfL (q.symm.trans z)⟩
        walk_at "z"
        walk_at "q"
        refine hQt _ _ (B₁₂.pop rfl) ⟨⟨its ++ ys, hp12, fun v hv => ?_, ?_⟩, _, cell_kp y2 k₁₂ fun q => hfc q.symm⟩
        · rcases List.mem_append.mp hv with hv | hv
          · exact (((((x2 v hv).kp k₉).kp k₁₀).kp k₁₁).kp k₁₂)
          · exact (y1 v hv).kp k₁₂
        · rw [List.length_append, List.take_add_one, hti, cnts_append]
          simp only [Option.toList, cnts]
          omega
    · rintro h₈ tk₈ B₈ ⟨⟨its, x1, x2, x3⟩, -⟩
      (try dsimp only at B₈)
      walk_at "r"
      walk_at "q"
      refine hQ fl its _ _ (B₈.kp0 ?_) hfs x1 x2 ?_
      · rintro a (rfl | rfl)
        · exact hfs
        · exact hcn
      · have e : (List.drop 1 (Value.str op to :: vs)).length = ks.length := by simp [hlen]
        rw [e, List.take_length] at x3
        rw [cnt]; exact x3
end

/-- a call of a method of the bank -/
theorem cwM {prog : Program} {w : World} {A : Around} {E : Value → Shared → Prop} {s : Shared} {g : Heap} {env : Env} {pos : Pos} {f : Addr} {first : List Value} {args : List PySem.Expr} {Q : Value → Shared → Prop} (W : Wd w g) (st : Kp0 g s.heap) (hk : keepIn (KF w) (.ref f) = true)
    (h : wpAny (model prog w) A (spliced (backTo pos (starEach args env))) (fun vs s₁ => (KF w).In s₁.heap ∧ wpAny (model prog w) A (call (.ref f) (first ++ vs)) Q E s₁) E s)
    (hp : (backTo pos (starEach args env)).any (·.1) = false := by rfl) : wpAny (model prog w) A (callWith pos (.ref f) first (backTo pos (starEach args env)) []) Q E s := cwK hk h hp
section
variable {prog : Program} {w : World} {A : Around} {s : Shared} {g : Heap} {B : BA} {rows : List Nd} {Q E : Value → Shared → Prop}
theorem require_ok {op : Str} {t : Tok} {self : Value} (W : Wd w g) (st : Kp0 g s.heap) (ho : op ∈ ltrs) (hA : Ao A 1)
    (hQ : ∀ h' tk, Kp0 s.heap h' → Q .none { s with heap := h', toks := tk }) : wpAny (model prog w) A (call (.ref 105) [self, .str op t] []) Q E s := by
  refine callF W st (by rfl) (by kernel_rfl) hA.room (binds := [("self", self), ("op", .str op t)]) (S := No) (BindsTo.of_eq rfl) (locs rfl) (fun _ q => q.elim) (fun h₁ L B' kp0 hLn => ?_) (by decide)
  obtain ⟨f1, f2, f3, f4, f5, f6, f7⟩ := ltr_one op ho
  walk_at "r"
  refine isTrue_plain ?_
  walk_at "r"
  refine is_op_ok W (by exact B'.st) ho (hA.deeper _) fun h₂ tk₂ k₂ => ?_
  dsimp only at k₂
  replace B' := B'.step0 k₂
  walk_at "r"
  refine itF (by rfl) ?_
  walk_at "r"
  refine strItem (j := 0) rfl (by decide) (c := op.cps[0]!) (by rw [Array.getElem!_eq_getD, Array.getD_eq_getD_getElem?]; rw [Array.getElem?_eq_getElem (by omega)]; rfl) fun u tk => ?_
  walk_at "r"
  rw [f2]
  refine PyProof.Rows.eq_str ?_
  walk_at "r"
  refine itF f7 ?_
  walk_at "r"
  refine itF rfl ?_
  walk_at "r"
  walk_at "q"
  exact hQ _ _ (kp0.trans k₂)
end
section
variable {prog : Program} {w : World} {A : Around} {s : Shared} {g : Heap} {B : BA} {rows : List Nd} {Q E : Value → Shared → Prop}
/-- the bank turned -/
def BankS (B : BA) : Addr → Prop := B.S
theorem take_ok {op : Str} {ks : List Int} {v : Value} {t : Tok} (W : Wd w g) (st : Kp0 g s.heap) (hb : BankAt prog w s.heap B rows) (ok : RowsOk rows) (hsz : rows.length < 90000) (ho : op ∈ ltrs) (hv : IntSeq s.heap v ks) (hk : ks.length ≤ 2) (hA : Ao A 2) (hfar : ∀ a ∈ B.all, g.get? a = none)
    (hl : (⟨op, ks⟩ : Nd) ∉ rows → ∀ k ∈ ks, 0 ≤ k ∧ k < rows.length)
    (hQ : ∀ u h' tk, Kp B.S s.heap h' → BankAt prog w h' B (addNd rows ⟨op, ks⟩).1 → Q (.int ((addNd rows ⟨op, ks⟩).2 : Nat) u) { s with heap := h', toks := tk }) : wpAny (model prog w) A (call (.ref 98) [.ref B.b, .str op t, v] []) Q E s := by
  have hfarS : ∀ a, B.S a → g.get? a = none := fun a q => hfar a (by rcases q with q | q | q | q <;> simp [BA.all, q])
  refine callFC W st (by rfl) (by kernel_rfl) hA.room (binds := [("self", .ref B.b), ("op", .str op t), ("kids", v)]) (l := [("kids", v), ("op", .str op t)]) (S := B.S) (BindsTo.of_eq rfl) (by rfl) (by rfl) hfarS (fun h₁ L tk₁ B' kp0 hLn hcs => ?_)
  obtain ⟨hc, hcn, hcL⟩ := hcs "self" (L + 1) rfl
  change h₁.IsCell (L + 1) (some (.ref B.b)) at hc
  have hliv := hb.live
  have hLne : ∀ a ∈ B.all, a ≠ L := fun a ha q => by obtain ⟨o, ho⟩ := hliv a ha; rw [q, hLn] at ho; cases ho
  have hcne : ∀ a ∈ B.all, a ≠ L + 1 := fun a ha q => by obtain ⟨o, ho⟩ := hliv a ha; rw [q, hcn] at ho; cases ho
  obtain ⟨n1, n2, n3, n4, n5, n6, n7, n8⟩ := hb.ne
  replace hb := hb.kp0 kp0
  replace hv := hv.kp0 kp0
  have hA' := fun env => hA.deeper env
  walk_at "r"
  refine tupleNew (fun b h₂ k₂ htb => ?_) (by simp [sizeLine_eq])
  dsimp only at k₂
  replace B' := B'.step0 k₂
  replace hb := hb.kp0 k₂
  replace hv := hv.kp0 k₂
  replace hc := cell_kp hc k₂ id
  walk_at "r"
  refine tupOfSeq hv (by omega) fun a vs h₃ k₃ hta hi => ?_
  dsimp only at k₃
  have hlv := hi.length
  refine addTup (tup_kp htb k₃) hta (by simp) (by simp [sizeLine_eq]; omega) fun z h₄ k₄ htz => ?_
  dsimp only at k₄
  replace B' := (B'.step0 k₃).step0 k₄
  replace hb := (hb.kp0 k₃).kp0 k₄
  replace hc := cell_kp (cell_kp hc k₃ id) k₄ id
  walk_at "r"
  intro h₅ B' hs₅
  have k₅ : Kp (fun a => a = L) h₄ h₅ := Kp.same hs₅ rfl (by assumption : Bd g B.S s.heap L _ h₄).nt
  replace hb := hb.kp k₅ hLne
  replace hc := cell_kp hc k₅ hcL
  have hz : Rd h₅ (.ref z) (Nd.data ⟨op, ks⟩) := rd_kp (nd_rd (n := ⟨op, ks⟩) htz (by simpa using hi)) k₅
  have htz₅ := tup_kp htz k₅
  generalize hnd : (⟨op, ks⟩ : Nd) = nd at *
  have hu : A.units + 6 < cLine := by have := hA.units; omega
  walk_at "r"
  refine numIn hb.nums hz (by show A.units + 3 + 3 < _; omega) fun tk => ?_
  walk_at "s"
  by_cases hm : nd ∈ rows
  · refine itT (by simp [hm]) ?_
    walk_at "r"
    refine numItem hb.nums hz hm (by show A.units + 3 + 3 < _; omega) (fun u tk => ?_)
    walk_at "r"
    have ea : addNd rows nd = (rows, rows.idxOf nd) := by unfold addNd; rw [if_pos hm]
    rw [ea] at hQ
    walk_at "q"
    exact hQ _ _ _ (by exact B'.kp) hb
  · refine itF (by simp [hm]) ?_
    have ea : addNd rows nd = (rows ++ [nd], rows.length) := by unfold addNd; rw [if_neg hm]
    rw [ea] at hQ
    walk_at "r"
    refine require_ok W (by exact B'.st) ho ((hA' _).le (by omega)) fun h₆ tk₆ k₆ => ?_
    dsimp only at k₆
    replace B' := B'.step0 k₆
    replace hb := hb.kp0 k₆
    replace hc := cell_kp hc k₆ id
    have htz₆ := tup_kp htz₅ k₆
    walk_at "r"
    refine forS (g := g) (S := B.S) (h₀ := s.heap) (L := L) (l := [("node", .ref z), ("kids", v), ("op", .str op t)]) ?_
    walk_at "r"
    refine ⟨z, _, rfl, htz₆, Nat.le_refl _, by simp, by simp [sizeLine_eq]; omega, fun d h₇ tk₇ k₇ htd => ?_⟩
    dsimp only at k₇
    replace B' := B'.step0 k₇
    replace hb := hb.kp0 k₇
    replace hc := cell_kp hc k₇ id
    have hliv₇ := hb.live
    have htz₇ := tup_kp htz₆ k₇
    have hdS : ¬ B.S d ∧ d ≠ L := by
      obtain ⟨o, ho, hcl, hdt⟩ := id htd
      refine ⟨fun q => ?_, fun q => B'.nt o (q ▸ ho) ⟨hcl, _, hdt⟩⟩
      rcases q with q | q | q | q
      · exact hb.nodes.noTup o (q ▸ ho) ⟨hcl, _, hdt⟩
      · exact hb.nums.noTup o (q ▸ ho) ⟨hcl, _, hdt⟩
      · exact hb.ws.noTup o (q ▸ ho) ⟨hcl, _, hdt⟩
      · exact hb.ds.noTup o (q ▸ ho) ⟨hcl, _, hdt⟩
    refine ⟨_, _, [d], fun i h => BankAt prog w h B rows ∧ h.IsCell (L + 1) (some (.ref B.b)) ∧ IsTup h z (List.toArray ([Value.str op t] ++ vs)), Src.tup (hA' _).handled htd (by simp [sizeLine_eq]; omega), B', ?_, ?_, ⟨hb, hc, htz₇⟩, ?_, ?_, ?_⟩
    · intro a q; exact hliv₇ a (by rcases q with q | q | q | q <;> simp [BA.all, q])
    · intro b' hb'; rw [List.mem_singleton] at hb'; rw [hb']; exact hdS
    · rintro i h h' I hI ⟨x1, x2, x3⟩ k
      exact ⟨x1.kp k fun a ha q => (by obtain ⟨o, ho⟩ := hliv₇ a ha; rw [q, show _ = none from hI] at ho; cases ho), cell_kp x2 k fun q => (by obtain ⟨o, ho⟩ := cell_at hc; rw [q, show _ = none from hI] at ho; cases ho), tup_kp x3 k⟩
    · rintro i x h₈ tk₈ Qt Et hQt - - hi' hP B₃ Bp ⟨x1, x2, x3⟩
      have hx : vs[i]? = some x := by simpa using hP
      have hil : i < ks.length := by have := (List.getElem?_eq_some_iff.mp hx).1; omega
      obtain ⟨u, hu'⟩ := hi.get i _ (List.getElem?_eq_getElem hil)
      have hkk := hl hm _ (List.getElem_mem hil)
      generalize ks[i] = k at hu' hkk
      rw [hx] at hu'; cases hu'
      obtain ⟨hk0, hk1⟩ := hkk
      refine wpAny_assign_Name (sL Bp (fun h₉ B₉ hs₉ => ?_))
      have k₉ : Kp (fun a => a = L) h₈ h₉ := Kp.same hs₉ rfl B₃.nt
      have hb₉ := x1.kp k₉ hLne
      have hc₉ := cell_kp x2 k₉ hcL
      walk_at "r"
      refine itT (decide_eq_true (by omega)) ?_
      obtain ⟨vs₉, hl₉, hv₉⟩ := id hb₉.nodes
      have hlen₉ : vs₉.length = rows.length := by rw [rdAll_length hv₉, List.length_map]
      walk_at "r"
      refine lenList (n := (rows.length : Nat)) hl₉.isList (by simp [hlen₉]) (by omega) fun u tk => ?_
      walk_at "r"
      refine itF (by simp; omega) ?_
      walk_at "r"
      walk_at "q"
      exact hQt _ _ (B₉.pop rfl) ⟨hb₉, hc₉, tup_kp x3 k₉⟩
    · rintro h₈ tk₈ B₈ ⟨hb, hc, htz₈⟩
      (try dsimp only at B₈ hb hc htz₈)
      have hz₈ : Rd h₈ (.ref z) nd.data := by rw [← hnd]; exact nd_rd (n := ⟨op, ks⟩) (by simpa using htz₈) (by simpa using hi)
      obtain ⟨vs₉, hl₉, hv₉⟩ := id hb.nodes
      have hlen₉ : vs₉.length = rows.length := by rw [rdAll_length hv₉, List.length_map]
      walk_at "r"
      refine lenList (n := (rows.length : Nat)) hl₉.isList (by simp [hlen₉]) (by omega) fun u tk => ?_
      walk_at "r"
      refine numSet hb.nums hz₈ hm (by rw [sizeLine_eq]; omega) (by show A.units + 3 + 3 < _; omega) fun h₉ tk₉ hnum hs₉ => ?_
      dsimp only at hs₉
      have k₉ : Kp (fun a => a = B.nd) h₈ h₉ := Kp.same hs₉ rfl hb.nums.noTup
      have inAll : B.ln ∈ B.all ∧ B.nd ∈ B.all ∧ B.lw ∈ B.all ∧ B.ld ∈ B.all := by simp [BA.all]
      have B₉ := B₈.step k₉ fun a q => ⟨.inl (by rw [q]; exact .inr (.inl rfl)), fun e => hLne B.nd inAll.2.1 (q.symm.trans e)⟩
      have hI₉ := hb.i.kp k₉ (fun q => n7 (.inr (.inl q))) (fun q => n8 (.inr (.inl q)))
      have hn₉ := plain_kp hl₉ k₉ n1
      have hw₉ := hb.ws.kp k₉ (fun q => n4 q.symm)
      have hd₉ := hb.ds.kp k₉ (fun q => n5 q.symm)
      have hc₉ := cell_kp hc k₉ (fun q => hcne B.nd inAll.2.1 q.symm)
      walk_at "r"
      refine gmList (by exact hn₉) PySem.F.slot_list_append PySem.F.type_list_append ?_
      walk_at "r"
      refine appendL hn₉ (by rw [sizeLine_eq]; omega) fun h₁₀ hp₁₀ hs₁₀ => ?_
      dsimp only at hs₁₀
      have k₁₀ : Kp (fun a => a = B.ln) h₉ h₁₀ := Kp.same hs₁₀ rfl (list_noTup hn₉.isList)
      have B₁₀ := B₉.step k₁₀ fun a q => ⟨.inl (by rw [q]; exact .inl rfl), fun e => hLne B.ln inAll.1 (q.symm.trans e)⟩
      have hI₁₀ := hI₉.kp k₁₀ (fun q => n7 (.inl q)) (fun q => n8 (.inl q))
      have hnum₁₀ := hnum.kp k₁₀ (fun q => n1 q.symm)
      have hw₁₀ := hw₉.kp k₁₀ (fun q => n2 q.symm)
      have hd₁₀ := hd₉.kp k₁₀ (fun q => n3 q.symm)
      have hc₁₀ := cell_kp hc₉ k₁₀ (fun q => hcne B.ln inAll.1 q.symm)
      have hr₁₀ : RowsAt h₁₀ B.ln (rows ++ [nd]) := ⟨_, hp₁₀, by rw [List.map_append]; exact rdAll_append (rdAll_kp (rdAll_kp hv₉ k₉) k₁₀) (rdCons (rd_kp (rd_kp hz₈ k₉) k₁₀) .nil)⟩
      have htz₁₀ := tup_kp (tup_kp htz₈ k₉) k₁₀
      obtain ⟨ws, hwp, hwi⟩ := id hw₁₀
      have hwl := hwi.length
      rw [wts_length] at hwl
      walk_at "r"
      refine gmList (by exact hwp) PySem.F.slot_list_append PySem.F.type_list_append ?_
      walk_at "r"
      refine lcS (g := g) (S := No) (cl := [("self", L + 1)]) rfl (by decide) rfl (by decide) rfl ?_
      walk_at "r"
      refine ⟨z, _, rfl, htz₁₀, Nat.le_refl _, by simp, by simp [sizeLine_eq]; omega, fun d₁ h₁₁ tk₁₁ k₁₁ htd₁ => ?_⟩
      dsimp only at k₁₁
      have hI₁₁ := hI₁₀.kp k₁₁ id id
      have hwp₁₁ := plain_kp hwp k₁₁ id
      have hc₁₁ := cell_kp hc₁₀ k₁₁ id
      refine ⟨_, _, [d₁], fun i ys h => IntsAre ys ((ks.take i).map fun k : Int => (cnt (tm rows k.toNat) : Int)), Src.tup (hA' _).handled htd₁ (by simp [sizeLine_eq]; omega), B₁₀.st.trans k₁₁, fun _ q => q.elim, fun _ q => q.elim, fun _ _ q => q.elim,
        .nil, fun _ _ _ _ x _ => x, ?_, ?_⟩
      · rintro C j x ys h₁₂ tk₁₂ Qb E' hQb hj hx hInv B₃ hC
        have hx' : vs[j]? = some x := by simpa using hx
        have hjl : j < ks.length := by have := (List.getElem?_eq_some_iff.mp hx').1; omega
        have hkk := hl hm _ (List.getElem_mem hjl)
        obtain ⟨u', hu'⟩ := hi.get j _ (List.getElem?_eq_getElem hjl)
        have ekj := List.getElem?_eq_getElem hjl
        generalize ks[j] = k at hu' hkk ekj
        rw [hx'] at hu'; cases hu'
        have hI₁₂ := hI₁₁.kp B₃.kp id id
        have hwp₁₂ := plain_kp hwp₁₁ B₃.kp id
        have hc₁₂ := cell_kp hc₁₁ B₃.kp id
        obtain ⟨u2, hu2⟩ := hwi.get k.toNat _ (wts_get (rows := rows) (by omega))
        walk_at "r"
        refine listItem hwp₁₂.isList (by omega) (by omega) (by simpa using hu2) ?_
        walk_at "q"
        refine hQb _ _ _ .refl ?_
        show IntsAre _ _
        rw [List.take_add_one, ekj, List.map_append]
        exact hInv.append (.cons _ _ .nil)
      · intro D ys h₁₂ tk₁₂ hD hlD hlenD hInv k₁₂
        have eI : IntsAre ys (ks.map fun k : Int => (cnt (tm rows k.toNat) : Int)) := by
          have e : (List.drop 1 ([Value.str op t] ++ vs)).toArray.size = ks.length := by simp [hlv]
          rw [e, List.take_length] at hInv; exact hInv
        have hI₁₂ := hI₁₁.kp k₁₂ id id
        have hwp₁₂ := plain_kp hwp₁₁ k₁₂ id
        walk_at "r"
        refine sumList (hA' default).handled hlD eI fun u₁ h₁₃ tk₁₃ k₁₃ => ?_
        dsimp only at k₁₃
        walk_at "r"
        refine appendL (plain_kp hwp₁₂ k₁₃ id) (by rw [sizeLine_eq]; omega) fun h₁₄ hp₁₄ hs₁₄ => ?_
        dsimp only at hs₁₄
        have kq : Kp0 h₁₀ h₁₃ := k₁₁.trans (k₁₂.trans k₁₃)
        have k₁₄ : Kp (fun a => a = B.lw) h₁₃ h₁₄ := Kp.same hs₁₄ rfl (list_noTup (plain_kp hwp kq id).isList)
        have B₁₄ := (B₁₀.step0 kq).step k₁₄ fun a q => ⟨.inl (by rw [q]; exact .inr (.inr (.inl rfl))), fun e => hLne B.lw inAll.2.2.1 (q.symm.trans e)⟩
        have hI₁₄ := (hI₁₀.kp kq id id).kp k₁₄ (fun q => n7 (.inr (.inr (.inl q)))) (fun q => n8 (.inr (.inr (.inl q))))
        have hnum₁₄ := (hnum₁₀.kp kq id).kp k₁₄ n4
        have hr₁₄ := (hr₁₀.kp kq id).kp k₁₄ n2
        have hd₁₄ := (hd₁₀.kp kq id).kp k₁₄ (fun q => n6 q.symm)
        have hc₁₄ := cell_kp (cell_kp hc₁₀ kq id) k₁₄ (fun q => hcne B.lw inAll.2.2.1 q.symm)
        have htz₁₄ := tup_kp (tup_kp htz₁₀ kq) k₁₄
        have hw₁₄ : IntsL h₁₄ B.lw (wts (rows ++ [nd])) := ⟨_, hp₁₄, by rw [wts_snoc, ← hnd]; exact hwi.append (.cons _ _ .nil)⟩
        obtain ⟨ds, hdp, hdi⟩ := id hd₁₄
        have hdl := hdi.length
        rw [dps_length] at hdl
        walk_at "n"
        walk_at "r"
        refine gmList (by exact hdp) PySem.F.slot_list_append PySem.F.type_list_append ?_
        walk_at "r"
        refine lcS (g := g) (S := No) (cl := [("self", L + 1)]) rfl (by decide) rfl (by decide) rfl ?_
        walk_at "r"
        refine ⟨z, _, rfl, htz₁₄, Nat.le_refl _, by simp, by simp [sizeLine_eq]; omega, fun d₂ h₁₅ tk₁₅ k₁₅ htd₂ => ?_⟩
        dsimp only at k₁₅
        have hI₁₅ := hI₁₄.kp k₁₅ id id
        have hdp₁₅ := plain_kp hdp k₁₅ id
        have hc₁₅ := cell_kp hc₁₄ k₁₅ id
        refine ⟨_, _, [d₂], fun i ys h => IntsAre ys ((ks.take i).map fun k : Int => (hgt (tm rows k.toNat) : Int)), Src.tup (hA' _).handled htd₂ (by simp [sizeLine_eq]; omega), B₁₄.st.trans k₁₅, fun _ q => q.elim, fun _ q => q.elim, fun _ _ q => q.elim,
          .nil, fun _ _ _ _ x _ => x, ?_, ?_⟩
        · rintro C j x ys₂ h₁₆ tk₁₆ Qb E' hQb hj hx hInv₂ B₃ hC
          have hx' : vs[j]? = some x := by simpa using hx
          have hjl : j < ks.length := by have := (List.getElem?_eq_some_iff.mp hx').1; omega
          have hkk := hl hm _ (List.getElem_mem hjl)
          obtain ⟨u', hu'⟩ := hi.get j _ (List.getElem?_eq_getElem hjl)
          have ekj := List.getElem?_eq_getElem hjl
          generalize ks[j] = k at hu' hkk ekj
          rw [hx'] at hu'; cases hu'
          have hI₁₆ := hI₁₅.kp B₃.kp id id
          have hdp₁₆ := plain_kp hdp₁₅ B₃.kp id
          have hc₁₆ := cell_kp hc₁₅ B₃.kp id
          obtain ⟨u2, hu2⟩ := hdi.get k.toNat _ (dps_get (rows := rows) (by omega))
          walk_at "r"
          refine listItem hdp₁₆.isList (by omega) (by omega) (by simpa using hu2) ?_
          walk_at "q"
          refine hQb _ _ _ .refl ?_
          show IntsAre _ _
          rw [List.take_add_one, ekj, List.map_append]
          exact hInv₂.append (.cons _ _ .nil)
        · intro D₂ ys₂ h₁₆ tk₁₆ hD₂ hlD₂ hlenD₂ hInv₂ k₁₆
          have eI₂ : IntsAre ys₂ (ks.map fun k : Int => (hgt (tm rows k.toNat) : Int)) := by
            have e : (List.drop 1 ([Value.str op t] ++ vs)).toArray.size = ks.length := by simp [hlv]
            rw [e, List.take_length] at hInv₂; exact hInv₂
          have hlys : ys₂.length = ks.length := by rw [eI₂.length, List.length_map]
          walk_at "r"
          refine listNew (fun y0 h₁₇ k₁₇ hy0 hly0 => ?_) (by simp [sizeLine_eq])
          dsimp only at k₁₇
          refine addList (kp_list k₁₇ hlD₂ id) hly0.isList (by simp [sizeLine_eq]; omega) (fun y1 h₁₈ k₁₈ hy1 hly1 => ?_)
          dsimp only at k₁₈
          walk_at "r"
          refine maxList (hA' default).handled hly1.isList (eI₂.append (.cons 0 _ .nil)) (by simp) fun M u₁ h₁₉ tk₁₉ hM hMle k₁₉ => ?_
          dsimp only at k₁₉
          walk_at "r"
          have kr : Kp0 h₁₄ h₁₉ := k₁₅.trans (k₁₆.trans (k₁₇.trans (k₁₈.trans k₁₉)))
          refine appendL (plain_kp hdp kr id) (by rw [sizeLine_eq]; omega) fun h₂₀ hp₂₀ hs₂₀ => ?_
          dsimp only at hs₂₀
          have k₂₀ : Kp (fun a => a = B.ld) h₁₉ h₂₀ := Kp.same hs₂₀ rfl (list_noTup (plain_kp hdp kr id).isList)
          have B₂₀ := (B₁₄.step0 kr).step k₂₀ fun a q => ⟨.inl (by rw [q]; exact .inr (.inr (.inr rfl))), fun e => hLne B.ld inAll.2.2.2 (q.symm.trans e)⟩
          have hI₂₀ := (hI₁₄.kp kr id id).kp k₂₀ (fun q => n7 (.inr (.inr (.inr q)))) (fun q => n8 (.inr (.inr (.inr q))))
          have hnum₂₀ := (hnum₁₄.kp kr id).kp k₂₀ n5
          have hr₂₀ := (hr₁₄.kp kr id).kp k₂₀ n3
          have hw₂₀ := (hw₁₄.kp kr id).kp k₂₀ n6
          have hc₂₀ := cell_kp (cell_kp hc₁₄ kr id) k₂₀ (fun q => hcne B.ld inAll.2.2.2 q.symm)
          have hd₂₀ : IntsL h₂₀ B.ld (dps (rows ++ [nd])) := ⟨_, hp₂₀, by
            subst hnd
            rw [dps_snoc rows ⟨op, ks⟩ hM hMle]; exact hdi.append (.cons _ _ .nil)⟩
          have hB₂₀ : BankAt prog w h₂₀ B (rows ++ [nd]) := ⟨hI₂₀.1, hI₂₀.2, hr₂₀, hnum₂₀, hw₂₀, hd₂₀, hb.nodup⟩
          obtain ⟨vs₂, hl₂, hv₂⟩ := id hr₂₀
          have hlen₂ : vs₂.length = rows.length + 1 := by rw [rdAll_length hv₂, List.length_map]; simp
          walk_at "n"
          walk_at "r"
          refine lenList (n := (rows.length + 1 : Nat)) hl₂.isList (by simp [hlen₂]) (by omega) fun u tk => ?_
          walk_at "r"
          have hQ' : ∀ m : Int, m = (rows.length : Nat) → ∀ u h' tk, Kp B.S s.heap h' → BankAt prog w h' B (rows ++ [nd]) → Q (.int m u) { s with heap := h', toks := tk } := fun m e => e ▸ hQ
          walk_at "q"
          exact hQ' _ (by omega) _ _ _ B₂₀.kp hB₂₀
end

section
variable {prog : Program} {w : World}
theorem putAll_ok : ∀ (n : Nat) (t : Tm), hgt t ≤ n → TmOk t → ∀ (A : Around) (s : Shared) (g : Heap) (B : BA) (v : Value) (rows : List Nd) (Q E : Value → Shared → Prop), Wd w g → Kp0 g s.heap → BankAt prog w s.heap B rows → RowsOk rows → rows.length + cnt t < 90000 → Rd s.heap v (tmD t) → Ao A (n + 2) → (∀ a ∈ B.all, g.get? a = none) →
    (∀ u h' tk, Kp B.S s.heap h' → BankAt prog w h' B (put t rows).1 → Q (.int ((put t rows).2 : Nat) u) { s with heap := h', toks := tk }) → wpAny (model prog w) A (call (.ref 117) [.ref B.b, v] []) Q E s
  | 0, .mk op ks, hn, _ => by rw [hgt] at hn; omega
  | n + 1, .mk op ks, hn, ok => by
    intro A s g B v rows Q E W st hb hok hsz hv hA hfar hQ
    rw [hgt] at hn
    have ok' := ok
    rw [TmOk] at ok
    rw [cnt] at hsz
    obtain ⟨hop, hk2, oks⟩ := ok
    have hfarS : ∀ a, B.S a → g.get? a = none := fun a q => hfar a (by rcases q with q | q | q | q <;> simp [BA.all, q])
    obtain ⟨a, to, vs, rfl, ht₀, hvs₀⟩ := rd_tm hv
    refine callFC W st (by rfl) (by kernel_rfl) hA.room (binds := [("self", .ref B.b), ("t", .ref a)]) (l := [("t", .ref a)]) (S := B.S) (BindsTo.of_eq rfl) (by rfl) (by rfl) hfarS (fun h₁ L tk₁ B' kp0 hLn hcs => ?_)
    obtain ⟨hc, hcn, hcL⟩ := hcs "self" (L + 1) rfl
    change h₁.IsCell (L + 1) (some (.ref B.b)) at hc
    have hliv := hb.live
    have hLne : ∀ a ∈ B.all, a ≠ L := fun a ha q => by obtain ⟨o, ho⟩ := hliv a ha; rw [q, hLn] at ho; cases ho
    have hcne : ∀ a ∈ B.all, a ≠ L + 1 := fun a ha q => by obtain ⟨o, ho⟩ := hliv a ha; rw [q, hcn] at ho; cases ho
    have inAll : ∀ a, B.S a → a ∈ B.all := fun a q => by rcases q with q | q | q | q <;> simp [BA.all, q]
    replace hb := hb.kp0 kp0
    have ht := tup_kp ht₀ kp0
    have hvs := rdAll_kp hvs₀ kp0
    have hA' := fun env => hA.deeper env
    have hlen : vs.length = ks.length := by rw [rdAll_length hvs, tmDs_map, List.length_map]
    walk_at "r"
    refine tupItem (j := 0) ht rfl (by decide) rfl ?_
    walk_at "r"
    refine lcS (g := g) (S := B.S) (cl := [("self", L + 1)]) rfl (by decide) rfl (by decide) rfl ?_
    walk_at "r"
    refine ⟨a, _, rfl, ht, Nat.le_refl _, by simp, by simp [sizeLine_eq]; omega, fun d h₃ tk₃ k₃ htd => ?_⟩
    dsimp only at k₃
    have hcell := cell_kp hc k₃ id
    have hb₃ := hb.kp0 k₃
    have hliv₃ := hb₃.live
    have hvs₃ := rdAll_kp hvs k₃
    have hdS : ¬ B.S d := by
      obtain ⟨o, ho, hcl, hdt⟩ := id htd
      intro q
      rcases q with q | q | q | q
      · exact hb₃.nodes.noTup o (q ▸ ho) ⟨hcl, _, hdt⟩
      · exact hb₃.nums.noTup o (q ▸ ho) ⟨hcl, _, hdt⟩
      · exact hb₃.ws.noTup o (q ▸ ho) ⟨hcl, _, hdt⟩
      · exact hb₃.ds.noTup o (q ▸ ho) ⟨hcl, _, hdt⟩
    refine ⟨_, _, [d], fun i ys h => BankAt prog w h B (puts (ks.take i) rows).1 ∧ IntsAre ys (nats (puts (ks.take i) rows).2), Src.tup (hA' _).handled htd (by simp [sizeLine_eq]; omega), B'.st.trans k₃, hfarS, ?_, ?_, ?_, ?_, ?_, ?_⟩
    · intro a q; exact hliv₃ a (inAll a q)
    · intro b hb; rw [List.mem_singleton] at hb; rw [hb]; exact hdS
    · show BankAt _ _ _ _ _ ∧ _
      rw [List.take_zero, puts]
      exact ⟨hb₃, .nil⟩
    · rintro i ys h h' ⟨x, y⟩ k
      exact ⟨x.kp k fun a ha q => (by obtain ⟨o, ho⟩ := hliv₃ a ha; rw [show _ = none from q] at ho; cases ho), y⟩
    · rintro C j x ys h₄ tk₄ Qb E' hQb hj hx ⟨hI1, hI2⟩ B₃ hC
      have hx' : vs[j]? = some x := by simpa using hx
      obtain ⟨dd, hd, hrd⟩ := rdAll_at hvs₃ j x hx'
      obtain ⟨t, hti, rfl⟩ := tmDs_get hd
      have htm : t ∈ ks := List.mem_of_getElem? hti
      obtain ⟨G, -, -, -⟩ := puts_ok (ks.take j) hok (tmsOk_take oks j)
      have hbd := cnts_take_get hti
      have hGl := G.len
      have hcell := cell_kp hcell B₃.kp fun q => hcne _ (inAll _ q) rfl
      walk_at "r"
      refine putAll_ok n t (by have := hgt_le htm; omega) ((tmsOk_iff ks).mp oks t htm) _ _ g B _ _ _ _ W (by exact B₃.st) hI1 G.ok (by omega) (by exact rd_kp hrd B₃.kp) (hA' _) hfar fun u h₅ tk₅ k₅ hb₅ => ?_
      walk_at "q"
      refine hQb _ _ _ k₅ ?_
      show BankAt _ _ _ _ _ ∧ _
      have e : ks.take (j + 1) = ks.take j ++ [t] := by rw [List.take_add_one, hti]; rfl
      have e2 := puts_snoc (ks.take j) t rows
      rw [e, e2]
      refine ⟨hb₅, ?_⟩
      show IntsAre _ (nats (_ ++ _))
      unfold nats
      rw [List.map_append]
      exact hI2.append (.cons _ _ .nil)
    · intro D ys h₄ tk₄ hD hl₄ hlen' hInv k₄
      obtain ⟨hI1, hI2⟩ : BankAt prog w h₄ B (puts (ks.take ks.length) rows).1 ∧ IntsAre ys (nats (puts (ks.take ks.length) rows).2) := by
        have e : (List.drop 1 (Value.str op to :: vs)).toArray.size = ks.length := by simp [hlen]
        rw [e] at hInv; exact hInv
      rw [List.take_length] at hI1 hI2
      obtain ⟨G, hpl, hplt, hpe⟩ := puts_ok ks hok oks
      have hGl := G.len
      have hys : ys.length = ks.length := by rw [hlen']; simp [hlen]
      have B₄ := (B'.step0 k₃).step k₄ fun a q => ⟨.inl q, fun z => hLne a (inAll a q) z⟩
      walk_at "r"
      refine tupOfList hl₄ (by rw [sizeLine_eq]; omega) fun e h₅ k₅ hte => ?_
      dsimp only at k₅
      have hput : put (.mk op ks) rows = addNd (puts ks rows).1 ⟨op, nats (puts ks rows).2⟩ := by rw [put]
      rw [hput] at hQ
      have B₅ := B₄.step0 k₅
      walk_at "r"
      refine take_ok W (by exact B₅.st) (by exact hI1.kp0 k₅) G.ok (by omega) hop (ks := nats (puts ks rows).2) (by exact ⟨e, ys, rfl, hI2, .inl hte⟩) (by rw [nats_length, hpl]; exact hk2) ((hA' _).le (by omega)) hfar (fun _ k hk => ?_) fun u h₆ tk₆ k₆ hb₆ => ?_
      · obtain ⟨m, hm, rfl⟩ := nats_mem hk
        have := hplt m hm; omega
      · walk_at "q"
        exact hQ _ _ _ (B₅.step k₆ fun a q => ⟨.inl q, fun z => hLne a (inAll a q) z⟩).kp hb₆
theorem bput_ok {t : Tm} {n : Nat} (hn : hgt t ≤ n) (hn50 : n < 50) (ok : TmOk t) {A : Around} {s : Shared} {g : Heap} {B : BA} {v : Value} {rows : List Nd} {Q E : Value → Shared → Prop} (W : Wd w g) (st : Kp0 g s.heap) (hb : BankAt prog w s.heap B rows) (hok : RowsOk rows) (hct : cnt t < 10000) (hsz : rows.length + cnt t < 90000) (hv : Rd s.heap v (tmD t)) (hA : Ao A (n + 3)) (hfar : ∀ a ∈ B.all, g.get? a = none)
    (hQ : ∀ u h' tk, Kp B.S s.heap h' → BankAt prog w h' B (put t rows).1 → Q (.int ((put t rows).2 : Nat) u) { s with heap := h', toks := tk }) : wpAny (model prog w) A (call (.ref 112) [.ref B.b, v] []) Q E s := by
  have hfarS : ∀ a, B.S a → g.get? a = none := fun a q => hfar a (by rcases q with q | q | q | q <;> simp [BA.all, q])
  refine callF W st (by rfl) (by kernel_rfl) hA.room (binds := [("self", .ref B.b), ("t", v)]) (S := B.S) (BindsTo.of_eq rfl) (locs rfl) hfarS (fun h₁ L B' kp0 hLn => ?_) (by decide)
  have hliv := hb.live
  have inAll : ∀ a, B.S a → a ∈ B.all := fun a q => by rcases q with q | q | q | q <;> simp [BA.all, q]
  have hLne : ∀ a ∈ B.all, a ≠ L := fun a ha q => by obtain ⟨o, ho⟩ := hliv a ha; rw [q, hLn] at ho; cases ho
  replace hb := hb.kp0 kp0
  have hv₁ := rd_kp hv kp0
  have hA' := fun env => hA.deeper env
  walk_at "s"
  refine forP (g := g) (S := B.S) (h₀ := s.heap) (L := L) (lc := [("t", v), ("self", .ref B.b)]) ?_
  walk_at "r"
  refine parts_ok n t hn hct (by omega) ok _ _ g _ _ _ W (by exact B'.st) (by exact hv₁) ((hA' _).le (by omega)) fun l its h₂ tk₂ k₂ hln hl hok2 hlen2 => ?_
  dsimp only at k₂ hln
  have hb₂ := hb.kp0 k₂
  have hliv₂ := hb₂.live
  have hliv₁ := hb.live
  have hlS : ¬ B.S l := fun q => by obtain ⟨o, ho⟩ := hliv₁ l (inAll l q); rw [hln] at ho; cases ho
  have hlL : l ≠ L := (B'.new hln).2
  refine ⟨l, its, fun i h => BankAt prog w h B rows ∧ ∀ v ∈ its, PartOk n h v, rfl, (hA' _).handled, hl.isList, fun v hv => ?_, B'.step0 k₂, hlS, hlL, fun a q => hliv₂ a (inAll a q), ⟨hb₂, hok2⟩, ?_, ?_, ?_⟩
  · obtain ⟨T, p, pits, q, t, e, a, b, c, d, f⟩ := hok2 v hv; exact ⟨T, _, _, e, a⟩
  · rintro i h h' I hI ⟨x1, x2⟩ k
    exact ⟨x1.kp k fun a ha q => (by obtain ⟨o, ho⟩ := hliv₂ a ha; rw [q, show _ = none from hI] at ho; cases ho), fun v hv => (x2 v hv).kp k⟩
  · rintro i T u₁ u₂ h₃ tk₃ Qt Et hQt - - hi hT B₃ Bp ⟨x1, x2⟩
    obtain ⟨T', p, pits, q, tq, e1, hTq, hpq, hpl, hrq, hokq⟩ := x2 _ (List.mem_of_getElem? hi)
    cases e1
    have eT : (#[u₁, u₂] : Array Value) = #[.ref p, q] := by
      obtain ⟨o, ho, _, m, hd⟩ := hT
      obtain ⟨o', ho', _, m', hd'⟩ := hTq
      rw [ho] at ho'; cases ho'; rw [hd] at hd'; cases hd'; rfl
    cases eT
    refine assign2 (hA' default).handled Bp hT (fun h₄ tk₄ B₄ k₄ => ?_)
    dsimp only at k₄
    have hb₄ := x1.kp k₄ hLne
    obtain ⟨opq, kq⟩ := tq
    obtain ⟨aq, toq, vsq, rfl, htq, hvsq⟩ := rd_tm (rd_kp hrq k₄)
    rw [TmOk] at hokq
    walk_at "r"
    refine tupItem (j := 0) htq rfl (by decide) rfl ?_
    walk_at "r"
    refine require_ok W (by exact B₄.st) hokq.1 ((hA' _).le (by omega)) fun h₅ tk₅ k₅ => ?_
    dsimp only at k₅
    walk_at "z"
    walk_at "q"
    exact hQt _ _ (((B₄.step0 k₅).pop rfl).pop rfl) ⟨hb₄.kp0 k₅, fun v hv => (((x2 v hv).kp k₄).kp k₅)⟩
  · rintro h₃ tk₃ B₃ ⟨x1, -⟩
    walk_at "n"
    walk_at "r"
    refine putAll_ok n t hn ok _ _ g B _ _ _ _ W (by exact B₃.st) (by exact x1) hok hsz (by exact rd_kp hv B₃.kp) (hA' _) hfar fun u h₅ tk₅ k₅ hb₅ => ?_
    walk_at "q"
    exact hQ _ _ _ (B₃.step k₅ fun a q => ⟨.inl q, fun z => hLne a (inAll a q) z⟩).kp hb₅
end

theorem popL {prog : Program} {w : World} {A : Around} {E : Value → Shared → Prop} {s : Shared} {Q : Value → Shared → Prop} {l : Addr} {its : List Value} {y : Value} (hl : s.heap.PlainList l (its ++ [y]).toArray) (hsz : its.length < 100000)
    (h : ∀ h', h'.PlainList l its.toArray → Heap.SameBut l s.heap h' → Q y { s with heap := h' }) : wpAny (model prog w) A (call (.builtin "list.pop") [.ref l]) Q E s := by
  obtain ⟨n, el⟩ := hl
  have hs : (its ++ [y]).toArray.size - 1 = its.length := by simp
  refine call_meets PySem.F.slot_list_pop ⟨_, el, rfl⟩ PySem.F.entry_list_pop (PySem.F.args_list_pop_1 _) (PySem.MeetsSeq.list_pop_last l (its ++ [y]).toArray n y (by rw [hs]; simp) (by simp [sizeLine_eq]; omega)) ⟨el, ?_⟩
  have q := PySem.IsL.update el (fun xs => xs.eraseIdxIfInBounds ((its ++ [y]).toArray.size - 1))
  have e : (its ++ [y]).toArray.eraseIdxIfInBounds ((its ++ [y]).toArray.size - 1) = its.toArray := by rw [hs, kl_erase, List.append_nil]
  rw [e] at q
  exact h _ ⟨_, q⟩ (Heap.SameBut.update ..)
section
variable {prog : Program} {w : World} {A : Around} {E : Value → Shared → Prop} {env : Env} {g : Heap} {S : Addr → Prop}
/-- a while loop -/
theorem whileR {s : Shared} {test : PySem.Expr} {body : List Stmt} {pos : Pos} {Q : Flow → Shared → Prop} (J : Nat → Heap → Prop) (n : Nat) (hJ : J n s.heap)
    (turn : ∀ n h tk (Qb : Flow → Shared → Prop) (Eb : Value → Shared → Prop) (Qe : Shared → Prop), (∀ m h' tk', m < n → J m h' → Qb .next { s with heap := h', toks := tk' }) → (∀ v s', Q (.ret v) s' → Qb (.ret v) s') →
      (∀ e s', notedBy (model prog w) A env (cameBackBy (model prog w) A env E) e s' → Eb e s') → (∀ s', Q .next s' → Qe s') → J n h →
      wpAny (model prog w) A (PySem.isTrue test env (eval test env)) (fun b s₂ => if b then wpAny (model prog w) A (execs body env) Qb Eb s₂ else Qe s₂) Eb { s with heap := h, toks := tk }) :
    wpAny (model prog w) A (exec (.While test body [] pos) env) Q E s := by
  refine wpAny_While (codeAny_whileLoop (fun k s' => ∃ h tk, s' = { s with heap := h, toks := tk } ∧ J k h) (fun n s' hI => ?_) n ⟨s.heap, s.toks, rfl, hJ⟩)
  obtain ⟨h, tk, rfl, hj⟩ := hI
  refine wpAny_mono (turn n h tk (fun f s₃ => match f with
      | .next | .cont => ∃ m, m < n ∧ ∃ h' tk', s₃ = { s with heap := h', toks := tk' } ∧ J m h'
      | .brk => Q .next s₃
      | .ret v => Q (.ret v) s₃) _ (fun s' => Q .next s') (fun m h' tk' hm j => ⟨m, hm, h', tk', rfl, j⟩) (fun _ _ q => q) (fun _ _ q => q) (fun _ q => q) hj) (fun b s₂ h₂ => ?_) fun _ _ q => q
  cases b with
  | true =>
    refine wpAny_mono h₂ (fun f s₃ h₃ => ?_) fun _ _ q => q
    cases f with
    | next => exact h₃
    | cont => exact h₃
    | brk => exact h₃
    | ret v => exact h₃
  | false => exact wpAny_execs_nil h₂
end

theorem ints_snoc {a : List Int} {x : Int} {vs : List Value} (h : IntsAre vs (a ++ [x])) : ∃ us t, vs = us ++ [.int x t] ∧ IntsAre us a := by
  induction a generalizing vs with
  | nil =>
    cases h with
    | cons n t r => cases r; exact ⟨[], t, rfl, .nil⟩
  | cons b a ih =>
    cases h with
    | cons n t r =>
      obtain ⟨us, t', rfl, hu⟩ := ih r
      exact ⟨.int b t :: us, t', rfl, .cons _ _ hu⟩
theorem rdAll_snoc {h : Heap} {ds : List PyData} {d : PyData} {vs : List Value} (x : RdAll h vs (ds ++ [d])) : ∃ us v, vs = us ++ [v] ∧ RdAll h us ds ∧ Rd h v d := by
  induction ds generalizing vs with
  | nil =>
    obtain ⟨v, r, rfl, a, b⟩ := rdAll_cons x
    rw [rdAll_nil b]
    exact ⟨[], v, rfl, .nil, a⟩
  | cons e ds ih =>
    obtain ⟨v, r, rfl, a, b⟩ := rdAll_cons x
    obtain ⟨us, u, rfl, c, d'⟩ := ih b
    exact ⟨v :: us, u, rfl, rdCons a c, d'⟩
theorem dps_snoc' (rows : List Nd) (nd : Nd) : ∃ y, dps (rows ++ [nd]) = dps rows ++ [y] := by
  unfold dps
  rw [terms_snoc, grow, List.map_append]
  exact ⟨_, rfl⟩
section
variable {prog : Program} {w : World} {A : Around} {s : Shared} {g : Heap} {B : BA} {rows : List Nd} {Q E : Value → Shared → Prop}
theorem cut_ok {many : Nat} {t : Tok} (W : Wd w g) (st : Kp0 g s.heap) (hb : BankAt prog w s.heap B rows) (hsz : rows.length < 90000) (hm : many < 100000) (hA : Ao A 1) (hfar : ∀ a ∈ B.all, g.get? a = none)
    (hQ : ∀ h' tk, Kp B.S s.heap h' → BankAt prog w h' B (rows.take many) → Q .none { s with heap := h', toks := tk }) : wpAny (model prog w) A (call (.ref 124) [.ref B.b, .int many t] []) Q E s := by
  have hfarS : ∀ a, B.S a → g.get? a = none := fun a q => hfar a (by rcases q with q | q | q | q <;> simp [BA.all, q])
  refine callF W st (by rfl) (by kernel_rfl) hA.room (binds := [("self", .ref B.b), ("many", .int many t)]) (S := B.S) (BindsTo.of_eq rfl) (locs rfl) hfarS (fun h₁ L B' kp0 hLn => ?_) (by decide)
  have hliv := hb.live
  have inAll : ∀ a, B.S a → a ∈ B.all := fun a q => by rcases q with q | q | q | q <;> simp [BA.all, q]
  have iA : B.ln ∈ B.all ∧ B.nd ∈ B.all ∧ B.lw ∈ B.all ∧ B.ld ∈ B.all := by simp [BA.all]
  have hLne : ∀ a ∈ B.all, a ≠ L := fun a ha q => by obtain ⟨o, ho⟩ := hliv a ha; rw [q, hLn] at ho; cases ho
  obtain ⟨n1, n2, n3, n4, n5, n6, n7, n8⟩ := hb.ne
  replace hb := hb.kp0 kp0
  have hA' := fun env => hA.deeper env
  have hu : A.units + 6 < cLine := by have := hA.units; omega
  walk_at "s"
  refine whileR (fun k h => k ≤ rows.length ∧ min many rows.length ≤ k ∧ Bd g B.S s.heap L [("many", .int many t), ("self", .ref B.b)] h ∧ BankAt prog w h B (rows.take k)) rows.length (by exact ⟨Nat.le_refl _, Nat.min_le_right _ _, B', by rw [List.take_length]; exact hb⟩) (fun k h tk Qt Et Qe hQt _ _ hQe ⟨hk, hmk, B₁, hb₁⟩ => ?_)
  have hlk : (rows.take k).length = k := by rw [List.length_take]; omega
  obtain ⟨vs, hl, hv⟩ := id hb₁.nodes
  have hlen : vs.length = k := by rw [rdAll_length hv, List.length_map, hlk]
  walk_at "r"
  refine lenList (n := (k : Nat)) hl.isList (by simp [hlen]) (by omega) fun t₁ tk₁ => ?_
  walk_at "r"
  refine maxTwo (hA' default).handled fun t₂ h₂ tk₂ k₂ => ?_
  dsimp only at k₂
  have B₂ := B₁.step0 k₂
  have hb₂ := hb₁.kp0 k₂
  walk_at "r"
  by_cases hgt : many < k
  · refine itT (decide_eq_true (by omega)) ?_
    obtain ⟨j, rfl⟩ : ∃ j, k = j + 1 := ⟨k - 1, by omega⟩
    have hnd := List.getElem?_eq_getElem (show j < rows.length by omega)
    generalize rows[j] = nd at hnd
    have etake : rows.take (j + 1) = rows.take j ++ [nd] := by rw [List.take_add_one, hnd]; rfl
    rw [etake] at hb₂
    have hlj : (rows.take j).length = j := by rw [List.length_take]; omega
    have hI₂ := hb₂.i
    obtain ⟨vs₂, hl₂, hv₂⟩ := id hb₂.nodes
    rw [List.map_append] at hv₂
    obtain ⟨us, u, rfl, hus, hu'⟩ := rdAll_snoc hv₂
    have hlus : us.length = j := by rw [rdAll_length hus, List.length_map, hlj]
    walk_at "r"
    refine gmNum hb₂.nums PySem.F.slot_dict_pop PySem.F.type_dict_pop ?_
    walk_at "r"
    refine gmList (by exact hl₂) PySem.F.slot_list_pop PySem.F.type_list_pop ?_
    walk_at "r"
    refine popL hl₂ (by omega) fun h₃ hp₃ hs₃ => ?_
    dsimp only at hs₃
    have k₃ : Kp (fun a => a = B.ln) h₂ h₃ := Kp.same hs₃ rfl (list_noTup hl₂.isList)
    have B₃ := B₂.step k₃ fun a q => ⟨.inl (by rw [q]; exact .inl rfl), fun e => hLne B.ln iA.1 (q.symm.trans e)⟩
    have hI₃ := hI₂.kp k₃ (fun q => n7 (.inl q)) (fun q => n8 (.inl q))
    have hnum₃ := hb₂.nums.kp k₃ (fun q => n1 q.symm)
    have hw₃ := hb₂.ws.kp k₃ (fun q => n2 q.symm)
    have hd₃ := hb₂.ds.kp k₃ (fun q => n3 q.symm)
    have hr₃ : RowsAt h₃ B.ln (rows.take j) := ⟨us, hp₃, rdAll_kp hus k₃⟩
    walk_at "r"
    refine numPop hnum₃ (rd_kp hu' k₃) (by omega) (by show A.units + 3 + 3 < _; omega) fun t₄ h₄ tk₄ hnum₄ hs₄ => ?_
    dsimp only at hs₄
    have k₄ : Kp (fun a => a = B.nd) h₃ h₄ := Kp.same hs₄ rfl hnum₃.noTup
    have B₄ := B₃.step k₄ fun a q => ⟨.inl (by rw [q]; exact .inr (.inl rfl)), fun e => hLne B.nd iA.2.1 (q.symm.trans e)⟩
    have hI₄ := hI₃.kp k₄ (fun q => n7 (.inr (.inl q))) (fun q => n8 (.inr (.inl q)))
    have hw₄ := hw₃.kp k₄ (fun q => n4 q.symm)
    have hd₄ := hd₃.kp k₄ (fun q => n5 q.symm)
    have hr₄ := hr₃.kp k₄ n1
    obtain ⟨ws, hwp, hwi⟩ := id hw₄
    rw [wts_snoc] at hwi
    obtain ⟨ws', tw, rfl, hwi'⟩ := ints_snoc hwi
    have hlw : ws'.length = j := by rw [hwi'.length, wts_length, hlj]
    walk_at "n"
    walk_at "r"
    refine gmList (by exact hwp) PySem.F.slot_list_pop PySem.F.type_list_pop ?_
    walk_at "r"
    refine popL hwp (by omega) fun h₅ hp₅ hs₅ => ?_
    dsimp only at hs₅
    have k₅ : Kp (fun a => a = B.lw) h₄ h₅ := Kp.same hs₅ rfl (list_noTup hwp.isList)
    have B₅ := B₄.step k₅ fun a q => ⟨.inl (by rw [q]; exact .inr (.inr (.inl rfl))), fun e => hLne B.lw iA.2.2.1 (q.symm.trans e)⟩
    have hI₅ := hI₄.kp k₅ (fun q => n7 (.inr (.inr (.inl q)))) (fun q => n8 (.inr (.inr (.inl q))))
    have hnum₅ := hnum₄.kp k₅ n4
    have hd₅ := hd₄.kp k₅ (fun q => n6 q.symm)
    have hr₅ := hr₄.kp k₅ n2
    have hw₅ : IntsL h₅ B.lw (wts (rows.take j)) := ⟨_, hp₅, hwi'⟩
    obtain ⟨ds, hdp, hdi⟩ := id hd₅
    obtain ⟨y, ey⟩ := dps_snoc' (rows.take j) nd
    rw [ey] at hdi
    obtain ⟨ds', td, rfl, hdi'⟩ := ints_snoc hdi
    have hld : ds'.length = j := by rw [hdi'.length, dps_length, hlj]
    walk_at "n"
    walk_at "r"
    refine gmList (by exact hdp) PySem.F.slot_list_pop PySem.F.type_list_pop ?_
    walk_at "r"
    refine popL hdp (by omega) fun h₆ hp₆ hs₆ => ?_
    dsimp only at hs₆
    have k₆ : Kp (fun a => a = B.ld) h₅ h₆ := Kp.same hs₆ rfl (list_noTup hdp.isList)
    have B₆ := B₅.step k₆ fun a q => ⟨.inl (by rw [q]; exact .inr (.inr (.inr rfl))), fun e => hLne B.ld iA.2.2.2 (q.symm.trans e)⟩
    have hI₆ := hI₅.kp k₆ (fun q => n7 (.inr (.inr (.inr q)))) (fun q => n8 (.inr (.inr (.inr q))))
    walk_at "z"
    walk_at "q"
    exact hQt j _ _ (by omega) ⟨by omega, by omega, B₆, ⟨hI₆.1, hI₆.2, hr₅.kp k₆ n3, hnum₅.kp k₆ n5, hw₅.kp k₆ n6, ⟨_, hp₆, hdi'⟩, hb.nodup⟩⟩
  · refine itF (decide_eq_false (by omega)) ?_
    walk_at "q"
    refine hQe _ ?_
    walk_at "n"
    walk_at "r"
    have e : rows.take k = rows.take many := by
      by_cases q : many ≤ rows.length
      · rw [Nat.min_eq_left q] at hmk; rw [show k = many by omega]
      · rw [Nat.min_eq_right (by omega)] at hmk; rw [show k = rows.length by omega, List.take_length, List.take_of_length_le (by omega)]
    rw [e] at hb₂
    walk_at "q"
    exact hQ _ _ B₂.kp hb₂
end

theorem Wd.gsz {w : World} {g : Heap} (W : Wd w g) {h : Heap} (st : Kp0 g h) : (h.objs.size == sysModules) = false := by
  have e : (KF w).lookup 174 = (KF w).lookup 174 := rfl
  obtain ⟨mg, mb, T⟩ := W.T
  obtain ⟨o, es, ep, ho, _⟩ := T.g
  have hlt := Heap.lt_size (st.stays _ _ ho)
  have h1 : (1 : Nat) ≤ mainGlobals := by decide +kernel
  have : h.objs.size ≠ sysModules := by
    show h.objs.size ≠ 1
    have h2 : mainGlobals < h.objs.size := hlt
    exact Nat.ne_of_gt (Nat.lt_of_le_of_lt h1 h2)
  exact beq_eq_false_iff_ne.mpr this
/-- a dict with int keys -/
structure DInt (prog : Program) (w : World) (h : Heap) (d : Addr) (kvs : List (Int × Value)) : Prop where
  sm : (d == sysModules) = false
  D : h.DictOf (intKind prog w) d kvs
theorem ints_of_get : ∀ {ns : List Int} {vs : List Value}, vs.length = ns.length → (∀ (j : Nat) (v : Value), vs[j]? = some v → ∃ n t, ns[j]? = some n ∧ v = .int n t) → IntsAre vs ns
  | [], [], _, _ => .nil
  | n :: ns, v :: vs, hl, h => by
    obtain ⟨m, t, e1, rfl⟩ := h 0 v rfl
    simp at e1; subst e1
    exact .cons _ _ (ints_of_get (by simpa using hl) fun j u hj => by simpa using h (j + 1) u (by simpa using hj))
  | [], _ :: _, hl, _ => by simp at hl
  | _ :: _, [], hl, _ => by simp at hl
section
variable {prog : Program} {w : World} {A : Around} {E : Value → Shared → Prop} {s : Shared} {d : Addr} {kvs : List (Int × Value)} {k : Int} {t : Tok}
theorem DInt.kp {S : Addr → Prop} {h h' : Heap} (x : DInt prog w h d kvs) (kp : Kp S h h') (n : ¬ S d) : DInt prog w h' d kvs := by
  obtain ⟨sm, o, es, p, ho, r⟩ := x
  exact ⟨sm, o, es, p, kp.keep _ _ ho n, r⟩
theorem isIntK (k : Int) (t : Tok) : (intKind prog w).is k (.int k t) = true := by show Value.isInt k (.int k t) = true; simp [Value.isInt]
theorem notInD {Q : Value → Shared → Prop} (hd : DInt prog w s.heap d kvs) (h : ∀ tk, Q (.bool (!decide (k ∈ kvs.map (·.1)))) { s with toks := tk }) : wpAny (model prog w) A (compareOp .NotIn (.int k t) (.ref d)) Q E s := by
  refine wpAny_notIn_of (knd := intKind prog w) (k := k) (isIntK k t) hd.sm hd.D.mapOf ?_
  have e : (valueAt kvs k).isSome = decide (k ∈ kvs.map (·.1)) := by
    unfold valueAt
    rw [Option.isSome_map]
    by_cases q : k ∈ kvs.map (·.1)
    · rw [decide_eq_true q, List.find?_isSome]
      obtain ⟨x, hx, rfl⟩ := List.mem_map.mp q
      exact ⟨x, hx, by simp⟩
    · rw [decide_eq_false q, Option.isSome_eq_false_iff, Option.isNone_iff_eq_none, List.find?_eq_none]
      intro x hx e
      exact q (List.mem_map.mpr ⟨x, hx, by simpa using e⟩)
  rw [e]; exact h _
theorem setD {v : Value} {Q : Unit → Shared → Prop} (hd : DInt prog w s.heap d kvs) (hsz : kvs.length < 100000) (h : ∀ h' tk, DInt prog w h' d (stored kvs k v) → Heap.SameBut d s.heap h' → Q () { s with heap := h', toks := tk }) :
    wpAny (model prog w) A (setItem (.ref d) (.int k t) v) Q E s :=
  wpAny_setItem_pairs (knd := intKind prog w) (k := k) (isIntK k t) hd.D (fun h' a b => h h' _ ⟨hd.sm, a⟩ b) (by rw [sizeLine_eq]; omega)
theorem getD {value slice : PySem.Expr} {v : Value} {Q : Value → Shared → Prop} (hd : DInt prog w s.heap d kvs) (hv : valueAt kvs k = some v) (h : ∀ tk, Q v { s with toks := tk })
    (hs : subscripted slice false (.ref d) (.int k t) = operate [.ref d, .int k t] (getItem (.ref d) (.int k t)) := by with_unfolding_all rfl) :
    wpAny (model prog w) A (subscriptTail value slice (.ref d) (.int k t)) Q E s :=
  tail_any hd.D.typeIs slot_dict_getitem.lookup (wpAny_getItem_of (knd := intKind prog w) (k := k) (isIntK k t) hd.D.mapOf hv (h _)) hs
theorem sortedD {Q : Value → Shared → Prop} (hh : A.handled = none) (hd : DInt prog w s.heap d kvs) (h64 : kvs.length < 64)
    (h : ∀ D h' tk vs' ns', Kp0 s.heap h' → s.heap.get? D = none → h'.IsList D (List.toArray vs') → IntsAre vs' ns' → ns'.Perm (kvs.map (·.1)) → ns'.Pairwise (· ≤ ·) → Q (.ref D) { s with heap := h', toks := tk }) :
    wpAny (model prog w) A (call (.builtin "sorted") [.ref d]) Q E s := by
  obtain ⟨ep, hat⟩ := hd.D.dictAt
  refine Calls.call_function_entry kind_sorted plain_sorted entry_sorted (args_sorted1 _) ?_
  unfold Builtin.«sorted»
  refine wpAny_bind (m := checkCount "sorted" 1 1 _) (wpAny_pure ?_)
  refine wpAny_bind (kdu_collect (A := A.in1) (kdl_dict (knd := intKind prog w) (kvs := kvs) (ep := ep) hd.sm) hh hat (by rw [sizeLine_eq]; omega) fun h' tk acc hk hacc => ?_)
  have hl : acc.toList.length = kvs.length := by rw [Array.length_toList]; exact hacc.1
  have hI : IntsAre acc.toList (kvs.map (·.1)) := by
    refine ints_of_get (by rw [hl, List.length_map]) fun j v hv => ?_
    obtain ⟨k, x, hx, hk'⟩ := hacc.2 j v (by rw [← Array.getElem?_toList]; exact hv)
    obtain ⟨t, rfl⟩ := Value.isInt_shape hk'
    exact ⟨k, t, by rw [List.getElem?_map, hx]; rfl, rfl⟩
  refine wpAny_bind (wpAny_newList ?_ (by rw [hl, sizeLine_eq]; omega))
  have hoL : (h'.push { cls := .type "list", data := .seq acc.toList.toArray }).get? h'.objs.size = some (seqObj "list" acc.toList.toArray 0) := Heap.get?_push_size _ rfl
  refine wpAny_bind (wpAny_holding (wpAny_call_entry slot_list_sort ⟨_, hoL, rfl⟩ entry_list_sort (list_sort_tree hoL hI (by rw [hl]; exact h64) fun out ns' a1 a2 a3 => ⟨_, rfl, ?_⟩) (args_list_sort _)))
  obtain ⟨e, he⟩ := sortedHeap_at (out := out) hoL
  have hD : s.heap.get? h'.objs.size = none := by
    cases q : s.heap.get? h'.objs.size with
    | none => rfl
    | some o => exact absurd (Heap.lt_size (hk _ _ q)) (Nat.lt_irrefl _)
  exact wpAny_pure ⟨_, rfl, h h'.objs.size _ tk out.toList ns' (.of_stays fun b o e => by
    have hlt := Heap.lt_size (hk _ _ e)
    rw [sortedHeap_old (Nat.ne_of_lt hlt) (by rw [Heap.size_push]; exact Nat.lt_succ_of_lt hlt)]
    exact Heap.get?_push_of_some _ (hk _ _ e)) hD ⟨_, he, rfl, _, rfl⟩ a1 a2 a3⟩
end

/-- the kids of a number -/
def kidsOf (rows : List Nd) (k : Int) : List Int := ((rows[k.toNat]?).map (·.kids)).getD []
theorem kidsOf_at {rows : List Nd} {j : Nat} {nd : Nd} (h : rows[j]? = some nd) : kidsOf rows (j : Int) = nd.kids := by simp [kidsOf, h]
/-- what the search below a number keeps: keys, stack; j is being looked at, i of its kids are done -/
structure Srch (rows : List Nd) (n : Int) (ks st : List Int) (j : Option (Int × Nat)) : Prop where
  nodup : ks.Nodup
  low : ∀ k ∈ ks, 0 ≤ k ∧ k < rows.length
  root : n ∈ ks
  sub : ∀ x ∈ st, x ∈ ks
  clo : ∀ k ∈ ks, k ∈ st ∨ (∀ c ∈ kidsOf rows k, c ∈ ks) ∨ ∃ i, j = some (k, i)
  got : ∀ k i, j = some (k, i) → k ∈ ks ∧ ∀ c ∈ (kidsOf rows k).take i, c ∈ ks
theorem nodup_le {N : Nat} {ks : List Int} (h : ks.Nodup) (l : ∀ k ∈ ks, 0 ≤ k ∧ k < N) : ks.length ≤ N := by
  have h2 : (ks.map Int.toNat).Nodup := by
    rw [List.nodup_iff_pairwise_ne, List.pairwise_map]
    refine List.Pairwise.imp_of_mem ?_ (List.nodup_iff_pairwise_ne.mp h)
    intro a b ha hb hab e
    have := l a ha; have := l b hb
    exact hab (by omega)
  have h3 : (ks.map Int.toNat) ⊆ List.range N := by
    intro x hx
    obtain ⟨k, hk, rfl⟩ := List.mem_map.mp hx
    have := l k hk
    exact List.mem_range.mpr (by omega)
  have := List.Nodup.length_le_of_subset h2 h3
  simpa using this
section
variable {rows : List Nd} {n : Int} {ks st : List Int}
theorem Srch.start {m : Nat} (h : m < rows.length) : Srch rows (m : Int) [(m : Int)] [(m : Int)] none where
  nodup := by simp
  low := by simp; omega
  root := by simp
  sub := by simp
  clo := fun k hk => .inl hk
  got := fun k i e => by cases e
theorem Srch.take {x : Int} (S : Srch rows n ks (st ++ [x]) none) : Srch rows n ks st (some (x, 0)) where
  nodup := S.nodup
  low := S.low
  root := S.root
  sub := fun y hy => S.sub y (List.mem_append_left _ hy)
  clo := fun k hk => by
    rcases S.clo k hk with q | q | ⟨i, e⟩
    · rcases List.mem_append.mp q with q | q
      · exact .inl q
      · rw [List.mem_singleton] at q; subst q; exact .inr (.inr ⟨0, rfl⟩)
    · exact .inr (.inl q)
    · cases e
  got := fun k i e => by
    cases e
    exact ⟨S.sub x (by simp), fun c hc => by simp at hc⟩
theorem Srch.old {x c : Int} {i : Nat} (S : Srch rows n ks st (some (x, i))) (hc : (kidsOf rows x)[i]? = some c) (h : c ∈ ks) : Srch rows n ks st (some (x, i + 1)) where
  nodup := S.nodup
  low := S.low
  root := S.root
  sub := S.sub
  clo := fun k hk => by
    rcases S.clo k hk with q | q | ⟨j, e⟩
    · exact .inl q
    · exact .inr (.inl q)
    · cases e; exact .inr (.inr ⟨_, rfl⟩)
  got := fun k j e => by
    cases e
    refine ⟨(S.got x i rfl).1, fun d hd => ?_⟩
    rw [List.take_add_one, hc] at hd
    rcases List.mem_append.mp hd with q | q
    · exact (S.got x i rfl).2 d q
    · simp at q; subst q; exact h
theorem Srch.new {x c : Int} {i : Nat} (S : Srch rows n ks st (some (x, i))) (hc : (kidsOf rows x)[i]? = some c) (h : c ∉ ks) (hl : 0 ≤ c ∧ c < rows.length) : Srch rows n (ks ++ [c]) (st ++ [c]) (some (x, i + 1)) where
  nodup := by
    rw [List.nodup_append]
    exact ⟨S.nodup, by simp, fun a ha b hb => by rw [List.mem_singleton] at hb; subst hb; rintro rfl; exact h ha⟩
  low := fun k hk => by
    rcases List.mem_append.mp hk with q | q
    · exact S.low k q
    · rw [List.mem_singleton] at q; subst q; exact hl
  root := List.mem_append_left _ S.root
  sub := fun y hy => by
    rcases List.mem_append.mp hy with q | q
    · exact List.mem_append_left _ (S.sub y q)
    · exact List.mem_append_right _ q
  clo := fun k hk => by
    rcases List.mem_append.mp hk with q | q
    · rcases S.clo k q with q | q | ⟨j, e⟩
      · exact .inl (List.mem_append_left _ q)
      · exact .inr (.inl fun d hd => List.mem_append_left _ (q d hd))
      · cases e; exact .inr (.inr ⟨_, rfl⟩)
    · exact .inl (List.mem_append_right _ q)
  got := fun k j e => by
    cases e
    refine ⟨List.mem_append_left _ (S.got x i rfl).1, fun d hd => ?_⟩
    rw [List.take_add_one, hc] at hd
    rcases List.mem_append.mp hd with q | q
    · exact List.mem_append_left _ ((S.got x i rfl).2 d q)
    · simp at q; subst q; simp
theorem Srch.fin {x : Int} {i : Nat} (S : Srch rows n ks st (some (x, i))) (hi : (kidsOf rows x).length ≤ i) : Srch rows n ks st none where
  nodup := S.nodup
  low := S.low
  root := S.root
  sub := S.sub
  clo := fun k hk => by
    rcases S.clo k hk with q | q | ⟨j, e⟩
    · exact .inl q
    · exact .inr (.inl q)
    · cases e
      have := (S.got x i rfl).2
      rw [List.take_of_length_le hi] at this
      exact .inr (.inl this)
  got := fun k i e => by cases e
/-- in a sorted list of keys that is closed below, the kids of the i-th stand before it -/
theorem Srch.before (S : Srch rows n ks [] none) (ok : RowsOk rows) {ns : List Int} (hp : ns.Perm ks) (hs : ns.Pairwise (· ≤ ·)) {i : Nat} {k : Int} (hk : ns[i]? = some k) {c : Int} (hc : c ∈ kidsOf rows k) : c ∈ ns.take i := by
  have hkm : k ∈ ks := hp.mem_iff.mp (List.mem_of_getElem? hk)
  have hck : c ∈ ks := by
    rcases S.clo k hkm with q | q | ⟨j, e⟩
    · simp at q
    · exact q c hc
    · cases e
  obtain ⟨j, hj⟩ := List.mem_iff_getElem?.mp (hp.mem_iff.mpr hck)
  have hlt : c < k := by
    obtain ⟨h0, h1⟩ := S.low k hkm
    unfold kidsOf at hc
    cases e : rows[k.toNat]? with
    | none => rw [e] at hc; simp at hc
    | some nd =>
      rw [e] at hc
      have := ok.kid k.toNat nd e c (by simpa using hc)
      omega
  by_cases q : j < i
  · exact List.mem_of_getElem? (i := j) (by rw [List.getElem?_take, if_pos q]; exact hj)
  · have hil := (List.getElem?_eq_some_iff.mp hk)
    have hjl := (List.getElem?_eq_some_iff.mp hj)
    by_cases e : i = j
    · subst e; rw [hk] at hj; cases hj; omega
    · have := List.pairwise_iff_getElem.mp hs i j hil.1 hjl.1 (by omega)
      rw [hil.2, hjl.2] at this
      omega
end

theorem unpackT {prog : Program} {w : World} {A : Around} {E : Value → Shared → Prop} {s : Shared} {T : Addr} {items : List Value} {m : Nat} {Q : List Value → Shared → Prop} (hh : A.handled = none) (ht : IsTup s.heap T items.toArray) (hm : m = items.length)
    (h : ∀ h', Kp0 s.heap h' → Q items { s with heap := h' }) : wpAny (model prog w) A (unpackItems (.ref T) m none) Q E s := by
  subst hm
  have := wpAny_unpackItems_tuple (prog := prog) (w := w) (A := A) (E := E) (s := s) (t := T) (items := items.toArray) (Q := Q) hh ht fun h' hE => h h' (.of_stays fun b o e => hE b o (fun z => by rw [z, fresh_size] at e; cases e) e)
  simpa using this
theorem valueAt_stored (kvs : List (Int × Value)) (k : Int) (v : Value) (k' : Int) : valueAt (stored kvs k v) k' = if k' = k then some v else valueAt kvs k' := by
  have key : ∀ l : List (Int × Value), valueAt (l ++ [(k, v)]) k' = (valueAt l k').or (if k' = k then some v else none) := fun l => by
    unfold valueAt
    rw [List.find?_append, Option.map_or]
    congr 1
    by_cases e : k' = k
    · simp [e]
    · simp [e, Ne.symm e]
  have hmap : ∀ l : List (Int × Value), (l.any fun kv => decide (kv.1 = k)) = true → valueAt (stored l k v) k' = if k' = k then some v else valueAt l k' := by
    intro l hl
    unfold stored
    rw [if_pos hl]
    induction l with
    | nil => simp at hl
    | cons a l ih =>
      unfold valueAt
      by_cases ea : a.1 = k
      · by_cases e : k' = k
        · simp [ea, e]
        · have : ¬ k = k' := fun q => e q.symm
          simp only [List.map_cons, ea, if_true, List.find?_cons, this, decide_false, if_neg e]
          by_cases h2 : (l.any fun kv => decide (kv.1 = k)) = true
          · have := ih h2
            unfold valueAt at this
            rw [if_neg e] at this
            exact this
          · have hm : (l.map fun kv => if kv.1 = k then (kv.1, v) else kv) = l := by
              refine (List.map_congr_left fun x hx => ?_).trans (List.map_id l)
              rw [if_neg (fun q => h2 (List.any_eq_true.mpr ⟨x, hx, by simpa using q⟩))]; rfl
            rw [hm]
      · have h2 : (l.any fun kv => decide (kv.1 = k)) = true := by simpa [ea] using hl
        have := ih h2
        unfold valueAt at this
        simp only [List.map_cons, if_neg ea, List.find?_cons]
        by_cases e2 : a.1 = k'
        · have : ¬ k' = k := fun q => ea (e2.trans q)
          simp [e2, this]
        · simp only [e2, decide_false]
          exact this
  by_cases h : (kvs.any fun kv => decide (kv.1 = k)) = true
  · exact hmap kvs h
  · unfold stored
    rw [if_neg h, key]
    by_cases e : k' = k
    · subst e
      have : valueAt kvs k' = none := by
        unfold valueAt
        rw [Option.map_eq_none_iff, List.find?_eq_none]
        intro x hx q
        exact h (List.any_eq_true.mpr ⟨x, hx, q⟩)
      rw [this]; simp
    · simp [e]
section
variable {prog : Program} {w : World} {A : Around} {s : Shared} {g : Heap} {B : BA} {rows : List Nd} {Q E : Value → Shared → Prop}
theorem bterm_ok {n : Nat} {t : Tok} (W : Wd w g) (st : Kp0 g s.heap) (hb : BankAt prog w s.heap B rows) (ok : RowsOk rows) (hn : n < rows.length) (hsz : rows.length < 64) (hA : Ao A 1)
    (hQ : ∀ v h' tk, Kp0 s.heap h' → Rd h' v (tmD (tm rows n)) → Q v { s with heap := h', toks := tk }) : wpAny (model prog w) A (call (.ref 150) [.ref B.b, .int n t] []) Q E s := by
  refine callFC W st (by rfl) (by kernel_rfl) hA.room (binds := [("self", .ref B.b), ("n", .int n t)]) (l := [("n", .int n t), ("self", .ref B.b)]) (S := No) (BindsTo.of_eq rfl) (by rfl) (by rfl) (fun _ q => q.elim) (fun h₁ L tk₁ B' kp0 hLn hcs => ?_)
  obtain ⟨hc, hcn, hcL⟩ := hcs "made" (L + 1) rfl
  have hBL : ∀ a ∈ B.all, a ≠ L := fun a ha q => by obtain ⟨o, ho⟩ := hb.live a ha; rw [q, hLn] at ho; cases ho
  have hBc : ∀ a ∈ B.all, a ≠ L + 1 := fun a ha q => by obtain ⟨o, ho⟩ := hb.live a ha; rw [q, hcn] at ho; cases ho
  replace hb := hb.kp0 kp0
  have hA' := fun env => hA.deeper env
  walk_at "s"
  refine Assign_Tuple_swapped ?_
  walk_at "r"
  refine wpAny_Dict_walk (knd := intKind prog w) rfl rfl (by simp) (by simp) ?_
  have hsm := W.gsz B'.st
  have hdn := fresh_size h₁
  have kpd : Kp0 h₁ (h₁.push { cls := .type "dict", data := .dict #[] }) := .push _
  have hD0 : (h₁.push { cls := .type "dict", data := .dict #[] }).DictOf (intKind prog w) h₁.objs.size [] := ⟨_, #[], 0, Heap.get?_push_size _ rfl, ⟨rfl, rfl, rfl⟩, rfl, fun _ he => by simp at he, Pairs.nil, List.nodup_nil⟩
  dsimp only
  generalize h₁.objs.size = d at *
  generalize h₁.push { cls := .type "dict", data := .dict #[] } = h₂ at *
  have B₂ := B'.step0 kpd
  refine pairTrees_cons_walk ?_
  walk_at "r"
  refine pairTrees_nil_walk ?_
  refine ⟨[((n : Int), Value.bool true)], ⟨isIntK _ _, rfl, trivial⟩, hD0, fun h₃ hD₃ hs₃ => ?_⟩
  dsimp only at hs₃
  have k₃ : Kp (fun a => a = d) h₂ h₃ := Kp.same hs₃ rfl (dict_noTup hD0)
  have hdS : s.heap.get? d = none ∧ d ≠ L := by
    have := B'.new hdn
    exact ⟨this.1.elim (fun q => q.elim) id, this.2⟩
  have B₃ := (B₂.grow (S' := fun a => a = d ∨ a = L + 1) (fun _ q => q.elim) fun a q => by
      rcases q with rfl | rfl
      · cases z : g.get? a with
        | none => rfl
        | some o => have := st.stays _ _ z; rw [hdS.1] at this; cases this
      · cases z : g.get? (L + 1) with
        | none => rfl
        | some o => have := st.stays _ _ z; rw [hcn] at this; cases this).step k₃ fun a q => ⟨.inl (.inl q), fun e => hdS.2 (q.symm.trans e)⟩
  have hd₃ : DInt prog w h₃ d [((n : Int), Value.bool true)] := ⟨hsm, by simpa [merged, stored] using hD₃⟩
  have hdl : ∀ a ∈ B.all, a ≠ d := fun a ha q => by obtain ⟨o, ho⟩ := hb.live a ha; rw [q, hdn] at ho; cases ho
  have hcd : L + 1 ≠ d := fun q => by obtain ⟨o, ho⟩ := cell_at hc; rw [q, hdn] at ho; cases ho
  have hb₃ := (hb.kp0 kpd).kp k₃ hdl
  have hc₃ := cell_kp (cell_kp hc kpd id) k₃ hcd
  walk_at "r"
  refine listNew (fun sk h₄ k₄ hskn hsl => ?_) (by simp [sizeLine_eq])
  dsimp only at k₄ hskn
  have B₄ := B₃.step0 k₄
  walk_at "r"
  refine tupleNew (fun T h₅ k₅ hT => ?_) (by simp [sizeLine_eq])
  dsimp only at k₅
  have B₅ := B₄.step0 k₅
  refine unpackT (hA' _).handled hT rfl fun h₆ k₆ => ?_
  dsimp only at k₆
  have B₆ := B₅.step0 k₆
  refine wpAny_bind (wpAny_holding (bindName_ (sL B₆ (fun h₇ B₇ hs₇ => ?_))))
  refine wpAny_bind (wpAny_holding (bindName_ (sL B₇ (fun h₈ B₈ hs₈ => ?_))))
  have k68 : Kp (fun a => a = L) h₆ h₈ := (Kp.same (S := fun a => a = L) hs₇ rfl B₆.nt).trans (Kp.same hs₈ rfl B₇.nt)
  have k36 : Kp0 h₃ h₆ := k₄.trans (k₅.trans k₆)
  have hskc : sk ≠ L + 1 := fun q => by obtain ⟨o, ho⟩ := cell_at hc₃; rw [← q, hskn] at ho; cases ho
  have hskd : sk ≠ d := fun q => by obtain ⟨o, ho⟩ := dict_at hd₃.D; rw [← q, hskn] at ho; cases ho
  have hskL : sk ≠ L := (B₃.new hskn).2
  have hsks : s.heap.get? sk = none := (B₃.new hskn).1.elim (fun q => q.elim (fun q => absurd q hskd) (fun q => absurd q hskc)) id
  have hgs : ∀ a, s.heap.get? a = none → g.get? a = none := fun a q => by
    cases z : g.get? a with
    | none => rfl
    | some o => have := st.stays _ _ z; rw [q] at this; cases this
  have hskB : ∀ a ∈ B.all, a ≠ sk := fun a ha q => by obtain ⟨o, ho⟩ := hb₃.live a ha; rw [q, hskn] at ho; cases ho
  have hu : A.units + 6 < cLine := by have := hA.units; omega
  have hdL := hdS.2
  have B₈' := B₈.grow (S' := fun a => (a = d ∨ a = L + 1) ∨ a = sk) (fun _ q => .inl q) fun a q => by
    rcases q with q | rfl
    · exact B₈.far a q
    · exact hgs _ hsks
  have hb₈ : BankAt prog w h₈ B rows := (hb₃.kp0 k36).kp k68 hBL
  have hd₈ : DInt prog w h₈ d [((n : Int), Value.bool true)] := (hd₃.kp k36 id).kp k68 hdL
  have hl₈ : h₈.PlainList sk (List.toArray [Value.int n t]) := plain_kp (plain_kp (plain_kp hsl k₅ id) k₆ id) k68 hskL
  have hc₈ := cell_kp (cell_kp hc₃ k36 id) k68 hcL
  generalize hS : (fun a : Addr => (a = d ∨ a = L + 1) ∨ a = sk) = S at B₈'
  have hSd : S d := by rw [← hS]; exact .inl (.inl rfl)
  have hSc : S (L + 1) := by rw [← hS]; exact .inl (.inr rfl)
  have hSk : S sk := by rw [← hS]; exact .inr rfl
  have hS0 : ∀ a, S a → s.heap.get? a = none := fun a q => by
    rw [← hS] at q
    rcases q with (rfl | rfl) | rfl
    · exact hdS.1
    · exact hcn
    · exact hsks
  have hSB : ∀ a ∈ B.all, ¬ S a := fun a ha q => by
    rw [← hS] at q
    rcases q with (q | q) | q
    · exact hdl a ha q
    · exact hBc a ha q
    · exact hskB a ha q
  have hSor : ∀ a, S a → a = d ∨ a = L + 1 ∨ a = sk := fun a q => by
    rw [← hS] at q
    rcases q with (q | q) | q
    · exact .inl q
    · exact .inr (.inl q)
    · exact .inr (.inr q)
  refine wpAny_pure ?_
  walk_at "n"
  have kst : ∀ {h : Heap} {kvs : List (Int × Value)} {st : List Int} {jj : Option (Int × Nat)}, Srch rows n (kvs.map (·.1)) st jj → kvs.length ≤ rows.length := fun {h kvs st jj} x => by
    have := nodup_le x.nodup x.low
    simpa using this
  generalize hl4 : ([(Str.ofString "below", Value.ref d), (Str.ofString "stack", Value.ref sk), (Str.ofString "n", Value.int n t), (Str.ofString "self", Value.ref B.b)] : List (Str × Value)) = l4 at B₈'
  walk_at "s"
  refine whileR (fun m h => Bd g S s.heap L l4 h ∧ BankAt prog w h B rows ∧ (∃ v, h.IsCell (L + 1) v) ∧ ∃ kvs vs st, DInt prog w h d kvs ∧ h.PlainList sk (List.toArray vs) ∧ IntsAre vs st ∧ Srch rows n (kvs.map (·.1)) st none ∧ m = 2 * (rows.length - kvs.length) + st.length ∧ m ≤ 200) (2 * (rows.length - 1) + 1)
    (by exact ⟨B₈', hb₈, ⟨_, hc₈⟩, _, _, [(n : Int)], hd₈, hl₈, .cons _ _ .nil, Srch.start hn, rfl, by omega⟩) (fun m h tk Qw Ew Qe hQw _ _ hQe ⟨B₁, hb₁, ⟨cv, hc₁⟩, kvs, vs, stk, hd₁, hl₁, hi₁, hsr, hm, hm2⟩ => ?_)
  subst hl4
  walk_at "r"
  refine lenList (n := (stk.length : Nat)) hl₁.isList (by simp [hi₁.length]) (by omega) fun t₁ tk₁ => ?_
  walk_at "r"
  rcases List.eq_nil_or_concat stk with rfl | ⟨stk', x, estk⟩
  · refine itF (by simp) ?_
    walk_at "q"
    refine hQe _ ?_
    walk_at "n"
    walk_at "s"
    refine wpAny_Assign_Name (wpAny_Dict_empty ?_) (by rfl)
    have hsm₂ := W.gsz B₁.st
    have hdm := fresh_size h
    have kpm : Kp0 h (h.push { cls := .type "dict", data := .dict #[] }) := .push _
    have hM0 : (h.push { cls := .type "dict", data := .dict #[] }).DictOf (intKind prog w) h.objs.size [] := ⟨_, #[], 0, Heap.get?_push_size _ rfl, ⟨rfl, rfl, rfl⟩, rfl, fun _ he => by simp at he, Pairs.nil, List.nodup_nil⟩
    dsimp only
    generalize h.objs.size = dm at *
    generalize h.push { cls := .type "dict", data := .dict #[] } = h₂ at *
    have B₂ := B₁.step0 kpm
    have hb₂ := hb₁.kp0 kpm
    have hd₂ := hd₁.kp kpm id
    refine wpAny_storeName_cell (c := L + 1) rfl rfl rfl (cell_kp hc₁ kpm id) (fun h₃ hc₃ hs₃ => ?_)
    dsimp only at hs₃
    have k₃ : Kp (fun a => a = L + 1) h₂ h₃ := Kp.same hs₃ rfl (cell_noTup (cell_kp hc₁ kpm id))
    have B₃ := B₂.turn hs₃ (.inl hSc) hcL (cell_noTup (cell_kp hc₁ kpm id))
    have hmc : L + 1 ≠ dm := fun q => by obtain ⟨o, ho⟩ := cell_at hc₁; rw [q, hdm] at ho; cases ho
    have hmd : d ≠ dm := fun q => by obtain ⟨o, ho⟩ := dict_at hd₁.D; rw [q, hdm] at ho; cases ho
    have hmk : sk ≠ dm := fun q => by obtain ⟨o, ho⟩ := plain_at hl₁; rw [q, hdm] at ho; cases ho
    have hmL : dm ≠ L := (B₁.new hdm).2
    have hmB : ∀ a ∈ B.all, a ≠ dm := fun a ha q => by obtain ⟨o, ho⟩ := hb₁.live a ha; rw [q, hdm] at ho; cases ho
    have hmS : ¬ S dm := fun q => by
      rcases hSor dm q with q | q | q
      · exact hmd q.symm
      · exact hmc q.symm
      · exact hmk q.symm
    have hms : s.heap.get? dm = none := (B₁.new hdm).1.elim (fun q => absurd q hmS) id
    have B₃' := B₃.grow (S' := fun a => S a ∨ a = dm) (fun _ q => .inl q) fun a q => by
      rcases q with q | rfl
      · exact B₃.far a q
      · exact hgs _ hms
    have hb₃ := hb₂.kp k₃ hBc
    have hd₃ := hd₂.kp k₃ (fun q => hcd q.symm)
    have hm₃ : DInt prog w h₃ dm [] := (⟨hsm₂, hM0⟩ : DInt prog w h₂ dm []).kp k₃ (fun q => hmc q.symm)
    walk_at "n"
    walk_at "s"
    refine forS (g := g) (S := fun a => S a ∨ a = dm) (h₀ := s.heap) (L := L) (l := [(Str.ofString "below", Value.ref d), (Str.ofString "stack", Value.ref sk), (Str.ofString "n", Value.int n t), (Str.ofString "self", Value.ref B.b)]) ?_
    walk_at "r"
    have hkn := kst (h := h) hsr
    refine sortedD (hA' default).handled hd₃ (by omega) fun D h₄ tk₄ vs' ns' k₄ hDn hlD hi' hperm hpw => ?_
    dsimp only at k₄ hDn
    have B₄ := B₃'.step0 k₄
    have hb₄ := hb₃.kp0 k₄
    have hm₄ := hm₃.kp k₄ id
    have hc₄ := cell_kp hc₃ k₄ id
    have hd₄ := hd₃.kp k₄ id
    have hsk₄ := plain_kp (plain_kp (plain_kp hl₁ kpm id) k₃ hskc) k₄ id
    have hlen' : ns'.length ≤ rows.length := by rw [hperm.length_eq, List.length_map]; exact hkn
    have hlv : vs'.length = ns'.length := hi'.length
    have hliv : ∀ a, (S a ∨ a = dm) → ∃ o, h₄.get? a = some o := fun a q => by
      rcases q with q | q
      · rcases hSor a q with q | q | q
        · rw [q]; exact dict_at hd₄.D
        · rw [q]; exact cell_at hc₄
        · rw [q]; exact plain_at hsk₄
      · rw [q]; exact dict_at hm₄.D
    have hDS : ¬ (S D ∨ D = dm) ∧ D ≠ L := by
      refine ⟨fun q => ?_, (B₃'.new hDn).2⟩
      obtain ⟨o, ho⟩ : ∃ o, h₃.get? D = some o := by
        rcases q with q | q
        · rcases hSor D q with q | q | q
          · rw [q]; exact dict_at hd₃.D
          · rw [q]; exact cell_at hc₃
          · rw [q]; exact plain_at (plain_kp (plain_kp hl₁ kpm id) k₃ hskc)
        · rw [q]; exact dict_at hm₃.D
      rw [hDn] at ho; cases ho
    refine ⟨_, _, [D], fun i h => BankAt prog w h B rows ∧ h.IsCell (L + 1) (some (.ref dm)) ∧ ∃ mk, DInt prog w h dm mk ∧ mk.length ≤ i ∧ ∀ k ∈ ns'.take i, ∃ v, valueAt mk k = some v ∧ Rd h v (tmD (tm rows k.toNat)),
      Src.list (hA' _).handled hlD (by simp [sizeLine_eq]; omega), B₄, hliv, ?_, ⟨hb₄, hc₄, [], hm₄, Nat.zero_le _, fun k hk => by simp at hk⟩, ?_, ?_, ?_⟩
    · intro b' hb'; rw [List.mem_singleton] at hb'; rw [hb']; exact hDS
    · rintro i h h' I hI ⟨x1, x2, mk, x3, x4, x5⟩ k
      have nI : ∀ a, (S a ∨ a = dm) → a ≠ I := fun a q e => by obtain ⟨o, ho⟩ := hliv a q; rw [e, show _ = none from hI] at ho; cases ho
      exact ⟨x1.kp k fun a ha q => (by obtain ⟨o, ho⟩ := hb₄.live a ha; rw [q, show _ = none from hI] at ho; cases ho), cell_kp x2 k (nI _ (.inl hSc)), mk, x3.kp k (nI _ (.inr rfl)), x4, fun c hc => let ⟨v, e1, e2⟩ := x5 c hc; ⟨v, e1, rd_kp e2 k⟩⟩
    · rintro i x h₅ tk₅ Qt Et hQt - - hil hP B₅ Bp ⟨x1, x2, mk, x3, x4, x5⟩
      have hx : vs'[i]? = some x := by simpa using hP
      have hin : i < ns'.length := by have := (List.getElem?_eq_some_iff.mp hx).1; omega
      obtain ⟨u, hu'⟩ := hi'.get i _ (List.getElem?_eq_getElem hin)
      have eki := List.getElem?_eq_getElem hin
      generalize ns'[i] = k at hu' eki
      rw [hx] at hu'; cases hu'
      obtain ⟨hk0, hk1⟩ := hsr.low k (hperm.mem_iff.mp (List.mem_of_getElem? eki))
      obtain ⟨j, rfl⟩ := Int.eq_ofNat_of_zero_le hk0
      have hj : j < rows.length := by omega
      have hnd := List.getElem?_eq_getElem hj
      generalize rows[j] = nd at hnd
      have hkid := kidsOf_at hnd
      have hnd2 := (ok.op nd (List.mem_of_getElem? hnd)).2
      refine wpAny_assign_Name (sL Bp (fun h₆ B₆ hs₆ => ?_))
      have k₆ : Kp (fun a => a = L) h₅ h₆ := Kp.same hs₆ rfl B₅.nt
      have x1' := x1.kp k₆ hBL
      have x2' := cell_kp x2 k₆ hcL
      have x3' := x3.kp k₆ hmL
      walk_at "r"
      refine op_ok W (by exact B₆.st) x1' hnd (by omega) ((hA' _).le (by omega)) fun to h₇ tk₇ k₇ => ?_
      dsimp only at k₇
      have B₇ := B₆.step0 k₇
      walk_at "r"
      refine tupleNew (fun b h₈ k₈ htb => ?_) (by simp [sizeLine_eq])
      dsimp only at k₈
      have B₈ := B₇.step0 k₈
      have x1'' := (x1'.kp0 k₇).kp0 k₈
      walk_at "r"
      refine lcS (g := g) (S := No) (cl := [("made", L + 1)]) rfl (by decide) rfl (by decide) rfl ?_
      walk_at "r"
      refine kids_ok W (by exact B₈.st) x1'' hnd hnd2 (by omega) ((hA' _).le (by omega)) fun a vk h₉ tk₉ k₉ hta hik => ?_
      dsimp only at k₉
      have hlk : vk.length = nd.kids.length := hik.length
      have k69 : Kp0 h₆ h₉ := k₇.trans (k₈.trans k₉)
      have y2 := cell_kp x2' k69 id
      have y3 := x3'.kp k69 id
      refine ⟨_, _, [a], fun j ys h => RdAll h ys ((nd.kids.take j).map fun c : Int => tmD (tm rows c.toNat)), Src.tup (hA' _).handled hta (by simp [sizeLine_eq]; omega), B₈.st.trans k₉, fun _ q => q.elim, fun _ q => q.elim, fun _ _ q => q.elim,
        .nil, fun _ _ _ _ x k => rdAll_kp x k, ?_, ?_⟩
      · rintro C m x ys h₁₀ tk₁₀ Qb E' hQb hmi hxm hInv B₁₀ hC
        have hx' : vk[m]? = some x := by simpa using hxm
        have hml : m < nd.kids.length := by have := (List.getElem?_eq_some_iff.mp hx').1; omega
        obtain ⟨u, hu'⟩ := hik.get m _ (List.getElem?_eq_getElem hml)
        have ekm := List.getElem?_eq_getElem hml
        have hbe := hsr.before ok hperm hpw eki (c := nd.kids[m]) (by rw [hkid]; exact List.getElem_mem hml)
        generalize nd.kids[m] = c at hu' ekm hbe
        rw [hx'] at hu'; cases hu'
        obtain ⟨v, hv1, hv2⟩ := x5 c hbe
        have y2' := cell_kp y2 B₁₀.kp id
        have y3' := y3.kp B₁₀.kp id
        walk_at "r"
        refine getD y3' hv1 fun tk₁₁ => ?_
        walk_at "q"
        refine hQb _ _ _ .refl ?_
        show RdAll _ _ _
        rw [List.take_add_one, ekm, List.map_append]
        exact rdAll_append hInv (rdCons (rd_kp (rd_kp (rd_kp hv2 k₆) k69) B₁₀.kp) .nil)
      · intro Dl ys h₁₀ tk₁₀ hDl hlDl hlen2 hInv k₁₀
        have hys : ys.length = nd.kids.length := by rw [hlen2]; simp [hlk]
        walk_at "r"
        refine tupOfList hlDl (by rw [sizeLine_eq]; omega) fun e h₁₁ k₁₁ hte => ?_
        dsimp only at k₁₁
        refine addTup (tup_kp (tup_kp (tup_kp htb k₉) k₁₀) k₁₁) hte (by simp) (by simp [sizeLine_eq]; omega) fun z h₁₂ k₁₂ htz => ?_
        dsimp only at k₁₂
        have k8 : Kp0 h₆ h₁₂ := k69.trans (k₁₀.trans (k₁₁.trans k₁₂))
        have B₁₂ := B₆.step0 k8
        have z1 := x1'.kp0 k8
        have z2 := cell_kp x2' k8 id
        have z3 := x3'.kp k8 id
        have hzr : Rd h₁₂ (.ref z) (tmD (tm rows j)) := by
          show Rd _ _ (tmD ((terms rows).getD j dfl))
          rw [terms_at ok hnd]
          refine tm_rd htz ?_
          rw [List.size_toArray, hlk, List.take_of_length_le (Nat.le_refl _)] at hInv
          have q := rdAll_kp (rdAll_kp hInv k₁₁) k₁₂
          rw [tmDs_map, List.map_map]
          exact q
        walk_at "r"
        refine setD z3 (by omega) fun h₁₃ tk₁₃ z3' hs₁₃ => ?_
        dsimp only at hs₁₃
        have k₁₃ : Kp (fun a => a = dm) h₁₂ h₁₃ := Kp.same hs₁₃ rfl (dict_noTup z3.D)
        have B₁₃ := B₁₂.step k₁₃ fun a q => ⟨.inl (by rw [q]; exact .inl (.inr rfl)), fun e => hmL (q.symm.trans e)⟩
        walk_at "n"
        walk_at "r"
        walk_at "q"
        refine hQt _ _ (B₁₃.pop rfl) ⟨z1.kp k₁₃ hmB, cell_kp z2 k₁₃ hmc, _, z3', ?_, fun c hc => ?_⟩
        · have := stored_length_le mk (j : Int) (.ref z); omega
        · rw [List.take_add_one, eki] at hc
          rw [valueAt_stored]
          by_cases ec : c = (j : Int)
          · rw [if_pos ec, ec]
            exact ⟨_, rfl, rd_kp hzr k₁₃⟩
          · rw [if_neg ec]
            rcases List.mem_append.mp hc with q | q
            · obtain ⟨v, e1, e2⟩ := x5 c q
              exact ⟨v, e1, rd_kp (rd_kp (rd_kp e2 k₆) k8) k₁₃⟩
            · simp at q; exact absurd q ec
    · rintro h₅ tk₅ B₅ ⟨x1, x2, mk, x3, x4, x5⟩
      walk_at "n"
      obtain ⟨v, e1, e2⟩ := x5 n (by
        have : (n : Int) ∈ ns' := by exact hperm.mem_iff.mpr hsr.root
        rw [List.take_of_length_le (by simp [hlv])]; exact this)
      walk_at "r"
      refine getD x3 e1 fun tk₆ => ?_
      walk_at "q"
      exact hQ _ _ _ (B₅.kp0 fun a q => q.elim (hS0 a) fun q => by rw [q]; exact hms) (by simpa using e2)
  · rw [List.concat_eq_append] at estk
    subst estk
    refine itT (by simp) ?_
    obtain ⟨us, tx, rfl, hius⟩ := ints_snoc hi₁
    have hT₁ := hsr.take
    obtain ⟨hx0, hx1⟩ := hsr.low x (hsr.sub x (by simp))
    obtain ⟨j, rfl⟩ := Int.eq_ofNat_of_zero_le hx0
    have hj : j < rows.length := by omega
    have hnd := List.getElem?_eq_getElem hj
    generalize rows[j] = nd at hnd
    have hkid := kidsOf_at hnd
    have hnd2 := (ok.op nd (List.mem_of_getElem? hnd)).2
    rw [List.length_append, List.length_singleton] at hm
    have hkn := kst (h := h) hsr
    walk_at "s"
    refine forS (g := g) (S := S) (h₀ := s.heap) (L := L) (l := [(Str.ofString "below", Value.ref d), (Str.ofString "stack", Value.ref sk), (Str.ofString "n", Value.int n t), (Str.ofString "self", Value.ref B.b)]) ?_
    walk_at "r"
    refine gmList (by exact hl₁) PySem.F.slot_list_pop PySem.F.type_list_pop ?_
    walk_at "r"
    refine popL hl₁ (by have := hius.length; omega) fun h₂ hp₂ hs₂ => ?_
    dsimp only at hs₂
    have k₂ : Kp (fun a => a = sk) h h₂ := Kp.same hs₂ rfl (list_noTup hl₁.isList)
    have B₂ := B₁.step k₂ fun a q => ⟨.inl (by rw [q]; exact hSk), fun e => hskL (q.symm.trans e)⟩
    have hb₂ := hb₁.kp k₂ hskB
    have hc₂ := cell_kp hc₁ k₂ (fun q => hskc q.symm)
    have hd₂ := hd₁.kp k₂ (fun q => hskd q.symm)
    walk_at "r"
    refine kids_ok W (by exact B₂.st) hb₂ hnd hnd2 (by omega) ((hA' _).le (by omega)) fun a vk h₃ tk₃ k₃ hta hik => ?_
    dsimp only at k₃
    have B₃ := B₂.step0 k₃
    have hd₃' : DInt prog w h₃ d kvs := hd₂.kp k₃ id
    have hc₃' := cell_kp hc₂ k₃ id
    have hp₃' := plain_kp hp₂ k₃ id
    have hlv : ∀ a, S a → ∃ o, h₃.get? a = some o := fun a q => by
      rcases hSor a q with q | q | q
      · rw [q]; exact dict_at hd₃'.D
      · rw [q]; exact cell_at hc₃'
      · rw [q]; exact plain_at hp₃'
    have haS : ¬ S a ∧ a ≠ L := by
      obtain ⟨o, ho, hcl, hdt⟩ := id hta
      refine ⟨fun q => ?_, fun q => B₃.nt o (q ▸ ho) ⟨hcl, _, hdt⟩⟩
      rcases hSor a q with q | q | q
      · exact dict_noTup hd₃'.D o (q ▸ ho) ⟨hcl, _, hdt⟩
      · exact cell_noTup hc₃' o (q ▸ ho) ⟨hcl, _, hdt⟩
      · exact list_noTup hp₃'.isList o (q ▸ ho) ⟨hcl, _, hdt⟩
    have hlk : vk.length = nd.kids.length := hik.length
    refine ⟨_, _, [a], fun i h => BankAt prog w h B rows ∧ (∃ v, h.IsCell (L + 1) v) ∧ ∃ kvs vs st, DInt prog w h d kvs ∧ h.PlainList sk (List.toArray vs) ∧ IntsAre vs st ∧ Srch rows n (kvs.map (·.1)) st (some ((j : Int), i)) ∧ 2 * (rows.length - kvs.length) + st.length < m,
      Src.tup (hA' _).handled hta (by simp [sizeLine_eq]; omega), B₃, hlv, ?_, ⟨hb₂.kp0 k₃, ⟨_, hc₃'⟩, kvs, _, _, hd₃', hp₃', hius, hT₁, by omega⟩, ?_, ?_, ?_⟩
    · intro b' hb'; rw [List.mem_singleton] at hb'; rw [hb']; exact haS
    · rintro i h h' I hI ⟨x1, ⟨v, x2⟩, kvs, vs, st, x3, x4, x5, x6, x7⟩ k
      have nI : ∀ a, S a → a ≠ I := fun a q e => by obtain ⟨o, ho⟩ := hlv a q; rw [e, show _ = none from hI] at ho; cases ho
      exact ⟨x1.kp k fun a ha q => (by obtain ⟨o, ho⟩ := (hb₂.kp0 k₃).live a ha; rw [q, show _ = none from hI] at ho; cases ho), ⟨v, cell_kp x2 k (nI _ hSc)⟩, kvs, vs, st, x3.kp k (nI _ hSd), plain_kp x4 k (nI _ hSk), x5, x6, x7⟩
    · rintro i x h₄ tk₄ Qt Et hQt - - hi' hP B₄ Bp ⟨x1, ⟨v, x2⟩, kvs, vs, stk, x3, x4, x5, x6, x7⟩
      have hx : vk[i]? = some x := by simpa using hP
      have hil : i < nd.kids.length := by have := (List.getElem?_eq_some_iff.mp hx).1; omega
      obtain ⟨u, hu'⟩ := hik.get i _ (List.getElem?_eq_getElem hil)
      have eki := List.getElem?_eq_getElem hil
      have hck := ok.kid j nd hnd _ (List.getElem_mem hil)
      generalize nd.kids[i] = c at hu' eki hck
      rw [hx] at hu'; cases hu'
      have eki' : (kidsOf rows (j : Int))[i]? = some c := by rw [hkid]; exact eki
      have hkn' := kst (h := h₄) x6
      refine wpAny_assign_Name (sL Bp (fun h₅ B₅ hs₅ => ?_))
      have k₅ : Kp (fun a => a = L) h₄ h₅ := Kp.same hs₅ rfl B₄.nt
      have x1' := x1.kp k₅ hBL
      have x2' := cell_kp x2 k₅ hcL
      have x3' := x3.kp k₅ hdL
      have x4' := plain_kp x4 k₅ hskL
      walk_at "r"
      refine notInD x3' fun tk₅ => ?_
      walk_at "r"
      by_cases hm' : c ∈ kvs.map (·.1)
      · refine itF (by simp [hm']) ?_
        walk_at "r"
        walk_at "q"
        exact hQt _ _ (B₅.pop rfl) ⟨x1', ⟨_, x2'⟩, kvs, vs, stk, x3', x4', x5, x6.old eki' hm', x7⟩
      · refine itT (by simp [hm']) ?_
        walk_at "r"
        have hkl : kvs.length < 100 := by omega
        refine setD x3' (by omega) fun h₆ tk₆ x3'' hs₆ => ?_
        dsimp only at hs₆
        have k₆ : Kp (fun a => a = d) h₅ h₆ := Kp.same hs₆ rfl (dict_noTup x3'.D)
        have B₆ := B₅.step k₆ fun a q => ⟨.inl (by rw [q]; exact .inl hSd), fun e => hdL (q.symm.trans e)⟩
        have x4'' := plain_kp x4' k₆ hskd
        have est : stored kvs c (Value.bool true) = kvs ++ [(c, Value.bool true)] := by
          unfold stored
          rw [if_neg]
          intro e
          obtain ⟨y, hy, hc'⟩ := List.any_eq_true.mp e
          exact hm' (List.mem_map.mpr ⟨y, hy, by simpa using hc'⟩)
        rw [est] at x3''
        walk_at "n"
        walk_at "r"
        refine gmList (by exact x4'') PySem.F.slot_list_append PySem.F.type_list_append ?_
        walk_at "r"
        refine appendL x4'' (by have := x5.length; rw [sizeLine_eq]; omega) fun h₇ hp₇ hs₇ => ?_
        dsimp only at hs₇
        have k₇ : Kp (fun a => a = sk) h₆ h₇ := Kp.same hs₇ rfl (list_noTup x4''.isList)
        have B₇ := B₆.step k₇ fun a q => ⟨.inl (by rw [q]; exact .inl hSk), fun e => hskL (q.symm.trans e)⟩
        have x6' := x6.new eki' hm' (by omega)
        have e2 : (kvs ++ [(c, Value.bool true)]).map (·.1) = kvs.map (·.1) ++ [c] := by simp
        rw [← e2] at x6'
        have hkn2 := kst (h := h₇) x6'
        rw [List.length_append, List.length_singleton] at hkn2
        walk_at "n"
        walk_at "r"
        walk_at "q"
        exact hQt _ _ (B₇.pop rfl) ⟨(x1'.kp k₆ hdl).kp k₇ hskB, ⟨_, cell_kp (cell_kp x2' k₆ hcd) k₇ (fun q => hskc q.symm)⟩, _, _, _, x3''.kp k₇ (fun q => hskd q.symm), hp₇, x5.append (.cons _ _ .nil), x6', by simp; omega⟩
    · rintro h₄ tk₄ B₄ ⟨x1, x2, kvs, vs, stk, x3, x4, x5, x6, x7⟩
      walk_at "z"
      walk_at "q"
      refine hQw (2 * (rows.length - kvs.length) + stk.length) h₄ tk₄ x7 ⟨B₄, x1, x2, kvs, vs, stk, x3, x4, x5, x6.fin (by rw [hkid]; simp [hlk]), rfl, by omega⟩
end

/-! a list comprehension with two generators -/
section
variable {prog : Program} {w : World} {A : Around} {R : Result → Shared → Prop} {s : Shared}
abbrev e2 (elt i0 i1 : PySem.Expr) (t0 t1 : PySem.Expr) (scope : Scope) (pos : Pos) : PySem.Expr := .ListComp elt [⟨t0, i0, [], 0⟩, ⟨t1, i1, [], 0⟩] scope pos
theorem compTurn_e1 (elt i0 i1 t0 t1 : PySem.Expr) (scope : Scope) (pos : Pos) (it acc : Value) (env : Env) :
    compTurn (e2 elt i0 i1 t0 t1 scope pos) 1 it acc env = (standAt i1.pos >>= fun _ => pyNext it >>= fun r => match r with
      | none => pure (.done .next)
      | some v => letOwnedTupleGo t1 it v >>= fun _ => assign t1 env v >>= fun _ =>
        (eval elt env >>= fun x => call (.builtin "list.append") [acc, x] >>= fun _ => pure ()) >>= fun _ =>
          again (.compLoop (e2 elt i0 i1 t0 t1 scope pos) 1 it acc env)) := by rfl
theorem compTurn_e0 (elt i0 i1 t0 t1 : PySem.Expr) (scope : Scope) (pos : Pos) (it acc : Value) (env : Env) :
    compTurn (e2 elt i0 i1 t0 t1 scope pos) 0 it acc env = (standAt i0.pos >>= fun _ => pyNext it >>= fun r => match r with
      | none => pure (.done .next)
      | some v => letOwnedTupleGo t0 it v >>= fun _ => assign t0 env v >>= fun _ =>
        (eval i1 env >>= fun x => standAt i1.pos >>= fun _ => foldedSetIterable i1 env x >>= fun x => holding [x] (pyIter x) >>= fun it1 => runOwn (.compStart (e2 elt i0 i1 t0 t1 scope pos) 1 it1 acc env) env >>= fun _ =>
          again (.compLoop (e2 elt i0 i1 t0 t1 scope pos) 0 it acc env))) := by rfl
theorem compLoop1 {elt i0 i1 t0 t1 : PySem.Expr} {scope : Scope} {pos : Pos} {it acc : Value} {env : Env} (I : Nat → Shared → Prop)
    (turn : ∀ n s, I n s → wpAny (model prog w) A (pyNext it) (fun r s₁ => match r with
      | none => R (.ok .next) s₁
      | some v => wpAny (model prog w) A (assign t1 env v) (fun _ s₂ => wpAny (model prog w) A (eval elt env) (fun x s₃ =>
          wpAny (model prog w) A (call (.builtin "list.append") [acc, x]) (fun _ s₄ => ∃ m, m < n ∧ I m s₄) (notedBy (model prog w) A env fun e s' => R (.error e) s') s₃)
          (notedBy (model prog w) A env fun e s' => R (.error e) s') s₂) (notedBy (model prog w) A env fun e s' => R (.error e) s') s₁) (notedBy (model prog w) A env fun e s' => R (.error e) s') s)
    (n : Nat) (h : I n s) (ht : ∀ v, letOwnedTupleGo t1 it v = pure () := by intro _; rfl) :
    codeAny (model prog w) A (.compLoop (e2 elt i0 i1 t0 t1 scope pos) 1 it acc env) R s := by
  refine codeAny_loop rfl I (fun n s hI => ?_) n h
  show wpAny _ _ ((compTurn (e2 elt i0 i1 t0 t1 scope pos) 1 it acc env).onRaise (fun x => do noteFrame x env; theTreesLotGoes x)) _ _ s
  refine wpAny_noted ?_
  rw [compTurn_e1]
  refine wpAny_bind (wpAny_standAt (wpAny_bind (wpAny_mono (turn n s hI) (fun r s₁ h₁ => ?_) fun _ _ h' => h')))
  cases r with
  | none => exact wpAny_pure h₁
  | some v =>
    refine wpAny_bind (wpAny_of_eq (ht v) ?_)
    exact wpAny_bind (wpAny_mono h₁ (fun _ s₂ h₂ => wpAny_bind (wpAny_bind (wpAny_mono h₂ (fun x s₃ h₃ => wpAny_bind (wpAny_mono h₃
      (fun _ s₄ h₄ => wpAny_pure (wpAny_pure ⟨rfl, h₄⟩)) fun _ _ h' => h')) fun _ _ h' => h'))) fun _ _ h' => h')
theorem compLoop0 {elt i0 i1 t0 t1 : PySem.Expr} {scope : Scope} {pos : Pos} {it acc : Value} {env : Env} (I : Nat → Shared → Prop)
    (turn : ∀ n s, I n s → wpAny (model prog w) A (pyNext it) (fun r s₁ => match r with
      | none => R (.ok .next) s₁
      | some v => wpAny (model prog w) A (assign t0 env v) (fun _ s₂ => wpAny (model prog w) A (eval i1 env) (fun x s₃ => wpAny (model prog w) A (pyIter x) (fun it1 s₄ =>
          codeAny (model prog w) A (.compStart (e2 elt i0 i1 t0 t1 scope pos) 1 it1 acc env) (fun r s' => match r with
            | .ok _ => ∃ m, m < n ∧ I m s'
            | .error e => cameBackBy (model prog w) A env (notedBy (model prog w) A env fun e s' => R (.error e) s') e s') s₄) (notedBy (model prog w) A env fun e s' => R (.error e) s') s₃)
          (notedBy (model prog w) A env fun e s' => R (.error e) s') s₂) (notedBy (model prog w) A env fun e s' => R (.error e) s') s₁) (notedBy (model prog w) A env fun e s' => R (.error e) s') s)
    (n : Nat) (h : I n s) (ht : ∀ v, letOwnedTupleGo t0 it v = pure () := by intro _; rfl) (hs : ∀ x, foldedSetIterable i1 env x = pure x := by intro _; rfl) :
    codeAny (model prog w) A (.compLoop (e2 elt i0 i1 t0 t1 scope pos) 0 it acc env) R s := by
  refine codeAny_loop rfl I (fun n s hI => ?_) n h
  show wpAny _ _ ((compTurn (e2 elt i0 i1 t0 t1 scope pos) 0 it acc env).onRaise (fun x => do noteFrame x env; theTreesLotGoes x)) _ _ s
  refine wpAny_noted ?_
  rw [compTurn_e0]
  refine wpAny_bind (wpAny_standAt (wpAny_bind (wpAny_mono (turn n s hI) (fun r s₁ h₁ => ?_) fun _ _ h' => h')))
  cases r with
  | none => exact wpAny_pure h₁
  | some v =>
    refine wpAny_bind (wpAny_of_eq (ht v) ?_)
    refine wpAny_bind (wpAny_mono h₁ (fun _ s₂ h₂ => wpAny_bind (wpAny_mono h₂ (fun x s₃ h₃ => wpAny_bind (wpAny_standAt (wpAny_bind (wpAny_of_eq (hs x) (wpAny_bind (wpAny_holding (wpAny_mono h₃ (fun it1 s₄ h₄ => ?_) fun _ _ h' => h'))))))) fun _ _ h' => h')) fun _ _ h' => h')
    refine wpAny_bind (wpAny_runOwn (codeAny_mono h₄ fun r s' z => ?_))
    cases r with
    | ok f => exact wpAny_pure ⟨rfl, z⟩
    | error e => exact z
theorem compStart1 {elt i0 i1 t0 t1 : PySem.Expr} {scope : Scope} {pos : Pos} {it acc : Value} {env : Env}
    (h0 : codeAny (model prog w) A (.compLoop (e2 elt i0 i1 t0 t1 scope pos) 1 it acc env) R s)
    (h : wpAny (model prog w) A (pyIter it) (fun it' s' => codeAny (model prog w) A (.compLoop (e2 elt i0 i1 t0 t1 scope pos) 1 it' acc env) R s')
      (notedBy (model prog w) A env fun x s' => R (.error x) s') s) :
    codeAny (model prog w) A (.compStart (e2 elt i0 i1 t0 t1 scope pos) 1 it acc env) R s := by
  refine codeAny_of_tree ?_
  show wpAny _ _ ((compStart (e2 elt i0 i1 t0 t1 scope pos) 1 it acc env).onRaise (fun x => do noteFrame x env; standAt theWindowsPlace)) _ _ s
  refine wpAny_notedAt ?_
  unfold compStart
  show wpAny _ _ (ask >>= _) _ _ s
  refine wpAny_bind (wpAny_askSetting (wpAny_ite ?_))
  split
  · first
      | exact wpAny_bind (wpAny_pure (wpAny_pure (And.intro rfl h0)))
      | exact wpAny_pure (And.intro rfl h0)
  · first
      | exact wpAny_bind (wpAny_rule (wpAny_bind (wpAny_standAt (wpAny_bind (wpAny_mono h (fun it' s' h' => wpAny_pure (And.intro rfl h')) fun _ _ x => x)))))
      | (refine wpAny_bind (wpAny_rule ?_); show wpAny _ _ (standAt i1.pos >>= _) _ _ s; exact wpAny_bind (wpAny_standAt (wpAny_bind (wpAny_mono h (fun it' s' h' => wpAny_pure (And.intro rfl h')) fun _ _ x => x))))
end

section
variable {prog : Program} {w : World} {A : Around} {E : Value → Shared → Prop} {env : Env}
/-- the inner source of a comprehension with two generators -/
inductive Lc2In (prog : Program) (w : World) (A : Around) (env : Env) (g : Heap) (elt : PySem.Expr) (x y : Str) (scope : Scope) (cl : List (Str × Addr)) (I0 : Nat → List Value → Heap → Prop) (s₁ : Shared) (C : Addr) (i : Nat) (v : Value) (ys : List Value) (h₃ : Heap) (xv1 : Value) (s₄ : Shared) : Prop
  | mk (h : Heap) (tk : Nat) (l1 : Addr) (its : List Value) (I1 : Nat → List Value → Heap → Prop) (hs : s₄ = { s₁ with heap := h, toks := tk }) (k : Kp0 h₃ h) (hx : xv1 = .ref l1) (hh : A.handled = none) (hl : h.IsList l1 its.toArray) (hsz : its.length ≤ 1000)
      (hn : h₃.get? l1 = none) (inv1 : I1 0 ys h) (stab1 : ∀ j ys h h', I1 j ys h → Kp (fun a => s₁.heap.get? a = none) h h' → I1 j ys h') (len1 : ∀ j ys h, I1 j ys h → ys.length ≤ 1000)
      (turn1 : ∀ j v1 ys h₅ tk₅ (Qb : Value → Shared → Prop) E'', (∀ z h' tk', Kp0 h₅ h' → I1 (j + 1) (ys ++ [z]) h' → Qb z { s₁ with heap := h', toks := tk' }) → its[j]? = some v1 → I1 j ys h₅ → Bd g No s₁.heap C [(y, v1), (x, v)] h₅ →
        wpAny (model prog w) A (eval elt (compEnvC scope cl C env)) Qb E'' { s₁ with heap := h₅, toks := tk₅ })
      (fin1 : ∀ ys h, I1 its.length ys h → I0 (i + 1) ys h) : Lc2In prog w A env g elt x y scope cl I0 s₁ C i v ys h₃ xv1 s₄
inductive Lc2End (prog : Program) (w : World) (A : Around) (env : Env) (g : Heap) (S : Addr → Prop) (elt i1 : PySem.Expr) (x y z : Str) (scope : Scope) (cl : List (Str × Addr)) (h₀ : Heap) (L : Addr) (l : List (Str × Value)) (Q : Flow → Shared → Prop) (xv : Value) (s₁ : Shared) : Prop
  | mk (n : Nat) (P : Nat → Value → Prop) (fp : List Addr) (I0 : Nat → List Value → Heap → Prop) (src : Src prog w A xv s₁.heap n P fp) (hst : Kp0 g s₁.heap) (inv0 : I0 0 [] s₁.heap)
      (stab : ∀ i ys h h', I0 i ys h → Kp (fun a => s₁.heap.get? a = none) h h' → I0 i ys h')
      (turn : ∀ C i v ys h₃ tk₃ (Qb : Value → Shared → Prop) E', (∀ xv1 s₄, Lc2In prog w A env g elt x y scope cl I0 s₁ C i v ys h₃ xv1 s₄ → Qb xv1 s₄) → i < n → P i v → I0 i ys h₃ → Bd g No s₁.heap C [(x, v)] h₃ → s₁.heap.get? C = none →
        wpAny (model prog w) A (eval i1 (compEnvC scope cl C env)) Qb E' { s₁ with heap := h₃, toks := tk₃ })
      (BL : Bd g S h₀ L l s₁.heap) (stabL : ∀ ys h h', I0 n ys h → Kp (fun a => a = L) h h' → I0 n ys h')
      (fin : ∀ D ys h' tk, s₁.heap.get? D = none → h'.PlainList D (List.toArray ys) → I0 n ys h' → Bd g S h₀ L ((z, .ref D) :: l) h' → Kp (fun a => a = L) s₁.heap h' → Q .next { s₁ with heap := h', toks := tk }) : Lc2End prog w A env g S elt i1 x y z scope cl h₀ L l Q xv s₁
theorem lc2A {s : Shared} {z : Str} {pz spos : Pos} {h₀ : Heap} {S : Addr → Prop} {L : Addr} {l : List (Str × Value)} {elt i0 i1 : PySem.Expr} {x y : Str} {px py : Pos} {scope : Scope} {cl : List (Str × Addr)} {pos : Pos} {Q : Flow → Shared → Prop} {g : Heap}
    (hsw : swapsWith (e2 elt i0 i1 (.Name x px) (.Name y py) scope pos) (some (.Name z pz)) spos.line env = pure true) (hz : env.kindOf z = some .local) (hL : env.locals = L) (hpz : (env.scope.kind == .class || (env.scope.kind == .module && env.locals != env.globals)) = false)
    (hclos : closureFor scope env = pure cl) (hcell : ∀ y ∈ scope.names, y.2 ≠ .cell) (hkind : scope.kind = .function)
    (hnames : ∀ y ∈ scope.names, y.2 = .local → scope.names.lookup y.1 = some .local) (hx : scope.names.lookup x = some .local) (hy : scope.names.lookup y = some .local) (hxy : mp [(x, Value.none)] y = none)
    (h : wpAny (model prog w) A (eval i0 env) (fun xv s₁ => Lc2End prog w A env g S elt i1 x y z scope cl h₀ L l Q xv s₁) E s)
    (hs0 : ∀ x, foldedSetIterable i0 env x = pure x := by intro _; rfl) (hs1 : ∀ C x, foldedSetIterable i1 (compEnvC scope cl C env) x = pure x := by intro _ _; rfl) :
    wpAny (model prog w) A (exec (.Assign [.Name z pz] (e2 elt i0 i1 (.Name x px) (.Name y py) scope pos) spos) env) Q E s := by
  rw [exec_Assign_Name_used _ _ _ _ hsw]
  refine wpAny_bind (wpAny_standAt (wpAny_bind ?_))
  show wpAny _ A (do let _ ← comprehension (e2 elt i0 i1 (.Name x px) (.Name y py) scope pos) scope env _ (newList []) false (eval i0 env) (some (assign (.Name z pz) env))) _ _ s
  refine wpAny_bind (wpAny_mono (wpAny_comprehension_free (use := some (assign (.Name z pz) env)) (Q := fun _ s' => Q .next s') rfl hs0 hclos hkind hnames (wpAny_mono h (fun xv s₁ h₁ => ?_) fun _ _ e => e)) (fun _ s' hq => wpAny_pure (wpAny_pure hq)) fun _ _ e => e)
  obtain ⟨n, P, fp, I0, src, hst, inv0, stab, turn, BL, stabL, fin⟩ := h₁
  refine src.go _ _ _ rfl fun I H₁ tkI St kI hIn W hst2 nt hI₂ => ?_
  have low : ∀ a, H₁.get? a = none → s₁.heap.get? a = none := fun a e => by
    cases q : s₁.heap.get? a with
    | none => rfl
    | some o => have := kI.stays _ _ q; rw [e] at this; cases this
  refine wpAny_newObj_type (wpAny_newFunctionEnv hcell (by intro y hy; simp at hy) (fun h₁ hns₁ hsb₁ => ?_) hkind)
  dsimp only at hns₁ hsb₁ ⊢
  generalize hH2 : H₁.push { cls := .type "list", dict := none, data := .seq ([] : List Value).toArray } = H2 at hns₁ hsb₁ ⊢
  have hC : H2.objs.size = H₁.objs.size + 1 := by rw [← hH2, Heap.size_push]
  generalize hDe : H₁.objs.size = D at *
  generalize hCe : H2.objs.size = C at hC hns₁ hsb₁
  have hDn : H₁.get? D = none := hDe ▸ fresh_size _
  have hCn : H₁.get? C = none := Heap.get?_none_of_le (by omega)
  have hDC : D ≠ C := by omega
  have hDf : D ∉ I :: fp := fun q => by
    obtain ⟨o, ho⟩ : ∃ o, H₁.get? D = some o := by
      rcases List.mem_cons.mp q with rfl | q
      · exact hI₂
      · obtain ⟨o, ho⟩ := src.live D q; exact ⟨o, kI.stays _ _ ho⟩
    rw [hDn] at ho; cases ho
  have hCf : C ∉ I :: fp := fun q => by
    obtain ⟨o, ho⟩ : ∃ o, H₁.get? C = some o := by
      rcases List.mem_cons.mp q with rfl | q
      · exact hI₂
      · obtain ⟨o, ho⟩ := src.live C q; exact ⟨o, kI.stays _ _ ho⟩
    rw [hCn] at ho; cases ho
  have hDI : D ≠ I := fun q => hDf (q ▸ List.mem_cons_self ..)
  have hCI : C ≠ I := fun q => hCf (q ▸ List.mem_cons_self ..)
  have old : ∀ b o, H₁.get? b = some o → h₁.get? b = some o := fun b o e => hsb₁.extBut b o (fun q => by rw [q, hCn] at e; cases e) (Heap.get?_push_of_some _ (hH2 ▸ Heap.get?_push_of_some _ e))
  have hacc : h₁.PlainList D #[] := ⟨_, hsb₁.extBut _ _ hDC (Heap.get?_push_of_some _ (hH2 ▸ hDe ▸ Heap.get?_push_size _ rfl))⟩
  have B₁ : Bd g No s₁.heap C [] h₁ := ⟨⟨_, hns₁, fun _ _ e => by cases e⟩, Kp.of_stays fun b o e => old b o (kI.stays b o e), (hst.trans kI).trans (.of_stays old), hst, .inl (low C hCn), fun a q => q.elim⟩
  have hxl : (compEnvC scope cl C env).kindOf x = some .local := lookup_relabel_local hx
  have hyl : (compEnvC scope cl C env).kindOf y = some .local := lookup_relabel_local hy
  have hpp : ((compEnvC scope cl C env).scope.kind == .class || ((compEnvC scope cl C env).scope.kind == .module && (compEnvC scope cl C env).locals != (compEnvC scope cl C env).globals)) = false := by show (scope.kind == .class || (scope.kind == .module && _)) = false; rw [hkind]; rfl
  have one : ∀ (a b : Addr), a ∈ [b] → a = b := fun a b q => List.mem_singleton.mp q
  have loop : ∀ s₃ : Shared, s₃ = { s₁ with heap := h₁, toks := tkI + ([] : List (Str × Value)).length } →
      codeAny (model prog w) A (.compLoop (e2 elt i0 i1 (.Name x px) (.Name y py) scope pos) 0 (.ref I) (.ref D) (compEnvC scope cl C env)) (compPost (model prog w) A E (some (assign (.Name z pz) env)) (fun _ s' => Q .next s') (.ref D) C) s₃ := by
    rintro s₃ rfl
    refine compLoop0 (fun k s' => ∃ h' tk i ys, s' = { s₁ with heap := h', toks := tk } ∧ i ≤ n ∧ k = n + 1 - i ∧ St i h' ∧ I0 i ys h' ∧ h'.PlainList D (List.toArray ys) ∧ Bd g No s₁.heap C [] h') ?_ (n + 1)
      ⟨h₁, _, 0, [], rfl, Nat.zero_le _, rfl, W.frame _ _ _ hst2 fun b _ o e => old b o e, stab _ _ _ _ inv0 (Kp.of_stays fun b o e => old b o (kI.stays b o e)), hacc, B₁⟩ (hs := fun x => hs1 C x)
    rintro k s' ⟨H, tk, i, ys, rfl, hi, rfl, hstH, hInv, hD, B⟩
    have nt' := nt i H hstH
    by_cases hlt' : i < n
    · refine W.item i _ _ _ hlt' hstH fun v h₂ tk₂ hP st₂ hk₂ => ?_
      dsimp only at hk₂
      have k₂ : Kp (fun a => a = I) H h₂ := ⟨fun a o e q => hk₂ a o (fun z => q (one _ _ z)) e, fun a o e c => hk₂ a o (fun q => nt' a q o e c) e⟩
      replace B := B.step k₂ fun a q => ⟨.inr (by rw [q]; exact hIn), fun z => hCI (z.symm.trans q)⟩
      replace hD := plain_kp hD k₂ hDI
      replace hInv := stab _ _ _ _ hInv (k₂.mono fun a q => by rw [q]; exact hIn)
      refine wpAny_assign_Name (sL B (fun h₃ B₃ hs₃ => ?_) rfl hxl hpp)
      dsimp only at hs₃
      have k₃ : Kp (fun a => a = C) h₂ h₃ := Kp.same hs₃ rfl B.nt
      replace hD := plain_kp hD k₃ hDC
      replace hInv := stab _ _ _ _ hInv (k₃.mono fun a q => by rw [q]; exact low C hCn)
      have st₃ : St (i + 1) h₃ := W.frame _ _ _ st₂ fun b q o e => k₃.keep b o e fun z => hCf (z ▸ q)
      refine turn C i v ys h₃ (tk₂ + 1) _ _ (fun xv1 s₄ h₄ => ?_) hlt' hP hInv B₃ (low C hCn)
      obtain ⟨h₄, tk₄, l1, its, I1, rfl, k₄, rfl, hh, hl1, hsz1, hl1n, inv1, stab1, len1, turn1, fin1⟩ := h₄
      have hJn : h₄.get? h₄.objs.size = none := fresh_size _
      have hl1J : l1 ≠ h₄.objs.size := Nat.ne_of_lt (list_lt hl1)
      refine wpAny_pyIter_list hl1 ?_
      have W1 := Walks.list (prog := prog) (w := w) hh h₄.objs.size l1 hl1J its.toArray
      have k₅ : Kp0 h₄ (h₄.push { cls := .type "list_iterator", data := .fields #[.ref l1, .int 0 0] }) := .push _
      have hst1 : (h₄.push { cls := .type "list_iterator", data := .fields #[.ref l1, .int 0 0] }).IsListIter h₄.objs.size l1 0 ∧ (h₄.push { cls := .type "list_iterator", data := .fields #[.ref l1, .int 0 0] }).IsList l1 its.toArray :=
        ⟨⟨_, Heap.get?_push_size _ rfl, rfl, rfl⟩, hl1.push _⟩
      have hDh : D < h₄.objs.size := by obtain ⟨oD, hoD⟩ := plain_at hD; exact Heap.lt_size (k₄.stays _ _ hoD)
      have hIlt : I < D := by obtain ⟨oI, hoI⟩ := hI₂; rw [← hDe]; exact Heap.lt_size hoI
      generalize hH5 : h₄.push { cls := .type "list_iterator", data := .fields #[.ref l1, .int 0 0] } = h₅ at k₅ hst1 ⊢
      generalize hJe : h₄.objs.size = J at *
      have B₅ := (B₃.step0 k₄).step0 k₅
      have hD₅ := plain_kp (plain_kp hD k₄ id) k₅ id
      have st₅ : St (i + 1) h₅ := W.frame _ _ _ st₃ fun b q o e => k₅.keep b o (k₄.keep b o e id) id
      obtain ⟨oD, hoD⟩ := plain_at hD
      obtain ⟨oC, hoC⟩ := B₃.at_
      have hDJ : D ≠ J := Nat.ne_of_lt hDh
      have hCJ : C ≠ J := fun q => by have := k₄.stays _ _ hoC; rw [q, hJn] at this; cases this
      have hDl : D ≠ l1 := fun q => by rw [q, hl1n] at hoD; cases hoD
      have hCl : C ≠ l1 := fun q => by rw [q, hl1n] at hoC; cases hoC
      have hJs : s₁.heap.get? J = none := by
        cases q : s₁.heap.get? J with
        | none => rfl
        | some o => have := k₄.stays _ _ (B₃.kp.keep _ _ q id); rw [hJn] at this; cases this
      have hJfp : J ∉ I :: fp := fun q => by
        rcases List.mem_cons.mp q with q | q
        · exact absurd q (Nat.ne_of_gt (Nat.lt_trans hIlt hDh))
        · obtain ⟨o, ho⟩ := src.live J q; rw [hJs] at ho; cases ho
      have inv5 := stab1 _ _ _ _ inv1 k₅.of0
      have loop1 : ∀ s₆ : Shared, s₆ = { s₁ with heap := h₅, toks := tk₄ } →
          codeAny (model prog w) A (.compLoop (e2 elt i0 i1 (.Name x px) (.Name y py) scope pos) 1 (.ref J) (.ref D) (compEnvC scope cl C env)) (fun r s' => match r with
            | .ok _ => ∃ m, m < n + 1 - i ∧ ∃ h' tk i ys, s' = { s₁ with heap := h', toks := tk } ∧ i ≤ n ∧ m = n + 1 - i ∧ St i h' ∧ I0 i ys h' ∧ h'.PlainList D (List.toArray ys) ∧ Bd g No s₁.heap C [] h'
            | .error e => cameBackBy (model prog w) A (compEnvC scope cl C env) (notedBy (model prog w) A (compEnvC scope cl C env) fun e s' => compPost (model prog w) A E (some (assign (.Name z pz) env)) (fun _ s' => Q .next s') (.ref D) C (.error e) s') e s') s₆ := by
        rintro s₆ rfl
        refine compLoop1 (fun k s' => ∃ h' tk j ys, s' = { s₁ with heap := h', toks := tk } ∧ j ≤ its.length ∧ k = its.length + 1 - j ∧ (h'.IsListIter J l1 j ∧ h'.IsList l1 its.toArray) ∧ I1 j ys h' ∧ h'.PlainList D (List.toArray ys) ∧ Bd g No s₁.heap C [(x, v)] h' ∧ St (i + 1) h') ?_ (its.length + 1)
          ⟨h₅, _, 0, ys, rfl, Nat.zero_le _, rfl, hst1, inv5, hD₅, B₅, st₅⟩
        rintro k s' ⟨H, tk, j, ys, rfl, hj, rfl, hstJ, hInv, hD, B, hSt⟩
        have ntJ := listIter_nt hstJ.1
        by_cases hlt1 : j < its.length
        · refine W1.item j _ _ _ (by simpa using hlt1) hstJ fun v1 h₆ tk₆ hP1 st₆ hk₆ => ?_
          have hv1 : its[j]? = some v1 := by simpa using hP1
          dsimp only at hk₆
          have k₆ : Kp (fun a => a = J) H h₆ := ⟨fun a o e q => hk₆ a o (fun z => q (one _ _ z)) e, fun a o e c => hk₆ a o (fun q => ntJ a q o e c) e⟩
          replace B := B.step k₆ fun a q => ⟨.inr (by rw [q]; exact hJs), fun z => hCJ (z.symm.trans q)⟩
          replace hD := plain_kp hD k₆ hDJ
          replace hInv := stab1 _ _ _ _ hInv (k₆.mono fun a q => by rw [q]; exact hJs)
          have st₆' : St (i + 1) h₆ := W.frame _ _ _ hSt fun b q o e => k₆.keep b o e fun z => hJfp (z ▸ q)
          refine wpAny_assign_Name (sL B (fun h₇ B₇ hs₇ => ?_) rfl hyl hpp)
          dsimp only at hs₇
          have k₇ : Kp (fun a => a = C) h₆ h₇ := Kp.same hs₇ rfl B.nt
          replace hD := plain_kp hD k₇ hDC
          replace hInv := stab1 _ _ _ _ hInv (k₇.mono fun a q => by rw [q]; exact low C hCn)
          have st₇ : St (i + 1) h₇ := W.frame _ _ _ st₆' fun b q o e => k₇.keep b o e fun z => hCf (z ▸ q)
          have stJ₇ := W1.frame _ _ _ st₆ fun b q o e => k₇.keep b o e fun z => by
            simp only [List.mem_cons, List.not_mem_nil, or_false] at q
            rcases q with q | q
            · exact hCJ (z.symm.trans q)
            · exact hCl (z.symm.trans q)
          refine turn1 j v1 ys h₇ (tk₆ + 1) _ _ (fun z h₈ tk₈ k₈ hInv₈ => ?_) hv1 hInv B₇
          have B₈ := B₇.step0 k₈
          have hD₈ := plain_kp hD k₈ id
          have hlen := len1 _ _ _ hInv
          refine wpAny_list_append_plain (hsz := by rw [List.size_toArray, sizeLine_eq]; omega) hD₈ fun h₉ hD₉ hs₉ => ?_
          dsimp only at hs₉
          have k₉ : Kp (fun a => a = D) h₈ h₉ := Kp.same hs₉ rfl (list_noTup hD₈.isList)
          refine ⟨its.length + 1 - (j + 1), by omega, h₉, tk₈, j + 1, ys ++ [z], rfl, hlt1, rfl, W1.frame _ _ _ (W1.frame _ _ _ stJ₇ fun b q o e => k₈.keep b o e id) fun b q o e => k₉.keep b o e fun z => ?_,
            stab1 _ _ _ _ hInv₈ (k₉.mono fun a q => by rw [q]; exact low D hDn), by simpa using hD₉, (B₈.step k₉ fun a q => ⟨.inr (by rw [q]; exact low D hDn), fun z => hDC (q.symm.trans z)⟩).pop ?_, W.frame _ _ _ (W.frame _ _ _ st₇ fun b q o e => k₈.keep b o e id) fun b q o e => k₉.keep b o e fun z => hDf (z ▸ q)⟩
          · simp only [List.mem_cons, List.not_mem_nil, or_false] at q
            rcases q with q | q
            · exact hDJ (z.symm.trans q)
            · exact hDl (z.symm.trans q)
          · unfold mp at hxy ⊢
            rw [List.lookup_cons] at hxy ⊢
            cases e : y == x
            · rfl
            · rw [e] at hxy; cases hxy
        · obtain rfl : j = its.length := by omega
          refine W1.done _ _ _ (by simpa using hstJ) fun h₆ tk₆ hk₆ => ?_
          dsimp only at hk₆
          have k₆ : Kp (fun a => a = J) H h₆ := ⟨fun a o e q => hk₆ a o (fun z => q (one _ _ z)) e, fun a o e c => hk₆ a o (fun q => ntJ a q o e c) e⟩
          replace B := B.step k₆ fun a q => ⟨.inr (by rw [q]; exact hJs), fun z => hCJ (z.symm.trans q)⟩
          refine ⟨n + 1 - (i + 1), by omega, h₆, tk₆, i + 1, ys, rfl, hlt', rfl, W.frame _ _ _ hSt fun b q o e => k₆.keep b o e fun z => hJfp (z ▸ q), fin1 _ _ (stab1 _ _ _ _ hInv (k₆.mono fun a q => by rw [q]; exact hJs)), plain_kp hD k₆ hDJ, B.weak fun y v e => by cases e⟩
      exact compStart1 (loop1 _ rfl) (W1.self 0 _ _ _ hst1 (loop1 _ rfl))
    · obtain rfl : i = n := by omega
      refine W.done _ _ _ hstH fun h₂ tk₂ hk₂ => ?_
      dsimp only at hk₂
      have k₂ : Kp (fun a => a = I) H h₂ := ⟨fun a o e q => hk₂ a o (fun z => q (one _ _ z)) e, fun a o e c => hk₂ a o (fun q => nt' a q o e c) e⟩
      replace B := B.step k₂ fun a q => ⟨.inr (by rw [q]; exact hIn), fun z => hCI (z.symm.trans q)⟩
      replace hD := plain_kp hD k₂ hDI
      replace hInv := stab _ _ _ _ hInv (k₂.mono fun a q => by rw [q]; exact hIn)
      have hCs := low C hCn
      have hDs := low D hDn
      obtain ⟨oL, hoL⟩ := BL.at_
      have hLC : L ≠ C := fun q => by rw [q, hCs] at hoL; cases hoL
      have hDL : D ≠ L := fun q => by rw [← q, hDs] at hoL; cases hoL
      have hnt := B.nt
      have BL₂ : Bd g S h₀ L l h₂ := BL.step0 B.kp
      show wpAny _ A (assign (.Name z pz) env (.ref D)) _ _ _
      refine wpAny_assign_Name (sL BL₂ (fun h₃ B₃ hs₃ => ?_) hL hz hpz)
      dsimp only at hs₃
      have k₃ : Kp (fun a => a = L) h₂ h₃ := Kp.same hs₃ rfl BL₂.nt
      obtain ⟨mB, hnB, hmB⟩ := B.ns
      refine ⟨_, hnB.at' fun o e => k₃.keep _ o e (fun q => hLC q.symm), fun h₄ hs₄ => ?_⟩
      dsimp only at hs₄
      have hC₃ : ∀ o, h₃.get? C = some o → ¬ IsT o := fun o e q => hnt o ((hs₃.2 C (fun q => hLC q.symm)).symm.trans e) q
      have k₄ : Kp (fun a => a = C) h₃ h₄ := Kp.same hs₄ rfl hC₃
      have B₄ := B₃.step k₄ fun a q => ⟨by rw [q]; exact (BL.new hCs).1, fun e => hLC (e.symm.trans q)⟩
      exact fin D ys h₄ _ hDs (plain_kp (plain_kp hD k₃ hDL) k₄ hDC) (stab _ _ _ _ (stabL _ _ _ hInv k₃) (k₄.mono fun a q => by rw [q]; exact hCs)) B₄
        (((B.kp.of0).trans k₃).then k₄ fun a o e q => by rw [q, hCs] at e; cases e)
  exact codeAny_compStart_list (loop _ rfl) (W.self 0 _ _ _ (W.frame _ _ _ hst2 fun b _ o e => old b o e) (loop _ rfl))
end

mutual
theorem canLay_tm : ∀ {t : Tm}, TmOk t → (tmD t).canLay0 = true
  | .mk op ks, h => by
    rw [TmOk] at h
    rw [tmD, PyData.canLay0, PyData.canLayAll0, canLay_tms h.2.2, PyData.canLay0, ltr_ok _ h.1]; rfl
theorem canLay_tms : ∀ {ts : List Tm}, TmsOk ts → PyData.canLayAll0 (tmDs ts) = true
  | [], _ => by rw [tmDs]; simp [PyData.canLayAll0]
  | t :: ts, h => by
    rw [TmsOk] at h
    rw [tmDs, PyData.canLayAll0, canLay_tm h.1, canLay_tms h.2]; rfl
end
mutual
theorem depth_tm : ∀ (t : Tm), (tmD t).depth ≤ hgt t
  | .mk op ks => by
    have := depth_tms ks
    rw [tmD, PyData.depth, PyData.depthAll, hgt]
    simp only [PyData.depth]
    omega
theorem depth_tms : ∀ (ts : List Tm), PyData.depthAll (tmDs ts) ≤ hgts ts
  | [] => by rw [tmDs, hgts]; simp [PyData.depthAll]
  | t :: ts => by
    have := depth_tm t
    have := depth_tms ts
    rw [tmDs, PyData.depthAll, hgts]
    omega
end
mutual
theorem eqv_tm : ∀ (t : Tm), PyData.eqv (tmD t) (tmD t) = true
  | .mk op ks => by rw [tmD, PyData.eqv, PyData.eqvAll, eqv_tms ks, PyData.eqv]; simp
theorem eqv_tms : ∀ (ts : List Tm), PyData.eqvAll (tmDs ts) (tmDs ts) = true
  | [] => by rw [tmDs]; simp [PyData.eqvAll]
  | t :: ts => by rw [tmDs, PyData.eqvAll, eqv_tm t, eqv_tms ts]; rfl
end
/-- the two tuples that _law_is_kept compares -/
def row4 (nd : Nd) (t : Tm) : PyData := .tuple [nd.data, .str nd.op, .tuple (nd.kids.map .int), tmD t]
def row3 (a b c : Int) : PyData := .tuple [.int a, .int b, .int c]
theorem row4_lay {nd : Nd} {t : Tm} (h : nd.op ∈ ltrs) (ht : TmOk t) : (row4 nd t).canLay0 = true := by
  unfold row4
  rw [PyData.canLay0]
  simp only [PyData.canLayAll0, canLay_nd h, canLay_tm ht, PyData.canLay0, canLay_ints, ltr_ok _ h]
  rfl
theorem row4_depth (nd : Nd) (t : Tm) : (row4 nd t).depth ≤ 2 + hgt t := by
  unfold row4
  have := depth_tm t
  have := depth_nd nd
  simp only [PyData.depth, PyData.depthAll, depth_ints]
  omega
theorem row4_eqv (nd : Nd) (t : Tm) : PyData.eqv (row4 nd t) (row4 nd t) = true := by
  unfold row4
  rw [PyData.eqv]
  simp only [PyData.eqvAll, eqv_nd, eqv_tm, PyData.eqv, eqvAll_ints]
  simp
theorem row3_lay (a b c : Int) : (row3 a b c).canLay0 = true := by simp [row3, PyData.canLay0, PyData.canLayAll0]
theorem row3_depth (a b c : Int) : (row3 a b c).depth = 1 := by simp [row3, PyData.depth, PyData.depthAll]
theorem row3_eqv (a b c : Int) : PyData.eqv (row3 a b c) (row3 a b c) = true := by simp [row3, PyData.eqv, PyData.eqvAll]
theorem neSame {prog : Program} {w : World} {A : Around} {E : Value → Shared → Prop} {s : Shared} {Q : Value → Shared → Prop} {u v : Value} {d : PyData} (hu : Rd s.heap u d) (hv : Rd s.heap v d) (hl : d.canLay0 = true) (he : PyData.eqv d d = true) (hd : A.units + d.depth < cLine) (h : Q (.bool false) s) :
    wpAny (model prog w) A (compareOp .NotEq u v) Q E s :=
  PySem.EqBoolInt.of_rcne (PySem.SeqAt.rcNeAt_reads hu hv hl hl (by rw [Nat.min_self]; exact hd)) (by rw [he]; exact h)
theorem idxOf_nodup {rows : List Nd} (h : rows.Nodup) {i : Nat} {nd : Nd} (e : rows[i]? = some nd) : rows.idxOf nd = i := by
  have hm := List.mem_of_getElem? e
  have h2 := getElem?_of_idxOf hm
  exact (List.getElem?_inj (List.idxOf_lt_length_iff.mpr hm) h).mp (h2.trans e.symm)

theorem listOfTup {prog : Program} {w : World} {A : Around} {E : Value → Shared → Prop} {s : Shared} {Q : Value → Shared → Prop} {t : Addr} {its : List Value} (ht : IsTup s.heap t its.toArray) (hsz : its.length < 100000)
    (h : ∀ D h', Kp0 s.heap h' → s.heap.get? D = none → h'.PlainList D its.toArray → Q (.ref D) { s with heap := h' }) : wpAny (model prog w) A (call (.type "list") [.ref t]) Q E s := by
  obtain ⟨o, ho, hc, n, hd⟩ := ht
  exact call_list_seq t (T := "tuple") (.inr rfl) ho hc hd (fun h' c' k e => h _ h' (.of_stays k) (fresh_size _) ⟨c', e⟩) (by simp [sizeLine_eq]; omega)
theorem abcfg_at {i : Nat} {v : Value} (h : SignAt ("abcfg" : Str) i v) : i < 5 ∧ ∃ op u, v = .str op u ∧ op ∈ ltrs := by
  obtain ⟨c, u, hc, rfl⟩ := h
  have hi : i < ("abcfg" : Str).cps.size := (Array.getElem?_eq_some_iff.mp hc).1
  have hs : ("abcfg" : Str).cps.size = 5 := by decide +kernel
  refine ⟨by omega, _, u, rfl, ?_⟩
  have : i = 0 ∨ i = 1 ∨ i = 2 ∨ i = 3 ∨ i = 4 := by omega
  rcases this with rfl | rfl | rfl | rfl | rfl
  · have : ("abcfg" : Str).cps[0]? = some 97 := by decide +kernel
    rw [this] at hc; cases hc; decide +kernel
  · have : ("abcfg" : Str).cps[1]? = some 98 := by decide +kernel
    rw [this] at hc; cases hc; decide +kernel
  · have : ("abcfg" : Str).cps[2]? = some 99 := by decide +kernel
    rw [this] at hc; cases hc; decide +kernel
  · have : ("abcfg" : Str).cps[3]? = some 102 := by decide +kernel
    rw [this] at hc; cases hc; decide +kernel
  · have : ("abcfg" : Str).cps[4]? = some 103 := by decide +kernel
    rw [this] at hc; cases hc; decide +kernel
/-- a value that reads as a node -/
def IsNd (h : Heap) (v : Value) : Prop := ∃ nd : Nd, Rd h v nd.data ∧ nd.op ∈ ltrs ∧ nd.kids.length ≤ 2
theorem IsNd.kp {S : Addr → Prop} {h h' : Heap} {v : Value} (x : IsNd h v) (k : Kp S h h') : IsNd h' v := let ⟨nd, a, b⟩ := x; ⟨nd, rd_kp a k, b⟩
/-- a value that is a tuple of at most two ints -/
def IsKs (h : Heap) (v : Value) : Prop := ∃ a vs ks, v = .ref a ∧ IsTup h a (List.toArray vs) ∧ IntsAre vs ks ∧ ks.length ≤ 2
theorem IsKs.kp {S : Addr → Prop} {h h' : Heap} {v : Value} (x : IsKs h v) (k : Kp S h h') : IsKs h' v := let ⟨a, vs, ks, e, t, b⟩ := x; ⟨a, vs, ks, e, tup_kp t k, b⟩
section
variable {prog : Program} {w : World} {A : Around} {s : Shared} {g : Heap} {B : BA} {rows gone : List Nd} {rl gl : Addr} {Q E : Value → Shared → Prop}
theorem kept_ok (W : Wd w g) (st : Kp0 g s.heap) (hb : BankAt prog w s.heap B rows) (ok : RowsOk rows) (hsz : rows.length < 64) (hH : ∀ i, i < rows.length → hgt (tm rows i) ≤ 9) (hr : RowsAt s.heap rl rows) (hg : RowsAt s.heap gl gone)
    (hgo : ∀ nd ∈ gone, nd.op ∈ ltrs ∧ nd.kids.length ≤ 2) (hgs : gone.length < 900) (hA : Ao A 14)
    (hQ : ∀ h' tk, Kp0 s.heap h' → Q (.bool true) { s with heap := h', toks := tk }) : wpAny (model prog w) A (call (.ref 220) [.ref B.b, .ref rl, .ref gl] []) Q E s := by
  refine callFC W st (by rfl) (by kernel_rfl) hA.room (binds := [("bank", .ref B.b), ("rows", .ref rl), ("gone", .ref gl)]) (l := [("gone", .ref gl), ("rows", .ref rl), ("bank", .ref B.b)]) (S := No) (BindsTo.of_eq rfl) (by rfl) (by rfl) (fun _ q => q.elim) (fun h₁ L tk₁ B' kp0 hLn hcs => ?_)
  obtain ⟨hc, hcn, hcL⟩ := hcs "last" (L + 1) rfl
  have hBL : ∀ a ∈ B.all, a ≠ L := fun a ha q => by obtain ⟨o, ho⟩ := hb.live a ha; rw [q, hLn] at ho; cases ho
  have hBc : ∀ a ∈ B.all, a ≠ L + 1 := fun a ha q => by obtain ⟨o, ho⟩ := hb.live a ha; rw [q, hcn] at ho; cases ho
  have hrc : rl ≠ L + 1 := fun q => by obtain ⟨o, ho⟩ := hr.at_; rw [q, hcn] at ho; cases ho
  have hgc : gl ≠ L + 1 := fun q => by obtain ⟨o, ho⟩ := hg.at_; rw [q, hcn] at ho; cases ho
  have hrs := hr
  have hgs' := hg
  obtain ⟨vs, hl0, hv0⟩ := id hr
  replace hb := hb.kp0 kp0
  replace hr := hr.kp kp0 id
  replace hg := hg.kp kp0 id
  have hA' := fun env => hA.deeper env
  have hu : A.units + 100 < cLine := by have := hA.units; omega
  walk_at "r"
  refine size_ok W (by exact B'.st) hb (by omega) ((hA' _).le (by omega)) fun u h₂ tk₂ k₂ => ?_
  dsimp only at k₂
  replace B' := B'.step0 k₂
  replace hb := hb.kp0 k₂
  replace hr := hr.kp k₂ id
  replace hg := hg.kp k₂ id
  replace hc := cell_kp hc k₂ id
  have hl := plain_kp (plain_kp hl0 kp0 id) k₂ id
  have hv := rdAll_kp (rdAll_kp hv0 kp0) k₂
  have hlen : vs.length = rows.length := by rw [rdAll_length hv, List.length_map]
  walk_at "r"
  refine lenList (n := (rows.length : Nat)) hl.isList (by simp [hlen]) (by omega) fun t₁ tk₁ => ?_
  walk_at "r"
  refine itF (by simp) ?_
  walk_at "r"
  refine forE (g := g) (S := No) (h₀ := s.heap) (L := L) (l := [("gone", .ref gl), ("rows", .ref rl), ("bank", .ref B.b)]) ?_
  walk_at "r"
  refine enumNew (hA' default).handled (.inr hl.isList) fun e it h₃ St k₃ he₀ hi₀ hEn => ?_
  dsimp only at k₃ he₀ hi₀
  have B₃ := B'.step0 k₃
  have hb₃ := hb.kp0 k₃
  have hr₃ := hr.kp k₃ id
  have hg₃ := hg.kp k₃ id
  have hc₃ := cell_kp hc k₃ id
  have frs : ∀ a, h₂.get? a = none → s.heap.get? a = none ∧ a ≠ L ∧ ¬ No a := fun a q => ⟨(B'.new q).1.elim (fun q => q.elim) id, (B'.new q).2, id⟩
  have hrL : rl ≠ L := fun q => by obtain ⟨o, ho⟩ := hrs.at_; rw [q, hLn] at ho; cases ho
  have hgL : gl ≠ L := fun q => by obtain ⟨o, ho⟩ := hgs'.at_; rw [q, hLn] at ho; cases ho
  refine ⟨e, it, _, _, St, _, fun i h => BankAt prog w h B rows ∧ RowsAt h rl rows ∧ RowsAt h gl gone ∧ (∃ v, h.IsCell (L + 1) v), rfl, hEn, B₃, ?_, ?_, ⟨hb₃, hr₃, hg₃, _, hc₃⟩, ?_, ?_, ?_⟩
  · rintro a (rfl | rfl)
    · exact frs _ he₀
    · exact frs _ hi₀
  · intro b hb; rw [List.mem_singleton] at hb; rw [hb]; exact ⟨id, hrL⟩
  · rintro i h h' ⟨x1, x2, x3, v, x4⟩ k
    have ne : ∀ a, (∃ o, h₂.get? a = some o) → ¬ (a = e ∨ a = it) := fun a ⟨o, ho⟩ q => by
      rcases q with q | q
      · rw [q, he₀] at ho; cases ho
      · rw [q, hi₀] at ho; cases ho
    exact ⟨x1.kp k fun a ha => ne a (hb.live a ha), x2.kp k (ne _ hr.at_), x3.kp k (ne _ hg.at_), v, cell_kp x4 k (ne _ (cell_at hc))⟩
  · rintro i ti x T h₄ tk₄ Qt Et hQt - - hi hP hT B₄ Bp ⟨x1, x2, x3, cv, x4⟩
    obtain ⟨nd, hnd⟩ : ∃ nd, rows[i]? = some nd := ⟨rows[i]'(by omega), List.getElem?_eq_getElem _⟩
    have hil : i < rows.length := (List.getElem?_eq_some_iff.mp hnd).1
    have hx : Rd s.heap x nd.data := by
      obtain ⟨v, hv1, hv2⟩ := RowsAt.get hv0 hnd
      rw [show vs[i]? = some x from hP] at hv1; cases hv1; exact hv2
    have hx₄ : Rd h₄ x nd.data := rd_kp hx B₄.kp
    refine assign2 (hA' default).handled Bp hT (fun h₅ tk₅ B₅ k₅ => ?_)
    dsimp only at k₅
    have hop := ok.op nd (List.mem_of_getElem? hnd)
    have hx₅ := rd_kp hx₄ k₅
    have y1 := x1.kp k₅ hBL
    have y2 := x2.kp k₅ hrL
    have y3 := x3.kp k₅ hgL
    have y4 := cell_kp x4 k₅ hcL
    walk_at "r"
    refine term_ok ok (by omega) 9 i hil (hH i hil) _ _ g _ _ _ _ W (by exact B₅.st) (by exact y2) ((hA' _).le (by omega)) fun v h₆ tk₆ k₆ hv₆ => ?_
    dsimp only at k₆
    have B₆ := B₅.step0 k₆
    walk_at "r"
    intro h₇ B₇ hs₇
    have k₇ : Kp (fun a => a = L) h₆ h₇ := Kp.same hs₇ rfl B₆.nt
    have z1 := (y1.kp0 k₆).kp k₇ hBL
    have z2 := (y2.kp k₆ id).kp k₇ hrL
    have z3 := (y3.kp k₆ id).kp k₇ hgL
    have z4 := cell_kp (cell_kp y4 k₆ id) k₇ hcL
    have hv₇ := rd_kp hv₆ k₇
    have hx₇ := rd_kp (rd_kp hx₅ k₆) k₇
    obtain ⟨ax, tx, kx, rfl, htx, hkx⟩ := rd_nd hx₇
    have hkl : kx.length = nd.kids.length := hkx.length
    walk_at "r"
    refine node_ok W (by exact B₇.st) z1 hnd (by omega) ((hA' _).le (by omega)) fun u1 h₈ tk₈ k₈ hu1 => ?_
    dsimp only at k₈
    have B₈ := B₇.step0 k₈
    have z1' := z1.kp0 k₈
    walk_at "r"
    refine op_ok W (by exact B₈.st) z1' hnd (by omega) ((hA' _).le (by omega)) fun u2 h₉ tk₉ k₉ => ?_
    dsimp only at k₉
    have B₉ := B₈.step0 k₉
    have z1'' := z1'.kp0 k₉
    walk_at "r"
    refine kids_ok W (by exact B₉.st) z1'' hnd hop.2 (by omega) ((hA' _).le (by omega)) fun a3 v3 h₁₀ tk₁₀ k₁₀ ht3 hi3 => ?_
    dsimp only at k₁₀
    have B₁₀ := B₉.step0 k₁₀
    have w1 := z1''.kp0 k₁₀
    walk_at "r"
    refine bterm_ok W (by exact B₁₀.st) w1 ok hil hsz ((hA' _).le (by omega)) fun v4 h₁₁ tk₁₁ k₁₁ hv4 => ?_
    dsimp only at k₁₁
    have B₁₁ := B₁₀.step0 k₁₁
    walk_at "r"
    refine tupleNew (fun T1 h₁₂ k₁₂ hT1 => ?_) (by simp [sizeLine_eq])
    dsimp only at k₁₂
    have B₁₂ := B₁₁.step0 k₁₂
    have k712 : Kp0 h₇ h₁₂ := k₈.trans (k₉.trans (k₁₀.trans (k₁₁.trans k₁₂)))
    have htx₁₂ := tup_kp htx k712
    have R1 : Rd h₁₂ (.ref T1) (row4 nd (tm rows i)) := rd_tup hT1 (rdCons (rd_kp hu1 (k₉.trans (k₁₀.trans (k₁₁.trans k₁₂)))) (rdCons (.str _ _) (rdCons (rd_tup (tup_kp ht3 (k₁₁.trans k₁₂)) (ints_rdAll hi3)) (rdCons (rd_kp hv4 k₁₂) .nil))))
    walk_at "r"
    refine tupItem (j := 0) htx₁₂ rfl (by decide) rfl ?_
    walk_at "r"
    refine ⟨ax, _, rfl, htx₁₂, Nat.le_refl _, by simp, by simp [sizeLine_eq]; omega, fun d₁ h₁₃ tk₁₃ k₁₃ htd => ?_⟩
    dsimp only at k₁₃
    have B₁₃ := B₁₂.step0 k₁₃
    walk_at "r"
    refine tupleNew (fun T2 h₁₄ k₁₄ hT2 => ?_) (by simp [sizeLine_eq])
    dsimp only at k₁₄
    have B₁₄ := B₁₃.step0 k₁₄
    have k714 : Kp0 h₇ h₁₄ := k712.trans (k₁₃.trans k₁₄)
    have R2 : Rd h₁₄ (.ref T2) (row4 nd (tm rows i)) := rd_tup hT2 (rdCons (rd_kp hx₇ k714) (rdCons (.str _ _) (rdCons (rd_tup (tup_kp htd k₁₄) (ints_rdAll (by simpa using hkx))) (rdCons (rd_kp hv₇ k714) .nil))))
    refine neSame (rd_kp (rd_kp R1 k₁₃) k₁₄) R2 (row4_lay hop.1 (tm_ok ok i hil)) (row4_eqv _ _) (by have := row4_depth nd (tm rows i); have := hH i hil; show A.units + 3 + _ < _; omega) ?_
    walk_at "r"
    refine itF rfl ?_
    have q1 := z1.kp0 k714
    have htx₁₄ := tup_kp htx k714
    walk_at "n"
    walk_at "r"
    refine weight_ok W (by exact B₁₄.st) q1 hil (by omega) ((hA' _).le (by omega)) fun u5 h₁₅ tk₁₅ k₁₅ => ?_
    dsimp only at k₁₅
    have B₁₅ := B₁₄.step0 k₁₅
    have q2 := q1.kp0 k₁₅
    walk_at "r"
    refine depth_ok W (by exact B₁₅.st) q2 hil (by omega) ((hA' _).le (by omega)) fun u6 h₁₆ tk₁₆ k₁₆ => ?_
    dsimp only at k₁₆
    have B₁₆ := B₁₅.step0 k₁₆
    have q3 := q2.kp0 k₁₆
    have htx₁₆ := tup_kp (tup_kp htx₁₄ k₁₅) k₁₆
    walk_at "r"
    refine tupItem (j := 0) htx₁₆ rfl (by decide) rfl ?_
    walk_at "r"
    refine ⟨ax, _, rfl, htx₁₆, Nat.le_refl _, by simp, by simp [sizeLine_eq]; omega, fun d₂ h₁₇ tk₁₇ k₁₇ htd₂ => ?_⟩
    dsimp only at k₁₇
    have B₁₇ := B₁₆.step0 k₁₇
    have q4 := q3.kp0 k₁₇
    walk_at "r"
    refine seek_ok (ks := nd.kids) W (by exact B₁₇.st) q4 (by exact ⟨d₂, _, rfl, by simpa using hkx, .inl htd₂⟩) (by omega) ((hA' _).le (by omega)) fun u7 h₁₈ tk₁₈ k₁₈ => ?_
    dsimp only at k₁₈
    have B₁₈ := B₁₇.step0 k₁₈
    walk_at "r"
    refine tupleNew (fun T3 h₁₉ k₁₉ hT3 => ?_) (by simp [sizeLine_eq])
    dsimp only at k₁₉
    have B₁₉ := B₁₈.step0 k₁₉
    have k7 : Kp0 h₇ h₁₉ := k714.trans (k₁₅.trans (k₁₆.trans (k₁₇.trans (k₁₈.trans k₁₉))))
    walk_at "r"
    refine count_ok 9 (tm rows i) (hH i hil) (tm_ok ok i hil) _ _ g _ _ _ W (by exact B₁₉.st) (by exact rd_kp hv₇ k7) ((hA' _).le (by omega)) fun u8 h₂₀ tk₂₀ k₂₀ => ?_
    dsimp only at k₂₀
    have B₂₀ := B₁₉.step0 k₂₀
    walk_at "r"
    refine height_ok 9 (tm rows i) (hH i hil) (tm_ok ok i hil) _ _ g _ _ _ W (by exact B₂₀.st) (by exact rd_kp (rd_kp hv₇ k7) k₂₀) ((hA' _).le (by omega)) fun u9 h₂₁ tk₂₁ k₂₁ => ?_
    dsimp only at k₂₁
    have B₂₁ := B₂₀.step0 k₂₁
    walk_at "r"
    refine tupleNew (fun T4 h₂₂ k₂₂ hT4 => ?_) (by simp [sizeLine_eq])
    dsimp only at k₂₂
    have B₂₂ := B₂₁.step0 k₂₂
    have hidx : (if (⟨nd.op, nd.kids⟩ : Nd) ∈ rows then ((rows.idxOf (⟨nd.op, nd.kids⟩ : Nd) : Nat) : Int) else -1) = (i : Nat) := by
      rw [if_pos (List.mem_of_getElem? hnd), idxOf_nodup ok.nodup hnd]
    have R3 : Rd h₂₂ (.ref T3) (row3 (cnt (tm rows i)) (hgt (tm rows i)) (i : Nat)) := by
      have := rd_tup (tup_kp (tup_kp (tup_kp hT3 k₂₀) k₂₁) k₂₂) (rdCons (.int _ _) (rdCons (.int _ _) (rdCons (.int _ _) .nil)))
      rw [hidx] at this
      exact this
    have R4 : Rd h₂₂ (.ref T4) (row3 (cnt (tm rows i)) (hgt (tm rows i)) (i : Nat)) := rd_tup hT4 (rdCons (.int _ _) (rdCons (.int _ _) (rdCons (.int _ _) .nil)))
    refine neSame R3 R4 (row3_lay _ _ _) (row3_eqv _ _ _) (by rw [row3_depth]; show A.units + 3 + _ < _; omega) ?_
    walk_at "r"
    refine itF rfl ?_
    walk_at "n"
    walk_at "r"
    have kall : Kp0 h₇ h₂₂ := k7.trans (k₂₀.trans (k₂₁.trans k₂₂))
    walk_at "q"
    exact hQt _ _ (((B₂₂.pop rfl).pop rfl).pop rfl) ⟨z1.kp0 kall, z2.kp kall id, z3.kp kall id, _, cell_kp z4 kall id⟩
  · rintro h₄ tk₄ B₄ ⟨x1, x2, x3, cv, x4⟩
    walk_at "n"
    walk_at "r"
    obtain ⟨vs₄, hl₄, hv₄⟩ := id x2
    have hlen₄ : vs₄.length = rows.length := by rw [rdAll_length hv₄, List.length_map]
    refine lenList (n := (rows.length : Nat)) hl₄.isList (by simp [hlen₄]) (by omega) fun t₂ tk₂ => ?_
    have B₄' := B₄.grow (S' := fun a => a = L + 1) (fun _ q => q.elim) fun a q => by
      rw [q]
      cases z : g.get? (L + 1) with
      | none => rfl
      | some o => have := st.stays _ _ z; rw [hcn] at this; cases this
    walk_at "r"
    refine wpAny_storeName_cell (c := L + 1) rfl rfl rfl x4 (fun h₅ hc₅ hs₅ => ?_)
    dsimp only at hs₅
    have k₅ : Kp (fun a => a = L + 1) h₄ h₅ := Kp.same hs₅ rfl (cell_noTup x4)
    have B₅ := B₄'.turn hs₅ (.inl rfl) hcL (cell_noTup x4)
    have y1 := x1.kp k₅ hBc
    have y2 := x2.kp k₅ hrc
    have y3 := x3.kp k₅ hgc
    walk_at "n"
    walk_at "s"
    refine lc2A (g := g) (cl := [("last", L + 1)]) (h₀ := s.heap) (S := fun a => a = L + 1) (L := L) (l := [("gone", .ref gl), ("rows", .ref rl), ("bank", .ref B.b)]) (by rfl) (by rfl) (by rfl) (by rfl) rfl (by decide) rfl (by decide) rfl rfl (by decide +kernel) ?_
    walk_at "r"
    generalize ((rows.length : Nat) : Int) - 1 = la at hc₅
    obtain ⟨tl, hc₅⟩ : ∃ tl, h₅.IsCell (L + 1) (some (.int la tl)) := ⟨_, hc₅⟩
    refine ⟨_, _, [], fun i ys h => ys.length ≤ 7 * i ∧ i ≤ 5 ∧ (∀ v ∈ ys, IsNd h v) ∧ h.IsCell (L + 1) (some (.int la tl)), Src.str (hA' _).handled (by decide +kernel) (by decide +kernel), B₅.st, ⟨by simp, by omega, by simp, hc₅⟩, ?_, ?_, B₅, ?_, ?_⟩
    · rintro i ys h h' ⟨e1, e2, e3, e4⟩ k
      exact ⟨e1, e2, fun v hv => (e3 v hv).kp k, cell_kp e4 k fun q => by obtain ⟨o, ho⟩ := cell_at hc₅; rw [show _ = none from q] at ho; cases ho⟩
    · rintro C i v ys h₆ tk₆ Qb E' hQb hi hP ⟨e1, e2, e3, e4⟩ B₆ hC
      obtain ⟨hi5, op, uo, rfl, hop⟩ := abcfg_at hP
      walk_at "r"
      refine tupleNew (fun a₁ g₁ c₁ t₁ => ?_) (by simp [sizeLine_eq])
      dsimp only at c₁
      have e4₁ := cell_kp e4 c₁ id
      have C₁ := B₆.step0 c₁
      walk_at "r"
      refine tupleNew (fun a₂ g₂ c₂ t₂ => ?_) (by simp [sizeLine_eq])
      dsimp only at c₂
      have e4₂ := cell_kp e4₁ c₂ id
      have C₂ := C₁.step0 c₂
      walk_at "r"
      refine tupleNew (fun a₃ g₃ c₃ t₃ => ?_) (by simp [sizeLine_eq])
      dsimp only at c₃
      have e4₃ := cell_kp e4₂ c₃ id
      have C₃ := C₂.step0 c₃
      walk_at "r"
      refine tupleNew (fun a₄ g₄ c₄ t₄ => ?_) (by simp [sizeLine_eq])
      dsimp only at c₄
      have e4₄ := cell_kp e4₃ c₄ id
      have C₄ := C₃.step0 c₄
      walk_at "r"
      refine tupleNew (fun a₅ g₅ c₅ t₅ => ?_) (by simp [sizeLine_eq])
      dsimp only at c₅
      have e4₅ := cell_kp e4₄ c₅ id
      have C₅ := C₄.step0 c₅
      walk_at "r"
      refine tupleNew (fun a₆ g₆ c₆ t₆ => ?_) (by simp [sizeLine_eq])
      dsimp only at c₆
      have e4₆ := cell_kp e4₅ c₆ id
      have C₆ := C₅.step0 c₆
      walk_at "r"
      refine tupleNew (fun a₇ g₇ c₇ t₇ => ?_) (by simp [sizeLine_eq])
      dsimp only at c₇
      have e4₇ := cell_kp e4₆ c₇ id
      have C₇ := C₆.step0 c₇
      walk_at "r"
      refine listNew (fun ll g₈ c₈ hlln hll => ?_) (by simp [sizeLine_eq])
      dsimp only at c₈ hlln
      have e4₈ := cell_kp e4₇ c₈ id
      have cc : Kp0 h₆ g₈ := c₁.trans (c₂.trans (c₃.trans (c₄.trans (c₅.trans (c₆.trans (c₇.trans c₈))))))
      have hlln' : h₆.get? ll = none := by
        cases q : h₆.get? ll with
        | none => rfl
        | some o => have := (c₁.trans (c₂.trans (c₃.trans (c₄.trans (c₅.trans (c₆.trans c₇)))))).stays _ _ q; rw [hlln] at this; cases this
      walk_at "q"
      refine ⟨g₈, _, ll, _, fun j zs h => zs.length ≤ 7 * i + j ∧ j ≤ 7 ∧ (∀ v ∈ zs, IsNd h v) ∧ h.IsCell (L + 1) (some (.int la tl)) ∧ ∀ v ∈ [Value.ref a₁, .ref a₂, .ref a₃, .ref a₄, .ref a₅, .ref a₆, .ref a₇], IsKs h v, rfl, cc, rfl, (hA' _).handled, hll.isList, by simp, hlln', ⟨by omega, by omega, fun v hv => (e3 v hv).kp cc, e4₈, ?_⟩, ?_, ?_, ?_, ?_⟩
      · intro v hv
        simp only [List.mem_cons, List.not_mem_nil, or_false] at hv
        rcases hv with rfl | rfl | rfl | rfl | rfl | rfl | rfl
        · exact ⟨a₁, _, [], rfl, (tup_kp t₁ (c₂.trans (c₃.trans (c₄.trans (c₅.trans (c₆.trans (c₇.trans c₈))))))), .nil, by simp⟩
        · exact ⟨a₂, _, _, rfl, (tup_kp t₂ (c₃.trans (c₄.trans (c₅.trans (c₆.trans (c₇.trans c₈)))))), .cons _ _ .nil, by simp⟩
        · exact ⟨a₃, _, _, rfl, (tup_kp t₃ (c₄.trans (c₅.trans (c₆.trans (c₇.trans c₈))))), .cons _ _ .nil, by simp⟩
        · exact ⟨a₄, _, _, rfl, (tup_kp t₄ (c₅.trans (c₆.trans (c₇.trans c₈)))), .cons _ _ .nil, by simp⟩
        · exact ⟨a₅, _, _, rfl, (tup_kp t₅ (c₆.trans (c₇.trans c₈))), .cons _ _ (.cons _ _ .nil), by simp⟩
        · exact ⟨a₆, _, _, rfl, (tup_kp t₆ (c₇.trans c₈)), .cons _ _ (.cons _ _ .nil), by simp⟩
        · exact ⟨a₇, _, _, rfl, (tup_kp t₇ c₈), .cons _ _ (.cons _ _ .nil), by simp⟩
      · rintro j zs h h' ⟨d1, d2, d3, d4, d5⟩ k
        exact ⟨d1, d2, fun v hv => (d3 v hv).kp k, cell_kp d4 k fun q => (by obtain ⟨o, ho⟩ := cell_at hc₅; rw [show _ = none from q] at ho; cases ho), fun v hv => (d5 v hv).kp k⟩
      · rintro j zs h ⟨d1, d2, d3, d4, d5⟩; omega
      · rintro j v1 zs h₇ tk₇ Qc E'' hQc hj ⟨d1, d2, d3, d4, d5⟩ B₇
        obtain ⟨av, kvs, ks, rfl, htv, hik, hkl⟩ := d5 _ (List.mem_of_getElem? hj)
        have hj7 : j < 7 := by have := (List.getElem?_eq_some_iff.mp hj).1; simpa using this
        have hkl' := hik.length
        walk_at "r"
        refine tupleNew (fun b₁ h₈ k₈ u₁ => ?_) (by simp [sizeLine_eq])
        dsimp only at k₈
        have B₈ := B₇.step0 k₈
        walk_at "r"
        refine addTup u₁ (tup_kp htv k₈) (by simp) (by simp [sizeLine_eq]; omega) fun b₂ h₉ k₉ u₂ => ?_
        dsimp only at k₉
        have kk := k₈.trans k₉
        walk_at "q"
        refine hQc _ _ _ kk ⟨by simp; omega, by omega, fun v hv => ?_, cell_kp d4 kk id, fun v hv => (d5 v hv).kp kk⟩
        rcases List.mem_append.mp hv with q | q
        · exact (d3 v q).kp kk
        · rw [List.mem_singleton] at q; subst q
          exact ⟨⟨op, ks⟩, nd_rd (n := ⟨op, ks⟩) u₂ (by simpa using hik), hop, hkl⟩
      · rintro zs h ⟨d1, d2, d3, d4, d5⟩
        refine ⟨?_, by omega, d3, d4⟩
        simp only [List.length_cons, List.length_nil] at d1; omega
    · rintro ys h h' ⟨e1, e2, e3, e4⟩ k
      exact ⟨e1, e2, fun v hv => (e3 v hv).kp k, cell_kp e4 k hcL⟩
    · rintro D ys h₆ tk₆ hDn hlD ⟨e1, e2, e3, e4⟩ B₆ k₆
      dsimp only at B₆ k₆ hDn
      have e1 : ys.length ≤ 35 := by omega
      have v1 := y1.kp k₆ hBL
      have v2 := y2.kp k₆ hrL
      have v3 := y3.kp k₆ hgL
      walk_at "n"
      walk_at "s"
      refine forS (g := g) (S := fun a => a = L + 1) (h₀ := s.heap) (L := L) (l := [("asked", .ref D), ("gone", .ref gl), ("rows", .ref rl), ("bank", .ref B.b)]) ?_
      walk_at "r"
      obtain ⟨gvs, hgl, hgv⟩ := id v3
      have hglen : gvs.length = gone.length := by rw [rdAll_length hgv, List.length_map]
      refine addList hlD.isList hgl.isList (by rw [sizeLine_eq]; omega) (fun y h₇ k₇ hyn hly => ?_)
      dsimp only at k₇ hyn
      have B₇ := B₆.step0 k₇
      have hall : ∀ v ∈ ys ++ gvs, IsNd h₇ v := fun v hv => by
        rcases List.mem_append.mp hv with q | q
        · exact (e3 v q).kp k₇
        · obtain ⟨i, hi⟩ := List.mem_iff_getElem?.mp q
          obtain ⟨d, hd, hr⟩ := rdAll_at hgv i v hi
          rw [List.getElem?_map] at hd
          obtain ⟨nd, hnd, rfl⟩ := Option.map_eq_some_iff.mp hd
          exact ⟨nd, rd_kp hr k₇, hgo nd (List.mem_of_getElem? hnd)⟩
      have c1 := v1.kp0 k₇
      have c2 := v2.kp k₇ id
      have hc₇ := cell_kp e4 k₇ id
      have hyL : y ≠ L + 1 ∧ y ≠ L := by
        refine ⟨fun q => ?_, (B₆.new hyn).2⟩
        obtain ⟨o, ho⟩ := cell_at e4; rw [← q, hyn] at ho; cases ho
      refine ⟨_, _, [y], fun i h => BankAt prog w h B rows ∧ RowsAt h rl rows ∧ ∀ v ∈ ys ++ gvs, IsNd h v, Src.list (hA' _).handled hly.isList (by simp [sizeLine_eq]; omega), B₇, ?_, ?_, ⟨c1, c2, hall⟩, ?_, ?_, ?_⟩
      · rintro a rfl; exact cell_at hc₇
      · intro b hb; rw [List.mem_singleton] at hb; rw [hb]; exact hyL
      · rintro i h h' I hI ⟨x1, x2, x3⟩ k
        exact ⟨x1.kp k fun a ha q => (by obtain ⟨o, ho⟩ := c1.live a ha; rw [q, show _ = none from hI] at ho; cases ho), x2.kp k fun q => (by obtain ⟨o, ho⟩ := c2.at_; rw [q, show _ = none from hI] at ho; cases ho), fun v hv => (x3 v hv).kp k⟩
      · rintro i x h₈ tk₈ Qt Et hQt - - hi hP B₈ Bp ⟨x1, x2, x3⟩
        have hxm : x ∈ ys ++ gvs := List.mem_of_getElem? (i := i) (by simpa using hP)
        obtain ⟨nd, hx, hop, hkl⟩ := x3 x hxm
        refine wpAny_assign_Name (sL Bp (fun h₉ B₉ hs₉ => ?_))
        have k₉ : Kp (fun a => a = L) h₈ h₉ := Kp.same hs₉ rfl B₈.nt
        have d1 := x1.kp k₉ hBL
        have d2 := x2.kp k₉ hrL
        have hx₉ := rd_kp hx k₉
        obtain ⟨ax, tx, kx, rfl, htx, hkx⟩ := rd_nd hx₉
        have hkl' := hkx.length
        walk_at "r"
        refine tupItem (j := 0) htx rfl (by decide) rfl ?_
        walk_at "r"
        refine ⟨ax, _, rfl, htx, Nat.le_refl _, by simp, by simp [sizeLine_eq]; omega, fun d₁ g₁ tg₁ kg₁ htd => ?_⟩
        dsimp only at kg₁
        have C₁ := B₉.step0 kg₁
        walk_at "r"
        refine listOfTup htd (by simp; omega) fun d₂ g₂ kg₂ hd₂n hld => ?_
        dsimp only at kg₂
        have C₂ := C₁.step0 kg₂
        have d1' := (d1.kp0 kg₁).kp0 kg₂
        walk_at "r"
        refine seek_ok (ks := nd.kids) W (by exact C₂.st) d1' (by exact ⟨d₂, _, rfl, by simpa using hkx, .inr hld.isList⟩) (by omega) ((hA' _).le (by omega)) fun u1 g₃ tg₃ kg₃ => ?_
        dsimp only at kg₃
        have C₃ := C₂.step0 kg₃
        have kg := kg₁.trans (kg₂.trans kg₃)
        have d2' := d2.kp kg id
        have hx' := rd_kp hx₉ kg
        have ebody : ∀ (m : Int) (g₄ : Heap), Kp0 h₉ g₄ → ((if (⟨nd.op, nd.kids⟩ : Nd) ∈ rows then ((rows.idxOf (⟨nd.op, nd.kids⟩ : Nd) : Nat) : Int) else -1) != m) = false → True := fun _ _ _ _ => trivial
        refine IfExp_ ?_
        walk_at "r"
        refine inRows d2' (fun nd q => (ok.op nd q).1) hx' hop (by show A.units + 3 + 3 < _; omega) ?_
        walk_at "s"
        by_cases hm : nd ∈ rows
        · refine itT (by simp [hm]) ?_
          walk_at "r"
          obtain ⟨rvs, hrp, hrv⟩ := id d2'
          refine gmList (by exact hrp) PySem.F.slot_list_index PySem.F.type_list_index ?_
          walk_at "r"
          refine indexRows d2' (fun nd q => (ok.op nd q).1) hx' hm (by omega) (by show A.units + 3 + 3 < _; omega) fun u tk => ?_
          walk_at "r"
          refine itF (by simp [hm]) ?_
          walk_at "r"
          walk_at "q"
          exact hQt _ _ (C₃.pop rfl) ⟨d1'.kp0 kg₃, d2', fun v hv => ((x3 v hv).kp k₉).kp kg⟩
        · refine itF (by simp [hm]) ?_
          walk_at "r"
          refine itF (by simp [hm]) ?_
          walk_at "r"
          walk_at "q"
          exact hQt _ _ (C₃.pop rfl) ⟨d1'.kp0 kg₃, d2', fun v hv => ((x3 v hv).kp k₉).kp kg⟩
      · rintro h₈ tk₈ B₈ ⟨x1, x2, x3⟩
        walk_at "n"
        walk_at "r"
        walk_at "q"
        exact hQ _ _ (B₈.kp0 fun a q => by rw [q]; exact hcn)
end

section
variable {prog : Program} {w : World} {A : Around} {R : Result → Shared → Prop} {s : Shared} {g : Heap}
  {name qual : Str} {params : Arguments} {body : List Stmt} {scope : Scope} {dV kV doc pm cdv ct oc : Value} {an od : Option Addr} {osl : Array (Option Value)} {f : Addr} {pos : List Value} {kw : List (Str × Value)} {binds : List (Str × Value)}
/-- a def without cells is run; its frame stands at the heap's end -/
theorem codeF (W : Wd w g) (st : Kp0 g s.heap) (ho : (KF w).lookup f = some ⟨oc, od, .func (fnOf name qual params body scope dV kV doc pm an cdv ct), osl⟩) (hcd : codeIn (KF w) cdv qual = true)
    (hroom : A.depth < recursionLimit) (hbind : BindsTo s (fnOf name qual params body scope dV kV doc pm an cdv ct) ⟨pos, kw⟩ binds) (hloc : ∀ y ∈ binds, scope.names.lookup y.1 = some .local)
    (h : ∀ h₁ m, h₁.Ns s.heap.objs.size m → (∀ y v, mp binds.reverse y = some v → m y = some v) → (∀ b o, s.heap.get? b = some o → h₁.get? b = some o) →
      wpAny (model prog w) (A.deeper (envOf qual scope s.heap.objs.size f cdv)) (execs body (envOf qual scope s.heap.objs.size f cdv)) (fun fl s' => R (.ok (.ret (match fl with | .ret v => v | _ => .none))) s') (fun e s' => wpAny (model prog w) (A.deeper (envOf qual scope s.heap.objs.size f cdv)) (leaving (envOf qual scope s.heap.objs.size f cdv) e) (fun _ s'' => R (.error e) s'') (fun e' s'' => R (.error e') s'') s') { s with heap := h₁, toks := s.toks + binds.length })
    (hcell : ∀ x ∈ scope.names, x.2 ≠ .cell) (hco : scope.isCoroutine = false := by rfl) (hgen : scope.isGenerator = false := by rfl) (hk : scope.kind = .function := by rfl) :
    codeAny (model prog w) A (.call (.ref f) ⟨pos, kw⟩) R s := by
  obtain ⟨mg, mb, T⟩ := W.T
  have this : ∀ h₀, Heap.SameBut s.heap.objs.size (s.heap.push { cls := .type "frame", data := .dict #[] }) h₀ → ∀ b o, s.heap.get? b = some o → h₀.get? b = some o := fun h₀ hsb₀ b o e =>
    hsb₀.extBut b o (Nat.ne_of_lt (Heap.lt_size e)) (Heap.get?_push_of_some _ e)
  refine codeAny_call_function (fd := fnOf name qual params body scope dV kV doc pm an cdv ct) hroom ((W.X.keeps st.stays) _ _ ho) rfl hco hgen rfl (codeRec_of (W.X.keeps st.stays) hcd) (hbind _ _ _ _ ?_)
  refine wpAny_newFunctionEnv hcell hloc (fun h₀ hns₀ hsb₀ => ⟨(T.nolimit.keeps st.stays).fresh _ hsb₀, codeAny_func (h h₀ _ hns₀ (fun _ _ e => e) (this h₀ hsb₀))⟩) hk
end
abbrev lob (n : Nat) : Obj := { cls := .type "list", data := .seq (List.toArray ([] : List Value)) n }
abbrev dob : Obj := { cls := .type "dict", data := .dict #[] }
theorem bk_sa (w : World) : findIn (KF w) (.ref 174) "__setattr__" = some (some (.builtin "object.__setattr__")) := by kernel_rfl
theorem bk_po (w : World) : plainOver (KF w) 174 = true := by kernel_rfl
theorem bk_hd (w : World) : hasDictIn (KF w) 174 = true := by kernel_rfl
theorem initSet {prog : Program} {w : World} {A : Around} {E : Value → Shared → Prop} {s : Shared} {Q : Unit → Shared → Prop} {hh : Heap} {L x dx : Addr} {m : Str → Option Value} {es : List DictEntry} {n : Nat} {name : Str} {v : Value} {rest : List (Addr × Obj)} (es' : Tok → List DictEntry) (n' : Nat)
    (X : (KF w).In hh) (F : Fr hh L s.heap m) (N : News hh L s.heap ((dx, dictOf es n) :: (x, instObj 174 dx) :: rest)) (hne : ∀ p ∈ (x, instObj 174 dx) :: rest, p.1 ≠ dx) (ht : takerIn (KF w) 174 name = some none) (hl : (getL name es).isSome = true)
    (e : ∀ t, (putL name (PyData.keyHash w.params name) (.str name t) v es, putN name es n) = (es' t, n')) (hz : ∀ t, (es' t).length ≤ 1000)
    (h : ∀ h' t, Fr hh L h' m → News hh L h' ((dx, dictOf (es' t) n') :: (x, instObj 174 dx) :: rest) → Q () { s with heap := h', toks := s.toks + 2 }) : wpAny (model prog w) A (setAttr (.ref x) name v) Q E s :=
  set_dict F X N (InstAt.of_news (sl := #[]) N (List.mem_cons_of_mem _ (List.mem_cons_self ..)) (List.mem_cons_self ..)) rfl (bk_sa w) (bk_po w) ht (bk_hd w) hl (e _) (.head hne) (hz _) fun h' => h h' _
section
variable {prog : Program} {w : World} {A : Around} {s : Shared} {g : Heap} {Q E : Value → Shared → Prop}
theorem bank_new (W : Wd w g) (st : Kp0 g s.heap) (hA : Ao A 1)
    (hQ : ∀ B h' tk, Kp0 s.heap h' → (∀ a ∈ B.all, s.heap.get? a = none) → BankAt prog w h' B [] → Q (.ref B.b) { s with heap := h', toks := tk }) : wpAny (model prog w) A (call (.ref 174) [] []) Q E s := by
  have X := W.X.keeps st.stays
  have hsm := W.gsz st
  obtain ⟨hh, gg, dd, tt, os⟩ := s
  dsimp only at st X hQ hsm
  refine wpAny_call (make_core (C := 174) (init := .ref 86) (makes_of X (by kernel_rfl)) (looks_findIn X (by kernel_rfl)) (fun self => bind_fn X self (by kernel_rfl)) (.inl (by rfl)) ?_)
  have kp2 : Kp0 hh ((hh.push emptyDict).push (instObj 174 hh.objs.size)) := (Kp.push _).trans (.push _)
  have hz : ((hh.push emptyDict).push (instObj 174 hh.objs.size)).objs.size = hh.objs.size + 2 := by rw [Heap.size_push, Heap.size_push]
  have hD0 : ((hh.push emptyDict).push (instObj 174 hh.objs.size)).get? hh.objs.size = some emptyDict := Heap.get?_push_of_some _ (Heap.get?_push_size _ rfl)
  have hX0 : ((hh.push emptyDict).push (instObj 174 hh.objs.size)).get? (hh.objs.size + 1) = some (instObj 174 hh.objs.size) := by
    have := Heap.get?_push_size (hh.push emptyDict) (o := instObj 174 hh.objs.size) rfl
    rw [Heap.size_push] at this; exact this
  have n0 : hh.get? hh.objs.size = none := fresh_size _
  have n1 : hh.get? (hh.objs.size + 1) = none := Heap.get?_none_of_le (Nat.le_succ _)
  generalize hH : (hh.push emptyDict).push (instObj 174 hh.objs.size) = H at *
  refine codeF (s := ⟨H, gg, dd, tt, os⟩) W (st.trans kp2) (by rfl) (by kernel_rfl) (by have := hA.depth; show A.depth + 1 < _; omega) (binds := [("self", .ref (hh.objs.size + 1))]) (BindsTo.of_eq rfl) (locs rfl) (fun h₁ m hns hm hk => ?_) (by decide)
  have F : Fr hh H.objs.size h₁ m := ⟨hns, fun b o e => hk _ _ (kp2.stays _ _ e), by rw [hz]; omega⟩
  have N : News hh H.objs.size h₁ [(hh.objs.size, dictOf [] 0), (hh.objs.size + 1, instObj 174 hh.objs.size)] := by
    intro p hp
    simp only [List.mem_cons, List.not_mem_nil, or_false] at hp
    rcases hp with rfl | rfl
    · exact ⟨hk _ _ hD0, by rw [hz]; show hh.objs.size ≠ _; omega, n0⟩
    · exact ⟨hk _ _ hX0, by rw [hz]; show hh.objs.size + 1 ≠ _; omega, n1⟩
  have hself : m ("self" : Str) = some (.ref (hh.objs.size + 1)) := hm _ _ rfl
  have hxd : hh.objs.size + 1 ≠ hh.objs.size := by omega
  have hdx2 : hh.objs.size < H.objs.size := by rw [hz]; omega
  generalize hh.objs.size + 1 = x at *
  generalize hh.objs.size = dx at *
  generalize H.objs.size = L at *
  dsimp only
  clear hns hm hk hD0 hX0 kp2 hz hH
  -- a new object is not among the old ones
  have new : ∀ {h h' : Heap} {a : Addr} {o : Obj} {nw : List (Addr × Obj)}, Fr hh L h m → News hh L h nw → Kp0 h h' → h.get? a = none → h'.get? a = some o → Fr hh L h' m ∧ (∀ p ∈ nw, h'.get? p.1 = some p.2 ∧ p.1 ≠ L ∧ hh.get? p.1 = none) ∧ (h'.get? a = some o ∧ a ≠ L ∧ hh.get? a = none) ∧ ∀ p ∈ nw, p.1 ≠ a := by
    intro h h' a o nw F N k hn ho
    refine ⟨F.keeps k.stays, fun p hp => ⟨k.stays _ _ (N p hp).1, (N p hp).2⟩, ⟨ho, fun q => ?_, ?_⟩, fun p hp q => by have := (N p hp).1; rw [q, hn] at this; cases this⟩
    · obtain ⟨oL, _, _, hL, _⟩ := F.ns
      rw [q, hL] at hn; cases hn
    · cases q : hh.get? a with
      | none => rfl
      | some o' => have := F.keep _ _ q; rw [hn] at this; cases this
  refine wpAny_execs_cons ?_
  refine plainObj_wpAny_Assign_Attribute (PyProof.Rows.List_ (wpAny_items_nil ?_))
  refine listNew (fun ln h₂ k₂ hln hl₂ => ?_) (by simp [sizeLine_eq])
  dsimp only at k₂ hln
  obtain ⟨nl, el⟩ := hl₂
  obtain ⟨F₂, N₂, a₂, d₂⟩ := new F N k₂ hln el
  refine wpAny_Name (wpAny_loadName_local rfl rfl F₂.ns hself ?_) rfl
  have X0 : (KF w).In hh := X
  refine initSet (dx := dx) (x := x) (es := []) (n := 0) (rest := [(ln, lob nl)]) (fun t => [⟨PyData.keyHash w.params "nodes", .str "nodes" t, .ref ln⟩]) 1 X0 F₂ (fun p hp => ?_) (fun p hp => ?_) (by kernel_rfl) (by kernel_rfl) (fun t => by kernel_rfl) (fun t => by simp) fun h₃ t₁ F₃ N₃ => ?_
  · simp only [List.mem_cons, List.not_mem_nil, or_false] at hp
    rcases hp with rfl | rfl | rfl
    · exact N₂ _ (by simp)
    · exact N₂ _ (by simp)
    · exact a₂
  · simp only [List.mem_cons, List.not_mem_nil, or_false] at hp
    rcases hp with rfl | rfl
    · exact hxd
    · exact fun q => d₂ _ (List.mem_cons_self ..) q.symm
  walk_at "n"
  refine wpAny_execs_cons ?_
  refine plainObj_wpAny_Assign_Attribute (wpAny_Dict_empty ?_)
  have hnd := fresh_size h₃
  have kd : Kp0 h₃ (h₃.push { cls := .type "dict", data := .dict #[] }) := .push _
  have ed : (h₃.push { cls := .type "dict", data := .dict #[] }).get? h₃.objs.size = some { cls := .type "dict", data := .dict #[] } := Heap.get?_push_size _ rfl
  have hsmd : (h₃.objs.size == sysModules) = false := W.gsz (st.trans (.of_stays F₃.keep))
  dsimp only
  generalize h₃.push { cls := .type "dict", data := .dict #[] } = h₄ at *
  generalize h₃.objs.size = nd at *
  obtain ⟨F₄, N₄, a₄, d₄⟩ := new F₃ N₃ kd hnd ed
  refine wpAny_Name (wpAny_loadName_local rfl rfl F₄.ns hself ?_) rfl
  refine initSet (dx := dx) (x := x) (es := [⟨PyData.keyHash w.params "nodes", .str "nodes" t₁, .ref ln⟩]) (n := 1) (rest := [(ln, lob nl), (nd, dob)]) (fun t => [⟨PyData.keyHash w.params "nodes", .str "nodes" t₁, .ref ln⟩, ⟨PyData.keyHash w.params "numbers", .str "numbers" t, .ref nd⟩]) 2 X0 F₄ (fun p hp => ?_) (fun p hp => ?_) (by kernel_rfl) (by kernel_rfl) (fun t => by kernel_rfl) (fun t => by simp) fun h₅ t₂ F₅ N₅ => ?_
  · simp only [List.mem_cons, List.not_mem_nil, or_false] at hp
    rcases hp with rfl | rfl | rfl | rfl
    · exact N₄ _ (by simp)
    · exact N₄ _ (by simp)
    · exact N₄ _ (by simp)
    · exact a₄
  · simp only [List.mem_cons, List.not_mem_nil, or_false] at hp
    rcases hp with rfl | rfl | rfl
    · exact hxd
    · exact fun q => d₂ _ (List.mem_cons_self ..) q.symm
    · exact fun q => d₄ _ (List.mem_cons_self ..) q.symm
  walk_at "n"
  refine wpAny_execs_cons ?_
  refine plainObj_wpAny_Assign_Attribute (PyProof.Rows.List_ (wpAny_items_nil ?_))
  refine listNew (fun lw h₆ k₆ hlw hl₆ => ?_) (by simp [sizeLine_eq])
  dsimp only at k₆ hlw
  obtain ⟨nl₂, el₂⟩ := hl₆
  obtain ⟨F₆, N₆, a₆, d₆⟩ := new F₅ N₅ k₆ hlw el₂
  refine wpAny_Name (wpAny_loadName_local rfl rfl F₆.ns hself ?_) rfl
  refine initSet (dx := dx) (x := x) (es := [⟨PyData.keyHash w.params "nodes", .str "nodes" t₁, .ref ln⟩, ⟨PyData.keyHash w.params "numbers", .str "numbers" t₂, .ref nd⟩]) (n := 2) (rest := [(ln, lob nl), (nd, dob), (lw, lob nl₂)]) (fun t => [⟨PyData.keyHash w.params "nodes", .str "nodes" t₁, .ref ln⟩, ⟨PyData.keyHash w.params "numbers", .str "numbers" t₂, .ref nd⟩, ⟨PyData.keyHash w.params "weights", .str "weights" t, .ref lw⟩]) 3 X0 F₆ (fun p hp => ?_) (fun p hp => ?_) (by kernel_rfl) (by kernel_rfl) (fun t => by kernel_rfl) (fun t => by simp) fun h₇ t₃ F₇ N₇ => ?_
  · simp only [List.mem_cons, List.not_mem_nil, or_false] at hp
    rcases hp with rfl | rfl | rfl | rfl | rfl
    · exact N₆ _ (by simp)
    · exact N₆ _ (by simp)
    · exact N₆ _ (by simp)
    · exact N₆ _ (by simp)
    · exact a₆
  · simp only [List.mem_cons, List.not_mem_nil, or_false] at hp
    rcases hp with rfl | rfl | rfl | rfl
    · exact hxd
    · exact fun q => d₂ _ (List.mem_cons_self ..) q.symm
    · exact fun q => d₄ _ (List.mem_cons_self ..) q.symm
    · exact fun q => d₆ _ (List.mem_cons_self ..) q.symm
  walk_at "n"
  refine wpAny_execs_cons ?_
  refine plainObj_wpAny_Assign_Attribute (PyProof.Rows.List_ (wpAny_items_nil ?_))
  refine listNew (fun ld h₈ k₈ hld hl₈ => ?_) (by simp [sizeLine_eq])
  dsimp only at k₈ hld
  obtain ⟨nl₃, el₃⟩ := hl₈
  obtain ⟨F₈, N₈, a₈, d₈⟩ := new F₇ N₇ k₈ hld el₃
  refine wpAny_Name (wpAny_loadName_local rfl rfl F₈.ns hself ?_) rfl
  refine initSet (dx := dx) (x := x) (es := [⟨PyData.keyHash w.params "nodes", .str "nodes" t₁, .ref ln⟩, ⟨PyData.keyHash w.params "numbers", .str "numbers" t₂, .ref nd⟩, ⟨PyData.keyHash w.params "weights", .str "weights" t₃, .ref lw⟩]) (n := 3) (rest := [(ln, lob nl), (nd, dob), (lw, lob nl₂), (ld, lob nl₃)]) (fun t => [⟨PyData.keyHash w.params "nodes", .str "nodes" t₁, .ref ln⟩, ⟨PyData.keyHash w.params "numbers", .str "numbers" t₂, .ref nd⟩, ⟨PyData.keyHash w.params "weights", .str "weights" t₃, .ref lw⟩, ⟨PyData.keyHash w.params "depths", .str "depths" t, .ref ld⟩]) 4 X0 F₈ (fun p hp => ?_) (fun p hp => ?_) (by kernel_rfl) (by kernel_rfl) (fun t => by kernel_rfl) (fun t => by simp) fun h₉ t₄ F₉ N₉ => ?_
  · simp only [List.mem_cons, List.not_mem_nil, or_false] at hp
    rcases hp with rfl | rfl | rfl | rfl | rfl | rfl
    · exact N₈ _ (by simp)
    · exact N₈ _ (by simp)
    · exact N₈ _ (by simp)
    · exact N₈ _ (by simp)
    · exact N₈ _ (by simp)
    · exact a₈
  · simp only [List.mem_cons, List.not_mem_nil, or_false] at hp
    rcases hp with rfl | rfl | rfl | rfl | rfl
    · exact hxd
    · exact fun q => d₂ _ (List.mem_cons_self ..) q.symm
    · exact fun q => d₄ _ (List.mem_cons_self ..) q.symm
    · exact fun q => d₆ _ (List.mem_cons_self ..) q.symm
    · exact fun q => d₈ _ (List.mem_cons_self ..) q.symm
  walk_at "n"
  walk_at "z"
  show _ ∧ _
  refine ⟨rfl, ?_⟩
  have q1 := N₉ (x, instObj 174 dx) (by simp)
  have q0 := N₉ (dx, _) (List.mem_cons_self ..)
  have q2 := N₉ (ln, _) (List.mem_cons_of_mem _ (List.mem_cons_of_mem _ (List.mem_cons_self ..)))
  have q3 := N₉ (nd, _) (List.mem_cons_of_mem _ (List.mem_cons_of_mem _ (List.mem_cons_of_mem _ (List.mem_cons_self ..))))
  have q4 := N₉ (lw, _) (List.mem_cons_of_mem _ (List.mem_cons_of_mem _ (List.mem_cons_of_mem _ (List.mem_cons_of_mem _ (List.mem_cons_self ..)))))
  have q5 := N₉ (ld, _) (List.mem_cons_of_mem _ (List.mem_cons_of_mem _ (List.mem_cons_of_mem _ (List.mem_cons_of_mem _ (List.mem_cons_of_mem _ (List.mem_cons_self ..))))))
  walk_at "q"
  refine hQ ⟨x, dx, ln, nd, lw, ld⟩ h₉ _ (.of_stays F₉.keep) ?_ ?_
  · intro a ha
    simp only [BA.all, List.mem_cons, List.not_mem_nil, or_false] at ha
    rcases ha with rfl | rfl | rfl | rfl | rfl | rfl
    · exact q1.2.2
    · exact q0.2.2
    · exact q2.2.2
    · exact q3.2.2
    · exact q4.2.2
    · exact q5.2.2
  · refine ⟨q1.1, ⟨_, _, _, _, t₁, t₂, t₃, t₄, 4, q0.1⟩, ⟨[], ⟨_, q2.1⟩, .nil⟩, ⟨hsmd, [], ⟨_, #[], 0, q3.1, ⟨rfl, rfl, rfl⟩, rfl, rfl, fun _ hx => by simp at hx, List.nodup_nil⟩, rfl, fun i x e => by simp at e⟩, ⟨[], ⟨_, q4.1⟩, .nil⟩, ⟨[], ⟨_, q5.1⟩, .nil⟩, ?_⟩
    have e1 := d₂ (x, instObj 174 dx) (by simp)
    have e2 := d₂ (dx, _) (List.mem_cons_self ..)
    have f1 := d₄ (x, instObj 174 dx) (by simp)
    have f2 := d₄ (dx, _) (List.mem_cons_self ..)
    have f3 := d₄ (ln, _) (List.mem_cons_of_mem _ (List.mem_cons_of_mem _ (List.mem_cons_self ..)))
    have g1 := d₆ (x, instObj 174 dx) (by simp)
    have g2 := d₆ (dx, _) (List.mem_cons_self ..)
    have g3 := d₆ (ln, _) (List.mem_cons_of_mem _ (List.mem_cons_of_mem _ (List.mem_cons_self ..)))
    have g4 := d₆ (nd, _) (List.mem_cons_of_mem _ (List.mem_cons_of_mem _ (List.mem_cons_of_mem _ (List.mem_cons_self ..))))
    have j1 := d₈ (x, instObj 174 dx) (by simp)
    have j2 := d₈ (dx, _) (List.mem_cons_self ..)
    have j3 := d₈ (ln, _) (List.mem_cons_of_mem _ (List.mem_cons_of_mem _ (List.mem_cons_self ..)))
    have j4 := d₈ (nd, _) (List.mem_cons_of_mem _ (List.mem_cons_of_mem _ (List.mem_cons_of_mem _ (List.mem_cons_self ..))))
    have j5 := d₈ (lw, _) (List.mem_cons_of_mem _ (List.mem_cons_of_mem _ (List.mem_cons_of_mem _ (List.mem_cons_of_mem _ (List.mem_cons_self ..)))))
    show [x, dx, ln, nd, lw, ld].Nodup
    simp only [List.nodup_cons, List.mem_cons, List.not_mem_nil, or_false, not_or, not_false_eq_true, List.nodup_nil, and_true]
    exact ⟨⟨hxd, e1, f1, g1, j1⟩, ⟨e2, f2, g2, j2⟩, ⟨f3, g3, j3⟩, ⟨g4, j4⟩, j5⟩
end

section
variable {prog : Program} {w : World} {A : Around} {s : Shared} {g : Heap} {Q E : Value → Shared → Prop}
theorem box_ok {l : Addr} {vs : List Value} {ns : List Int} (W : Wd w g) (st : Kp0 g s.heap) (hl : s.heap.IsList l vs.toArray) (hi : IntsAre vs ns) (hlen : ns.length ≤ 63) (hA : Ao A 0)
    (hQ : ∀ b D h' tk, Kp0 s.heap h' → s.heap.get? b = none → s.heap.get? D = none → Box prog w h' b D 0 → Q (.ref b) { s with heap := h', toks := tk }) : wpAny (model prog w) A (call (.ref 183) [.ref l] []) Q E s := by
  refine callF W st (by rfl) (by kernel_rfl) hA.room (binds := [("script", .ref l)]) (S := No) (BindsTo.of_eq rfl) (locs rfl) (fun _ q => q.elim) (fun h₁ L B kp0 hLn => ?_) (by decide)
  have hl₁ := kp_list kp0 hl id
  walk_at "r"
  refine wpAny_Dict_walk (knd := strKind prog w) rfl rfl (by simp) (by simp) ?_
  have hbn := fresh_size h₁
  have kd : Kp0 h₁ (h₁.push { cls := .type "dict", data := .dict #[] }) := .push _
  have hD0 : (h₁.push { cls := .type "dict", data := .dict #[] }).DictOf (strKind prog w) h₁.objs.size [] := ⟨_, #[], 0, Heap.get?_push_size _ rfl, ⟨rfl, rfl, rfl⟩, rfl, fun _ he => by simp at he, Pairs.nil, List.nodup_nil⟩
  dsimp only
  generalize h₁.objs.size = b at *
  generalize h₁.push { cls := .type "dict", data := .dict #[] } = h₂ at *
  have hbs : s.heap.get? b = none := (B.new hbn).1.elim (fun q => q.elim) id
  have B₂ := B.step0 kd
  have hl₂ := kp_list kd hl₁ id
  refine pairTrees_cons_walk ?_
  walk_at "r"
  refine lcS (g := g) (S := No) (cl := []) rfl (by decide) rfl (by decide) rfl ?_
  refine listCut ?_ (fun o i => [i, o]) (by intro o i; with_unfolding_all rfl)
  walk_at "r"
  refine evalPart_none_step (evalPart_some_step ?_)
  walk_at "r"
  refine evalPart_none_step ?_
  refine ⟨l, _, none, some 50, none, rfl, hl₂, .none, .int _ _, .none, by simp, by simp [sizeLine_eq, hi.length]; omega, fun d h₃ tk₃ k₃ hdn hpl => ?_⟩
  dsimp only at k₃ hdn
  have hcut := slice_ints_uptoW hi (y := 50) (by omega)
  have B₃ := B₂.step0 k₃
  generalize hvs : slicePick vs.toArray none (some 50) none = cv at hpl hcut
  have hcl : cv.toList.length = (ns.take 50).length := hcut.length
  have hcs : cv.size = (ns.take 50).length := by rw [← Array.length_toList]; exact hcl
  have hns : (ns.take 50).length ≤ 50 := by rw [List.length_take]; omega
  refine ⟨_, _, [d], fun i ys h => IntsAre ys (((ns.take 50).take i).map fun a : Int => a.fmod 1000003), Src.list (show (A.deeper _).handled = none from hA.handled) hpl.isList (by rw [hcs, sizeLine_eq]; omega), B₃.st, fun _ q => q.elim, fun _ q => q.elim, fun _ _ q => q.elim,
    .nil, fun _ _ _ _ x _ => x, ?_, ?_⟩
  · rintro C i x ys h₄ tk₄ Qb E' hQb hil hx hInv B₄ hC
    have hx' : cv.toList[i]? = some x := by simpa using hx
    have hin : i < (ns.take 50).length := by rw [← hcl]; exact (List.getElem?_eq_some_iff.mp hx').1
    obtain ⟨u, hu⟩ := hcut.get i _ (List.getElem?_eq_getElem hin)
    have ekn := List.getElem?_eq_getElem hin
    generalize (ns.take 50)[i] = a at hu ekn
    rw [hx'] at hu; cases hu
    walk_at "r"
    refine call_int_int ?_
    walk_at "r"
    refine mod_int' (by decide) ?_
    walk_at "q"
    refine hQb _ _ _ .refl ?_
    show IntsAre _ _
    rw [List.take_add_one, ekn, List.map_append]
    exact hInv.append (.cons _ _ .nil)
  · intro D ys h₄ tk₄ hDn hlD hlenD hInv k₄
    dsimp only at hDn
    have B₄ := B₃.step0 k₄
    have hDs : s.heap.get? D = none := (B₃.new hDn).1.elim (fun q => q.elim) id
    rw [hcs, List.take_length] at hInv
    have hDb : D ≠ b := fun q => by
      obtain ⟨o, _, _, ho, _⟩ := hD0
      have := k₃.stays _ _ ho; rw [← q, hDn] at this; cases this
    walk_at "r"
    refine pairTrees_cons_walk ?_
    walk_at "r"
    refine pairTrees_nil_walk ?_
    refine ⟨[(("cells" : Str), .ref D), (("lid" : Str), .int 0 _)], ⟨(strKind_is prog w _ _), rfl, (strKind_is prog w _ _), rfl, trivial⟩, (hD0.keep k₃.stays).keep k₄.stays, fun h₅ hd₅ hs₅ => ?_⟩
    dsimp only at hs₅
    have k₅ : Kp (fun a => a = b) h₄ h₅ := Kp.same hs₅ rfl (dict_noTup ((hD0.keep k₃.stays).keep k₄.stays))
    walk_at "q"
    refine hQ b D h₅ _ ?_ hbs hDs ⟨_, 0, Nat.le_refl _, ?_, _, _, by exact hd₅, kp_list k₅ hlD hDb, by simpa using hInv⟩
    · exact (((kp0.trans kd).trans (k₃.trans k₄)).of0.trans k₅).drop fun a o e q => by rw [q, hbs] at e; cases e
    · rw [List.length_take]; omega
end

/-! the terms that are put again: no more rows than there were -/
mutual
theorem cnt_lt : ∀ {t : Tm}, TmOk t → cnt t < 2 ^ hgt t
  | .mk op ks, h => by
    rw [TmOk] at h
    have := cnts_lt h.2.2
    rw [cnt, hgt, Nat.pow_add]
    have hp : 0 < 2 ^ hgts ks := Nat.pow_pos (by decide)
    have h2 : cnts ks ≤ ks.length * (2 ^ hgts ks - 1) := this
    have h3 : ks.length * (2 ^ hgts ks - 1) ≤ 2 * (2 ^ hgts ks - 1) := Nat.mul_le_mul_right _ h.2.1
    omega
theorem cnts_lt : ∀ {ts : List Tm}, TmsOk ts → cnts ts ≤ ts.length * (2 ^ hgts ts - 1)
  | [], _ => by rw [cnts]; simp
  | t :: ts, h => by
    rw [TmsOk] at h
    have h1 := cnt_lt h.1
    have h2 := cnts_lt h.2
    rw [cnts, hgts, List.length_cons, Nat.add_mul, Nat.one_mul]
    have p1 : 2 ^ hgt t ≤ 2 ^ max (hgt t) (hgts ts) := Nat.pow_le_pow_right (by decide) (by omega)
    have p2 : 2 ^ hgts ts ≤ 2 ^ max (hgt t) (hgts ts) := Nat.pow_le_pow_right (by decide) (by omega)
    have p3 : ts.length * (2 ^ hgts ts - 1) ≤ ts.length * (2 ^ max (hgt t) (hgts ts) - 1) := Nat.mul_le_mul_left _ (by omega)
    omega
end
mutual
def subs : Tm → List Tm
  | .mk op ks => .mk op ks :: subss ks
def subss : List Tm → List Tm
  | [] => []
  | t :: ts => subs t ++ subss ts
end
theorem subs_self (t : Tm) : t ∈ subs t := by cases t; rw [subs]; exact List.mem_cons_self ..
theorem subss_mem {ts : List Tm} {t u : Tm} (h : t ∈ ts) (hu : u ∈ subs t) : u ∈ subss ts := by
  induction ts with
  | nil => simp at h
  | cons a ts ih =>
    rw [subss]
    rcases List.mem_cons.mp h with rfl | h
    · exact List.mem_append_left _ hu
    · exact List.mem_append_right _ (ih h)
/-- what stands new in rows' are terms of the list -/
def NewIn (rows rows' : List Nd) (l : List Tm) : Prop := ∀ i, rows.length ≤ i → i < rows'.length → tm rows' i ∈ l
mutual
theorem put_new : ∀ (t : Tm) {rows : List Nd}, RowsOk rows → TmOk t → NewIn rows (put t rows).1 (subs t)
  | .mk op ks, rows, ok, ht => by
    have ht' := ht
    rw [TmOk] at ht
    obtain ⟨ho, hk, hs⟩ := ht
    obtain ⟨G, hlen, hlt, he⟩ := puts_ok ks ok hs
    have N := puts_new ks ok hs
    intro i h1 h2
    rw [put] at h2 ⊢
    have hP := put_ok (.mk op ks) ok ht'
    rw [put] at hP
    generalize hnd : (⟨op, nats (puts ks rows).2⟩ : Nd) = nd at *
    unfold addNd at h2 hP ⊢
    by_cases hm : nd ∈ (puts ks rows).1
    · rw [if_pos hm] at h2 hP ⊢
      rw [subs]; exact List.mem_cons_of_mem _ (N i h1 h2)
    · rw [if_neg hm] at h2 hP ⊢
      dsimp only at h2 hP ⊢
      rw [List.length_append, List.length_singleton] at h2
      by_cases q : i < (puts ks rows).1.length
      · rw [show tm ((puts ks rows).1 ++ [nd]) i = tm (puts ks rows).1 i from terms_getD_append _ _ q, subs]
        exact List.mem_cons_of_mem _ (N i h1 q)
      · obtain rfl : i = (puts ks rows).1.length := by omega
        rw [hP.2.2]; exact subs_self _
theorem puts_new : ∀ (ts : List Tm) {rows : List Nd}, RowsOk rows → TmsOk ts → NewIn rows (puts ts rows).1 (subss ts)
  | [], rows, ok, _ => by intro i h1 h2; rw [puts] at h2; dsimp only at h2; omega
  | t :: ts, rows, ok, h => by
    rw [TmsOk] at h
    obtain ⟨G, hlt, e⟩ := put_ok t ok h.1
    obtain ⟨G', hlen, hlts, es⟩ := puts_ok ts G.ok h.2
    intro i h1 h2
    rw [puts] at h2 ⊢
    dsimp only at h2 ⊢
    rw [subss]
    by_cases q : i < (put t rows).1.length
    · rw [G'.tm_eq q]
      exact List.mem_append_left _ (put_new t ok h.1 i h1 q)
    · exact List.mem_append_right _ (puts_new ts G.ok h.2 i (by omega) h2)
end
/-- the parts of a row's term are rows' terms -/
theorem subs_rows {rows : List Nd} (ok : RowsOk rows) : ∀ i, i < rows.length → ∀ u ∈ subs (tm rows i), ∃ j, j < rows.length ∧ tm rows j = u := by
  intro i
  induction i using Nat.strongRecOn with
  | ind i ih =>
    intro hi u hu
    have h := List.getElem?_eq_getElem hi
    have e : tm rows i = .mk rows[i].op (rows[i].kids.map fun k => tm rows k.toNat) := terms_at ok h
    rw [e, subs] at hu
    rcases List.mem_cons.mp hu with rfl | hu
    · exact ⟨i, hi, e⟩
    · have hk : ∀ l : List Int, (∀ k ∈ l, 0 ≤ k ∧ k < i) → u ∈ subss (l.map fun k => tm rows k.toNat) → ∃ j, j < rows.length ∧ tm rows j = u := by
        intro l
        induction l with
        | nil => intro _ h; rw [List.map_nil, subss] at h; simp at h
        | cons a l ihl =>
          intro hl h
          rw [List.map_cons, subss] at h
          rcases List.mem_append.mp h with h | h
          · have := hl a (List.mem_cons_self ..)
            exact ih a.toNat (by omega) (by omega) u h
          · exact ihl (fun k hk => hl k (List.mem_cons_of_mem _ hk)) h
      exact hk _ (fun k hk' => ok.kid i _ h k hk') hu
theorem tm_inj {rows : List Nd} (ok : RowsOk rows) : ∀ i j, i < rows.length → j < rows.length → tm rows i = tm rows j → i = j := by
  intro i
  induction i using Nat.strongRecOn with
  | ind i ih =>
    intro j hi hj e
    have h1 := List.getElem?_eq_getElem hi
    have h2 := List.getElem?_eq_getElem hj
    have e1 : tm rows i = .mk rows[i].op (rows[i].kids.map fun k => tm rows k.toNat) := terms_at ok h1
    have e2 : tm rows j = .mk rows[j].op (rows[j].kids.map fun k => tm rows k.toNat) := terms_at ok h2
    rw [e1, e2] at e
    injection e with eo ek
    have kk : ∀ (a b : List Int), (∀ k ∈ a, 0 ≤ k ∧ k < i) → (∀ k ∈ b, 0 ≤ k ∧ k < j) → (a.map fun k => tm rows k.toNat) = (b.map fun k => tm rows k.toNat) → a = b := by
      intro a
      induction a with
      | nil => intro b _ _ h; cases b with | nil => rfl | cons => simp at h
      | cons x a iha =>
        intro b ha hb h
        cases b with
        | nil => simp at h
        | cons y b =>
          simp only [List.map_cons, List.cons.injEq] at h
          have hx := ha x (List.mem_cons_self ..)
          have hy := hb y (List.mem_cons_self ..)
          have := ih x.toNat (by omega) y.toNat (by omega) (by omega) h.1
          rw [iha b (fun k hk => ha k (List.mem_cons_of_mem _ hk)) (fun k hk => hb k (List.mem_cons_of_mem _ hk)) h.2, show x = y by omega]
    have e3 : rows[i] = rows[j] := by
      have := kk _ _ (fun k hk => ok.kid i _ h1 k hk) (fun k hk => ok.kid j _ h2 k hk) ek
      cases ri : rows[i] with
      | mk a b =>
        cases rj : rows[j] with
        | mk c d => rw [ri, rj] at eo this; simp only at eo this; rw [eo, this]
    exact (List.getElem?_inj hi ok.nodup).mp (by rw [h1, h2, e3])
/-- rows whose terms are all among others' rows are no more -/
theorem no_more {rows rows' : List Nd} (ok' : RowsOk rows') (h : ∀ i, i < rows'.length → ∃ j, j < rows.length ∧ tm rows j = tm rows' i) : rows'.length ≤ rows.length := by
  have pick : ∀ i, ∃ j, i < rows'.length → j < rows.length ∧ tm rows j = tm rows' i := fun i => by
    by_cases q : i < rows'.length
    · obtain ⟨j, hj⟩ := h i q; exact ⟨j, fun _ => hj⟩
    · exact ⟨0, fun e => absurd e q⟩
  obtain ⟨f, hf⟩ := Classical.axiomOfChoice pick
  have nd : ((List.range rows'.length).map f).Nodup := by
    rw [List.nodup_iff_pairwise_ne, List.pairwise_map]
    refine List.Pairwise.imp_of_mem ?_ (List.nodup_iff_pairwise_ne.mp List.nodup_range)
    intro a b ha hb hab e
    have ha := List.mem_range.mp ha
    have hb := List.mem_range.mp hb
    exact hab (tm_inj ok' a b ha hb (by rw [← (hf a ha).2, ← (hf b hb).2, e]))
  have sb : ((List.range rows'.length).map f) ⊆ List.range rows.length := by
    intro x hx
    obtain ⟨a, ha, rfl⟩ := List.mem_map.mp hx
    exact List.mem_range.mpr (hf a (List.mem_range.mp ha)).1
  have := List.Nodup.length_le_of_subset nd sb
  simpa using this

/-! the fault: an own exception class whose base has an __init__ of its own -/
abbrev bmT : List Value := [.ref 47, .type "Exception", .type "BaseException", .type "object"]
abbrev tfObj : Obj := excClassObj "TermFault" "TermFault" 60 59 [.ref 47] bmT true [] [] false none none (some (.ref 51)) none (some (.str "TermFault" 234)) (some (.str "TermFault" 242)) (some (.bool true)) "Exception.__new__"
theorem tf_at (w : World) : (KF w).lookup 60 = some tfObj := by kernel_rfl
theorem tf_init (w : World) : findIn (KF w) (.ref 60) "__init__" = some (some (.ref 37)) := by kernel_rfl
theorem tf_fn (w : World) : typeIn (KF w) (.ref 37) = some (.type "function") := by kernel_rfl
section
variable {M : Model} {prog : Program} {w : World} {A : Around} {E : Value → Shared → Prop} {R : Result → Shared → Prop} {h : Heap} {g : Array GenState} {d : Drawn} {t : Nat} {os : OsState}
theorem tf_checkNew {rest : List Value} {Q : Unit → Shared → Prop} (hC : h.get? 60 = some tfObj) (hq : Q () ⟨h, g, d, t, os⟩) : wpAny M A (checkBuiltinCall "Exception.__new__" ⟨.ref 60 :: rest, []⟩) Q E ⟨h, g, d, t, os⟩ := by
  have F := PySem.F.excBase_Exception
  have hcont : (Value.ref 60 :: bmT).contains (.type "Exception") = true := by decide
  have hstar := F.noStar
  simp only [checkBuiltinCall, F.newKind, F.newSplit, F.newRow]
  repeat (first | refine wpAny_loadPart_at hC ?_ | (refine wpAny_isSubtype_exc hC ?_; rw [hcont]) | refine wpAny_staticBase_exc hC ?_ | refine wpAny_madeBy_exc hC ?_ | simp only [bne_self_eq_false, Bool.false_eq_true, if_false] | wp_step)
  exact hq
theorem tf_new {rest : List Value} (hC : h.get? 60 = some tfObj)
    (hq : R (.ok (.ret (.ref (h.objs.size + 1)))) ⟨(h.push { cls := .type "tuple", data := .seq rest.toArray }).push
      { cls := .ref 60, data := .fields #[.ref h.objs.size, .none, .none, .none, .bool false, .none] }, g, d, t, os⟩) (hrest : rest.length ≤ sizeLine) :
    codeAny (model prog w) A (.builtin "Exception.__new__" ⟨.ref 60 :: rest, []⟩) R ⟨h, g, d, t, os⟩ := by
  have F := PySem.F.excBase_Exception
  have hends := F.ends
  have hcB : (Value.ref 60 :: bmT).contains (.type "Exception") = true := by decide
  have hcA : (Value.ref 60 :: bmT).contains (.type "AttributeError") = false := by decide
  have hcN : (Value.ref 60 :: bmT).contains (.type "NameError") = false := by decide
  refine codeAny_builtinAt F.entry ?_
  unfold Builtin.«BaseException.__new__»
  refine PySem.wpAt_bind ?_
  show PySem.wpAt _ _ _ (stack >>= _) _ _ _
  refine PySem.wpAt_bind (PySem.wpAt_stack fun p below => PySem.wpAt_of_wpAny ?_)
  wp_walk
  refine PySem.wpAt_of_wpAny ?_
  rw [F.owner]
  repeat (first | with_reducible refine wpAny_madeHere_exc F.canon hC ?_ | with_reducible refine wpAny_loadPart_at hC ?_ | (with_reducible refine wpAny_isSubtype_exc hC ?_; first | rw [hcB] | rw [hcA] | rw [hcN]) | wp_step)
  show R _ _
  rw [Heap.size_push]
  exact hq
end
section
variable {prog : Program} {w : World} {A : Around} {E : Value → Shared → Prop} {h : Heap} {g : Array GenState} {d : Drawn} {t : Nat} {os : OsState}
theorem tf_typeCall (X : (KF w).In h) {rest : List Value} {Q : Fin → Shared → Prop} (hrest : rest.length ≤ sizeLine)
    (hq : ∀ h' e, Heap.MadeExcOf h h' e (.ref 60) rest →
      wpAny (model prog w) A (call (.ref 37) (.ref e :: rest)) (fun r s' => r = .none ∧ Q (.done (.ret (.ref e))) s') E ⟨h', g, d, t, os⟩) :
    wpAny (model prog w) A (Builtin.«type.__call__» ⟨.ref 60 :: rest, []⟩) Q E ⟨h, g, d, t, os⟩ := by
  have hC : h.get? 60 = some tfObj := X _ _ (tf_at w)
  have F := PySem.F.excBase_Exception
  repeat (first | with_reducible refine wpAny_loadPart_at hC ?_ | with_reducible refine wpAny_madeBy_exc hC ?_ | wp_step)
  refine codeAny_call_builtin_code (Code.quiet_builtin _ F.quiet) (tf_checkNew hC ?_)
  refine tf_new hC ?_ hrest
  show wpAny _ _ _ _ _ _
  have k2 : ∀ b o, h.get? b = some o → ((h.push { cls := .type "tuple", data := .seq rest.toArray }).push { cls := .ref 60, data := .fields #[.ref h.objs.size, .none, .none, .none, .bool false, .none] }).get? b = some o := fun b o e => Heap.get?_push_of_some _ (Heap.get?_push_of_some _ e)
  have hC₁ := k2 _ _ hC
  have X₁ := X.keeps k2
  have hget : ((h.push { cls := .type "tuple", data := .seq rest.toArray }).push
      { cls := .ref 60, data := .fields #[.ref h.objs.size, .none, .none, .none, .bool false, .none] }).get? (h.objs.size + 1) = some
      { cls := .ref 60, data := .fields #[.ref h.objs.size, .none, .none, .none, .bool false, .none] } := by heap_get
  have hcC : (Value.ref 60 :: bmT).contains (.ref 60) = true := by decide
  have L1 : Looks (model prog w) _ (typeLookup (.ref 60) "__init__") (some (.ref 37)) := looks_findIn X₁ (tf_init w)
  unfold isInstance
  repeat (first | with_reducible refine wpAny_loadPart_at hget ?_ | (with_reducible refine wpAny_isSubtype_exc hC₁ ?_; rw [hcC]) | wp_step)
  show wpAny _ _ (typeLookup (.ref 60) _) _ _ _
  refine L1.here ?_
  refine wpAny_holding (wpAny_bind ?_)
  refine (bind_fn X₁ (.ref (h.objs.size + 1)) (tf_fn w)).here ?_
  refine wpAny_bind (wpAny_mono (hq _ (h.objs.size + 1) ⟨k2, Heap.get?_none_of_le (Nat.le_succ _), h.objs.size, hget, Heap.get?_none_of_le (Nat.le_refl _), ?_⟩) (fun r s' hr => ?_) fun _ _ x => x)
  · exact Heap.get?_push_of_some _ (Heap.get?_push_at rfl rfl)
  · obtain ⟨rfl, hQ⟩ := hr
    wp_walk
    walk_at "q"
    exact hQ
theorem tf_call (X : (KF w).In h) {rest : List Value} {Q : Value → Shared → Prop} (hrest : rest.length ≤ sizeLine)
    (hq : ∀ h' e, Heap.MadeExcOf h h' e (.ref 60) rest →
      wpAny (model prog w) (A.under (.builtin "type.__call__" ⟨.ref 60 :: rest, []⟩)) (call (.ref 37) (.ref e :: rest)) (fun r s' => r = .none ∧ Q (.ref e) s') E ⟨h', g, d, t, os⟩) :
    wpAny (model prog w) A (call (.ref 60) rest) Q E ⟨h, g, d, t, os⟩ := by
  have hC : h.get? 60 = some tfObj := X _ _ (tf_at w)
  have f1 := PySem.tc_lookup
  have f2 := PySem.tc_bind (.ref 60)
  have hT : (⟨h, g, d, t, os⟩ : Shared).TypeIs (.ref 60) "type" := ⟨_, hC, rfl⟩
  refine wpAny_call (codeAny_of_tree ?_)
  show wpAny _ _ (callAny (.ref 60) _) _ _ _
  repeat (any_goals (first | assumption | with_reducible refine wpAny_loadPart_at hC ?_ | wp_step))
  refine ⟨rfl, ?_⟩
  refine codeAny_call_builtin_at (Code.quiet_builtin _ (by decide +kernel)) PySem.entry_typeCall (wpAny_check_type_call_sub hC (tf_typeCall X hrest fun h' e hm => ?_))
  exact hq h' e hm
end

/-! super().__init__ of a fault: the base's built-in, bound -/
theorem sx_slot : Slot "wrapper_descriptor" "__get__" "wrapper_descriptor.__get__" := .of (owner := "wrapper_descriptor") (n := "__get__") (by rw [typeLookup_type, builtinLookup_eq_fast]; kernel_rfl) (by decide +kernel) (by decide +kernel) (by decide +kernel)
  (by first | exact .inl (by decide +kernel) | exact .inr (by decide +kernel)) (by rw [isSubtype_type]; kernel_rfl)
theorem sx_entry : entryFor table "wrapper_descriptor.__get__" = some Builtin.«wrapper_descriptor.__get__» := entryFor_of_tree (by kernel_rfl)
theorem sx_args (a b c : Value) : argsOk "wrapper_descriptor.__get__" ⟨[a, b, c], []⟩ := by unfold argsOk; kernel_rfl
theorem sx_type (s : Shared) : s.TypeIs (.builtin "Exception.__init__") "wrapper_descriptor" := by with_unfolding_all rfl
theorem sx_own : builtinOwn "Exception" "__init__" = some (.builtin "Exception.__init__") := by kernel_rfl
theorem sx_mro (w : World) : (clsIn (KF w) 60).map (·.mro) = some [.ref 60, .ref 47, .type "Exception", .type "BaseException", .type "object"] := by kernel_rfl
theorem sx_op (w : World) : nsIn (KF w) cStatics "thirdparty.any" = some none := by kernel_rfl
theorem sx_sub (w : World) : mroIn (KF w) 60 (.type "Exception") = some true := by kernel_rfl
section
variable {prog : Program} {w : World} {A : Around} {E : Value → Shared → Prop} {h : Heap} {g : Array GenState} {d : Drawn} {t : Nat} {os : OsState}
abbrev wrapObj (x : Addr) : Obj := { cls := .type "method-wrapper", data := .fields #[.builtin "Exception.__init__", .ref x] }
theorem sx_get {x : Addr} {ox : Obj} {Q : Value → Shared → Prop} (X : (KF w).In h) (hx : h.get? x = some ox) (hc : ox.cls = .ref 60) (hq : Q (.ref h.objs.size) ⟨h.push (wrapObj x), g, d, t, os⟩) :
    wpAny (model prog w) A (call (.builtin "wrapper_descriptor.__get__") [.builtin "Exception.__init__", .ref x, .ref 60]) Q E ⟨h, g, d, t, os⟩ := by
  have hz : ".".intercalate ("Exception.__init__".cutAt '.').dropLast = "Exception" := by decide +kernel
  have hs : Looks (model prog w) h (isSubtype (.ref 60) (.type (".".intercalate ("Exception.__init__".cutAt '.').dropLast))) true := by rw [hz]; exact looks_mroIn X (sx_sub w)
  refine wpAny_call_entry sx_slot (sx_type _) sx_entry ?_ (sx_args _ _ _)
  unfold Builtin.«wrapper_descriptor.__get__»
  repeat (first | (with_reducible refine Looks.at hs ?_) | (with_reducible refine wpAny_loadPart_at hx ?_; rw [hc]) | wp_step)
  exact ⟨_, rfl, hq⟩
end
section
variable {prog : Program} {w : World} {A : Around} {E : Value → Shared → Prop} {h : Heap} {g : Array GenState} {d : Drawn} {t : Nat} {os : OsState}
theorem sx_ga {so x : Addr} {ox : Obj} {tk : Tok} {Q : PySem.Fin → Shared → Prop} (X : (KF w).In h) (hso : h.get? so = some (ks_superObj 47 x 60)) (hx : h.get? x = some ox) (hc : ox.cls = .ref 60) (hx60 : x ≠ 60)
    (hq : Q (.done (.ret (.ref h.objs.size))) ⟨h.push (wrapObj x), g, d, t, os⟩) : wpAny (model prog w) A (Builtin.«super.__getattribute__» ⟨[.ref so, .str "__init__" tk], []⟩) Q E ⟨h, g, d, t, os⟩ := by
  have hlk := sx_slot.lookup
  have hne : (Value.ref x == Value.ref 60) = false := by simp [hx60]
  have hT : (⟨h, g, d, t, os⟩ : Shared).TypeIs (.builtin "Exception.__init__") "wrapper_descriptor" := sx_type _
  have hno : Looks (model prog w) h (opaqueClassAbove (.ref 60)) none := looks_opaque X (sx_op w)
  have hC : Looks (model prog w) h (mroOf (.ref 60)) [.ref 60, .ref 47, .type "Exception", .type "BaseException", .type "object"] := by
    cases hk : clsIn (KF w) 60 with
    | none => have := sx_mro w; rw [hk] at this; cases this
    | some cd => 
      have := sx_mro w; rw [hk] at this
      have e : cd.mro = [.ref 60, .ref 47, .type "Exception", .type "BaseException", .type "object"] := Option.some.inj this
      rw [← e]
      exact fun A Q E s k q => wpAny_bind ((looks_clsIn X hk) A _ E s k (wpAny_pure q))
  have hl : (([.ref 60, .ref 47, .type "Exception", .type "BaseException", .type "object"] : List Value).dropWhile (· != .ref 47)).drop 1 = [.type "Exception", .type "BaseException", .type "object"] := by decide
  have hdt : (ks_superObj 47 x 60).data = .fields #[.ref 47, .ref x, .ref 60] := rfl
  have f0 : (#[.ref 47, .ref x, .ref 60] : Array Value)[0]? = some (.ref 47) := rfl
  have f1 : (#[.ref 47, .ref x, .ref 60] : Array Value)[1]? = some (.ref x) := rfl
  have f2 : (#[.ref 47, .ref x, .ref 60] : Array Value)[2]? = some (.ref 60) := rfl
  have hown := sx_own
  unfold Builtin.«super.__getattribute__»
  repeat (first
    | (with_reducible refine wpAny_field hso hdt f0 ?_) | (with_reducible refine wpAny_field hso hdt f1 ?_) | (with_reducible refine wpAny_field hso hdt f2 ?_)
    | (with_reducible refine ks_wpAny_notOpaque hno ?_)
    | (with_reducible refine Looks.at hC ?_; rw [hl])
    | (rw [List.forIn_cons]; simp only [classOwn, hown])
    | (with_reducible refine wpAny_typeOf hT ?_)
    | (with_reducible refine sx_get X hx hc ?_)
    | (simp only [hne, Bool.or_false, Bool.false_eq_true, if_false])
    | wp_step
    | dsimp only)
  all_goals exact hq
end
section
variable {prog : Program} {w : World} {A : Around} {E : Value → Shared → Prop} {h : Heap} {g : Array GenState} {d : Drawn} {t : Nat} {os : OsState}
theorem sx_method {so x : Addr} {ox : Obj} {pl : Sem Bool} {Q : Value × List Value → Shared → Prop} (X : (KF w).In h) (hso : h.get? so = some (ks_superObj 47 x 60)) (hx : h.get? x = some ox) (hc : ox.cls = .ref 60) (hx60 : x ≠ 60)
    (hq : Q (.ref h.objs.size, []) ⟨h.push (wrapObj x), g, d, t + 1, os⟩) : wpAny (model prog w) A (getMethod (.ref so) "__init__" pl) Q E ⟨h, g, d, t, os⟩ := by
  have hlk := F.ks_slot_super_ga.lookup
  have hcan := F.ks_canon_super_ga
  have hT : ∀ t', (⟨h, g, d, t', os⟩ : Shared).TypeIs (.ref so) "super" := fun _ => ⟨_, hso, rfl⟩
  unfold getMethod
  refine wpAny_bind (wpAny_specialOf (hT _) hlk ?_)
  show wpAny _ _ (if (Manifest.canonical "super.__getattribute__" != "object.__getattribute__") = true then _ else _) _ _ _
  rw [if_pos hcan]
  unfold getAttr getAttrBy
  refine wpAny_bind (wpAny_bind (wpAny_mkText (wpAny_holding (wpAny_bind (wpAny_typeOf (hT _) (wpAny_bind (wpAny_of_eq hlk ?_)))))))
  show wpAny _ _ (getAttrByItsOwn (.ref so) (.str "__init__" t) (.type "super") (.builtin "super.__getattribute__") true false) _ _ _
  unfold getAttrByItsOwn hookBefore callGetattribute boundAndCalled
  refine wpAny_bind (wpAny_of_eq (show (if onTheHeap (.type "super") then typeLookup (.type "super") "__getattr__" else pure none) = pure none from rfl) ?_)
  refine wpAny_bind (wpAny_attempt (wpAny_holding ?_))
  show wpAny _ _ (bindSpecial (.builtin "super.__getattribute__") (.ref so) >>= _) _ _ _
  refine wpAny_bind (wpAny_of_eq (F.ks_slot_super_ga.bind _) ?_)
  refine wpAny_mono (Q := fun v s' => v = .ref h.objs.size ∧ s' = ⟨h.push (wrapObj x), g, d, t + 1, os⟩) (E := fun _ _ => False)
    (wpAny_call_entry F.ks_slot_super_ga (hT _) F.ks_entry_super_ga (sx_ga X hso hx hc hx60 ⟨_, rfl, rfl, rfl⟩) (F.ks_gaArgs_super _ _)) (fun v s' hv => ?_) fun _ _ z => z.elim
  obtain ⟨rfl, rfl⟩ := hv
  exact wpAny_pure (wpAny_pure hq)
theorem sx_printed {x : Addr} {ox : Obj} {sig : Manifest.Signature} {Q : String → Shared → Prop} (X : (KF w).In h) (hx : h.get? x = some ox) (hc : ox.cls = .ref 60) (hs : sig.receiver = .self) (hq : ∀ n, Q n ⟨h, g, d, t, os⟩) :
    wpAny (model prog w) A (Bind.printed "*" true sig (some (.ref x))) Q E ⟨h, g, d, t, os⟩ := by
  have hC : h.get? 60 = some tfObj := X _ _ (tf_at w)
  unfold Bind.printed Bind.receiverType
  rw [if_neg (by decide), hs]
  refine wpAny_bind (m := (if (Manifest.Receiver.self == Manifest.Receiver.cls) = true then pure (.ref x) else typeOf (.ref x))) ?_
  rw [if_neg (by decide)]
  unfold typeNameWhole
  repeat (first | (with_reducible refine wpAny_loadPart_at hx ?_; rw [hc]) | with_reducible refine wpAny_loadPart_at hC ?_ | wp_step)
  all_goals exact hq _
theorem sx_init {q x t0 : Addr} {ox : Obj} {vs : Array Value} {rest : List Value} {Q : Value → Shared → Prop} (X : (KF w).In h) (hq' : h.get? q = some (wrapObj x)) (hx : h.get? x = some ox) (hc : ox.cls = .ref 60) (hd : ox.data = .fields vs) (h0 : vs[0]? = some (.ref t0)) (hrest : rest.length ≤ sizeLine)
    (hq : Q .none ⟨(h.push { cls := .type "tuple", data := .seq rest.toArray }).update x (Obj.mapFields (·.setIfInBounds 0 (.ref h.objs.size))), g, d, t, os⟩) :
    wpAny (model prog w) A (call (.ref q) rest) Q E ⟨h, g, d, t, os⟩ := by
  have hs : Looks (model prog w) h (isSubtype (.ref 60) (.type "Exception")) true := looks_mroIn X (sx_sub w)
  have hsz : 0 < vs.size := (Array.getElem?_eq_some_iff.mp h0).1
  have he₁ := Heap.get?_push_of_some (h := h) { cls := .type "tuple", data := .seq rest.toArray } hx
  refine wpAny_call (codeAny_of_tree ?_)
  show wpAny _ _ (callAny (.ref q) _) _ _ _
  unfold callAny
  refine wpAny_bind (wpAny_load hq' ?_)
  show wpAny _ _ (do checkBoundCall "Exception.__init__" ⟨.ref x :: rest, []⟩; again (.builtin "Exception.__init__" ⟨.ref x :: rest, []⟩)) _ _ _
  have hcC := PyProof.Rows.excClass_Exception
  unfold checkBoundCall
  simp only [hcC.initKind, hcC.initSig]
  refine wpAny_bind ?_
  unfold Bind.checkArgs
  dsimp only
  refine wpAny_bind (m := Bind.printed "*" true _ _) (sx_printed (x := x) X hx hc rfl fun full => ?_)
  refine wpAny_bind (m := Bind.printed "Exception" false _ _) (printed_name hcC.notStar ?_)
  show wpAny _ _ (Sem.onRaise (Bind.check _ full "Exception" _ []) _) _ _ _
  rw [check_varPos]
  refine wpAny_pure (wpAny_pure ?_)
  refine ⟨Code.quiet_builtin _ (by decide +kernel), codeAny_builtin hcC.initEntry ?_⟩
  unfold Builtin.«BaseException.__init__»
  dsimp only
  rw [if_neg (by simp)]
  unfold newTuple Builtin.BaseException.bexcPut
  refine wpAny_bind (wpAny_newObj_type (wpAny_bind (wpAny_bind (wpAny_field he₁ hd h0 (wpAny_bind (wpAny_setField he₁ hd hsz ?_))))) (by show rest.toArray.size ≤ sizeLine; rw [List.size_toArray]; exact hrest))
  exact wpAny_letGo (wpAny_pure hq)
end

/-! a fault's __init__ : self.what = what -/
theorem sw_find (w : World) : findIn (KF w) (.ref 60) "__setattr__" = some (some (.builtin "object.__setattr__")) := by kernel_rfl
theorem sw_taker (w : World) : takerIn (KF w) 60 "what" = some none := by kernel_rfl
theorem sw_hasDict (w : World) : (clsIn (KF w) 60).any (·.hasDict) = true := by kernel_rfl
theorem sw_what (w : World) : findIn (KF w) (.ref 60) "what" = some none := by kernel_rfl
section
open Builtin Builtin.ObjectAttr
variable {prog : Program} {w : World} {A : Around} {E : Value → Shared → Prop} {h : Heap} {g : Array GenState} {d : Drawn} {t : Nat} {os : OsState}
theorem sw_entry {x : Addr} {o : Obj} {v : Value} {tk : Tok} {Q : PySem.Fin → Shared → Prop} (X : (KF w).In h) (hx : h.get? x = some o) (hc : o.cls = .ref 60) (hnc : ∀ c, o.data ≠ .cls c) (hdn : o.dict = none)
    (hq : ∀ h' tk' dx, h'.get? x = some { cls := o.cls, dict := some dx, data := o.data, slots := o.slots } → (∀ b ob, b ≠ x → h.get? b = some ob → h'.get? b = some ob) → Q (.done (.ret .none)) ⟨h', g, d, tk', os⟩) :
    wpAny (model prog w) A (Builtin.«object.__setattr__» ⟨[.ref x, .str "what" tk, v], []⟩) Q E ⟨h, g, d, t, os⟩ := by
  have hC : h.get? 60 = some tfObj := X _ _ (tf_at w)
  have hpass := PySem.F.store_Exception.passes (.ref x)
  have hM : Looks (model prog w) h (mroOf (.ref 60)) [.ref 60, .ref 47, .type "Exception", .type "BaseException", .type "object"] := by
    cases hk : clsIn (KF w) 60 with
    | none => have := sx_mro w; rw [hk] at this; cases this
    | some cd => 
      have := sx_mro w; rw [hk] at this
      have e : cd.mro = [.ref 60, .ref 47, .type "Exception", .type "BaseException", .type "object"] := Option.some.inj this
      rw [← e]
      exact fun A Q E s k q => wpAny_bind ((looks_clsIn X hk) A _ E s k (wpAny_pure q))
  have hL : Looks (model prog w) h (typeLookup (.ref 60) "what") none := looks_findIn X (sw_what w)
  unfold Builtin.«object.__setattr__»
  repeat (first | rw [refuse_eq] | (rw [refuseLoop_ref, refuseLoop_ref, hpass]) | (with_reducible refine wpAny_loadPart_at hx ?_; rw [hc]) | with_reducible refine wpAny_loadPart_at hC ?_ | (with_reducible refine Looks.at hM ?_) | (with_reducible refine Looks.at hL ?_) | wp_step)
  rw [hdn, if_neg (by simp [typeHasDict])]
  split
  · rename_i hcd
    cases hcd
  split
  · rename_i c hcd
    exact absurd hcd (hnc c)
  · have hx₁ : (h.push { cls := .type "dict", data := .dict #[] }).get? x = some o := Heap.get?_push_of_some _ hx
    have hxs : x ≠ h.objs.size := Nat.ne_of_lt (Heap.lt_size hx)
    refine wpAny_bind (wpAny_alloc' ?_)
    refine wpAny_bind (wpAny_update' hx₁ ?_)
    refine wpAny_pure ?_
    have hgd : ((h.push { cls := .type "dict", data := .dict #[] }).update x fun o => { cls := o.cls, dict := some h.objs.size, data := o.data, slots := o.slots }).get? h.objs.size
        = some { cls := .type "dict", data := .dict #[] } :=
      (Heap.get?_update_ne _ _ _ _ hxs.symm).trans (Heap.get?_push_at rfl rfl)
    have hnd : ((h.push { cls := .type "dict", data := .dict #[] }).update x fun o => { cls := o.cls, dict := some h.objs.size, data := o.data, slots := o.slots }).Ns h.objs.size (fun _ => none) :=
      ⟨_, #[], _, hgd, rfl, fun e he => absurd he (by simp), fun _ => rfl⟩
    show wpAny _ _ (storeInDict h.objs.size (.str "what" tk) "what" v) _ _ _
    unfold storeInDict newKeyGuard
    refine wpAny_bind (wpAny_pure (wpAny_bind (wpAny_nsSet1 (Heap.Ns1.of_empty hnd) fun h' hn' hs => ?_)))
    obtain ⟨oD, esD, epD, hoD, hdD, hcD⟩ := hn'.count (Within.cons "what" v Within.nil)
    refine wpAny_bind (wpAny_lookBehind hoD (by rw [hdD]; exact pastItsLine_dict (Nat.le_trans hcD (by rw [List.length_cons, List.length_nil, sizeLine_eq]; omega))) ?_)
    wp_walk
    have hx' : h'.get? x = some { cls := o.cls, dict := some h.objs.size, data := o.data, slots := o.slots } := ?_
    refine hq h' _ _ hx' (fun b ob hbx hb => ?_)
    · exact (hs.2 b (Nat.ne_of_lt (Heap.lt_size hb))).trans ((Heap.get?_update_ne _ _ _ _ hbx).trans (Heap.get?_push_of_some _ hb))
    · refine (hs.2 x hxs).trans (Heap.get?_update_self _ hx₁ ?_)
      have hfr := (Heap.get?_some_iff.mp hx).2
      obtain ⟨oc, od, odt, osl⟩ := o
      cases odt <;> first | rfl | exact hfr
end
section
variable {prog : Program} {w : World} {A : Around} {E : Value → Shared → Prop} {h : Heap} {g : Array GenState} {d : Drawn} {t : Nat} {os : OsState}
theorem sw_sub (w : World) : mroIn (KF w) 60 (.type "object") = some true := by kernel_rfl
theorem sw_attr {x : Addr} {o : Obj} {v : Value} {Q : Unit → Shared → Prop} (X : (KF w).In h) (hx : h.get? x = some o) (hc : o.cls = .ref 60) (hnc : ∀ c, o.data ≠ .cls c) (hdn : o.dict = none)
    (hq : ∀ h' tk' dx, h'.get? x = some { cls := o.cls, dict := some dx, data := o.data, slots := o.slots } → (∀ b ob, b ≠ x → h.get? b = some ob → h'.get? b = some ob) → Q () ⟨h', g, d, tk', os⟩) :
    wpAny (model prog w) A (setAttr (.ref x) "what" v) Q E ⟨h, g, d, t, os⟩ := by
  have SF := PySem.F.store_object
  have hT : Looks (model prog w) h (typeOf (.ref x)) (.ref 60) := by
    intro A' Q' E' s' k q
    obtain ⟨h', g', d', t', os'⟩ := s'
    unfold typeOf
    repeat (first | (with_reducible refine wpAny_loadPart_at (k _ _ hx) ?_; rw [hc]) | wp_step)
    exact q
  have sub : Looks (model prog w) h (isInstance (.ref x) (.type "object")) true := hT.andThen (looks_mroIn X (sw_sub w))
  refine wpAny_bind (wpAny_mkText (wpAny_bind (wpAny_bind (wpAny_bind (hT _ _ _ _ (fun _ _ e => e) (looks_findIn X (sw_find w) _ _ _ _ (fun _ _ e => e) (wpAny_holding ?_)))))))
  rw [PySem.F.store_object.slot.bind]
  refine wpAny_bind (wpAny_pure (wpAny_bind (wpAny_call ?_)))
  refine codeAny_call_builtin SF.slot.plain SF.entry (@check_slot (model prog w) _ _ ⟨h, g, d, t + 1, os⟩ "object.__setattr__" "object" "__setattr__" (.ref x) [.str "what" t, v] [] _ SF.kind SF.split sub (SF.args (.ref x) (.str "what" t) v) ?_)
  refine sw_entry X hx hc hnc hdn fun h' tk' dx e1 e2 => ?_
  exact wpAny_pure (wpAny_pure (hq h' tk' dx e1 e2))
end

/-! HeapError.__init__ on a fault -/
abbrev PR : Program := PySem.Challenge.rw_pf0001_01.row.prog
theorem hi_super (w : World) : nsIn (KF w) mainGlobals "super" = some none := by kernel_rfl
theorem hi_boot : bootBuiltins "super" = some (.type "super") := by kernel_rfl
theorem hi_sub (w : World) : mroIn (KF w) 60 (.ref 47) = some true := by kernel_rfl
theorem hi_cls (w : World) : ((KF w).lookup 47).any (fun o => match o.data with | .cls _ => true | _ => false) = true := by kernel_rfl
theorem hi_keep {M : Model} {q x : Addr} (h : Heap) (hq : h.get? q = some (wrapObj x)) : ∃ k, (k = Keeper.frame ∨ k = Keeper.machine ∨ k = Keeper.boundFrame) ∧ Looks M h (keeperOf (.ref q)) k := by
  refine ⟨.machine, .inr (.inl rfl), fun A Q E s k qq => ?_⟩
  unfold keeperOf
  refine wpAny_bind (wpAny_load (k _ _ hq) ?_)
  dsimp only
  rw [if_pos (by decide), if_pos (by decide)]
  exact wpAny_pure qq
section
variable {w : World} {A : Around} {E : Value → Shared → Prop} {h g : Heap} {gs : Array GenState} {d : Drawn} {t : Nat} {os : OsState}
theorem init_ok (W : Wd w g) (st : Kp0 g h) {x t0 : Addr} {ox : Obj} {vs : Array Value} {v : Value} {Q : Value → Shared → Prop} (hxg : g.get? x = none) (hx : h.get? x = some ox) (hc : ox.cls = .ref 60) (hd : ox.data = .fields vs) (h0 : vs[0]? = some (.ref t0)) (hdn : ox.dict = none)
    (hA : A.depth + 1 < recursionLimit)
    (hq : ∀ h' tk dx t1, h'.get? x = some { cls := ox.cls, dict := some dx, data := .fields (vs.setIfInBounds 0 (.ref t1)), slots := ox.slots } → (∀ b ob, b ≠ x → h.get? b = some ob → h'.get? b = some ob) → Q .none ⟨h', gs, d, tk, os⟩) :
    wpAny (model PR w) A (call (.ref 37) [.ref x, v]) Q E ⟨h, gs, d, t, os⟩ := by
  have X := W.X.keeps st.stays
  obtain ⟨mg, mb, T⟩ := W.T
  have hx60 : x ≠ 60 := by
    rintro rfl
    rw [X _ _ (tf_at w)] at hx
    cases hx; cases hd
  obtain ⟨oD, hD1, cd, hD2⟩ : ∃ oD, (KF w).lookup 47 = some oD ∧ ∃ cd, oD.data = .cls cd := by
    cases q : (KF w).lookup 47 with
    | none => have := hi_cls w; rw [q] at this; cases this
    | some oD =>
      have := hi_cls w; rw [q] at this
      refine ⟨oD, rfl, ?_⟩
      obtain ⟨_, _, od, _⟩ := oD
      cases od with
      | cls cd => exact ⟨_, rfl⟩
      | _ => cases this
  refine wpAny_call (ks_codeAny_call_defAt (s := ⟨h, gs, d, t, os⟩) (a := 37) (by omega) (X _ _ (show (KF w).lookup 37 = some _ from by rfl)) rfl (T.nolimit.keeps st.stays) (codeRec_of X (by kernel_rfl)) rfl (binds := [("self", .ref x), ("what", v)]) (BindsTo.of_eq rfl) (by decide) (locs rfl) (fun h₁ hns hk => ?_))
  dsimp only at hns hk
  have hself : ∀ {h' : Heap}, (∀ b ob, h₁.get? b = some ob → h'.get? b = some ob) → h'.Ns h.objs.size (fun y => List.lookup y [(Str.ofString "what", v), (Str.ofString "self", .ref x)]) := fun k => hns.at' fun o e => k _ _ e
  have X₁ := X.keeps hk
  have st₁ : Kp0 g h₁ := st.trans (.of_stays hk)
  refine ks_wpAt_execs_cons (ks_wpAt_Expr_any (ks_wpAt_MethodCall ?_))
  refine ks_wpAt_super_base (f := 37) (cc := 36) rfl rfl rfl rfl (X₁ _ _ (show (KF w).lookup 37 = some _ from by rfl)) rfl rfl rfl (X₁ _ _ (show (KF w).lookup 36 = some _ from by rfl)) rfl rfl (by kernel_rfl) (by kernel_rfl) ?_
  refine ks_loadName_global rfl rfl (loadGlobal_builtin (T.g.keeps st₁.stays) (mg_none_of W.X T.g (hi_super w)) (T.b.keeps st₁.stays) ((T.builtins _ (by decide +kernel)).trans hi_boot) ⟨rfl, ?_⟩)
  refine wpAny_loadName_free (c := 25) rfl rfl rfl ⟨_, X₁ _ _ (show (KF w).lookup 25 = some _ from by rfl), rfl⟩ ?_
  refine wpAny_loadName_local rfl rfl (hself fun _ _ e => e) rfl ?_
  refine ks_wpAny_isType_cls (X₁ _ _ hD1) hD2 ⟨rfl, ?_⟩
  refine ks_wpAny_call_super (C := 60) (X₁ _ _ hD1) hD2 (hk _ _ hx) hc (fun c e => by rw [hd] at e; cases e) (looks_mroIn X₁ (hi_sub w)) (fun h₂ hso k₂ => ?_)
  have X₂ := X₁.keeps k₂
  have hx₂ := k₂ _ _ (hk _ _ hx)
  refine sx_method X₂ hso hx₂ hc hx60 ?_
  have k₃ : ∀ b ob, h₂.get? b = some ob → (h₂.push (wrapObj x)).get? b = some ob := fun _ _ e => Heap.get?_push_of_some _ e
  have hwr : (h₂.push (wrapObj x)).get? h₂.objs.size = some (wrapObj x) := Heap.get?_push_size _ rfl
  have X₃ := X₂.keeps k₃
  have hx₃ := k₃ _ _ hx₂
  refine callWith_of (P := fun hh => hh.get? h₂.objs.size = some (wrapObj x)) (by rfl) hi_keep (evalArgs_any (by rfl) ?_)
  refine wpAny_mono ?_ (fun _ _ z => z) fun _ _ z => z
  have e₃ : ∀ b ob, h₁.get? b = some ob → (h₂.push (wrapObj x)).get? b = some ob := fun b ob e => k₃ _ _ (k₂ _ _ e)
  generalize h₂.push (wrapObj x) = h₃ at *
  generalize h₂.objs.size = q at *
  refine wpAny_items_cons ?_ (by rfl)
  refine wpAny_Name (wpAny_loadName_local rfl rfl (hself e₃) rfl ?_) rfl
  refine wpAny_items_nil ⟨hwr, ?_⟩
  refine sx_init (rest := [v]) X₃ hwr hx₃ hc hd h0 (by simp [sizeLine_eq]) ?_
  have hxu : ((h₃.push { cls := .type "tuple", data := .seq [v].toArray }).update x (Obj.mapFields (·.setIfInBounds 0 (.ref h₃.objs.size)))).get? x = some (Obj.mapFields (·.setIfInBounds 0 (.ref h₃.objs.size)) ox) :=
    Heap.get?_update_self _ (Heap.get?_push_of_some _ hx₃) (Obj.isFreed_of_fields (Obj.data_mapFields hd _))
  have eo : Obj.mapFields (·.setIfInBounds 0 (.ref h₃.objs.size)) ox = { cls := ox.cls, dict := ox.dict, data := .fields (vs.setIfInBounds 0 (.ref h₃.objs.size)), slots := ox.slots } := by
    obtain ⟨oc, od, odt, osl⟩ := ox
    dsimp only at hd
    subst hd
    rfl
  rw [eo] at hxu
  have ku : ∀ b ob, b ≠ x → h₃.get? b = some ob → ((h₃.push { cls := .type "tuple", data := .seq [v].toArray }).update x (Obj.mapFields (·.setIfInBounds 0 (.ref h₃.objs.size)))).get? b = some ob :=
    fun b ob hb e => (Heap.get?_update_ne _ _ _ _ hb).trans (Heap.get?_push_of_some _ e)
  clear eo
  generalize h₃.objs.size = t1 at *
  generalize (h₃.push { cls := .type "tuple", data := .seq [v].toArray }).update x (Obj.mapFields (·.setIfInBounds 0 (.ref t1))) = h₄ at *
  have X₄ : (KF w).In h₄ := fun a o e => ku a o (fun z => by
    have := W.X _ _ e; rw [z, hxg] at this; cases this) (X₃ _ _ e)
  dsimp only
  have hL : h₄.Ns h.objs.size (fun y => List.lookup y [(Str.ofString "what", v), (Str.ofString "self", .ref x)]) := by
    refine hns.at' fun o e => ku _ _ (fun z => ?_) (e₃ _ _ e)
    exact absurd (Heap.lt_size hx) (by rw [z]; exact Nat.lt_irrefl _)
  refine PySem.wpAt_of_wpAny (wpAny_execs_cons (plainObj_wpAny_Assign_Attribute ?_))
  refine wpAny_Name (wpAny_loadName_local rfl rfl hL rfl ?_) rfl
  refine wpAny_Name (wpAny_loadName_local rfl rfl hL rfl ?_) rfl
  refine sw_attr X₄ hxu hc (fun c e => by cases e) hdn fun h₅ tk₅ dx e5 k5 => ?_
  walk_at "n"
  walk_at "z"
  exact hq _ _ dx t1 e5 fun b ob hb e => k5 _ _ hb (ku _ _ hb (e₃ _ _ (hk _ _ e)))
end

/-! a fault is made and raised -/
abbrev tfInst (dx t1 : Addr) : Obj := { cls := .ref 60, dict := some dx, data := .fields #[.ref t1, .none, .none, .none, .bool false, .none], slots := #[] }
section
variable {w : World} {A : Around} {E : Value → Shared → Prop} {s : Shared} {g : Heap} {env : Env}
theorem tf_make (W : Wd w g) (st : Kp0 g s.heap) {v : Value} {Q : Value → Shared → Prop} (hA : A.depth + 4 < recursionLimit)
    (hq : ∀ h' tk e dx t1, s.heap.get? e = none → h'.get? e = some (tfInst dx t1) → (∀ b ob, s.heap.get? b = some ob → h'.get? b = some ob) → Q (.ref e) { s with heap := h', toks := tk }) :
    wpAny (model PR w) A (call (.ref 60) [v]) Q E s := by
  obtain ⟨h, gs, d, t, os⟩ := s
  have X := W.X.keeps st.stays
  refine tf_call (rest := [v]) X (by simp [sizeLine_eq]) fun h' e hm => ?_
  obtain ⟨t0, he, htn, ht⟩ := hm.there
  have heg : g.get? e = none := by
    cases q : g.get? e with
    | none => rfl
    | some o => have := st.stays _ _ q; rw [show h.get? e = none from hm.new] at this; cases this
  refine init_ok W (st.trans (.of_stays hm.keeps)) heg he rfl rfl rfl rfl (by show A.depth + 1 + 1 < _; omega) fun h₂ tk dx t1 e2 k2 => ?_
  refine ⟨rfl, hq h₂ tk e dx t1 hm.new e2 fun b ob hb => k2 b ob (fun z => ?_) (hm.keeps b ob hb)⟩
  rw [z, show h.get? e = none from hm.new] at hb; cases hb
theorem tf_raiseStmt {M : Model} {x : Sem Value} {Q : Flow → Shared → Prop} (hh : A.handled = none)
    (h : wpAny M A x (fun v s₁ => ∃ e dx t1, v = .ref e ∧ (s₁.heap.get? 60 = some tfObj) ∧ s₁.heap.get? e = some (tfInst dx t1) ∧ E (.ref e) s₁) E s) :
    wpAny M A (raiseStmt env (some x) none) Q E s := by
  have hcB : (Value.ref 60 :: bmT).contains (.type "BaseException") = true := by decide
  unfold raiseStmt
  refine wpAny_bind (wpAny_mono h (fun v s₁ h₁ => ?_) fun _ _ x => x)
  obtain ⟨e, dx, t1, rfl, hC, he, hE⟩ := h₁
  obtain ⟨hp, g, d, tk, os⟩ := s₁
  repeat (first | with_reducible refine wpAny_loadPart_at he ?_ | with_reducible refine wpAny_loadPart_at hC ?_ | (with_reducible refine wpAny_isSubtype_exc hC ?_; rw [hcB]) | wp_step)
  exact wpAny_raiseNew_none hh hE
theorem tf_raise (W : Wd w g) {x : Str} {np cpos pos : Pos} {args : List PySem.Expr} {Q : Flow → Shared → Prop} (hh : A.handled = none) (hA : A.depth + 4 < recursionLimit)
    (h : wpAny (model PR w) A (eval (.Name x np) env) (fun f s₁ => f = .ref 60 ∧ wpAny (model PR w) A (spliced (backTo cpos (starEach args env))) (fun vs s₂ => Kp0 g s₂.heap ∧ ∃ v, vs = [v] ∧
        ∀ h' tk e dx t1, s₂.heap.get? e = none → h'.get? e = some (tfInst dx t1) → (∀ b ob, s₂.heap.get? b = some ob → h'.get? b = some ob) → E (.ref e) { s₂ with heap := h', toks := tk }) E s₁) E s)
    (hp : (backTo cpos (starEach args env)).any (·.1) = false := by rfl) :
    wpAny (model PR w) A (exec (.Raise (some (.Call (.Name x np) args [] cpos)) none pos) env) Q E s := by
  rw [arm_exec_Raise]
  refine wpAny_bind (wpAny_standAt ?_)
  show wpAny _ _ (raiseStmt env (some (do let v ← eval (.Call (.Name x np) args [] cpos) env; standAt pos; pure v)) none) _ _ _
  refine tf_raiseStmt hh (wpAny_bind (wpAny_mono (wpAny_Call_ofName (wpAny_mono h (fun f s₁ h₁ => ?_) fun _ _ x => x)) (fun v s₃ h₃ => wpAny_bind (wpAny_standAt (wpAny_pure h₃))) fun _ _ x => x))
  obtain ⟨rfl, h₁⟩ := h₁
  refine callWith_of (P := fun hh => (KF w).In hh) (by rw [hp]; rfl) (keeps_K (kk_tf w)) (evalArgs_any hp (wpAny_mono h₁ (fun vs s₂ h₂ => ?_) fun _ _ x => x))
  obtain ⟨st, v, rfl, h₂⟩ := h₂
  refine ⟨W.X.keeps st.stays, ?_⟩
  refine tf_make W st hA fun h' tk e dx t1 hn he k => ⟨e, dx, t1, rfl, ?_, he, h₂ h' tk e dx t1 hn he k⟩
  exact k _ _ (W.X.keeps st.stays _ _ (tf_at w))
end

/-! a fault in flight: through a loop, and out of a function -/
section
variable {M : Model} {A : Around} {E : Value → Shared → Prop} {s : Shared}
theorem fl_note {base : Heap} {env : Env} {outer : List Env} {L e : Addr} {oe : Obj} {vs : Array Value} {a0 : Value} {Q : Unit → Shared → Prop}
    (hfr : A.frames = some (env :: outer)) (hl : s.heap.FunFrames base (env :: outer)) (hf : env.frame = some L)
    (he : s.heap.get? e = some oe) (hkb : base.StaysIn s.heap) (hen : base.get? e = none) (hd : oe.data = .fields vs) (h1 : vs[1]? = some .none) (h0 : vs[0]? = some a0)
    (h : ∀ h', Heap.HeldW base (env :: outer) e oe.cls a0 L h' → s.heap.UpToSlots h' → Q () { s with heap := h' }) : wpAny M A (noteFrame (.ref e) env) Q E s := by
  unfold noteFrame
  simp only [hf]
  refine wpAny_bind (wpAny_field he hd h1 ?_)
  rw [if_neg (by decide)]
  refine wpAny_entryW hfr hl hf he hkb hen hd (Array.getElem?_eq_some_iff.mp h1).1 h0 fun h' hN => ?_
  obtain ⟨k1, k2, k3, k4⟩ := hN
  exact h h' ⟨k1, hen, k2, k3⟩ k4
theorem fl_again {base : Heap} {l : List Env} {e L : Addr} {cls a0 : Value} {Q : Unit → Shared → Prop} (hh : Heap.HeldW base l e cls a0 L s.heap)
    (hQ : ∀ h', Heap.HeldW base l e cls a0 L h' → s.heap.UpToSlots h' → Q () { s with heap := h' }) : wpAny M A (setFlight (.ref e) (some L)) Q E s := by
  obtain ⟨hkb, hen, hl, oe, vs, T, oT, ts, he, hcls, hd, h1, hnT, hTe, hT, hdT, h3⟩ := hh
  have hsz3 : 3 < ts.size := (Array.getElem?_eq_some_iff.mp h3).1
  have other : ∀ b, b ≠ T → (s.heap.update T (Obj.mapFields (·.setIfInBounds 3 ((some L : Option Addr).elim Value.none fun f => rawInt f)))).get? b = s.heap.get? b :=
    fun b hb => Heap.get?_update_other _ _ (Ne.symm hb)
  have noRecord : ∀ b o, s.heap.get? b = some o → (∀ vs, o.data ≠ .fields vs) → b ≠ T := fun b o hb hnf q => by
    rw [q, hT] at hb; injection hb with hb; subst hb; exact hnf ts hdT
  unfold setFlight
  refine wpAny_bind (wpAny_field he hd h1 ?_)
  rw [if_pos (show (Value.ref T != Value.none) = true from by simp)]
  refine wpAny_setField hT hdT hsz3 (hQ _ ⟨fun b o hbo => (other b fun q => by rw [q, hnT] at hbo; cases hbo).trans (hkb b o hbo), hen,
    (hl.of_keeps fun b o hb hnf => ⟨o, (other b (noRecord b o hb hnf)).trans hb, rfl⟩), ?_⟩ fun b o hb hnf => ⟨o.slots, (other b (noRecord b o hb hnf)).trans hb⟩)
  exact ⟨oe, vs, T, _, _, (other e (Ne.symm hTe)).trans he, hcls, hd, h1, hnT, hTe, Heap.get?_update_self _ hT (Obj.isFreed_of_fields (Obj.data_mapFields hdT _)), Obj.data_mapFields hdT _, by simp [hsz3]⟩
/-- out of a loop's own activation -/
theorem fl_loop {base : Heap} {env : Env} {outer : List Env} {L e : Addr} {oe : Obj} {vs : Array Value} {a0 : Value}
    (hfr : A.frames = some (env :: outer)) (hl : s.heap.FunFrames base (env :: outer)) (hf : env.frame = some L)
    (he : s.heap.get? e = some oe) (hkb : base.StaysIn s.heap) (hen : base.get? e = none) (hd : oe.data = .fields vs) (h1 : vs[1]? = some .none) (h0 : vs[0]? = some a0)
    (h : ∀ h', Heap.HeldW base (env :: outer) e oe.cls a0 L h' → s.heap.UpToSlots h' → E (.ref e) { s with heap := h' }) : notedBy M A env (cameBackBy M A env E) (.ref e) s := by
  unfold notedBy cameBackBy
  refine fl_note hfr hl hf he hkb hen hd h1 h0 fun h₁ hH k₁ => ?_
  have hH' := hH
  obtain ⟨_, _, _, oe', vs', T, oT, ts, he', hcls', hd', h1', hnT, hTe, hT, hdT, h3⟩ := hH'
  refine wpAny_bind (wpAny_field he' hd' h1' ?_)
  rw [if_neg (show ¬ ((Value.ref T == Value.none) = true) from by simp)]
  rw [hf]
  exact fl_again (s := { s with heap := h₁ }) hH fun h₂ hH₂ k₂ => h h₂ hH₂ (k₁.trans k₂)
/-- out of a function that noted it already -/
theorem fl_out {base : Heap} {env : Env} {outer : List Env} {L e : Addr} {cls a0 : Value} {Q : Unit → Shared → Prop} (hf : env.frame = some L)
    (hh : Heap.HeldW base (env :: outer) e cls a0 L s.heap) (hQ : ∀ h', Heap.FlyingW base outer e cls a0 h' → s.heap.UpToSlots h' → Q () { s with heap := h' }) : wpAny M A (leaving env (.ref e)) Q E s := by
  unfold leaving
  refine wpAny_bind (wpAny_noteFrame_againW hf hh.2.2.2 ?_)
  refine wpAny_landsW hh fun h' hfl k => ?_
  obtain ⟨k1, k2, ⟨_, _, k3⟩, k4⟩ := hfl
  walk_at "q"
  exact hQ h' ⟨k1, k2, k3, k4⟩ k
end
/-- the frames of a stack of functions, at a heap -/
def FrAt (h : Heap) (l : List Env) : Prop := ∀ env ∈ l, env.scope.kind ≠ .module ∧ ∃ L o, env.frame = some L ∧ h.get? L = some o ∧ ∀ vs, o.data ≠ .fields vs
def frs (l : List Env) : List Addr := l.filterMap (·.frame)
theorem FrAt.keeps {h h' : Heap} {l : List Env} (x : FrAt h l) (k : h.UpToSlots h') : FrAt h' l := fun env m => by
  obtain ⟨a, L, o, b, c, d⟩ := x env m
  obtain ⟨sl, e⟩ := k L o c d
  exact ⟨a, L, _, b, e, d⟩
theorem FrAt.fun {h : Heap} {as : List Addr} : ∀ {l : List Env}, FrAt h l → (∀ env ∈ l, ∀ a, env.frame = some a → a ∈ as) → h.FunFrames (hideAll h as) l
  | [], _, _ => trivial
  | env :: r, x, hin => by
    obtain ⟨a, L, o, b, c, d⟩ := x env (.head _)
    exact ⟨a, ⟨L, o, b, hideAll_none _ (hin env (.head _) L b), c, d⟩, FrAt.fun (fun e m => x e (.tail _ m)) fun e m => hin e (.tail _ m)⟩
section
variable {prog : Program} {w : World} {A : Around} {E : Value → Shared → Prop} {s : Shared} {g : Heap}
  {name qual : Str} {params : Arguments} {body : List Stmt} {scope : Scope} {dV kV doc pm cdv ct oc : Value} {an od : Option Addr} {osl : Array (Option Value)} {f : Addr} {S : Addr → Prop} {pos : List Value} {kw : List (Str × Value)} {binds l : List (Str × Value)} {Q : Value → Shared → Prop}
/-- a call of a def with cells that may raise -/
theorem callFCE (W : Wd w g) (st : Kp0 g s.heap) (ho : (KF w).lookup f = some ⟨oc, od, .func (fnOf name qual params body scope dV kV doc pm an cdv ct), osl⟩) (hcd : codeIn (KF w) cdv qual = true)
    (hroom : A.depth < recursionLimit) (hbind : BindsTo s (fnOf name qual params body scope dV kV doc pm an cdv ct) ⟨pos, kw⟩ binds)
    (hkind : (binds.all fun y => scope.names.lookup y.1 == some .local || scope.names.lookup y.1 == some .cell) = true)
    (el : (binds.filter fun y => decide ((envOfC qual scope 0 f cdv).kindOf y.1 = some .local)).reverse = l)
    (far : ∀ a, S a → g.get? a = none)
    (h : ∀ h₁ L tk, Bd g S s.heap L l h₁ → Kp0 s.heap h₁ → s.heap.get? L = none → (∀ n c, (cellsFrom (L + 1) scope.names []).lookup n = some c → h₁.IsCell c (bindC (envOfC qual scope L f cdv).kindOf binds (fun _ => none) n) ∧ s.heap.get? c = none ∧ c ≠ L) →
      wpAny (model prog w) (A.deeper (envOfC qual scope L f cdv)) (execs body (envOfC qual scope L f cdv)) (fun fl s' => Q (match fl with | .ret v => v | _ => .none) s')
        (fun e s' => wpAny (model prog w) (A.deeper (envOfC qual scope L f cdv)) (leaving (envOfC qual scope L f cdv) e) (fun _ s'' => E e s'') (fun e' s'' => E e' s'') s') { s with heap := h₁, toks := tk })
    (hco : scope.isCoroutine = false := by rfl) (hgen : scope.isGenerator = false := by rfl) (hk : scope.kind = .function := by rfl) :
    wpAny (model prog w) A (call (.ref f) pos kw) Q E s := by
  obtain ⟨mg, mb, T⟩ := W.T
  refine wpAny_call (codeAny_call_function (fd := fnOf name qual params body scope dV kV doc pm an cdv ct) hroom ((W.X.keeps st.stays) _ _ ho) rfl hco hgen rfl (codeRec_of (W.X.keeps st.stays) hcd) (hbind _ _ _ _ ?_))
  refine wpAny_newFunctionEnv_cells hk (kindsX hkind _) fun env' he s' x => ?_
  subst he
  obtain ⟨h₁, tk, rfl, hk₁⟩ := x.done
  have e : bindL (envOfC qual scope s.heap.objs.size f cdv).kindOf binds (fun _ => none) = mp l := by
    have := bindL_mp (envOfC qual scope s.heap.objs.size f cdv).kindOf binds []
    rw [mp_nil, List.append_nil] at this
    exact this.trans (congrArg mp el)
  refine ⟨(T.nolimit.keeps st.stays).keeps hk₁, codeAny_func (h h₁ s.heap.objs.size tk ⟨⟨_, e ▸ x.toInCall.ns, fun _ _ e => e⟩, Kp.of_stays hk₁, st.trans (.of_stays hk₁), st, .inl (fresh_size _), far⟩ (.of_stays hk₁) (fresh_size _) fun n c hc => ⟨x.cell n c hc, ?_, ?_⟩)⟩
  · have hlt := x.above n c (mem_of_lookup hc)
    exact Heap.get?_none_of_le (Nat.le_of_lt hlt)
  · exact Nat.ne_of_gt (x.above n c (mem_of_lookup hc))
end

theorem lg_small {k : Int} (h0 : 0 ≤ k) (h1 : k < 1000) : k.natAbs.log2 < 1920 := by
  have : k.natAbs < 2 ^ 10 := by omega
  have := Nat.log2_lt (n := k.natAbs) (k := 10)
  by_cases e : k.natAbs = 0
  · rw [e]; decide
  · have := (Nat.log2_lt e (k := 10)).mpr (by omega); omega
theorem lg_text {k : Int} (h0 : 0 ≤ k) (h1 : k < 1000) : (Str.empty ++ Str.ofString "no term has the number " ++ (toString k : String)).length ≤ sizeLine := by
  have e := int_text_length_le (a := k) (k := 10) (by decide) (by
    by_cases e : k.natAbs = 0
    · rw [e]; decide
    · exact (Nat.log2_lt e (k := 10)).mpr (by omega))
  rw [PySem.Str.length_append, show (Str.empty ++ Str.ofString "no term has the number ").length = 23 from by decide +kernel, sizeLine_eq]
  have e2 := PySem.ofString_length (toString k)
  omega
theorem FrAt.hid {h h₀ : Heap} {as : List Addr} : ∀ {l : List Env}, FrAt h l → (∀ env ∈ l, ∀ a, env.frame = some a → a ∈ as) → h.FunFrames (hideAll h₀ as) l
  | [], _, _ => trivial
  | env :: r, x, hin => by
    obtain ⟨a, L, o, b, c, d⟩ := x env (.head _)
    exact ⟨a, ⟨L, o, b, hideAll_none _ (hin env (.head _) L b), c, d⟩, FrAt.hid (fun e m => x e (.tail _ m)) fun e m => hin e (.tail _ m)⟩
theorem hideNone {h : Heap} {as : List Addr} {e : Addr} (hn : h.get? e = none) : (hideAll h as).get? e = none := by
  cases q : (hideAll h as).get? e with
  | none => rfl
  | some o => rw [of_hideAll _ q] at hn; cases hn
section
variable {w : World} {A : Around} {s : Shared} {g : Heap} {B : BA} {rows : List Nd} {Q E : Value → Shared → Prop}
theorem take_bad {op : Str} {ks : List Int} {v : Value} {t : Tok} {outer : List Env} (W : Wd w g) (st : Kp0 g s.heap) (hb : BankAt PR w s.heap B rows) (hsz : rows.length < 90000) (ho : op ∈ ltrs) (hv : IntSeq s.heap v ks) (hk : ks.length ≤ 2) (hA : Ao A 6)
    (hfr : A.frames = some outer) (hF : FrAt s.heap outer)
    (hm : (⟨op, ks⟩ : Nd) ∉ rows) (hpos : ∀ k ∈ ks, 0 ≤ k ∧ k < 1000) (hbad : ∃ k ∈ ks, (rows.length : Int) ≤ k)
    (hE : ∀ h' tk e Bs a0, (∀ b o, s.heap.get? b = some o → b ∉ frs outer → Bs.get? b = some o) → Heap.FlyingW Bs outer e (.ref 60) a0 h' → s.heap.UpToSlots h' → E (.ref e) { s with heap := h', toks := tk }) :
    wpAny (model PR w) A (call (.ref 98) [.ref B.b, .str op t, v] []) Q E s := by
  refine callFCE W st (by rfl) (by kernel_rfl) hA.room (binds := [("self", .ref B.b), ("op", .str op t), ("kids", v)]) (l := [("kids", v), ("op", .str op t)]) (S := No) (BindsTo.of_eq rfl) (by rfl) (by rfl) (fun _ q => q.elim) (fun h₁ L tk₁ B' kp0 hLn hcs => ?_)
  obtain ⟨hc, hcn, hcL⟩ := hcs "self" (L + 1) rfl
  change h₁.IsCell (L + 1) (some (.ref B.b)) at hc
  have hliv := hb.live
  have hLne : ∀ a ∈ B.all, a ≠ L := fun a ha q => by obtain ⟨o, ho⟩ := hliv a ha; rw [q, hLn] at ho; cases ho
  replace hb := hb.kp0 kp0
  replace hv := hv.kp0 kp0
  have hA' := fun env => (hA.le (show 5 + 1 ≤ 6 by omega)).deeper env
  walk_at "r"
  refine tupleNew (fun b h₂ k₂ htb => ?_) (by simp [sizeLine_eq])
  dsimp only at k₂
  replace B' := B'.step0 k₂
  replace hb := hb.kp0 k₂
  replace hv := hv.kp0 k₂
  replace hc := cell_kp hc k₂ id
  walk_at "r"
  refine tupOfSeq hv (by omega) fun a vs h₃ k₃ hta hi => ?_
  dsimp only at k₃
  have hlv := hi.length
  refine addTup (tup_kp htb k₃) hta (by simp) (by simp [sizeLine_eq]; omega) fun z h₄ k₄ htz => ?_
  dsimp only at k₄
  replace B' := (B'.step0 k₃).step0 k₄
  replace hb := (hb.kp0 k₃).kp0 k₄
  replace hc := cell_kp (cell_kp hc k₃ id) k₄ id
  walk_at "r"
  intro h₅ B' hs₅
  have k₅ : Kp (fun a => a = L) h₄ h₅ := Kp.same hs₅ rfl (by assumption : Bd g No s.heap L _ h₄).nt
  replace hb := hb.kp k₅ hLne
  replace hc := cell_kp hc k₅ hcL
  have hz : Rd h₅ (.ref z) (Nd.data ⟨op, ks⟩) := rd_kp (nd_rd (n := ⟨op, ks⟩) htz (by simpa using hi)) k₅
  have htz₅ := tup_kp htz k₅
  walk_at "r"
  refine numIn hb.nums hz (by show A.units + 3 + 3 < _; have := hA.units; omega) fun tk => ?_
  walk_at "s"
  refine itF (by simp [hm]) ?_
  walk_at "r"
  refine require_ok W (by exact B'.st) ho ((hA' _).le (by omega)) fun h₆ tk₆ k₆ => ?_
  dsimp only at k₆
  replace B' := B'.step0 k₆
  replace hb := hb.kp0 k₆
  replace hc := cell_kp hc k₆ id
  have htz₆ := tup_kp htz₅ k₆
  walk_at "r"
  refine forS (g := g) (S := No) (h₀ := s.heap) (L := L) (l := [("node", .ref z), ("kids", v), ("op", .str op t)]) ?_
  walk_at "r"
  refine ⟨z, _, rfl, htz₆, Nat.le_refl _, by simp, by simp [sizeLine_eq]; omega, fun d h₇ tk₇ k₇ htd => ?_⟩
  dsimp only at k₇
  replace B' := B'.step0 k₇
  replace hb := hb.kp0 k₇
  replace hc := cell_kp hc k₇ id
  have hliv₇ := hb.live
  have hdS : ¬ No d ∧ d ≠ L := by
    obtain ⟨o, ho, hcl, hdt⟩ := id htd
    exact ⟨id, fun q => B'.nt o (q ▸ ho) ⟨hcl, _, hdt⟩⟩
  refine ⟨_, _, [d], fun i h => BankAt PR w h B rows ∧ h.IsCell (L + 1) (some (.ref B.b)) ∧ ∀ j, j < i → ∀ k, ks[j]? = some k → k < (rows.length : Int), Src.tup (hA' _).handled htd (by simp [sizeLine_eq]; omega), B', ?_, ?_, ⟨hb, hc, fun j hj => absurd hj (Nat.not_lt_zero j)⟩, ?_, ?_, ?_⟩
  · intro a q; exact q.elim
  · intro b' hb'; rw [List.mem_singleton] at hb'; rw [hb']; exact hdS
  · rintro i h h' I hI ⟨x1, x2, x3⟩ k
    exact ⟨x1.kp k fun a ha q => (by obtain ⟨o, ho⟩ := hliv₇ a ha; rw [q, show _ = none from hI] at ho; cases ho), cell_kp x2 k fun q => (by obtain ⟨o, ho⟩ := cell_at hc; rw [q, show _ = none from hI] at ho; cases ho), x3⟩
  · rintro i x h₈ tk₈ Qt Et hQt - hEt hi' hP B₃ Bp ⟨x1, x2, x3⟩
    have hx : vs[i]? = some x := by simpa using hP
    have hil : i < ks.length := by have := (List.getElem?_eq_some_iff.mp hx).1; omega
    obtain ⟨u, hu'⟩ := hi.get i _ (List.getElem?_eq_getElem hil)
    have hkk := hpos _ (List.getElem_mem hil)
    have ekj := List.getElem?_eq_getElem hil
    generalize ks[i] = k at hu' hkk ekj
    rw [hx] at hu'; cases hu'
    obtain ⟨hk0, hk1⟩ := hkk
    refine wpAny_assign_Name (sL Bp (fun h₉ B₉ hs₉ => ?_))
    have k₉ : Kp (fun a => a = L) h₈ h₉ := Kp.same hs₉ rfl B₃.nt
    have hb₉ := x1.kp k₉ hLne
    have hc₉ := cell_kp x2 k₉ hcL
    walk_at "r"
    refine itT (decide_eq_true (by omega)) ?_
    obtain ⟨vs₉, hl₉, hv₉⟩ := id hb₉.nodes
    have hlen₉ : vs₉.length = rows.length := by rw [rdAll_length hv₉, List.length_map]
    walk_at "r"
    refine lenList (n := (rows.length : Nat)) hl₉.isList (by simp [hlen₉]) (by omega) fun u tk => ?_
    walk_at "r"
    by_cases hgood : k < (rows.length : Int)
    · refine itF (by simp; omega) ?_
      walk_at "r"
      walk_at "q"
      refine hQt _ _ (B₉.pop rfl) ⟨hb₉, hc₉, fun j hj k' hk' => ?_⟩
      rcases Nat.lt_succ_iff_lt_or_eq.mp hj with q | q
      · exact x3 j q k' hk'
      · rw [q, ekj] at hk'; cases hk'; exact hgood
    · refine itT (by simp; omega) ?_
      walk_at "n"
      walk_at "s"
      refine tf_raise W (hA' default).handled (by have := hA.depth; show A.depth + 1 + 4 < _; omega) ?_
      walk_at "s"
      refine ⟨rfl, ?_⟩
      refine wpAny_items_cons ?_ (by rfl)
      refine wpAny_JoinedStr ?_
      show wpAny _ _ (eval _ _) _ _ _
      walk_at "s"
      refine ⟨_, _, rfl, by rw [sizeLine_eq]; decide +kernel, ?_⟩
      show wpAny _ _ (eval _ _) _ _ _
      refine wpAny_FormattedValue_plain ?_
      walk_at "s"
      refine wpAny_formatField_int (lg_small hk0 hk1) ?_
      refine ⟨_, _, rfl, lg_text hk0 hk1, ?_⟩
      refine ⟨lg_text hk0 hk1, ?_⟩
      refine wpAny_items_nil ⟨B₉.st, _, rfl, fun h' tk' e dx t1 hn he kk => ?_⟩
      dsimp only at hn kk
      have B₀ := (B₃.comp B₉)
      have hfr' : ∀ env, (A.deeper env).frames = some (env :: outer) := fun env => Around.frames_deeper hfr
      have k0 : ∀ b o, s.heap.get? b = some o → h₉.get? b = some o := fun b o e => B₀.kp.keep b o e id
      obtain ⟨oL, hoL⟩ := B₉.at_
      have hLd : ∀ vs, oL.data ≠ .fields vs := fun vs q => by
        obtain ⟨m, ⟨o, es, ep, ho, hd, _⟩, _⟩ := B₉.ns
        rw [hoL] at ho; cases ho; rw [q] at hd; cases hd
      have hFe : ∀ env : Env, env.scope.kind = .function → env.frame = some L → FrAt h' (env :: outer) := fun env hkk hfe e' m => by
        rcases List.mem_cons.mp m with rfl | m
        · exact ⟨by rw [hkk]; decide, L, oL, hfe, kk _ _ hoL, hLd⟩
        · exact (hF.keeps (Heap.UpToSlots.of_keeps k0)).keeps (Heap.UpToSlots.of_keeps kk) e' m
      have hin : ∀ env : Env, ∀ e' ∈ env :: outer, ∀ a, e'.frame = some a → a ∈ frs (env :: outer) := fun env e' m a q => List.mem_filterMap.mpr ⟨e', m, q⟩
      walk_at "q"
      refine fl_loop (base := hideAll h₉ (frs (_ :: outer))) (outer := outer) (L := L) (hfr' _) (FrAt.hid (hFe _ rfl rfl) (hin _)) rfl he (fun b o q => kk _ _ (of_hideAll _ q)) (hideNone hn) rfl rfl rfl fun h₁₀ hH k₁₀ => ?_
      dsimp only at hH k₁₀
      refine fl_out rfl hH fun h₁₁ hFl k₁₁ => ?_
      dsimp only at k₁₁
      walk_at "q"
      refine hE h₁₁ _ e _ _ (fun b o q nm => hideAll_get _ (k0 b o q) fun m => ?_) hFl ((Heap.UpToSlots.of_keeps k0).trans ((Heap.UpToSlots.of_keeps kk).trans (k₁₀.trans k₁₁)))
      obtain ⟨e', m', q'⟩ := List.mem_filterMap.mp m
      rcases List.mem_cons.mp m' with rfl | m'
      · have : L = b := Option.some.inj q'
        rw [← this, hLn] at q; cases q
      · exact nm (List.mem_filterMap.mpr ⟨e', m', q'⟩)
  · rintro h₈ tk₈ B₈ ⟨_, _, hall⟩
    exfalso
    obtain ⟨k, hk', hbk⟩ := hbad
    obtain ⟨j, hj, rfl⟩ := List.mem_iff_getElem.mp hk'
    have := hall j (by simp [hlv]; omega) _ (List.getElem?_eq_getElem hj)
    omega
end

theorem Bd.stepF {g h₀ h h' : Heap} {S S' : Addr → Prop} {L : Addr} {l : List (Str × Value)} (B : Bd g S h₀ L l h) (k : Kp S' h h') (m : ∀ a, S' a → S a ∨ h₀.get? a = none ∨ a = L) (hns : ∀ m, h.Ns L m → h'.Ns L m) : Bd g S h₀ L l h' where
  ns := let ⟨f, a, b⟩ := B.ns; ⟨f, hns _ a, b⟩
  kp := B.kp.then k fun a o e q => (m a q).elim id fun z => z.elim (fun z => by rw [z] at e; cases e) fun z => B.lo.elim (fun u => by rw [z, u] at e; cases e) fun u => z ▸ u
  st := .of_stays fun a o e => k.keep a o (B.st.stays a o e) fun q => (m a q).elim (fun z => by rw [B.far a z] at e; cases e) fun z => z.elim (fun z => by
    have := B.st₀.stays a o e; rw [z] at this; cases this) fun z => by rw [z, B.gone] at e; cases e
  st₀ := B.st₀
  lo := B.lo
  far := B.far
theorem tf_exm (w : World) : exmOne (KF w) (.ref 60) (.ref 60) = some true := by kernel_rfl
section
variable {prog : Program} {w : World} {A : Around} {E : Value → Shared → Prop} {s : Shared} {g : Heap}
theorem tf_except {base : Heap} {env : Env} {outer : List Env} {L e : Addr} {a0 : Value} {np pos : Pos} {b₀ : Stmt} {suite : List Stmt} {Q : Flow → Shared → Prop} (W : Wd w g)
    (hfr : A.frames = some (env :: outer)) (hf : env.frame = some L) (hFl : Heap.FlyingW base (env :: outer) e (.ref 60) a0 s.heap) (hg : ∀ h', base.StaysIn h' → Kp0 g h')
    (h : ∀ h', base.StaysIn h' → s.heap.UpToSlots h' → wpAny (model prog w) (A.mark (some (.ref e))) (execs (b₀ :: suite) env) Q (fun _ _ => False) { s with heap := h' })
    (hk : env.scope.kind = .function := by rfl) (hx : env.kindOf "TermFault" = some .globalImplicit := by rfl) (hgl : env.globals = mainGlobals := by rfl) :
    wpAny (model prog w) A (noteFrame (.ref e) env) (fun _ s₂ => wpAny (model prog w) A (setFlight (.ref e) none) (fun _ s₃ =>
      wpAny (model prog w) A (handleBy (.ref e) env [.ExceptHandler (some (.Name "TermFault" np)) none (b₀ :: suite) pos]) Q E s₃) E s₂) E s := by
  obtain ⟨mg, mb, T⟩ := W.T
  refine wpAny_looks_onW hfr hf hFl fun h₄ hheld₄ hsm₄ => ?_
  refine wpAny_landsW hheld₄ fun h₅ hfl₅ hsm₅ => ?_
  dsimp only at hsm₅
  have st₅ := hg h₅ hfl₅.1
  obtain ⟨ob, hob, hobc⟩ := hfl₅.there
  have LT : Looks (model prog w) h₅ (typeOf (.ref e)) (.ref 60) := by
    have z : Looks (model prog w) h₅ (typeOf (.ref e)) ob.cls := (Looks.ld hob).andThen .now
    rw [hobc] at z
    exact z
  refine wpAny_handleBy_cons (codeAny_handlers_test ?_) (by intro q; cases q)
  refine Name_function_global hk hx (loadGlobal_global (hgl ▸ T.g.keeps st₅.stays) (mg_of W.X T.g (kn_tf w)) ?_) (by decide)
  refine (exm_one (W.X.keeps st₅.stays) LT (tf_exm w)).here ?_
  rw [if_pos rfl]
  refine codeAny_handlers_suite ?_
  refine lands_againW hfl₅ fun h₆ hfl₆ hsm₆ => ?_
  dsimp only at hsm₆
  exact wpAny_mono (h h₆ hfl₆.1 (hsm₄.trans (hsm₅.trans hsm₆))) (fun _ _ q => q) fun _ _ q => q.elim
end
section
variable {prog : Program} {w : World} {A : Around} {s : Shared} {Q E : Value → Shared → Prop}
theorem eqNilI {a b : Addr} {ys : List Value} {ns : List Int} (ha : s.heap.PlainList a ys.toArray) (hi : IntsAre ys ns) (hb : s.heap.PlainList b #[]) (hu : A.units + 3 < cLine) (h : Q (.bool (decide (ns = []))) s) : wpAny (model prog w) A (compareOp .Eq (.ref a) (.ref b)) Q E s := by
  obtain ⟨n, ea⟩ := ha
  obtain ⟨m, eb⟩ := hb
  refine PySem.EqBoolInt.of_rc (PySem.SeqAt.rcAt_reads (da := .list (ns.map .int)) (db := .list []) (.list ea rfl rfl (by simpa using ints_rdAll hi)) (.list eb rfl rfl .nil) (by rw [PyData.canLay0, canLay_ints]) (by simp [PyData.canLay0, PyData.canLayAll0]) (by simp [PyData.depth, PyData.depthAll, depth_ints]; omega)) ?_
  have e := eqvAll_ints ns []
  rw [List.map_nil] at e
  simpa [PyData.eqv, e] using h
end

/-! a for loop over a range, whose body may turn what is new since the call, its iterator excepted -/
def Tw (S : Addr → Prop) (L : Addr) (h₀ : Heap) (I : Addr) (a : Addr) : Prop := S a ∨ a = L ∨ (h₀.get? a = none ∧ a ≠ I)
section
variable {prog : Program} {w : World} {A : Around} {E : Value → Shared → Prop} {env : Env} {g : Heap} {S : Addr → Prop}
theorem Bd.hereT {h₀ h : Heap} {L I : Addr} {l : List (Str × Value)} (B : Bd g S h₀ L l h) : Bd g (Tw S L h₀ I) h L l h :=
  ⟨B.ns, .refl, B.st, B.st, .inr (.inr (.inl rfl)), fun a q => by
    rcases q with q | q | q
    · exact B.far a q
    · exact q ▸ B.gone
    · cases e : g.get? a with
      | none => rfl
      | some o => have := B.st₀.stays a o e; rw [q.1] at this; cases this⟩
theorem Bd.compT {h₀ h h' : Heap} {L I : Addr} {l l' : List (Str × Value)} (B : Bd g S h₀ L l h) (B' : Bd g (Tw S L h₀ I) h L l' h') : Bd g S h₀ L l' h' where
  ns := B'.ns
  kp := ⟨fun a o e n => B'.kp.keep a o (B.kp.keep a o e n) (fun q => by
    rcases q with q | q | q
    · exact n q
    · exact B.ne e n q
    · rw [q.1] at e; cases e), fun a o e c => B'.kp.tup a o (B.kp.tup a o e c) c⟩
  st := B'.st
  st₀ := B.st₀
  lo := B.lo
  far := B.far
/-- what is new in the body -/
theorem Bd.newT {h₀ h h' : Heap} {L I a : Addr} {l l' : List (Str × Value)} (B : Bd g S h₀ L l h) (B' : Bd g (Tw S L h₀ I) h L l' h') (hI : ∃ o, h.get? I = some o) (e : h'.get? a = none) : Tw S L h₀ I a ∧ a ≠ L := by
  refine ⟨?_, (B'.new e).2⟩
  rcases (B'.new e).1 with q | q
  · exact q
  · rcases (B.new q).1 with z | z
    · exact .inl z
    · exact .inr (.inr ⟨z, fun y => by obtain ⟨o, ho⟩ := hI; rw [← y, q] at ho; cases ho⟩)
theorem mp_sub {l l' : List (Str × Value)} (h : ∀ p ∈ l', mp l p.1 = some p.2) : ∀ y v, mp l' y = some v → mp l y = some v := fun y v e => h (y, v) (mem_of_lookup e)
/-- what is to be shown where the range stands -/
inductive FortEnd {α : Type} (prog : Program) (w : World) (A : Around) (E : Value → Shared → Prop) (env : Env) (g : Heap) (S : Addr → Prop) (target : PySem.Expr) (body : List Stmt) (h₀ : Heap) (L : Addr) (lf : α → List (Str × Value)) (Q : Flow → Shared → Prop) (xv : Value) (s₁ : Shared) : Prop
  | mk (r : Addr) (n : Nat) (t u v : Tok) (hx : xv = .ref r) (hr : IsRange s₁.heap r 0 (n : Int) 1 t u v) (hsz : n < 100000) (J : Addr → Nat → α → Heap → Prop) (liveS : ∀ a, S a → ∃ o, s₁.heap.get? a = some o)
      (x₀ : α) (B : Bd g S h₀ L (lf x₀) s₁.heap) (j0 : ∀ I, s₁.heap.get? I = none → J I 0 x₀ s₁.heap) (stab : ∀ i x h h' I, s₁.heap.get? I = none → J I i x h → Kp (fun a => a = I) h h' → J I i x h')
      (turn : ∀ I i x (ti : Tok) h₃ tk₃ (Qb : Flow → Shared → Prop) (Eb : Value → Shared → Prop), (∀ x' h' tk', Bd g (Tw S L h₀ I) h₃ L (lf x') h' → J I (i + 1) x' h' → Qb .next { s₁ with heap := h', toks := tk' }) →
        i < n → s₁.heap.get? I = none → (∃ o, h₃.get? I = some o) → Bd g S h₀ L (lf x) h₃ → Bd g (Tw S L h₀ I) h₃ L (lf x) h₃ → J I i x h₃ →
        wpAny (model prog w) A (assign target env (.int (i : Int) ti)) (fun _ s₄ => wpAny (model prog w) A (execs body env) Qb Eb s₄) Eb { s₁ with heap := h₃, toks := tk₃ })
      (fin : ∀ I x h' tk, s₁.heap.get? I = none → Bd g S h₀ L (lf x) h' → J I n x h' → Q .next { s₁ with heap := h', toks := tk }) : FortEnd prog w A E env g S target body h₀ L lf Q xv s₁
theorem forT {s : Shared} {target iter : PySem.Expr} {body : List Stmt} {pos : Pos} {Q : Flow → Shared → Prop} {h₀ : Heap} {L : Addr} {α : Type} {lf : α → List (Str × Value)} (hh : A.handled = none)
    (h : wpAny (model prog w) A (eval iter env) (fun xv s₁ => FortEnd prog w A E env g S target body h₀ L lf Q xv s₁) E s)
    (ht : ∀ it v, letOwnedTupleGo target it v = pure () := by intro _ _; rfl) (hs : ∀ x, foldedSetIterable iter env x = pure x := by intro _; rfl) :
    wpAny (model prog w) A (exec (.For target iter body [] pos) env) Q E s := by
  refine forR (wpAny_mono h (fun xv s₁ h₁ => ?_) fun _ _ q => q) ht hs
  obtain ⟨r, n, t, u, v, rfl, hr, hsz, J, liveS, x₀, B, j0, stab, turn, fin⟩ := h₁
  have hI : s₁.heap.get? s₁.heap.objs.size = none := fresh_size _
  have hn : Builtin.Range.rangeSize 0 (n : Int) 1 = (n : Int) := by rw [rangeSize_one]; split <;> omega
  have W : Walks prog w A s₁.heap.objs.size [s₁.heap.objs.size] [s₁.heap.objs.size] n (fun i v => ∃ t, v = .int (i : Int) t) (fun i h => IsRangeIter h s₁.heap.objs.size (0 + (i : Nat) * 1) ((n : Int) - (i : Nat)) 1) := by
    have W₀ := (Walks.range (prog := prog) (w := w) hh s₁.heap.objs.size 0 1 n)
    have eP : (fun (i : Nat) (x : Value) => ∃ t, x = .int (0 + (i : Int) * 1) t) = fun (i : Nat) (x : Value) => ∃ t, x = .int (i : Int) t := by funext i x; simp
    rw [eP] at W₀; exact W₀
  refine wpAny_pyIter_range hr (small_one (by omega) (by omega) (by omega) (by omega)) ((fun (key : ∀ h₂, Kp0 s₁.heap h₂ → IsRangeIter h₂ s₁.heap.objs.size (0 + ((0 : Nat) : Int) * 1) ((n : Int) - (0 : Nat)) 1 →
    ∃ I fp wr n P St J, Value.ref s₁.heap.objs.size = .ref I ∧ Walks prog w A I fp wr n P St ∧ St 0 h₂ ∧ FoBody prog w A E env target body fp wr n P St J { s₁ with heap := h₂ } Q) => key _ (.push _) (by show IsRangeIter _ _ _ _ _; rw [hn]; simpa using Heap.get?_push_size _ rfl)) ?_)
  intro h₂ k₂ hst
  generalize s₁.heap.objs.size = I at *
  obtain ⟨oL, hL⟩ := B.at_
  have hIL : I ≠ L := fun q => by rw [q, hL] at hI; cases hI
  have hIS : ¬ S I := fun q => by obtain ⟨o, ho⟩ := liveS I q; rw [hI] at ho; cases ho
  have one : ∀ (a : Addr), a ∈ [I] → a = I := fun a q => List.mem_singleton.mp q
  have turnI : ∀ {x : α} {h h' : Heap}, Bd g S h₀ L (lf x) h → Kp (fun a => a ∈ [I]) h h' → Bd g S h₀ L (lf x) h' := fun B' k => B'.step k fun a q => by
    rw [one a q]; exact ⟨(B.new hI).1, hIL⟩
  refine ⟨I, [I], [I], n, _, _, fun i h => ∃ x, Bd g S h₀ L (lf x) h ∧ J I i x h, rfl, W, hst, ⟨fun i h x => rangeIter_nt x, ⟨x₀, B.step0 k₂, stab _ _ _ _ I hI (j0 I hI) k₂.of0⟩, fun i h h' hj k => ?_, fun i v s₃ hi hP st hj hs₃ => ?_, fun h' tk' hj => ?_⟩⟩
  · obtain ⟨x, h1, h2⟩ := hj
    exact ⟨x, turnI h1 k, stab _ _ _ _ I hI h2 (k.mono one)⟩
  · obtain ⟨ti, rfl⟩ := hP
    obtain ⟨x, h1, h2⟩ := hj
    have back : ∀ x' h' , Bd g (Tw S L h₀ I) s₃.heap L (lf x') h' → ∀ b ∈ [I], ∀ o, s₃.heap.get? b = some o → h'.get? b = some o := fun x' h' B' b hb o e => B'.kp.keep b o e fun q => by
      rw [one b hb] at q
      rcases q with q | q | q
      · exact hIS q
      · exact hIL q
      · exact q.2 rfl
    obtain ⟨h₃, tk₃, rfl⟩ := hs₃
    exact turn I i x ti h₃ tk₃ _ _ (fun x' h' tk' B' hJ => ⟨h', tk', rfl, back x' h' B', x', h1.compT B', hJ⟩) hi hI ⟨_, st⟩ h1 h1.hereT h2
  · obtain ⟨x, h1, h2⟩ := hj
    exact fin I x h' tk' hI h1 h2
end

theorem paired_eq : ∀ {a b : List Value}, Paired (fun v y => y = v) a b → b = a
  | _, _, .nil => rfl
  | _, _, .cons e r => by rw [e, paired_eq r]
theorem ints_filter {n : Nat} : ∀ {vs : List Value} {ks : List Int}, IntsAre vs ks → IntsAre (vs.filter fun v => match v with | .int k _ => decide ((n : Int) ≤ k) | _ => false) (ks.filter fun k => decide ((n : Int) ≤ k))
  | _, _, .nil => .nil
  | _, _, .cons k t r => by
    rw [List.filter_cons, List.filter_cons]
    dsimp only
    by_cases h : (n : Int) ≤ k
    · rw [if_pos (decide_eq_true h), if_pos (decide_eq_true h)]; exact .cons k t (ints_filter r)
    · rw [if_neg (by simpa using h), if_neg (by simpa using h)]; exact ints_filter r
section
variable {w : World} {A : Around} {s : Shared} {g : Heap} {B : BA} {rows : List Nd} {Q E : Value → Shared → Prop}
theorem taken_ok {op : Str} {ks : List Int} {vs : List Value} {ka rl : Addr} {t : Tok} {outer : List Env} (W : Wd w g) (st : Kp0 g s.heap) (hb : BankAt PR w s.heap B rows) (hr : RowsAt s.heap rl rows) (ok : RowsOk rows) (hsz : rows.length < 800) (ho : op ∈ ltrs)
    (hv : IsTup s.heap ka vs.toArray) (hi : IntsAre vs ks) (hk : ks.length ≤ 2) (hpos : ∀ k ∈ ks, 0 ≤ k ∧ k < 1000) (hA : Ao A 8)
    (hfr : A.frames = some outer) (hF : FrAt s.heap outer) (hns : ∀ a ∈ frs outer, ∃ m, s.heap.Ns a m)
    (hfar : ∀ a ∈ B.all, g.get? a = none) (hfl : g.get? rl = none) (hff : ∀ a ∈ frs outer, g.get? a = none) (hrB : rl ∉ B.all) (hrF : rl ∉ frs outer) (hBF : ∀ a ∈ B.all, a ∉ frs outer)
    (hQ : ∀ h' tk rows', Kp (fun a => B.S a ∨ a = rl ∨ a ∈ frs outer) s.heap h' → (∀ a ∈ frs outer, ∀ m, s.heap.Ns a m → h'.Ns a m) → BankAt PR w h' B rows' → RowsAt h' rl rows' →
      (rows' = rows ∨ (rows' = rows ++ [⟨op, ks⟩] ∧ (⟨op, ks⟩ : Nd) ∉ rows ∧ ∀ k ∈ ks, 0 ≤ k ∧ k < rows.length)) → Q (.bool true) { s with heap := h', toks := tk }) :
    wpAny (model PR w) A (call (.ref 225) [.ref B.b, .ref rl, .str op t, .ref ka] []) Q E s := by
  have hSf : ∀ a, (B.S a ∨ a = rl ∨ a ∈ frs outer) → g.get? a = none := by
    rintro a (q | q | q)
    · exact hfar a (by rcases q with q | q | q | q <;> simp [BA.all, q])
    · rw [q]; exact hfl
    · exact hff a q
  refine callFC W st (by rfl) (by kernel_rfl) hA.room (binds := [("bank", .ref B.b), ("rows", .ref rl), ("op", .str op t), ("kids", .ref ka)]) (l := [("kids", .ref ka), ("op", .str op t), ("bank", .ref B.b)]) (S := fun a => B.S a ∨ a = rl ∨ a ∈ frs outer) (BindsTo.of_eq rfl) (by rfl) (by rfl) hSf (fun h₁ L tk₁ B' kp0 hLn hcs => ?_)
  obtain ⟨hc, hcn, hcL⟩ := hcs "rows" (L + 1) rfl
  change h₁.IsCell (L + 1) (some (.ref rl)) at hc
  walk_at "r"
  have hrL : rl ≠ L := fun q => by obtain ⟨o, ho⟩ := hr.at_; rw [q, hLn] at ho; cases ho
  have hb₀ := hb
  have hr₀ := hr
  replace hb := hb.kp0 kp0
  replace hr := hr.kp kp0 id
  replace hv := tup_kp hv kp0
  have hlv := hi.length
  refine wpAny_ListComp_free (cl := [("rows", L + 1)]) (p := fun v => match v with | .int k _ => decide ((rows.length : Int) ≤ k) | _ => false) (F := fun v y => y = v) rfl (by decide) rfl (by decide) rfl ?_
  walk_at "r"
  refine (Src.tup (A := A.deeper _) (hA.deeper _).handled hv (by simp [sizeLine_eq]; omega)).go _ _ _ (by rfl) fun I h₂ tk₂ St k₂ hI Wk hst nt hI₂ => ?_
  dsimp only
  have hfpl : ∀ b ∈ [I, ka], b < h₂.objs.size := by
    intro b hb
    rcases List.mem_cons.mp hb with rfl | hb
    · exact Heap.lt_size hI₂.choose_spec
    · rw [List.mem_singleton] at hb; subst hb
      obtain ⟨o, ho, _⟩ := hv
      exact Heap.lt_size (k₂.stays _ _ ho)
  refine ⟨I, [I, ka], [I], _, _, St, rfl, Wk, by simp [sizeLine_eq]; omega, hst, hfpl, ⟨?_, ?_⟩, ?_⟩
  · intro C i v s₃ m₃ E' hC hP hn hm hk ht
    rw [List.forIn_cons, if_pos rfl]
    refine wpAny_bind (wpAny_bind ?_)
    have hx : vs[i]? = some v := by simpa using hP
    have hil : i < ks.length := by have := (List.getElem?_eq_some_iff.mp hx).1; omega
    obtain ⟨u, hu'⟩ := hi.get i _ (List.getElem?_eq_getElem hil)
    have hkk := hpos _ (List.getElem_mem hil)
    generalize ks[i] = k at hu' hkk
    rw [hx] at hu'; cases hu'
    have hInone : ∀ {a : Addr} {o : Obj}, h₁.get? a = some o → a ∉ [I] := fun e q => by rw [List.mem_singleton] at q; rw [q, hI] at e; cases e
    have k₃ : Kp0 h₁ s₃.heap := .of_stays fun b o e => hk b o (hInone e) (k₂.stays _ _ e)
    have hCg : g.get? C = none := by
      cases q : g.get? C with
      | none => rfl
      | some o => exact (Nat.lt_irrefl _ (Nat.lt_of_lt_of_le (Heap.lt_size ((B'.st.trans k₂).stays _ _ q)) hC)).elim
    have B₃ : Bd g (· = C) s₃.heap C [("kid", .int k u)] s₃.heap := ⟨⟨_, hn, fun y v e => by
      unfold mp at e
      rw [List.lookup_cons] at e
      by_cases q : y = "kid"
      · subst q; simp at e; rw [← e]; exact hm
      · rw [show (y == ("kid" : Str)) = false from by simpa using q] at e; cases e⟩, .refl, B'.st.trans k₃, B'.st.trans k₃, .inr rfl, fun a q => q ▸ hCg⟩
    have hc₃ := cell_kp hc k₃ id
    have hr₃ := hr.kp k₃ id
    walk_at "r"
    obtain ⟨vs₃, hl₃, hv₃⟩ := id hr₃
    have hlen₃ : vs₃.length = rows.length := by rw [rdAll_length hv₃, List.length_map]
    refine lenList (n := (rows.length : Nat)) hl₃.isList (by simp [hlen₃]) (by omega) fun u' tk => ?_
    walk_at "r"
    refine wpAny_pure ?_
    show wpAny _ _ (forIn [] _ _) _ _ _
    rw [List.forIn_nil]
    refine wpAny_pure ⟨?_, _, _, rfl, fun _ _ e => e⟩
    simp
  · intro C i v s₃ m₃ E' hC hP hpv hn hm hk ht
    exact wpAny_Name (wpAny_loadName_local rfl rfl hn hm ⟨rfl, _, _, rfl, fun _ _ e => e⟩) rfl
  · intro D h₃ tk₃ ys vs' hD hl hp hlen hPv hpair hkp
    have evs : vs' = vs := by
      refine List.ext_getElem (by simpa using hlen) fun j h1 h2 => ?_
      have := hPv j _ (List.getElem?_eq_getElem h1)
      rw [List.getElem?_toArray] at this
      rw [List.getElem?_eq_getElem h2] at this
      exact (Option.some.inj this).symm
    subst evs
    have eys := paired_eq hpair
    have hiy : IntsAre ys.toList (ks.filter fun k => decide ((rows.length : Int) ≤ k)) := by rw [eys]; exact ints_filter hi
    obtain ⟨yl, rfl⟩ : ∃ yl : List Value, ys = yl.toArray := ⟨ys.toList, by simp⟩
    have hInone : ∀ {a : Addr} {o : Obj}, h₁.get? a = some o → a ∉ [I] := fun e q => by rw [List.mem_singleton] at q; rw [q, hI] at e; cases e
    have k₃ : Kp0 h₁ h₃ := .of_stays fun b o e => hkp b o (hInone e) (k₂.stays _ _ e)
    replace B' := B'.step0 k₃
    replace hb := hb.kp0 k₃
    replace hr := hr.kp k₃ id
    replace hv := tup_kp hv k₃
    replace hc := cell_kp hc k₃ id
    walk_at "r"
    refine listNew (fun b h₄ k₄ hbn hl₄ => ?_) (by simp [sizeLine_eq])
    dsimp only at k₄ hbn
    refine eqNilI (plain_kp hp k₄ id) (by simpa using hiy) hl₄ (by have := hA.units; show A.units + 3 + 3 < _; omega) ?_
    replace B' := B'.step0 k₄
    replace hb := hb.kp0 k₄
    replace hr := hr.kp k₄ id
    replace hv := tup_kp hv k₄
    replace hc := cell_kp hc k₄ id
    walk_at "r"
    intro h₅ B' hs₅
    have k₅ : Kp (fun a => a = L) h₄ h₅ := Kp.same hs₅ rfl (by assumption : Bd g _ s.heap L _ h₄).nt
    replace hb := hb.kp k₅ fun a ha q => by obtain ⟨o, ho⟩ := hb₀.live a ha; rw [q, hLn] at ho; cases ho
    replace hr := hr.kp k₅ hrL
    replace hv := tup_kp hv k₅
    replace hc := cell_kp hc k₅ hcL
    generalize hlet : decide (List.filter (fun k => decide ((rows.length : Int) ≤ k)) ks = []) = il at *
    walk_at "r"
    have stay : ∀ b o, s.heap.get? b = some o → h₅.get? b = some o := fun b o e => k₅.keep b o (k₄.stays _ _ (k₃.stays _ _ (kp0.stays _ _ e))) fun q => by rw [q, hLn] at e; cases e
    have hAll : ∀ a ∈ B.all, a ≠ L := fun a ha q => by obtain ⟨o, ho⟩ := hb₀.live a ha; rw [q, hLn] at ho; cases ho
    have hBS : ∀ a, B.S a → a ∈ B.all := fun a q => by rcases q with q | q | q | q <;> simp [BA.all, q]
    have hA' := fun env => (hA.le (show 7 + 1 ≤ 8 by omega)).deeper env
    have hLF : L ∉ frs outer := fun q => by obtain ⟨m, o, _, _, ho, _⟩ := hns L q; rw [hLn] at ho; cases ho
    have hkeepF : ∀ h', Kp (fun a => B.S a ∨ a = L ∨ a = rl) h₅ h' → ∀ a ∈ frs outer, ∀ m, s.heap.Ns a m → h'.Ns a m := fun h' k a ha m x =>
      x.at' fun o e => k.keep a o (stay a o e) fun q => by
        rcases q with q | q | q
        · exact hBF a (hBS a q) ha
        · exact hLF (q ▸ ha)
        · exact hrF (q ▸ ha)
    refine wpAny_Try_except ?_
    walk_at "r"
    cases il with
    | true =>
      have hsm : ∀ k ∈ ks, 0 ≤ k ∧ k < (rows.length : Int) := fun k hk' => ⟨(hpos k hk').1, by
        have := of_decide_eq_true hlet
        rw [List.filter_eq_nil_iff] at this
        have := this k hk'
        simpa using this⟩
      refine take_ok W (by exact Bd.st (by assumption)) hb ok (by omega) ho ⟨_, _, rfl, hi, .inl hv⟩ hk ((hA' _).le (by omega)) hfar (fun _ => hsm) fun u h₆ tk₆ k₆ hb₆ => ?_
      dsimp only at k₆
      have hrS : ¬ B.S rl := fun q => hrB (hBS _ q)
      replace B' := Bd.step (by assumption) k₆ fun a q => ⟨Or.inl (Or.inl q), hAll a (hBS a q)⟩
      have hcS : ¬ B.S (L + 1) := fun q => by obtain ⟨o, ho⟩ := hb₀.live _ (hBS _ q); rw [hcn] at ho; cases ho
      have hr₆ := hr.kp k₆ hrS
      have hc₆ := cell_kp hc k₆ hcS
      have hv₆ := tup_kp hv k₆
      show wpAny _ _ (storeName _ _ _) _ _ _
      walk_at "r"
      intro h₇ B' hs₇
      have k₇ : Kp (fun a => a = L) h₆ h₇ := Kp.same hs₇ rfl (by assumption : Bd g _ s.heap L _ h₆).nt
      replace hb₆ := hb₆.kp k₇ hAll
      replace hr₆ := hr₆.kp k₇ hrL
      replace hc₆ := cell_kp hc₆ k₇ hcL
      replace hv₆ := tup_kp hv₆ k₇
      walk_at "n"
      walk_at "r"
      refine isTrue_plain ?_
      walk_at "r"
      refine itT rfl ?_
      walk_at "r"
      refine tupleNew (fun b h₈ k₈ htb => ?_) (by simp [sizeLine_eq])
      dsimp only at k₈
      replace B' := Bd.step0 (by assumption) k₈
      replace hb₆ := hb₆.kp0 k₈
      replace hr₆ := hr₆.kp k₈ id
      replace hc₆ := cell_kp hc₆ k₈ id
      replace hv₆ := tup_kp hv₆ k₈
      walk_at "r"
      refine addTup htb hv₆ (by simp) (by simp [sizeLine_eq]; omega) fun z h₉ k₉ htz => ?_
      dsimp only at k₉
      replace B' := B'.step0 k₉
      replace hb₆ := hb₆.kp0 k₉
      replace hr₆ := hr₆.kp k₉ id
      replace hc₆ := cell_kp hc₆ k₉ id
      replace hv₆ := tup_kp hv₆ k₉
      have hz : Rd h₉ (.ref z) (Nd.data ⟨op, ks⟩) := nd_rd (n := ⟨op, ks⟩) htz (by simpa using hi)
      walk_at "r"
      refine notInRows hr₆ (fun nd q => (ok.op nd q).1) hz ho (by have := hA.units; show A.units + 3 + 3 < _; omega) ?_
      walk_at "r"
      generalize hnd : (⟨op, ks⟩ : Nd) = nd at *
      have hndo : nd.op ∈ ltrs := by rw [← hnd]; exact ho
      have hndk : ∀ k ∈ nd.kids, 0 ≤ k ∧ k < (rows.length : Int) := by rw [← hnd]; exact hsm
      by_cases hm : nd ∈ rows
      · refine itF (by simp [hm]) ?_
        walk_at "r"
        refine itF rfl ?_
        walk_at "r"
        refine itT rfl ?_
        walk_at "r"
        obtain ⟨vsx, hpx, hvx⟩ := id hr₆
        refine gmList (by exact hpx) PySem.F.slot_list_index PySem.F.type_list_index ?_
        walk_at "r"
        refine tupleNew (fun b hx kx htbx => ?_) (by simp [sizeLine_eq])
        dsimp only at kx
        replace B' := Bd.step0 (by assumption) kx
        replace hb₆ := hb₆.kp0 kx
        replace hr₆ := hr₆.kp kx id
        replace hv₆ := tup_kp hv₆ kx
        walk_at "r"
        refine addTup htbx hv₆ (by simp) (by simp [sizeLine_eq]; omega) fun z2 hy ky htz2 => ?_
        dsimp only at ky
        replace B' := B'.step0 ky
        replace hb₆ := hb₆.kp0 ky
        replace hr₆ := hr₆.kp ky id
        have hz2 : Rd hy (.ref z2) nd.data := by rw [← hnd]; exact nd_rd (n := ⟨op, ks⟩) htz2 (by simpa using hi)
        walk_at "r"
        refine indexRows hr₆ (fun nd q => (ok.op nd q).1) hz2 (by simp [hm]) (by first | omega | (simp; omega)) (by have := hA.units; show A.units + 3 + 3 < _; omega) fun u2 tk2 => ?_
        walk_at "r"
        have ee : (((addNd rows nd).2 : Nat) : Int) == ((rows.idxOf nd : Nat) : Int) := by rw [show (addNd rows nd).2 = rows.idxOf nd from by unfold addNd; rw [if_pos hm]]; simp
        have e1 : (addNd rows nd).1 = rows := by unfold addNd; rw [if_pos hm]
        rw [e1] at hb₆
        show Q (.bool _) _
        rw [ee]
        have kall := ((k₆.mono (S' := fun a => B.S a ∨ a = L ∨ a = rl) fun _ q => .inl q).trans (k₇.mono fun _ q => .inr (.inl q))).trans (k₈.of0.trans (k₉.of0.trans (kx.of0.trans ky.of0)))
        walk_at "q"
        exact hQ _ _ rows (by exact B'.kp) (hkeepF _ kall) hb₆ hr₆ (.inl rfl)
      · refine itT (by simp [hm]) ?_
        walk_at "r"
        refine itT rfl ?_
        walk_at "r"
        obtain ⟨vs₇, hp₇, hv₇⟩ := id hr₆
        refine gmList (by exact hp₇) PySem.F.slot_list_append PySem.F.type_list_append ?_
        walk_at "r"
        refine tupleNew (fun b hx kx0 htbx => ?_) (by simp [sizeLine_eq])
        dsimp only at kx0
        replace B' := Bd.step0 (by assumption) kx0
        replace hb₆ := hb₆.kp0 kx0
        replace hr₆ := hr₆.kp kx0 id
        replace hc₆ := cell_kp hc₆ kx0 id
        replace hv₆ := tup_kp hv₆ kx0
        walk_at "r"
        refine addTup htbx hv₆ (by simp) (by simp [sizeLine_eq]; omega) fun z2 hy ky0 htz2 => ?_
        dsimp only at ky0
        replace B' := B'.step0 ky0
        replace hb₆ := hb₆.kp0 ky0
        replace hr₆ := hr₆.kp ky0 id
        replace hc₆ := cell_kp hc₆ ky0 id
        replace hv₆ := tup_kp hv₆ ky0
        have hz2 : Rd hy (.ref z2) nd.data := by rw [← hnd]; exact nd_rd (n := ⟨op, ks⟩) htz2 (by simpa using hi)
        walk_at "r"
        obtain ⟨vs₈, hp₈, hv₈⟩ := id hr₆
        have hlv8 : vs₈.length = rows.length := by rw [rdAll_length hv₈, List.length_map]
        refine appendL hp₈ (by rw [sizeLine_eq]; omega) fun h₁₀ hp₁₀ hs₁₀ => ?_
        dsimp only at hs₁₀
        have k₁₀ : Kp (· = rl) hy h₁₀ := Kp.same hs₁₀ rfl hr₆.noTup
        replace B' := Bd.step (by assumption) k₁₀ fun a q => ⟨Or.inl (Or.inr (Or.inl q)), fun z => hrL (q.symm.trans z)⟩
        replace hb₆ := hb₆.kp k₁₀ fun a ha q => hrB (q ▸ ha)
        replace hc₆ := cell_kp hc₆ k₁₀ (fun q => by obtain ⟨o, ho⟩ := hr₀.at_; rw [← q, hcn] at ho; cases ho)
        replace hv₆ := tup_kp hv₆ k₁₀
        have hr₇ : RowsAt h₁₀ rl (rows ++ [nd]) := ⟨_, hp₁₀, by rw [List.map_append]; exact rdAll_append (rdAll_kp hv₈ k₁₀) (rdCons (rd_kp hz2 k₁₀) .nil)⟩
        walk_at "r"
        refine itT rfl ?_
        walk_at "r"
        obtain ⟨vsx, hpx, hvx⟩ := id hr₇
        refine gmList (by exact hpx) PySem.F.slot_list_index PySem.F.type_list_index ?_
        walk_at "r"
        refine tupleNew (fun b hx kx htbx => ?_) (by simp [sizeLine_eq])
        dsimp only at kx
        replace B' := Bd.step0 (by assumption) kx
        replace hb₆ := hb₆.kp0 kx
        replace hr₇ := hr₇.kp kx id
        replace hv₆ := tup_kp hv₆ kx
        walk_at "r"
        refine addTup htbx hv₆ (by simp) (by simp [sizeLine_eq]; omega) fun z2 hy ky htz2 => ?_
        dsimp only at ky
        replace B' := B'.step0 ky
        replace hb₆ := hb₆.kp0 ky
        replace hr₇ := hr₇.kp ky id
        have hz2 : Rd hy (.ref z2) nd.data := by rw [← hnd]; exact nd_rd (n := ⟨op, ks⟩) htz2 (by simpa using hi)
        walk_at "r"
        refine indexRows hr₇ (fun nd' q => (List.mem_append.mp q).elim (fun q => (ok.op _ q).1) fun q => (List.mem_singleton.mp q) ▸ hndo) hz2 (by simp [hm]) (by first | omega | (simp; omega)) (by have := hA.units; show A.units + 3 + 3 < _; omega) fun u2 tk2 => ?_
        walk_at "r"
        have ee : (((addNd rows nd).2 : Nat) : Int) == (((rows ++ [nd]).idxOf nd : Nat) : Int) := by
          rw [show (addNd rows nd).2 = rows.length from by unfold addNd; rw [if_neg hm], List.idxOf_append, if_neg hm]; simp
        have e1 : (addNd rows nd).1 = rows ++ [nd] := by unfold addNd; rw [if_neg hm]
        rw [e1] at hb₆
        show Q (.bool _) _
        rw [ee]
        have kall := ((k₆.mono (S' := fun a => B.S a ∨ a = L ∨ a = rl) fun _ q => .inl q).trans (k₇.mono fun _ q => .inr (.inl q))).trans (k₈.of0.trans (k₉.of0.trans (kx0.of0.trans (ky0.of0.trans ((k₁₀.mono fun _ q => .inr (.inr q)).trans (kx.of0.trans ky.of0))))))
        walk_at "q"
        exact hQ _ _ (rows ++ [nd]) (by exact B'.kp) (hkeepF _ kall) hb₆ hr₇ (.inr ⟨rfl, hm, hsm⟩)
    | false =>
      have hbad : ∃ k ∈ ks, (rows.length : Int) ≤ k := by
        have := of_decide_eq_false hlet
        rw [List.filter_eq_nil_iff] at this
        simpa using this
      have hm : (⟨op, ks⟩ : Nd) ∉ rows := fun q => by
        obtain ⟨k, hk', hle⟩ := hbad
        obtain ⟨i, hi', e⟩ := List.mem_iff_getElem.mp q
        have := (ok.kid i _ (by rw [List.getElem?_eq_getElem hi', e]) k hk').2
        omega
      obtain ⟨oL, hoL⟩ := Bd.at_ (by assumption : Bd g _ s.heap L _ h₅)
      have hLd : ∀ vs, oL.data ≠ .fields vs := fun vs q => by
        obtain ⟨m, ⟨o, es, ep, ho, hd, _⟩, _⟩ := Bd.ns (by assumption : Bd g _ s.heap L _ h₅)
        rw [hoL] at ho; cases ho; rw [q] at hd; cases hd
      have hFe : ∀ env : Env, env.scope.kind = .function → env.frame = some L → FrAt h₅ (env :: outer) := fun env hkk hfe e' m => by
        rcases List.mem_cons.mp m with rfl | m
        · exact ⟨by rw [hkk]; decide, L, oL, hfe, hoL, hLd⟩
        · exact hF.keeps (Heap.UpToSlots.of_keeps stay) e' m
      have hfrs : ∀ env : Env, env.frame = some L → ∀ a, a ∈ frs (env :: outer) ↔ a = L ∨ a ∈ frs outer := fun env q a => by
        unfold frs; rw [List.filterMap_cons, q]; simp
      have hLg : g.get? L = none := Bd.gone (by assumption : Bd g _ s.heap L _ h₅)
      refine take_bad (outer := _ :: outer) W (by exact Bd.st (by assumption)) hb (by omega) ho ⟨_, _, rfl, hi, .inl hv⟩ hk ((hA' _).le (by omega)) (Around.frames_deeper hfr) (hFe _ rfl rfl) hm hpos hbad fun h₆ tk₆ e Bs a0 hBs hFl hup => ?_
      dsimp only at hFl hup
      refine tf_except W (Around.frames_deeper hfr) rfl hFl (fun h' k => .of_stays fun b o q => k b o (hBs b o (Bd.st (by assumption : Bd g _ s.heap L _ h₅) |>.stays b o q) fun m => ?_)) fun h₇ hst₇ hup₇ => ?_
      · rcases (hfrs _ rfl b).mp m with z | z
        · rw [z, hLg] at q; cases q
        · rw [hff b z] at q; cases q
      dsimp only at hup₇
      have hup2 := hup.trans hup₇
      have nsk : ∀ a m, h₅.Ns a m → h₇.Ns a m := fun a m x => hup2.ns x
      have k₇ : Kp (fun a => a = L ∨ a ∈ frs outer) h₅ h₇ := ⟨fun a o q n => hst₇ a o (hBs a o q fun m => n ((hfrs _ rfl a).mp m)), fun a o q c => hst₇ a o (hBs a o q fun m => by
        rcases (hfrs _ rfl a).mp m with z | z
        · exact Bd.nt (by assumption : Bd g _ s.heap L _ h₅) o (z ▸ q) c
        · obtain ⟨m, o', es, ep, ho', hd, _⟩ := hns a z
          have := stay a o' ho'
          rw [q] at this; cases this
          obtain ⟨_, its, n, hd'⟩ := c
          rw [hd'] at hd; cases hd)⟩
      replace B' := Bd.stepF (by assumption : Bd g _ s.heap L _ h₅) k₇ (fun a q => q.elim (fun z => Or.inr (Or.inr z)) fun z => Or.inl (Or.inr (Or.inr z))) (nsk L)
      replace hb := hb.kp k₇ fun a ha q => q.elim (hAll a ha) (hBF a ha)
      replace hr := hr.kp k₇ fun q => q.elim hrL hrF
      walk_at "r"
      refine PyProof.Rows.not_of ?_
      walk_at "s"
      walk_at "q"
      exact hQ _ _ rows (by exact B'.kp) (fun a ha m x => nsk a m (x.at' fun o q => stay a o q)) hb hr (.inl rfl)
end

/-! what stands in law: the bank, its rows, what is gone, the box, two cells -/
def lawL (L b D rl gl : Addr) : List Addr := [b, D, rl, gl, L + 1, L + 2]
section
variable {L b D rl gl : Addr} {l : List Addr}
theorem lb_ : b ∈ lawL L b D rl gl ++ l := .head _
theorem lD_ : D ∈ lawL L b D rl gl ++ l := .tail _ (.head _)
theorem lr_ : rl ∈ lawL L b D rl gl ++ l := .tail _ (.tail _ (.head _))
theorem lg_ : gl ∈ lawL L b D rl gl ++ l := .tail _ (.tail _ (.tail _ (.head _)))
theorem l1_ : L + 1 ∈ lawL L b D rl gl ++ l := .tail _ (.tail _ (.tail _ (.tail _ (.head _))))
theorem l2_ : L + 2 ∈ lawL L b D rl gl ++ l := .tail _ (.tail _ (.tail _ (.tail _ (.tail _ (.head _)))))
theorem lb' : b ∈ lawL L b D rl gl := .head _
theorem lD' : D ∈ lawL L b D rl gl := .tail _ (.head _)
theorem lr' : rl ∈ lawL L b D rl gl := .tail _ (.tail _ (.head _))
theorem lg' : gl ∈ lawL L b D rl gl := .tail _ (.tail _ (.tail _ (.head _)))
theorem l1' : L + 1 ∈ lawL L b D rl gl := .tail _ (.tail _ (.tail _ (.tail _ (.head _))))
theorem l2' : L + 2 ∈ lawL L b D rl gl := .tail _ (.tail _ (.tail _ (.tail _ (.tail _ (.head _)))))
end
structure LS (w : World) (h₀ h : Heap) (L : Addr) (B : BA) (b D rl gl : Addr) (rb rr gone : List Nd) (K : Nat) : Prop where
  bank : BankAt PR w h B rb
  rws : RowsAt h rl rr
  gn : RowsAt h gl gone
  box : Box PR w h b D K
  c1 : h.IsCell (L + 1) (some (.ref b))
  c2 : h.IsCell (L + 2) (some (.ref rl))
  new : ∀ a ∈ lawL L b D rl gl ++ B.all, h₀.get? a = none ∧ a ≠ L
  ne : (lawL L b D rl gl).Nodup
  neB : ∀ a ∈ B.all, a ∉ lawL L b D rl gl
section
variable {w : World} {h₀ h h' : Heap} {L b D rl gl : Addr} {B : BA} {rb rr gone rb' rr' : List Nd} {K K' : Nat} {S' : Addr → Prop}
theorem BA.S_all {B : BA} {a : Addr} (q : B.S a) : a ∈ B.all := by rcases q with q | q | q | q <;> simp [BA.all, q]
theorem LS.live (x : LS w h₀ h L B b D rl gl rb rr gone K) : ∀ a ∈ lawL L b D rl gl ++ B.all, ∃ o, h.get? a = some o := by
  intro a ha
  rcases List.mem_append.mp ha with ha | ha
  · simp only [lawL, List.mem_cons, List.not_mem_nil, or_false] at ha
    rcases ha with rfl | rfl | rfl | rfl | rfl | rfl
    · exact x.box.at_
    · exact x.box.atD
    · exact x.rws.at_
    · exact x.gn.at_
    · exact cell_at x.c1
    · exact cell_at x.c2
  · exact x.bank.live a ha
theorem LS.out (x : LS w h₀ h L B b D rl gl rb rr gone K) (k : Kp S' h h') (n : ∀ a ∈ lawL L b D rl gl ++ B.all, ¬ S' a) : LS w h₀ h' L B b D rl gl rb rr gone K where
  bank := x.bank.kp k fun a ha => n a (List.mem_append_right _ ha)
  rws := x.rws.kp k (n _ lr_)
  gn := x.gn.kp k (n _ lg_)
  box := x.box.kp k (n _ lb_) (n _ lD_)
  c1 := cell_kp x.c1 k (n _ l1_)
  c2 := cell_kp x.c2 k (n _ l2_)
  new := x.new
  ne := x.ne
  neB := x.neB
theorem LS.kp0 (x : LS w h₀ h L B b D rl gl rb rr gone K) (k : Kp0 h h') : LS w h₀ h' L B b D rl gl rb rr gone K := x.out k fun _ _ => id
theorem LS.frame (x : LS w h₀ h L B b D rl gl rb rr gone K) (k : Kp (fun a => a = L) h h') : LS w h₀ h' L B b D rl gl rb rr gone K := x.out k fun a ha => (x.new a ha).2
theorem LS.draw (x : LS w h₀ h L B b D rl gl rb rr gone K) (k : Kp (· = b) h h') (hb : Box PR w h' b D K') : LS w h₀ h' L B b D rl gl rb rr gone K' := by
  have n := x.ne
  simp only [lawL, List.nodup_cons, List.mem_cons, List.not_mem_nil, or_false, not_or, not_false_eq_true, List.nodup_nil, and_true] at n
  exact ⟨x.bank.kp k fun a ha q => x.neB a ha (by simp [lawL, q]), x.rws.kp k fun q => n.1.2.1 q.symm, x.gn.kp k fun q => n.1.2.2.1 q.symm, hb, cell_kp x.c1 k fun q => n.1.2.2.2.1 q.symm, cell_kp x.c2 k fun q => n.1.2.2.2.2 q.symm, x.new, x.ne, x.neB⟩
theorem LS.cut (x : LS w h₀ h L B b D rl gl rb rr gone K) (k : Kp B.S h h') (hb : BankAt PR w h' B rb') : LS w h₀ h' L B b D rl gl rb' rr gone K := by
  have n : ∀ a ∈ lawL L b D rl gl, ¬ B.S a := fun a ha q => x.neB a (BA.S_all q) ha
  exact ⟨hb, x.rws.kp k (n _ lr'), x.gn.kp k (n _ lg'), x.box.kp k (n _ lb') (n _ lD'), cell_kp x.c1 k (n _ l1'), cell_kp x.c2 k (n _ l2'), x.new, x.ne, x.neB⟩
theorem LS.put (x : LS w h₀ h L B b D rl gl rb rr gone K) (k : Kp (· = rl) h h') (hr : RowsAt h' rl rr') : LS w h₀ h' L B b D rl gl rb rr' gone K := by
  have n := x.ne
  simp only [lawL, List.nodup_cons, List.mem_cons, List.not_mem_nil, or_false, not_or, not_false_eq_true, List.nodup_nil, and_true] at n
  exact ⟨x.bank.kp k fun a ha q => x.neB a ha (by simp [lawL, q]), hr, x.gn.kp k fun q => n.2.2.1.1 q.symm, x.box.kp k (fun q => n.1.2.1 q) (fun q => n.2.1.1 q), cell_kp x.c1 k fun q => n.2.2.1.2.1 q.symm, cell_kp x.c2 k fun q => n.2.2.1.2.2 q.symm, x.new, x.ne, x.neB⟩
theorem LS.taken (x : LS w h₀ h L B b D rl gl rb rr gone K) (k : Kp (fun a => B.S a ∨ a = rl ∨ a = L) h h') (hb : BankAt PR w h' B rb') (hr : RowsAt h' rl rr') : LS w h₀ h' L B b D rl gl rb' rr' gone K := by
  have n := x.ne
  simp only [lawL, List.nodup_cons, List.mem_cons, List.not_mem_nil, or_false, not_or, not_false_eq_true, List.nodup_nil, and_true] at n
  have n2 : ∀ a ∈ lawL L b D rl gl, a ≠ rl → ¬ (B.S a ∨ a = rl ∨ a = L) := fun a ha hne q => by
    rcases q with q | q | q
    · exact x.neB a (BA.S_all q) ha
    · exact hne q
    · exact (x.new a (List.mem_append_left _ ha)).2 q
  exact ⟨hb, hr, x.gn.kp k (n2 _ lg' fun q => n.2.2.1.1 q.symm), x.box.kp k (n2 _ lb' fun q => n.1.2.1 q) (n2 _ lD' fun q => n.2.1.1 q),
    cell_kp x.c1 k (n2 _ l1' fun q => n.2.2.1.2.1 q.symm), cell_kp x.c2 k (n2 _ l2' fun q => n.2.2.1.2.2 q.symm), x.new, x.ne, x.neB⟩
/-- new lists of rows, and the cell set -/
theorem LS.lists {rl' gl' : Addr} {gone' : List Nd} (x : LS w h₀ h L B b D rl gl rb rr gone K) (k : Kp (fun a => a = L + 2) h h') (hc : h'.IsCell (L + 2) (some (.ref rl'))) (hr : RowsAt h' rl' rr') (hg : RowsAt h' gl' gone')
    (n1 : ∀ a ∈ lawL L b D rl gl ++ B.all, a ≠ rl' ∧ a ≠ gl') (n2 : rl' ≠ gl') (w1 : h₀.get? rl' = none ∧ rl' ≠ L) (w2 : h₀.get? gl' = none ∧ gl' ≠ L) : LS w h₀ h' L B b D rl' gl' rb rr' gone' K := by
  have n := x.ne
  simp only [lawL, List.nodup_cons, List.mem_cons, List.not_mem_nil, or_false, not_or, not_false_eq_true, List.nodup_nil, and_true] at n
  have m : ∀ a ∈ lawL L b D rl gl, a ≠ rl' ∧ a ≠ gl' := fun a ha => n1 a (List.mem_append_left _ ha)
  simp only [lawL, List.forall_mem_cons] at m
  obtain ⟨m1, m2, m3, m4, m5, m6, -⟩ := m
  refine ⟨x.bank.kp k fun a ha q => x.neB a ha (by simp [lawL, q]), hr, hg, x.box.kp k (fun q => n.1.2.2.2.2 q) (fun q => n.2.1.2.2.2 q), cell_kp x.c1 k (fun q => n.2.2.2.2 q), hc, ?_, ?_, ?_⟩
  · intro a ha
    rcases List.mem_append.mp ha with ha | ha
    · simp only [lawL, List.mem_cons, List.not_mem_nil, or_false] at ha
      rcases ha with rfl | rfl | rfl | rfl | rfl | rfl
      · exact x.new _ lb_
      · exact x.new _ lD_
      · exact w1
      · exact w2
      · exact x.new _ l1_
      · exact x.new _ l2_
    · exact x.new _ (List.mem_append_right _ ha)
  · simp only [lawL, List.nodup_cons, List.mem_cons, List.not_mem_nil, or_false, not_or, not_false_eq_true, List.nodup_nil, and_true]
    exact ⟨⟨n.1.1, m1.1, m1.2, n.1.2.2.2.1, n.1.2.2.2.2⟩, ⟨m2.1, m2.2, n.2.1.2.2.1, n.2.1.2.2.2⟩, ⟨n2, fun q => m5.1 q.symm, fun q => m6.1 q.symm⟩, ⟨fun q => m5.2 q.symm, fun q => m6.2 q.symm⟩, n.2.2.2.2⟩
  · intro a ha q
    have z := n1 a (List.mem_append_right _ ha)
    simp only [lawL, List.mem_cons, List.not_mem_nil, or_false] at q
    rcases q with q | q | q | q | q | q
    · exact x.neB a ha (by simp [lawL, q])
    · exact x.neB a ha (by simp [lawL, q])
    · exact z.1 q
    · exact z.2 q
    · exact x.neB a ha (by simp [lawL, q])
    · exact x.neB a ha (by simp [lawL, q])
theorem LS.fresh {a d : Addr} (x : LS w h₀ h L B b D rl gl rb rr gone K) (ha : a ∈ lawL L b D rl gl ++ B.all) (e : h.get? d = none) : a ≠ d := fun q => by obtain ⟨o, ho⟩ := x.live a ha; rw [q, e] at ho; cases ho
/-- the bounds, lap by lap -/
structure LB (i : Nat) (rows gone : List Nd) (K : Nat) : Prop where
  ok : RowsOk rows
  len : rows.length ≤ 7 * i
  hgt : ∀ j, j < rows.length → hgt (tm rows j) ≤ 3 + i
  gop : ∀ nd ∈ gone, nd.op ∈ ltrs ∧ nd.kids.length ≤ 2
  glen : gone.length ≤ 42 * i
  draws : K ≤ 1 + 11 * i
theorem LB.start {K : Nat} (hK : K ≤ 1) : LB 0 [] [] K := ⟨.nil, by simp, fun j h => by simp at h, fun nd h => by simp at h, by simp, by omega⟩
theorem tm_take {rows : List Nd} {m j : Nat} (h : j < (rows.take m).length) : tm (rows.take m) j = tm rows j := by
  conv => rhs; rw [← List.take_append_drop m rows]
  exact (terms_getD_append (rows.take m) (rows.drop m) h).symm
theorem LB.cut {i K K' m : Nat} {rows gone : List Nd} (x : LB i rows gone K) (hi : i < 6) (hK : K' ≤ K + 11) : LB (i + 1) (rows.take m) (gone ++ rows.drop m) K' where
  ok := x.ok.take m
  len := by have := x.len; rw [List.length_take]; omega
  hgt := fun j hj => by
    rw [tm_take hj]
    have := x.hgt j (by rw [List.length_take] at hj; omega)
    omega
  gop := fun nd h => (List.mem_append.mp h).elim (x.gop nd) fun q => x.ok.op nd (List.mem_of_mem_drop q)
  glen := by have h1 := x.glen; have h2 := x.len; rw [List.length_append, List.length_drop]; omega
  draws := by have := x.draws; omega
theorem LB.grown {i K K' c H : Nat} {rows rows' gone : List Nd} (x : LB i rows gone K) (hG : Grown rows rows' c H) (hc : c ≤ 7) (hH : H ≤ 4 + i) (hK : K' ≤ K + 11) : LB (i + 1) rows' gone K' := by
  have h1 := hG.len
  refine ⟨hG.ok, by have := x.len; omega, fun j hj => ?_, x.gop, by have := x.glen; omega, by have := x.draws; omega⟩
  by_cases q : j < rows.length
  · rw [hG.tm_eq q]; have := x.hgt j q; omega
  · have := hG.hgt j (by omega) hj
    omega
theorem LB.step {i K K' : Nat} {rows gone : List Nd} (x : LB i rows gone K) (hK : K' ≤ K + 11) : LB (i + 1) rows gone K' :=
  ⟨x.ok, by have := x.len; omega, fun j hj => by have := x.hgt j hj; omega, x.gop, by have := x.glen; omega, by have := x.draws; omega⟩
end

theorem pickUpto (vs : List Value) (m : Nat) : slicePick vs.toArray none (some (m : Int)) none = (vs.take m).toArray := by
  have e : sliceBounds none (some (m : Int)) none vs.toArray.size = (((0 : Nat) : Int), ((min m vs.toArray.size : Nat) : Int), 1) := by
    simp only [sliceBounds, Option.getD_none, show (1 : Int) > 0 by decide, if_true, if_neg (show ¬ ((m : Int) < 0) by omega)]
    congr 1
    congr 1
    omega
  rw [kmk_pick_nat _ e]
  congr 1
  show (vs.drop 0).take (min m vs.toArray.size - 0) = _
  rw [List.drop_zero, Nat.sub_zero, List.size_toArray, kmk_take_min]
theorem pickFrom (vs : List Value) (m : Nat) : slicePick vs.toArray (some (m : Int)) none none = (vs.drop m).toArray := by
  have e : sliceBounds (some (m : Int)) none none vs.toArray.size = (((min m vs.toArray.size : Nat) : Int), ((vs.toArray.size : Nat) : Int), 1) := by
    simp only [sliceBounds, Option.getD_none, show (1 : Int) > 0 by decide, if_true, if_neg (show ¬ ((m : Int) < 0) by omega)]
    congr 1
    omega
  rw [kmk_pick_nat _ e]
  congr 1
  show (vs.drop (min m vs.toArray.size)).take (vs.toArray.size - min m vs.toArray.size) = _
  rw [List.size_toArray, kmk_drop_min, List.take_of_length_le (by rw [List.length_drop]; omega)]

theorem mem_subss : ∀ {ts : List Tm} {u : Tm}, u ∈ subss ts → ∃ t ∈ ts, u ∈ subs t
  | [], u, h => by rw [subss] at h; simp at h
  | t :: ts, u, h => by
    rw [subss] at h
    rcases List.mem_append.mp h with q | q
    · exact ⟨t, List.mem_cons_self .., q⟩
    · obtain ⟨t', h1, h2⟩ := mem_subss q
      exact ⟨t', List.mem_cons_of_mem _ h1, h2⟩
/-- terms of a bank put into an empty one -/
theorem put_again {rows : List Nd} (ok : RowsOk rows) {ts : List Tm} (h : ∀ t ∈ ts, ∃ j, j < rows.length ∧ tm rows j = t) :
    TmsOk ts ∧ RowsOk (puts ts []).1 ∧ (puts ts []).1.length ≤ rows.length ∧ ∀ i, i < (puts ts []).1.length → ∃ j, j < rows.length ∧ tm rows j = tm (puts ts []).1 i := by
  have okT : TmsOk ts := (tmsOk_iff _).mpr fun t ht => by
    obtain ⟨j, hj, rfl⟩ := h t ht
    exact tm_ok ok j hj
  have G := (puts_ok ts RowsOk.nil okT).1
  have key : ∀ i, i < (puts ts []).1.length → ∃ j, j < rows.length ∧ tm rows j = tm (puts ts []).1 i := fun i hi => by
    obtain ⟨t, ht, hu⟩ := mem_subss (puts_new ts RowsOk.nil okT i (Nat.zero_le _) hi)
    obtain ⟨j, hj, rfl⟩ := h t ht
    exact subs_rows ok j hj _ hu
  exact ⟨okT, G.ok, no_more G.ok key, key⟩

local macro_rules | `(tactic| walk_at "cv") => `(tactic| first | exact LS.c1 (by assumption) | exact LS.c2 (by assumption))
local macro_rules | `(tactic| walk_at "bk") => `(tactic| exact BankAt.i (LS.bank (by assumption)))
theorem Kp.low {h h' : Heap} {a : Addr} (k : Kp0 h h') (e : h'.get? a = none) : h.get? a = none := by
  cases q : h.get? a with
  | none => rfl
  | some o => have := k.stays _ _ q; rw [e] at this; cases this
theorem ne_live {h : Heap} {a d : Addr} (x : ∃ o, h.get? a = some o) (e : h.get? d = none) : a ≠ d := fun q => by obtain ⟨o, ho⟩ := x; rw [q, e] at ho; cases ho
theorem rdAll_rev {h : Heap} : ∀ {ds : List PyData} {vs : List Value}, RdAll h vs ds → RdAll h vs.reverse ds.reverse
  | [], _, x => by rw [rdAll_nil x]; exact .nil
  | d :: ds, _, x => by
    obtain ⟨v, r, rfl, a, b⟩ := rdAll_cons x
    rw [List.reverse_cons, List.reverse_cons]
    exact rdAll_append (rdAll_rev b) (rdCons a .nil)
theorem lawI {L b D rl gl d1 d3 I : Addr} {l : List Addr} (h : ∀ a ∈ lawL L b D rl gl ++ l, a ≠ I) (h1 : d1 ≠ I) (h3 : d3 ≠ I) : ∀ a ∈ lawL L b D d1 d3 ++ l, a ≠ I := fun a ha => by
  rcases List.mem_append.mp ha with q | q
  · simp only [lawL, List.mem_cons, List.not_mem_nil, or_false] at q
    rcases q with rfl | rfl | rfl | rfl | rfl | rfl
    · exact h _ lb_
    · exact h _ lD_
    · exact h1
    · exact h3
    · exact h _ l1_
    · exact h _ l2_
  · exact h _ (List.mem_append_right _ q)
section
variable {w : World} {A : Around} {s : Shared} {g : Heap} {Q E : Value → Shared → Prop}
theorem law_ok {l : Addr} {vs : List Value} {ns : List Int} (W : Wd w g) (st : Kp0 g s.heap) (hl : s.heap.IsList l vs.toArray) (hi : IntsAre vs ns) (hn : ns.length ≤ 63) (hA : Ao A 20) (hfr : A.frames = some [])
    (hQ : ∀ h' tk, Kp0 s.heap h' → Q (.bool true) { s with heap := h', toks := tk }) :
    wpAny (model PR w) A (call (.ref 230) [.ref l] []) Q E s := by
  refine callFC W st (by rfl) (by kernel_rfl) hA.room (binds := [("script", .ref l)]) (l := [("script", .ref l)]) (S := No) (BindsTo.of_eq rfl) (by rfl) (by rfl) (fun _ q => q.elim) (fun h₁ L tk₁ B' kp0 hLn hcs => ?_)
  obtain ⟨c1, c1n, c1L⟩ := hcs "box" (L + 1) rfl
  obtain ⟨c2, c2n, c2L⟩ := hcs "rows" (L + 2) rfl
  change h₁.IsCell (L + 1) none at c1
  change h₁.IsCell (L + 2) none at c2
  clear hcs
  have hA' := fun env => (hA.le (show 19 + 1 ≤ 20 by omega)).deeper env
  walk_at "s"
  refine Assign_Tuple ?_
  walk_at "r"
  refine box_ok W (by exact B'.st) (kp_list kp0 hl id) hi hn ((hA' _).le (by omega)) fun b D h₂ tk₂ k₂ hbn hDn hbx => ?_
  dsimp only at k₂ hbn hDn
  have d₁ : ∀ a, a = L + 1 ∨ a = L + 2 ∨ a = L → ∃ o, h₁.get? a = some o := fun a q => by
    rcases q with rfl | rfl | rfl
    · exact cell_at c1
    · exact cell_at c2
    · exact B'.at_
  have d₂ : ∀ a, a = b ∨ a = D → ∃ o, h₂.get? a = some o := fun a q => by
    rcases q with rfl | rfl
    · exact hbx.at_
    · exact hbx.atD
  replace B' := B'.step0 k₂
  replace c1 := cell_kp c1 k₂ id
  replace c2 := cell_kp c2 k₂ id
  walk_at "r"
  refine bank_new W (by exact B'.st) ((hA' _).le (by omega)) fun B h₃ tk₃ k₃ hBn hB => ?_
  dsimp only at k₃ hBn
  have d₃ := hB.live
  replace B' := B'.step0 k₃
  replace c1 := cell_kp c1 k₃ id
  replace c2 := cell_kp c2 k₃ id
  replace hbx := hbx.kp k₃ id id
  walk_at "r"
  refine listNew (fun rl h₄ k₄ hrn hrl => ?_) (by simp [sizeLine_eq])
  dsimp only at k₄ hrn
  have d₄ := plain_at hrl
  replace B' := B'.step0 k₄
  replace c1 := cell_kp c1 k₄ id
  replace c2 := cell_kp c2 k₄ id
  replace hbx := hbx.kp k₄ id id
  replace hB := hB.kp0 k₄
  walk_at "r"
  refine listNew (fun gl h₅ k₅ hgn hgl => ?_) (by simp [sizeLine_eq])
  dsimp only at k₅ hgn
  replace B' := B'.step0 k₅
  replace c1 := cell_kp c1 k₅ id
  replace c2 := cell_kp c2 k₅ id
  replace hbx := hbx.kp k₅ id id
  replace hB := hB.kp0 k₅
  replace hrl := plain_kp hrl k₅ id
  walk_at "r"
  refine tupleNew (fun T h₆ k₆ hT => ?_) (by simp [sizeLine_eq])
  dsimp only at k₆
  replace B' := B'.step0 k₆
  replace c1 := cell_kp c1 k₆ id
  replace c2 := cell_kp c2 k₆ id
  replace hbx := hbx.kp k₆ id id
  replace hB := hB.kp0 k₆
  replace hrl := plain_kp hrl k₆ id
  replace hgl := plain_kp hgl k₆ id
  walk_at "r"
  refine wpAny_assign_Tuple (hA' _).handled hT rfl rfl fun h₇ hE => ?_
  have k₇ : Kp0 h₆ h₇ := .of_stays fun b o e => hE b o (fun z => by rw [z] at e; dsimp only at e; rw [fresh_size] at e; cases e) e
  replace B' := B'.step0 k₇
  replace c1 := cell_kp c1 k₇ id
  replace c2 := cell_kp c2 k₇ id
  replace hbx := hbx.kp k₇ id id
  replace hB := hB.kp0 k₇
  replace hrl := plain_kp hrl k₇ id
  replace hgl := plain_kp hgl k₇ id
  have up : ∀ {h h' : Heap} {a : Addr}, Kp0 h h' → (∃ o, h.get? a = some o) → ∃ o, h'.get? a = some o := fun k ⟨o, e⟩ => ⟨o, k.stays _ _ e⟩
  -- what is apart
  have fb : s.heap.get? b = none ∧ s.heap.get? D = none := ⟨kp0.low hbn, kp0.low hDn⟩
  have fB : ∀ a ∈ B.all, h₁.get? a = none := fun a ha => k₂.low (hBn a ha)
  have fr : h₂.get? rl = none := k₃.low hrn
  have fg : h₃.get? gl = none := k₄.low hgn
  have nd : (lawL L b D rl gl).Nodup := by
    have e1 : ∀ a, a = L + 1 ∨ a = L + 2 ∨ a = L → a ≠ b ∧ a ≠ D ∧ a ≠ rl ∧ a ≠ gl := fun a q => ⟨ne_live (d₁ a q) hbn, ne_live (d₁ a q) hDn, ne_live (d₁ a q) (k₂.low fr), ne_live (d₁ a q) (k₂.low (k₃.low fg))⟩
    have e2 : ∀ a, a = b ∨ a = D → a ≠ rl ∧ a ≠ gl := fun a q => ⟨ne_live (d₂ a q) fr, ne_live (d₂ a q) (k₃.low fg)⟩
    have e3 : rl ≠ gl := ne_live d₄ hgn
    have a1 := e1 (L + 1) (by simp)
    have a2 := e1 (L + 2) (by simp)
    have b1 := e2 b (by simp)
    have b2 := e2 D (by simp)
    simp only [lawL, List.nodup_cons, List.mem_cons, List.not_mem_nil, or_false, not_or, not_false_eq_true, List.nodup_nil, and_true]
    exact ⟨⟨fun q => hbx.ne q.symm, b1.1, b1.2, fun q => a1.1 q.symm, fun q => a2.1 q.symm⟩, ⟨b2.1, b2.2, fun q => a1.2.1 q.symm, fun q => a2.2.1 q.symm⟩, ⟨e3, fun q => a1.2.2.1 q.symm, fun q => a2.2.2.1 q.symm⟩, ⟨fun q => a1.2.2.2 q.symm, fun q => a2.2.2.2 q.symm⟩, fun q => Nat.succ_ne_self (L + 1) q.symm⟩
  have nB : ∀ a ∈ B.all, a ∉ lawL L b D rl gl := fun a ha q => by
    simp only [lawL, List.mem_cons, List.not_mem_nil, or_false] at q
    rcases q with q | q | q | q | q | q
    · exact ne_live (d₂ b (.inl rfl)) (hBn a ha) q.symm
    · exact ne_live (d₂ D (.inr rfl)) (hBn a ha) q.symm
    · exact ne_live (d₃ a ha) hrn q
    · exact ne_live (d₃ a ha) fg q
    · exact ne_live (d₁ a (by simp [q])) (fB a ha) rfl
    · exact ne_live (d₁ a (by simp [q])) (fB a ha) rfl
  have new : ∀ a ∈ lawL L b D rl gl ++ B.all, s.heap.get? a = none ∧ a ≠ L := fun a ha => by
    have eL : ∀ {x : Addr}, h₁.get? x = none → x ≠ L := fun e q => ne_live (d₁ L (by simp)) e q.symm
    rcases List.mem_append.mp ha with q | q
    · simp only [lawL, List.mem_cons, List.not_mem_nil, or_false] at q
      rcases q with rfl | rfl | rfl | rfl | rfl | rfl
      · exact ⟨fb.1, eL hbn⟩
      · exact ⟨fb.2, eL hDn⟩
      · exact ⟨kp0.low (k₂.low fr), eL (k₂.low fr)⟩
      · exact ⟨kp0.low (k₂.low (k₃.low fg)), eL (k₂.low (k₃.low fg))⟩
      · exact ⟨c1n, c1L⟩
      · exact ⟨c2n, c2L⟩
    · exact ⟨kp0.low (fB a q), eL (fB a q)⟩
  have newT : ∀ a ∈ lawL L b D rl gl ++ B.all, s.heap.get? a = none := fun a ha => (new a ha).1
  clear d₁ d₂ d₃ d₄ hbn hDn hBn hrn hgn fb fB fr fg
  show wpAny _ _ (do holding _ (assign (.Name "box" _) _ (.ref b)); assignInOrder _ _) _ _ _
  refine wpAny_bind (wpAny_holding (wpAny_assign_Name (wpAny_storeName_cell (c := L + 1) rfl rfl rfl c1 (fun h₈ c1 hs₈ => ?_))))
  dsimp only at hs₈
  have k₈ : Kp (· = L + 1) h₇ h₈ := Kp.same hs₈ rfl (cell_noTup (by assumption : h₇.IsCell (L + 1) _))
  have n := nd
  simp only [lawL, List.nodup_cons, List.mem_cons, List.not_mem_nil, or_false, not_or, not_false_eq_true, List.nodup_nil, and_true] at n
  have m1 : L + 1 ∈ lawL L b D rl gl := l1'
  have m2 : L + 2 ∈ lawL L b D rl gl := l2'
  replace B' := B'.turn hs₈ (.inr c1n) c1L (cell_noTup (by assumption : h₇.IsCell (L + 1) _))
  replace c2 := cell_kp c2 k₈ fun q => n.2.2.2.2 q.symm
  replace hbx := hbx.kp k₈ n.1.2.2.2.1 n.2.1.2.2.1
  replace hB := hB.kp k₈ fun a ha q => nB a ha (q ▸ m1)
  replace hrl := plain_kp hrl k₈ n.2.2.1.2.1
  replace hgl := plain_kp hgl k₈ n.2.2.2.1.1
  show wpAny _ _ (do holding _ (assign (.Name "bank" _) _ (.ref B.b)); assignInOrder _ _) _ _ _
  refine wpAny_bind (wpAny_holding (wpAny_assign_Name (sL B' (fun h₉ B₉ hs₉ => ?_))))
  have k₉ : Kp (· = L) h₈ h₉ := Kp.same hs₉ rfl (by assumption : Bd g No s.heap L _ h₈).nt
  replace c1 := cell_kp c1 k₉ c1L
  replace c2 := cell_kp c2 k₉ c2L
  replace hbx := hbx.kp k₉ (new _ lb_).2 (new _ lD_).2
  replace hB := hB.kp k₉ fun a ha => (new _ (List.mem_append_right _ ha)).2
  replace hrl := plain_kp hrl k₉ (new _ lr_).2
  replace hgl := plain_kp hgl k₉ (new _ lg_).2
  show wpAny _ _ (do holding _ (assign (.Name "rows" _) _ (.ref rl)); assignInOrder _ _) _ _ _
  refine wpAny_bind (wpAny_holding (wpAny_assign_Name (wpAny_storeName_cell (c := L + 2) rfl rfl rfl c2 (fun h₁₀ c2 hs₁₀ => ?_))))
  dsimp only at hs₁₀
  have hcnt : ∀ o, h₉.get? (L + 2) = some o → ¬ IsT o := cell_noTup (by assumption : h₉.IsCell (L + 2) _)
  have k₁₀ : Kp (· = L + 2) h₉ h₁₀ := Kp.same hs₁₀ rfl hcnt
  replace B₉ := B₉.turn hs₁₀ (.inr c2n) c2L hcnt
  replace c1 := cell_kp c1 k₁₀ n.2.2.2.2
  replace hbx := hbx.kp k₁₀ n.1.2.2.2.2 n.2.1.2.2.2
  replace hB := hB.kp k₁₀ fun a ha q => nB a ha (q ▸ m2)
  replace hrl := plain_kp hrl k₁₀ n.2.2.1.2.2
  replace hgl := plain_kp hgl k₁₀ n.2.2.2.1.2
  show wpAny _ _ (do holding _ (assign (.Name "gone" _) _ (.ref gl)); assignInOrder _ _) _ _ _
  refine wpAny_bind (wpAny_holding (wpAny_assign_Name (sL B₉ (fun h₁₁ B₁₁ hs₁₁ => ?_))))
  have k₁₁ : Kp (· = L) h₁₀ h₁₁ := Kp.same hs₁₁ rfl (by assumption : Bd g No s.heap L _ h₁₀).nt
  replace c1 := cell_kp c1 k₁₁ c1L
  replace c2 := cell_kp c2 k₁₁ c2L
  replace hbx := hbx.kp k₁₁ (new _ lb_).2 (new _ lD_).2
  replace hB := hB.kp k₁₁ fun a ha => (new _ (List.mem_append_right _ ha)).2
  replace hrl := plain_kp hrl k₁₁ (new _ lr_).2
  replace hgl := plain_kp hgl k₁₁ (new _ lg_).2
  have ls : LS w s.heap h₁₁ L B b D rl gl [] [] [] 0 := ⟨hB, ⟨[], hrl, .nil⟩, ⟨[], hgl, .nil⟩, hbx, c1, c2, new, nd, nB⟩
  clear k₁₁ k₁₀ k₉ k₈ k₇ k₆ k₅ k₄ k₃ k₂ hs₁₁ hs₁₀ hs₉ hs₈ hE hT c1 c2 hbx hB hrl hgl B' hcnt new newT nd nB m1 m2 n up
  refine wpAny_pure ?_
  walk_at "r"
  have hgn : ∀ a ∈ lawL L b D rl gl ++ B.all, g.get? a = none := fun a ha => by
    cases q : g.get? a with
    | none => rfl
    | some o => have := st.stays a o q; rw [(ls.new a ha).1] at this; cases this
  have hgb : g.get? b = none := hgn b lb_
  have hgB : ∀ a ∈ B.all, g.get? a = none := fun a ha => hgn a (List.mem_append_right _ ha)
  refine forT (g := g) (S := No) (h₀ := s.heap) (L := L) (α := Addr) (lf := fun gl => [("gone", .ref gl), ("bank", .ref B.b), ("script", .ref l)]) (hA' _).handled ?_
  walk_at "r"
  refine drawn W (by exact Bd.st (by assumption)) ls.box (by decide) (by omega) (hA' default).room hgb fun m um h₁₂ tk₁₂ hm k₁₂ hbx => ?_
  dsimp only at k₁₂
  replace ls := ls.draw k₁₂ hbx
  replace B₁₁ := B₁₁.step k₁₂ fun a q => ⟨Or.inr (q ▸ (ls.new b lb_).1), fun z => (ls.new b lb_).2 (q.symm.trans z)⟩
  walk_at "r"
  have rangeI : ∀ k : Int, k = ((3 + m : Nat) : Int) → ∀ (r : Addr) (h' : Heap) t₁ u₁ v₁, IsRange h' r 0 k 1 t₁ u₁ v₁ → IsRange h' r 0 ((3 + m : Nat) : Int) 1 t₁ u₁ v₁ := fun k e => by subst e; exact fun _ _ _ _ _ q => q
  refine rangeNew fun r h₁₃ tk₁₃ t₁ u₁ v₁ k₁₃ hr => ?_
  replace hr := rangeI _ (by omega) _ _ _ _ _ hr
  dsimp only at k₁₃
  replace B₁₁ := B₁₁.step0 k₁₃
  replace ls := ls.kp0 k₁₃
  have hm6 : 3 + m ≤ 6 := by omega
  generalize hN : 3 + m = N at *
  refine ⟨r, N, _, _, _, rfl, hr, by omega, fun I i gl h => ∃ rl rows gone K, LS w s.heap h L B b D rl gl rows rows gone K ∧ LB i rows gone K ∧ ∀ a ∈ lawL L b D rl gl ++ B.all, a ≠ I, fun _ q => q.elim, gl, B₁₁, fun I hI => ⟨rl, [], [], 1, ls, .start (by omega), fun a ha => ls.fresh ha hI⟩, ?_, ?_, ?_⟩
  · rintro i x h h' I hI ⟨rl, rows, gone, K, x1, x2, x3⟩ k
    exact ⟨rl, rows, gone, K, x1.out k x3, x2, x3⟩
  · rintro I i gl ti h₁₄ tk₁₄ Qt Et hQt hi hI hIl Bo Bi ⟨rl, rows, gone, K, ls, lb, hIn⟩
    refine wpAny_assign_Name (sL Bi (fun h₁₅ B₁₅ hs₁₅ => ?_))
    have k₁₅ : Kp (fun a => a = L) h₁₄ h₁₅ := Kp.same hs₁₅ rfl Bi.nt
    replace ls := ls.frame k₁₅
    have hTw : ∀ a ∈ lawL L b D rl gl ++ B.all, Tw No L s.heap I a ∧ a ≠ L := fun a ha => ⟨.inr (.inr ⟨(ls.new a ha).1, hIn a ha⟩), (ls.new a ha).2⟩
    walk_at "r"
    refine drawn W (by exact Bd.st (by assumption)) ls.box (by decide) (by have := lb.draws; omega) (hA' default).room hgb fun way uw h₁₆ tk₁₆ hway k₁₆ hbx => ?_
    dsimp only at k₁₆
    replace ls := ls.draw k₁₆ hbx
    replace B₁₅ := B₁₅.step k₁₆ fun a q => q ▸ ⟨Or.inl (hTw b lb_).1, (hTw b lb_).2⟩
    walk_at "r"
    intro h₁₇ B₁₇ hs₁₇
    have k₁₇ : Kp (fun a => a = L) h₁₆ h₁₇ := Kp.same hs₁₇ rfl B₁₅.nt
    replace ls := ls.frame k₁₇
    walk_at "s"
    refine wpAny_mono (Q := fun f s' => ∃ h' tk' gl', f = .next ∧ s' = { s with heap := h', toks := tk' } ∧ Bd g (Tw No L s.heap I) h₁₄ L [("gone", .ref gl'), ("bank", .ref B.b), ("script", .ref l)] h' ∧
      ∃ rl rows gone K, LS w s.heap h' L B b D rl gl' rows rows gone K ∧ LB (i + 1) rows gone K ∧ ∀ a ∈ lawL L b D rl gl' ++ B.all, a ≠ I) ?_ (fun f s' hf => ?_) fun _ _ q => q
    · walk_at "r"
      by_cases w3 : way = 3
      · refine itT (by simp [w3]) ?_
        walk_at "r"
        obtain ⟨vr, hpr, hvr⟩ := id ls.rws
        have hlr : vr.length = rows.length := by rw [rdAll_length hvr, List.length_map]
        refine lenList (n := (rows.length : Nat)) hpr.isList (by simp [hlr]) (by have := lb.len; omega) fun u' tk => ?_
        walk_at "r"
        refine drawn W (by exact Bd.st (by assumption)) ls.box (by omega) (by have := lb.draws; omega) (hA' default).room hgb fun many um h₁₈ tk₁₈ hmany k₁₈ hbx => ?_
        dsimp only at k₁₈
        replace ls := ls.draw k₁₈ hbx
        replace B₁₇ := B₁₇.step k₁₈ fun a q => q ▸ ⟨Or.inl (hTw b lb_).1, (hTw b lb_).2⟩
        walk_at "r"
        intro h₁₉ B₁₉ hs₁₉
        have k₁₉ : Kp (fun a => a = L) h₁₈ h₁₉ := Kp.same hs₁₉ rfl B₁₇.nt
        replace ls := ls.frame k₁₉
        walk_at "r"
        refine cut_ok W (by exact Bd.st (by assumption)) ls.bank (by have := lb.len; omega) (by have := lb.len; omega) ((hA' _).le (by omega)) hgB fun h₂₁ tk₂₁ k₂₁ hb₂₁ => ?_
        dsimp only at k₂₁
        replace ls := ls.cut k₂₁ hb₂₁
        replace B₁₉ := B₁₉.step k₂₁ fun a q => ⟨Or.inl (hTw a (List.mem_append_right _ (BA.S_all q))).1, (hTw a (List.mem_append_right _ (BA.S_all q))).2⟩
        walk_at "s"
        refine Assign_Tuple ?_
        walk_at "s"
        walk_at "s"
        refine listCut ?_ (fun o i => [i, o]) (by intro o i; with_unfolding_all rfl)
        walk_at "s"
        refine evalPart_none_step (evalPart_some_step ?_)
        walk_at "r"
        refine evalPart_none_step ?_
        obtain ⟨v1, hp1, hv1⟩ := id ls.rws
        have hl1 : v1.length = rows.length := by rw [rdAll_length hv1, List.length_map]
        refine ⟨_, _, none, some (many : Int), none, rfl, hp1.isList, .none, .int _ _, .none, by simp, by have := lb.len; simp [sizeLine_eq]; omega, fun d1 h₂₂ tk₂₂ k₂₂ hd1 hpl1 => ?_⟩
        dsimp only at k₂₂ hd1
        rw [pickUpto] at hpl1
        have hr1 : RowsAt h₂₂ d1 (rows.take many) := ⟨_, hpl1, by rw [List.map_take]; exact rdAll_take _ (rdAll_kp hv1 k₂₂)⟩
        have lsd1 := ls.live
        replace ls := ls.kp0 k₂₂
        have B₂₂ := B₁₉.step0 k₂₂
        walk_at "s"
        walk_at "s"
        walk_at "s"
        refine listCut ?_ (fun o i => [i, o]) (by intro o i; with_unfolding_all rfl)
        walk_at "s"
        refine evalPart_some_step ?_
        walk_at "r"
        refine evalPart_none_step (evalPart_none_step ?_)
        obtain ⟨v2, hp2, hv2⟩ := id ls.rws
        have hl2 : v2.length = rows.length := by rw [rdAll_length hv2, List.length_map]
        refine ⟨_, _, some (many : Int), none, none, rfl, hp2.isList, .int _ _, .none, .none, by simp, by have := lb.len; simp [sizeLine_eq]; omega, fun d2 h₂₃ tk₂₃ k₂₃ hd2 hpl2 => ?_⟩
        dsimp only at k₂₃ hd2
        rw [pickFrom] at hpl2
        have lsd2 := ls.live
        replace ls := ls.kp0 k₂₃
        replace B₂₂ := B₂₂.step0 k₂₃
        obtain ⟨v3, hp3, hv3⟩ := id ls.gn
        have hl3 : v3.length = gone.length := by rw [rdAll_length hv3, List.length_map]
        refine addList hp3.isList hpl2.isList (by have := lb.len; have := lb.glen; rw [List.length_drop]; simp [sizeLine_eq]; omega) fun d3 h₂₄ k₂₄ hd3 hpl3 => ?_
        dsimp only at k₂₄ hd3
        have lsd3 := ls.live
        have hr3 : RowsAt h₂₄ d3 (gone ++ rows.drop many) := ⟨_, hpl3, by rw [List.map_append, List.map_drop]; exact rdAll_append (rdAll_kp hv3 k₂₄) (rdAll_drop _ (rdAll_kp (rdAll_kp hv2 k₂₃) k₂₄))⟩
        have d13 : d1 ≠ d3 := ne_live (plain_at (plain_kp hpl1 k₂₃ id)) hd3
        replace hr1 := (hr1.kp k₂₃ id).kp k₂₄ id
        have t1 := Bo.newT B₁₉ hIl hd1
        have t3 := Bo.newT B₂₂ hIl hd3
        replace ls := ls.kp0 k₂₄
        replace B₂₂ := B₂₂.step0 k₂₄
        walk_at "r"
        refine tupleNew (fun T h₂₅ k₂₅ hT => ?_) (by simp [sizeLine_eq])
        dsimp only at k₂₅
        replace ls := ls.kp0 k₂₅
        replace B₂₂ := B₂₂.step0 k₂₅
        replace hr1 := hr1.kp k₂₅ id
        replace hr3 := hr3.kp k₂₅ id
        walk_at "r"
        refine wpAny_assign_Tuple (hA' _).handled hT rfl rfl fun h₂₆ hE => ?_
        have k₂₆ : Kp0 h₂₅ h₂₆ := .of_stays fun b o e => hE b o (fun z => by rw [z] at e; dsimp only at e; rw [fresh_size] at e; cases e) e
        replace ls := ls.kp0 k₂₆
        replace B₂₂ := B₂₂.step0 k₂₆
        replace hr1 := hr1.kp k₂₆ id
        replace hr3 := hr3.kp k₂₆ id
        have l1 : ∀ a ∈ lawL L b D rl gl ++ B.all, a ≠ d1 := fun a ha => ne_live (lsd1 a ha) hd1
        have l3 : ∀ a ∈ lawL L b D rl gl ++ B.all, a ≠ d3 := fun a ha => ne_live (lsd3 a ha) hd3
        have m2 : L + 2 ∈ lawL L b D rl gl ++ B.all := l2_
        show wpAny _ _ (do holding _ (assign (.Name "rows" _) _ (.ref d1)); assignInOrder _ _) _ _ _
        refine wpAny_bind (wpAny_holding (wpAny_assign_Name (wpAny_storeName_cell (c := L + 2) rfl rfl rfl ls.c2 (fun h₂₇ c2 hs₂₇ => ?_))))
        dsimp only at hs₂₇
        have hcnt : ∀ o, h₂₆.get? (L + 2) = some o → ¬ IsT o := cell_noTup ls.c2
        have k₂₇ : Kp (fun a => a = L + 2) h₂₆ h₂₇ := Kp.same hs₂₇ rfl hcnt
        replace B₂₂ := B₂₂.step k₂₇ fun a q => ⟨Or.inl (q ▸ (hTw _ m2).1), q ▸ (hTw _ m2).2⟩
        replace hr1 := hr1.kp k₂₇ fun q => l1 _ m2 q.symm
        replace hr3 := hr3.kp k₂₇ fun q => l3 _ m2 q.symm
        have w1 := t1.1.resolve_left id |>.resolve_left t1.2
        have w3' := t3.1.resolve_left id |>.resolve_left t3.2
        have ls' := ls.lists k₂₇ c2 hr1 hr3 (fun a ha => ⟨l1 a ha, l3 a ha⟩) d13 ⟨w1.1, t1.2⟩ ⟨w3'.1, t3.2⟩
        show wpAny _ _ (do holding _ (assign (.Name "gone" _) _ (.ref d3)); assignInOrder _ _) _ _ _
        refine wpAny_bind (wpAny_holding (wpAny_assign_Name (sL B₂₂ (fun h₂₈ B₂₈ hs₂₈ => ?_))))
        have k₂₈ : Kp (fun a => a = L) h₂₇ h₂₈ := Kp.same hs₂₈ rfl B₂₂.nt
        replace ls' := ls'.frame k₂₈
        refine wpAny_pure ?_
        walk_at "r"
        refine ⟨h₂₈, _, d3, rfl, rfl, B₂₈.weak (mp_sub ?_), d1, _, _, _, ls', lb.cut (by omega) (by omega), lawI hIn w1.2 w3'.2⟩
        intro p hp
        simp only [List.mem_cons, List.not_mem_nil, or_false] at hp
        rcases hp with rfl | rfl | rfl <;> rfl
      · refine itF (by simp; omega) ?_
        walk_at "r"
        by_cases w2 : way = 2
        · refine itT (by simp [w2]) ?_
          walk_at "s"
          walk_at "s"
          walk_at "s"
          walk_at "s"
          refine lcS (g := g) (S := (· = b)) (cl := [("rows", L + 2), ("box", L + 1)]) rfl (by decide) rfl (by decide) rfl ?_
          walk_at "r"
          refine drawn W (by exact Bd.st (by assumption)) ls.box (by decide) (by have := lb.draws; omega) (hA' default).room hgb fun m2 um2 h₁₈ tk₁₈ hm2 k₁₈ hbx => ?_
          dsimp only at k₁₈
          replace ls := ls.draw k₁₈ hbx
          replace B₁₇ := B₁₇.step k₁₈ fun a q => q ▸ ⟨Or.inl (hTw b lb_).1, (hTw b lb_).2⟩
          walk_at "r"
          have rangeI2 : ∀ k : Int, k = ((1 + m2 : Nat) : Int) → ∀ (r : Addr) (h' : Heap) t₁ u₁ v₁, IsRange h' r 0 k 1 t₁ u₁ v₁ → IsRange h' r 0 ((1 + m2 : Nat) : Int) 1 t₁ u₁ v₁ := fun k e => by subst e; exact fun _ _ _ _ _ q => q
          refine rangeNew fun r2 h₁₉ tk₁₉ t₁ u₁ v₁ k₁₉ hr2 => ?_
          replace hr2 := rangeI2 _ (by omega) _ _ _ _ _ hr2
          dsimp only at k₁₉
          replace B₁₇ := B₁₇.step0 k₁₉
          replace ls := ls.kp0 k₁₉
          have hmm : 1 + m2 ≤ 2 ∧ 1 ≤ 1 + m2 := by omega
          generalize 1 + m2 = N2 at *
          obtain ⟨ob, hob⟩ := ls.box.at_
          obtain ⟨oD, hoD⟩ := ls.box.atD
          have hlen := lb.len
          refine ⟨_, _, [], fun j ys h => Box PR w h b D (K + 1 + 1 + j) ∧ ∃ ks : List Int, IntsAre ys ks ∧ ks.length = j ∧ ∀ k ∈ ks, 0 ≤ k ∧ k < (rows.length : Int) + 2, Src.range (hA' _).handled hr2 (by omega), by exact Bd.st (by assumption), fun a q => q ▸ hgb, ?_, by simp, ⟨ls.box, [], .nil, rfl, by simp⟩, ?_, ?_, ?_⟩
          · rintro a rfl; exact ⟨_, hob⟩
          · rintro j ys h h' ⟨x1, x2⟩ k
            exact ⟨x1.kp k (fun q => by dsimp only at q; rw [hob] at q; cases q) (fun q => by dsimp only at q; rw [hoD] at q; cases q), x2⟩
          · rintro C j y ys h₂₀ tk₂₀ Qb E' hQb hj ⟨tj, rfl⟩ ⟨x1, ks, x2, x3, x4⟩ B₃ hC
            have ls₃ := ls.draw B₃.kp x1
            walk_at "r"
            obtain ⟨vr, hpr, hvr⟩ := id ls₃.rws
            have hlr : vr.length = rows.length := by rw [rdAll_length hvr, List.length_map]
            refine lenList (n := (rows.length : Nat)) hpr.isList (by simp [hlr]) (by omega) fun u' tk => ?_
            walk_at "r"
            refine drawn W (by exact B₃.st) ls₃.box (by omega) (by have := lb.draws; omega) (hA' default).room hgb fun kk ukk h₂₁ tk₂₁ hkk k₂₁ hbx₂₁ => ?_
            walk_at "q"
            exact hQb _ _ _ k₂₁ ⟨hbx₂₁.mono (by omega), ks ++ [(kk : Int)], x2.append (.cons _ _ .nil), by simp [x3], fun k hk => by
              rcases List.mem_append.mp hk with q | q
              · exact x4 k q
              · rw [List.mem_singleton] at q; omega⟩
          · rintro Dl ys h₂₀ tk₂₀ hDl hl₂₀ hlen' ⟨x1, ks, x2, x3, x4⟩ k₂₀
            replace ls := ls.draw k₂₀ x1
            replace B₁₇ := B₁₇.step k₂₀ fun a q => q ▸ ⟨Or.inl (hTw b lb_).1, (hTw b lb_).2⟩
            walk_at "r"
            have hysl := x2.length
            refine tupOfList hl₂₀ (by rw [sizeLine_eq]; omega) fun ka h₂₁ k₂₁ hka => ?_
            dsimp only at k₂₁
            replace ls := ls.kp0 k₂₁
            replace B₁₇ := B₁₇.step0 k₂₁
            walk_at "r"
            intro h₂₂ B₂₂ hs₂₂
            have k₂₂ : Kp (fun a => a = L) h₂₁ h₂₂ := Kp.same hs₂₂ rfl B₁₇.nt
            replace ls := ls.frame k₂₂
            replace hka := tup_kp hka k₂₂
            walk_at "r"
            refine isTrue_plain ?_
            walk_at "r"
            refine PyProof.Rows.len_tuple hka (by simp; omega) ?_
            walk_at "r"
            obtain ⟨x, hx, hxl⟩ : ∃ c, ("fg" : Str).cps[N2 - 1]? = some c ∧ (⟨#[c]⟩ : Str) ∈ ltrs := by
              have : N2 = 1 ∨ N2 = 2 := by omega
              rcases this with rfl | rfl
              · exact ⟨_, rfl, by decide +kernel⟩
              · exact ⟨_, rfl, by decide +kernel⟩
            refine strItem (j := N2 - 1) (by simp; omega) (by omega) hx fun u₃ tk₃ => ?_
            walk_at "r"
            obtain ⟨fm, fns, -⟩ := id B₂₂.ns
            obtain ⟨oL, hoL⟩ := B₂₂.at_
            have hLd : ∀ vs, oL.data ≠ .fields vs := fun vs q => by
              obtain ⟨o, es, ep, ho, hd, _⟩ := id fns
              rw [hoL] at ho; cases ho; rw [q] at hd; cases hd
            have inF : ∀ env : Env, env.frame = some L → ∀ a, a ∈ frs [env] ↔ a = L := fun env hfe a => by unfold frs; rw [List.filterMap_cons, hfe]; simp
            have hF : ∀ env : Env, env.scope.kind = .function → env.frame = some L → FrAt h₂₂ [env] := fun env hkk hfe e' m => by
              rw [List.mem_singleton] at m; subst m
              exact ⟨by rw [hkk]; decide, L, oL, hfe, hoL, hLd⟩
            refine taken_ok (outer := [_]) W (by exact Bd.st (by assumption)) ls.bank ls.rws lb.ok (by omega) hxl hka x2 (by omega) (fun k hk => ⟨(x4 k hk).1, by have := (x4 k hk).2; omega⟩) ((hA' _).le (by omega)) (Around.frames_deeper hfr) (hF _ rfl rfl) (fun a ha => ⟨fm, (inF _ rfl a).mp ha ▸ fns⟩)
              hgB (by have := hTw rl lr_; exact B₂₂.far rl this.1) (fun a ha => (inF _ rfl a).mp ha ▸ Bo.gone) (fun q => ls.neB _ q lr') (fun q => (ls.new rl lr_).2 ((inF _ rfl _).mp q)) (fun a ha q => (ls.new a (List.mem_append_right _ ha)).2 ((inF _ rfl _).mp q))
              fun h₂₃ tk₂₃ rows' k₂₃ hnsk hb₂₃ hr₂₃ hrow => ?_
            dsimp only at k₂₃ hnsk
            have k₂₃' : Kp (fun a => B.S a ∨ a = rl ∨ a = L) h₂₂ h₂₃ := k₂₃.mono fun a q => q.imp id fun q => q.imp id (inF _ rfl a).mp
            replace ls := ls.taken k₂₃' hb₂₃ hr₂₃
            have B₂₃ := B₂₂.stepF k₂₃' (fun a q => by
              rcases q with q | q | q
              · exact .inl (hTw a (List.mem_append_right _ (BA.S_all q))).1
              · exact .inl (q ▸ (hTw rl lr_).1)
              · exact .inr (.inr q)) (hnsk L ((inF _ rfl L).mpr rfl))
            have lb' : LB (i + 1) rows' gone (K + 1 + 1 + N2) := by
              rcases hrow with rfl | ⟨rfl, hm, hkk⟩
              · exact lb.step (by omega)
              · have hG := (addNd_ok (nd := ⟨⟨#[x]⟩, ks⟩) lb.ok hxl (by show ks.length ≤ 2; omega) hkk).1
                rw [show (addNd rows ⟨⟨#[x]⟩, ks⟩).1 = rows ++ [⟨⟨#[x]⟩, ks⟩] from by unfold addNd; rw [if_neg hm]] at hG
                refine lb.grown hG (by omega) ?_ (by omega)
                have : hgts (ks.map fun k => tm rows k.toNat) ≤ 3 + i := hgts_le fun t ht => by
                  obtain ⟨k, hk, rfl⟩ := List.mem_map.mp ht
                  exact lb.hgt _ (by have := hkk k hk; omega)
                show 1 + hgts (ks.map fun k => tm rows k.toNat) ≤ _
                omega
            walk_at "r"
            refine itF rfl ?_
            walk_at "r"
            refine ⟨h₂₃, _, gl, rfl, rfl, B₂₃.weak (mp_sub ?_), rl, _, _, _, ls, lb', hIn⟩
            intro p hp
            simp only [List.mem_cons, List.not_mem_nil, or_false] at hp
            rcases hp with rfl | rfl | rfl <;> rfl
        · refine itF (by simp; omega) ?_
          walk_at "r"
          refine drawn_ok 2 (by omega) _ _ g _ _ _ _ _ _ W (by exact Bd.st (by assumption)) ls.box (by have := lb.draws; simp [drs]; omega) ((hA' _).le (by omega)) hgb fun v T h₁₈ tk₁₈ k₁₈ hbx hv okT hgT => ?_
          dsimp only at k₁₈
          replace ls := ls.draw k₁₈ hbx
          replace B₁₇ := B₁₇.step k₁₈ fun a q => q ▸ ⟨Or.inl (hTw b lb_).1, (hTw b lb_).2⟩
          walk_at "r"
          intro h₁₉ B₁₉ hs₁₉
          have k₁₉ : Kp (fun a => a = L) h₁₈ h₁₉ := Kp.same hs₁₉ rfl B₁₇.nt
          replace ls := ls.frame k₁₉
          replace hv := rd_kp hv k₁₉
          have hcT : cnt T ≤ 7 := by
            have := cnt_lt okT
            have : 2 ^ hgt T ≤ 2 ^ 3 := Nat.pow_le_pow_right (by decide) hgT
            omega
          have hlen := lb.len
          walk_at "r"
          refine bput_ok (n := 3) hgT (by omega) okT W (by exact Bd.st (by assumption)) ls.bank lb.ok (by omega) (by omega) hv ((hA' _).le (by omega)) hgB fun u₁ h₂₀ tk₂₀ k₂₀ hb₂₀ => ?_
          dsimp only at k₂₀
          replace ls := ls.cut k₂₀ hb₂₀
          replace B₁₉ := B₁₉.step k₂₀ fun a q => ⟨Or.inl (hTw a (List.mem_append_right _ (BA.S_all q))).1, (hTw a (List.mem_append_right _ (BA.S_all q))).2⟩
          replace hv := rd_kp hv k₂₀
          walk_at "r"
          refine lput_ok 3 T hgT okT _ _ g _ _ rows _ _ W (by exact Bd.st (by assumption)) ls.rws lb.ok (by omega) hv ((hA' _).le (by omega)) (by have := ls.new rl lr_; cases q : g.get? rl with | none => rfl | some o => have z := st.stays _ o q; rw [this.1] at z; cases z) fun u₂ h₂₁ tk₂₁ k₂₁ hr₂₁ => ?_
          dsimp only at k₂₁
          replace ls := ls.put k₂₁ hr₂₁
          replace B₁₉ := B₁₉.step k₂₁ fun a q => q ▸ ⟨Or.inl (hTw rl lr_).1, (hTw rl lr_).2⟩
          walk_at "r"
          refine itF (by simp) ?_
          walk_at "r"
          refine ⟨h₂₁, _, gl, rfl, rfl, B₁₉.weak (mp_sub ?_), rl, _, _, _, ls, lb.grown (put_ok T lb.ok okT).1 hcT (by omega) (by simp [drs]), hIn⟩
          intro p hp
          simp only [List.mem_cons, List.not_mem_nil, or_false] at hp
          rcases hp with rfl | rfl | rfl <;> rfl
    · obtain ⟨h₂₀, tk₂₀, gl', rfl, rfl, B₂₀, rl', rows', gone', K', ls, lb, hIn⟩ := hf
      walk_at "r"
      refine isTrue_plain ?_
      walk_at "r"
      refine kept_ok W (by exact Bd.st (by assumption)) ls.bank lb.ok (by have := lb.len; omega) (fun j hj => by have := lb.hgt j hj; omega) ls.rws ls.gn lb.gop (by have := lb.glen; omega) ((hA' _).le (by omega)) fun h₂₁ tk₂₁ k₂₁ => ?_
      dsimp only at k₂₁
      replace ls := ls.kp0 k₂₁
      replace B₂₀ := B₂₀.step0 k₂₁
      walk_at "r"
      refine itF rfl ?_
      walk_at "r"
      walk_at "q"
      exact hQt gl' _ _ B₂₀ ⟨rl', rows', gone', K', ls, lb, hIn⟩
  · rintro I gl h₁₄ tk₁₄ hI Bo ⟨rl, rows, gone, K, ls, lb, hIn⟩
    walk_at "n"
    clear hI hIn rangeI hr k₁₂ hbx B₁₁
    have hlen := lb.len
    walk_at "s"
    walk_at "s"
    refine listCut ?_ (fun o i => [o, i]) (by intro o i; with_unfolding_all rfl)
    refine lcS (g := g) (S := No) (cl := [("rows", L + 2)]) rfl (by decide) rfl (by decide) rfl ?_
    walk_at "r"
    obtain ⟨vr, hpr, hvr⟩ := id ls.rws
    have hlr : vr.length = rows.length := by rw [rdAll_length hvr, List.length_map]
    refine lenList (n := (rows.length : Nat)) hpr.isList (by simp [hlr]) (by omega) fun u' tk => ?_
    walk_at "r"
    refine rangeNew fun r2 h₁₅ tk₁₅ t₁ u₁ v₁ k₁₅ hr2 => ?_
    dsimp only at k₁₅
    replace Bo := Bo.step0 k₁₅
    replace ls := ls.kp0 k₁₅
    have hget : ∀ j, j < rows.length → (terms rows)[j]? = some (tm rows j) := fun j hj => by
      rw [tm, List.getD_eq_getElem?_getD, List.getElem?_eq_getElem (by rw [terms_length]; exact hj)]; rfl
    refine ⟨_, _, [], fun j ys h => RdAll h ys (((terms rows).take j).map tmD), Src.range (hA' _).handled hr2 (by omega), by exact Bd.st (by assumption), fun _ q => q.elim, fun _ q => q.elim, by simp, .nil, ?_, ?_, ?_⟩
    · intro j ys h h' x k
      exact rdAll_kp x k
    · rintro C j y ys h₁₆ tk₁₆ Qb E' hQb hj ⟨tj, rfl⟩ x B₃ hC
      have ls₃ := ls.kp0 B₃.kp
      walk_at "r"
      refine term_ok lb.ok (by omega) 9 j hj (by have := lb.hgt j hj; omega) _ _ g _ _ _ _ W (by exact B₃.st) ls₃.rws ((hA' _).le (by omega)) fun v h₁₇ tk₁₇ k₁₇ hv => ?_
      walk_at "q"
      refine hQb _ _ _ k₁₇ ?_
      show RdAll _ _ _
      rw [List.take_add_one, hget j hj, List.map_append]
      exact rdAll_append (rdAll_kp x k₁₇) (rdCons hv .nil)
    · intro Dl ys h₁₆ tk₁₆ hDl hl₁₆ hlen' x k₁₆
      rw [List.take_of_length_le (by rw [terms_length]; omega)] at x
      replace Bo := Bo.step0 k₁₆
      replace ls := ls.kp0 k₁₆
      refine evalPart_none_step (evalPart_none_step (evalPart_some_step ?_))
      walk_at "r"
      refine ⟨Dl, _, none, none, some (-1), rfl, hl₁₆, .none, .none, .int _ _, by simp, by simp [sizeLine_eq]; omega, fun sl h₁₇ tk₁₇ k₁₇ hsl hpl => ?_⟩
      dsimp only at k₁₇ hsl
      rw [krv_pick] at hpl
      have hsL : ∀ a ∈ lawL L b D rl gl ++ B.all, sl ≠ a := fun a ha q => ls.fresh ha hsl q.symm
      have slL : sl ≠ L := (Bo.new hsl).2
      replace Bo := Bo.step0 k₁₇
      replace ls := ls.kp0 k₁₇
      have hsv : RdAll h₁₇ ys.reverse (((terms rows).reverse).map tmD) := by rw [List.map_reverse]; exact rdAll_rev (rdAll_kp x k₁₇)
      have hsp : h₁₇.PlainList sl ys.reverse.toArray := by simpa using hpl
      clear hpl hl₁₆ hDl x
      walk_at "r"
      intro h₁₈ B₁₈ hs₁₈
      have k₁₈ : Kp (fun a => a = L) h₁₇ h₁₈ := Kp.same hs₁₈ rfl Bo.nt
      replace ls := ls.frame k₁₈
      replace hsv := rdAll_kp hsv k₁₈
      replace hsp := plain_kp hsp k₁₈ slL
      walk_at "r"
      refine cut_ok (many := 0) W (by exact Bd.st (by assumption)) ls.bank (by omega) (by omega) ((hA' _).le (by omega)) hgB fun h₁₉ tk₁₉ k₁₉ hb₁₉ => ?_
      dsimp only at k₁₉
      replace ls := ls.cut k₁₉ hb₁₉
      replace B₁₈ := B₁₈.step k₁₉ fun a q => ⟨Or.inr (ls.new a (List.mem_append_right _ (BA.S_all q))).1, (ls.new a (List.mem_append_right _ (BA.S_all q))).2⟩
      replace hsv := rdAll_kp hsv k₁₉
      replace hsp := plain_kp hsp k₁₉ fun q => hsL _ (List.mem_append_right _ (BA.S_all q)) rfl
      walk_at "s"
      refine Assign_Tuple ?_
      walk_at "r"
      refine listNew (fun d1 h₂₀ k₂₀ hd1 hpl1 => ?_) (by simp [sizeLine_eq])
      dsimp only at k₂₀ hd1
      have lsd1 := ls.live
      have t1 := B₁₈.new hd1
      have sd1 : sl ≠ d1 := ne_live (plain_at hsp) hd1
      replace ls := ls.kp0 k₂₀
      replace B₁₈ := B₁₈.step0 k₂₀
      replace hsv := rdAll_kp hsv k₂₀
      replace hsp := plain_kp hsp k₂₀ id
      walk_at "r"
      obtain ⟨v2, hp2, hv2⟩ := id ls.rws
      obtain ⟨v3, hp3, hv3⟩ := id ls.gn
      have hl2 : v2.length = rows.length := by rw [rdAll_length hv2, List.length_map]
      have hl3 : v3.length = gone.length := by rw [rdAll_length hv3, List.length_map]
      refine addList hp3.isList hp2.isList (by have := lb.glen; simp [sizeLine_eq]; omega) fun d3 h₂₁ k₂₁ hd3 hpl3 => ?_
      dsimp only at k₂₁ hd3
      have lsd3 := ls.live
      have t3 := B₁₈.new hd3
      have d13 : d1 ≠ d3 := ne_live (plain_at hpl1) hd3
      have hr1 : RowsAt h₂₁ d1 [] := ⟨[], plain_kp hpl1 k₂₁ id, .nil⟩
      have hr3 : RowsAt h₂₁ d3 (gone ++ rows) := ⟨_, hpl3, by rw [List.map_append]; exact rdAll_append (rdAll_kp hv3 k₂₁) (rdAll_kp hv2 k₂₁)⟩
      replace ls := ls.kp0 k₂₁
      replace B₁₈ := B₁₈.step0 k₂₁
      replace hsv := rdAll_kp hsv k₂₁
      replace hsp := plain_kp hsp k₂₁ id
      walk_at "r"
      refine tupleNew (fun T h₂₂ k₂₂ hT => ?_) (by simp [sizeLine_eq])
      dsimp only at k₂₂
      replace ls := ls.kp0 k₂₂
      replace B₁₈ := B₁₈.step0 k₂₂
      replace hr1 := hr1.kp k₂₂ id
      replace hr3 := hr3.kp k₂₂ id
      replace hsv := rdAll_kp hsv k₂₂
      replace hsp := plain_kp hsp k₂₂ id
      walk_at "r"
      refine wpAny_assign_Tuple (hA' _).handled hT rfl rfl fun h₂₃ hE => ?_
      have k₂₃ : Kp0 h₂₂ h₂₃ := .of_stays fun b o e => hE b o (fun z => by rw [z] at e; dsimp only at e; rw [fresh_size] at e; cases e) e
      replace ls := ls.kp0 k₂₃
      replace B₁₈ := B₁₈.step0 k₂₃
      replace hr1 := hr1.kp k₂₃ id
      replace hr3 := hr3.kp k₂₃ id
      replace hsv := rdAll_kp hsv k₂₃
      replace hsp := plain_kp hsp k₂₃ id
      have l1 : ∀ a ∈ lawL L b D rl gl ++ B.all, a ≠ d1 := fun a ha => ne_live (lsd1 a ha) hd1
      have l3 : ∀ a ∈ lawL L b D rl gl ++ B.all, a ≠ d3 := fun a ha => ne_live (lsd3 a ha) hd3
      have m2 : L + 2 ∈ lawL L b D rl gl ++ B.all := l2_
      show wpAny _ _ (do holding _ (assign (.Name "rows" _) _ (.ref d1)); assignInOrder _ _) _ _ _
      refine wpAny_bind (wpAny_holding (wpAny_assign_Name (wpAny_storeName_cell (c := L + 2) rfl rfl rfl ls.c2 (fun h₂₄ c2 hs₂₄ => ?_))))
      dsimp only at hs₂₄
      have hcnt : ∀ o, h₂₃.get? (L + 2) = some o → ¬ IsT o := cell_noTup ls.c2
      have k₂₄ : Kp (fun a => a = L + 2) h₂₃ h₂₄ := Kp.same hs₂₄ rfl hcnt
      replace B₁₈ := B₁₈.step k₂₄ fun a q => ⟨Or.inr (q ▸ (ls.new _ m2).1), q ▸ (ls.new _ m2).2⟩
      replace hr1 := hr1.kp k₂₄ fun q => l1 _ m2 q.symm
      replace hr3 := hr3.kp k₂₄ fun q => l3 _ m2 q.symm
      replace hsv := rdAll_kp hsv k₂₄
      replace hsp := plain_kp hsp k₂₄ fun q => hsL _ m2 q
      have ls' := ls.lists k₂₄ c2 hr1 hr3 (fun a ha => ⟨l1 a ha, l3 a ha⟩) d13 ⟨t1.1.resolve_left id, t1.2⟩ ⟨t3.1.resolve_left id, t3.2⟩
      show wpAny _ _ (do holding _ (assign (.Name "gone" _) _ (.ref d3)); assignInOrder _ _) _ _ _
      refine wpAny_bind (wpAny_holding (wpAny_assign_Name (sL B₁₈ (fun h₂₅ B₂₅ hs₂₅ => ?_))))
      have k₂₅ : Kp (fun a => a = L) h₂₄ h₂₅ := Kp.same hs₂₅ rfl B₁₈.nt
      replace ls' := ls'.frame k₂₅
      replace hsv := rdAll_kp hsv k₂₅
      replace hsp := plain_kp hsp k₂₅ slL
      refine wpAny_pure ?_
      walk_at "r"
      refine tupleNew (fun T2 h₂₆ k₂₆ hT2 => ?_) (by simp [sizeLine_eq])
      dsimp only at k₂₆
      replace ls' := ls'.kp0 k₂₆
      replace B₂₅ := B₂₅.step0 k₂₆
      replace hsv := rdAll_kp hsv k₂₆
      replace hsp := plain_kp hsp k₂₆ id
      walk_at "r"
      refine seek_ok (ks := []) W (by exact Bd.st (by assumption)) ls'.bank ⟨T2, [], rfl, .nil, .inl hT2⟩ (by simp) ((hA' _).le (by omega)) fun u₅ h₂₇ tk₂₇ k₂₇ => ?_
      dsimp only at k₂₇
      replace ls' := ls'.kp0 k₂₇
      replace B₂₅ := B₂₅.step0 k₂₇
      replace hsv := rdAll_kp hsv k₂₇
      replace hsp := plain_kp hsp k₂₇ id
      walk_at "r"
      refine itF (by simp) ?_
      walk_at "r"
      refine isTrue_plain ?_
      walk_at "r"
      have hgop : ∀ nd ∈ gone ++ rows, nd.op ∈ ltrs ∧ nd.kids.length ≤ 2 := fun nd h => (List.mem_append.mp h).elim (lb.gop nd) (lb.ok.op nd)
      have hglen : (gone ++ rows).length < 900 := by have := lb.glen; rw [List.length_append]; omega
      refine kept_ok W (by exact Bd.st (by assumption)) ls'.bank RowsOk.nil (by simp) (fun j hj => by simp at hj) ls'.rws ls'.gn hgop hglen ((hA' _).le (by omega)) fun h₂₈ tk₂₈ k₂₈ => ?_
      dsimp only at k₂₈
      replace ls' := ls'.kp0 k₂₈
      replace B₂₅ := B₂₅.step0 k₂₈
      replace hsv := rdAll_kp hsv k₂₈
      replace hsp := plain_kp hsp k₂₈ id
      walk_at "r"
      refine itF rfl ?_
      walk_at "r"
      refine itF rfl ?_
      walk_at "r"
      have hts : ∀ t ∈ (terms rows).reverse, ∃ j, j < rows.length ∧ tm rows j = t := fun t ht => by
        obtain ⟨j, hj, e⟩ := List.mem_iff_getElem.mp (List.mem_reverse.mp ht)
        have hj' : j < rows.length := by rw [terms_length] at hj; exact hj
        have z := hget j hj'
        rw [List.getElem?_eq_getElem hj] at z
        exact ⟨j, hj', by rw [← e]; exact (Option.some.inj z).symm⟩
      have htl : ((terms rows).reverse).length = rows.length := by rw [List.length_reverse, terms_length]
      have htake : ∀ i, ∀ t ∈ ((terms rows).reverse).take i, ∃ j, j < rows.length ∧ tm rows j = t := fun i t ht => hts t (List.mem_of_mem_take ht)
      generalize hyr : ys.reverse = zs at *
      have hzl : zs.length = rows.length := by rw [← hyr, List.length_reverse]; exact hlen'
      generalize (terms rows).reverse = ts at *
      have hfa : ∀ a, (B.S a ∨ a = d1) → s.heap.get? a = none ∧ a ≠ L := fun a q => by
        rcases q with q | rfl
        · exact ls'.new a (List.mem_append_right _ (BA.S_all q))
        · exact ls'.new _ lr_
      have hfg : ∀ a, (B.S a ∨ a = d1) → g.get? a = none := fun a q => by
        cases e : g.get? a with
        | none => rfl
        | some o => have z := st.stays _ o e; rw [(hfa a q).1] at z; cases z
      refine forS (g := g) (S := fun a => B.S a ∨ a = d1) (h₀ := s.heap) (L := L) (l := [("gone", .ref d3), ("some", .ref sl), ("gone", .ref gl), ("bank", .ref B.b), ("script", .ref l)]) ?_
      walk_at "r"
      refine ⟨_, _, [sl], fun i h => LS w s.heap h L B b D d1 d3 (puts (ts.take i) []).1 (puts (ts.take i) []).1 (gone ++ rows) K ∧ RdAll h zs (ts.map tmD), Src.list (hA' _).handled hsp.isList (by simp [sizeLine_eq]; omega), B₂₅.grow (fun _ q => q.elim) hfg, ?_, ?_, ⟨by rw [List.take_zero, puts]; exact ls', hsv⟩, ?_, ?_, ?_⟩
      · rintro a (q | rfl)
        · exact ls'.live a (List.mem_append_right _ (BA.S_all q))
        · exact ls'.live _ lr_
      · intro a ha
        rw [List.mem_singleton] at ha
        subst ha
        exact ⟨fun q => q.elim (fun q => hsL _ (List.mem_append_right _ (BA.S_all q)) rfl) sd1, slL⟩
      · rintro i h h' I hI ⟨x1, x2⟩ k
        exact ⟨x1.out k fun a ha q => (ls'.fresh ha hI) q, rdAll_kp x2 k⟩
      · rintro i v h₂₉ tk₂₉ Qt Et hQt - - hi hP B₃ Bp ⟨ls₃, hv₃⟩
        have hx : zs[i]? = some v := by simpa using hP
        obtain ⟨dd, hd, hrd⟩ := rdAll_at hv₃ i v hx
        rw [List.getElem?_map, Option.map_eq_some_iff] at hd
        obtain ⟨T, hTi, rfl⟩ := hd
        obtain ⟨j, hj, hjT⟩ := hts T (List.mem_of_getElem? hTi)
        have okT : TmOk T := hjT ▸ tm_ok lb.ok j hj
        have hgT : hgt T ≤ 9 := by have := lb.hgt j hj; rw [hjT] at this; omega
        have hcT : cnt T < 512 := by
          have := cnt_lt okT
          have : 2 ^ hgt T ≤ 2 ^ 9 := Nat.pow_le_pow_right (by decide) hgT
          omega
        obtain ⟨okTs, okR, lenR, -⟩ := put_again lb.ok (htake i)
        have esn := puts_snoc (ts.take i) T []
        have etk : ts.take (i + 1) = ts.take i ++ [T] := by rw [List.take_add_one, hTi]; rfl
        rw [← etk] at esn
        generalize hR : (puts (ts.take i) []).1 = R at *
        refine wpAny_assign_Name (sL Bp (fun h₃₀ B₃₀ hs₃₀ => ?_))
        have k₃₀ : Kp (fun a => a = L) h₂₉ h₃₀ := Kp.same hs₃₀ rfl Bp.nt
        replace ls₃ := ls₃.frame k₃₀
        replace hrd := rd_kp hrd k₃₀
        replace hv₃ := rdAll_kp hv₃ k₃₀
        walk_at "r"
        refine bput_ok (n := 9) hgT (by omega) okT W (by exact Bd.st (by assumption)) ls₃.bank okR (by omega) (by omega) hrd ((hA' _).le (by omega)) hgB fun u₁ h₃₁ tk₃₁ k₃₁ hb₃₁ => ?_
        dsimp only at k₃₁
        replace ls₃ := ls₃.cut k₃₁ hb₃₁
        replace B₃₀ := B₃₀.step k₃₁ fun a q => ⟨Or.inl (Or.inl (Or.inl q)), (hfa a (.inl q)).2⟩
        replace hrd := rd_kp hrd k₃₁
        replace hv₃ := rdAll_kp hv₃ k₃₁
        walk_at "r"
        refine lput_ok 9 T hgT okT _ _ g _ _ R _ _ W (by exact Bd.st (by assumption)) ls₃.rws okR (by omega) hrd ((hA' _).le (by omega)) (hfg d1 (.inr rfl)) fun u₂ h₃₂ tk₃₂ k₃₂ hr₃₂ => ?_
        dsimp only at k₃₂
        replace ls₃ := ls₃.put k₃₂ hr₃₂
        replace B₃₀ := B₃₀.step k₃₂ fun a q => ⟨Or.inl (Or.inl (Or.inr q)), (hfa a (.inr q)).2⟩
        replace hv₃ := rdAll_kp hv₃ k₃₂
        walk_at "r"
        refine itF (by simp) ?_
        walk_at "r"
        walk_at "q"
        exact hQt _ _ (B₃₀.pop rfl) ⟨by rw [esn]; exact ls₃, hv₃⟩
      · rintro h₂₉ tk₂₉ B₂₉ ⟨ls₃, hv₃⟩
        rw [List.take_of_length_le (by simp; omega)] at ls₃
        obtain ⟨okTs, okR, lenR, hmR⟩ := put_again lb.ok hts
        generalize (puts ts []).1 = R at *
        walk_at "n"
        walk_at "r"
        refine kept_ok W (by exact Bd.st (by assumption)) ls₃.bank okR (by omega) (fun i hi => by
          obtain ⟨j, hj, e⟩ := hmR i hi
          have := lb.hgt j hj
          rw [← e]; omega) ls₃.rws ls₃.gn hgop hglen ((hA' _).le (by omega)) fun h₃₀ tk₃₀ k₃₀ => ?_
        dsimp only at k₃₀
        replace B₂₉ := B₂₉.step0 k₃₀
        walk_at "q"
        exact hQ _ _ (B₂₉.kp0 fun a q => (hfa a q).1)
end

end Mine
open PySem PySem.W PySem.Calls PyProof.Rows
theorem PySem.Challenge.cw_pf0001_01_holds : PySem.Challenge.rw_pf0001_01.Holds := by
  refine Mine.hd ?_
  k_fill
  intro w s₀ s₁ mg mb G Y fa o pm cd doc dV kV ho hd hcd hD hmg hg args vals as hpre hlay hrd hwl hlo
  have KX := kIn_of Y
  refine Ground.open G ?_
  intro T B D TE TW
  try (refine guard_noD D (by decide +kernel) ?_; clear D)
  have hT := topRead_of T
  have efa : (some (PySem.Value.ref fa)) = some (.ref 230) := hmg.symm.trans (mg_of KX hT.g (Mine.kn_law w))
  have efa : fa = 230 := by injection efa with efa; injection efa
  subst efa
  clear ho hd hcd hD hmg
  wrow_args hpre hlay hrd hwl hlo
  refine Mine.law_ok ⟨KX, mg, mb, hT⟩ .refl (by assumption) (by assumption) (by omega) ⟨rfl, by decide +kernel, by decide +kernel⟩ rfl (fun h' tk k => ?_)
  exact ⟨.inl ⟨_, _, _, rfl, raisesW_false (by wrow_none_raised), .bool true, by wrow_post, unshared_nil⟩, .of_keep k.stays, rfl, .of_eq hg⟩
