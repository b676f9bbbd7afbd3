import PyProof.Rows.All
import Wide.All
import OpenK.AllK
import Wide.FinOn
import KE.KNest
import HandS.ForMost
import HandS.GenOver
import HandS.AnyAll
import PyProof.CollectWalk
import PyProof.TupleOfGen
import HandS.TupMul
import HandS.TupAny
import HandS.Conv
import HandS.WideBits
import KE.KeyNested
import KE.KDictKeyed
import HandS.IsInst
import HandS.Style
import HandS.Wide
import HandS.Deep
import HandS.SortInts
import HandS.Steps
import HandS.Flow
import HandS.Exc
import HandS.ExcOwn
import HandS.TryOnly
import HandS.WordsExc
import KE.KSortedM
import HandS.HotCalls
import HandS.Zip
import HandS.Iter
import HandS.Defaults
import HandS.EndTab
import HandS.HeadWalk
import HandS.HeadHook1
import HandS.HeadHook2
import HandS.HeadHook3
import HandS.HeadHook4
import HandS.Hot
import HandS.ExcIs
import HandS.Rev
import KE.SortData
import HandS.Strs
import HandS.Star
import KE.GoesEnum
import KE.GoesMore
import KE.DataCmp
import HandS.Head0
import HandS.Head1
import HandS.Head2
import HandS.HeadEnd
import KE.KStateDown
import PySem.Challenge.RW_setright_k05_whole_rounds_kinds_and_pari
import KE.BitLaws
import PyProof.P3Eq
set_option Elab.async false
set_option linter.all false
set_option maxRecDepth 100000
set_option maxHeartbeats 2000000
/-! generator expressions: the context of the generator's own frame -/
namespace DG
open PySem PySem.Spec PyProof.Rows L2 GenW

/-- the around of a call that is u units deeper -/
abbrev upU (B : Around) (u : Nat) : Around := { B with units := B.units + u }
/-- the generator's frame runs: env its frame, s and H the state ahead of the frame, fp the walked thing's iterator -/
abbrev genCx (X : Cx) (s : Shared) (H : Hp) (env : Env) (fp : List Addr) (u : Nat) : Cx :=
  { X with A := (upU X.A u).deeper env, s_0 := s, H_0 := H, env := env, outer := X.stack, stack := env :: X.stack, ex := fp, fn := fun _ => false, pn := [], xe := fun _ _ => False }

/-- the names of the generator's scope -/
structure GNames (N : List Str) (sc scope : Scope) (own : List (Str × Nat)) : Prop where
  blk : BlkOk N sc scope own
  co : scope.isCoroutine = false
  nocell : ∀ y ∈ scope.names, y.2 ≠ .cell
  dot : scope.names.lookup (".0" : Str) = some NameKind.local

section
variable {X : Cx} {pins : List (Addr × Obj)} {σ : L2.St} {H : Hp} {s : Shared}
theorem gen_start {scope : Scope} {own : List (Str × Nat)} {fp : List Addr} {u : Nat} {code : Value} {itv : Value} {s' : Shared}
    (I : Inv X pins σ H s) (ok : GNames X.N X.env.scope scope own) (hN : X.N.Nodup) (hc : X.calm = true) (hfp : ∀ b ∈ fp, FpOk X pins H b ∧ b < s.heap.objs.size)
    (hns : s'.heap.Ns s.heap.objs.size (fun y => if y = ".0" then some itv else none)) (kp : ∀ b o, s.heap.get? b = some o → s'.heap.get? b = some o)
    (hos : s'.os = s.os) (hb : AllBare s'.gens) :
    Inv (genCx X s H (genEnv scope (cloFrom X.env.cells scope.names []) s.heap.objs.size code builtinsNs X.env) fp u) [] (wipe σ (own.map (·.2))) H s' := by
  generalize hgenv : genEnv scope (cloFrom X.env.cells scope.names []) s.heap.objs.size code builtinsNs X.env = ge
  have gL : ge.locals = s.heap.objs.size := by rw [← hgenv]; rfl
  have gcl : ge.cells = cloFrom X.env.cells scope.names [] := by rw [← hgenv]; rfl
  have gsc : ge.scope = scope := by rw [← hgenv]; rfl
  have gfr : ge.frame = some ge.locals := by rw [← hgenv]; rfl
  have capt : ∀ y ∈ scope.names, y.2 = .free → ∃ c, X.env.cells.lookup y.1 = some c := fun y hy e =>
    (ok.blk.free y hy e).elim (fun k => I.ok.has _ (.inl k)) (fun k => I.ok.has _ (.inr k))
  have inClo : ∀ {y c}, ge.cells.lookup y = some c → X.env.cells.lookup y = some c ∧ c < s.heap.objs.size := fun {y c} e => by
    rw [gcl] at e
    rcases cloFrom_mem (PySem.mem_of_lookup e) with hm | ⟨h1, h2⟩
    · cases hm
    · obtain ⟨c', hc'⟩ := capt _ h1 rfl
      rw [hc'] at h2
      have e2 : c = c' := h2
      subst e2
      obtain ⟨_, z⟩ := I.cell _ _ hc'
      exact ⟨hc', z.lt⟩
  have freeClo : ∀ {y}, scope.names.lookup y = some .free → ∃ c, ge.cells.lookup y = some c ∧ X.env.cells.lookup y = some c := fun {y} hl => by
    obtain ⟨c', e'⟩ := mem_lookup (cloFrom_has (cells := X.env.cells) (acc := []) (PySem.mem_of_lookup hl))
    rw [← gcl] at e'
    exact ⟨c', e', (inClo e').1⟩
  have noCell : ∀ y, ge.kindOf y = some .cell → False := fun y hy => by
    have hy' : scope.names.lookup y = some .cell := by rw [← gsc]; exact hy
    exact ok.nocell _ (PySem.mem_of_lookup hy') rfl
  have hb0 := I.ok.bsz
  have nsG : s'.heap.Ns ge.locals (fun y => if y = ".0" then some itv else none) := by rw [gL]; exact hns
  refine ⟨⟨I.ok.mod, ?_, ?_, ?_, Nat.le_of_eq gL.symm, ?_, ?_, ?_, fun _ => I.ok.hd hc, ?_, .inr ⟨rfl, gfr⟩, fun b hbx => ⟨?_, fun y c e z => ?_⟩, I.bs, Nat.le_trans I.ok.bsz I.sz, fun b o e z => ?_, fun b hbx z => ?_, I.stack, I.stkFree⟩,
    hos, hb, Un.kept kp, ⟨_, nsG, fun i y av e1 e2 e3 => ?_⟩, fun y c e => ?_, ?_, fun y c e => I.freeC y c (inClo e).1, fun p hp => absurd (show p ∈ ([] : List (Addr × Obj)) from hp) (by simp), I.hok.kept kp, by rw [wipe_length]; exact I.len⟩
  · show ge.scope.kind = _
    rw [gsc]; exact ok.blk.kind
  · show ge.globals = _
    rw [← hgenv]; exact I.ok.glob
  · show ge.builtins = _
    rw [← hgenv]; rfl
  · exact fun y z c e1 e2 => I.ok.inj y z c (inClo e1).1 (inClo e2).1
  · intro y hy
    rcases hy with hy | hy
    · exact (noCell y hy).elim
    · have hy' : scope.names.lookup y = some .free := by rw [← gsc]; exact hy
      obtain ⟨c, h1, _⟩ := freeClo hy'
      exact ⟨c, h1⟩
  · intro y c z
    cases z
  · show (X.A.frames).map (ge :: ·) = some (ge :: X.stack)
    rw [I.ok.frames]; rfl
  · show b ≠ ge.locals
    rw [gL]; exact Nat.ne_of_lt (hfp b hbx).2
  · exact (hfp b hbx).1.2.2.2.2.1 y c (inClo e).1 z
  · rcases (hfp b z).1.2.2.2.1 with q | q
    · exact I.ok.noex b o e q
    · exact absurd (Nat.lt_of_lt_of_le (Heap.lt_size e) (Nat.le_trans hb0 q)) (Nat.lt_irrefl _)
  · rcases List.mem_cons.mp (I.stkSub b z) with q | q
    · exact (hfp b hbx).1.2.1 q
    · exact (hfp b hbx).1.2.2.1 q
  · obtain ⟨e2, hne⟩ := wipe_some e2
    have e3 : Vis ge.scope y := e3
    have notOwn : ¬ (scope.names.lookup y = some .local) := fun hl => by
      rcases ok.blk.own _ (PySem.mem_of_lookup hl) (.inl rfl) with q | q
      · obtain ⟨p, hp, hpy⟩ := List.mem_map.mp q
        have e4 := ok.blk.ix p hp
        have e5 : p.1 = y := hpy
        rw [e5] at e4
        exact hne (List.mem_map.mpr ⟨p, hp, nodup_ix hN e4 e1⟩)
      · exact q (List.mem_of_getElem? e1)
    have isFree : scope.names.lookup y = some .free := by
      unfold Vis at e3
      rw [gsc] at e3
      rcases e3 with q | q | q
      · exact (notOwn q).elim
      · exact (ok.nocell _ (PySem.mem_of_lookup q) rfl).elim
      · exact q
    obtain ⟨m, hn, hl⟩ := I.loc
    have hvis : Vis X.env.scope y := (ok.blk.free _ (PySem.mem_of_lookup isFree) rfl).elim (fun k => .inr (.inl k)) (fun k => .inr (.inr k))
    obtain ⟨w, r, q⟩ := hl i y av e1 e2 hvis
    obtain ⟨c, h1, h2⟩ := freeClo isFree
    refine ⟨w, r, .inr ⟨.inr (show ge.scope.names.lookup y = _ by rw [gsc]; exact isFree), c, h1, ?_⟩⟩
    rcases q with ⟨k, _⟩ | ⟨_, c', e', z⟩
    · have k : X.env.scope.names.lookup y = some .local := k
      rcases ok.blk.free _ (PySem.mem_of_lookup isFree) rfl with k' | k' <;> (have k2 : X.env.scope.names.lookup y = _ := k'; rw [k2] at k; cases k)
    · rw [h2] at e'; cases e'
      exact z.keeps kp
  · obtain ⟨w, z⟩ := I.cell y c (inClo e).1
    exact ⟨w, z.keeps kp⟩
  · show H ge.locals = none
    rw [gL]; exact I.hok.fresh (Nat.le_refl _)
end
end DG

set_option Elab.async false
set_option linter.all false
set_option maxRecDepth 100000
set_option maxHeartbeats 2000000
/-! segments of a generator by a protocol that may depend on what is known (x : ι) -/
namespace DG
open PySem PySem.Spec PyProof.Rows L2 GenW
open Sem (wp)

section
variable {ι : Type} {M : Model}
abbrev REnds (ι : Type) := ι → Result → Shared → Prop
abbrev Proto (ι : Type) := ι → Value → Shared → (ι → Resume → Shared → Prop) → Prop
def SgE (R : REnds ι) (Y : Proto ι) (x : ι) (nxt : ι → Code → Sem PySem.Fin → List Frame → Shared → Prop) (e : End) (s' : Shared) : Prop :=
  match e with
  | .ret r => R x r s'
  | .susp v gd l k c p fs => (End.susp v gd l k c p fs).quiet = true ∧ Y x v s' fun x' r s'' => nxt x' c (k r) fs s''
def Sg (M : Model) (A : Around) (R : REnds ι) (Y : Proto ι) : Nat → ι → Code → Sem PySem.Fin → List Frame → Shared → Prop
  | 0 => fun x c t fs s => ∀ Γ p, Γ.code = c → Γ.Woken A → ∃ e s', Runs M Γ p t fs s e s' ∧ SgE R Y x (fun _ _ _ _ _ => False) e s'
  | n + 1 => fun x c t fs s => ∀ Γ p, Γ.code = c → Γ.Woken A → ∃ e s', Runs M Γ p t fs s e s' ∧ SgE R Y x (Sg M A R Y n) e s'
def SgNext (M : Model) (A : Around) (R : REnds ι) (Y : Proto ι) : Nat → ι → Code → Sem PySem.Fin → List Frame → Shared → Prop
  | 0 => fun _ _ _ _ _ => False
  | n + 1 => Sg M A R Y n
theorem sg_iff {A : Around} {R : REnds ι} {Y : Proto ι} {n : Nat} {x : ι} {c t fs s} :
    Sg M A R Y n x c t fs s ↔ ∀ Γ p, Γ.code = c → Γ.Woken A → ∃ e s', Runs M Γ p t fs s e s' ∧ SgE R Y x (SgNext M A R Y n) e s' := by
  cases n <;> exact Iff.rfl

variable {A : Around} {R : REnds ι} {Y : Proto ι} {n : Nat} {x : ι} {c : Code} {fs : List Frame} {s : Shared}
theorem sg_wrap {α : Type} {m : Sem α} {K : α → Sem PySem.Fin} {J : Value → Sem PySem.Fin} {gd lv}
    (h : wpAny M (A.over c fs) m (fun a s' => Sg M A R Y n x c (K a) fs s') (fun e s' => Sg M A R Y n x c (J e) fs s') s) : Sg M A R Y n x c (m.wrap K J gd lv) fs s := by
  refine sg_iff.mpr ?_
  intro Γ p hc hΓ
  subst hc
  exact runs_wrap_of_wp K J gd lv m (h (Γ.over fs) p (hΓ.over fs)) (fun a p' s' q => sg_iff.mp q Γ p' rfl hΓ) (fun e p' s' q => sg_iff.mp q Γ p' rfl hΓ)
theorem sg_bw {α β : Type} {m : Sem α} {K : α → Sem β} {K' : β → Sem PySem.Fin} {J' : Value → Sem PySem.Fin} {gd lv}
    (h : wpAny M (A.over c fs) m (fun a s' => Sg M A R Y n x c ((K a).wrap K' J' gd lv) fs s') (fun e s' => Sg M A R Y n x c (J' e) fs s') s) : Sg M A R Y n x c ((m >>= K).wrap K' J' gd lv) fs s := by
  have e := Sem.bind_eq_wrap' m K
  rw [e, Sem.wrap_wrap]
  exact sg_wrap h
theorem sg_at {p' : Pos} {k : Unit → Sem PySem.Fin} (h : Sg M A R Y n x c (k ()) fs s) : Sg M A R Y n x c (.at p' k) fs s :=
  sg_wrap (m := standAt p') (K := k) (J := .raise) (gd := id) (lv := id) (wpAny_standAt h)
theorem sg_again {c' : Code} (hq : c'.quiet = true) (h : Sg M A R Y n x c' (M.den c') fs s) : Sg M A R Y n x c (.pure (.again c')) fs s := by
  refine sg_iff.mpr ?_
  intro Γ p hc hΓ
  subst hc
  obtain ⟨e, s', hr, he⟩ := sg_iff.mp h (Γ.goto c') p rfl (hΓ.goto c')
  exact ⟨e, s', Runs.head (c₁ := c') (fun _ _ z => .again hq z) hr, he⟩
theorem sg_end (r : Result) (h : R x r s) : Sg M A R Y n x c (leafOf r) [] s := by
  refine sg_iff.mpr ?_
  intro Γ p hc _
  subst hc
  exact ⟨.ret r, s, Runs.leaf r, h⟩
theorem sg_yield {v l} {k : Resume → Sem PySem.Fin} (h : Y x v s fun x' r s'' => SgNext M A R Y n x' c (k r) [] s'') : Sg M A R Y n x c (.yield v false l k) [] s := by
  refine sg_iff.mpr ?_
  intro Γ p hc _
  subst hc
  exact ⟨_, s, Runs.yield' [] rfl, rfl, h⟩

/-- what a generator's state will do -/
def GoesD (M : Model) (A : Around) (R : REnds ι) (Y : Proto ι) (n : Nat) (gs : GenState) (r : Resume) (x : ι) (s : Shared) : Prop :=
  match gs with
  | .fresh c => r = .send .none ∧ Sg M A R Y n x c (M.den c) [] s
  | .suspended k _ c _ fs _ => Sg M A R Y n x c (k r) fs s
  | _ => False
def GoesN (M : Model) (A : Around) (R : REnds ι) (Y : Proto ι) : Nat → GenState → Resume → ι → Shared → Prop
  | 0 => fun _ _ _ _ => False
  | n + 1 => GoesD M A R Y n

theorem any_resume {A : Around} {E : Value → Shared → Prop} {g : Nat} {gs : GenState} {r : Resume} {l : List Value} {α : Type} {k : GenResult → Sem α} {Q : α → Shared → Prop}
    (hg : s.gens[g]? = some gs) (hgo : GoesD M A R Y n gs r x (s.setGen g .running))
    (hR : ∀ z s₁, R x z s₁ → wpAny M A (k (End.ret z).result) Q E (s₁.setGen g .finished))
    (hY : ∀ v s₁ gs', gs'.bare = true → Y x v s₁ (fun x' r' s'' => GoesN M A R Y n gs' r' x' s'') → wpAny M A (k (.yielded v)) Q E (s₁.setGen g gs')) :
    wpAny M A (.resume g r l k) Q E s := by
  intro Γ p hΓ
  rw [Sem.wp_resume]
  have wk : ∀ c, (Γ.wake c p).Woken A := fun c => hΓ.wake c p
  have fin : ∀ e₁ s₁, SgE R Y x (SgNext M A R Y n) e₁ s₁ → wp M Γ (k e₁.result) (fun a _ s' => Q a s') (fun e _ s' => E e s') p (s₁.setGen g e₁.genState) := by
    intro e₁ s₁ he
    cases e₁ with
    | ret z => exact hR z s₁ he Γ p hΓ
    | susp v g₀ l₀ k₀ c₀ p₀ fs₀ =>
      refine hY v s₁ _ (End.bare_of_quiet he.1) ?_ Γ p hΓ
      have h2 := he.2
      cases n with
      | zero => exact h2
      | succ q => exact h2
  have qt : ∀ e₁ s₁, SgE R Y x (SgNext M A R Y n) e₁ s₁ → e₁.quiet = true := by
    intro e₁ s₁ he
    cases e₁ with
    | ret _ => rfl
    | susp _ _ _ _ _ _ _ => exact he.1
  cases gs with
  | fresh c =>
    obtain ⟨hr0, hs⟩ := hgo
    subst hr0
    obtain ⟨e₁, s₁, hr, he⟩ := sg_iff.mp hs (Γ.wake c p) p rfl (wk c)
    exact ⟨_, _, by unfold Wakes; rw [hg]; exact ⟨e₁, s₁, hr, qt e₁ s₁ he, rfl, rfl⟩, fin e₁ s₁ he⟩
  | suspended k₀ l₀ c₀ p₀ fs₀ cl =>
    obtain ⟨e₁, s₁, hr, he⟩ := sg_iff.mp hgo (Γ.wake c₀ p) p₀ rfl (wk c₀)
    exact ⟨_, _, by unfold Wakes; rw [hg]; exact ⟨e₁, s₁, hr, qt e₁ s₁ he, rfl, rfl⟩, fin e₁ s₁ he⟩
  | running => cases hgo
  | finished => cases hgo
end

section
variable {ι : Type} {prog : Program} {w : World} {A : Around} {R : REnds ι} {Y : Proto ι} {E : Value → Shared → Prop} {s : Shared}
/-- next of a generator expression's object -/
theorem any_next {a : Addr} {g n : Nat} {gs : GenState} {x : ι} {Q : Option Value → Shared → Prop} {P : Shared → Prop} (hh : A.handled = none) (hl : s.heap.NoLimit) (hroom : A.depth < recursionLimit)
    (hg : s.heap.IsGen a g) (hgs : s.gens[g]? = some gs) (hgo : GoesD (model prog w) A.in1 R Y n gs (.send .none) x (s.setGen g .running))
    (hR : ∀ z s₁, R x z s₁ → z = .ok .next ∧ P s₁)
    (hY : ∀ v s₁ gs', gs'.bare = true → Y x v s₁ (fun x' r' s'' => GoesN (model prog w) A.in1 R Y n gs' r' x' s'') → Q (some v) (s₁.setGen g gs'))
    (hP : ∀ s₁, P s₁ → ∀ h', (∀ b o, s₁.heap.get? b = some o → h'.get? b = some o) → Q none { s₁.setGen g .finished with heap := h' }) :
    wpAny (model prog w) A (pyNext (.ref a)) Q E s := by
  unfold pyNext
  refine wpAny_bind (wpAny_attempt (wpAny_callSpecial?_slot (name := Str.ofString "__next__") hg.typeIs slot_gen_next (wpAny_call_entry slot_gen_next hg.typeIs entry_gen_next ?_ (args_gen_next _))))
  show wpAny _ A.in1 (Builtin.Generator.genWake (.ref a) (.send .none)) _ _ s
  unfold Builtin.Generator.genWake
  refine wpAny_bind (wpAny_holding (wpAny_genNumber hg (wpAny_bind (wpAny_genState hgs ?_))))
  cases gs with
  | running => cases hgo
  | finished => cases hgo
  | _ =>
    refine wpAny_bind (wpAny_roomToWake hl hroom ?_)
    show wpAny _ A.in1 (.resume g (.send .none) [] _) _ _ s
    refine any_resume hgs hgo (fun z s₁ hz => ?_) (fun v s₁ gs' hb hv => ?_)
    · obtain ⟨hz1, hp⟩ := hR z s₁ hz
      subst hz1
      show wpAny _ A.in1 (newExc (.type "StopIteration") [] >>= _) _ _ _
      refine wpAny_bind ?_
      simp only [newExc, newTuple]
      refine wpAny_bind (wpAny_newObj_type ?_ (by size_fits))
      refine wpAny_bind (m := firstArgMember _ _) (wpAny_of_eq (a := Value.none) (by first | rfl | (simp only [firstArgMember]; rfl)) ?_)
      refine wpAny_newObj_type ?_ (by size_fits)
      simp only [raiseNew]
      refine wpAny_bind (wpAny_bind (wpAny_handled ?_))
      have hh1 : A.in1.handled = none := hh
      first | rw [hh1] | rw [hh]
      refine wpAny_throw ?_
      refine wpAny_bind (wpAny_isInstance (T := "StopIteration") (b := true) ⟨_, Heap.get?_push_size _ rfl, rfl⟩ isSubtype_stop ?_)
      exact wpAny_pure (hP s₁ hp _ fun b o e => Heap.get?_push_of_some _ (Heap.get?_push_of_some _ e))
    · exact wpAny_pure ⟨v, rfl, wpAny_pure (hY v s₁ gs' hb hv)⟩
end
end DG

set_option Elab.async false
set_option linter.all false
set_option maxRecDepth 100000
set_option maxHeartbeats 2000000
/-! a generator expression's run, item by item -/
namespace DG
open PySem PySem.Spec PyProof.Rows L2 GenW

theorem turn_eq (elt tg iter : Expr) (ifs : List Expr) (scope : Scope) (pos : Pos) (it acc : Value) (env : Env) :
    compTurn (.GeneratorExp elt [⟨tg, iter, ifs, 0⟩] scope pos) 0 it acc env = (do
      standAt iter.pos
      match ← pyNext it with
      | none => pure (.done .next)
      | some u =>
        letOwnedTupleGo tg it u
        assign tg env u
        let mut ok := true
        for c in ifs do
          if ok then ok ← isTrue c env (eval c env)
        if ok then
          (do let y ← eval elt env; standAt elt.pos; let _ ← yieldOut env y)
        again (.compLoop (.GeneratorExp elt [⟨tg, iter, ifs, 0⟩] scope pos) 0 it acc env)) := by rfl

/-- what is known where a generator stands: the turn, a measure, what is out, the abstract heap, the consumer's own objects -/
structure GX where
  i : Nat
  m : Nat
  ys : List V
  H : Hp
  so : List (Addr × Obj)

/-- the readings of a generator expression: its walked thing, target, tests, element; the own slots -/
structure GP where
  J : It
  g : TG
  tt : TT
  te : TE
  vs : List Nat
  W : Nat → Nat → List V → Hp → Prop
  Fin : List V → Hp → Prop
  Out : Nat → Nat → List V → V → Hp → Prop

def GP.turn (p : GP) (σ : L2.St) : Prop := ∀ i m ys H, p.W i m ys H → (p.J.stop i H ∧ p.Fin ys H) ∨
  (p.J.go i H ∧ ∃ Nx : Hp → Prop, (∀ H', Nx H' → ∃ m', m' < m ∧ p.W (i + 1) m' ys H') ∧ ∀ x H', p.J.yld i H x H' → p.g x (wipe σ p.vs) H' fun σ2 H2 => wipe σ2 p.vs = wipe σ p.vs ∧ p.tt σ2 H2 fun b H3 =>
    if b = true then p.te σ2 H3 fun y H4 => p.Out i m ys y H4 else Nx H3)

/-- the state while it does not run -/
structure Fct (X : Cx) (p : GP) (σ : L2.St) (fp : List Addr) (tn : Nat → Heap → Prop) (ao : Addr × Obj) (i : Nat) (H : Hp) (so : List (Addr × Obj)) (s : Shared) : Prop where
  inv : Inv X (ao :: so) (wipe σ p.vs) H s
  tn : tn i s.heap
  fpk : ∀ b ∈ fp, FpOk X (ao :: so) H b
def gR (X : Cx) (p : GP) (σ : L2.St) (ao : Addr × Obj) : REnds GX := fun x r s => r = .ok .next ∧ ∃ H', Inv X (ao :: x.so) (wipe σ p.vs) H' s ∧ p.Fin x.ys H'
def gY (X : Cx) (p : GP) (σ : L2.St) (fp : List Addr) (tn : Nat → Heap → Prop) (ao : Addr × Obj) : Proto GX := fun x v s kap =>
  ∃ i m y H', m ≤ x.m ∧ RelV y v ∧ p.Out i m x.ys y H' ∧ Fct X p σ fp tn ao (i + 1) H' x.so s ∧
    ∀ x' s'', x'.i = i + 1 → x'.m < m → x'.ys = x.ys ++ [y] → x'.H = H' → p.W x'.i x'.m x'.ys x'.H → Fct X p σ fp tn ao x'.i x'.H x'.so s'' → kap x' (.send .none) s''

section
variable {X : Cx} {p : GP} {σ : L2.St} {fp : List Addr} {tn : Nat → Heap → Prop} {ao : Addr × Obj} {elt tg iter : Expr} {ifs : List Expr} {scope : Scope} {pos : Pos} {it : Addr} {A : Around}
abbrev gExp (elt tg iter : Expr) (ifs : List Expr) (scope : Scope) (pos : Pos) : Expr := .GeneratorExp elt [⟨tg, iter, ifs, 0⟩] scope pos

theorem sg_gen (hA : A.deeper X.env = X.A) (hxe : X.xe = fun _ _ => False) (hc : X.calm = true) (hco : X.env.scope.isCoroutine = false) (T : Turn X.prog X.w X.K tg p.J fp it tn)
    (hg : PG X tg p.g) (ht : PTs X ifs p.tt) (he : PE X elt p.te) (turn : p.turn σ) :
    ∀ (n m : Nat) (x : GX) (i : Nat) (H : Hp) (s : Shared), m ≤ n → m ≤ x.m → p.W i m x.ys H → Fct X p σ fp tn ao i H x.so s →
      Sg (model X.prog X.w) A (gR X p σ ao) (gY X p σ fp tn ao) n x (.compLoop (gExp elt tg iter ifs scope pos) 0 (.ref it) .none X.env)
        ((model X.prog X.w).den (.compLoop (gExp elt tg iter ifs scope pos) 0 (.ref it) .none X.env)) [] s := by
  have ov : A.over (.compLoop (gExp elt tg iter ifs scope pos) 0 (.ref it) .none X.env) [] = X.A := by
    rw [← hA]
    first
      | rfl
      | (obtain ⟨hd, d, fr, gs, u⟩ := A; simp [Around.over, Around.deeper, marksOver, frameCount, unitsOf, envsOf, guardsOf, pushEnvs, pushGuards, Code.envs, Code.env?, Code.isFrame, Code.guards, Code.isGuard, Code.weight, Code.frames, Code.isCreation, Code.isCaller, Code.cUnits])
  intro n
  induction n with
  | zero => ?_
  | succ n ihn => ?_
  all_goals
    intro m
    induction m using Nat.strongRecOn with
    | _ m ihm =>
      intro x i H s hmn hmx hw F
      show Sg _ A _ _ _ x _ ((compTurn (.GeneratorExp elt [⟨tg, iter, ifs, 0⟩] scope pos) 0 (.ref it) .none X.env).onRaise (leaving X.env)) [] s
      rw [turn_eq, Sem.onRaise_eq_wrap]
      refine sg_bw (wpAny_standAt ?_)
      rcases turn i m x.ys H hw with ⟨stop, fin⟩ | ⟨go, Nx, hNx, step⟩
      · refine sg_bw ?_
        rw [ov]
        refine thnF (T.done X rfl rfl rfl hc i _ s _ H _ F.inv F.fpk F.tn stop) fun r s1 ⟨hr, I1⟩ => ?_
        subst hr
        exact sg_end (.ok .next) ⟨rfl, H, I1, fin⟩
      · refine sg_bw ?_
        rw [ov]
        refine thnF (T.item X rfl rfl rfl hc i _ s _ H _ F.inv F.fpk F.tn go) fun r s1 ⟨u, hr, h1⟩ => ?_
        subst hr
        refine sg_bw ?_
        rw [ov]
        refine thnF h1 fun _ s2 ⟨xv, H2, I2, r2, y2, tn2, n2⟩ => ?_
        have fpk2 : ∀ b ∈ fp, FpOk X (ao :: x.so) H2 b := fun b hb => ⟨n2 b hb, (F.fpk b hb).2⟩
        have I2p := I2.pinned fpk2 (T.obj _ _ tn2)
        refine sg_bw ?_
        rw [ov]
        have pgr := hg.run _ s2 _ H2 xv u _ I2p r2 (step xv H2 y2)
        rw [hxe] at pgr
        refine thnF pgr fun _ s3 ⟨σ3, H3, I3, hw3, q3⟩ => ?_
        refine sg_bw ?_
        rw [ov]
        have ptr := ht.run _ s3 σ3 H3 _ I3 q3
        rw [hxe] at ptr
        refine thnF ptr fun b s4 ⟨H4, I4, q4⟩ => ?_
        have hl3 : (wipe σ p.vs).length = σ3.length := by rw [← hw3, wipe_length]
        have back : ∀ {s' : Shared} {H' : Hp}, Inv X ((ao :: x.so) ++ pinsAt fp s2.heap) σ3 H' s' → Fct X p σ fp tn ao (i + 1) H' x.so s' := fun {s' H'} I' => by
          have pin' : ∀ b ∈ fp, ∀ o, s2.heap.get? b = some o → s'.heap.get? b = some o ∧ H' b = none := fun b hb o e =>
            let z := I'.pin (b, o) (List.mem_append_right _ (List.mem_append_right _ (mem_pinsAt hb e)))
            ⟨z.1, z.2.1⟩
          refine ⟨(I'.unpinned).weak hl3 (fun j v e => ?_), T.keep _ _ _ tn2 fun b hb o e => (pin' b hb o e).1, fun b hb => ⟨?_, (F.fpk b hb).2⟩⟩
          · rw [← hw3] at e
            exact (wipe_some e).1
          · obtain ⟨o, e, _⟩ := T.obj _ _ tn2 b hb
            exact (pin' b hb o e).2
        cases b with
        | false =>
          simp only [Bool.false_eq_true, if_false] at q4 ⊢
          obtain ⟨m', hm', w'⟩ := hNx H4 q4
          exact sg_again rfl (ihm m' hm' x (i + 1) H4 s4 (by omega) (by omega) w' (back I4))
        | true =>
          simp only [if_true] at q4 ⊢
          have yo : ∀ v, yieldOut X.env v = yieldValue v := fun v => by simp only [yieldOut, hco, Bool.false_eq_true, if_false]
          simp only [yo]
          rw [Sem.bind_eq_wrap', Sem.bind_eq_wrap', Sem.wrap_wrap, Sem.wrap_wrap]
          refine sg_wrap ?_
          rw [ov]
          have per := he.run _ s4 σ3 H4 _ I4 q4
          rw [hxe] at per
          refine thnF per fun v s5 ⟨y, H5, I5, r5, q5⟩ => ?_
          refine sg_at (sg_yield ⟨i, m, y, H5, hmx, r5, q5, back I5, fun x' s'' e1 e2 e3 e4 w' F' => ?_⟩)
          first
            | (exfalso; omega)
            | exact sg_again rfl (ihn x'.m x' x'.i x'.H s'' (by omega) (Nat.le_refl _) w' F')

theorem sg_genStart (hA : A.deeper X.env = X.A) (hxe : X.xe = fun _ _ => False) (hc : X.calm = true) (hco : X.env.scope.isCoroutine = false) (T : Turn X.prog X.w X.K tg p.J fp it tn)
    (hg : PG X tg p.g) (ht : PTs X ifs p.tt) (he : PE X elt p.te) (turn : p.turn σ) (n : Nat) (x : GX) (s : Shared) (hn : x.m ≤ n) (hw : p.W x.i x.m x.ys x.H) (F : Fct X p σ fp tn ao x.i x.H x.so s) :
      Sg (model X.prog X.w) A (gR X p σ ao) (gY X p σ fp tn ao) n x (.compStart (gExp elt tg iter ifs scope pos) 0 (.ref it) .none X.env)
        ((model X.prog X.w).den (.compStart (gExp elt tg iter ifs scope pos) 0 (.ref it) .none X.env)) [] s := by
  have loop := sg_gen (iter := iter) (scope := scope) (pos := pos) (A := A) hA hxe hc hco T hg ht he turn n x.m x x.i x.H s hn (Nat.le_refl _) hw F
  show Sg _ A _ _ _ x _ ((compStart (.GeneratorExp elt [⟨tg, iter, ifs, 0⟩] scope pos) 0 (.ref it) .none X.env).onRaise (leaving X.env)) [] s
  unfold compStart
  rw [Sem.onRaise_eq_wrap]
  show Sg _ A _ _ _ x _ ((ask >>= _).wrap _ _ _ _) [] s
  refine sg_bw (wpAny_askSetting ?_)
  split
  · exact sg_again rfl loop
  · refine sg_bw (wpAny_rule ?_)
    show Sg _ A _ _ _ x _ ((standAt iter.pos >>= _).wrap _ _ _ _) [] s
    exact sg_bw (wpAny_standAt (sg_bw (T.self _ x.i s _ _ F.tn (sg_again rfl loop))))
end
end DG

set_option Elab.async false
set_option linter.all false
set_option maxRecDepth 100000
set_option maxHeartbeats 2000000
/-! a generator expression's object, pulled -/
namespace DG
open PySem PySem.Spec PyProof.Rows L2 GenW

theorem bare_set {a : Array GenState} {g : Nat} {x : GenState} (h : AllBare a) (hx : x.bare = true) : AllBare (a.setIfInBounds g x) := fun y hy => by
  rcases Array.mem_or_eq_of_mem_setIfInBounds hy with q | q
  · exact h y q
  · rw [q]; exact hx
section
variable {X : Cx} {pins : List (Addr × Obj)} {σ : L2.St} {H : Hp} {s : Shared}
theorem inv_gens {g' : Array GenState} (I : Inv X pins σ H s) (hb : AllBare g') : Inv X pins σ H { s with gens := g' } :=
  I.call (h' := s.heap) (g' := g') (d' := s.drawn) (t' := s.toks) (ch := []) Un.refl I.hok hb (fun b z => absurd z (by simp))
theorem inv_setGen {g : Nat} {x : GenState} (I : Inv X pins σ H s) (hx : x.bare = true) : Inv X pins σ H (s.setGen g x) := inv_gens I (bare_set I.bare hx)
theorem inv_heap {h' : Heap} (I : Inv X pins σ H s) (k : ∀ b o, s.heap.get? b = some o → h'.get? b = some o) : Inv X pins σ H { s with heap := h' } := I.kept (t' := s.toks) k
theorem get_setGen {g : Nat} {x : GenState} (h : g < s.gens.size) : (s.setGen g x).gens[g]? = some x := by
  show (s.gens.setIfInBounds g x)[g]? = some x
  simp [h]
end

section
variable {X : Cx} {p : GP} {σ : L2.St} {fp : List Addr} {tn : Nat → Heap → Prop} {ao : Addr × Obj} {A : Around} {g : Nat} {s : Shared}
theorem Fct.setGen {i : Nat} {H : Hp} {so : List (Addr × Obj)} {y : GenState} (F : Fct X p σ fp tn ao i H so s) (hy : y.bare = true) : Fct X p σ fp tn ao i H so (s.setGen g y) :=
  ⟨inv_setGen F.inv hy, F.tn, F.fpk⟩
/-- it sleeps, or has not begun; what it will do -/
def GAt (A : Around) (X : Cx) (p : GP) (σ : L2.St) (fp : List Addr) (tn : Nat → Heap → Prop) (ao : Addr × Obj) (g : Nat) (x : GX) (s : Shared) : Prop :=
  Fct X p σ fp tn ao x.i x.H x.so s ∧ ∃ gs n, s.gens[g]? = some gs ∧ x.m ≤ n ∧ ∀ s'', Fct X p σ fp tn ao x.i x.H x.so s'' → GoesD (model X.prog X.w) A.in1 (gR X p σ ao) (gY X p σ fp tn ao) n gs (.send .none) x s''
/-- an item y is out -/
def GOut (A : Around) (X : Cx) (p : GP) (σ : L2.St) (fp : List Addr) (tn : Nat → Heap → Prop) (ao : Addr × Obj) (g : Nat) (x : GX) (i m : Nat) (y : V) (H : Hp) (s : Shared) : Prop :=
  Fct X p σ fp tn ao (i + 1) H x.so s ∧ ∃ gs n, s.gens[g]? = some gs ∧ m ≤ n ∧ ∀ x' s'', x'.i = i + 1 → x'.m < m → x'.ys = x.ys ++ [y] → x'.H = H → p.W x'.i x'.m x'.ys x'.H → Fct X p σ fp tn ao x'.i x'.H x'.so s'' →
    GoesN (model X.prog X.w) A.in1 (gR X p σ ao) (gY X p σ fp tn ao) n gs (.send .none) x' s''
theorem GOut.at {x x' : GX} {i m : Nat} {y : V} {H : Hp} {s s' : Shared} (h : GOut A X p σ fp tn ao g x i m y H s) (e1 : x'.i = i + 1) (e2 : x'.m < m) (e3 : x'.ys = x.ys ++ [y]) (e4 : x'.H = H) (w : p.W x'.i x'.m x'.ys x'.H)
    (F : Fct X p σ fp tn ao x'.i x'.H x'.so s') (hg : s'.gens = s.gens) : GAt A X p σ fp tn ao g x' s' := by
  obtain ⟨_, gs, n, q1, q2, q3⟩ := h
  cases n with
  | zero => exact absurd e2 (by omega)
  | succ n => exact ⟨F, gs, n, by rw [hg]; exact q1, by omega, fun s'' F' => q3 x' s'' e1 e2 e3 e4 w F'⟩
theorem gpull {x : GX} {Q : Option Value → Shared → Prop} {E : Value → Shared → Prop} (hh : A.handled = none) (hroom : A.depth < recursionLimit) (hao : ∀ h : Heap, h.get? ao.1 = some ao.2 → h.IsGen ao.1 g)
    (G : GAt A X p σ fp tn ao g x s)
    (h0 : ∀ s' H', Inv X (ao :: x.so) (wipe σ p.vs) H' s' → p.Fin x.ys H' → Q none s')
    (h1 : ∀ v y i m H' s', m ≤ x.m → RelV y v → p.Out i m x.ys y H' → GOut A X p σ fp tn ao g x i m y H' s' → Q (some v) s') :
    wpAny (model X.prog X.w) A (pyNext (.ref ao.1)) Q E s := by
  obtain ⟨F, gs, n, hgs, hn, hgo⟩ := G
  have lt : g < s.gens.size := by
    rcases Nat.lt_or_ge g s.gens.size with q | q
    · exact q
    · rw [Array.getElem?_eq_none q] at hgs; cases hgs
  have isg : s.heap.IsGen ao.1 g := hao _ (F.inv.pin ao (List.mem_append_right _ List.mem_cons_self)).1
  refine wpAny_gsz (Nat.le_refl _) ?_
  refine any_next (P := fun s₁ => ∃ H', Inv X (ao :: x.so) (wipe σ p.vs) H' s₁ ∧ p.Fin x.ys H') hh F.inv.nolimit hroom isg hgs (hgo _ (F.setGen rfl)) (fun z s₁ h => h) (fun v s₁ gs' hb hv => ?_) (fun s₁ hp h' hk => ?_)
  · obtain ⟨i, m, y, H', hm, r, o, F', kap⟩ := hv
    intro hsz
    have hsz1 : g < s₁.gens.size := by
      have e : (s₁.setGen g gs').gens.size = s₁.gens.size := setGen_size _ _ _
      rw [e] at hsz
      exact Nat.lt_of_lt_of_le lt hsz
    exact h1 v y i m H' _ hm r o ⟨F'.setGen hb, gs', n, get_setGen hsz1, Nat.le_trans hm hn, kap⟩
  · obtain ⟨H', I, f⟩ := hp
    intro _
    exact h0 _ H' (inv_heap (inv_setGen I rfl) hk) f
end
end DG

set_option Elab.async false
set_option linter.all false
set_option maxRecDepth 100000
set_option maxHeartbeats 2000000
/-! a generator expression made -/
namespace DG
open PySem PySem.Spec PyProof.Rows L2 GenW

theorem room_gen {k : Nat} {A : Around} {e : Env} {u : Nat} (r : Room (k + 1) A) (hu : u ≤ 8) : Room k ((upU A u).deeper e) :=
  ⟨r.hd, by have := r.dp; show A.depth + 1 + 3 * k + 5 < _; omega, by have := r.un; show A.units + u + 3 + 16 * k + 200 < _; omega⟩

/-- behind the making: the generator at ao.1 over J; the parent's state can be taken up again from any state of the generator -/
structure GMade (X : Cx) (pins : List (Addr × Obj)) (σ : L2.St) (tg : Expr) (g : TG) (tt : TT) (te : TE) (vs : List Nat) (J : It) (H2 : Hp) (a : Addr) (s5 : Shared) : Prop where
  gen : ∃ (s4 : Shared) (ge : Env) (fp : List Addr) (tn : Nat → Heap → Prop) (ao : Addr × Obj) (gi : Nat), ao.1 = a ∧ (∀ h : Heap, h.get? ao.1 = some ao.2 → h.IsGen ao.1 gi) ∧ a < s5.heap.objs.size ∧ (∀ b ∈ fp, b < a) ∧ s4.heap.objs.size ≤ a ∧ s5.heap.NoLimit ∧
    (∀ (u : Nat) (σ' : L2.St) (H' : Hp) (ps : List (Addr × Obj)) (s' : Shared), Inv (genCx X s4 H2 ge fp u) ps σ' H' s' → Inv X pins σ H' s') ∧
    (∀ (u : Nat) (so : List (Addr × Obj)) (s' : Shared), u + 1 ≤ 8 → (∀ b o, s5.heap.get? b = some o → s'.heap.get? b = some o) → s'.gens = s5.gens → s'.os = s5.os →
      (∀ q ∈ so, s'.heap.get? q.1 = some q.2 ∧ s5.heap.objs.size ≤ q.1 ∧ ∀ v, q.2.data ≠ .cell v) →
      ∀ (W : Nat → Nat → List V → Hp → Prop) (Fin : List V → Hp → Prop) (Out : Nat → Nat → List V → V → Hp → Prop) (m : Nat),
      GP.turn ⟨J, g, tt, te, vs, W, Fin, Out⟩ σ → W 0 m [] H2 → GAt (upU X.A u) (genCx X s4 H2 ge fp (u + 1)) ⟨J, g, tt, te, vs, W, Fin, Out⟩ σ fp tn ao gi ⟨0, m, [], H2, so⟩ s') ∧
    ∀ i h h', tn i h → (∀ b ∈ fp, ∀ u, h.get? b = some u → h'.get? b = some u) → tn i h'

section
variable {X : Cx} {pins : List (Addr × Obj)} {σ : L2.St} {H : Hp} {s : Shared}
theorem gen_make {c P : Addr} {elt tg iter : Expr} {ifs : List Expr} {pos : Pos} {scope : Scope} {own : List (Str × Nat)} {wi : TI} {g : TG} {tt : TT} {te : TE} {k : Nat} {Q' : Value → Shared → Prop} {R : It → Hp → Prop}
    (hr : Room (k + 1) X.A) (TB : GxR.TabB X.base X.mg c P) (hcode : X.env.code = .ref c) (ok : GNames X.N X.env.scope scope own) (hN : X.N.Nodup) (hc : X.calm = true) (hi : PI X tg iter wi)
    (hg : ∀ (s : Shared) (H : Hp) (C : Addr) (code : Value) (fp : List Addr) (u : Nat), PG (genCx X s H (genEnv scope (cloFrom X.env.cells scope.names []) C code builtinsNs X.env) fp u) tg g)
    (ht : ∀ (s : Shared) (H : Hp) (C : Addr) (code : Value) (fp : List Addr) (u : Nat), u ≤ 8 → PTs (genCx X s H (genEnv scope (cloFrom X.env.cells scope.names []) C code builtinsNs X.env) fp u) ifs tt)
    (he : ∀ (s : Shared) (H : Hp) (C : Addr) (code : Value) (fp : List Addr) (u : Nat), u ≤ 8 → PE (genCx X s H (genEnv scope (cloFrom X.env.cells scope.names []) C code builtinsNs X.env) fp u) elt te)
    (hs : ∀ v, genFold iter X.env v = pure v) (I : Inv X pins σ H s) (h : wi σ H fun J H1 => GxR.TabG H1 P ∧ ∀ H2, GxR.Tabbed P H1 H2 → R J H2)
    (hQ : ∀ J H2 a s5, R J H2 → GMade X pins σ tg g tt te (own.map (·.2)) J H2 a s5 → Q' (.ref a) s5) :
    wpAny (model X.prog X.w) X.A (eval (gExp elt tg iter ifs scope pos) X.env) Q' X.xe s := by
  have capt : ∀ y ∈ scope.names, y.2 = .free → ∃ c, X.env.cells.lookup y.1 = some c := fun y hy e =>
    (ok.blk.free y hy e).elim (fun z => I.ok.has _ (.inl z)) (fun z => I.ok.has _ (.inr z))
  refine wpAny_GeneratorExp_make ok.co (closure_ok capt) ok.nocell ok.dot ok.blk.kind hr.depth ?_ hs
  refine thn (hi.run pins s σ H _ I h) fun xv s1 hx => thn hx fun itv s2 h2 => ?_
  obtain ⟨it, fp, tn, J, H1, e, I2, T, tn2, f2, ⟨ps, hP, htr⟩, q⟩ := h2
  subst e
  have hPs : s2.heap.get? P = some { cls := .none, data := .fields ps } := I2.hok P _ hP
  have cd : PySem.W.CodeHd s2.heap c P := TB.code.keeps fun b u e => I2.bk b u e
  have nfP : ∀ b ∈ fp, b ≠ P := fun b hb z => by
    have := (f2 b hb).1
    rw [z, hP] at this
    cases this
  refine ⟨I2.nolimit, ?_⟩
  -- behind the code object
  have go : ∀ (code : Value) (h3 : Heap) (tk : Nat) (ps' : Array Value), Heap.ExtBut P s2.heap h3 → s2.heap.objs.size ≤ h3.objs.size → h3.get? P = some { cls := .none, data := .fields ps' } → (∃ more, ps' = ps ++ more) → TriplesOk ps'.toList →
      wpAny (model X.prog X.w) X.A (builtinsFor X.env.globals X.env.builtins) (fun bi s₄ =>
        ∀ h', h'.Ns s₄.heap.objs.size (fun y => if y = ".0" then some (Value.ref it) else none) → Heap.SameBut s₄.heap.objs.size (s₄.heap.push { cls := .type "frame", data := .dict #[] }) h' →
          Q' (.ref h'.objs.size) { s₄ with
            gens := s₄.gens.push (.fresh (.compStart (gExp elt tg iter ifs scope pos) 0 (.ref it) .none (genEnv scope (cloFrom X.env.cells scope.names []) s₄.heap.objs.size code bi X.env))),
            toks := s₄.toks + 1 + 1 + 1,
            heap := h'.push { cls := .type "generator", data := .fields #[.int s₄.gens.size 0, .str "<genexpr>" (s₄.toks + 1), .str (X.env.qual ++ "<genexpr>") (s₄.toks + 1 + 1)] } }) X.xe { s2 with heap := h3, toks := tk } := by
    intro code h3 tk ps' hx hsz hP3 hmore ht3
    obtain ⟨more, em⟩ := hmore
    obtain ⟨bm, ob, b1, b2, b3, b4, b5, b6, b7, b8⟩ := TB.bm
    have keep3 : ∀ b u, b ≠ P → s2.heap.get? b = some u → h3.get? b = some u := fun b u hb e => hx b u hb e
    refine wpAny_builtinsFor (m := X.mg) (by rw [I2.ok.glob]; exact (I2.mod.glob.keeps I2.bk).extBut hx TB.gP) b1 b2 (keep3 _ _ b4 (I2.bk _ _ b5)) b6 b7 b8 ?_
    have I4 : Inv X pins σ (upd H1 P (.tbl (ps ++ more))) { s2 with heap := h3, toks := tk } :=
      GxR.inv_tab (h' := h3) (g' := s2.gens) (d' := s2.drawn) (t' := tk) I2 hP keep3 (by rw [← em]; exact hP3) I2.bare
    generalize hH4 : upd H1 P (.tbl (ps ++ more)) = H4 at I4
    generalize hs4 : ({ s2 with heap := h3, toks := tk } : Shared) = s4 at I4 ⊢
    have h4 : s4.heap = h3 := by rw [← hs4]
    have tabbed : GxR.Tabbed P H1 H4 := ⟨⟨ps ++ more, by rw [← hH4]; exact upd_same, by rw [← em]; exact ht3⟩, fun b hb => by rw [← hH4]; exact upd_ne hb⟩
    have lt2 : ∀ b ∈ fp, b < s2.heap.objs.size := fun b hb => by
      obtain ⟨o, e, _⟩ := T.obj _ _ tn2 b hb
      exact Heap.lt_size e
    have f4 : ∀ b ∈ fp, FpOk X pins H4 b ∧ b < s4.heap.objs.size := fun b hb =>
      ⟨⟨by rw [tabbed.2 b (nfP b hb)]; exact (f2 b hb).1, (f2 b hb).2⟩, by rw [h4]; exact Nat.lt_of_lt_of_le (lt2 b hb) hsz⟩
    have tn4 : tn 0 s4.heap := T.keep _ _ _ tn2 fun b hb o e => by rw [h4]; exact keep3 b o (nfP b hb) e
    intro h' hn' hsb
    have sz' : h'.objs.size = s4.heap.objs.size + 1 := by rw [hsb.1, Heap.size_push]
    have k5 : ∀ b o, s4.heap.get? b = some o → h'.get? b = some o := fun b o e => hsb.extBut b o (Nat.ne_of_lt (Heap.lt_size e)) (Heap.get?_push_of_some _ e)
    generalize hgo : ({ cls := .type "generator", data := .fields #[.int s4.gens.size 0, .str "<genexpr>" (s4.toks + 1), .str (X.env.qual ++ "<genexpr>") (s4.toks + 1 + 1)] } : Obj) = go
    generalize hge : genEnv scope (cloFrom X.env.cells scope.names []) s4.heap.objs.size code builtinsNs X.env = ge
    generalize hcd : Code.compStart (gExp elt tg iter ifs scope pos) 0 (.ref it) .none ge = cd0
    generalize hs5 : ({ s4 with gens := s4.gens.push (.fresh cd0), toks := s4.toks + 1 + 1 + 1, heap := h'.push go } : Shared) = s5
    have h5 : s5.heap = h'.push go := by rw [← hs5]
    have g5 : s5.gens = s4.gens.push (.fresh cd0) := by rw [← hs5]
    have os5 : s5.os = s4.os := by rw [← hs5]
    have gat : (h'.push go).get? h'.objs.size = some go := Heap.get?_push_size _ (by rw [← hgo]; rfl)
    have k45 : ∀ b o, s4.heap.get? b = some o → s5.heap.get? b = some o := fun b o e => by rw [h5]; exact Heap.get?_push_of_some _ (k5 b o e)
    refine hQ J H4 h'.objs.size s5 (q H4 tabbed) ⟨s4, ge, fp, tn, (h'.objs.size, go), s4.gens.size, rfl, fun h e => ?_, ?_, fun b hb => ?_, ?_, I4.nolimit.keeps k45, fun u σ' H' ps s' I' => ?_, fun u so s' hu ks hgs hos hso W Fin Out m turn w0 => ?_, T.keep⟩
    · rw [← hgo] at e
      exact ⟨_, _, _, e, rfl, rfl, rfl⟩
    · rw [h5, Heap.size_push]; exact Nat.lt_succ_self _
    · rw [sz']; exact Nat.lt_succ_of_lt (f4 b hb).2
    · rw [sz']; exact Nat.le_succ _
    · exact I4.call' (ch := fp) I'.os I'.base I'.hok I'.bare fun b hb => ⟨(f4 b hb).1.2.2.2.1, (f4 b hb).1.2.1, (f4 b hb).1.2.2.2.2.1, (f4 b hb).1.2.2.2.2.2⟩
    · have eL : ge.locals = s4.heap.objs.size := by rw [← hge]; rfl
      have nsS : s'.heap.Ns s4.heap.objs.size (fun y => if y = ".0" then some (Value.ref it) else none) := by
        have z : s5.heap.Ns s4.heap.objs.size (fun y => if y = ".0" then some (Value.ref it) else none) := by rw [h5]; exact hn'.push _
        exact z.keeps ks
      have bareS : AllBare s'.gens := by rw [hgs, g5]; exact I4.bare.push rfl
      have I5 : Inv (genCx X s4 H4 ge fp (u + 1)) [] (wipe σ (own.map (·.2))) H4 s' := by
        rw [← hge]
        exact gen_start I4 ok hN hc f4 nsS (fun b o e => ks b o (k45 b o e)) (hos.trans os5) bareS
      have szS : s5.heap.objs.size ≤ s'.heap.objs.size := by
        rcases Nat.lt_or_ge s'.heap.objs.size s5.heap.objs.size with z | z
        · exfalso
          have e1 : s5.heap.get? h'.objs.size = some go := by rw [h5]; exact gat
          have e2 := Heap.lt_size (ks _ _ e1)
          have e3 : s5.heap.objs.size = h'.objs.size + 1 := by rw [h5, Heap.size_push]
          have e4 : h'.objs.size + 1 ≤ s'.heap.objs.size := e2
          omega
        · exact z
      have newer : ∀ b, h'.objs.size ≤ b → (∃ o, s'.heap.get? b = some o) → H4 b = none ∧ b ≠ ge.locals ∧ b ∉ frs X.stack := fun b hb _ => by
        have hb1 : s4.heap.objs.size + 1 ≤ b := Nat.le_trans (Nat.le_of_eq sz'.symm) hb
        refine ⟨I4.hok.fresh (Nat.le_of_succ_le hb1), by rw [eL]; exact Nat.ne_of_gt hb1, fun z => ?_⟩
        obtain ⟨_, o, ho, _⟩ := I4.stack.mem z
        exact absurd (Nat.lt_of_lt_of_le (Heap.lt_size ho) (Nat.le_of_succ_le hb1)) (Nat.lt_irrefl _)
      have gS : s'.heap.get? h'.objs.size = some go := ks _ _ (by rw [h5]; exact gat)
      have ncell : ∀ v, go.data ≠ .cell v := fun v z => by rw [← hgo] at z; cases z
      have F5 : Fct (genCx X s4 H4 ge fp (u + 1)) ⟨J, g, tt, te, own.map (·.2), W, Fin, Out⟩ σ fp tn (h'.objs.size, go) 0 H4 so s' := by
        refine ⟨I5.pins_of fun p hp => ?_, T.keep _ _ _ tn4 fun b _ o e => ks b o (k45 b o e), fun b hb => ⟨(f4 b hb).1.1, ?_, fun z => ?_, .inl hb, fun x c e => ?_, fun p hp => ?_⟩⟩
        · rcases List.mem_cons.mp hp with z | z
          · subst z
            obtain ⟨n1, n2, n3⟩ := newer h'.objs.size (Nat.le_refl _) ⟨go, gS⟩
            exact ⟨gS, n1, n2, n3, ncell⟩
          · obtain ⟨e1, e2, e3⟩ := hso p z
            have e4 : s5.heap.objs.size = h'.objs.size + 1 := by rw [h5, Heap.size_push]
            obtain ⟨n1, n2, n3⟩ := newer p.1 (Nat.le_of_succ_le (Nat.le_trans (Nat.le_of_eq e4.symm) e2)) ⟨_, e1⟩
            exact ⟨e1, n1, n2, n3, e3⟩
        · exact (I5.ok.exf b hb).1
        · exact I5.ok.exfs b hb z
        · exact (I5.ok.exf b hb).2 x c e
        · have bl := (f4 b hb).2
          have hp : p ∈ (h'.objs.size, go) :: so := hp
          rcases List.mem_cons.mp hp with z | z
          · subst z
            exact fun e5 => absurd (Nat.lt_of_lt_of_le bl (Nat.le_trans (Nat.le_succ _) (Nat.le_of_eq sz'.symm))) (by rw [← e5]; exact Nat.lt_irrefl _)
          · have e2 := (hso p z).2.1
            have e4 : s5.heap.objs.size = h'.objs.size + 1 := by rw [h5, Heap.size_push]
            have e6 : h'.objs.size + 1 ≤ p.1 := Nat.le_trans (Nat.le_of_eq e4.symm) e2
            exact fun e5 => absurd (Nat.lt_of_lt_of_le bl (Nat.le_trans (Nat.le_succ _) (Nat.le_of_eq sz'.symm))) (by rw [← e5]; exact Nat.not_lt.mpr (Nat.le_of_succ_le e6))
      refine ⟨F5, .fresh cd0, m, ?_, Nat.le_refl _, fun s'' F'' => ⟨rfl, ?_⟩⟩
      · rw [hgs, g5]
        exact Array.getElem?_push_size ..
      · rw [← hcd]
        have hg' := hg s4 H4 s4.heap.objs.size code fp (u + 1)
        have ht' := ht s4 H4 s4.heap.objs.size code fp (u + 1) hu
        have he' := he s4 H4 s4.heap.objs.size code fp (u + 1) hu
        rw [hge] at hg' ht' he'
        refine sg_genStart (X := genCx X s4 H4 ge fp (u + 1)) (A := upU X.A (u + 1)) rfl rfl hc ?_ T hg' ht' he' turn m ⟨0, m, [], H4, so⟩ s'' (Nat.le_refl _) w0 F''
        show ge.scope.isCoroutine = false
        rw [← hge]; exact ok.co
  cases hf : codeAmong pos ps.toList with
  | none =>
    refine wpAny_genexprCodeX hcode (cd.code hPs htr) (cd.tab hPs) hf fun c' h' tk hx hge hlt hco' _ htab' _ => ?_
    obtain ⟨o1, vs, f1, tf, fl, tg', inF, tx, tt', op, _, _, _, _, _, _, _, _, _, tr', _⟩ := hco'
    exact go _ h' tk _ hx (Nat.le_trans hge (Nat.le_of_lt hlt)) htab'.2 ⟨_, rfl⟩ tr'
  | some cv =>
    refine wpAny_genexprCode_hit hcode (cd.code hPs htr) hf ?_
    exact go cv s2.heap s2.toks ps (Heap.ExtBut.refl _ _) (Nat.le_refl _) hPs ⟨#[], by simp⟩ htr
end
end DG

set_option Elab.async false
set_option linter.all false
set_option maxRecDepth 100000
set_option maxHeartbeats 2000000
/-! all, any of a generator expression -/
namespace DG
open PySem PySem.Spec PyProof.Rows L2 GenW

section
variable {X : Cx} {p : GP} {σ : L2.St} {fp : List Addr} {tn : Nat → Heap → Prop} {ao : Addr × Obj} {A : Around} {g : Nat} {so : List (Addr × Obj)} {Fa : Hp → Prop} {R : Result → Shared → Prop}
theorem all_gen (hh : A.handled = none) (hroom : A.depth < recursionLimit) (hao : ∀ h : Heap, h.get? ao.1 = some ao.2 → h.IsGen ao.1 g)
    (hOut : ∀ i m ys y H, p.Out i m ys y H → ∃ b, y = .bl b ∧ (b = true → ∃ m', m' < m ∧ p.W (i + 1) m' (ys ++ [y]) H) ∧ (b = false → Fa H))
    (h0 : ∀ s' H' ys, Inv X (ao :: so) (wipe σ p.vs) H' s' → p.Fin ys H' → R (.ok (.ret (.bool true))) s') (h1 : ∀ s' H', Inv X (ao :: so) (wipe σ p.vs) H' s' → Fa H' → R (.ok (.ret (.bool false))) s') :
    ∀ (n : Nat) (x : GX) (s : Shared), x.m ≤ n → x.so = so → GAt A.in1 X p σ fp tn ao g x s → codeAny (model X.prog X.w) A (.builtin "all.loop" ⟨[.ref ao.1], []⟩) R s := by
  intro n
  induction n with
  | zero => ?_
  | succ n ih => ?_
  all_goals
    intro x s hm hso G
    refine codeAny_builtin F.entry_all_loop ?_
    rw [Around.under_plainId F.plain_all_loop _]
    show wpAny _ A.in1 (pyNext (.ref ao.1) >>= _) _ _ s
    refine wpAny_bind (gpull hh hroom hao G (fun s' H' I f => ?_) fun v y i m H' s' hmx r o GO => ?_)
    · refine wpAny_bind (wpAny_rule (wpAny_pure ?_))
      rw [hso] at I
      exact h0 s' H' _ I f
    · obtain ⟨b, hy, ht, hf⟩ := hOut _ _ _ _ _ o
      subst hy
      have hv : v = Value.bool b := r
      subst hv
      refine wpAny_bind (wpAny_holding (wpAny_truthy_bool ?_))
      refine wpAny_bind (wpAny_letGo ?_)
      cases b with
      | false =>
        simp only [Bool.false_eq_true, if_false]
        refine wpAny_bind (wpAny_rule (wpAny_pure ?_))
        have I := GO.1.inv
        rw [hso] at I
        exact h1 s' H' I (hf rfl)
      | true =>
        obtain ⟨m', hm', w'⟩ := ht rfl
        obtain ⟨F1, gs, nn, q1, q2, q3⟩ := id GO
        simp only [if_true]
        refine wpAny_pure ⟨plainId_quiet F.plain_all_loop _, ?_⟩
        have G' : GAt A.in1 X p σ fp tn ao g ⟨i + 1, m', x.ys ++ [.bl true], H', x.so⟩ s' := GO.at rfl hm' rfl rfl w' F1 rfl
        first
          | exact ih ⟨i + 1, m', x.ys ++ [.bl true], H', x.so⟩ s' (by show m' ≤ n; omega) hso G'
          | (exfalso; omega)
theorem any_gen (hh : A.handled = none) (hroom : A.depth < recursionLimit) (hao : ∀ h : Heap, h.get? ao.1 = some ao.2 → h.IsGen ao.1 g)
    (hOut : ∀ i m ys y H, p.Out i m ys y H → ∃ b, y = .bl b ∧ (b = false → ∃ m', m' < m ∧ p.W (i + 1) m' (ys ++ [y]) H) ∧ (b = true → Fa H))
    (h0 : ∀ s' H' ys, Inv X (ao :: so) (wipe σ p.vs) H' s' → p.Fin ys H' → R (.ok (.ret (.bool false))) s') (h1 : ∀ s' H', Inv X (ao :: so) (wipe σ p.vs) H' s' → Fa H' → R (.ok (.ret (.bool true))) s') :
    ∀ (n : Nat) (x : GX) (s : Shared), x.m ≤ n → x.so = so → GAt A.in1 X p σ fp tn ao g x s → codeAny (model X.prog X.w) A (.builtin "any.loop" ⟨[.ref ao.1], []⟩) R s := by
  intro n
  induction n with
  | zero => ?_
  | succ n ih => ?_
  all_goals
    intro x s hm hso G
    refine codeAny_builtin F.entry_any_loop ?_
    rw [Around.under_plainId F.plain_any_loop _]
    show wpAny _ A.in1 (pyNext (.ref ao.1) >>= _) _ _ s
    refine wpAny_bind (gpull hh hroom hao G (fun s' H' I f => ?_) fun v y i m H' s' hmx r o GO => ?_)
    · refine wpAny_bind (wpAny_rule (wpAny_pure ?_))
      rw [hso] at I
      exact h0 s' H' _ I f
    · obtain ⟨b, hy, hf, ht⟩ := hOut _ _ _ _ _ o
      subst hy
      have hv : v = Value.bool b := r
      subst hv
      refine wpAny_bind (wpAny_holding (wpAny_truthy_bool ?_))
      refine wpAny_bind (wpAny_letGo ?_)
      cases b with
      | true =>
        simp only [if_true]
        refine wpAny_bind (wpAny_rule (wpAny_pure ?_))
        have I := GO.1.inv
        rw [hso] at I
        exact h1 s' H' I (ht rfl)
      | false =>
        obtain ⟨m', hm', w'⟩ := hf rfl
        obtain ⟨F1, gs, nn, q1, q2, q3⟩ := id GO
        simp only [Bool.false_eq_true, if_false]
        refine wpAny_pure ⟨plainId_quiet F.plain_any_loop _, ?_⟩
        have G' : GAt A.in1 X p σ fp tn ao g ⟨i + 1, m', x.ys ++ [.bl false], H', x.so⟩ s' := GO.at rfl hm' rfl rfl w' F1 rfl
        first
          | exact ih ⟨i + 1, m', x.ys ++ [.bl false], H', x.so⟩ s' (by show m' ≤ n; omega) hso G'
          | (exfalso; omega)
end

section
variable {X : Cx}
/-- all(elt for target in iter), any(..): W by the turn, a measure and the heap -/
def tAllG (P : Addr) (wi : TI) (g : TG) (tt : TT) (te : TE) (vs : List Nat) : TE := fun σ H Q => wi σ H fun J H1 => GxR.TabG H1 P ∧ ∀ H2, GxR.Tabbed P H1 H2 →
  ∃ W : Nat → Nat → Hp → Prop, (∃ m, W 0 m H2) ∧ ∀ i m H, W i m H → (J.stop i H ∧ Q (.bl true) H) ∨
    (J.go i H ∧ ∀ x H', J.yld i H x H' → g x (wipe σ vs) H' fun σ2 H2 => wipe σ2 vs = wipe σ vs ∧ tt σ2 H2 fun b H3 =>
      if b = true then te σ2 H3 fun y H4 => ∃ b, y = .bl b ∧ (b = true → ∃ m', m' < m ∧ W (i + 1) m' H4) ∧ (b = false → Q (.bl false) H4) else ∃ m', m' < m ∧ W (i + 1) m' H3)
def tAnyG (P : Addr) (wi : TI) (g : TG) (tt : TT) (te : TE) (vs : List Nat) : TE := fun σ H Q => wi σ H fun J H1 => GxR.TabG H1 P ∧ ∀ H2, GxR.Tabbed P H1 H2 →
  ∃ W : Nat → Nat → Hp → Prop, (∃ m, W 0 m H2) ∧ ∀ i m H, W i m H → (J.stop i H ∧ Q (.bl false) H) ∨
    (J.go i H ∧ ∀ x H', J.yld i H x H' → g x (wipe σ vs) H' fun σ2 H2 => wipe σ2 vs = wipe σ vs ∧ tt σ2 H2 fun b H3 =>
      if b = true then te σ2 H3 fun y H4 => ∃ b, y = .bl b ∧ (b = false → ∃ m', m' < m ∧ W (i + 1) m' H4) ∧ (b = true → Q (.bl true) H4) else ∃ m', m' < m ∧ W (i + 1) m' H3)

variable {c P : Addr} {elt tg iter : Expr} {ifs : List Expr} {pos cpos px : Pos} {scope : Scope} {own : List (Str × Nat)} {wi : TI} {g : TG} {tt : TT} {te : TE} {k : Nat}
/-- the facts that every generator expression of a body wants -/
structure GenOk (X : Cx) (c P : Addr) (k : Nat) (scope : Scope) (own : List (Str × Nat)) (iter : Expr) : Prop where
  hr : Room (k + 1) X.A
  TB : GxR.TabB X.base X.mg c P
  code : X.env.code = .ref c
  ok : GNames X.N X.env.scope scope own
  nd : X.N.Nodup
  calm : X.calm = true
  fold : ∀ v, genFold iter X.env v = pure v
abbrev gcx (X : Cx) (s : Shared) (H : Hp) (scope : Scope) (C : Addr) (code : Value) (fp : List Addr) (u : Nat) : Cx := genCx X s H (genEnv scope (cloFrom X.env.cells scope.names []) C code builtinsNs X.env) fp u


theorem pe_allG (G : GenOk X c P k scope own iter) (hgl : Gl X "all") (hm : X.mg "all" = none) (hb : bootBuiltins "all" = some (.builtin "all")) (hi : PI X tg iter wi)
    (hg : ∀ (s : Shared) (H : Hp) (C : Addr) (code : Value) (fp : List Addr) (u : Nat), PG (gcx X s H scope C code fp u) tg g)
    (ht : ∀ (s : Shared) (H : Hp) (C : Addr) (code : Value) (fp : List Addr) (u : Nat), u ≤ 8 → PTs (gcx X s H scope C code fp u) ifs tt)
    (he : ∀ (s : Shared) (H : Hp) (C : Addr) (code : Value) (fp : List Addr) (u : Nat), u ≤ 8 → PE (gcx X s H scope C code fp u) elt te)
    (hst : starEach [gExp elt tg iter ifs scope pos] X.env = (false, eval (gExp elt tg iter ifs scope pos) X.env) :: starEach [] X.env := by rfl) :
    PE X (.Call (.Name "all" px) [gExp elt tg iter ifs scope pos] [] cpos) (tAllG P wi g tt te (own.map (·.2))) := by
  refine ⟨fun pins s σ H Q I h => ?_⟩
  refine wpAny_Call_Name_kw (ld_blt I hgl hm hb ?_)
  refine PyProof.Rows.callWith_builtin1 ?_ hst (by rfl)
  rw [hst]
  show wpAny _ _ (spliced ((false, eval (gExp elt tg iter ifs scope pos) X.env) :: backTo cpos (starEach [] X.env))) _ _ s
  refine Calls.spliced_cons (gen_make G.hr G.TB G.code G.ok G.nd G.calm hi hg ht he G.fold I h fun J H2 a s5 ⟨W, ⟨m0, w0⟩, turn⟩ M => ?_)
  obtain ⟨s4, ge, fp, tn, ao, gi, e1, hao, _, _, _, _, back, gat, _⟩ := M.gen
  subst e1
  have hh := G.hr.hd
  refine Calls.spliced_nil ?_
  refine call_function_tree F.kind_all F.plain_all F.entry_all (F.args_all1 _) ?_
  unfold Builtin.«all»
  refine wpAny_bind (m := oneArg "all" _) (wpAny_pure ?_)
  have GA := gat 1 [] s5 (by omega) (fun _ _ e => e) rfl rfl (fun _ z => absurd z (by simp)) (fun i m _ H => W i m H) (fun _ H => Q (.bl true) H)
    (fun i m _ y H => ∃ b, y = .bl b ∧ (b = true → ∃ m', m' < m ∧ W (i + 1) m' H) ∧ (b = false → Q (.bl false) H)) m0 (fun i m ys H w => ?_) w0
  · refine wpAny_bind (wpAny_pyIter_gen (hao _ (GA.1.inv.pin ao (List.mem_append_right _ List.mem_cons_self)).1) ?_)
    refine wpAny_pure ⟨plainId_quiet F.plain_all_loop _, ?_⟩
    refine all_gen (X := genCx X s4 H2 ge fp (1 + 1)) (A := X.A) (so := []) (Fa := fun H => Q (.bl false) H) hh G.hr.depth hao (fun i m ys y H o => o) (fun s' H' ys I' f => ?_) (fun s' H' I' f => ?_) m0 ⟨0, m0, [], H2, []⟩ s5 (Nat.le_refl _) rfl GA
    · exact ⟨.bl true, H', back _ _ _ _ _ I', rfl, f⟩
    · exact ⟨.bl false, H', back _ _ _ _ _ I', rfl, f⟩
  · rcases turn i m H w with ⟨st, q⟩ | ⟨go, step⟩
    · exact .inl ⟨st, q⟩
    · exact .inr ⟨go, fun H' => ∃ m', m' < m ∧ W (i + 1) m' H', fun _ z => z, step⟩

theorem pe_anyG (G : GenOk X c P k scope own iter) (hgl : Gl X "any") (hm : X.mg "any" = none) (hb : bootBuiltins "any" = some (.builtin "any")) (hi : PI X tg iter wi)
    (hg : ∀ (s : Shared) (H : Hp) (C : Addr) (code : Value) (fp : List Addr) (u : Nat), PG (gcx X s H scope C code fp u) tg g)
    (ht : ∀ (s : Shared) (H : Hp) (C : Addr) (code : Value) (fp : List Addr) (u : Nat), u ≤ 8 → PTs (gcx X s H scope C code fp u) ifs tt)
    (he : ∀ (s : Shared) (H : Hp) (C : Addr) (code : Value) (fp : List Addr) (u : Nat), u ≤ 8 → PE (gcx X s H scope C code fp u) elt te)
    (hst : starEach [gExp elt tg iter ifs scope pos] X.env = (false, eval (gExp elt tg iter ifs scope pos) X.env) :: starEach [] X.env := by rfl) :
    PE X (.Call (.Name "any" px) [gExp elt tg iter ifs scope pos] [] cpos) (tAnyG P wi g tt te (own.map (·.2))) := by
  refine ⟨fun pins s σ H Q I h => ?_⟩
  refine wpAny_Call_Name_kw (ld_blt I hgl hm hb ?_)
  refine PyProof.Rows.callWith_builtin1 ?_ hst (by rfl)
  rw [hst]
  show wpAny _ _ (spliced ((false, eval (gExp elt tg iter ifs scope pos) X.env) :: backTo cpos (starEach [] X.env))) _ _ s
  refine Calls.spliced_cons (gen_make G.hr G.TB G.code G.ok G.nd G.calm hi hg ht he G.fold I h fun J H2 a s5 ⟨W, ⟨m0, w0⟩, turn⟩ M => ?_)
  obtain ⟨s4, ge, fp, tn, ao, gi, e1, hao, _, _, _, _, back, gat, _⟩ := M.gen
  subst e1
  have hh := G.hr.hd
  refine Calls.spliced_nil ?_
  refine call_function_tree F.kind_any F.plain_any F.entry_any (F.args_any1 _) ?_
  unfold Builtin.«any»
  refine wpAny_bind (m := oneArg "any" _) (wpAny_pure ?_)
  have GA := gat 1 [] s5 (by omega) (fun _ _ e => e) rfl rfl (fun _ z => absurd z (by simp)) (fun i m _ H => W i m H) (fun _ H => Q (.bl false) H)
    (fun i m _ y H => ∃ b, y = .bl b ∧ (b = false → ∃ m', m' < m ∧ W (i + 1) m' H) ∧ (b = true → Q (.bl true) H)) m0 (fun i m ys H w => ?_) w0
  · refine wpAny_bind (wpAny_pyIter_gen (hao _ (GA.1.inv.pin ao (List.mem_append_right _ List.mem_cons_self)).1) ?_)
    refine wpAny_pure ⟨plainId_quiet F.plain_any_loop _, ?_⟩
    refine any_gen (X := genCx X s4 H2 ge fp (1 + 1)) (A := X.A) (so := []) (Fa := fun H => Q (.bl true) H) hh G.hr.depth hao (fun i m ys y H o => o) (fun s' H' ys I' f => ?_) (fun s' H' I' f => ?_) m0 ⟨0, m0, [], H2, []⟩ s5 (Nat.le_refl _) rfl GA
    · exact ⟨.bl false, H', back _ _ _ _ _ I', rfl, f⟩
    · exact ⟨.bl true, H', back _ _ _ _ _ I', rfl, f⟩
  · rcases turn i m H w with ⟨st, q⟩ | ⟨go, step⟩
    · exact .inl ⟨st, q⟩
    · exact .inr ⟨go, fun H' => ∃ m', m' < m ∧ W (i + 1) m' H', fun _ z => z, step⟩
end
end DG

set_option Elab.async false
set_option linter.all false
set_option maxRecDepth 100000
set_option maxHeartbeats 2000000
/-! tuple of a generator expression -/
namespace DG
open PySem PySem.Spec PyProof.Rows L2 GenW

section
variable {X : Cx} {p : GP} {σ : L2.St} {fp : List Addr} {tn : Nat → Heap → Prop} {ao : Addr × Obj} {A : Around} {g : Nat} {s : Shared}
/-- the consumer changes its own object -/
theorem Fct.own {i : Nat} {H : Hp} {S : Addr} {o o' : Obj} {h' : Heap} (T : ∀ h h', tn i h → (∀ b ∈ fp, ∀ u, h.get? b = some u → h'.get? b = some u) → tn i h') (F : Fct X p σ fp tn ao i H [(S, o)] s) (hS0 : X.s_0.heap.objs.size ≤ S) (ha : ao.1 ≠ S) (hp : ∀ q ∈ X.pn, q.1 ≠ S)
    (k : ∀ b u, b ≠ S → s.heap.get? b = some u → h'.get? b = some u) (hS : h'.get? S = some o') (ho : ∀ v, o'.data ≠ .cell v) : Fct X p σ fp tn ao i H [(S, o')] { s with heap := h' } := by
  obtain ⟨I, t, fk⟩ := F
  obtain ⟨e1, e2, e3, e4, e5⟩ := I.pin (S, o) (List.mem_append_right _ (List.mem_cons_of_mem _ List.mem_cons_self))
  have I0 : Inv X [ao] (wipe σ p.vs) H s := I.pins_of fun q hq => I.pin q (List.mem_append_right _ (by rcases List.mem_cons.mp hq with z | z
                                                                                                       · rw [z]; exact List.mem_cons_self
                                                                                                       · cases z))
  have nt : ∀ b u, H b = some u → b ≠ S := fun b u q hb => by
    rw [hb, show H S = none from e2] at q
    cases q
  have nc : ∀ b, b ∉ [S] → b ≠ S := fun b hb e => hb (by rw [e]; exact List.mem_singleton.mpr rfl)
  have J : Inv X [ao] (wipe σ p.vs) H { s with heap := h', gens := s.gens, drawn := s.drawn, toks := s.toks } := by
    refine I0.step (ch := [S]) (fun b hb => ?_) (fun b ob _ _ hc q _ => k b ob (nc b hc) q) (fun b ob _ _ hc q _ => ⟨ob.slots, k b ob (nc b hc) q⟩) (fun _ _ _ _ n => n) (fun b ob hc q => ⟨ob, k b ob (nc b hc) q⟩)
      (fun _ _ q => q) (fun _ _ _ q => q) (fun b ps q => ⟨#[], by rw [q]; simp⟩) (fun m hm => ?_) (fun b u q => ?_) I0.bare
    · rw [List.mem_singleton.mp hb]
      refine ⟨.inr hS0, e3, fun x c e z => ?_, fun q hq => ?_⟩
      · obtain ⟨v, oc, hc, hd⟩ := I.cell x c e
        rw [z, show s.heap.get? S = some o from e1] at hc
        cases hc
        exact e5 _ hd
      · rcases List.mem_append.mp hq with z | z
        · exact hp q z
        · rw [List.mem_singleton.mp z]; exact ha
    · obtain ⟨ob, es, ep, h1, r⟩ := hm
      exact ⟨ob, es, ep, k _ ob (Ne.symm e3) h1, r⟩
    · refine (I0.hok b u q).stay (fun c v hc y => k c v ?_ y) (fun _ y => y) fun _ _ y => y
      rcases hc with y | y
      · rw [y]; exact nt b u q
      · exact nt c _ y
  have nf : ∀ b ∈ fp, b ≠ S := fun b hb z => by
    have := (fk b hb).2.2.2.2.2 (S, o) (List.mem_append_right _ (List.mem_cons_of_mem _ List.mem_cons_self))
    exact this z.symm
  refine ⟨J.pins_of fun q hq => ?_, T _ _ t fun b hb u e => k b u (nf b hb) e, fun b hb => ⟨(fk b hb).1, (fk b hb).2.1, (fk b hb).2.2.1, (fk b hb).2.2.2.1, (fk b hb).2.2.2.2.1, fun q hq => ?_⟩⟩
  · rcases List.mem_cons.mp hq with z | z
    · rw [z]
      exact J.pin ao (List.mem_append_right _ List.mem_cons_self)
    · rw [List.mem_singleton.mp z]
      exact ⟨hS, e2, e3, e4, ho⟩
  · rcases List.mem_append.mp hq with z | z
    · exact (fk b hb).2.2.2.2.2 q (List.mem_append_left _ z)
    · rcases List.mem_cons.mp z with z | z
      · rw [z]; exact (fk b hb).2.2.2.2.2 ao (List.mem_append_right _ List.mem_cons_self)
      · rw [List.mem_singleton.mp z]; exact fun e => nf b hb e.symm

abbrev lsO (acc : Array Value) (c : Nat) : Obj := { cls := .type "list", dict := none, data := .seq acc c, slots := #[] }
theorem ext_gen {S : Addr} {res : Value} {R : Result → Shared → Prop} (hh : A.handled = none) (hroom : A.depth < recursionLimit) (hao : ∀ h : Heap, h.get? ao.1 = some ao.2 → h.IsGen ao.1 g)
    (T : ∀ i h h', tn i h → (∀ b ∈ fp, ∀ u, h.get? b = some u → h'.get? b = some u) → tn i h') (hS0 : X.s_0.heap.objs.size ≤ S) (ha : ao.1 ≠ S) (hpn : X.pn = [])
    (hOut : ∀ i m ys y H, p.Out i m ys y H → ys.length < sizeLine ∧ ∃ m', m' < m ∧ p.W (i + 1) m' (ys ++ [y]) H)
    (hR : ∀ s' H' ys acc c, Inv X (ao :: [(S, lsO acc c)]) (wipe σ p.vs) H' s' → Vals ys acc.toList → p.Fin ys H' → R (.ok (.ret res)) s') :
    ∀ (n : Nat) (x : GX) (s : Shared) (acc : Array Value) (c : Nat), x.m ≤ n → x.so = [(S, lsO acc c)] → Vals x.ys acc.toList → GAt A.in1 X p σ fp tn ao g x s →
      codeAny (model X.prog X.w) A (.builtin "list.extend.loop" ⟨[.ref S, .ref ao.1, res], []⟩) R s := by
  intro n
  induction n with
  | zero => ?_
  | succ n ih => ?_
  all_goals
    intro x s acc c hm hso rv G
    refine codeAny_builtin F.entry_extend_loop ?_
    rw [Around.under_plainId F.plain_extend_loop _]
    show wpAny _ A.in1 (pyNext (.ref ao.1) >>= _) _ _ s
    refine wpAny_bind (gpull hh hroom hao G (fun s' H' I f => ?_) fun v y i m H' s' hmx r o GO => ?_)
    · rw [hso] at I
      exact wpAny_pure (hR s' H' _ acc c I rv f)
    · obtain ⟨hlen, m', hm', w'⟩ := hOut _ _ _ _ _ o
      have F0 := GO.1
      rw [hso] at F0
      have hS' : s'.heap.get? S = some (lsO acc c) := (F0.inv.pin (S, lsO acc c) (List.mem_append_right _ (List.mem_cons_of_mem _ List.mem_cons_self))).1
      have szl : acc.size = x.ys.length := by have := rv.length; simpa using this.symm
      show wpAny _ A.in1 (updateSeq S (·.push v) >>= _) _ _ _
      refine wpAny_bind ?_
      refine wpAny_updateSeq hS' rfl (wpAny_pure ⟨plainId_quiet F.plain_extend_loop _, ?_⟩) (by omega) (by show (acc.push v).size ≤ sizeLine + 1; rw [Array.size_push]; omega)
      have hup := Heap.get?_update_self (Obj.mapSeq (·.push v)) hS' rfl
      have F1 : Fct X p σ fp tn ao (i + 1) H' [(S, lsO (acc.push v) _)] { s' with heap := s'.heap.update S (Obj.mapSeq (·.push v)) } :=
        F0.own (fun h h' => T (i + 1) h h') hS0 ha (by rw [hpn]; exact fun q hq => absurd hq (by simp)) (fun b u hb e => (Heap.get?_update_other _ _ (Ne.symm hb)).trans e) hup (fun v z => by cases z)
      have G' : GAt A.in1 X p σ fp tn ao g ⟨i + 1, m', x.ys ++ [y], H', [(S, lsO (acc.push v) _)]⟩ { s' with heap := s'.heap.update S (Obj.mapSeq (·.push v)) } := GO.at rfl hm' rfl rfl w' F1 rfl
      have rv' : Vals (x.ys ++ [y]) (acc.push v).toList := by rw [Array.toList_push]; exact rv.append (.cons r .nil)
      first
        | exact ih ⟨i + 1, m', x.ys ++ [y], H', [(S, lsO (acc.push v) _)]⟩ _ _ _ (by show m' ≤ n; omega) rfl rv' G'
        | (exfalso; omega)
end
end DG

set_option Elab.async false
set_option linter.all false
set_option maxRecDepth 100000
set_option maxHeartbeats 2000000
namespace DG
open PySem PySem.Spec PyProof.Rows L2 GenW
open AutoSeq1 (wpAny_loadPart')

section
variable {X : Cx} {p : GP} {σ : L2.St} {fp : List Addr} {tn : Nat → Heap → Prop} {ao : Addr × Obj} {A : Around} {g : Nat} {s : Shared} {E : Value → Shared → Prop} {m0 : Nat} {H2 : Hp}
theorem any_collect {Q : List Value → Shared → Prop} (hh : A.handled = none) (hroom : A.depth < recursionLimit) (hao : ∀ h : Heap, h.get? ao.1 = some ao.2 → h.IsGen ao.1 g) (hgo : s.heap.get? ao.1 = some ao.2)
    (T : ∀ i h h', tn i h → (∀ b ∈ fp, ∀ u, h.get? b = some u → h'.get? b = some u) → tn i h') (hpn : X.pn = []) (hsz : X.s_0.heap.objs.size ≤ s.heap.objs.size)
    (gat : ∀ c s', (∀ b o, s.heap.get? b = some o → s'.heap.get? b = some o) → s'.gens = s.gens → s'.os = s.os → s'.heap.get? s.heap.objs.size = some (lsO #[] c) → GAt A.in1 X p σ fp tn ao g ⟨0, m0, [], H2, [(s.heap.objs.size, lsO #[] c)]⟩ s')
    (hOut : ∀ i m ys y H, p.Out i m ys y H → ys.length < sizeLine ∧ ∃ m', m' < m ∧ p.W (i + 1) m' (ys ++ [y]) H)
    (hQ : ∀ s' H' ys us ps, Inv X ps (wipe σ p.vs) H' s' → Vals ys us → p.Fin ys H' → Q us s') :
    wpAny (model X.prog X.w) A (collect (.ref ao.1)) Q E s := by
  have aS : ao.1 ≠ s.heap.objs.size := Nat.ne_of_lt (Heap.lt_size hgo)
  unfold collect
  refine wpAny_bind (wpAny_runValue (codeAny_builtin F.entry_proto_collect ?_))
  rw [Around.under_plainId F.plain_proto_collect _]
  show wpAny _ A.in1 (newList [] >>= fun l => again (.builtin "list.__iadd__" ⟨[l, .ref ao.1], []⟩)) _ _ s
  refine wpAny_bind (wpAny_newObj_type ?_)
  refine wpAny_pure ⟨plainId_quiet F.plain_list_iadd _, codeAny_builtin F.entry_list_iadd ?_⟩
  rw [Around.under_plainId F.plain_list_iadd _]
  have hg1 : (s.heap.push { cls := .type "list", data := .seq ([] : List Value).toArray }).get? ao.1 = some ao.2 := Heap.get?_push_of_some _ hgo
  have gen1 := hao _ hg1
  show wpAny _ A.in1 (Builtin.List.listExtendWith (.ref s.heap.objs.size) (.ref ao.1) (.ref s.heap.objs.size)) _ _ _
  unfold Builtin.List.listExtendWith
  refine wpAny_bind (wpAny_typeOf gen1.typeIs ?_)
  have h1 : Builtin.List.listSameRef (.ref s.heap.objs.size) (.ref ao.1) = false := by simp [Builtin.List.listSameRef, Ne.symm aS]
  have h2 : (Value.type "generator" == Value.type "list") = false := by decide
  have h3 : (Value.type "generator" == Value.type "tuple") = false := by decide
  simp only [h1, h2, h3, Bool.or_false, Bool.false_eq_true, if_false]
  refine wpAny_bind (wpAny_pyIter_gen gen1 ?_)
  refine wpAny_bind (wpAny_holding ?_)
  unfold Builtin.List.listLengthHint
  refine wpAny_bind (wpAny_specialOf gen1.typeIs F.gen_no_len ?_)
  show wpAny _ A.in1 (specialOf (Value.ref ao.1) (Str.ofString "__length_hint__") >>= _) _ _ _
  refine wpAny_bind (wpAny_specialOf gen1.typeIs F.gen_no_hint ?_)
  refine wpAny_pure ?_
  show wpAny _ A.in1 (rule "list.extend.makes-room" >>= fun _ => Builtin.List.listTouch (.ref s.heap.objs.size) >>= fun _ => again (.builtin "list.extend.loop" ⟨[.ref s.heap.objs.size, .ref ao.1, .ref s.heap.objs.size], []⟩)) _ _ _
  refine wpAny_bind (wpAny_rule ?_)
  have e1 : (s.heap.push { cls := .type "list", data := .seq ([] : List Value).toArray }).get? s.heap.objs.size = some { cls := .type "list", data := .seq ([] : List Value).toArray } := Heap.get?_push_size _ rfl
  refine wpAny_bind ?_
  show wpAny _ A.in1 (updateSeq s.heap.objs.size (·.push .none) >>= fun _ => updateSeq s.heap.objs.size (·.pop)) _ _ _
  refine wpAny_bind (wpAny_updateSeq e1 rfl ?_)
  have e2 := Heap.get?_update_self (Obj.mapSeq (·.push Value.none)) e1 rfl
  refine wpAny_updateSeq e2 rfl ?_
  have e3 := Heap.get?_update_self (Obj.mapSeq (·.pop)) e2 rfl
  have k3 : ∀ b o, s.heap.get? b = some o → (((s.heap.push { cls := .type "list", data := .seq ([] : List Value).toArray }).update s.heap.objs.size (Obj.mapSeq (·.push Value.none))).update s.heap.objs.size (Obj.mapSeq (·.pop))).get? b = some o := fun b o e => by
    have hb : s.heap.objs.size ≠ b := Ne.symm (Nat.ne_of_lt (Heap.lt_size e))
    exact (Heap.get?_update_other _ _ hb).trans ((Heap.get?_update_other _ _ hb).trans (Heap.get?_push_of_some _ e))
  refine wpAny_pure ⟨plainId_quiet F.plain_extend_loop _, ext_gen hh hroom hao T hsz aS hpn hOut (fun s' H' ys acc c I rv f => ?_) m0 ⟨0, m0, [], H2, [(s.heap.objs.size, lsO #[] _)]⟩ _ #[] _ (Nat.le_refl _) rfl .nil (gat _ _ k3 rfl rfl e3)⟩
  show wpAny _ A (load s.heap.objs.size >>= _) _ _ s'
  refine wpAny_bind (wpAny_load (I.pin (s.heap.objs.size, lsO acc c) (List.mem_append_right _ (List.mem_cons_of_mem _ List.mem_cons_self))).1 ?_)
  exact wpAny_pure (hQ s' H' ys _ _ I rv f)
end
end DG

set_option Elab.async false
set_option linter.all false
set_option maxRecDepth 100000
set_option maxHeartbeats 2000000
namespace DG
open PySem PySem.Spec PyProof.Rows L2 GenW
open AutoSeq1 (wpAny_loadPart')

section
variable {prog : Program} {w : World} {A : Around} {E : Value → Shared → Prop} {s : Shared}
theorem call_tuple_any {a : Addr} {Q : Value → Shared → Prop} (hT : s.TypeIs (.ref a) "generator")
    (h : wpAny (model prog w) A.in1.in1 (collect (.ref a)) (fun us s' => us.length ≤ sizeLine ∧ Q (.ref s'.heap.objs.size) { s' with heap := s'.heap.push { cls := .type "tuple", data := .seq us.toArray } }) (fun _ _ => False) s) :
    wpAny (model prog w) A (call (.type "tuple") [.ref a]) Q E s := by
  have code : codeAny (model prog w) A.in1 (.call (.builtin "tuple.__new__") ⟨[.type "tuple", .ref a], []⟩) (wants (fun obj s₁ => s₁.TypeIs obj "tuple" ∧ Q obj s₁) E) s := by
    refine codeAny_of_tree ?_
    show wpAny _ A.in1.in1 (do checkBuiltinCall "tuple.__new__" ⟨[.type "tuple", .ref a], []⟩; again (.builtin "tuple.__new__" ⟨[.type "tuple", .ref a], []⟩)) _ _ s
    refine wpAny_bind (wpAny_of_eq (F.newCall_tuple_1 _) (wpAny_pure ⟨plainId_quiet F.plain_tuple_new _, codeAny_builtin F.entry_tuple_new ?_⟩))
    rw [Around.under_plainId F.plain_tuple_new _]
    have f1 := sub_tuple_self
    have f2 := init_tuple_lookup
    have f3 := madeHere_tuple
    have hc : ∀ (Q' : List Value → Shared → Prop) (E' : Value → Shared → Prop), (∀ us s', us.length ≤ sizeLine ∧ Q (.ref s'.heap.objs.size) { s' with heap := s'.heap.push { cls := .type "tuple", data := .seq us.toArray } } → Q' us s') →
        wpAny (model prog w) A.in1.in1 (collect (.ref a)) Q' E' s := fun Q' E' hq => wpAny_mono h hq fun _ _ z => z.elim
    wp_walk using wpAny_typeOf hT, hc
    intro us s' ⟨hl, hq⟩
    show wpAny _ _ (Builtin.Tuple.tupleExact us.toArray >>= fun v => ret v) _ _ _
    unfold Builtin.Tuple.tupleExact
    refine wpAny_bind (wpAny_newObj_type ?_ (by show us.toArray.size ≤ sizeLine; simpa using hl))
    exact wpAny_pure ⟨⟨_, Heap.get?_push_size _ rfl, rfl⟩, hq⟩
  refine callType_codes (Q₁ := fun obj s₁ => s₁.TypeIs obj "tuple" ∧ Q obj s₁) F.called_tuple (F.typeCall_tuple_1 _) F.entry_object_init code fun obj s₁ h₁ => ?_
  exact ⟨h₁.1, F.args_object_init_2 obj _, object_init_meets F.called_tuple.init.lookup F.called_tuple.made (by decide) prog w A.in1 _ s₁ ⟨h₁.1, rfl, h₁.2⟩⟩
end

section
variable {X : Cx}
/-- tuple(elt for target in iter) -/
def tTupG (P : Addr) (wi : TI) (g : TG) (tt : TT) (te : TE) (vs : List Nat) : TE := fun σ H Q => wi σ H fun J H1 => GxR.TabG H1 P ∧ ∀ H2, GxR.Tabbed P H1 H2 →
  ∃ W : Nat → Nat → List V → Hp → Prop, (∃ m, W 0 m [] H2) ∧ ∀ i m ys H, W i m ys H → (J.stop i H ∧ ys.length ≤ sizeLine ∧ ∀ a o, H a = none → o.dict = none → Q (.ref a) (upd H a (.frz o (.tup ys)))) ∨
    (J.go i H ∧ ∀ x H', J.yld i H x H' → g x (wipe σ vs) H' fun σ2 H2 => wipe σ2 vs = wipe σ vs ∧ tt σ2 H2 fun b H3 =>
      if b = true then te σ2 H3 fun y H4 => ys.length < sizeLine ∧ ∃ m', m' < m ∧ W (i + 1) m' (ys ++ [y]) H4 else ∃ m', m' < m ∧ W (i + 1) m' ys H3)
variable {c P : Addr} {elt tg iter : Expr} {ifs : List Expr} {pos cpos px : Pos} {scope : Scope} {own : List (Str × Nat)} {wi : TI} {g : TG} {tt : TT} {te : TE} {k : Nat}
theorem pe_tupG (G : GenOk X c P k scope own iter) (hgl : Gl X "tuple") (hm : X.mg "tuple" = none) (hb : bootBuiltins "tuple" = some (.type "tuple")) (hi : PI X tg iter wi)
    (hg : ∀ (s : Shared) (H : Hp) (C : Addr) (code : Value) (fp : List Addr) (u : Nat), PG (gcx X s H scope C code fp u) tg g)
    (ht : ∀ (s : Shared) (H : Hp) (C : Addr) (code : Value) (fp : List Addr) (u : Nat), u ≤ 8 → PTs (gcx X s H scope C code fp u) ifs tt)
    (he : ∀ (s : Shared) (H : Hp) (C : Addr) (code : Value) (fp : List Addr) (u : Nat), u ≤ 8 → PE (gcx X s H scope C code fp u) elt te)
    (hst : starEach [gExp elt tg iter ifs scope pos] X.env = (false, eval (gExp elt tg iter ifs scope pos) X.env) :: starEach [] X.env := by rfl) :
    PE X (.Call (.Name "tuple" px) [gExp elt tg iter ifs scope pos] [] cpos) (tTupG P wi g tt te (own.map (·.2))) := by
  refine ⟨fun pins s σ H Q I h => ?_⟩
  refine wpAny_Call_Name_kw (ld_blt I hgl hm hb ?_)
  refine PyProof.Rows.callWith_type1 ?_ hst (by rfl)
  rw [hst]
  show wpAny _ _ (spliced ((false, eval (gExp elt tg iter ifs scope pos) X.env) :: backTo cpos (starEach [] X.env))) _ _ s
  refine Calls.spliced_cons (gen_make G.hr G.TB G.code G.ok G.nd G.calm hi hg ht he G.fold I h fun J H2 a s5 ⟨W, ⟨m0, w0⟩, turn⟩ M => ?_)
  obtain ⟨s4, ge, fp, tn, ao, gi, e1, hao, alt, _, a4, _, back, gat, keepT⟩ := M.gen
  subst e1
  have hh := G.hr.hd
  refine Calls.spliced_nil ?_
  have tr : GP.turn ⟨J, g, tt, te, own.map (·.2), W, fun ys H => ys.length ≤ sizeLine ∧ ∀ a o, H a = none → o.dict = none → Q (.ref a) (upd H a (.frz o (.tup ys))), fun i m ys y H => ys.length < sizeLine ∧ ∃ m', m' < m ∧ W (i + 1) m' (ys ++ [y]) H⟩ σ := fun i m ys H w => by
    rcases turn i m ys H w with ⟨st, q⟩ | ⟨go, step⟩
    · exact .inl ⟨st, q⟩
    · exact .inr ⟨go, fun H' => ∃ m', m' < m ∧ W (i + 1) m' ys H', fun _ z => z, step⟩
  have GA := gat 3 [] s5 (by omega) (fun _ _ e => e) rfl rfl (fun _ z => absurd z (by simp)) _ _ _ m0 tr w0
  have go := (GA.1.inv.pin ao (List.mem_append_right _ List.mem_cons_self)).1
  refine call_tuple_any (hao _ go).typeIs ?_
  refine any_collect (X := genCx X s4 H2 ge fp (3 + 1)) (σ := σ) (m0 := m0) (H2 := H2) (p := ⟨J, g, tt, te, own.map (·.2), W, fun ys H => ys.length ≤ sizeLine ∧ ∀ a o, H a = none → o.dict = none → Q (.ref a) (upd H a (.frz o (.tup ys))), fun i m ys y H => ys.length < sizeLine ∧ ∃ m', m' < m ∧ W (i + 1) m' (ys ++ [y]) H⟩) (A := X.A.in1.in1) hh G.hr.depth hao go keepT rfl (Nat.le_of_lt (Nat.lt_of_le_of_lt a4 alt)) (fun c s' k gs os e => ?_) (fun i m ys y H o => o) (fun s' H' ys us ps I' rv f => ?_)
  · exact gat 3 [(s5.heap.objs.size, lsO #[] c)] s' (by omega) k gs os (fun q hq => by
      rw [List.mem_singleton.mp hq]
      exact ⟨e, Nat.le_refl _, fun v z => by cases z⟩) _ _ _ m0 tr w0
  · obtain ⟨hl, q⟩ := f
    have I7 := back _ _ _ _ _ I'
    have hlu : us.length ≤ sizeLine := by rw [← rv.length]; exact hl
    refine ⟨hlu, .ref s'.heap.objs.size, _, I7.laid (o := .frz { cls := .type "tuple", data := .seq us.toArray } (.tup ys)) (t' := s'.toks) (fun b o e => Heap.get?_push_of_some _ e) (Nat.le_refl _) ⟨Heap.get?_push_size _ rfl, hl, us, rv, ⟨_, Heap.get?_push_size _ rfl, rfl, _, rfl⟩⟩, rfl, q _ _ (I7.hok.fresh (Nat.le_refl _)) rfl⟩
end
end DG

set_option Elab.async false
set_option linter.all false
set_option maxRecDepth 100000
set_option maxHeartbeats 4000000
/-! tuples that are known as objects: their methods can be called -/
namespace DV
open PySem PySem.Spec PyProof.Rows L2

/-- what is known without the heap: the objects of the module, the world -/
structure KW where
  K : PySem.W.Frag
  w : World
instance : Coe KW PySem.W.Frag := ⟨KW.K⟩
abbrev _root_.L2.Cx.KW (X : L2.Cx) : DV.KW := ⟨X.K, X.w⟩

/-- a tuple without a dict of its own -/
def TupN (K : PySem.W.Frag) (H : Hp) (a : Addr) (xs : List V) : Prop :=
  (∃ o, H a = some (.frz o (.tup xs)) ∧ o.dict = none) ∨ ∃ (o : Obj) (its : Array Value) (n : Nat), K.lookup a = some o ∧ o.cls = .type "tuple" ∧ o.dict = none ∧ o.data = .seq its n ∧ its.size ≤ sizeLine ∧ Vals xs its.toList
theorem TupN.sq {K : PySem.W.Frag} {H : Hp} {a : Addr} {xs : List V} (h : TupN K H a xs) : SqT K H a xs := by
  rcases h with ⟨o, e, _⟩ | ⟨o, its, n, h1, h2, _, h3, h4, h5⟩
  · exact .inl (.inr ⟨o, e⟩)
  · exact .inr ⟨o, its, n, h1, h2, h3, h4, h5⟩
theorem TupN.new {K : PySem.W.Frag} {H : Hp} {a : Addr} {xs : List V} {o : Obj} (h : o.dict = none) : TupN K (upd H a (.frz o (.tup xs))) a xs := .inl ⟨o, upd_same, h⟩
section
variable {X : Cx} {pins : List (Addr × Obj)} {σ : L2.St} {H : Hp} {s : Shared} {a : Addr} {xs : List V}
theorem TupN.ty (h : TupN X.K H a xs) (I : Inv X pins σ H s) : s.TypeIs (.ref a) "tuple" ∧ ∀ b, Value.ref a = .ref b → ∃ ob, s.heap.get? b = some ob ∧ ob.dict = none := by
  rcases h with ⟨o, e, hd⟩ | ⟨o, its, n, h1, h2, hd, _⟩
  · obtain ⟨hg, z, us, r, ob, ho, hc, _⟩ := I.hok a _ e
    rw [hg] at ho
    cases ho
    exact ⟨⟨o, hg, hc⟩, fun b q => by cases q; exact ⟨o, hg, hd⟩⟩
  · have hg := I.kIn a o h1
    exact ⟨⟨o, hg, h2⟩, fun b q => by cases q; exact ⟨o, hg, hd⟩⟩
/-- what a new tuple asks -/
def NewT (H : Hp) (xs : List V) (Q : VK) : Prop := ∀ p o, H p = none → o.dict = none → Q (.ref p) (upd H p (.frz o (.tup xs)))
/-- the object of a tuple -/
abbrev tobj (us : Array Value) : Obj := { cls := .type "tuple", data := .seq us }
theorem laidT {us : List Value} {h' : Heap} {tk : Nat} {Q : VK} (I : Inv X pins σ H { s with heap := h', toks := tk }) (r : Vals xs us) (z : xs.length ≤ sizeLine) (q : NewT H xs Q) :
    ∃ x H', Inv X pins σ H' { s with heap := h'.push (tobj us.toArray), toks := tk } ∧ RelV x (.ref h'.objs.size) ∧ Q x H' := by
  have hg : (h'.push (tobj us.toArray)).get? h'.objs.size = some (tobj us.toArray) := Heap.get?_push_size h' rfl
  exact ⟨.ref h'.objs.size, _, I.laid (o := .frz (tobj us.toArray) (.tup xs)) (t' := tk) (fun b ob e => Heap.get?_push_of_some _ e) (Nat.le_refl _) ⟨hg, z, us, r, _, hg, rfl, _, rfl⟩, rfl, q _ _ (I.hok.fresh (Nat.le_refl _)) rfl⟩
theorem laidT0 {us : List Value} {Q : VK} (I : Inv X pins σ H s) (r : Vals xs us) (z : xs.length ≤ sizeLine) (q : NewT H xs Q) :
    ∃ x H', Inv X pins σ H' { s with heap := s.heap.push (tobj us.toArray) } ∧ RelV x (.ref s.heap.objs.size) ∧ Q x H' :=
  laidT (s := s) (h' := s.heap) (tk := s.toks) I r z q
end
section
variable {X : Cx} {es : List Expr} {t : TA} {pos : Pos}
def tTupF (t : TA) : TE := fun σ H Q => t σ H fun xs H1 => xs.length ≤ sizeLine ∧ NewT H1 xs Q
theorem pe_tupF {m} (ha : PA X es t) : PE X (.Tuple es m pos) (tTupF t) := by
  refine ⟨fun pins s σ H Q I hq => wpAny_Tuple_spliced (thn (ha.run pos pins s σ H _ I hq) fun us s1 ⟨xs, H1, I1, r, z, q⟩ => ⟨?_, laidT0 I1 r z q⟩)⟩
  rw [← r.length]
  exact z
/-- t + u -/
def rCatF (K : PySem.W.Frag) : R2 := fun x y H Q => ∃ a b xs ys, x = .ref a ∧ y = .ref b ∧ SqT K H a xs ∧ SqT K H b ys ∧ xs.length + ys.length ≤ sizeLine ∧ (xs = [] → Q (.ref b) H) ∧ (xs ≠ [] → ys = [] → Q (.ref a) H) ∧ (xs ≠ [] → ys ≠ [] → NewT H (xs ++ ys) Q)
theorem op_catF : OpR X (binaryOp .Add) (rCatF X.K) := by
  intro pins s σ H x y v u Q I rx ry ⟨a, b, xs, ys, e1, e2, ha, hb, hz, q0, q1, q2⟩
  subst e1 e2
  cases rx
  cases ry
  obtain ⟨us, r1, p1, _⟩ := I.tuple ha
  obtain ⟨ws, r2, p2, _⟩ := I.tuple hb
  by_cases hx : xs = []
  · subst hx
    cases r1
    exact cat_tup0 p1 p2 ⟨.ref b, H, I, rfl, q0 rfl⟩
  · refine HT.cat_tup p1 p2 (fun z => hx (r1.nil_iff.mp z)) (fun z => ?_) (fun z => ?_) ?_
    · exact ⟨.ref a, H, I, rfl, q1 hx (r2.nil_iff.mp z)⟩
    · exact laidT0 I (r1.append r2) (by rw [List.length_append]; exact hz) (q2 hx fun w => z (r2.nil_iff.mpr w))
    · rw [← r1.length, ← r2.length]
      exact hz
/-- t[lo:hi] -/
def Whole (xs : List V) (lo hi : Option Int) : Prop := HT.sIx xs.length 0 lo = 0 ∧ HT.sIx xs.length xs.length hi = xs.length
def rSlF (K : PySem.W.Frag) : V → Option Int → Option Int → Hp → VK → Prop := fun x lo hi H Q => ∃ a xs, x = .ref a ∧ SqT K H a xs ∧ (Whole xs lo hi → Q (.ref a) H) ∧ (¬ Whole xs lo hi → NewT H (cutV xs lo hi) Q)
theorem sl_tupF : SlR X (rSlF X.K) := by
  intro pins s σ H x v vl vu lo hi sl Q I rx hs pl pu ⟨a, xs, e1, hx, q1, q2⟩
  subst e1
  cases rx
  obtain ⟨us, r, ht, hz⟩ := I.tuple hx
  have hlen : us.toArray.size = xs.length := by rw [List.size_toArray]; exact r.length.symm
  refine ⟨"tuple", _, PyProof.Rows.slot_tuple_getitem.lookup, ht.typeIs, ?_⟩
  by_cases hw : Whole xs lo hi
  · refine getItem_tuple_whole ht hs pl pu ?_ ⟨.ref a, H, I, rfl, q1 hw⟩
    rw [hlen]; exact hw
  · refine HT.getItem_tuple_cut ht hs pl pu ?_ ?_ ?_
    · rw [hlen]; exact hw
    · rw [hlen]
      exact laidT0 I ((r.drop _).take _) (Nat.le_trans (cutV_length xs lo hi) hz) (q2 hw)
    · rw [hlen]; exact hz
/-- tuple(x), x a list or a tuple -/
theorem call_tupF : CallR X (.type "tuple") (fun xs H Q => ∃ p ys, xs = [.ref p] ∧ ((SqL X.K H p ys ∧ NewT H ys Q) ∨ (SqT X.K H p ys ∧ Q (.ref p) H))) := by
  intro pins s σ H xs us Q I r ⟨p, ys, e1, h⟩
  subst e1
  obtain ⟨u, rfl, rx⟩ := vals1 r
  cases rx
  rcases h with ⟨hq, q⟩ | ⟨hq, q⟩
  · obtain ⟨ws, r', pl, hz⟩ := I.list hq
    have hlen := r'.length
    refine call_tuple_list pl.isList (fun h' kp => ?_) ?_
    · exact laidT (s := s) (tk := s.toks) (I.kept (t' := s.toks) kp) r' hz q
    · rw [List.size_toArray]; omega
  · obtain ⟨ws, r', pl, hz⟩ := I.tuple hq
    exact call_tuple_same pl ⟨.ref p, H, I, rfl, q⟩
/- tuple(range(..)) -/
variable {e : Expr} {te : L2.St → Hp → (Int → Int → Hp → Prop) → Prop}
def tTupRgF (te : L2.St → Hp → (Int → Int → Hp → Prop) → Prop) : TE := fun σ H Q => te σ H fun a b H1 => RgOk a b ∧ NewT H1 (rgV a b) Q
theorem pe_tupRgF {p : Pos} (hc : X.calm = true) (hg : Gl X "tuple") (hm : X.mg "tuple" = none) (he : PRg X e te) (na : starEach [e] X.env = (false, eval e X.env) :: starEach [] X.env := by rfl) : PE X (.Call (.Name "tuple" p) [e] [] pos) (tTupRgF te) := by
  refine ⟨fun pins s σ H Q I h => Call_ (ld_blt I hg hm boot_tuple (PyProof.Rows.callWith_type1 (args_cons (thn (he pins s σ H _ I h) fun x s1 ⟨r, a, b, t, u, v, H1, ex, hr, I1, ok, q⟩ => args_nil ?_) na) na))⟩
  subst ex
  obtain ⟨b1, b2, b3, b4, b5⟩ := ok
  refine call_tuple_range (n := (b - a).toNat) (I1.ok.hd hc) hr (small_one b1 b2 b3 b4) (rangeSize_nat a b) b5 fun h' tk acc hk hi => ?_
  have I2 : Inv X pins σ H1 { s1 with heap := h', toks := tk } := I1.kept hk
  obtain ⟨x, H2, I3, r3, q3⟩ := laidT (s := s1) (xs := rgV a b) I2 (vals_rg hi) (by rw [rgV_length, sizeLine_eq]; omega) q
  exact ⟨x, H2, by rw [Array.toArray_toList] at I3; exact I3, r3, q3⟩
/-- divmod -/
theorem call_divmodF : CallR X (.builtin "divmod") (fun xs H Q => ∃ i j, xs = [.int i, .int j] ∧ CDivP i j ∧ NewT H [.int (i / j), .int (i % j)] Q) := by
  intro pins s σ H xs us Q I r ⟨i, j, e1, ⟨h1, h2⟩, q⟩
  subst e1
  obtain ⟨u, w', rfl, ⟨t, rfl⟩, ⟨t', rfl⟩⟩ := vals2 r
  refine divmod_int (by omega) ?_ (.inl h2)
  rw [Int.fdiv_eq_ediv_of_nonneg i (by omega), Int.fmod_eq_emod_of_nonneg i (by omega)]
  obtain ⟨x, H2, I3, r3, q3⟩ := laidT0 (us := [.int (i / j) s.toks, .int (i % j) (s.toks + 1)]) I (xs := [.int (i / j), .int (i % j)]) (.cons ⟨_, rfl⟩ (.cons ⟨_, rfl⟩ .nil)) (by show 2 ≤ sizeLine; rw [sizeLine_eq]; decide) q
  exact ⟨x, H2, I3.tok _, r3, q3⟩
end
end DV

set_option Elab.async false
set_option linter.all false
set_option maxRecDepth 100000
set_option maxHeartbeats 2000000
/-! values as data: what stands in the heap, what may change -/
namespace DV
open PySem PySem.Spec PyProof.Rows L2

abbrev D := PyData
/-- the state of the draws -/
inductive DS where
  | a (t l : Int) (cells : List Int)
  | b (xs : List Int)
inductive Res (α : Type) where
  | ok (a : α) (s : DS)
  | exc (e : Str) (s : DS)
  | stuck
abbrev M (α : Type) := DS → Res α
def ret {α : Type} (a : α) : M α := fun s => .ok a s
def thr {α : Type} (e : Str) : M α := fun s => .exc e s
def stk {α : Type} : M α := fun _ => .stuck
def bnd {α β : Type} (m : M α) (f : α → M β) : M β := fun s => match m s with
  | .ok a s' => f a s'
  | .exc e s' => .exc e s'
  | .stuck => .stuck
section
variable {α β γ : Type}
theorem bnd_ret (a : α) (f : α → M β) : bnd (ret a) f = f a := rfl
theorem bnd_thr (e : Str) (f : α → M β) : bnd (thr e) f = thr e := rfl
theorem bnd_stk (f : α → M β) : bnd (stk : M α) f = stk := rfl
theorem bnd_ok {m : M α} {f : α → M β} {s s' : DS} {a : α} (h : m s = .ok a s') : bnd m f s = f a s' := by unfold bnd; rw [h]
theorem bnd_exc {m : M α} {f : α → M β} {s s' : DS} {e : Str} (h : m s = .exc e s') : bnd m f s = .exc e s' := by unfold bnd; rw [h]
theorem bnd_bnd (m : M α) (f : α → M β) (g : β → M γ) : bnd (bnd m f) g = bnd m fun a => bnd (f a) g := by
  funext s
  unfold bnd
  cases m s <;> rfl
theorem bnd_pure (m : M α) : bnd m ret = m := by
  funext s
  unfold bnd ret
  cases m s <;> rfl
end

/-- what a slot holds: a value; a list or dict of this def's own, that it may change; the draws -/
inductive Sl where
  | val (d : D)
  | own (d : D)
  | drw
  | cls
  | scr (ns : List Int)
abbrev Rho := List (Option Sl)

/-- tuples and frozen things -/
def isTF : HO → Bool
  | .tup _ => true
  | .frz _ _ => true
  | _ => false

structure Gh where
  kind : Bool
  dr : Addr
  cl : Addr
  tabs : List Addr
  ext : Addr → Prop
  H0 : Hp
def Gh.bad (G : Gh) (a : Addr) : Prop := a = G.dr ∨ a = G.cl ∨ a ∈ G.tabs ∨ G.ext a
def Gh.Ok (G : Gh) : Prop := ∀ a, G.bad a → ∃ o, G.H0 a = some o

/-! ### data in the heap -/
/-- a list of the fragment, never written -/
def KLst (K : PySem.W.Frag) (a : Addr) (xs : List V) : Prop := ∃ (o : Obj) (its : Array Value) (n : Nat), K.lookup a = some o ∧ o.cls = .type "list" ∧ o.dict = none ∧ o.data = .seq its n ∧ its.size ≤ sizeLine ∧ Vals xs its.toList
/-- a list that may be read -/
def LstAt (K : PySem.W.Frag) (bad : Addr → Prop) (H : Hp) (a : Addr) (xs : List V) : Prop := (¬ bad a ∧ Rd H a (.lst xs)) ∨ KLst K a xs
theorem LstAt.sq {K : PySem.W.Frag} {bad : Addr → Prop} {H : Hp} {a : Addr} {xs : List V} (h : LstAt K bad H a xs) : SqL K H a xs := h.elim (fun h => .inl h.2) .inr
theorem LstAt.mono {K : PySem.W.Frag} {bad bad' : Addr → Prop} {H H' : Hp} {a : Addr} {xs : List V} (h : LstAt K bad H a xs) (hk : ∀ a o, ¬ bad a → H a = some o → H' a = some o) (hb : ∀ a, ¬ bad a → (∃ o, H a = some o) → ¬ bad' a) : LstAt K bad' H' a xs := by
  rcases h with ⟨n, r | ⟨o, r⟩⟩ | h
  · exact .inl ⟨hb a n ⟨_, r⟩, .inl (hk _ _ n r)⟩
  · exact .inl ⟨hb a n ⟨_, r⟩, .inr ⟨o, hk _ _ n r⟩⟩
  · exact .inr h
/-! ### dicts -/
mutual
/-- a key, up to == -/
def keyOf : D → NestedKey
  | .none => .none
  | .bool b => .num (if b = true then 1 else 0)
  | .int i => .num i
  | .str x => .text x
  | .tuple ds => .tup (keysOf ds)
  | .list _ => .none
  | .dict _ => .none
def keysOf : List D → List NestedKey
  | [] => []
  | d :: ds => keyOf d :: keysOf ds
end
mutual
/-- it has a hash -/
def hashB : D → Bool
  | .none => true
  | .bool _ => true
  | .int _ => true
  | .str _ => true
  | .tuple ds => hashBs ds
  | .list _ => false
  | .dict _ => false
def hashBs : List D → Bool
  | [] => true
  | d :: ds => hashB d && hashBs ds
end
mutual
/-- no dict is in it -/
def noDic : D → Bool
  | .list ds => noDics ds
  | .tuple ds => noDics ds
  | .dict _ => false
  | .none => true
  | .bool _ => true
  | .int _ => true
  | .str _ => true
def noDics : List D → Bool
  | [] => true
  | d :: ds => noDic d && noDics ds
end
/-- it can be compared -/
def SeqAt.shaped (d : D) : Bool := noDic d && PySem.SeqAt.shaped d
theorem shaped_nd {d : D} (h : SeqAt.shaped d = true) : noDic d = true := (Bool.and_eq_true_iff.mp h).1
theorem shaped_kit {d : D} (h : SeqAt.shaped d = true) : PySem.SeqAt.shaped d = true := (Bool.and_eq_true_iff.mp h).2
def isTupB : D → Bool
  | .tuple _ => true
  | _ => false
/-- the keys of a dict: tuples all, or none -/
structure KeysOk (ds : List D) : Prop where
  hash : ∀ d ∈ ds, hashB d = true
  deep : ∀ d ∈ ds, (keyOf d).depth ≤ 8
  kind : (∀ d ∈ ds, isTupB d = true) ∨ ∀ d ∈ ds, isTupB d = false
  nodup : (ds.map keyOf).Nodup
/-- the entries: hash, key, value -/
inductive Ents (w : World) : List D → List V → List V → List DictEntry → Prop
  | nil : Ents w [] [] [] []
  | cons {d : D} {k v : V} {e : DictEntry} {ds : List D} {ks vs : List V} {es : List DictEntry} : e.hash = (keyOf d).hash w → RelV k e.key → RelV v e.val → Ents w ds ks vs es → Ents w (d :: ds) (k :: ks) (v :: vs) (e :: es)
/-- a dict's object -/
def objO (a : Addr) (o : Obj) : HO := .ext fun h => h.get? a = some o
structure DicO (w : World) (a : Addr) (o : Obj) (es : Array DictEntry) (ep : Nat) (ds : List D) (ks vs : List V) : Prop where
  ex : o.ExactDict
  dat : o.data = .dict es ep
  ent : Ents w ds ks vs es.toList
  ok : KeysOk ds
  len : ds.length ≤ sizeLine
  low : (a == sysModules) = false
mutual
inductive At (K : KW) (bad : Addr → Prop) (H : Hp) : V → D → Prop
  | non : At K bad H .non .none
  | bl (b : Bool) : At K bad H (.bl b) (.bool b)
  | int (i : Int) : At K bad H (.int i) (.int i)
  | str (x : Str) : At K bad H (.str x) (.str x)
  | lst {a : Addr} {xs : List V} {ds : List D} : ¬ bad a → H a = some (.lst xs) → AtL K bad H xs ds → At K bad H (.ref a) (.list ds)
  | tup {a : Addr} {xs : List V} {ds : List D} : TupN K.K H a xs → AtL K bad H xs ds → At K bad H (.ref a) (.tuple ds)
  | dic {a : Addr} {o : Obj} {es : Array DictEntry} {ep : Nat} {ks vs : List V} {kvs : List (D × D)} : ¬ bad a → H a = some (objO a o) → DicO K.w a o es ep (kvs.map (·.1)) ks vs → AtL K bad H ks (kvs.map (·.1)) → AtL K bad H vs (kvs.map (·.2)) → At K bad H (.ref a) (.dict kvs)
inductive AtL (K : KW) (bad : Addr → Prop) (H : Hp) : List V → List D → Prop
  | nil : AtL K bad H [] []
  | cons {v : V} {vs : List V} {d : D} {ds : List D} : At K bad H v d → AtL K bad H vs ds → AtL K bad H (v :: vs) (d :: ds)
end
section
variable {K : KW} {bad bad' : Addr → Prop} {H H' : Hp}
mutual
theorem At.mono (hk : ∀ a o, ¬ bad a → H a = some o → H' a = some o) (ht : ∀ a o, isTF o = true → H a = some o → H' a = some o) (hb : ∀ a, ¬ bad a → (∃ o, H a = some o) → ¬ bad' a) : ∀ {v : V} {d : D}, At K bad H v d → At K bad' H' v d
  | _, _, .non => .non
  | _, _, .bl b => .bl b
  | _, _, .int i => .int i
  | _, _, .str x => .str x
  | _, _, .lst (a := a) n r l => .lst (hb a n ⟨_, r⟩) (hk _ _ n r) (AtL.mono hk ht hb l)
  | _, _, .tup r l => .tup (by
      rcases r with ⟨o, r, z⟩ | r
      · exact .inl ⟨o, ht _ _ rfl r, z⟩
      · exact .inr r) (AtL.mono hk ht hb l)
  | _, _, .dic (a := a) n r q l m => .dic (hb a n ⟨_, r⟩) (hk _ _ n r) q (AtL.mono hk ht hb l) (AtL.mono hk ht hb m)
theorem AtL.mono (hk : ∀ a o, ¬ bad a → H a = some o → H' a = some o) (ht : ∀ a o, isTF o = true → H a = some o → H' a = some o) (hb : ∀ a, ¬ bad a → (∃ o, H a = some o) → ¬ bad' a) : ∀ {vs : List V} {ds : List D}, AtL K bad H vs ds → AtL K bad' H' vs ds
  | _, _, .nil => .nil
  | _, _, .cons h t => .cons (At.mono hk ht hb h) (AtL.mono hk ht hb t)
end
mutual
theorem At.dp : ∀ {v : V} {d : D}, noDic d = true → At K bad H v d → Dp K.K H v d
  | _, _, _, .non => .non
  | _, _, _, .bl b => .bl b
  | _, _, _, .int i => .int i
  | _, _, _, .str x => .str x
  | _, _, h, .lst _ r l => .lst (SqL.of r) (AtL.dp (by unfold noDic at h; exact h) l)
  | _, _, h, .tup r l => .tup r.sq (AtL.dp (by unfold noDic at h; exact h) l)
  | _, _, h, .dic .. => by unfold noDic at h; cases h
theorem AtL.dp : ∀ {vs : List V} {ds : List D}, noDics ds = true → AtL K bad H vs ds → DpAll K.K H vs ds
  | _, _, _, .nil => .nil
  | _, _, h, .cons a t => by
    unfold noDics at h
    rw [Bool.and_eq_true] at h
    exact .cons (At.dp h.1 a) (AtL.dp h.2 t)
end
theorem AtL.len : ∀ {vs : List V} {ds : List D}, AtL K bad H vs ds → vs.length = ds.length
  | _, _, .nil => rfl
  | _, _, .cons _ t => congrArg (· + 1) (AtL.len t)
theorem AtL.get : ∀ {vs : List V} {ds : List D} {i : Nat} {d : D}, AtL K bad H vs ds → ds[i]? = some d → ∃ v, vs[i]? = some v ∧ At K bad H v d
  | _, _, _, _, .nil, e => by simp at e
  | _, _, 0, _, .cons h _, e => ⟨_, rfl, by simp at e; rw [← e]; exact h⟩
  | _, _, i + 1, _, .cons _ t, e => by
    obtain ⟨v, h1, h2⟩ := AtL.get (i := i) t (by simpa using e)
    exact ⟨v, by simpa using h1, h2⟩
theorem AtL.app : ∀ {vs ws : List V} {ds es : List D}, AtL K bad H vs ds → AtL K bad H ws es → AtL K bad H (vs ++ ws) (ds ++ es)
  | _, _, _, _, .nil, q => q
  | _, _, _, _, .cons h t, q => .cons h (AtL.app t q)
theorem AtL.one {v : V} {d : D} (h : At K bad H v d) : AtL K bad H [v] [d] := .cons h .nil
theorem AtL.take : ∀ {vs : List V} {ds : List D} (n : Nat), AtL K bad H vs ds → AtL K bad H (vs.take n) (ds.take n)
  | _, _, 0, _ => .nil
  | _, _, _ + 1, .nil => .nil
  | _, _, n + 1, .cons h t => .cons h (AtL.take n t)
theorem AtL.drop : ∀ {vs : List V} {ds : List D} (n : Nat), AtL K bad H vs ds → AtL K bad H (vs.drop n) (ds.drop n)
  | _, _, 0, r => r
  | _, _, _ + 1, .nil => .nil
  | _, _, n + 1, .cons _ t => AtL.drop n t
theorem AtL.set : ∀ {vs : List V} {ds : List D} (i : Nat) {v : V} {d : D}, AtL K bad H vs ds → At K bad H v d → AtL K bad H (vs.set i v) (ds.set i d)
  | _, _, _, _, _, .nil, _ => .nil
  | _, _, 0, _, _, .cons _ t, q => .cons q t
  | _, _, i + 1, _, _, .cons h t, q => .cons h (AtL.set i t q)
theorem AtL.rev {vs : List V} {ds : List D} (h : AtL K bad H vs ds) : AtL K bad H vs.reverse ds.reverse := by
  induction vs generalizing ds with
  | nil => cases h; exact .nil
  | cons v vs ih =>
    cases h with
    | cons h t => rw [List.reverse_cons, List.reverse_cons]; exact (ih t).app (.one h)
theorem AtL.ints : ∀ {vs : List V} {ns : List Int}, AtL K bad H vs (ns.map PyData.int) → vs = ns.map V.int
  | _, [], .nil => rfl
  | _, n :: ns, .cons (.int _) t => by rw [List.map_cons, AtL.ints t]
theorem AtL.ofInts : ∀ (ns : List Int), AtL K bad H (ns.map V.int) (ns.map PyData.int)
  | [] => .nil
  | n :: ns => .cons (.int n) (AtL.ofInts ns)
end

/-! ### what changes -/
structure ExtO (G : Gh) (H H' : Hp) : Prop where
  keep : ∀ a o, a ≠ G.dr → a ∉ G.tabs → H a = some o → H' a = some o
  tf : ∀ a o, isTF o = true → H a = some o → H' a = some o
theorem ExtO.refl {G : Gh} {H : Hp} : ExtO G H H := ⟨fun _ _ _ _ e => e, fun _ _ _ e => e⟩
theorem ExtO.trans {G : Gh} {H1 H2 H3 : Hp} (a : ExtO G H1 H2) (b : ExtO G H2 H3) : ExtO G H1 H3 :=
  ⟨fun c o h1 h2 e => b.keep c o h1 h2 (a.keep c o h1 h2 e), fun c o h e => b.tf c o h (a.tf c o h e)⟩
theorem ExtO.new {G : Gh} {H : Hp} {p : Addr} {o : HO} (hp : H p = none) : ExtO G H (upd H p o) :=
  ⟨fun a u _ _ e => by rw [upd_ne (ne_of_none e hp)]; exact e, fun a u _ e => by rw [upd_ne (ne_of_none e hp)]; exact e⟩

/-- the draws as they lie in the heap -/
def DrOk (G : Gh) (s : DS) (H : Hp) : Prop := match s with
  | .a t l cells => G.kind = true ∧ H G.dr = some (.lst [.int t, .int l, .ref G.cl]) ∧ H G.cl = some (.lst (cells.map V.int)) ∧ cells ≠ [] ∧ cells.length ≤ 100
  | .b xs => H G.dr = some (.lst (xs.map V.int)) ∧ ∀ z ∈ xs, 0 ≤ z
theorem DrOk.keep {G : Gh} {s : DS} {H H' : Hp} (h : DrOk G s H) (kd : ∀ o, H G.dr = some o → H' G.dr = some o) (kc : ∀ o, H G.cl = some o → H' G.cl = some o) : DrOk G s H' := by
  cases s with
  | a t l cells =>
    obtain ⟨k, e1, e2, r⟩ := h
    exact ⟨k, kd _ e1, kc _ e2, r⟩
  | b xs => exact ⟨kd _ h.1, h.2⟩
theorem DrOk.there {G : Gh} {s : DS} {H : Hp} (h : DrOk G s H) : ∃ o, H G.dr = some o := by
  cases s with
  | a t l cells => exact ⟨_, h.2.1⟩
  | b xs => exact ⟨_, h.1⟩
structure Wd (G : Gh) (s : DS) (H : Hp) : Prop where
  dr : DrOk G s H
  tab : ∀ P ∈ G.tabs, GxR.TabG H P
structure Gh.Fix (G : Gh) : Prop where
  ok : G.Ok
  ne : G.kind = true → G.cl ≠ G.dr
  nt : G.dr ∉ G.tabs
  nt2 : G.cl ∉ G.tabs
theorem Wd.new {G : Gh} {s : DS} {H : Hp} {p : Addr} {o : HO} (w : Wd G s H) (hp : H p = none) : Wd G s (upd H p o) := by
  have kp : ∀ a u, H a = some u → upd H p o a = some u := fun a u e => by rw [upd_ne (ne_of_none e hp)]; exact e
  refine ⟨?_, fun P hP => ?_⟩
  · exact w.dr.keep (fun o e => kp _ _ e) fun o e => kp _ _ e
  · obtain ⟨ps, e, r⟩ := w.tab P hP
    exact ⟨ps, kp _ _ e, r⟩
theorem Wd.upd {G : Gh} {s : DS} {H : Hp} {p : Addr} {o : HO} (w : Wd G s H) (hp : ¬ G.bad p) : Wd G s (upd H p o) := by
  have kp : ∀ a u, G.bad a → H a = some u → L2.upd H p o a = some u := fun a u hb e => by
    rw [upd_ne (fun z => hp (by rw [← z]; exact hb))]
    exact e
  refine ⟨?_, fun P hP => ?_⟩
  · exact w.dr.keep (fun o e => kp _ _ (.inl rfl) e) fun o e => kp _ _ (.inr (.inl rfl)) e
  · obtain ⟨ps, e, r⟩ := w.tab P hP
    exact ⟨ps, kp _ _ (.inr (.inr (.inl hP))) e, r⟩
/-- a table has grown -/
theorem Wd.tabbed {G : Gh} {s : DS} {H H' : Hp} {P : Addr} (w : Wd G s H) (hf : G.Fix) (hP : P ∈ G.tabs) (t : GxR.Tabbed P H H') : Wd G s H' := by
  have nd : G.dr ≠ P := fun z => hf.nt (by rw [z]; exact hP)
  have nc : G.cl ≠ P := fun z => hf.nt2 (by rw [z]; exact hP)
  refine ⟨?_, fun R hR => ?_⟩
  · exact w.dr.keep (fun o e => by rw [t.2 _ nd]; exact e) fun o e => by rw [t.2 _ nc]; exact e
  · by_cases e : R = P
    · rw [e]; exact t.1
    · obtain ⟨ps, q, r⟩ := w.tab R hR
      exact ⟨ps, by rw [t.2 _ e]; exact q, r⟩
theorem ExtO.tabbed {G : Gh} {s : DS} {H H' : Hp} {P : Addr} (w : Wd G s H) (hP : P ∈ G.tabs) (t : GxR.Tabbed P H H') : ExtO G H H' := by
  refine ⟨fun a o _ h2 e => ?_, fun a o h e => ?_⟩
  · rw [t.2 a (fun z => h2 (by rw [z]; exact hP))]; exact e
  · rw [t.2 a (fun z => by
      obtain ⟨ps, q, _⟩ := w.tab P hP
      rw [z, q] at e
      cases e
      cases h)]
    exact e

/-! ### the slots -/
def badE (G : Gh) (ρ : Rho) (pz : Nat → Addr) (a : Addr) : Prop := G.bad a ∨ ∃ i ds, ρ[i]? = some (some (.own ds)) ∧ pz i = a
/-- a list or dict, but for who may change it -/
def OwnAt (K : KW) (bad : Addr → Prop) (H : Hp) (p : Addr) : D → Prop
  | .list ds => ∃ vs, H p = some (.lst vs) ∧ AtL K bad H vs ds
  | .dict kvs => ∃ o es ep ks vs, H p = some (objO p o) ∧ DicO K.w p o es ep (kvs.map (·.1)) ks vs ∧ AtL K bad H ks (kvs.map (·.1)) ∧ AtL K bad H vs (kvs.map (·.2))
  | _ => False
theorem OwnAt.there {K : KW} {bad : Addr → Prop} {H : Hp} {p : Addr} {d : D} (h : OwnAt K bad H p d) : ∃ o, H p = some o ∧ isTF o = false := by
  cases d <;> first | exact h.elim | (obtain ⟨vs, e, _⟩ := h; exact ⟨_, e, rfl⟩) | (obtain ⟨o, es, ep, ks, vs, e, _⟩ := h; exact ⟨_, e, rfl⟩)
theorem OwnAt.mono {K : KW} {bad bad' : Addr → Prop} {H H' : Hp} {p : Addr} {d : D} (h : OwnAt K bad H p d) (hp : ∀ o, H p = some o → H' p = some o) (up : ∀ {vs ds}, AtL K bad H vs ds → AtL K bad' H' vs ds) : OwnAt K bad' H' p d := by
  cases d <;> first | exact h.elim | (obtain ⟨vs, e, l⟩ := h; exact ⟨vs, hp _ e, up l⟩) | (obtain ⟨o, es, ep, ks, vs, e, q, l, m⟩ := h; exact ⟨o, es, ep, ks, vs, hp _ e, q, up l, up m⟩)
theorem OwnAt.at_ {K : KW} {bad bad' : Addr → Prop} {H : Hp} {p : Addr} {d : D} (h : OwnAt K bad H p d) (n : ¬ bad' p) (up : ∀ {vs ds}, AtL K bad H vs ds → AtL K bad' H vs ds) : At K bad' H (.ref p) d := by
  cases d <;> first | exact h.elim | (obtain ⟨vs, e, l⟩ := h; exact .lst n e (up l)) | (obtain ⟨o, es, ep, ks, vs, e, q, l, m⟩ := h; exact .dic n e q (up l) (up m))
def SlAt (K : KW) (bad : Addr → Prop) (G : Gh) (H : Hp) (p : Addr) (v : V) : Sl → Prop
  | .val d => At K bad H v d
  | .own d => v = .ref p ∧ OwnAt K bad H p d
  | .drw => v = .ref G.dr
  | .cls => v = .ref G.cl
  | .scr ns => ∃ a, v = .ref a ∧ LstAt K.K bad H a (ns.map V.int)
structure Rel (Ts : List Addr) (K : KW) (G : Gh) (s : DS) (ρ : Rho) (pz : Nat → Addr) (σ : L2.St) (H : Hp) : Prop where
  fix : G.Fix
  ts : G.tabs = Ts
  wd : Wd G s H
  kp : ExtO G G.H0 H
  len : ρ.length = σ.length
  at_ : ∀ i sl, ρ[i]? = some (some sl) → ∃ v, σ[i]? = some (some v) ∧ SlAt K (badE G ρ pz) G H (pz i) v sl
  inj : ∀ i j ds es, ρ[i]? = some (some (.own ds)) → ρ[j]? = some (some (.own es)) → pz i = pz j → i = j
  new : ∀ i ds, ρ[i]? = some (some (.own ds)) → G.H0 (pz i) = none
section
variable {Ts : List Addr} {K : KW} {G : Gh} {s s' : DS} {ρ : Rho} {pz : Nat → Addr} {σ : L2.St} {H H' : Hp}
theorem Rel.notbad (R : Rel Ts K G s ρ pz σ H) {i : Nat} {ds : D} (h : ρ[i]? = some (some (.own ds))) : ¬ G.bad (pz i) := fun z => by
  obtain ⟨o, e⟩ := R.fix.ok _ z
  rw [R.new i ds h] at e
  cases e
theorem badE_dr : badE G ρ pz G.dr := .inl (.inl rfl)
theorem badE_tab {P : Addr} (h : P ∈ G.tabs) : badE G ρ pz P := .inl (.inr (.inr (.inl h)))
theorem At.ext {v : V} {d : D} (h : At K (badE G ρ pz) H v d) (e : ExtO G H H') : At K (badE G ρ pz) H' v d :=
  h.mono (fun a o n q => e.keep a o (fun z => n (by rw [z]; exact badE_dr)) (fun z => n (badE_tab z)) q) e.tf fun _ n _ => n
theorem AtL.ext {v : List V} {d : List D} (h : AtL K (badE G ρ pz) H v d) (e : ExtO G H H') : AtL K (badE G ρ pz) H' v d :=
  h.mono (fun a o n q => e.keep a o (fun z => n (by rw [z]; exact badE_dr)) (fun z => n (badE_tab z)) q) e.tf fun _ n _ => n
theorem Rel.ext (R : Rel Ts K G s ρ pz σ H) (w : Wd G s' H') (e : ExtO G H H') : Rel Ts K G s' ρ pz σ H' := by
  refine ⟨R.fix, R.ts, w, R.kp.trans e, R.len, fun i sl h => ?_, R.inj, R.new⟩
  obtain ⟨v, hv, q⟩ := R.at_ i sl h
  refine ⟨v, hv, ?_⟩
  cases sl with
  | val d => exact At.ext q e
  | own ds =>
    obtain ⟨e1, l⟩ := q
    have nb := R.notbad h
    exact ⟨e1, l.mono (fun o q => e.keep _ _ (fun z => nb (.inl z)) (fun z => nb (.inr (.inr (.inl z)))) q) fun l => l.ext e⟩
  | drw => exact q
  | cls => exact q
  | scr ns =>
    obtain ⟨a, e1, r⟩ := q
    exact ⟨a, e1, r.mono (fun a o n q => e.keep a o (fun z => n (by rw [z]; exact badE_dr)) (fun z => n (badE_tab z)) q) fun _ n _ => n⟩
end
end DV

set_option Elab.async false
set_option linter.all false
set_option maxRecDepth 100000
set_option maxHeartbeats 4000000
/-! a tuple once, a tuple no times -/
namespace DV
open PySem PySem.Spec PyProof.Rows L2
theorem mul_same (l : Addr) (items : Array Value) (n : Nat) (dd : Option Addr) (sl : Array (Option Value)) (x : Int) (u : Tok) (c0 : (decide (x < -(2 ^ 63)) || decide (x ≥ 2 ^ 63)) = false) (c1 : (items.isEmpty || x == 1) = true) :
    Meets (Builtin.«tuple.__mul__» ⟨[.ref l, .int x u], []⟩) (fun _ R s => s.heap.get? l = some { cls := .type "tuple", dict := dd, data := .seq items n, slots := sl } ∧ R (.ok (.ret (Value.ref l))) s) :=
  .of_wp fun prog w A R s h => by
    obtain ⟨hp, g, d, tk, os⟩ := s
    obtain ⟨hl, h⟩ := h
    have f1 := AutoSeq1.idx_int
    wp_walk using wpAny_loadPart' hl
    repeat (first
      | (refine wpAny_ite_false (decide_eq_false (by rw [c0]; exact Bool.false_ne_true)) ?_; wp_walk using wpAny_loadPart' hl)
      | (refine wpAny_ite_true (decide_eq_true c1) ?_; wp_walk using wpAny_loadPart' hl))
    exact ⟨_, rfl, h⟩
theorem mul_none (l : Addr) (items : Array Value) (n : Nat) (dd : Option Addr) (sl : Array (Option Value)) (x : Int) (u : Tok) (c0 : (decide (x < -(2 ^ 63)) || decide (x ≥ 2 ^ 63)) = false) (c1 : (items.isEmpty || x == 1) = false) (c2 : (decide (x ≤ 0) || items.isEmpty) = true) :
    Meets (Builtin.«tuple.__mul__» ⟨[.ref l, .int x u], []⟩) (fun _ R s => s.heap.get? l = some { cls := .type "tuple", dict := dd, data := .seq items n, slots := sl } ∧
      R (.ok (.ret (Value.ref s.heap.objs.size))) { s with heap := s.heap.push { cls := Value.type "tuple", data := Data.seq #[] }, toks := s.toks }) :=
  .of_wp fun prog w A R s h => by
    obtain ⟨hp, g, d, tk, os⟩ := s
    obtain ⟨hl, h⟩ := h
    have f1 := AutoSeq1.idx_int
    wp_walk using wpAny_loadPart' hl
    repeat (first
      | (refine wpAny_ite_false (decide_eq_false (by rw [c0]; exact Bool.false_ne_true)) ?_; wp_walk using wpAny_loadPart' hl)
      | (refine wpAny_ite_false (decide_eq_false (by rw [c1]; exact Bool.false_ne_true)) ?_; wp_walk using wpAny_loadPart' hl)
      | (refine wpAny_ite_true (decide_eq_true c2) ?_; wp_walk using wpAny_loadPart' hl))
    exact ⟨_, rfl, h⟩
def rRep1 (K : PySem.W.Frag) : R2 := fun x y H Q => ∃ l xs, x = .ref l ∧ y = .int 1 ∧ SqT K H l xs ∧ Q (.ref l) H
def rRep0 (K : PySem.W.Frag) : R2 := fun x y H Q => ∃ l k xs, x = .ref l ∧ y = .int k ∧ SqT K H l xs ∧ xs ≠ [] ∧ -(2 ^ 63) ≤ k ∧ k ≤ 0 ∧ NewT H [] Q
section
variable {X : Cx}
theorem op_rep1 : OpR X (binaryOp .Mult) (rRep1 X.K) := by
  intro pins s σ H x y v u Q I rx ry ⟨l, xs, e1, e2, hT, q⟩
  subst e1 e2
  cases rx
  obtain ⟨t, rfl⟩ := ry
  obtain ⟨its, r, ⟨⟨cls, dd, data, sl⟩, ho, hc, n, hd⟩, hs⟩ := I.tuple hT
  simp only at hc hd
  subst hc hd
  refine wpAny_binaryOp_repeat_ref (T := "tuple") (U := "int") (by decide) ⟨_, ho, rfl⟩ (fun s' => typeIs_int s' 1 t) noFill_tuple_mul F.fills_int_mul F.slot_int_rmul repeat_tuple F.slot_int_index.lookup
    (call_meets F.slot_int_rmul (typeIs_int s 1 t) F.entry_int_rmul (F.args_int_rmul_2 _ _) (int_rmul_tuple 1 t l its.toArray n dd sl)
      ⟨ho, rfl, ⟨_, ho, rfl⟩, call_meets F.slot_tuple_mul ⟨_, ho, rfl⟩ F.entry_tuple_mul (F.args_tuple_mul_2 _ _) (mul_same l its.toArray n dd sl 1 t rfl (by rw [Bool.or_eq_true]; exact .inr rfl)) ⟨ho, ?_⟩⟩)
  exact ⟨.ref l, H, I, rfl, q⟩
theorem op_rep0 : OpR X (binaryOp .Mult) (rRep0 X.K) := by
  intro pins s σ H x y v u Q I rx ry ⟨l, k, xs, e1, e2, hT, hne, h1, h2, q⟩
  subst e1 e2
  cases rx
  obtain ⟨t, rfl⟩ := ry
  obtain ⟨its, r, ⟨⟨cls, dd, data, sl⟩, ho, hc, n, hd⟩, hs⟩ := I.tuple hT
  simp only at hc hd
  subst hc hd
  have hi : its.toArray.isEmpty = false := by
    cases its with
    | nil => cases r; exact absurd rfl hne
    | cons a b => rfl
  refine wpAny_binaryOp_repeat_ref (T := "tuple") (U := "int") (by decide) ⟨_, ho, rfl⟩ (fun s' => typeIs_int s' k t) noFill_tuple_mul F.fills_int_mul F.slot_int_rmul repeat_tuple F.slot_int_index.lookup
    (call_meets F.slot_int_rmul (typeIs_int s k t) F.entry_int_rmul (F.args_int_rmul_2 _ _) (int_rmul_tuple k t l its.toArray n dd sl)
      ⟨ho, rfl, ⟨_, ho, rfl⟩, call_meets F.slot_tuple_mul ⟨_, ho, rfl⟩ F.entry_tuple_mul (F.args_tuple_mul_2 _ _) (mul_none l its.toArray n dd sl k t (by rw [decide_eq_false (by omega), decide_eq_false (by omega)] <;> rfl) (by rw [hi, Bool.false_or]; exact beq_eq_false_iff_ne.mpr (by omega)) (by rw [decide_eq_true h2]; rfl)) ⟨ho, ?_⟩⟩)
  exact laidT0 (us := []) I .nil (Nat.zero_le _) q
/-- t * k, more than once -/
def rRepF (K : PySem.W.Frag) : R2 := fun x y H Q => ∃ l k xs, x = .ref l ∧ y = .int k ∧ SqT K H l xs ∧ xs ≠ [] ∧ 2 ≤ k ∧ k ≤ 1000 ∧ xs.length ≤ 1000 ∧ NewT H (List.replicate k.toNat xs).flatten Q
theorem op_repF : OpR X (binaryOp .Mult) (rRepF X.K) := by
  intro pins s σ H x y v u Q I rx ry ⟨l, k, xs, e1, e2, hT, hne, h1, h2, hz, q⟩
  subst e1 e2
  cases rx
  obtain ⟨t, rfl⟩ := ry
  obtain ⟨its, r, ⟨⟨cls, dd, data, sl⟩, ho, hc, n, hd⟩, hs⟩ := I.tuple hT
  simp only at hc hd
  subst hc hd
  have hl := r.length
  have hi : its.toArray.isEmpty = false := by
    cases its with
    | nil => cases r; exact absurd rfl hne
    | cons a b => rfl
  have hn : its.toArray.size = xs.length := by rw [List.size_toArray, hl]
  have hm : ((its.toArray.size : Nat) : Int) * k ≤ 1000000 := by
    rw [hn]
    exact Int.le_trans (Int.mul_le_mul_of_nonneg_right (show ((xs.length : Nat) : Int) ≤ 1000 by omega) (by omega)) (by omega)
  have big : k.toNat * xs.length ≤ sizeLine := by
    rw [sizeLine_eq]
    exact Nat.le_trans (Nat.mul_le_mul (show k.toNat ≤ 1000 by omega) hz) (by decide)
  have c0 : (decide (k < -(2 ^ 63)) || decide (k ≥ 2 ^ 63)) = false := by
    rw [Bool.or_eq_false_iff]
    exact ⟨decide_eq_false (by omega), decide_eq_false (by omega)⟩
  have c1 : (its.toArray.isEmpty || k == 1) = false := by
    rw [Bool.or_eq_false_iff]
    exact ⟨hi, beq_eq_false_iff_ne.mpr (by omega)⟩
  have c2 : (decide (k ≤ 0) || its.toArray.isEmpty) = false := by
    rw [Bool.or_eq_false_iff]
    exact ⟨decide_eq_false (by omega), hi⟩
  have c4 : Builtin.Tuple.tupleTooMany (((its.toArray.size : Nat) : Int) * k) = false := by
    unfold Builtin.Tuple.tupleTooMany
    rw [sizeLine_eq]
    exact decide_eq_false (by omega)
  have fl : (List.replicate k.toNat its).flatten.length ≤ sizeLine := by
    rw [PyProof.Rows.lm_len_rep_flat, ← hl]
    exact big
  refine wpAny_binaryOp_repeat_ref (T := "tuple") (U := "int") (by decide) ⟨_, ho, rfl⟩ (fun s' => typeIs_int s' k t) noFill_tuple_mul F.fills_int_mul F.slot_int_rmul repeat_tuple F.slot_int_index.lookup
    (call_meets F.slot_int_rmul (typeIs_int s k t) F.entry_int_rmul (F.args_int_rmul_2 _ _) (int_rmul_tuple k t l its.toArray n dd sl) ⟨ho, rfl, ⟨_, ho, rfl⟩,
      call_meets F.slot_tuple_mul ⟨_, ho, rfl⟩ F.entry_tuple_mul (F.args_tuple_mul_2 _ _)
        (tuple_mulW l its.toArray n dd sl k t c0 c1 c2 (by omega) c4 (by rw [size_rep, List.size_toArray]; exact fl)) ⟨ho, ?_⟩⟩)
  rw [size_rep]
  exact laidT0 I (r.rep k.toNat) (by rw [PyProof.Rows.lm_len_rep_flat]; exact big) q
end
end DV

set_option Elab.async false
set_option linter.all false
set_option maxRecDepth 100000
set_option maxHeartbeats 2000000
/-! values as data: operations -/
namespace DV
open PySem PySem.Spec PyProof.Rows L2

/-- a value as it may be read now: a list may be this def's own -/
def AtW (K : KW) (bad : Addr → Prop) (H : Hp) (v : V) (d : D) : Prop :=
  At K bad H v d ∨ ∃ a, v = .ref a ∧ OwnAt K bad H a d
def Trk (bad : Addr → Prop) (H : Hp) : Prop := ∀ a, bad a → ∃ o, H a = some o
section
variable {K : KW} {bad : Addr → Prop} {H H' : Hp} {v : V} {d : D}
theorem AtW.dp (hs : SeqAt.shaped d = true) (h : AtW K bad H v d) : Dp K.K H v d := by
  have nd := shaped_nd hs
  rcases h with h | ⟨a, rfl, h⟩
  · exact h.dp nd
  · cases d with
    | list ds =>
      obtain ⟨vs, e, l⟩ := h
      exact .lst (SqL.of e) (l.dp (by unfold noDic at nd; exact nd))
    | _ => first | exact h.elim | (unfold noDic at nd; cases nd)
theorem AtW.int {i : Int} (h : AtW K bad H v (.int i)) : v = .int i := by
  rcases h with h | ⟨a, _, z⟩
  · cases h; rfl
  · exact z.elim
theorem AtW.bl {b : Bool} (h : AtW K bad H v (.bool b)) : v = .bl b := by
  rcases h with h | ⟨a, _, z⟩
  · cases h; rfl
  · exact z.elim
theorem AtW.str {x : Str} (h : AtW K bad H v (.str x)) : v = .str x := by
  rcases h with h | ⟨a, _, z⟩
  · cases h; rfl
  · exact z.elim
theorem AtW.non (h : AtW K bad H v .none) : v = .non := by
  rcases h with h | ⟨a, _, z⟩
  · cases h; rfl
  · exact z.elim
theorem AtW.tupN {ds : List D} (h : AtW K bad H v (.tuple ds)) : ∃ a xs, v = .ref a ∧ TupN K.K H a xs ∧ AtL K bad H xs ds := by
  rcases h with h | ⟨a, _, z⟩
  · cases h with
    | tup r l => exact ⟨_, _, rfl, r, l⟩
  · exact z.elim
theorem AtW.tup {ds : List D} (h : AtW K bad H v (.tuple ds)) : ∃ a xs, v = .ref a ∧ TupN K.K H a xs ∧ SqT K.K H a xs ∧ AtL K bad H xs ds := by
  obtain ⟨a, xs, e, r, l⟩ := h.tupN
  exact ⟨a, xs, e, r, r.sq, l⟩
theorem AtW.lst {ds : List D} (h : AtW K bad H v (.list ds)) : ∃ a xs, v = .ref a ∧ H a = some (.lst xs) ∧ AtL K bad H xs ds := by
  rcases h with h | ⟨a, e, xs, q, l⟩
  · cases h with
    | lst n r l => exact ⟨_, _, rfl, r, l⟩
  · exact ⟨a, xs, e, q, l⟩
theorem AtW.dic {kvs : List (D × D)} (h : AtW K bad H v (.dict kvs)) : ∃ a o es ep ks vs, v = .ref a ∧ H a = some (objO a o) ∧ DicO K.w a o es ep (kvs.map (·.1)) ks vs ∧ AtL K bad H ks (kvs.map (·.1)) ∧ AtL K bad H vs (kvs.map (·.2)) := by
  rcases h with h | ⟨a, e, o, es, ep, ks, vs, q, r, l, m⟩
  · cases h with
    | dic n r q l m => exact ⟨_, _, _, _, _, _, rfl, r, q, l, m⟩
  · exact ⟨a, o, es, ep, ks, vs, e, q, r, l, m⟩
theorem At.same (h : At K bad H v d) (s : Same H H') : At K bad H' v d := h.mono (fun a o _ e => s a o e) (fun a o _ e => s a o e) fun _ n _ => n
theorem AtL.same {vs : List V} {ds : List D} (h : AtL K bad H vs ds) (s : Same H H') : AtL K bad H' vs ds := h.mono (fun a o _ e => s a o e) (fun a o _ e => s a o e) fun _ n _ => n
theorem AtW.same (h : AtW K bad H v d) (s : Same H H') : AtW K bad H' v d := by
  rcases h with h | ⟨a, e, q⟩
  · exact .inl (h.same s)
  · exact .inr ⟨a, e, q.mono (fun o z => s a o z) fun l => l.same s⟩
theorem same_new {p : Addr} {o : HO} (hp : H p = none) : Same H (upd H p o) := fun a u e => by rw [upd_ne (ne_of_none e hp)]; exact e
theorem AtL.mkT {p : Addr} {o : Obj} {vs : List V} {ds : List D} (l : AtL K bad H vs ds) (hp : H p = none) (ho : o.dict = none) : At K bad (upd H p (.frz o (.tup vs))) (.ref p) (.tuple ds) := .tup (.new ho) (l.same (same_new hp))
theorem AtL.mkL {p : Addr} {vs : List V} {ds : List D} (l : AtL K bad H vs ds) (t : Trk bad H) (hp : H p = none) : At K bad (upd H p (.lst vs)) (.ref p) (.list ds) :=
  .lst (fun b => by
    obtain ⟨o, e⟩ := t p b
    rw [hp] at e
    cases e) upd_same (l.same (same_new hp))
theorem Same.trk (t : Trk bad H) (s : Same H H') : Trk bad H' := fun a b => by
  obtain ⟨o, e⟩ := t a b
  exact ⟨o, s a o e⟩
end

/-- an operation's end -/
def POut (K : KW) (bad : Addr → Prop) (H : Hp) (o : Option D) (Q : VK) : Prop := match o with
  | none => False
  | some d => ∀ v H', Same H H' → At K bad H' v d → Q v H'
theorem POut.here {K : KW} {bad : Addr → Prop} {H : Hp} {d : D} {Q : VK} {v : V} (h : POut K bad H (some d) Q) (a : At K bad H v d) : Q v H := h v H (Same.refl H) a
theorem POut.newT {K : KW} {bad : Addr → Prop} {H : Hp} {vs : List V} {ds : List D} {Q : VK} (h : POut K bad H (some (.tuple ds)) Q) (l : AtL K bad H vs ds) : NewT H vs Q := fun p o hp ho => h _ _ (same_new hp) (l.mkT hp ho)
theorem POut.newL {K : KW} {bad : Addr → Prop} {H : Hp} {vs : List V} {ds : List D} {Q : VK} (t : Trk bad H) (h : POut K bad H (some (.list ds)) Q) (l : AtL K bad H vs ds) : ∀ p, H p = none → Q (.ref p) (upd H p (.lst vs)) := fun p hp => h _ _ (same_new hp) (l.mkL t hp)

def OpSpec (K : KW) (r : R2) (fo : D → D → Option D) : Prop := ∀ (bad : Addr → Prop) (H : Hp) (x y : V) (d e : D) (Q : VK), Trk bad H → AtW K bad H x d → AtW K bad H y e → POut K bad H (fo d e) Q → r x y H Q
def OpD (X : Cx) (f : Value → Value → Sem Value) (fo : D → D → Option D) : Prop := ∃ r, OpR X f r ∧ OpSpec X.KW r fo

noncomputable def iteP {α : Type} (c : Prop) (a b : α) : α := @ite α c (Classical.propDecidable c) a b
theorem iteP_pos {α : Type} {c : Prop} {a b : α} (h : c) : iteP c a b = a := @if_pos c (Classical.propDecidable c) h α a b
theorem iteP_neg {α : Type} {c : Prop} {a b : α} (h : ¬ c) : iteP c a b = b := @if_neg c (Classical.propDecidable c) h α a b
theorem iteP_some {α : Type} {c : Prop} {a : α} {P : Option α → Prop} (h0 : P none → False) (h : P (iteP c (some a) none)) : c ∧ P (some a) := by
  by_cases hc : c
  · rw [iteP_pos hc] at h; exact ⟨hc, h⟩
  · rw [iteP_neg hc] at h; exact (h0 h).elim
theorem POut.ite {K : KW} {bad : Addr → Prop} {H : Hp} {c : Prop} {d : D} {Q : VK} (h : POut K bad H (iteP c (some d) none) Q) : c ∧ POut K bad H (some d) Q := iteP_some (P := fun o => POut K bad H o Q) (fun z => z) h

/-! ### arithmetic -/
noncomputable def dAdd : D → D → Option D
  | .int i, .int j => some (.int (i + j))
  | .str x, .str y => iteP (x.length + y.length ≤ sizeLine) (some (.str (x ++ y))) none
  | .tuple xs, .tuple ys => iteP (xs.length + ys.length ≤ sizeLine) (some (.tuple (xs ++ ys))) none
  | .list xs, .list ys => iteP (xs.length + ys.length ≤ sizeLine) (some (.list (xs ++ ys))) none
  | _, _ => none
def dSub : D → D → Option D
  | .int i, .int j => some (.int (i - j))
  | _, _ => none
/-- a tuple or list so many times -/
def repD (xs : List D) (k : Int) : List D := (List.replicate k.toNat xs).flatten
noncomputable def dMul : D → D → Option D
  | .int i, .int j => iteP (IntMulOk i j) (some (.int (i * j))) none
  | .tuple xs, .int k => iteP (xs ≠ [] ∧ -(2 ^ 63) ≤ k ∧ k ≤ 1000 ∧ xs.length ≤ 1000) (some (.tuple (repD xs k))) none
  | .list xs, .int k => iteP (-(2 ^ 63) ≤ k ∧ k < 2 ^ 63 ∧ xs.length * k.toNat ≤ sizeLine) (some (.list (repD xs k))) none
  | _, _ => none
noncomputable def dFdiv : D → D → Option D
  | .int i, .int j => iteP (0 < j ∧ j.natAbs.log2 < 9000) (some (.int (i / j))) none
  | _, _ => none
noncomputable def dMod : D → D → Option D
  | .int i, .int j => iteP (0 < j) (some (.int (i % j))) none
  | _, _ => none
noncomputable def dPow : D → D → Option D
  | .int i, .int j => iteP (0 ≤ j ∧ j ≤ 1000000 ∧ i.natAbs < 2 ^ 64) (some (.int (i ^ j.toNat))) none
  | _, _ => none
noncomputable def dShl : D → D → Option D
  | .int i, .int j => iteP (0 ≤ j ∧ (Builtin.Int.intBits i : Int) + j ≤ 2 ^ 27) (some (.int (i * 2 ^ j.toNat))) none
  | _, _ => none
noncomputable def dShr : D → D → Option D
  | .int i, .int j => iteP (0 ≤ j) (some (.int (i / 2 ^ j.toNat))) none
  | _, _ => none
def dAnd : D → D → Option D
  | .int i, .int j => some (.int (Builtin.bitAnd i j))
  | _, _ => none
def dXor : D → D → Option D
  | .int i, .int j => some (.int (Builtin.bitXor i j))
  | _, _ => none
section
variable {X : Cx}
theorem spec_I0 {K : KW} {g : Int → Int → Int} {fo : D → D → Option D} (h : ∀ d e o, fo d e = some o → ∃ i j, d = .int i ∧ e = .int j ∧ o = .int (g i j)) : OpSpec K (rI0 fun i j => .int (g i j)) fo := by
  intro bad H x y d e Q t hx hy q
  cases ho : fo d e with
  | none => rw [ho] at q; exact q.elim
  | some o =>
    obtain ⟨i, j, rfl, rfl, rfl⟩ := h d e o ho
    rw [ho] at q
    exact ⟨i, j, hx.int, hy.int, q.here (.int _)⟩
theorem spec_I {K : KW} {C : Int → Int → Prop} {g : Int → Int → Int} {fo : D → D → Option D} (h : ∀ d e o, fo d e = some o → ∃ i j, d = .int i ∧ e = .int j ∧ C i j ∧ o = .int (g i j)) : OpSpec K (rI C fun i j => .int (g i j)) fo := by
  intro bad H x y d e Q t hx hy q
  cases ho : fo d e with
  | none => rw [ho] at q; exact q.elim
  | some o =>
    obtain ⟨i, j, rfl, rfl, hc, rfl⟩ := h d e o ho
    rw [ho] at q
    exact ⟨i, j, hx.int, hy.int, hc, q.here (.int _)⟩
theorem iteP_eq {α : Type} {c : Prop} {a b : α} (h : iteP c (some a) none = some b) : c ∧ b = a := by
  by_cases hc : c
  · rw [iteP_pos hc] at h; cases h; exact ⟨hc, rfl⟩
  · rw [iteP_neg hc] at h; cases h
theorem od_add : OpD X (binaryOp .Add) dAdd := by
  refine ⟨_, op_add.or (op_add_str.or (op_catF.or op_cat)), fun bad H x y d e Q t hx hy q => ?_⟩
  unfold dAdd at q
  split at q
  · exact .inl ⟨_, _, hx.int, hy.int, q.here (.int _)⟩
  · obtain ⟨hc, q⟩ := q.ite
    exact .inr (.inl ⟨_, _, hx.str, hy.str, hc, q.here (.str _)⟩)
  · obtain ⟨hc, q⟩ := q.ite
    obtain ⟨a, xs, rfl, na, ha, la⟩ := hx.tup
    obtain ⟨b, ys, rfl, nb, hb, lb⟩ := hy.tup
    refine .inr (.inr (.inl ⟨a, b, xs, ys, rfl, rfl, ha, hb, by rw [la.len, lb.len]; exact hc, fun z => ?_, fun _ z => ?_, fun _ _ => q.newT (la.app lb)⟩))
    · subst z
      cases la
      exact q.here (.tup nb lb)
    · subst z
      cases lb
      rw [List.append_nil] at q
      exact q.here (.tup na la)
  · obtain ⟨hc, q⟩ := q.ite
    obtain ⟨a, xs, rfl, ha, la⟩ := hx.lst
    obtain ⟨b, ys, rfl, hb, lb⟩ := hy.lst
    exact .inr (.inr (.inr ⟨a, b, xs, ys, rfl, rfl, ha, hb, by rw [la.len, lb.len]; exact hc, q.newL t (la.app lb)⟩))
  · exact q.elim
theorem od_sub : OpD X (binaryOp .Sub) dSub := ⟨_, op_sub, spec_I0 fun d e o h => by
  unfold dSub at h
  split at h
  · cases h; exact ⟨_, _, rfl, rfl, rfl⟩
  · cases h⟩
theorem AtL.flat {K : KW} {bad : Addr → Prop} {H : Hp} {vs : List V} {ds : List D} (l : AtL K bad H vs ds) : ∀ n : Nat, AtL K bad H (List.replicate n vs).flatten (List.replicate n ds).flatten
  | 0 => .nil
  | n + 1 => by
    rw [List.replicate_succ, List.replicate_succ, List.flatten_cons, List.flatten_cons]
    exact l.app (AtL.flat l n)
theorem op_mulI : OpR X (binaryOp .Mult) (rI IntMulOk fun i j => .int (i * j)) := opI fun _ _ _ _ _ _ _ hc q => mul_int q hc
theorem od_mul : OpD X (binaryOp .Mult) dMul := by
  refine ⟨_, op_mulI.or (op_repF.or (op_rep.or (op_rep1.or op_rep0))), fun bad H x y d e Q t hx hy q => ?_⟩
  unfold dMul at q
  split at q
  · obtain ⟨hc, q⟩ := q.ite
    exact .inl ⟨_, _, hx.int, hy.int, hc, q.here (.int _)⟩
  · obtain ⟨⟨h1, h2, h3, h4⟩, q⟩ := q.ite
    obtain ⟨a, xs, rfl, na, ha, la⟩ := hx.tup
    have hne : xs ≠ [] := fun z => h1 (by subst z; cases la; rfl)
    rename_i ds k q0
    by_cases k1 : k = 1
    · subst k1
      refine .inr (.inr (.inr (.inl ⟨a, xs, rfl, hy.int, ha, ?_⟩)))
      have er : repD ds 1 = ds := by unfold repD; simp
      rw [er] at q
      exact q.here (.tup na la)
    · by_cases k0 : k ≤ 0
      · refine .inr (.inr (.inr (.inr ⟨a, _, xs, rfl, hy.int, ha, hne, h2, k0, ?_⟩)))
        have er : repD ds k = [] := by unfold repD; rw [Int.toNat_of_nonpos k0]; rfl
        rw [er] at q
        exact q.newT .nil
      · exact .inr (.inl ⟨a, _, xs, rfl, hy.int, ha, hne, by omega, h3, by rw [la.len]; exact h4, q.newT (la.flat _)⟩)
  · obtain ⟨⟨h1, h2, h3⟩, q⟩ := q.ite
    obtain ⟨a, xs, rfl, ha, la⟩ := hx.lst
    exact .inr (.inr (.inl ⟨a, _, xs, rfl, hy.int, ha, h1, h2, by rw [la.len]; exact h3, q.newL t (la.flat _)⟩))
  · exact q.elim
theorem od_fdiv : OpD X (binaryOp .FloorDiv) dFdiv := ⟨_, op_fdivW, spec_I fun d e o h => by
  unfold dFdiv at h
  split at h
  · obtain ⟨hc, rfl⟩ := iteP_eq h
    exact ⟨_, _, rfl, rfl, hc, rfl⟩
  · cases h⟩
theorem od_mod : OpD X (binaryOp .Mod) dMod := ⟨_, op_mod, spec_I fun d e o h => by
  unfold dMod at h
  split at h
  · obtain ⟨hc, rfl⟩ := iteP_eq h
    exact ⟨_, _, rfl, rfl, hc, rfl⟩
  · cases h⟩
theorem od_pow : OpD X (binaryOp .Pow) dPow := ⟨_, op_pow, spec_I fun d e o h => by
  unfold dPow at h
  split at h
  · obtain ⟨hc, rfl⟩ := iteP_eq h
    exact ⟨_, _, rfl, rfl, hc, rfl⟩
  · cases h⟩
theorem od_shl : OpD X (binaryOp .LShift) dShl := ⟨_, op_shlW, spec_I fun d e o h => by
  unfold dShl at h
  split at h
  · obtain ⟨hc, rfl⟩ := iteP_eq h
    exact ⟨_, _, rfl, rfl, hc, rfl⟩
  · cases h⟩
theorem od_shr : OpD X (binaryOp .RShift) dShr := ⟨_, op_shr, spec_I fun d e o h => by
  unfold dShr at h
  split at h
  · obtain ⟨hc, rfl⟩ := iteP_eq h
    exact ⟨_, _, rfl, rfl, hc, rfl⟩
  · cases h⟩
theorem od_and : OpD X (binaryOp .BitAnd) dAnd := ⟨_, op_and, spec_I0 fun d e o h => by
  unfold dAnd at h
  split at h
  · cases h; exact ⟨_, _, rfl, rfl, rfl⟩
  · cases h⟩
theorem od_xor : OpD X (binaryOp .BitXor) dXor := ⟨_, op_xor, spec_I0 fun d e o h => by
  unfold dXor at h
  split at h
  · cases h; exact ⟨_, _, rfl, rfl, rfl⟩
  · cases h⟩

/-! ### comparisons -/
noncomputable def dEq (d e : D) : Option D := iteP (SeqAt.shaped d = true ∧ SeqAt.shaped e = true) (some (.bool (PyData.eqv d e))) none
noncomputable def dNe (d e : D) : Option D := iteP (SeqAt.shaped d = true ∧ SeqAt.shaped e = true) (some (.bool (!PyData.eqv d e))) none
theorem od_eq (hu : X.A.units + 64 < cLine) : OpD X (compareOp .Eq) dEq := ⟨_, op_eqD hu, fun bad H x y d e Q t hx hy q => by
  obtain ⟨⟨h1, h2⟩, q⟩ := POut.ite q
  exact ⟨d, e, hx.dp h1, hy.dp h2, shaped_kit h1, shaped_kit h2, q.here (.bl _)⟩⟩
theorem od_ne (hu : X.A.units + 64 < cLine) : OpD X (compareOp .NotEq) dNe := ⟨_, op_neD hu, fun bad H x y d e Q t hx hy q => by
  obtain ⟨⟨h1, h2⟩, q⟩ := POut.ite q
  exact ⟨d, e, hx.dp h1, hy.dp h2, shaped_kit h1, shaped_kit h2, q.here (.bl _)⟩⟩
def intsOf : List D → Option (List Int)
  | [] => some []
  | .int i :: r => (intsOf r).map (i :: ·)
  | _ :: _ => none
theorem intsOf_eq : ∀ {ds : List D} {ns : List Int}, intsOf ds = some ns → ds = ns.map PyData.int
  | [], _, h => by cases h; rfl
  | .int i :: r, ns, h => by
    unfold intsOf at h
    cases q : intsOf r with
    | none => rw [q] at h; cases h
    | some ms => rw [q] at h; cases h; rw [List.map_cons, intsOf_eq q]
  | .none :: _, _, h => by cases h
  | .bool _ :: _, _, h => by cases h
  | .str _ :: _, _, h => by cases h
  | .list _ :: _, _, h => by cases h
  | .tuple _ :: _, _, h => by cases h
  | .dict _ :: _, _, h => by cases h
theorem intsOf_map : ∀ ns : List Int, intsOf (ns.map PyData.int) = some ns
  | [] => rfl
  | n :: ns => by
    show (intsOf (ns.map PyData.int)).map (n :: ·) = _
    rw [intsOf_map ns]; rfl
def dLt : D → D → Option D
  | .int i, .int j => some (.bool (decide (i < j)))
  | .str x, .str y => some (.bool (decide (x.cps.toList < y.cps.toList)))
  | .tuple xs, .tuple ys => match intsOf xs, intsOf ys with
    | some ns, some ms => some (.bool (HT.lexLt ns ms))
    | _, _ => none
  | _, _ => none
def dLe : D → D → Option D
  | .int i, .int j => some (.bool (decide (i ≤ j)))
  | _, _ => none
def dGt : D → D → Option D
  | .int i, .int j => some (.bool (decide (j < i)))
  | _, _ => none
def dGe : D → D → Option D
  | .int i, .int j => some (.bool (decide (j ≤ i)))
  | _, _ => none
theorem od_lt (hu : X.A.units < cLine) : OpD X (compareOp .Lt) dLt := by
  refine ⟨_, op_lt.or (op_lt_str.or (op_ltT hu)), fun bad H x y d e Q t hx hy q => ?_⟩
  unfold dLt at q
  split at q
  · exact .inl ⟨_, _, hx.int, hy.int, q.here (.bl _)⟩
  · exact .inr (.inl ⟨_, _, hx.str, hy.str, q.here (.bl _)⟩)
  · split at q
    · rename_i e1 e2
      rw [intsOf_eq e1] at hx
      rw [intsOf_eq e2] at hy
      obtain ⟨a, xs, rfl, _, ha, la⟩ := hx.tup
      obtain ⟨b, ys, rfl, _, hb, lb⟩ := hy.tup
      rw [la.ints] at ha
      rw [lb.ints] at hb
      exact .inr (.inr ⟨a, b, _, _, rfl, rfl, ha, hb, q.here (.bl _)⟩)
    · exact q.elim
  · exact q.elim
theorem spec_B {K : KW} {g : Int → Int → Bool} {fo : D → D → Option D} (h : ∀ d e o, fo d e = some o → ∃ i j, d = .int i ∧ e = .int j ∧ o = .bool (g i j)) : OpSpec K (rI0 fun i j => .bl (g i j)) fo := by
  intro bad H x y d e Q t hx hy q
  cases ho : fo d e with
  | none => rw [ho] at q; exact q.elim
  | some o =>
    obtain ⟨i, j, rfl, rfl, rfl⟩ := h d e o ho
    rw [ho] at q
    exact ⟨i, j, hx.int, hy.int, q.here (.bl _)⟩
theorem od_le : OpD X (compareOp .LtE) dLe := ⟨_, op_le, spec_B fun d e o h => by
  unfold dLe at h
  split at h
  · cases h; exact ⟨_, _, rfl, rfl, rfl⟩
  · cases h⟩
theorem od_gt : OpD X (compareOp .Gt) dGt := ⟨_, op_gt, spec_B fun d e o h => by
  unfold dGt at h
  split at h
  · cases h; exact ⟨_, _, rfl, rfl, rfl⟩
  · cases h⟩
theorem od_ge : OpD X (compareOp .GtE) dGe := ⟨_, op_ge, spec_B fun d e o h => by
  unfold dGe at h
  split at h
  · cases h; exact ⟨_, _, rfl, rfl, rfl⟩
  · cases h⟩
/-- x is None, x is True, x is False -/
def dIs : D → D → Option D
  | .none, .none => some (.bool true)
  | _, .none => some (.bool false)
  | .bool a, .bool b => some (.bool (decide (a = b)))
  | _, _ => none
def dIsNot : D → D → Option D
  | .none, .none => some (.bool false)
  | _, .none => some (.bool true)
  | .bool a, .bool b => some (.bool (!decide (a = b)))
  | _, _ => none
theorem AtW.nn {K : KW} {bad : Addr → Prop} {H : Hp} {v : V} {d : D} (h : AtW K bad H v d) : decide (v = .non) = (match d with | .none => true | _ => false) := by
  rcases h with h | ⟨a, rfl, h⟩
  · cases h <;> rfl
  · cases d <;> first | exact h.elim | rfl
theorem od_is : OpD X (compareOp .Is) dIs := by
  refine ⟨_, op_isN.or op_isBl, fun bad H x y d e Q t hx hy q => ?_⟩
  unfold dIs at q
  split at q
  · refine .inl ⟨hy.non, ?_⟩
    rw [hx.non]
    exact q.here (.bl _)
  · rename_i h0
    refine .inl ⟨hy.non, ?_⟩
    rw [hx.nn]
    cases d <;> first | exact (h0 rfl).elim | exact (h0 rfl rfl).elim | exact q.here (.bl _)
  · exact .inr ⟨_, _, hx.bl, hy.bl, q.here (.bl _)⟩
  · exact q.elim
theorem od_isnot : OpD X (compareOp .IsNot) dIsNot := by
  refine ⟨_, op_notN.or op_notBl, fun bad H x y d e Q t hx hy q => ?_⟩
  unfold dIsNot at q
  split at q
  · refine .inl ⟨hy.non, ?_⟩
    rw [hx.non]
    exact q.here (.bl _)
  · rename_i h0
    refine .inl ⟨hy.non, ?_⟩
    rw [hx.nn]
    cases d <;> first | exact (h0 rfl).elim | exact (h0 rfl rfl).elim | exact q.here (.bl _)
  · exact .inr ⟨_, _, hx.bl, hy.bl, q.here (.bl _)⟩
  · exact q.elim
end
end DV

set_option Elab.async false
set_option linter.all false
set_option maxRecDepth 100000
set_option maxHeartbeats 2000000
/-! values as data: expressions -/
namespace DV
open PySem PySem.Spec PyProof.Rows L2

/-- an evaluation's end: a value, or an exception of a class of the text -/
def PostG {α β : Type} (X : Cx) (W : L2.WX) (G : Gh) (σ : L2.St) (H : Hp) (A : Hp → β → α → Prop) (r : Res α) (Q : β → Hp → Prop) : Prop := match r with
  | .ok d s' => ∀ v H', Wd G s' H' → ExtO G H H' → A H' v d → Q v H'
  | .exc e s' => ∀ C H', X.mg e = some (.ref C) → Wd G s' H' → ExtO G H H' → W (.ref C) none σ H'
  | .stuck => False
section
variable {X : Cx} {W : L2.WX} {G : Gh} {σ : L2.St} {H H1 : Hp} {α β γ δ : Type} {A : Hp → β → α → Prop} {A' : Hp → δ → γ → Prop} {s : DS}
theorem PostG.ext {r : Res α} {Q : β → Hp → Prop} (h : PostG X W G σ H A r Q) (e : ExtO G H H1) : PostG X W G σ H1 A r Q := by
  cases r with
  | ok d s' => exact fun v H' w e' a => h v H' w (e.trans e') a
  | exc x s' => exact fun C H' hc w e' => h C H' hc w (e.trans e')
  | stuck => exact h
theorem PostG.bnd {m : M α} {k : α → M γ} {Q : δ → Hp → Prop} {Q1 : β → Hp → Prop} (h : PostG X W G σ H A' (bnd m k s) Q)
    (step : ∀ d s1 v H1, m s = .ok d s1 → Wd G s1 H1 → ExtO G H H1 → A H1 v d → PostG X W G σ H1 A' (k d s1) Q → Q1 v H1) : PostG X W G σ H A (m s) Q1 := by
  unfold DV.bnd at h
  cases hm : m s with
  | ok d s1 =>
    rw [hm] at h
    intro v H1 w e a
    exact step d s1 v H1 hm w e a (PostG.ext h e)
  | exc x s1 => rw [hm] at h; exact h
  | stuck => rw [hm] at h; exact h
end

def ownB : D → Bool
  | .list _ => true
  | .dict _ => true
  | _ => false
theorem OwnAt.b {K : KW} {bad : Addr → Prop} {H : Hp} {p : Addr} {d : D} (h : OwnAt K bad H p d) : ownB d = true := by
  cases d <;> first | exact h.elim | rfl
/-- b: it may be handed on; otherwise it may be a list of the def's own -/
def AtB (b : Bool) (K : KW) (G : Gh) (ρ : Rho) (pz : Nat → Addr) (H : Hp) (v : V) (d : D) : Prop := match b with
  | true => At K (badE G ρ pz) H v d
  | false => At K (badE G ρ pz) H v d ∨ ∃ i, ρ[i]? = some (some (.own d)) ∧ v = .ref (pz i) ∧ ownB d = true
section
variable {Ts : List Addr} {K : KW} {G : Gh} {s s' : DS} {ρ : Rho} {pz : Nat → Addr} {σ : L2.St} {H H' : Hp} {b : Bool} {v : V} {d : D}
theorem AtB.w (R : Rel Ts K G s ρ pz σ H) (h : AtB b K G ρ pz H v d) : AtW K (badE G ρ pz) H v d := by
  cases b with
  | true => exact .inl h
  | false =>
    rcases h with h | ⟨i, e, ev, _⟩
    · exact .inl h
    · obtain ⟨v', _, e1, q⟩ := R.at_ i _ e
      exact .inr ⟨_, ev, q⟩
theorem AtB.ext (h : AtB b K G ρ pz H v d) (e : ExtO G H H') : AtB b K G ρ pz H' v d := by
  cases b with
  | true => exact At.ext h e
  | false =>
    rcases h with h | h
    · exact .inl (At.ext h e)
    · exact .inr h
theorem Rel.trk (R : Rel Ts K G s ρ pz σ H) : Trk (badE G ρ pz) H := fun a hb => by
  rcases hb with hb | ⟨i, ds, e, rfl⟩
  · by_cases h1 : a = G.dr
    · subst h1
      exact R.wd.dr.there
    · by_cases h2 : a ∈ G.tabs
      · obtain ⟨ps, e1, _⟩ := R.wd.tab a h2
        exact ⟨_, e1⟩
      · obtain ⟨o, e1⟩ := R.fix.ok a hb
        exact ⟨o, R.kp.keep a o h1 h2 e1⟩
  · obtain ⟨v', _, e1, q⟩ := R.at_ i _ e
    obtain ⟨o, e2, _⟩ := q.there
    exact ⟨o, e2⟩
theorem ExtO.same (e : Same H H') : ExtO G H H' := ⟨fun a o _ _ q => e a o q, fun a o _ q => e a o q⟩
theorem Wd.same (w : Wd G s H) (e : Same H H') : Wd G s H' := by
  refine ⟨?_, fun P hP => ?_⟩
  · exact w.dr.keep (fun o q => e _ _ q) fun o q => e _ _ q
  · obtain ⟨ps, q, r⟩ := w.tab P hP
    exact ⟨ps, e _ _ q, r⟩
end

/-- AN EXPRESSION is worth f of the slots -/
def DX (Ts : List Addr) (b : Bool) (X : Cx) (W : L2.WX) (e : Expr) (f : Rho → M D) : Prop := ∃ t, PE X e t ∧ ∀ (G : Gh) (s : DS) (ρ : Rho) (pz : Nat → Addr) (σ : L2.St) (H : Hp) (Q : VK), Rel Ts X.KW G s ρ pz σ H →
  PostG X W G σ H (AtB b X.KW G ρ pz) (f ρ s) Q → t σ H Q
/-- A TEST -/
def DT (Ts : List Addr) (X : Cx) (W : L2.WX) (e : Expr) (f : Rho → M Bool) : Prop := ∃ t, PT X e t ∧ ∀ (G : Gh) (s : DS) (ρ : Rho) (pz : Nat → Addr) (σ : L2.St) (H : Hp) (Q : Bool → Hp → Prop), Rel Ts X.KW G s ρ pz σ H →
  PostG X W G σ H (fun _ c d => c = d) (f ρ s) Q → t σ H Q
def DTW (Ts : List Addr) (X : Cx) (W : L2.WX) (e : Expr) (f : Rho → M Bool) : Prop := ∃ t, PW X e t ∧ ∀ (G : Gh) (s : DS) (ρ : Rho) (pz : Nat → Addr) (σ : L2.St) (H : Hp) (Q : Bool → Hp → Prop), Rel Ts X.KW G s ρ pz σ H →
  PostG X W G σ H (fun _ c d => c = d) (f ρ s) Q → t σ H Q
/-- ARGUMENTS, by value -/
def DA (Ts : List Addr) (b : Bool) (X : Cx) (W : L2.WX) (es : List Expr) (f : Rho → M (List D)) : Prop := ∃ t, PA X es t ∧ ∀ (G : Gh) (s : DS) (ρ : Rho) (pz : Nat → Addr) (σ : L2.St) (H : Hp) (Q : List V → Hp → Prop), Rel Ts X.KW G s ρ pz σ H →
  PostG X W G σ H (fun H' vs ds => Paired (AtB b X.KW G ρ pz H') vs ds) (f ρ s) Q → t σ H Q

section
variable {Ts : List Addr} {X : Cx} {W : L2.WX} {e a b' c : Expr} {f fa fb fc : Rho → M D} {b b1 b2 : Bool} {pos : Pos}
theorem DX.weak (h : DX Ts true X W e f) : DX Ts false X W e f := by
  obtain ⟨t, ht, q⟩ := h
  refine ⟨t, ht, fun G s ρ pz σ H Q R h => q G s ρ pz σ H Q R ?_⟩
  cases hr : f ρ s with
  | ok d s' => rw [hr] at h; exact fun v H' w e a => h v H' w e (.inl a)
  | exc x s' => rw [hr] at h; exact h
  | stuck => rw [hr] at h; exact h
def lift {α : Type} (o : Option α) : M α := match o with
  | some d => ret d
  | none => stk
/-- an operation's end within an evaluation -/
theorem POut.of {G : Gh} {s : DS} {ρ : Rho} {pz : Nat → Addr} {σ : L2.St} {H : Hp} {o : Option D} {Q : VK} (R : Rel Ts X.KW G s ρ pz σ H) (h : PostG X W G σ H (AtB true X.KW G ρ pz) (lift o s) Q) : POut X.KW (badE G ρ pz) H o Q := by
  cases o with
  | none => exact h
  | some d => exact fun v H' e a => h v H' (R.wd.same e) (.same e) a

/-! ### names, constants -/
def slot (ρ : Rho) (i : Nat) : M D := match ρ[i]? with
  | some (some (.val d)) => ret d
  | _ => stk
def slotW (ρ : Rho) (i : Nat) : M D := match ρ[i]? with
  | some (some (.val d)) => ret d
  | some (some (.own d)) => ret d
  | _ => stk
theorem dx_var (i : Nat) {x : Str} (hN : X.N[i]? = some x := by rfl) (hv : Vis X.env.scope x := by first | exact Or.inl rfl | exact Or.inr (Or.inl rfl) | exact Or.inr (Or.inr rfl)) (hd : (x == ("__debug__" : Str)) = false := by decide)
    (hcd : (x == ("__classdict__" : Str)) = false := by decide) : DX Ts true X W (.Name x pos) (fun ρ => slot ρ i) := by
  refine ⟨tVar i, pe_var hN hv hd hcd, fun G s ρ pz σ H Q R h => ?_⟩
  have h : PostG X W G σ H (AtB true X.KW G ρ pz) (slot ρ i s) Q := h
  unfold slot at h
  rcases hr : ρ[i]? with _ | (_ | (d | ds | _ | _ | _)) <;> rw [hr] at h <;> first | exact h.elim | skip
  obtain ⟨v, e1, q⟩ := R.at_ i _ hr
  exact ⟨v, e1, h v H R.wd .refl q⟩
theorem dx_varW (i : Nat) {x : Str} (hN : X.N[i]? = some x := by rfl) (hv : Vis X.env.scope x := by first | exact Or.inl rfl | exact Or.inr (Or.inl rfl) | exact Or.inr (Or.inr rfl)) (hd : (x == ("__debug__" : Str)) = false := by decide)
    (hcd : (x == ("__classdict__" : Str)) = false := by decide) : DX Ts false X W (.Name x pos) (fun ρ => slotW ρ i) := by
  refine ⟨tVar i, pe_var hN hv hd hcd, fun G s ρ pz σ H Q R h => ?_⟩
  have h : PostG X W G σ H (AtB false X.KW G ρ pz) (slotW ρ i s) Q := h
  unfold slotW at h
  rcases hr : ρ[i]? with _ | (_ | (d | ds | _ | _ | _)) <;> rw [hr] at h <;> first | exact h.elim | skip
  · obtain ⟨v, e1, q⟩ := R.at_ i _ hr
    exact ⟨v, e1, h v H R.wd .refl (.inl q)⟩
  · obtain ⟨v, e1, e2, e3⟩ := R.at_ i _ hr
    exact ⟨v, e1, h v H R.wd .refl (.inr ⟨i, hr, e2, e3.b⟩)⟩
theorem dx_int {i : Int} {j : Nat} : DX Ts true X W (.Constant (.int i) j pos) (fun _ => ret (.int i)) := ⟨_, pe_int, fun G s ρ pz σ H Q R h => h _ H R.wd .refl (.int i)⟩
theorem dx_bl {c : Bool} {j : Nat} : DX Ts true X W (.Constant (.bool c) j pos) (fun _ => ret (.bool c)) := ⟨_, pe_bl, fun G s ρ pz σ H Q R h => h _ H R.wd .refl (.bl c)⟩
theorem dx_non {j : Nat} : DX Ts true X W (.Constant .none j pos) (fun _ => ret .none) := ⟨_, pe_non, fun G s ρ pz σ H Q R h => h _ H R.wd .refl .non⟩
theorem dx_str {x : Str} {j : Nat} : DX Ts true X W (.Constant (.str x) j pos) (fun _ => ret (.str x)) := ⟨_, pe_str, fun G s ρ pz σ H Q R h => h _ H R.wd .refl (.str x)⟩
/-- a constant of the module -/
theorem dx_glob {x : Str} {d : D} {v : V} {u : Value} (hg : Gl X x) (hm : X.mg x = some u) (r : RelV v u) (hd : ∀ bad H, At X.KW bad H v d) (hdb : (x == ("__debug__" : Str)) = false := by decide) : DX Ts true X W (.Name x pos) (fun _ => ret d) :=
  ⟨_, pe_glob hg hm r hdb, fun G s ρ pz σ H Q R h => h _ H R.wd .refl (hd _ _)⟩

/-! ### operations -/
theorem dx_bin {op : Operator} {fo : D → D → Option D} (ho : OpD X (binaryOp op) fo) (ha : DX Ts b1 X W a fa) (hb : DX Ts b2 X W b' fb) : DX Ts true X W (.BinOp a op b' pos) (fun ρ => bnd (fa ρ) fun d => bnd (fb ρ) fun e => lift (fo d e)) := by
  obtain ⟨r, hr, sp⟩ := ho
  obtain ⟨ta, pa, qa⟩ := ha
  obtain ⟨tb, pb, qb⟩ := hb
  refine ⟨_, pe_op hr pa pb, fun G s ρ pz σ H Q R h => ?_⟩
  refine qa G s ρ pz σ H _ R (PostG.bnd h fun d s1 v H1 _ w1 e1 a1 h1 => ?_)
  have R1 := R.ext w1 e1
  refine qb G s1 ρ pz σ H1 _ R1 (PostG.bnd h1 fun d2 s2 v2 H2 _ w2 e2 a2 h2 => ?_)
  have R2 := R1.ext w2 e2
  exact sp _ H2 v v2 d d2 Q R2.trk ((a1.ext e2).w R2) (a2.w R2) (POut.of R2 h2)
theorem dx_cmp {op : CmpOp} {fo : D → D → Option D} (ho : OpD X (compareOp op) fo) (ha : DX Ts b1 X W a fa) (hb : DX Ts b2 X W b' fb) (hm : behindInMarks op b' = false := by first | exact nobehind _ (by decide) (by decide) | rfl) : DX Ts true X W (.Compare a [op] [b'] pos) (fun ρ => bnd (fa ρ) fun d => bnd (fb ρ) fun e => lift (fo d e)) := by
  obtain ⟨r, hr, sp⟩ := ho
  obtain ⟨ta, pa, qa⟩ := ha
  obtain ⟨tb, pb, qb⟩ := hb
  refine ⟨_, pe_cmpR hr pa pb hm, fun G s ρ pz σ H Q R h => ?_⟩
  refine qa G s ρ pz σ H _ R (PostG.bnd h fun d s1 v H1 _ w1 e1 a1 h1 => ?_)
  have R1 := R.ext w1 e1
  refine qb G s1 ρ pz σ H1 _ R1 (PostG.bnd h1 fun d2 s2 v2 H2 _ w2 e2 a2 h2 => ?_)
  have R2 := R1.ext w2 e2
  exact sp _ H2 v v2 d d2 Q R2.trk ((a1.ext e2).w R2) (a2.w R2) (POut.of R2 h2)
def toB (d : D) : M Bool := match d with
  | .bool c => ret c
  | _ => stk
theorem At.toBl {K : KW} {bad : Addr → Prop} {H : Hp} {v : V} {c : Bool} (h : At K bad H v (.bool c)) : v = .bl c := by cases h; rfl
theorem toB_of {G : Gh} {s : DS} {σ : L2.St} {H : Hp} {Q : Bool → Hp → Prop} {d : D} (h : PostG X W G σ H (fun _ (c : Bool) d => c = d) (toB d s) Q) (w : Wd G s H) : ∃ c, d = .bool c ∧ Q c H := by
  unfold toB at h
  split at h
  · exact ⟨_, rfl, h _ H w .refl rfl⟩
  · exact h.elim
theorem POut.of2 {G : Gh} {s : DS} {ρ : Rho} {pz : Nat → Addr} {σ : L2.St} {H : Hp} {o : Option D} {Q : Bool → Hp → Prop} (R : Rel Ts X.KW G s ρ pz σ H) (h : PostG X W G σ H (fun _ (c : Bool) d => c = d) (bnd (lift o) toB s) Q) : POut X.KW (badE G ρ pz) H o (fun x H' => ∃ k, x = .bl k ∧ Q k H') := by
  cases o with
  | none => exact h
  | some d =>
    intro v H' e a
    have h' : PostG X W G σ H (fun _ (c : Bool) d => c = d) (toB d s) Q := h
    obtain ⟨c, rfl, q⟩ := toB_of (PostG.ext h' (.same e)) (R.wd.same e)
    exact ⟨c, a.toBl, q⟩
theorem dt_cmp {op : CmpOp} {fo : D → D → Option D} (ho : OpD X (compareOp op) fo) (ha : DX Ts b1 X W a fa) (hb : DX Ts b2 X W b' fb) (hm : behindInMarks op b' = false := by first | exact nobehind _ (by decide) (by decide) | rfl) : DT Ts X W (.Compare a [op] [b'] pos) (fun ρ => bnd (fa ρ) fun d => bnd (fb ρ) fun e => bnd (lift (fo d e)) toB) := by
  obtain ⟨r, hr, sp⟩ := ho
  obtain ⟨ta, pa, qa⟩ := ha
  obtain ⟨tb, pb, qb⟩ := hb
  refine ⟨_, pt_cmpR hr pa pb hm, fun G s ρ pz σ H Q R h => ?_⟩
  refine qa G s ρ pz σ H _ R (PostG.bnd h fun d s1 v H1 _ w1 e1 a1 h1 => ?_)
  have R1 := R.ext w1 e1
  refine qb G s1 ρ pz σ H1 _ R1 (PostG.bnd h1 fun d2 s2 v2 H2 _ w2 e2 a2 h2 => ?_)
  have R2 := R1.ext w2 e2
  exact sp _ H2 v v2 d d2 _ R2.trk ((a1.ext e2).w R2) (a2.w R2) (POut.of2 R2 h2)
/-- a <= b <= c -/
theorem dx_chain {op op' : CmpOp} {fo fo' : D → D → Option D} (ho : OpD X (compareOp op) fo) (ho' : OpD X (compareOp op') fo') (ha : DX Ts b1 X W a fa) (hb : DX Ts b2 X W b' fb) (hc : DX Ts b X W c fc) (hm : lastMarks [op, op'] [b', c] = false := by with_unfolding_all rfl) :
    DX Ts true X W (.Compare a [op, op'] [b', c] pos) (fun ρ => bnd (fa ρ) fun d => bnd (fb ρ) fun e => bnd (bnd (lift (fo d e)) toB) fun k => if k = true then bnd (fc ρ) fun g => lift (fo' e g) else ret (.bool false)) := by
  obtain ⟨r, hr, sp⟩ := ho
  obtain ⟨r', hr', sp'⟩ := ho'
  obtain ⟨ta, pa, qa⟩ := ha
  obtain ⟨tb, pb, qb⟩ := hb
  obtain ⟨tc, pc, qc⟩ := hc
  refine ⟨_, pe_chain hr hr' pa pb pc hm, fun G s ρ pz σ H Q R h => ?_⟩
  refine qa G s ρ pz σ H _ R (PostG.bnd h fun d s1 v H1 _ w1 e1 a1 h1 => ?_)
  have R1 := R.ext w1 e1
  refine qb G s1 ρ pz σ H1 _ R1 (PostG.bnd h1 fun d2 s2 v2 H2 _ w2 e2 a2 h2 => ?_)
  have R2 := R1.ext w2 e2
  refine sp _ H2 v v2 d d2 _ R2.trk ((a1.ext e2).w R2) (a2.w R2) (POut.of2 (W := W) R2 (PostG.bnd h2 fun k s3 k' H3 _ w3 e3 hk h3 => ?_))
  subst hk
  have R3 := R2.ext w3 e3
  cases k' with
  | false => exact h3 _ H3 R3.wd .refl (.bl false)
  | true =>
    refine qc G s3 ρ pz σ H3 _ R3 (PostG.bnd h3 fun d4 s4 v4 H4 _ w4 e4 a4 h4 => ?_)
    have R4 := R3.ext w4 e4
    exact sp' _ H4 v2 v4 d2 d4 Q R4.trk (((a2.ext e3).ext e4).w R4) (a4.w R4) (POut.of R4 h4)
theorem dt_chain {op op' : CmpOp} {fo fo' : D → D → Option D} (ho : OpD X (compareOp op) fo) (ho' : OpD X (compareOp op') fo') (ha : DX Ts b1 X W a fa) (hb : DX Ts b2 X W b' fb) (hc : DX Ts b X W c fc) (hm : lastMarks [op, op'] [b', c] = false := by with_unfolding_all rfl) :
    DT Ts X W (.Compare a [op, op'] [b', c] pos) (fun ρ => bnd (fa ρ) fun d => bnd (fb ρ) fun e => bnd (bnd (lift (fo d e)) toB) fun k => if k = true then bnd (fc ρ) fun g => bnd (lift (fo' e g)) toB else ret false) := by
  obtain ⟨r, hr, sp⟩ := ho
  obtain ⟨r', hr', sp'⟩ := ho'
  obtain ⟨ta, pa, qa⟩ := ha
  obtain ⟨tb, pb, qb⟩ := hb
  obtain ⟨tc, pc, qc⟩ := hc
  refine ⟨_, pt_chain hr hr' pa pb pc hm, fun G s ρ pz σ H Q R h => ?_⟩
  refine qa G s ρ pz σ H _ R (PostG.bnd h fun d s1 v H1 _ w1 e1 a1 h1 => ?_)
  have R1 := R.ext w1 e1
  refine qb G s1 ρ pz σ H1 _ R1 (PostG.bnd h1 fun d2 s2 v2 H2 _ w2 e2 a2 h2 => ?_)
  have R2 := R1.ext w2 e2
  refine sp _ H2 v v2 d d2 _ R2.trk ((a1.ext e2).w R2) (a2.w R2) (POut.of2 (W := W) R2 (PostG.bnd h2 fun k s3 k' H3 _ w3 e3 hk h3 => ?_))
  subst hk
  have R3 := R2.ext w3 e3
  cases k' with
  | false => exact ⟨false, rfl, h3 _ H3 R3.wd .refl rfl⟩
  | true =>
    refine qc G s3 ρ pz σ H3 _ R3 (PostG.bnd h3 fun d4 s4 v4 H4 _ w4 e4 a4 h4 => ?_)
    have R4 := R3.ext w4 e4
    exact sp' _ H4 v2 v4 d2 d4 _ R4.trk (((a2.ext e3).ext e4).w R4) (a4.w R4) (POut.of2 R4 h4)

/-! ### tests -/
def truthD : D → Option Bool
  | .none => some false
  | .bool c => some c
  | .int i => some (i != 0)
  | .str x => if x.length ≤ sizeLine then some ((x.length : Int) != 0) else none
  | .list xs => some (!xs.isEmpty)
  | .tuple xs => some (!xs.isEmpty)
  | .dict _ => none
theorem AtL.emp {K : KW} {bad : Addr → Prop} {H : Hp} {vs : List V} {ds : List D} (l : AtL K bad H vs ds) : vs.isEmpty = ds.isEmpty := by cases l <;> rfl
theorem tru_of {K : KW} {bad : Addr → Prop} {H : Hp} {v : V} {d : D} {k : Bool} (h : AtW K bad H v d) (e : truthD d = some k) : TruV K v H k := by
  unfold truthD at e
  split at e
  · cases e; rw [h.non]; exact rfl
  · cases e; rw [h.bl]; exact rfl
  · cases e; rw [h.int]; exact rfl
  · split at e
    · rename_i hl
      cases e; rw [h.str]; exact ⟨hl, rfl⟩
    · cases e
  · cases e
    obtain ⟨a, xs, rfl, q, l⟩ := h.lst
    exact .inl ⟨xs, SqL.of q, by rw [l.emp]⟩
  · cases e
    obtain ⟨a, xs, rfl, _, q, l⟩ := h.tup
    exact .inr (.inl ⟨xs, q, by rw [l.emp]⟩)
  · cases e
theorem dt_tru (ha : DX Ts b X W a fa) (he : ∀ whole, isTrue a X.env whole = (do let v ← whole; standAt a.pos; holding [v] (truthy v)) := by intro _; rfl) : DT Ts X W a (fun ρ => bnd (fa ρ) fun d => lift (truthD d)) := by
  obtain ⟨ta, pa, qa⟩ := ha
  refine ⟨_, pt_truth pa he, fun G s ρ pz σ H Q R h => ?_⟩
  refine qa G s ρ pz σ H _ R (PostG.bnd h fun d s1 v H1 _ w1 e1 a1 h1 => ?_)
  have R1 := R.ext w1 e1
  cases ht : truthD d with
  | none => rw [ht] at h1; exact h1.elim
  | some k => rw [ht] at h1; exact ⟨k, tru_of (a1.w R1) ht, h1 k H1 R1.wd .refl rfl⟩
variable {g1 g2 : Rho → M Bool} {rest : List Expr}
theorem dt_not (ha : DT Ts X W a g1) : DT Ts X W (.UnaryOp .Not a pos) (fun ρ => bnd (g1 ρ) fun c => ret (!c)) := by
  obtain ⟨ta, pa, qa⟩ := ha
  refine ⟨_, pt_not pa, fun G s ρ pz σ H Q R h => ?_⟩
  refine qa G s ρ pz σ H _ R (PostG.bnd h fun c s1 c' H1 _ w1 e1 hc h1 => ?_)
  subst hc
  exact h1 _ H1 w1 .refl rfl
theorem dt_pw (h : DTW Ts X W a g1) : DT Ts X W a g1 := by
  obtain ⟨t, p, q⟩ := h
  exact ⟨t, p.pt, q⟩
theorem dtw_and1 (ha : DT Ts X W a g1) : DTW Ts X W (.BoolOp .And [a] pos) g1 := by
  obtain ⟨t, p, q⟩ := ha
  exact ⟨t, pw_and1 p, q⟩
theorem dtw_or1 (ha : DT Ts X W a g1) : DTW Ts X W (.BoolOp .Or [a] pos) g1 := by
  obtain ⟨t, p, q⟩ := ha
  exact ⟨t, pw_or1 p, q⟩
theorem dtw_and (ha : DT Ts X W a g1) (hb : DTW Ts X W (.BoolOp .And (b' :: rest) pos) g2) : DTW Ts X W (.BoolOp .And (a :: b' :: rest) pos) (fun ρ => bnd (g1 ρ) fun c => if c = true then g2 ρ else ret false) := by
  obtain ⟨ta, pa, qa⟩ := ha
  obtain ⟨tb, pb, qb⟩ := hb
  refine ⟨_, pw_and pa pb, fun G s ρ pz σ H Q R h => ?_⟩
  refine qa G s ρ pz σ H _ R (PostG.bnd h fun c s1 c' H1 _ w1 e1 hc h1 => ?_)
  subst hc
  have R1 := R.ext w1 e1
  cases c' with
  | true => exact qb G s1 ρ pz σ H1 Q R1 h1
  | false => exact h1 _ H1 w1 .refl rfl
theorem dtw_or (ha : DT Ts X W a g1) (hb : DTW Ts X W (.BoolOp .Or (b' :: rest) pos) g2) : DTW Ts X W (.BoolOp .Or (a :: b' :: rest) pos) (fun ρ => bnd (g1 ρ) fun c => if c = true then ret true else g2 ρ) := by
  obtain ⟨ta, pa, qa⟩ := ha
  obtain ⟨tb, pb, qb⟩ := hb
  refine ⟨_, pw_or pa pb, fun G s ρ pz σ H Q R h => ?_⟩
  refine qa G s ρ pz σ H _ R (PostG.bnd h fun c s1 c' H1 _ w1 e1 hc h1 => ?_)
  subst hc
  have R1 := R.ext w1 e1
  cases c' with
  | true => exact h1 _ H1 w1 .refl rfl
  | false => exact qb G s1 ρ pz σ H1 Q R1 h1
/-- x if t else y -/
theorem dx_if (hc : DT Ts X W c g1) (ha : DX Ts b X W a fa) (hb : DX Ts b X W b' fb) : DX Ts b X W (.IfExp c a b' pos) (fun ρ => bnd (g1 ρ) fun k => if k = true then fa ρ else fb ρ) := by
  obtain ⟨tc, pc, qc⟩ := hc
  obtain ⟨ta, pa, qa⟩ := ha
  obtain ⟨tb, pb, qb⟩ := hb
  refine ⟨_, pe_ifExp pc pa pb, fun G s ρ pz σ H Q R h => ?_⟩
  refine qc G s ρ pz σ H _ R (PostG.bnd h fun c s1 c' H1 _ w1 e1 hc h1 => ?_)
  subst hc
  have R1 := R.ext w1 e1
  cases c' with
  | true => exact qa G s1 ρ pz σ H1 Q R1 h1
  | false => exact qb G s1 ρ pz σ H1 Q R1 h1
/-- and, or, not as values -/
theorem dx_one {op : BoolOp} (ha : DX Ts b X W a fa) : DX Ts b X W (.BoolOp op [a] pos) fa := by
  obtain ⟨t, p, q⟩ := ha
  exact ⟨t, pe_one p, q⟩
theorem AtB.toBl {K : KW} {G : Gh} {ρ : Rho} {pz : Nat → Addr} {H : Hp} {v : V} {c : Bool} (h : AtB b K G ρ pz H v (.bool c)) : v = .bl c := by
  cases b with
  | true => exact At.toBl h
  | false =>
    rcases h with h | ⟨_, _, _, z⟩
    · exact At.toBl h
    · cases z
theorem dx_and (ha : DX Ts b1 X W a fa) (hb : DX Ts b X W (.BoolOp .And (b' :: rest) pos) fb) : DX Ts b X W (.BoolOp .And (a :: b' :: rest) pos) (fun ρ => bnd (bnd (fa ρ) toB) fun c => if c = true then fb ρ else ret (.bool false)) := by
  obtain ⟨ta, pa, qa⟩ := ha
  obtain ⟨tb, pb, qb⟩ := hb
  refine ⟨_, L2.pe_and pa pb, fun G s ρ pz σ H Q R h => ?_⟩
  have h := h
  dsimp only at h
  rw [bnd_bnd] at h
  refine qa G s ρ pz σ H _ R (PostG.bnd h fun d s1 v H1 _ w1 e1 a1 h1 => ?_)
  have R1 := R.ext w1 e1
  cases d with
  | bool c =>
    refine ⟨c, a1.toBl, ?_⟩
    cases c with
    | true => exact qb G s1 ρ pz σ H1 Q R1 h1
    | false => exact h1 _ H1 w1 .refl (by cases b with | true => exact .bl false | false => exact .inl (.bl false))
  | _ => exact h1.elim
theorem dx_or (ha : DX Ts b1 X W a fa) (hb : DX Ts b X W (.BoolOp .Or (b' :: rest) pos) fb) : DX Ts b X W (.BoolOp .Or (a :: b' :: rest) pos) (fun ρ => bnd (bnd (fa ρ) toB) fun c => if c = true then ret (.bool true) else fb ρ) := by
  obtain ⟨ta, pa, qa⟩ := ha
  obtain ⟨tb, pb, qb⟩ := hb
  refine ⟨_, L2.pe_or pa pb, fun G s ρ pz σ H Q R h => ?_⟩
  have h := h
  dsimp only at h
  rw [bnd_bnd] at h
  refine qa G s ρ pz σ H _ R (PostG.bnd h fun d s1 v H1 _ w1 e1 a1 h1 => ?_)
  have R1 := R.ext w1 e1
  cases d with
  | bool c =>
    refine ⟨c, a1.toBl, ?_⟩
    cases c with
    | false => exact qb G s1 ρ pz σ H1 Q R1 h1
    | true => exact h1 _ H1 w1 .refl (by cases b with | true => exact .bl true | false => exact .inl (.bl true))
  | _ => exact h1.elim
theorem dx_notT (ha : DX Ts b1 X W a fa) : DX Ts true X W (.UnaryOp .Not a pos) (fun ρ => bnd (fa ρ) fun d => bnd (lift (truthD d)) fun c => ret (.bool (!c))) := by
  obtain ⟨ta, pa, qa⟩ := ha
  refine ⟨_, pe_notT pa, fun G s ρ pz σ H Q R h => ?_⟩
  refine qa G s ρ pz σ H _ R (PostG.bnd h fun d s1 v H1 _ w1 e1 a1 h1 => ?_)
  have R1 := R.ext w1 e1
  cases ht : truthD d with
  | none => rw [ht] at h1; exact h1.elim
  | some k => rw [ht] at h1; exact ⟨k, tru_of (a1.w R1) ht, h1 _ H1 R1.wd .refl (.bl _)⟩
theorem dx_neg (ha : DX Ts b1 X W a fa) : DX Ts true X W (.UnaryOp .USub a pos) (fun ρ => bnd (fa ρ) fun d => match d with | .int i => ret (.int (-i)) | _ => stk) := by
  obtain ⟨ta, pa, qa⟩ := ha
  refine ⟨_, pe_un un_neg pa, fun G s ρ pz σ H Q R h => ?_⟩
  refine qa G s ρ pz σ H _ R (PostG.bnd h fun d s1 v H1 _ w1 e1 a1 h1 => ?_)
  have R1 := R.ext w1 e1
  cases d with
  | int i => exact ⟨i, (a1.w R1).int, h1 _ H1 w1 .refl (.int _)⟩
  | _ => exact h1.elim
end
end DV

set_option Elab.async false
set_option linter.all false
set_option maxRecDepth 100000
set_option maxHeartbeats 2000000
/-! values as data: displays, subscripts, slices, built-ins -/
namespace DV
open PySem PySem.Spec PyProof.Rows L2

section
variable {Ts : List Addr} {X : Cx} {W : L2.WX} {e a b' c : Expr} {f fa fb fc : Rho → M D} {b b1 b2 : Bool} {pos : Pos} {es : List Expr} {fs : Rho → M (List D)}
/-! ### arguments -/
/-- so many -/
def LenIs (fs : Rho → M (List D)) (n : Nat) : Prop := ∀ ρ s ds s', fs ρ s = .ok ds s' → ds.length = n
theorem da_nil : DA Ts b X W [] (fun _ => ret []) := ⟨_, pa_nil, fun G s ρ pz σ H Q R h => h _ H R.wd .refl .nil⟩
theorem da_cons (ha : DX Ts b X W a fa) (hr : DA Ts b X W es fs) (hs : starEach (a :: es) X.env = (false, eval a X.env) :: starEach es X.env := by rfl) : DA Ts b X W (a :: es) (fun ρ => bnd (fa ρ) fun d => bnd (fs ρ) fun ds => ret (d :: ds)) := by
  obtain ⟨ta, pa, qa⟩ := ha
  obtain ⟨tr, pr, qr⟩ := hr
  refine ⟨_, pa_cons pa pr hs, fun G s ρ pz σ H Q R h => ?_⟩
  refine qa G s ρ pz σ H _ R (PostG.bnd h fun d s1 v H1 hm1 w1 e1 a1 h1 => ?_)
  have R1 := R.ext w1 e1
  refine qr G s1 ρ pz σ H1 _ R1 (PostG.bnd h1 fun ds s2 vs H2 hm2 w2 e2 a2 h2 => ?_)
  exact h2 _ H2 w2 .refl (.cons (a1.ext e2) a2)
theorem paired_atL {K : KW} {G : Gh} {ρ : Rho} {pz : Nat → Addr} {H : Hp} : ∀ {vs : List V} {ds : List D}, Paired (AtB true K G ρ pz H) vs ds → AtL K (badE G ρ pz) H vs ds
  | _, _, .nil => .nil
  | _, _, .cons h t => .cons h (paired_atL t)
theorem paired_w {K : KW} {G : Gh} {s : DS} {ρ : Rho} {pz : Nat → Addr} {σ : L2.St} {H : Hp} (R : Rel Ts K G s ρ pz σ H) : ∀ {vs : List V} {ds : List D}, Paired (AtB b K G ρ pz H) vs ds → Paired (AtW K (badE G ρ pz) H) vs ds
  | _, _, .nil => .nil
  | _, _, .cons h t => .cons (h.w R) (paired_w R t)
/-- (a, b, ..) and [a, b, ..] -/
def mkT (ds : List D) : M D := if ds.length ≤ 100000 then ret (.tuple ds) else stk
def mkL (ds : List D) : M D := if ds.length ≤ 100000 then ret (.list ds) else stk
theorem line5 {n : Nat} (h : n ≤ 100000) : n ≤ sizeLine := by rw [sizeLine_eq]; omega
theorem dx_tup {x1} (h : DA Ts true X W es fs) : DX Ts true X W (.Tuple es x1 pos) (fun ρ => bnd (fs ρ) mkT) := by
  obtain ⟨t, p, q⟩ := h
  refine ⟨_, pe_tupF p, fun G s ρ pz σ H Q R h => ?_⟩
  refine q G s ρ pz σ H _ R (PostG.bnd h fun ds s1 vs H1 hm1 w1 e1 a1 h1 => ?_)
  have R1 := R.ext w1 e1
  have l := paired_atL a1
  unfold mkT at h1
  split at h1
  · rename_i hz
    exact ⟨by rw [l.len]; exact line5 hz, fun p o hp ho => h1 _ _ (w1.new hp) (.new hp) (l.mkT hp ho)⟩
  · exact h1.elim
theorem dx_lst (h : DA Ts true X W es fs) : DX Ts true X W (.List es pos) (fun ρ => bnd (fs ρ) mkL) := by
  obtain ⟨t, p, q⟩ := h
  refine ⟨_, pe_lst p, fun G s ρ pz σ H Q R h => ?_⟩
  refine q G s ρ pz σ H _ R (PostG.bnd h fun ds s1 vs H1 hm1 w1 e1 a1 h1 => ?_)
  have R1 := R.ext w1 e1
  have l := paired_atL a1
  unfold mkL at h1
  split at h1
  · rename_i hz
    exact ⟨by rw [l.len]; exact line5 hz, fun p hp => h1 _ _ (w1.new hp) (.new hp) (l.mkL R1.trk hp)⟩
  · exact h1.elim

/-! ### subscripts -/
def dIx : D → D → Option D
  | .list ds, .int i => atI ds i
  | .tuple ds, .int i => atI ds i
  | .str z, .int i => if z.length ≤ sizeLine then (atI z.cps.toList i).map fun c => .str ⟨#[c]⟩ else none
  | _, _ => none
theorem atI_rel {K : KW} {bad : Addr → Prop} {H : Hp} {vs : List V} {ds : List D} {i : Int} {d : D} (l : AtL K bad H vs ds) (h : atI ds i = some d) : ∃ v, atI vs i = some v ∧ At K bad H v d := by
  unfold atI at h ⊢
  rw [l.len]
  cases hx : ixN ds.length i with
  | none => rw [hx] at h; cases h
  | some j =>
    rw [hx] at h
    exact l.get h
theorem dx_ix (ha : DX Ts b1 X W a fa) (hb : DX Ts b2 X W b' fb) (hs : PlainIx b' := by exact fun _ _ => rfl) : DX Ts true X W (.Subscript a b' pos) (fun ρ => bnd (fa ρ) fun d => bnd (fb ρ) fun e => lift (dIx d e)) := by
  obtain ⟨ta, pa, qa⟩ := ha
  obtain ⟨tb, pb, qb⟩ := hb
  refine ⟨_, pe_ix ix_seq pa pb hs, fun G s ρ pz σ H Q R h => ?_⟩
  refine qa G s ρ pz σ H _ R (PostG.bnd h fun d s1 v H1 hm1 w1 e1 a1 h1 => ?_)
  have R1 := R.ext w1 e1
  refine qb G s1 ρ pz σ H1 _ R1 (PostG.bnd h1 fun d2 s2 v2 H2 hm2 w2 e2 a2 h2 => ?_)
  have R2 := R1.ext w2 e2
  have q := POut.of R2 h2
  have x1 := (a1.ext e2).w R2
  have x2 := a2.w R2
  unfold dIx at q
  split at q
  · rename_i ds i
    cases hd : atI ds i with
    | none => rw [hd] at q; exact q.elim
    | some d =>
      rw [hd] at q
      obtain ⟨p, vs, rfl, ho, l⟩ := x1.lst
      obtain ⟨v, e3, a3⟩ := atI_rel l hd
      exact .inl ⟨p, vs, i, v, rfl, x2.int, SqL.of ho, e3, q.here a3⟩
  · rename_i ds i
    cases hd : atI ds i with
    | none => rw [hd] at q; exact q.elim
    | some d =>
      rw [hd] at q
      obtain ⟨p, vs, rfl, _, ho, l⟩ := x1.tup
      obtain ⟨v, e3, a3⟩ := atI_rel l hd
      exact .inr (.inl ⟨p, vs, i, v, rfl, x2.int, ho, e3, q.here a3⟩)
  · rename_i z i
    split at q
    · rename_i hz
      cases hd : atI z.cps.toList i with
      | none => rw [hd] at q; exact q.elim
      | some c =>
        rw [hd] at q
        exact .inr (.inr ⟨z, i, c, x1.str, x2.int, hz, hd, q.here (.str _)⟩)
    · exact q.elim
  · exact q.elim

/-! ### slices -/
def DO (Ts : List Addr) (X : Cx) (W : L2.WX) (e : Option Expr) (f : Rho → M (Option Int)) : Prop := ∃ t, PO X e t ∧ ∀ (G : Gh) (s : DS) (ρ : Rho) (pz : Nat → Addr) (σ : L2.St) (H : Hp) (Q : Option Int → Hp → Prop), Rel Ts X.KW G s ρ pz σ H →
  PostG X W G σ H (fun _ c d => c = d) (f ρ s) Q → t σ H Q
theorem do_none : DO Ts X W none (fun _ => ret none) := ⟨_, po_none, fun G s ρ pz σ H Q R h => h _ H R.wd .refl rfl⟩
def toI (d : D) : M Int := match d with
  | .int i => ret i
  | _ => stk
theorem do_some (ha : DX Ts b X W a fa) : DO Ts X W (some a) (fun ρ => bnd (fa ρ) fun d => bnd (toI d) fun i => ret (some i)) := by
  obtain ⟨ta, pa, qa⟩ := ha
  refine ⟨_, po_some pa, fun G s ρ pz σ H Q R h => ?_⟩
  refine qa G s ρ pz σ H _ R (PostG.bnd h fun d s1 v H1 hm1 w1 e1 a1 h1 => ?_)
  have R1 := R.ext w1 e1
  cases d with
  | int i => exact ⟨i, (a1.w R1).int, h1 _ H1 w1 .refl rfl⟩
  | _ => exact h1.elim
def cutD (xs : List D) (lo hi : Option Int) : List D := (xs.drop (HT.sIx xs.length 0 lo)).take (HT.sIx xs.length xs.length hi - HT.sIx xs.length 0 lo)
def dCut (d : D) (lo hi : Option Int) : Option D := match d with
  | .list ds => some (.list (cutD ds lo hi))
  | .tuple ds => some (.tuple (cutD ds lo hi))
  | _ => none
theorem cut_rel {K : KW} {bad : Addr → Prop} {H : Hp} {vs : List V} {ds : List D} (lo hi : Option Int) (l : AtL K bad H vs ds) : AtL K bad H (cutV vs lo hi) (cutD ds lo hi) := by
  unfold cutV cutD
  rw [l.len]
  exact (l.drop _).take _
variable {lo hi : Option Expr} {fl fh : Rho → M (Option Int)} {p2 : Pos}
theorem dx_cut (ha : DX Ts b X W a fa) (hl : DO Ts X W lo fl) (hh : DO Ts X W hi fh) : DX Ts true X W (.Subscript a (.Slice lo hi none p2) pos) (fun ρ => bnd (fa ρ) fun d => bnd (fl ρ) fun i => bnd (fh ρ) fun j => lift (dCut d i j)) := by
  obtain ⟨ta, pa, qa⟩ := ha
  obtain ⟨tl, pl, ql⟩ := hl
  obtain ⟨th, ph, qh⟩ := hh
  refine ⟨_, pe_slice (sl_tupF.or sl_list) pa pl ph, fun G s ρ pz σ H Q R h => ?_⟩
  refine qa G s ρ pz σ H _ R (PostG.bnd h fun d s1 v H1 hm1 w1 e1 a1 h1 => ?_)
  have R1 := R.ext w1 e1
  refine ql G s1 ρ pz σ H1 _ R1 (PostG.bnd h1 fun i s2 i' H2 hm2 w2 e2 a2 h2 => ?_)
  subst a2
  have R2 := R1.ext w2 e2
  refine qh G s2 ρ pz σ H2 _ R2 (PostG.bnd h2 fun j s3 j' H3 hm3 w3 e3 a3 h3 => ?_)
  subst a3
  have R3 := R2.ext w3 e3
  have q := POut.of R3 h3
  have x1 := ((a1.ext e2).ext e3).w R3
  unfold dCut at q
  split at q
  · obtain ⟨p, vs, rfl, ho, l⟩ := x1.lst
    exact .inr ⟨p, vs, rfl, SqL.of ho, q.newL R3.trk (cut_rel _ _ l)⟩
  · rename_i ds
    obtain ⟨p, vs, rfl, nn, ho, l⟩ := x1.tup
    refine .inl ⟨p, vs, rfl, ho, fun z => ?_, fun _ => q.newT (cut_rel _ _ l)⟩
    have e4 : cutD ds i' j' = ds := by
      unfold cutD
      rw [← l.len, z.1, z.2, List.drop_zero, List.take_of_length_le (by rw [l.len]; exact Nat.le_refl _)]
    rw [e4] at q
    exact q.here (.tup nn l)
  · exact q.elim
end

/-! ### t[::-1] -/
namespace Rv
section
variable {prog : Program} {w : World} {A : Around} {E : Value → Shared → Prop} {s : Shared}
theorem adj (n : Nat) : Builtin.Slice.sliceAdjust none none (-1) (n : Int) = ((n : Int) - 1, -1) := rfl
theorem places (n : Nat) : Builtin.Slice.slicePlaces ((n : Int) - 1) (-1) (-1) = n := by
  unfold Builtin.Slice.slicePlaces
  rw [if_neg (by decide)]
  split
  · have e : ((n : Int) - 1 - -1 - 1) / (- -1) + 1 = (n : Int) := by
      rw [show (- -1 : Int) = 1 by decide, Int.ediv_one]
      omega
    rw [e]
    omega
  · have : n = 0 := by omega
    subst this
    rfl
theorem pick (xs : Array Value) : ((List.range xs.size).filterMap fun (m : Nat) => xs[(((xs.size : Int) - 1) + (m : Int) * (-1)).toNat]?).toArray = xs.toList.reverse.toArray := by
  congr 1
  apply List.ext_getElem?
  intro k
  have hall : ∀ (l : List Nat), (∀ m ∈ l, m < xs.size) → (l.filterMap fun (m : Nat) => xs[(((xs.size : Int) - 1) + (m : Int) * (-1)).toNat]?) = l.filterMap fun m => xs.toList.reverse[m]? := by
    intro l hl
    induction l with
    | nil => rfl
    | cons m r ih =>
      have hm := hl m List.mem_cons_self
      have e : (((xs.size : Int) - 1) + (m : Int) * (-1)).toNat = xs.size - 1 - m := by omega
      have e2 : xs[xs.size - 1 - m]? = xs.toList.reverse[m]? := by
        rw [List.getElem?_reverse (by simpa using hm), Array.length_toList, Array.getElem?_toList]
      rw [List.filterMap_cons, List.filterMap_cons, e, e2, ih fun k hk => hl k (List.mem_cons_of_mem _ hk)]
  rw [hall _ fun m hm => List.mem_range.mp hm]
  have e3 : ∀ (ys : List Value), (List.range ys.length).filterMap (fun m => ys[m]?) = ys := by
    intro ys
    induction ys with
    | nil => rfl
    | cons y ys ih =>
      rw [List.length_cons, List.range_succ_eq_map, List.filterMap_cons, List.filterMap_map]
      show y :: _ = _
      congr 1
  have e4 := e3 xs.toList.reverse
  rw [List.length_reverse, Array.length_toList] at e4
  rw [e4]
theorem getItem_rev {t sl : Addr} {items : Array Value} {vs : Value} {Q : Value → Shared → Prop} (ht : IsTup s.heap t items) (hs : s.heap.IsSliceOf sl .none .none vs) (ps : IsPart vs (some (-1)))
    (h : Q (.ref s.heap.objs.size) { s with heap := s.heap.push { cls := .type "tuple", data := .seq items.toList.reverse.toArray } }) (hsz : items.size ≤ sizeLine) : wpAny (model prog w) A (getItem (.ref t) (.ref sl)) Q E s := by
  obtain ⟨os, hos, hcs, hds⟩ := id hs
  have isS : s.TypeIs (.ref sl) "slice" := ⟨os, hos, hcs⟩
  have fits : sizeOk (.seq items.toList.reverse.toArray) := by
    show items.toList.reverse.toArray.size ≤ sizeLine
    rw [List.size_toArray, List.length_reverse, Array.length_toList]
    exact hsz
  unfold getItem
  try with_reducible refine wpAny_holding ?_
  first | refine wpAny_bind (wpAny_pure ?_) | skip
  refine wpAny_bind (wpAny_sequenceKey ht.typeIs (by decide) ?_)
  refine wpAny_bind (wpAny_callSpecial?_slot (name := Str.ofString "__getitem__") ht.typeIs PyProof.Rows.slot_tuple_getitem (wpAny_call_entry PyProof.Rows.slot_tuple_getitem ht.typeIs entry_tuple_getitem ?_ (args_tuple_getitem _ _)))
  show wpAny _ _ (Builtin.Tuple.tupleItemsOf (.ref t) >>= _) _ _ s
  refine wpAny_bind (tupleItemsOf_ ht ?_)
  refine wpAny_bind (wpAny_typeOf isS ?_)
  rw [if_pos (by decide)]
  have ap : ∀ {Q : Int × Int × Nat → Shared → Prop} {E : Value → Shared → Prop} {A : Around}, Q ((items.size : Int) - 1, -1, items.size) s → wpAny (model prog w) A (Builtin.Slice.sliceApplied (.ref sl) (pure (items.size : Int))) Q E s := fun {Q E A} q => by
    unfold Builtin.Slice.sliceApplied Builtin.Slice.sliceFields
    refine wpAny_bind (wpAny_bind (wpAny_field hos hds (x := .none) rfl (wpAny_bind (wpAny_field hos hds (x := .none) rfl (wpAny_bind (wpAny_field hos hds (x := vs) rfl (wpAny_pure ?_)))))))
    refine wpAny_bind (HT.slicePart_ ps ?_)
    show wpAny _ _ (if ((-1 : Int) == 0) = true then _ else _) _ _ s
    rw [if_neg (by decide)]
    refine wpAny_bind (HT.slicePart_ .none (wpAny_bind (HT.slicePart_ .none (wpAny_bind (wpAny_pure ?_)))))
    show wpAny _ _ (pure ((items.size : Int) - 1, (-1 : Int), Builtin.Slice.slicePlaces ((items.size : Int) - 1) (-1) (-1))) _ _ s
    rw [places]
    exact wpAny_pure q
  refine wpAny_bind (ap ?_)
  have hno : ¬ ((((items.size : Int) - 1) == 0 && (-1 : Int) == 1 && items.size == items.size) = true) := by
    intro q
    rw [Bool.and_eq_true, Bool.and_eq_true] at q
    exact absurd q.1.2 (by decide)
  show wpAny _ _ (if (((items.size : Int) - 1) == 0 && (-1 : Int) == 1 && items.size == items.size) = true then _ else _) _ _ s
  rw [if_neg hno, pick]
  first
    | exact wpAny_bind (m := Builtin.Tuple.tupleExact _) (wpAny_newObj_type (wpAny_pure ⟨_, rfl, wpAny_pure h⟩) fits)
    | exact wpAny_bind (m := Builtin.Tuple.tupleExact _) (wpAny_newObj_type (wpAny_bind (wpAny_pure (wpAny_pure ⟨_, rfl, wpAny_pure h⟩))) fits)
    | exact wpAny_bind (wpAny_bind (m := Builtin.Tuple.tupleExact _) (wpAny_newObj_type (wpAny_pure (wpAny_pure ⟨_, rfl, wpAny_pure h⟩)) fits))
    | exact wpAny_bind (wpAny_bind (m := Builtin.Tuple.tupleExact _) (wpAny_newObj_type (wpAny_pure ⟨_, rfl, wpAny_pure h⟩) fits))
end
end Rv
end DV

set_option Elab.async false
set_option linter.all false
set_option maxRecDepth 100000
set_option maxHeartbeats 2000000
/-! values as data: reversed slices, membership, built-ins -/
namespace DV
open PySem PySem.Spec PyProof.Rows L2

section
variable {Ts : List Addr} {X : Cx} {W : L2.WX} {e a b' c : Expr} {f fa fb fc : Rho → M D} {b b1 b2 : Bool} {pos : Pos} {es : List Expr} {fs : Rho → M (List D)}
def dRev : D → Option D
  | .list ds => some (.list ds.reverse)
  | .tuple ds => some (.tuple ds.reverse)
  | _ => none
def tRevA (K : PySem.W.Frag) (te : TE) : TE := fun σ H Q => te σ H fun x H1 => (∃ a xs, x = .ref a ∧ SqL K H1 a xs ∧ ∀ p, H1 p = none → Q (.ref p) (upd H1 p (.lst xs.reverse))) ∨ ∃ a xs, x = .ref a ∧ SqT K H1 a xs ∧ NewT H1 xs.reverse Q
theorem pe_revA {te : TE} {k : Nat} {p1 p2 p3 : Pos} (he : PE X e te) : PE X (.Subscript e (.Slice none none (some (.UnaryOp .USub (.Constant (.int 1) k p1) p2)) p3) pos) (tRevA X.K te) := by
  refine ⟨fun pins s σ H Q I h => ?_⟩
  refine Subscript_ (thn (he.run pins s σ H _ I h) fun v s1 ⟨x, H1, I1, r1, q1⟩ => ?_)
  have hst : PO X (some (.UnaryOp .USub (.Constant (.int 1) k p1) p2)) (tPart (tUn (rU fun i => .int (-i)) (tC (.int 1)))) := po_some (pe_un un_neg pe_int)
  refine wpAny_Slice (thn (po_none.run pins s1 σ H1 (fun o H2 => o = none ∧ H2 = H1) I1 ⟨rfl, rfl⟩) fun vl s2 ⟨l, H2, I2, pl, el, e2⟩ => ?_)
  subst el e2
  refine thn (po_none.run pins s2 σ H2 (fun o H3 => o = none ∧ H3 = H2) I2 ⟨rfl, rfl⟩) fun vu s3 ⟨u, H3, I3, pu, eu, e3⟩ => ?_
  subst eu e3
  refine thn (hst.run pins s3 σ H3 (fun o H4 => o = some (-1) ∧ H4 = H3) I3 ⟨1, rfl, -1, rfl, rfl, rfl⟩) fun vs s4 ⟨o, H4, I4, ps, eo, e4⟩ => ?_
  subst eo e4
  have I5 : Inv X pins σ H4 { s4 with heap := s4.heap.push { cls := .type "slice", data := .fields #[vl, vu, vs] } } := I4.kept (t' := s4.toks) fun b ob q => Heap.get?_push_of_some _ q
  rcases q1 with ⟨a, xs, ex, hx, q⟩ | ⟨a, xs, ex, hx, q⟩
  · subst ex
    cases r1
    obtain ⟨its, r, ht, hz⟩ := I5.list hx
    have hlen := r.length
    show wpAny (model X.prog X.w) X.A (subscriptTail e (.Slice none none (some (.UnaryOp .USub (.Constant (.int 1) k p1) p2)) p3) (.ref a) (.ref s4.heap.objs.size)) (EP X pins σ Q) X.xe { s4 with heap := s4.heap.push { cls := .type "slice", data := .fields #[vl, vu, vs] } }
    refine tail_any (ops := [.ref a, .ref s4.heap.objs.size]) ht.isList.typeIs (PySem.slot_list_getitem.lookup) ?_ (by with_unfolding_all rfl)
    refine wpAny_getItem_list_slice ht.isList (Heap.IsSliceOf.new _ vl vu vs) pl pu ps (by decide) ?_ (by rw [List.size_toArray]; omega)
    rw [PySem.W.krv_pick]
    refine ⟨.ref _, _, I5.laid (t' := s4.toks) (o := .lst xs.reverse) (fun b ob q => Heap.get?_push_of_some _ q) (Nat.le_refl _) ?_, rfl, q _ (I5.hok.fresh (Nat.le_refl _))⟩
    exact ⟨by rw [List.length_reverse]; exact hz, _, 0, r.reverse, Heap.get?_push_size _ rfl⟩
  · subst ex
    cases r1
    obtain ⟨its, r, ht, hz⟩ := I5.tuple hx
    have hlen := r.length
    cases pl
    cases pu
    show wpAny (model X.prog X.w) X.A (subscriptTail e (.Slice none none (some (.UnaryOp .USub (.Constant (.int 1) k p1) p2)) p3) (.ref a) (.ref s4.heap.objs.size)) (EP X pins σ Q) X.xe { s4 with heap := s4.heap.push { cls := .type "slice", data := .fields #[.none, .none, vs] } }
    refine tail_any (ops := [.ref a, .ref s4.heap.objs.size]) ht.typeIs (PyProof.Rows.slot_tuple_getitem.lookup) ?_ (by with_unfolding_all rfl)
    refine Rv.getItem_rev ht (Heap.IsSliceOf.new _ .none .none vs) ps ?_ (by rw [List.size_toArray]; omega)
    obtain ⟨x, H2, I6, r6, q6⟩ := laidT0 I5 r.reverse (by rw [List.length_reverse]; exact hz) q
    exact ⟨x, H2, I6, r6, q6⟩
theorem dx_rev {k : Nat} {p1 p2 p3 : Pos} (ha : DX Ts b X W a fa) : DX Ts true X W (.Subscript a (.Slice none none (some (.UnaryOp .USub (.Constant (.int 1) k p1) p2)) p3) pos) (fun ρ => bnd (fa ρ) fun d => lift (dRev d)) := by
  obtain ⟨ta, pa, qa⟩ := ha
  refine ⟨_, pe_revA pa, fun G s ρ pz σ H Q R h => ?_⟩
  refine qa G s ρ pz σ H _ R (PostG.bnd h fun d s1 v H1 hm1 w1 e1 a1 h1 => ?_)
  have R1 := R.ext w1 e1
  have q := POut.of R1 h1
  have x1 := a1.w R1
  unfold dRev at q
  split at q
  · obtain ⟨p, vs, rfl, ho, l⟩ := x1.lst
    exact .inl ⟨p, vs, rfl, SqL.of ho, q.newL R1.trk l.rev⟩
  · obtain ⟨p, vs, rfl, _, ho, l⟩ := x1.tup
    exact .inr ⟨p, vs, rfl, ho, q.newT l.rev⟩
  · exact q.elim

/-! ### in, not in -/
theorem str_one {x : Str} {c : Nat} (h : x.cps.toList = [c]) : x = ⟨#[c]⟩ := by
  obtain ⟨a⟩ := x
  congr 1
  apply Array.toList_inj.mp
  simpa using h
noncomputable def dIn (d e : D) : Option D := match e with
  | .list ds => iteP (SeqAt.shaped d = true ∧ SeqAt.shaped (.list ds) = true) (some (.bool (ds.any fun z => PyData.eqv z d))) none
  | .tuple ds => iteP (SeqAt.shaped d = true ∧ SeqAt.shaped (.tuple ds) = true) (some (.bool (ds.any fun z => PyData.eqv z d))) none
  | .str z => (match d with
    | .str x => (match x.cps.toList with
      | [c] => some (.bool (decide (c ∈ z.cps.toList)))
      | _ => none)
    | _ => none)
  | _ => none
noncomputable def dNotIn (d e : D) : Option D := match e with
  | .list ds => iteP (SeqAt.shaped d = true ∧ SeqAt.shaped (.list ds) = true) (some (.bool (!ds.any fun z => PyData.eqv z d))) none
  | .tuple ds => iteP (SeqAt.shaped d = true ∧ SeqAt.shaped (.tuple ds) = true) (some (.bool (!ds.any fun z => PyData.eqv z d))) none
  | .str z => (match d with
    | .str x => (match x.cps.toList with
      | [c] => some (.bool (!decide (c ∈ z.cps.toList)))
      | _ => none)
    | _ => none)
  | _ => none
def rInT (K : PySem.W.Frag) : R2 := fun x y H Q => ∃ d ds, Dp K H x d ∧ Dp K H y (.tuple ds) ∧ PySem.SeqAt.shaped d = true ∧ PySem.SeqAt.shaped (.tuple ds) = true ∧ Q (.bl (ds.any fun z => PyData.eqv z d)) H
def rNotInT (K : PySem.W.Frag) : R2 := fun x y H Q => ∃ d ds, Dp K H x d ∧ Dp K H y (.tuple ds) ∧ PySem.SeqAt.shaped d = true ∧ PySem.SeqAt.shaped (.tuple ds) = true ∧ Q (.bl (!ds.any fun z => PyData.eqv z d)) H
theorem op_inT (hu : X.A.units + 65 < cLine) : OpR X (compareOp .In) (rInT X.K) := by
  intro pins s σ H x y v u Q I rx ry h
  obtain ⟨d, ds, hd, he, sd, se, q⟩ := h
  obtain ⟨as, r1⟩ := Dp.reads I d x v hd rx
  obtain ⟨bs, r2⟩ := Dp.reads I (.tuple ds) y u he ry
  have room : X.A.units + 1 + min (PyData.depthAll ds) d.depth < cLine := by have h1 := SeqAt.depth_of_shaped sd; omega
  exact SeqAt.in_tuple_reads r2 r1 (SeqAt.canLay_of_shaped se) (SeqAt.canLay_of_shaped sd) room ⟨.bl _, H, I, rfl, q⟩
theorem op_notInT (hu : X.A.units + 65 < cLine) : OpR X (compareOp .NotIn) (rNotInT X.K) := by
  intro pins s σ H x y v u Q I rx ry h
  obtain ⟨d, ds, hd, he, sd, se, q⟩ := h
  obtain ⟨as, r1⟩ := Dp.reads I d x v hd rx
  obtain ⟨bs, r2⟩ := Dp.reads I (.tuple ds) y u he ry
  have room : X.A.units + 1 + min (PyData.depthAll ds) d.depth < cLine := by have h1 := SeqAt.depth_of_shaped sd; omega
  exact SeqAt.notIn_tuple_reads r2 r1 (SeqAt.canLay_of_shaped se) (SeqAt.canLay_of_shaped sd) room ⟨.bl _, H, I, rfl, q⟩
theorem od_in (hu : X.A.units + 65 < cLine) : OpD X (compareOp .In) dIn := by
  refine ⟨_, (op_inD hu).or ((op_inT hu).or op_inS), fun bad H x y d e Q t hx hy q => ?_⟩
  unfold dIn at q
  split at q
  · obtain ⟨⟨h1, h2⟩, q⟩ := q.ite
    exact .inl ⟨d, _, hx.dp h1, hy.dp h2, shaped_kit h1, shaped_kit h2, q.here (.bl _)⟩
  · obtain ⟨⟨h1, h2⟩, q⟩ := q.ite
    exact .inr (.inl ⟨d, _, hx.dp h1, hy.dp h2, shaped_kit h1, shaped_kit h2, q.here (.bl _)⟩)
  · split at q
    · split at q
      · rename_i y0 l0 c hc
        have ex := str_one hc
        subst ex
        exact .inr (.inr ⟨_, _, hx.str, hy.str, q.here (.bl _)⟩)
      · exact q.elim
    · exact q.elim
  · exact q.elim
theorem od_notin (hu : X.A.units + 65 < cLine) : OpD X (compareOp .NotIn) dNotIn := by
  refine ⟨_, (op_notInD hu).or ((op_notInT hu).or op_notInS), fun bad H x y d e Q t hx hy q => ?_⟩
  unfold dNotIn at q
  split at q
  · obtain ⟨⟨h1, h2⟩, q⟩ := q.ite
    exact .inl ⟨d, _, hx.dp h1, hy.dp h2, shaped_kit h1, shaped_kit h2, q.here (.bl _)⟩
  · obtain ⟨⟨h1, h2⟩, q⟩ := q.ite
    exact .inr (.inl ⟨d, _, hx.dp h1, hy.dp h2, shaped_kit h1, shaped_kit h2, q.here (.bl _)⟩)
  · split at q
    · split at q
      · rename_i y0 l0 c hc
        have ex := str_one hc
        subst ex
        exact .inr (.inr ⟨_, _, hx.str, hy.str, q.here (.bl _)⟩)
      · exact q.elim
    · exact q.elim
  · exact q.elim

/-! ### built-ins, by value -/
def CallD (X : Cx) (f : Value) (fo : List D → Option D) : Prop := ∃ r, CallR X f r ∧ ∀ (bad : Addr → Prop) (H : Hp) (xs : List V) (ds : List D) (Q : VK), Trk bad H → Paired (AtW X.KW bad H) xs ds → POut X.KW bad H (fo ds) Q → r xs H Q
theorem dx_callB {fo : List D → Option D} {id : String} {x : Str} {p : Pos} (hc : CallD X (.builtin id) fo) (hg : Gl X x) (hm : X.mg x = none) (hv : bootBuiltins x = some (.builtin id)) (ha : DA Ts b X W (a :: es) fs) (hn : x ≠ "__name__" := by decide) (hdb : (x == ("__debug__" : Str)) = false := by decide)
    (he : starEach (a :: es) X.env = (false, eval a X.env) :: starEach es X.env := by rfl) (hpl : (backTo pos (starEach es X.env)).any (·.1) = false := by rfl) : DX Ts true X W (.Call (.Name x p) (a :: es) [] pos) (fun ρ => bnd (fs ρ) fun ds => lift (fo ds)) := by
  obtain ⟨r, hr, sp⟩ := hc
  obtain ⟨t, pt, qt⟩ := ha
  refine ⟨_, pe_callB hr hg hm hv pt hn hdb he hpl, fun G s ρ pz σ H Q R h => ?_⟩
  refine qt G s ρ pz σ H _ R (PostG.bnd h fun ds s1 vs H1 hm1 w1 e1 a1 h1 => ?_)
  have R1 := R.ext w1 e1
  exact sp _ H1 vs ds Q R1.trk (paired_w R1 a1) (POut.of R1 h1)
theorem dx_callT {fo : List D → Option D} {T : String} {x : Str} {p : Pos} (hc : CallD X (.type T) fo) (hg : Gl X x) (hm : X.mg x = none) (hv : bootBuiltins x = some (.type T)) (ha : DA Ts b X W (a :: es) fs) (hn : x ≠ "__name__" := by decide) (hdb : (x == ("__debug__" : Str)) = false := by decide)
    (he : starEach (a :: es) X.env = (false, eval a X.env) :: starEach es X.env := by rfl) (hpl : (backTo pos (starEach es X.env)).any (·.1) = false := by rfl) : DX Ts true X W (.Call (.Name x p) (a :: es) [] pos) (fun ρ => bnd (fs ρ) fun ds => lift (fo ds)) := by
  obtain ⟨r, hr, sp⟩ := hc
  obtain ⟨t, pt, qt⟩ := ha
  refine ⟨_, pe_callTy hr hg hm hv pt hn hdb he hpl, fun G s ρ pz σ H Q R h => ?_⟩
  refine qt G s ρ pz σ H _ R (PostG.bnd h fun ds s1 vs H1 hm1 w1 e1 a1 h1 => ?_)
  have R1 := R.ext w1 e1
  exact sp _ H1 vs ds Q R1.trk (paired_w R1 a1) (POut.of R1 h1)
def dLen : List D → Option D
  | [.list ds] => some (.int ds.length)
  | [.tuple ds] => some (.int ds.length)
  | [.str z] => if z.length ≤ sizeLine then some (.int z.length) else none
  | _ => none
theorem cd_len : CallD X (.builtin "len") dLen := by
  refine ⟨_, call_len_seq.or call_len_str, fun bad H xs ds Q t hp q => ?_⟩
  unfold dLen at q
  split at q
  · obtain _ | ⟨h, ⟨⟩⟩ := hp
    obtain ⟨p, vs, rfl, ho, l⟩ := h.lst
    exact .inl ⟨p, vs, rfl, .inl (SqL.of ho), by rw [l.len]; exact q.here (.int _)⟩
  · obtain _ | ⟨h, ⟨⟩⟩ := hp
    obtain ⟨p, vs, rfl, _, ho, l⟩ := h.tup
    exact .inl ⟨p, vs, rfl, .inr ho, by rw [l.len]; exact q.here (.int _)⟩
  · split at q
    · rename_i hz
      obtain _ | ⟨h, ⟨⟩⟩ := hp
      exact .inr ⟨_, by rw [h.str], hz, q.here (.int _)⟩
    · exact q.elim
  · exact q.elim
def dAbs : List D → Option D
  | [.int i] => some (.int (if i < 0 then -i else i))
  | _ => none
theorem cd_abs : CallD X (.builtin "abs") dAbs := by
  refine ⟨_, call_abs, fun bad H xs ds Q t hp q => ?_⟩
  unfold dAbs at q
  split at q
  · obtain _ | ⟨h, ⟨⟩⟩ := hp
    exact ⟨_, by rw [h.int], q.here (.int _)⟩
  · exact q.elim
def dInt : List D → Option D
  | [.int i] => some (.int i)
  | [.bool c] => some (.int (if c then 1 else 0))
  | _ => none
theorem cd_int : CallD X (.type "int") dInt := by
  refine ⟨_, call_int1, fun bad H xs ds Q t hp q => ?_⟩
  unfold dInt at q
  split at q
  · obtain _ | ⟨h, ⟨⟩⟩ := hp
    exact .inl ⟨_, by rw [h.int], q.here (.int _)⟩
  · obtain _ | ⟨h, ⟨⟩⟩ := hp
    exact .inr ⟨_, by rw [h.bl], q.here (.int _)⟩
  · exact q.elim
def dTuple : List D → Option D
  | [.list ds] => some (.tuple ds)
  | [.tuple ds] => some (.tuple ds)
  | _ => none
theorem cd_tuple : CallD X (.type "tuple") dTuple := by
  refine ⟨_, call_tupF, fun bad H xs ds Q t hp q => ?_⟩
  unfold dTuple at q
  split at q
  · obtain _ | ⟨h, ⟨⟩⟩ := hp
    obtain ⟨p, vs, rfl, ho, l⟩ := h.lst
    exact ⟨p, vs, rfl, .inl ⟨SqL.of ho, q.newT l⟩⟩
  · obtain _ | ⟨h, ⟨⟩⟩ := hp
    obtain ⟨p, vs, rfl, nn, ho, l⟩ := h.tup
    exact ⟨p, vs, rfl, .inr ⟨ho, q.here (.tup nn l)⟩⟩
  · exact q.elim
def dList : List D → Option D
  | [.list ds] => some (.list ds)
  | [.tuple ds] => some (.list ds)
  | _ => none
theorem cd_list : CallD X (.type "list") dList := by
  refine ⟨_, call_list_of, fun bad H xs ds Q t hp q => ?_⟩
  unfold dList at q
  split at q
  · obtain _ | ⟨h, ⟨⟩⟩ := hp
    obtain ⟨p, vs, rfl, ho, l⟩ := h.lst
    exact ⟨p, vs, rfl, .inl (SqL.of ho), q.newL t l⟩
  · obtain _ | ⟨h, ⟨⟩⟩ := hp
    obtain ⟨p, vs, rfl, _, ho, l⟩ := h.tup
    exact ⟨p, vs, rfl, .inr ho, q.newL t l⟩
  · exact q.elim
def dSum : List D → Option D
  | [.list ds] => match intsOf ds with
    | some ns => some (.int ns.sum)
    | none => none
  | _ => none
theorem cd_sum (hc : X.calm = true) : CallD X (.builtin "sum") dSum := by
  refine ⟨_, cr_sum hc, fun bad H xs ds Q t hp q => ?_⟩
  unfold dSum at q
  split at q
  · split at q
    · rename_i ns hn
      rw [intsOf_eq hn] at hp
      obtain _ | ⟨h, ⟨⟩⟩ := hp
      obtain ⟨p, vs, rfl, ho, l⟩ := h.lst
      rw [l.ints] at ho
      exact ⟨p, ns, rfl, SqL.of ho, q.here (.int _)⟩
    · exact q.elim
  · exact q.elim
/-- the least, the greatest -/
def minL : List Int → Int
  | [] => 0
  | [i] => i
  | i :: r => min i (minL r)
def maxL : List Int → Int
  | [] => 0
  | [i] => i
  | i :: r => max i (maxL r)
theorem minL_ge : ∀ {l : List Int} {m : Int}, m ∈ l → (∀ y ∈ l, m ≤ y) → minL l = m
  | [], _, h, _ => nomatch h
  | [i], m, h, _ => by rw [List.mem_singleton.mp h]; rfl
  | i :: j :: r, m, h, hl => by
    show min i (minL (j :: r)) = m
    have hi := hl i List.mem_cons_self
    rcases List.mem_cons.mp h with e | e
    · subst e
      have hb : ∀ (l : List Int), l ≠ [] → (∀ y ∈ l, m ≤ y) → m ≤ minL l := by
        intro l
        induction l with
        | nil => intro h; exact absurd rfl h
        | cons a t ih =>
          intro _ ha
          cases t with
          | nil => exact ha a List.mem_cons_self
          | cons b t =>
            show m ≤ min a (minL (b :: t))
            have h1 := ih (by simp) fun y hy => ha y (List.mem_cons_of_mem _ hy)
            have h2 := ha a List.mem_cons_self
            omega
      have := hb (j :: r) (by simp) fun y hy => hl y (List.mem_cons_of_mem _ hy)
      omega
    · rw [minL_ge e fun y hy => hl y (List.mem_cons_of_mem _ hy)]
      omega
theorem maxL_le : ∀ {l : List Int} {m : Int}, m ∈ l → (∀ y ∈ l, y ≤ m) → maxL l = m
  | [], _, h, _ => nomatch h
  | [i], m, h, _ => by rw [List.mem_singleton.mp h]; rfl
  | i :: j :: r, m, h, hl => by
    show max i (maxL (j :: r)) = m
    have hi := hl i List.mem_cons_self
    rcases List.mem_cons.mp h with e | e
    · subst e
      have hb : ∀ (l : List Int), l ≠ [] → (∀ y ∈ l, y ≤ m) → maxL l ≤ m := by
        intro l
        induction l with
        | nil => intro h; exact absurd rfl h
        | cons a t ih =>
          intro _ ha
          cases t with
          | nil => exact ha a List.mem_cons_self
          | cons b t =>
            show max a (maxL (b :: t)) ≤ m
            have h1 := ih (by simp) fun y hy => ha y (List.mem_cons_of_mem _ hy)
            have h2 := ha a List.mem_cons_self
            omega
      have := hb (j :: r) (by simp) fun y hy => hl y (List.mem_cons_of_mem _ hy)
      omega
    · rw [maxL_le e fun y hy => hl y (List.mem_cons_of_mem _ hy)]
      omega
def dMin : List D → Option D
  | [.int i, .int j] => some (.int (if j < i then j else i))
  | [.list ds] => match intsOf ds with
    | some (n :: ns) => some (.int (minL (n :: ns)))
    | _ => none
  | _ => none
def dMax : List D → Option D
  | [.int i, .int j] => some (.int (if j > i then j else i))
  | [.list ds] => match intsOf ds with
    | some (n :: ns) => some (.int (maxL (n :: ns)))
    | _ => none
  | _ => none
theorem cd_min (hc : X.calm = true) : CallD X (.builtin "min") dMin := by
  refine ⟨_, (call_min2 hc).or (cr_min hc), fun bad H xs ds Q t hp q => ?_⟩
  unfold dMin at q
  split at q
  · obtain _ | ⟨h, _ | ⟨h2, ⟨⟩⟩⟩ := hp
    exact .inl ⟨_, _, by rw [h.int, h2.int], q.here (.int _)⟩
  · split at q
    · rename_i n ns hn
      rw [intsOf_eq hn] at hp
      obtain _ | ⟨h, ⟨⟩⟩ := hp
      obtain ⟨p, vs, rfl, ho, l⟩ := h.lst
      rw [l.ints] at ho
      exact .inr ⟨p, n :: ns, rfl, SqL.of ho, by simp, fun m hm hl => by rw [minL_ge hm hl] at q; exact q.here (.int _)⟩
    · exact q.elim
  · exact q.elim
theorem cd_max (hc : X.calm = true) : CallD X (.builtin "max") dMax := by
  refine ⟨_, (call_max2 hc).or (cr_max hc), fun bad H xs ds Q t hp q => ?_⟩
  unfold dMax at q
  split at q
  · obtain _ | ⟨h, _ | ⟨h2, ⟨⟩⟩⟩ := hp
    exact .inl ⟨_, _, by rw [h.int, h2.int], q.here (.int _)⟩
  · split at q
    · rename_i n ns hn
      rw [intsOf_eq hn] at hp
      obtain _ | ⟨h, ⟨⟩⟩ := hp
      obtain ⟨p, vs, rfl, ho, l⟩ := h.lst
      rw [l.ints] at ho
      exact .inr ⟨p, n :: ns, rfl, SqL.of ho, by simp, fun m hm hl => by rw [maxL_le hm hl] at q; exact q.here (.int _)⟩
    · exact q.elim
  · exact q.elim
def sortI (ns : List Int) : List Int := ns.mergeSort fun i j => decide (i ≤ j)
theorem sortI_perm (ns : List Int) : (sortI ns).Perm ns := List.mergeSort_perm _ _
theorem sortI_sorted (ns : List Int) : (sortI ns).Pairwise (· ≤ ·) := by
  have h := List.pairwise_mergeSort (le := fun (i j : Int) => decide (i ≤ j)) (fun a b c h1 h2 => by simp at *; omega) (fun a b => by simp; omega) ns
  exact h.imp fun h => by simpa using h
def dSorted : List D → Option D
  | [.list ds] => match intsOf ds with
    | some ns => some (.list ((sortI ns).map PyData.int))
    | none => none
  | _ => none
theorem cd_sorted : CallD X (.builtin "sorted") dSorted := by
  refine ⟨_, cr_sortedI, fun bad H xs ds Q t hp q => ?_⟩
  unfold dSorted at q
  split at q
  · split at q
    · rename_i ns hn
      rw [intsOf_eq hn] at hp
      obtain _ | ⟨h, ⟨⟩⟩ := hp
      obtain ⟨p, vs, rfl, ho, l⟩ := h.lst
      rw [l.ints] at ho
      refine ⟨p, ns, rfl, SqL.of ho, fun ns' p' h1 h2 hp' => ?_⟩
      have e : ns' = sortI ns := PySem.W.ksm_same (h1.trans (sortI_perm ns).symm) h2 (sortI_sorted ns)
      rw [e]
      exact q.newL t (AtL.ofInts _) p' hp'
    · exact q.elim
  · exact q.elim
noncomputable def dDivmod : List D → Option D
  | [.int i, .int j] => iteP (0 < j ∧ Builtin.divisionGoesByPylong i j = false) (some (.tuple [.int (i / j), .int (i % j)])) none
  | _ => none
theorem cd_divmod : CallD X (.builtin "divmod") dDivmod := by
  refine ⟨_, call_divmodF, fun bad H xs ds Q t hp q => ?_⟩
  unfold dDivmod at q
  split at q
  · obtain ⟨hc, q⟩ := q.ite
    obtain _ | ⟨h, _ | ⟨h2, ⟨⟩⟩⟩ := hp
    exact ⟨_, _, by rw [h.int, h2.int], hc, q.newT (.cons (.int _) (.one (.int _)))⟩
  · exact q.elim

/-! ### isinstance(x, T) -/
def tyD : D → String
  | .none => "NoneType"
  | .bool _ => "bool"
  | .int _ => "int"
  | .str _ => "str"
  | .list _ => "list"
  | .tuple _ => "tuple"
  | .dict _ => "dict"
def isI (T : String) : D → Bool
  | .none => T == "NoneType"
  | .bool _ => T == "bool" || T == "int"
  | .int _ => T == "int"
  | .str _ => T == "str"
  | .list _ => T == "list"
  | .tuple _ => T == "tuple"
  | .dict _ => T == "dict"
/-- the classes that are asked for -/
def KnownT (T : String) : Prop := kitB "NoneType" T = some false ∧ kitB "bool" T = some (T == "bool" || T == "int") ∧ kitB "int" T = some (T == "int") ∧ kitB "str" T = some (T == "str") ∧ kitB "list" T = some (T == "list") ∧ kitB "tuple" T = some (T == "tuple") ∧ (T == "NoneType") = false ∧ kitB "dict" T = some (T == "dict")
theorem known_int : KnownT "int" := by refine ⟨?_, ?_, ?_, ?_, ?_, ?_, ?_, ?_⟩ <;> decide +kernel
theorem known_bool : KnownT "bool" := by refine ⟨?_, ?_, ?_, ?_, ?_, ?_, ?_, ?_⟩ <;> decide +kernel
theorem known_str : KnownT "str" := by refine ⟨?_, ?_, ?_, ?_, ?_, ?_, ?_, ?_⟩ <;> decide +kernel
theorem known_dict : KnownT "dict" := by refine ⟨?_, ?_, ?_, ?_, ?_, ?_, ?_, ?_⟩ <;> decide +kernel
theorem known_tuple : KnownT "tuple" := by refine ⟨?_, ?_, ?_, ?_, ?_, ?_, ?_, ?_⟩ <;> decide +kernel
theorem known_list : KnownT "list" := by refine ⟨?_, ?_, ?_, ?_, ?_, ?_, ?_, ?_⟩ <;> decide +kernel
/-- isinstance of a dict -/
def rIsiD (K : PySem.W.Frag) : List V → Hp → VK → Prop := fun xs H Q => ∃ (a : Addr) (o : Obj) (c : V) (u : Value) (b : Bool), xs = [.ref a, c] ∧ ClsV c u ∧ H a = some (objO a o) ∧ o.ExactDict ∧ PySem.W.kitOne K (.type "dict") u = some b ∧ Q (.bl b) H
theorem call_isiD : CallR X (.builtin "isinstance") (rIsiD X.K) := by
  intro pins s σ H xs us Q I r ⟨a, o, c, u, b, e1, k, ha, hx, e, q⟩
  subst e1
  obtain ⟨u1, u2, rfl, r1, r2⟩ := vals2 r
  have e2 := k.eq r2
  subst e2
  cases r1
  have hg : s.heap.get? a = some o := (I.hok a _ ha).1
  exact PySem.W.kia_one PySem.W.kitx_dict I.kIn ⟨o, hg, hx.1⟩ e (fun z => nomatch z) fun tk => ⟨.bl b, H, I.tok tk, rfl, q⟩
theorem tyx_of {K : KW} {bad : Addr → Prop} {H : Hp} {v : V} {d : D} (h : AtW K bad H v d) : (TyX K.K H v (.type (tyD d)) ∨ ∃ a o, v = .ref a ∧ H a = some (objO a o) ∧ o.ExactDict ∧ tyD d = "dict") ∧ (∀ T, KnownT T → kitB (tyD d) T = some (isI T d)) := by
  rcases h with h | ⟨a, rfl, h⟩
  · cases h with
    | non => exact ⟨.inl (.base .non), fun T k => by show kitB "NoneType" T = some (T == "NoneType"); rw [k.2.2.2.2.2.2.1]; exact k.1⟩
    | bl c => exact ⟨.inl (.base (.bl c)), fun T k => k.2.1⟩
    | int i => exact ⟨.inl (.base (.int i)), fun T k => k.2.2.1⟩
    | str x => exact ⟨.inl (.base (.str x)), fun T k => k.2.2.2.1⟩
    | lst n r l => exact ⟨.inl (.base (.lst r)), fun T k => k.2.2.2.2.1⟩
    | tup r l =>
      refine ⟨.inl ?_, fun T k => k.2.2.2.2.2.1⟩
      rcases r with ⟨o, r, _⟩ | ⟨o, its, n, r, c, _⟩
      · exact .fTuple r
      · exact .kTuple r c
    | dic n r q l m => exact ⟨.inr ⟨_, _, rfl, r, q.ex, rfl⟩, fun T k => k.2.2.2.2.2.2.2⟩
  · cases d with
    | list ds =>
      obtain ⟨vs, ho, _⟩ := h
      exact ⟨.inl (.base (.lst ho)), fun T k => k.2.2.2.2.1⟩
    | dict kvs =>
      obtain ⟨o, es, ep, ks, vs, ho, q, _⟩ := h
      exact ⟨.inr ⟨_, _, rfl, ho, q.ex, rfl⟩, fun T k => k.2.2.2.2.2.2.2⟩
    | _ => exact h.elim
theorem dx_isI {T : String} {x2 : Str} {p pt : Pos} (k : KnownT T) (ha : DX Ts b X W a fa) (hg : Gl X "isinstance") (hm : X.mg "isinstance" = none) (hv : bootBuiltins "isinstance" = some (.builtin "isinstance")) (hg2 : Gl X x2) (hm2 : X.mg x2 = none) (hv2 : bootBuiltins x2 = some (.type T)) (hn2 : x2 ≠ "__name__" := by decide) (hd2 : (x2 == ("__debug__" : Str)) = false := by decide)
    (he : starEach [a, .Name x2 pt] X.env = (false, eval a X.env) :: starEach [.Name x2 pt] X.env := by rfl) (he2 : starEach [.Name x2 pt] X.env = (false, eval (.Name x2 pt) X.env) :: starEach [] X.env := by rfl) (hpl : (backTo pos (starEach [.Name x2 pt] X.env)).any (·.1) = false := by rfl) :
    DX Ts true X W (.Call (.Name "isinstance" p) [a, .Name x2 pt] [] pos) (fun ρ => bnd (fa ρ) fun d => ret (.bool (isI T d))) := by
  obtain ⟨ta, pa, qa⟩ := ha
  refine ⟨_, pe_callB (call_isi.or call_isiD) hg hm hv (pa_cons pa (pa_cons (pe_bltn (v := .ty T) hg2 hm2 hv2 rfl hn2 hd2) pa_nil he2) he) (by decide) (by decide) he hpl, fun G s ρ pz σ H Q R h => ?_⟩
  refine qa G s ρ pz σ H _ R (PostG.bnd h fun d s1 v H1 hm1 w1 e1 a1 h1 => ?_)
  have R1 := R.ext w1 e1
  obtain ⟨t1, t2⟩ := tyx_of (a1.w R1)
  rcases t1 with t1 | ⟨q, o, rfl, ho, hx, ht⟩
  · exact .inl ⟨v, .ty T, _, _, isI T d, rfl, .ty T, t1, kit_ty (t2 T k), h1 _ H1 w1 .refl (.bl _)⟩
  · have e := t2 T k
    rw [ht] at e
    exact .inr ⟨q, o, .ty T, _, isI T d, rfl, .ty T, ho, hx, kit_ty e, h1 _ H1 w1 .refl (.bl _)⟩
end
end DV

set_option Elab.async false
set_option linter.all false
set_option maxRecDepth 100000
set_option maxHeartbeats 2000000
/-! values as data: defs and their calls -/
namespace DV
open PySem PySem.Spec PyProof.Rows L2

/-- an argument -/
def ArgAt (K : KW) (bad : Addr → Prop) (G : Gh) (H : Hp) : V → Sl → Prop
  | v, .val d => At K bad H v d
  | v, .drw => v = .ref G.dr
  | _, .own _ => False
  | _, .cls => False
  | _, .scr _ => False
/-- a def is worth F of its arguments -/
def spD (Ts : List Addr) (K : KW) (mg : Str → Option Value) (n : Nat) (F : List Sl → M D) : Sp := fun vs H Q E => vs.length = n ∧ ∃ (G : Gh) (s : DS) (as : List Sl), G.Fix ∧ G.tabs = Ts ∧ G.H0 = H ∧ Wd G s H ∧ Paired (ArgAt K G.bad G H) vs as ∧
  match F as s with
  | .ok d s' => ∀ v H', Wd G s' H' → ExtO G H H' → At K G.bad H' v d → Q v H'
  | .exc e s' => ∀ C H', mg e = some (.ref C) → Wd G s' H' → ExtO G H H' → E (.ref C) none H'
  | .stuck => False

def DL (Ts : List Addr) (X : Cx) (W : L2.WX) (es : List Expr) (f : Rho → M (List Sl)) : Prop := ∃ t, PA X es t ∧ (∀ ρ s as s', f ρ s = .ok as s' → as.length = es.length) ∧ ∀ (G : Gh) (s : DS) (ρ : Rho) (pz : Nat → Addr) (σ : L2.St) (H : Hp) (Q : List V → Hp → Prop), Rel Ts X.KW G s ρ pz σ H →
  PostG X W G σ H (fun H' vs as => Paired (ArgAt X.KW (badE G ρ pz) G H') vs as) (f ρ s) Q → t σ H Q
section
variable {Ts : List Addr} {X : Cx} {W : L2.WX} {e a b' c : Expr} {f fa fb fc : Rho → M D} {b b1 b2 : Bool} {pos : Pos} {es : List Expr} {fs : Rho → M (List Sl)}
theorem dl_nil : DL Ts X W [] (fun _ => ret []) := ⟨_, pa_nil, fun ρ s as s' h => by cases h; rfl, fun G s ρ pz σ H Q R h => h _ H R.wd .refl .nil⟩
theorem bnd_inv {α β : Type} {m : M α} {k : α → M β} {s s' : DS} {b : β} (h : bnd m k s = .ok b s') : ∃ a s1, m s = .ok a s1 ∧ k a s1 = .ok b s' := by
  unfold bnd at h
  cases hm : m s with
  | ok a s1 => rw [hm] at h; exact ⟨a, s1, rfl, h⟩
  | exc e s1 => rw [hm] at h; cases h
  | stuck => rw [hm] at h; cases h
theorem argE {K : KW} {G : Gh} {ρ : Rho} {pz : Nat → Addr} {H H' : Hp} {v : V} {a : Sl} (h : ArgAt K (badE G ρ pz) G H v a) (e : ExtO G H H') : ArgAt K (badE G ρ pz) G H' v a := by
  cases a with
  | val d => exact At.ext h e
  | drw => exact h
  | own ds => exact h
  | cls => exact h
  | scr ns => exact h
theorem dl_cons (ha : DX Ts true X W a fa) (hr : DL Ts X W es fs) (hs : starEach (a :: es) X.env = (false, eval a X.env) :: starEach es X.env := by rfl) : DL Ts X W (a :: es) (fun ρ => bnd (fa ρ) fun d => bnd (fs ρ) fun as => ret (.val d :: as)) := by
  obtain ⟨ta, pa, qa⟩ := ha
  obtain ⟨tr, pr, lr, qr⟩ := hr
  refine ⟨_, pa_cons pa pr hs, fun ρ s as s' h => ?_, fun G s ρ pz σ H Q R h => ?_⟩
  · obtain ⟨d, s1, _, h⟩ := bnd_inv h
    obtain ⟨as', s2, h2, h⟩ := bnd_inv h
    cases h
    rw [List.length_cons, List.length_cons, lr _ _ _ _ h2]
  · refine qa G s ρ pz σ H _ R (PostG.bnd h fun d s1 v H1 hm1 w1 e1 a1 h1 => ?_)
    have R1 := R.ext w1 e1
    refine qr G s1 ρ pz σ H1 _ R1 (PostG.bnd h1 fun ds s2 vs H2 hm2 w2 e2 a2 h2 => ?_)
    exact h2 _ H2 w2 .refl (.cons (At.ext a1 e2) a2)
/-- the draws as an argument -/
def slotDr (ρ : Rho) (i : Nat) : M Unit := match ρ[i]? with
  | some (some .drw) => ret ()
  | _ => stk
theorem dl_drw (i : Nat) {x : Str} (hr : DL Ts X W es fs) (hN : X.N[i]? = some x := by rfl) (hv : Vis X.env.scope x := by first | exact Or.inl rfl | exact Or.inr (Or.inl rfl) | exact Or.inr (Or.inr rfl)) (hd : (x == ("__debug__" : Str)) = false := by decide)
    (hcd : (x == ("__classdict__" : Str)) = false := by decide) (hs : starEach (.Name x pos :: es) X.env = (false, eval (.Name x pos) X.env) :: starEach es X.env := by rfl) : DL Ts X W (.Name x pos :: es) (fun ρ => bnd (slotDr ρ i) fun _ => bnd (fs ρ) fun as => ret (.drw :: as)) := by
  obtain ⟨tr, pr, lr, qr⟩ := hr
  refine ⟨_, pa_cons (pe_var hN hv hd hcd) pr hs, fun ρ s as s' h => ?_, fun G s ρ pz σ H Q R h => ?_⟩
  · obtain ⟨d, s1, _, h⟩ := bnd_inv h
    obtain ⟨as', s2, h2, h⟩ := bnd_inv h
    cases h
    rw [List.length_cons, List.length_cons, lr _ _ _ _ h2]
  · have h : PostG X W G σ H (fun H' vs as => Paired (ArgAt X.KW (badE G ρ pz) G H') vs as) (bnd (slotDr ρ i) (fun _ => bnd (fs ρ) fun as => ret (.drw :: as)) s) Q := h
    unfold slotDr at h
    rcases hr : ρ[i]? with _ | (_ | (d | ds | _ | _ | _)) <;> rw [hr] at h <;> first | exact h.elim | skip
    obtain ⟨v, e1, q⟩ := R.at_ i _ hr
    refine ⟨v, e1, qr G s ρ pz σ H _ R (PostG.bnd h fun as s2 vs H2 hm2 w2 e2 a2 h2 => ?_)⟩
    exact h2 _ H2 w2 .refl (.cons q a2)

/-- the callee's view -/
def Gh.sub (G : Gh) (ρ : Rho) (pz : Nat → Addr) (H : Hp) : Gh := { G with ext := badE G ρ pz, H0 := H }
theorem sub_bad {G : Gh} {ρ : Rho} {pz : Nat → Addr} {H : Hp} {a : Addr} : (G.sub ρ pz H).bad a ↔ badE G ρ pz a := by
  constructor
  · intro h
    rcases h with h | h | h | h
    · exact .inl (.inl h)
    · exact .inl (.inr (.inl h))
    · exact .inl (.inr (.inr (.inl h)))
    · exact h
  · exact fun h => .inr (.inr (.inr h))
theorem At.eqb {K : KW} {bad bad' : Addr → Prop} {H : Hp} {v : V} {d : D} (h : At K bad H v d) (e : ∀ a, bad' a → bad a) : At K bad' H v d := h.mono (fun _ _ _ q => q) (fun _ _ _ q => q) fun a n _ z => n (e a z)
theorem arg_sub {K : KW} {G : Gh} {ρ : Rho} {pz : Nat → Addr} {H : Hp} : ∀ {vs : List V} {as : List Sl}, Paired (ArgAt K (badE G ρ pz) G H) vs as → Paired (ArgAt K (G.sub ρ pz H).bad (G.sub ρ pz H) H) vs as
  | _, _, .nil => .nil
  | _, _, .cons (b := a) h t => .cons (by
      cases a with
      | val d => exact At.eqb h fun a z => sub_bad.mp z
      | drw => exact h
      | own ds => exact h
      | cls => exact h
      | scr ns => exact h) (arg_sub t)
theorem paired_len {α β : Type} {F : α → β → Prop} : ∀ {l : List α} {m : List β}, Paired F l m → l.length = m.length
  | _, _, .nil => rfl
  | _, _, .cons _ t => congrArg (· + 1) (paired_len t)
theorem sp_call {K : KW} {mg : Str → Option Value} {n : Nat} {F : List Sl → M D} {G : Gh} {s1 : DS} {ρ : Rho} {pz : Nat → Addr} {σ : L2.St} {H1 : Hp} {Q : VK} {vs : List V} {as : List Sl} (R1 : Rel Ts X.KW G s1 ρ pz σ H1) (hn : as.length = n) (a1 : Paired (ArgAt X.KW (badE G ρ pz) G H1) vs as)
    (h1 : PostG X W G σ H1 (AtB true X.KW G ρ pz) (F as s1) Q) : spD Ts X.KW X.mg n F vs H1 Q (WE W σ) := by
  refine ⟨by rw [paired_len a1]; exact hn, G.sub ρ pz H1, s1, as, ⟨fun a z => R1.trk a (sub_bad.mp z), R1.fix.ne, R1.fix.nt, R1.fix.nt2⟩, R1.ts, rfl, ⟨R1.wd.dr, R1.wd.tab⟩, arg_sub a1, ?_⟩
  cases hF : F as s1 with
  | ok d s' =>
    rw [hF] at h1
    exact fun v H' w e a => h1 v H' ⟨w.dr, w.tab⟩ ⟨e.keep, e.tf⟩ (At.eqb a fun a z => sub_bad.mpr z)
  | exc x s' =>
    rw [hF] at h1
    exact fun C H' hc w e => h1 C H' hc ⟨w.dr, w.tab⟩ ⟨e.keep, e.tf⟩
  | stuck => rw [hF] at h1; exact h1
/-- f(a, ..), f a def of the text -/
theorem dx_call {k n : Nat} {fa : Addr} {fd : FuncData} {ps : List Str} {x : Str} {p : Pos} {F : List Sl → M D} (Fk : FnOk X.prog X.w X.K X.mg X.base (L2N.CX X.prog X.w) k fa fd ps (spD Ts X.KW X.mg n F)) (hr : Room k X.A) (hg : Gl X x) (hm : X.mg x = some (.ref fa)) (hk : PySem.W.keepIn X.K (.ref fa) = true) (hb : Binds X.K fd ps [])
    (tk : L2N.Takes X W) (ha : DL Ts X W (a :: es) fs) (hn : (a :: es).length = n := by rfl) (hdb : (x == ("__debug__" : Str)) = false := by decide) (he : starEach (a :: es) X.env = (false, eval a X.env) :: starEach es X.env := by rfl) (hpl : (backTo pos (starEach es X.env)).any (·.1) = false := by rfl) :
    DX Ts true X W (.Call (.Name x p) (a :: es) [] pos) (fun ρ => bnd (fs ρ) F) := by
  obtain ⟨t, pt, lt, qt⟩ := ha
  refine ⟨_, pe_callS (E := WE W) Fk hr hg hm hk hb (L2N.passAt tk) pt hdb he hpl, fun G s ρ pz σ H Q R h => ?_⟩
  refine qt G s ρ pz σ H _ R (PostG.bnd h fun as s1 vs H1 hm1 w1 e1 a1 h1 => ?_)
  exact sp_call (K := X.KW) (mg := X.mg) (R.ext w1 e1) (by rw [lt _ _ _ _ hm1]; exact hn) a1 h1
end

/-! ### statements: what comes -/
inductive Out where
  | nx (ρ : Rho)
  | rt (d : D)
  | bk (ρ : Rho)
  | ct (ρ : Rho)
/-- behind a statement -/
def PostS (Ts : List Addr) (X : Cx) (W : L2.WX) (G : Gh) (r : Res Out) (Dn : Ends) : Prop := match r with
  | .ok (.nx ρ) s => ∀ pz σ H, Rel Ts X.KW G s ρ pz σ H → Dn.nx σ H
  | .ok (.bk ρ) s => ∀ pz σ H, Rel Ts X.KW G s ρ pz σ H → Dn.bk σ H
  | .ok (.ct ρ) s => ∀ pz σ H, Rel Ts X.KW G s ρ pz σ H → Dn.ct σ H
  | .ok (.rt d) s => ∀ v H, Wd G s H → ExtO G G.H0 H → At X.KW G.bad H v d → Dn.rt v H
  | .exc e s => ∀ C σ H, X.mg e = some (.ref C) → Wd G s H → ExtO G G.H0 H → W (.ref C) none σ H
  | .stuck => False
def DS1 (Ts : List Addr) (X : Cx) (W : L2.WX) (st : Stmt) (g : Rho → M Out) : Prop := ∃ t, PS X st t ∧ ∀ (G : Gh) (s : DS) (ρ : Rho) (pz : Nat → Addr) (σ : L2.St) (H : Hp) (Dn : Ends), Rel Ts X.KW G s ρ pz σ H → PostS Ts X W G (g ρ s) Dn → t Dn σ H
def DSs (Ts : List Addr) (X : Cx) (W : L2.WX) (sts : List Stmt) (g : Rho → M Out) : Prop := ∃ t, PSs X sts t ∧ ∀ (G : Gh) (s : DS) (ρ : Rho) (pz : Nat → Addr) (σ : L2.St) (H : Hp) (Dn : Ends), Rel Ts X.KW G s ρ pz σ H → PostS Ts X W G (g ρ s) Dn → t Dn σ H

/-! ### a def by its body -/
def startD (N : List Str) (as : List Sl) : Rho := as.map some ++ List.replicate (N.length - as.length) none
def runB (g : Rho → M Out) (N : List Str) (as : List Sl) : M D := bnd (g (startD N as)) fun o => match o with
  | .nx _ => ret .none
  | .rt d => ret d
  | _ => stk
section
variable {P : Program} {w : World} {K : PySem.W.Frag} {mg : Str → Option Value} {base : Heap} {Ts : List Addr}
theorem arg_noown {K : KW} {bad : Addr → Prop} {G : Gh} {H : Hp} : ∀ {vs : List V} {as : List Sl} {i : Nat} {a : Sl}, Paired (ArgAt K bad G H) vs as → as[i]? = some a → ∃ v, vs[i]? = some v ∧ ArgAt K bad G H v a
  | _, _, _, _, .nil, e => by simp at e
  | _, _, 0, _, .cons h _, e => by simp at e; subst e; exact ⟨_, rfl, h⟩
  | _, _, i + 1, _, .cons _ t, e => by
    obtain ⟨v, h1, h2⟩ := arg_noown (i := i) t (by simpa using e)
    exact ⟨v, by simpa using h1, h2⟩
theorem rel_start {K : KW} {N : List Str} {vs : List V} {as : List Sl} {G : Gh} {s : DS} {H : Hp} (hf : G.Fix) (ht : G.tabs = Ts) (h0 : G.H0 = H) (hw : Wd G s H) (ha : Paired (ArgAt K G.bad G H) vs as) : Rel Ts K G s (startD N as) (fun _ => 0) (L2.start N vs) H := by
  have hl := paired_len ha
  have key : ∀ i sl, (startD N as)[i]? = some (some sl) → as[i]? = some sl := fun i sl e => by
    unfold startD at e
    by_cases hi : i < as.length
    · rw [List.getElem?_append_left (by simpa using hi), List.getElem?_map] at e
      cases q : as[i]? with
      | none => rw [q] at e; cases e
      | some z => rw [q] at e; cases e; rfl
    · rw [List.getElem?_append_right (by simpa using hi), List.getElem?_replicate] at e
      split at e <;> cases e
  have noOwn : ∀ (i : Nat) (ds : D), (startD N as)[i]? = some (some (Sl.own ds)) → False := fun i ds e => by
    obtain ⟨v, _, q⟩ := arg_noown ha (key i _ e)
    exact q
  refine ⟨hf, ht, hw, by rw [h0]; exact .refl, ?_, fun i sl e => ?_, fun i j ds es e _ _ => (noOwn i ds e).elim, fun i ds e => (noOwn i ds e).elim⟩
  · unfold startD L2.start
    rw [List.length_append, List.length_append, List.length_map, List.length_map, List.length_replicate, List.length_replicate, hl]
  · obtain ⟨v, e1, q⟩ := arg_noown ha (key i sl e)
    refine ⟨v, ?_, ?_⟩
    · unfold L2.start
      have hi : i < vs.length := (List.getElem?_eq_some_iff.mp e1).1
      rw [List.getElem?_append_left (by simpa using hi), List.getElem?_map, e1]
      rfl
    · cases sl with
      | val d =>
        refine At.eqb q fun a z => ?_
        rcases z with z | ⟨j, ds, e2, _⟩
        · exact z
        · exact (noOwn j ds e2).elim
      | drw => exact q
      | own ds => exact q.elim
      | cls => exact q.elim
      | scr ns => exact q.elim
theorem fn_dv {x qual : Str} {st : Stmt} {f : Addr} {fd : FuncData} {N ps : List Str} {k n : Nat} {g : Rho → M Out} (F : Fun K x qual st f fd) (S : FnScope N ps (defScope st)) (hn : ps.length = n)
    (hbody : ∀ (cdv : Value), fd.code = cdv → ∀ (A : Around) (outer : List Env) (s : Shared) (H : Hp) (E : XK), Room k (A.deeper (envOfC qual (defScope st) s.heap.objs.size f cdv)) →
      DSs Ts (cxOf (L2N.CX P w) P w K mg base N qual (defScope st) f cdv A outer s H E) (fun cls d _ H' => E cls d H') (defBody st) g) :
    FnOk P w K mg base (L2N.CX P w) (k + 1) f fd ps (spD Ts ⟨K, w⟩ mg n (runB g N)) := by
  obtain ⟨oc, od, kV, doc, pm, an, cdv, ct, osl, rfl, lk, hcd⟩ := F.ex
  refine fn_of lk hcd S (fun vs H Q E h => by rw [h.1, hn]) fun A outer s H vs Q E hr hsp => ?_
  obtain ⟨hvl, G, s0, as, hf, ht, h0, hw, ha, post⟩ := hsp
  obtain ⟨t, pt, qt⟩ := hbody cdv rfl A outer s H E hr
  refine ⟨t, pt, qt G s0 (startD N as) (fun _ => 0) (L2.start N vs) H _ (rel_start (K := ⟨K, w⟩) hf ht h0 hw ha) ?_⟩
  unfold runB bnd at post
  cases hg : g (startD N as) s0 with
  | stuck => rw [hg] at post; exact post
  | exc e s' =>
    rw [hg] at post
    exact fun C σ H' hc w' e' => post C H' hc w' (by rw [h0] at e'; exact e')
  | ok o s' =>
    rw [hg] at post
    cases o with
    | nx ρ => exact fun pz σ H' R' => post .non H' R'.wd (by have := R'.kp; rw [h0] at this; exact this) .non
    | rt d => exact fun v H' w' e' a => post v H' w' (by rw [h0] at e'; exact e') a
    | bk ρ => exact post.elim
    | ct ρ => exact post.elim
end
end DV

set_option Elab.async false
set_option linter.all false
set_option maxRecDepth 100000
set_option maxHeartbeats 2000000
/-! values as data: the slots change -/
namespace DV
open PySem PySem.Spec PyProof.Rows L2

def pzSet (pz : Nat → Addr) (i : Nat) (p : Addr) (j : Nat) : Addr := if j = i then p else pz j
theorem set_get {α : Type} {l : List α} {i j : Nat} {x y : α} (h : (l.set i x)[j]? = some y) : (j = i ∧ y = x) ∨ (j ≠ i ∧ l[j]? = some y) := by
  by_cases e : i = j
  · subst e
    by_cases hl : i < l.length
    · rw [List.getElem?_set_self hl] at h
      exact .inl ⟨rfl, (Option.some.inj h).symm⟩
    · rw [List.getElem?_eq_none (by simpa using hl)] at h
      cases h
  · rw [List.getElem?_set_ne e] at h
    exact .inr ⟨fun z => e z.symm, h⟩
section
variable {Ts : List Addr} {K : KW} {G : Gh} {s s' : DS} {ρ : Rho} {pz : Nat → Addr} {σ : L2.St} {H H' : Hp} {v : V} {d : D}
theorem bad_set {i : Nat} {d : Option Sl} (hd : ∀ ds, d ≠ some (.own ds)) {a : Addr} (h : badE G (ρ.set i d) pz a) : badE G ρ pz a := by
  rcases h with h | ⟨j, ds, e, q⟩
  · exact .inl h
  · rcases set_get e with ⟨_, e2⟩ | ⟨_, e2⟩
    · exact absurd e2.symm (hd ds)
    · exact .inr ⟨j, ds, e2, q⟩
theorem sl_eqb {bad bad' : Addr → Prop} {p : Addr} {sl : Sl} (h : SlAt K bad G H p v sl) (e : ∀ a, bad' a → bad a) : SlAt K bad' G H p v sl := by
  cases sl with
  | val d => exact At.eqb h e
  | own ds =>
    obtain ⟨e1, q⟩ := h
    exact ⟨e1, q.mono (fun _ q => q) fun l => l.mono (fun _ _ _ q => q) (fun _ _ _ q => q) fun a n _ z => n (e a z)⟩
  | drw => exact h
  | cls => exact h
  | scr ns =>
    obtain ⟨a, e1, r⟩ := h
    exact ⟨a, e1, r.mono (fun _ _ _ q => q) fun a n _ z => n (e a z)⟩
/-- a value is stored -/
theorem Rel.set (R : Rel Ts K G s ρ pz σ H) (i : Nat) (h : At K (badE G ρ pz) H v d) : Rel Ts K G s (ρ.set i (some (.val d))) pz (σ.set i (some v)) H := by
  have nb : ∀ ds, (some (Sl.val d) : Option Sl) ≠ some (.own ds) := fun ds z => by cases z
  refine ⟨R.fix, R.ts, R.wd, R.kp, by rw [List.length_set, List.length_set]; exact R.len, fun j sl e => ?_, fun j k ds es e1 e2 => ?_, fun j ds e => ?_⟩
  · rcases set_get e with ⟨rfl, e2⟩ | ⟨hn, e2⟩
    · cases e2
      have hl : j < ρ.length := by
        rcases Nat.lt_or_ge j ρ.length with q | q
        · exact q
        · rw [List.getElem?_eq_none (by simpa using q)] at e; cases e
      exact ⟨v, List.getElem?_set_self (by rw [← R.len]; exact hl), At.eqb h fun a => bad_set nb⟩
    · obtain ⟨v', e3, q⟩ := R.at_ j sl e2
      exact ⟨v', by rw [List.getElem?_set_ne (Ne.symm hn)]; exact e3, sl_eqb q fun a => bad_set nb⟩
  · rcases set_get e1 with ⟨_, z⟩ | ⟨_, e1⟩
    · cases z
    · rcases set_get e2 with ⟨_, z⟩ | ⟨_, e2⟩
      · cases z
      · exact R.inj j k ds es e1 e2
  · rcases set_get e with ⟨_, z⟩ | ⟨_, e⟩
    · cases z
    · exact R.new j ds e
theorem Rel.nh0 (R : Rel Ts K G s ρ pz σ H) {p : Addr} (hp : H p = none) : G.H0 p = none := by
  cases q : G.H0 p with
  | none => rfl
  | some o =>
    have t : Trk (badE G ρ pz) H := R.trk
    by_cases h1 : p = G.dr
    · obtain ⟨o, e⟩ := t p (.inl (.inl h1))
      rw [hp] at e; cases e
    · by_cases h2 : p ∈ G.tabs
      · obtain ⟨o, e⟩ := t p (.inl (.inr (.inr (.inl h2))))
        rw [hp] at e; cases e
      · have := R.kp.keep p o h1 h2 q
        rw [hp] at this; cases this
/-- a list that has just been made is this def's own -/
theorem Rel.own (R : Rel Ts K G s ρ pz σ H) (w : Wd G s' H') (e : ExtO G H H') (i : Nat) {p : Addr} {ds : D} (hp : H p = none) (hq : OwnAt K (fun a => badE G ρ pz a ∨ a = p) H' p ds) :
    Rel Ts K G s' (ρ.set i (some (.own ds))) (pzSet pz i p) (σ.set i (some (.ref p))) H' := by
  have R1 := R.ext w e
  have pzi : (pzSet pz i p) i = p := if_pos rfl
  have pzn : ∀ j, j ≠ i → (pzSet pz i p) j = pz j := fun j h => if_neg h
  have sub : ∀ a, badE G (ρ.set i (some (.own ds))) (pzSet pz i p) a → badE G ρ pz a ∨ a = p := fun a h => by
    rcases h with h | ⟨j, ds', e1, q⟩
    · exact .inl (.inl h)
    · rcases set_get e1 with ⟨rfl, _⟩ | ⟨hn, e2⟩
      · rw [pzi] at q; exact .inr q.symm
      · rw [pzn j hn] at q; exact .inl (.inr ⟨j, ds', e2, q⟩)
  have up : ∀ {v : V} {d : D}, At K (badE G ρ pz) H v d → At K (fun a => badE G ρ pz a ∨ a = p) H' v d := fun {v d} h =>
    h.mono (fun a o n q => e.keep a o (fun z => n (by rw [z]; exact badE_dr)) (fun z => n (badE_tab z)) q) e.tf fun a n ⟨o, q⟩ z => by
      rcases z with z | z
      · exact n z
      · rw [z, hp] at q; cases q
  have upL : ∀ {v : List V} {d : List D}, AtL K (badE G ρ pz) H v d → AtL K (fun a => badE G ρ pz a ∨ a = p) H' v d := fun {v d} h =>
    h.mono (fun a o n q => e.keep a o (fun z => n (by rw [z]; exact badE_dr)) (fun z => n (badE_tab z)) q) e.tf fun a n ⟨o, q⟩ z => by
      rcases z with z | z
      · exact n z
      · rw [z, hp] at q; cases q
  have L0 : ∀ {v : List V} {d : List D}, AtL K (fun a => badE G ρ pz a ∨ a = p) H' v d → AtL K (badE G (ρ.set i (some (.own ds))) (pzSet pz i p)) H' v d := fun {v d} h => h.mono (fun _ _ _ q => q) (fun _ _ _ q => q) fun a n _ z => n (sub a z)
  refine ⟨R.fix, R.ts, w, R.kp.trans e, by rw [List.length_set, List.length_set]; exact R.len, fun j sl ej => ?_, fun j k ds1 es e1 e2 q => ?_, fun j ds' ej => ?_⟩
  · rcases set_get ej with ⟨rfl, e2⟩ | ⟨hn, e2⟩
    · cases e2
      have hl : j < ρ.length := by
        rcases Nat.lt_or_ge j ρ.length with q | q
        · exact q
        · rw [List.getElem?_eq_none (by simpa using q)] at ej; cases ej
      refine ⟨.ref p, List.getElem?_set_self (by rw [← R.len]; exact hl), by rw [pzi], ?_⟩
      rw [pzi]
      exact hq.mono (fun _ q => q) L0
    · obtain ⟨v', e3, q⟩ := R.at_ j sl e2
      refine ⟨v', by rw [List.getElem?_set_ne (Ne.symm hn)]; exact e3, ?_⟩
      rw [pzn j hn]
      cases sl with
      | val d => exact At.eqb (up q) sub
      | own ds1 =>
        obtain ⟨q1, l1⟩ := q
        have nb := R.notbad e2
        exact ⟨q1, l1.mono (fun o q2 => e.keep _ _ (fun z => nb (.inl z)) (fun z => nb (.inr (.inr (.inl z)))) q2) fun l => L0 (upL l)⟩
      | drw => exact q
      | cls => exact q
      | scr ns =>
        obtain ⟨a1, e1, r1⟩ := q
        exact ⟨a1, e1, r1.mono (fun a o n q => e.keep a o (fun z => n (by rw [z]; exact badE_dr)) (fun z => n (badE_tab z)) q) fun a n ⟨o, q⟩ z => by
          rcases sub a z with z | z
          · exact n z
          · rw [z, hp] at q; cases q⟩
  · have live : ∀ k ds, ρ[k]? = some (some (Sl.own ds)) → pz k ≠ p := fun k ds ek z => by
      obtain ⟨_, _, _, q1⟩ := R.at_ k _ ek
      obtain ⟨o, q2, _⟩ := q1.there
      rw [z, hp] at q2; cases q2
    rcases set_get e1 with ⟨rfl, _⟩ | ⟨hn, e1'⟩
    · rcases set_get e2 with ⟨rfl, _⟩ | ⟨hn2, e2'⟩
      · rfl
      · rw [pzi, pzn k hn2] at q; exact absurd q.symm (live k _ e2')
    · rcases set_get e2 with ⟨rfl, _⟩ | ⟨hn2, e2'⟩
      · rw [pzi, pzn j hn] at q; exact absurd q (live j _ e1')
      · rw [pzn j hn, pzn k hn2] at q; exact R.inj j k _ _ e1' e2' q
  · rcases set_get ej with ⟨rfl, _⟩ | ⟨hn, e2⟩
    · rw [pzi]; exact R.nh0 hp
    · rw [pzn j hn]; exact R.new j _ e2
theorem AtL.updOwn {bad : Addr → Prop} {p : Addr} {o : HO} {vs : List V} {ds : List D} (l : AtL K bad H vs ds) (hb : bad p) (hp : ∀ u, H p = some u → isTF u = false) : AtL K bad (upd H p o) vs ds :=
  l.mono (fun a u n q => by rw [upd_ne fun z => n (by rw [z]; exact hb)]; exact q) (fun a u t q => by
    rw [upd_ne fun z => by rw [z] at q; rw [hp u q] at t; cases t]
    exact q) fun _ n _ => n
/-- this def's own list or dict changes -/
theorem Rel.put (R : Rel Ts K G s ρ pz σ H) (i : Nat) {o' : HO} {ds ds' : D} (hi : ρ[i]? = some (some (.own ds))) (hq : OwnAt K (badE G ρ pz) (upd H (pz i) o') (pz i) ds') : Rel Ts K G s (ρ.set i (some (.own ds'))) pz σ (upd H (pz i) o') := by
  have nb := R.notbad hi
  obtain ⟨v0, s0, e0, q0⟩ := R.at_ i _ hi
  obtain ⟨u0, hp, htf⟩ := q0.there
  have hl : i < ρ.length := (List.getElem?_eq_some_iff.mp hi).1
  have sub : ∀ a, badE G (ρ.set i (some (.own ds'))) pz a → badE G ρ pz a := fun a h => by
    rcases h with h | ⟨j, ds1, e1, q⟩
    · exact .inl h
    · rcases set_get e1 with ⟨rfl, _⟩ | ⟨hn, e2⟩
      · exact .inr ⟨j, ds, hi, q⟩
      · exact .inr ⟨j, ds1, e2, q⟩
  have ne : ∀ a, ¬ badE G ρ pz a → a ≠ pz i := fun a n z => n (.inr ⟨i, ds, hi, z.symm⟩)
  have tf : ∀ a o, isTF o = true → H a = some o → upd H (pz i) o' a = some o := fun a o t q => by
    rw [upd_ne fun z => by rw [z, hp] at q; cases q; rw [htf] at t; cases t]
    exact q
  have mv : ∀ {v : V} {d : D}, At K (badE G ρ pz) H v d → At K (badE G (ρ.set i (some (.own ds'))) pz) (upd H (pz i) o') v d := fun {v d} h =>
    h.mono (fun a o n q => by rw [upd_ne (ne a n)]; exact q) tf fun a n _ z => n (sub a z)
  have mvL : ∀ {v : List V} {d : List D}, AtL K (badE G ρ pz) H v d → AtL K (badE G (ρ.set i (some (.own ds'))) pz) (upd H (pz i) o') v d := fun {v d} h =>
    h.mono (fun a o n q => by rw [upd_ne (ne a n)]; exact q) tf fun a n _ z => n (sub a z)
  have mv2 : ∀ {v : List V} {d : List D}, AtL K (badE G ρ pz) (upd H (pz i) o') v d → AtL K (badE G (ρ.set i (some (.own ds'))) pz) (upd H (pz i) o') v d := fun {v d} h =>
    h.mono (fun _ _ _ q => q) (fun _ _ _ q => q) fun a n _ z => n (sub a z)
  refine ⟨R.fix, R.ts, R.wd.upd nb, ⟨fun a o h1 h2 q => ?_, fun a o t q => tf a o t (R.kp.tf a o t q)⟩, by rw [List.length_set]; exact R.len, fun j sl ej => ?_, fun j k ds1 es e1 e2 q => ?_, fun j ds1 ej => ?_⟩
  · rw [upd_ne fun z => by have := R.new i ds hi; rw [← z, q] at this; cases this]
    exact R.kp.keep a o h1 h2 q
  · rcases set_get ej with ⟨rfl, e2⟩ | ⟨hn, e2⟩
    · cases e2
      exact ⟨v0, s0, e0, hq.mono (fun _ q => q) mv2⟩
    · obtain ⟨v', e3, q⟩ := R.at_ j sl e2
      refine ⟨v', e3, ?_⟩
      cases sl with
      | val d => exact mv q
      | own ds1 =>
        obtain ⟨q1, l1⟩ := q
        exact ⟨q1, l1.mono (fun o q2 => by rw [upd_ne fun z => hn (R.inj j i _ _ e2 hi z)]; exact q2) mvL⟩
      | drw => exact q
      | cls => exact q
      | scr ns =>
        obtain ⟨a1, e1, r1⟩ := q
        exact ⟨a1, e1, r1.mono (fun a o n q => by rw [upd_ne (ne a n)]; exact q) fun a n _ z => n (sub a z)⟩
  · have f : ∀ k ds1, (ρ.set i (some (.own ds')))[k]? = some (some (Sl.own ds1)) → ∃ ds2, ρ[k]? = some (some (Sl.own ds2)) := fun k ds1 e => by
      rcases set_get e with ⟨rfl, _⟩ | ⟨_, e⟩
      · exact ⟨ds, hi⟩
      · exact ⟨ds1, e⟩
    obtain ⟨_, e1⟩ := f j _ e1
    obtain ⟨_, e2⟩ := f k _ e2
    exact R.inj j k _ _ e1 e2 q
  · rcases set_get ej with ⟨rfl, _⟩ | ⟨_, e⟩
    · exact R.new j ds hi
    · exact R.new j _ e
/-- own lists are handed out: they are values from here on -/
def frz (ρ : Rho) : Rho := ρ.map fun o => match o with
  | some (.own d) => some (.val d)
  | o => o
theorem frz_get {j : Nat} {sl : Sl} (h : (frz ρ)[j]? = some (some sl)) : (ρ[j]? = some (some sl) ∧ ∀ ds, sl ≠ .own ds) ∨ ∃ ds, ρ[j]? = some (some (.own ds)) ∧ sl = .val ds := by
  unfold frz at h
  rw [List.getElem?_map] at h
  rcases hr : ρ[j]? with _ | (_ | (d | ds | _ | _ | _)) <;> rw [hr] at h <;> cases h
  · exact .inl ⟨rfl, fun ds z => by cases z⟩
  · exact .inr ⟨ds, rfl, rfl⟩
  · exact .inl ⟨rfl, fun ds z => by cases z⟩
  · exact .inl ⟨rfl, fun ds z => by cases z⟩
  · exact .inl ⟨rfl, fun ds z => by cases z⟩
theorem Rel.frz (R : Rel Ts K G s ρ pz σ H) : Rel Ts K G s (frz ρ) pz σ H := by
  have no : ∀ j ds, (DV.frz ρ)[j]? = some (some (Sl.own ds)) → False := fun j ds e => by
    rcases frz_get e with ⟨_, h⟩ | ⟨_, _, h⟩
    · exact h ds rfl
    · cases h
  have sub : ∀ a, badE G (DV.frz ρ) pz a → badE G ρ pz a := fun a h => by
    rcases h with h | ⟨j, ds, e, _⟩
    · exact .inl h
    · exact (no j ds e).elim
  refine ⟨R.fix, R.ts, R.wd, R.kp, by unfold DV.frz; rw [List.length_map]; exact R.len, fun j sl e => ?_, fun j k ds es e _ _ => (no j ds e).elim, fun j ds e => (no j ds e).elim⟩
  rcases frz_get e with ⟨e', _⟩ | ⟨ds, e', rfl⟩
  · obtain ⟨v', e3, q⟩ := R.at_ j sl e'
    exact ⟨v', e3, sl_eqb q sub⟩
  · obtain ⟨v', e3, e4, q⟩ := R.at_ j _ e'
    refine ⟨v', e3, ?_⟩
    rw [e4]
    refine q.at_ (fun z => ?_) fun l => l.mono (fun _ _ _ q => q) (fun _ _ _ q => q) fun a n _ z => n (sub a z)
    rcases z with z | ⟨k, es, ek, _⟩
    · exact R.notbad e' z
    · exact no k es ek
/-- the view from here: what stands now, but for own lists, stays -/
noncomputable def Gh.now (G : Gh) (ρ : Rho) (pz : Nat → Addr) (H : Hp) : Gh := { G with H0 := fun a => iteP (∃ i ds, ρ[i]? = some (some (Sl.own ds)) ∧ pz i = a) none (H a) }
theorem now_own {a : Addr} (h : ∃ i ds, ρ[i]? = some (some (Sl.own ds)) ∧ pz i = a) : (G.now ρ pz H).H0 a = none := iteP_pos h
theorem now_get {a : Addr} (h : ¬ ∃ i ds, ρ[i]? = some (some (Sl.own ds)) ∧ pz i = a) : (G.now ρ pz H).H0 a = H a := iteP_neg h
theorem now_some {a : Addr} {o : HO} (h : (G.now ρ pz H).H0 a = some o) : H a = some o ∧ ¬ ∃ i ds, ρ[i]? = some (some (Sl.own ds)) ∧ pz i = a := by
  by_cases c : ∃ i ds, ρ[i]? = some (some (Sl.own ds)) ∧ pz i = a
  · rw [now_own c] at h; cases h
  · rw [now_get c] at h; exact ⟨h, c⟩
theorem Rel.now (R : Rel Ts K G s ρ pz σ H) : Rel Ts K (G.now ρ pz H) s ρ pz σ H := by
  refine ⟨⟨fun a z => ?_, R.fix.ne, R.fix.nt, R.fix.nt2⟩, R.ts, ⟨R.wd.dr, R.wd.tab⟩, ⟨fun a o _ _ q => (now_some q).1, fun a o _ q => (now_some q).1⟩, R.len, fun i sl e => ?_, R.inj, fun i ds e => now_own ⟨i, ds, e, rfl⟩⟩
  · obtain ⟨o, e⟩ := R.trk a (.inl z)
    refine ⟨o, ?_⟩
    rw [now_get fun ⟨i, ds, e1, e2⟩ => R.notbad e1 (by rw [e2]; exact z)]
    exact e
  · obtain ⟨v, e1, q⟩ := R.at_ i sl e
    exact ⟨v, e1, q⟩
theorem now_ext (R : Rel Ts K G s ρ pz σ H) : ExtO G G.H0 (G.now ρ pz H).H0 := by
  have no : ∀ a o, G.H0 a = some o → ¬ ∃ i ds, ρ[i]? = some (some (Sl.own ds)) ∧ pz i = a := fun a o q ⟨i, ds, e1, e2⟩ => by
    have := R.new i ds e1
    rw [e2, q] at this; cases this
  exact ⟨fun a o h1 h2 q => by rw [now_get (no a o q)]; exact R.kp.keep a o h1 h2 q, fun a o t q => by rw [now_get (no a o q)]; exact R.kp.tf a o t q⟩
theorem Rel.back {ρ' : Rho} {pz' : Nat → Addr} {σ' : L2.St} (R : Rel Ts K G s ρ pz σ H) (R' : Rel Ts K (G.now ρ pz H) s' ρ' pz' σ' H') : Rel Ts K G s' ρ' pz' σ' H' := by
  refine ⟨R.fix, R.ts, ⟨R'.wd.dr, R'.wd.tab⟩, (now_ext R).trans ⟨R'.kp.keep, R'.kp.tf⟩, R'.len, fun i sl e => ?_, R'.inj, fun i ds e => ?_⟩
  · obtain ⟨v, e1, q⟩ := R'.at_ i sl e
    exact ⟨v, e1, q⟩
  · have h := R'.new i ds e
    cases q : G.H0 (pz' i) with
    | none => rfl
    | some o =>
      have nb := R'.notbad e
      have := (now_ext R).keep _ o (fun z => nb (.inl z)) (fun z => nb (.inr (.inr (.inl z)))) q
      rw [h] at this; cases this
end
end DV

set_option Elab.async false
set_option linter.all false
set_option maxRecDepth 100000
set_option maxHeartbeats 2000000
/-! values as data: statements -/
namespace DV
open PySem PySem.Spec PyProof.Rows L2

/-! ### targets -/
/-- y: it may be a pair that is taken apart at once -/
def AtF (y : Bool) (K : KW) (bad : Addr → Prop) (H : Hp) (v : V) (d : D) : Prop := match y with
  | false => At K bad H v d
  | true => At K bad H v d ∨ ∃ a xs ds, v = .ref a ∧ H a = some (.tup xs) ∧ d = .tuple ds ∧ AtL K bad H xs ds
theorem At.f {y : Bool} {K : KW} {bad : Addr → Prop} {H : Hp} {v : V} {d : D} (h : At K bad H v d) : AtF y K bad H v d := by
  cases y with
  | false => exact h
  | true => exact .inl h
theorem AtF.both {y : Bool} {K : KW} {bad : Addr → Prop} {H : Hp} {v : V} {d : D} (h : AtF y K bad H v d) : At K bad H v d ∨ ∃ a xs ds, v = .ref a ∧ H a = some (.tup xs) ∧ d = .tuple ds ∧ AtL K bad H xs ds := by
  cases y with
  | false => exact .inl h
  | true => exact h
def DG (y : Bool) (Ts : List Addr) (X : Cx) (tg : Expr) (is : List Nat) (h : D → Rho → Option Rho) : Prop := ∃ g, PG X tg g ∧ ∀ (G : Gh) (s : DS) (ρ : Rho) (pz : Nat → Addr) (σ : L2.St) (H : Hp) (v : V) (d : D) (Q : L2.St → Hp → Prop), Rel Ts X.KW G s ρ pz σ H → AtF y X.KW (badE G ρ pz) H v d →
  (match h d ρ with
    | some ρ' => ∀ σ', Rel Ts X.KW G s ρ' pz σ' H → (∀ a, badE G ρ' pz a → badE G ρ pz a) → (∀ i, i ∉ is → σ'[i]? = σ[i]?) → σ'.length = σ.length → Q σ' H
    | none => False) → g v σ H Q
def DGs (Ts : List Addr) (X : Cx) (tgs : List Expr) (is : List Nat) (h : List D → Rho → Option Rho) : Prop := ∃ g, PGs X tgs g ∧ ∀ (G : Gh) (s : DS) (ρ : Rho) (pz : Nat → Addr) (σ : L2.St) (H : Hp) (vs : List V) (ds : List D) (Q : L2.St → Hp → Prop), Rel Ts X.KW G s ρ pz σ H → AtL X.KW (badE G ρ pz) H vs ds →
  (match h ds ρ with
    | some ρ' => ∀ σ', Rel Ts X.KW G s ρ' pz σ' H → (∀ a, badE G ρ' pz a → badE G ρ pz a) → (∀ i, i ∉ is → σ'[i]? = σ[i]?) → σ'.length = σ.length → Q σ' H
    | none => False) → g vs σ H Q
def setV (i : Nat) (d : D) (ρ : Rho) : Option Rho := some (ρ.set i (some (.val d)))
section
variable {Ts : List Addr} {X : Cx} {pos : Pos}
theorem dg_name (i : Nat) {x : Str} (hN : X.N.Nodup) (hi : X.N[i]? = some x := by rfl) (hx : Loc X.env.scope x := by first | exact Or.inl rfl | exact Or.inr rfl) (hf : X.fn x = true ∨ X.env.scope.names.lookup x = some .local := by first | exact .inl rfl | exact .inr rfl) : DG false Ts X (.Name x pos) [i] (setV i) := by
  refine ⟨_, pg_name hN hi hx hf, fun G s ρ pz σ H v d Q R a h => ?_⟩
  exact h _ (R.set i a) (fun b z => bad_set (fun ds z => by cases z) z) (fun j hj => List.getElem?_set_ne fun e => hj (by rw [e]; exact List.mem_singleton.mpr rfl)) (List.length_set ..)
theorem dgs_nil : DGs Ts X [] [] (fun ds ρ => match ds with | [] => some ρ | _ => none) := by
  refine ⟨_, pgs_nil, fun G s ρ pz σ H vs ds Q R a h => ?_⟩
  cases a with
  | nil => exact ⟨rfl, h σ R (fun _ z => z) (fun _ _ => rfl) rfl⟩
  | cons _ _ => exact h.elim
theorem dgs_cons {e : Expr} {es : List Expr} {h1 : D → Rho → Option Rho} {h2 : List D → Rho → Option Rho} {i1 i2 : List Nat} (a : DG false Ts X e i1 h1) (b : DGs Ts X es i2 h2) (hs : (assignEach (e :: es) X.env).map (·.2) = assign e X.env :: (assignEach es X.env).map (·.2) := by rfl) : DGs Ts X (e :: es) (i1 ++ i2) (fun ds ρ => match ds with | d :: r => (h1 d ρ).bind (h2 r) | [] => none) := by
  obtain ⟨g1, p1, q1⟩ := a
  obtain ⟨g2, p2, q2⟩ := b
  refine ⟨_, pgs_cons p1 p2 hs, fun G s ρ pz σ H vs ds Q R l h => ?_⟩
  cases l with
  | nil => exact h.elim
  | cons a1 l =>
    refine ⟨_, _, rfl, q1 G s ρ pz σ H _ _ _ R a1 ?_⟩
    have h := h
    dsimp only at h
    cases e1 : h1 _ ρ with
    | none => rw [e1] at h; exact h.elim
    | some ρ1 =>
      rw [e1] at h
      intro σ1 R1 s1 k1 n1
      refine q2 G s ρ1 pz σ1 H _ _ Q R1 (l.mono (fun _ _ _ q => q) (fun _ _ _ q => q) fun a n _ z => n (s1 a z)) ?_
      have h : match h2 _ ρ1 with | some ρ' => _ | none => False := h
      cases e2 : h2 _ ρ1 with
      | none => rw [e2] at h; exact h.elim
      | some ρ2 =>
        rw [e2] at h
        exact fun σ2 R2 s2 k2 n2 => h σ2 R2 (fun a z => s1 a (s2 a z)) (fun j hj => (k2 j fun z => hj (List.mem_append_right _ z)).trans (k1 j fun z => hj (List.mem_append_left _ z))) (n2.trans n1)
def seqT (h : List D → Rho → Option Rho) (d : D) (ρ : Rho) : Option Rho := match d with
  | .tuple ds => h ds ρ
  | .list ds => h ds ρ
  | _ => none
theorem pg_or {tg : Expr} {g1 g2 : TG} (a : PG X tg g1) (b : PG X tg g2) : PG X tg (fun v σ H Q => g1 v σ H Q ∨ g2 v σ H Q) := by
  refine ⟨fun pins s σ H v u Q I r h => ?_⟩
  rcases h with h | h
  · exact a.run pins s σ H v u Q I r h
  · exact b.run pins s σ H v u Q I r h
/-- the lengths agree where the targets take the values -/
theorem dgs_len {y : Bool} {es : List Expr} {is : List Nat} {h : List D → Rho → Option Rho} (n : Nat) (hl : ∀ ds ρ ρ', h ds ρ = some ρ' → ds.length = n) (b : DGs Ts X es is h) (hc : X.calm = true) {k : Nat} (pt : ∀ t, PGs X es t → PG X (.Tuple es k pos) (gTup X.K n t)) (pl : ∀ t, PGs X es t → PG X (.Tuple es k pos) (gLst X.K n t)) : DG y Ts X (.Tuple es k pos) is (seqT h) := by
  obtain ⟨g, p, q⟩ := b
  refine ⟨_, pg_or (pt _ p) (pl _ p), fun G s ρ pz σ H v d Q R a hh => ?_⟩
  unfold seqT at hh
  rcases a.both with a | ⟨a0, xs, ds, rfl, r, rfl, l⟩
  · cases a with
    | tup r l =>
      rename_i a0 xs ds
      have hh : match h ds ρ with | some ρ' => _ | none => False := hh
      refine .inl ⟨a0, xs, rfl, r.sq, ?_, q G s ρ pz σ H _ _ Q R l hh⟩
      cases e : h ds ρ with
      | none => rw [e] at hh; exact hh.elim
      | some ρ' => rw [l.len]; exact hl _ _ _ e
    | lst n0 r l =>
      rename_i a0 xs ds
      have hh : match h ds ρ with | some ρ' => _ | none => False := hh
      refine .inr ⟨a0, xs, rfl, SqL.of r, ?_, q G s ρ pz σ H _ _ Q R l hh⟩
      cases e : h ds ρ with
      | none => rw [e] at hh; exact hh.elim
      | some ρ' => rw [l.len]; exact hl _ _ _ e
    | _ => exact hh.elim
  · have hh : match h ds ρ with | some ρ' => _ | none => False := hh
    refine .inl ⟨a0, xs, rfl, SqT.of r, ?_, q G s ρ pz σ H _ _ Q R l hh⟩
    cases e : h ds ρ with
    | none => rw [e] at hh; exact hh.elim
    | some ρ' => rw [l.len]; exact hl _ _ _ e
theorem dg_tup {y : Bool} {es : List Expr} {is : List Nat} {h : List D → Rho → Option Rho} {k : Nat} (n : Nat) (b : DGs Ts X es is h) (hl : ∀ ds ρ ρ', h ds ρ = some ρ' → ds.length = n) (hc : X.calm = true) (hn : (assignEach es X.env).length = n := by rfl) (hst : (assignEach es X.env).findIdx? (·.1) = none := by rfl) : DG y Ts X (.Tuple es k pos) is (seqT h) :=
  dgs_len n hl b hc (fun t p => pg_tup hc p hn hst) fun t p => pg_lst hc p hn hst
/-- two and three names -/
theorem len_nil {ds : List D} {ρ ρ' : Rho} (h : (match ds with | [] => some ρ | _ => none) = some ρ') : ds.length = 0 := by
  cases ds with
  | nil => rfl
  | cons _ _ => cases h
theorem len_cons {h1 : D → Rho → Option Rho} {h2 : List D → Rho → Option Rho} {n : Nat} (l2 : ∀ ds ρ ρ', h2 ds ρ = some ρ' → ds.length = n) : ∀ (ds : List D) (ρ ρ' : Rho), (match ds with | d :: r => (h1 d ρ).bind (h2 r) | [] => none) = some ρ' → ds.length = n + 1 := fun ds ρ ρ' h => by
  cases ds with
  | nil => cases h
  | cons d r =>
    have h : (h1 d ρ).bind (h2 r) = some ρ' := h
    cases e : h1 d ρ with
    | none => rw [e] at h; cases h
    | some ρ1 => rw [e] at h; rw [List.length_cons, l2 r ρ1 ρ' h]
end

/-! ### statements -/
section
variable {Ts : List Addr} {X : Cx} {W : L2.WX} {pos : Pos} {e a b' : Expr} {f fa fb : Rho → M D} {g g1 g2 : Rho → M Out} {st : Stmt} {rest body orelse : List Stmt} {b : Bool} {tt : Rho → M Bool}
def seqS (g1 g2 : Rho → M Out) (ρ : Rho) : M Out := bnd (g1 ρ) fun o => match o with
  | .nx ρ' => g2 ρ'
  | o => ret o
/-- weaken what is wanted -/
theorem PostS.imp {G : Gh} {r : Res Out} {D1 D2 : Ends} (h : PostS Ts X W G r D1) (h1 : ∀ σ H, D1.nx σ H → D2.nx σ H) (h2 : ∀ v H, D1.rt v H → D2.rt v H) (h3 : ∀ σ H, D1.bk σ H → D2.bk σ H) (h4 : ∀ σ H, D1.ct σ H → D2.ct σ H) : PostS Ts X W G r D2 := by
  cases r with
  | stuck => exact h
  | exc e s => exact h
  | ok o s =>
    cases o with
    | nx ρ => exact fun pz σ H R => h1 _ _ (h pz σ H R)
    | rt d => exact fun v H w e a => h2 _ _ (h v H w e a)
    | bk ρ => exact fun pz σ H R => h3 _ _ (h pz σ H R)
    | ct ρ => exact fun pz σ H R => h4 _ _ (h pz σ H R)
/-- an expression within a statement -/
theorem PostG.stm {α : Type} {G : Gh} {s : DS} {ρ : Rho} {pz : Nat → Addr} {σ : L2.St} {H : Hp} {β : Type} {A : Hp → β → α → Prop} {m : M α} {k : α → M Out} {Dn : Ends} {Q : β → Hp → Prop} (R : Rel Ts X.KW G s ρ pz σ H) (h : PostS Ts X W G (DV.bnd m k s) Dn)
    (step : ∀ d s1 v H1, m s = .ok d s1 → Wd G s1 H1 → ExtO G H H1 → A H1 v d → PostS Ts X W G (k d s1) Dn → Q v H1) : PostG X W G σ H A (m s) Q := by
  unfold DV.bnd at h
  cases hm : m s with
  | ok d s1 => rw [hm] at h; exact fun v H1 w e a => step d s1 v H1 hm w e a h
  | exc x s1 => rw [hm] at h; exact fun C H' hc w e => h C σ H' hc w (R.kp.trans e)
  | stuck => rw [hm] at h; exact h
theorem dss_nil : DSs Ts X W [] (fun ρ => ret (.nx ρ)) := ⟨_, pss_nil, fun G s ρ pz σ H Dn R h => h pz σ H R⟩
theorem dss_one (h : DS1 Ts X W st g) : DSs Ts X W [st] g := by
  obtain ⟨t, p, q⟩ := h
  exact ⟨t, pss_one p, q⟩
theorem dss_cons (h1 : DS1 Ts X W st g1) (h2 : DSs Ts X W rest g2) : DSs Ts X W (st :: rest) (seqS g1 g2) := by
  obtain ⟨t1, p1, q1⟩ := h1
  obtain ⟨t2, p2, q2⟩ := h2
  refine ⟨_, pss_cons p1 p2, fun G s ρ pz σ H Dn R h => ?_⟩
  refine q1 G s ρ pz σ H { Dn with nx := t2 Dn } R ?_
  unfold seqS bnd at h
  cases hg : g1 ρ s with
  | stuck => rw [hg] at h; exact h
  | exc x s' => rw [hg] at h; exact h
  | ok o s' =>
    rw [hg] at h
    cases o with
    | nx ρ' => exact fun pz' σ' H' R' => q2 G s' ρ' pz' σ' H' Dn R' h
    | rt d => exact h
    | bk ρ' => exact h
    | ct ρ' => exact h
theorem ds_pass : DS1 Ts X W (.Pass pos) (fun ρ => ret (.nx ρ)) := ⟨_, ps_pass, fun G s ρ pz σ H Dn R h => h pz σ H R⟩
theorem ds_break : DS1 Ts X W (.Break pos) (fun ρ => ret (.bk ρ)) := ⟨_, ps_break, fun G s ρ pz σ H Dn R h => h pz σ H R⟩
theorem ds_cont : DS1 Ts X W (.Continue pos) (fun ρ => ret (.ct ρ)) := ⟨_, ps_continue, fun G s ρ pz σ H Dn R h => h pz σ H R⟩
theorem ds_expr (ha : DX Ts b X W a fa) (hs : swapsWith a none pos.line X.env = pure false := by rfl) : DS1 Ts X W (.Expr a pos) (fun ρ => bnd (fa ρ) fun _ => ret (.nx ρ)) := by
  obtain ⟨ta, pa, qa⟩ := ha
  refine ⟨_, ps_expr pa hs, fun G s ρ pz σ H Dn R h => ?_⟩
  exact qa G s ρ pz σ H _ R (PostG.stm R h fun d s1 v H1 hm1 w1 e1 a1 h1 => h1 pz σ H1 (R.ext w1 e1))
/-- return e: the def's own lists may be handed out -/
theorem ds_ret (ha : DX Ts true X W a fa) : DS1 Ts X W (.Return (some a) pos) (fun ρ => bnd (fa (frz ρ)) fun d => ret (.rt d)) := by
  obtain ⟨ta, pa, qa⟩ := ha
  refine ⟨_, ps_ret pa, fun G s ρ pz σ H Dn R h => ?_⟩
  refine qa G s (frz ρ) pz σ H _ R.frz (PostG.stm R.frz h fun d s1 v H1 hm1 w1 e1 a1 h1 => ?_)
  exact h1 v H1 w1 (R.kp.trans e1) (At.eqb a1 fun a z => .inl z)
theorem ds_retN : DS1 Ts X W (.Return none pos) (fun _ => ret (.rt .none)) := ⟨_, ps_retN, fun G s ρ pz σ H Dn R h => h .non H R.wd R.kp .non⟩
theorem ds_if (hc : DT Ts X W a tt) (h1 : DSs Ts X W body g1) (h2 : DSs Ts X W orelse g2) : DS1 Ts X W (.If a body orelse pos) (fun ρ => bnd (tt ρ) fun c => if c = true then g1 ρ else g2 ρ) := by
  obtain ⟨tc, pc, qc⟩ := hc
  obtain ⟨t1, p1, q1⟩ := h1
  obtain ⟨t2, p2, q2⟩ := h2
  refine ⟨_, ps_if pc p1 p2, fun G s ρ pz σ H Dn R h => ?_⟩
  refine qc G s ρ pz σ H _ R (PostG.stm R h fun c s1 c' H1 hm1 w1 e1 hcc h3 => ?_)
  subst hcc
  have R1 := R.ext w1 e1
  cases c' with
  | true => exact q1 G s1 ρ pz σ H1 Dn R1 h3
  | false => exact q2 G s1 ρ pz σ H1 Dn R1 h3
/-- target = e -/
theorem ds_asg {tg : Expr} {is : List Nat} {hh : D → Rho → Option Rho} (ha : DX Ts true X W a fa) (hg : DG false Ts X tg is hh) (hs : swapsWithSole [tg] a pos.line X.env = pure false := by rfl) (hw : swappedStores [tg] a X.env = pure none := by rfl) (hz : (assignEach [tg] X.env).map (·.2) = [assign tg X.env] := by rfl) : DS1 Ts X W (.Assign [tg] a pos) (fun ρ => bnd (fa ρ) fun d => bnd (lift (hh d ρ)) fun ρ' => ret (.nx ρ')) := by
  obtain ⟨ta, pa, qa⟩ := ha
  obtain ⟨g, pg, qg⟩ := hg
  refine ⟨_, ps_asg pa pg hs hw hz, fun G s ρ pz σ H Dn R h => ?_⟩
  refine qa G s ρ pz σ H _ R (PostG.stm R h fun d s1 v H1 hm1 w1 e1 a1 h1 => ?_)
  have R1 := R.ext w1 e1
  refine qg G s1 ρ pz σ H1 v d _ R1 a1 ?_
  cases e : hh d ρ with
  | none => rw [e] at h1; exact h1.elim
  | some ρ' => rw [e] at h1; exact fun σ' R' _ _ _ => h1 pz σ' H1 R'
/-- x = e -/
theorem ds_set (i : Nat) {x : Str} {px : Pos} (ha : DX Ts true X W a fa) (hN : X.N.Nodup) (hi : X.N[i]? = some x := by rfl) (hx : Loc X.env.scope x := by first | exact Or.inl rfl | exact Or.inr rfl) (hs : swapsWith a (some (.Name x px)) pos.line X.env = pure false := by rfl) (hf : X.fn x = true ∨ X.env.scope.names.lookup x = some .local := by first | exact .inl rfl | exact .inr rfl) :
    DS1 Ts X W (.Assign [.Name x px] a pos) (fun ρ => bnd (fa ρ) fun d => ret (.nx (ρ.set i (some (.val d))))) := by
  obtain ⟨ta, pa, qa⟩ := ha
  refine ⟨_, ps_set hN hi hx pa hs hf, fun G s ρ pz σ H Dn R h => ?_⟩
  exact qa G s ρ pz σ H _ R (PostG.stm R h fun d s1 v H1 hm1 w1 e1 a1 h1 => h1 pz _ H1 ((R.ext w1 e1).set i a1))
/-- a, b = e1, e2 -/
theorem ds_par (i j : Nat) {x y : Str} (ha : DX Ts true X W a fa) (hb : DX Ts true X W b' fb) (hc : X.calm = true) (hN : X.N.Nodup) (hi : X.N[i]? = some x) (hj : X.N[j]? = some y) (hij : i ≠ j)
    (par : ∀ ta, PA X [a, b'] ta → PS X st (tPar i j ta)) (hs1 : starEach [a, b'] X.env = (false, eval a X.env) :: starEach [b'] X.env := by rfl) (hs2 : starEach [b'] X.env = (false, eval b' X.env) :: starEach [] X.env := by rfl) :
    DS1 Ts X W st (fun ρ => bnd (fa ρ) fun d => bnd (fb ρ) fun d2 => ret (.nx ((ρ.set i (some (.val d))).set j (some (.val d2))))) := by
  obtain ⟨ta, pa, qa⟩ := ha
  obtain ⟨tb, pb, qb⟩ := hb
  refine ⟨_, par _ (pa_cons pa (pa_cons pb pa_nil hs2) hs1), fun G s ρ pz σ H Dn R h => ?_⟩
  refine qa G s ρ pz σ H _ R (PostG.stm R h fun d s1 v H1 hm1 w1 e1 a1 h1 => ?_)
  have R1 := R.ext w1 e1
  refine qb G s1 ρ pz σ H1 _ R1 (PostG.stm R1 h1 fun d2 s2 v2 H2 hm2 w2 e2 a2 h2 => ?_)
  have R2 := R1.ext w2 e2
  refine ⟨v, v2, rfl, h2 pz _ H2 ((R2.set i (At.ext a1 e2)).set j (At.eqb a2 fun a z => bad_set (fun ds z => by cases z) z))⟩

/-! ### lists of one's own -/
/-- an expression that makes a new list -/
def DF (Ts : List Addr) (X : Cx) (W : L2.WX) (e : Expr) (f : Rho → M (List D)) : Prop := ∃ t, PE X e t ∧ ∀ (G : Gh) (s : DS) (ρ : Rho) (pz : Nat → Addr) (σ : L2.St) (H : Hp) (Q : VK), Rel Ts X.KW G s ρ pz σ H →
  PostG X W G σ H (fun H' v ds => ∃ p vs, v = V.ref p ∧ H p = none ∧ H' p = some (.lst vs) ∧ AtL X.KW (fun a => badE G ρ pz a ∨ a = p) H' vs ds) (f ρ s) Q → t σ H Q
theorem ds_own (i : Nat) {x : Str} {px : Pos} {ff : Rho → M (List D)} (ha : DF Ts X W a ff) (hN : X.N.Nodup) (hi : X.N[i]? = some x := by rfl) (hx : Loc X.env.scope x := by first | exact Or.inl rfl | exact Or.inr rfl) (hs : swapsWith a (some (.Name x px)) pos.line X.env = pure false := by rfl) (hf : X.fn x = true ∨ X.env.scope.names.lookup x = some .local := by first | exact .inl rfl | exact .inr rfl) :
    DS1 Ts X W (.Assign [.Name x px] a pos) (fun ρ => bnd (ff ρ) fun ds => ret (.nx (ρ.set i (some (.own (.list ds)))))) := by
  obtain ⟨ta, pa, qa⟩ := ha
  refine ⟨_, ps_set hN hi hx pa hs hf, fun G s ρ pz σ H Dn R h => ?_⟩
  refine qa G s ρ pz σ H _ R (PostG.stm R h fun ds s1 v H1 hm1 w1 e1 ⟨p, vs, ev, hp, hv, l⟩ h1 => ?_)
  subst ev
  exact h1 _ _ H1 (R.own w1 e1 i (ds := .list ds) hp ⟨vs, hv, l⟩)
theorem AtL.fresh {K : KW} {bad : Addr → Prop} {H0 H H' : Hp} {vs : List V} {ds : List D} {p : Addr} (l : AtL K bad H vs ds) (hp : H p = none) (e : Same H H') : AtL K (fun a => bad a ∨ a = p) H' vs ds :=
  l.mono (fun a o _ q => e a o q) (fun a o _ q => e a o q) fun a n ⟨o, q⟩ z => by
    rcases z with z | z
    · exact n z
    · rw [z, hp] at q; cases q
theorem df_lst {es : List Expr} {fs : Rho → M (List D)} (h : DA Ts true X W es fs) : DF Ts X W (.List es pos) (fun ρ => bnd (fs ρ) fun ds => if ds.length ≤ 100000 then ret ds else stk) := by
  obtain ⟨t, p, q⟩ := h
  refine ⟨_, pe_lst p, fun G s ρ pz σ H Q R h => ?_⟩
  refine q G s ρ pz σ H _ R (PostG.bnd h fun ds s1 vs H1 hm1 w1 e1 a1 h1 => ?_)
  have R1 := R.ext w1 e1
  have l := paired_atL a1
  split at h1
  · rename_i hz
    refine ⟨by rw [l.len]; exact line5 hz, fun p hp => h1 _ _ (w1.new hp) (.new hp) ⟨p, vs, rfl, ?_, upd_same, l.fresh (H0 := H) hp (same_new hp)⟩⟩
    cases q : H p with
    | none => rfl
    | some o =>
      exfalso
      by_cases z1 : p = G.dr
      · obtain ⟨o, e⟩ := R1.trk p (.inl (.inl z1)); rw [hp] at e; cases e
      · by_cases z2 : p ∈ G.tabs
        · obtain ⟨o, e⟩ := R1.trk p (.inl (.inr (.inr (.inl z2)))); rw [hp] at e; cases e
        · have := e1.keep p o z1 z2 q; rw [hp] at this; cases this
  · exact h1.elim
theorem Rel.was {G : Gh} {s1 : DS} {ρ : Rho} {pz : Nat → Addr} {σ : L2.St} {H H1 : Hp} {p : Addr} (R1 : Rel Ts X.KW G s1 ρ pz σ H1) (e1 : ExtO G H H1) (hp : H1 p = none) : H p = none := by
  cases q : H p with
  | none => rfl
  | some o =>
    exfalso
    by_cases z1 : p = G.dr
    · obtain ⟨o, e⟩ := R1.trk p (.inl (.inl z1)); rw [hp] at e; cases e
    · by_cases z2 : p ∈ G.tabs
      · obtain ⟨o, e⟩ := R1.trk p (.inl (.inr (.inr (.inl z2)))); rw [hp] at e; cases e
      · have := e1.keep p o z1 z2 q; rw [hp] at this; cases this
/-- list(e) -/
theorem df_list {p : Pos} (ha : DX Ts b X W a fa) (hg : Gl X "list") (hm : X.mg "list" = none) (hv : bootBuiltins "list" = some (.type "list") := by decide +kernel) (he : starEach [a] X.env = (false, eval a X.env) :: starEach [] X.env := by rfl) (hpl : (backTo pos (starEach [] X.env)).any (·.1) = false := by rfl) :
    DF Ts X W (.Call (.Name "list" p) [a] [] pos) (fun ρ => bnd (fa ρ) fun d => match d with | .list ds => ret ds | .tuple ds => ret ds | _ => stk) := by
  obtain ⟨t, pt, q⟩ := ha
  refine ⟨_, pe_callTy call_list_of hg hm hv (pa_cons pt pa_nil he) (by decide) (by decide) he hpl, fun G s ρ pz σ H Q R h => ?_⟩
  refine q G s ρ pz σ H _ R (PostG.bnd h fun d s1 v H1 hm1 w1 e1 a1 h1 => ?_)
  have R1 := R.ext w1 e1
  have x1 := a1.w R1
  cases d with
  | list ds =>
    obtain ⟨p, vs, rfl, ho, l⟩ := x1.lst
    exact ⟨p, vs, rfl, .inl (SqL.of ho), fun p' hp => h1 _ _ (w1.new hp) (.new hp) ⟨p', vs, rfl, R1.was e1 hp, upd_same, l.fresh (H0 := H) hp (same_new hp)⟩⟩
  | tuple ds =>
    obtain ⟨p, vs, rfl, _, ho, l⟩ := x1.tup
    exact ⟨p, vs, rfl, .inr ho, fun p' hp => h1 _ _ (w1.new hp) (.new hp) ⟨p', vs, rfl, R1.was e1 hp, upd_same, l.fresh (H0 := H) hp (same_new hp)⟩⟩
  | _ => exact h1.elim
/-- [e, ..] * n -/
theorem df_rep {ff : Rho → M (List D)} {es : List Expr} {p1 : Pos} (ha : DF Ts X W (.List es p1) ff) (hb : DX Ts b X W b' fb) : DF Ts X W (.BinOp (.List es p1) .Mult b' pos) (fun ρ => bnd (ff ρ) fun ds => bnd (fb ρ) fun d => match d with
    | .int k => if -(2 ^ 63) ≤ k ∧ k < 2 ^ 63 ∧ ds.length * k.toNat ≤ 16000000 then ret (repD ds k) else stk
    | _ => stk) := by
  obtain ⟨ta, pa, qa⟩ := ha
  obtain ⟨tb, pb, qb⟩ := hb
  refine ⟨_, pe_op op_rep pa pb, fun G s ρ pz σ H Q R h => ?_⟩
  refine qa G s ρ pz σ H _ R (PostG.bnd h fun ds s1 v H1 hm1 w1 e1 ⟨p, vs, ev, hp, hv, l⟩ h1 => ?_)
  subst ev
  have R1 := R.ext w1 e1
  have nb : ¬ G.bad p := fun z => by
    obtain ⟨o, e⟩ := R.trk p (.inl z)
    rw [hp] at e; cases e
  refine qb G s1 ρ pz σ H1 _ R1 (PostG.bnd h1 fun d2 s2 v2 H2 hm2 w2 e2 a2 h2 => ?_)
  have R2 := R1.ext w2 e2
  cases d2 with
  | int k =>
    have h2 : PostG X W G σ H2 _ ((if -(2 ^ 63) ≤ k ∧ k < 2 ^ 63 ∧ ds.length * k.toNat ≤ 16000000 then ret (repD ds k) else stk) s2) Q := h2
    split at h2
    · rename_i hc
      have l2 : AtL X.KW (badE G ρ pz) H2 vs ds := l.mono (fun a o n q => e2.keep a o (fun z => n (.inl (by rw [z]; exact badE_dr))) (fun z => n (.inl (badE_tab z))) q) e2.tf fun a n _ z => n (.inl z)
      refine ⟨p, k, vs, rfl, (a2.w R2).int, e2.keep _ _ (fun z => nb (.inl z)) (fun z => nb (.inr (.inr (.inl z)))) hv, hc.1, hc.2.1, by rw [l2.len, sizeLine_eq]; omega, fun p' hp' => ?_⟩
      exact h2 _ _ (w2.new hp') (.new hp') ⟨p', _, rfl, R2.was (e1.trans e2) hp', upd_same, (l2.flat _).fresh (H0 := H) hp' (same_new hp')⟩
    · exact h2.elim
  | _ => exact h2.elim
/-- the list of one's own at i -/
def ownS (ρ : Rho) (i : Nat) : M (List D) := match ρ[i]? with
  | some (some (.own (.list ds))) => ret ds
  | _ => stk
theorem ownS_of {G : Gh} {s : DS} {ρ : Rho} {pz : Nat → Addr} {σ : L2.St} {H : Hp} {i : Nat} {k : List D → M Out} {Dn : Ends} (R : Rel Ts X.KW G s ρ pz σ H) (h : PostS Ts X W G (bnd (ownS ρ i) k s) Dn) :
    ∃ ds vs, ρ[i]? = some (some (.own (.list ds))) ∧ σ[i]? = some (some (.ref (pz i))) ∧ H (pz i) = some (.lst vs) ∧ AtL X.KW (badE G ρ pz) H vs ds ∧ PostS Ts X W G (k ds s) Dn := by
  unfold ownS at h
  rcases hr : ρ[i]? with _ | (_ | (d | (_ | _ | _ | _ | ds | _ | _) | _ | _ | _)) <;> rw [hr] at h <;> first | exact h.elim | skip
  obtain ⟨v, e1, e2, vs, e3, l⟩ := R.at_ i _ hr
  subst e2
  exact ⟨ds, vs, rfl, e1, e3, l, h⟩
theorem Rel.ownNow {G : Gh} {s : DS} {ρ : Rho} {pz : Nat → Addr} {σ : L2.St} {H : Hp} {i : Nat} {ds : List D} (R : Rel Ts X.KW G s ρ pz σ H) (h : ρ[i]? = some (some (.own (.list ds)))) : ∃ vs, H (pz i) = some (.lst vs) ∧ AtL X.KW (badE G ρ pz) H vs ds := by
  obtain ⟨v, e1, e2, vs, e3, l⟩ := R.at_ i _ h
  exact ⟨vs, e3, l⟩
/-- x.append(e), x a list of one's own -/
theorem ds_append (i : Nat) {x : Str} {px apos cpos : Pos} (ha : DX Ts true X W a fa) (hN : X.N[i]? = some x := by rfl) (hv : Vis X.env.scope x := by first | exact Or.inl rfl | exact Or.inr (Or.inl rfl) | exact Or.inr (Or.inr rfl)) (hd : (x == ("__debug__" : Str)) = false := by decide) (hcd : (x == ("__classdict__" : Str)) = false := by decide)
    (bm : ∀ {to : TE} {t : TA}, PE X (.Name x px) to → PA X [a] t → PE X (.Call (.Attribute (.Name x px) "append" apos) [a] [] cpos) (tBM X.K "list" rAppend to t) := by exact fun p q => pe_bm PySem.F.plainAttrs_list PySem.F.slot_list_append PySem.F.type_list_append mt_append p q)
    (hs : swapsWith (.Call (.Attribute (.Name x px) "append" apos) [a] [] cpos) none pos.line X.env = pure false := by rfl) (he : starEach [a] X.env = (false, eval a X.env) :: starEach [] X.env := by rfl) :
    DS1 Ts X W (.Expr (.Call (.Attribute (.Name x px) "append" apos) [a] [] cpos) pos) (fun ρ => bnd (ownS ρ i) fun ds => bnd (fa ρ) fun d => if ds.length < 16000000 then ret (.nx (ρ.set i (some (.own (.list (ds ++ [d])))))) else stk) := by
  obtain ⟨ta, pa, qa⟩ := ha
  refine ⟨_, ps_expr (bm (pe_var hN hv hd hcd) (pa_cons pa pa_nil he)) hs, fun G s ρ pz σ H Dn R h => ?_⟩
  obtain ⟨ds, vs, hr, es, ho, l, h⟩ := ownS_of R h
  refine ⟨_, es, .inl ⟨rfl, _, .inl (.inl ho)⟩, qa G s ρ pz σ H _ R (PostG.stm R h fun d s1 v H1 hm1 w1 e1 a1 h1 => ?_)⟩
  have R1 := R.ext w1 e1
  obtain ⟨vs1, ho1, l1⟩ := R1.ownNow hr
  split at h1
  · rename_i hz
    refine ⟨pz i, vs1, v, rfl, rfl, ho1, by rw [l1.len, sizeLine_eq]; omega, ?_⟩
    exact h1 pz σ _ (R1.put i hr ⟨_, upd_same, (l1.app (.one a1)).updOwn (.inr ⟨i, _, hr, rfl⟩) fun u q => by rw [ho1] at q; cases q; rfl⟩)
  · exact h1.elim
/-- x[j] = e -/
theorem ds_setix (i : Nat) {x : Str} {px ppos : Pos} {j : Expr} {fj : Rho → M D} (ha : DX Ts true X W a fa) (hj : DX Ts b X W j fj) (hN : X.N[i]? = some x := by rfl) (hv : Vis X.env.scope x := by first | exact Or.inl rfl | exact Or.inr (Or.inl rfl) | exact Or.inr (Or.inr rfl)) (hd : (x == ("__debug__" : Str)) = false := by decide) (hcd : (x == ("__classdict__" : Str)) = false := by decide)
    (ps : ∀ {te to ti : TE}, PE X a te → PE X (.Name x px) to → PE X j ti → PS X st (tAsg te (gSub to ti rSetL))) :
    DS1 Ts X W st (fun ρ => bnd (fa ρ) fun d => bnd (ownS ρ i) fun _ => bnd (fj ρ) fun jd => bnd (ownS ρ i) fun ds => match jd with
      | .int k => (match ixN ds.length k with
        | some m => ret (Out.nx (ρ.set i (some (.own (.list (ds.set m d))))))
        | none => stk)
      | _ => stk) := by
  obtain ⟨ta, pa, qa⟩ := ha
  obtain ⟨tj, pj, qj⟩ := hj
  refine ⟨_, ps pa (pe_var hN hv hd hcd) pj, fun G s ρ pz σ H Dn R h => ?_⟩
  refine qa G s ρ pz σ H _ R (PostG.stm R h fun d s1 v H1 hm1 w1 e1 a1 h1 => ?_)
  have R1 := R.ext w1 e1
  obtain ⟨ds, vs, hr, es, ho, l, h2⟩ := ownS_of R1 h1
  refine ⟨_, es, qj G s1 ρ pz σ H1 _ R1 (PostG.stm R1 h2 fun jd s2 v2 H2 hm2 w2 e2 a2 h3 => ?_)⟩
  have R2 := R1.ext w2 e2
  obtain ⟨ds2, vs2, hr2, _, ho2, l2, h4⟩ := ownS_of R2 h3
  rw [hr] at hr2
  cases hr2
  have x2 := a2.w R2
  cases jd with
  | int k =>
    have h4 : PostS Ts X W G ((match ixN ds.length k with
        | some m => ret (Out.nx (ρ.set i (some (.own (.list (ds.set m d))))))
        | none => stk) s2) Dn := h4
    cases hx : ixN ds.length k with
    | none => rw [hx] at h4; exact h4.elim
    | some m =>
      rw [hx] at h4
      refine ⟨pz i, vs2, k, m, rfl, x2.int, ho2, by rw [l2.len]; exact hx, ?_⟩
      exact h4 pz σ _ (R2.put i hr ⟨_, upd_same, (l2.set m (At.ext a1 e2)).updOwn (.inr ⟨i, _, hr, rfl⟩) fun u q => by rw [ho2] at q; cases q; rfl⟩)
  | _ => exact h4.elim
/-- raise C('..') -/
theorem ds_raise {t : L2.St → Hp → XK → Prop} {C : Addr} {x : Str} (hc : X.calm = true) (tk : L2N.Takes X W) (he : L2N.PMk X a t) (ht : ∀ σ H Q, Q (.ref C) none H → t σ H Q) (hm : X.mg x = some (.ref C)) : DS1 Ts X W (.Raise (some a) none pos) (fun _ => thr x) := by
  refine ⟨_, L2N.ps_raise hc tk he, fun G s ρ pz σ H Dn R h => ?_⟩
  exact ht σ H _ (h C σ H hm R.wd R.kp)
end

/-! ### loops -/
/-- what a loop walks, from a heap B on -/
def JOk (y : Bool) (K : KW) (G : Gh) (B : Hp) (J : It) (ds : List D) : Prop := ∀ H2, ExtO G B H2 → J.stop ds.length H2 ∧ ∀ k d, ds[k]? = some d → J.go k H2 ∧ ∀ x H3, J.yld k H2 x H3 → Same H2 H3 ∧ ∀ bad' : Addr → Prop, (∀ a, bad' a → G.bad a ∨ B a = none) → AtF y K bad' H3 x d
def DI (y : Bool) (Ts : List Addr) (X : Cx) (W : L2.WX) (tg iter : Expr) (f : Rho → M (List D)) : Prop := ∃ wi, PI X tg iter wi ∧ ∀ (G : Gh) (s : DS) (ρ : Rho) (pz : Nat → Addr) (σ : L2.St) (H : Hp) (R : It → Hp → Prop), Rel Ts X.KW G s ρ pz σ H →
  PostG X W G σ H (fun H' J ds => JOk y X.KW G (G.now ρ pz H').H0 J ds) (f ρ s) R → wi σ H R
/-- the loop: over the items; each is stored, the body done -/
def forD (hh : D → Rho → Option Rho) (body : Rho → M Out) : List D → Rho → M Out
  | [], ρ => ret (.nx ρ)
  | d :: ds, ρ => bnd (lift (hh d ρ)) fun ρ1 => bnd (body ρ1) fun o => match o with
    | .nx ρ2 => forD hh body ds ρ2
    | .ct ρ2 => forD hh body ds ρ2
    | .bk ρ2 => ret (.nx ρ2)
    | .rt d => ret (.rt d)
section
variable {Ts : List Addr} {X : Cx} {W : L2.WX} {pos : Pos} {tg iter : Expr} {fi : Rho → M (List D)} {hh : D → Rho → Option Rho} {is : List Nat} {g : Rho → M Out} {body : List Stmt} {y : Bool}
theorem drop_at {α : Type} {l : List α} {i : Nat} (h : i < l.length) : ∃ d, l[i]? = some d ∧ l.drop i = d :: l.drop (i + 1) := ⟨l[i], List.getElem?_eq_getElem h, List.drop_eq_getElem_cons h⟩
theorem ds_for (hp : PassesOwn (model X.prog X.w) X.A X.env X.xe) (hc : X.calm = true) (hi : DI y Ts X W tg iter fi) (hg : DG y Ts X tg is hh) (hb : DSs Ts X W body g) (hs : ∀ x, foldedSetIterable iter X.env x = pure x := by intro _; rfl) :
    DS1 Ts X W (.For tg iter body [] pos) (fun ρ => bnd (fi ρ) fun ds => forD hh g ds ρ) := by
  obtain ⟨wi, pi, qi⟩ := hi
  obtain ⟨tgt, pg, qg⟩ := hg
  obtain ⟨tb, pb, qb⟩ := hb
  refine ⟨_, ps_for hp hc pi pg pb hs, fun G s ρ pz σ H Dn R h => ?_⟩
  refine qi G s ρ pz σ H _ R (PostG.stm R h fun ds s1 J H1 hm1 w1 e1 jok h1 => ?_)
  have R1 := R.ext w1 e1
  have RN := R1.now
  refine ⟨fun i m σ' H' => m = ds.length - i ∧ i ≤ ds.length ∧ ∃ ρ' pz' s', Rel Ts X.KW (G.now ρ pz H1) s' ρ' pz' σ' H' ∧ PostS Ts X W G (forD hh g (ds.drop i) ρ' s') Dn, ⟨_, rfl, Nat.zero_le _, ρ, pz, s1, RN, by rw [List.drop_zero]; exact h1⟩, ?_⟩
  rintro i m σ' H' ⟨rfl, hi, ρ', pz', s', R', h'⟩
  obtain ⟨stp, gos⟩ := jok H' ⟨R'.kp.keep, R'.kp.tf⟩
  by_cases hlt : i < ds.length
  · obtain ⟨d, hd, hdrop⟩ := drop_at hlt
    obtain ⟨go, yld⟩ := gos i d hd
    rw [hdrop] at h'
    refine .inr ⟨go, fun σ2 H2 => ∃ ρ2 pz2 s2, Rel Ts X.KW (G.now ρ pz H1) s2 ρ2 pz2 σ2 H2 ∧ PostS Ts X W G (forD hh g (ds.drop (i + 1)) ρ2 s2) Dn, fun σ2 H2 ⟨ρ2, pz2, s2, R2, h2⟩ => ⟨_, by omega, rfl, hlt, ρ2, pz2, s2, R2, h2⟩, fun x H3 y => ?_⟩
    obtain ⟨same, atx⟩ := yld x H3 y
    have R3 := R'.ext (R'.wd.same same) (.same same)
    refine qg (G.now ρ pz H1) s' ρ' pz' σ' H3 x d _ R3 (atx _ fun a z => ?_) ?_
    · rcases z with z | ⟨j, es, ej, e2⟩
      · exact .inl z
      · right
        have := R'.new j es ej
        rw [e2] at this
        exact this
    · have h' : PostS Ts X W G (bnd (lift (hh d ρ')) (fun ρ1 => bnd (g ρ1) fun o => match o with
        | .nx ρ2 => forD hh g (ds.drop (i + 1)) ρ2
        | .ct ρ2 => forD hh g (ds.drop (i + 1)) ρ2
        | .bk ρ2 => ret (.nx ρ2)
        | .rt d => ret (.rt d)) s') Dn := h'
      cases eh : hh d ρ' with
      | none => rw [eh] at h'; exact h'.elim
      | some ρ1 =>
        rw [eh] at h'
        have h' : PostS Ts X W G (bnd (g ρ1) (fun o => match o with
          | .nx ρ2 => forD hh g (ds.drop (i + 1)) ρ2
          | .ct ρ2 => forD hh g (ds.drop (i + 1)) ρ2
          | .bk ρ2 => ret (.nx ρ2)
          | .rt d => ret (.rt d)) s') Dn := h'
        intro σ1 Rt _ _ _
        refine qb (G.now ρ pz H1) s' ρ1 pz' σ1 H3 _ Rt ?_
        unfold bnd at h'
        cases eg : g ρ1 s' with
        | stuck => rw [eg] at h'; exact h'
        | exc e s2 => rw [eg] at h'; exact fun C σ2 H2 hcc w2 e2 => h' C σ2 H2 hcc ⟨w2.dr, w2.tab⟩ ((now_ext R1).trans ⟨e2.keep, e2.tf⟩)
        | ok o s2 =>
          rw [eg] at h'
          cases o with
          | nx ρ2 => exact fun pz2 σ2 H2 R2 => ⟨ρ2, pz2, s2, R2, h'⟩
          | ct ρ2 => exact fun pz2 σ2 H2 R2 => ⟨ρ2, pz2, s2, R2, h'⟩
          | bk ρ2 => exact fun pz2 σ2 H2 R2 => h' pz2 σ2 H2 (R1.back R2)
          | rt d2 => exact fun v H2 w2 e2 a2 => h' v H2 ⟨w2.dr, w2.tab⟩ ((now_ext R1).trans ⟨e2.keep, e2.tf⟩) a2
  · have e : i = ds.length := by omega
    subst e
    rw [List.drop_length] at h'
    exact .inl ⟨stp, h' pz' σ' H' (R1.back R')⟩
/-- while, with fuel -/
def whileD (t : Rho → M Bool) (body : Rho → M Out) : Nat → Rho → M Out
  | 0, _ => stk
  | n + 1, ρ => bnd (t ρ) fun c => if c = true then bnd (body ρ) fun o => match o with
      | .nx ρ2 => whileD t body n ρ2
      | .ct ρ2 => whileD t body n ρ2
      | .bk ρ2 => ret (.nx ρ2)
      | .rt d => ret (.rt d)
    else ret (.nx ρ)
theorem ds_while {a : Expr} {tt : Rho → M Bool} (n : Nat) (hp : PassesOwn (model X.prog X.w) X.A X.env X.xe) (ht : DT Ts X W a tt) (hb : DSs Ts X W body g) : DS1 Ts X W (.While a body [] pos) (fun ρ => whileD tt g n ρ) := by
  obtain ⟨tc, pc, qc⟩ := ht
  obtain ⟨tb, pb, qb⟩ := hb
  refine ⟨_, ps_while hp pc pb, fun G s ρ pz σ H Dn R h => ?_⟩
  refine ⟨fun m σ' H' => ∃ ρ' pz' s', Rel Ts X.KW G s' ρ' pz' σ' H' ∧ PostS Ts X W G (whileD tt g m ρ' s') Dn, ⟨n, ρ, pz, s, R, h⟩, ?_⟩
  rintro m σ' H' ⟨ρ', pz', s', R', h'⟩
  cases m with
  | zero => exact h'.elim
  | succ m =>
    refine qc G s' ρ' pz' σ' H' _ R' (PostG.stm R' h' fun c s1 c' H1 hm1 w1 e1 hcc h1 => ?_)
    subst hcc
    have R1 := R'.ext w1 e1
    cases c' with
    | false => exact h1 pz' σ' H1 R1
    | true =>
      refine iteT ⟨fun σ2 H2 => ∃ ρ2 pz2 s2, Rel Ts X.KW G s2 ρ2 pz2 σ2 H2 ∧ PostS Ts X W G (whileD tt g m ρ2 s2) Dn, fun σ2 H2 z => ⟨m, Nat.lt_succ_self m, z⟩, ?_⟩
      refine qb G s1 ρ' pz' σ' H1 _ R1 ?_
      have h1 : PostS Ts X W G (bnd (g ρ') (fun o => match o with
        | .nx ρ2 => whileD tt g m ρ2
        | .ct ρ2 => whileD tt g m ρ2
        | .bk ρ2 => ret (.nx ρ2)
        | .rt d => ret (.rt d)) s1) Dn := h1
      unfold bnd at h1
      cases eg : g ρ' s1 with
      | stuck => rw [eg] at h1; exact h1
      | exc e s2 => rw [eg] at h1; exact h1
      | ok o s2 =>
        rw [eg] at h1
        cases o with
        | nx ρ2 => exact fun pz2 σ2 H2 R2 => ⟨ρ2, pz2, s2, R2, h1⟩
        | ct ρ2 => exact fun pz2 σ2 H2 R2 => ⟨ρ2, pz2, s2, R2, h1⟩
        | bk ρ2 => exact fun pz2 σ2 H2 R2 => h1 pz2 σ2 H2 R2
        | rt d2 => exact h1
end
end DV

set_option Elab.async false
set_option linter.all false
set_option maxRecDepth 100000
set_option maxHeartbeats 2000000
/-! values as data: what loops walk; comprehensions; generator expressions -/
namespace DV
open PySem PySem.Spec PyProof.Rows L2

/-! ### what is walked -/
section
variable {Ts : List Addr} {X : Cx} {W : L2.WX} {pos : Pos} {tg iter e a b' c : Expr} {f fa fb fc : Rho → M D} {b b1 b2 : Bool} {es : List Expr} {fs : Rho → M (List D)}
variable {K : KW} {G : Gh} {s : DS} {ρ : Rho} {pz : Nat → Addr} {σ : L2.St} {H B : Hp} {y : Bool}
theorem now_at {vs : List V} {ds : List D} (R : Rel Ts K G s ρ pz σ H) (l : AtL K (badE G ρ pz) H vs ds) : AtL K G.bad (G.now ρ pz H).H0 vs ds :=
  l.mono (fun a o n q => by rw [now_get fun ⟨i, es, e1, e2⟩ => n (.inr ⟨i, es, e1, e2⟩)]; exact q) (fun a o t q => by
    rw [now_get fun ⟨i, es, e1, e2⟩ => by
      obtain ⟨_, _, _, q1⟩ := R.at_ i _ e1
      obtain ⟨_, q2, z⟩ := q1.there
      rw [e2, q] at q2; cases q2; rw [z] at t; cases t]
    exact q) fun a n _ z => n (.inl z)
theorem now_tup {p : Addr} {vs : List V} (R : Rel Ts K G s ρ pz σ H) (h : SqT K H p vs) : SqT K (G.now ρ pz H).H0 p vs := by
  have no : ∀ o, H p = some o → isTF o = true → ¬ ∃ i ds, ρ[i]? = some (some (Sl.own ds)) ∧ pz i = p := fun o q t ⟨i, es, e1, e2⟩ => by
    obtain ⟨_, _, _, q1⟩ := R.at_ i _ e1
    obtain ⟨_, q2, z⟩ := q1.there
    rw [e2, q] at q2; cases q2; rw [z] at t; cases t
  rcases h with (h | ⟨o, h⟩) | h
  · exact .inl (.inl (by rw [now_get (no _ h rfl)]; exact h))
  · exact .inl (.inr ⟨o, by rw [now_get (no _ h rfl)]; exact h⟩)
  · exact .inr h
theorem ext_tup {H2 : Hp} {p : Addr} {vs : List V} (e : ExtO G B H2) (h : SqT K B p vs) : SqT K H2 p vs := by
  rcases h with (h | ⟨o, h⟩) | h
  · exact .inl (.inl (e.tf _ _ rfl h))
  · exact .inl (.inr ⟨o, e.tf _ _ rfl h⟩)
  · exact .inr h
theorem at_from {H2 : Hp} {v : V} {d : D} {bad' : Addr → Prop} (h : At K G.bad B v d) (e : ExtO G B H2) (hb : ∀ a, bad' a → G.bad a ∨ B a = none) : At K bad' H2 v d :=
  h.mono (fun a o n q => e.keep a o (fun z => n (.inl z)) (fun z => n (.inr (.inr (.inl z)))) q) e.tf fun a n ⟨o, q⟩ z => by
    rcases hb a z with z | z
    · exact n z
    · rw [z] at q; cases q
theorem jok_list {p : Addr} {vs : List V} {ds : List D} (h : B p = some (.lst vs)) (nb : ¬ G.bad p) (l : AtL K G.bad B vs ds) : JOk y K G B (Itl K p) ds := fun H2 e => by
  have q : SqL K H2 p vs := SqL.of (e.keep p _ (fun z => nb (.inl z)) (fun z => nb (.inr (.inr (.inl z)))) h)
  refine ⟨⟨vs, q, by rw [l.len]; exact Nat.le_refl _⟩, fun k d hd => ?_⟩
  obtain ⟨v, hv, a⟩ := l.get hd
  refine ⟨⟨vs, v, q, hv⟩, fun x H3 ⟨e3, hx⟩ => ?_⟩
  subst e3
  have ex := hx vs q
  rw [hv] at ex
  cases ex
  exact ⟨Same.refl _, fun bad' hb => (at_from a e hb).f⟩
theorem jok_tup {p : Addr} {vs : List V} {ds : List D} (h : SqT K B p vs) (l : AtL K G.bad B vs ds) : JOk y K G B (Itt K p) ds := fun H2 e => by
  have q : SqT K H2 p vs := ext_tup e h
  refine ⟨⟨vs, q, by rw [l.len]; exact Nat.le_refl _⟩, fun k d hd => ?_⟩
  obtain ⟨v, hv, a⟩ := l.get hd
  refine ⟨⟨vs, v, q, hv⟩, fun x H3 ⟨e3, hx⟩ => ?_⟩
  subst e3
  have ex := hx vs q
  rw [hv] at ex
  cases ex
  exact ⟨Same.refl _, fun bad' hb => (at_from a e hb).f⟩
def rangeD (lo : Int) (n : Nat) : List D := (List.range n).map fun i => PyData.int (lo + (i : Nat))
theorem rangeD_len (lo : Int) (n : Nat) : (rangeD lo n).length = n := by unfold rangeD; rw [List.length_map, List.length_range]
theorem rangeD_get {lo : Int} {n k : Nat} {d : D} (h : (rangeD lo n)[k]? = some d) : k < n ∧ d = .int (lo + (k : Nat)) := by
  have hk : k < n := by
    have := (List.getElem?_eq_some_iff.mp h).1
    rw [rangeD_len] at this
    exact this
  unfold rangeD at h
  rw [List.getElem?_map, List.getElem?_range hk] at h
  exact ⟨hk, (Option.some.inj h).symm⟩
theorem jok_range (lo : Int) (n : Nat) : JOk y K G B (Itr lo n) (rangeD lo n) := fun H2 e => by
  refine ⟨by rw [rangeD_len]; exact Nat.le_refl _, fun k d hd => ?_⟩
  obtain ⟨hk, rfl⟩ := rangeD_get hd
  refine ⟨hk, fun x H3 ⟨e3, hx⟩ => ?_⟩
  subst e3 hx
  exact ⟨Same.refl _, fun bad' hb => (At.int _).f⟩
theorem pi_or {w1 w2 : TI} (h1 : PI X tg iter w1) (h2 : PI X tg iter w2) : PI X tg iter (fun σ H R => w1 σ H R ∨ w2 σ H R) := by
  refine ⟨fun pins s σ H R I h => ?_⟩
  rcases h with h | h
  · exact h1.run pins s σ H R I h
  · exact h2.run pins s σ H R I h
/-- a list, a tuple -/
def itemsD (d : D) : M (List D) := match d with
  | .list ds => ret ds
  | .tuple ds => ret ds
  | _ => stk
def iSeqA (K : PySem.W.Frag) (tl : TE) : TI := fun σ H R => tl σ H fun x H1 => (∃ a, x = .ref a ∧ (∃ xs, SqL K H1 a xs) ∧ R (Itl K a) H1) ∨ (∃ a, x = .ref a ∧ (∃ xs, SqT K H1 a xs) ∧ R (Itt K a) H1)
theorem pi_seq {l : Expr} {tl : TE} (hl : PE X l tl) : PI X tg l (iSeqA X.K tl) := by
  refine ⟨fun pins s σ H R I h => ?_⟩
  refine thn (hl.run pins s σ H _ I h) fun v s1 ⟨x, H1, I1, r1, q1⟩ => ?_
  have fpk : ∀ b ∈ [s1.heap.objs.size], FpOk X pins H1 b := fun b hb => by
    rw [List.mem_singleton.mp hb]
    exact I1.fpOk (Nat.le_refl _) (I1.hok.fresh (Nat.le_refl _))
  rcases q1 with ⟨a, ex, ⟨xs, hs⟩, q⟩ | ⟨a, ex, ⟨xs, hs⟩, q⟩
  · subst ex
    have hr : v = Value.ref a := r1
    subst hr
    obtain ⟨its, rv, hpl, hz⟩ := I1.list hs
    exact wpAny_pyIter_list hpl.isList ⟨_, [s1.heap.objs.size], _, _, H1, rfl, I1.kept (t' := s1.toks) fun b o e => Heap.get?_push_of_some _ e, turn_list a _, ⟨_, Heap.get?_push_size _ rfl, rfl, rfl⟩, fpk, q⟩
  · subst ex
    have hr : v = Value.ref a := r1
    subst hr
    obtain ⟨its, rv, hpl, hz⟩ := I1.tuple hs
    have ht : s1.heap.IsTuple a its.toArray := hpl
    exact wpAny_pyIter_tuple ht ⟨_, [s1.heap.objs.size], _, _, H1, rfl, I1.kept (t' := s1.toks) fun b o e => Heap.get?_push_of_some _ e, turn_tuple a _, ⟨_, Heap.get?_push_size _ rfl, rfl, rfl⟩, fpk, q⟩
theorem di_seq (ha : DX Ts true X W a fa) : DI false Ts X W tg a (fun ρ => bnd (fa ρ) itemsD) := by
  obtain ⟨ta, pa, qa⟩ := ha
  refine ⟨_, pi_seq pa, fun G s ρ pz σ H R RR h => ?_⟩
  refine qa G s ρ pz σ H _ RR (PostG.bnd h fun d s1 v H1 hm1 w1 e1 a1 h1 => ?_)
  have R1 := RR.ext w1 e1
  unfold itemsD at h1
  split at h1
  · have a1 : At X.KW (badE G ρ pz) H1 v (.list _) := a1
    cases a1 with
    | lst n r l =>
      refine .inl ⟨_, rfl, ⟨_, SqL.of r⟩, h1 _ H1 w1 .refl (jok_list (by rw [now_get fun ⟨i, es, e1, e2⟩ => n (.inr ⟨i, es, e1, e2⟩)]; exact r) (fun z => n (.inl z)) (now_at R1 l))⟩
  · have a1 : At X.KW (badE G ρ pz) H1 v (.tuple _) := a1
    cases a1 with
    | tup r l => exact .inr ⟨_, rfl, ⟨_, r.sq⟩, h1 _ H1 w1 .refl (jok_tup (now_tup R1 r.sq) (now_at R1 l))⟩
  · exact h1.elim
/-- range(n), range(a, b) -/
def rng1 (ds : List D) : M (List D) := match ds with
  | [.int j] => if -(2 ^ 62) ≤ j ∧ j < 2 ^ 62 then ret (rangeD 0 j.toNat) else stk
  | _ => stk
def rng2 (ds : List D) : M (List D) := match ds with
  | [.int i, .int j] => if -(2 ^ 62) ≤ i ∧ i < 2 ^ 62 ∧ -(2 ^ 62) ≤ j ∧ j < 2 ^ 62 then ret (rangeD i (j - i).toNat) else stk
  | _ => stk
theorem paired1 {α β : Type} {F : α → β → Prop} {l : List α} {y : β} (h : Paired F l [y]) : ∃ x, l = [x] ∧ F x y := by
  obtain _ | ⟨h, ⟨⟩⟩ := h
  exact ⟨_, rfl, h⟩
theorem paired2 {α β : Type} {F : α → β → Prop} {l : List α} {y z : β} (h : Paired F l [y, z]) : ∃ x u, l = [x, u] ∧ F x y ∧ F u z := by
  obtain _ | ⟨h, _ | ⟨h2, ⟨⟩⟩⟩ := h
  exact ⟨_, _, rfl, h, h2⟩
theorem di_range1 {p : Pos} (hg : Gl X "range") (hm : X.mg "range" = none) (ha : DA Ts b X W [a] fs) (hs : starEach [a] X.env = [(false, eval a X.env)] := by rfl) : DI false Ts X W tg (.Call (.Name "range" p) [a] [] pos) (fun ρ => bnd (fs ρ) rng1) := by
  obtain ⟨ta, pa, qa⟩ := ha
  refine ⟨_, pi_range1 hg hm pa hs, fun G s ρ pz σ H R RR h => ?_⟩
  refine qa G s ρ pz σ H _ RR (PostG.bnd h fun ds s1 vs H1 hm1 w1 e1 a1 h1 => ?_)
  have R1 := RR.ext w1 e1
  unfold rng1 at h1
  split at h1
  · split at h1
    · rename_i j hj
      obtain ⟨x, rfl, hx⟩ := paired1 a1
      exact ⟨j, by rw [(hx.w R1).int], hj.1, hj.2, h1 _ H1 w1 .refl (jok_range 0 _)⟩
    · exact h1.elim
  · exact h1.elim
theorem di_range2 {p : Pos} (hg : Gl X "range") (hm : X.mg "range" = none) (ha : DA Ts b X W [a, b'] fs) (hs : starEach [a, b'] X.env = [(false, eval a X.env), (false, eval b' X.env)] := by rfl) (hs2 : starEach [b'] X.env = [(false, eval b' X.env)] := by rfl) : DI false Ts X W tg (.Call (.Name "range" p) [a, b'] [] pos) (fun ρ => bnd (fs ρ) rng2) := by
  obtain ⟨ta, pa, qa⟩ := ha
  refine ⟨_, pi_range2 hg hm pa hs hs2, fun G s ρ pz σ H R RR h => ?_⟩
  refine qa G s ρ pz σ H _ RR (PostG.bnd h fun ds s1 vs H1 hm1 w1 e1 a1 h1 => ?_)
  have R1 := RR.ext w1 e1
  unfold rng2 at h1
  split at h1
  · split at h1
    · rename_i i j hj
      obtain ⟨x, u, rfl, hx, hu⟩ := paired2 a1
      exact ⟨i, j, by rw [(hx.w R1).int, (hu.w R1).int], hj, h1 _ H1 w1 .refl (jok_range i _)⟩
    · exact h1.elim
  · exact h1.elim
/-- zip(a, b), both tuples or both lists -/
def zipD (ds : List D) : M (List D) := match ds with
  | [.tuple xs, .tuple ys] => ret ((xs.zip ys).map fun q => .tuple [q.1, q.2])
  | [.list xs, .list ys] => ret ((xs.zip ys).map fun q => .tuple [q.1, q.2])
  | _ => stk
theorem zip_get {α β : Type} {xs : List α} {ys : List β} {k : Nat} {q : α × β} (h : (xs.zip ys)[k]? = some q) : xs[k]? = some q.1 ∧ ys[k]? = some q.2 := by
  rw [List.getElem?_zip_eq_some] at h
  exact h
theorem jok_zip {isT : Bool} {p q : Addr} {vs us : List V} {ds es : List D} (J : It) (SQ : Hp → Addr → List V → Prop)
    (hJ : J = ⟨fun i H => ∃ (xs ys : List V) (x y : V), SQ H p xs ∧ SQ H q ys ∧ xs[i]? = some x ∧ ys[i]? = some y,
      fun i H v H' => ∃ T x y, v = .ref T ∧ H T = none ∧ H' = upd H T (.tup [x, y]) ∧ (∀ xs, SQ H p xs → xs[i]? = some x) ∧ ∀ ys, SQ H q ys → ys[i]? = some y,
      fun i H => ∃ xs ys : List V, SQ H p xs ∧ SQ H q ys ∧ (xs.length ≤ i ∨ ys.length ≤ i)⟩)
    (h1 : ∀ H2, ExtO G B H2 → SQ H2 p vs) (h2 : ∀ H2, ExtO G B H2 → SQ H2 q us) (l1 : AtL K G.bad B vs ds) (l2 : AtL K G.bad B us es) : JOk true K G B J ((ds.zip es).map fun q => .tuple [q.1, q.2]) := fun H2 e => by
  subst hJ
  refine ⟨⟨vs, us, h1 H2 e, h2 H2 e, ?_⟩, fun k d hd => ?_⟩
  · rw [List.length_map, List.length_zip, l1.len, l2.len]
    omega
  · rw [List.getElem?_map] at hd
    cases hz : (ds.zip es)[k]? with
    | none => rw [hz] at hd; cases hd
    | some w =>
      rw [hz] at hd
      cases hd
      obtain ⟨z1, z2⟩ := zip_get hz
      obtain ⟨v, hv, av⟩ := l1.get z1
      obtain ⟨u, hu, au⟩ := l2.get z2
      refine ⟨⟨vs, us, v, u, h1 H2 e, h2 H2 e, hv, hu⟩, fun x H3 ⟨T, x1, y1, ex, hT, e3, g1, g2⟩ => ?_⟩
      subst ex e3
      have q1 := g1 vs (h1 H2 e)
      have q2 := g2 us (h2 H2 e)
      rw [hv] at q1
      rw [hu] at q2
      cases q1
      cases q2
      refine ⟨same_new hT, fun bad' hb => ?_⟩
      exact .inr ⟨_, _, _, rfl, upd_same, rfl, (AtL.cons (at_from av e hb) (.one (at_from au e hb))).same (same_new hT)⟩
theorem di_zip {p tpos : Pos} {elts : List Expr} {kk : Nat} (hg : Gl X "zip") (hm : X.mg "zip" = none) (ha : DA Ts true X W [a, b'] fs)
    (pz : ∀ {ta : TA}, PA X [a, b'] ta → PI X (.Tuple elts kk tpos) (.Call (.Name "zip" p) [a, b'] [] pos) (RZ.iZipA X.K ta) := by exact fun h => RZ.pi_zipA (by rfl) (by assumption) h) : DI true Ts X W (.Tuple elts kk tpos) (.Call (.Name "zip" p) [a, b'] [] pos) (fun ρ => bnd (fs ρ) zipD) := by
  obtain ⟨ta, pa, qa⟩ := ha
  refine ⟨_, pz pa, fun G s ρ pz σ H R RR h => ?_⟩
  refine qa G s ρ pz σ H _ RR (PostG.bnd h fun ds s1 vs H1 hm1 w1 e1 a1 h1 => ?_)
  have R1 := RR.ext w1 e1
  unfold zipD at h1
  split at h1
  · obtain ⟨x, u, rfl, hx, hu⟩ := paired2 a1
    have hx : At X.KW (badE G ρ pz) H1 x (.tuple _) := hx
    have hu : At X.KW (badE G ρ pz) H1 u (.tuple _) := hu
    cases hx with
    | tup r1 l1 =>
      cases hu with
      | tup r2 l2 =>
        exact ⟨_, _, _, _, rfl, .inr ⟨r1.sq, r2.sq, h1 _ H1 w1 .refl (jok_zip (isT := true) _ (fun H a xs => SqT X.K H a xs) rfl (fun H2 e => ext_tup e (now_tup R1 r1.sq)) (fun H2 e => ext_tup e (now_tup R1 r2.sq)) (now_at R1 l1) (now_at R1 l2))⟩⟩
  · obtain ⟨x, u, rfl, hx, hu⟩ := paired2 a1
    have hx : At X.KW (badE G ρ pz) H1 x (.list _) := hx
    have hu : At X.KW (badE G ρ pz) H1 u (.list _) := hu
    cases hx with
    | lst n1 r1 l1 =>
      cases hu with
      | lst n2 r2 l2 =>
        have k : ∀ {p vs}, ¬ badE G ρ pz p → H1 p = some (.lst vs) → ∀ H2, ExtO G (G.now ρ pz H1).H0 H2 → SqL X.K H2 p vs := fun {p vs} n r H2 e =>
          SqL.of (e.keep p _ (fun z => n (by rw [z]; exact badE_dr)) (fun z => n (badE_tab z)) (by rw [now_get fun ⟨i, es, e1, e2⟩ => n (.inr ⟨i, es, e1, e2⟩)]; exact r))
        exact ⟨_, _, _, _, rfl, .inl ⟨SqL.of r1, SqL.of r2, h1 _ H1 w1 .refl (jok_zip (isT := false) _ (fun H a xs => SqL X.K H a xs) rfl (k n1 r1) (k n2 r2) (now_at R1 l1) (now_at R1 l2))⟩⟩
  · exact h1.elim
end
end DV

set_option Elab.async false
set_option linter.all false
set_option maxRecDepth 100000
set_option maxHeartbeats 2000000
/-! values as data: comprehensions; generator expressions -/
namespace DV
open PySem PySem.Spec PyProof.Rows L2

/-! ### a block's slots -/
def wipeR (ρ : Rho) : List Nat → Rho
  | [] => ρ
  | v :: vs => (wipeR ρ vs).set v none
theorem wipeR_get {ρ : Rho} {i : Nat} {sl : Sl} : ∀ {vs : List Nat}, (wipeR ρ vs)[i]? = some (some sl) → ρ[i]? = some (some sl) ∧ i ∉ vs
  | [], h => ⟨h, by simp⟩
  | v :: vs, h => by
    unfold wipeR at h
    rcases set_get h with ⟨_, z⟩ | ⟨hn, h⟩
    · cases z
    · obtain ⟨h1, h2⟩ := wipeR_get h
      exact ⟨h1, by simp only [List.mem_cons, not_or]; exact ⟨hn, h2⟩⟩
theorem wipe_get {σ : L2.St} {i : Nat} : ∀ {vs : List Nat}, i ∉ vs → (wipe σ vs)[i]? = σ[i]?
  | [], _ => rfl
  | v :: vs, h => by
    simp only [List.mem_cons, not_or] at h
    unfold wipe
    rw [List.getElem?_set_ne (Ne.symm h.1)]
    exact wipe_get h.2
theorem wipeR_len (ρ : Rho) : ∀ vs : List Nat, (wipeR ρ vs).length = ρ.length
  | [] => rfl
  | v :: vs => by unfold wipeR; rw [List.length_set, wipeR_len ρ vs]
/-- the view of a block: all that the def may not hand out stays untouched, and ex too -/
noncomputable def Gh.prot (G : Gh) (ρ ρ' : Rho) (pz : Nat → Addr) (ex : Addr → Prop) (H : Hp) : Gh :=
  { G with ext := fun a => (badE G ρ pz a ∧ ¬ ∃ i ds, ρ'[i]? = some (some (Sl.own ds)) ∧ pz i = a) ∨ ex a, H0 := fun a => iteP (∃ i ds, ρ'[i]? = some (some (Sl.own ds)) ∧ pz i = a) none (H a) }
section
variable {Ts : List Addr} {K : KW} {G : Gh} {s s' : DS} {ρ : Rho} {pz : Nat → Addr} {σ : L2.St} {H H1 : Hp} {ex : Addr → Prop} {vs : List Nat}
theorem prot_bad {a : Addr} : badE (G.prot ρ (wipeR ρ vs) pz ex H) (wipeR ρ vs) pz a ↔ badE G ρ pz a ∨ ex a := by
  constructor
  · intro h
    rcases h with (h | h | h | h | h) | ⟨i, ds, e, q⟩
    · exact .inl (.inl (.inl h))
    · exact .inl (.inl (.inr (.inl h)))
    · exact .inl (.inl (.inr (.inr (.inl h))))
    · exact .inl h.1
    · exact .inr h
    · exact .inl (.inr ⟨i, ds, (wipeR_get e).1, q⟩)
  · intro h
    rcases h with h | h
    · by_cases c : ∃ i ds, (wipeR ρ vs)[i]? = some (some (Sl.own ds)) ∧ pz i = a
      · exact .inr c
      · exact .inl (.inr (.inr (.inr (.inl ⟨h, c⟩))))
    · exact .inl (.inr (.inr (.inr (.inr h))))
/-- from the slots at H1, at a later heap H, in a block -/
theorem Rel.prot (R : Rel Ts K G s ρ pz σ H1) (w : Wd G s' H) (e : ExtO G H1 H) (hex : ∀ a, ex a → H1 a = none ∧ ∃ o, H a = some o) : Rel Ts K (G.prot ρ (wipeR ρ vs) pz ex H) s' (wipeR ρ vs) pz (wipe σ vs) H := by
  have R2 := R.ext w e
  have up : ∀ {v : V} {d : D}, At K (badE G ρ pz) H1 v d → At K (badE (G.prot ρ (wipeR ρ vs) pz ex H) (wipeR ρ vs) pz) H v d := fun {v d} h =>
    h.mono (fun a o n q => e.keep a o (fun z => n (by rw [z]; exact badE_dr)) (fun z => n (badE_tab z)) q) e.tf fun a n ⟨o, q⟩ z => by
      rcases prot_bad.mp z with z | z
      · exact n z
      · rw [(hex a z).1] at q; cases q
  have upL : ∀ {v : List V} {d : List D}, AtL K (badE G ρ pz) H1 v d → AtL K (badE (G.prot ρ (wipeR ρ vs) pz ex H) (wipeR ρ vs) pz) H v d := fun {v d} h =>
    h.mono (fun a o n q => e.keep a o (fun z => n (by rw [z]; exact badE_dr)) (fun z => n (badE_tab z)) q) e.tf fun a n ⟨o, q⟩ z => by
      rcases prot_bad.mp z with z | z
      · exact n z
      · rw [(hex a z).1] at q; cases q
  have notOwn : ∀ a, G.bad a ∨ ex a → ¬ ∃ i ds, (wipeR ρ vs)[i]? = some (some (Sl.own ds)) ∧ pz i = a := fun a h ⟨i, ds, e1, e2⟩ => by
    have e3 := (wipeR_get e1).1
    rcases h with h | h
    · exact R.notbad e3 (by rw [e2]; exact h)
    · obtain ⟨_, _, _, q1⟩ := R.at_ i _ e3
      obtain ⟨_, q2, _⟩ := q1.there
      rw [e2, (hex a h).1] at q2; cases q2
  refine ⟨⟨fun a z => ?_, R.fix.ne, R.fix.nt, R.fix.nt2⟩, R.ts, ⟨w.dr, w.tab⟩, ⟨fun a o _ _ q => ?_, fun a o _ q => ?_⟩, by rw [wipeR_len, wipe_length]; exact R.len, fun i sl ei => ?_, fun i j ds es e1 e2 q => R.inj i j ds es (wipeR_get e1).1 (wipeR_get e2).1 q, fun i ds ei => iteP_pos ⟨i, ds, ei, rfl⟩⟩
  · have key : (badE G ρ pz a ∧ ¬ ∃ i ds, (wipeR ρ vs)[i]? = some (some (Sl.own ds)) ∧ pz i = a) ∨ ex a := by
      rcases z with z | z | z | z
      · exact .inl ⟨.inl (.inl z), notOwn a (.inl (.inl z))⟩
      · exact .inl ⟨.inl (.inr (.inl z)), notOwn a (.inl (.inr (.inl z)))⟩
      · exact .inl ⟨.inl (.inr (.inr (.inl z))), notOwn a (.inl (.inr (.inr (.inl z))))⟩
      · exact z
    show ∃ o, iteP _ none (H a) = some o
    rcases key with ⟨h1, h2⟩ | h
    · rw [iteP_neg h2]; exact R2.trk a h1
    · rw [iteP_neg (notOwn a (.inr h))]; exact (hex a h).2
  · by_cases c : ∃ i ds, (wipeR ρ vs)[i]? = some (some (Sl.own ds)) ∧ pz i = a
    · have q : iteP _ none (H a) = some o := q
      rw [iteP_pos c] at q; cases q
    · have q : iteP _ none (H a) = some o := q
      rw [iteP_neg c] at q; exact q
  · by_cases c : ∃ i ds, (wipeR ρ vs)[i]? = some (some (Sl.own ds)) ∧ pz i = a
    · have q : iteP _ none (H a) = some o := q
      rw [iteP_pos c] at q; cases q
    · have q : iteP _ none (H a) = some o := q
      rw [iteP_neg c] at q; exact q
  · obtain ⟨h1, h2⟩ := wipeR_get ei
    obtain ⟨v, e3, q⟩ := R.at_ i sl h1
    refine ⟨v, by rw [wipe_get h2]; exact e3, ?_⟩
    cases sl with
    | val d => exact up q
    | own ds =>
      obtain ⟨q1, l1⟩ := q
      have nb := R.notbad h1
      exact ⟨q1, l1.mono (fun o q2 => e.keep _ _ (fun z => nb (.inl z)) (fun z => nb (.inr (.inr (.inl z)))) q2) upL⟩
    | drw => exact q
    | cls => exact q
    | scr ns =>
      obtain ⟨a1, e1, r1⟩ := q
      exact ⟨a1, e1, r1.mono (fun a o n q => e.keep a o (fun z => n (by rw [z]; exact badE_dr)) (fun z => n (badE_tab z)) q) fun a n ⟨o, q⟩ z => by
        rcases prot_bad.mp z with z | z
        · exact n z
        · rw [(hex a z).1] at q; cases q⟩
/-- what is the same for one as for the other view -/
theorem Wd.unprot {ρ' : Rho} (w : Wd (G.prot ρ ρ' pz ex H1) s H) : Wd G s H := ⟨w.dr, w.tab⟩
theorem ExtO.unprot {ρ' : Rho} {H2 : Hp} (e : ExtO (G.prot ρ ρ' pz ex H1) H H2) : ExtO G H H2 := ⟨e.keep, e.tf⟩
end

/-! ### what holds in each of a family of contexts -/
section
variable {Ts : List Addr} {ι : Type} {K : KW} {mg : Str → Option Value} {Xf : ι → Cx} {W : L2.WX} {e : Expr} {b : Bool}
theorem dx_fam {f : Rho → M D} (hK : ∀ i, (Xf i).KW = K) (hm : ∀ i, (Xf i).mg = mg) (Y : Cx) (hY : Y.KW = K) (hYm : Y.mg = mg) (h : ∀ i, DX Ts b (Xf i) W e f) : ∃ te : TE, (∀ i, PE (Xf i) e te) ∧ ∀ (G : Gh) (s : DS) (ρ : Rho) (pz : Nat → Addr) (σ : L2.St) (H : Hp) (Q : VK), Rel Ts K G s ρ pz σ H →
    PostG Y W G σ H (AtB b K G ρ pz) (f ρ s) Q → te σ H Q := by
  refine ⟨fun σ H Q => ∀ i, Classical.choose (h i) σ H Q, fun i => ⟨fun pins s σ H Q I q => (Classical.choose_spec (h i)).1.run pins s σ H Q I (q i)⟩, fun G s ρ pz σ H Q R q i => ?_⟩
  refine (Classical.choose_spec (h i)).2 G s ρ pz σ H Q (by rw [hK i]; exact R) ?_
  cases hr : f ρ s with
  | ok d s' => rw [hr] at q; rw [hK i]; exact q
  | exc x s' => rw [hr] at q; exact fun C H' hc => q C H' (by rw [hYm, ← hm i]; exact hc)
  | stuck => rw [hr] at q; exact q
theorem dt_fam {f : Rho → M Bool} (hK : ∀ i, (Xf i).KW = K) (hm : ∀ i, (Xf i).mg = mg) (Y : Cx) (hY : Y.KW = K) (hYm : Y.mg = mg) (h : ∀ i, DT Ts (Xf i) W e f) : ∃ te : TT, (∀ i, PT (Xf i) e te) ∧ ∀ (G : Gh) (s : DS) (ρ : Rho) (pz : Nat → Addr) (σ : L2.St) (H : Hp) (Q : Bool → Hp → Prop), Rel Ts K G s ρ pz σ H →
    PostG Y W G σ H (fun _ c d => c = d) (f ρ s) Q → te σ H Q := by
  refine ⟨fun σ H Q => ∀ i, Classical.choose (h i) σ H Q, fun i => ⟨fun pins s σ H Q I q => (Classical.choose_spec (h i)).1.run pins s σ H Q I (q i)⟩, fun G s ρ pz σ H Q R q i => ?_⟩
  refine (Classical.choose_spec (h i)).2 G s ρ pz σ H Q (by rw [hK i]; exact R) ?_
  cases hr : f ρ s with
  | ok d s' => rw [hr] at q; exact q
  | exc x s' => rw [hr] at q; exact fun C H' hc => q C H' (by rw [hYm, ← hm i]; exact hc)
  | stuck => rw [hr] at q; exact q
theorem dg_fam {y : Bool} {is : List Nat} {hh : D → Rho → Option Rho} (hK : ∀ i, (Xf i).KW = K) (h : ∀ i, DG y Ts (Xf i) e is hh) : ∃ te : TG, (∀ i, PG (Xf i) e te) ∧ ∀ (G : Gh) (s : DS) (ρ : Rho) (pz : Nat → Addr) (σ : L2.St) (H : Hp) (v : V) (d : D) (Q : L2.St → Hp → Prop), Rel Ts K G s ρ pz σ H → AtF y K (badE G ρ pz) H v d →
    (match hh d ρ with
      | some ρ' => ∀ σ', Rel Ts K G s ρ' pz σ' H → (∀ a, badE G ρ' pz a → badE G ρ pz a) → (∀ i, i ∉ is → σ'[i]? = σ[i]?) → σ'.length = σ.length → Q σ' H
      | none => False) → te v σ H Q := by
  refine ⟨fun v σ H Q => ∀ i, Classical.choose (h i) v σ H Q, fun i => ⟨fun pins s σ H v u Q I r q => (Classical.choose_spec (h i)).1.run pins s σ H v u Q I r (q i)⟩, fun G s ρ pz σ H v d Q R a q i => ?_⟩
  refine (Classical.choose_spec (h i)).2 G s ρ pz σ H v d Q (by rw [hK i]; exact R) (by rw [hK i]; exact a) ?_
  rw [hK i]
  exact q
end
/-- no exception leaves a block -/
abbrev WF : L2.WX := fun _ _ _ _ => False
def nox {α : Type} (m : M α) : M α := fun s => match m s with
  | .exc _ _ => .stuck
  | r => r
theorem nox_ok {α : Type} {m : M α} {s s' : DS} {a : α} (h : nox m s = .ok a s') : m s = .ok a s' := by
  unfold nox at h
  cases hm : m s with
  | ok a' s1 => rw [hm] at h; exact h
  | exc e s1 => rw [hm] at h; cases h
  | stuck => rw [hm] at h; cases h
theorem nox_ret {α : Type} (a : α) : nox (ret a) = ret a := rfl
theorem wipe_eq {σ σ' : L2.St} {is : List Nat} : ∀ {vs : List Nat}, (∀ i ∈ is, i ∈ vs) → (∀ i, i ∉ is → σ'[i]? = σ[i]?) → σ'.length = σ.length → wipe σ' vs = wipe σ vs := by
  intro vs hs hk hl
  apply List.ext_getElem?
  intro i
  by_cases hi : i ∈ vs
  · have z : ∀ (τ : L2.St) (ws : List Nat), i ∈ ws → (wipe τ ws)[i]? = if i < τ.length then some none else none := by
      intro τ ws
      induction ws with
      | nil => intro h; cases h
      | cons w ws ih =>
        intro h
        unfold wipe
        by_cases e : w = i
        · subst e
          by_cases hlt : w < τ.length
          · rw [if_pos hlt, List.getElem?_set_self (by rw [wipe_length]; exact hlt)]
          · rw [if_neg hlt, List.getElem?_eq_none (by rw [List.length_set, wipe_length]; omega)]
        · rw [List.getElem?_set_ne e]
          exact ih ((List.mem_cons.mp h).resolve_left fun z => e z.symm)
    rw [z σ' vs hi, z σ vs hi, hl]
  · rw [wipe_get hi, wipe_get hi]
    exact hk i fun z => hi (hs i z)

/-! ### [elt for target in iter if test] -/
def lcD (hh : D → Rho → Option Rho) (tt : Rho → M Bool) (fe : Rho → M D) (ρ : Rho) : List D → M (List D)
  | [] => ret []
  | d :: ds => bnd (lift (hh d ρ)) fun ρ1 => bnd (nox (tt ρ1)) fun c => if c = true then bnd (nox (fe ρ1)) fun e => bnd (lcD hh tt fe ρ ds) fun es => ret (e :: es) else lcD hh tt fe ρ ds
/-- tests of a clause -/
def DTs (Ts : List Addr) (X : Cx) (ifs : List Expr) (f : Rho → M Bool) : Prop := ∃ t, PTs X ifs t ∧ ∀ (G : Gh) (s : DS) (ρ : Rho) (pz : Nat → Addr) (σ : L2.St) (H : Hp) (Q : Bool → Hp → Prop), Rel Ts X.KW G s ρ pz σ H →
  PostG X WF G σ H (fun _ c d => c = d) (f ρ s) Q → t σ H Q
section
variable {Ts : List Addr} {X : Cx} {W : L2.WX} {pos : Pos} {elt tg iter a : Expr} {ifs : List Expr} {fi : Rho → M (List D)} {hh : D → Rho → Option Rho} {is : List Nat} {tt : Rho → M Bool} {fe : Rho → M D} {scope : Scope} {own : List (Str × Nat)}
theorem dts_nil : DTs Ts X [] (fun _ => ret true) := ⟨_, pts_nil, fun G s ρ pz σ H Q R h => h _ H R.wd .refl rfl⟩
theorem dts_one (h : DT Ts X WF a tt) : DTs Ts X [a] tt := by
  obtain ⟨t, p, q⟩ := h
  exact ⟨t, pts_one p, q⟩
theorem dts_fam {ι : Type} {Xf : ι → Cx} {K : KW} {mg : Str → Option Value} {f : Rho → M Bool} (hK : ∀ i, (Xf i).KW = K) (hm : ∀ i, (Xf i).mg = mg) (Y : Cx) (hYm : Y.mg = mg) (h : ∀ i, DTs Ts (Xf i) ifs f) : ∃ te : TT, (∀ i, PTs (Xf i) ifs te) ∧ ∀ (G : Gh) (s : DS) (ρ : Rho) (pz : Nat → Addr) (σ : L2.St) (H : Hp) (Q : Bool → Hp → Prop), Rel Ts K G s ρ pz σ H →
    PostG Y WF G σ H (fun _ c d => c = d) (f ρ s) Q → te σ H Q := by
  refine ⟨fun σ H Q => ∀ i, Classical.choose (h i) σ H Q, fun i => ⟨fun pins s σ H Q I q => (Classical.choose_spec (h i)).1.run pins s σ H Q I (q i)⟩, fun G s ρ pz σ H Q R q i => ?_⟩
  refine (Classical.choose_spec (h i)).2 G s ρ pz σ H Q (by rw [hK i]; exact R) ?_
  cases hr : f ρ s with
  | ok d s' => rw [hr] at q; exact q
  | exc x s' => rw [hr] at q; exact fun C H' hc => q C H' (by rw [hYm, ← hm i]; exact hc)
  | stuck => rw [hr] at q; exact q
/-- within a block nothing is raised -/
theorem PostG.nox {α β : Type} {Y : Cx} {G G' : Gh} {σ σ' : L2.St} {H H' : Hp} {A : Hp → β → α → Prop} {A' : Hp → β → α → Prop} {m : M α} {s : DS} {Q Q' : β → Hp → Prop} (h : PostG X W G σ H A (nox m s) Q)
    (k : ∀ d s' v H1, m s = .ok d s' → Wd G' s' H1 → ExtO G' H' H1 → A' H1 v d → (∀ v H1, Wd G s' H1 → ExtO G H H1 → A H1 v d → Q v H1) → Q' v H1) : PostG Y WF G' σ' H' A' (m s) Q' := by
  unfold DV.nox at h
  cases hm : m s with
  | ok d s' => rw [hm] at h; exact fun v H1 w e a => k d s' v H1 hm w e a h
  | exc e s' => rw [hm] at h; exact h.elim
  | stuck => rw [hm] at h; exact h.elim
end
end DV

set_option Elab.async false
set_option linter.all false
set_option maxRecDepth 100000
set_option maxHeartbeats 2000000
/-! values as data: list comprehensions -/
namespace DV
open PySem PySem.Spec PyProof.Rows L2

/-! ### a target leaves the other slots -/
def KG (is : List Nat) (h : D → Rho → Option Rho) : Prop := ∀ d ρ ρ', h d ρ = some ρ' → ∀ i, i ∉ is → ρ'[i]? = ρ[i]?
def KGs (is : List Nat) (h : List D → Rho → Option Rho) : Prop := ∀ ds ρ ρ', h ds ρ = some ρ' → ∀ i, i ∉ is → ρ'[i]? = ρ[i]?
theorem kg_name (i : Nat) : KG [i] (setV i) := fun d ρ ρ' e j hj => by
  cases e
  exact List.getElem?_set_ne fun z => hj (by rw [z]; exact List.mem_singleton.mpr rfl)
theorem kgs_nil : KGs [] (fun ds ρ => match ds with | [] => some ρ | _ => none) := fun ds ρ ρ' e j _ => by
  cases ds with
  | nil => cases e; rfl
  | cons _ _ => cases e
theorem kgs_cons {h1 : D → Rho → Option Rho} {h2 : List D → Rho → Option Rho} {i1 i2 : List Nat} (a : KG i1 h1) (b : KGs i2 h2) : KGs (i1 ++ i2) (fun ds ρ => match ds with | d :: r => (h1 d ρ).bind (h2 r) | [] => none) := fun ds ρ ρ' e j hj => by
  cases ds with
  | nil => cases e
  | cons d r =>
    have e : (h1 d ρ).bind (h2 r) = some ρ' := e
    cases e1 : h1 d ρ with
    | none => rw [e1] at e; cases e
    | some ρ1 =>
      rw [e1] at e
      exact (b r ρ1 ρ' e j fun z => hj (List.mem_append_right _ z)).trans (a d ρ ρ1 e1 j fun z => hj (List.mem_append_left _ z))
theorem kg_tup {is : List Nat} {h : List D → Rho → Option Rho} (b : KGs is h) : KG is (seqT h) := fun d ρ ρ' e j hj => by
  unfold seqT at e
  split at e
  · exact b _ ρ ρ' e j hj
  · exact b _ ρ ρ' e j hj
  · cases e

theorem wipe_wipe (σ : L2.St) (vs : List Nat) : wipe (wipe σ vs) vs = wipe σ vs := wipe_eq (is := vs) (fun _ h => h) (fun i hi => wipe_get hi) (wipe_length ..)
theorem PostG.bnox {α β γ δ : Type} {X Y : Cx} {W : L2.WX} {G G' : Gh} {σ σ' : L2.St} {H H' : Hp} {A : Hp → δ → γ → Prop} {A' : Hp → β → α → Prop} {m : M α} {k : α → M γ} {s : DS} {Q : δ → Hp → Prop} {Q1 : β → Hp → Prop} (h : PostG X W G σ H A (DV.bnd (DV.nox m) k s) Q)
    (step : ∀ d s1, m s = .ok d s1 → PostG X W G σ H A (k d s1) Q → ∀ v H1, Wd G' s1 H1 → ExtO G' H' H1 → A' H1 v d → Q1 v H1) : PostG Y WF G' σ' H' A' (m s) Q1 := by
  unfold DV.bnd DV.nox at h
  cases hm : m s with
  | ok d s1 => rw [hm] at h; exact fun v H1 w e a => step d s1 hm h v H1 w e a
  | exc x s1 => rw [hm] at h; exact h.elim
  | stuck => rw [hm] at h; exact h.elim

section
variable {Ts : List Addr} {X : Cx} {W : L2.WX} {pos : Pos} {elt tg iter a : Expr} {ifs : List Expr} {fi : Rho → M (List D)} {hh : D → Rho → Option Rho} {is : List Nat} {y : Bool} {tt : Rho → M Bool} {fe : Rho → M D} {scope : Scope} {own : List (Str × Nat)}
variable {K : KW} {G : Gh} {s s' : DS} {ρ : Rho} {pz : Nat → Addr} {σ : L2.St} {H H1 : Hp}
theorem ext_now (R1 : Rel Ts K G s ρ pz σ H1) (e : ExtO G H1 H) : ExtO G (G.now ρ pz H1).H0 H := ⟨fun a o h1 h2 q => e.keep a o h1 h2 (now_some q).1, fun a o t q => e.tf a o t (now_some q).1⟩
theorem prot_own {ex : Addr → Prop} {vs : List Nat} {ρ1 : Rho} (hk : ∀ i, i ∉ vs → ρ1[i]? = (wipeR ρ vs)[i]?) {a : Addr} (h : badE (G.prot ρ (wipeR ρ vs) pz ex H) (wipeR ρ vs) pz a) : badE (G.prot ρ (wipeR ρ vs) pz ex H) ρ1 pz a := by
  rcases h with h | ⟨i, ds, e, q⟩
  · exact .inl h
  · exact .inr ⟨i, ds, by rw [hk i (wipeR_get e).2]; exact e, q⟩
def FreshL (K : KW) (G : Gh) (ρ : Rho) (pz : Nat → Addr) (H : Hp) (H' : Hp) (v : V) (ds : List D) : Prop := ∃ p vs, v = V.ref p ∧ H p = none ∧ H' p = some (.lst vs) ∧ AtL K (fun a => badE G ρ pz a ∨ a = p) H' vs ds
def lcF (fi : Rho → M (List D)) (hh : D → Rho → Option Rho) (tt : Rho → M Bool) (fe : Rho → M D) (vs : List Nat) (ρ : Rho) : M (List D) := bnd (fi ρ) fun ds => if ds.length ≤ 16000000 then lcD hh tt fe (wipeR ρ vs) ds else stk
theorem acc_add {Dd : Addr} {acc : List V} {accd : List D} {y : V} {d : D} {H2 : Hp} (hD : H2 Dd = some (.lst acc)) (l : AtL K (fun a => badE G ρ pz a ∨ a = Dd) H2 acc accd) (a : At K (fun a => badE G ρ pz a ∨ a = Dd) H2 y d) : AtL K (fun a => badE G ρ pz a ∨ a = Dd) (upd H2 Dd (.lst (acc ++ [y]))) (acc ++ [y]) (accd ++ [d]) :=
  (l.app (.one a)).mono (fun a o n q => by rw [upd_ne fun z => n (.inr z)]; exact q) (fun a o t q => by rw [upd_ne fun z => by rw [z, hD] at q; cases q; cases t]; exact q) fun _ n _ => n
theorem tlc_run {wi : TI} {g : TG} {t : TT} {te : TE} {vs : List Nat}
    (qi : ∀ (G : Gh) (s : DS) (ρ : Rho) (pz : Nat → Addr) (σ : L2.St) (H : Hp) (R : It → Hp → Prop), Rel Ts X.KW G s ρ pz σ H → PostG X W G σ H (fun H' J ds => JOk y X.KW G (G.now ρ pz H').H0 J ds) (fi ρ s) R → wi σ H R)
    (qg : ∀ (G : Gh) (s : DS) (ρ : Rho) (pz : Nat → Addr) (σ : L2.St) (H : Hp) (v : V) (d : D) (Q : L2.St → Hp → Prop), Rel Ts X.KW G s ρ pz σ H → AtF y X.KW (badE G ρ pz) H v d → (match hh d ρ with
      | some ρ' => ∀ σ', Rel Ts X.KW G s ρ' pz σ' H → (∀ a, badE G ρ' pz a → badE G ρ pz a) → (∀ i, i ∉ is → σ'[i]? = σ[i]?) → σ'.length = σ.length → Q σ' H
      | none => False) → g v σ H Q)
    (qt : ∀ (G : Gh) (s : DS) (ρ : Rho) (pz : Nat → Addr) (σ : L2.St) (H : Hp) (Q : Bool → Hp → Prop), Rel Ts X.KW G s ρ pz σ H → PostG X WF G σ H (fun _ c d => c = d) (tt ρ s) Q → t σ H Q)
    (qe : ∀ (G : Gh) (s : DS) (ρ : Rho) (pz : Nat → Addr) (σ : L2.St) (H : Hp) (Q : VK), Rel Ts X.KW G s ρ pz σ H → PostG X WF G σ H (AtB true X.KW G ρ pz) (fe ρ s) Q → te σ H Q)
    (his : ∀ i ∈ is, i ∈ vs) (hk : KG is hh) {Q : VK} (R : Rel Ts X.KW G s ρ pz σ H) (h : PostG X W G σ H (FreshL X.KW G ρ pz H) (lcF fi hh tt fe vs ρ s) Q) : tLc wi g t te vs σ H Q := by
  refine qi G s ρ pz σ H _ R (PostG.bnd (h := h) fun ds s1 J H1 hm1 w1 e1 jok h1 => ?_)
  have R1 := R.ext w1 e1
  split at h1
  case isFalse => exact h1.elim
  rename_i hlen
  intro Dd hDd
  have nbad : ¬ badE G ρ pz Dd := fun z => by
    obtain ⟨o, e⟩ := R1.trk _ z
    rw [hDd] at e; cases e
  have nD1 : Dd ≠ G.dr := fun z => nbad (.inl (.inl z))
  have nD2 : Dd ∉ G.tabs := fun z => nbad (.inl (.inr (.inr (.inl z))))
  have wb : ∀ a, badE G ρ pz a → G.bad a ∨ (G.now ρ pz H1).H0 a = none := fun a z => by
    rcases z with z | ⟨i, es, e1, e2⟩
    · exact .inl z
    · exact .inr (now_own ⟨i, es, e1, e2⟩)
  have n0 : (G.now ρ pz H1).H0 Dd = none := by
    by_cases c : ∃ i ds, ρ[i]? = some (some (Sl.own ds)) ∧ pz i = Dd
    · exact now_own c
    · rw [now_get c]; exact hDd
  have tfD : ∀ {H2 : Hp} {acc : List V}, H2 Dd = some (.lst acc) → ∀ a o, isTF o = true → H2 a = some o → a ≠ Dd := fun hD a o t q z => by
    rw [z, hD] at q; cases q; cases t
  refine ⟨fun i m H2 => m = ds.length - i ∧ i ≤ ds.length ∧ ∃ s' acc accd, Wd G s' H2 ∧ ExtO G H1 H2 ∧ H2 Dd = some (.lst acc) ∧ AtL X.KW (fun a => badE G ρ pz a ∨ a = Dd) H2 acc accd ∧ accd.length ≤ i ∧ PostG X W G σ H1 (FreshL X.KW G ρ pz H) (bnd (lcD hh tt fe (wipeR ρ vs) (ds.drop i)) (fun es => ret (accd ++ es)) s') Q,
    ⟨_, rfl, Nat.zero_le _, s1, [], [], w1.new hDd, .new hDd, upd_same, .nil, Nat.le_refl _, by
      rw [List.drop_zero]
      have z : (fun es : List D => ret ([] ++ es)) = ret := rfl
      rw [z, bnd_pure]
      exact h1⟩, ?_⟩
  rintro i m H2 ⟨rfl, hi, s', acc, accd, w2, e2, hD2, l2, hl2, h2⟩
  obtain ⟨stp, gos⟩ := jok H2 (ext_now R1 e2)
  by_cases hlt : i < ds.length
  · obtain ⟨d, hd, hdrop⟩ := drop_at hlt
    obtain ⟨go, yld⟩ := gos i d hd
    rw [hdrop] at h2
    refine .inr ⟨go, fun H3 => ∃ s' acc accd, Wd G s' H3 ∧ ExtO G H1 H3 ∧ H3 Dd = some (.lst acc) ∧ AtL X.KW (fun a => badE G ρ pz a ∨ a = Dd) H3 acc accd ∧ accd.length ≤ i + 1 ∧ PostG X W G σ H1 (FreshL X.KW G ρ pz H) (bnd (lcD hh tt fe (wipeR ρ vs) (ds.drop (i + 1))) (fun es => ret (accd ++ es)) s') Q, fun H3 z => ⟨_, by omega, rfl, hlt, z⟩, fun x H3 y => ?_⟩
    obtain ⟨same, atx⟩ := yld x H3 y
    have e3 : ExtO G H1 H3 := e2.trans (.same same)
    have RP : Rel Ts X.KW (G.prot ρ (wipeR ρ vs) pz (· = Dd) H3) s' (wipeR ρ vs) pz (wipe σ vs) H3 := R1.prot (w2.same same) e3 fun a z => by subst z; exact ⟨hDd, _, same _ _ hD2⟩
    refine qg _ s' _ pz _ H3 x d _ RP (atx _ fun a z => ?_) ?_
    · rcases prot_bad.mp z with z | z
      · exact wb a z
      · exact .inr (by rw [z]; exact n0)
    · have h2 : PostG X W G σ H1 (FreshL X.KW G ρ pz H) (bnd (bnd (lift (hh d (wipeR ρ vs))) fun ρ1 => bnd (nox (tt ρ1)) fun c => if c = true then bnd (nox (fe ρ1)) fun e => bnd (lcD hh tt fe (wipeR ρ vs) (ds.drop (i + 1))) fun es => ret (e :: es) else lcD hh tt fe (wipeR ρ vs) (ds.drop (i + 1))) (fun es => ret (accd ++ es)) s') Q := h2
      cases eh : hh d (wipeR ρ vs) with
      | none => rw [eh] at h2; exact h2.elim
      | some ρ1 =>
        rw [eh] at h2
        have h2 : PostG X W G σ H1 (FreshL X.KW G ρ pz H) (bnd (bnd (nox (tt ρ1)) fun c => if c = true then bnd (nox (fe ρ1)) fun e => bnd (lcD hh tt fe (wipeR ρ vs) (ds.drop (i + 1))) fun es => ret (e :: es) else lcD hh tt fe (wipeR ρ vs) (ds.drop (i + 1))) (fun es => ret (accd ++ es)) s') Q := h2
        rw [bnd_bnd] at h2
        intro σ1 Rt _ kp1 ln1
        refine ⟨(wipe_eq his kp1 ln1).trans (wipe_wipe σ vs), ?_⟩
        refine qt _ s' ρ1 pz σ1 H3 _ Rt (PostG.bnox (h := h2) fun c s3 hm3 h3 c' H4 w4 e4 hcc => ?_)
        subst hcc
        have e4' : ExtO G H1 H4 := e3.trans ⟨e4.keep, e4.tf⟩
        have hD4 : H4 Dd = some (.lst acc) := e4.keep _ _ nD1 nD2 (same _ _ hD2)
        have mv : ∀ {H5 : Hp}, ExtO G H2 H5 → AtL X.KW (fun a => badE G ρ pz a ∨ a = Dd) H5 acc accd := fun e => l2.mono (fun a o n q => e.keep a o (fun z => n (.inl (by rw [z]; exact badE_dr))) (fun z => n (.inl (badE_tab z))) q) e.tf fun _ n _ => n
        cases c' with
        | false =>
          exact ⟨s3, acc, accd, ⟨w4.dr, w4.tab⟩, e4', hD4, mv ((ExtO.same same).trans ⟨e4.keep, e4.tf⟩), by omega, h3⟩
        | true =>
          have h3 : PostG X W G σ H1 (FreshL X.KW G ρ pz H) (bnd (bnd (nox (fe ρ1)) fun e => bnd (lcD hh tt fe (wipeR ρ vs) (ds.drop (i + 1))) fun es => ret (e :: es)) (fun es => ret (accd ++ es)) s3) Q := h3
          simp only [bnd_bnd, bnd_ret] at h3
          have R4 := Rt.ext w4 e4
          refine qe _ s3 ρ1 pz σ1 H4 _ R4 (PostG.bnox (h := h3) fun e s5 hm5 h5 v H5 w5 e5 a5 => ?_)
          have a5 : At X.KW (badE (G.prot ρ (wipeR ρ vs) pz (· = Dd) H3) ρ1 pz) H5 v e := a5
          have hD5 : H5 Dd = some (.lst acc) := e5.keep _ _ nD1 nD2 hD4
          have e5' : ExtO G H1 H5 := e4'.trans ⟨e5.keep, e5.tf⟩
          have a5' : At X.KW (fun a => badE G ρ pz a ∨ a = Dd) H5 v e := a5.eqb fun a z => prot_own (fun j hj => hk d _ _ eh j fun z => hj (his j z)) (prot_bad.mpr z)
          refine ⟨acc, hD5, by rw [sizeLine_eq, l2.len]; omega, s5, _, accd ++ [e], Wd.upd ⟨w5.dr, w5.tab⟩ fun z => nbad (.inl z), ⟨fun a o n1 n2 q => ?_, fun a o t q => ?_⟩, upd_same, acc_add hD5 (mv ((ExtO.same same).trans (ExtO.trans ⟨e4.keep, e4.tf⟩ ⟨e5.keep, e5.tf⟩))) a5', by rw [List.length_append]; simp; exact hl2, ?_⟩
          · rw [upd_ne fun z => by rw [z, hDd] at q; cases q]
            exact e5'.keep a o n1 n2 q
          · rw [upd_ne fun z => by rw [z, hDd] at q; cases q]
            exact e5'.tf a o t q
          · have z : (fun es : List D => ret (accd ++ e :: es)) = fun es => ret ((accd ++ [e]) ++ es) := funext fun es => by rw [List.append_assoc]; rfl
            rw [← z]
            exact h5
  · have e : i = ds.length := by omega
    subst e
    rw [List.drop_length] at h2
    have h2 : PostG X W G σ H1 (FreshL X.KW G ρ pz H) (ret (accd ++ []) s') Q := h2
    rw [List.append_nil] at h2
    exact .inl ⟨stp, h2 _ H2 w2 e2 ⟨Dd, acc, rfl, R1.was e1 hDd, hD2, l2⟩⟩
end
end DV
namespace DV
open PySem PySem.Spec PyProof.Rows L2
section
variable {Ts : List Addr} {X : Cx} {W : L2.WX} {pos spos : Pos} {elt tg iter a : Expr} {ifs : List Expr} {fi : Rho → M (List D)} {hh : D → Rho → Option Rho} {is : List Nat} {y : Bool} {tt : Rho → M Bool} {fe : Rho → M D} {ff : Rho → M (List D)} {scope : Scope} {own : List (Str × Nat)}
abbrev BkX (X : Cx) (scope : Scope) (i : Shared × Hp × Addr × List (Str × Addr) × List Addr) : Cx := X.blk i.1 i.2.1 scope (compEnvC scope i.2.2.2.1 i.2.2.1 X.env) i.2.2.2.2
theorem lc_parts (hi : DI y Ts X W tg iter fi) (hg : ∀ i, DG y Ts (BkX X scope i) tg is hh) (ht : ∀ i, DTs Ts (BkX X scope i) ifs tt) (he : ∀ i, DX Ts true (BkX X scope i) WF elt fe) (his : ∀ i ∈ is, i ∈ own.map (·.2)) (hk : KG is hh) :
    ∃ wi g t te, PI X tg iter wi ∧ (∀ i, PG (BkX X scope i) tg g) ∧ (∀ i, PTs (BkX X scope i) ifs t) ∧ (∀ i, PE (BkX X scope i) elt te) ∧ ∀ (G : Gh) (s : DS) (ρ : Rho) (pz : Nat → Addr) (σ : L2.St) (H : Hp) (Q : VK), Rel Ts X.KW G s ρ pz σ H →
      PostG X W G σ H (FreshL X.KW G ρ pz H) (lcF fi hh tt fe (own.map (·.2)) ρ s) Q → tLc wi g t te (own.map (·.2)) σ H Q := by
  obtain ⟨wi, pi, qi⟩ := hi
  obtain ⟨g, pg, qg⟩ := dg_fam (K := X.KW) (Xf := BkX X scope) (fun _ => rfl) hg
  obtain ⟨t, pt, qt⟩ := dts_fam (K := X.KW) (mg := X.mg) (Xf := BkX X scope) (fun _ => rfl) (fun _ => rfl) X rfl ht
  obtain ⟨te, pe, qe⟩ := dx_fam (K := X.KW) (mg := X.mg) (Xf := BkX X scope) (fun _ => rfl) (fun _ => rfl) X rfl rfl he
  exact ⟨wi, g, t, te, pi, pg, pt, pe, fun G s ρ pz σ H Q R h => tlc_run qi qg qt qe his hk R h⟩
theorem df_lc (hc : X.calm = true) (hN : X.N.Nodup) (hi : DI y Ts X W tg iter fi) (ok : BlkOk X.N X.env.scope scope own) (hg : ∀ i, DG y Ts (BkX X scope i) tg is hh) (ht : ∀ i, DTs Ts (BkX X scope i) ifs tt) (he : ∀ i, DX Ts true (BkX X scope i) WF elt fe) (hk : KG is hh) (his : ∀ i ∈ is, i ∈ own.map (·.2) := by decide)
    (hs : ∀ x, foldedSetIterable iter X.env x = pure x := by intro _; rfl) : DF Ts X W (.ListComp elt [⟨tg, iter, ifs, 0⟩] scope pos) (lcF fi hh tt fe (own.map (·.2))) := by
  obtain ⟨wi, g, t, te, pi, pg, pt, pe, q⟩ := lc_parts hi hg ht he his hk
  exact ⟨_, L2.pe_lc hc hN pi ok (fun s H C cl fp => pg (s, H, C, cl, fp)) (fun s H C cl fp => pt (s, H, C, cl, fp)) (fun s H C cl fp => pe (s, H, C, cl, fp)) hs, q⟩
/-- a new list as a value -/
theorem DF.dx (h : DF Ts X W a ff) : DX Ts true X W a (fun ρ => bnd (ff ρ) fun ds => ret (.list ds)) := by
  obtain ⟨t, p, q⟩ := h
  refine ⟨t, p, fun G s ρ pz σ H Q R h => q G s ρ pz σ H Q R (PostG.bnd (h := h) fun ds s1 v H1 hm1 w1 e1 a1 h1 => ?_)⟩
  obtain ⟨p, vs, rfl, hp, hv, l⟩ := a1
  have nb : ¬ badE G ρ pz p := fun z => by
    obtain ⟨o, e⟩ := R.trk _ z
    rw [hp] at e; cases e
  exact h1 _ H1 w1 .refl (.lst nb hv (l.mono (fun _ _ _ q => q) (fun _ _ _ q => q) fun a n _ z => n (.inl z)))
/-- x = [..] on one line -/
theorem ds_ownLc (i : Nat) {x : Str} {px : Pos} (hc : X.calm = true) (hN : X.N.Nodup) (hi : DI y Ts X W tg iter fi) (ok : BlkOk X.N X.env.scope scope own) (hg : ∀ i, DG y Ts (BkX X scope i) tg is hh) (ht : ∀ i, DTs Ts (BkX X scope i) ifs tt) (he : ∀ i, DX Ts true (BkX X scope i) WF elt fe) (hk : KG is hh) (hy : X.N[i]? = some x := by rfl) (hyl : X.env.scope.names.lookup x = some .local := by rfl)
    (hsw : swapsWith (.ListComp elt [⟨tg, iter, ifs, 0⟩] scope pos) (some (.Name x px)) spos.line X.env = pure true := by exact sw_true rfl rfl rfl rfl) (his : ∀ i ∈ is, i ∈ own.map (·.2) := by decide)
    (hs : ∀ x, foldedSetIterable iter X.env x = pure x := by intro _; rfl) : DS1 Ts X W (.Assign [.Name x px] (.ListComp elt [⟨tg, iter, ifs, 0⟩] scope pos) spos) (fun ρ => bnd (lcF fi hh tt fe (own.map (·.2)) ρ) fun ds => ret (.nx (ρ.set i (some (.own (.list ds)))))) := by
  obtain ⟨wi, g, t, te, pi, pg, pt, pe, q⟩ := lc_parts hi hg ht he his hk
  refine ⟨_, ps_setLc hc hN hy hyl hsw pi ok (fun s H C cl fp => pg (s, H, C, cl, fp)) (fun s H C cl fp => pt (s, H, C, cl, fp)) (fun s H C cl fp => pe (s, H, C, cl, fp)) hs, fun G s ρ pz σ H Dn R h => ?_⟩
  refine q G s ρ pz σ H _ R (PostG.stm R h fun ds s1 v H1 hm1 w1 e1 a1 h1 => ?_)
  obtain ⟨p, vs, rfl, hp, hv, l⟩ := a1
  exact h1 _ _ H1 (R.own w1 e1 i (ds := .list ds) hp ⟨vs, hv, l⟩)
/-- the same, as a value -/
theorem ds_setLc (i : Nat) {x : Str} {px : Pos} (hc : X.calm = true) (hN : X.N.Nodup) (hi : DI y Ts X W tg iter fi) (ok : BlkOk X.N X.env.scope scope own) (hg : ∀ i, DG y Ts (BkX X scope i) tg is hh) (ht : ∀ i, DTs Ts (BkX X scope i) ifs tt) (he : ∀ i, DX Ts true (BkX X scope i) WF elt fe) (hk : KG is hh) (hy : X.N[i]? = some x := by rfl) (hyl : X.env.scope.names.lookup x = some .local := by rfl)
    (hsw : swapsWith (.ListComp elt [⟨tg, iter, ifs, 0⟩] scope pos) (some (.Name x px)) spos.line X.env = pure true := by exact sw_true rfl rfl rfl rfl) (his : ∀ i ∈ is, i ∈ own.map (·.2) := by decide)
    (hs : ∀ x, foldedSetIterable iter X.env x = pure x := by intro _; rfl) : DS1 Ts X W (.Assign [.Name x px] (.ListComp elt [⟨tg, iter, ifs, 0⟩] scope pos) spos) (fun ρ => bnd (lcF fi hh tt fe (own.map (·.2)) ρ) fun ds => ret (.nx (ρ.set i (some (.val (.list ds)))))) := by
  obtain ⟨wi, g, t, te, pi, pg, pt, pe, q⟩ := lc_parts hi hg ht he his hk
  refine ⟨_, ps_setLc hc hN hy hyl hsw pi ok (fun s H C cl fp => pg (s, H, C, cl, fp)) (fun s H C cl fp => pt (s, H, C, cl, fp)) (fun s H C cl fp => pe (s, H, C, cl, fp)) hs, fun G s ρ pz σ H Dn R h => ?_⟩
  refine q G s ρ pz σ H _ R (PostG.stm R h fun ds s1 v H1 hm1 w1 e1 a1 h1 => ?_)
  obtain ⟨p, vs, rfl, hp, hv, l⟩ := a1
  have R1 := R.ext w1 e1
  have nb : ¬ badE G ρ pz p := fun z => by
    obtain ⟨o, e⟩ := R.trk _ z
    rw [hp] at e; cases e
  exact h1 pz _ H1 (R1.set i (.lst nb hv (l.mono (fun _ _ _ q => q) (fun _ _ _ q => q) fun a n _ z => n (.inl z))))
end
end DV

set_option Elab.async false
set_option linter.all false
set_option maxRecDepth 100000
set_option maxHeartbeats 2000000
/-! values as data: all(..), any(..), tuple(..) of a generator expression -/
namespace DV
open PySem PySem.Spec PyProof.Rows L2 _root_.DG

section
variable {Ts : List Addr} {X : Cx} {W : L2.WX} {pos cpos px : Pos} {elt tg iter a : Expr} {ifs : List Expr} {fi : Rho → M (List D)} {hh : D → Rho → Option Rho} {is : List Nat} {y : Bool} {tt : Rho → M Bool} {fe : Rho → M D} {scope : Scope} {own : List (Str × Nat)}
variable {G : Gh} {s s' : DS} {ρ : Rho} {pz : Nat → Addr} {σ : L2.St} {H H1 : Hp}
/-- one turn of a block: the item is stored, tested, the element computed -/
theorem turn_run {α β : Type} {g : TG} {t : TT} {te : TE} {vs : List Nat} {ex : Addr → Prop} {H3 : Hp} {x : V} {d : D} {A : Hp → β → α → Prop} {kf : M α} {kt : D → M α} {Q : β → Hp → Prop} {Qn : Hp → Prop} {Qy : VK}
    (qg : ∀ (G : Gh) (s : DS) (ρ : Rho) (pz : Nat → Addr) (σ : L2.St) (H : Hp) (v : V) (d : D) (Q : L2.St → Hp → Prop), Rel Ts X.KW G s ρ pz σ H → AtF y X.KW (badE G ρ pz) H v d → (match hh d ρ with
      | some ρ' => ∀ σ', Rel Ts X.KW G s ρ' pz σ' H → (∀ a, badE G ρ' pz a → badE G ρ pz a) → (∀ i, i ∉ is → σ'[i]? = σ[i]?) → σ'.length = σ.length → Q σ' H
      | none => False) → g v σ H Q)
    (qt : ∀ (G : Gh) (s : DS) (ρ : Rho) (pz : Nat → Addr) (σ : L2.St) (H : Hp) (Q : Bool → Hp → Prop), Rel Ts X.KW G s ρ pz σ H → PostG X WF G σ H (fun _ c d => c = d) (tt ρ s) Q → t σ H Q)
    (qe : ∀ (G : Gh) (s : DS) (ρ : Rho) (pz : Nat → Addr) (σ : L2.St) (H : Hp) (Q : VK), Rel Ts X.KW G s ρ pz σ H → PostG X WF G σ H (AtB true X.KW G ρ pz) (fe ρ s) Q → te σ H Q)
    (his : ∀ i ∈ is, i ∈ vs) (hk : KG is hh) (R1 : Rel Ts X.KW G s ρ pz σ H1) (hex : ∀ a, ex a → H1 a = none ∧ ∃ o, H3 a = some o) (w3 : Wd G s' H3) (e3 : ExtO G H1 H3) (atx : ∀ bad' : Addr → Prop, (∀ a, bad' a → G.bad a ∨ (G.now ρ pz H1).H0 a = none) → AtF y X.KW bad' H3 x d)
    (h2 : PostG X W G σ H1 A (bnd (lift (hh d (wipeR ρ vs))) (fun ρ1 => bnd (nox (tt ρ1)) fun c => if c = true then bnd (nox (fe ρ1)) kt else kf) s') Q)
    (no : ∀ s3 H4, Wd G s3 H4 → ExtO G H3 H4 → PostG X W G σ H1 A (kf s3) Q → Qn H4)
    (yes : ∀ e s5 v H5, Wd G s5 H5 → ExtO G H3 H5 → At X.KW (fun a => badE G ρ pz a ∨ ex a) H5 v e → PostG X W G σ H1 A (kt e s5) Q → Qy v H5) :
    g x (wipe σ vs) H3 fun σ2 H2 => wipe σ2 vs = wipe σ vs ∧ t σ2 H2 fun b H3 => if b = true then te σ2 H3 Qy else Qn H3 := by
  have RP : Rel Ts X.KW (G.prot ρ (wipeR ρ vs) pz ex H3) s' (wipeR ρ vs) pz (wipe σ vs) H3 := R1.prot w3 e3 hex
  refine qg _ s' _ pz _ H3 x d _ RP (atx _ fun a z => ?_) ?_
  · rcases prot_bad.mp z with (z | ⟨i, es, e1, e2⟩) | z
    · exact .inl z
    · exact .inr (now_own ⟨i, es, e1, e2⟩)
    · right
      by_cases c : ∃ i ds, ρ[i]? = some (some (Sl.own ds)) ∧ pz i = a
      · exact now_own c
      · rw [now_get c]; exact (hex a z).1
  · cases eh : hh d (wipeR ρ vs) with
    | none => rw [eh] at h2; exact h2.elim
    | some ρ1 =>
      rw [eh] at h2
      have h2 : PostG X W G σ H1 A (bnd (nox (tt ρ1)) (fun c => if c = true then bnd (nox (fe ρ1)) kt else kf) s') Q := h2
      intro σ1 Rt _ kp1 ln1
      refine ⟨(wipe_eq his kp1 ln1).trans (wipe_wipe σ vs), ?_⟩
      refine qt _ s' ρ1 pz σ1 H3 _ Rt (PostG.bnox (h := h2) fun c s3 hm3 h3 c' H4 w4 e4 hcc => ?_)
      subst hcc
      cases c' with
      | false => exact no s3 H4 ⟨w4.dr, w4.tab⟩ ⟨e4.keep, e4.tf⟩ h3
      | true =>
        have h3 : PostG X W G σ H1 A (bnd (nox (fe ρ1)) kt s3) Q := h3
        have R4 := Rt.ext w4 e4
        refine qe _ s3 ρ1 pz σ1 H4 _ R4 (PostG.bnox (h := h3) fun e s5 hm5 h5 v H5 w5 e5 a5 => ?_)
        have a5 : At X.KW (badE (G.prot ρ (wipeR ρ vs) pz ex H3) ρ1 pz) H5 v e := a5
        exact yes e s5 v H5 ⟨w5.dr, w5.tab⟩ (ExtO.trans ⟨e4.keep, e4.tf⟩ ⟨e5.keep, e5.tf⟩) (a5.eqb fun a z => prot_own (fun j hj => hk d _ _ eh j fun z => hj (his j z)) (prot_bad.mpr z)) h5
/-- all(..), any(..): st the answer that ends it -/
def qD (st : Bool) (hh : D → Rho → Option Rho) (tt : Rho → M Bool) (fe : Rho → M D) (ρ : Rho) : List D → M Bool
  | [] => ret (!st)
  | d :: ds => bnd (lift (hh d ρ)) fun ρ1 => bnd (nox (tt ρ1)) fun c => if c = true then bnd (nox (fe ρ1)) fun e => match e with
      | .bool b => if b = st then ret st else qD st hh tt fe ρ ds
      | _ => stk
    else qD st hh tt fe ρ ds
def qF (st : Bool) (fi : Rho → M (List D)) (hh : D → Rho → Option Rho) (tt : Rho → M Bool) (fe : Rho → M D) (vs : List Nat) (ρ : Rho) : M D := bnd (fi ρ) fun ds => bnd (qD st hh tt fe (wipeR ρ vs) ds) fun b => ret (.bool b)
theorem tq_run {P : Addr} {wi : TI} {g : TG} {t : TT} {te : TE} {vs : List Nat} (st : Bool) (hP : P ∈ Ts)
    (qi : ∀ (G : Gh) (s : DS) (ρ : Rho) (pz : Nat → Addr) (σ : L2.St) (H : Hp) (R : It → Hp → Prop), Rel Ts X.KW G s ρ pz σ H → PostG X W G σ H (fun H' J ds => JOk y X.KW G (G.now ρ pz H').H0 J ds) (fi ρ s) R → wi σ H R)
    (qg : ∀ (G : Gh) (s : DS) (ρ : Rho) (pz : Nat → Addr) (σ : L2.St) (H : Hp) (v : V) (d : D) (Q : L2.St → Hp → Prop), Rel Ts X.KW G s ρ pz σ H → AtF y X.KW (badE G ρ pz) H v d → (match hh d ρ with
      | some ρ' => ∀ σ', Rel Ts X.KW G s ρ' pz σ' H → (∀ a, badE G ρ' pz a → badE G ρ pz a) → (∀ i, i ∉ is → σ'[i]? = σ[i]?) → σ'.length = σ.length → Q σ' H
      | none => False) → g v σ H Q)
    (qt : ∀ (G : Gh) (s : DS) (ρ : Rho) (pz : Nat → Addr) (σ : L2.St) (H : Hp) (Q : Bool → Hp → Prop), Rel Ts X.KW G s ρ pz σ H → PostG X WF G σ H (fun _ c d => c = d) (tt ρ s) Q → t σ H Q)
    (qe : ∀ (G : Gh) (s : DS) (ρ : Rho) (pz : Nat → Addr) (σ : L2.St) (H : Hp) (Q : VK), Rel Ts X.KW G s ρ pz σ H → PostG X WF G σ H (AtB true X.KW G ρ pz) (fe ρ s) Q → te σ H Q)
    (his : ∀ i ∈ is, i ∈ vs) (hk : KG is hh) {Q : VK} (R : Rel Ts X.KW G s ρ pz σ H) (h : PostG X W G σ H (AtB true X.KW G ρ pz) (qF st fi hh tt fe vs ρ s) Q) :
    wi σ H fun J H1 => GxR.TabG H1 P ∧ ∀ H2, GxR.Tabbed P H1 H2 → ∃ W : Nat → Nat → Hp → Prop, (∃ m, W 0 m H2) ∧ ∀ i m H, W i m H → (J.stop i H ∧ Q (.bl (!st)) H) ∨
      (J.go i H ∧ ∀ x H', J.yld i H x H' → g x (wipe σ vs) H' fun σ2 H2 => wipe σ2 vs = wipe σ vs ∧ t σ2 H2 fun b H3 =>
        if b = true then te σ2 H3 fun y H4 => ∃ b, y = .bl b ∧ (b = !st → ∃ m', m' < m ∧ W (i + 1) m' H4) ∧ (b = st → Q (.bl st) H4) else ∃ m', m' < m ∧ W (i + 1) m' H3) := by
  refine qi G s ρ pz σ H _ R (PostG.bnd (h := h) fun ds s1 J H1 hm1 w1 e1 jok h1 => ?_)
  have R1 := R.ext w1 e1
  have hPG : P ∈ G.tabs := by rw [R.ts]; exact hP
  refine ⟨w1.tab P hPG, fun H2 tb => ?_⟩
  have w2 := w1.tabbed R.fix hPG tb
  have e2 : ExtO G H1 H2 := ExtO.tabbed w1 hPG tb
  have h1 : PostG X W G σ H1 (AtB true X.KW G ρ pz) (bnd (qD st hh tt fe (wipeR ρ vs) ds) (fun b => ret (.bool b)) s1) Q := h1
  refine ⟨fun i m H3 => m = ds.length - i ∧ i ≤ ds.length ∧ ∃ s', Wd G s' H3 ∧ ExtO G H1 H3 ∧ PostG X W G σ H1 (AtB true X.KW G ρ pz) (bnd (qD st hh tt fe (wipeR ρ vs) (ds.drop i)) (fun b => ret (.bool b)) s') Q, ⟨_, rfl, Nat.zero_le _, s1, w2, e2, by rw [List.drop_zero]; exact h1⟩, ?_⟩
  rintro i m H3 ⟨rfl, hi, s', w3, e3, h3⟩
  obtain ⟨stp, gos⟩ := jok H3 (ext_now R1 e3)
  by_cases hlt : i < ds.length
  · obtain ⟨d, hd, hdrop⟩ := drop_at hlt
    obtain ⟨go, yld⟩ := gos i d hd
    rw [hdrop] at h3
    refine .inr ⟨go, fun x H4 y => ?_⟩
    obtain ⟨same, atx⟩ := yld x H4 y
    have e4 : ExtO G H1 H4 := e3.trans (.same same)
    have h3 : PostG X W G σ H1 (AtB true X.KW G ρ pz) (bnd (bnd (lift (hh d (wipeR ρ vs))) fun ρ1 => bnd (nox (tt ρ1)) fun c => if c = true then bnd (nox (fe ρ1)) (fun e => match e with
      | .bool b => if b = st then ret st else qD st hh tt fe (wipeR ρ vs) (ds.drop (i + 1))
      | _ => stk) else qD st hh tt fe (wipeR ρ vs) (ds.drop (i + 1))) (fun b => ret (.bool b)) s') Q := h3
    rw [bnd_bnd] at h3
    have h4 : PostG X W G σ H1 (AtB true X.KW G ρ pz) (bnd (lift (hh d (wipeR ρ vs))) (fun ρ1 => bnd (nox (tt ρ1)) fun c => if c = true then bnd (nox (fe ρ1)) (fun e => bnd (match e with
      | .bool b => if b = st then ret st else qD st hh tt fe (wipeR ρ vs) (ds.drop (i + 1))
      | _ => stk) (fun b => ret (.bool b))) else bnd (qD st hh tt fe (wipeR ρ vs) (ds.drop (i + 1))) (fun b => ret (.bool b))) s') Q := by
      refine cast (congrArg (fun k => PostG X W G σ H1 (AtB true X.KW G ρ pz) (bnd (lift (hh d (wipeR ρ vs))) k s') Q) (funext fun ρ1 => ?_)) h3
      rw [bnd_bnd]
      refine congrArg _ (funext fun c => ?_)
      cases c with
      | false => rfl
      | true => exact bnd_bnd _ _ _
    refine turn_run (ex := fun _ => False) qg qt qe his hk R1 (fun _ z => z.elim) (w3.same same) e4 atx h4 (fun s5 H5 w5 e5 h5 => ⟨_, ?_, rfl, hlt, s5, w5, e4.trans e5, h5⟩) fun e s5 v H5 w5 e5 a5 h5 => ?_
    · omega
    · cases e with
      | bool b =>
        have ev : v = .bl b := by cases a5; rfl
        refine ⟨b, ev, fun hb => ?_, fun hb => ?_⟩
        · have h5 : PostG X W G σ H1 (AtB true X.KW G ρ pz) (bnd (if b = st then ret st else qD st hh tt fe (wipeR ρ vs) (ds.drop (i + 1))) (fun b => ret (.bool b)) s5) Q := h5
          rw [if_neg (by rw [hb]; cases st <;> decide)] at h5
          exact ⟨_, by omega, rfl, hlt, s5, w5, e4.trans e5, h5⟩
        · have h5 : PostG X W G σ H1 (AtB true X.KW G ρ pz) (bnd (if b = st then ret st else qD st hh tt fe (wipeR ρ vs) (ds.drop (i + 1))) (fun b => ret (.bool b)) s5) Q := h5
          rw [if_pos hb] at h5
          exact h5 _ H5 w5 (e4.trans e5) (.bl st)
      | _ => exact h5.elim
  · have e : i = ds.length := by omega
    subst e
    rw [List.drop_length] at h3
    have h3 : PostG X W G σ H1 (AtB true X.KW G ρ pz) (ret (.bool (!st)) s') Q := h3
    exact .inl ⟨stp, h3 _ H3 w3 e3 (.bl (!st))⟩
end
end DV

set_option Elab.async false
set_option linter.all false
set_option autoImplicit false
set_option maxRecDepth 100000
set_option maxHeartbeats 2000000
/-! values as data: the rules for generator expressions -/
namespace DV
open PySem PySem.Spec PyProof.Rows L2 _root_.DG

section
variable {Ts : List Addr} {X : Cx} {W : L2.WX} {pos cpos px : Pos} {elt tg iter a : Expr} {ifs : List Expr} {fi : Rho → M (List D)} {hh : D → Rho → Option Rho} {is : List Nat} {y : Bool} {tt : Rho → M Bool} {fe : Rho → M D} {scope : Scope} {own : List (Str × Nat)}
variable {G : Gh} {s s' : DS} {ρ : Rho} {pz : Nat → Addr} {σ : L2.St} {H H1 : Hp}
def tupF (fi : Rho → M (List D)) (hh : D → Rho → Option Rho) (tt : Rho → M Bool) (fe : Rho → M D) (vs : List Nat) (ρ : Rho) : M D := bnd (lcF fi hh tt fe vs ρ) fun ds => ret (.tuple ds)
theorem ttup_run {P : Addr} {wi : TI} {g : TG} {t : TT} {te : TE} {vs : List Nat} (hP : P ∈ Ts)
    (qi : ∀ (G : Gh) (s : DS) (ρ : Rho) (pz : Nat → Addr) (σ : L2.St) (H : Hp) (R : It → Hp → Prop), Rel Ts X.KW G s ρ pz σ H → PostG X W G σ H (fun H' J ds => JOk y X.KW G (G.now ρ pz H').H0 J ds) (fi ρ s) R → wi σ H R)
    (qg : ∀ (G : Gh) (s : DS) (ρ : Rho) (pz : Nat → Addr) (σ : L2.St) (H : Hp) (v : V) (d : D) (Q : L2.St → Hp → Prop), Rel Ts X.KW G s ρ pz σ H → AtF y X.KW (badE G ρ pz) H v d → (match hh d ρ with
      | some ρ' => ∀ σ', Rel Ts X.KW G s ρ' pz σ' H → (∀ a, badE G ρ' pz a → badE G ρ pz a) → (∀ i, i ∉ is → σ'[i]? = σ[i]?) → σ'.length = σ.length → Q σ' H
      | none => False) → g v σ H Q)
    (qt : ∀ (G : Gh) (s : DS) (ρ : Rho) (pz : Nat → Addr) (σ : L2.St) (H : Hp) (Q : Bool → Hp → Prop), Rel Ts X.KW G s ρ pz σ H → PostG X WF G σ H (fun _ c d => c = d) (tt ρ s) Q → t σ H Q)
    (qe : ∀ (G : Gh) (s : DS) (ρ : Rho) (pz : Nat → Addr) (σ : L2.St) (H : Hp) (Q : VK), Rel Ts X.KW G s ρ pz σ H → PostG X WF G σ H (AtB true X.KW G ρ pz) (fe ρ s) Q → te σ H Q)
    (his : ∀ i ∈ is, i ∈ vs) (hk : KG is hh) {Q : VK} (R : Rel Ts X.KW G s ρ pz σ H) (h : PostG X W G σ H (AtB true X.KW G ρ pz) (tupF fi hh tt fe vs ρ s) Q) : tTupG P wi g t te vs σ H Q := by
  have h : PostG X W G σ H (AtB true X.KW G ρ pz) (bnd (bnd (fi ρ) fun ds => if ds.length ≤ 16000000 then lcD hh tt fe (wipeR ρ vs) ds else stk) (fun ds => ret (.tuple ds)) s) Q := h
  rw [bnd_bnd] at h
  refine qi G s ρ pz σ H _ R (PostG.bnd (h := h) fun ds s1 J H1 hm1 w1 e1 jok h1 => ?_)
  have R1 := R.ext w1 e1
  have hPG : P ∈ G.tabs := by rw [R.ts]; exact hP
  refine ⟨w1.tab P hPG, fun H2 tb => ?_⟩
  have w2 := w1.tabbed R.fix hPG tb
  have e2 : ExtO G H1 H2 := ExtO.tabbed w1 hPG tb
  split at h1
  case isFalse => exact h1.elim
  rename_i hlen
  refine ⟨fun i m acc H3 => m = ds.length - i ∧ i ≤ ds.length ∧ ∃ s' accd, Wd G s' H3 ∧ ExtO G H1 H3 ∧ AtL X.KW (badE G ρ pz) H3 acc accd ∧ accd.length ≤ i ∧ PostG X W G σ H1 (AtB true X.KW G ρ pz) (bnd (lcD hh tt fe (wipeR ρ vs) (ds.drop i)) (fun es => ret (.tuple (accd ++ es))) s') Q, ⟨_, rfl, Nat.zero_le _, s1, [], w2, e2, .nil, Nat.le_refl _, by rw [List.drop_zero]; exact h1⟩, ?_⟩
  rintro i m acc H3 ⟨rfl, hi, s', accd, w3, e3, l3, n3, h3⟩
  obtain ⟨stp, gos⟩ := jok H3 (ext_now R1 e3)
  by_cases hlt : i < ds.length
  · obtain ⟨d, hd, hdrop⟩ := drop_at hlt
    obtain ⟨go, yld⟩ := gos i d hd
    rw [hdrop] at h3
    refine .inr ⟨go, fun x H4 y => ?_⟩
    obtain ⟨same, atx⟩ := yld x H4 y
    have e4 : ExtO G H1 H4 := e3.trans (.same same)
    have h3 : PostG X W G σ H1 (AtB true X.KW G ρ pz) (bnd (bnd (lift (hh d (wipeR ρ vs))) fun ρ1 => bnd (nox (tt ρ1)) fun c => if c = true then bnd (nox (fe ρ1)) (fun e => bnd (lcD hh tt fe (wipeR ρ vs) (ds.drop (i + 1))) fun es => ret (e :: es)) else lcD hh tt fe (wipeR ρ vs) (ds.drop (i + 1))) (fun es => ret (.tuple (accd ++ es))) s') Q := h3
    rw [bnd_bnd] at h3
    have h4 : PostG X W G σ H1 (AtB true X.KW G ρ pz) (bnd (lift (hh d (wipeR ρ vs))) (fun ρ1 => bnd (nox (tt ρ1)) fun c => if c = true then bnd (nox (fe ρ1)) (fun e => bnd (lcD hh tt fe (wipeR ρ vs) (ds.drop (i + 1))) fun es => ret (.tuple (accd ++ e :: es))) else bnd (lcD hh tt fe (wipeR ρ vs) (ds.drop (i + 1))) (fun es => ret (.tuple (accd ++ es)))) s') Q := by
      refine cast (congrArg (fun k => PostG X W G σ H1 (AtB true X.KW G ρ pz) (bnd (lift (hh d (wipeR ρ vs))) k s') Q) (funext fun ρ1 => ?_)) h3
      rw [bnd_bnd]
      refine congrArg _ (funext fun c => ?_)
      cases c with
      | false => rfl
      | true =>
        refine (bnd_bnd _ _ _).trans (congrArg _ (funext fun e => ?_))
        exact bnd_bnd _ _ _
    have mv : ∀ {H5 : Hp}, ExtO G H4 H5 → AtL X.KW (badE G ρ pz) H5 acc accd := fun e => l3.ext ((ExtO.same same).trans e)
    refine turn_run (ex := fun _ => False) qg qt qe his hk R1 (fun _ z => z.elim) (w3.same same) e4 atx h4 (fun s5 H5 w5 e5 h5 => ⟨_, ?_, rfl, hlt, s5, accd, w5, e4.trans e5, mv e5, by omega, h5⟩) fun e s5 v H5 w5 e5 a5 h5 => ⟨by rw [sizeLine_eq, l3.len]; omega, _, ?_, rfl, hlt, s5, accd ++ [e], w5, e4.trans e5, (mv e5).app (.one (a5.eqb fun a z => .inl z)), by rw [List.length_append]; simp; exact n3, ?_⟩
    · omega
    · omega
    · have z : (fun es : List D => ret (PyData.tuple (accd ++ e :: es))) = fun es => ret (.tuple ((accd ++ [e]) ++ es)) := funext fun es => by rw [List.append_assoc]; rfl
      rw [← z]
      exact h5
  · have e : i = ds.length := by omega
    subst e
    rw [List.drop_length] at h3
    have h3 : PostG X W G σ H1 (AtB true X.KW G ρ pz) (ret (.tuple (accd ++ [])) s') Q := h3
    rw [List.append_nil] at h3
    refine .inl ⟨stp, by rw [l3.len, sizeLine_eq]; omega, fun a o ha ho => h3 _ _ (w3.new ha) (e3.trans (.new ha)) ?_⟩
    exact l3.mkT ha ho

/-- what every generator expression of a body wants -/
structure GB (X : Cx) (c P : Addr) (k : Nat) : Prop where
  hr : Room (k + 1) X.A
  TB : GxR.TabB X.base X.mg c P
  code : X.env.code = .ref c
  nd : X.N.Nodup
  calm : X.calm = true
abbrev GIx := Shared × Hp × Addr × Value × List Addr × { u : Nat // u ≤ 8 }
abbrev GvX (X : Cx) (scope : Scope) (i : GIx) : Cx := gcx X i.1 i.2.1 scope i.2.2.1 i.2.2.2.1 i.2.2.2.2.1 i.2.2.2.2.2.1
abbrev GuX (X : Cx) (scope : Scope) (i : Shared × Hp × Addr × Value × List Addr × Nat) : Cx := gcx X i.1 i.2.1 scope i.2.2.1 i.2.2.2.1 i.2.2.2.2.1 i.2.2.2.2.2
variable {c P : Addr} {k : Nat}
theorem gen_parts (hi : DI y Ts X W tg iter fi) (hg : ∀ i, DG y Ts (GuX X scope i) tg is hh) (ht : ∀ i, DTs Ts (GvX X scope i) ifs tt) (he : ∀ i, DX Ts true (GvX X scope i) WF elt fe) :
    ∃ wi g t te, PI X tg iter wi ∧ (∀ s H C code fp u, PG (gcx X s H scope C code fp u) tg g) ∧ (∀ s H C code fp u, u ≤ 8 → PTs (gcx X s H scope C code fp u) ifs t) ∧ (∀ s H C code fp u, u ≤ 8 → PE (gcx X s H scope C code fp u) elt te) ∧
    (∀ (G : Gh) (s : DS) (ρ : Rho) (pz : Nat → Addr) (σ : L2.St) (H : Hp) (R : It → Hp → Prop), Rel Ts X.KW G s ρ pz σ H → PostG X W G σ H (fun H' J ds => JOk y X.KW G (G.now ρ pz H').H0 J ds) (fi ρ s) R → wi σ H R) ∧
    (∀ (G : Gh) (s : DS) (ρ : Rho) (pz : Nat → Addr) (σ : L2.St) (H : Hp) (v : V) (d : D) (Q : L2.St → Hp → Prop), Rel Ts X.KW G s ρ pz σ H → AtF y X.KW (badE G ρ pz) H v d → (match hh d ρ with
      | some ρ' => ∀ σ', Rel Ts X.KW G s ρ' pz σ' H → (∀ a, badE G ρ' pz a → badE G ρ pz a) → (∀ i, i ∉ is → σ'[i]? = σ[i]?) → σ'.length = σ.length → Q σ' H
      | none => False) → g v σ H Q) ∧
    (∀ (G : Gh) (s : DS) (ρ : Rho) (pz : Nat → Addr) (σ : L2.St) (H : Hp) (Q : Bool → Hp → Prop), Rel Ts X.KW G s ρ pz σ H → PostG X WF G σ H (fun _ c d => c = d) (tt ρ s) Q → t σ H Q) ∧
    (∀ (G : Gh) (s : DS) (ρ : Rho) (pz : Nat → Addr) (σ : L2.St) (H : Hp) (Q : VK), Rel Ts X.KW G s ρ pz σ H → PostG X WF G σ H (AtB true X.KW G ρ pz) (fe ρ s) Q → te σ H Q) := by
  obtain ⟨wi, pi, qi⟩ := hi
  obtain ⟨g, pg, qg⟩ := dg_fam (K := X.KW) (Xf := GuX X scope) (fun _ => rfl) hg
  obtain ⟨t, pt, qt⟩ := dts_fam (K := X.KW) (mg := X.mg) (Xf := GvX X scope) (fun _ => rfl) (fun _ => rfl) X rfl ht
  obtain ⟨te, pe, qe⟩ := dx_fam (K := X.KW) (mg := X.mg) (Xf := GvX X scope) (fun _ => rfl) (fun _ => rfl) X rfl rfl he
  exact ⟨wi, g, t, te, pi, fun s H C code fp u => pg (s, H, C, code, fp, u), fun s H C code fp u hu => pt (s, H, C, code, fp, ⟨u, hu⟩), fun s H C code fp u hu => pe (s, H, C, code, fp, ⟨u, hu⟩), qi, qg, qt, qe⟩
section
variable (gb : GB X c P k) (hP : P ∈ Ts) (ok : GNames X.N X.env.scope scope own) (hi : DI y Ts X W tg iter fi) (hg : ∀ i, DG y Ts (GuX X scope i) tg is hh) (ht : ∀ i, DTs Ts (GvX X scope i) ifs tt) (he : ∀ i, DX Ts true (GvX X scope i) WF elt fe) (hk : KG is hh)
include gb hP ok hi hg ht he hk
theorem dx_allG (hgl : Gl X "all") (hm : X.mg "all" = none) (his : ∀ i ∈ is, i ∈ own.map (·.2) := by decide) (hb : bootBuiltins "all" = some (.builtin "all") := by decide +kernel) (fold : ∀ v, genFold iter X.env v = pure v := by intro _; rfl) (hst : starEach [gExp elt tg iter ifs scope pos] X.env = (false, eval (gExp elt tg iter ifs scope pos) X.env) :: starEach [] X.env := by rfl) :
    DX Ts true X W (.Call (.Name "all" px) [gExp elt tg iter ifs scope pos] [] cpos) (qF false fi hh tt fe (own.map (·.2))) := by
  obtain ⟨wi, g, t, te, pi, pg, pt, pe, qi, qg, qt, qe⟩ := gen_parts hi hg ht he
  exact ⟨_, pe_allG ⟨gb.hr, gb.TB, gb.code, ok, gb.nd, gb.calm, fold⟩ hgl hm hb pi pg pt pe hst, fun G s ρ pz σ H Q R h => tq_run false hP qi qg qt qe his hk R h⟩
theorem dx_anyG (hgl : Gl X "any") (hm : X.mg "any" = none) (his : ∀ i ∈ is, i ∈ own.map (·.2) := by decide) (hb : bootBuiltins "any" = some (.builtin "any") := by decide +kernel) (fold : ∀ v, genFold iter X.env v = pure v := by intro _; rfl) (hst : starEach [gExp elt tg iter ifs scope pos] X.env = (false, eval (gExp elt tg iter ifs scope pos) X.env) :: starEach [] X.env := by rfl) :
    DX Ts true X W (.Call (.Name "any" px) [gExp elt tg iter ifs scope pos] [] cpos) (qF true fi hh tt fe (own.map (·.2))) := by
  obtain ⟨wi, g, t, te, pi, pg, pt, pe, qi, qg, qt, qe⟩ := gen_parts hi hg ht he
  exact ⟨_, pe_anyG ⟨gb.hr, gb.TB, gb.code, ok, gb.nd, gb.calm, fold⟩ hgl hm hb pi pg pt pe hst, fun G s ρ pz σ H Q R h => tq_run true hP qi qg qt qe his hk R h⟩
theorem dx_tupG (hgl : Gl X "tuple") (hm : X.mg "tuple" = none) (his : ∀ i ∈ is, i ∈ own.map (·.2) := by decide) (hb : bootBuiltins "tuple" = some (.type "tuple") := by decide +kernel) (fold : ∀ v, genFold iter X.env v = pure v := by intro _; rfl) (hst : starEach [gExp elt tg iter ifs scope pos] X.env = (false, eval (gExp elt tg iter ifs scope pos) X.env) :: starEach [] X.env := by rfl) :
    DX Ts true X W (.Call (.Name "tuple" px) [gExp elt tg iter ifs scope pos] [] cpos) (tupF fi hh tt fe (own.map (·.2))) := by
  obtain ⟨wi, g, t, te, pi, pg, pt, pe, qi, qg, qt, qe⟩ := gen_parts hi hg ht he
  exact ⟨_, pe_tupG ⟨gb.hr, gb.TB, gb.code, ok, gb.nd, gb.calm, fold⟩ hgl hm hb pi pg pt pe hst, fun G s ρ pz σ H Q R h => ttup_run hP qi qg qt qe his hk R h⟩
end
end
end DV

set_option Elab.async false
set_option linter.all false
set_option maxRecDepth 100000
set_option maxHeartbeats 2000000
/-! a def by its body, from the head's facts; the draws -/
namespace DV
open PySem PySem.Spec PyProof.Rows L2

section
variable {P : Program} {w : World} {K : PySem.W.Frag} {mg : Str → Option Value} {base : Heap} {Ts : List Addr}
theorem fn_dvD {x qual : Str} {st : Stmt} {f : Addr} {fd : FuncData} {N ps : List Str} {k n : Nat} {g : Rho → M Out} (F : FunD K x qual (defArgs st) (defBody st) (defScope st) [] [] f fd) (S : FnScope N ps (defScope st)) (hn : ps.length = n)
    (hbody : ∀ (cdv : Value), fd.code = cdv → ∀ (A : Around) (outer : List Env) (s : Shared) (H : Hp) (E : XK), Room k (A.deeper (envOfC qual (defScope st) s.heap.objs.size f cdv)) →
      DSs Ts (cxOf (L2N.CX P w) P w K mg base N qual (defScope st) f cdv A outer s H E) (fun cls d _ H' => E cls d H') (defBody st) g) :
    FnOk P w K mg base (L2N.CX P w) (k + 1) f fd ps (spD Ts ⟨K, w⟩ mg n (runB g N)) := by
  obtain ⟨oc, od, dV, kV, doc, pm, an, cdv, ct, osl, rfl, lk, hcd, _, _⟩ := F.ex
  refine fn_of lk hcd S (fun vs H Q E h => by rw [h.1, hn]) fun A outer s H vs Q E hr hsp => ?_
  obtain ⟨hvl, G, s0, as, hf, ht, h0, hw, ha, post⟩ := hsp
  obtain ⟨t, pt, qt⟩ := hbody cdv rfl A outer s H E hr
  refine ⟨t, pt, qt G s0 (startD N as) (fun _ => 0) (L2.start N vs) H _ (rel_start (K := ⟨K, w⟩) hf ht h0 hw ha) ?_⟩
  unfold runB bnd at post
  cases hg : g (startD N as) s0 with
  | stuck => rw [hg] at post; exact post
  | exc e s' =>
    rw [hg] at post
    exact fun C σ H' hc w' e' => post C H' hc w' (by rw [h0] at e'; exact e')
  | ok o s' =>
    rw [hg] at post
    cases o with
    | nx ρ => exact fun pz σ H' R' => post .non H' R'.wd (by have := R'.kp; rw [h0] at this; exact this) .non
    | rt d => exact fun v H' w' e' a => post v H' w' (by rw [h0] at e'; exact e') a
    | bk ρ => exact post.elim
    | ct ρ => exact post.elim
/-- weaker: any function that goes as far -/
theorem fn_imp {f : Addr} {fd : FuncData} {ps : List Str} {k n : Nat} {F F' : List Sl → M D} (h : FnOk P w K mg base (L2N.CX P w) k f fd ps (spD Ts ⟨K, w⟩ mg n F)) (e : ∀ as s, F' as s ≠ .stuck → F as s = F' as s) : FnOk P w K mg base (L2N.CX P w) k f fd ps (spD Ts ⟨K, w⟩ mg n F') := by
  refine h.imp fun vs H Q E ⟨hl, G, s, as, h1, h2, h3, h4, h5, h6⟩ => ⟨hl, G, s, as, h1, h2, h3, h4, h5, ?_⟩
  have hns : F' as s ≠ .stuck := fun z => by rw [z] at h6; exact h6
  rw [e as s hns]
  exact h6
end
end DV

set_option Elab.async false
set_option linter.all false
set_option maxRecDepth 100000
set_option maxHeartbeats 2000000
/-! what the head tells, and a def's promise by its body -/
namespace DV
open PySem PySem.Spec PyProof.Rows L2

structure Fx (fa : List He.Fa) (fn : List He.DefD) (tf : List He.Defn) (ex : PySem.W.Frag → Bool) (K : PySem.W.Frag) (mg : Str → Option Value) (base : Heap) : Prop where
  c : He.SaysD fa fn K
  X : K.In base
  G : base.Ns mainGlobals mg
  more : ex K = true
  tb : ∀ p ∈ tf, GxR.TabB base mg (He.cT K p).1 (He.cT K p).2
def TsL (tf : List He.Defn) (K : PySem.W.Frag) : List Addr := tf.map fun p => (He.cT K p).2
section
variable {fa : List He.Fa} {fn : List He.DefD} {tf : List He.Defn} {ex : PySem.W.Frag → Bool} {P : Program} {w : World} {K : PySem.W.Frag} {mg : Str → Option Value} {base : Heap}
theorem Fx.fr (Z : Fx fa fn tf ex K mg base) (i : Nat) {x : Str} (h : fa[i]? = some (.free x) := by rfl) : mg x = none := He.free_ok Z.X Z.G (Z.c.fact i h)
theorem Fx.gl (Z : Fx fa fn tf ex K mg base) (i : Nat) {x : Str} (h : fa[i]? = some (.glo x) := by rfl) : mg x = some (.ref (He.ga K x)) := He.glo_ok Z.X Z.G (Z.c.fact i h)
/-- f keeps the promise F -/
def Has (P : Program) (w : World) (K : PySem.W.Frag) (mg : Str → Option Value) (base : Heap) (Ts : List Addr) (x : Str) (k n : Nat) (F : List Sl → M D) : Prop :=
  ∃ (fd : FuncData) (ps : List Str), Binds K fd ps [] ∧ PySem.W.keepIn K (.ref (He.ga K x)) = true ∧ mg x = some (.ref (He.ga K x)) ∧ FnOk P w K mg base (L2N.CX P w) k (He.ga K x) fd ps (spD Ts ⟨K, w⟩ mg n F)
theorem Has.imp {Ts : List Addr} {x : Str} {k n : Nat} {F F' : List Sl → M D} (h : Has P w K mg base Ts x k n F) (e : ∀ as s, F' as s ≠ .stuck → F as s = F' as s) : Has P w K mg base Ts x k n F' := by
  obtain ⟨fd, ps, a, b, c, d⟩ := h
  exact ⟨fd, ps, a, b, c, fn_imp d e⟩
theorem has_of (Z : Fx fa fn tf ex K mg base) {x : Str} {st : Stmt} {N ps : List Str} {k n : Nat} {g : Rho → M Out} {Ts : List Addr} (i j : Nat) (hi : fn[i]? = some ⟨(x, none), x, x, defArgs st, defBody st, defScope st, [], []⟩) (hj : fa[j]? = some (.glo x)) (S : FnScope N ps (defScope st)) (hn : ps.length = n)
    (hb : ∀ (kV doc pm : Value) (an : Option Addr) (cdv ct : Value) (us : List Value), us.length = ps.length → bindArgs (PySem.W.fnOf x x (defArgs st) (defBody st) (defScope st) .none kV doc pm an cdv ct) ⟨us, []⟩ = pure (ps.zip us))
    (hbody : ∀ (cdv : Value), cdv = .ref (He.codeOf K (x, none)) → ∀ (A : Around) (outer : List Env) (s : Shared) (H : Hp) (E : XK), Room k (A.deeper (envOfC x (defScope st) s.heap.objs.size (He.ga K x) cdv)) →
      DSs Ts (cxOf (L2N.CX P w) P w K mg base N x (defScope st) (He.ga K x) cdv A outer s H E) (fun cls d _ H' => E cls d H') (defBody st) g) :
    Has P w K mg base Ts x (k + 1) n (runB g N) := by
  obtain ⟨fd, F⟩ := Z.c.def_ i hi
  refine ⟨fd, ps, F.bindsN hb, F.kp, Z.gl j hj, fn_dvD F S hn fun cdv hc => hbody cdv ?_⟩
  obtain ⟨oc, od, dV, kV, doc, pm, an, cd, ct, osl, rfl, lk, hcd, _, _⟩ := F.ex
  obtain ⟨c, ec⟩ := He.codeIn_ref hcd
  subst ec
  rw [He.codeOf_eq (p := (x, none)) lk rfl, ← hc]
theorem dx_callH {Ts : List Addr} {X : Cx} {W : L2.WX} {a : Expr} {es : List Expr} {x : Str} {p pos : Pos} {k n : Nat} {F : List Sl → M D} {fs : Rho → M (List Sl)} (Z : Has X.prog X.w X.K X.mg X.base Ts x k n F) (hr : Room k X.A) (tk : L2N.Takes X W) (ha : DL Ts X W (a :: es) fs) (hg : Gl X x := by rfl) (hn : (a :: es).length = n := by rfl) (hdb : (x == ("__debug__" : Str)) = false := by decide) (he : starEach (a :: es) X.env = (false, eval a X.env) :: starEach es X.env := by rfl) (hpl : (backTo pos (starEach es X.env)).any (·.1) = false := by rfl) :
    DX Ts true X W (.Call (.Name x p) (a :: es) [] pos) (fun ρ => bnd (fs ρ) F) := by
  obtain ⟨fd, ps, b, kp, m, Fk⟩ := Z
  exact dx_call Fk hr hg m kp b tk ha hn hdb he hpl
theorem ds_raiseZ {X : Cx} {W : L2.WX} {Ts : List Addr} {x m : Str} {j : Nat} {p p2 pos rpos : Pos} (Z : Fx fa fn tf ex X.K X.mg X.base) (i i2 : Nat) (hc : X.calm = true) (tk : L2N.Takes X W) (h : fa[i]? = some (.exc x) := by rfl) (h2 : fa[i2]? = some (.glo x) := by rfl) (hg : Gl X x := by rfl) (hdb : (x == ("__debug__" : Str)) = false := by decide) :
    DS1 Ts X W (.Raise (some (.Call (.Name x p) [.Constant (.str m) j p2] [] pos)) none rpos) (fun _ => thr x) := by
  obtain ⟨q, kp, b, t⟩ := He.exc_ok (Z.c.fact i h)
  exact ds_raise hc tk (L2N.pmk_own PySem.F.excBase_ValueError q (Z.gl i2 h2) kp (raises_own b t) hg hdb) (fun σ H Q q => q) (Z.gl i2 h2)
theorem gb_of {X : Cx} {k : Nat} (Z : Fx fa fn tf ex X.K X.mg X.base) (p : He.Defn) (hp : p ∈ tf) (hr : Room (k + 1) X.A) (hc : X.env.code = .ref (He.codeOf X.K p)) (nd : X.N.Nodup) (calm : X.calm = true) : GB X (He.codeOf X.K p) (He.cT X.K p).2 k :=
  ⟨hr, Z.tb p hp, hc, nd, calm⟩
theorem ts_mem {K : PySem.W.Frag} {p : He.Defn} (hp : p ∈ tf) : (He.cT K p).2 ∈ TsL tf K := List.mem_map.mpr ⟨p, hp, rfl⟩
theorem units65 {k : Nat} {A : Around} (r : Room k A) : A.units + 65 < cLine := by have := r.un; omega
/-- own lists frozen at one place -/
def frzI (i : Nat) (ρ : Rho) : Rho := match ρ[i]? with
  | some (some (.own d)) => ρ.set i (some (.val d))
  | _ => ρ
end
section
variable {Ts : List Addr} {K : KW} {G : Gh} {s : DS} {ρ : Rho} {pz : Nat → Addr} {σ : L2.St} {H : Hp} {X : Cx} {W : L2.WX} {g : Rho → M Out} {sts : List Stmt}
theorem Rel.frzI (R : Rel Ts K G s ρ pz σ H) (i : Nat) : Rel Ts K G s (frzI i ρ) pz σ H := by
  unfold DV.frzI
  split
  · rename_i ds hi
    have nb : ∀ es, (some (Sl.val ds) : Option Sl) ≠ some (.own es) := fun es z => by cases z
    have sub : ∀ a, badE G (ρ.set i (some (.val ds))) pz a → badE G ρ pz a := fun a => bad_set nb
    refine ⟨R.fix, R.ts, R.wd, R.kp, by rw [List.length_set]; exact R.len, fun j sl e => ?_, fun j k ds1 es e1 e2 => ?_, fun j ds1 e => ?_⟩
    · rcases set_get e with ⟨rfl, e2⟩ | ⟨hn, e2⟩
      · cases e2
        obtain ⟨v, e3, e4, q⟩ := R.at_ j _ hi
        refine ⟨v, e3, ?_⟩
        rw [e4]
        refine q.at_ (fun z => ?_) fun l => l.mono (fun _ _ _ q => q) (fun _ _ _ q => q) fun a n _ z => n (sub a z)
        rcases z with z | ⟨k, es, ek, ep⟩
        · exact R.notbad hi z
        · rcases set_get ek with ⟨rfl, z⟩ | ⟨hn, ek⟩
          · cases z
          · exact hn (R.inj k j _ _ ek hi ep)
      · obtain ⟨v, e3, q⟩ := R.at_ j sl e2
        exact ⟨v, e3, sl_eqb q sub⟩
    · rcases set_get e1 with ⟨_, z⟩ | ⟨_, e1⟩
      · cases z
      · rcases set_get e2 with ⟨_, z⟩ | ⟨_, e2⟩
        · cases z
        · exact R.inj j k ds1 es e1 e2
    · rcases set_get e with ⟨_, z⟩ | ⟨_, e⟩
      · cases z
      · exact R.new j ds1 e
  · exact R
/-- from here on the list at i is a value -/
theorem dss_frz (i : Nat) (h : DSs Ts X W sts g) : DSs Ts X W sts (fun ρ => g (frzI i ρ)) := by
  obtain ⟨t, p, q⟩ := h
  exact ⟨t, p, fun G s ρ pz σ H Dn R h => q G s (frzI i ρ) pz σ H Dn (R.frzI i) h⟩
end
end DV
namespace DV
open PySem PySem.Spec PyProof.Rows L2
theorem takes0N {X : Cx} : L2N.Takes X (fun _ _ _ _ => False) := fun _ _ x => by
  obtain ⟨_, _, _, _, _, _, _, _, _, _, _, _, _, _, _, _, z⟩ := x
  exact z.elim
end DV

set_option Elab.async false
set_option linter.all false
set_option maxRecDepth 100000
set_option maxHeartbeats 2000000
/-! the names of the boot -/
namespace DV
open PySem PySem.Spec PyProof.Rows L2
theorem bb_isinstance : bootBuiltins "isinstance" = some (.builtin "isinstance") := by decide +kernel
theorem bb_len : bootBuiltins "len" = some (.builtin "len") := by decide +kernel
theorem bb_abs : bootBuiltins "abs" = some (.builtin "abs") := by decide +kernel
theorem bb_sorted : bootBuiltins "sorted" = some (.builtin "sorted") := by decide +kernel
theorem bb_divmod : bootBuiltins "divmod" = some (.builtin "divmod") := by decide +kernel
theorem bb_sum : bootBuiltins "sum" = some (.builtin "sum") := by decide +kernel
theorem bb_min : bootBuiltins "min" = some (.builtin "min") := by decide +kernel
theorem bb_max : bootBuiltins "max" = some (.builtin "max") := by decide +kernel
theorem bb_all : bootBuiltins "all" = some (.builtin "all") := by decide +kernel
theorem bb_any : bootBuiltins "any" = some (.builtin "any") := by decide +kernel
theorem bb_int : bootBuiltins "int" = some (.type "int") := by decide +kernel
theorem bb_bool : bootBuiltins "bool" = some (.type "bool") := by decide +kernel
theorem bb_str : bootBuiltins "str" = some (.type "str") := by decide +kernel
theorem bb_tuple : bootBuiltins "tuple" = some (.type "tuple") := by decide +kernel
theorem bb_list : bootBuiltins "list" = some (.type "list") := by decide +kernel
end DV

set_option Elab.async false
set_option linter.all false
set_option autoImplicit false
set_option maxRecDepth 100000
set_option maxHeartbeats 2000000
/-! the draws: what their defs do with the list -/
namespace DV
open PySem PySem.Spec PyProof.Rows L2

section
variable {Ts : List Addr} {K : KW} {G : Gh} {s s' : DS} {ρ : Rho} {pz : Nat → Addr} {σ : L2.St} {H H' : Hp} {v : V}
/-- something that is no list of one's own is stored -/
theorem Rel.setS (R : Rel Ts K G s ρ pz σ H) (i : Nat) (sl : Sl) (hno : ∀ ds, sl ≠ .own ds) (h : SlAt K (badE G ρ pz) G H (pz i) v sl) : Rel Ts K G s (ρ.set i (some sl)) pz (σ.set i (some v)) H := by
  have nb : ∀ ds, (some sl : Option Sl) ≠ some (.own ds) := fun ds z => hno ds (Option.some.inj z)
  refine ⟨R.fix, R.ts, R.wd, R.kp, by rw [List.length_set, List.length_set]; exact R.len, fun j sl' e => ?_, fun j k ds es e1 e2 => ?_, fun j ds e => ?_⟩
  · rcases set_get e with ⟨rfl, e2⟩ | ⟨hn, e2⟩
    · cases e2
      have hl : j < ρ.length := by
        rcases Nat.lt_or_ge j ρ.length with q | q
        · exact q
        · rw [List.getElem?_eq_none (by simpa using q)] at e; cases e
      exact ⟨v, List.getElem?_set_self (by rw [← R.len]; exact hl), sl_eqb h fun a => bad_set nb⟩
    · obtain ⟨v', e3, q⟩ := R.at_ j sl' e2
      exact ⟨v', by rw [List.getElem?_set_ne (Ne.symm hn)]; exact e3, sl_eqb q fun a => bad_set nb⟩
  · rcases set_get e1 with ⟨_, z⟩ | ⟨_, e1⟩
    · exact absurd z.symm (nb ds)
    · rcases set_get e2 with ⟨_, z⟩ | ⟨_, e2⟩
      · exact absurd z.symm (nb es)
      · exact R.inj j k ds es e1 e2
  · rcases set_get e with ⟨_, z⟩ | ⟨_, e⟩
    · exact absurd z.symm (nb ds)
    · exact R.new j ds e
theorem ext_dr {o : HO} (hd : ∃ xs, H G.dr = some (.lst xs)) : ExtO G H (upd H G.dr o) := by
  obtain ⟨xs, hd⟩ := hd
  exact ⟨fun a u n _ e => by rw [upd_ne n]; exact e, fun a u t e => by rw [upd_ne fun z => by rw [z, hd] at e; cases e; cases t]; exact e⟩
theorem wd_dr {xs : List V} (hf : G.Fix) (w : Wd G s H) (h : DrOk G s' (upd H G.dr (.lst xs))) : Wd G s' (upd H G.dr (.lst xs)) :=
  ⟨h, fun P hP => by
    obtain ⟨ps, e, r⟩ := w.tab P hP
    exact ⟨ps, by rw [upd_ne fun z => hf.nt (by rw [← z]; exact hP)]; exact e, r⟩⟩
end

section
variable {Ts : List Addr} {X : Cx} {W : L2.WX} {pos px py p : Pos} {x y z u : Str} {st : Stmt} {e : Expr} {fe : Rho → M D} {b : Bool}
def getA {α : Type} (k : Int → Int → List Int → M α) : M α := fun s => match s with
  | .a t l cells => k t l cells s
  | _ => .stuck
def slotCl (ρ : Rho) (i : Nat) : M Unit := match ρ[i]? with
  | some (some .cls) => ret ()
  | _ => stk
theorem slotDr_of {G : Gh} {s : DS} {ρ : Rho} {pz : Nat → Addr} {σ : L2.St} {H : Hp} {α β : Type} {A : Hp → β → α → Prop} {k : M α} {Q : β → Hp → Prop} {i : Nat} (R : Rel Ts X.KW G s ρ pz σ H) (h : PostG X W G σ H A (bnd (slotDr ρ i) (fun _ => k) s) Q) : σ[i]? = some (some (.ref G.dr)) ∧ PostG X W G σ H A (k s) Q := by
  unfold slotDr at h
  rcases hr : ρ[i]? with _ | (_ | (d | ds | _ | _ | _)) <;> rw [hr] at h <;> first | exact h.elim | skip
  obtain ⟨v, e1, q⟩ := R.at_ i _ hr
  have q : v = .ref G.dr := q
  subst q
  exact ⟨e1, h⟩
theorem slotDr_ofS {G : Gh} {s : DS} {ρ : Rho} {pz : Nat → Addr} {σ : L2.St} {H : Hp} {k : M Out} {Dn : Ends} {i : Nat} (R : Rel Ts X.KW G s ρ pz σ H) (h : PostS Ts X W G (bnd (slotDr ρ i) (fun _ => k) s) Dn) : σ[i]? = some (some (.ref G.dr)) ∧ PostS Ts X W G (k s) Dn := by
  unfold slotDr at h
  rcases hr : ρ[i]? with _ | (_ | (d | ds | _ | _ | _)) <;> rw [hr] at h <;> first | exact h.elim | skip
  obtain ⟨v, e1, q⟩ := R.at_ i _ hr
  have q : v = .ref G.dr := q
  subst q
  exact ⟨e1, h⟩
theorem slotCl_of {G : Gh} {s : DS} {ρ : Rho} {pz : Nat → Addr} {σ : L2.St} {H : Hp} {α β : Type} {A : Hp → β → α → Prop} {k : M α} {Q : β → Hp → Prop} {i : Nat} (R : Rel Ts X.KW G s ρ pz σ H) (h : PostG X W G σ H A (bnd (slotCl ρ i) (fun _ => k) s) Q) : σ[i]? = some (some (.ref G.cl)) ∧ PostG X W G σ H A (k s) Q := by
  unfold slotCl at h
  rcases hr : ρ[i]? with _ | (_ | (d | ds | _ | _ | _)) <;> rw [hr] at h <;> first | exact h.elim | skip
  obtain ⟨v, e1, q⟩ := R.at_ i _ hr
  have q : v = .ref G.cl := q
  subst q
  exact ⟨e1, h⟩
/-- turn, left, cells = draws -/
theorem ds_draws3 (i j k l : Nat) (pe : ∀ {te : TE}, PE X (.Name x px) te → PS X st (tAsg te (gLst X.K 3 (gCons (gName j) (gCons (gName k) (gCons (gName l) gNil)))))) (hN : X.N[i]? = some x := by rfl) (hv : Vis X.env.scope x := by first | exact Or.inl rfl | exact Or.inr (Or.inl rfl) | exact Or.inr (Or.inr rfl)) (hd : (x == ("__debug__" : Str)) = false := by decide)
    (hcd : (x == ("__classdict__" : Str)) = false := by decide) : DS1 Ts X W st (fun ρ => bnd (slotDr ρ i) fun _ => getA fun t n _ => ret (.nx (((ρ.set j (some (.val (.int t)))).set k (some (.val (.int n)))).set l (some .cls)))) := by
  refine ⟨_, pe (pe_var hN hv hd hcd), fun G s ρ pz σ H Dn R h => ?_⟩
  obtain ⟨e1, h⟩ := slotDr_ofS R h
  cases s with
  | b xs => exact h.elim
  | a t n cells =>
    obtain ⟨hk, hd, hc, r⟩ := R.wd.dr
    refine ⟨_, e1, _, _, rfl, SqL.of hd, rfl, _, _, rfl, _, _, rfl, _, _, rfl, rfl, ?_⟩
    exact h pz _ H (((R.setS j (.val (.int t)) (fun _ z => by cases z) (.int t)).setS k (.val (.int n)) (fun _ z => by cases z) (.int n)).setS l .cls (fun _ z => by cases z) rfl)
/-- len(cells) -/
theorem dx_lenC (i : Nat) (hg : Gl X "len") (hm : X.mg "len" = none) (hN : X.N[i]? = some x := by rfl) (hv : Vis X.env.scope x := by first | exact Or.inl rfl | exact Or.inr (Or.inl rfl) | exact Or.inr (Or.inr rfl)) (hd : (x == ("__debug__" : Str)) = false := by decide)
    (hcd : (x == ("__classdict__" : Str)) = false := by decide) (he : starEach [.Name x px] X.env = (false, eval (.Name x px) X.env) :: starEach [] X.env := by rfl) (hpl : (backTo pos (starEach [] X.env)).any (·.1) = false := by rfl) :
    DX Ts true X W (.Call (.Name "len" p) [.Name x px] [] pos) (fun ρ => bnd (slotCl ρ i) fun _ => getA fun _ _ cells => ret (.int cells.length)) := by
  refine ⟨_, pe_callB call_len_seq hg hm bb_len (pa_cons (pe_var hN hv hd hcd) pa_nil he) (by decide) (by decide) he hpl, fun G s ρ pz σ H Q R h => ?_⟩
  obtain ⟨e1, h⟩ := slotCl_of R h
  cases s with
  | b xs => exact h.elim
  | a t n cells =>
    obtain ⟨hk, hd, hc, r⟩ := R.wd.dr
    refine ⟨_, e1, _, _, rfl, .inl (SqL.of hc), ?_⟩
    rw [List.length_map]
    exact h _ H R.wd .refl (.int _)
theorem atI_map {α β : Type} {f : α → β} {xs : List α} {k : Int} {z : α} (h : atI xs k = some z) : atI (xs.map f) k = some (f z) := by
  unfold atI at h ⊢
  rw [List.length_map]
  cases hx : ixN xs.length k with
  | none => rw [hx] at h; cases h
  | some j =>
    rw [hx] at h
    have h : xs[j]? = some z := h
    show (xs.map f)[j]? = _
    rw [List.getElem?_map, h]
    rfl
/-- cells[e] -/
theorem dx_ixC (i : Nat) (hb : DX Ts b X W e fe) (hN : X.N[i]? = some x := by rfl) (hv : Vis X.env.scope x := by first | exact Or.inl rfl | exact Or.inr (Or.inl rfl) | exact Or.inr (Or.inr rfl)) (hd : (x == ("__debug__" : Str)) = false := by decide)
    (hcd : (x == ("__classdict__" : Str)) = false := by decide) (hs : PlainIx e := by exact fun _ _ => rfl) : DX Ts true X W (.Subscript (.Name x px) e pos) (fun ρ => bnd (slotCl ρ i) fun _ => bnd (fe ρ) fun d => getA fun _ _ cells => match d with
      | .int k => (match atI cells k with
        | some z => ret (.int z)
        | none => stk)
      | _ => stk) := by
  obtain ⟨tb, pb, qb⟩ := hb
  refine ⟨_, pe_ix ix_seq (pe_var hN hv hd hcd) pb hs, fun G s ρ pz σ H Q R h => ?_⟩
  obtain ⟨e1, h⟩ := slotCl_of R h
  refine ⟨_, e1, qb G s ρ pz σ H _ R (PostG.bnd h fun d s1 v H1 hm1 w1 e2 a1 h1 => ?_)⟩
  have R1 := R.ext w1 e2
  cases s1 with
  | b xs => exact h1.elim
  | a t n cells =>
    obtain ⟨hk, hd, hc, r⟩ := R1.wd.dr
    cases d with
    | int k =>
      have h1 : PostG X W G σ H1 (AtB true X.KW G ρ pz) ((match atI cells k with
        | some z => ret (PyData.int z)
        | none => stk) (DS.a t n cells)) Q := h1
      cases hx : atI cells k with
      | none => rw [hx] at h1; exact h1.elim
      | some z =>
        rw [hx] at h1
        exact .inl ⟨_, _, k, _, rfl, (a1.w R1).int, SqL.of hc, atI_map hx, h1 _ H1 R1.wd .refl (.int _)⟩
    | _ => exact h1.elim
/-- draws[0] = e, draws[1] = e -/
def putA (j : Nat) (d : D) : M Unit := fun s => match d, s with
  | .int z, .a t l cells => if j = 0 then .ok () (.a z l cells) else .ok () (.a t z cells)
  | _, _ => .stuck
theorem ds_setD (i : Nat) (j : Nat) (hj : j < 2) {c : Int} (hcj : c = (j : Int)) {ci : Nat} {pc : Pos} (ha : DX Ts true X W e fe) (ps : ∀ {te to ti : TE}, PE X e te → PE X (.Name x px) to → PE X (.Constant (.int c) ci pc) ti → PS X st (tAsg te (gSub to ti rSetL))) (hN : X.N[i]? = some x := by rfl) (hv : Vis X.env.scope x := by first | exact Or.inl rfl | exact Or.inr (Or.inl rfl) | exact Or.inr (Or.inr rfl)) (hd : (x == ("__debug__" : Str)) = false := by decide)
    (hcd : (x == ("__classdict__" : Str)) = false := by decide) : DS1 Ts X W st (fun ρ => bnd (fe ρ) fun d => bnd (slotDr ρ i) fun _ => bnd (putA j d) fun _ => ret (.nx ρ)) := by
  obtain ⟨ta, pa, qa⟩ := ha
  refine ⟨_, ps pa (pe_var hN hv hd hcd) pe_int, fun G s ρ pz σ H Dn R h => ?_⟩
  refine qa G s ρ pz σ H _ R (PostG.stm R h fun d s1 v H1 hm1 w1 e1 a1 h1 => ?_)
  have R1 := R.ext w1 e1
  obtain ⟨e2, h2⟩ := slotDr_ofS R1 h1
  have x1 : AtW X.KW (badE G ρ pz) H1 v d := .inl a1
  cases s1 with
  | b xs => cases d <;> exact h2.elim
  | a t n cells =>
    obtain ⟨hk, hd, hc, r⟩ := R1.wd.dr
    cases d with
    | int z =>
      have ev := x1.int
      subst ev
      subst hcj
      have ncd : G.cl ≠ G.dr := R1.fix.ne hk
      rcases Nat.lt_or_ge j 1 with hj1 | hj1
      · have ej : j = 0 := by omega
        subst ej
        refine ⟨_, e2, G.dr, _, 0, 0, rfl, rfl, hd, rfl, ?_⟩
        refine h2 pz σ _ (R1.ext (wd_dr R1.fix R1.wd ⟨hk, upd_same, ?_, r⟩) (ext_dr ⟨_, hd⟩))
        rw [upd_ne ncd]; exact hc
      · have ej : j = 1 := by omega
        subst ej
        refine ⟨_, e2, G.dr, _, 1, 1, rfl, rfl, hd, rfl, ?_⟩
        refine h2 pz σ _ (R1.ext (wd_dr R1.fix R1.wd ⟨hk, upd_same, ?_, r⟩) (ext_dr ⟨_, hd⟩))
        rw [upd_ne ncd]; exact hc
    | _ => exact h2.elim
/-! ### a plain list of draws -/
def getB {α : Type} (k : List Int → M α) : M α := fun s => match s with
  | .b xs => k xs s
  | _ => .stuck
theorem dx_lenD (i : Nat) (hg : Gl X "len") (hm : X.mg "len" = none) (hN : X.N[i]? = some x := by rfl) (hv : Vis X.env.scope x := by first | exact Or.inl rfl | exact Or.inr (Or.inl rfl) | exact Or.inr (Or.inr rfl)) (hd : (x == ("__debug__" : Str)) = false := by decide)
    (hcd : (x == ("__classdict__" : Str)) = false := by decide) (he : starEach [.Name x px] X.env = (false, eval (.Name x px) X.env) :: starEach [] X.env := by rfl) (hpl : (backTo pos (starEach [] X.env)).any (·.1) = false := by rfl) :
    DX Ts true X W (.Call (.Name "len" p) [.Name x px] [] pos) (fun ρ => bnd (slotDr ρ i) fun _ => getB fun xs => ret (.int xs.length)) := by
  refine ⟨_, pe_callB call_len_seq hg hm bb_len (pa_cons (pe_var hN hv hd hcd) pa_nil he) (by decide) (by decide) he hpl, fun G s ρ pz σ H Q R h => ?_⟩
  obtain ⟨e1, h⟩ := slotDr_of R h
  cases s with
  | a t n cells => exact h.elim
  | b xs =>
    obtain ⟨hd, r⟩ := R.wd.dr
    refine ⟨_, e1, _, _, rfl, .inl (SqL.of hd), ?_⟩
    rw [List.length_map]
    exact h _ H R.wd .refl (.int _)
def popB : M D := fun s => match s with
  | .b xs => match xs.getLast? with
    | some z => .ok (.int z) (.b xs.dropLast)
    | none => .stuck
  | _ => .stuck
theorem last_map {xs : List Int} {z : Int} (h : xs.getLast? = some z) : (xs.map V.int)[(xs.map V.int).length - 1]? = some (V.int z) := by
  rw [List.getLast?_eq_getElem?] at h
  rw [List.length_map, List.getElem?_map, h]
  rfl
theorem dx_popD (i : Nat) {apos cpos : Pos} (hN : X.N[i]? = some x := by rfl) (hv : Vis X.env.scope x := by first | exact Or.inl rfl | exact Or.inr (Or.inl rfl) | exact Or.inr (Or.inr rfl)) (hd : (x == ("__debug__" : Str)) = false := by decide)
    (hcd : (x == ("__classdict__" : Str)) = false := by decide) (bm : ∀ {to : TE}, PE X (.Name x px) to → PE X (.Call (.Attribute (.Name x px) "pop" apos) [] [] cpos) (tBM0 X.K "list" rPop to) := by exact fun p => pe_bm0 PySem.F.plainAttrs_list PySem.F.slot_list_pop PySem.F.type_list_pop mt_pop p) : DX Ts true X W (.Call (.Attribute (.Name x px) "pop" apos) [] [] cpos) (fun ρ => bnd (slotDr ρ i) fun _ => popB) := by
  refine ⟨_, bm (pe_var hN hv hd hcd), fun G s ρ pz σ H Q R h => ?_⟩
  obtain ⟨e1, h⟩ := slotDr_of R h
  cases s with
  | a t n cells => exact h.elim
  | b xs =>
    obtain ⟨hd, r⟩ := R.wd.dr
    unfold popB at h
    cases hx : xs.getLast? with
    | none =>
      have h : PostG X W G σ H (AtB true X.KW G ρ pz) (match xs.getLast? with
        | some z => Res.ok (PyData.int z) (.b xs.dropLast)
        | none => .stuck) Q := h
      rw [hx] at h; exact h.elim
    | some z =>
      have h : PostG X W G σ H (AtB true X.KW G ρ pz) (match xs.getLast? with
        | some z => Res.ok (PyData.int z) (.b xs.dropLast)
        | none => .stuck) Q := h
      rw [hx] at h
      refine ⟨_, e1, .inl ⟨rfl, _, .inl (.inl hd)⟩, G.dr, _, _, rfl, rfl, hd, last_map hx, ?_⟩
      refine h _ _ (wd_dr R.fix R.wd ⟨?_, fun z hz => r z (List.dropLast_subset _ hz)⟩) (ext_dr ⟨_, hd⟩) (.int z)
      rw [List.map_dropLast]
      exact upd_same
end
end DV

set_option Elab.async false
set_option linter.all false
set_option autoImplicit false
set_option maxRecDepth 100000
set_option maxHeartbeats 2000000
/-! promises of other kinds; the list of draws is made -/
namespace DV
open PySem PySem.Spec PyProof.Rows L2

section
variable {fa : List He.Fa} {fn : List He.DefD} {tf : List He.Defn} {ex : PySem.W.Frag → Bool} {P : Program} {w : World} {K : PySem.W.Frag} {mg : Str → Option Value} {base : Heap}
def HasS (P : Program) (w : World) (K : PySem.W.Frag) (mg : Str → Option Value) (base : Heap) (x : Str) (ps : List Str) (k : Nat) (sp : Sp) : Prop :=
  ∃ (fd : FuncData), Binds K fd ps [] ∧ PySem.W.keepIn K (.ref (He.ga K x)) = true ∧ mg x = some (.ref (He.ga K x)) ∧ (∀ (s : Shared) (us : List Value), us.length = ps.length → BindsTo s fd ⟨us, []⟩ (ps.zip us)) ∧ FnOk P w K mg base (L2N.CX P w) k (He.ga K x) fd ps sp
theorem hasS_of (Z : Fx fa fn tf ex K mg base) {x : Str} {st : Stmt} {N ps : List Str} {k : Nat} {sp : Sp} (i j : Nat) (hi : fn[i]? = some ⟨(x, none), x, x, defArgs st, defBody st, defScope st, [], []⟩) (hj : fa[j]? = some (.glo x)) (S : FnScope N ps (defScope st)) (len : ∀ vs H Q E, sp vs H Q E → vs.length = ps.length)
    (hb : ∀ (kV doc pm : Value) (an : Option Addr) (cdv ct : Value) (us : List Value), us.length = ps.length → bindArgs (PySem.W.fnOf x x (defArgs st) (defBody st) (defScope st) .none kV doc pm an cdv ct) ⟨us, []⟩ = pure (ps.zip us))
    (hbody : ∀ (cdv : Value), cdv = .ref (He.codeOf K (x, none)) → ∀ (A : Around) (outer : List Env) (s : Shared) (H : Hp) (vs : List V) (Q : VK) (E : XK), Room k (A.deeper (envOfC x (defScope st) s.heap.objs.size (He.ga K x) cdv)) → sp vs H Q E →
      ∃ t, PSs (cxOf (L2N.CX P w) P w K mg base N x (defScope st) (He.ga K x) cdv A outer s H E) (defBody st) t ∧ t { nx := fun _ H' => Q .non H', rt := Q } (L2.start N vs) H) : HasS P w K mg base x ps (k + 1) sp := by
  obtain ⟨fd, F⟩ := Z.c.def_ i hi
  refine ⟨fd, F.bindsN hb, F.kp, Z.gl j hj, fun s us hl => F.bindsA hb s us hl, ?_⟩
  obtain ⟨oc, od, dV, kV, doc, pm, an, cd, ct, osl, rfl, lk, hcd, _, _⟩ := F.ex
  obtain ⟨c, ec⟩ := He.codeIn_ref hcd
  subst ec
  exact fn_of lk hcd S len fun A outer s H vs Q E hr hsp => hbody (.ref c) (by rw [He.codeOf_eq (p := (x, none)) lk rfl]) A outer s H vs Q E hr hsp
end
/-- _law_open: a new list of a turn, what is left, the cells -/
def spOpen (K : PySem.W.Frag) : Sp := fun vs H Q _ => ∃ (a : Addr) (ns : List Int), vs = [.ref a] ∧ SqL K H a (ns.map V.int) ∧ ns.length ≤ 63 ∧ ∀ (H' : Hp) (dr cl : Addr) (cells : List Int), Same H H' → H dr = none → H cl = none → cl ≠ dr → H' dr = some (.lst [.int 0, .int 0, .ref cl]) → H' cl = some (.lst (cells.map V.int)) → cells ≠ [] → cells.length ≤ 100 → Q (.ref dr) H'
theorem upd_same_of {H : Hp} {p : Addr} {o o' : HO} (h : o = o') : upd H p o p = some o' := by rw [h]; exact upd_same
/-- the law's promise -/
def spLaw (tf : List He.Defn) (K : PySem.W.Frag) : Sp := fun vs H Q _ => ∃ (a : Addr) (ns : List Int), vs = [.ref a] ∧ SqL K H a (ns.map V.int) ∧ ns.length ≤ 63 ∧ (∀ p ∈ tf, H (He.cT K p).2 = some (.tbl #[])) ∧ ∀ H', Q (.bl true) H'
def rho0 (n i : Nat) : Rho := (List.replicate n none).set i (some .drw)
def ghA (tf : List He.Defn) (K : PySem.W.Frag) (dr cl : Addr) (H : Hp) : Gh := ⟨true, dr, cl, TsL tf K, fun _ => False, H⟩
theorem law_relA {w : World} {tf : List He.Defn} {K : PySem.W.Frag} {H H' : Hp} {dr cl : Addr} {cells : List Int} {n i : Nat} {σ : L2.St} (hT : ∀ p ∈ tf, H (He.cT K p).2 = some (.tbl #[])) (same : Same H H') (h1 : H dr = none) (h2 : H cl = none) (hne : cl ≠ dr) (h3 : H' dr = some (.lst [.int 0, .int 0, .ref cl])) (h4 : H' cl = some (.lst (cells.map V.int))) (hc : cells ≠ []) (hl : cells.length ≤ 100) (hσ : σ.length = n) (hi : i < n) :
    Rel (TsL tf K) ⟨K, w⟩ (ghA tf K dr cl H') (.a 0 0 cells) (rho0 n i) (fun _ => 0) (σ.set i (some (.ref dr))) H' := by
  have key : ∀ P ∈ TsL tf K, H P = some (.tbl #[]) := fun P hP => by
    obtain ⟨p, hp, e⟩ := List.mem_map.mp hP
    rw [← e]; exact hT p hp
  have none : ∀ j sl, (rho0 n i)[j]? = some (some sl) → j = i ∧ sl = .drw := fun j sl e => by
    rcases set_get e with ⟨e1, e2⟩ | ⟨_, e1⟩
    · exact ⟨e1, by cases e2; rfl⟩
    · rw [List.getElem?_replicate] at e1
      split at e1 <;> cases e1
  have no : ∀ j ds, (rho0 n i)[j]? = some (some (Sl.own ds)) → False := fun j ds e => by
    have := (none j _ e).2
    cases this
  refine ⟨⟨fun a z => ?_, fun _ => hne, fun z => ?_, fun z => ?_⟩, rfl, ⟨⟨rfl, h3, h4, hc, hl⟩, fun P hP => ?_⟩, .refl, by unfold rho0; rw [List.length_set, List.length_set, List.length_replicate, hσ], fun j sl e => ?_, fun j k ds es e1 _ _ => (no j ds e1).elim, fun j ds e => (no j ds e).elim⟩
  · rcases z with z | z | z | z
    · exact ⟨_, by rw [z]; exact h3⟩
    · exact ⟨_, by rw [z]; exact h4⟩
    · exact ⟨_, same _ _ (key a z)⟩
    · exact z.elim
  · have := key _ z
    rw [show H (ghA tf K dr cl H').dr = H dr from rfl, h1] at this; cases this
  · have := key _ z
    rw [show H (ghA tf K dr cl H').cl = H cl from rfl, h2] at this; cases this
  · exact ⟨#[], same _ _ (key P hP), by first | trivial | exact True.intro | (intro x hx; cases hx)⟩
  · obtain ⟨rfl, rfl⟩ := none j sl e
    exact ⟨.ref dr, List.getElem?_set_self (by rw [hσ]; exact hi), rfl⟩
end DV

set_option Elab.async false
set_option linter.all false
set_option autoImplicit false
set_option maxRecDepth 100000
set_option maxHeartbeats 2000000
/-! while an exception is handled: the ends of lists and tuples -/
namespace DH
open PySem PySem.Spec PyProof.Rows HotX

section
variable {prog : Program} {w : World} {A : Around} {E : Value → Shared → Prop} {s : Shared}
theorem hot_upd {x1 it : Addr} {o : Obj} {a b : Value} {f : Obj → Obj} (hot : HotAt A x1 s.heap) (ho : s.heap.get? it = some o) (hd : o.data = .fields #[a, b]) : HotAt A x1 (s.heap.update it f) := by
  obtain ⟨hh, o1, vs1, h1, d1, c1⟩ := hot
  have ne : x1 ≠ it := fun z => by
    rw [z, ho] at h1
    cases h1
    rw [hd] at d1
    injection d1 with d2
    rw [← d2] at c1
    cases c1
  exact ⟨hh, o1, vs1, by rw [Heap.get?_update_other _ _ (fun z => ne z.symm)]; exact h1, d1, c1⟩
/-- StopIteration made and raised, caught at once -/
theorem stop_hot {x1 : Addr} (hot : HotAt A x1 s.heap) {α : Type} {E' : Value → Shared → Prop}
    (hE : ∀ (a : Addr) (h' : Heap), (∀ b o, s.heap.get? b = some o → h'.get? b = some o) → (∃ o, h'.get? a = some o ∧ o.cls = .type "StopIteration") → E' (.ref a) { s with heap := h' }) : wpAny (model prog w) A (newExc (.type "StopIteration") [] >>= fun e => (raiseNew e : Sem α)) (fun _ _ => False) E' s := by
  obtain ⟨hh, o1, vs1, h1, d1, c1⟩ := hot
  refine wpAny_bind ?_
  simp only [newExc, newTuple]
  refine wpAny_bind (wpAny_newObj_type ?_ (by size_fits)); refine wpAny_bind (m := firstArgMember _ _) (wpAny_of_eq (a := Value.none) (by first | rfl | (simp only [firstArgMember]; rfl)) ?_); refine wpAny_newObj_type ?_ (by size_fits)
  refine raiseNew_hot ⟨hh, o1, vs1, Heap.get?_push_of_some _ (Heap.get?_push_of_some _ h1), d1, c1⟩ (Nat.ne_of_lt (Heap.lt_size (Heap.get?_push_of_some _ h1))) (Heap.get?_push_size _ rfl) rfl (by first | (simp; done) | (simp; omega) | (simp only [Array.size_append]; simp; omega)) ?_
  refine hE _ _ (fun b o e => ?_) ⟨_, Heap.get?_update_self _ (Heap.get?_push_size _ rfl) rfl, rfl⟩
  rw [Heap.get?_update_other _ _ (Nat.ne_of_gt (Heap.lt_size (Heap.get?_push_of_some _ e)))]
  exact Heap.get?_push_of_some _ (Heap.get?_push_of_some _ e)
theorem tupEnd_hot {it t x1 : Addr} {i : Nat} {items : Array Value} {Q : Option Value → Shared → Prop} (hot : HotAt A x1 s.heap) (hit : s.heap.IsTupleIter it t i) (ht : s.heap.IsTuple t items) (hx : items[i]? = none)
    (hQ : ∀ h', Heap.ExtBut it s.heap h' → Q none { s with heap := h' }) : wpAny (model prog w) A (pyNext (.ref it)) Q E s := by
  obtain ⟨o, ho, hc, hd⟩ := id hit
  obtain ⟨ol, hol, _, nl, hdl⟩ := ht
  unfold pyNext
  refine wpAny_bind (wpAny_attempt (wpAny_callSpecial?_slot (name := Str.ofString "__next__") hit.typeIs F.slot_tuple_iterator_next (wpAny_call_entry F.slot_tuple_iterator_next hit.typeIs F.entry_tuple_iterator_next ?_ (F.args_tuple_iterator_next_1 _))))
  show wpAny _ _ (field (.ref it) 0 >>= _) _ _ s
  refine wpAny_bind (wpAny_field ho hd (x := .ref t) rfl ?_); show wpAny _ _ (if (Value.ref t == Value.none) = true then _ else _) _ _ s
  rw [if_neg (show ¬ ((Value.ref t == Value.none) = true) from Bool.false_ne_true)]; show wpAny _ _ (field (.ref it) 1 >>= _) _ _ s
  refine wpAny_bind (wpAny_field ho hd (x := .int i 0) rfl ?_); show wpAny _ _ (seqItems? (.ref t) >>= _) _ _ s
  refine wpAny_bind (wpAny_seqItems hol hdl ?_)
  simp only [Int.toNat_natCast, hx]
  refine wpAny_bind (wpAny_rule (wpAny_bind (wpAny_setField ho hd (by simp) ?_)))
  refine wpAny_mono (stop_hot (hot_upd hot ho hd) (fun a h' k ⟨oe, he, hce⟩ => ?_)) (fun _ _ z => z.elim) (fun _ _ z => z)
  refine wpAny_bind (wpAny_isInstance (T := "StopIteration") (b := true) ⟨oe, he, hce⟩ isSubtype_stop (wpAny_pure (hQ _ fun b o hb e => k b o ?_)))
  rw [Heap.get?_update_other _ _ (fun z => hb z.symm)]
  exact e
theorem listEnd_hot {it l x1 : Addr} {i : Nat} {items : Array Value} {Q : Option Value → Shared → Prop} (hot : HotAt A x1 s.heap) (hit : s.heap.IsListIter it l i) (hl : s.heap.IsList l items) (hx : items[i]? = none)
    (hQ : ∀ h', Heap.ExtBut it s.heap h' → Q none { s with heap := h' }) : wpAny (model prog w) A (pyNext (.ref it)) Q E s := by
  obtain ⟨o, ho, hc, hd⟩ := id hit
  obtain ⟨ol, hol, _, nl, hdl⟩ := hl
  unfold pyNext
  refine wpAny_bind (wpAny_attempt (wpAny_callSpecial?_slot (name := Str.ofString "__next__") hit.typeIs slot_listiter_next (wpAny_call_entry slot_listiter_next hit.typeIs entry_listiter_next ?_ (args_listiter_next _))))
  show wpAny _ _ (field (.ref it) 0 >>= _) _ _ s
  refine wpAny_bind (wpAny_field ho hd (x := .ref l) rfl ?_); show wpAny _ _ (if (Value.ref l == Value.none) = true then _ else _) _ _ s
  rw [if_neg (show ¬ ((Value.ref l == Value.none) = true) from Bool.false_ne_true)]; show wpAny _ _ (field (.ref it) 1 >>= _) _ _ s
  refine wpAny_bind (wpAny_field ho hd (x := .int i 0) rfl ?_); show wpAny _ _ (seqItems? (.ref l) >>= _) _ _ s
  refine wpAny_bind (wpAny_seqItems hol hdl ?_)
  simp only [Int.toNat_natCast, hx]
  refine wpAny_bind (wpAny_rule (wpAny_bind (wpAny_setField ho hd (by simp) ?_)))
  refine wpAny_mono (stop_hot (hot_upd hot ho hd) (fun a h' k ⟨oe, he, hce⟩ => ?_)) (fun _ _ z => z.elim) (fun _ _ z => z)
  refine wpAny_bind (wpAny_isInstance (T := "StopIteration") (b := true) ⟨oe, he, hce⟩ isSubtype_stop (wpAny_pure (hQ _ fun b o hb e => k b o ?_)))
  rw [Heap.get?_update_other _ _ (fun z => hb z.symm)]
  exact e
end
end DH

set_option Elab.async false
set_option linter.all false
set_option autoImplicit false
set_option maxRecDepth 100000
set_option maxHeartbeats 2000000
/-! while an exception is handled: unpacking, comprehensions -/
namespace DH
open PySem PySem.Spec PyProof.Rows HotX

section
variable {prog : Program} {w : World} {A : Around} {E : Value → Shared → Prop} {s : Shared}
theorem hot_keep {x1 : Addr} {h h' : Heap} (hot : HotAt A x1 h) (k : ∀ o, h.get? x1 = some o → h'.get? x1 = some o) : HotAt A x1 h' := by
  obtain ⟨hh, o1, vs1, h1, r⟩ := hot
  exact ⟨hh, o1, vs1, k _ h1, r⟩
theorem unpack_hot {x1 t : Addr} {items : Array Value} {targets : List (Bool × (Value → Sem Unit))} {Q : Unit → Shared → Prop} (hot : HotAt A x1 s.heap) (ht : IsTup s.heap t items) (hn : targets.length = items.size) (hstar : targets.findIdx? (·.1) = none)
    (h : ∀ h', Heap.ExtBut s.heap.objs.size s.heap h' → wpAny (model prog w) A (assignInOrder (targets.map (·.2)) items.toList) Q E { s with heap := h' }) : wpAny (model prog w) A (unpack (.ref t) targets) Q E s := by
  have hlt : t ≠ s.heap.objs.size := by obtain ⟨o, ho, _⟩ := ht; exact Nat.ne_of_lt (Heap.lt_size ho)
  have xlt : x1 ≠ s.heap.objs.size := by obtain ⟨_, o, _, ho, _⟩ := hot; exact Nat.ne_of_lt (Heap.lt_size ho)
  unfold unpack
  rw [hn, hstar]
  refine wpAny_bind (wpAny_holding ?_)
  unfold unpackItems notIterableAtAll
  refine wpAny_bind (wpAny_bind (wpAny_specialOf ht.typeIs slot_tuple_iter.lookup (wpAny_pure ?_)))
  simp only [Bool.false_eq_true, if_false]
  refine wpAny_bind (wpAny_holding (iter_tuple ht (wpAny_bind (wpAny_holding (draw_tuple hlt items.size 0 _ _ ⟨_, Heap.get?_push_size _ rfl, rfl, rfl⟩ (ht.push _) (by omega) fun h₁ hit₁ hs₁ => ?_)))))
  have hall : List.take items.size (List.drop 0 items.toList) = items.toList := by rw [List.drop_zero]; exact List.take_of_length_le (by simp)
  rw [hall, if_neg (by simp)]
  have ht₁ : IsTup h₁ t items := (ht.push _).extBut hs₁.extBut hlt
  have hot₁ : HotAt A x1 h₁ := hot_keep hot fun o e => hs₁.extBut x1 o xlt (Heap.get?_push_of_some _ e)
  refine wpAny_bind (wpAny_holding (tupEnd_hot (s := { s with heap := h₁ }) hot₁ hit₁ ht₁ (by simp) fun h₂ he₂ => ?_))
  simp only [Option.isSome_none, Bool.false_eq_true, if_false]
  exact wpAny_pure (h h₂ fun b o hb e => he₂ b o hb (hs₁.extBut b o hb (Heap.get?_push_of_some _ e)))
end
open L2 L2H
section
variable {X : Cx} {pos : Pos}
theorem pg_tupH {es : List Expr} {k : Nat} {t : TGs} {n : Nat} (hc : HotC X) (h : PGs X es t) (hn : (assignEach es X.env).length = n := by rfl) (hst : (assignEach es X.env).findIdx? (·.1) = none := by rfl) : PG X (.Tuple es k pos) (gTup X.K n t) := by
  refine ⟨fun pins s σ H v u Q I r hw => ?_⟩
  obtain ⟨a, xs, rfl, hq, hl, hw⟩ := hw
  cases r
  obtain ⟨its, rv, ht, hz⟩ := I.tuple hq
  obtain ⟨x1, hot⟩ := hc.at I
  rw [assign_Tuple]
  refine wpAny_bind (wpAny_standAt (unpack_hot hot ht (by simp [hn, ← hl, rv.length]) hst fun h' hx => ?_))
  exact h.run pins _ σ H xs _ Q (I.kept (t' := s.toks) fun b o e => hx b o (Nat.ne_of_lt (Heap.lt_size e)) e) (by simpa using rv) hw
theorem turn_listH {P : Program} {w : World} {K : PySem.W.Frag} {tg : Expr} (a it : Addr) : TurnH P w K tg (Itl K a) [it] it (fun i h => h.IsListIter it a i) where
  mem := by simp
  obj := (turn_list (P := P) (w := w) (K := K) (tg := tg) a it).obj
  keep := (turn_list (P := P) (w := w) (K := K) (tg := tg) a it).keep
  item := by
    intro X hP hw hK hc i pins s σ H E I hf st hg
    subst hP hw hK
    obtain ⟨xs, x, hq, hx⟩ := hg
    obtain ⟨its, rv, p, hz⟩ := I.list hq
    obtain ⟨u, hu, ru⟩ := rv.get hx
    obtain ⟨f0, f1, f2, f3, f4, f5⟩ := hf it (by simp)
    refine wpAny_pyNext_list_item st p.isList (x := u) (by simpa using hu) fun h' st' sb => ?_
    obtain ⟨o, e, c, d⟩ := id st'
    exact ⟨u, rfl, go_of (s := { s with heap := h' }) e c d (by decide) ⟨x, H, I.turned (t' := s.toks) (fun b o hb e => (sb.2 b hb).trans e) f0 f1 f3 f4 f5, ru, ⟨rfl, fun ys hy => by rw [I.list_inj hy hq]; exact hx⟩, st', fun b hb => (hf b hb).1⟩⟩
  done := by
    intro X hP hw hK hc i pins s σ H E I hf st hg
    subst hP hw hK
    obtain ⟨xs, hq, hx⟩ := hg
    obtain ⟨its, rv, p, hz⟩ := I.list hq
    obtain ⟨f0, f1, f2, f3, f4, f5⟩ := hf it (by simp)
    obtain ⟨x1, hot⟩ := hc.at I
    have hl := rv.length
    exact listEnd_hot hot st p.isList (by simp; omega) fun h' eb => ⟨rfl, I.turned (t' := s.toks) (fun b o hb e => eb b o hb e) f0 f1 f3 f4 f5⟩
  self := (turn_list (P := P) (w := w) (K := K) (tg := tg) a it).self
end
end DH

set_option Elab.async false
set_option linter.all false
set_option autoImplicit false
set_option maxRecDepth 100000
set_option maxHeartbeats 2000000
/-! a list comprehension while an exception is handled -/
namespace DH
open PySem PySem.Spec PyProof.Rows HotX L2 L2H
abbrev blkH (X : Cx) (s : Shared) (H : Hp) (scope : Scope) (cenv : Env) (fp : List Addr) (p : Addr × Obj) : Cx := { X.blk s H scope cenv fp with pn := [p] }
section
variable {X : Cx} {pins : List (Addr × Obj)} {σ : L2.St} {H : Hp} {s : Shared}
theorem block_startH {scope : Scope} {own : List (Str × Nat)} {fp : List Addr} {p : Addr × Obj} (I : Inv X pins σ H s) (hp : p ∈ X.pn) (ok : BlkOk X.N X.env.scope scope own) (hN : X.N.Nodup) (hfp : ∀ b ∈ fp, FpOk X pins H b ∧ b < s.heap.objs.size) :
    Inv (blkH X s H scope (compEnvC scope (cellsFrom (s.heap.objs.size + 1) scope.names (cloFrom X.env.cells scope.names [])) s.heap.objs.size X.env) fp p) [] (wipe σ (own.map (·.2))) H { s with heap := pushCells (s.heap.push { cls := .type "dict", data := .dict #[] }) scope.names } := by
  obtain ⟨k, b1, b2, b3, b4, b5, b6, b7, b8, b9, b10⟩ := block_start I ok hN hfp
  have P1 := I.pin p (List.mem_append_left _ hp)
  refine ⟨⟨k.mod, k.kind, k.glob, k.blt, k.above, k.inj, k.has, k.cab, k.hd, k.frames, k.stk, k.exf, k.bs, k.bsz, k.noex, k.exfs, k.funs, k.frf⟩, b1, b2, b3, b4, b5, b6, b7, fun q hq => ?_, b9, b10⟩
  have hq : q ∈ [p] ++ [] := hq
  have e : q = p := by simpa using hq
  subst e
  refine ⟨pushCells_keeps _ _ _ _ (Heap.get?_push_of_some _ P1.1), P1.2.1, fun z => ?_, fun hm => ?_, P1.2.2.2.2⟩
  · exact absurd (show q.1 = s.heap.objs.size from z) (Nat.ne_of_lt (Heap.lt_size P1.1))
  · exact (List.mem_cons.mp (I.stkSub q.1 hm)).elim P1.2.2.1 P1.2.2.2.1
theorem lc_coreH {pins : List (Addr × Obj)} {s : Shared} {σ : L2.St} {H : Hp} {Q : VK} {elt tg iter : Expr} {ifs : List Expr} {scope : Scope} {own : List (Str × Nat)} {pos pos' : Pos} {wi : TI} {g : TG} {tt : TT} {te : TE} {use : Option (Value → Sem Unit)} {Qf : Value → Shared → Prop}
    {pp : Addr × Obj} (hot : Hot1 X.A pp) (hmem : pp ∈ X.pn) (hN : X.N.Nodup) (I : Inv X pins σ H s) (hi : PIH X tg iter wi) (ok : BlkOk X.N X.env.scope scope own)
    (hg : ∀ (s : Shared) (H : Hp) (C : Addr) (cl : List (Str × Addr)) (fp : List Addr), PG (blkH X s H scope (compEnvC scope cl C X.env) fp pp) tg g) (ht : ∀ (s : Shared) (H : Hp) (C : Addr) (cl : List (Str × Addr)) (fp : List Addr), PTs (blkH X s H scope (compEnvC scope cl C X.env) fp pp) ifs tt)
    (he : ∀ (s : Shared) (H : Hp) (C : Addr) (cl : List (Str × Addr)) (fp : List Addr), PE (blkH X s H scope (compEnvC scope cl C X.env) fp pp) elt te) (hs : ∀ x, foldedSetIterable iter X.env x = pure x)
    (h : tLc wi g tt te (own.map (·.2)) σ H Q)
    (hRR : ∀ D C s' m H', Inv X pins σ H' s' → Q (.ref D) H' → s'.heap.Ns C m → FpOk X pins H' C → compPost (model X.prog X.w) X.A X.xe use Qf (.ref D) C (.ok .next) s') :
    wpAny (model X.prog X.w) X.A (comprehension (.ListComp elt [⟨tg, iter, ifs, 0⟩] scope pos) scope X.env pos' (newList []) false (eval iter X.env) use) Qf X.xe s := by
  have hfree : ∀ y ∈ scope.names, y.2 = .free → ∃ c, X.env.cells.lookup y.1 = some c := fun y hy e => by
    rcases ok.free y hy e with k | k
    · exact I.ok.has _ (.inl k)
    · exact I.ok.has _ (.inr k)
  refine wpAny_comprehension_free (use := use) rfl hs (closure_ok hfree) ok.kind (fun y hy e => by rw [ok.uniq y hy, e])
    (thn (hi.run pins s σ H _ I h) fun xv s1 hx => thn hx fun itv s2 h2 => ?_)
  obtain ⟨it, fp, tn, J, H2, e, I2, T, st2, f2, q⟩ := h2
  subst e
  refine wpAny_newObj_type (newEnv_comp ?_) (by show 0 ≤ sizeLine; decide)
  generalize hD : s2.heap.objs.size = D
  have hDn : H2 D = none := I2.hok.fresh (Nat.le_of_eq hD)
  obtain ⟨W, ⟨m0, w0⟩, turn⟩ := q D hDn
  -- the new list
  generalize hs3 : ({ s2 with heap := s2.heap.push { cls := .type "list", data := .seq ([] : List Value).toArray } } : Shared) = s3
  have I3 : Inv X pins σ (upd H2 D (.lst [])) s3 := by
    rw [← hs3]
    refine I2.laid (t' := s2.toks) (fun b o e => Heap.get?_push_of_some _ e) (Nat.le_of_eq hD) ⟨Nat.zero_le _, [], 0, .nil, ?_⟩
    rw [← hD]
    exact Heap.get?_push_size _ rfl
  have h3 : s3.heap = s2.heap.push { cls := .type "list", data := .seq ([] : List Value).toArray } := by rw [← hs3]
  have sz : ∀ b ∈ fp, b < s2.heap.objs.size := fun b hb => by
    obtain ⟨o, e, _⟩ := T.obj _ _ st2 b hb
    exact Heap.lt_size e
  have f3 : ∀ b ∈ fp, FpOk X pins (upd H2 D (.lst [])) b ∧ b < s3.heap.objs.size := fun b hb => by
    have hlt := sz b hb
    refine ⟨⟨?_, (f2 b hb).2⟩, by rw [h3, Heap.size_push]; exact Nat.lt_succ_of_lt hlt⟩
    rw [upd_ne (by rw [← hD]; exact Nat.ne_of_lt hlt)]
    exact (f2 b hb).1
  have st3 : tn 0 s3.heap := T.keep _ _ _ st2 fun b _ o e => by rw [h3]; exact Heap.get?_push_of_some _ e
  have I4 := block_startH I3 hmem ok hN f3
  have pg := hg s3 (upd H2 D (.lst [])) s3.heap.objs.size (cellsFrom (s3.heap.objs.size + 1) scope.names (cloFrom X.env.cells scope.names [])) fp
  have pt := ht s3 (upd H2 D (.lst [])) s3.heap.objs.size (cellsFrom (s3.heap.objs.size + 1) scope.names (cloFrom X.env.cells scope.names [])) fp
  have pe := he s3 (upd H2 D (.lst [])) s3.heap.objs.size (cellsFrom (s3.heap.objs.size + 1) scope.names (cloFrom X.env.cells scope.names [])) fp
  show codeAny _ _ (.compStart (.ListComp elt [⟨tg, iter, ifs, 0⟩] scope pos) 0 (.ref it) (.ref D) (compEnvC scope (cellsFrom (s3.heap.objs.size + 1) scope.names (cloFrom X.env.cells scope.names [])) s3.heap.objs.size X.env)) (compPost (model X.prog X.w) X.A X.xe use Qf (.ref D) s3.heap.objs.size) { s3 with heap := pushCells (s3.heap.push { cls := .type "dict", data := .dict #[] }) scope.names }
  have nfp : ∀ b ∈ fp, (upd H2 D (.lst [])) b = none := fun b hb => (f3 b hb).1.1
  generalize hce : compEnvC scope (cellsFrom (s3.heap.objs.size + 1) scope.names (cloFrom X.env.cells scope.names [])) s3.heap.objs.size X.env = ce at I4 pg pt pe ⊢
  have cL : ce.locals = s3.heap.objs.size := by subst hce; rfl
  generalize hH3 : upd H2 D (.lst []) = H3 at I3 I4 pg pt pe w0 nfp f3
  generalize hs4 : ({ s3 with heap := pushCells (s3.heap.push { cls := .type "dict", data := .dict #[] }) scope.names } : Shared) = s4 at I4 ⊢
  have st4 : tn 0 s4.heap := T.keep _ _ _ st3 fun b _ o e => by rw [← hs4]; exact pushCells_keeps _ _ _ _ (Heap.get?_push_of_some _ e)
  have stat : ∀ {σ' : L2.St} {H' : Hp} {s' : Shared}, Inv (blkH X s3 H3 scope ce fp pp) [] σ' H' s' → (∀ b ∈ fp, H' b = none) → ∀ b ∈ fp, FpOk (blkH X s3 H3 scope ce fp pp) [] H' b := fun {σ' H' s'} I' hn b hb =>
    ⟨hn b hb, (I'.ok.exf b hb).1, I'.ok.exfs b hb, .inl hb, fun x c e => (I'.ok.exf b hb).2 x c e, fun p hp => by
      have e : p = pp := by simpa using (show p ∈ [pp] ++ [] from hp)
      rw [e]
      exact (f2 b hb).2.2.2.2.2 pp (List.mem_append_left _ hmem)⟩
  have loop : codeAny (model X.prog X.w) X.A (.compLoop (.ListComp elt [⟨tg, iter, ifs, 0⟩] scope pos) 0 (.ref it) (.ref D) ce) (compPost (model X.prog X.w) X.A X.xe use Qf (.ref D) s3.heap.objs.size) s4 := by
    refine compLoop_any (fun n s' => ∃ i H', Inv (blkH X s3 H3 scope ce fp pp) [] (wipe σ (own.map (·.2))) H' s' ∧ tn i s'.heap ∧ (∀ b ∈ fp, H' b = none) ∧ W i n H') ?_ m0 ⟨0, H3, I4, st4, nfp, w0⟩
    rintro n s5 ⟨i, H5, I5, st5, n5, w5⟩
    rcases turn i n H5 w5 with ⟨stop, qq⟩ | ⟨go, Nx, hNx, step⟩
    · have td := T.done (blkH X s3 H3 scope ce fp pp) rfl rfl rfl (show HotC (blkH X s3 H3 scope ce fp pp) from ⟨pp, hot, List.mem_singleton.mpr rfl⟩) i [] s5 _ H5 (fun _ _ => False) I5 (stat I5 n5) st5 stop
      refine thnF td fun r s6 ⟨hr, I6⟩ => ?_
      subst hr
      -- back in the def's context
      have I7 : Inv X pins σ H5 s6 := I3.call' (ch := fp) I6.os I6.base I6.hok I6.bare fun b hb => ⟨(f3 b hb).1.2.2.2.1, (f3 b hb).1.2.1, (f3 b hb).1.2.2.2.2.1, (f3 b hb).1.2.2.2.2.2⟩
      have nC : H5 s3.heap.objs.size = none := by
        have z : H5 ce.locals = none := I6.free
        rw [cL] at z
        exact z
      obtain ⟨m, hn, _⟩ := I6.loc
      have hn : s6.heap.Ns ce.locals m := hn
      rw [cL] at hn
      exact hRR D s3.heap.objs.size s6 m H5 I7 qq hn (I3.fpOk (Nat.le_refl _) nC)
    · have ti := T.item (blkH X s3 H3 scope ce fp pp) rfl rfl rfl (show HotC (blkH X s3 H3 scope ce fp pp) from ⟨pp, hot, List.mem_singleton.mpr rfl⟩) i [] s5 _ H5 (fun _ _ => False) I5 (stat I5 n5) st5 go
      refine thnF ti fun r s6 ⟨u, hr, h6⟩ => ?_
      subst hr
      refine thnF h6 fun _ s7 ⟨x, H7, I7, r7, y7, st7, n7⟩ => ?_
      have I7' := I7.pinned (stat I7 n7) (T.obj _ _ st7)
      refine thnF (pg.run _ s7 _ H7 x u _ I7' r7 (step x H7 y7)) fun _ s8 ⟨σ8, H8, I8, hw8, q8⟩ => ?_
      refine thnF (pt.run _ s8 σ8 H8 _ I8 q8) fun b s9 ⟨H9, I9, q9⟩ => ?_
      -- the turn's end
      have fin : ∀ {s' : Shared} {H' : Hp}, Inv (blkH X s3 H3 scope ce fp pp) ([] ++ pinsAt fp s7.heap) σ8 H' s' → Nx H' → ∃ m, m < n ∧ ∃ i H', Inv (blkH X s3 H3 scope ce fp pp) [] (wipe σ (own.map (·.2))) H' s' ∧ tn i s'.heap ∧ (∀ b ∈ fp, H' b = none) ∧ W i m H' := fun {s' H'} I' nx => by
        obtain ⟨m', hm, w'⟩ := hNx H' nx
        have pin' : ∀ b ∈ fp, ∀ o, s7.heap.get? b = some o → s'.heap.get? b = some o ∧ H' b = none := fun b hb o e =>
          let z := I'.pin (b, o) (List.mem_append_right _ (List.mem_append_right _ (mem_pinsAt hb e)))
          ⟨z.1, z.2.1⟩
        have hl : (wipe σ (own.map (·.2))).length = σ8.length := by rw [← hw8, wipe_length]
        refine ⟨m', hm, i + 1, H', (I'.unpinned (pins := [])).weak hl (fun j v e => ?_), T.keep _ _ _ st7 fun b hb o e => (pin' b hb o e).1, fun b hb => ?_, w'⟩
        · rw [← hw8] at e
          exact (wipe_some e).1
        · obtain ⟨o, e, _⟩ := T.obj _ _ st7 b hb
          exact (pin' b hb o e).2
      cases b with
      | false =>
        simp only [Bool.false_eq_true, if_false] at q9 ⊢
        exact fin I9 q9
      | true =>
        simp only [if_true] at q9 ⊢
        refine thnF (pe.run _ s9 σ8 H9 _ I9 q9) fun z s10 ⟨yv, H10, I10, r10, acc, hD10, hz10, nx⟩ => ?_
        exact app_ok (X := blkH X s3 H3 scope ce fp pp) I10 hD10 hz10 r10 fun s11 I11 => fin I11 nx
  exact codeAny_compStart_list loop (T.self X.A 0 _ _ _ st4 loop)end
end DH

set_option Elab.async false
set_option linter.all false
set_option autoImplicit false
set_option maxRecDepth 100000
set_option maxHeartbeats 2000000
/-! a def that is called in an except suite with the exception -/
namespace DH
open PySem PySem.Spec PyProof.Rows HotX L2 L2H

/-- as L2H.FnH, for one exception -/
structure FnHq (P : Program) (w : World) (K : PySem.W.Frag) (mg : Str → Option Value) (base : Heap) (CX : CXT) (p : Addr × Obj) (k : Nat) (f : Addr) (fd : FuncData) (ps : List Str) (sp : Sp) : Prop where
  len : ∀ vs H Q E, sp vs H Q E → vs.length = ps.length
  run : ∀ (A : Around) (outer : List Env) (s : Shared) (H : Hp) (args : Args) (us : List Value) (vs : List V) (Q : VK) (E : XK), RoomH k A → Hot1 A p → PinOk outer H s p → Env0 P w K mg base A outer s H → BindsTo s fd args (ps.zip us) → Vals vs us → sp vs H Q E →
    codeAny (model P w) A (.call (.ref f) args) (CR CX outer P w H s Q E) s
theorem fn_ofHq {CX : CXT} {P : Program} {w : World} {K : PySem.W.Frag} {mg : Str → Option Value} {base : Heap} {k : Nat} {f : Addr} {name qual : Str} {params : Arguments} {body : List Stmt} {scope : Scope} {dV kV doc pm cdv ct oc : Value} {an od : Option Addr} {p : Addr × Obj}
    {osl : Array (Option Value)} {N ps : List Str} {sp : Sp} (lk : K.lookup f = some ⟨oc, od, .func (PySem.W.fnOf name qual params body scope dV kV doc pm an cdv ct), osl⟩) (hcd : PySem.W.codeIn K cdv qual = true) (S : FnScope N ps scope)
    (len : ∀ vs H Q E, sp vs H Q E → vs.length = ps.length) (hbody : ∀ (A : Around) (outer : List Env) (s : Shared) (H : Hp) (vs : List V) (Q : VK) (E : XK), Hot1 A p → RoomH k (A.deeper (envOfC qual scope s.heap.objs.size f cdv)) → sp vs H Q E →
      ∃ t, PSs (cxH CX P w K mg base N qual scope f cdv A outer s H E p) body t ∧ t { nx := fun _ H' => Q .non H', rt := Q } (L2.start N vs) H) : FnHq P w K mg base CX p (k + 1) f (PySem.W.fnOf name qual params body scope dV kV doc pm an cdv ct) ps sp := by
  refine ⟨len, fun A outer s H args us vs Q E hr hot hpin e0 hb r hsp => ?_⟩
  have hl := len _ _ _ _ hsp
  have KX : K.In s.heap := e0.mod.kin.keeps fun b o e => (e0.bs b o e).1
  refine codeAny_call_function hr.depth (KX _ _ lk) rfl S.co S.gen rfl (PySem.W.codeRec_of KX hcd) (hb _ _ _ _ (wpAny_newFunctionEnv_cells S.kind (fun ⟨n, v⟩ hy => ?_) fun env he s1 x => ?_))
  · rcases S.par n (List.of_mem_zip hy).1 with q | q
    · exact .inl q
    · exact .inr ⟨q, PySem.W.cellsFrom_some _ _ _ (.inl q)⟩
  subst he
  refine ⟨(e0.mod.nolimit.keeps fun b o e => (e0.bs b o e).1).keeps x.toInCall.keep, codeAny_func ?_⟩
  obtain ⟨t, ht, hq⟩ := hbody A outer s H vs Q E hot (hr.deeper _) hsp
  refine wpAny_mono (ht.run [] s1 (L2.start N vs) H _ (inv_startH S hpin e0 hl r x) hq) (fun fl s' hs => ?_) fun e s' hs => hs
  cases fl with
  | ret u =>
    obtain ⟨v, σ', H', J, rv, q⟩ := hs
    exact ⟨v, H', J.os, J.bare, J.base, J.hok, rv, q⟩
  | next =>
    obtain ⟨σ', H', J, q⟩ := hs
    exact ⟨V.non, H', J.os, J.bare, J.base, J.hok, rfl, q⟩
  | brk =>
    obtain ⟨_, _, _, q⟩ := hs
    exact False.elim q
  | cont =>
    obtain ⟨_, _, _, q⟩ := hs
    exact False.elim q
section
variable {X : Cx} {CX : CXT} {k : Nat} {f : Addr} {fd : FuncData} {ps : List Str} {sp : Sp} {E : L2.St → XK} {x : Str} {q pos : Pos} {e : Expr} {es : List Expr} {t : TA} {p : Addr × Obj}
theorem pe_callHq (F : FnHq X.prog X.w X.K X.mg X.base CX p k f fd ps sp) (hr : RoomH k X.A) (hot : Hot1 X.A p) (hp : p ∈ X.pn) (hg : Gl X x) (hm : X.mg x = some (.ref f)) (hk : PySem.W.keepIn X.K (.ref f) = true) (hb : Binds X.K fd ps []) (hx : ∀ σ, PassesAt CX X σ (E σ))
    (ha : PA X (e :: es) t) (hdb : (x == ("__debug__" : Str)) = false := by decide) (he : starEach (e :: es) X.env = (false, eval e X.env) :: starEach es X.env := by rfl) (hpl : (backTo pos (starEach es X.env)).any (·.1) = false := by rfl) : PE X (.Call (.Name x q) (e :: es) [] pos) (tCallS sp E t) := by
  refine ⟨fun pins s σ H Q I h => wpAny_Call_Name_kw (ld_glob I hg hm ?_ hdb)⟩
  refine PySem.W.callWith_K (h₀ := X.base) I.ok.mod.kin hk (thn (ha.run pos pins s σ H _ I h) fun us s1 ⟨vs, H1, I1, r, q⟩ => ⟨I1.kIn, ?_⟩) he hpl
  have hl : us.length = ps.length := by rw [← r.length]; exact F.len _ _ _ _ q
  have b := hb s1 us I1.kIn (by rw [List.append_nil]; exact hl)
  rw [List.append_nil] at b
  have P1 := I1.pin p (List.mem_append_left _ hp)
  have hpin : PinOk X.stack H1 s1 p := ⟨P1.1, P1.2.1, fun hm => (List.mem_cons.mp (I1.stkSub p.1 hm)).elim P1.2.2.1 P1.2.2.2.1, P1.2.2.2.2⟩
  refine wpAny_call (codeAny_mono (F.run X.A X.stack s1 H1 ⟨us, []⟩ us vs Q (E σ) hr hot hpin I1.env0 b r q) fun r s' hq => ?_)
  cases r with
  | error e => exact hx σ pins H1 s1 e s' I1 hq
  | ok fl =>
    cases fl with
    | ret u => exact I1.after hq
    | next => exact False.elim hq
    | brk => exact False.elim hq
    | cont => exact False.elim hq
/-- isinstance(e, C), e the exception that the context holds -/
theorem call_isEp {D : Addr} (C : ExcC X.K D) (hp : p ∈ X.pn) (hz : Zc (.ref D) none p.2) (hf : ∃ vs, p.2.data = .fields vs) : CallR X (.builtin "isinstance") (rIsE X.K D p.1) := by
  intro pins s σ H xs us Q I r h
  obtain ⟨c, cv, b, rfl, hcv, e, q⟩ := h
  cases r with
  | cons rx rr =>
    cases rr with
    | cons rt rr =>
      cases rr
      cases rx
      have ec := hcv _ rt
      subst ec
      have hget := (I.pin p (List.mem_append_left _ hp)).1
      obtain ⟨vs, hv⟩ := hf
      have J : PySem.W.InstAt s.heap p.1 p.2 D none := by
        obtain ⟨pa, oc, od, oda, osl⟩ := p
        obtain ⟨h1, h2⟩ := hz
        dsimp only at h1 h2 hv hget
        subst h1 h2 hv
        exact ⟨hget, rfl, rfl, trivial⟩
      exact PySem.W.kia_one (PySem.W.handS_kitx_exc C.hg C.hk C.hs C.hd C.ha C.hn C.ht C.hm) I.kIn J e (fun z => nomatch z) fun tk => ⟨.bl b, H, I.kept (t' := tk) fun _ _ z => z, rfl, q⟩
end
section
variable {X : Cx} {tg l : Expr} {tl : TE}
/-- over a list -/
def iLstH (K : PySem.W.Frag) (tl : TE) : TI := fun σ H R => tl σ H fun x H1 => ∃ a, x = .ref a ∧ (∃ xs, SqL K H1 a xs) ∧ R (Itl K a) H1
theorem pi_listH (hl : PE X l tl) : PIH X tg l (iLstH X.K tl) := by
  refine ⟨fun pins s σ H R I h => thn (hl.run pins s σ H _ I h) fun v s1 ⟨x, H1, I1, r1, a, ex, ⟨xs, hs⟩, q⟩ => ?_⟩
  subst ex
  have hr : v = Value.ref a := r1
  subst hr
  obtain ⟨its, rv, hpl, hz⟩ := I1.list hs
  exact wpAny_pyIter_list hpl.isList ⟨_, [s1.heap.objs.size], _, _, H1, rfl, I1.kept (t' := s1.toks) fun b o e => Heap.get?_push_of_some _ e, turn_listH a _, ⟨_, Heap.get?_push_size _ rfl, rfl, rfl⟩, fun b hb => by rw [List.mem_singleton.mp hb]; exact I1.fpOk (Nat.le_refl _) (I1.hok.fresh (Nat.le_refl _)), q⟩
theorem ps_setLcH {i : Nat} {y : Str} {py : Pos} {elt tg iter : Expr} {ifs : List Expr} {scope : Scope} {own : List (Str × Nat)} {pos spos : Pos} {wi : TI} {g : TG} {tt : TT} {te : TE} {p : Addr × Obj} (hot : Hot1 X.A p) (hp : p ∈ X.pn) (hN : X.N.Nodup) (hy : X.N[i]? = some y) (hyl : X.env.scope.names.lookup y = some .local)
    (hsw : swapsWith (.ListComp elt [⟨tg, iter, ifs, 0⟩] scope pos) (some (.Name y py)) spos.line X.env = pure true) (hi : PIH X tg iter wi) (ok : BlkOk X.N X.env.scope scope own)
    (hg : ∀ (s : Shared) (H : Hp) (C : Addr) (cl : List (Str × Addr)) (fp : List Addr), PG (blkH X s H scope (compEnvC scope cl C X.env) fp p) tg g) (ht : ∀ (s : Shared) (H : Hp) (C : Addr) (cl : List (Str × Addr)) (fp : List Addr), PTs (blkH X s H scope (compEnvC scope cl C X.env) fp p) ifs tt)
    (he : ∀ (s : Shared) (H : Hp) (C : Addr) (cl : List (Str × Addr)) (fp : List Addr), PE (blkH X s H scope (compEnvC scope cl C X.env) fp p) elt te) (hs : ∀ x, foldedSetIterable iter X.env x = pure x := by intro _; rfl) :
    PS X (.Assign [.Name y py] (.ListComp elt [⟨tg, iter, ifs, 0⟩] scope pos) spos) (tAsg (tLc wi g tt te (own.map (·.2))) (gName i)) := by
  refine ⟨fun pins s σ H D I h => ?_⟩
  rw [exec_Assign_Name_used _ _ _ _ hsw]
  refine wpAny_bind (wpAny_standAt (wpAny_bind ?_))
  show wpAny _ X.A (do let _ ← comprehension (.ListComp elt [⟨tg, iter, ifs, 0⟩] scope pos) scope X.env (firstIterPos [⟨tg, iter, ifs, 0⟩] pos) (newList []) false (eval iter X.env) (some (assign (.Name y py) X.env))) _ _ s
  have h : tLc wi g tt te (own.map (·.2)) σ H (fun x H1 => gName i x σ H1 D.nx) := h
  refine wpAny_bind (thn (lc_coreH (Qf := fun _ s' => SP X pins D .next s') hot hp hN I hi ok hg ht he hs h fun L C s' m H' I' q hn f => ?_) fun _ s' hq => wpAny_pure (wpAny_pure hq))
  show wpAny _ _ (assign (.Name y py) X.env (.ref L)) _ _ _
  refine wpAny_assign_Name (store_ok2 (v := V.ref L) I' hN hy (.inl hyl) rfl (fun s2 I2 ⟨a, sb, ha⟩ => ?_) (.inr hyl))
  obtain ⟨f0, f1, f2, f3, f4, f5⟩ := f
  refine ⟨m, hn.sameBut sb (by
    rcases ha with z | z
    · rw [z]; exact f1
    · exact fun e => f4 y a z e.symm), fun h3 sb3 => ⟨_, H', I2.turned (t' := s2.toks) (fun b o hb e => (sb3.2 b hb).trans e) f0 f1 f3 f4 f5, q⟩⟩
end
end DH

set_option Elab.async false
set_option linter.all false
set_option autoImplicit false
set_option maxRecDepth 100000
set_option maxHeartbeats 2000000
/-! what the classes of errors say -/
namespace DH
open PySem PySem.Spec PyProof.Rows HotX L2 L2H

def excB (K : PySem.W.Frag) (D : Addr) : Bool := decide (PySem.W.findIn K (.ref D) "__getattribute__" = some (some (.builtin "BaseException.__getattribute__"))) && (decide (PySem.W.findIn K (.ref D) "__getattr__" = some none) && (decide (PySem.W.subIn K (.ref D) (.type "BaseException") = some true) && (PySem.W.hasDictIn K D && (decide (PySem.W.findIn K (.ref D) "__class__" = some (some (.builtin "object.__class__"))) &&
  (decide (PySem.W.specialIn K (.builtin "object.__class__") "__get__" = some (some (.builtin "getset_descriptor.__get__"))) && (decide (PySem.W.takesIn K (.builtin "object.__class__") = some true) && decide (PySem.W.mroIn K D (.type "object") = some true)))))))
theorem excB_ok {K : PySem.W.Frag} {D : Addr} (h : excB K D = true) : ExcC K D := by
  unfold excB at h
  simp only [Bool.and_eq_true, decide_eq_true_eq] at h
  obtain ⟨h1, h2, h3, h4, h5, h6, h7, h8⟩ := h
  exact ⟨h1, h2, h3, h4, h5, h6, h7, h8⟩
def eNames : List Str := ["OutOfRange", "Malformed", "NotThere", "Refused", "TooMuch"]
/-- what the head is asked for the classes -/
def exE (K : PySem.W.Frag) : Bool := eNames.all fun x => excB K (He.ga K x) && (decide (PySem.W.kitOne K (.ref (He.ga K x)) (.ref (He.ga K "RightError")) = some true) && eNames.all fun y => decide (PySem.W.kitOne K (.ref (He.ga K x)) (.ref (He.ga K y)) = some (decide (x = y))))
theorem exE_ok {K : PySem.W.Frag} (h : exE K = true) {x : Str} (hx : x ∈ eNames) : ExcC K (He.ga K x) ∧ PySem.W.kitOne K (.ref (He.ga K x)) (.ref (He.ga K "RightError")) = some true ∧ ∀ y ∈ eNames, PySem.W.kitOne K (.ref (He.ga K x)) (.ref (He.ga K y)) = some (decide (x = y)) := by
  have h1 := List.all_eq_true.mp h x hx
  simp only [Bool.and_eq_true, decide_eq_true_eq] at h1
  exact ⟨excB_ok h1.1, h1.2.1, fun y hy => of_decide_eq_true (List.all_eq_true.mp h1.2.2 y hy)⟩
/-- told: the class's name -/
def spTold (K : PySem.W.Frag) (p : Addr × Obj) : Sp := fun vs H Q _ => vs = [.ref p.1] ∧ (∃ vs, p.2.data = .fields vs) ∧ ∃ nm ∈ eNames, Zc (.ref (He.ga K nm)) none p.2 ∧ ∀ H', Same H H' → Q (.str nm) H'
theorem told_filter {nm : Str} (h : nm ∈ eNames) : ((eNames.map fun y => (y, decide (nm = y))).filter (·.2)).map (fun q => V.str q.1) = [V.str nm] := by
  unfold eNames at h
  simp only [List.mem_cons, List.not_mem_nil, or_false] at h
  rcases h with rfl | rfl | rfl | rfl | rfl <;> rfl
section
variable {K : PySem.W.Frag} {nm : Str} {p : Addr × Obj} {H HL : Hp} {p1 p2 p3 p4 p5 pL : Addr} {Q : VK}
theorem told_key {R : Hp → Prop} (e1 : HL p1 = some (.tup [.str "OutOfRange", .bl (decide (nm = "OutOfRange"))])) (e2 : HL p2 = some (.tup [.str "Malformed", .bl (decide (nm = "Malformed"))])) (e3 : HL p3 = some (.tup [.str "NotThere", .bl (decide (nm = "NotThere"))])) (e4 : HL p4 = some (.tup [.str "Refused", .bl (decide (nm = "Refused"))])) (e5 : HL p5 = some (.tup [.str "TooMuch", .bl (decide (nm = "TooMuch"))]))
    (i : Nat) (x : V) (h : [V.ref p1, .ref p2, .ref p3, .ref p4, .ref p5][i]? = some x) : ∃ q y, x = .ref q ∧ HL q = some (.tup [.str y, .bl (decide (nm = y))]) ∧ eNames[i]? = some y := by
  match i, h with
  | 0, h => cases h; exact ⟨_, _, rfl, e1, rfl⟩
  | 1, h => cases h; exact ⟨_, _, rfl, e2, rfl⟩
  | 2, h => cases h; exact ⟨_, _, rfl, e3, rfl⟩
  | 3, h => cases h; exact ⟨_, _, rfl, e4, rfl⟩
  | 4, h => cases h; exact ⟨_, _, rfl, e5, rfl⟩
  | n + 5, h => simp at h
theorem told_step {i : Nat} {y : Str} (h : eNames[i]? = some y) : (((eNames.map fun z => (z, decide (nm = z))).take (i + 1)).filter (·.2)).map (fun q => V.str q.1) = (((eNames.map fun z => (z, decide (nm = z))).take i).filter (·.2)).map (fun q => V.str q.1) ++ (if nm = y then [V.str y] else []) := by
  rw [List.take_add_one, List.getElem?_map, h, List.filter_append, List.map_append]
  congr 1
  by_cases c : nm = y
  · simp [c]
  · simp [c]
theorem told_len (i : Nat) : ((((eNames.map fun z => (z, decide (nm = z))).take i).filter (·.2)).map (fun q => V.str q.1)).length ≤ 5 := by
  rw [List.length_map]
  refine Nat.le_trans (List.length_filter_le _ _) ?_
  rw [List.length_take, List.length_map]
  exact Nat.min_le_right _ _
theorem told_rest (hnm : nm ∈ eNames) (same : Same H HL) (e1 : HL p1 = some (.tup [.str "OutOfRange", .bl (decide (nm = "OutOfRange"))])) (e2 : HL p2 = some (.tup [.str "Malformed", .bl (decide (nm = "Malformed"))])) (e3 : HL p3 = some (.tup [.str "NotThere", .bl (decide (nm = "NotThere"))])) (e4 : HL p4 = some (.tup [.str "Refused", .bl (decide (nm = "Refused"))])) (e5 : HL p5 = some (.tup [.str "TooMuch", .bl (decide (nm = "TooMuch"))]))
    (eL : HL pL = some (.lst [.ref p1, .ref p2, .ref p3, .ref p4, .ref p5])) (kR : PySem.W.kitOne K (.ref (He.ga K nm)) (.ref (He.ga K "RightError")) = some true) (q : ∀ H', Same H H' → Q (.str nm) H') :
    tSeq (tAsg (tLc (iLstH K (tVar 1)) (gTup K 2 (gCons (gName 3) (gCons (gName 4) gNil))) (fun σ H Q => tVar 4 σ H fun x H1 => ∃ k, TruV K x H1 k ∧ Q k H1) (tVar 3) [3, 4]) (gName 2))
      (tSeq (tIfS (tOr (tTest (tOp rNe (tCB (fun xs H Q => ∃ p ys, xs = [V.ref p] ∧ (SqL K H p ys ∨ SqT K H p ys) ∧ Q (.int ys.length) H) (tCons (tVar 2) tNil)) (tC (.int 1)))) (tNot fun σ H Q => tCB (rIsE K (He.ga K nm) p.1) (tCons (tVar 0) (tCons (tC (.ref (He.ga K "RightError"))) tNil)) σ H fun x H1 => ∃ k, TruV K x H1 k ∧ Q k H1)) (tRet (tC (.str "several"))) tNext) (tRet (tOp (rIx K) (tVar 2) (tC (.int 0)))))
      { nx := fun _ H' => Q .non H', rt := Q } [some (.ref p.1), some (.ref pL), none, none, none] HL := by
  refine ⟨_, rfl, pL, rfl, ⟨_, SqL.of eL⟩, fun D hD => ?_⟩
  have nD : ∀ b o, HL b = some o → b ≠ D := fun b o e z => by rw [z, hD] at e; cases e
  refine lc_list (g := gTup K 2 (gCons (gName 3) (gCons (gName 4) gNil))) (tt := fun σ H Q => tVar 4 σ H fun x H1 => ∃ k, TruV K x H1 k ∧ Q k H1) (te := tVar 3) (vs := [3, 4]) (xs := [.ref p1, .ref p2, .ref p3, .ref p4, .ref p5]) (fun i H' => H' D = some (.lst ((((eNames.map fun z => (z, decide (nm = z))).take i).filter (·.2)).map fun q => V.str q.1)) ∧ ∀ b, b ≠ D → H' b = HL b) ⟨upd_same, fun b hb => upd_ne hb⟩ (fun i H' hi ⟨g1, g2⟩ => SqL.of (by rw [g2 pL (nD _ _ eL)]; exact eL)) (fun i x H' hx ⟨g1, g2⟩ => ?_) fun H' ⟨g1, g2⟩ => ?_
  · obtain ⟨z, y, rfl, hz, hy⟩ := told_key (R := fun _ => True) e1 e2 e3 e4 e5 i x hx
    refine ⟨z, _, rfl, SqT.of (by rw [g2 z (nD _ _ hz)]; exact hz), rfl, _, _, rfl, _, _, rfl, rfl, rfl, V.bl (decide (nm = y)), rfl, decide (nm = y), rfl, ?_⟩
    by_cases c : nm = y
    · rw [decide_eq_true c]
      refine iteT ⟨_, rfl, _, g1, Nat.lt_of_le_of_lt (told_len i) (by rw [sizeLine_eq]; omega), ?_, fun b hb => by rw [upd_ne hb]; exact g2 b hb⟩
      rw [upd_same, told_step hy, if_pos c]
    · rw [decide_eq_false c]
      refine iteF ⟨?_, g2⟩
      rw [g1, told_step hy, if_neg c, List.append_nil]
  · have g3 : H' D = some (.lst [V.str nm]) := by rw [g1]; exact congrArg (fun l => some (HO.lst l)) (told_filter hnm)
    refine ⟨_, rfl, D, _, rfl, .inl (SqL.of g3), rfl, _, rfl, ?_⟩
    show if (!decide (V.int 1 = V.int 1)) = true then _ else _
    rw [decide_eq_true (rfl : V.int 1 = V.int 1)]
    refine iteF ⟨_, rfl, _, _, true, rfl, fun u r => r, kR, true, rfl, iteF ⟨_, rfl, .inl ⟨D, _, 0, _, rfl, rfl, SqL.of g3, rfl, q H' fun b o e => ?_⟩⟩⟩
    have e' := same b o e
    rw [g2 b (nD b o e')]
    exact e'
end
end DH

set_option Elab.async false
set_option linter.all false
set_option autoImplicit false
set_option maxRecDepth 100000
set_option maxHeartbeats 2000000
/-! try: .. except RightError as e: return f(e) -/
namespace DV
open PySem PySem.Spec PyProof.Rows L2

/-- the name of an except clause, just bound -/
def tVarS (i : Nat) : TE := fun σ H Q => ∃ (σ' : L2.St) (v : V), σ = σ'.set i (some v) ∧ Q v H
theorem pe_varS {X : Cx} {i : Nat} {x : Str} {pos : Pos} (hN : X.N[i]? = some x) (hv : Vis X.env.scope x) (hd : (x == ("__debug__" : Str)) = false) (hcd : (x == ("__classdict__" : Str)) = false) : PE X (.Name x pos) (tVarS i) := by
  refine ⟨fun pins s σ H Q I ⟨σ', v, e, q⟩ => (pe_var hN hv hd hcd).run pins s σ H Q I ⟨v, ?_, q⟩⟩
  have hl := I.len
  rw [e] at hl ⊢
  rw [List.length_set] at hl
  exact List.getElem?_set_self (by rw [hl]; exact (List.getElem?_eq_some_iff.mp hN).1)
def toldR (r : Res Out) : Res Out := match r with
  | .exc e s' => if e ∈ DH.eNames then .ok (.rt (.str e)) s' else .stuck
  | r => r
section
variable {fa : List He.Fa} {fn : List He.DefD} {tf : List He.Defn} {ex : PySem.W.Frag → Bool} {Ts : List Addr} {X : Cx} {W : L2.WX} {g : Rho → M Out} {body : List Stmt} {np cp ep rp hp tp fp : Pos} {n f : Str} {k : Nat}
theorem ds_tryTold (i : Nat) (Z : Fx fa fn tf ex X.K X.mg X.base) (told : ∀ p : Addr × Obj, ∃ fd, Binds X.K fd ["error"] [] ∧ PySem.W.keepIn X.K (.ref (He.ga X.K f)) = true ∧ X.mg f = some (.ref (He.ga X.K f)) ∧ DH.FnHq X.prog X.w X.K X.mg X.base (L2N.CX X.prog X.w) p k (He.ga X.K f) fd ["error"] (DH.spTold X.K p))
    (hr : Room k X.A) (tk : L2N.Takes X W) (hN : X.N.Nodup) (hxm : ∀ e ∈ DH.eNames, PySem.W.exmOne X.K (.ref (He.ga X.K e)) (.ref (He.ga X.K "RightError")) = some true) (hgl : ∀ e ∈ DH.eNames, X.mg e = some (.ref (He.ga X.K e))) (hre : X.mg "RightError" = some (.ref (He.ga X.K "RightError")))
    (hb : ∀ (W' : L2.WX) (pn : List (Addr × Obj)) (xe : Value → Shared → Prop), L2N.Takes (X.tr pn xe) W' → PassesOwn (model X.prog X.w) X.A X.env xe → DSs Ts (X.tr pn xe) W' body g)
    (hi : X.N[i]? = some n := by rfl) (hln : X.env.kindOf n = some .local := by rfl) (hs : X.stack = X.env :: X.outer := by rfl) (hf : X.env.frame = some X.env.locals := by rfl) (hg : Gl X "RightError" := by rfl) (hgf : Gl X f := by rfl) (hv : Vis X.env.scope n := by exact Or.inl rfl) (hd : (n == ("__debug__" : Str)) = false := by decide) (hcd : (n == ("__classdict__" : Str)) = false := by decide) (hdb : (f == ("__debug__" : Str)) = false := by decide)
    (he : ∀ {a : Addr} {pn : List (Addr × Obj)}, starEach [.Name n ep] (X.suite a pn).env = (false, eval (.Name n ep) (X.suite a pn).env) :: starEach [] (X.suite a pn).env := by intros; rfl) (hpl : ∀ {a : Addr} {pn : List (Addr × Obj)}, (backTo cp (starEach [] (X.suite a pn).env)).any (·.1) = false := by intros; rfl) :
    DS1 Ts X W (.Try body [.ExceptHandler (some (.Name "RightError" np)) (some n) [.Return (some (.Call (.Name f fp) [.Name n ep] [] cp)) tp] hp] [] [] rp) (fun ρ s => toldR (g ρ s)) := by
  refine ⟨_, L2N.ps_try_as (tb := fun W' D σ H => ∀ pn xe hT hP, Classical.choose (hb W' pn xe hT hP) D σ H)
    (ts := fun a cls d D σ H => ∀ oe, L2N.Zn cls d oe → (∃ vs, oe.data = .fields vs) → tRet (tCallS (DH.spTold X.K (a, oe)) (WE WF) (tCons (tVarS i) tNil)) D σ H) hs hf hN hi hln ⟨hg, by decide, .inl hre⟩ tk (fun W' pn xe hT hP => ⟨fun pins s σ H D I q => (Classical.choose_spec (hb W' pn xe hT hP)).1.run pins s σ H D I (q pn xe hT hP)⟩) (fun a oe cls d pn hz hfl => ?_), fun G s ρ pz σ H Dn R h => ?_⟩
  · obtain ⟨fd, b, kp, m, F⟩ := told (a, oe)
    obtain ⟨vs, hvs⟩ := id hfl
    have pe : PE (X.suite a ((a, oe) :: pn)) (.Call (.Name f fp) [.Name n ep] [] cp) (tCallS (DH.spTold X.K (a, oe)) (WE WF) (tCons (tVarS i) tNil)) :=
      DH.pe_callHq (X := X.suite a ((a, oe) :: pn)) F ⟨hr.dp, hr.un⟩ ⟨rfl, vs, hvs, hz.2.2 vs hvs⟩ List.mem_cons_self hgf m kp b (fun σ => L2N.passAt takes0N σ) (pa_cons (pe_varS hi hv hd hcd) pa_nil he) hdb he hpl
    exact ⟨fun pins s σ H D I q => (pss_one (ps_ret pe)).run pins s σ H D I (q oe hz hfl)⟩
  · intro pn xe hT hP
    refine (Classical.choose_spec (hb _ pn xe hT hP)).2 G s ρ pz σ H Dn R ?_
    have h : PostS Ts X W G (toldR (g ρ s)) Dn := h
    cases hgr : g ρ s with
    | stuck => rw [hgr] at h; exact h
    | ok o s' => rw [hgr] at h; cases o <;> exact h
    | exc e s' =>
      rw [hgr] at h
      have h : PostS Ts X W G (if e ∈ DH.eNames then .ok (.rt (.str e)) s' else .stuck) Dn := h
      by_cases hme : e ∈ DH.eNames
      · rw [if_pos hme] at h
        intro C σ' H' hC w' e'
        have hC : X.mg e = some (.ref C) := hC
        have eC : C = He.ga X.K e := by rw [hgl e hme] at hC; cases hC; rfl
        subst eC
        refine ⟨true, hxm e hme, fun _ a na oe hz hfl => ⟨σ', .ref a, rfl, rfl, hfl, e, hme, hz.zc, fun H2 same => ?_⟩, fun z => by cases z⟩
        exact h (.str e) H2 (w'.same same) (e'.trans (.same same)) (.str e)
      · rw [if_neg hme] at h; exact h.elim
end
end DV

set_option Elab.async false
set_option linter.all false
set_option maxRecDepth 100000
set_option maxHeartbeats 2000000
/-! values as data: two clauses; the rest that is not reached; ranges with a step -/
namespace DV
open PySem PySem.Spec PyProof.Rows L2
theorem wipeR_out {ρ : Rho} {i : Nat} : ∀ {vs : List Nat}, i ∉ vs → (wipeR ρ vs)[i]? = ρ[i]?
  | [], _ => rfl
  | v :: vs, h => by
    simp only [List.mem_cons, not_or] at h
    unfold wipeR
    rw [List.getElem?_set_ne (Ne.symm h.1)]
    exact wipeR_out h.2
/-! ### what is walked, whatever stands in the heap -/
def JAll (K : KW) (J : It) (ds : List D) : Prop := ∀ H2, J.stop ds.length H2 ∧ ∀ k d, ds[k]? = some d → J.go k H2 ∧ ∀ x H3, J.yld k H2 x H3 → Same H2 H3 ∧ ∀ bad' : Addr → Prop, At K bad' H3 x d
def DIr (Ts : List Addr) (X : Cx) (W : L2.WX) (tg iter : Expr) (f : Rho → M (List D)) : Prop := ∃ wi, PI X tg iter wi ∧ ∀ (G : Gh) (s : DS) (ρ : Rho) (pz : Nat → Addr) (σ : L2.St) (H : Hp) (R : It → Hp → Prop), Rel Ts X.KW G s ρ pz σ H →
  PostG X W G σ H (fun _ J ds => JAll X.KW J ds) (f ρ s) R → wi σ H R
theorem jall_range {K : KW} (lo : Int) (n : Nat) : JAll K (Itr lo n) (rangeD lo n) := fun H2 => by
  refine ⟨by rw [rangeD_len]; exact Nat.le_refl _, fun k d hd => ?_⟩
  obtain ⟨hk, rfl⟩ := rangeD_get hd
  refine ⟨hk, fun x H3 ⟨e3, hx⟩ => ?_⟩
  subst e3 hx
  exact ⟨Same.refl _, fun bad' => .int _⟩
/-- lo, lo + c, .. -/
def rangeC (lo c : Int) (n : Nat) : List D := (List.range n).map fun i => PyData.int (lo + (i : Nat) * c)
theorem rangeC_len (lo c : Int) (n : Nat) : (rangeC lo c n).length = n := by unfold rangeC; rw [List.length_map, List.length_range]
theorem rangeC_get {lo c : Int} {n k : Nat} {d : D} (h : (rangeC lo c n)[k]? = some d) : k < n ∧ d = .int (lo + (k : Nat) * c) := by
  have hk : k < n := by
    have := (List.getElem?_eq_some_iff.mp h).1
    rw [rangeC_len] at this
    exact this
  unfold rangeC at h
  rw [List.getElem?_map, List.getElem?_range hk] at h
  exact ⟨hk, (Option.some.inj h).symm⟩
theorem jall_rangeC {K : KW} (lo c : Int) (n : Nat) : JAll K (Itc lo c n) (rangeC lo c n) := fun H2 => by
  refine ⟨by rw [rangeC_len]; exact Nat.le_refl _, fun k d hd => ?_⟩
  obtain ⟨hk, rfl⟩ := rangeC_get hd
  refine ⟨hk, fun x H3 ⟨e3, hx⟩ => ?_⟩
  subst e3 hx
  exact ⟨Same.refl _, fun bad' => .int _⟩
theorem JAll.jok {K : KW} {G : Gh} {B : Hp} {J : It} {ds : List D} (h : JAll K J ds) : JOk false K G B J ds := fun H2 _ => ⟨(h H2).1, fun k d hd => ⟨((h H2).2 k d hd).1, fun x H3 y => ⟨(((h H2).2 k d hd).2 x H3 y).1, fun bad' _ => (((h H2).2 k d hd).2 x H3 y).2 bad'⟩⟩⟩
/-- range(a, b, -1) -/
def rng3 (ds : List D) : M (List D) := match ds with
  | [.int i, .int j, .int c] => if c = -1 ∧ -(2 ^ 62) ≤ i ∧ i < 2 ^ 62 ∧ -(2 ^ 62) ≤ j ∧ j < 2 ^ 62 then ret (rangeC i (-1) (i - j).toNat) else stk
  | _ => stk
theorem paired3 {α β : Type} {F : α → β → Prop} {l : List α} {y z t : β} (h : Paired F l [y, z, t]) : ∃ x u w, l = [x, u, w] ∧ F x y ∧ F u z ∧ F w t := by
  obtain _ | ⟨h, _ | ⟨h2, _ | ⟨h3, ⟨⟩⟩⟩⟩ := h
  exact ⟨_, _, _, rfl, h, h2, h3⟩
section
variable {Ts : List Addr} {X : Cx} {W : L2.WX} {tg a b' c' : Expr} {fs : Rho → M (List D)} {fi : Rho → M (List D)} {b : Bool} {pos : Pos} {iter : Expr}
theorem DIr.di (h : DIr Ts X W tg iter fi) : DI false Ts X W tg iter fi := by
  obtain ⟨wi, p, q⟩ := h
  refine ⟨wi, p, fun G s ρ pz σ H R RR h => q G s ρ pz σ H R RR ?_⟩
  cases hm : fi ρ s with
  | ok d s' => rw [hm] at h; exact fun v H1 w e a => h v H1 w e a.jok
  | exc x s' => rw [hm] at h; exact h
  | stuck => rw [hm] at h; exact h
theorem dr_range1 {p : Pos} (hg : Gl X "range") (hm : X.mg "range" = none) (ha : DA Ts b X W [a] fs) (hs : starEach [a] X.env = [(false, eval a X.env)] := by rfl) : DIr Ts X W tg (.Call (.Name "range" p) [a] [] pos) (fun ρ => bnd (fs ρ) rng1) := by
  obtain ⟨ta, pa, qa⟩ := ha
  refine ⟨_, pi_range1 hg hm pa hs, fun G s ρ pz σ H R RR h => ?_⟩
  refine qa G s ρ pz σ H _ RR (PostG.bnd h fun ds s1 vs H1 hm1 w1 e1 a1 h1 => ?_)
  have R1 := RR.ext w1 e1
  unfold rng1 at h1
  split at h1
  · split at h1
    · rename_i j hj
      obtain ⟨x, rfl, hx⟩ := paired1 a1
      exact ⟨j, by rw [(hx.w R1).int], hj.1, hj.2, h1 _ H1 w1 .refl (jall_range 0 _)⟩
    · exact h1.elim
  · exact h1.elim
theorem dr_range2 {p : Pos} (hg : Gl X "range") (hm : X.mg "range" = none) (ha : DA Ts b X W [a, b'] fs) (hs : starEach [a, b'] X.env = [(false, eval a X.env), (false, eval b' X.env)] := by rfl) (hs2 : starEach [b'] X.env = [(false, eval b' X.env)] := by rfl) : DIr Ts X W tg (.Call (.Name "range" p) [a, b'] [] pos) (fun ρ => bnd (fs ρ) rng2) := by
  obtain ⟨ta, pa, qa⟩ := ha
  refine ⟨_, pi_range2 hg hm pa hs hs2, fun G s ρ pz σ H R RR h => ?_⟩
  refine qa G s ρ pz σ H _ RR (PostG.bnd h fun ds s1 vs H1 hm1 w1 e1 a1 h1 => ?_)
  have R1 := RR.ext w1 e1
  unfold rng2 at h1
  split at h1
  · split at h1
    · rename_i i j hj
      obtain ⟨x, u, rfl, hx, hu⟩ := paired2 a1
      exact ⟨i, j, by rw [(hx.w R1).int, (hu.w R1).int], hj, h1 _ H1 w1 .refl (jall_range i _)⟩
    · exact h1.elim
  · exact h1.elim
theorem dr_range3 {p : Pos} (hg : Gl X "range") (hm : X.mg "range" = none) (ha : DA Ts b X W [a, b', c'] fs) (hs : starEach [a, b', c'] X.env = (false, eval a X.env) :: starEach [b', c'] X.env := by rfl) (hpl : (backTo pos (starEach [b', c'] X.env)).any (·.1) = false := by rfl) : DIr Ts X W tg (.Call (.Name "range" p) [a, b', c'] [] pos) (fun ρ => bnd (fs ρ) rng3) := by
  obtain ⟨ta, pa, qa⟩ := ha
  refine ⟨_, pi_range3 hg hm pa hs hpl, fun G s ρ pz σ H R RR h => ?_⟩
  refine qa G s ρ pz σ H _ RR (PostG.bnd h fun ds s1 vs H1 hm1 w1 e1 a1 h1 => ?_)
  have R1 := RR.ext w1 e1
  unfold rng3 at h1
  split at h1
  · split at h1
    · rename_i i j c hj
      obtain ⟨x, u, w, rfl, hx, hu, hw⟩ := paired3 a1
      obtain ⟨rfl, h2, h3, h4, h5⟩ := hj
      exact ⟨i, j, -1, (i - j).toNat, by rw [(hx.w R1).int, (hu.w R1).int, (hw.w R1).int], RgC.neg h2 h3 h4 h5, h1 _ H1 w1 .refl (jall_rangeC i (-1) _)⟩
    · exact h1.elim
  · exact h1.elim
end
theorem dir_fam {Ts : List Addr} {ι : Type} {K : KW} {mg : Str → Option Value} {Xf : ι → Cx} {W : L2.WX} {tg iter : Expr} {f : Rho → M (List D)} (hK : ∀ i, (Xf i).KW = K) (hm : ∀ i, (Xf i).mg = mg) (Y : Cx) (hYm : Y.mg = mg) (h : ∀ i, DIr Ts (Xf i) W tg iter f) : ∃ wi : TI, (∀ i, PI (Xf i) tg iter wi) ∧ ∀ (G : Gh) (s : DS) (ρ : Rho) (pz : Nat → Addr) (σ : L2.St) (H : Hp) (R : It → Hp → Prop), Rel Ts K G s ρ pz σ H →
    PostG Y W G σ H (fun _ J ds => JAll K J ds) (f ρ s) R → wi σ H R := by
  refine ⟨fun σ H R => ∀ i, Classical.choose (h i) σ H R, fun i => ⟨fun pins s σ H R I q => (Classical.choose_spec (h i)).1.run pins s σ H R I (q i)⟩, fun G s ρ pz σ H R RR q i => ?_⟩
  refine (Classical.choose_spec (h i)).2 G s ρ pz σ H R (by rw [hK i]; exact RR) ?_
  cases hr : f ρ s with
  | ok d s' => rw [hr] at q; rw [hK i]; exact q
  | exc x s' => rw [hr] at q; exact fun C H' hc => q C H' (by rw [hYm, ← hm i]; exact hc)
  | stuck => rw [hr] at q; exact q
/-- the slots behind a target's store, at a later heap -/
theorem Rel.hop {Ts : List Addr} {K : KW} {G : Gh} {s s3 s' : DS} {ρ ρ1 : Rho} {pz : Nat → Addr} {σ σ1 : L2.St} {H1 H3 H' : Hp} {vs : List Nat} (vs1 : List Nat) {Dd : Addr} (R : Rel Ts K G s ρ pz σ H1) (Rt : Rel Ts K (G.prot ρ (wipeR ρ vs) pz (· = Dd) H3) s3 ρ1 pz σ1 H3) (hD : H1 Dd = none)
    (w : Wd G s' H') (e : ExtO G H1 H') (kp : ∀ a o, a ≠ G.dr → a ∉ G.tabs → a ≠ Dd → H3 a = some o → H' a = some o) (tf : ∀ a o, isTF o = true → H3 a = some o → H' a = some o) (hD' : ∃ o, H' Dd = some o) :
    Rel Ts K (G.prot ρ (wipeR ρ vs) pz (· = Dd) H') s' (wipeR ρ1 vs1) pz (wipe σ1 vs1) H' := by
  have RP : Rel Ts K (G.prot ρ (wipeR ρ vs) pz (· = Dd) H') s' (wipeR ρ vs) pz (wipe σ vs) H' := R.prot w e fun a z => by subst z; exact ⟨hD, hD'⟩
  have dn : ∀ a, badE (G.prot ρ (wipeR ρ vs) pz (· = Dd) H') (wipeR ρ1 vs1) pz a → badE (G.prot ρ (wipeR ρ vs) pz (· = Dd) H3) ρ1 pz a := fun a z => by
    rcases z with z | ⟨i, ds, e, q⟩
    · exact .inl z
    · exact .inr ⟨i, ds, (wipeR_get e).1, q⟩
  have nDd : ∀ a, ¬ badE (G.prot ρ (wipeR ρ vs) pz (· = Dd) H3) ρ1 pz a → a ≠ Dd := fun a n z => n (.inl (.inr (.inr (.inr (.inr z)))))
  have up : ∀ {v : V} {d : D}, At K (badE (G.prot ρ (wipeR ρ vs) pz (· = Dd) H3) ρ1 pz) H3 v d → At K (badE (G.prot ρ (wipeR ρ vs) pz (· = Dd) H') (wipeR ρ1 vs1) pz) H' v d := fun {v d} h =>
    h.mono (fun a o n q => kp a o (fun z => n (.inl (.inl z))) (fun z => n (.inl (.inr (.inr (.inl z))))) (nDd a n) q) tf fun a n _ z => n (dn a z)
  have upL : ∀ {v : List V} {d : List D}, AtL K (badE (G.prot ρ (wipeR ρ vs) pz (· = Dd) H3) ρ1 pz) H3 v d → AtL K (badE (G.prot ρ (wipeR ρ vs) pz (· = Dd) H') (wipeR ρ1 vs1) pz) H' v d := fun {v d} h =>
    h.mono (fun a o n q => kp a o (fun z => n (.inl (.inl z))) (fun z => n (.inl (.inr (.inr (.inl z))))) (nDd a n) q) tf fun a n _ z => n (dn a z)
  refine ⟨RP.fix, RP.ts, RP.wd, RP.kp, by rw [wipeR_len, wipe_length]; exact Rt.len, fun i sl ei => ?_, fun i j ds es e1 e2 q => Rt.inj i j ds es (wipeR_get e1).1 (wipeR_get e2).1 q, fun i ds ei => ?_⟩
  · obtain ⟨h1, h2⟩ := wipeR_get ei
    obtain ⟨v, e3, q⟩ := Rt.at_ i sl h1
    refine ⟨v, by rw [wipe_get h2]; exact e3, ?_⟩
    cases sl with
    | val d => exact up q
    | own ds =>
      obtain ⟨q1, l1⟩ := q
      have nb := Rt.notbad h1
      exact ⟨q1, l1.mono (fun o q2 => kp _ _ (fun z => nb (.inl z)) (fun z => nb (.inr (.inr (.inl z)))) (fun z => nb (.inr (.inr (.inr (.inr z))))) q2) upL⟩
    | drw => exact q
    | cls => exact q
    | scr ns =>
      obtain ⟨a1, e1, r1⟩ := q
      exact ⟨a1, e1, r1.mono (fun a o n q => kp a o (fun z => n (.inl (.inl z))) (fun z => n (.inl (.inr (.inr (.inl z))))) (nDd a n) q) fun a n _ z => n (dn a z)⟩
  · have h1 := (wipeR_get ei).1
    have n : iteP (∃ i ds, (wipeR ρ vs)[i]? = some (some (Sl.own ds)) ∧ pz i = pz _) none (H3 (pz i)) = none := Rt.new i ds h1
    obtain ⟨v, _, _, q1⟩ := Rt.at_ i _ h1
    obtain ⟨u2, q2, _⟩ := q1.there
    by_cases c : ∃ j ds, (wipeR ρ vs)[j]? = some (some (Sl.own ds)) ∧ pz j = pz i
    · exact iteP_pos c
    · rw [iteP_neg c, q2] at n; cases n
/-! ### [elt for target in iter if test for target in range(..) if test] -/
def lc2D (hh : D → Rho → Option Rho) (tt : Rho → M Bool) (fi1 : Rho → M (List D)) (hh1 : D → Rho → Option Rho) (tt1 : Rho → M Bool) (fe : Rho → M D) (vs1 : List Nat) (ρ : Rho) : List D → M (List D)
  | [] => ret []
  | d :: ds => bnd (lift (hh d ρ)) fun ρ1 => bnd (nox (tt ρ1)) fun c => if c = true then bnd (nox (fi1 ρ1)) fun ds1 => if ds1.length ≤ 4000 then bnd (lcD hh1 tt1 fe (wipeR ρ1 vs1) ds1) fun es => bnd (lc2D hh tt fi1 hh1 tt1 fe vs1 ρ ds) fun es2 => ret (es ++ es2) else stk else lc2D hh tt fi1 hh1 tt1 fe vs1 ρ ds
def lc2F (fi : Rho → M (List D)) (hh : D → Rho → Option Rho) (tt : Rho → M Bool) (fi1 : Rho → M (List D)) (hh1 : D → Rho → Option Rho) (tt1 : Rho → M Bool) (fe : Rho → M D) (vs vs1 : List Nat) (ρ : Rho) : M (List D) := bnd (fi ρ) fun ds => if ds.length ≤ 4000 then lc2D hh tt fi1 hh1 tt1 fe vs1 (wipeR ρ vs) ds else stk
section
variable {Ts : List Addr} {X : Cx} {W : L2.WX} {pos : Pos} {fi fi1 : Rho → M (List D)} {hh hh1 : D → Rho → Option Rho} {is is1 : List Nat} {tt tt1 : Rho → M Bool} {fe : Rho → M D}
variable {G : Gh} {s : DS} {ρ : Rho} {pz : Nat → Addr} {σ : L2.St} {H : Hp}
theorem tlc2_run {y : Bool} {wi wi1 : TI} {g g1 : TG} {t t1 : TT} {te : TE} {vs vs1 : List Nat}
    (qi : ∀ (G : Gh) (s : DS) (ρ : Rho) (pz : Nat → Addr) (σ : L2.St) (H : Hp) (R : It → Hp → Prop), Rel Ts X.KW G s ρ pz σ H → PostG X W G σ H (fun H' J ds => JOk y X.KW G (G.now ρ pz H').H0 J ds) (fi ρ s) R → wi σ H R)
    (qg : ∀ (G : Gh) (s : DS) (ρ : Rho) (pz : Nat → Addr) (σ : L2.St) (H : Hp) (v : V) (d : D) (Q : L2.St → Hp → Prop), Rel Ts X.KW G s ρ pz σ H → AtF y X.KW (badE G ρ pz) H v d → (match hh d ρ with
      | some ρ' => ∀ σ', Rel Ts X.KW G s ρ' pz σ' H → (∀ a, badE G ρ' pz a → badE G ρ pz a) → (∀ i, i ∉ is → σ'[i]? = σ[i]?) → σ'.length = σ.length → Q σ' H
      | none => False) → g v σ H Q)
    (qt : ∀ (G : Gh) (s : DS) (ρ : Rho) (pz : Nat → Addr) (σ : L2.St) (H : Hp) (Q : Bool → Hp → Prop), Rel Ts X.KW G s ρ pz σ H → PostG X WF G σ H (fun _ c d => c = d) (tt ρ s) Q → t σ H Q)
    (qi1 : ∀ (G : Gh) (s : DS) (ρ : Rho) (pz : Nat → Addr) (σ : L2.St) (H : Hp) (R : It → Hp → Prop), Rel Ts X.KW G s ρ pz σ H → PostG X WF G σ H (fun _ J ds => JAll X.KW J ds) (fi1 ρ s) R → wi1 σ H R)
    (qg1 : ∀ (G : Gh) (s : DS) (ρ : Rho) (pz : Nat → Addr) (σ : L2.St) (H : Hp) (v : V) (d : D) (Q : L2.St → Hp → Prop), Rel Ts X.KW G s ρ pz σ H → At X.KW (badE G ρ pz) H v d → (match hh1 d ρ with
      | some ρ' => ∀ σ', Rel Ts X.KW G s ρ' pz σ' H → (∀ a, badE G ρ' pz a → badE G ρ pz a) → (∀ i, i ∉ is1 → σ'[i]? = σ[i]?) → σ'.length = σ.length → Q σ' H
      | none => False) → g1 v σ H Q)
    (qt1 : ∀ (G : Gh) (s : DS) (ρ : Rho) (pz : Nat → Addr) (σ : L2.St) (H : Hp) (Q : Bool → Hp → Prop), Rel Ts X.KW G s ρ pz σ H → PostG X WF G σ H (fun _ c d => c = d) (tt1 ρ s) Q → t1 σ H Q)
    (qe : ∀ (G : Gh) (s : DS) (ρ : Rho) (pz : Nat → Addr) (σ : L2.St) (H : Hp) (Q : VK), Rel Ts X.KW G s ρ pz σ H → PostG X WF G σ H (AtB true X.KW G ρ pz) (fe ρ s) Q → te σ H Q)
    (his : ∀ i ∈ is, i ∈ vs) (hk : KG is hh) (his1 : ∀ i ∈ is1, i ∈ vs1) (hv1 : ∀ i ∈ vs1, i ∈ vs) (hk1 : KG is1 hh1) {Q : VK} (R : Rel Ts X.KW G s ρ pz σ H) (h : PostG X W G σ H (FreshL X.KW G ρ pz H) (lc2F fi hh tt fi1 hh1 tt1 fe vs vs1 ρ s) Q) : tLc2 wi g t wi1 g1 t1 te vs vs1 σ H Q := by
  refine qi G s ρ pz σ H _ R (PostG.bnd (h := h) fun ds s1 J H1 hm1 w1 e1 jok h1 => ?_)
  have R1 := R.ext w1 e1
  split at h1
  case isFalse => exact h1.elim
  rename_i hlen
  intro Dd hDd
  have nbad : ¬ badE G ρ pz Dd := fun z => by
    obtain ⟨o, e⟩ := R1.trk _ z
    rw [hDd] at e; cases e
  have nD1 : Dd ≠ G.dr := fun z => nbad (.inl (.inl z))
  have nD2 : Dd ∉ G.tabs := fun z => nbad (.inl (.inr (.inr (.inl z))))
  have wb : ∀ a, badE G ρ pz a → G.bad a ∨ (G.now ρ pz H1).H0 a = none := fun a z => by
    rcases z with z | ⟨i, es, e1, e2⟩
    · exact .inl z
    · exact .inr (now_own ⟨i, es, e1, e2⟩)
  have n0 : (G.now ρ pz H1).H0 Dd = none := by
    by_cases c : ∃ i ds, ρ[i]? = some (some (Sl.own ds)) ∧ pz i = Dd
    · exact now_own c
    · rw [now_get c]; exact hDd
  refine ⟨fun i m H2 => m = ds.length - i ∧ i ≤ ds.length ∧ ∃ s' acc accd, Wd G s' H2 ∧ ExtO G H1 H2 ∧ H2 Dd = some (.lst acc) ∧ AtL X.KW (fun a => badE G ρ pz a ∨ a = Dd) H2 acc accd ∧ accd.length ≤ i * 4000 ∧ PostG X W G σ H1 (FreshL X.KW G ρ pz H) (bnd (lc2D hh tt fi1 hh1 tt1 fe vs1 (wipeR ρ vs) (ds.drop i)) (fun es => ret (accd ++ es)) s') Q,
    ⟨_, rfl, Nat.zero_le _, s1, [], [], w1.new hDd, .new hDd, upd_same, .nil, Nat.zero_le _, by
      rw [List.drop_zero]
      have z : (fun es : List D => ret ([] ++ es)) = ret := rfl
      rw [z, bnd_pure]
      exact h1⟩, ?_⟩
  rintro i m H2 ⟨rfl, hi, s', acc, accd, w2, e2, hD2, l2, hl2, h2⟩
  obtain ⟨stp, gos⟩ := jok H2 (ext_now R1 e2)
  by_cases hlt : i < ds.length
  · obtain ⟨d, hd, hdrop⟩ := drop_at hlt
    obtain ⟨go, yld⟩ := gos i d hd
    rw [hdrop] at h2
    refine .inr ⟨go, fun H3 => ∃ s' acc accd, Wd G s' H3 ∧ ExtO G H1 H3 ∧ H3 Dd = some (.lst acc) ∧ AtL X.KW (fun a => badE G ρ pz a ∨ a = Dd) H3 acc accd ∧ accd.length ≤ (i + 1) * 4000 ∧ PostG X W G σ H1 (FreshL X.KW G ρ pz H) (bnd (lc2D hh tt fi1 hh1 tt1 fe vs1 (wipeR ρ vs) (ds.drop (i + 1))) (fun es => ret (accd ++ es)) s') Q, fun H3 z => ⟨_, by omega, rfl, hlt, z⟩, fun x H3 y => ?_⟩
    obtain ⟨same, atx⟩ := yld x H3 y
    have e3 : ExtO G H1 H3 := e2.trans (.same same)
    have RP : Rel Ts X.KW (G.prot ρ (wipeR ρ vs) pz (· = Dd) H3) s' (wipeR ρ vs) pz (wipe σ vs) H3 := R1.prot (w2.same same) e3 fun a z => by subst z; exact ⟨hDd, _, same _ _ hD2⟩
    refine qg _ s' _ pz _ H3 x d _ RP (atx _ fun a z => ?_) ?_
    · rcases prot_bad.mp z with z | z
      · exact wb a z
      · exact .inr (by rw [z]; exact n0)
    · have h2 : PostG X W G σ H1 (FreshL X.KW G ρ pz H) (bnd (bnd (lift (hh d (wipeR ρ vs))) fun ρ1 => bnd (nox (tt ρ1)) fun c => if c = true then bnd (nox (fi1 ρ1)) fun ds1 => if ds1.length ≤ 4000 then bnd (lcD hh1 tt1 fe (wipeR ρ1 vs1) ds1) fun es => bnd (lc2D hh tt fi1 hh1 tt1 fe vs1 (wipeR ρ vs) (ds.drop (i + 1))) fun es2 => ret (es ++ es2) else stk else lc2D hh tt fi1 hh1 tt1 fe vs1 (wipeR ρ vs) (ds.drop (i + 1))) (fun es => ret (accd ++ es)) s') Q := h2
      cases eh : hh d (wipeR ρ vs) with
      | none => rw [eh] at h2; exact h2.elim
      | some ρ1 =>
        rw [eh] at h2
        have h2 : PostG X W G σ H1 (FreshL X.KW G ρ pz H) (bnd (bnd (nox (tt ρ1)) fun c => if c = true then bnd (nox (fi1 ρ1)) fun ds1 => if ds1.length ≤ 4000 then bnd (lcD hh1 tt1 fe (wipeR ρ1 vs1) ds1) fun es => bnd (lc2D hh tt fi1 hh1 tt1 fe vs1 (wipeR ρ vs) (ds.drop (i + 1))) fun es2 => ret (es ++ es2) else stk else lc2D hh tt fi1 hh1 tt1 fe vs1 (wipeR ρ vs) (ds.drop (i + 1))) (fun es => ret (accd ++ es)) s') Q := h2
        rw [bnd_bnd] at h2
        intro σ1 Rt _ kp1 ln1
        refine ⟨(wipe_eq his kp1 ln1).trans (wipe_wipe σ vs), ?_⟩
        refine qt _ s' ρ1 pz σ1 H3 _ Rt (PostG.bnox (h := h2) fun c s3 hm3 h3 c' H4 w4 e4 hcc => ?_)
        subst hcc
        have e4' : ExtO G H1 H4 := e3.trans ⟨e4.keep, e4.tf⟩
        have hD4 : H4 Dd = some (.lst acc) := e4.keep _ _ nD1 nD2 (same _ _ hD2)
        have mv : ∀ {H5 : Hp}, ExtO G H2 H5 → AtL X.KW (fun a => badE G ρ pz a ∨ a = Dd) H5 acc accd := fun e => l2.mono (fun a o n q => e.keep a o (fun z => n (.inl (by rw [z]; exact badE_dr))) (fun z => n (.inl (badE_tab z))) q) e.tf fun _ n _ => n
        cases c' with
        | false => exact ⟨s3, acc, accd, ⟨w4.dr, w4.tab⟩, e4', hD4, mv ((ExtO.same same).trans ⟨e4.keep, e4.tf⟩), by omega, h3⟩
        | true =>
          have h3 : PostG X W G σ H1 (FreshL X.KW G ρ pz H) (bnd (bnd (nox (fi1 ρ1)) fun ds1 => if ds1.length ≤ 4000 then bnd (lcD hh1 tt1 fe (wipeR ρ1 vs1) ds1) fun es => bnd (lc2D hh tt fi1 hh1 tt1 fe vs1 (wipeR ρ vs) (ds.drop (i + 1))) fun es2 => ret (es ++ es2) else stk) (fun es => ret (accd ++ es)) s3) Q := h3
          rw [bnd_bnd] at h3
          have R4 := Rt.ext w4 e4
          show wi1 σ1 H4 _
          refine qi1 _ s3 ρ1 pz σ1 H4 _ R4 (PostG.bnox (h := h3) fun ds1 s5 hm5 h5 J1 H5 w5 e5 jall => ?_)
          split at h5
          case isFalse => exact h5.elim
          rename_i hlen1
          have e5' : ExtO G H1 H5 := e4'.trans ⟨e5.keep, e5.tf⟩
          have hD5 : H5 Dd = some (.lst acc) := e5.keep _ _ nD1 nD2 hD4
          have fold5 : ∀ (l : List D) (ad : List D), bnd (bnd (lcD hh1 tt1 fe (wipeR ρ1 vs1) l) fun es => bnd (lc2D hh tt fi1 hh1 tt1 fe vs1 (wipeR ρ vs) (ds.drop (i + 1))) fun es2 => ret (es ++ es2)) (fun es => ret (ad ++ es)) = bnd (lcD hh1 tt1 fe (wipeR ρ1 vs1) l) fun es => bnd (lc2D hh tt fi1 hh1 tt1 fe vs1 (wipeR ρ vs) (ds.drop (i + 1))) fun es2 => ret ((ad ++ es) ++ es2) := fun l ad => by
            rw [bnd_bnd]
            congr 1
            funext es
            rw [bnd_bnd]
            congr 1
            funext es2
            rw [bnd_ret, List.append_assoc]
          rw [fold5] at h5
          refine ⟨fun j k H6 => k = ds1.length - j ∧ j ≤ ds1.length ∧ ∃ s' acc accd, Wd G s' H6 ∧ ExtO G H1 H6 ∧ (∀ a o, a ≠ G.dr → a ∉ G.tabs → a ≠ Dd → H3 a = some o → H6 a = some o) ∧ (∀ a o, isTF o = true → H3 a = some o → H6 a = some o) ∧ H6 Dd = some (.lst acc) ∧ AtL X.KW (fun a => badE G ρ pz a ∨ a = Dd) H6 acc accd ∧ accd.length ≤ i * 4000 + j ∧ PostG X W G σ H1 (FreshL X.KW G ρ pz H) (bnd (lcD hh1 tt1 fe (wipeR ρ1 vs1) (ds1.drop j)) (fun es => bnd (lc2D hh tt fi1 hh1 tt1 fe vs1 (wipeR ρ vs) (ds.drop (i + 1))) fun es2 => ret ((accd ++ es) ++ es2)) s') Q,
            ⟨_, rfl, Nat.zero_le _, s5, acc, accd, ⟨w5.dr, w5.tab⟩, e5', fun a o n1 n2 _ q => e5.keep _ _ n1 n2 (e4.keep _ _ n1 n2 q), fun a o tf q => e5.tf _ _ tf (e4.tf _ _ tf q), hD5, mv ((ExtO.same same).trans (ExtO.trans ⟨e4.keep, e4.tf⟩ ⟨e5.keep, e5.tf⟩)), by omega, by rw [List.drop_zero]; exact h5⟩, ?_⟩
          rintro j k H6 ⟨rfl, hj, s6, acc6, accd6, w6, e6, kp6, tf6, hD6, l6, hl6, h6⟩
          obtain ⟨stp1, gos1⟩ := jall H6
          by_cases hlt1 : j < ds1.length
          · obtain ⟨d1, hd1, hdrop1⟩ := drop_at hlt1
            obtain ⟨go1, yld1⟩ := gos1 j d1 hd1
            rw [hdrop1] at h6
            refine .inr ⟨go1, fun H7 => ∃ s' acc accd, Wd G s' H7 ∧ ExtO G H1 H7 ∧ (∀ a o, a ≠ G.dr → a ∉ G.tabs → a ≠ Dd → H3 a = some o → H7 a = some o) ∧ (∀ a o, isTF o = true → H3 a = some o → H7 a = some o) ∧ H7 Dd = some (.lst acc) ∧ AtL X.KW (fun a => badE G ρ pz a ∨ a = Dd) H7 acc accd ∧ accd.length ≤ i * 4000 + (j + 1) ∧ PostG X W G σ H1 (FreshL X.KW G ρ pz H) (bnd (lcD hh1 tt1 fe (wipeR ρ1 vs1) (ds1.drop (j + 1))) (fun es => bnd (lc2D hh tt fi1 hh1 tt1 fe vs1 (wipeR ρ vs) (ds.drop (i + 1))) fun es2 => ret ((accd ++ es) ++ es2)) s') Q, fun H7 z => ⟨_, by omega, rfl, hlt1, z⟩, fun x1 H7 y1 => ?_⟩
            obtain ⟨same1, atx1⟩ := yld1 x1 H7 y1
            have e7 : ExtO G H1 H7 := e6.trans (.same same1)
            have R7 := R1.hop vs1 Rt hDd (w6.same same1) e7 (fun a o n1 n2 n3 q => same1 _ _ (kp6 a o n1 n2 n3 q)) (fun a o tf q => same1 _ _ (tf6 a o tf q)) ⟨_, same1 _ _ hD6⟩
            refine qg1 _ s6 _ pz _ H7 x1 d1 _ R7 (atx1 _) ?_
            have h6 : PostG X W G σ H1 (FreshL X.KW G ρ pz H) (bnd (bnd (lift (hh1 d1 (wipeR ρ1 vs1))) fun ρ2 => bnd (nox (tt1 ρ2)) fun c => if c = true then bnd (nox (fe ρ2)) fun e => bnd (lcD hh1 tt1 fe (wipeR ρ1 vs1) (ds1.drop (j + 1))) fun es => ret (e :: es) else lcD hh1 tt1 fe (wipeR ρ1 vs1) (ds1.drop (j + 1))) (fun es => bnd (lc2D hh tt fi1 hh1 tt1 fe vs1 (wipeR ρ vs) (ds.drop (i + 1))) fun es2 => ret ((accd6 ++ es) ++ es2)) s6) Q := h6
            cases eh1 : hh1 d1 (wipeR ρ1 vs1) with
            | none => rw [eh1] at h6; exact h6.elim
            | some ρ2 =>
              rw [eh1] at h6
              have h6 : PostG X W G σ H1 (FreshL X.KW G ρ pz H) (bnd (bnd (nox (tt1 ρ2)) fun c => if c = true then bnd (nox (fe ρ2)) fun e => bnd (lcD hh1 tt1 fe (wipeR ρ1 vs1) (ds1.drop (j + 1))) fun es => ret (e :: es) else lcD hh1 tt1 fe (wipeR ρ1 vs1) (ds1.drop (j + 1))) (fun es => bnd (lc2D hh tt fi1 hh1 tt1 fe vs1 (wipeR ρ vs) (ds.drop (i + 1))) fun es2 => ret ((accd6 ++ es) ++ es2)) s6) Q := h6
              rw [bnd_bnd] at h6
              intro σ2 Rt2 _ kp2 ln2
              refine ⟨(wipe_eq his1 kp2 ln2).trans (wipe_wipe σ1 vs1), ?_⟩
              refine qt1 _ s6 ρ2 pz σ2 H7 _ Rt2 (PostG.bnox (h := h6) fun c s8 hm8 h8 c' H8 w8 e8 hcc => ?_)
              subst hcc
              have e8' : ExtO G H1 H8 := e7.trans ⟨e8.keep, e8.tf⟩
              have hD8 : H8 Dd = some (.lst acc6) := e8.keep _ _ nD1 nD2 (same1 _ _ hD6)
              have kp8 : ∀ a o, a ≠ G.dr → a ∉ G.tabs → a ≠ Dd → H3 a = some o → H8 a = some o := fun a o n1 n2 n3 q => e8.keep _ _ n1 n2 (same1 _ _ (kp6 a o n1 n2 n3 q))
              have tf8 : ∀ a o, isTF o = true → H3 a = some o → H8 a = some o := fun a o tf q => e8.tf _ _ tf (same1 _ _ (tf6 a o tf q))
              have mv6 : ∀ {H5 : Hp}, ExtO G H6 H5 → AtL X.KW (fun a => badE G ρ pz a ∨ a = Dd) H5 acc6 accd6 := fun e => l6.mono (fun a o n q => e.keep a o (fun z => n (.inl (by rw [z]; exact badE_dr))) (fun z => n (.inl (badE_tab z))) q) e.tf fun _ n _ => n
              cases c' with
              | false => exact ⟨s8, acc6, accd6, ⟨w8.dr, w8.tab⟩, e8', kp8, tf8, hD8, mv6 ((ExtO.same same1).trans ⟨e8.keep, e8.tf⟩), by omega, h8⟩
              | true =>
                have h8 : PostG X W G σ H1 (FreshL X.KW G ρ pz H) (bnd (bnd (nox (fe ρ2)) fun e => bnd (lcD hh1 tt1 fe (wipeR ρ1 vs1) (ds1.drop (j + 1))) fun es => ret (e :: es)) (fun es => bnd (lc2D hh tt fi1 hh1 tt1 fe vs1 (wipeR ρ vs) (ds.drop (i + 1))) fun es2 => ret ((accd6 ++ es) ++ es2)) s8) Q := h8
                simp only [bnd_bnd, bnd_ret] at h8
                have R8 := Rt2.ext w8 e8
                refine qe _ s8 ρ2 pz σ2 H8 _ R8 (PostG.bnox (h := h8) fun e s9 hm9 h9 v H9 w9 e9 a9 => ?_)
                have a9 : At X.KW (badE (G.prot ρ (wipeR ρ vs) pz (· = Dd) H7) ρ2 pz) H9 v e := a9
                have hD9 : H9 Dd = some (.lst acc6) := e9.keep _ _ nD1 nD2 hD8
                have e9' : ExtO G H1 H9 := e8'.trans ⟨e9.keep, e9.tf⟩
                have same2 : ∀ j, j ∉ vs → ρ2[j]? = (wipeR ρ vs)[j]? := fun j hj => ((hk1 d1 _ _ eh1 j fun z => hj (hv1 j (his1 j z))).trans (wipeR_out fun z => hj (hv1 j z))).trans (hk d _ _ eh j fun z => hj (his j z))
                have a9' : At X.KW (fun a => badE G ρ pz a ∨ a = Dd) H9 v e := a9.eqb fun a z => prot_own same2 (prot_bad.mpr z)
                refine ⟨acc6, hD9, by rw [sizeLine_eq, l6.len]; omega, s9, _, accd6 ++ [e], Wd.upd ⟨w9.dr, w9.tab⟩ fun z => nbad (.inl z), ⟨fun a o n1 n2 q => ?_, fun a o t q => ?_⟩, fun a o n1 n2 n3 q => ?_, fun a o t q => ?_, upd_same, acc_add hD9 (mv6 ((ExtO.same same1).trans (ExtO.trans ⟨e8.keep, e8.tf⟩ ⟨e9.keep, e9.tf⟩))) a9', by rw [List.length_append]; simp; omega, ?_⟩
                · rw [upd_ne fun z => by rw [z, hDd] at q; cases q]
                  exact e9'.keep a o n1 n2 q
                · rw [upd_ne fun z => by rw [z, hDd] at q; cases q]
                  exact e9'.tf a o t q
                · rw [upd_ne n3]
                  exact e9.keep _ _ n1 n2 (kp8 a o n1 n2 n3 q)
                · rw [upd_ne fun z => by rw [z, same _ _ hD2] at q; cases q; cases t]
                  exact e9.tf _ _ t (tf8 a o t q)
                · have z : (fun es : List D => bnd (lc2D hh tt fi1 hh1 tt1 fe vs1 (wipeR ρ vs) (ds.drop (i + 1))) fun es2 => ret ((accd6 ++ e :: es) ++ es2)) = fun es => bnd (lc2D hh tt fi1 hh1 tt1 fe vs1 (wipeR ρ vs) (ds.drop (i + 1))) fun es2 => ret (((accd6 ++ [e]) ++ es) ++ es2) := funext fun es => by rw [List.append_assoc accd6]; rfl
                  rw [← z]
                  exact h9
          · have ej : j = ds1.length := by omega
            subst ej
            rw [List.drop_length] at h6
            have h6 : PostG X W G σ H1 (FreshL X.KW G ρ pz H) (bnd (lc2D hh tt fi1 hh1 tt1 fe vs1 (wipeR ρ vs) (ds.drop (i + 1))) (fun es2 => ret ((accd6 ++ []) ++ es2)) s6) Q := h6
            rw [List.append_nil] at h6
            exact .inl ⟨stp1, s6, acc6, accd6, w6, e6, hD6, l6, by omega, h6⟩
  · have e : i = ds.length := by omega
    subst e
    rw [List.drop_length] at h2
    have h2 : PostG X W G σ H1 (FreshL X.KW G ρ pz H) (ret (accd ++ []) s') Q := h2
    rw [List.append_nil] at h2
    exact .inl ⟨stp, h2 _ H2 w2 e2 ⟨Dd, acc, rfl, R1.was e1 hDd, hD2, l2⟩⟩
end
end DV

set_option Elab.async false
set_option linter.all false
set_option maxRecDepth 100000
set_option maxHeartbeats 2000000
namespace DV
open PySem PySem.Spec PyProof.Rows L2
section
variable {Ts : List Addr} {X : Cx} {W : L2.WX} {pos : Pos} {elt tg iter tg1 iter1 : Expr} {ifs ifs1 : List Expr} {fi fi1 : Rho → M (List D)} {hh hh1 : D → Rho → Option Rho} {is is1 : List Nat} {tt tt1 : Rho → M Bool} {fe : Rho → M D} {scope : Scope} {own : List (Str × Nat)} {sts : List Stmt}
/-- [elt for target in iter if .. for target in range(..) if ..] -/
theorem df_lc2 {y : Bool} (vs1 : List Nat) (hc : X.calm = true) (hN : X.N.Nodup) (hi : DI y Ts X W tg iter fi) (ok : BlkOk X.N X.env.scope scope own) (hg : ∀ i, DG y Ts (BkX X scope i) tg is hh) (ht : ∀ i, DTs Ts (BkX X scope i) ifs tt) (hk : KG is hh)
    (hi1 : ∀ i, DIr Ts (BkX X scope i) WF tg1 iter1 fi1) (hg1 : ∀ i, DG false Ts (BkX X scope i) tg1 is1 hh1) (ht1 : ∀ i, DTs Ts (BkX X scope i) ifs1 tt1) (hk1 : KG is1 hh1) (he : ∀ i, DX Ts true (BkX X scope i) WF elt fe)
    (his : ∀ i ∈ is, i ∈ own.map (·.2) := by decide) (his1 : ∀ i ∈ is1, i ∈ vs1 := by decide) (hv1 : ∀ i ∈ vs1, i ∈ own.map (·.2) := by decide)
    (hs : ∀ x, foldedSetIterable iter X.env x = pure x := by intro _; rfl) (hs1 : ∀ env x, foldedSetIterable iter1 env x = pure x := by intro _ _; rfl) : DF Ts X W (.ListComp elt [⟨tg, iter, ifs, 0⟩, ⟨tg1, iter1, ifs1, 0⟩] scope pos) (lc2F fi hh tt fi1 hh1 tt1 fe (own.map (·.2)) vs1) := by
  obtain ⟨wi, pi, qi⟩ := hi
  obtain ⟨g, pg, qg⟩ := dg_fam (K := X.KW) (Xf := BkX X scope) (fun _ => rfl) hg
  obtain ⟨t, pt, qt⟩ := dts_fam (K := X.KW) (mg := X.mg) (Xf := BkX X scope) (fun _ => rfl) (fun _ => rfl) X rfl ht
  obtain ⟨wi1, pi1, qi1⟩ := dir_fam (K := X.KW) (mg := X.mg) (Xf := BkX X scope) (fun _ => rfl) (fun _ => rfl) X rfl hi1
  obtain ⟨g1, pg1, qg1⟩ := dg_fam (K := X.KW) (Xf := BkX X scope) (fun _ => rfl) hg1
  obtain ⟨t1, pt1, qt1⟩ := dts_fam (K := X.KW) (mg := X.mg) (Xf := BkX X scope) (fun _ => rfl) (fun _ => rfl) X rfl ht1
  obtain ⟨te, pe, qe⟩ := dx_fam (K := X.KW) (mg := X.mg) (Xf := BkX X scope) (fun _ => rfl) (fun _ => rfl) X rfl rfl he
  exact ⟨_, L2.pe_lc2 hc hN pi ok hv1 (fun s H C cl fp => pg (s, H, C, cl, fp)) (fun s H C cl fp => pt (s, H, C, cl, fp)) (fun s H C cl fp => pi1 (s, H, C, cl, fp)) (fun s H C cl fp => pg1 (s, H, C, cl, fp)) (fun s H C cl fp => pt1 (s, H, C, cl, fp)) (fun s H C cl fp => pe (s, H, C, cl, fp)) hs hs1,
    fun G s ρ pz σ H Q R h => tlc2_run qi qg qt qi1 qg1 qt1 qe his hk his1 hv1 hk1 R h⟩
/-- statements that are never reached -/
theorem dss_dead : DSs Ts X W sts (fun _ => stk) := ⟨fun _ _ _ => False, ⟨fun pins s σ H D I h => False.elim h⟩, fun G s ρ pz σ H Dn R h => h⟩
end
end DV

set_option Elab.async false
set_option linter.all false
set_option maxRecDepth 100000
set_option maxHeartbeats 2000000
/-! list(reversed(x)), x a list -/
namespace DR
open PySem PySem.Spec PyProof.Rows RT
section
variable {prog : Program} {w : World} {A : Around} {E : Value → Shared → Prop} {s : Shared} {R : Result → Shared → Prop}
/-- a list is filled from the walk -/
theorem fill {it l S : Addr} {items : Array Value} {res : Value} {c0 : Nat} (hh : A.handled = none) (hit : s.heap.IsRevIter it l ((items.size : Int) - 1)) (hl : s.heap.IsList l items) (hne : l ≠ it) (hn : items.size ≤ sizeLine) (hSi : S ≠ it) (hSl : S ≠ l)
    (hS : s.heap.get? S = some { cls := .type "list", data := .seq #[] c0 })
    (hR : ∀ (h' : Heap) (tk : Nat) (acc : Array Value) (c : Nat), (∀ b o, b ≠ it → b ≠ S → s.heap.get? b = some o → h'.get? b = some o) → h'.get? S = some { cls := .type "list", dict := none, data := .seq acc c, slots := #[] } → ItemsOf (fun i v => items[items.size - 1 - i]? = some v) acc items.size → R (.ok (.ret res)) { s with heap := h', toks := tk }) :
    wpAny (model prog w) A.in1 (Builtin.List.listExtendWith (.ref S) (.ref it) res) (fun fin s' => match fin with | .done f => R (.ok f) s' | .again c' => c'.quiet = true ∧ codeAny (model prog w) A c' R s') (fun e s' => R (.error e) s') s := by
  have W := (Walks.listRev (prog := prog) (w := w) (A := A.in1) hh it l hne items).toS
  have nf : S ∉ [it, l] := by simp only [List.mem_cons, List.not_mem_nil, or_false, not_or]; exact ⟨hSi, hSl⟩
  have ty : s.TypeIs (.ref it) "list_reverseiterator" := hit.typeIs
  have ne : Builtin.List.listSameRef (.ref S) (.ref it) = false := by simp [Builtin.List.listSameRef, hSi]
  unfold Builtin.List.listExtendWith; refine wpAny_bind (wpAny_typeOf ty ?_); rw [if_neg (by rw [ne]; decide)]
  refine wpAny_bind (wpAny_pyIter_revIter hit (wpAny_bind (wpAny_holding ?_)))
  unfold Builtin.List.listLengthHint; refine wpAny_bind (wpAny_specialOf ty nolen_lri ?_)
  show wpAny _ A.in1 (specialOf (Value.ref it) (Str.ofString "__length_hint__") >>= _) _ _ _; refine wpAny_bind (wpAny_specialOf ty hint_lri ?_)
  generalize hid : ("list_reverseiterator.__length_hint__" : String) = idh; wp_delta
  rw [show splitId idh = some ("list_reverseiterator", "__length_hint__") from by subst hid; decide +kernel]; subst hid
  refine wpAny_bind (wpAny_isInstance (b := true) ty (by rw [isSubtype_type]; kernel_rfl) (wpAny_pure ?_)); rw [if_neg (by decide)]
  have z : ((items.size : Nat) : Int) - 1 - ((0 : Nat) : Int) = (items.size : Int) - 1 := by omega
  refine wpAny_pure ⟨plainId_quiet F.plain_extend_loop _, codeAny_extend_loopS W hn S nf res items.size 0 s #[] c0 rfl (Nat.zero_le _) ⟨Nat.zero_le _, by rw [z]; exact hit, hl⟩ hS (ItemsOf.nil _) fun s' acc c' hm hS' ha => ?_⟩
  rw [Moved.eq_with hm]
  refine hR s'.heap s'.toks acc c' (fun b o n1 n2 e => hm.heap b o (fun hmem => ?_) e) hS' ha
  rcases List.mem_cons.mp hmem with e' | hmem
  · exact n2 e'
  · exact n1 (List.mem_singleton.mp hmem)
end
section
variable {prog : Program} {w : World} {A : Around} {E : Value → Shared → Prop} {s : Shared} {R : Result → Shared → Prop}
theorem init {it l S : Addr} {items : Array Value} (hh : A.handled = none) (hit : s.heap.IsRevIter it l ((items.size : Int) - 1)) (hl : s.heap.IsList l items) (hne : l ≠ it) (hn : items.size ≤ sizeLine) (hSi : S ≠ it) (hSl : S ≠ l)
    (hS : s.heap.get? S = some { cls := .type "list", data := .seq #[] })
    (hR : ∀ (h' : Heap) (tk : Nat) (acc : Array Value) (c : Nat), (∀ b o, b ≠ it → b ≠ S → s.heap.get? b = some o → h'.get? b = some o) → h'.get? S = some { cls := .type "list", dict := none, data := .seq acc c, slots := #[] } → ItemsOf (fun i v => items[items.size - 1 - i]? = some v) acc items.size → R (.ok (.ret .none)) { s with heap := h', toks := tk }) :
    wpAny (model prog w) A.in1 (Builtin.«list.__init__» ⟨[.ref S, .ref it], []⟩) (fun fin s' => match fin with | .done f => R (.ok f) s' | .again c' => c'.quiet = true ∧ codeAny (model prog w) A c' R s') (fun e s' => R (.error e) s') s := by
  show wpAny _ A.in1 (Builtin.List.listItems (.ref S) >>= fun old => Builtin.List.listUpdate (.ref S) (fun _ => #[]) >>= fun _ => letGo old.toList.reverse >>= fun _ => Builtin.List.listExtendWith (.ref S) (.ref it) .none) _ _ s
  refine wpAny_bind ?_; unfold Builtin.List.listItems; refine wpAny_bind (wpAny_seqItems hS rfl (wpAny_pure ?_))
  show wpAny _ A.in1 (updateSeq S (fun _ => #[]) >>= fun _ => letGo (#[] : Array Value).toList.reverse >>= fun _ => Builtin.List.listExtendWith (.ref S) (.ref it) .none) _ _ s
  refine wpAny_bind (wpAny_updateSeq hS rfl ?_)
  have k : ∀ b o, b ≠ S → s.heap.get? b = some o → (s.heap.update S (Obj.mapSeq (fun _ => (#[] : Array Value)))).get? b = some o := fun b o hb e => (Heap.get?_update_other _ _ (Ne.symm hb)).trans e
  obtain ⟨ol, hol, rl⟩ := id hl
  refine wpAny_bind (wpAny_letGo ?_)
  refine fill hh (hit.at fun o e => k _ o (Ne.symm hSi) e) ⟨ol, k _ _ (Ne.symm hSl) hol, rl⟩ hne hn hSi hSl (Heap.get?_update_self (Obj.mapSeq (fun _ => (#[] : Array Value))) hS rfl) fun h' tk acc c hk hS' ha => ?_
  exact hR h' tk acc c (fun b o n1 n2 e => hk b o n1 n2 (k b o n2 e)) hS' ha
theorem call_listRev {it l : Addr} {items : Array Value} {Q : Value → Shared → Prop} (hh : A.handled = none) (hit : s.heap.IsRevIter it l ((items.size : Int) - 1)) (hl : s.heap.IsList l items) (hne : l ≠ it) (hn : items.size ≤ sizeLine)
    (hQ : ∀ (h' : Heap) (tk : Nat) (acc : Array Value) (c : Nat), (∀ b o, b ≠ it → s.heap.get? b = some o → h'.get? b = some o) → h'.get? s.heap.objs.size = some { cls := .type "list", dict := none, data := .seq acc c, slots := #[] } → ItemsOf (fun i v => items[items.size - 1 - i]? = some v) acc items.size → Q (.ref s.heap.objs.size) { s with heap := h', toks := tk }) :
    wpAny (model prog w) A (call (.type "list") [.ref it]) Q E s := by
  obtain ⟨oi, hoi, _⟩ := id hit
  obtain ⟨ol, hol, _⟩ := id hl
  have hSi : s.heap.objs.size ≠ it := Nat.ne_of_gt (Heap.lt_size hoi)
  have hSl : s.heap.objs.size ≠ l := Nat.ne_of_gt (Heap.lt_size hol)
  refine callType_codes (Q₁ := fun obj s₁ => obj = .ref s.heap.objs.size ∧ s₁ = { s with heap := s.heap.push { cls := .type "list", data := .seq #[] } }) F.called_list (F.typeCall_list_1 _) F.entry_list_init (code_list_new _ ⟨rfl, rfl⟩) fun obj s₁ h₁ => ?_
  obtain ⟨rfl, rfl⟩ := h₁
  have hS : (s.heap.push { cls := .type "list", data := .seq #[] }).get? s.heap.objs.size = some { cls := .type "list", data := .seq #[] } := Heap.get?_push_size _ rfl
  refine ⟨⟨_, hS, rfl⟩, F.args_list_init_2 _ _, init (A := A.in1) hh (hit.at fun o e => Heap.get?_push_of_some _ e) (hl.push _) hne hn hSi hSl hS fun h' tk acc c hk hS' ha => ?_⟩
  exact ⟨rfl, hQ h' tk acc c (fun b o n1 e => hk b o n1 (Nat.ne_of_lt (Heap.lt_size e)) (Heap.get?_push_of_some _ e)) hS' ha⟩
end
end DR
namespace DV
open PySem PySem.Spec PyProof.Rows L2
/-- list(reversed(x)), x a list: a new list -/
def tListRev (K : PySem.W.Frag) (te : TE) : TE := fun σ H Q => te σ H fun v H1 => ∃ (a : Addr) (xs : List V), v = .ref a ∧ SqL K H1 a xs ∧ ∀ p, H1 p = none → Q (.ref p) (upd H1 p (.lst xs.reverse))
theorem pe_listRev {X : Cx} {e : Expr} {te : TE} {p p2 pos pos2 : Pos} (hc : X.calm = true) (hg : Gl X "list") (hm : X.mg "list" = none) (hg2 : Gl X "reversed") (hm2 : X.mg "reversed" = none) (he : PE X e te)
    (hs : starEach [e] X.env = (false, eval e X.env) :: starEach [] X.env := by rfl)
    (hs2 : starEach [.Call (.Name "reversed" p2) [e] [] pos2] X.env = (false, eval (.Call (.Name "reversed" p2) [e] [] pos2) X.env) :: starEach [] X.env := by rfl) :
    PE X (.Call (.Name "list" p) [.Call (.Name "reversed" p2) [e] [] pos2] [] pos) (tListRev X.K te) := by
  refine ⟨fun pins s σ H Q I h => ?_⟩
  refine Call_ (ld_blt I hg hm boot_list (PyProof.Rows.callWith_type1 (args_cons (Call_ (ld_blt I hg2 hm2 PyProof.Rows.boot_reversed (PyProof.Rows.callWith_type1 (args_cons (thn (he.run pins s σ H _ I h) fun u s1 ⟨v, H1, I1, r1, q1⟩ => args_nil ?_) hs) hs rfl))) hs2) hs2 rfl))
  obtain ⟨a, xs, ev, hq, q⟩ := q1; subst ev
  obtain rfl : u = Value.ref a := r1
  obtain ⟨its, rv, p', hz⟩ := I1.list hq
  refine call_reversed_list p'.isList (args_nil ?_)
  have hl := p'.isList
  obtain ⟨ol, hol, _⟩ := id hl
  have hn : its.toArray.size ≤ sizeLine := by rw [List.size_toArray, ← rv.length]; exact hz
  refine DR.call_listRev (s := { s1 with heap := s1.heap.push (revObj a ((its.toArray.size : Int) - 1)) }) (I1.ok.hd hc) ⟨_, Heap.get?_push_size _ rfl, rfl, rfl⟩ (hl.push _) (Nat.ne_of_lt (Heap.lt_size hol)) hn fun h' tk acc c hk hS hi => ?_
  have le : s1.heap.objs.size ≤ (s1.heap.push (revObj a ((its.toArray.size : Int) - 1))).objs.size := by rw [Heap.push, Array.size_push]; exact Nat.le_succ _
  refine ⟨.ref _, upd H1 (s1.heap.push (revObj a ((its.toArray.size : Int) - 1))).objs.size (.lst xs.reverse), I1.laid (h' := h') (t' := tk) (fun b o e => hk b o (Nat.ne_of_lt (Heap.lt_size e)) (Heap.get?_push_of_some _ e)) le ⟨by rw [List.length_reverse]; exact hz, acc.toList, c, RT.vals_rev rv hi, ?_⟩, rfl, q _ (I1.hok.fresh le)⟩
  rw [Array.toArray_toList]; exact hS
end DV

set_option Elab.async false
set_option linter.all false
set_option maxRecDepth 100000
set_option maxHeartbeats 2000000
/-! the script as a slot; draws that are gathered; the law of a plain list of draws -/
namespace DV
open PySem PySem.Spec PyProof.Rows L2
def slotSc (ρ : Rho) (i : Nat) : M (List Int) := match ρ[i]? with
  | some (some (.scr ns)) => ret ns
  | _ => stk
def appD (ρ : Rho) (d : D) : M Out := fun s => match s, d with
  | .b xs, .int z => if xs.length < 16000000 ∧ 0 ≤ z then .ok (.nx ρ) (.b (xs ++ [z])) else .stuck
  | _, _ => .stuck
theorem appD_b {ρ : Rho} {z : Int} {xs : List Int} (h : xs.length < 16000000) (h2 : 0 ≤ z) : appD ρ (.int z) (.b xs) = .ok (.nx ρ) (.b (xs ++ [z])) := if_pos ⟨h, h2⟩
section
variable {Ts : List Addr} {X : Cx} {W : L2.WX} {pos p px : Pos} {x : Str} {tg a e : Expr} {fa : Rho → M D} {b : Bool}
theorem slotSc_of {G : Gh} {s : DS} {ρ : Rho} {pz : Nat → Addr} {σ : L2.St} {H : Hp} {α β : Type} {A : Hp → β → α → Prop} {k : List Int → M α} {Q : β → Hp → Prop} {i : Nat} (R : Rel Ts X.KW G s ρ pz σ H) (h : PostG X W G σ H A (bnd (slotSc ρ i) k s) Q) : ∃ ns q, σ[i]? = some (some (.ref q)) ∧ LstAt X.K (badE G ρ pz) H q (ns.map V.int) ∧ PostG X W G σ H A (k ns s) Q := by
  unfold slotSc at h
  rcases hr : ρ[i]? with _ | (_ | (d | ds | _ | _ | ns)) <;> rw [hr] at h <;> first | exact h.elim | skip
  obtain ⟨v, e1, q, rfl, r⟩ := R.at_ i _ hr
  exact ⟨ns, q, e1, r, h⟩
theorem jok_scr {G : Gh} {s : DS} {ρ : Rho} {pz : Nat → Addr} {σ : L2.St} {H : Hp} {q : Addr} {ns : List Int} (r : LstAt X.K (badE G ρ pz) H q (ns.map V.int)) : JOk false X.KW G (G.now ρ pz H).H0 (Itl X.K q) (ns.map PyData.int) := fun H2 ex => by
  have sq : SqL X.K H2 q (ns.map V.int) := by
    rcases r with ⟨n, r | ⟨o, r⟩⟩ | r
    · exact .inl (.inl (ex.keep q _ (fun z => n (by rw [z]; exact badE_dr)) (fun z => n (badE_tab z)) (by rw [now_get fun ⟨i, es, e1, e2⟩ => n (.inr ⟨i, es, e1, e2⟩)]; exact r)))
    · exact .inl (.inr ⟨o, ex.keep q _ (fun z => n (by rw [z]; exact badE_dr)) (fun z => n (badE_tab z)) (by rw [now_get fun ⟨i, es, e1, e2⟩ => n (.inr ⟨i, es, e1, e2⟩)]; exact r)⟩)
    · exact .inr r
  refine ⟨⟨_, sq, by rw [List.length_map, List.length_map]; exact Nat.le_refl _⟩, fun k d hd => ?_⟩
  rw [List.getElem?_map] at hd
  cases hn : ns[k]? with
  | none => rw [hn] at hd; cases hd
  | some z =>
    rw [hn] at hd
    cases hd
    have hv : (ns.map V.int)[k]? = some (V.int z) := by rw [List.getElem?_map, hn]; rfl
    refine ⟨⟨_, _, sq, hv⟩, fun y H3 ⟨e3, hx⟩ => ?_⟩
    subst e3
    have ev := hx _ sq
    rw [hv] at ev
    cases ev
    exact ⟨Same.refl _, fun bad' _ => .int _⟩
theorem di_scr (i : Nat) (hN : X.N[i]? = some x := by rfl) (hv : Vis X.env.scope x := by first | exact Or.inl rfl | exact Or.inr (Or.inl rfl) | exact Or.inr (Or.inr rfl)) (hd : (x == ("__debug__" : Str)) = false := by decide) (hcd : (x == ("__classdict__" : Str)) = false := by decide) :
    DI false Ts X W tg (.Name x px) (fun ρ => bnd (slotSc ρ i) fun ns => ret (ns.map PyData.int)) := by
  refine ⟨_, pi_seq (pe_var hN hv hd hcd), fun G s ρ pz σ H R RR h => ?_⟩
  obtain ⟨ns, q, e1, r, h⟩ := slotSc_of RR h
  exact ⟨_, e1, .inl ⟨q, rfl, ⟨_, r.sq⟩, h _ H RR.wd .refl (jok_scr (s := s) (σ := σ) r)⟩⟩
theorem dx_lenS (i : Nat) (hg : Gl X "len") (hm : X.mg "len" = none) (hN : X.N[i]? = some x := by rfl) (hv : Vis X.env.scope x := by first | exact Or.inl rfl | exact Or.inr (Or.inl rfl) | exact Or.inr (Or.inr rfl)) (hd : (x == ("__debug__" : Str)) = false := by decide)
    (hcd : (x == ("__classdict__" : Str)) = false := by decide) (he : starEach [.Name x px] X.env = (false, eval (.Name x px) X.env) :: starEach [] X.env := by rfl) (hpl : (backTo pos (starEach [] X.env)).any (·.1) = false := by rfl) :
    DX Ts true X W (.Call (.Name "len" p) [.Name x px] [] pos) (fun ρ => bnd (slotSc ρ i) fun ns => ret (.int ns.length)) := by
  refine ⟨_, pe_callB call_len_seq hg hm bb_len (pa_cons (pe_var hN hv hd hcd) pa_nil he) (by decide) (by decide) he hpl, fun G s ρ pz σ H Q R h => ?_⟩
  obtain ⟨ns, q, e1, r, h⟩ := slotSc_of R h
  refine ⟨_, e1, _, _, rfl, .inl r.sq, ?_⟩
  rw [List.length_map]
  exact h _ H R.wd .refl (.int _)
theorem dx_ixS (i : Nat) (ha : DX Ts b X W a fa) (hs : PlainIx a := by exact fun _ _ => rfl) (hN : X.N[i]? = some x := by rfl) (hv : Vis X.env.scope x := by first | exact Or.inl rfl | exact Or.inr (Or.inl rfl) | exact Or.inr (Or.inr rfl)) (hd : (x == ("__debug__" : Str)) = false := by decide)
    (hcd : (x == ("__classdict__" : Str)) = false := by decide) : DX Ts true X W (.Subscript (.Name x px) a pos) (fun ρ => bnd (slotSc ρ i) fun _ => bnd (fa ρ) fun k => bnd (slotSc ρ i) fun ns => match k with
      | .int j => (match atI ns j with | some z => ret (.int z) | none => stk)
      | _ => stk) := by
  obtain ⟨tb, pb, qb⟩ := ha
  refine ⟨_, pe_ix ix_seq (pe_var hN hv hd hcd) pb hs, fun G s ρ pz σ H Q R h => ?_⟩
  obtain ⟨ns, q, e1, r, h⟩ := slotSc_of R h
  refine ⟨_, e1, qb G s ρ pz σ H _ R (PostG.bnd h fun k s1 v H1 hm1 w1 x1 a1 h1 => ?_)⟩
  have R1 := R.ext w1 x1
  obtain ⟨ns1, q1, e2, r1, h2⟩ := slotSc_of R1 h1
  rw [e1] at e2
  cases e2
  cases k with
  | int j =>
    cases hx : atI ns1 j with
    | none => simp only [hx] at h2; exact h2.elim
    | some z =>
      simp only [hx] at h2
      exact .inl ⟨_, _, j, _, rfl, (a1.w R1).int, r1.sq, atI_map hx, h2 _ H1 R1.wd .refl (.int _)⟩
  | _ => exact h2.elim
/-- draws.append(e) -/
theorem ds_appD (i : Nat) {apos cpos : Pos} (ha : DX Ts true X W a fa) (hN : X.N[i]? = some x := by rfl) (hv : Vis X.env.scope x := by first | exact Or.inl rfl | exact Or.inr (Or.inl rfl) | exact Or.inr (Or.inr rfl)) (hd : (x == ("__debug__" : Str)) = false := by decide) (hcd : (x == ("__classdict__" : Str)) = false := by decide)
    (bm : ∀ {to : TE} {t : TA}, PE X (.Name x px) to → PA X [a] t → PE X (.Call (.Attribute (.Name x px) "append" apos) [a] [] cpos) (tBM X.K "list" rAppend to t) := by exact fun p q => pe_bm PySem.F.plainAttrs_list PySem.F.slot_list_append PySem.F.type_list_append mt_append p q)
    (hs : swapsWith (.Call (.Attribute (.Name x px) "append" apos) [a] [] cpos) none pos.line X.env = pure false := by rfl) (he : starEach [a] X.env = (false, eval a X.env) :: starEach [] X.env := by rfl) :
    DS1 Ts X W (.Expr (.Call (.Attribute (.Name x px) "append" apos) [a] [] cpos) pos) (fun ρ => bnd (slotDr ρ i) fun _ => bnd (fa ρ) fun d => bnd (slotDr ρ i) fun _ => appD ρ d) := by
  obtain ⟨ta, pa, qa⟩ := ha
  refine ⟨_, ps_expr (bm (pe_var hN hv hd hcd) (pa_cons pa pa_nil he)) hs, fun G s ρ pz σ H Dn R h => ?_⟩
  obtain ⟨es, h⟩ := slotDr_ofS R h
  have hty : ∃ ys, H G.dr = some (.lst ys) := by
    have w := R.wd.dr
    cases s with
    | a t l cells => exact ⟨_, w.2.1⟩
    | b xs => exact ⟨_, w.1⟩
  obtain ⟨ys, hy⟩ := hty
  refine ⟨_, es, .inl ⟨rfl, _, .inl (.inl hy)⟩, qa G s ρ pz σ H _ R (PostG.stm R h fun d s1 v H1 hm1 w1 e1 a1 h1 => ?_)⟩
  have R1 := R.ext w1 e1
  obtain ⟨_, h2⟩ := slotDr_ofS R1 h1
  cases s1 with
  | a t l cells => exact h2.elim
  | b xs =>
    cases d with
    | int z =>
      by_cases hz : xs.length < 16000000 ∧ 0 ≤ z
      · have h2 : PostS Ts X W G (if xs.length < 16000000 ∧ 0 ≤ z then Res.ok (.nx ρ) (.b (xs ++ [z])) else .stuck) Dn := h2
        rw [if_pos hz] at h2
        obtain ⟨hd1, r1⟩ := R1.wd.dr
        refine ⟨G.dr, _, v, rfl, rfl, hd1, by rw [List.length_map, sizeLine_eq]; omega, ?_⟩
        have ev : v = .int z := (a1.w R1).int
        subst ev
        refine h2 pz σ _ (R1.ext (wd_dr R1.fix R1.wd ⟨?_, fun y hy => ?_⟩) (ext_dr ⟨_, hd1⟩))
        · rw [List.map_append]; exact upd_same
        · rcases List.mem_append.mp hy with hy | hy
          · exact r1 y hy
          · rw [List.mem_singleton.mp hy]; exact hz.2
      · have h2 : PostS Ts X W G (if xs.length < 16000000 ∧ 0 ≤ z then Res.ok (.nx ρ) (.b (xs ++ [z])) else .stuck) Dn := h2
        rw [if_neg hz] at h2
        exact h2.elim
    | _ => exact h2.elim
/-- list(reversed(draws)) -/
theorem dx_revD (i : Nat) {p2 pos2 : Pos} (hc : X.calm = true) (hg : Gl X "list") (hm : X.mg "list" = none) (hg2 : Gl X "reversed") (hm2 : X.mg "reversed" = none) (hN : X.N[i]? = some x := by rfl) (hv : Vis X.env.scope x := by first | exact Or.inl rfl | exact Or.inr (Or.inl rfl) | exact Or.inr (Or.inr rfl)) (hd : (x == ("__debug__" : Str)) = false := by decide)
    (hcd : (x == ("__classdict__" : Str)) = false := by decide) (hs : starEach [.Name x px] X.env = (false, eval (.Name x px) X.env) :: starEach [] X.env := by rfl)
    (hs2 : starEach [.Call (.Name "reversed" p2) [.Name x px] [] pos2] X.env = (false, eval (.Call (.Name "reversed" p2) [.Name x px] [] pos2) X.env) :: starEach [] X.env := by rfl) :
    DX Ts true X W (.Call (.Name "list" p) [.Call (.Name "reversed" p2) [.Name x px] [] pos2] [] pos) (fun ρ => bnd (slotDr ρ i) fun _ => getB fun xs => ret (.list (xs.reverse.map PyData.int))) := by
  refine ⟨_, pe_listRev hc hg hm hg2 hm2 (pe_var hN hv hd hcd) hs hs2, fun G s ρ pz σ H Q R h => ?_⟩
  obtain ⟨e1, h⟩ := slotDr_of R h
  cases s with
  | a t n cells => exact h.elim
  | b xs =>
    obtain ⟨hd1, r⟩ := R.wd.dr
    refine ⟨_, e1, _, _, rfl, SqL.of hd1, fun q hq => ?_⟩
    refine h _ _ (R.wd.new hq) (.new hq) ?_
    rw [← List.map_reverse]
    exact (AtL.ofInts _).mkL R.trk hq
/-- list(reversed(e)) of a list -/
def dListRev (d : D) : Option D := match d with
  | .list ds => some (.list ds.reverse)
  | _ => none
theorem dx_listRev {p2 pos2 : Pos} (hc : X.calm = true) (hg : Gl X "list") (hm : X.mg "list" = none) (hg2 : Gl X "reversed") (hm2 : X.mg "reversed" = none) (ha : DX Ts b X W a fa) (hs : starEach [a] X.env = (false, eval a X.env) :: starEach [] X.env := by rfl)
    (hs2 : starEach [.Call (.Name "reversed" p2) [a] [] pos2] X.env = (false, eval (.Call (.Name "reversed" p2) [a] [] pos2) X.env) :: starEach [] X.env := by rfl) :
    DX Ts true X W (.Call (.Name "list" p) [.Call (.Name "reversed" p2) [a] [] pos2] [] pos) (fun ρ => bnd (fa ρ) fun d => lift (dListRev d)) := by
  obtain ⟨ta, pa, qa⟩ := ha
  refine ⟨_, pe_listRev hc hg hm hg2 hm2 pa hs hs2, fun G s ρ pz σ H Q R h => ?_⟩
  refine qa G s ρ pz σ H _ R (PostG.bnd h fun d s1 v H1 hm1 w1 e1 a1 h1 => ?_)
  have R1 := R.ext w1 e1
  have q := POut.of R1 h1
  have x1 := a1.w R1
  unfold dListRev at q
  split at q
  · obtain ⟨p, vs, rfl, ho, l⟩ := x1.lst
    exact ⟨p, vs, rfl, SqL.of ho, q.newL R1.trk l.rev⟩
  · exact q.elim
end
/-- _law_draws: a new list of numbers from 0 on -/
def spDraws (K : PySem.W.Frag) : Sp := fun vs H Q _ => ∃ (a : Addr) (ns : List Int), vs = [.ref a] ∧ SqL K H a (ns.map V.int) ∧ ns.length ≤ 63 ∧ ∀ (H' : Hp) (dr : Addr) (xs : List Int), Same H H' → H' dr = some (.lst (xs.map V.int)) → (∀ z ∈ xs, 0 ≤ z) → Q (.ref dr) H'
def ghD (dr : Addr) (H : Hp) : Gh := ⟨false, dr, dr, [], fun _ => False, H⟩
def rhoD (n : Nat) (ns : List Int) : Rho := some (.scr ns) :: some .drw :: List.replicate n none
theorem rhoD_get {n : Nat} {ns : List Int} {sl : Sl} {j : Nat} (e : (rhoD n ns)[j]? = some (some sl)) : (j = 0 ∧ sl = .scr ns) ∨ (j = 1 ∧ sl = .drw) := by
  unfold rhoD at e
  cases j with
  | zero => cases e; exact .inl ⟨rfl, rfl⟩
  | succ j =>
    cases j with
    | zero => cases e; exact .inr ⟨rfl, rfl⟩
    | succ j =>
      rw [List.getElem?_cons_succ, List.getElem?_cons_succ, List.getElem?_replicate] at e
      split at e <;> cases e
theorem draws_rel {w : World} {K : PySem.W.Frag} {H : Hp} {a D : Addr} {ns : List Int} {n : Nat} {σ : L2.St} (hS : SqL K H a (ns.map V.int)) (hD : H D = none) (h0 : σ[0]? = some (some (.ref a))) (hσ : σ.length = n + 2) :
    Rel [] ⟨K, w⟩ (ghD D (upd H D (.lst []))) (.b []) (rhoD n ns) (fun _ => 0) (σ.set 1 (some (.ref D))) (upd H D (.lst [])) := by
  have no : ∀ j ds, (rhoD n ns)[j]? = some (some (Sl.own ds)) → False := fun j ds e => by
    rcases rhoD_get e with ⟨_, z⟩ | ⟨_, z⟩
    · cases z
    · cases z
  have bad : ∀ b, badE (ghD D (upd H D (.lst []))) (rhoD n ns) (fun _ => 0) b → b = D := fun b z => by
    rcases z with (z | z | z | z) | ⟨j, ds, e, _⟩
    · exact z
    · exact z
    · cases z
    · exact z.elim
    · exact (no j ds e).elim
  refine ⟨⟨fun b z => ?_, fun z => (nomatch z), fun z => (nomatch z), fun z => (nomatch z)⟩, rfl, ⟨⟨upd_same, fun z hz => (nomatch hz)⟩, fun P hP => (nomatch hP)⟩, .refl, by unfold rhoD; simp [hσ], fun j sl e => ?_, fun j k ds es e1 _ _ => (no j ds e1).elim, fun j ds e => (no j ds e).elim⟩
  · exact ⟨_, by rw [bad b (.inl z)]; exact upd_same⟩
  · rcases rhoD_get e with ⟨rfl, rfl⟩ | ⟨rfl, rfl⟩
    · refine ⟨.ref a, by rw [List.getElem?_set_ne (by decide)]; exact h0, a, rfl, ?_⟩
      rcases hS with (r | ⟨o, r⟩) | r
      · have ne : a ≠ D := fun z => by rw [z, hD] at r; cases r
        exact .inl ⟨fun z => ne (bad _ z), .inl (by rw [upd_ne ne]; exact r)⟩
      · have ne : a ≠ D := fun z => by rw [z, hD] at r; cases r
        exact .inl ⟨fun z => ne (bad _ z), .inr ⟨o, by rw [upd_ne ne]; exact r⟩⟩
      · exact .inr r
    · exact ⟨.ref D, List.getElem?_set_self (by rw [hσ]; omega), rfl⟩
def ghB (tf : List He.Defn) (K : PySem.W.Frag) (dr : Addr) (H : Hp) : Gh := ⟨false, dr, dr, TsL tf K, fun _ => False, H⟩
theorem law_relB {w : World} {tf : List He.Defn} {K : PySem.W.Frag} {H H' : Hp} {dr : Addr} {xs : List Int} {n i : Nat} {σ : L2.St} (hT : ∀ p ∈ tf, H (He.cT K p).2 = some (.tbl #[])) (same : Same H H') (h3 : H' dr = some (.lst (xs.map V.int))) (hx : ∀ z ∈ xs, 0 ≤ z) (hσ : σ.length = n) (hi : i < n) :
    Rel (TsL tf K) ⟨K, w⟩ (ghB tf K dr H') (.b xs) (rho0 n i) (fun _ => 0) (σ.set i (some (.ref dr))) H' := by
  have key : ∀ P ∈ TsL tf K, H' P = some (.tbl #[]) := fun P hP => by
    obtain ⟨p, hp, e⟩ := List.mem_map.mp hP
    rw [← e]; exact same _ _ (hT p hp)
  have one : ∀ j sl, (rho0 n i)[j]? = some (some sl) → j = i ∧ sl = .drw := fun j sl e => by
    rcases set_get e with ⟨e1, e2⟩ | ⟨_, e1⟩
    · exact ⟨e1, by cases e2; rfl⟩
    · rw [List.getElem?_replicate] at e1
      split at e1 <;> cases e1
  have no : ∀ j ds, (rho0 n i)[j]? = some (some (Sl.own ds)) → False := fun j ds e => by
    have := (one j _ e).2
    cases this
  have nt : dr ∉ TsL tf K := fun z => by
    have := key _ z
    rw [h3] at this; cases this
  refine ⟨⟨fun a z => ?_, fun z => (nomatch z), nt, nt⟩, rfl, ⟨⟨h3, hx⟩, fun P hP => ?_⟩, .refl, by unfold rho0; rw [List.length_set, List.length_set, List.length_replicate, hσ], fun j sl e => ?_, fun j k ds es e1 _ _ => (no j ds e1).elim, fun j ds e => (no j ds e).elim⟩
  · rcases z with z | z | z | z
    · exact ⟨_, by rw [z]; exact h3⟩
    · exact ⟨_, by rw [z]; exact h3⟩
    · exact ⟨_, key a z⟩
    · exact z.elim
  · exact ⟨#[], key P hP, by first | trivial | exact True.intro | (intro x hx; cases hx)⟩
  · obtain ⟨rfl, rfl⟩ := one j sl e
    exact ⟨.ref dr, List.getElem?_set_self (by rw [hσ]; exact hi), rfl⟩
end DV

set_option Elab.async false
set_option linter.all false
set_option maxRecDepth 100000
set_option maxHeartbeats 2000000
/-! the program's constants; data in order -/
namespace DV
open PySem PySem.Spec PyProof.Rows L2
/-! ### what a constant is worth -/
mutual
def kD (K : PySem.W.Frag) : D → Value → Bool
  | .none, .none => true
  | .int i, .int j _ => decide (j = i)
  | .bool b, .bool c => decide (c = b)
  | .str x, .str y _ => decide (y = x)
  | .tuple ds, .ref a => match K.lookup a with
    | some ⟨.type c, dd, .seq its _, _⟩ => dd.isNone && decide (c = "tuple") && (decide (its.size ≤ sizeLine) && kDs K ds its.toList)
    | _ => false
  | _, _ => false
def kDs (K : PySem.W.Frag) : List D → List Value → Bool
  | [], [] => true
  | d :: ds, u :: us => kD K d u && kDs K ds us
  | _, _ => false
end
mutual
theorem kD_at {K : KW} : ∀ {d : D} {u : Value}, kD K.K d u = true → ∃ v, RelV v u ∧ ∀ bad H, At K bad H v d
  | .none, .none, _ => ⟨.non, rfl, fun _ _ => .non⟩
  | .int i, .int j t, h => by
    have e : j = i := of_decide_eq_true (by unfold kD at h; exact h)
    exact ⟨.int i, ⟨t, by rw [e]⟩, fun _ _ => .int i⟩
  | .bool b, .bool c, h => by
    have e : c = b := of_decide_eq_true (by unfold kD at h; exact h)
    exact ⟨.bl b, by rw [e]; rfl, fun _ _ => .bl b⟩
  | .str x, .str y t, h => by
    have e : y = x := of_decide_eq_true (by unfold kD at h; exact h)
    exact ⟨.str x, ⟨t, by rw [e]⟩, fun _ _ => .str x⟩
  | .tuple ds, .ref a, h => by
    unfold kD at h
    split at h
    · rename_i c dd its n sl hl
      simp only [Bool.and_eq_true, decide_eq_true_eq] at h
      obtain ⟨⟨hd, rfl⟩, hz, hs⟩ := h
      obtain ⟨vs, r, hat⟩ := kDs_at hs
      exact ⟨.ref a, rfl, fun bad H => .tup (.inr ⟨_, its, n, hl, rfl, by simpa using hd, rfl, hz, r⟩) (hat bad H)⟩
    · cases h
  | .none, .int _ _, h => by simp [kD] at h
  | .none, .bool _, h => by simp [kD] at h
  | .none, .str _ _, h => by simp [kD] at h
  | .none, .ref _, h => by simp [kD] at h
theorem kDs_at {K : KW} : ∀ {ds : List D} {us : List Value}, kDs K.K ds us = true → ∃ vs, Vals vs us ∧ ∀ bad H, AtL K bad H vs ds
  | [], [], _ => ⟨[], .nil, fun _ _ => .nil⟩
  | d :: ds, u :: us, h => by
    unfold kDs at h
    rw [Bool.and_eq_true] at h
    obtain ⟨v, r, a⟩ := kD_at h.1
    obtain ⟨vs, rs, as⟩ := kDs_at h.2
    exact ⟨v :: vs, .cons r rs, fun bad H => .cons (a bad H) (as bad H)⟩
end
/-- the module's name x is worth d -/
def kGlob (K : PySem.W.Frag) (x : Str) (d : D) : Bool := match PySem.W.nsIn K mainGlobals x with
  | some (some u) => kD K d u
  | _ => false
theorem glob_ok {w : World} {K : PySem.W.Frag} {h : Heap} {mg : Str → Option Value} {x : Str} {d : D} (X : K.In h) (G : h.Ns mainGlobals mg) (c : kGlob K x d = true) : ∃ u v, mg x = some u ∧ RelV v u ∧ ∀ bad H, At ⟨K, w⟩ bad H v d := by
  unfold kGlob at c
  cases e : PySem.W.nsIn K mainGlobals x with
  | none => rw [e] at c; cases c
  | some o =>
    cases o with
    | none => rw [e] at c; cases c
    | some u =>
      rw [e] at c
      obtain ⟨v, r, a⟩ := kD_at (K := ⟨K, w⟩) c
      exact ⟨u, v, PySem.W.mg_of X G e, r, a⟩
theorem Fx.gd {w : World} {fa : List He.Fa} {fn : List He.DefD} {tf : List He.Defn} {ex : PySem.W.Frag → Bool} {K : PySem.W.Frag} {mg : Str → Option Value} {base : Heap} (Z : Fx fa fn tf ex K mg base) {x : Str} {d : D} (h : ∀ K, ex K = true → kGlob K x d = true) : ∃ u v, mg x = some u ∧ RelV v u ∧ ∀ bad H, At ⟨K, w⟩ bad H v d := glob_ok Z.X Z.G (h K Z.more)
section
variable {Ts : List Addr} {X : Cx} {W : L2.WX} {pos : Pos} {x : Str} {d : D}
theorem dx_gcon (h : ∃ u v, X.mg x = some u ∧ RelV v u ∧ ∀ bad H, At X.KW bad H v d) (hg : Gl X x) (hd : (x == ("__debug__" : Str)) = false := by decide) : DX Ts true X W (.Name x pos) (fun _ => ret d) := by
  obtain ⟨u, v, hm, r, a⟩ := h
  exact ⟨_, pe_glob hg hm r hd, fun G s ρ pz σ H Q R q => q v H R.wd .refl (a _ _)⟩
end
end DV

set_option Elab.async false
set_option linter.all false
set_option maxRecDepth 100000
set_option maxHeartbeats 2000000
/-! data in order -/
namespace DV
open PySem PySem.Spec PyProof.Rows L2
/-- each with each of one shape -/
def alikeB (ds : List D) : Bool := noDics ds && ds.all fun d => ds.all fun e => PySem.W.alike d e
theorem alikeB_ok {ds : List D} (h : alikeB ds = true) : PySem.W.AllAlike ds := fun d hd e he => List.all_eq_true.mp (List.all_eq_true.mp (Bool.and_eq_true_iff.mp h).2 d hd) e he
theorem alikeB_nd {ds : List D} (h : alikeB ds = true) : noDics ds = true := (Bool.and_eq_true_iff.mp h).1
/-- all are tuples of something, or none is a tuple or None -/
def sortB (ds : List D) : Bool := (ds.all fun d => match d with
  | .tuple (_ :: _) => true
  | _ => false) || ds.all fun d => match d with
  | .tuple _ => false
  | .none => false
  | _ => true
theorem sortB_ok {ds : List D} (h : sortB ds = true) : PySem.W.Sortable ds := by
  unfold sortB at h
  rcases Bool.or_eq_true_iff.mp h with h | h
  · refine .inl fun d hd => ?_
    have q := List.all_eq_true.mp h d hd
    cases d with
    | tuple xs =>
      cases xs with
      | nil => cases q
      | cons x r => exact ⟨x, r, rfl⟩
    | _ => cases q
  · refine .inr fun d hd => ?_
    have q := List.all_eq_true.mp h d hd
    cases d with
    | tuple xs => cases q
    | none => cases q
    | _ => exact ⟨fun z => (nomatch z), fun xs z => (nomatch z)⟩
def sortD (ds : List D) : List D := ds.mergeSort (PySem.W.dataLe false id)
/-- sorted of data that is alike: a new list, in order -/
def rSortD (K : PySem.W.Frag) : List V → Hp → VK → Prop := fun vs H Q => ∃ (a : Addr) (xs : List V) (ds : List D), vs = [.ref a] ∧ SqL K H a xs ∧ DpAll K H xs ds ∧ PySem.W.AllAlike ds ∧ PySem.W.Sortable ds ∧ (∀ d ∈ ds, PyData.depth d ≤ 62) ∧
  ∀ (zs : List (V × D)) (p : Addr), zs.Perm (xs.zip ds) → zs.map (·.2) = sortD ds → H p = none → Q (.ref p) (upd H p (.lst (zs.map (·.1))))
theorem dpAll_len {K : PySem.W.Frag} {H : Hp} : ∀ {xs : List V} {ds : List D}, DpAll K H xs ds → xs.length = ds.length
  | _, _, .nil => rfl
  | _, _, .cons _ t => congrArg (· + 1) (dpAll_len t)
section
variable {X : Cx}
theorem each_zip {pins : List (Addr × Obj)} {σ : L2.St} {H : Hp} {s : Shared} (I : Inv X pins σ H s) : ∀ {xs : List V} {us : List Value} {ds : List D}, Vals xs us → DpAll X.K H xs ds → PySem.W.EachIs (fun v (b : V × D) => RelV b.1 v) us (xs.zip ds) ∧ PySem.W.EachIs (fun v (b : V × D) => ∃ as, Reads s.heap v b.2 as) us (xs.zip ds)
  | _, _, _, .nil, .nil => ⟨.nil, .nil⟩
  | _, _, _, .cons r t, .cons h k => by
    obtain ⟨e1, e2⟩ := each_zip I t k
    exact ⟨.cons r e1, .cons (Dp.reads I _ _ _ h r) e2⟩
theorem vals_each : ∀ {us : List Value} {bs : List (V × D)}, PySem.W.EachIs (fun v (b : V × D) => RelV b.1 v) us bs → Vals (bs.map (·.1)) us
  | _, _, .nil => .nil
  | _, _, .cons r t => .cons r (vals_each t)
theorem zip_snd : ∀ {xs : List V} {ds : List D}, xs.length = ds.length → (xs.zip ds).map (·.2) = ds
  | [], [], _ => rfl
  | x :: xs, d :: ds, h => by
    show d :: (xs.zip ds).map (·.2) = _
    rw [zip_snd (by simpa using h)]
theorem cr_sortedD (hu : X.A.units + 65 < cLine) : CallR X (.builtin "sorted") (rSortD X.K) := by
  intro pins s σ H vs us Q I r h
  obtain ⟨a, xs, ds, rfl, hs, hd, ha, hk, hdep, q⟩ := h
  obtain ⟨its, rv, hl, hz⟩ := I.list hs
  rw [Vals.ref1 r]
  have hlen := dpAll_len hd
  have em : (xs.zip ds).map (·.2) = ds := zip_snd hlen
  obtain ⟨e1, e2⟩ := each_zip I rv hd
  refine PySem.W.sorted_data (enc := fun b : V × D => b.2) (R := fun v (b : V × D) => RelV b.1 v) hl.isList e1 e2 (by rw [em]; exact ha) (by rw [em]; exact hk) (by rw [List.length_zip]; omega) (fun b hb => by
    have : b.2 ∈ ds := by rw [← em]; exact List.mem_map_of_mem hb
    have := hdep _ this
    omega) fun out ol eo => ?_
  obtain ⟨ep, he'⟩ := PyProof.Rows.sortedAll_at s.heap its out.toArray
  have perm := List.mergeSort_perm (xs.zip ds) (PySem.W.dataLe false (fun b : V × D => b.2))
  have ms : ((xs.zip ds).mergeSort (PySem.W.dataLe false (fun b : V × D => b.2))).map (·.2) = sortD ds := by
    unfold sortD
    conv => rhs; rw [← em]
    exact List.map_mergeSort fun a _ b _ => rfl
  have hlen2 : (((xs.zip ds).mergeSort (PySem.W.dataLe false (fun b : V × D => b.2))).map (·.1)).length ≤ sizeLine := by
    rw [List.length_map, perm.length_eq, List.length_zip]; omega
  exact ⟨.ref _, upd H (s.heap.objs.size + 1) (.lst (((xs.zip ds).mergeSort (PySem.W.dataLe false (fun b : V × D => b.2))).map (·.1))), I.laid (t' := s.toks) (fun _ _ => PyProof.Rows.sortedAll_old) (Nat.le_succ _) ⟨hlen2, out, ep, vals_each eo, he'⟩, rfl, q _ _ perm ms (I.hok.fresh (Nat.le_succ _))⟩
end
end DV

set_option Elab.async false
set_option linter.all false
set_option maxRecDepth 100000
set_option maxHeartbeats 2000000
/-! tuple(reversed(x)), x a tuple -/
namespace DR
open PySem PySem.Spec PyProof.Rows RT
theorem nolen_rt : typeLookup (.type "reversed") "__len__" = pure none := by rw [typeLookup_type, builtinLookup_eq_fast]; kernel_rfl
theorem hint_rt : typeLookup (.type "reversed") "__length_hint__" = pure (some (.builtin "reversed.__length_hint__")) := by rw [typeLookup_type, builtinLookup_eq_fast]; kernel_rfl
theorem slot_hint : Slot "reversed" "__length_hint__" "reversed.__length_hint__" := .of (owner := "reversed") (n := "__length_hint__") (by rw [typeLookup_type, builtinLookup_eq_fast]; kernel_rfl) (by decide +kernel) (by decide +kernel) (by decide +kernel) (by first | exact .inl (by decide +kernel) | exact .inr (by decide +kernel)) (by rw [isSubtype_type]; kernel_rfl)
theorem entry_hint : entryFor table "reversed.__length_hint__" = some Builtin.«reversed.__length_hint__» := entryFor_of_tree (by kernel_rfl)
theorem args_hint (a : Value) : argsOk "reversed.__length_hint__" ⟨[a], []⟩ := by
  unfold argsOk; rw [signature?_of (id := "reversed.__length_hint__") (n := ['_', '_', 't', 'n', 'i', 'h', '_', 'h', 't', 'g', 'n', 'e', 'l', '_', '_']) (o := ['d', 'e', 's', 'r', 'e', 'v', 'e', 'r']) (by kernel_rfl) owner_rt]; kernel_rfl
section
variable {prog : Program} {w : World} {A : Around} {E : Value → Shared → Prop} {s : Shared}
theorem call_hint {it t : Addr} {items : Array Value} {Q : Value → Shared → Prop} (hit : IsRt s.heap it t ((items.size : Int) - 1)) (ht : IsTup s.heap t items) (hn : items.size ≤ sizeLine)
    (h : ∀ u k, Q (.int items.size u) { s with toks := k }) : wpAny (model prog w) A (call (.builtin "reversed.__length_hint__") [.ref it]) Q E s := by
  obtain ⟨o, ho, hc, hd⟩ := id hit
  refine wpAny_call_entry slot_hint hit.typeIs entry_hint ?_ (args_hint _)
  unfold Builtin.«reversed.__length_hint__»; refine wpAny_bind (wpAny_of_eq (a := Value.ref it) rfl ?_)
  refine wpAny_bind (wpAny_field ho hd (x := .ref t) rfl ?_)
  have nn : (Value.ref t == Value.none) = false := rfl
  rw [if_neg (by rw [nn]; decide)]
  refine wpAny_bind (len_tuple ht (by have := L2.line63; omega) ?_)
  refine wpAny_bind (wpAny_of_eq (a := some ((items.size : Nat) : Int)) rfl ?_)
  refine wpAny_bind (wpAny_field (s := { s with toks := s.toks + 1 + 1 }) ho hd (x := rawInt ((items.size : Int) - 1)) rfl ?_)
  show wpAny _ _ (if ((items.size : Nat) : Int) < ((items.size : Int) - 1) + 1 then _ else _) _ _ _
  rw [if_neg (by omega)]
  refine wpAny_bind (wpAny_mkInt (wpAny_pure ⟨_, rfl, ?_⟩))
  have z : ((items.size : Int) - 1) + 1 = (items.size : Int) := by omega
  rw [z]; exact h _ _
end
theorem walks_rt {prog : Program} {w : World} {A : Around} (hh : A.handled = none) (I t : Addr) (hne : t ≠ I) (items : Array Value) (hn : items.size ≤ sizeLine) :
    Walks prog w A I [I, t] [I] items.size (fun i v => items[items.size - 1 - i]? = some v) (fun i h => i ≤ items.size ∧ IsRt h I t ((items.size : Int) - 1 - (i : Int)) ∧ IsTup h t items) where
  sub := fun b hb => by simp at hb; simp [hb]
  frame := fun _ _ _ x hk => ⟨x.1, x.2.1.at fun o e => hk I (by simp) o e, let ⟨o, ho, r⟩ := x.2.2; ⟨o, hk t (by simp) o ho, r⟩⟩
  item := fun i s Q E hi x hQ => by
    have z : (items.size : Int) - 1 - (i : Int) = ((items.size - 1 - i : Nat) : Int) := by omega
    have hit := x.2.1; rw [z] at hit
    have hx : items[items.size - 1 - i]? = some (items[items.size - 1 - i]'(by omega)) := Array.getElem?_eq_getElem (by omega)
    refine next_rt_item hit x.2.2 hx hn fun h' hit' hs' => ?_
    have z2 : ((items.size - 1 - i : Nat) : Int) - 1 = (items.size : Int) - 1 - ((i + 1 : Nat) : Int) := by omega
    rw [z2] at hit'
    obtain ⟨o, ho, r⟩ := x.2.2
    exact hQ _ h' (s.toks + 1) hx ⟨hi, hit', o, (hs'.2 t hne).trans ho, r⟩ fun b o hb eo => hs'.extBut b o (fun h => hb (by simp [h])) eo
  done := fun s Q E x hQ => by
    have z : (items.size : Int) - 1 - (items.size : Int) = -1 := by omega
    have hit := x.2.1; rw [z] at hit
    exact next_rt_end hh hit fun h' he' => hQ h' s.toks fun b o hb eo => he' b o (fun h => hb (by simp [h])) eo
  self := fun _ _ _ _ x hQ => iter_rt x.2.1 hQ
section
variable {prog : Program} {w : World} {A : Around} {E : Value → Shared → Prop} {s : Shared} {R : Result → Shared → Prop}
theorem collect_rt {it t : Addr} {items : Array Value} {Q : List Value → Shared → Prop} (hh : A.handled = none) (hit : IsRt s.heap it t ((items.size : Int) - 1)) (ht : IsTup s.heap t items) (hne : t ≠ it) (hn : items.size ≤ sizeLine)
    (hQ : ∀ (h' : Heap) (tk : Nat) (acc : Array Value), (∀ b o, b ≠ it → s.heap.get? b = some o → h'.get? b = some o) → ItemsOf (fun i v => items[items.size - 1 - i]? = some v) acc items.size → Q acc.toList { s with heap := h', toks := tk }) : wpAny (model prog w) A (collect (.ref it)) Q E s := by
  have W := (walks_rt (prog := prog) (w := w) (A := A.in1) hh it t hne items hn).toS
  obtain ⟨oi, hoi, ri⟩ := id hit
  obtain ⟨ot, hot, rt⟩ := id ht
  have hSi : s.heap.objs.size ≠ it := Nat.ne_of_gt (Heap.lt_size hoi)
  have hSt : s.heap.objs.size ≠ t := Nat.ne_of_gt (Heap.lt_size hot)
  have nf : s.heap.objs.size ∉ [it, t] := by simp only [List.mem_cons, List.not_mem_nil, or_false, not_or]; exact ⟨hSi, hSt⟩
  unfold collect; refine wpAny_bind (wpAny_runValue (codeAny_builtin F.entry_proto_collect ?_))
  rw [Around.under_plainId F.plain_proto_collect _]; show wpAny _ A.in1 (newList [] >>= fun l' => again (.builtin "list.__iadd__" ⟨[l', .ref it], []⟩)) _ _ s
  refine wpAny_bind (wpAny_newObj_type (wpAny_pure ⟨plainId_quiet F.plain_list_iadd _, codeAny_builtin F.entry_list_iadd ?_⟩)); rw [Around.under_plainId F.plain_list_iadd _]
  have hS1 : (s.heap.push { cls := .type "list", data := .seq ([] : List Value).toArray }).get? s.heap.objs.size = some { cls := .type "list", data := .seq ([] : List Value).toArray } := Heap.get?_push_size _ rfl
  have hit1 : IsRt (s.heap.push { cls := .type "list", data := .seq ([] : List Value).toArray }) it t ((items.size : Int) - 1) := ⟨oi, Heap.get?_push_of_some _ hoi, ri⟩
  have ht1 : IsTup (s.heap.push { cls := .type "list", data := .seq ([] : List Value).toArray }) t items := ⟨ot, Heap.get?_push_of_some _ hot, rt⟩
  have ty : ({ s with heap := s.heap.push { cls := .type "list", data := .seq ([] : List Value).toArray } } : Shared).TypeIs (.ref it) "reversed" := IsRt.typeIs (s := { s with heap := s.heap.push { cls := .type "list", data := .seq ([] : List Value).toArray } }) hit1
  have ne : Builtin.List.listSameRef (.ref s.heap.objs.size) (.ref it) = false := by simp [Builtin.List.listSameRef, hSi]
  show wpAny _ A.in1 (Builtin.List.listExtendWith (.ref s.heap.objs.size) (.ref it) (.ref s.heap.objs.size)) _ _ _; unfold Builtin.List.listExtendWith
  refine wpAny_bind (wpAny_typeOf ty ?_); rw [if_neg (by rw [ne]; decide)]
  refine wpAny_bind (iter_rt (s := { s with heap := s.heap.push { cls := .type "list", data := .seq ([] : List Value).toArray } }) hit1 (wpAny_bind (wpAny_holding ?_)))
  unfold Builtin.List.listLengthHint; refine wpAny_bind (wpAny_specialOf ty nolen_rt ?_)
  show wpAny _ A.in1 (specialOf (Value.ref it) (Str.ofString "__length_hint__") >>= _) _ _ _; refine wpAny_bind (wpAny_specialOf ty hint_rt ?_)
  generalize hid : ("reversed.__length_hint__" : String) = idh; wp_delta
  rw [show splitId idh = some ("reversed", "__length_hint__") from by subst hid; decide +kernel]; subst hid
  refine wpAny_bind (wpAny_isInstance (b := true) ty (by rw [isSubtype_type]; kernel_rfl) ?_); rw [if_neg (by decide)]
  try dsimp only
  rw [if_neg (by decide +kernel)]
  refine wpAny_bind ?_
  refine wpAny_rule ?_
  have hb : bindSpecial (Value.builtin "reversed.__length_hint__") (Value.ref it) = pure (Value.builtin "reversed.__length_hint__", [Value.ref it]) := slot_hint.bind (Value.ref it)
  rw [hb]
  refine wpAny_bind ?_
  refine wpAny_pure ?_
  dsimp only
  refine wpAny_bind ?_
  refine wpAny_attempt ?_
  refine call_hint (s := { s with heap := s.heap.push { cls := .type "list", data := .seq ([] : List Value).toArray } }) hit1 ht1 hn fun u k => ?_
  dsimp only
  have ha : asInt? (Value.int (items.size : Int) u) = pure (some (items.size : Int)) := rfl
  rw [ha]
  refine wpAny_bind ?_
  refine wpAny_pure ?_
  dsimp only
  have hz := hn; rw [sizeLine_eq] at hz
  have f1 : Builtin.List.listFitsIndex (items.size : Int) = true := by
    show (decide (-(2 ^ 63 : Int) ≤ (items.size : Int)) && decide ((items.size : Int) < 2 ^ 63)) = true
    rw [decide_eq_true (by omega), decide_eq_true (by omega)]; rfl
  have f2 : Builtin.List.listTooLong (items.size : Int).toNat = false := by
    show decide ((items.size : Int).toNat > sizeLine) = false
    rw [decide_eq_false (by rw [Int.toNat_natCast]; omega)]
  rw [f1, if_neg (by decide), if_neg (by omega : ¬ (items.size : Int) < 0), f2, if_neg (by decide)]
  refine wpAny_pure ?_
  have z : ((items.size : Nat) : Int) - 1 - ((0 : Nat) : Int) = (items.size : Int) - 1 := by omega
  refine wpAny_ite_split (fun _ => ?_) (fun _ => ?_)
  · refine wpAny_bind ?_
    refine wpAny_rule ?_
    refine wpAny_bind ?_; show wpAny _ _ (updateSeq s.heap.objs.size (·.push .none) >>= fun _ => updateSeq s.heap.objs.size (·.pop)) _ _ _
    have one : ∀ k : Nat, k ≤ 1 → k ≤ sizeLine := fun k h => by rw [sizeLine_eq]; omega
    refine wpAny_bind (wpAny_updateSeq (hz := one _ (Nat.zero_le 1)) (_hz' := Nat.le_succ_of_le (one _ (Nat.le_refl 1))) hS1 rfl ?_)
    have hS2 := Heap.get?_update_self (Obj.mapSeq (·.push Value.none)) hS1 rfl
    refine wpAny_updateSeq (hz := one _ (Nat.le_refl 1)) (_hz' := Nat.le_succ_of_le (one _ (Nat.zero_le 1))) hS2 rfl ?_
    have hS3 := Heap.get?_update_self (Obj.mapSeq (·.pop)) hS2 rfl
    have oth : ∀ b o, b ≠ s.heap.objs.size → (s.heap.push { cls := .type "list", data := .seq ([] : List Value).toArray }).get? b = some o → (((s.heap.push { cls := .type "list", data := .seq ([] : List Value).toArray }).update s.heap.objs.size (Obj.mapSeq (·.push Value.none))).update s.heap.objs.size (Obj.mapSeq (·.pop))).get? b = some o := fun b o hb e => (Heap.get?_update_other _ _ (Ne.symm hb)).trans ((Heap.get?_update_other _ _ (Ne.symm hb)).trans e)
    refine wpAny_pure ⟨plainId_quiet F.plain_extend_loop _, codeAny_extend_loopS W hn _ nf _ items.size 0 _ _ _ rfl (Nat.zero_le _) ⟨Nat.zero_le _, by rw [z]; obtain ⟨o, ho, r⟩ := hit1; exact ⟨o, oth _ _ (Ne.symm hSi) ho, r⟩, let ⟨o, ho, r⟩ := ht1; ⟨o, oth _ _ (Ne.symm hSt) ho, r⟩⟩ hS3 (ItemsOf.nil _) fun s' acc' c' hm hS' hacc => ?_⟩
    show wpAny _ A (load s.heap.objs.size >>= _) _ _ s'; refine wpAny_bind (wpAny_load hS' (wpAny_pure ?_)); rw [Moved.eq_with hm]
    refine hQ s'.heap s'.toks acc' (fun b o hb e => hm.heap b o (fun hmem => ?_) (oth b o (Nat.ne_of_lt (Heap.lt_size e)) (Heap.get?_push_of_some _ e))) hacc
    rcases List.mem_cons.mp hmem with e' | hmem
    · exact absurd (Heap.lt_size e) (by rw [e']; exact Nat.lt_irrefl _)
    · exact hb (List.mem_singleton.mp hmem)
  · refine wpAny_pure ⟨plainId_quiet F.plain_extend_loop _, codeAny_extend_loopS W hn _ nf _ items.size 0 _ _ _ rfl (Nat.zero_le _) ⟨Nat.zero_le _, by rw [z]; exact hit1, ht1⟩ hS1 (ItemsOf.nil _) fun s' acc' c' hm hS' hacc => ?_⟩
    show wpAny _ A (load s.heap.objs.size >>= _) _ _ s'; refine wpAny_bind (wpAny_load hS' (wpAny_pure ?_)); rw [Moved.eq_with hm]
    refine hQ s'.heap s'.toks acc' (fun b o hb e => hm.heap b o (fun hmem => ?_) (Heap.get?_push_of_some _ e)) hacc
    rcases List.mem_cons.mp hmem with e' | hmem
    · exact absurd (Heap.lt_size e) (by rw [e']; exact Nat.lt_irrefl _)
    · exact hb (List.mem_singleton.mp hmem)
theorem new_rt {it t : Addr} {items : Array Value} {Q₁ : Value → Shared → Prop} (hh : A.handled = none) (hit : IsRt s.heap it t ((items.size : Int) - 1)) (ht : IsTup s.heap t items) (hne : t ≠ it) (hn : items.size ≤ sizeLine)
    (h : ∀ (h' : Heap) (tk : Nat) (acc : Array Value), (∀ b o, b ≠ it → s.heap.get? b = some o → h'.get? b = some o) → ItemsOf (fun i v => items[items.size - 1 - i]? = some v) acc items.size → Q₁ (.ref h'.objs.size) { s with heap := h'.push { cls := .type "tuple", data := .seq acc }, toks := tk }) :
    codeAny (model prog w) A (.call (.builtin "tuple.__new__") ⟨[.type "tuple", .ref it], []⟩) (wants Q₁ E) s := by
  refine codeAny_of_tree ?_; show wpAny _ A.in1 (do checkBuiltinCall "tuple.__new__" ⟨[.type "tuple", .ref it], []⟩; again (.builtin "tuple.__new__" ⟨[.type "tuple", .ref it], []⟩)) _ _ s
  refine wpAny_bind (wpAny_of_eq (F.newCall_tuple_1 _) (wpAny_pure ⟨plainId_quiet F.plain_tuple_new _, codeAny_builtin F.entry_tuple_new ?_⟩)); rw [Around.under_plainId F.plain_tuple_new _]
  have hsub := sub_tuple_self; have hinit := init_tuple_lookup; have hmh := madeHere_tuple
  have ty : s.TypeIs (.ref it) "reversed" := hit.typeIs
  have hh1 : A.in1.handled = none := hh
  wp_walk using wpAny_typeOf ty, collect_rt (A := A.in1) hh1 hit ht hne hn
  intro h' tk acc hk hacc
  show wpAny _ _ (Builtin.Tuple.tupleExact acc.toList.toArray >>= fun v => ret v) _ _ _; unfold Builtin.Tuple.tupleExact
  refine wpAny_bind (wpAny_newObj_type (wpAny_pure ?_) (by show acc.toList.toArray.size ≤ sizeLine; simp only [Array.toArray_toList]; rw [hacc.1]; exact hn))
  have z : acc.toList.toArray = acc := by simp
  rw [z]; exact h h' tk acc hk hacc
theorem call_tupRevT {it t : Addr} {items : Array Value} {Q : Value → Shared → Prop} (hh : A.handled = none) (hit : IsRt s.heap it t ((items.size : Int) - 1)) (ht : IsTup s.heap t items) (hne : t ≠ it) (hn : items.size ≤ sizeLine)
    (hQ : ∀ (h' : Heap) (tk : Nat) (acc : Array Value), (∀ b o, b ≠ it → s.heap.get? b = some o → h'.get? b = some o) → ItemsOf (fun i v => items[items.size - 1 - i]? = some v) acc items.size → Q (.ref h'.objs.size) { s with heap := h'.push { cls := .type "tuple", data := .seq acc }, toks := tk }) :
    wpAny (model prog w) A (call (.type "tuple") [.ref it]) Q E s := by
  refine callType_codes (Q₁ := fun obj s₁ => s₁.TypeIs obj "tuple" ∧ Q obj s₁) F.called_tuple (F.typeCall_tuple_1 _) F.entry_object_init (new_rt (A := A.in1) hh hit ht hne hn fun h' tk acc hk hacc => ⟨⟨_, Heap.get?_push_size _ rfl, rfl⟩, hQ h' tk acc hk hacc⟩) fun obj s₁ h₁ => ?_
  exact ⟨h₁.1, F.args_object_init_2 obj _, object_init_meets F.called_tuple.init.lookup F.called_tuple.made (by decide) prog w A.in1 _ s₁ ⟨h₁.1, rfl, h₁.2⟩⟩
end
end DR
namespace DV
open PySem PySem.Spec PyProof.Rows L2
/-- tuple(reversed(x)), x a list or a tuple: a new tuple -/
def tTupRevA (K : PySem.W.Frag) (te : TE) : TE := fun σ H Q => te σ H fun v H1 => ∃ (a : Addr) (xs : List V), v = .ref a ∧ SqT K H1 a xs ∧ NewT H1 xs.reverse Q
theorem pe_tupRevT {X : Cx} {e : Expr} {te : TE} {p p2 pos pos2 : Pos} (hc : X.calm = true) (hg : Gl X "tuple") (hm : X.mg "tuple" = none) (hg2 : Gl X "reversed") (hm2 : X.mg "reversed" = none) (he : PE X e te)
    (hs : starEach [e] X.env = (false, eval e X.env) :: starEach [] X.env := by rfl) (hs2 : starEach [.Call (.Name "reversed" p2) [e] [] pos2] X.env = (false, eval (.Call (.Name "reversed" p2) [e] [] pos2) X.env) :: starEach [] X.env := by rfl) :
    PE X (.Call (.Name "tuple" p) [.Call (.Name "reversed" p2) [e] [] pos2] [] pos) (tTupRevA X.K te) := by
  refine ⟨fun pins s σ H Q I h => ?_⟩
  refine Call_ (ld_blt I hg hm boot_tuple (PyProof.Rows.callWith_type1 (args_cons (Call_ (ld_blt I hg2 hm2 PyProof.Rows.boot_reversed (PyProof.Rows.callWith_type1 (args_cons (thn (he.run pins s σ H _ I h) fun u s1 ⟨v, H1, I1, r1, q1⟩ => args_nil ?_) hs) hs rfl))) hs2) hs2 rfl))
  obtain ⟨a, xs, ev, hq, q⟩ := q1; subst ev
  obtain rfl : u = Value.ref a := r1
  obtain ⟨its, rv, p', hz⟩ := I1.tuple hq
  have hn : its.toArray.size ≤ sizeLine := by rw [List.size_toArray, ← rv.length]; exact hz
  refine RT.call_reversed_tup p' (fun A E Q k => len_tuple p' (by have := L2.line63; omega) k) (args_nil ?_)
  obtain ⟨ot, hot, rt⟩ := id p'
  refine DR.call_tupRevT (s := { s1 with heap := s1.heap.push (RT.rtObj a ((its.toArray.size : Int) - 1)), toks := s1.toks + 1 + 1 }) (I1.ok.hd hc) ⟨_, Heap.get?_push_size _ rfl, rfl, rfl⟩ ⟨ot, Heap.get?_push_of_some _ hot, rt⟩ (Nat.ne_of_lt (Heap.lt_size hot)) hn fun h' tk acc hk hi => ?_
  have I2 : Inv X pins σ H1 { s1 with heap := s1.heap.push (RT.rtObj a ((its.toArray.size : Int) - 1)), toks := s1.toks + 1 + 1 } := I1.kept (t' := s1.toks + 1 + 1) fun b o e => Heap.get?_push_of_some _ e
  obtain ⟨f0, f1, f2, f3, f4, f5⟩ := I1.fpOk (H' := H1) (b := s1.heap.objs.size) (Nat.le_refl _) (I1.hok.fresh (Nat.le_refl _))
  have I3 : Inv X pins σ H1 { s1 with heap := h', toks := tk } := I2.turned (t' := tk) (fun b o hb e => hk b o hb e) f0 f1 f3 f4 f5
  obtain ⟨x, H2, I4, r4, q4⟩ := laidT (s := s1) (h' := h') (tk := tk) (us := acc.toList) I3 (RT.vals_rev rv hi) (by rw [List.length_reverse]; exact hz) q
  exact ⟨x, H2, by rw [Array.toArray_toList] at I4; exact I4, r4, q4⟩
section
variable {Ts : List Addr} {X : Cx} {W : L2.WX} {pos : Pos} {a : Expr} {fa : Rho → M D} {b : Bool}
def dTupRev (d : D) : Option D := match d with
  | .tuple ds => some (.tuple ds.reverse)
  | _ => none
theorem dx_tupRev {p p2 pos2 : Pos} (hc : X.calm = true) (hg : Gl X "tuple") (hm : X.mg "tuple" = none) (hg2 : Gl X "reversed") (hm2 : X.mg "reversed" = none) (ha : DX Ts b X W a fa) (hs : starEach [a] X.env = (false, eval a X.env) :: starEach [] X.env := by rfl)
    (hs2 : starEach [.Call (.Name "reversed" p2) [a] [] pos2] X.env = (false, eval (.Call (.Name "reversed" p2) [a] [] pos2) X.env) :: starEach [] X.env := by rfl) :
    DX Ts true X W (.Call (.Name "tuple" p) [.Call (.Name "reversed" p2) [a] [] pos2] [] pos) (fun ρ => bnd (fa ρ) fun d => lift (dTupRev d)) := by
  obtain ⟨ta, pa, qa⟩ := ha
  refine ⟨_, pe_tupRevT hc hg hm hg2 hm2 pa hs hs2, fun G s ρ pz σ H Q R h => ?_⟩
  refine qa G s ρ pz σ H _ R (PostG.bnd h fun d s1 v H1 hm1 w1 e1 a1 h1 => ?_)
  have R1 := R.ext w1 e1
  have q := POut.of R1 h1
  have x1 := a1.w R1
  unfold dTupRev at q
  split at q
  · obtain ⟨p, vs, rfl, _, ho, l⟩ := x1.tup
    exact ⟨p, vs, rfl, ho, q.newT l.rev⟩
  · exact q.elim
end
section
variable {X : Cx}
/-- str(n) -/
noncomputable def dStr : List D → Option D
  | [.int i] => iteP (i.natAbs.log2 < 1920) (some (.str (toString i))) none
  | _ => none
theorem cd_str : CallD X (.type "str") dStr := by
  refine ⟨_, call_str_int, fun bad H xs ds Q t hp q => ?_⟩
  unfold dStr at q
  split at q
  · obtain ⟨hc, q⟩ := q.ite
    obtain _ | ⟨h, ⟨⟩⟩ := hp
    exact ⟨_, by rw [h.int], hc, q.here (.str _)⟩
  · exact q.elim
theorem perm_at {K : KW} {bad : Addr → Prop} {H : Hp} {zs : List (V × D)} (h : ∀ b ∈ zs, At K bad H b.1 b.2) : AtL K bad H (zs.map (·.1)) (zs.map (·.2)) := by
  induction zs with
  | nil => exact .nil
  | cons b zs ih => exact .cons (h b List.mem_cons_self) (ih fun c hc => h c (List.mem_cons_of_mem _ hc))
theorem zip_at {K : KW} {bad : Addr → Prop} {H : Hp} : ∀ {xs : List V} {ds : List D}, AtL K bad H xs ds → ∀ b ∈ xs.zip ds, At K bad H b.1 b.2
  | _, _, .nil, b, hb => nomatch hb
  | _, _, .cons h t, b, hb => by
    rcases List.mem_cons.mp hb with rfl | hb
    · exact h
    · exact zip_at t b hb
/-- sorted of a list of data -/
noncomputable def dSortL : List D → Option D
  | [.list ds] => iteP (alikeB ds = true ∧ sortB ds = true ∧ PyData.depthAll ds ≤ 62) (some (.list (sortD ds))) none
  | _ => none
theorem depth_mem : ∀ {ds : List D} {d : D}, d ∈ ds → PyData.depth d ≤ PyData.depthAll ds
  | e :: ds, d, h => by
    have eq : PyData.depthAll (e :: ds) = max (PyData.depth e) (PyData.depthAll ds) := rfl
    rw [eq]
    rcases List.mem_cons.mp h with rfl | h
    · exact Nat.le_max_left _ _
    · exact Nat.le_trans (depth_mem h) (Nat.le_max_right _ _)
theorem cd_sortL (hu : X.A.units + 65 < cLine) : CallD X (.builtin "sorted") dSortL := by
  refine ⟨_, cr_sortedD hu, fun bad H xs ds Q t hp q => ?_⟩
  unfold dSortL at q
  split at q
  · rename_i ds
    obtain ⟨⟨h1, h2, h3⟩, q⟩ := q.ite
    obtain _ | ⟨h, ⟨⟩⟩ := hp
    obtain ⟨p, vs, rfl, ho, l⟩ := h.lst
    refine ⟨p, vs, ds, rfl, SqL.of ho, l.dp (alikeB_nd h1), alikeB_ok h1, sortB_ok h2, fun d hd => Nat.le_trans (depth_mem hd) h3, fun zs p' hz hs hp' => ?_⟩
    have l2 : AtL X.KW bad H (zs.map (·.1)) (sortD ds) := by
      rw [← hs]
      exact perm_at fun b hb => zip_at l b (hz.mem_iff.mp hb)
    exact q.newL t l2 p' hp'
  · exact q.elim
end
end DV

set_option Elab.async false
set_option linter.all false
set_option maxRecDepth 100000
set_option maxHeartbeats 2000000
/-! sorted(x), x a tuple -/
namespace DR
open PySem PySem.Spec PySem.W PySem.Calls PyProof.Rows
section
variable {prog : Program} {w : World} {A : Around} {E : Value → Shared → Prop} {s : Shared}
theorem collect_tup {l : Addr} {vs : List Value} {Q : List Value → Shared → Prop} (hl : IsTup s.heap l vs.toArray) (h : Q vs { s with heap := (s.heap.push (seqObj "list" #[] 0)).update s.heap.objs.size (Obj.mapSeq (· ++ vs.toArray)) }) (hsz : vs.length ≤ sizeLine) : wpAny (model prog w) A (collect (.ref l)) Q E s := by
  obtain ⟨o, ho, hc, n, hd⟩ := id hl
  unfold collect; refine wpAny_bind (wpAny_runValue (codeAny_builtin F.entry_proto_collect ?_)); rw [Around.under_plainId F.plain_proto_collect _]
  show wpAny _ A.in1 (newList [] >>= fun l' => again (.builtin "list.__iadd__" ⟨[l', .ref l], []⟩)) _ _ s
  refine wpAny_bind (wpAny_newList (wpAny_pure ⟨plainId_quiet F.plain_list_iadd _, codeAny_builtin F.entry_list_iadd ?_⟩)); rw [Around.under_plainId F.plain_list_iadd _]
  show wpAny _ _ (Builtin.List.listExtendWith (.ref s.heap.objs.size) (.ref l) (.ref s.heap.objs.size)) _ _ { s with heap := s.heap.push (seqObj "list" #[] 0) }; unfold Builtin.List.listExtendWith
  have ho' : (s.heap.push (seqObj "list" #[] 0)).get? l = some o := Heap.get?_push_of_some _ ho
  refine wpAny_bind (wpAny_typeOf (T := "tuple") ⟨o, ho', hc⟩ ?_)
  have h1 : (Value.type "tuple" == Value.type "tuple") = true := by rfl
  rw [if_pos (by rw [h1]; simp)]; refine wpAny_bind (listItems_at ho' hd (wpAny_bind (listItems_at (xs := #[]) (n := 0) (Heap.get?_push_size _ rfl) rfl ?_)))
  rw [if_neg (by simp)]; refine wpAny_bind (listUpdate_at (xs := #[]) (n := 0) (Heap.get?_push_size _ rfl) rfl (wpAny_pure ?_) (Nat.zero_le _) (by show (#[] ++ vs.toArray).size ≤ sizeLine + 1; simp only [Array.size_append, List.size_toArray, List.length_nil]; omega))
  show wpAny (model prog w) A (load s.heap.objs.size >>= _) Q E { s with heap := (s.heap.push (seqObj "list" #[] 0)).update s.heap.objs.size (Obj.mapSeq (· ++ vs.toArray)) }
  refine wpAny_bind (wpAny_load (get?_update_seq (Heap.get?_push_size _ rfl) _) ?_); show wpAny _ _ (pure ((#[] : Array Value) ++ vs.toArray).toList) Q E _
  rw [show ((#[] : Array Value) ++ vs.toArray).toList = vs by simp]; exact wpAny_pure h
theorem sorted_vT {κ : _} {l : Addr} {vs : List Value} {Q : Value → Shared → Prop} (hl : IsTup s.heap l vs.toArray) (S : SortsAt prog w A.in1.in1 { s with heap := sortingHeap (copyHeap s.heap vs) (s.heap.objs.size + 1) vs } κ vs) (hL : vs.length ≤ sizeLine)
    (h : Q (.ref (s.heap.objs.size + 1)) { s with heap := sortedAll s.heap vs (sortVals κ false vs vs).toArray }) : wpAny (model prog w) A (call (.builtin "sorted") [.ref l]) Q E s := by
  refine call_function_entry_kw kind_sorted plain_sorted entry_sorted (args_sorted1 _) ?_
  unfold Builtin.«sorted»; refine wpAny_bind (m := checkCount "sorted" 1 1 _) (wpAny_pure (wpAny_bind (collect_tup hl (wpAny_bind (wpAny_newList ?_ hL)) hL)))
  have hsz : ((s.heap.push (seqObj "list" #[] 0)).update s.heap.objs.size (Obj.mapSeq (· ++ vs.toArray))).objs.size = s.heap.objs.size + 1 := by rw [Heap.size_update, size_push']
  show wpAny _ _ _ _ _ { s with heap := copyHeap s.heap vs }; rw [hsz]
  refine wpAny_bind (wpAny_holding (wpAny_call_entry_kw slot_list_sort ⟨_, copyHeap_at s.heap vs, rfl⟩ entry_list_sort ?body (args_list_sort _)))
  case body =>
    show wpAny (model prog w) A.in1.in1 (Builtin.«list.sort» ⟨[.ref (s.heap.objs.size + 1)], []⟩) _ _ _
    refine wpAny_mono (list_sort_vals (P := fun f s' => f = .done (.ret .none) ∧ Q (.ref (s.heap.objs.size + 1)) s') (s := { s with heap := copyHeap s.heap vs }) (copyHeap_at s.heap vs) S hL ⟨rfl, h⟩) (fun f s' hf => ?_) fun _ _ e => e
    obtain ⟨rfl, hq⟩ := hf
    exact ⟨_, rfl, wpAny_pure ⟨_, rfl, hq⟩⟩
theorem sorted_dT {β : Type} {vs : List Value} {bs : List β} {enc : β → PyData} {R : Value → β → Prop} {l : Addr} {Q : Value → Shared → Prop} (hl : IsTup s.heap l vs.toArray) (e : EachIs R vs bs) (er : EachIs (fun v b => ∃ as, Reads s.heap v (enc b) as) vs bs) (hal : AllAlike (bs.map enc)) (hk : Sortable (bs.map enc)) (hL : bs.length ≤ sizeLine)
    (hu : ∀ b, b ∈ bs → A.units + 2 + (enc b).depth < cLine) (h : ∀ out, out.length = bs.length → EachIs R out (bs.mergeSort (dataLe false enc)) → Q (.ref (s.heap.objs.size + 1)) { s with heap := sortedAll s.heap vs (List.toArray out) }) : wpAny (model prog w) A (call (.builtin "sorted") [.ref l]) Q E s := by
  have er' : EachIs (fun v b => ∃ as, Reads (sortingHeap (copyHeap s.heap vs) (s.heap.objs.size + 1) vs) v (enc b) as) vs bs := er.mono fun _ _ ⟨as, r⟩ => ⟨as, PyProof.Rows.Reads.keeps (fun _ _ => sorting_copy_old) r⟩
  exact sorted_vT hl (SortsAt.data (s := { s with heap := sortingHeap (copyHeap s.heap vs) (s.heap.objs.size + 1) vs }) (each_map (R := fun v d => ∃ as, Reads (sortingHeap (copyHeap s.heap vs) (s.heap.objs.size + 1) vs) v d as) enc er') hal hk (bound_map hu)) (by rw [e.length]; exact hL) (h _ (by rw [sortVals_length false rfl]; exact e.length) (sortVals_data false e er' hal))
end
end DR
namespace DV
open PySem PySem.Spec PyProof.Rows L2
def rSortT (K : PySem.W.Frag) : List V → Hp → VK → Prop := fun vs H Q => ∃ (a : Addr) (xs : List V) (ds : List D), vs = [.ref a] ∧ SqT K H a xs ∧ DpAll K H xs ds ∧ PySem.W.AllAlike ds ∧ PySem.W.Sortable ds ∧ (∀ d ∈ ds, PyData.depth d ≤ 62) ∧
  ∀ (zs : List (V × D)) (p : Addr), zs.Perm (xs.zip ds) → zs.map (·.2) = sortD ds → H p = none → Q (.ref p) (upd H p (.lst (zs.map (·.1))))
section
variable {X : Cx}
theorem cr_sortedT (hu : X.A.units + 65 < cLine) : CallR X (.builtin "sorted") (rSortT X.K) := by
  intro pins s σ H vs us Q I r h
  obtain ⟨a, xs, ds, rfl, hs, hd, ha, hk, hdep, q⟩ := h
  obtain ⟨its, rv, hl, hz⟩ := I.tuple hs
  rw [Vals.ref1 r]
  have hlen := dpAll_len hd
  have em : (xs.zip ds).map (·.2) = ds := zip_snd hlen
  obtain ⟨e1, e2⟩ := each_zip I rv hd
  refine DR.sorted_dT (enc := fun b : V × D => b.2) (R := fun v (b : V × D) => RelV b.1 v) hl e1 e2 (by rw [em]; exact ha) (by rw [em]; exact hk) (by rw [List.length_zip]; omega) (fun b hb => by
    have : b.2 ∈ ds := by rw [← em]; exact List.mem_map_of_mem hb
    have := hdep _ this
    omega) fun out ol eo => ?_
  obtain ⟨ep, he'⟩ := PyProof.Rows.sortedAll_at s.heap its out.toArray
  have perm := List.mergeSort_perm (xs.zip ds) (PySem.W.dataLe false (fun b : V × D => b.2))
  have ms : ((xs.zip ds).mergeSort (PySem.W.dataLe false (fun b : V × D => b.2))).map (·.2) = sortD ds := by
    unfold sortD
    conv => rhs; rw [← em]
    exact List.map_mergeSort fun a _ b _ => rfl
  have hlen2 : (((xs.zip ds).mergeSort (PySem.W.dataLe false (fun b : V × D => b.2))).map (·.1)).length ≤ sizeLine := by
    rw [List.length_map, perm.length_eq, List.length_zip]; omega
  exact ⟨.ref _, upd H (s.heap.objs.size + 1) (.lst (((xs.zip ds).mergeSort (PySem.W.dataLe false (fun b : V × D => b.2))).map (·.1))), I.laid (t' := s.toks) (fun _ _ => PyProof.Rows.sortedAll_old) (Nat.le_succ _) ⟨hlen2, out, ep, vals_each eo, he'⟩, rfl, q _ _ perm ms (I.hok.fresh (Nat.le_succ _))⟩
/-- sorted of a list or a tuple of data -/
noncomputable def dSortA : List D → Option D
  | [.list ds] => iteP (alikeB ds = true ∧ sortB ds = true ∧ PyData.depthAll ds ≤ 62) (some (.list (sortD ds))) none
  | [.tuple ds] => iteP (alikeB ds = true ∧ sortB ds = true ∧ PyData.depthAll ds ≤ 62) (some (.list (sortD ds))) none
  | _ => none
theorem cd_sortA (hu : X.A.units + 65 < cLine) : CallD X (.builtin "sorted") dSortA := by
  refine ⟨_, (cr_sortedD hu).or (cr_sortedT hu), fun bad H xs ds Q t hp q => ?_⟩
  unfold dSortA at q
  split at q
  · rename_i ds
    obtain ⟨⟨h1, h2, h3⟩, q⟩ := q.ite
    obtain _ | ⟨h, ⟨⟩⟩ := hp
    obtain ⟨p, vs, rfl, ho, l⟩ := h.lst
    refine .inl ⟨p, vs, ds, rfl, SqL.of ho, l.dp (alikeB_nd h1), alikeB_ok h1, sortB_ok h2, fun d hd => Nat.le_trans (depth_mem hd) h3, fun zs p' hz hs hp' => ?_⟩
    have l2 : AtL X.KW bad H (zs.map (·.1)) (sortD ds) := by
      rw [← hs]
      exact perm_at fun b hb => zip_at l b (hz.mem_iff.mp hb)
    exact q.newL t l2 p' hp'
  · rename_i ds
    obtain ⟨⟨h1, h2, h3⟩, q⟩ := q.ite
    obtain _ | ⟨h, ⟨⟩⟩ := hp
    obtain ⟨p, vs, rfl, _, ho, l⟩ := h.tup
    refine .inr ⟨p, vs, ds, rfl, ho, l.dp (alikeB_nd h1), alikeB_ok h1, sortB_ok h2, fun d hd => Nat.le_trans (depth_mem hd) h3, fun zs p' hz hs hp' => ?_⟩
    have l2 : AtL X.KW bad H (zs.map (·.1)) (sortD ds) := by
      rw [← hs]
      exact perm_at fun b hb => zip_at l b (hz.mem_iff.mp hb)
    exact q.newL t l2 p' hp'
  · exact q.elim
end
end DV

set_option Elab.async false
set_option linter.all false
set_option autoImplicit false
set_option maxRecDepth 100000
set_option maxHeartbeats 2000000
/-! the word of an error -/
namespace DH
open PySem PySem.Spec PyProof.Rows HotX L2 L2H
section
variable {X : Cx}
theorem pe_lcH {elt tg iter : Expr} {ifs : List Expr} {scope : Scope} {own : List (Str × Nat)} {pos : Pos} {wi : TI} {g : TG} {tt : TT} {te : TE} {p : Addr × Obj} (hot : Hot1 X.A p) (hp : p ∈ X.pn) (hN : X.N.Nodup) (hi : PIH X tg iter wi) (ok : BlkOk X.N X.env.scope scope own)
    (hg : ∀ (s : Shared) (H : Hp) (C : Addr) (cl : List (Str × Addr)) (fp : List Addr), PG (blkH X s H scope (compEnvC scope cl C X.env) fp p) tg g) (ht : ∀ (s : Shared) (H : Hp) (C : Addr) (cl : List (Str × Addr)) (fp : List Addr), PTs (blkH X s H scope (compEnvC scope cl C X.env) fp p) ifs tt)
    (he : ∀ (s : Shared) (H : Hp) (C : Addr) (cl : List (Str × Addr)) (fp : List Addr), PE (blkH X s H scope (compEnvC scope cl C X.env) fp p) elt te) (hs : ∀ x, foldedSetIterable iter X.env x = pure x := by intro _; rfl) :
    PE X (.ListComp elt [⟨tg, iter, ifs, 0⟩] scope pos) (tLc wi g tt te (own.map (·.2))) := by
  refine ⟨fun pins s σ H Q I h => ?_⟩
  rw [eval_ListComp]
  refine lc_coreH hot hp hN I hi ok hg ht he hs h fun D C s' m H' I' q hn f => ⟨m, hn, fun h'' sb => ?_⟩
  obtain ⟨f0, f1, f2, f3, f4, f5⟩ := f
  exact ⟨.ref D, H', I'.turned (t' := s'.toks) (fun b o hb e => (sb.2 b hb).trans e) f0 f1 f3 f4 f5, rfl, q⟩
end
def wordOf (nm : Str) : Str := if nm = "OutOfRange" then "range" else if nm = "Malformed" then "form" else if nm = "NotThere" then "none" else if nm = "Refused" then "refused" else "much"
def exW (K : PySem.W.Frag) : Bool := exE K && eNames.all fun x => decide (PySem.W.kitOne K (.ref (He.ga K x)) (.type "ValueError") = some true)
theorem exW_E {K : PySem.W.Frag} (h : exW K = true) : exE K = true := (Bool.and_eq_true_iff.mp h).1
theorem exW_V {K : PySem.W.Frag} (h : exW K = true) {x : Str} (hx : x ∈ eNames) : PySem.W.kitOne K (.ref (He.ga K x)) (.type "ValueError") = some true := of_decide_eq_true (List.all_eq_true.mp (Bool.and_eq_true_iff.mp h).2 x hx)
/-- told: a word for the class -/
def spWord (wf : Str → Str) (K : PySem.W.Frag) (p : Addr × Obj) : Sp := fun vs H Q _ => vs = [.ref p.1] ∧ (∃ vs, p.2.data = .fields vs) ∧ ∃ nm ∈ eNames, Zc (.ref (He.ga K nm)) none p.2 ∧ ∀ H', Same H H' → Q (.str (wf nm)) H'
def isL (nm : Str) : List Bool := eNames.map fun y => decide (nm = y)
theorem isL_one {nm : Str} (h : nm ∈ eNames) : (isL nm).filter id = [true] := by
  unfold eNames at h
  simp only [List.mem_cons, List.not_mem_nil, or_false] at h
  rcases h with rfl | rfl | rfl | rfl | rfl <;> decide
def words : List Str := ["range", "form", "none", "refused", "much"]
theorem isL_ix {nm : Str} (h : nm ∈ eNames) : ∃ j, (isL nm)[j]? = some true ∧ (∀ (m : Nat) (z : Bool), m < j → (isL nm)[m]? = some z → z = false) ∧ words[j]? = some (wordOf nm) := by
  unfold eNames at h
  simp only [List.mem_cons, List.not_mem_nil, or_false] at h
  have key : ∀ (j : Nat) (l : List Bool), l.take j = List.replicate j false → ∀ (m : Nat) (z : Bool), m < j → l[m]? = some z → z = false := fun j l e m z hm hz => by
    have e2 : (l.take j)[m]? = some z := by rw [List.getElem?_take, if_pos hm]; exact hz
    rw [e, List.getElem?_replicate, if_pos hm] at e2
    exact (Option.some.inj e2).symm
  rcases h with rfl | rfl | rfl | rfl | rfl
  · exact ⟨0, by decide, key 0 _ rfl, by decide⟩
  · exact ⟨1, by decide, key 1 _ (by decide), by decide⟩
  · exact ⟨2, by decide, key 2 _ (by decide), by decide⟩
  · exact ⟨3, by decide, key 3 _ (by decide), by decide⟩
  · exact ⟨4, by decide, key 4 _ (by decide), by decide⟩
/-- the words that are left: from the row of truth values on -/
abbrev tLen (K : PySem.W.Frag) : TE := tCB (fun xs H Q => ∃ p ys, xs = [V.ref p] ∧ (SqL K H p ys ∨ SqT K H p ys) ∧ Q (.int ys.length) H) (tCons (tLc (iLstH K (tVar 1)) (gName 2) (fun σ H Q => tVar 2 σ H fun x H1 => ∃ k, TruV K x H1 k ∧ Q k H1) (tVar 2) [2]) tNil)
theorem len_one {K : PySem.W.Frag} {nm : Str} {p : Addr} {pL : Addr} {H HL : Hp} {Q : VK} (hnm : nm ∈ eNames) (same : Same H HL) (eL : HL pL = some (.lst ((isL nm).map V.bl))) (q : ∀ H', Same H H' → H' pL = some (.lst ((isL nm).map V.bl)) → Q (.int 1) H') :
    tLen K [some (.ref p), some (.ref pL), none] HL Q := by
  refine ⟨_, rfl, pL, rfl, ⟨_, SqL.of eL⟩, fun D hD => ?_⟩
  have nD : ∀ b o, HL b = some o → b ≠ D := fun b o e z => by rw [z, hD] at e; cases e
  refine lc_list (g := gName 2) (tt := fun σ H Q => tVar 2 σ H fun x H1 => ∃ k, TruV K x H1 k ∧ Q k H1) (te := tVar 2) (vs := [2]) (xs := (isL nm).map V.bl) (fun i H' => H' D = some (.lst ((((isL nm).take i).filter id).map V.bl)) ∧ ∀ b, b ≠ D → H' b = HL b) ⟨upd_same, fun b hb => upd_ne hb⟩ (fun i H' hi ⟨g1, g2⟩ => SqL.of (by rw [g2 pL (nD _ _ eL)]; exact eL)) (fun i x H' hx ⟨g1, g2⟩ => ?_) fun H' ⟨g1, g2⟩ => ?_
  · rw [List.getElem?_map] at hx
    cases hb : (isL nm)[i]? with
    | none => rw [hb] at hx; cases hx
    | some b =>
      rw [hb] at hx
      cases hx
      have l5 : (((isL nm).take i).filter id).length ≤ 5 := Nat.le_trans (List.length_filter_le _ _) (by rw [List.length_take]; exact Nat.le_trans (Nat.min_le_right _ _) (by unfold isL; rw [List.length_map]; exact Nat.le_refl 5))
      refine ⟨rfl, V.bl b, rfl, b, rfl, ?_⟩
      cases b with
      | true =>
        refine iteT ⟨_, rfl, _, g1, by rw [List.length_map, sizeLine_eq]; omega, ?_, fun c hc => by rw [upd_ne hc]; exact g2 c hc⟩
        rw [upd_same, List.take_add_one, hb, List.filter_append, List.map_append]
        rfl
      | false =>
        refine iteF ⟨?_, g2⟩
        rw [g1, List.take_add_one, hb, List.filter_append, List.map_append]
        simp
  · rw [List.length_map, List.take_of_length_le (Nat.le_refl _), isL_one hnm] at g1
    refine ⟨D, [V.bl true], rfl, .inl (SqL.of g1), q H' (fun b o e => ?_) (by rw [g2 pL (nD _ _ eL)]; exact eL)⟩
    have e' := same b o e
    rw [g2 b (nD b o e')]
    exact e'
theorem len_test {K : PySem.W.Frag} {nm : Str} {p : Addr} {pL : Addr} {H HL : Hp} {R : Bool → Hp → Prop} (hnm : nm ∈ eNames) (same : Same H HL) (eL : HL pL = some (.lst ((isL nm).map V.bl))) (q : ∀ H', Same H H' → H' pL = some (.lst ((isL nm).map V.bl)) → R false H') :
    tTest (tOp rNe (tLen K) (tC (.int 1))) [some (.ref p), some (.ref pL), none] HL R := by
  refine len_one (Q := fun x H1 => tC (.int 1) [some (.ref p), some (.ref pL), none] H1 fun y H2 => rNe x y H2 fun z H' => ∃ k, z = .bl k ∧ R k H') hnm same eL fun H1 s1 e1 => ?_
  refine ⟨rfl, _, rfl, ?_⟩
  rw [decide_eq_true (rfl : V.int 1 = V.int 1)]
  exact q H1 s1 e1
abbrev tWords : TA := tCons (tC (.str "range")) (tCons (tC (.str "form")) (tCons (tC (.str "none")) (tCons (tC (.str "refused")) (tCons (tC (.str "much")) tNil))))
theorem word_ret {K : PySem.W.Frag} {nm : Str} {p : Addr} {pL : Addr} {H HL : Hp} {Q : VK} (hnm : nm ∈ eNames) (same : Same H HL) (eL : HL pL = some (.lst ((isL nm).map V.bl))) (q : ∀ H', Same H H' → Q (.str (wordOf nm)) H') :
    tOp (rIx K) (tLst tWords) (tBM K "list" (rIndex K) (tVar 1) (tCons (tC (.bl true)) tNil)) [some (.ref p), some (.ref pL), none] HL Q := by
  obtain ⟨j, h1, h2, h3⟩ := isL_ix hnm
  refine ⟨DV.line5 (Nat.le_of_ble_eq_true rfl), fun pW hW => ?_⟩
  have s2 := DV.same_new (o := .lst (words.map V.str)) hW
  have eL2 := s2 _ _ eL
  refine ⟨_, rfl, .inl ⟨rfl, _, SqL.of eL2⟩, pL, (isL nm).map V.bl, .bl true, j, .bl true, rfl, rfl, SqL.of eL2, rfl, ?_, by rw [List.getElem?_map, h1]; rfl, rfl, fun m z hm hz => ?_, .inl ⟨pW, words.map V.str, (j : Int), .str (wordOf nm), rfl, rfl, SqL.of upd_same, ?_, q _ fun b o e => s2 _ _ (same _ _ e)⟩⟩
  · rw [List.all_map]
    exact List.all_eq_true.mpr fun _ _ => rfl
  · rw [List.getElem?_map] at hz
    cases hb : (isL nm)[m]? with
    | none => rw [hb] at hz; cases hz
    | some b =>
      rw [hb] at hz
      cases hz
      rw [h2 m b hm hb]; rfl
  · have lt : j < words.length := (List.getElem?_eq_some_iff.mp h3).1
    show atI (words.map V.str) (j : Int) = _
    unfold atI ixN
    rw [if_pos (by omega), if_pos (by rw [List.length_map]; omega)]
    show (words.map V.str)[j]? = _
    rw [List.getElem?_map, h3]; rfl
end DH
namespace DV
open PySem PySem.Spec PyProof.Rows L2
/-! try: .. except RightError as e: return word(e) -/
def toldW (wf : Str → Str) (r : Res Out) : Res Out := match r with
  | .exc e s' => if e ∈ DH.eNames then .ok (.rt (.str (wf e))) s' else .stuck
  | r => r
section
variable {fa : List He.Fa} {fn : List He.DefD} {tf : List He.Defn} {ex : PySem.W.Frag → Bool} {Ts : List Addr} {X : Cx} {W : L2.WX} {g : Rho → M Out} {body : List Stmt} {np cp ep rp hp tp fp : Pos} {n f pr : Str} {k : Nat}
theorem ds_tryWord (wf : Str → Str) (i : Nat) (Z : Fx fa fn tf ex X.K X.mg X.base) (told : ∀ p : Addr × Obj, ∃ fd, Binds X.K fd [pr] [] ∧ PySem.W.keepIn X.K (.ref (He.ga X.K f)) = true ∧ X.mg f = some (.ref (He.ga X.K f)) ∧ DH.FnHq X.prog X.w X.K X.mg X.base (L2N.CX X.prog X.w) p k (He.ga X.K f) fd [pr] (DH.spWord wf X.K p))
    (hr : Room k X.A) (tk : L2N.Takes X W) (hN : X.N.Nodup) (hxm : ∀ e ∈ DH.eNames, PySem.W.exmOne X.K (.ref (He.ga X.K e)) (.ref (He.ga X.K "RightError")) = some true) (hgl : ∀ e ∈ DH.eNames, X.mg e = some (.ref (He.ga X.K e))) (hre : X.mg "RightError" = some (.ref (He.ga X.K "RightError")))
    (hb : ∀ (W' : L2.WX) (pn : List (Addr × Obj)) (xe : Value → Shared → Prop), L2N.Takes (X.tr pn xe) W' → PassesOwn (model X.prog X.w) X.A X.env xe → DSs Ts (X.tr pn xe) W' body g)
    (hi : X.N[i]? = some n := by rfl) (hln : X.env.kindOf n = some .local := by rfl) (hs : X.stack = X.env :: X.outer := by rfl) (hf : X.env.frame = some X.env.locals := by rfl) (hg : Gl X "RightError" := by rfl) (hgf : Gl X f := by rfl) (hv : Vis X.env.scope n := by exact Or.inl rfl) (hd : (n == ("__debug__" : Str)) = false := by decide) (hcd : (n == ("__classdict__" : Str)) = false := by decide) (hdb : (f == ("__debug__" : Str)) = false := by decide)
    (he : ∀ {a : Addr} {pn : List (Addr × Obj)}, starEach [.Name n ep] (X.suite a pn).env = (false, eval (.Name n ep) (X.suite a pn).env) :: starEach [] (X.suite a pn).env := by intros; rfl) (hpl : ∀ {a : Addr} {pn : List (Addr × Obj)}, (backTo cp (starEach [] (X.suite a pn).env)).any (·.1) = false := by intros; rfl) :
    DS1 Ts X W (.Try body [.ExceptHandler (some (.Name "RightError" np)) (some n) [.Return (some (.Call (.Name f fp) [.Name n ep] [] cp)) tp] hp] [] [] rp) (fun ρ s => toldW wf (g ρ s)) := by
  refine ⟨_, L2N.ps_try_as (tb := fun W' D σ H => ∀ pn xe hT hP, Classical.choose (hb W' pn xe hT hP) D σ H)
    (ts := fun a cls d D σ H => ∀ oe, L2N.Zn cls d oe → (∃ vs, oe.data = .fields vs) → tRet (tCallS (DH.spWord wf X.K (a, oe)) (WE WF) (tCons (tVarS i) tNil)) D σ H) hs hf hN hi hln ⟨hg, by decide, .inl hre⟩ tk (fun W' pn xe hT hP => ⟨fun pins s σ H D I q => (Classical.choose_spec (hb W' pn xe hT hP)).1.run pins s σ H D I (q pn xe hT hP)⟩) (fun a oe cls d pn hz hfl => ?_), fun G s ρ pz σ H Dn R h => ?_⟩
  · obtain ⟨fd, b, kp, m, F⟩ := told (a, oe)
    obtain ⟨vs, hvs⟩ := id hfl
    have pe : PE (X.suite a ((a, oe) :: pn)) (.Call (.Name f fp) [.Name n ep] [] cp) (tCallS (DH.spWord wf X.K (a, oe)) (WE WF) (tCons (tVarS i) tNil)) :=
      DH.pe_callHq (X := X.suite a ((a, oe) :: pn)) F ⟨hr.dp, hr.un⟩ ⟨rfl, vs, hvs, hz.2.2 vs hvs⟩ List.mem_cons_self hgf m kp b (fun σ => L2N.passAt takes0N σ) (pa_cons (pe_varS hi hv hd hcd) pa_nil he) hdb he hpl
    exact ⟨fun pins s σ H D I q => (pss_one (ps_ret pe)).run pins s σ H D I (q oe hz hfl)⟩
  · intro pn xe hT hP
    refine (Classical.choose_spec (hb _ pn xe hT hP)).2 G s ρ pz σ H Dn R ?_
    have h : PostS Ts X W G (toldW wf (g ρ s)) Dn := h
    cases hgr : g ρ s with
    | stuck => rw [hgr] at h; exact h
    | ok o s' => rw [hgr] at h; cases o <;> exact h
    | exc e s' =>
      rw [hgr] at h
      have h : PostS Ts X W G (if e ∈ DH.eNames then .ok (.rt (.str (wf e))) s' else .stuck) Dn := h
      by_cases hme : e ∈ DH.eNames
      · rw [if_pos hme] at h
        intro C σ' H' hC w' e'
        have hC : X.mg e = some (.ref C) := hC
        have eC : C = He.ga X.K e := by rw [hgl e hme] at hC; cases hC; rfl
        subst eC
        refine ⟨true, hxm e hme, fun _ a na oe hz hfl => ⟨σ', .ref a, rfl, rfl, hfl, e, hme, hz.zc, fun H2 same => ?_⟩, fun z => by cases z⟩
        exact h (.str (wf e)) H2 (w'.same same) (e'.trans (.same same)) (.str (wf e))
      · rw [if_neg hme] at h; exact h.elim
end
end DV

set_option Elab.async false
set_option linter.all false
set_option maxRecDepth 100000
set_option maxHeartbeats 2000000
namespace DV
open PySem PySem.Spec PyProof.Rows L2
section
variable {Ts : List Addr} {X : Cx} {W : L2.WX} {pos : Pos} {a b' : Expr} {fa fb : Rho → M D} {b1 b2 : Bool}
/-- a + b of lists, as a new list -/
theorem df_cat (ha : DX Ts b1 X W a fa) (hb : DX Ts b2 X W b' fb) : DF Ts X W (.BinOp a .Add b' pos) (fun ρ => bnd (fa ρ) fun d => bnd (fb ρ) fun e => match d, e with
    | .list xs, .list ys => if xs.length + ys.length ≤ 16000000 then ret (xs ++ ys) else stk
    | _, _ => stk) := by
  obtain ⟨ta, pa, qa⟩ := ha
  obtain ⟨tb, pb, qb⟩ := hb
  refine ⟨_, pe_op op_cat pa pb, fun G s ρ pz σ H Q R h => ?_⟩
  refine qa G s ρ pz σ H _ R (PostG.bnd h fun d s1 v H1 hm1 w1 e1 a1 h1 => ?_)
  have R1 := R.ext w1 e1
  refine qb G s1 ρ pz σ H1 _ R1 (PostG.bnd h1 fun d2 s2 v2 H2 hm2 w2 e2 a2 h2 => ?_)
  have R2 := R1.ext w2 e2
  have x1 := (a1.ext e2).w R2
  have x2 := a2.w R2
  cases d with
  | list xs =>
    cases d2 with
    | list ys =>
      have h2 : PostG X W G σ H2 _ ((if xs.length + ys.length ≤ 16000000 then ret (xs ++ ys) else stk) s2) Q := h2
      split at h2
      · rename_i hc
        obtain ⟨p, vs, rfl, ho, l⟩ := x1.lst
        obtain ⟨p2, vs2, rfl, ho2, l2⟩ := x2.lst
        exact ⟨p, p2, vs, vs2, rfl, rfl, ho, ho2, by rw [l.len, l2.len, sizeLine_eq]; omega, fun p' hp => h2 _ _ (w2.new hp) (.new hp) ⟨p', _, rfl, R2.was (e1.trans e2) hp, upd_same, (l.app l2).fresh (H0 := H) hp (same_new hp)⟩⟩
      · exact h2.elim
    | _ => exact h2.elim
  | _ => cases d2 <;> exact h2.elim
end
end DV

set_option Elab.async false
set_option linter.all false
set_option maxRecDepth 100000
set_option maxHeartbeats 2000000
/-! range(..) as a list or a tuple; x.index(y) -/
namespace DV
open PySem PySem.Spec PyProof.Rows L2
section
variable {Ts : List Addr} {X : Cx} {W : L2.WX} {pos : Pos} {a b' e : Expr} {fa fb : Rho → M D} {b b1 b2 : Bool} {fe : Rho → M (Int × Int)}
/-- a range, that something is made of -/
def DRg (Ts : List Addr) (X : Cx) (W : L2.WX) (e : Expr) (f : Rho → M (Int × Int)) : Prop := ∃ t, PRg X e t ∧ ∀ (G : Gh) (s : DS) (ρ : Rho) (pz : Nat → Addr) (σ : L2.St) (H : Hp) (Q : Int → Int → Hp → Prop), Rel Ts X.KW G s ρ pz σ H →
  PostG X W G σ H (fun _ (c d : Int × Int) => c = d) (f ρ s) (fun c H' => Q c.1 c.2 H') → t σ H Q
theorem drg_1 {p : Pos} (hg : Gl X "range") (hm : X.mg "range" = none) (ha : DX Ts b X W a fa) (na : starEach [a] X.env = (false, eval a X.env) :: starEach [] X.env := by rfl) :
    DRg Ts X W (.Call (.Name "range" p) [a] [] pos) (fun ρ => bnd (fa ρ) fun d => bnd (toI d) fun n => ret (0, n)) := by
  obtain ⟨ta, pa, qa⟩ := ha
  refine ⟨_, prg_1 hg hm pa na, fun G s ρ pz σ H Q R h => ?_⟩
  refine qa G s ρ pz σ H _ R (PostG.bnd h fun d s1 v H1 hm1 w1 e1 a1 h1 => ?_)
  have R1 := R.ext w1 e1
  cases d with
  | int i => exact ⟨i, (a1.w R1).int, h1 (0, i) H1 w1 .refl rfl⟩
  | _ => exact h1.elim
theorem drg_2 {p : Pos} (hg : Gl X "range") (hm : X.mg "range" = none) (ha : DX Ts b1 X W a fa) (hb : DX Ts b2 X W b' fb) (na : starEach [a, b'] X.env = (false, eval a X.env) :: starEach [b'] X.env := by rfl) (nb : starEach [b'] X.env = (false, eval b' X.env) :: starEach [] X.env := by rfl) (hp : (backTo pos (starEach [b'] X.env)).any (·.1) = false := by rfl) :
    DRg Ts X W (.Call (.Name "range" p) [a, b'] [] pos) (fun ρ => bnd (fa ρ) fun d => bnd (fb ρ) fun d2 => bnd (toI d) fun i => bnd (toI d2) fun j => ret (i, j)) := by
  obtain ⟨ta, pa, qa⟩ := ha
  obtain ⟨tb, pb, qb⟩ := hb
  refine ⟨_, prg_2 hg hm pa pb na nb hp, fun G s ρ pz σ H Q R h => ?_⟩
  refine qa G s ρ pz σ H _ R (PostG.bnd h fun d s1 v H1 hm1 w1 e1 a1 h1 => ?_)
  have R1 := R.ext w1 e1
  refine qb G s1 ρ pz σ H1 _ R1 (PostG.bnd h1 fun d2 s2 v2 H2 hm2 w2 e2 a2 h2 => ?_)
  have R2 := R1.ext w2 e2
  cases d with
  | int i =>
    cases d2 with
    | int j => exact ⟨i, j, ((a1.ext e2).w R2).int, (a2.w R2).int, h2 (i, j) H2 w2 .refl rfl⟩
    | _ => exact h2.elim
  | _ => exact h2.elim
/-- its numbers -/
def rgD (a b : Int) : M (List D) := if (-(2 ^ 62) ≤ a ∧ a < 2 ^ 62) ∧ (-(2 ^ 62) ≤ b ∧ b < 2 ^ 62) ∧ (b - a).toNat ≤ 1000000 then ret (rangeD a (b - a).toNat) else stk
theorem rgD_of {α β : Type} {G : Gh} {s : DS} {σ : L2.St} {H : Hp} {A : Hp → β → α → Prop} {a b : Int} {k : List D → M α} {Q : β → Hp → Prop} (h : PostG X W G σ H A (bnd (rgD a b) k s) Q) : RgOk a b ∧ PostG X W G σ H A (k (rangeD a (b - a).toNat) s) Q := by
  unfold rgD at h
  split at h
  · rename_i c
    obtain ⟨⟨c1, c2⟩, ⟨c3, c4⟩, c5⟩ := c
    exact ⟨⟨c1, c2, c3, c4, by omega⟩, h⟩
  · exact h.elim
theorem atL_rg {K : KW} {bad : Addr → Prop} {H : Hp} (a b : Int) : AtL K bad H (rgV a b) (rangeD a (b - a).toNat) := by
  have e1 : rgV a b = ((List.range (b - a).toNat).map fun i => a + ((i : Nat) : Int)).map V.int := by unfold rgV; rw [List.map_map]; rfl
  have e2 : rangeD a (b - a).toNat = ((List.range (b - a).toNat).map fun i => a + ((i : Nat) : Int)).map PyData.int := by unfold rangeD; rw [List.map_map]; rfl
  rw [e1, e2]
  exact AtL.ofInts _
theorem df_listRg {p : Pos} (hc : X.calm = true) (hg : Gl X "list") (hm : X.mg "list" = none) (he : DRg Ts X W e fe) (na : starEach [e] X.env = (false, eval e X.env) :: starEach [] X.env := by rfl) : DF Ts X W (.Call (.Name "list" p) [e] [] pos) (fun ρ => bnd (fe ρ) fun c => bnd (rgD c.1 c.2) ret) := by
  obtain ⟨te, pe, qe⟩ := he
  refine ⟨_, pe_listRg hc hg hm pe na, fun G s ρ pz σ H Q R h => ?_⟩
  refine qe G s ρ pz σ H _ R (PostG.bnd (Q1 := fun (c : Int × Int) H' => _) h fun d s1 v H1 hm1 w1 e1 a1 h1 => ?_)
  subst a1
  have R1 := R.ext w1 e1
  obtain ⟨ok, h1⟩ := rgD_of h1
  exact ⟨ok, fun p' hp => h1 _ _ (w1.new hp) (.new hp) ⟨p', _, rfl, R1.was e1 hp, upd_same, (atL_rg _ _).fresh (H0 := H) hp (same_new hp)⟩⟩
theorem dx_tupRg {p : Pos} (hc : X.calm = true) (hg : Gl X "tuple") (hm : X.mg "tuple" = none) (he : DRg Ts X W e fe) (na : starEach [e] X.env = (false, eval e X.env) :: starEach [] X.env := by rfl) : DX Ts true X W (.Call (.Name "tuple" p) [e] [] pos) (fun ρ => bnd (fe ρ) fun c => bnd (rgD c.1 c.2) fun ds => ret (.tuple ds)) := by
  obtain ⟨te, pe, qe⟩ := he
  refine ⟨_, pe_tupRgF hc hg hm pe na, fun G s ρ pz σ H Q R h => ?_⟩
  refine qe G s ρ pz σ H _ R (PostG.bnd (Q1 := fun (c : Int × Int) H' => _) h fun d s1 v H1 hm1 w1 e1 a1 h1 => ?_)
  subst a1
  obtain ⟨ok, h1⟩ := rgD_of h1
  exact ⟨ok, fun p' o hp ho => h1 _ _ (w1.new hp) (.new hp) ((atL_rg _ _).mkT hp ho)⟩
end

/-! ### methods of lists and tuples -/
def tMethS (K : PySem.W.Frag) (r1 r2 : V → List V → Hp → VK → Prop) (to : TE) (t : TA) : TE := fun σ H Q => to σ H fun x H1 => ∃ a xs, x = V.ref a ∧ (SqL K H1 a xs ∧ t σ H1 (fun ys H2 => r1 x ys H2 Q) ∨ TupN K H1 a xs ∧ t σ H1 fun ys H2 => r2 x ys H2 Q)
section
variable {X : Cx} {o e : Expr} {es : List Expr} {to : TE} {t : TA} {name : Str} {apos cpos : Pos} {id1 id2 : String} {r1 r2 : V → List V → Hp → VK → Prop}
theorem pe_methS (s1 : Slot "list" name id1) (t1 : typeOf (.builtin id1) = pure (.type "method_descriptor")) (m1 : MtR X id1 r1) (s2 : Slot "tuple" name id2) (t2 : typeOf (.builtin id2) = pure (.type "method_descriptor")) (m2 : MtR X id2 r2) (ho : PE X o to) (ha : PA X (e :: es) t)
    (hb : attributeBase o name X.env (eval o X.env) = eval o X.env := by rfl)
    (hf : ((backTo cpos (starEach (e :: es) X.env)).all (fun x => !x.1) && (backToKw cpos (keywordEach [] X.env)).all (fun x => x.1.isSome) && decide ((e :: es).length + ([] : List Keyword).length + (if ([] : List Keyword).isEmpty then 0 else 1) < 30)) = true := by rfl)
    (hl : (apos.endLine == cpos.line) = true := by rfl) (hs : starEach (e :: es) X.env = (false, eval e X.env) :: starEach es X.env := by rfl) (hp : (backTo cpos (starEach es X.env)).any (·.1) = false := by rfl) :
    PE X (.Call (.Attribute o name apos) (e :: es) [] cpos) (tMethS X.K r1 r2 to t) := by
  refine ⟨fun pins s σ H Q I h => wpAny_Call_method_late hb hf hl rfl (thn (ho.run pins s σ H _ I h) fun v u ⟨x, H1, I1, rx, a, xs, ex, q⟩ => ?_)⟩
  have pl : (false || (backTo cpos (starEach es X.env)).any (·.1)) = false := by rw [hp]; rfl
  subst ex
  cases rx
  rcases q with ⟨hq, q⟩ | ⟨hq, q⟩
  · obtain ⟨k1, k2⟩ := tyV_is (T := "list") I1 (x := .ref a) (v := .ref a) rfl (.inl ⟨rfl, xs, hq⟩)
    refine ⟨"list", id1, PySem.F.plainAttrs_list, s1, t1, k1, k2, ?_⟩
    have hA := ha.run cpos pins u σ H1 _ I1 q
    rw [hs] at hA ⊢
    exact Calls.callWith_builtin pl (Calls.evalArgs_plain (thn hA fun us s2 ⟨vs, H2, I2, r2', q2⟩ => m1 pins s2 σ H2 (.ref a) vs (.ref a) us Q I2 rfl r2' q2))
  · obtain ⟨k1, k2⟩ := hq.ty I1
    refine ⟨"tuple", id2, PySem.F.plainAttrs_tuple, s2, t2, k1, k2, ?_⟩
    have hA := ha.run cpos pins u σ H1 _ I1 q
    rw [hs] at hA ⊢
    exact Calls.callWith_builtin pl (Calls.evalArgs_plain (thn hA fun us s2 ⟨vs, H2, I2, r2', q2⟩ => m2 pins s2 σ H2 (.ref a) vs (.ref a) us Q I2 rfl r2' q2))
/-- t.index(y) -/
def rIxT (K : PySem.W.Frag) : V → List V → Hp → VK → Prop := fun x xs H Q => ∃ (a : Addr) (vs : List V) (y : V) (d : D) (ds : List D) (j : Nat) (z : D), x = .ref a ∧ xs = [y] ∧ SqT K H a vs ∧ DpAll K H vs ds ∧ Dp K H y d ∧ PySem.SeqAt.shaped (.tuple ds) = true ∧ PySem.SeqAt.shaped d = true ∧
  ds[j]? = some z ∧ PyData.eqv z d = true ∧ (∀ (m : Nat) (z' : D), m < j → ds[m]? = some z' → PyData.eqv z' d = false) ∧ Q (.int (j : Nat)) H
theorem mt_ixT (hu : X.A.units + 65 < cLine) : MtR X "tuple.index" (rIxT X.K) := by
  intro pins s σ H x xs v us Q I rx rxs ⟨a, vs, y, d, ds, j, z, e1, e2, hq, hd, hy, sl, sd, hz, hzj, hno, q⟩
  subst e1 e2
  cases rx
  obtain ⟨uy, rfl, ry⟩ := vals1 rxs
  obtain ⟨bs, rb⟩ := Dp.reads I d y uy hy ry
  have lay : PyData.canLayAll0 ds = true := PySem.SeqAt.canLay_of_shaped sl
  have room : X.A.units + 1 + min (PyData.depthAll ds) d.depth < cLine := by have h1 := PySem.SeqAt.depth_of_shaped sd; omega
  obtain ⟨its, rv, ⟨⟨cls, dd, data, sls⟩, ho, hc, n, hdt⟩, hlen⟩ := I.tuple hq
  simp only at hc hdt
  subst hc hdt
  obtain ⟨as, ra⟩ := Dp.readsAll I ds vs its hd rv
  have hn : its.length = ds.length := PySem.SeqAt.ReadsAll.length ds its as ra
  have hmap : its.map (PySem.SeqAt.readOf s.heap) = ds := PySem.SeqAt.readsAll_map ds its as lay ra
  have at_ : ∀ (m : Nat) (hm : m < its.toArray.size) (z' : D), ds[m]? = some z' → PySem.SeqAt.readOf s.heap its.toArray[m] = z' := by
    intro m hm z' hz'
    have hml : m < its.length := by simpa using hm
    rw [← hmap, List.getElem?_map, List.getElem?_eq_getElem hml] at hz'
    simpa using Option.some.inj hz'
  have hj : j < its.toArray.size := by
    have := (List.getElem?_eq_some_iff.mp hz).1
    simpa [hn] using this
  refine call_meets PySem.F.slot_tuple_index ⟨_, ho, rfl⟩ PySem.F.entry_tuple_index (PySem.F.args_tuple_index_2 _ _)
    (TI.tuple_indexAt a its.toArray n dd sls uy (fun u => PyData.eqv (PySem.SeqAt.readOf s.heap u) d) j hj ?_ ?_) ⟨ho, PySem.SeqAt.items_eqAt (vs := its.toArray) (show ReadsAll s.heap its.toArray.toList ds as from ra) rb lay (PySem.SeqAt.canLay_of_shaped sd) room, ?_⟩
  · show PyData.eqv (PySem.SeqAt.readOf s.heap its.toArray[j]) d = true
    rw [at_ j hj z hz]
    exact hzj
  · intro m hm hmj
    have hmd : m < ds.length := by rw [← hn]; simpa using hm
    show PyData.eqv (PySem.SeqAt.readOf s.heap its.toArray[m]) d = false
    rw [at_ m hm _ (List.getElem?_eq_getElem hmd)]
    exact hno m _ hmj (List.getElem?_eq_getElem hmd)
  · exact ⟨.int (j : Nat), H, I.tok _, ⟨_, rfl⟩, q⟩
end
/-- x.count(y) -/
def rCtS (K : PySem.W.Frag) (tp : Bool) : V → List V → Hp → VK → Prop := fun x xs H Q => ∃ (a : Addr) (vs : List V) (y : V) (d : D) (ds : List D), x = .ref a ∧ xs = [y] ∧ (match tp with | true => SqT K H a vs | false => SqL K H a vs) ∧ DpAll K H vs ds ∧ Dp K H y d ∧ PyData.canLayAll0 ds = true ∧ PyData.depthAll ds ≤ 64 ∧ PySem.SeqAt.shaped d = true ∧
  Q (.int ((ds.countP fun z => PyData.eqv z d : Nat) : Int)) H
section
variable {X : Cx}
theorem ct_count {h : Heap} {its : List Value} {ds : List D} (hmap : its.map (PySem.SeqAt.readOf h) = ds) (d : D) : its.toArray.toList.countP (fun u => PyData.eqv (PySem.SeqAt.readOf h u) d) = ds.countP fun z => PyData.eqv z d := by
  rw [← hmap, List.countP_map]
  rfl
theorem mt_ctT (hu : X.A.units + 65 < cLine) : MtR X "tuple.count" (rCtS X.K true) := by
  intro pins s σ H x xs v us Q I rx rxs ⟨a, vs, y, d, ds, e1, e2, hq, hd, hy, lay, dp, sd, q⟩
  subst e1 e2
  cases rx
  obtain ⟨uy, rfl, ry⟩ := vals1 rxs
  obtain ⟨bs, rb⟩ := Dp.reads I d y uy hy ry
  have room : X.A.units + 1 + min (PyData.depthAll ds) d.depth < cLine := by have h1 := PySem.SeqAt.depth_of_shaped sd; omega
  obtain ⟨its, rv, ⟨⟨cls, dd, data, sls⟩, ho, hc, n, hdt⟩, hlen⟩ := I.tuple hq
  simp only at hc hdt
  subst hc hdt
  obtain ⟨as, ra⟩ := Dp.readsAll I ds vs its hd rv
  have hmap : its.map (PySem.SeqAt.readOf s.heap) = ds := PySem.SeqAt.readsAll_map ds its as lay ra
  refine call_meets PySem.F.slot_tuple_count ⟨_, ho, rfl⟩ PySem.F.entry_tuple_count (PySem.F.args_tuple_count_2 _ _)
    (PySem.SeqAt.tuple_countAt a its.toArray n dd sls uy (fun u => PyData.eqv (PySem.SeqAt.readOf s.heap u) d)) ⟨ho, PySem.SeqAt.items_eqAt (vs := its.toArray) (show ReadsAll s.heap its.toArray.toList ds as from ra) rb lay (PySem.SeqAt.canLay_of_shaped sd) room, ?_⟩
  rw [ct_count hmap]
  exact ⟨.int ((ds.countP fun z => PyData.eqv z d : Nat) : Int), H, I.tok _, ⟨_, rfl⟩, q⟩
theorem mt_ctL (hu : X.A.units + 65 < cLine) : MtR X "list.count" (rCtS X.K false) := by
  intro pins s σ H x xs v us Q I rx rxs ⟨a, vs, y, d, ds, e1, e2, hq, hd, hy, lay, dp, sd, q⟩
  subst e1 e2
  cases rx
  obtain ⟨uy, rfl, ry⟩ := vals1 rxs
  obtain ⟨bs, rb⟩ := Dp.reads I d y uy hy ry
  have room : X.A.units + 1 + min (PyData.depthAll ds) d.depth < cLine := by have h1 := PySem.SeqAt.depth_of_shaped sd; omega
  obtain ⟨its, rv, ⟨⟨cls, dd, data, sls⟩, n, ho, hc, hdn, hdt⟩, hlen⟩ := I.list hq
  simp only at hc hdt
  subst hc hdt
  obtain ⟨as, ra⟩ := Dp.readsAll I ds vs its hd rv
  have hmap : its.map (PySem.SeqAt.readOf s.heap) = ds := PySem.SeqAt.readsAll_map ds its as lay ra
  refine call_meets PySem.F.slot_list_count ⟨_, ho, rfl⟩ PySem.F.entry_list_count (PySem.F.args_list_count_2 _ _)
    (PySem.SeqAt.list_countAt a its.toArray n dd sls uy (fun u => PyData.eqv (PySem.SeqAt.readOf s.heap u) d)) ⟨ho, PySem.SeqAt.items_eqAt (vs := its.toArray) (show ReadsAll s.heap its.toArray.toList ds as from ra) rb lay (PySem.SeqAt.canLay_of_shaped sd) room, ?_⟩
  rw [ct_count hmap]
  exact ⟨.int ((ds.countP fun z => PyData.eqv z d : Nat) : Int), H, I.tok _, ⟨_, rfl⟩, q⟩
end
section
variable {Ts : List Addr} {X : Cx} {W : L2.WX} {apos cpos : Pos} {a b' : Expr} {fa fb : Rho → M D} {b1 b2 : Bool}
/-- the first place of d -/
def firstAt (ds : List D) (d : D) : Option Nat := ds.findIdx? fun z => PyData.eqv z d
/-- these and this can be compared -/
def shpd (ds : List D) (d : D) : Prop := SeqAt.shaped (.list ds) = true ∧ SeqAt.shaped (.tuple ds) = true ∧ SeqAt.shaped d = true
noncomputable def dIndex (ds : List D) (d : D) : Option D := iteP (shpd ds d ∧ ∃ j, firstAt ds d = some j) (some (.int (((firstAt ds d).getD 0 : Nat) : Int))) none
noncomputable def dCount (ds : List D) (d : D) : Option D := iteP (shpd ds d) (some (.int ((ds.countP fun z => PyData.eqv z d : Nat) : Int))) none
theorem firstAt_spec {ds : List D} {d : D} {j : Nat} (h : firstAt ds d = some j) : ∃ z, ds[j]? = some z ∧ PyData.eqv z d = true ∧ ∀ (m : Nat) (z' : D), m < j → ds[m]? = some z' → PyData.eqv z' d = false := by
  unfold firstAt at h
  rw [List.findIdx?_eq_some_iff_getElem] at h
  obtain ⟨hj, h1, h2⟩ := h
  refine ⟨ds[j], List.getElem?_eq_getElem hj, h1, fun m z' hm e => ?_⟩
  have hml : m < ds.length := by omega
  rw [List.getElem?_eq_getElem hml] at e
  have h3 := h2 m hm
  rw [Option.some.inj e] at h3
  simpa using h3
/-- x.m(y) by the items of x -/
theorem dx_methS {name : Str} {r1 r2 : V → List V → Hp → VK → Prop} {fo : List D → D → Option D} (ha : DX Ts b1 X W a fa) (hb : DX Ts false X W b' fb)
    (pm : ∀ {to : TE} {t : TA}, PE X a to → PA X [b'] t → PE X (.Call (.Attribute a name apos) [b'] [] cpos) (tMethS X.K r1 r2 to t))
    (k1 : ∀ {bad : Addr → Prop} {H : Hp} {p : Addr} {vs : List V} {ds : List D} {d : D} {u : V} {Q : VK}, SqL X.K H p vs → AtL X.KW bad H vs ds → AtW X.KW bad H u d → POut X.KW bad H (fo ds d) Q → r1 (.ref p) [u] H Q)
    (k2 : ∀ {bad : Addr → Prop} {H : Hp} {p : Addr} {vs : List V} {ds : List D} {d : D} {u : V} {Q : VK}, SqT X.K H p vs → AtL X.KW bad H vs ds → AtW X.KW bad H u d → POut X.KW bad H (fo ds d) Q → r2 (.ref p) [u] H Q)
    (he : starEach [b'] X.env = (false, eval b' X.env) :: starEach [] X.env := by rfl) :
    DX Ts true X W (.Call (.Attribute a name apos) [b'] [] cpos) (fun ρ => bnd (fa ρ) fun x => bnd (itemsD x) fun ds => bnd (fb ρ) fun d => lift (fo ds d)) := by
  obtain ⟨ta, pa, qa⟩ := ha
  obtain ⟨tb, pb, qb⟩ := hb
  refine ⟨_, pm pa (pa_cons pb pa_nil he), fun G s ρ pz σ H Q R h => ?_⟩
  refine qa G s ρ pz σ H _ R (PostG.bnd h fun x s1 v H1 hm1 w1 e1 a1 h1 => ?_)
  have R1 := R.ext w1 e1
  have x1 := a1.w R1
  cases x with
  | list ds =>
    obtain ⟨p, vs, rfl, ho, l⟩ := x1.lst
    refine ⟨p, vs, rfl, .inl ⟨SqL.of ho, qb G s1 ρ pz σ H1 _ R1 (PostG.bnd h1 fun d s2 u H2 hm2 w2 e2 a2 h2 => ?_)⟩⟩
    have R2 := R1.ext w2 e2
    obtain ⟨p2, vs2, ev, ho2, l2⟩ := ((a1.ext e2).w R2).lst
    cases ev
    exact k1 (SqL.of ho2) l2 (a2.w R2) (POut.of R2 h2)
  | tuple ds =>
    obtain ⟨p, vs, rfl, nn, ho, l⟩ := x1.tup
    refine ⟨p, vs, rfl, .inr ⟨nn, qb G s1 ρ pz σ H1 _ R1 (PostG.bnd h1 fun d s2 u H2 hm2 w2 e2 a2 h2 => ?_)⟩⟩
    have R2 := R1.ext w2 e2
    obtain ⟨p2, vs2, ev, _, ho2, l2⟩ := ((a1.ext e2).w R2).tup
    cases ev
    exact k2 ho2 l2 (a2.w R2) (POut.of R2 h2)
  | _ => exact h1.elim
theorem noDics_l {ds : List D} (h : SeqAt.shaped (.list ds) = true) : noDics ds = true := by have := shaped_nd h; unfold noDic at this; exact this
theorem dx_index (hu : X.A.units + 65 < cLine) (ha : DX Ts b1 X W a fa) (hb : DX Ts false X W b' fb) (he : starEach [b'] X.env = (false, eval b' X.env) :: starEach [] X.env := by rfl)
    (pm : ∀ {to : TE} {t : TA}, PE X a to → PA X [b'] t → PE X (.Call (.Attribute a "index" apos) [b'] [] cpos) (tMethS X.K (rIndexD X.K) (rIxT X.K) to t) := by exact fun p q => pe_methS PySem.F.slot_list_index PySem.F.type_list_index (mt_indexD (by assumption)) PySem.F.slot_tuple_index PySem.F.type_tuple_index (mt_ixT (by assumption)) p q) :
    DX Ts true X W (.Call (.Attribute a "index" apos) [b'] [] cpos) (fun ρ => bnd (fa ρ) fun x => bnd (itemsD x) fun ds => bnd (fb ρ) fun d => lift (dIndex ds d)) := by
  refine dx_methS ha hb pm (fun {bad H p vs ds d u Q} ho l w q => ?_) (fun {bad H p vs ds d u Q} ho l w q => ?_) he
  · obtain ⟨⟨hc, j, hj⟩, q⟩ := POut.ite q
    obtain ⟨z, k1, k2, k3⟩ := firstAt_spec hj
    rw [hj] at q
    exact ⟨p, u, d, ds, j, z, rfl, rfl, .lst ho (l.dp (noDics_l hc.1)), w.dp hc.2.2, shaped_kit hc.1, shaped_kit hc.2.2, k1, k2, k3, q.here (.int _)⟩
  · obtain ⟨⟨hc, j, hj⟩, q⟩ := POut.ite q
    obtain ⟨z, k1, k2, k3⟩ := firstAt_spec hj
    rw [hj] at q
    exact ⟨p, vs, u, d, ds, j, z, rfl, rfl, ho, l.dp (noDics_l hc.1), w.dp hc.2.2, shaped_kit hc.2.1, shaped_kit hc.2.2, k1, k2, k3, q.here (.int _)⟩
theorem dx_count (hu : X.A.units + 65 < cLine) (ha : DX Ts b1 X W a fa) (hb : DX Ts false X W b' fb) (he : starEach [b'] X.env = (false, eval b' X.env) :: starEach [] X.env := by rfl)
    (pm : ∀ {to : TE} {t : TA}, PE X a to → PA X [b'] t → PE X (.Call (.Attribute a "count" apos) [b'] [] cpos) (tMethS X.K (rCtS X.K false) (rCtS X.K true) to t) := by exact fun p q => pe_methS PySem.F.slot_list_count PySem.F.type_list_count (mt_ctL (by assumption)) PySem.F.slot_tuple_count PySem.F.type_tuple_count (mt_ctT (by assumption)) p q) :
    DX Ts true X W (.Call (.Attribute a "count" apos) [b'] [] cpos) (fun ρ => bnd (fa ρ) fun x => bnd (itemsD x) fun ds => bnd (fb ρ) fun d => lift (dCount ds d)) := by
  refine dx_methS ha hb pm (fun {bad H p vs ds d u Q} ho l w q => ?_) (fun {bad H p vs ds d u Q} ho l w q => ?_) he
  · obtain ⟨hc, q⟩ := POut.ite q
    have sh := shaped_kit hc.1
    exact ⟨p, vs, u, d, ds, rfl, rfl, ho, l.dp (noDics_l hc.1), w.dp hc.2.2, PySem.SeqAt.canLay_of_shaped sh, by have := PySem.SeqAt.depth_of_shaped sh; unfold PyData.depth at this; omega, shaped_kit hc.2.2, q.here (.int _)⟩
  · obtain ⟨hc, q⟩ := POut.ite q
    have sh := shaped_kit hc.1
    exact ⟨p, vs, u, d, ds, rfl, rfl, ho, l.dp (noDics_l hc.1), w.dp hc.2.2, PySem.SeqAt.canLay_of_shaped sh, by have := PySem.SeqAt.depth_of_shaped sh; unfold PyData.depth at this; omega, shaped_kit hc.2.2, q.here (.int _)⟩
end
end DV

set_option Elab.async false
set_option linter.all false
set_option maxRecDepth 100000
set_option maxHeartbeats 2000000
/-! values as data: stars, x.extend(y), x[:0:-1], targets x[i] within tuples -/
namespace DV
open PySem PySem.Spec PyProof.Rows L2
theorem atL_paired {K : KW} {G : Gh} {ρ : Rho} {pz : Nat → Addr} {H : Hp} : ∀ {vs : List V} {ds : List D}, AtL K (badE G ρ pz) H vs ds → Paired (AtB true K G ρ pz H) vs ds
  | _, _, .nil => .nil
  | _, _, .cons h t => .cons h (atL_paired t)
theorem paired_app {α β : Type} {F : α → β → Prop} : ∀ {xs ys : List α} {us ws : List β}, Paired F xs us → Paired F ys ws → Paired F (xs ++ ys) (us ++ ws)
  | _, _, _, _, .nil, q => q
  | _, _, _, _, .cons h t, q => .cons h (paired_app t q)
section
variable {Ts : List Addr} {X : Cx} {W : L2.WX} {e a b' c : Expr} {f fa fb fc : Rho → M D} {b b1 b2 : Bool} {pos : Pos} {es : List Expr} {fs : Rho → M (List D)} {st : Stmt}
/-- (.., *e, ..) -/
theorem da_star {p : Pos} (ha : DX Ts b X W a fa) (hr : DA Ts true X W es fs) (hs : starEach (.Starred a p :: es) X.env = (true, eval a X.env) :: starEach es X.env := by rfl) :
    DA Ts true X W (.Starred a p :: es) (fun ρ => bnd (fa ρ) fun d => bnd (itemsD d) fun xs => bnd (fs ρ) fun ds => ret (xs ++ ds)) := by
  obtain ⟨ta, pa, qa⟩ := ha
  obtain ⟨tr, pr, qr⟩ := hr
  refine ⟨_, StX.pa_star pa pr hs, fun G s ρ pz σ H Q R h => ?_⟩
  refine qa G s ρ pz σ H _ R (PostG.bnd h fun d s1 v H1 hm1 w1 e1 a1 h1 => ?_)
  have R1 := R.ext w1 e1
  have x1 := a1.w R1
  have go : ∀ (p : Addr) (vs : List V) (ds : List D), v = .ref p → (SqT X.K H1 p vs ∨ SqL X.K H1 p vs) → AtL X.KW (badE G ρ pz) H1 vs ds → PostG X W G σ H1 (fun H' vs ds => Paired (AtB true X.KW G ρ pz H') vs ds) (bnd (fs ρ) (fun es => ret (ds ++ es)) s1) Q →
      ∃ p xs, v = V.ref p ∧ (SqT X.K H1 p xs ∨ SqL X.K H1 p xs) ∧ tr σ H1 fun ys H2 => Q (xs ++ ys) H2 := fun p vs ds ev ho l hh => by
    refine ⟨p, vs, ev, ho, qr G s1 ρ pz σ H1 _ R1 (PostG.bnd hh fun es s2 us H2 hm2 w2 e2 a2 h2 => ?_)⟩
    exact h2 _ H2 w2 .refl (paired_app (atL_paired (l.ext e2)) a2)
  unfold itemsD at h1
  cases d with
  | list ds =>
    obtain ⟨p, vs, ev, ho, l⟩ := x1.lst
    exact go p vs ds ev (.inr (SqL.of ho)) l h1
  | tuple ds =>
    obtain ⟨p, vs, ev, _, ho, l⟩ := x1.tup
    exact go p vs ds ev (.inl ho) l h1
  | _ => exact h1.elim

/-! ### x.extend(y) -/
section
open PySem.Sem PySem.Builtin
set_option maxRecDepth 8000 in
theorem meets_extT (l : Addr) (items : Array Value) (n : Nat) (b : Addr) (items2 : Array Value) (n2 : Nat) (dct : Option Addr) (sl : Array (Option Value)) (hs0 : ¬(!items.isEmpty && Builtin.List.listTooLong (items.size + items2.size)) = true) (hs1 : items.size ≤ sizeLine) (hs2 : items.size + items2.size ≤ sizeLine + 1) :
    Meets (Builtin.«list.extend» ⟨[.ref l, .ref b], []⟩) (fun _ R s => s.heap.get? l = some { cls := .type "list", dict := none, data := .seq items n, slots := #[] } ∧ s.heap.get? b = some { cls := .type "tuple", dict := dct, data := .seq items2 n2, slots := sl } ∧ R (.ok (.ret Value.none)) { s with heap := s.heap.update l (Obj.mapSeq fun x => x ++ items2), toks := s.toks }) :=
  .of_wp fun prog w A R s h => by
    obtain ⟨hp, g, d, tk, os⟩ := s; obtain ⟨hl, hb, h⟩ := h; have f1 := AutoSeq1.idx_int; have f2 := AutoSeq1.sub_tuple_tuple; have f3 := AutoSeq1.sub_list_list; have f4 := AutoSeq1.sub_tuple_list; have f5 := AutoSeq1.sub_list_tuple;
    have hz' : (items ++ items2).size ≤ sizeLine + 1 := by rw [Array.size_append]; exact hs2
    wp_walk using (wpAny_updateSeq hl rfl (hz := hs1) (_hz' := hz')), wpAny_loadPart' hl, wpAny_loadPart' hb; exact ⟨_, rfl, h⟩
end
def rExtT (K : PySem.W.Frag) : V → List V → Hp → VK → Prop := fun x vs H Q => ∃ l b xs zs, x = .ref l ∧ vs = [.ref b] ∧ H l = some (.lst xs) ∧ (H b = some (.lst zs) ∨ SqT K H b zs) ∧ xs.length + zs.length ≤ sizeLine ∧ Q .non (upd H l (.lst (xs ++ zs)))
theorem mt_extT : MtM X "list.extend" (rExtT X.K) := by
  intro pins s σ H x vs v us Q I rx rv h
  obtain ⟨l, b, xs, zs, rfl, rfl, hH, hB | hB, hz, q⟩ := h
  · exact mt_extend pins s σ H _ _ v us Q I rx rv ⟨l, b, xs, zs, rfl, rfl, hH, hB, hz, q⟩
  · cases rx
    obtain ⟨u, rfl, ru⟩ := rv.one
    cases ru
    obtain ⟨z, its, n, r, hl, e⟩ := I.lstM hH
    obtain ⟨its2, r2, ht, hz2⟩ := I.tuple hB
    obtain ⟨o2, ho2, hc2, n2, hd2⟩ := ht
    have hl2 := r2.length
    have hsz : its.toArray.size + its2.toArray.size ≤ sizeLine := by rw [List.size_toArray, List.size_toArray]; omega
    have hlong : ¬ (!its.toArray.isEmpty && Builtin.List.listTooLong (its.toArray.size + its2.toArray.size)) = true := by
      rw [notLongL hsz, Bool.and_false]
      exact Bool.false_ne_true
    obtain ⟨c2, dct2, dt2, sl2⟩ := o2
    replace hc2 : c2 = .type "tuple" := hc2
    replace hd2 : dt2 = .seq its2.toArray n2 := hd2
    subst hc2 hd2
    refine call_meets PySem.F.slot_list_extend ⟨_, e, rfl⟩ PySem.F.entry_list_extend (PySem.F.args_list_extend_2 _ _)
      (meets_extT l its.toArray n b its2.toArray n2 dct2 sl2 hlong (by rw [List.size_toArray]; omega) (by omega)) ⟨e, ho2, ?_⟩
    refine ⟨.non, _, I.lset (its' := its ++ its2) hH e (by simp) (r.append r2) ?_, rfl, q⟩
    rw [List.length_append]
    omega
theorem ds_extend (i : Nat) {x : Str} {px apos cpos : Pos} (ha : DX Ts true X W a fa) (hN : X.N[i]? = some x := by rfl) (hv : Vis X.env.scope x := by first | exact Or.inl rfl | exact Or.inr (Or.inl rfl) | exact Or.inr (Or.inr rfl)) (hd : (x == ("__debug__" : Str)) = false := by decide) (hcd : (x == ("__classdict__" : Str)) = false := by decide)
    (bm : ∀ {to : TE} {t : TA}, PE X (.Name x px) to → PA X [a] t → PE X (.Call (.Attribute (.Name x px) "extend" apos) [a] [] cpos) (tBM X.K "list" (rExtT X.K) to t) := by exact fun p q => pe_bm PySem.F.plainAttrs_list PySem.F.slot_list_extend PySem.F.type_list_extend mt_extT p q)
    (hs : swapsWith (.Call (.Attribute (.Name x px) "extend" apos) [a] [] cpos) none pos.line X.env = pure false := by rfl) (he : starEach [a] X.env = (false, eval a X.env) :: starEach [] X.env := by rfl) :
    DS1 Ts X W (.Expr (.Call (.Attribute (.Name x px) "extend" apos) [a] [] cpos) pos) (fun ρ => bnd (ownS ρ i) fun ds => bnd (fa ρ) fun d => bnd (itemsD d) fun es => if ds.length + es.length < 16000000 then ret (.nx (ρ.set i (some (.own (.list (ds ++ es)))))) else stk) := by
  obtain ⟨ta, pa, qa⟩ := ha
  refine ⟨_, ps_expr (bm (pe_var hN hv hd hcd) (pa_cons pa pa_nil he)) hs, fun G s ρ pz σ H Dn R h => ?_⟩
  obtain ⟨ds, vs, hr, es, ho, l, h⟩ := ownS_of R h
  refine ⟨_, es, .inl ⟨rfl, _, .inl (.inl ho)⟩, qa G s ρ pz σ H _ R (PostG.stm R h fun d s1 v H1 hm1 w1 e1 a1 h1 => ?_)⟩
  have R1 := R.ext w1 e1
  obtain ⟨vs1, ho1, l1⟩ := R1.ownNow hr
  have x1 := a1.w R1
  have go : ∀ (p : Addr) (us : List V) (es : List D), v = .ref p → (H1 p = some (.lst us) ∨ SqT X.K H1 p us) → AtL X.KW (badE G ρ pz) H1 us es → PostS Ts X W G ((if ds.length + es.length < 16000000 then ret (Out.nx (ρ.set i (some (.own (.list (ds ++ es)))))) else stk) s1) Dn →
      rExtT X.K (.ref (pz i)) [v] H1 fun _ H2 => Dn.nx σ H2 := fun p us es ev hp lu hh => by
    split at hh
    · rename_i hz
      refine ⟨pz i, p, vs1, us, rfl, by rw [ev], ho1, hp, by rw [l1.len, lu.len, sizeLine_eq]; omega, ?_⟩
      exact hh pz σ _ (R1.put i hr ⟨_, upd_same, (l1.app lu).updOwn (.inr ⟨i, _, hr, rfl⟩) fun u q => by rw [ho1] at q; cases q; rfl⟩)
    · exact hh.elim
  unfold itemsD at h1
  cases d with
  | list es =>
    obtain ⟨p, us, ev, hp, lu⟩ := x1.lst
    exact go p us es ev (.inl hp) lu h1
  | tuple es =>
    obtain ⟨p, us, ev, _, hp, lu⟩ := x1.tup
    exact go p us es ev (.inr hp) lu h1
  | _ => exact h1.elim
end
end DV

set_option Elab.async false
set_option linter.all false
set_option maxRecDepth 100000
set_option maxHeartbeats 2000000
/-! values as data: x[:0:-1], targets x[i] within tuples -/
namespace DV
open PySem PySem.Spec PyProof.Rows L2
namespace Rw
section
variable {prog : Program} {w : World} {A : Around} {E : Value → Shared → Prop} {s : Shared}
theorem stop (n : Nat) : (if (0 : Int) < 0 then max (0 + (n : Int)) (-1) else min 0 ((n : Int) - 1)) = min 0 ((n : Int) - 1) := if_neg (by decide)
theorem places (n : Nat) : Builtin.Slice.slicePlaces ((n : Int) - 1) (min 0 ((n : Int) - 1)) (-1) = n - 1 := by
  unfold Builtin.Slice.slicePlaces
  rw [if_neg (by decide)]
  split
  · rw [show (- -1 : Int) = 1 by decide, Int.ediv_one]
    omega
  · omega
theorem pickL {α : Type} (xs : List α) : ((List.range (xs.length - 1)).filterMap fun (m : Nat) => xs[(((xs.length : Int) - 1) + (m : Int) * (-1)).toNat]?) = (xs.drop 1).reverse := by
  cases xs with
  | nil => rfl
  | cons x r =>
    rw [List.drop_succ_cons, List.drop_zero, List.length_cons, Nat.add_sub_cancel]
    have hall : ∀ (l : List Nat), (∀ m ∈ l, m < r.length) → (l.filterMap fun (m : Nat) => (x :: r)[((((r.length + 1 : Nat) : Int) - 1) + (m : Int) * (-1)).toNat]?) = l.filterMap fun m => r.reverse[m]? := by
      intro l hl
      induction l with
      | nil => rfl
      | cons m q ih =>
        have hm := hl m List.mem_cons_self
        have e : ((((r.length + 1 : Nat) : Int) - 1) + (m : Int) * (-1)).toNat = (r.length - 1 - m) + 1 := by omega
        have e2 : (x :: r)[(r.length - 1 - m) + 1]? = r.reverse[m]? := by
          rw [List.getElem?_reverse hm, List.getElem?_cons_succ]
        rw [List.filterMap_cons, List.filterMap_cons, e, e2, ih fun k hk => hl k (List.mem_cons_of_mem _ hk)]
    rw [hall _ fun m hm => List.mem_range.mp hm]
    have e3 : ∀ (ys : List α), (List.range ys.length).filterMap (fun m => ys[m]?) = ys := by
      intro ys
      induction ys with
      | nil => rfl
      | cons y ys ih =>
        rw [List.length_cons, List.range_succ_eq_map, List.filterMap_cons, List.filterMap_map]
        show y :: _ = _
        congr 1
    have e4 := e3 r.reverse
    rw [List.length_reverse] at e4
    exact e4
theorem pick (xs : Array Value) : ((List.range (xs.size - 1)).filterMap fun (m : Nat) => xs[(((xs.size : Int) - 1) + (m : Int) * (-1)).toNat]?).toArray = ((xs.toList.drop 1).reverse).toArray := by
  congr 1
  have e := pickL xs.toList
  rw [Array.length_toList] at e
  rw [← e]
  congr 1
  funext m
  rw [Array.getElem?_toList]
theorem slice (its : List Value) : slicePick its.toArray none (some 0) (some (-1)) = ((its.drop 1).reverse).toArray := by
  have hb : sliceBounds none (some 0) (some (-1)) its.toArray.size = (((its.length : Nat) : Int) - 1, min 0 ((its.length : Int) - 1), -1) := by
    rw [List.size_toArray]
    unfold sliceBounds
    simp
    try omega
  unfold slicePick
  rw [hb]
  show ((sliceRange (((its.length : Nat) : Int) - 1) (min 0 ((its.length : Int) - 1)) (-1)).filterMap (its.toArray[·]?)).toArray = _
  congr 1
  rw [← pickL its]
  unfold sliceRange
  have hc : (if (-1 : Int) > 0 then (if ((its.length : Nat) : Int) - 1 < min 0 ((its.length : Int) - 1) then (min 0 ((its.length : Int) - 1) - (((its.length : Nat) : Int) - 1) + -1 - 1) / -1 else 0)
                     else (if ((its.length : Nat) : Int) - 1 > min 0 ((its.length : Int) - 1) then ((((its.length : Nat) : Int) - 1) - min 0 ((its.length : Int) - 1) - -1 - 1) / (- -1) else 0)).toNat = its.length - 1 := by
    rw [if_neg (by decide), show (- -1 : Int) = 1 by decide, Int.ediv_one]
    split <;> omega
  show ((List.range _).map fun (k : Nat) => ((((its.length : Nat) : Int) - 1) + -1 * (k : Int)).toNat).filterMap (its.toArray[·]?) = _
  rw [hc, List.filterMap_map]
  congr 1
  funext m
  show its.toArray[(((its.length : Nat) : Int) - 1 + -1 * (m : Int)).toNat]? = its[((its.length : Int) - 1 + (m : Int) * -1).toNat]?
  rw [List.getElem?_toArray, show ((its.length : Nat) : Int) - 1 + -1 * (m : Int) = (its.length : Int) - 1 + (m : Int) * -1 by omega]
theorem getItem_rev {t sl : Addr} {items : Array Value} {vs vu : Value} {Q : Value → Shared → Prop} (ht : IsTup s.heap t items) (hs : s.heap.IsSliceOf sl .none vu vs) (pu : IsPart vu (some 0)) (ps : IsPart vs (some (-1)))
    (h : Q (.ref s.heap.objs.size) { s with heap := s.heap.push { cls := .type "tuple", data := .seq (items.toList.drop 1).reverse.toArray } }) (hsz : items.size ≤ sizeLine) : wpAny (model prog w) A (getItem (.ref t) (.ref sl)) Q E s := by
  obtain ⟨os, hos, hcs, hds⟩ := id hs
  have isS : s.TypeIs (.ref sl) "slice" := ⟨os, hos, hcs⟩
  have fits : sizeOk (.seq (items.toList.drop 1).reverse.toArray) := by
    show (items.toList.drop 1).reverse.toArray.size ≤ sizeLine
    rw [List.size_toArray, List.length_reverse, List.length_drop, Array.length_toList]
    omega
  unfold getItem
  try with_reducible refine wpAny_holding ?_
  first | refine wpAny_bind (wpAny_pure ?_) | skip
  refine wpAny_bind (wpAny_sequenceKey ht.typeIs (by decide) ?_)
  refine wpAny_bind (wpAny_callSpecial?_slot (name := Str.ofString "__getitem__") ht.typeIs PyProof.Rows.slot_tuple_getitem (wpAny_call_entry PyProof.Rows.slot_tuple_getitem ht.typeIs entry_tuple_getitem ?_ (args_tuple_getitem _ _)))
  show wpAny _ _ (Builtin.Tuple.tupleItemsOf (.ref t) >>= _) _ _ s
  refine wpAny_bind (tupleItemsOf_ ht ?_)
  refine wpAny_bind (wpAny_typeOf isS ?_)
  rw [if_pos (by decide)]
  have ap : ∀ {Q : Int × Int × Nat → Shared → Prop} {E : Value → Shared → Prop} {A : Around}, Q ((items.size : Int) - 1, -1, items.size - 1) s → wpAny (model prog w) A (Builtin.Slice.sliceApplied (.ref sl) (pure (items.size : Int))) Q E s := fun {Q E A} q => by
    unfold Builtin.Slice.sliceApplied Builtin.Slice.sliceFields
    refine wpAny_bind (wpAny_bind (wpAny_field hos hds (x := .none) rfl (wpAny_bind (wpAny_field hos hds (x := vu) rfl (wpAny_bind (wpAny_field hos hds (x := vs) rfl (wpAny_pure ?_)))))))
    refine wpAny_bind (HT.slicePart_ ps ?_)
    show wpAny _ _ (if ((-1 : Int) == 0) = true then _ else _) _ _ s
    rw [if_neg (by decide)]
    refine wpAny_bind (HT.slicePart_ .none (wpAny_bind (HT.slicePart_ pu (wpAny_bind (wpAny_pure ?_)))))
    show wpAny _ _ (pure ((items.size : Int) - 1, (-1 : Int), Builtin.Slice.slicePlaces ((items.size : Int) - 1) (if (0 : Int) < 0 then max (0 + (items.size : Int)) (-1) else min 0 ((items.size : Int) - 1)) (-1))) _ _ s
    rw [stop, places]
    exact wpAny_pure q
  refine wpAny_bind (ap ?_)
  have hno : ¬ ((((items.size : Int) - 1) == 0 && (-1 : Int) == 1 && items.size - 1 == items.size) = true) := by
    intro q
    rw [Bool.and_eq_true, Bool.and_eq_true] at q
    exact absurd q.1.2 (by decide)
  show wpAny _ _ (if (((items.size : Int) - 1) == 0 && (-1 : Int) == 1 && items.size - 1 == items.size) = true then _ else _) _ _ s
  rw [if_neg hno, pick]
  first
    | exact wpAny_bind (m := Builtin.Tuple.tupleExact _) (wpAny_newObj_type (wpAny_pure ⟨_, rfl, wpAny_pure h⟩) fits)
    | exact wpAny_bind (m := Builtin.Tuple.tupleExact _) (wpAny_newObj_type (wpAny_bind (wpAny_pure (wpAny_pure ⟨_, rfl, wpAny_pure h⟩))) fits)
    | exact wpAny_bind (wpAny_bind (m := Builtin.Tuple.tupleExact _) (wpAny_newObj_type (wpAny_pure (wpAny_pure ⟨_, rfl, wpAny_pure h⟩)) fits))
    | exact wpAny_bind (wpAny_bind (m := Builtin.Tuple.tupleExact _) (wpAny_newObj_type (wpAny_pure ⟨_, rfl, wpAny_pure h⟩) fits))
end
end Rw
section
variable {Ts : List Addr} {X : Cx} {W : L2.WX} {e a b' c : Expr} {f fa fb fc : Rho → M D} {b b1 b2 : Bool} {pos : Pos} {es : List Expr} {fs : Rho → M (List D)} {st : Stmt}
def dRevO : D → Option D
  | .list ds => some (.list (ds.drop 1).reverse)
  | .tuple ds => some (.tuple (ds.drop 1).reverse)
  | _ => none
def tRevO (K : PySem.W.Frag) (te : TE) : TE := fun σ H Q => te σ H fun x H1 => (∃ a xs, x = .ref a ∧ SqL K H1 a xs ∧ ∀ p, H1 p = none → Q (.ref p) (upd H1 p (.lst (xs.drop 1).reverse))) ∨ ∃ a xs, x = .ref a ∧ SqT K H1 a xs ∧ NewT H1 (xs.drop 1).reverse Q
theorem pe_revO {te : TE} {k k0 : Nat} {p0 p1 p2 p3 : Pos} (he : PE X e te) : PE X (.Subscript e (.Slice none (some (.Constant (.int 0) k0 p0)) (some (.UnaryOp .USub (.Constant (.int 1) k p1) p2)) p3) pos) (tRevO X.K te) := by
  refine ⟨fun pins s σ H Q I h => ?_⟩
  refine Subscript_ (thn (he.run pins s σ H _ I h) fun v s1 ⟨x, H1, I1, r1, q1⟩ => ?_)
  have hst : PO X (some (.UnaryOp .USub (.Constant (.int 1) k p1) p2)) (tPart (tUn (rU fun i => .int (-i)) (tC (.int 1)))) := po_some (pe_un un_neg pe_int)
  have hup : PO X (some (.Constant (.int 0) k0 p0)) (tPart (tC (.int 0))) := po_some pe_int
  refine wpAny_Slice (thn (po_none.run pins s1 σ H1 (fun o H2 => o = none ∧ H2 = H1) I1 ⟨rfl, rfl⟩) fun vl s2 ⟨l, H2, I2, pl, el, e2⟩ => ?_)
  subst el e2
  refine thn (hup.run pins s2 σ H2 (fun o H3 => o = some 0 ∧ H3 = H2) I2 ⟨0, rfl, rfl, rfl⟩) fun vu s3 ⟨u, H3, I3, pu, eu, e3⟩ => ?_
  subst eu e3
  refine thn (hst.run pins s3 σ H3 (fun o H4 => o = some (-1) ∧ H4 = H3) I3 ⟨1, rfl, -1, rfl, rfl, rfl⟩) fun vs s4 ⟨o, H4, I4, ps, eo, e4⟩ => ?_
  subst eo e4
  have I5 : Inv X pins σ H4 { s4 with heap := s4.heap.push { cls := .type "slice", data := .fields #[vl, vu, vs] } } := I4.kept (t' := s4.toks) fun b ob q => Heap.get?_push_of_some _ q
  rcases q1 with ⟨a, xs, ex, hx, q⟩ | ⟨a, xs, ex, hx, q⟩
  · subst ex
    cases r1
    obtain ⟨its, r, ht, hz⟩ := I5.list hx
    have hlen := r.length
    show wpAny (model X.prog X.w) X.A (subscriptTail e (.Slice none (some (.Constant (.int 0) k0 p0)) (some (.UnaryOp .USub (.Constant (.int 1) k p1) p2)) p3) (.ref a) (.ref s4.heap.objs.size)) (EP X pins σ Q) X.xe { s4 with heap := s4.heap.push { cls := .type "slice", data := .fields #[vl, vu, vs] } }
    refine tail_any (ops := [.ref a, .ref s4.heap.objs.size]) ht.isList.typeIs (PySem.slot_list_getitem.lookup) ?_ (by with_unfolding_all rfl)
    refine wpAny_getItem_list_slice ht.isList (Heap.IsSliceOf.new _ vl vu vs) pl pu ps (by decide) ?_ (by rw [List.size_toArray]; omega)
    rw [Rw.slice]
    refine ⟨.ref _, _, I5.laid (t' := s4.toks) (o := .lst (xs.drop 1).reverse) (fun b ob q => Heap.get?_push_of_some _ q) (Nat.le_refl _) ?_, rfl, q _ (I5.hok.fresh (Nat.le_refl _))⟩
    exact ⟨by rw [List.length_reverse, List.length_drop]; omega, _, 0, (r.drop 1).reverse, Heap.get?_push_size _ rfl⟩
  · subst ex
    cases r1
    obtain ⟨its, r, ht, hz⟩ := I5.tuple hx
    have hlen := r.length
    cases pl
    show wpAny (model X.prog X.w) X.A (subscriptTail e (.Slice none (some (.Constant (.int 0) k0 p0)) (some (.UnaryOp .USub (.Constant (.int 1) k p1) p2)) p3) (.ref a) (.ref s4.heap.objs.size)) (EP X pins σ Q) X.xe { s4 with heap := s4.heap.push { cls := .type "slice", data := .fields #[.none, vu, vs] } }
    refine tail_any (ops := [.ref a, .ref s4.heap.objs.size]) ht.typeIs (PyProof.Rows.slot_tuple_getitem.lookup) ?_ (by with_unfolding_all rfl)
    refine Rw.getItem_rev ht (Heap.IsSliceOf.new _ .none vu vs) pu ps ?_ (by rw [List.size_toArray]; omega)
    obtain ⟨x, H2, I6, r6, q6⟩ := laidT0 I5 (r.drop 1).reverse (by rw [List.length_reverse, List.length_drop]; omega) q
    exact ⟨x, H2, I6, r6, q6⟩
theorem dx_revO {k k0 : Nat} {p0 p1 p2 p3 : Pos} (ha : DX Ts b X W a fa) : DX Ts true X W (.Subscript a (.Slice none (some (.Constant (.int 0) k0 p0)) (some (.UnaryOp .USub (.Constant (.int 1) k p1) p2)) p3) pos) (fun ρ => bnd (fa ρ) fun d => lift (dRevO d)) := by
  obtain ⟨ta, pa, qa⟩ := ha
  refine ⟨_, pe_revO pa, fun G s ρ pz σ H Q R h => ?_⟩
  refine qa G s ρ pz σ H _ R (PostG.bnd h fun d s1 v H1 hm1 w1 e1 a1 h1 => ?_)
  have R1 := R.ext w1 e1
  have q := POut.of R1 h1
  have x1 := a1.w R1
  unfold dRevO at q
  split at q
  · obtain ⟨p, vs, rfl, ho, l⟩ := x1.lst
    exact .inl ⟨p, vs, rfl, SqL.of ho, q.newL R1.trk (l.drop 1).rev⟩
  · obtain ⟨p, vs, rfl, _, ho, l⟩ := x1.tup
    exact .inr ⟨p, vs, rfl, ho, q.newT (l.drop 1).rev⟩
  · exact q.elim
end
end DV

set_option Elab.async false
set_option linter.all false
set_option maxRecDepth 100000
set_option maxHeartbeats 2000000
/-! values as data: targets that change lists of one's own -/
namespace DV
open PySem PySem.Spec PyProof.Rows L2
section
variable {Ts : List Addr} {X : Cx} {W : L2.WX} {e a b' c : Expr} {f fa fb fc : Rho → M D} {b b1 b2 : Bool} {pos : Pos} {es : List Expr} {fs : Rho → M (List D)} {st : Stmt}
/-- a target, own lists among them -/
def DGm (Ts : List Addr) (X : Cx) (W : L2.WX) (tg : Expr) (f : D → Rho → M Rho) : Prop := ∃ g, PG X tg g ∧ ∀ (G : Gh) (s : DS) (ρ : Rho) (pz : Nat → Addr) (σ : L2.St) (H : Hp) (v : V) (d : D) (k : Rho → M Out) (Dn : Ends) (Q : L2.St → Hp → Prop), Rel Ts X.KW G s ρ pz σ H → At X.KW (badE G ρ pz) H v d →
  PostS Ts X W G (bnd (f d ρ) k s) Dn → (∀ s' ρ' σ' H', Rel Ts X.KW G s' ρ' pz σ' H' → (∀ {us es}, AtL X.KW (badE G ρ pz) H us es → AtL X.KW (badE G ρ' pz) H' us es) → PostS Ts X W G (k ρ' s') Dn → Q σ' H') → g v σ H Q
def DGms (Ts : List Addr) (X : Cx) (W : L2.WX) (tgs : List Expr) (f : List D → Rho → M Rho) : Prop := ∃ g, PGs X tgs g ∧ ∀ (G : Gh) (s : DS) (ρ : Rho) (pz : Nat → Addr) (σ : L2.St) (H : Hp) (vs : List V) (ds : List D) (k : Rho → M Out) (Dn : Ends) (Q : L2.St → Hp → Prop), Rel Ts X.KW G s ρ pz σ H → AtL X.KW (badE G ρ pz) H vs ds →
  PostS Ts X W G (bnd (f ds ρ) k s) Dn → (∀ s' ρ' σ' H', Rel Ts X.KW G s' ρ' pz σ' H' → (∀ {us es}, AtL X.KW (badE G ρ pz) H us es → AtL X.KW (badE G ρ' pz) H' us es) → PostS Ts X W G (k ρ' s') Dn → Q σ' H') → g vs σ H Q
def setVm (i : Nat) (d : D) (ρ : Rho) : M Rho := ret (ρ.set i (some (.val d)))
theorem dgm_name (i : Nat) {x : Str} (hN : X.N.Nodup) (hi : X.N[i]? = some x := by rfl) (hx : Loc X.env.scope x := by first | exact Or.inl rfl | exact Or.inr rfl) (hf : X.fn x = true ∨ X.env.scope.names.lookup x = some .local := by first | exact .inl rfl | exact .inr rfl) : DGm Ts X W (.Name x pos) (setVm i) := by
  refine ⟨_, pg_name hN hi hx hf, fun G s ρ pz σ H v d k Dn Q R a h hk => ?_⟩
  exact hk s _ _ H (R.set i a) (fun l => l.mono (fun _ _ _ q => q) (fun _ _ _ q => q) fun a n _ z => n (bad_set (fun ds z => by cases z) z)) h
/-- ds[j] = d -/
def setIx (ds : List D) (jd d : D) : Option (List D) := match jd with
  | .int k => (ixN ds.length k).map fun m => ds.set m d
  | _ => none
def setIm (i : Nat) (fj : Rho → M D) (d : D) (ρ : Rho) : M Rho := bnd (ownS ρ i) fun _ => bnd (fj ρ) fun jd => bnd (ownS ρ i) fun ds => bnd (lift (setIx ds jd d)) fun ds' => ret (ρ.set i (some (.own (.list ds'))))
theorem dgm_sub (i : Nat) {x : Str} {px : Pos} {j : Expr} {fj : Rho → M D} (hj : DX Ts b X W j fj) (hN : X.N[i]? = some x := by rfl) (hv : Vis X.env.scope x := by first | exact Or.inl rfl | exact Or.inr (Or.inl rfl) | exact Or.inr (Or.inr rfl)) (hd : (x == ("__debug__" : Str)) = false := by decide) (hcd : (x == ("__classdict__" : Str)) = false := by decide)
    (ha : ∀ v, assign (.Subscript (.Name x px) j pos) X.env v = (do
      let ov ← holding [v] (eval (.Name x px) X.env)
      let iv ← holding [v, ov] (eval j X.env)
      standAt pos
      holding [v, ov, iv] (setItem ov iv v)
      release [v, ov, iv] []) := by intro _; rfl) : DGm Ts X W (.Subscript (.Name x px) j pos) (setIm i fj) := by
  obtain ⟨tj, pj, qj⟩ := hj
  refine ⟨_, pg_sub (pe_var hN hv hd hcd) pj set_list ha, fun G s ρ pz σ H v d k Dn Q R a h hk => ?_⟩
  unfold setIm at h
  rw [bnd_bnd] at h
  obtain ⟨ds, vs, hr, es, ho, l, h2⟩ := ownS_of R h
  rw [bnd_bnd] at h2
  refine ⟨_, es, qj G s ρ pz σ H _ R (PostG.stm R h2 fun jd s2 v2 H2 hm2 w2 e2 a2 h3 => ?_)⟩
  have R2 := R.ext w2 e2
  rw [bnd_bnd] at h3
  obtain ⟨ds2, vs2, hr2, _, ho2, l2, h4⟩ := ownS_of R2 h3
  rw [hr] at hr2
  cases hr2
  have x2 := a2.w R2
  cases jd with
  | int n =>
    have h4 : PostS Ts X W G (bnd (bnd (lift ((ixN ds.length n).map fun m => ds.set m d)) fun ds' => ret (ρ.set i (some (.own (.list ds'))))) k s2) Dn := h4
    cases hx : ixN ds.length n with
    | none => rw [hx] at h4; exact h4.elim
    | some m =>
      rw [hx] at h4
      refine ⟨pz i, vs2, n, m, rfl, x2.int, ho2, by rw [l2.len]; exact hx, ?_⟩
      have tf : ∀ u, H2 (pz i) = some u → isTF u = false := fun u q => by rw [ho2] at q; cases q; rfl
      refine hk s2 _ σ _ (R2.put i hr (ds' := .list (ds.set m d)) ⟨_, upd_same, (l2.set m (At.ext a e2)).updOwn (.inr ⟨i, _, hr, rfl⟩) tf⟩) (fun {us es} lu => ?_) h4
      refine ((lu.ext e2).updOwn (o := .lst (vs2.set m v)) (.inr ⟨i, _, hr, rfl⟩) tf).mono (fun _ _ _ q => q) (fun _ _ _ q => q) fun a n _ z => n ?_
      rcases z with z | ⟨j, ds1, e1, q⟩
      · exact .inl z
      · rcases set_get e1 with ⟨rfl, _⟩ | ⟨_, e1⟩
        · exact .inr ⟨j, _, hr, q⟩
        · exact .inr ⟨j, _, e1, q⟩
  | _ => exact h4.elim
theorem dgms_nil : DGms Ts X W [] (fun ds ρ => match ds with | [] => ret ρ | _ => stk) := by
  refine ⟨_, pgs_nil, fun G s ρ pz σ H vs ds k Dn Q R a h hk => ?_⟩
  cases a with
  | nil => exact ⟨rfl, hk s ρ σ H R (fun l => l) h⟩
  | cons _ _ => exact h.elim
theorem dgms_cons {e : Expr} {es : List Expr} {h1 : D → Rho → M Rho} {h2 : List D → Rho → M Rho} (a : DGm Ts X W e h1) (b : DGms Ts X W es h2) (hs : (assignEach (e :: es) X.env).map (·.2) = assign e X.env :: (assignEach es X.env).map (·.2) := by rfl) : DGms Ts X W (e :: es) (fun ds ρ => match ds with | d :: r => bnd (h1 d ρ) (h2 r) | [] => stk) := by
  obtain ⟨g1, p1, q1⟩ := a
  obtain ⟨g2, p2, q2⟩ := b
  refine ⟨_, pgs_cons p1 p2 hs, fun G s ρ pz σ H vs ds k Dn Q R l h hk => ?_⟩
  cases l with
  | nil => exact h.elim
  | cons a1 l =>
    rename_i v vs d ds
    have h : PostS Ts X W G (bnd (bnd (h1 d ρ) (h2 ds)) k s) Dn := h
    rw [bnd_bnd] at h
    refine ⟨_, _, rfl, q1 G s ρ pz σ H _ _ _ Dn _ R a1 h fun s' ρ' σ' H' R' up h' => ?_⟩
    exact q2 G s' ρ' pz σ' H' _ _ k Dn Q R' (up l) h' fun s2 ρ2 σ2 H2 R2 up2 h2 => hk s2 ρ2 σ2 H2 R2 (fun l => up2 (up l)) h2
def tupM (n : Nat) (h : List D → Rho → M Rho) (d : D) (ρ : Rho) : M Rho := match d with
  | .tuple ds => if ds.length = n then h ds ρ else stk
  | _ => stk
theorem dgm_tup {es : List Expr} {h : List D → Rho → M Rho} {k : Nat} (n : Nat) (b : DGms Ts X W es h) (hc : X.calm = true) (hn : (assignEach es X.env).length = n := by rfl) (hst : (assignEach es X.env).findIdx? (·.1) = none := by rfl) : DGm Ts X W (.Tuple es k pos) (tupM n h) := by
  obtain ⟨g, p, q⟩ := b
  refine ⟨_, pg_tup hc p hn hst, fun G s ρ pz σ H v d k Dn Q R a hh hk => ?_⟩
  cases a with
  | tup r l =>
    rename_i a0 xs ds
    by_cases hl : ds.length = n
    · have hh : PostS Ts X W G (bnd (if ds.length = n then h ds ρ else stk) k s) Dn := hh
      rw [if_pos hl] at hh
      refine ⟨a0, xs, rfl, r.sq, by rw [l.len]; exact hl, q G s ρ pz σ H _ _ k Dn Q R l hh hk⟩
    · have hh : PostS Ts X W G (bnd (if ds.length = n then h ds ρ else stk) k s) Dn := hh
      rw [if_neg hl] at hh
      exact hh.elim
  | _ => exact hh.elim
theorem ds_asgM {tg : Expr} {h : D → Rho → M Rho} (ha : DX Ts true X W a fa) (hg : DGm Ts X W tg h) (hs : swapsWithSole [tg] a pos.line X.env = pure false := by rfl) (hw : swappedStores [tg] a X.env = pure none := by rfl) (hz : (assignEach [tg] X.env).map (·.2) = [assign tg X.env] := by rfl) : DS1 Ts X W (.Assign [tg] a pos) (fun ρ => bnd (fa ρ) fun d => bnd (h d ρ) fun ρ' => ret (.nx ρ')) := by
  obtain ⟨ta, pa, qa⟩ := ha
  obtain ⟨g, pg, qg⟩ := hg
  refine ⟨_, ps_asg pa pg hs hw hz, fun G s ρ pz σ H Dn R h => ?_⟩
  refine qa G s ρ pz σ H _ R (PostG.stm R h fun d s1 v H1 hm1 w1 e1 a1 h1 => ?_)
  exact qg G s1 ρ pz σ H1 v d _ Dn _ (R.ext w1 e1) a1 h1 fun s' ρ' σ' H' R' up h' => h' pz σ' H' R'
end
end DV

set_option Elab.async false
set_option linter.all false
set_option maxRecDepth 100000
set_option maxHeartbeats 2000000
/-! values as data: enumerate -/
namespace DV
open PySem PySem.Spec PyProof.Rows L2
namespace En
open PySem.Sem PySem.Builtin
theorem meets_new1 {v : Value} {o : Obj} {H : Heap → Prop} (B : PySem.Begins v o H) :
    Meets (Builtin.«enumerate.__new__» ⟨[.type "enumerate", v], []⟩) (fun _ R s => H s.heap ∧
      R (.ok (.ret (.ref (s.heap.push o).objs.size))) { s with heap := (s.heap.push o).push { cls := .type "enumerate", data := .fields #[.none, .bool false, .ref s.heap.objs.size, rawInt 0, .none, .none] } }) :=
  .of_wp fun prog w A R s h => by
    obtain ⟨hp, g, d, tk, os⟩ := s; obtain ⟨h1, h⟩ := h
    have hsub := PySem.sub_enumerate
    have q1 : ∀ {A' : Around} {E : Value → Shared → Prop} {Q : Value → Shared → Prop}, Q (.ref hp.objs.size) ⟨hp.push o, g, d, tk, os⟩ → wpAny (model prog w) A' (pyIter v) Q E ⟨hp, g, d, tk, os⟩ :=
      fun q => B.iter prog w _ _ ⟨hp, g, d, tk, os⟩ _ h1 q
    wp_walk using q1
    refine wpAny_stack_any fun st => wpAny_pure ?_
    split
    · rename_i c _ _ _ _ _
      cases (c == Value.type "enumerate")
      · wp_walk using q1
        exact ⟨_, rfl, h⟩
      · wp_walk using q1
        exact ⟨_, rfl, h⟩
    · wp_walk using q1
      exact ⟨_, rfl, h⟩
section
variable {prog : Program} {w : World} {A : Around} {E : Value → Shared → Prop} {s : Shared}
theorem begins1 {v : Value} {o : Obj} {H : Heap → Prop} {Q : Value → Shared → Prop} (B : PySem.Begins v o H) (h1 : H s.heap)
    (h : ∀ h', IsEnum h' (s.heap.objs.size + 1) s.heap.objs.size 0 .none → h'.get? s.heap.objs.size = some o → h'.objs.size = s.heap.objs.size + 2 →
      (∀ b o, s.heap.get? b = some o → h'.get? b = some o) → Q (.ref (s.heap.objs.size + 1)) { s with heap := h' }) :
    wpAny (model prog w) A (call (.type "enumerate") [v]) Q E s := by
  refine callType_new F.called_enumerate (by decide) (F.typeCall_enumerate_1 _) (F.newCall_enumerate_1 _) (fun obj => F.args_object_init_2 obj _) F.entry_enumerate_new
    (meets_new1 B) ⟨h1, ?_⟩
  have hz : (s.heap.push o).objs.size = s.heap.objs.size + 1 := Heap.size_push ..
  show _ ∧ _
  rw [hz]
  have he : IsEnum ((s.heap.push o).push { cls := .type "enumerate", data := .fields #[.none, .bool false, .ref s.heap.objs.size, rawInt 0, .none, .none] }) (s.heap.objs.size + 1) s.heap.objs.size 0 .none := by
    have := Heap.get?_push_size (s.heap.push o) (o := { cls := .type "enumerate", data := .fields #[.none, .bool false, .ref s.heap.objs.size, rawInt 0, .none, .none] }) rfl
    rw [hz] at this; exact this
  refine ⟨⟨_, he, rfl⟩, h _ he (Heap.get?_push_of_some _ (Heap.get?_push_size _ B.free)) (by rw [Heap.size_push, hz]) fun b o x => Heap.get?_push_of_some _ (Heap.get?_push_of_some _ x)⟩
end
/-- the tuple at a, each item in a new pair -/
def Iet (K : PySem.W.Frag) (a : Addr) : It :=
  ⟨fun i H => ∃ (xs : List V) (x : V), SqT K H a xs ∧ xs[i]? = some x, fun i H v H' => ∃ T x, v = .ref T ∧ H T = none ∧ H' = upd H T (.tup [.int (i : Nat), x]) ∧ ∀ xs, SqT K H a xs → xs[i]? = some x, fun i H => ∃ xs : List V, SqT K H a xs ∧ xs.length ≤ i⟩
theorem enum_endT {e it t : Addr} {prog : Program} {w : World} {A : Around} {E : Value → Shared → Prop} {s : Shared} {i : Int} {j : Nat} {items : Array Value} {old : Value} {Q : Option Value → Shared → Prop} (hh : A.in1.handled = none)
    (he : IsEnum s.heap e it i old) (hit : s.heap.IsTupleIter it t j) (ht : s.heap.IsTuple t items) (hx : items[j]? = none)
    (hQ : ∀ h', Heap.ExtBut it s.heap h' → Q none { s with heap := h' }) : wpAny (model prog w) A (pyNext (.ref e)) Q E s := by
  have hT : s.TypeIs (.ref e) "enumerate" := ⟨_, he, rfl⟩
  unfold pyNext
  refine wpAny_bind (wpAny_attempt (wpAny_callSpecial?_slot (name := Str.ofString "__next__") hT F.slot_enumerate_next
    (wpAny_call_entry F.slot_enumerate_next hT F.entry_enumerate_next ?_ (F.args_enumerate_next_1 _))))
  show wpAny _ _ (field (.ref e) 2 >>= _) _ _ _
  refine wpAny_bind (wpAny_field he rfl (x := .ref it) rfl ?_)
  refine wpAny_bind (wpAny_nextOf_tuple_end hh hit ht hx fun h' x he' hx' => ?_)
  obtain ⟨o, ho, hc⟩ := hx'
  refine wpAny_bind (wpAny_isInstance (T := "StopIteration") (b := true) ⟨o, ho, hc⟩ isSubtype_stop ?_)
  exact wpAny_pure (hQ _ he')
theorem tup_inj {X : Cx} {pins : List (Addr × Obj)} {σ : L2.St} {H : Hp} {s : Shared} {a : Addr} {xs ys : List V} (I : Inv X pins σ H s) (h1 : SqT X.K H a xs) (h2 : SqT X.K H a ys) : xs.length = ys.length := by
  obtain ⟨u1, r1, ⟨o1, p1, _, n1, d1⟩, _⟩ := I.tuple h1
  obtain ⟨u2, r2, ⟨o2, p2, _, n2, d2⟩, _⟩ := I.tuple h2
  rw [p1] at p2
  cases p2
  rw [d1] at d2
  have e : u1.toArray = u2.toArray := by injection d2
  have e2 := congrArg Array.size e
  rw [List.size_toArray, List.size_toArray, ← r1.length, ← r2.length] at e2
  exact e2
theorem turn_enumT {P : Program} {w : World} {K : PySem.W.Frag} {elts : List Expr} {kk : Nat} {tpos : Pos} (a e it : Addr) :
    Turn P w K (.Tuple elts kk tpos) (Iet K a) [e, it] e (fun i h => (∃ old, IsEnum h e it ((i : Nat) : Int) old) ∧ h.IsTupleIter it a i ∧ e ≠ it) where
  mem := by simp
  obj := fun i h st b hb => by
    obtain ⟨⟨old, he⟩, ⟨o, ho, hc, hd⟩, _⟩ := st
    have e' : b = e ∨ b = it := by simpa using hb
    rcases e' with z | z
    · rw [z]; exact ⟨_, he, fun v q => nomatch q⟩
    · rw [z]; exact ⟨o, ho, fun v q => by rw [hd] at q; cases q⟩
  keep := fun i h h' st k => let ⟨⟨old, he⟩, hi, hne⟩ := st; ⟨⟨old, k e (by simp) _ he⟩, hi.at fun o q => k it (by simp) o q, hne⟩
  item := by
    intro X hP hw hK hc i pins s σ H E I hf st hg
    subst hP hw hK
    obtain ⟨⟨old, he⟩, hit, hne⟩ := st
    obtain ⟨xs, x, hq, hx⟩ := hg
    obtain ⟨its, rv, p, hz⟩ := I.tuple hq
    obtain ⟨u, hu, ru⟩ := rv.get hx
    have hel : e < s.heap.objs.size := Heap.lt_size he
    have hil : it < s.heap.objs.size := by obtain ⟨_, q, _⟩ := hit; exact Heap.lt_size q
    have hT : s.heap.IsTuple a its.toArray := p
    have hae : e ≠ a := fun z => by
      obtain ⟨o, ho, hc, _⟩ := p
      rw [← z, he] at ho
      cases ho
      exact absurd (Value.type.inj hc) (by decide)
    have hai : a ≠ it := fun z => by
      obtain ⟨o, ho, hc, _⟩ := p
      obtain ⟨o2, ho2, hc2, _⟩ := hit
      rw [z, ho2] at ho
      cases ho
      rw [hc2] at hc
      exact absurd (Value.type.inj hc) (by decide)
    have hlt : i < its.toArray.size := by
      rw [List.size_toArray, ← rv.length]
      exact (List.getElem?_eq_some_iff.mp hx).1
    refine wpAny_pyNext_enum_itemD (Draws.tuple (A := X.A.in1) (show X.A.in1.handled = none from I.ok.hd hc) it a hai its.toArray) he ⟨hit, hT⟩ hlt hne (by simp [hne, hae]) fun x' h' tk hP ho hst' hT' hsz hk => ?_
    have ex : x' = u := by
      have : its.toArray[i]? = some u := by simpa using hu
      rw [this] at hP
      exact (Option.some.inj hP).symm
    subst ex
    refine ⟨_, rfl, wpAny_letOwnedTupleGo_enum (s := { s with heap := h', toks := tk + 1 }) ho fun h'' he' sb => ?_⟩
    have hT2 : h''.get? s.heap.objs.size = some { cls := .type "tuple", data := .seq #[.int i tk, x'] } := (sb.2 _ (Nat.ne_of_gt hel)).trans hT'
    have new : ObjOk X.prog X.w (upd H s.heap.objs.size (.tup [.int (i : Nat), x])) h'' s.heap.objs.size (.tup [.int (i : Nat), x]) :=
      ⟨by show 2 ≤ sizeLine; decide, [.int i tk, x'], .cons ⟨_, rfl⟩ (.cons ru .nil), ⟨_, hT2, rfl, _, rfl⟩⟩
    have I1 : Inv X pins σ (upd H s.heap.objs.size (.tup [.int (i : Nat), x])) { s with heap := h'', toks := tk + 1 } :=
      I.turnedNew (ch := [e, it]) (fun b ob hb q => (sb.2 b (fun z => hb (by simp [z]))).trans (hk b ob (fun z => hb (by simp [z])) (fun z => hb (by simp [z])) q)) hf (Nat.le_refl _) new
    refine ⟨.ref s.heap.objs.size, _, I1, rfl, ⟨_, x, rfl, I.hok.fresh (Nat.le_refl _), rfl, fun ys hy => by rw [I.tuple_inj hy hq]; exact hx⟩, ⟨⟨x', ?_⟩, hst'.1.at fun o q => (sb.2 it (Ne.symm hne)).trans q, hne⟩, fun b hb => ?_⟩
    · have e1 : ((i + 1 : Nat) : Int) = (i : Int) + 1 := by omega
      rw [e1]; exact he'
    · have hb' : b < s.heap.objs.size := by
        have e' : b = e ∨ b = it := by simpa using hb
        rcases e' with z | z
        · rw [z]; exact hel
        · rw [z]; exact hil
      rw [upd_ne (Nat.ne_of_lt hb')]
      exact (hf b hb).1
  done := by
    intro X hP hw hK hc i pins s σ H E I hf st hg
    subst hP hw hK
    obtain ⟨⟨old, he⟩, hit, hne⟩ := st
    obtain ⟨xs, hq, hx⟩ := hg
    obtain ⟨its, rv, p, hz⟩ := I.tuple hq
    obtain ⟨f0, f1, f2, f3, f4, f5⟩ := hf it (by simp)
    have hl := rv.length
    exact enum_endT (show X.A.in1.handled = none from I.ok.hd hc) he hit p (by simp; omega) fun h' eb => ⟨rfl, I.turned (t' := s.toks) (fun b o hb q => eb b o hb q) f0 f1 f3 f4 f5⟩
  self := fun A i s Q E st h => let ⟨⟨_, he⟩, _⟩ := st; wpAny_pyIter_enum he h
def iEnumA (K : PySem.W.Frag) (ta : TA) : TI := fun σ H R => ta σ H fun vs H1 => ∃ a xs, vs = [.ref a] ∧ ((SqL K H1 a xs ∧ R (Ite K a) H1) ∨ (SqT K H1 a xs ∧ R (Iet K a) H1))
theorem pi_enumA {X : Cx} {e : Expr} {ta : TA} {p pos tpos : Pos} {elts : List Expr} {kk : Nat} (hg : Gl X "enumerate") (hm : X.mg "enumerate" = none) (ha : PA X [e] ta) (hs : starEach [e] X.env = [(false, eval e X.env)] := by rfl) :
    PI X (.Tuple elts kk tpos) (.Call (.Name "enumerate" p) [e] [] pos) (iEnumA X.K ta) := by
  refine ⟨fun pins s σ H R I h => ?_⟩
  refine Call_ (ld_blt I hg hm boot_enumerate (PyProof.Rows.callWith_type1 (thn (ha.run pos pins s σ H _ I h) fun us s1 ⟨vs, H1, I1, r1, q1⟩ => ?_) hs rfl))
  obtain ⟨a, xs, ex, h⟩ := q1
  subst ex
  have fpk : ∀ b ∈ [s1.heap.objs.size + 1, s1.heap.objs.size], FpOk X pins H1 b := fun b hb => by
    have e' : b = s1.heap.objs.size + 1 ∨ b = s1.heap.objs.size := by simpa using hb
    have hle : s1.heap.objs.size ≤ b := by
      rcases e' with z | z
      · rw [z]; exact Nat.le_add_right _ _
      · rw [z]; exact Nat.le_refl _
    exact I1.fpOk hle (I1.hok.fresh hle)
  cases r1 with
  | cons r rr =>
    cases rr
    cases r
    rcases h with ⟨hq, q⟩ | ⟨hq, q⟩
    · obtain ⟨its, rv, p', hz⟩ := I1.list hq
      refine call_enumerate_list p'.isList fun h' he hit hsz hk => wpAny_pyIter_enum he ?_
      have I2 : Inv X pins σ H1 { s1 with heap := h' } := I1.kept (t' := s1.toks) hk
      exact ⟨s1.heap.objs.size + 1, [s1.heap.objs.size + 1, s1.heap.objs.size], _, _, H1, rfl, I2, turn_enum a (s1.heap.objs.size + 1) s1.heap.objs.size, ⟨⟨.none, he⟩, hit, Nat.succ_ne_self _⟩, fpk, q⟩
    · obtain ⟨its, rv, p', hz⟩ := I1.tuple hq
      refine begins1 (PySem.begins_tuple a its.toArray) p' fun h' he hit hsz hk => wpAny_pyIter_enum he ?_
      have I2 : Inv X pins σ H1 { s1 with heap := h' } := I1.kept (t' := s1.toks) hk
      exact ⟨s1.heap.objs.size + 1, [s1.heap.objs.size + 1, s1.heap.objs.size], _, _, H1, rfl, I2, turn_enumT a (s1.heap.objs.size + 1) s1.heap.objs.size, ⟨⟨.none, he⟩, ⟨_, hit, rfl, rfl⟩, Nat.succ_ne_self _⟩, fpk, q⟩
end En
section
variable {Ts : List Addr} {X : Cx} {W : L2.WX} {e a b' c : Expr} {f fa fb fc : Rho → M D} {b b1 b2 : Bool} {pos : Pos} {es : List Expr} {fs : Rho → M (List D)} {K : KW} {G : Gh} {B : Hp}
def enumL (ds : List D) : List D := ds.mapIdx fun i d => .tuple [.int (i : Nat), d]
def enumD (ds : List D) : M (List D) := match ds with
  | [.tuple xs] => ret (enumL xs)
  | [.list xs] => ret (enumL xs)
  | _ => stk
theorem jok_enum {p : Addr} {vs : List V} {ds : List D} (J : It) (SQ : Hp → Addr → List V → Prop)
    (hJ : J = ⟨fun i H => ∃ (xs : List V) (x : V), SQ H p xs ∧ xs[i]? = some x,
      fun i H v H' => ∃ T x, v = .ref T ∧ H T = none ∧ H' = upd H T (.tup [.int (i : Nat), x]) ∧ (∀ xs, SQ H p xs → xs[i]? = some x),
      fun i H => ∃ xs : List V, SQ H p xs ∧ xs.length ≤ i⟩)
    (h1 : ∀ H2, ExtO G B H2 → SQ H2 p vs) (l1 : AtL K G.bad B vs ds) : JOk true K G B J (enumL ds) := fun H2 e => by
  subst hJ
  unfold enumL
  refine ⟨⟨vs, h1 H2 e, ?_⟩, fun k d hd => ?_⟩
  · rw [List.length_mapIdx, l1.len]
    exact Nat.le_refl _
  · rw [List.getElem?_mapIdx] at hd
    cases hz : ds[k]? with
    | none => rw [hz] at hd; cases hd
    | some w =>
      rw [hz] at hd
      cases hd
      obtain ⟨v, hv, av⟩ := l1.get hz
      refine ⟨⟨vs, v, h1 H2 e, hv⟩, fun x H3 ⟨T, x1, ex, hT, e3, g1⟩ => ?_⟩
      subst ex e3
      have q1 := g1 vs (h1 H2 e)
      rw [hv] at q1
      cases q1
      refine ⟨same_new hT, fun bad' hb => ?_⟩
      exact .inr ⟨_, _, _, rfl, upd_same, rfl, (AtL.cons (.int _) (.one (at_from av e hb))).same (same_new hT)⟩
theorem di_enum {p tpos : Pos} {elts : List Expr} {kk : Nat} (hg : Gl X "enumerate") (hm : X.mg "enumerate" = none) (ha : DX Ts true X W a fa) (hs : starEach [a] X.env = (false, eval a X.env) :: starEach [] X.env := by rfl)
    (pz : ∀ {ta : TA}, PA X [a] ta → PI X (.Tuple elts kk tpos) (.Call (.Name "enumerate" p) [a] [] pos) (En.iEnumA X.K ta)) : DI true Ts X W (.Tuple elts kk tpos) (.Call (.Name "enumerate" p) [a] [] pos) (fun ρ => bnd (fa ρ) fun d => enumD [d]) := by
  obtain ⟨ta, pa, qa⟩ := ha
  refine ⟨_, pz (pa_cons pa pa_nil hs), fun G s ρ pz σ H R RR h => ?_⟩
  refine qa G s ρ pz σ H _ RR (PostG.bnd h fun d s1 v H1 hm1 w1 e1 a1 h1 => ?_)
  have R1 := RR.ext w1 e1
  have a1 : At X.KW (badE G ρ pz) H1 v d := a1
  unfold enumD at h1
  cases a1 with
  | tup r1 l1 =>
    rename_i p xs ds
    exact ⟨p, xs, rfl, .inr ⟨r1.sq, h1 _ H1 w1 .refl (jok_enum _ (fun H a xs => SqT X.K H a xs) rfl (fun H2 e => ext_tup e (now_tup R1 r1.sq)) (now_at R1 l1))⟩⟩
  | lst n1 r1 l1 =>
    rename_i p xs ds
    have k : ∀ H2, ExtO G (G.now ρ pz H1).H0 H2 → SqL X.K H2 p xs := fun H2 e =>
      SqL.of (e.keep p _ (fun z => n1 (by rw [z]; exact badE_dr)) (fun z => n1 (badE_tab z)) (by rw [now_get fun ⟨i, es, e1, e2⟩ => n1 (.inr ⟨i, es, e1, e2⟩)]; exact r1))
    exact ⟨p, xs, rfl, .inl ⟨SqL.of r1, h1 _ H1 w1 .refl (jok_enum _ (fun H a xs => SqL X.K H a xs) rfl k (now_at R1 l1))⟩⟩
  | _ => exact h1.elim
end
end DV

set_option Elab.async false
set_option linter.all false
set_option maxRecDepth 100000
set_option maxHeartbeats 2000000
/-! values as data: a, b = e1, e2, the statement spelled out -/
namespace DV
open PySem PySem.Spec PyProof.Rows L2
section
variable {Ts : List Addr} {X : Cx} {W : L2.WX} {e a b' c : Expr} {f fa fb fc : Rho → M D} {b b1 b2 : Bool} {pos : Pos}
theorem ds_parS (i j : Nat) {x y : Str} {px py pt : Pos} {kt k2 pt2} (ha : DX Ts true X W a fa) (hb : DX Ts true X W b' fb) (hc : X.calm = true) (hN : X.N.Nodup) (hi : X.N[i]? = some x) (hj : X.N[j]? = some y) (hij : i ≠ j)
    (hx : X.env.scope.names.lookup x = some .local) (hy : X.env.scope.names.lookup y = some .local)
    (hw : swappedStores [.Tuple [.Name x px, .Name y py] kt pt] (.Tuple [a, b'] k2 pt2) X.env = pure (some [x, y]))
    (hs : swapsWithSole [.Tuple [.Name x px, .Name y py] kt pt] (.Tuple [a, b'] k2 pt2) pos.line X.env = pure false := by rfl)
    (hs1 : starEach [a, b'] X.env = (false, eval a X.env) :: starEach [b'] X.env := by rfl) (hs2 : starEach [b'] X.env = (false, eval b' X.env) :: starEach [] X.env := by rfl) :
    DS1 Ts X W (.Assign [.Tuple [.Name x px, .Name y py] kt pt] (.Tuple [a, b'] k2 pt2) pos) (fun ρ => bnd (fa ρ) fun d => bnd (fb ρ) fun d2 => ret (.nx ((ρ.set i (some (.val d))).set j (some (.val d2))))) :=
  ds_par i j ha hb hc hN hi hj hij (fun _ p => ps_par hc hN hi hj hij hx hy p hw hs) hs1 hs2
end
end DV

set_option Elab.async false
set_option linter.all false
set_option maxRecDepth 100000
set_option maxHeartbeats 4000000
/-! sorted(elt for target in iter) -/
namespace DG
open PySem PySem.Spec PySem.W PyProof.Rows L2 GenW
section
variable {prog : Program} {w : World} {A : Around} {E : Value → Shared → Prop} {s : Shared}
theorem sorted_any {a : Value} {Q : Value → Shared → Prop}
    (h : wpAny (model prog w) A.in1 (collect a) (fun us s' => us.length ≤ sizeLine ∧ ∃ κ, SortsAt prog w A.in1.in1 { s' with heap := sortingHeap (s'.heap.push (seqObj "list" us.toArray 0)) s'.heap.objs.size us } κ us ∧
      Q (.ref s'.heap.objs.size) { s' with heap := sortedHeap (s'.heap.push (seqObj "list" us.toArray 0)) s'.heap.objs.size us (sortVals κ false us us).toArray }) (fun _ _ => False) s) :
    wpAny (model prog w) A (call (.builtin "sorted") [a]) Q E s := by
  refine call_function_entry_kw kind_sorted plain_sorted entry_sorted (args_sorted1 _) ?_
  unfold Builtin.«sorted»
  refine wpAny_bind (m := checkCount "sorted" 1 1 _) (wpAny_pure (wpAny_bind (wpAny_mono h (fun us s' ⟨hL, κ, S, hq⟩ => ?_) fun _ _ z => z.elim)))
  refine wpAny_bind (wpAny_newList ?_ hL)
  have ho : (s'.heap.push (seqObj "list" us.toArray 0)).get? s'.heap.objs.size = some (seqObj "list" us.toArray 0) := Heap.get?_push_size _ rfl
  refine wpAny_bind (wpAny_holding (wpAny_call_entry_kw slot_list_sort ⟨_, ho, rfl⟩ entry_list_sort ?body (args_list_sort _)))
  case body =>
    show wpAny (model prog w) A.in1.in1 (Builtin.«list.sort» ⟨[.ref s'.heap.objs.size], []⟩) _ _ _
    refine wpAny_mono (list_sort_vals (P := fun f s2 => f = .done (.ret .none) ∧ Q (.ref s'.heap.objs.size) s2) (s := { s' with heap := s'.heap.push (seqObj "list" us.toArray 0) }) ho S hL ⟨rfl, hq⟩) (fun f s2 hf => ?_) fun _ _ e => e
    obtain ⟨rfl, hq⟩ := hf
    exact ⟨_, rfl, wpAny_pure ⟨_, rfl, hq⟩⟩
end
section
variable {X : Cx}
/-- what a sort asks of its items -/
def SortQ (K : PySem.W.Frag) (ys : List V) (H : Hp) (Q : VK) : Prop := ys.length ≤ sizeLine ∧ ∃ ds, DpAll K H ys ds ∧ PySem.W.AllAlike ds ∧ PySem.W.Sortable ds ∧ (∀ d ∈ ds, PyData.depth d ≤ 62) ∧
  ∀ (zs : List (V × PyData)) (p : Addr), zs.Perm (ys.zip ds) → zs.map (·.2) = DV.sortD ds → H p = none → Q (.ref p) (upd H p (.lst (zs.map (·.1))))
theorem sort_done {pins : List (Addr × Obj)} {σ : L2.St} {H : Hp} {s : Shared} {ys : List V} {us : List Value} {Q : VK} (hu : X.A.units + 65 < cLine) (I : Inv X pins σ H s) (rv : Vals ys us) (h : SortQ X.K ys H Q) :
    us.length ≤ sizeLine ∧ ∃ κ, SortsAt X.prog X.w X.A.in1.in1 { s with heap := sortingHeap (s.heap.push (seqObj "list" us.toArray 0)) s.heap.objs.size us } κ us ∧
      EP X pins σ Q (.ref s.heap.objs.size) { s with heap := sortedHeap (s.heap.push (seqObj "list" us.toArray 0)) s.heap.objs.size us (sortVals κ false us us).toArray } := by
  obtain ⟨hl, ds, hd, ha, hk, hdep, q⟩ := h
  have hlen := DV.dpAll_len hd
  have hlu := rv.length
  have em : (ys.zip ds).map (·.2) = ds := DV.zip_snd hlen
  obtain ⟨e1, e2⟩ := DV.each_zip I rv hd
  have ho : (s.heap.push (seqObj "list" us.toArray 0)).get? s.heap.objs.size = some (seqObj "list" us.toArray 0) := Heap.get?_push_size _ rfl
  have old : ∀ b o, s.heap.get? b = some o → (sortingHeap (s.heap.push (seqObj "list" us.toArray 0)) s.heap.objs.size us).get? b = some o := fun b o e => sortingHeap_old (Nat.ne_of_lt (Heap.lt_size e)) (Heap.get?_push_of_some _ e)
  have er' : EachIs (fun v (b : V × PyData) => ∃ as, Reads (sortingHeap (s.heap.push (seqObj "list" us.toArray 0)) s.heap.objs.size us) v b.2 as) us (ys.zip ds) := e2.mono fun _ _ ⟨as, r⟩ => ⟨as, PyProof.Rows.Reads.keeps old r⟩
  have hal : AllAlike ((ys.zip ds).map (·.2)) := by rw [em]; exact ha
  have hks : Sortable ((ys.zip ds).map (·.2)) := by rw [em]; exact hk
  refine ⟨by rw [← hlu]; exact hl, _, SortsAt.data (s := { s with heap := sortingHeap (s.heap.push (seqObj "list" us.toArray 0)) s.heap.objs.size us }) (each_map (R := fun v d => ∃ as, Reads (sortingHeap (s.heap.push (seqObj "list" us.toArray 0)) s.heap.objs.size us) v d as) (fun b : V × PyData => b.2) er') hal hks (bound_map fun b hb => ?_), ?_⟩
  · have : b.2 ∈ ds := by rw [← em]; exact List.mem_map_of_mem hb
    have := hdep _ this
    show X.A.units + 2 + _ < cLine
    omega
  · have ol := sortVals_length (κ := dataKind (sortingHeap (s.heap.push (seqObj "list" us.toArray 0)) s.heap.objs.size us) ((ys.zip ds).map (·.2))) (ks := us) (vs := us) false rfl
    have eo := sortVals_data false e1 er' hal
    obtain ⟨ep, he'⟩ := sortedHeap_at (out := (sortVals (dataKind (sortingHeap (s.heap.push (seqObj "list" us.toArray 0)) s.heap.objs.size us) ((ys.zip ds).map (·.2))) false us us).toArray) ho
    have perm := List.mergeSort_perm (ys.zip ds) (dataLe false (fun b : V × PyData => b.2))
    have ms : ((ys.zip ds).mergeSort (dataLe false (fun b : V × PyData => b.2))).map (·.2) = DV.sortD ds := by
      unfold DV.sortD
      conv => rhs; rw [← em]
      exact List.map_mergeSort fun a _ b _ => rfl
    have hlen2 : (((ys.zip ds).mergeSort (dataLe false (fun b : V × PyData => b.2))).map (·.1)).length ≤ sizeLine := by
      rw [List.length_map, perm.length_eq, List.length_zip]; omega
    exact ⟨.ref _, upd H s.heap.objs.size (.lst (((ys.zip ds).mergeSort (dataLe false (fun b : V × PyData => b.2))).map (·.1))), I.laid (t' := s.toks) (fun b o e => (sortedHeap_old (Nat.ne_of_lt (Heap.lt_size e)) (by rw [Heap.size_push]; exact Nat.lt_succ_of_lt (Heap.lt_size e))).trans (Heap.get?_push_of_some _ e)) (Nat.le_refl _) ⟨hlen2, _, ep, DV.vals_each eo, he'⟩, rfl, q _ _ perm ms (I.hok.fresh (Nat.le_refl _))⟩
def tSortG (P : Addr) (wi : TI) (g : TG) (tt : TT) (te : TE) (vs : List Nat) (K : PySem.W.Frag) : TE := fun σ H Q => wi σ H fun J H1 => GxR.TabG H1 P ∧ ∀ H2, GxR.Tabbed P H1 H2 →
  ∃ W : Nat → Nat → List V → Hp → Prop, (∃ m, W 0 m [] H2) ∧ ∀ i m ys H, W i m ys H → (J.stop i H ∧ SortQ K ys H Q) ∨
    (J.go i H ∧ ∀ x H', J.yld i H x H' → g x (wipe σ vs) H' fun σ2 H2 => wipe σ2 vs = wipe σ vs ∧ tt σ2 H2 fun b H3 =>
      if b = true then te σ2 H3 fun y H4 => ys.length < sizeLine ∧ ∃ m', m' < m ∧ W (i + 1) m' (ys ++ [y]) H4 else ∃ m', m' < m ∧ W (i + 1) m' ys H3)
variable {c P : Addr} {elt tg iter : Expr} {ifs : List Expr} {pos cpos px : Pos} {scope : Scope} {own : List (Str × Nat)} {wi : TI} {g : TG} {tt : TT} {te : TE} {k : Nat}
theorem pe_sortG (hu : X.A.units + 65 < cLine) (G : GenOk X c P k scope own iter) (hgl : Gl X "sorted") (hm : X.mg "sorted" = none) (hb : bootBuiltins "sorted" = some (.builtin "sorted")) (hi : PI X tg iter wi)
    (hg : ∀ (s : Shared) (H : Hp) (C : Addr) (code : Value) (fp : List Addr) (u : Nat), PG (gcx X s H scope C code fp u) tg g)
    (ht : ∀ (s : Shared) (H : Hp) (C : Addr) (code : Value) (fp : List Addr) (u : Nat), u ≤ 8 → PTs (gcx X s H scope C code fp u) ifs tt)
    (he : ∀ (s : Shared) (H : Hp) (C : Addr) (code : Value) (fp : List Addr) (u : Nat), u ≤ 8 → PE (gcx X s H scope C code fp u) elt te)
    (hst : starEach [gExp elt tg iter ifs scope pos] X.env = (false, eval (gExp elt tg iter ifs scope pos) X.env) :: starEach [] X.env := by rfl) :
    PE X (.Call (.Name "sorted" px) [gExp elt tg iter ifs scope pos] [] cpos) (tSortG P wi g tt te (own.map (·.2)) X.K) := by
  refine ⟨fun pins s σ H Q I h => ?_⟩
  refine wpAny_Call_Name_kw (ld_blt I hgl hm hb ?_)
  rw [hst]
  refine Calls.callWith_builtin rfl (Calls.evalArgs_plain ?_)
  show wpAny _ _ (spliced ((false, eval (gExp elt tg iter ifs scope pos) X.env) :: backTo cpos (starEach [] X.env))) _ _ s
  refine Calls.spliced_cons (gen_make G.hr G.TB G.code G.ok G.nd G.calm hi hg ht he G.fold I h fun J H2 a s5 ⟨W, ⟨m0, w0⟩, turn⟩ M => ?_)
  obtain ⟨s4, ge, fp, tn, ao, gi, e1, hao, alt, _, a4, _, back, gat, keepT⟩ := M.gen
  subst e1
  have hh := G.hr.hd
  refine Calls.spliced_nil ?_
  have tr : GP.turn ⟨J, g, tt, te, own.map (·.2), W, fun ys H => SortQ X.K ys H Q, fun i m ys y H => ys.length < sizeLine ∧ ∃ m', m' < m ∧ W (i + 1) m' (ys ++ [y]) H⟩ σ := fun i m ys H w => by
    rcases turn i m ys H w with ⟨st, q⟩ | ⟨go, step⟩
    · exact .inl ⟨st, q⟩
    · exact .inr ⟨go, fun H' => ∃ m', m' < m ∧ W (i + 1) m' ys H', fun _ z => z, step⟩
  have GA := gat 2 [] s5 (by omega) (fun _ _ e => e) rfl rfl (fun _ z => absurd z (by simp)) _ _ _ m0 tr w0
  have go := (GA.1.inv.pin ao (List.mem_append_right _ List.mem_cons_self)).1
  refine sorted_any ?_
  refine any_collect (X := genCx X s4 H2 ge fp (2 + 1)) (σ := σ) (m0 := m0) (H2 := H2) (p := ⟨J, g, tt, te, own.map (·.2), W, fun ys H => SortQ X.K ys H Q, fun i m ys y H => ys.length < sizeLine ∧ ∃ m', m' < m ∧ W (i + 1) m' (ys ++ [y]) H⟩) (A := X.A.in1) hh G.hr.depth hao go keepT rfl (Nat.le_of_lt (Nat.lt_of_le_of_lt a4 alt)) (fun c s' k gs os e => ?_) (fun i m ys y H o => o) (fun s' H' ys us ps I' rv f => ?_)
  · exact gat 2 [(s5.heap.objs.size, lsO #[] c)] s' (by omega) k gs os (fun q hq => by
      rw [List.mem_singleton.mp hq]
      exact ⟨e, Nat.le_refl _, fun v z => by cases z⟩) _ _ _ m0 tr w0
  · exact sort_done hu (back _ _ _ _ _ I') rv f
end
end DG
namespace DV
open PySem PySem.Spec PyProof.Rows L2 _root_.DG
section
variable {Ts : List Addr} {X : Cx} {W : L2.WX} {pos cpos px : Pos} {elt tg iter a : Expr} {ifs : List Expr} {fi : Rho → M (List D)} {hh : D → Rho → Option Rho} {is : List Nat} {y : Bool} {tt : Rho → M Bool} {fe : Rho → M D} {scope : Scope} {own : List (Str × Nat)}
variable {G : Gh} {s s' : DS} {ρ : Rho} {pz : Nat → Addr} {σ : L2.St} {H H1 : Hp}
noncomputable def sortF (fi : Rho → M (List D)) (hh : D → Rho → Option Rho) (tt : Rho → M Bool) (fe : Rho → M D) (vs : List Nat) (ρ : Rho) : M D := bnd (lcF fi hh tt fe vs ρ) fun ds => lift (dSortA [.list ds])
theorem tsort_run {P : Addr} {wi : TI} {g : TG} {t : TT} {te : TE} {vs : List Nat} (hP : P ∈ Ts)
    (qi : ∀ (G : Gh) (s : DS) (ρ : Rho) (pz : Nat → Addr) (σ : L2.St) (H : Hp) (R : It → Hp → Prop), Rel Ts X.KW G s ρ pz σ H → PostG X W G σ H (fun H' J ds => JOk y X.KW G (G.now ρ pz H').H0 J ds) (fi ρ s) R → wi σ H R)
    (qg : ∀ (G : Gh) (s : DS) (ρ : Rho) (pz : Nat → Addr) (σ : L2.St) (H : Hp) (v : V) (d : D) (Q : L2.St → Hp → Prop), Rel Ts X.KW G s ρ pz σ H → AtF y X.KW (badE G ρ pz) H v d → (match hh d ρ with
      | some ρ' => ∀ σ', Rel Ts X.KW G s ρ' pz σ' H → (∀ a, badE G ρ' pz a → badE G ρ pz a) → (∀ i, i ∉ is → σ'[i]? = σ[i]?) → σ'.length = σ.length → Q σ' H
      | none => False) → g v σ H Q)
    (qt : ∀ (G : Gh) (s : DS) (ρ : Rho) (pz : Nat → Addr) (σ : L2.St) (H : Hp) (Q : Bool → Hp → Prop), Rel Ts X.KW G s ρ pz σ H → PostG X WF G σ H (fun _ c d => c = d) (tt ρ s) Q → t σ H Q)
    (qe : ∀ (G : Gh) (s : DS) (ρ : Rho) (pz : Nat → Addr) (σ : L2.St) (H : Hp) (Q : VK), Rel Ts X.KW G s ρ pz σ H → PostG X WF G σ H (AtB true X.KW G ρ pz) (fe ρ s) Q → te σ H Q)
    (his : ∀ i ∈ is, i ∈ vs) (hk : KG is hh) {Q : VK} (R : Rel Ts X.KW G s ρ pz σ H) (h : PostG X W G σ H (AtB true X.KW G ρ pz) (sortF fi hh tt fe vs ρ s) Q) : tSortG P wi g t te vs X.K σ H Q := by
  have h : PostG X W G σ H (AtB true X.KW G ρ pz) (bnd (bnd (fi ρ) fun ds => if ds.length ≤ 16000000 then lcD hh tt fe (wipeR ρ vs) ds else stk) (fun ds => lift (dSortA [.list ds])) s) Q := h
  rw [bnd_bnd] at h
  refine qi G s ρ pz σ H _ R (PostG.bnd (h := h) fun ds s1 J H1 hm1 w1 e1 jok h1 => ?_)
  have R1 := R.ext w1 e1
  have hPG : P ∈ G.tabs := by rw [R.ts]; exact hP
  refine ⟨w1.tab P hPG, fun H2 tb => ?_⟩
  have w2 := w1.tabbed R.fix hPG tb
  have e2 : ExtO G H1 H2 := ExtO.tabbed w1 hPG tb
  split at h1
  case isFalse => exact h1.elim
  rename_i hlen
  refine ⟨fun i m acc H3 => m = ds.length - i ∧ i ≤ ds.length ∧ ∃ s' accd, Wd G s' H3 ∧ ExtO G H1 H3 ∧ AtL X.KW (badE G ρ pz) H3 acc accd ∧ accd.length ≤ i ∧ PostG X W G σ H1 (AtB true X.KW G ρ pz) (bnd (lcD hh tt fe (wipeR ρ vs) (ds.drop i)) (fun es => lift (dSortA [.list (accd ++ es)])) s') Q, ⟨_, rfl, Nat.zero_le _, s1, [], w2, e2, .nil, Nat.le_refl _, by rw [List.drop_zero]; exact h1⟩, ?_⟩
  rintro i m acc H3 ⟨rfl, hi, s', accd, w3, e3, l3, n3, h3⟩
  obtain ⟨stp, gos⟩ := jok H3 (ext_now R1 e3)
  by_cases hlt : i < ds.length
  · obtain ⟨d, hd, hdrop⟩ := drop_at hlt
    obtain ⟨go, yld⟩ := gos i d hd
    rw [hdrop] at h3
    refine .inr ⟨go, fun x H4 y => ?_⟩
    obtain ⟨same, atx⟩ := yld x H4 y
    have e4 : ExtO G H1 H4 := e3.trans (.same same)
    have h3 : PostG X W G σ H1 (AtB true X.KW G ρ pz) (bnd (bnd (lift (hh d (wipeR ρ vs))) fun ρ1 => bnd (nox (tt ρ1)) fun c => if c = true then bnd (nox (fe ρ1)) (fun e => bnd (lcD hh tt fe (wipeR ρ vs) (ds.drop (i + 1))) fun es => ret (e :: es)) else lcD hh tt fe (wipeR ρ vs) (ds.drop (i + 1))) (fun es => lift (dSortA [.list (accd ++ es)])) s') Q := h3
    rw [bnd_bnd] at h3
    have h4 : PostG X W G σ H1 (AtB true X.KW G ρ pz) (bnd (lift (hh d (wipeR ρ vs))) (fun ρ1 => bnd (nox (tt ρ1)) fun c => if c = true then bnd (nox (fe ρ1)) (fun e => bnd (lcD hh tt fe (wipeR ρ vs) (ds.drop (i + 1))) fun es => lift (dSortA [.list (accd ++ e :: es)])) else bnd (lcD hh tt fe (wipeR ρ vs) (ds.drop (i + 1))) (fun es => lift (dSortA [.list (accd ++ es)]))) s') Q := by
      refine cast (congrArg (fun k => PostG X W G σ H1 (AtB true X.KW G ρ pz) (bnd (lift (hh d (wipeR ρ vs))) k s') Q) (funext fun ρ1 => ?_)) h3
      rw [bnd_bnd]
      refine congrArg _ (funext fun c => ?_)
      cases c with
      | false => rfl
      | true =>
        refine (bnd_bnd _ _ _).trans (congrArg _ (funext fun e => ?_))
        exact bnd_bnd _ _ _
    have mv : ∀ {H5 : Hp}, ExtO G H4 H5 → AtL X.KW (badE G ρ pz) H5 acc accd := fun e => l3.ext ((ExtO.same same).trans e)
    refine turn_run (ex := fun _ => False) qg qt qe his hk R1 (fun _ z => z.elim) (w3.same same) e4 atx h4 (fun s5 H5 w5 e5 h5 => ⟨_, ?_, rfl, hlt, s5, accd, w5, e4.trans e5, mv e5, by omega, h5⟩) fun e s5 v H5 w5 e5 a5 h5 => ⟨by rw [sizeLine_eq, l3.len]; omega, _, ?_, rfl, hlt, s5, accd ++ [e], w5, e4.trans e5, (mv e5).app (.one (a5.eqb fun a z => .inl z)), by rw [List.length_append]; simp; exact n3, ?_⟩
    · omega
    · omega
    · have z : (fun es : List D => lift (dSortA [PyData.list (accd ++ e :: es)])) = fun es => lift (dSortA [.list ((accd ++ [e]) ++ es)]) := funext fun es => by rw [List.append_assoc]; rfl
      rw [← z]
      exact h5
  · have e : i = ds.length := by omega
    subst e
    rw [List.drop_length] at h3
    have h3 : PostG X W G σ H1 (AtB true X.KW G ρ pz) (lift (dSortA [.list (accd ++ [])]) s') Q := h3
    rw [List.append_nil] at h3
    refine .inl ⟨stp, by rw [l3.len, sizeLine_eq]; omega, ?_⟩
    have R3 : Rel Ts X.KW G s' ρ pz σ H3 := R1.ext w3 e3
    have h3' : PostG X W G σ H3 (AtB true X.KW G ρ pz) (lift (dSortA [.list accd]) s') Q := h3.ext e3
    have q := POut.of R3 h3'
    unfold dSortA at q
    obtain ⟨⟨h1, h2, h4⟩, q⟩ := q.ite
    refine ⟨accd, l3.dp (alikeB_nd h1), alikeB_ok h1, sortB_ok h2, fun d hd => Nat.le_trans (depth_mem hd) h4, fun zs p' hz hs hp' => ?_⟩
    have l2 : AtL X.KW (badE G ρ pz) H3 (zs.map (·.1)) (sortD accd) := by
      rw [← hs]
      exact perm_at fun b hb => zip_at l3 b (hz.mem_iff.mp hb)
    exact q.newL R3.trk l2 p' hp'
variable {c P : Addr} {k : Nat} (gb : GB X c P k) (hP : P ∈ Ts) (ok : GNames X.N X.env.scope scope own) (hi : DI y Ts X W tg iter fi) (hg : ∀ i, DG y Ts (GuX X scope i) tg is hh) (ht : ∀ i, DTs Ts (GvX X scope i) ifs tt) (he : ∀ i, DX Ts true (GvX X scope i) WF elt fe) (hk : KG is hh)
include gb hP ok hi hg ht he hk
theorem dx_sortG (hu : X.A.units + 65 < cLine) (hgl : Gl X "sorted") (hm : X.mg "sorted" = none) (his : ∀ i ∈ is, i ∈ own.map (·.2) := by decide) (hb : bootBuiltins "sorted" = some (.builtin "sorted") := by decide +kernel) (fold : ∀ v, genFold iter X.env v = pure v := by intro _; rfl) (hst : starEach [gExp elt tg iter ifs scope pos] X.env = (false, eval (gExp elt tg iter ifs scope pos) X.env) :: starEach [] X.env := by rfl) :
    DX Ts true X W (.Call (.Name "sorted" px) [gExp elt tg iter ifs scope pos] [] cpos) (sortF fi hh tt fe (own.map (·.2))) := by
  obtain ⟨wi, g, t, te, pi, pg, pt, pe, qi, qg, qt, qe⟩ := gen_parts hi hg ht he
  exact ⟨_, pe_sortG hu ⟨gb.hr, gb.TB, gb.code, ok, gb.nd, gb.calm, fold⟩ hgl hm hb pi pg pt pe hst, fun G s ρ pz σ H Q R h => tsort_run hP qi qg qt qe his hk R h⟩
end
end DV
/-! values as data: <, <=, >, >= of data -/
namespace DV
open PySem PySem.Spec PyProof.Rows L2
theorem AtW.dpN {K : KW} {bad : Addr → Prop} {H : Hp} {v : V} {d : D} (nd : noDic d = true) (h : AtW K bad H v d) : Dp K.K H v d := by
  rcases h with h | ⟨a, rfl, h⟩
  · exact h.dp nd
  · cases d with
    | list ds =>
      obtain ⟨vs, e, l⟩ := h
      exact .lst (SqL.of e) (l.dp (by unfold noDic at nd; exact nd))
    | _ => first | exact h.elim | (unfold noDic at nd; cases nd)
section
variable {X : Cx}
def cmpB (d e : D) : Bool := noDic d && noDic e && PySem.W.alike d e && decide (PyData.depth d ≤ 60) && (match d with | .none => false | _ => true)
def rCmpD (K : PySem.W.Frag) (r : D → D → Bool) : R2 := fun x y H Q => ∃ d e, Dp K H x d ∧ Dp K H y e ∧ PySem.W.alike d e = true ∧ d ≠ .none ∧ PyData.depth d ≤ 60 ∧ Q (.bl (r d e)) H
theorem op_ltD2 (hu : X.A.units + 64 < cLine) : OpR X (compareOp .Lt) (rCmpD X.K fun d e => PySem.W.dataLt d e) := by
  intro pins s σ H x y v u Q I rx ry ⟨d, e, hd, he, ha, hn, hz, q⟩
  obtain ⟨as, r1⟩ := Dp.reads I d x v hd rx
  obtain ⟨bs, r2⟩ := Dp.reads I e y u he ry
  exact PySem.W.lt_data r1 r2 ha hn (by omega) ⟨.bl _, H, I, rfl, q⟩
theorem op_gtD2 (hu : X.A.units + 64 < cLine) : OpR X (compareOp .Gt) (rCmpD X.K fun d e => PySem.W.dataLt e d) := by
  intro pins s σ H x y v u Q I rx ry ⟨d, e, hd, he, ha, hn, hz, q⟩
  obtain ⟨as, r1⟩ := Dp.reads I d x v hd rx
  obtain ⟨bs, r2⟩ := Dp.reads I e y u he ry
  exact PySem.W.gt_data r1 r2 ha hn (by omega) ⟨.bl _, H, I, rfl, q⟩
theorem op_leD2 (hu : X.A.units + 64 < cLine) : OpR X (compareOp .LtE) (rCmpD X.K fun d e => !PySem.W.dataLt e d) := by
  intro pins s σ H x y v u Q I rx ry ⟨d, e, hd, he, ha, hn, hz, q⟩
  obtain ⟨as, r1⟩ := Dp.reads I d x v hd rx
  obtain ⟨bs, r2⟩ := Dp.reads I e y u he ry
  exact PySem.W.le_data r1 r2 ha hn (by omega) ⟨.bl _, H, I, rfl, q⟩
theorem op_geD2 (hu : X.A.units + 64 < cLine) : OpR X (compareOp .GtE) (rCmpD X.K fun d e => !PySem.W.dataLt d e) := by
  intro pins s σ H x y v u Q I rx ry ⟨d, e, hd, he, ha, hn, hz, q⟩
  obtain ⟨as, r1⟩ := Dp.reads I d x v hd rx
  obtain ⟨bs, r2⟩ := Dp.reads I e y u he ry
  exact PySem.W.ge_data r1 r2 ha hn (by omega) ⟨.bl _, H, I, rfl, q⟩
/-- a comparison: of data that are alike, or as f says -/
noncomputable def dCmp (f : D → D → Option D) (r : D → D → Bool) (d e : D) : Option D := match f d e with
  | some o => some o
  | none => iteP (cmpB d e = true) (some (.bool (r d e))) none
theorem od_cmp {op : CmpOp} {f : D → D → Option D} {r : D → D → Bool} (h1 : OpD X (compareOp op) f) (h2 : OpR X (compareOp op) (rCmpD X.K r)) : OpD X (compareOp op) (dCmp f r) := by
  obtain ⟨r1, o1, s1⟩ := h1
  refine ⟨_, o1.or h2, fun bad H x y d e Q t hx hy q => ?_⟩
  unfold dCmp at q
  split at q
  · rename_i o eo
    exact .inl (s1 bad H x y d e Q t hx hy (by rw [eo]; exact q))
  · obtain ⟨h, q⟩ := q.ite
    unfold cmpB at h
    rw [Bool.and_eq_true, Bool.and_eq_true, Bool.and_eq_true, Bool.and_eq_true, decide_eq_true_eq] at h
    obtain ⟨⟨⟨⟨n1, n2⟩, ha⟩, hz⟩, hn⟩ := h
    refine .inr ⟨d, e, ?_, ?_, ha, (fun z => by subst z; cases hn), hz, q.here (.bl _)⟩
    · exact AtW.dpN n1 hx
    · exact AtW.dpN n2 hy
noncomputable def dLtD := dCmp dLt fun d e => PySem.W.dataLt d e
noncomputable def dGtD := dCmp dGt fun d e => PySem.W.dataLt e d
noncomputable def dLeD := dCmp dLe fun d e => !PySem.W.dataLt e d
noncomputable def dGeD := dCmp dGe fun d e => !PySem.W.dataLt d e
theorem od_ltD (hu : X.A.units + 64 < cLine) : OpD X (compareOp .Lt) dLtD := od_cmp (od_lt (by omega)) (op_ltD2 hu)
theorem od_gtD (hu : X.A.units + 64 < cLine) : OpD X (compareOp .Gt) dGtD := od_cmp od_gt (op_gtD2 hu)
theorem od_leD (hu : X.A.units + 64 < cLine) : OpD X (compareOp .LtE) dLeD := od_cmp od_le (op_leD2 hu)
theorem od_geD (hu : X.A.units + 64 < cLine) : OpD X (compareOp .GtE) dGeD := od_cmp od_ge (op_geD2 hu)
end
end DV


set_option Elab.async false
set_option linter.all false
set_option maxRecDepth 100000
set_option maxHeartbeats 2000000
namespace HdL
open PySem PySem.Spec PyProof.Rows L2
def top (i : Nat) : Stmt := PySem.Challenge.pw_setright_k05_whole_rounds_kinds_and_pari.main.body.getD i (.Pass ⟨0, 0, 0, 0⟩)
abbrev s_still : Stmt := top 1
abbrev s_done : Stmt := top 2
abbrev s_undone : Stmt := top 3
abbrev s_rounds : Stmt := top 4
abbrev s_power : Stmt := top 5
abbrev s_kind_of : Stmt := top 6
abbrev s_common_divisor : Stmt := top 7
abbrev s_turn_number : Stmt := top 8
abbrev s_is_even : Stmt := top 9
abbrev s__law_draws : Stmt := top 11
abbrev s__law_take : Stmt := top 12
abbrev s__law_same : Stmt := top 13
abbrev s__law_order : Stmt := top 14
abbrev s__law_done : Stmt := top 15
abbrev s__law_undone : Stmt := top 16
abbrev s__law_power : Stmt := top 17
abbrev s__law_rounds : Stmt := top 18
abbrev s__law_kind : Stmt := top 19
abbrev s__law_is_even : Stmt := top 20
abbrev s_law : Stmt := top 21
def d_still : He.DefD := ⟨("still", none), "still", "still", defArgs s_still, defBody s_still, defScope s_still, [], []⟩
def d_done : He.DefD := ⟨("done", none), "done", "done", defArgs s_done, defBody s_done, defScope s_done, [], []⟩
def d_undone : He.DefD := ⟨("undone", none), "undone", "undone", defArgs s_undone, defBody s_undone, defScope s_undone, [], []⟩
def d_rounds : He.DefD := ⟨("rounds", none), "rounds", "rounds", defArgs s_rounds, defBody s_rounds, defScope s_rounds, [], []⟩
def d_power : He.DefD := ⟨("power", none), "power", "power", defArgs s_power, defBody s_power, defScope s_power, [], []⟩
def d_kind_of : He.DefD := ⟨("kind_of", none), "kind_of", "kind_of", defArgs s_kind_of, defBody s_kind_of, defScope s_kind_of, [], []⟩
def d_common_divisor : He.DefD := ⟨("common_divisor", none), "common_divisor", "common_divisor", defArgs s_common_divisor, defBody s_common_divisor, defScope s_common_divisor, [], []⟩
def d_turn_number : He.DefD := ⟨("turn_number", none), "turn_number", "turn_number", defArgs s_turn_number, defBody s_turn_number, defScope s_turn_number, [], []⟩
def d_is_even : He.DefD := ⟨("is_even", none), "is_even", "is_even", defArgs s_is_even, defBody s_is_even, defScope s_is_even, [], []⟩
def d__law_draws : He.DefD := ⟨("_law_draws", none), "_law_draws", "_law_draws", defArgs s__law_draws, defBody s__law_draws, defScope s__law_draws, [], []⟩
def d__law_take : He.DefD := ⟨("_law_take", none), "_law_take", "_law_take", defArgs s__law_take, defBody s__law_take, defScope s__law_take, [], []⟩
def d__law_same : He.DefD := ⟨("_law_same", none), "_law_same", "_law_same", defArgs s__law_same, defBody s__law_same, defScope s__law_same, [], []⟩
def d__law_order : He.DefD := ⟨("_law_order", none), "_law_order", "_law_order", defArgs s__law_order, defBody s__law_order, defScope s__law_order, [], []⟩
def d__law_done : He.DefD := ⟨("_law_done", none), "_law_done", "_law_done", defArgs s__law_done, defBody s__law_done, defScope s__law_done, [], []⟩
def d__law_undone : He.DefD := ⟨("_law_undone", none), "_law_undone", "_law_undone", defArgs s__law_undone, defBody s__law_undone, defScope s__law_undone, [], []⟩
def d__law_power : He.DefD := ⟨("_law_power", none), "_law_power", "_law_power", defArgs s__law_power, defBody s__law_power, defScope s__law_power, [], []⟩
def d__law_rounds : He.DefD := ⟨("_law_rounds", none), "_law_rounds", "_law_rounds", defArgs s__law_rounds, defBody s__law_rounds, defScope s__law_rounds, [], []⟩
def d__law_kind : He.DefD := ⟨("_law_kind", none), "_law_kind", "_law_kind", defArgs s__law_kind, defBody s__law_kind, defScope s__law_kind, [], []⟩
def d__law_is_even : He.DefD := ⟨("_law_is_even", none), "_law_is_even", "_law_is_even", defArgs s__law_is_even, defBody s__law_is_even, defScope s__law_is_even, [], []⟩
def d_law : He.DefD := ⟨("law", none), "law", "law", defArgs s_law, defBody s_law, defScope s_law, [], []⟩
def fnL : List He.DefD := [d_still, d_done, d_undone, d_rounds, d_power, d_kind_of, d_common_divisor, d_turn_number, d_is_even, d__law_draws, d__law_take, d__law_same, d__law_order, d__law_done, d__law_undone, d__law_power, d__law_rounds, d__law_kind, d__law_is_even, d_law]
def faL0 : List He.Fa := [.glo "still", .glo "done", .glo "undone", .glo "rounds", .glo "power", .glo "kind_of", .glo "common_divisor", .glo "turn_number", .glo "is_even", .glo "_law_draws", .glo "_law_take", .glo "_law_same", .glo "_law_order", .glo "_law_done", .glo "_law_undone", .glo "_law_power", .glo "_law_rounds", .glo "_law_kind", .glo "_law_is_even", .glo "law", .free "abs", .free "bool", .free "enumerate", .free "int", .free "isinstance", .free "len", .free "list", .free "min", .free "range", .free "reversed"]
def faL1 : List He.Fa := [.free "sorted", .free "str", .free "tuple"]
def faL : List He.Fa := faL0 ++ faL1
def tfL : List He.Defn := [("done", none), ("undone", none), ("kind_of", none)]
def exL (K : PySem.W.Frag) : Bool := (fun _ => true) K && true
theorem exL_b {K : PySem.W.Frag} (h : exL K = true) : (fun _ => true) K = true := (Bool.and_eq_true_iff.mp h).1
end HdL
namespace DV
open PySem PySem.Spec PyProof.Rows L2 HdL
def wN : Nat := 100000
abbrev N_still : List Str := ["n"]
theorem nd_still : N_still.Nodup := by decide +kernel
theorem sc_still : FnScope N_still ["n"] (defScope s_still) := ⟨rfl, rfl, rfl, nd_still, rfl, by decide +kernel, by decide +kernel⟩
abbrev cx_still (P : Program) (w : World) (K : PySem.W.Frag) (mg : Str → Option Value) (base : Heap) (cdv : Value) (A : Around) (outer : List Env) (s : Shared) (H : Hp) (E : XK) : Cx := cxOf (L2N.CX P w) P w K mg base N_still "still" (defScope s_still) (He.ga K "still") cdv A outer s H E
noncomputable def pk_still : Σ' g : Rho → M Out, ∀ {P : Program} {w : World} {K : PySem.W.Frag} {mg : Str → Option Value} {base : Heap} (Z : Fx faL fnL tfL exL K mg base) (cdv : Value) (hcd : cdv = .ref (He.codeOf K ("still", none))) (A : Around) (outer : List Env) (s : Shared) (H : Hp) (E : XK) (hr : Room 0 (A.deeper (envOfC "still" (defScope s_still) s.heap.objs.size (He.ga K "still") cdv))),
  DSs (TsL tfL K) (cx_still P w K mg base cdv A outer s H E) (fun cls d _ H' => E cls d H') (defBody s_still) g :=
  ⟨_, fun {P w K mg base} Z cdv hcd A outer s H E hr => (dss_one (ds_ret (dx_tupRg rfl rfl (Z.fr 32) (drg_1 rfl (Z.fr 28) (dx_varW 0)))))⟩
noncomputable def F_still : List Sl → M D := runB (pk_still).1 N_still
theorem ok_still {P : Program} {w : World} {K : PySem.W.Frag} {mg : Str → Option Value} {base : Heap} (Z : Fx faL fnL tfL exL K mg base) : Has P w K mg base (TsL tfL K) "still" 1 1 (F_still) :=
  has_of Z 0 0 rfl rfl sc_still rfl (fun _ _ _ _ _ _ us hl => match us, hl with | [_], _ => rfl) fun cdv hcd A outer s H E hr => (pk_still).2 Z cdv hcd A outer s H E hr
abbrev N_done : List Str := ["one", "other", "place"]
theorem nd_done : N_done.Nodup := by decide +kernel
theorem sc_done : FnScope N_done ["one", "other"] (defScope s_done) := ⟨rfl, rfl, rfl, nd_done, rfl, by decide +kernel, by decide +kernel⟩
abbrev cx_done (P : Program) (w : World) (K : PySem.W.Frag) (mg : Str → Option Value) (base : Heap) (cdv : Value) (A : Around) (outer : List Env) (s : Shared) (H : Hp) (E : XK) : Cx := cxOf (L2N.CX P w) P w K mg base N_done "done" (defScope s_done) (He.ga K "done") cdv A outer s H E
noncomputable def pk_done : Σ' g : Rho → M Out, ∀ {P : Program} {w : World} {K : PySem.W.Frag} {mg : Str → Option Value} {base : Heap} (Z : Fx faL fnL tfL exL K mg base) (cdv : Value) (hcd : cdv = .ref (He.codeOf K ("done", none))) (A : Around) (outer : List Env) (s : Shared) (H : Hp) (E : XK) (hr : Room 1 (A.deeper (envOfC "done" (defScope s_done) s.heap.objs.size (He.ga K "done") cdv))),
  DSs (TsL tfL K) (cx_done P w K mg base cdv A outer s H E) (fun cls d _ H' => E cls d H') (defBody s_done) g :=
  ⟨_, fun {P w K mg base} Z cdv hcd A outer s H E hr => (dss_one (ds_ret (dx_tupG (X := (cx_done P w K mg base cdv A outer s H E)) (own := [("place", 2)]) (gb_of Z ("done", none) (by decide) hr hcd nd_done rfl) (ts_mem (by decide)) ⟨(blkOk_by (by kernel_rfl)), rfl, by decide, rfl⟩ (di_seq (dx_var 0)) (fun i1 => (dg_name 2 nd_done)) (fun i1 => dts_nil) (fun i1 => (dx_ix (dx_varW 1) (dx_varW 2))) (kg_name 2) rfl (Z.fr 32))))⟩
noncomputable def F_done : List Sl → M D := runB (pk_done).1 N_done
theorem ok_done {P : Program} {w : World} {K : PySem.W.Frag} {mg : Str → Option Value} {base : Heap} (Z : Fx faL fnL tfL exL K mg base) : Has P w K mg base (TsL tfL K) "done" 2 2 (F_done) :=
  has_of Z 1 1 rfl rfl sc_done rfl (fun _ _ _ _ _ _ us hl => match us, hl with | [_, _], _ => rfl) fun cdv hcd A outer s H E hr => (pk_done).2 Z cdv hcd A outer s H E hr
abbrev N_undone : List Str := ["order", "_", "place", "image"]
theorem nd_undone : N_undone.Nodup := by decide +kernel
theorem sc_undone : FnScope N_undone ["order"] (defScope s_undone) := ⟨rfl, rfl, rfl, nd_undone, rfl, by decide +kernel, by decide +kernel⟩
abbrev cx_undone (P : Program) (w : World) (K : PySem.W.Frag) (mg : Str → Option Value) (base : Heap) (cdv : Value) (A : Around) (outer : List Env) (s : Shared) (H : Hp) (E : XK) : Cx := cxOf (L2N.CX P w) P w K mg base N_undone "undone" (defScope s_undone) (He.ga K "undone") cdv A outer s H E
noncomputable def pk_undone : Σ' g : Rho → M Out, ∀ {P : Program} {w : World} {K : PySem.W.Frag} {mg : Str → Option Value} {base : Heap} (Z : Fx faL fnL tfL exL K mg base) (cdv : Value) (hcd : cdv = .ref (He.codeOf K ("undone", none))) (A : Around) (outer : List Env) (s : Shared) (H : Hp) (E : XK) (hr : Room 1 (A.deeper (envOfC "undone" (defScope s_undone) s.heap.objs.size (He.ga K "undone") cdv))),
  DSs (TsL tfL K) (cx_undone P w K mg base cdv A outer s H E) (fun cls d _ H' => E cls d H') (defBody s_undone) g :=
  ⟨_, fun {P w K mg base} Z cdv hcd A outer s H E hr => (dss_one (ds_ret (dx_tupG (X := (cx_undone P w K mg base cdv A outer s H E)) (own := [("_", 1), ("place", 2)]) (gb_of Z ("undone", none) (by decide) hr hcd nd_undone rfl) (ts_mem (by decide)) ⟨(blkOk_by (by kernel_rfl)), rfl, by decide, rfl⟩ (di_seq (dx_sortG (X := (cx_undone P w K mg base cdv A outer s H E)) (own := [("place", 2), ("image", 3)]) (gb_of Z ("undone", none) (by decide) hr hcd nd_undone rfl) (ts_mem (by decide)) ⟨(blkOk_by (by kernel_rfl)), rfl, by decide, rfl⟩ (di_enum rfl (Z.fr 22) (dx_var 0) (pz := fun h => En.pi_enumA (by rfl) (Z.fr 22) h)) (fun i2 => (dg_tup 2 (dgs_cons (dg_name 2 nd_undone) (dgs_cons (dg_name 3 nd_undone) dgs_nil)) (len_cons (len_cons (fun _ _ _ h => len_nil h))) rfl)) (fun i2 => dts_nil) (fun i2 => (dx_tup (da_cons (dx_var 3) (da_cons (dx_var 2) da_nil)))) (kg_tup (kgs_cons (kg_name 2) (kgs_cons (kg_name 3) kgs_nil))) (units65 hr) rfl (Z.fr 30))) (fun i1 => (dg_tup 2 (dgs_cons (dg_name 1 nd_undone) (dgs_cons (dg_name 2 nd_undone) dgs_nil)) (len_cons (len_cons (fun _ _ _ h => len_nil h))) rfl)) (fun i1 => dts_nil) (fun i1 => (dx_var 2)) (kg_tup (kgs_cons (kg_name 1) (kgs_cons (kg_name 2) kgs_nil))) rfl (Z.fr 32))))⟩
noncomputable def F_undone : List Sl → M D := runB (pk_undone).1 N_undone
theorem ok_undone {P : Program} {w : World} {K : PySem.W.Frag} {mg : Str → Option Value} {base : Heap} (Z : Fx faL fnL tfL exL K mg base) : Has P w K mg base (TsL tfL K) "undone" 2 1 (F_undone) :=
  has_of Z 2 2 rfl rfl sc_undone rfl (fun _ _ _ _ _ _ us hl => match us, hl with | [_], _ => rfl) fun cdv hcd A outer s H E hr => (pk_undone).2 Z cdv hcd A outer s H E hr
abbrev N_rounds : List Str := ["order", "found", "been", "start", "way", "place", "_"]
theorem nd_rounds : N_rounds.Nodup := by decide +kernel
theorem sc_rounds : FnScope N_rounds ["order"] (defScope s_rounds) := ⟨rfl, rfl, rfl, nd_rounds, rfl, by decide +kernel, by decide +kernel⟩
abbrev cx_rounds (P : Program) (w : World) (K : PySem.W.Frag) (mg : Str → Option Value) (base : Heap) (cdv : Value) (A : Around) (outer : List Env) (s : Shared) (H : Hp) (E : XK) : Cx := cxOf (L2N.CX P w) P w K mg base N_rounds "rounds" (defScope s_rounds) (He.ga K "rounds") cdv A outer s H E
noncomputable def pk_rounds : Σ' g : Rho → M Out, ∀ {P : Program} {w : World} {K : PySem.W.Frag} {mg : Str → Option Value} {base : Heap} (Z : Fx faL fnL tfL exL K mg base) (cdv : Value) (hcd : cdv = .ref (He.codeOf K ("rounds", none))) (A : Around) (outer : List Env) (s : Shared) (H : Hp) (E : XK) (hr : Room 0 (A.deeper (envOfC "rounds" (defScope s_rounds) s.heap.objs.size (He.ga K "rounds") cdv))),
  DSs (TsL tfL K) (cx_rounds P w K mg base cdv A outer s H E) (fun cls d _ H' => E cls d H') (defBody s_rounds) g :=
  ⟨_, fun {P w K mg base} Z cdv hcd A outer s H E hr => (dss_cons (ds_own 1 (df_lst da_nil) nd_rounds) (dss_cons (ds_ownLc 2 (X := (cx_rounds P w K mg base cdv A outer s H E)) (own := [("_", 6)]) rfl nd_rounds (di_seq (dx_var 0)) (blkOk_by (by kernel_rfl)) (fun i1 => (dg_name 6 nd_rounds)) (fun i1 => dts_nil) (fun i1 => dx_bl) (kg_name 6)) (dss_cons (ds_for (passes_of rfl) rfl (di_range1 rfl (Z.fr 28) (da_cons (b := false) (DX.weak (dx_callB cd_len rfl (Z.fr 25) bb_len (da_cons (b := false) (dx_varW 0) da_nil))) da_nil)) (dg_name 3 nd_rounds) (dss_one (ds_if (dt_not (dt_tru (dx_ix (dx_varW 2) (dx_varW 3)))) (dss_cons (ds_own 4 (df_lst (da_cons (dx_var 3) da_nil)) nd_rounds) (dss_cons (ds_set 5 (dx_ix (dx_varW 0) (dx_varW 3)) nd_rounds) (dss_cons (ds_while wN (passes_of rfl) (dt_cmp (od_ne hr.units) (dx_varW 5) (dx_varW 3)) (dss_cons (ds_append 4 (dx_var 5)) (dss_one (ds_set 5 (dx_ix (dx_varW 0) (dx_varW 5)) nd_rounds)))) (dss_frz 4 (dss_cons (ds_for (passes_of rfl) rfl (di_seq (dx_var 4)) (dg_name 5 nd_rounds) (dss_one (ds_asgM dx_bl (dgm_sub 2 (dx_varW 5))))) (dss_one (ds_append 1 (dx_callT cd_tuple rfl (Z.fr 32) bb_tuple (da_cons (b := false) (dx_varW 4) da_nil))))))))) dss_nil))) (dss_one (ds_ret (dx_var 1))))))⟩
noncomputable def F_rounds : List Sl → M D := runB (pk_rounds).1 N_rounds
theorem ok_rounds {P : Program} {w : World} {K : PySem.W.Frag} {mg : Str → Option Value} {base : Heap} (Z : Fx faL fnL tfL exL K mg base) : Has P w K mg base (TsL tfL K) "rounds" 1 1 (F_rounds) :=
  has_of Z 3 3 rfl rfl sc_rounds rfl (fun _ _ _ _ _ _ us hl => match us, hl with | [_], _ => rfl) fun cdv hcd A outer s H E hr => (pk_rounds).2 Z cdv hcd A outer s H E hr
abbrev N_power : List Str := ["order", "times", "found", "way", "number", "place"]
theorem nd_power : N_power.Nodup := by decide +kernel
theorem sc_power : FnScope N_power ["order", "times"] (defScope s_power) := ⟨rfl, rfl, rfl, nd_power, rfl, by decide +kernel, by decide +kernel⟩
abbrev cx_power (P : Program) (w : World) (K : PySem.W.Frag) (mg : Str → Option Value) (base : Heap) (cdv : Value) (A : Around) (outer : List Env) (s : Shared) (H : Hp) (E : XK) : Cx := cxOf (L2N.CX P w) P w K mg base N_power "power" (defScope s_power) (He.ga K "power") cdv A outer s H E
noncomputable def pk_power : Σ' g : Rho → M Out, ∀ {P : Program} {w : World} {K : PySem.W.Frag} {mg : Str → Option Value} {base : Heap} (Z : Fx faL fnL tfL exL K mg base) (cdv : Value) (hcd : cdv = .ref (He.codeOf K ("power", none))) (A : Around) (outer : List Env) (s : Shared) (H : Hp) (E : XK) (hr : Room 1 (A.deeper (envOfC "power" (defScope s_power) s.heap.objs.size (He.ga K "power") cdv))),
  DSs (TsL tfL K) (cx_power P w K mg base cdv A outer s H E) (fun cls d _ H' => E cls d H') (defBody s_power) g :=
  ⟨_, fun {P w K mg base} Z cdv hcd A outer s H E hr => (dss_cons (ds_own 2 (df_list (dx_varW 0) rfl (Z.fr 26)) nd_power) (dss_cons (ds_for (passes_of rfl) rfl (di_seq (dx_callH (ok_rounds Z) (hr.mono (by decide)) (L2N.takes_of rfl rfl rfl rfl) (dl_cons (dx_var 0) dl_nil))) (dg_name 3 nd_power) (dss_one (ds_for (passes_of rfl) rfl (di_enum rfl (Z.fr 22) (dx_var 3) (pz := fun h => En.pi_enumA (by rfl) (Z.fr 22) h)) (dg_tup 2 (dgs_cons (dg_name 4 nd_power) (dgs_cons (dg_name 5 nd_power) dgs_nil)) (len_cons (len_cons (fun _ _ _ h => len_nil h))) rfl) (dss_one (ds_asgM (dx_ix (dx_varW 3) (dx_bin od_mod (dx_bin od_add (dx_varW 4) (dx_varW 1)) (dx_callB cd_len rfl (Z.fr 25) bb_len (da_cons (b := false) (dx_varW 3) da_nil)))) (dgm_sub 2 (dx_varW 5))))))) (dss_one (ds_ret (dx_callT cd_tuple rfl (Z.fr 32) bb_tuple (da_cons (b := false) (dx_varW 2) da_nil))))))⟩
noncomputable def F_power : List Sl → M D := runB (pk_power).1 N_power
theorem ok_power {P : Program} {w : World} {K : PySem.W.Frag} {mg : Str → Option Value} {base : Heap} (Z : Fx faL fnL tfL exL K mg base) : Has P w K mg base (TsL tfL K) "power" 2 2 (F_power) :=
  has_of Z 4 4 rfl rfl sc_power rfl (fun _ _ _ _ _ _ us hl => match us, hl with | [_, _], _ => rfl) fun cdv hcd A outer s H E hr => (pk_power).2 Z cdv hcd A outer s H E hr
abbrev N_kind_of : List Str := ["order", "way"]
theorem nd_kind_of : N_kind_of.Nodup := by decide +kernel
theorem sc_kind_of : FnScope N_kind_of ["order"] (defScope s_kind_of) := ⟨rfl, rfl, rfl, nd_kind_of, rfl, by decide +kernel, by decide +kernel⟩
abbrev cx_kind_of (P : Program) (w : World) (K : PySem.W.Frag) (mg : Str → Option Value) (base : Heap) (cdv : Value) (A : Around) (outer : List Env) (s : Shared) (H : Hp) (E : XK) : Cx := cxOf (L2N.CX P w) P w K mg base N_kind_of "kind_of" (defScope s_kind_of) (He.ga K "kind_of") cdv A outer s H E
noncomputable def pk_kind_of : Σ' g : Rho → M Out, ∀ {P : Program} {w : World} {K : PySem.W.Frag} {mg : Str → Option Value} {base : Heap} (Z : Fx faL fnL tfL exL K mg base) (cdv : Value) (hcd : cdv = .ref (He.codeOf K ("kind_of", none))) (A : Around) (outer : List Env) (s : Shared) (H : Hp) (E : XK) (hr : Room 1 (A.deeper (envOfC "kind_of" (defScope s_kind_of) s.heap.objs.size (He.ga K "kind_of") cdv))),
  DSs (TsL tfL K) (cx_kind_of P w K mg base cdv A outer s H E) (fun cls d _ H' => E cls d H') (defBody s_kind_of) g :=
  ⟨_, fun {P w K mg base} Z cdv hcd A outer s H E hr => (dss_one (ds_ret (dx_callT cd_tuple rfl (Z.fr 32) bb_tuple (da_cons (b := false) (DX.weak (dx_sortG (X := (cx_kind_of P w K mg base cdv A outer s H E)) (own := [("way", 1)]) (gb_of Z ("kind_of", none) (by decide) hr hcd nd_kind_of rfl) (ts_mem (by decide)) ⟨(blkOk_by (by kernel_rfl)), rfl, by decide, rfl⟩ (di_seq (dx_callH (ok_rounds Z) (hr.mono (by decide)) (L2N.takes_of rfl rfl rfl rfl) (dl_cons (dx_var 0) dl_nil))) (fun i1 => (dg_name 1 nd_kind_of)) (fun i1 => dts_nil) (fun i1 => (dx_callB cd_len rfl (Z.fr 25) bb_len (da_cons (b := false) (dx_varW 1) da_nil))) (kg_name 1) (units65 hr) rfl (Z.fr 30))) da_nil))))⟩
noncomputable def F_kind_of : List Sl → M D := runB (pk_kind_of).1 N_kind_of
theorem ok_kind_of {P : Program} {w : World} {K : PySem.W.Frag} {mg : Str → Option Value} {base : Heap} (Z : Fx faL fnL tfL exL K mg base) : Has P w K mg base (TsL tfL K) "kind_of" 2 1 (F_kind_of) :=
  has_of Z 5 5 rfl rfl sc_kind_of rfl (fun _ _ _ _ _ _ us hl => match us, hl with | [_], _ => rfl) fun cdv hcd A outer s H E hr => (pk_kind_of).2 Z cdv hcd A outer s H E hr
abbrev N_common_divisor : List Str := ["one", "other"]
theorem nd_common_divisor : N_common_divisor.Nodup := by decide +kernel
theorem sc_common_divisor : FnScope N_common_divisor ["one", "other"] (defScope s_common_divisor) := ⟨rfl, rfl, rfl, nd_common_divisor, rfl, by decide +kernel, by decide +kernel⟩
abbrev cx_common_divisor (P : Program) (w : World) (K : PySem.W.Frag) (mg : Str → Option Value) (base : Heap) (cdv : Value) (A : Around) (outer : List Env) (s : Shared) (H : Hp) (E : XK) : Cx := cxOf (L2N.CX P w) P w K mg base N_common_divisor "common_divisor" (defScope s_common_divisor) (He.ga K "common_divisor") cdv A outer s H E
noncomputable def pk_common_divisor : Σ' g : Rho → M Out, ∀ {P : Program} {w : World} {K : PySem.W.Frag} {mg : Str → Option Value} {base : Heap} (Z : Fx faL fnL tfL exL K mg base) (cdv : Value) (hcd : cdv = .ref (He.codeOf K ("common_divisor", none))) (A : Around) (outer : List Env) (s : Shared) (H : Hp) (E : XK) (hr : Room 0 (A.deeper (envOfC "common_divisor" (defScope s_common_divisor) s.heap.objs.size (He.ga K "common_divisor") cdv))),
  DSs (TsL tfL K) (cx_common_divisor P w K mg base cdv A outer s H E) (fun cls d _ H' => E cls d H') (defBody s_common_divisor) g :=
  ⟨_, fun {P w K mg base} Z cdv hcd A outer s H E hr => (dss_cons (ds_while wN (passes_of rfl) (dt_cmp (od_gtD hr.units) (dx_varW 1) dx_int) (dss_one (ds_parS 0 1 (dx_var 1) (dx_bin od_mod (dx_varW 0) (dx_varW 1)) rfl nd_common_divisor rfl rfl (by decide) rfl rfl rfl))) (dss_one (ds_ret (dx_var 0))))⟩
noncomputable def F_common_divisor : List Sl → M D := runB (pk_common_divisor).1 N_common_divisor
theorem ok_common_divisor {P : Program} {w : World} {K : PySem.W.Frag} {mg : Str → Option Value} {base : Heap} (Z : Fx faL fnL tfL exL K mg base) : Has P w K mg base (TsL tfL K) "common_divisor" 1 2 (F_common_divisor) :=
  has_of Z 6 6 rfl rfl sc_common_divisor rfl (fun _ _ _ _ _ _ us hl => match us, hl with | [_, _], _ => rfl) fun cdv hcd A outer s H E hr => (pk_common_divisor).2 Z cdv hcd A outer s H E hr
abbrev N_turn_number : List Str := ["order", "found", "length"]
theorem nd_turn_number : N_turn_number.Nodup := by decide +kernel
theorem sc_turn_number : FnScope N_turn_number ["order"] (defScope s_turn_number) := ⟨rfl, rfl, rfl, nd_turn_number, rfl, by decide +kernel, by decide +kernel⟩
abbrev cx_turn_number (P : Program) (w : World) (K : PySem.W.Frag) (mg : Str → Option Value) (base : Heap) (cdv : Value) (A : Around) (outer : List Env) (s : Shared) (H : Hp) (E : XK) : Cx := cxOf (L2N.CX P w) P w K mg base N_turn_number "turn_number" (defScope s_turn_number) (He.ga K "turn_number") cdv A outer s H E
noncomputable def pk_turn_number : Σ' g : Rho → M Out, ∀ {P : Program} {w : World} {K : PySem.W.Frag} {mg : Str → Option Value} {base : Heap} (Z : Fx faL fnL tfL exL K mg base) (cdv : Value) (hcd : cdv = .ref (He.codeOf K ("turn_number", none))) (A : Around) (outer : List Env) (s : Shared) (H : Hp) (E : XK) (hr : Room 2 (A.deeper (envOfC "turn_number" (defScope s_turn_number) s.heap.objs.size (He.ga K "turn_number") cdv))),
  DSs (TsL tfL K) (cx_turn_number P w K mg base cdv A outer s H E) (fun cls d _ H' => E cls d H') (defBody s_turn_number) g :=
  ⟨_, fun {P w K mg base} Z cdv hcd A outer s H E hr => (dss_cons (ds_set 1 dx_int nd_turn_number) (dss_cons (ds_for (passes_of rfl) rfl (di_seq (dx_callH (ok_kind_of Z) (hr.mono (by decide)) (L2N.takes_of rfl rfl rfl rfl) (dl_cons (dx_var 0) dl_nil))) (dg_name 2 nd_turn_number) (dss_one (ds_set 1 (dx_bin od_fdiv (dx_bin od_mul (dx_varW 1) (dx_varW 2)) (dx_callH (ok_common_divisor Z) (hr.mono (by decide)) (L2N.takes_of rfl rfl rfl rfl) (dl_cons (dx_var 1) (dl_cons (dx_var 2) dl_nil)))) nd_turn_number))) (dss_one (ds_ret (dx_var 1)))))⟩
noncomputable def F_turn_number : List Sl → M D := runB (pk_turn_number).1 N_turn_number
theorem ok_turn_number {P : Program} {w : World} {K : PySem.W.Frag} {mg : Str → Option Value} {base : Heap} (Z : Fx faL fnL tfL exL K mg base) : Has P w K mg base (TsL tfL K) "turn_number" 3 1 (F_turn_number) :=
  has_of Z 7 7 rfl rfl sc_turn_number rfl (fun _ _ _ _ _ _ us hl => match us, hl with | [_], _ => rfl) fun cdv hcd A outer s H E hr => (pk_turn_number).2 Z cdv hcd A outer s H E hr
abbrev N_is_even : List Str := ["order"]
theorem nd_is_even : N_is_even.Nodup := by decide +kernel
theorem sc_is_even : FnScope N_is_even ["order"] (defScope s_is_even) := ⟨rfl, rfl, rfl, nd_is_even, rfl, by decide +kernel, by decide +kernel⟩
abbrev cx_is_even (P : Program) (w : World) (K : PySem.W.Frag) (mg : Str → Option Value) (base : Heap) (cdv : Value) (A : Around) (outer : List Env) (s : Shared) (H : Hp) (E : XK) : Cx := cxOf (L2N.CX P w) P w K mg base N_is_even "is_even" (defScope s_is_even) (He.ga K "is_even") cdv A outer s H E
noncomputable def pk_is_even : Σ' g : Rho → M Out, ∀ {P : Program} {w : World} {K : PySem.W.Frag} {mg : Str → Option Value} {base : Heap} (Z : Fx faL fnL tfL exL K mg base) (cdv : Value) (hcd : cdv = .ref (He.codeOf K ("is_even", none))) (A : Around) (outer : List Env) (s : Shared) (H : Hp) (E : XK) (hr : Room 1 (A.deeper (envOfC "is_even" (defScope s_is_even) s.heap.objs.size (He.ga K "is_even") cdv))),
  DSs (TsL tfL K) (cx_is_even P w K mg base cdv A outer s H E) (fun cls d _ H' => E cls d H') (defBody s_is_even) g :=
  ⟨_, fun {P w K mg base} Z cdv hcd A outer s H E hr => (dss_one (ds_ret (dx_cmp (od_eq hr.units) (dx_bin od_mod (dx_bin od_sub (dx_callB cd_len rfl (Z.fr 25) bb_len (da_cons (b := false) (dx_varW 0) da_nil)) (dx_callB cd_len rfl (Z.fr 25) bb_len (da_cons (b := false) (DX.weak (dx_callH (ok_rounds Z) (hr.mono (by decide)) (L2N.takes_of rfl rfl rfl rfl) (dl_cons (dx_var 0) dl_nil))) da_nil))) dx_int) dx_int)))⟩
noncomputable def F_is_even : List Sl → M D := runB (pk_is_even).1 N_is_even
theorem ok_is_even {P : Program} {w : World} {K : PySem.W.Frag} {mg : Str → Option Value} {base : Heap} (Z : Fx faL fnL tfL exL K mg base) : Has P w K mg base (TsL tfL K) "is_even" 2 1 (F_is_even) :=
  has_of Z 8 8 rfl rfl sc_is_even rfl (fun _ _ _ _ _ _ us hl => match us, hl with | [_], _ => rfl) fun cdv hcd A outer s H E hr => (pk_is_even).2 Z cdv hcd A outer s H E hr
abbrev N__law_draws : List Str := ["script", "draws", "cell", "number", "first", "k", "seed"]
theorem nd__law_draws : N__law_draws.Nodup := by decide +kernel
theorem sc__law_draws : FnScope N__law_draws ["script"] (defScope s__law_draws) := ⟨rfl, rfl, rfl, nd__law_draws, rfl, by decide +kernel, by decide +kernel⟩
abbrev cx__law_draws (P : Program) (w : World) (K : PySem.W.Frag) (mg : Str → Option Value) (base : Heap) (cdv : Value) (A : Around) (outer : List Env) (s : Shared) (H : Hp) (E : XK) : Cx := cxOf (L2N.CX P w) P w K mg base N__law_draws "_law_draws" (defScope s__law_draws) (He.ga K "_law_draws") cdv A outer s H E
noncomputable def pk__law_draws : Σ' g : Rho → M Out, ∀ {P : Program} {w : World} {K : PySem.W.Frag} {mg : Str → Option Value} {base : Heap} (Z : Fx faL fnL tfL exL K mg base) (cdv : Value) (hcd : cdv = .ref (He.codeOf K ("_law_draws", none))) (A : Around) (outer : List Env) (s : Shared) (H : Hp) (E : XK) (hr : Room 0 (A.deeper (envOfC "_law_draws" (defScope s__law_draws) s.heap.objs.size (He.ga K "_law_draws") cdv))),
  DSs ([] : List Addr) (cx__law_draws P w K mg base cdv A outer s H E) (fun cls d _ H' => E cls d H') ((defBody s__law_draws).drop 1) g :=
  ⟨_, fun {P w K mg base} Z cdv hcd A outer s H E hr => (dss_cons (ds_for (passes_of rfl) rfl (di_scr 0) (dg_name 2 nd__law_draws) (dss_cons (ds_set 3 (dx_callB cd_abs rfl (Z.fr 20) bb_abs (da_cons (b := false) (dx_varW 2) da_nil)) nd__law_draws) (dss_cons (ds_if (dt_cmp (od_ltD hr.units) (dx_varW 3) (dx_bin od_pow dx_int dx_int)) (dss_cons (ds_set 4 (dx_bin od_mod (dx_callT cd_int rfl (Z.fr 23) bb_int (da_cons (b := false) (DX.weak (dx_bin od_add (dx_bin od_mul (dx_varW 3) dx_int) dx_int)) da_nil)) dx_int) nd__law_draws) (dss_cons (ds_appD 1 (dx_bin od_mod (dx_callT cd_int rfl (Z.fr 23) bb_int (da_cons (b := false) (DX.weak (dx_bin od_add (dx_bin od_mul (dx_varW 4) dx_int) (dx_varW 3))) da_nil)) dx_int)) (dss_cons (ds_appD 1 (dx_bin od_mod (dx_callT cd_int rfl (Z.fr 23) bb_int (da_cons (b := false) (DX.weak (dx_bin od_add (dx_varW 4) (dx_bin od_fdiv (dx_varW 3) dx_int))) da_nil)) dx_int)) (dss_one (ds_set 3 dx_int nd__law_draws))))) dss_nil) (dss_one (ds_for (passes_of rfl) rfl (di_range1 rfl (Z.fr 28) (da_cons (b := false) (DX.weak dx_int) da_nil)) (dg_name 5 nd__law_draws) (dss_one (ds_if (dt_cmp (od_gtD hr.units) (dx_varW 3) dx_int) (dss_cons (ds_appD 1 (dx_bin od_mod (dx_callT cd_int rfl (Z.fr 23) bb_int (da_cons (b := false) (dx_varW 3) da_nil)) dx_int)) (dss_one (ds_set 3 (dx_bin od_fdiv (dx_varW 3) dx_int) nd__law_draws))) dss_nil))))))) (dss_cons (ds_set 6 dx_int nd__law_draws) (dss_cons (ds_if (dt_cmp (od_gtD hr.units) (dx_lenS 0 rfl (Z.fr 25)) dx_int) (dss_one (ds_set 6 (dx_bin od_add dx_int (dx_callB cd_abs rfl (Z.fr 20) bb_abs (da_cons (b := false) (DX.weak (dx_ixS 0 dx_int)) da_nil))) nd__law_draws)) dss_nil) (dss_cons (ds_for (passes_of rfl) rfl (di_range1 rfl (Z.fr 28) (da_cons (b := false) (DX.weak dx_int) da_nil)) (dg_name 5 nd__law_draws) (dss_cons (ds_set 6 (dx_bin od_mod (dx_callT cd_int rfl (Z.fr 23) bb_int (da_cons (b := false) (DX.weak (dx_bin od_add (dx_bin od_mul (dx_varW 6) dx_int) dx_int)) da_nil)) dx_int) nd__law_draws) (dss_one (ds_appD 1 (dx_bin od_fdiv (dx_varW 6) dx_int))))) (dss_one (ds_ret (dx_revD 1 rfl rfl (Z.fr 26) rfl (Z.fr 29))))))))⟩
abbrev N__law_take : List Str := ["draws", "bound"]
theorem nd__law_take : N__law_take.Nodup := by decide +kernel
theorem sc__law_take : FnScope N__law_take ["draws", "bound"] (defScope s__law_take) := ⟨rfl, rfl, rfl, nd__law_take, rfl, by decide +kernel, by decide +kernel⟩
abbrev cx__law_take (P : Program) (w : World) (K : PySem.W.Frag) (mg : Str → Option Value) (base : Heap) (cdv : Value) (A : Around) (outer : List Env) (s : Shared) (H : Hp) (E : XK) : Cx := cxOf (L2N.CX P w) P w K mg base N__law_take "_law_take" (defScope s__law_take) (He.ga K "_law_take") cdv A outer s H E
noncomputable def pk__law_take : Σ' g : Rho → M Out, ∀ {P : Program} {w : World} {K : PySem.W.Frag} {mg : Str → Option Value} {base : Heap} (Z : Fx faL fnL tfL exL K mg base) (cdv : Value) (hcd : cdv = .ref (He.codeOf K ("_law_take", none))) (A : Around) (outer : List Env) (s : Shared) (H : Hp) (E : XK) (hr : Room 0 (A.deeper (envOfC "_law_take" (defScope s__law_take) s.heap.objs.size (He.ga K "_law_take") cdv))),
  DSs (TsL tfL K) (cx__law_take P w K mg base cdv A outer s H E) (fun cls d _ H' => E cls d H') (defBody s__law_take) g :=
  ⟨_, fun {P w K mg base} Z cdv hcd A outer s H E hr => (dss_cons (ds_if (dt_cmp (od_eq hr.units) (dx_lenD 0 rfl (Z.fr 25)) dx_int) (dss_one (ds_ret dx_int)) dss_nil) (dss_one (ds_ret (dx_bin od_mod (dx_callT cd_int rfl (Z.fr 23) bb_int (da_cons (b := false) (DX.weak (dx_popD 0)) da_nil)) (dx_varW 1)))))⟩
noncomputable def F__law_take : List Sl → M D := runB (pk__law_take).1 N__law_take
theorem ok__law_take {P : Program} {w : World} {K : PySem.W.Frag} {mg : Str → Option Value} {base : Heap} (Z : Fx faL fnL tfL exL K mg base) : Has P w K mg base (TsL tfL K) "_law_take" 1 2 (F__law_take) :=
  has_of Z 10 10 rfl rfl sc__law_take rfl (fun _ _ _ _ _ _ us hl => match us, hl with | [_, _], _ => rfl) fun cdv hcd A outer s H E hr => (pk__law_take).2 Z cdv hcd A outer s H E hr
abbrev N__law_same : List Str := ["actual", "due", "k"]
theorem nd__law_same : N__law_same.Nodup := by decide +kernel
theorem sc__law_same : FnScope N__law_same ["actual", "due"] (defScope s__law_same) := ⟨rfl, rfl, rfl, nd__law_same, rfl, by decide +kernel, by decide +kernel⟩
abbrev cx__law_same (P : Program) (w : World) (K : PySem.W.Frag) (mg : Str → Option Value) (base : Heap) (cdv : Value) (A : Around) (outer : List Env) (s : Shared) (H : Hp) (E : XK) : Cx := cxOf (L2N.CX P w) P w K mg base N__law_same "_law_same" (defScope s__law_same) (He.ga K "_law_same") cdv A outer s H E
noncomputable def pk__law_same : Σ' g : (List Sl → M D) → Rho → M Out, ∀ {P : Program} {w : World} {K : PySem.W.Frag} {mg : Str → Option Value} {base : Heap} (Z : Fx faL fnL tfL exL K mg base) (Fs : List Sl → M D) (kr : Nat) (hrec : Has P w K mg base (TsL tfL K) "_law_same" kr 2 Fs) (cdv : Value) (hcd : cdv = .ref (He.codeOf K ("_law_same", none))) (A : Around) (outer : List Env) (s : Shared) (H : Hp) (E : XK) (hr : Room (kr + 0) (A.deeper (envOfC "_law_same" (defScope s__law_same) s.heap.objs.size (He.ga K "_law_same") cdv))),
  DSs (TsL tfL K) (cx__law_same P w K mg base cdv A outer s H E) (fun cls d _ H' => E cls d H') (defBody s__law_same) (g Fs) :=
  ⟨_, fun {P w K mg base} Z Fs kr hrec cdv hcd A outer s H E hr => (dss_cons (ds_if (dt_pw (dtw_or (dt_cmp od_is (dx_varW 1) dx_non) (dtw_or1 (dt_cmp od_is (dx_varW 0) dx_non)))) (dss_one (ds_ret (dx_and (dx_cmp od_is (dx_varW 1) dx_non) (dx_one (dx_cmp od_is (dx_varW 0) dx_non))))) dss_nil) (dss_cons (ds_if (dt_pw (dtw_or (dt_tru (dx_isI known_tuple (dx_varW 1) rfl (Z.fr 24) bb_isinstance rfl (Z.fr 32) bb_tuple)) (dtw_or1 (dt_tru (dx_isI known_list (dx_varW 1) rfl (Z.fr 24) bb_isinstance rfl (Z.fr 26) bb_list))))) (dss_cons (ds_if (dt_pw (dtw_or (dt_cmp (od_ne hr.units) (dx_isI known_tuple (dx_varW 1) rfl (Z.fr 24) bb_isinstance rfl (Z.fr 32) bb_tuple) (dx_isI known_tuple (dx_varW 0) rfl (Z.fr 24) bb_isinstance rfl (Z.fr 32) bb_tuple)) (dtw_or1 (dt_cmp (od_ne hr.units) (dx_isI known_list (dx_varW 1) rfl (Z.fr 24) bb_isinstance rfl (Z.fr 26) bb_list) (dx_isI known_list (dx_varW 0) rfl (Z.fr 24) bb_isinstance rfl (Z.fr 26) bb_list))))) (dss_one (ds_ret dx_bl)) dss_nil) (dss_cons (ds_if (dt_cmp (od_ne hr.units) (dx_callB cd_len rfl (Z.fr 25) bb_len (da_cons (b := false) (dx_varW 0) da_nil)) (dx_callB cd_len rfl (Z.fr 25) bb_len (da_cons (b := false) (dx_varW 1) da_nil))) (dss_one (ds_ret dx_bl)) dss_nil) (dss_cons (ds_for (passes_of rfl) rfl (di_range1 rfl (Z.fr 28) (da_cons (b := false) (DX.weak (dx_callB cd_len rfl (Z.fr 25) bb_len (da_cons (b := false) (dx_varW 1) da_nil))) da_nil)) (dg_name 2 nd__law_same) (dss_one (ds_if (dt_not (dt_tru (dx_callH hrec (hr.mono (by omega)) (L2N.takes_of rfl rfl rfl rfl) (dl_cons (dx_ix (dx_varW 0) (dx_varW 2)) (dl_cons (dx_ix (dx_varW 1) (dx_varW 2)) dl_nil))))) (dss_one (ds_ret dx_bl)) dss_nil))) (dss_one (ds_ret dx_bl))))) dss_nil) (dss_cons (ds_if (dt_cmp (od_ne hr.units) (dx_isI known_bool (dx_varW 1) rfl (Z.fr 24) bb_isinstance rfl (Z.fr 21) bb_bool) (dx_isI known_bool (dx_varW 0) rfl (Z.fr 24) bb_isinstance rfl (Z.fr 21) bb_bool)) (dss_one (ds_ret dx_bl)) dss_nil) (dss_cons (ds_if (dt_pw (dtw_or (dt_cmp (od_ne hr.units) (dx_isI known_int (dx_varW 1) rfl (Z.fr 24) bb_isinstance rfl (Z.fr 23) bb_int) (dx_isI known_int (dx_varW 0) rfl (Z.fr 24) bb_isinstance rfl (Z.fr 23) bb_int)) (dtw_or1 (dt_cmp (od_ne hr.units) (dx_isI known_str (dx_varW 1) rfl (Z.fr 24) bb_isinstance rfl (Z.fr 31) bb_str) (dx_isI known_str (dx_varW 0) rfl (Z.fr 24) bb_isinstance rfl (Z.fr 31) bb_str))))) (dss_one (ds_ret dx_bl)) dss_nil) (dss_one (ds_ret (dx_cmp (od_eq hr.units) (dx_varW 0) (dx_varW 1))))))))⟩
noncomputable def F__law_same : Nat → List Sl → M D
  | 0 => runB (fun _ => stk) N__law_same
  | m + 1 => runB (pk__law_same.1 (F__law_same m)) N__law_same
def lv__law_same : Nat → Nat
  | 0 => 1
  | m + 1 => lv__law_same m + 0 + 1
theorem ok__law_same {P : Program} {w : World} {K : PySem.W.Frag} {mg : Str → Option Value} {base : Heap} (Z : Fx faL fnL tfL exL K mg base) : ∀ m, Has P w K mg base (TsL tfL K) "_law_same" (lv__law_same m) 2 (F__law_same m)
  | 0 => has_of Z 11 11 rfl rfl sc__law_same rfl (fun _ _ _ _ _ _ us hl => match us, hl with | [_, _], _ => rfl) fun cdv hcd A outer s H E hr => dss_dead
  | m + 1 => has_of Z 11 11 rfl rfl sc__law_same rfl (fun _ _ _ _ _ _ us hl => match us, hl with | [_, _], _ => rfl) fun cdv hcd A outer s H E hr => pk__law_same.2 Z (F__law_same m) _ (ok__law_same Z m) cdv hcd A outer s H E hr
abbrev N__law_order : List Str := ["draws", "n", "found", "k", "j", "kind", "size", "many", "order", "part", "ring"]
theorem nd__law_order : N__law_order.Nodup := by decide +kernel
theorem sc__law_order : FnScope N__law_order ["draws", "n"] (defScope s__law_order) := ⟨rfl, rfl, rfl, nd__law_order, rfl, by decide +kernel, by decide +kernel⟩
abbrev cx__law_order (P : Program) (w : World) (K : PySem.W.Frag) (mg : Str → Option Value) (base : Heap) (cdv : Value) (A : Around) (outer : List Env) (s : Shared) (H : Hp) (E : XK) : Cx := cxOf (L2N.CX P w) P w K mg base N__law_order "_law_order" (defScope s__law_order) (He.ga K "_law_order") cdv A outer s H E
noncomputable def pk__law_order : Σ' g : Rho → M Out, ∀ {P : Program} {w : World} {K : PySem.W.Frag} {mg : Str → Option Value} {base : Heap} (Z : Fx faL fnL tfL exL K mg base) (cdv : Value) (hcd : cdv = .ref (He.codeOf K ("_law_order", none))) (A : Around) (outer : List Env) (s : Shared) (H : Hp) (E : XK) (hr : Room 1 (A.deeper (envOfC "_law_order" (defScope s__law_order) s.heap.objs.size (He.ga K "_law_order") cdv))),
  DSs (TsL tfL K) (cx__law_order P w K mg base cdv A outer s H E) (fun cls d _ H' => E cls d H') (defBody s__law_order) g :=
  ⟨_, fun {P w K mg base} Z cdv hcd A outer s H E hr => (dss_cons (ds_own 2 (df_listRg rfl rfl (Z.fr 26) (drg_1 rfl (Z.fr 28) (dx_varW 1))) nd__law_order) (dss_cons (ds_for (passes_of rfl) rfl (di_range1 rfl (Z.fr 28) (da_cons (b := false) (dx_varW 1) da_nil)) (dg_name 3 nd__law_order) (dss_cons (ds_set 4 (dx_bin od_add (dx_varW 3) (dx_callH (ok__law_take Z) (hr.mono (by decide)) (L2N.takes_of rfl rfl rfl rfl) (dl_drw 0 (dl_cons (dx_bin od_sub (dx_varW 1) (dx_varW 3)) dl_nil)))) nd__law_order) (dss_one (ds_asgM (dx_tup (da_cons (dx_ix (dx_varW 2) (dx_varW 4)) (da_cons (dx_ix (dx_varW 2) (dx_varW 3)) da_nil))) (dgm_tup 2 (dgms_cons (dgm_sub 2 (dx_varW 3)) (dgms_cons (dgm_sub 2 (dx_varW 4)) dgms_nil)) rfl))))) (dss_cons (ds_set 5 (dx_callH (ok__law_take Z) (hr.mono (by decide)) (L2N.takes_of rfl rfl rfl rfl) (dl_drw 0 (dl_cons dx_int dl_nil))) nd__law_order) (dss_cons (ds_if (dt_pw (dtw_or (dt_cmp (od_ltD hr.units) (dx_varW 5) dx_int) (dtw_or1 (dt_cmp (od_ltD hr.units) (dx_varW 1) dx_int)))) (dss_one (ds_ret (dx_callT cd_tuple rfl (Z.fr 32) bb_tuple (da_cons (b := false) (dx_varW 2) da_nil)))) dss_nil) (dss_cons (ds_set 6 (dx_ix (dx_lst (da_cons (dx_var 1) (da_cons (dx_bin od_add dx_int (dx_callH (ok__law_take Z) (hr.mono (by decide)) (L2N.takes_of rfl rfl rfl rfl) (dl_drw 0 (dl_cons (dx_var 1) dl_nil)))) (da_cons dx_int da_nil)))) (dx_bin od_sub (dx_varW 5) dx_int)) nd__law_order) (dss_cons (ds_set 7 (dx_ix (dx_lst (da_cons dx_int (da_cons (dx_bin od_add dx_int (dx_callH (ok__law_take Z) (hr.mono (by decide)) (L2N.takes_of rfl rfl rfl rfl) (dl_drw 0 (dl_cons (dx_bin od_fdiv (dx_varW 1) (dx_varW 6)) dl_nil)))) (da_cons dx_int da_nil)))) (dx_bin od_sub (dx_varW 5) dx_int)) nd__law_order) (dss_cons (ds_own 8 (df_listRg rfl rfl (Z.fr 26) (drg_1 rfl (Z.fr 28) (dx_varW 1))) nd__law_order) (dss_cons (ds_for (passes_of rfl) rfl (di_range1 rfl (Z.fr 28) (da_cons (b := false) (dx_varW 7) da_nil)) (dg_name 9 nd__law_order) (dss_cons (ds_set 10 (dx_cut (dx_varW 2) (do_some (dx_bin od_mul (dx_varW 9) (dx_varW 6))) (do_some (dx_bin od_mul (dx_bin od_add (dx_varW 9) dx_int) (dx_varW 6)))) nd__law_order) (dss_one (ds_for (passes_of rfl) rfl (di_range1 rfl (Z.fr 28) (da_cons (b := false) (dx_varW 6) da_nil)) (dg_name 3 nd__law_order) (dss_one (ds_asgM (dx_ix (dx_varW 10) (dx_bin od_mod (dx_bin od_add (dx_varW 3) dx_int) (dx_varW 6))) (dgm_sub 8 (dx_ix (dx_varW 10) (dx_varW 3))))))))) (dss_one (ds_ret (dx_callT cd_tuple rfl (Z.fr 32) bb_tuple (da_cons (b := false) (dx_varW 8) da_nil))))))))))))⟩
noncomputable def F__law_order : List Sl → M D := runB (pk__law_order).1 N__law_order
theorem ok__law_order {P : Program} {w : World} {K : PySem.W.Frag} {mg : Str → Option Value} {base : Heap} (Z : Fx faL fnL tfL exL K mg base) : Has P w K mg base (TsL tfL K) "_law_order" 2 2 (F__law_order) :=
  has_of Z 12 12 rfl rfl sc__law_order rfl (fun _ _ _ _ _ _ us hl => match us, hl with | [_, _], _ => rfl) fun cdv hcd A outer s H E hr => (pk__law_order).2 Z cdv hcd A outer s H E hr
abbrev N__law_rounds : List Str := ["order", "found", "start", "way", "turn"]
theorem nd__law_rounds : N__law_rounds.Nodup := by decide +kernel
theorem sc__law_rounds : FnScope N__law_rounds ["order"] (defScope s__law_rounds) := ⟨rfl, rfl, rfl, nd__law_rounds, rfl, by decide +kernel, by decide +kernel⟩
abbrev cx__law_rounds (P : Program) (w : World) (K : PySem.W.Frag) (mg : Str → Option Value) (base : Heap) (cdv : Value) (A : Around) (outer : List Env) (s : Shared) (H : Hp) (E : XK) : Cx := cxOf (L2N.CX P w) P w K mg base N__law_rounds "_law_rounds" (defScope s__law_rounds) (He.ga K "_law_rounds") cdv A outer s H E
noncomputable def pk__law_rounds : Σ' g : Rho → M Out, ∀ {P : Program} {w : World} {K : PySem.W.Frag} {mg : Str → Option Value} {base : Heap} (Z : Fx faL fnL tfL exL K mg base) (cdv : Value) (hcd : cdv = .ref (He.codeOf K ("_law_rounds", none))) (A : Around) (outer : List Env) (s : Shared) (H : Hp) (E : XK) (hr : Room 0 (A.deeper (envOfC "_law_rounds" (defScope s__law_rounds) s.heap.objs.size (He.ga K "_law_rounds") cdv))),
  DSs (TsL tfL K) (cx__law_rounds P w K mg base cdv A outer s H E) (fun cls d _ H' => E cls d H') (defBody s__law_rounds) g :=
  ⟨_, fun {P w K mg base} Z cdv hcd A outer s H E hr => (dss_cons (ds_own 1 (df_lst da_nil) nd__law_rounds) (dss_cons (ds_for (passes_of rfl) rfl (di_range1 rfl (Z.fr 28) (da_cons (b := false) (DX.weak (dx_callB cd_len rfl (Z.fr 25) bb_len (da_cons (b := false) (dx_varW 0) da_nil))) da_nil)) (dg_name 2 nd__law_rounds) (dss_cons (ds_own 3 (df_lst (da_cons (dx_var 2) da_nil)) nd__law_rounds) (dss_cons (ds_for (passes_of rfl) rfl (di_range1 rfl (Z.fr 28) (da_cons (b := false) (DX.weak (dx_callB cd_len rfl (Z.fr 25) bb_len (da_cons (b := false) (dx_varW 0) da_nil))) da_nil)) (dg_name 4 nd__law_rounds) (dss_one (ds_if (dt_cmp (od_ne hr.units) (dx_ix (dx_varW 0) (dx_ix (dx_varW 3) (dx_neg dx_int))) (dx_varW 2)) (dss_one (ds_append 3 (dx_ix (dx_varW 0) (dx_ix (dx_varW 3) (dx_neg dx_int))))) dss_nil))) (dss_one (ds_if (dt_cmp (od_eq hr.units) (dx_callB (cd_min rfl) rfl (Z.fr 27) bb_min (da_cons (b := false) (dx_varW 3) da_nil)) (dx_varW 2)) (dss_one (ds_append 1 (dx_callT cd_tuple rfl (Z.fr 32) bb_tuple (da_cons (b := false) (dx_varW 3) da_nil)))) dss_nil))))) (dss_one (ds_ret (dx_var 1)))))⟩
noncomputable def F__law_rounds : List Sl → M D := runB (pk__law_rounds).1 N__law_rounds
theorem ok__law_rounds {P : Program} {w : World} {K : PySem.W.Frag} {mg : Str → Option Value} {base : Heap} (Z : Fx faL fnL tfL exL K mg base) : Has P w K mg base (TsL tfL K) "_law_rounds" 1 1 (F__law_rounds) :=
  has_of Z 16 16 rfl rfl sc__law_rounds rfl (fun _ _ _ _ _ _ us hl => match us, hl with | [_], _ => rfl) fun cdv hcd A outer s H E hr => (pk__law_rounds).2 Z cdv hcd A outer s H E hr
abbrev N__law_kind : List Str := ["order", "way"]
theorem nd__law_kind : N__law_kind.Nodup := by decide +kernel
theorem sc__law_kind : FnScope N__law_kind ["order"] (defScope s__law_kind) := ⟨rfl, rfl, rfl, nd__law_kind, rfl, by decide +kernel, by decide +kernel⟩
abbrev cx__law_kind (P : Program) (w : World) (K : PySem.W.Frag) (mg : Str → Option Value) (base : Heap) (cdv : Value) (A : Around) (outer : List Env) (s : Shared) (H : Hp) (E : XK) : Cx := cxOf (L2N.CX P w) P w K mg base N__law_kind "_law_kind" (defScope s__law_kind) (He.ga K "_law_kind") cdv A outer s H E
noncomputable def pk__law_kind : Σ' g : Rho → M Out, ∀ {P : Program} {w : World} {K : PySem.W.Frag} {mg : Str → Option Value} {base : Heap} (Z : Fx faL fnL tfL exL K mg base) (cdv : Value) (hcd : cdv = .ref (He.codeOf K ("_law_kind", none))) (A : Around) (outer : List Env) (s : Shared) (H : Hp) (E : XK) (hr : Room 1 (A.deeper (envOfC "_law_kind" (defScope s__law_kind) s.heap.objs.size (He.ga K "_law_kind") cdv))),
  DSs (TsL tfL K) (cx__law_kind P w K mg base cdv A outer s H E) (fun cls d _ H' => E cls d H') (defBody s__law_kind) g :=
  ⟨_, fun {P w K mg base} Z cdv hcd A outer s H E hr => (dss_one (ds_ret (dx_callT cd_tuple rfl (Z.fr 32) bb_tuple (da_cons (b := false) (DX.weak (dx_callB (cd_sortA (units65 hr)) rfl (Z.fr 30) bb_sorted (da_cons (b := false) (DX.weak (DF.dx (df_lc (X := (cx__law_kind P w K mg base cdv A outer s H E)) (own := [("way", 1)]) rfl nd__law_kind (di_seq (dx_callH (ok__law_rounds Z) (hr.mono (by decide)) (L2N.takes_of rfl rfl rfl rfl) (dl_cons (dx_var 0) dl_nil))) (blkOk_by (by kernel_rfl)) (fun i1 => (dg_name 1 nd__law_kind)) (fun i1 => dts_nil) (fun i1 => (dx_callB cd_len rfl (Z.fr 25) bb_len (da_cons (b := false) (dx_varW 1) da_nil))) (kg_name 1)))) da_nil))) da_nil))))⟩
noncomputable def F__law_kind : List Sl → M D := runB (pk__law_kind).1 N__law_kind
theorem ok__law_kind {P : Program} {w : World} {K : PySem.W.Frag} {mg : Str → Option Value} {base : Heap} (Z : Fx faL fnL tfL exL K mg base) : Has P w K mg base (TsL tfL K) "_law_kind" 2 1 (F__law_kind) :=
  has_of Z 17 17 rfl rfl sc__law_kind rfl (fun _ _ _ _ _ _ us hl => match us, hl with | [_], _ => rfl) fun cdv hcd A outer s H E hr => (pk__law_kind).2 Z cdv hcd A outer s H E hr
abbrev N__law_is_even : List Str := ["order", "turned", "k", "j"]
theorem nd__law_is_even : N__law_is_even.Nodup := by decide +kernel
theorem sc__law_is_even : FnScope N__law_is_even ["order"] (defScope s__law_is_even) := ⟨rfl, rfl, rfl, nd__law_is_even, rfl, by decide +kernel, by decide +kernel⟩
abbrev cx__law_is_even (P : Program) (w : World) (K : PySem.W.Frag) (mg : Str → Option Value) (base : Heap) (cdv : Value) (A : Around) (outer : List Env) (s : Shared) (H : Hp) (E : XK) : Cx := cxOf (L2N.CX P w) P w K mg base N__law_is_even "_law_is_even" (defScope s__law_is_even) (He.ga K "_law_is_even") cdv A outer s H E
noncomputable def pk__law_is_even : Σ' g : Rho → M Out, ∀ {P : Program} {w : World} {K : PySem.W.Frag} {mg : Str → Option Value} {base : Heap} (Z : Fx faL fnL tfL exL K mg base) (cdv : Value) (hcd : cdv = .ref (He.codeOf K ("_law_is_even", none))) (A : Around) (outer : List Env) (s : Shared) (H : Hp) (E : XK) (hr : Room 0 (A.deeper (envOfC "_law_is_even" (defScope s__law_is_even) s.heap.objs.size (He.ga K "_law_is_even") cdv))),
  DSs (TsL tfL K) (cx__law_is_even P w K mg base cdv A outer s H E) (fun cls d _ H' => E cls d H') (defBody s__law_is_even) g :=
  ⟨_, fun {P w K mg base} Z cdv hcd A outer s H E hr => (dss_cons (ds_set 1 dx_int nd__law_is_even) (dss_cons (ds_for (passes_of rfl) rfl (di_range1 rfl (Z.fr 28) (da_cons (b := false) (DX.weak (dx_callB cd_len rfl (Z.fr 25) bb_len (da_cons (b := false) (dx_varW 0) da_nil))) da_nil)) (dg_name 2 nd__law_is_even) (dss_one (ds_set 1 (dx_bin od_add (dx_varW 1) (dx_callB cd_len rfl (Z.fr 25) bb_len (da_cons (b := false) (DX.weak (DF.dx (df_lc (X := (cx__law_is_even P w K mg base cdv A outer s H E)) (own := [("j", 3)]) rfl nd__law_is_even (di_range1 rfl (Z.fr 28) (da_cons (b := false) (dx_varW 2) da_nil)) (blkOk_by (by kernel_rfl)) (fun i1 => (dg_name 3 nd__law_is_even)) (fun i1 => (dts_one (dt_cmp (od_gtD hr.units) (dx_ix (dx_varW 0) (dx_varW 3)) (dx_ix (dx_varW 0) (dx_varW 2))))) (fun i1 => (dx_var 3)) (kg_name 3)))) da_nil))) nd__law_is_even))) (dss_one (ds_ret (dx_cmp (od_eq hr.units) (dx_bin od_mod (dx_varW 1) dx_int) dx_int)))))⟩
noncomputable def F__law_is_even : List Sl → M D := runB (pk__law_is_even).1 N__law_is_even
theorem ok__law_is_even {P : Program} {w : World} {K : PySem.W.Frag} {mg : Str → Option Value} {base : Heap} (Z : Fx faL fnL tfL exL K mg base) : Has P w K mg base (TsL tfL K) "_law_is_even" 1 1 (F__law_is_even) :=
  has_of Z 18 18 rfl rfl sc__law_is_even rfl (fun _ _ _ _ _ _ us hl => match us, hl with | [_], _ => rfl) fun cdv hcd A outer s H E hr => (pk__law_is_even).2 Z cdv hcd A outer s H E hr
abbrev N_law : List Str := ["script", "draws", "n", "one", "two", "order", "ways", "turns", "prime", "way"]
theorem nd_law : N_law.Nodup := by decide +kernel
theorem sc_law : FnScope N_law ["script"] (defScope s_law) := ⟨rfl, rfl, rfl, nd_law, rfl, by decide +kernel, by decide +kernel⟩
abbrev cx_law (P : Program) (w : World) (K : PySem.W.Frag) (mg : Str → Option Value) (base : Heap) (cdv : Value) (A : Around) (outer : List Env) (s : Shared) (H : Hp) (E : XK) : Cx := cxOf (L2N.CX P w) P w K mg base N_law "law" (defScope s_law) (He.ga K "law") cdv A outer s H E
noncomputable def pk_law_1 : Σ' g : Rho → M Out, ∀ {P : Program} {w : World} {K : PySem.W.Frag} {mg : Str → Option Value} {base : Heap} (Z : Fx faL fnL tfL exL K mg base) (cdv : Value) (hcd : cdv = .ref (He.codeOf K ("law", none))) (A : Around) (outer : List Env) (s : Shared) (H : Hp) (E : XK) (hr : Room 9 (A.deeper (envOfC "law" (defScope s_law) s.heap.objs.size (He.ga K "law") cdv))),
  DS1 (TsL tfL K) (cx_law P w K mg base cdv A outer s H E) (fun cls d _ H' => E cls d H') ((defBody s_law).getD 1 (.Pass ⟨0, 0, 0, 0⟩)) g :=
  ⟨_, fun {P w K mg base} Z cdv hcd A outer s H E hr => (ds_set 2 (dx_bin od_add dx_int (dx_callH (ok__law_take Z) (hr.mono (by decide)) (L2N.takes_of rfl rfl rfl rfl) (dl_drw 1 (dl_cons dx_int dl_nil)))) nd_law)⟩
noncomputable def pk_law_2 : Σ' g : Rho → M Out, ∀ {P : Program} {w : World} {K : PySem.W.Frag} {mg : Str → Option Value} {base : Heap} (Z : Fx faL fnL tfL exL K mg base) (cdv : Value) (hcd : cdv = .ref (He.codeOf K ("law", none))) (A : Around) (outer : List Env) (s : Shared) (H : Hp) (E : XK) (hr : Room 9 (A.deeper (envOfC "law" (defScope s_law) s.heap.objs.size (He.ga K "law") cdv))),
  DS1 (TsL tfL K) (cx_law P w K mg base cdv A outer s H E) (fun cls d _ H' => E cls d H') ((defBody s_law).getD 2 (.Pass ⟨0, 0, 0, 0⟩)) g :=
  ⟨_, fun {P w K mg base} Z cdv hcd A outer s H E hr => (ds_parS 3 4 (dx_callH (ok__law_order Z) (hr.mono (by decide)) (L2N.takes_of rfl rfl rfl rfl) (dl_drw 1 (dl_cons (dx_var 2) dl_nil))) (dx_callH (ok__law_order Z) (hr.mono (by decide)) (L2N.takes_of rfl rfl rfl rfl) (dl_drw 1 (dl_cons (dx_var 2) dl_nil))) rfl nd_law rfl rfl (by decide) rfl rfl rfl)⟩
noncomputable def pk_law_3 : Σ' g : Rho → M Out, ∀ {P : Program} {w : World} {K : PySem.W.Frag} {mg : Str → Option Value} {base : Heap} (Z : Fx faL fnL tfL exL K mg base) (cdv : Value) (hcd : cdv = .ref (He.codeOf K ("law", none))) (A : Around) (outer : List Env) (s : Shared) (H : Hp) (E : XK) (hr : Room 9 (A.deeper (envOfC "law" (defScope s_law) s.heap.objs.size (He.ga K "law") cdv))),
  DS1 (TsL tfL K) (cx_law P w K mg base cdv A outer s H E) (fun cls d _ H' => E cls d H') ((defBody s_law).getD 3 (.Pass ⟨0, 0, 0, 0⟩)) g :=
  ⟨_, fun {P w K mg base} Z cdv hcd A outer s H E hr => (ds_for (passes_of rfl) rfl (di_seq (dx_lst (da_cons (dx_var 3) (da_cons (dx_var 4) (da_cons (dx_callH (ok_done Z) (hr.mono (by decide)) (L2N.takes_of rfl rfl rfl rfl) (dl_cons (dx_var 3) (dl_cons (dx_var 4) dl_nil))) (da_cons (dx_callH (ok_undone Z) (hr.mono (by decide)) (L2N.takes_of rfl rfl rfl rfl) (dl_cons (dx_var 3) dl_nil)) da_nil)))))) (dg_name 5 nd_law) (dss_cons (ds_set 6 (dx_callH (ok__law_rounds Z) (hr.mono (by decide)) (L2N.takes_of rfl rfl rfl rfl) (dl_cons (dx_var 5) dl_nil)) nd_law) (dss_cons (ds_if (dt_not (dt_tru (dx_callH (ok__law_same Z 8) (hr.mono (by decide)) (L2N.takes_of rfl rfl rfl rfl) (dl_cons (dx_lst (da_cons (dx_callH (ok_rounds Z) (hr.mono (by decide)) (L2N.takes_of rfl rfl rfl rfl) (dl_cons (dx_var 5) dl_nil)) (da_cons (dx_callH (ok_kind_of Z) (hr.mono (by decide)) (L2N.takes_of rfl rfl rfl rfl) (dl_cons (dx_var 5) dl_nil)) da_nil))) (dl_cons (dx_lst (da_cons (dx_var 6) (da_cons (dx_callH (ok__law_kind Z) (hr.mono (by decide)) (L2N.takes_of rfl rfl rfl rfl) (dl_cons (dx_var 5) dl_nil)) da_nil))) dl_nil))))) (dss_one (ds_ret dx_bl)) dss_nil) (dss_cons (ds_set 7 (dx_callH (ok_turn_number Z) (hr.mono (by decide)) (L2N.takes_of rfl rfl rfl rfl) (dl_cons (dx_var 5) dl_nil)) nd_law) (dss_cons (ds_if (dt_pw (dtw_or (dt_not (dt_tru (dx_isI known_int (dx_varW 7) rfl (Z.fr 24) bb_isinstance rfl (Z.fr 23) bb_int))) (dtw_or (dt_tru (dx_isI known_bool (dx_varW 7) rfl (Z.fr 24) bb_isinstance rfl (Z.fr 21) bb_bool)) (dtw_or (dt_cmp (od_ltD hr.units) (dx_varW 7) dx_int) (dtw_or1 (dt_cmp (od_ne hr.units) (DF.dx (df_lc (X := (cx_law P w K mg base cdv A outer s H E)) (own := [("way", 9)]) rfl nd_law (di_seq (dx_var 6)) (blkOk_by (by kernel_rfl)) (fun i1 => (dg_name 9 nd_law)) (fun i1 => (dts_one (dt_cmp (od_ne hr.units) (dx_bin od_mod (dx_varW 7) (dx_callB cd_len rfl (Z.fr 25) bb_len (da_cons (b := false) (dx_varW 9) da_nil))) dx_int))) (fun i1 => (dx_var 9)) (kg_name 9))) (dx_lst da_nil))))))) (dss_one (ds_ret dx_bl)) dss_nil) (dss_cons (ds_if (dt_cmp (od_ne hr.units) (dx_callH (ok_power Z) (hr.mono (by decide)) (L2N.takes_of rfl rfl rfl rfl) (dl_cons (dx_var 5) (dl_cons (dx_var 7) dl_nil))) (dx_callH (ok_still Z) (hr.mono (by decide)) (L2N.takes_of rfl rfl rfl rfl) (dl_cons (dx_var 2) dl_nil))) (dss_one (ds_ret dx_bl)) dss_nil) (dss_cons (ds_for (passes_of rfl) rfl (di_seq (dx_lst (da_cons dx_int (da_cons dx_int (da_cons dx_int (da_cons dx_int (da_cons dx_int (da_cons dx_int (da_cons dx_int (da_cons dx_int (da_cons dx_int da_nil))))))))))) (dg_name 8 nd_law) (dss_one (ds_if (dt_pw (dtw_and (dt_cmp (od_eq hr.units) (dx_bin od_mod (dx_varW 7) (dx_varW 8)) dx_int) (dtw_and1 (dt_cmp (od_eq hr.units) (DF.dx (df_lc (X := (cx_law P w K mg base cdv A outer s H E)) (own := [("way", 9)]) rfl nd_law (di_seq (dx_var 6)) (blkOk_by (by kernel_rfl)) (fun i2 => (dg_name 9 nd_law)) (fun i2 => (dts_one (dt_cmp (od_ne hr.units) (dx_bin od_mod (dx_bin od_fdiv (dx_varW 7) (dx_varW 8)) (dx_callB cd_len rfl (Z.fr 25) bb_len (da_cons (b := false) (dx_varW 9) da_nil))) dx_int))) (fun i2 => (dx_var 9)) (kg_name 9))) (dx_lst da_nil))))) (dss_one (ds_ret dx_bl)) dss_nil))) (dss_one (ds_if (dt_pw (dtw_or (dt_not (dt_tru (dx_callH (ok__law_same Z 8) (hr.mono (by decide)) (L2N.takes_of rfl rfl rfl rfl) (dl_cons (dx_callH (ok_is_even Z) (hr.mono (by decide)) (L2N.takes_of rfl rfl rfl rfl) (dl_cons (dx_var 5) dl_nil)) (dl_cons (dx_callH (ok__law_is_even Z) (hr.mono (by decide)) (L2N.takes_of rfl rfl rfl rfl) (dl_cons (dx_var 5) dl_nil)) dl_nil))))) (dtw_or1 (dt_cmp (od_ne hr.units) (dx_callH (ok_is_even Z) (hr.mono (by decide)) (L2N.takes_of rfl rfl rfl rfl) (dl_cons (dx_var 5) dl_nil)) (dx_cmp (od_eq hr.units) (dx_bin od_mod (dx_bin od_sub (dx_varW 2) (dx_callB cd_len rfl (Z.fr 25) bb_len (da_cons (b := false) (dx_varW 6) da_nil))) dx_int) dx_int))))) (dss_one (ds_ret dx_bl)) dss_nil)))))))))⟩
noncomputable def pk_law_4 : Σ' g : Rho → M Out, ∀ {P : Program} {w : World} {K : PySem.W.Frag} {mg : Str → Option Value} {base : Heap} (Z : Fx faL fnL tfL exL K mg base) (cdv : Value) (hcd : cdv = .ref (He.codeOf K ("law", none))) (A : Around) (outer : List Env) (s : Shared) (H : Hp) (E : XK) (hr : Room 9 (A.deeper (envOfC "law" (defScope s_law) s.heap.objs.size (He.ga K "law") cdv))),
  DS1 (TsL tfL K) (cx_law P w K mg base cdv A outer s H E) (fun cls d _ H' => E cls d H') ((defBody s_law).getD 4 (.Pass ⟨0, 0, 0, 0⟩)) g :=
  ⟨_, fun {P w K mg base} Z cdv hcd A outer s H E hr => (ds_ret (dx_cmp (od_eq hr.units) (dx_callH (ok_is_even Z) (hr.mono (by decide)) (L2N.takes_of rfl rfl rfl rfl) (dl_cons (dx_callH (ok_done Z) (hr.mono (by decide)) (L2N.takes_of rfl rfl rfl rfl) (dl_cons (dx_var 3) (dl_cons (dx_var 4) dl_nil))) dl_nil)) (dx_cmp (od_eq hr.units) (dx_callH (ok_is_even Z) (hr.mono (by decide)) (L2N.takes_of rfl rfl rfl rfl) (dl_cons (dx_var 3) dl_nil)) (dx_callH (ok_is_even Z) (hr.mono (by decide)) (L2N.takes_of rfl rfl rfl rfl) (dl_cons (dx_var 4) dl_nil)))))⟩
noncomputable def pk_law : Σ' g : Rho → M Out, ∀ {P : Program} {w : World} {K : PySem.W.Frag} {mg : Str → Option Value} {base : Heap} (Z : Fx faL fnL tfL exL K mg base) (cdv : Value) (hcd : cdv = .ref (He.codeOf K ("law", none))) (A : Around) (outer : List Env) (s : Shared) (H : Hp) (E : XK) (hr : Room 9 (A.deeper (envOfC "law" (defScope s_law) s.heap.objs.size (He.ga K "law") cdv))),
  DSs (TsL tfL K) (cx_law P w K mg base cdv A outer s H E) (fun cls d _ H' => E cls d H') ((defBody s_law).drop 1) g :=
  ⟨_, fun {P w K mg base} Z cdv hcd A outer s H E hr => (dss_cons (pk_law_1.2 Z cdv hcd A outer s H E hr) (dss_cons (pk_law_2.2 Z cdv hcd A outer s H E hr) (dss_cons (pk_law_3.2 Z cdv hcd A outer s H E hr) (dss_one (pk_law_4.2 Z cdv hcd A outer s H E hr)))))⟩
end DV

set_option Elab.async false
set_option linter.all false
set_option maxRecDepth 100000
set_option maxHeartbeats 2000000
/-! evaluation of what the printer prints -/
namespace DV
open PySem PySem.Spec PyProof.Rows L2
theorem bndr {α β : Type} (a : α) (f : α → M β) : bnd (ret a) f = f a := (rfl)
theorem bndb {α β γ : Type} (m : M α) (f : α → M β) (g : β → M γ) : bnd (bnd m f) g = bnd m fun a => bnd (f a) g := bnd_bnd m f g
theorem lift_some {α : Type} (a : α) : lift (some a) = ret a := (rfl)
theorem lift_none {α : Type} : (lift none : M α) = stk := (rfl)
theorem toB_bool (c : Bool) : toB (.bool c) = ret c := (rfl)
theorem truth_bool (c : Bool) : truthD (.bool c) = some c := (rfl)
theorem slot0 (d : D) (r : Rho) : slot (some (.val d) :: r) 0 = ret d := (rfl)
theorem slotS (x : Option Sl) (r : Rho) (i : Nat) : slot (x :: r) (i + 1) = slot r i := (rfl)
theorem slotW0 (d : D) (r : Rho) : slotW (some (.val d) :: r) 0 = ret d := (rfl)
theorem slotW0o (d : D) (r : Rho) : slotW (some (.own d) :: r) 0 = ret d := (rfl)
theorem slotWS (x : Option Sl) (r : Rho) (i : Nat) : slotW (x :: r) (i + 1) = slotW r i := (rfl)
theorem slotD0 (r : Rho) : slotDr (some .drw :: r) 0 = ret () := (rfl)
theorem slotDS (x : Option Sl) (r : Rho) (i : Nat) : slotDr (x :: r) (i + 1) = slotDr r i := (rfl)
theorem ownS0 (ds : List D) (r : Rho) : ownS (some (.own (.list ds)) :: r) 0 = ret ds := (rfl)
theorem ownSS (x : Option Sl) (r : Rho) (i : Nat) : ownS (x :: r) (i + 1) = ownS r i := (rfl)
theorem frz_nil : frz [] = [] := (rfl)
theorem frz_v (d : D) (r : Rho) : frz (some (.val d) :: r) = some (.val d) :: frz r := (rfl)
theorem frz_o (d : D) (r : Rho) : frz (some (.own d) :: r) = some (.val d) :: frz r := (rfl)
theorem frz_d (r : Rho) : frz (some .drw :: r) = some .drw :: frz r := (rfl)
theorem frz_n (r : Rho) : frz (none :: r) = none :: frz r := (rfl)
theorem if_tt {α : Type} (a b : α) : (if true = true then a else b) = a := (rfl)
theorem if_ff {α : Type} (a b : α) : (if false = true then a else b) = b := (rfl)
theorem itemsD_l (ds : List D) : itemsD (.list ds) = ret ds := (rfl)
theorem itemsD_t (ds : List D) : itemsD (.tuple ds) = ret ds := (rfl)
theorem setV_eq (i : Nat) (d : D) (ρ : Rho) : setV i d ρ = some (ρ.set i (some (.val d))) := (rfl)
theorem seqT_t (h : List D → Rho → Option Rho) (ds : List D) (ρ : Rho) : seqT h (.tuple ds) ρ = h ds ρ := (rfl)
theorem seqS_eq (g1 g2 : Rho → M Out) (ρ : Rho) : seqS g1 g2 ρ = bnd (g1 ρ) fun o => match o with
  | .nx ρ' => g2 ρ'
  | o => ret o := (rfl)
theorem dAdd_i (i j : Int) : dAdd (.int i) (.int j) = some (.int (i + j)) := (rfl)
theorem dSub_i (i j : Int) : dSub (.int i) (.int j) = some (.int (i - j)) := (rfl)
theorem dMul_i {i j : Int} (h : IntMulOk i j) : dMul (.int i) (.int j) = some (.int (i * j)) := iteP_pos h
theorem dFdiv_i {i j : Int} (h : 0 < j) (h2 : j.natAbs.log2 < 9000) : dFdiv (.int i) (.int j) = some (.int (i / j)) := iteP_pos ⟨h, h2⟩
theorem dMod_i {i j : Int} (h : 0 < j) : dMod (.int i) (.int j) = some (.int (i % j)) := iteP_pos h
theorem dEq_s {d e : D} (h1 : SeqAt.shaped d = true) (h2 : SeqAt.shaped e = true) : dEq d e = some (.bool (PyData.eqv d e)) := iteP_pos ⟨h1, h2⟩
theorem dNe_s {d e : D} (h1 : SeqAt.shaped d = true) (h2 : SeqAt.shaped e = true) : dNe d e = some (.bool (!PyData.eqv d e)) := iteP_pos ⟨h1, h2⟩
/-- a loop in which each turn leads from a state to the next -/
theorem forD_fold {α : Type} {hh : D → Rho → Option Rho} {body : Rho → M Out} (R : α → Rho) (P : α → Prop) (step : α → D → α) : ∀ (ds : List D), (∀ d ∈ ds, ∀ a, P a → P (step a d) ∧ (bnd (lift (hh d (R a))) body) = ret (.nx (R (step a d)))) → ∀ a, P a → forD hh body ds (R a) = ret (.nx (R (ds.foldl step a))) ∧ P (ds.foldl step a)
  | [], _, a, p => ⟨rfl, p⟩
  | d :: ds, h, a, p => by
    obtain ⟨p1, e1⟩ := h d List.mem_cons_self a p
    obtain ⟨e2, p2⟩ := forD_fold R P step ds (fun d' hd' => h d' (List.mem_cons_of_mem _ hd')) _ p1
    refine ⟨?_, p2⟩
    have e : forD hh body (d :: ds) (R a) = bnd (bnd (lift (hh d (R a))) body) fun o => match o with
      | .nx ρ2 => forD hh body ds ρ2
      | .ct ρ2 => forD hh body ds ρ2
      | .bk ρ2 => ret (.nx ρ2)
      | .rt d => ret (.rt d) := by
      rw [bnd_bnd]; rfl
    rw [e, e1, bnd_ret]
    exact e2
end DV

set_option Elab.async false
set_option linter.all false
set_option maxRecDepth 100000
set_option maxHeartbeats 4000000
/-! evaluation: what all laws have in common -/
namespace DV
open PySem PySem.Spec PyProof.Rows L2
theorem isI_ii (i : Int) : isI "int" (.int i) = true := (rfl)
theorem isI_bi (i : Int) : isI "bool" (.int i) = false := (rfl)
theorem dLe_i (i j : Int) : dLe (.int i) (.int j) = some (.bool (decide (i ≤ j))) := (rfl)
theorem dLtD_i (i j : Int) : dLtD (.int i) (.int j) = some (.bool (decide (i < j))) := (rfl)
theorem dLeD_i (i j : Int) : dLeD (.int i) (.int j) = some (.bool (decide (i ≤ j))) := (rfl)
theorem dGtD_i (i j : Int) : dGtD (.int i) (.int j) = some (.bool (decide (i > j))) := (rfl)
theorem dGeD_i (i j : Int) : dGeD (.int i) (.int j) = some (.bool (decide (j ≤ i))) := (rfl)
theorem dLt_i (i j : Int) : dLt (.int i) (.int j) = some (.bool (decide (i < j))) := (rfl)
/-- the end of a def -/
def fin (o : Out) : M D := match o with
  | .nx _ => ret .none
  | .rt d => ret d
  | _ => stk
theorem fin_rt (d : D) : fin (.rt d) = ret d := rfl
theorem runB_eq (g : Rho → M Out) (N : List Str) (as : List Sl) (ρ : Rho) (h : startD N as = ρ) : runB g N as = bnd (g ρ) fin := by
  rw [← h]
  rfl
def numB (lo hi : Int) : D → Bool
  | .int i => decide (lo ≤ i) && decide (i ≤ hi)
  | _ => false
theorem cmul_small {i b : Int} (h : 0 ≤ b) (h2 : b ≤ 1000) : IntMulOk i b := CMul.ok (.inr ⟨by omega, by omega⟩)
/-- a loop over whole numbers: by their list -/
theorem forD_ints {α : Type} {i : Nat} {body : Rho → M Out} (R : α → Option Sl → Rho) (P : α → Prop) (step : α → Int → α) (hR : ∀ a o z, (R a o).set i z = R a z) : ∀ (bs : List Int), (∀ b ∈ bs, ∀ a, P a → P (step a b) ∧ body (R a (some (.val (.int b)))) = ret (.nx (R (step a b) (some (.val (.int b)))))) → ∀ a o, P a → ∃ o', forD (setV i) body (bs.map PyData.int) (R a o) = ret (.nx (R (bs.foldl step a) o')) ∧ P (bs.foldl step a)
  | [], _, a, o, p => ⟨o, rfl, p⟩
  | b :: bs, h, a, o, p => by
    obtain ⟨p1, e1⟩ := h b List.mem_cons_self a p
    obtain ⟨o', e2, p2⟩ := forD_ints R P step hR bs (fun b' hb' => h b' (List.mem_cons_of_mem _ hb')) (step a b) (some (.val (.int b))) p1
    refine ⟨o', ?_, p2⟩
    have e : forD (setV i) body ((b :: bs).map PyData.int) (R a o) = bnd (body (R a (some (.val (.int b))))) fun o => match o with
      | .nx ρ2 => forD (setV i) body (bs.map PyData.int) ρ2
      | .ct ρ2 => forD (setV i) body (bs.map PyData.int) ρ2
      | .bk ρ2 => ret (.nx ρ2)
      | .rt d => ret (.rt d) := by
      show bnd (lift (some ((R a o).set i (some (.val (.int b)))))) _ = _
      rw [hR]; rfl
    rw [e, e1, bnd_ret]
    exact e2
theorem forD_step {hh : D → Rho → Option Rho} {body : Rho → M Out} {d : D} {ds : List D} {ρ ρ1 ρ2 : Rho} (h1 : hh d ρ = some ρ1) (h2 : body ρ1 = ret (.nx ρ2)) : forD hh body (d :: ds) ρ = forD hh body ds ρ2 := by
  have e : forD hh body (d :: ds) ρ = bnd (lift (hh d ρ)) fun ρ1 => bnd (body ρ1) fun o => match o with
    | .nx ρ2 => forD hh body ds ρ2
    | .ct ρ2 => forD hh body ds ρ2
    | .bk ρ2 => ret (.nx ρ2)
    | .rt d => ret (.rt d) := rfl
  rw [e, h1, lift_some, bnd_ret, h2, bnd_ret]
theorem log_lt {m : Int} (h0 : 0 ≤ m) (h : m < 2 ^ 1000) : m.natAbs.log2 < 9000 := by
  by_cases z : m.natAbs = 0
  · rw [z]; decide
  · have : m.natAbs < 2 ^ 1000 := by omega
    have h2 := (Nat.log2_lt z).mpr this
    omega
theorem dAnd_1 (i : Int) : dAnd (.int i) (.int 1) = some (.int (i % 2)) := by
  show some (PyData.int (Builtin.bitAnd i 1)) = _
  rw [bitAnd_m1]
theorem shaped_int (i : Int) : SeqAt.shaped (.int i) = true := rfl
theorem dEq_i (i j : Int) : dEq (.int i) (.int j) = some (.bool (i == j)) := dEq_s rfl rfl
theorem dDiv_i {i j : Int} (h : 0 < j) (h2 : j.natAbs.log2 < 9000) : dDivmod [.int i, .int j] = some (.tuple [.int (i / j), .int (i % j)]) := iteP_pos ⟨h, PyProof.noPylong_of_log2 h2⟩
theorem qD_pure {p : D → Bool} {hh : D → Rho → Option Rho} {tt : Rho → M Bool} {fe : Rho → M D} {ρ : Rho} : ∀ {ds : List D}, (∀ d ∈ ds, ∃ ρ1, hh d ρ = some ρ1 ∧ tt ρ1 = ret true ∧ fe ρ1 = ret (.bool (p d))) → qD false hh tt fe ρ ds = ret (ds.all p)
  | [], _ => rfl
  | d :: ds, h => by
    obtain ⟨ρ1, e1, e2, e3⟩ := h d List.mem_cons_self
    have ih := qD_pure (ds := ds) fun d' hd' => h d' (List.mem_cons_of_mem _ hd')
    have e : qD false hh tt fe ρ (d :: ds) = bnd (lift (hh d ρ)) fun ρ1 => bnd (nox (tt ρ1)) fun c => if c = true then bnd (nox (fe ρ1)) fun e => match e with
      | .bool b => if b = false then ret false else qD false hh tt fe ρ ds
      | _ => stk
    else qD false hh tt fe ρ ds := rfl
    rw [e, e1, lift_some, bnd_ret, e2, nox_ret, bnd_ret, if_tt, e3, nox_ret, bnd_ret, List.all_cons]
    cases p d with
    | true => rw [Bool.true_and, ← ih]; rfl
    | false => rfl
theorem dLen_t (ds : List D) : dLen [.tuple ds] = some (.int ds.length) := (rfl)
theorem dLen_l (ds : List D) : dLen [.list ds] = some (.int ds.length) := (rfl)
theorem dNe_i (i j : Int) : dNe (.int i) (.int j) = some (.bool (!(i == j))) := dNe_s rfl rfl
theorem dPow_i {i j : Int} (h : 0 ≤ j) (h1 : j ≤ 1000000) (h2 : i.natAbs < 2 ^ 64) : dPow (.int i) (.int j) = some (.int (i ^ j.toNat)) := iteP_pos ⟨h, h1, h2⟩
theorem dShr_i {i j : Int} (h : 0 ≤ j) : dShr (.int i) (.int j) = some (.int (i / 2 ^ j.toNat)) := iteP_pos h
theorem dXor_i (i j : Int) : dXor (.int i) (.int j) = some (.int (Builtin.bitXor i j)) := (rfl)
theorem dGe_i (i j : Int) : dGe (.int i) (.int j) = some (.bool (decide (j ≤ i))) := (rfl)
theorem getA_at {α β : Type} (k : Int → Int → List Int → M α) (f : α → M β) (t l : Int) (cells : List Int) : bnd (getA k) f (.a t l cells) = bnd (k t l cells) f (.a t l cells) := rfl
theorem put0_at {β : Type} (z : Int) (f : Unit → M β) (t l : Int) (cells : List Int) : bnd (putA 0 (.int z)) f (.a t l cells) = f () (.a z l cells) := rfl
theorem put1_at {β : Type} (z : Int) (f : Unit → M β) (t l : Int) (cells : List Int) : bnd (putA 1 (.int z)) f (.a t l cells) = f () (.a t z cells) := rfl
theorem slotC0 (r : Rho) : slotCl (some .cls :: r) 0 = ret () := rfl
theorem slotCS (x : Option Sl) (r : Rho) (i : Nat) : slotCl (x :: r) (i + 1) = slotCl r i := rfl
theorem frz_c (r : Rho) : frz (some .cls :: r) = some .cls :: frz r := rfl
theorem atI_in {cells : List Int} {k : Int} (h0 : 0 ≤ k) (h1 : k < cells.length) : ∃ z, atI cells k = some z := by
  have hk : k.toNat < cells.length := by omega
  refine ⟨cells[k.toNat], ?_⟩
  unfold atI ixN
  rw [if_pos h0, if_pos h1]
  exact List.getElem?_eq_getElem hk
/-- the states of the draws -/
def DOk (s : DS) : Prop := ∃ t l cells, s = .a t l cells ∧ cells ≠ []
def T (w : List Int) : D := .tuple (w.map PyData.int)
theorem lcD_pure {f : D → D} {hh : D → Rho → Option Rho} {tt : Rho → M Bool} {fe : Rho → M D} {ρ : Rho} : ∀ {ds : List D}, (∀ d ∈ ds, ∃ ρ1, hh d ρ = some ρ1 ∧ tt ρ1 = ret true ∧ fe ρ1 = ret (f d)) → lcD hh tt fe ρ ds = ret (ds.map f)
  | [], _ => rfl
  | d :: ds, h => by
    obtain ⟨ρ1, e1, e2, e3⟩ := h d List.mem_cons_self
    have ih := lcD_pure (f := f) (ds := ds) fun d' hd' => h d' (List.mem_cons_of_mem _ hd')
    have e : lcD hh tt fe ρ (d :: ds) = bnd (lift (hh d ρ)) fun ρ1 => bnd (nox (tt ρ1)) fun c => if c = true then bnd (nox (fe ρ1)) fun e => bnd (lcD hh tt fe ρ ds) fun es => ret (e :: es) else lcD hh tt fe ρ ds := rfl
    rw [e, e1, lift_some, bnd_ret, e2, nox_ret, bnd_ret, if_tt, e3, nox_ret, bnd_ret, ih, bnd_ret]
    rfl
theorem forD_range' {k : Nat} {body : Rho → M Out} {R : Nat → Option Sl → Rho} (hR : ∀ i o z, (R i o).set k z = R i z) : ∀ (n s : Nat) (o : Option Sl), (∀ i, s ≤ i → i < s + n → body (R i (some (.val (.int (0 + (i : Nat)))))) = ret (.nx (R (i + 1) (some (.val (.int (0 + (i : Nat)))))))) → ∃ o', forD (setV k) body ((List.range' s n).map fun i => PyData.int (0 + (i : Nat))) (R s o) = ret (.nx (R (s + n) o'))
  | 0, s, o, _ => ⟨o, rfl⟩
  | n + 1, s, o, h => by
    obtain ⟨o', e⟩ := forD_range' hR n (s + 1) (some (.val (.int (0 + (s : Nat))))) fun i h1 h2 => h i (by omega) (by omega)
    refine ⟨o', ?_⟩
    rw [show s + (n + 1) = s + 1 + n by omega, ← e, List.range'_succ, List.map_cons]
    refine forD_step (ρ1 := R s (some (.val (.int (0 + (s : Nat)))))) ?_ (h s (Nat.le_refl _) (by omega))
    show some ((R s o).set k _) = _
    rw [hR]
theorem forD_range {k n : Nat} {body : Rho → M Out} {R : Nat → Option Sl → Rho} (hR : ∀ i o z, (R i o).set k z = R i z) (o : Option Sl) (h : ∀ i, i < n → body (R i (some (.val (.int (0 + (i : Nat)))))) = ret (.nx (R (i + 1) (some (.val (.int (0 + (i : Nat)))))))) : ∃ o', forD (setV k) body (rangeD 0 n) (R 0 o) = ret (.nx (R n o')) := by
  obtain ⟨o', e⟩ := forD_range' hR n 0 o fun i _ h2 => h i (by omega)
  rw [Nat.zero_add] at e
  exact ⟨o', by unfold rangeD; rw [List.range_eq_range']; exact e⟩
theorem dAdd_t {xs ys : List D} (h : xs.length + ys.length ≤ sizeLine) : dAdd (.tuple xs) (.tuple ys) = some (.tuple (xs ++ ys)) := iteP_pos h
theorem dAdd_l {xs ys : List D} (h : xs.length + ys.length ≤ sizeLine) : dAdd (.list xs) (.list ys) = some (.list (xs ++ ys)) := iteP_pos h
theorem nox_at {α : Type} {m : M α} {s s' : DS} {a : α} (h : m s = .ok a s') : nox m s = .ok a s' := by
  unfold nox
  rw [h]
theorem ret_at {α : Type} (a : α) (s : DS) : ret a s = .ok a s := rfl
/-- a comprehension whose elements are drawn -/
theorem lcD_draw {Pe : D → D → Prop} {hh : D → Rho → Option Rho} {tt : Rho → M Bool} {fe : Rho → M D} {ρ : Rho} : ∀ {ds : List D}, (∀ d ∈ ds, ∃ ρ1, hh d ρ = some ρ1 ∧ tt ρ1 = ret true ∧ ∀ s, DOk s → ∃ e s', fe ρ1 s = .ok e s' ∧ DOk s' ∧ Pe d e) → ∀ s, DOk s → ∃ es s', lcD hh tt fe ρ ds s = .ok es s' ∧ DOk s' ∧ Paired Pe ds es
  | [], _, s, h => ⟨[], s, rfl, h, .nil⟩
  | d :: ds, h, s, hs => by
    obtain ⟨ρ1, e1, e2, e3⟩ := h d List.mem_cons_self
    obtain ⟨e, s1, q1, q2, q3⟩ := e3 s hs
    obtain ⟨es, s2, r1, r2, r3⟩ := lcD_draw (ds := ds) (fun d' hd' => h d' (List.mem_cons_of_mem _ hd')) s1 q2
    refine ⟨e :: es, s2, ?_, r2, .cons q3 r3⟩
    have ee : lcD hh tt fe ρ (d :: ds) = bnd (lift (hh d ρ)) fun ρ1 => bnd (nox (tt ρ1)) fun c => if c = true then bnd (nox (fe ρ1)) fun e => bnd (lcD hh tt fe ρ ds) fun es => ret (e :: es) else lcD hh tt fe ρ ds := rfl
    rw [ee, e1, lift_some, bnd_ret, e2, nox_ret, bnd_ret, if_tt, bnd_ok (nox_at q1), bnd_ok r1]
    rfl
/-- whole numbers between bounds -/
theorem ints_of {Pe : D → D → Prop} {lo : Int} {hi : D → Int} (hP : ∀ d e, Pe d e → ∃ r, e = .int r ∧ lo ≤ r ∧ r ≤ hi d) : ∀ {ds es : List D}, Paired Pe ds es → ∃ rs : List Int, es = rs.map PyData.int ∧ rs.length = ds.length ∧ Paired (fun d r => lo ≤ r ∧ r ≤ hi d) ds rs
  | _, _, .nil => ⟨[], rfl, rfl, .nil⟩
  | _, _, .cons h t => by
    obtain ⟨r, rfl, h1⟩ := hP _ _ h
    obtain ⟨rs, rfl, h2, h3⟩ := ints_of hP t
    exact ⟨r :: rs, rfl, by rw [List.length_cons, List.length_cons, h2], .cons h1 h3⟩
theorem forD_stepS {hh : D → Rho → Option Rho} {body : Rho → M Out} {d : D} {ds : List D} {ρ ρ1 ρ2 : Rho} {s s1 : DS} (h1 : hh d ρ = some ρ1) (h2 : body ρ1 s = .ok (.nx ρ2) s1) : forD hh body (d :: ds) ρ s = forD hh body ds ρ2 s1 := by
  have e : forD hh body (d :: ds) ρ = bnd (lift (hh d ρ)) fun ρ1 => bnd (body ρ1) fun o => match o with
    | .nx ρ2 => forD hh body ds ρ2
    | .ct ρ2 => forD hh body ds ρ2
    | .bk ρ2 => ret (.nx ρ2)
    | .rt d => ret (.rt d) := rfl
  rw [e, h1, lift_some, bnd_ret, bnd_ok h2]
theorem log18 : (1000000000000000000 : Int).natAbs.log2 < 9000 := by
  have : (1000000000000000000 : Int).natAbs < 2 ^ 60 := by decide
  have h2 := (Nat.log2_lt (by decide : (1000000000000000000 : Int).natAbs ≠ 0)).mpr this
  omega
theorem ex_ok {α β : Type} {m : M α} {f : α → M β} {s s1 : DS} {a : α} {r : β} (h : m s = .ok a s1) (k : ∃ s', f a s1 = .ok r s') : ∃ s', bnd m f s = .ok r s' := by
  obtain ⟨s', e⟩ := k
  exact ⟨s', by rw [bnd_ok h]; exact e⟩
theorem can_ints : ∀ w : List Int, PyData.canLayAll0 (w.map PyData.int) = true
  | [] => rfl
  | a :: w => by
    show (PyData.canLay0 (.int a) && PyData.canLayAll0 (w.map PyData.int)) = true
    rw [can_ints w]; rfl
theorem dep_ints : ∀ w : List Int, PyData.depthAll (w.map PyData.int) = 0
  | [] => rfl
  | a :: w => by
    show max (PyData.depth (.int a)) (PyData.depthAll (w.map PyData.int)) = 0
    rw [dep_ints w]; rfl
theorem nd_map {α : Type} {f : α → D} (h : ∀ a, noDic (f a) = true) : ∀ w : List α, noDics (w.map f) = true
  | [] => rfl
  | a :: w => by
    show (noDic (f a) && noDics (w.map f)) = true
    rw [h a, nd_map h w]; rfl
theorem shaped_of {d : D} (h : noDic d = true) (h2 : PySem.SeqAt.shaped d = true) : SeqAt.shaped d = true := Bool.and_eq_true_iff.mpr ⟨h, h2⟩
theorem shaped_T (w : List Int) : SeqAt.shaped (T w) = true := by
  refine shaped_of (nd_map (fun _ => rfl) w) ?_
  show (PyData.canLayAll0 (w.map PyData.int) && decide (PyData.depthAll (w.map PyData.int) + 1 ≤ 64)) = true
  rw [can_ints, dep_ints]; rfl
theorem eqvAll_refl : ∀ w : List Int, PyData.eqvAll (w.map PyData.int) (w.map PyData.int) = true
  | [] => rfl
  | a :: w => by
    show (PyData.eqv (.int a) (.int a) && PyData.eqvAll (w.map PyData.int) (w.map PyData.int)) = true
    rw [eqvAll_refl w]
    show ((a == a) && true) = true
    simp
theorem dNe_T (w : List Int) : dNe (T w) (T w) = some (.bool false) := by
  rw [dNe_s (shaped_T w) (shaped_T w)]
  show some (PyData.bool (!PyData.eqvAll (w.map PyData.int) (w.map PyData.int))) = _
  rw [eqvAll_refl]; rfl
theorem dNe_ii (i : Int) : dNe (.int i) (.int i) = some (.bool false) := by
  rw [dNe_i]; simp
theorem ex_range {k n : Nat} {body : Rho → M Out} {R : Nat → Option Sl → Rho} {o : Option Sl} {f : Out → M Out} {s : DS} {r : Out} (hR : ∀ i o z, (R i o).set k z = R i z) (h : ∀ i, i < n → body (R i (some (.val (.int (0 + (i : Nat)))))) = ret (.nx (R (i + 1) (some (.val (.int (0 + (i : Nat)))))))) (K : ∀ o', ∃ s', f (.nx (R n o')) s = .ok r s') : ∃ s', bnd (forD (setV k) body (rangeD 0 n) (R 0 o)) f s = .ok r s' := by
  obtain ⟨o', e⟩ := forD_range (R := R) hR o h
  rw [e, bnd_ret]
  exact K o'
theorem rng_nat {n : Nat} (h : (n : Int) < 4611686018427387904) : rng1 [.int (n : Int)] = ret (rangeD 0 n) := by
  unfold rng1
  dsimp only
  rw [if_pos ⟨by omega, by omega⟩, Int.toNat_natCast]
theorem dTup_l (ds : List D) : dTuple [.list ds] = some (.tuple ds) := rfl
theorem forD_inv {hh : D → Rho → Option Rho} {body : Rho → M Out} {I : Rho → Prop} : ∀ (ds : List D), (∀ d ∈ ds, ∀ ρ, I ρ → ∃ ρ1 ρ2, hh d ρ = some ρ1 ∧ body ρ1 = ret (.nx ρ2) ∧ I ρ2) → ∀ ρ, I ρ → ∃ ρ', forD hh body ds ρ = ret (.nx ρ') ∧ I ρ'
  | [], _, ρ, i => ⟨ρ, rfl, i⟩
  | d :: ds, h, ρ, i => by
    obtain ⟨ρ1, ρ2, h1, h2, h3⟩ := h d List.mem_cons_self ρ i
    obtain ⟨ρ', e, i'⟩ := forD_inv ds (fun d' hd' => h d' (List.mem_cons_of_mem _ hd')) ρ2 h3
    exact ⟨ρ', by rw [forD_step h1 h2]; exact e, i'⟩
theorem ff_dIn (ds : List D) : dIn (.bool false) (.list (ds.map fun _ => .bool true)) = some (.bool false) := by
  have c : ∀ ds : List D, PyData.canLayAll0 (ds.map fun _ => PyData.bool true) = true ∧ PyData.depthAll (ds.map fun _ => PyData.bool true) = 0 := fun ds => by
    induction ds with
    | nil => exact ⟨rfl, rfl⟩
    | cons d ds ih =>
      refine ⟨?_, ?_⟩
      · show (PyData.canLay0 (.bool true) && PyData.canLayAll0 (ds.map fun _ => PyData.bool true)) = true
        rw [ih.1]; rfl
      · show max (PyData.depth (.bool true)) (PyData.depthAll (ds.map fun _ => PyData.bool true)) = 0
        rw [ih.2]; rfl
  have s : SeqAt.shaped (.list (ds.map fun _ => .bool true)) = true := by
    refine shaped_of (nd_map (fun _ => rfl) ds) ?_
    show (PyData.canLayAll0 (ds.map fun _ => PyData.bool true) && decide (PyData.depthAll (ds.map fun _ => PyData.bool true) + 1 ≤ 64)) = true
    rw [(c ds).1, (c ds).2]; rfl
  have e : (ds.map fun _ => PyData.bool true).any (fun z => PyData.eqv z (.bool false)) = false := by
    induction ds with
    | nil => rfl
    | cons d ds ih =>
      show (PyData.eqv (.bool true) (.bool false) || _) = false
      rw [ih (by
        refine shaped_of (nd_map (fun _ => rfl) ds) ?_
        show (PyData.canLayAll0 (ds.map fun _ => PyData.bool true) && decide (PyData.depthAll (ds.map fun _ => PyData.bool true) + 1 ≤ 64)) = true
        rw [(c ds).1, (c ds).2]; rfl)]
      rfl
  have q : dIn (.bool false) (.list (ds.map fun _ => .bool true)) = some (.bool ((ds.map fun _ => PyData.bool true).any (fun z => PyData.eqv z (.bool false)))) := iteP_pos ⟨rfl, s⟩
  rw [q, e]
def absZ (z : Int) : Int := if z < 0 then -z else z
theorem dAbs_i (z : Int) : dAbs [.int z] = some (.int (absZ z)) := rfl
theorem dSum_i (ns : List Int) : dSum [.list (ns.map PyData.int)] = some (.int ns.sum) := by
  have e : ∀ ns : List Int, intsOf (ns.map PyData.int) = some ns := fun ns => by
    induction ns with
    | nil => rfl
    | cons n ns ih =>
      show (intsOf (ns.map PyData.int)).map (n :: ·) = _
      rw [ih]; rfl
  unfold dSum
  dsimp only
  rw [e]
theorem dIx_T {ws : List Int} {i : Nat} (h : i < ws.length) : dIx (T ws) (.int (i : Int)) = some (.int (ws.getD i 0)) := by
  show atI _ _ = _
  unfold atI ixN
  rw [if_pos (by omega), if_pos (by rw [List.length_map]; omega)]
  show (ws.map PyData.int)[i]? = _
  rw [List.getElem?_map, List.getElem?_eq_getElem h]
  have e : ws.getD i 0 = ws[i] := by rw [List.getD_eq_getElem?_getD, List.getElem?_eq_getElem h]; rfl
  rw [e]
  rfl
theorem dIs_bb (a b : Bool) : dIs (.bool a) (.bool b) = some (.bool (decide (a = b))) := (rfl)
theorem dIsNot_bb (a b : Bool) : dIsNot (.bool a) (.bool b) = some (.bool (!decide (a = b))) := (rfl)
/-- a comprehension of the items that pass a test: none does -/
theorem lcD_none {hh : D → Rho → Option Rho} {tt : Rho → M Bool} {fe : Rho → M D} {ρ : Rho} : ∀ {ds : List D}, (∀ d ∈ ds, ∃ ρ1, hh d ρ = some ρ1 ∧ tt ρ1 = ret false) → lcD hh tt fe ρ ds = ret []
  | [], _ => rfl
  | d :: ds, h => by
    obtain ⟨ρ1, e1, e2⟩ := h d List.mem_cons_self
    have ih := lcD_none (fe := fe) (ds := ds) fun d' hd' => h d' (List.mem_cons_of_mem _ hd')
    have e : lcD hh tt fe ρ (d :: ds) = bnd (lift (hh d ρ)) fun ρ1 => bnd (nox (tt ρ1)) fun c => if c = true then bnd (nox (fe ρ1)) fun e => bnd (lcD hh tt fe ρ ds) fun es => ret (e :: es) else lcD hh tt fe ρ ds := rfl
    rw [e, e1, lift_some, bnd_ret, e2, nox_ret, bnd_ret, if_ff, ih]
theorem toI_i (i : Int) : toI (.int i) = ret i := (rfl)
theorem dCut_t (ds : List D) (i j : Option Int) : dCut (.tuple ds) i j = some (.tuple (cutD ds i j)) := (rfl)
theorem cutD_init (xs : List D) (x : D) : cutD (xs ++ [x]) none (some (-1)) = xs := by
  have e1 : HT.sIx (xs ++ [x]).length 0 none = 0 := rfl
  have z : ∀ n : Nat, HT.sIx (n + 1) (n + 1) (some (-1)) = n := fun n => by
    unfold HT.sIx
    dsimp only
    rw [if_pos (by decide)]
    omega
  have e2 : HT.sIx (xs ++ [x]).length (xs ++ [x]).length (some (-1)) = xs.length := by
    rw [List.length_append, List.length_cons, List.length_nil]
    exact z _
  unfold cutD
  rw [e1, e2, Nat.sub_zero, List.drop_zero, List.take_left]
theorem cutD_one {xs : List D} (h : 1 ≤ xs.length) : cutD xs (some 1) none = xs.drop 1 := by
  have e1 : HT.sIx xs.length 0 (some 1) = 1 := by
    unfold HT.sIx
    dsimp only
    rw [if_neg (by decide)]
    show min 1 xs.length = 1
    omega
  have e2 : HT.sIx xs.length xs.length none = xs.length := rfl
  unfold cutD
  rw [e1, e2, List.take_of_length_le (by rw [List.length_drop]; omega)]
theorem dAdd_tt {xs ys : List D} (h : xs.length + ys.length ≤ 100000) : dAdd (.tuple xs) (.tuple ys) = some (.tuple (xs ++ ys)) := dAdd_t (by rw [sizeLine_eq]; omega)
theorem mkT_ok {ds : List D} (h : ds.length ≤ 100000) : mkT ds = ret (.tuple ds) := if_pos h
theorem mkL_ok {ds : List D} (h : ds.length ≤ 100000) : mkL ds = ret (.list ds) := if_pos h
theorem dList_t (ds : List D) : dList [.tuple ds] = some (.list ds) := (rfl)
theorem dIx_last (xs : List D) (x : D) : dIx (.tuple (xs ++ [x])) (.int (-1)) = some x := by
  show atI _ _ = _
  unfold atI ixN
  rw [if_neg (by decide), List.length_append, List.length_cons, List.length_nil]
  rw [if_pos (by omega)]
  show (xs ++ [x])[_]? = _
  rw [show ((-1 : Int) + ((xs.length + (0 + 1) : Nat) : Int)).toNat = xs.length by omega]
  simp
theorem dNe_nil : dNe (.list []) (.list []) = some (.bool false) := by
  rw [dNe_s rfl rfl]; rfl
theorem dEq_nil : dEq (.list []) (.list []) = some (.bool true) := by
  rw [dEq_s rfl rfl]; rfl
/-- a slot as it stands at a return -/
def fz (o : Option Sl) : Option Sl := match o with
  | some (.own d) => some (.val d)
  | o => o
theorem frz_x (x : Option Sl) (r : Rho) : frz (x :: r) = fz x :: frz r := (rfl)
theorem fz_v (d : D) : fz (some (.val d)) = some (.val d) := (rfl)
theorem fz_d : fz (some .drw) = some .drw := (rfl)
theorem fz_n : fz none = none := (rfl)
theorem sq {g1 g2 : Rho → M Out} {ρ ρ' : Rho} {s s1 : DS} {r : Out} (h : g1 ρ s = .ok (.nx ρ') s1) (k : ∃ s', g2 ρ' s1 = .ok r s') : ∃ s', seqS g1 g2 ρ s = .ok r s' := by
  rw [seqS_eq]
  exact ex_ok h k
theorem sqr {g1 g2 : Rho → M Out} {ρ ρ' : Rho} {s : DS} {r : Out} (h : g1 ρ = ret (.nx ρ')) (k : ∃ s', g2 ρ' s = .ok r s') : ∃ s', seqS g1 g2 ρ s = .ok r s' := sq (by rw [h]; rfl) k
theorem snoc {l : List Int} (h : 1 ≤ l.length) : ∃ l' b, l = l' ++ [b] := by
  rcases List.eq_nil_or_concat l with rfl | ⟨l', b, e⟩
  · simp at h
  · exact ⟨l', b, by simpa using e⟩
end DV

set_option Elab.async false
set_option linter.all false
set_option maxRecDepth 100000
set_option maxHeartbeats 4000000
/-! evaluation: data of known shape -/
namespace DV
open PySem PySem.Spec PyProof.Rows L2
/-- data that can be compared, so deep -/
structure Lay (n : Nat) (x : D) : Prop where
  c : PyData.canLay0 x = true
  d : PyData.depth x ≤ n
  nd : noDic x = true
theorem Lay.mono {n m : Nat} {d : D} (h : Lay n d) (hm : n ≤ m) : Lay m d := ⟨h.c, Nat.le_trans h.d hm, h.nd⟩
theorem lay_nd {n : Nat} : ∀ {ds : List D}, (∀ d ∈ ds, Lay n d) → noDics ds = true
  | [], _ => rfl
  | d :: ds, h => by
    show (noDic d && noDics ds) = true
    rw [(h d List.mem_cons_self).nd, lay_nd fun d' hd' => h d' (List.mem_cons_of_mem _ hd')]; rfl
theorem lay_all {n : Nat} : ∀ {ds : List D}, (∀ d ∈ ds, Lay n d) → PyData.canLayAll0 ds = true ∧ PyData.depthAll ds ≤ n
  | [], _ => ⟨rfl, Nat.zero_le _⟩
  | d :: ds, h => by
    obtain ⟨h1, h2⟩ := h d List.mem_cons_self
    obtain ⟨i1, i2⟩ := lay_all fun d' hd' => h d' (List.mem_cons_of_mem _ hd')
    refine ⟨?_, ?_⟩
    · show (PyData.canLay0 d && PyData.canLayAll0 ds) = true
      rw [h1, i1]; rfl
    · show max (PyData.depth d) (PyData.depthAll ds) ≤ n
      omega
theorem lay_int (i : Int) : Lay 0 (.int i) := ⟨rfl, Nat.le_refl _, rfl⟩
theorem lay_bool (b : Bool) : Lay 0 (.bool b) := ⟨rfl, Nat.le_refl _, rfl⟩
theorem lay_none : Lay 0 (.none) := ⟨rfl, Nat.le_refl _, rfl⟩
theorem lay_tup {n : Nat} {ds : List D} (h : ∀ d ∈ ds, Lay n d) : Lay (n + 1) (.tuple ds) := ⟨(lay_all h).1, by show PyData.depthAll ds + 1 ≤ n + 1; have := (lay_all h).2; omega, lay_nd h⟩
theorem lay_lst {n : Nat} {ds : List D} (h : ∀ d ∈ ds, Lay n d) : Lay (n + 1) (.list ds) := ⟨(lay_all h).1, by show PyData.depthAll ds + 1 ≤ n + 1; have := (lay_all h).2; omega, lay_nd h⟩
theorem lay_T (w : List Int) : Lay 1 (T w) := lay_tup fun d hd => by
  obtain ⟨i, _, rfl⟩ := List.mem_map.mp hd
  exact lay_int i
theorem Lay.sh {n : Nat} {d : D} (h : Lay n d) (hn : n ≤ 64 := by decide) : SeqAt.shaped d = true := by
  refine shaped_of h.nd ?_
  unfold PySem.SeqAt.shaped
  rw [h.c, decide_eq_true (Nat.le_trans h.d hn)]; rfl
theorem dNe_self {n : Nat} {d : D} (h : Lay n d) (hn : n ≤ 64 := by decide) : dNe d d = some (.bool false) := by
  rw [dNe_s (h.sh hn) (h.sh hn), PySem.SeqAt.eqv_refl d h.c]; rfl
theorem dEq_self {n : Nat} {d : D} (h : Lay n d) (hn : n ≤ 64 := by decide) : dEq d d = some (.bool true) := by
  rw [dEq_s (h.sh hn) (h.sh hn), PySem.SeqAt.eqv_refl d h.c]
theorem any_T (w : List Int) (i : Int) : (w.map PyData.int).any (fun z => PyData.eqv z (.int i)) = w.contains i := by
  induction w with
  | nil => rfl
  | cons a w ih =>
    show (PyData.eqv (.int a) (.int i) || (w.map PyData.int).any _) = _
    rw [ih, List.contains_cons]
    show ((a == i) || _) = _
    rw [show (a == i) = (i == a) from Bool.eq_iff_iff.mpr (by rw [beq_iff_eq, beq_iff_eq]; exact eq_comm)]
theorem dIn_T (w : List Int) (i : Int) : dIn (.int i) (T w) = some (.bool (w.contains i)) := by
  have e : dIn (.int i) (T w) = some (.bool ((w.map PyData.int).any fun z => PyData.eqv z (.int i))) := iteP_pos ⟨rfl, (lay_T w).sh⟩
  rw [e, any_T]
theorem dNotIn_T (w : List Int) (i : Int) : dNotIn (.int i) (T w) = some (.bool (!w.contains i)) := by
  have e : dNotIn (.int i) (T w) = some (.bool (!(w.map PyData.int).any fun z => PyData.eqv z (.int i))) := iteP_pos ⟨rfl, (lay_T w).sh⟩
  rw [e, any_T]
theorem cutD_T_to (w : List Int) (k : Nat) : cutD (w.map PyData.int) none (some (k : Int)) = (w.take k).map PyData.int := by
  have e1 : HT.sIx (w.map PyData.int).length 0 none = 0 := rfl
  unfold cutD
  rw [e1, HT.sIx_nat, List.drop_zero, Nat.sub_zero, List.map_take, List.length_map]
  by_cases h : k ≤ w.length
  · rw [Nat.min_eq_left h]
  · rw [Nat.min_eq_right (by omega), List.take_of_length_le (by simp), List.take_of_length_le (by simp; omega)]
theorem cutD_T_from (w : List Int) (k : Nat) : cutD (w.map PyData.int) (some (k : Int)) none = (w.drop k).map PyData.int := by
  have e1 : HT.sIx (w.map PyData.int).length (w.map PyData.int).length none = (w.map PyData.int).length := rfl
  unfold cutD
  rw [e1, HT.sIx_nat, List.take_of_length_le (by rw [List.length_drop]; exact Nat.le_refl _), List.length_map, List.map_drop]
  by_cases h : k ≤ w.length
  · rw [Nat.min_eq_left h]
  · rw [Nat.min_eq_right (by omega), List.drop_of_length_le (by simp), List.drop_of_length_le (by simp; omega)]
theorem dCut_to (w : List Int) (k : Nat) : dCut (T w) none (some (k : Int)) = some (T (w.take k)) := by
  show some (PyData.tuple (cutD (w.map PyData.int) none (some (k : Int)))) = _
  rw [cutD_T_to]; rfl
theorem dCut_from (w : List Int) (k : Nat) : dCut (T w) (some (k : Int)) none = some (T (w.drop k)) := by
  show some (PyData.tuple (cutD (w.map PyData.int) (some (k : Int)) none)) = _
  rw [cutD_T_from]; rfl
theorem dAdd_TT {a b : List Int} (h : a.length + b.length ≤ 100000) : dAdd (T a) (T b) = some (T (a ++ b)) := by
  have e := dAdd_tt (xs := a.map PyData.int) (ys := b.map PyData.int) (by rw [List.length_map, List.length_map]; exact h)
  rw [← List.map_append] at e
  exact e
theorem mkT_1 (i : Int) : mkT [.int i] = ret (T [i]) := (rfl)
theorem mkT_2 (a b : D) : mkT [a, b] = ret (.tuple [a, b]) := (rfl)
theorem dNot_b (b : Bool) : (!decide (b = true)) = !b := by cases b <;> rfl
theorem alikeB_mk {ds : List D} (h : noDics ds = true) (k : ∀ d ∈ ds, (ds.all fun e => PySem.W.alike d e) = true) : alikeB ds = true := Bool.and_eq_true_iff.mpr ⟨h, List.all_eq_true.mpr k⟩
end DV

set_option Elab.async false
set_option linter.all false
set_option maxRecDepth 100000
set_option maxHeartbeats 4000000
/-! evaluation: loops and comprehensions -/
namespace DV
open PySem PySem.Spec PyProof.Rows L2
theorem forD_cnt {α : Type} {hh : D → Rho → Option Rho} {body : Rho → M Out} (I : Nat → α → Rho → Prop) (step : α → D → α) : ∀ (ds : List D), (∀ d ∈ ds, ∀ k a ρ, I (k + 1) a ρ → ∃ ρ1 ρ2, hh d ρ = some ρ1 ∧ body ρ1 = ret (.nx ρ2) ∧ I k (step a d) ρ2) → ∀ a ρ, I ds.length a ρ → ∃ ρ', forD hh body ds ρ = ret (.nx ρ') ∧ I 0 (ds.foldl step a) ρ'
  | [], _, a, ρ, i => ⟨ρ, rfl, i⟩
  | d :: ds, h, a, ρ, i => by
    obtain ⟨ρ1, ρ2, h1, h2, h3⟩ := h d List.mem_cons_self ds.length a ρ i
    obtain ⟨ρ', e, i'⟩ := forD_cnt I step ds (fun d' hd' => h d' (List.mem_cons_of_mem _ hd')) (step a d) ρ2 h3
    exact ⟨ρ', by rw [forD_step h1 h2]; exact e, i'⟩
theorem foldl_filter {α β : Type} (p : α → Bool) (f : α → β) : ∀ (ds : List α) (acc : List β), ds.foldl (fun a e => if p e = true then a ++ [f e] else a) acc = acc ++ (ds.filter p).map f
  | [], acc => by simp
  | d :: ds, acc => by
    rw [List.foldl_cons, foldl_filter p f ds]
    cases h : p d
    · rw [List.filter_cons_of_neg (by rw [h]; decide)]; rfl
    · rw [List.filter_cons_of_pos h, if_pos rfl, List.map_cons, List.append_assoc]; rfl
theorem foldl_flat {α β : Type} (g : α → List β) : ∀ (ds : List α) (acc : List β), ds.foldl (fun a d => a ++ g d) acc = acc ++ ds.flatMap g
  | [], acc => by simp
  | d :: ds, acc => by
    rw [List.foldl_cons, foldl_flat g ds, List.flatMap_cons, List.append_assoc]
/-- a comprehension with a test -/
theorem lcD_filter {p : D → Bool} {f : D → D} {hh : D → Rho → Option Rho} {tt : Rho → M Bool} {fe : Rho → M D} {ρ : Rho} : ∀ {ds : List D}, (∀ d ∈ ds, ∃ ρ1, hh d ρ = some ρ1 ∧ tt ρ1 = ret (p d) ∧ (p d = true → fe ρ1 = ret (f d))) → lcD hh tt fe ρ ds = ret ((ds.filter p).map f)
  | [], _ => rfl
  | d :: ds, h => by
    obtain ⟨ρ1, e1, e2, e3⟩ := h d List.mem_cons_self
    have ih := lcD_filter (p := p) (f := f) (ds := ds) fun d' hd' => h d' (List.mem_cons_of_mem _ hd')
    have e : lcD hh tt fe ρ (d :: ds) = bnd (lift (hh d ρ)) fun ρ1 => bnd (nox (tt ρ1)) fun c => if c = true then bnd (nox (fe ρ1)) fun e => bnd (lcD hh tt fe ρ ds) fun es => ret (e :: es) else lcD hh tt fe ρ ds := rfl
    rw [e, e1, lift_some, bnd_ret, e2, nox_ret, bnd_ret, ih]
    cases hp : p d
    · rw [if_ff, List.filter_cons_of_neg (by rw [hp]; decide)]
    · rw [if_tt, e3 hp, nox_ret, bnd_ret, bnd_ret, List.filter_cons_of_pos hp]; rfl
/-- two clauses -/
theorem lc2D_pure {f : D → List D} {hh hh1 : D → Rho → Option Rho} {tt tt1 : Rho → M Bool} {fi1 : Rho → M (List D)} {fe : Rho → M D} {vs1 : List Nat} {ρ : Rho} : ∀ {ds : List D}, (∀ d ∈ ds, ∃ ρ1 ds1, hh d ρ = some ρ1 ∧ tt ρ1 = ret true ∧ fi1 ρ1 = ret ds1 ∧ ds1.length ≤ 4000 ∧ lcD hh1 tt1 fe (wipeR ρ1 vs1) ds1 = ret (f d)) → lc2D hh tt fi1 hh1 tt1 fe vs1 ρ ds = ret (ds.flatMap f)
  | [], _ => rfl
  | d :: ds, h => by
    obtain ⟨ρ1, ds1, e1, e2, e3, e4, e5⟩ := h d List.mem_cons_self
    have ih := lc2D_pure (f := f) (ds := ds) fun d' hd' => h d' (List.mem_cons_of_mem _ hd')
    have e : lc2D hh tt fi1 hh1 tt1 fe vs1 ρ (d :: ds) = bnd (lift (hh d ρ)) fun ρ1 => bnd (nox (tt ρ1)) fun c => if c = true then bnd (nox (fi1 ρ1)) fun ds1 => if ds1.length ≤ 4000 then bnd (lcD hh1 tt1 fe (wipeR ρ1 vs1) ds1) fun es => bnd (lc2D hh tt fi1 hh1 tt1 fe vs1 ρ ds) fun es2 => ret (es ++ es2) else stk else lc2D hh tt fi1 hh1 tt1 fe vs1 ρ ds := rfl
    rw [e, e1, lift_some, bnd_ret, e2, nox_ret, bnd_ret, if_tt, e3, nox_ret, bnd_ret, if_pos e4, e5, bnd_ret, ih, bnd_ret]
    rfl
theorem isI_tl (ds : List D) : isI "list" (.list ds) = true := (rfl)
theorem isI_tt (ds : List D) : isI "tuple" (.tuple ds) = true := (rfl)
/-- either a tuple or not -/
theorem tup_cases (v : D) : (∃ ds, v = .tuple ds) ∨ isI "tuple" v = false := by
  cases v with
  | tuple ds => exact .inl ⟨ds, rfl⟩
  | _ => exact .inr rfl
theorem dLen_2 (ds : List D) : dLen [.tuple ds] = some (.int (ds.length : Int)) := (rfl)
theorem any_self {ds : List D} {v : D} {n : Nat} (h : v ∈ ds) (l : Lay n v) : (ds.any fun z => PyData.eqv z v) = true := List.any_eq_true.mpr ⟨v, h, PySem.SeqAt.eqv_refl v l.c⟩
theorem dIn_l {d : D} {ds : List D} (h1 : SeqAt.shaped d = true) (h2 : SeqAt.shaped (.list ds) = true) : dIn d (.list ds) = some (.bool (ds.any fun z => PyData.eqv z d)) := iteP_pos ⟨h1, h2⟩
theorem len2 {ds : List D} (h : ds.length = 2) : ∃ x y, ds = [x, y] := by
  match ds, h with
  | [x, y], _ => exact ⟨x, y, rfl⟩
theorem rangeD_mem {n : Nat} {d : D} (h : d ∈ rangeD 0 n) : ∃ i : Nat, i < n ∧ d = .int (i : Int) := by
  unfold rangeD at h
  obtain ⟨i, hi, rfl⟩ := List.mem_map.mp h
  exact ⟨i, List.mem_range.mp hi, by rw [Int.zero_add]⟩
theorem mem_rangeD {n i : Nat} (h : i < n) : PyData.int (i : Int) ∈ rangeD 0 n := by
  unfold rangeD
  exact List.mem_map.mpr ⟨i, List.mem_range.mpr h, by rw [Int.zero_add]⟩
theorem lcF_ok {fi : Rho → M (List D)} {hh : D → Rho → Option Rho} {tt : Rho → M Bool} {fe : Rho → M D} {vs : List Nat} {ρ : Rho} {ds : List D} (h : fi ρ = ret ds) (hl : ds.length ≤ 16000000) : lcF fi hh tt fe vs ρ = lcD hh tt fe (wipeR ρ vs) ds := by
  unfold lcF
  rw [h, bnd_ret, if_pos hl]
end DV

set_option Elab.async false
set_option linter.all false
set_option maxRecDepth 100000
set_option maxHeartbeats 2000000
/-! rules for the draws of family B, loops over states -/
namespace DV
open PySem PySem.Spec PyProof.Rows L2
theorem dGt_i (i j : Int) : dGt (.int i) (.int j) = some (.bool (decide (i > j))) := (rfl)
theorem absZ_nn (z : Int) : 0 ≤ absZ z := by unfold absZ; split <;> omega
theorem dInt_i (i : Int) : dInt [.int i] = some (.int i) := (rfl)
theorem slotSc0 (ns : List Int) (r : Rho) : slotSc (some (.scr ns) :: r) 0 = ret ns := (rfl)
theorem slotScS (x : Option Sl) (r : Rho) (i : Nat) : slotSc (x :: r) (i + 1) = slotSc r i := (rfl)
theorem getB_at {α : Type} (k : List Int → M α) (xs : List Int) : getB k (.b xs) = k xs (.b xs) := (rfl)
theorem appAt {β : Type} {ρ : Rho} {z : Int} {xs : List Int} {f : Out → M β} (h : xs.length < 16000000) (h2 : 0 ≤ z) : bnd (appD ρ (.int z)) f (.b xs) = f (.nx ρ) (.b (xs ++ [z])) := bnd_ok (appD_b h h2)
theorem forD_cntS {hh : D → Rho → Option Rho} {body : Rho → M Out} (I : Nat → Rho → DS → Prop) : ∀ (ds : List D), (∀ d ∈ ds, ∀ k ρ s, I (k + 1) ρ s → ∃ ρ1 ρ2 s2, hh d ρ = some ρ1 ∧ body ρ1 s = .ok (.nx ρ2) s2 ∧ I k ρ2 s2) → ∀ ρ s, I ds.length ρ s → ∃ ρ' s', forD hh body ds ρ s = .ok (.nx ρ') s' ∧ I 0 ρ' s'
  | [], _, ρ, s, i => ⟨ρ, s, rfl, i⟩
  | d :: ds, h, ρ, s, i => by
    obtain ⟨ρ1, ρ2, s2, h1, h2, h3⟩ := h d List.mem_cons_self _ ρ s i
    obtain ⟨ρ', s', e, j⟩ := forD_cntS I ds (fun d' hd' => h d' (List.mem_cons_of_mem _ hd')) ρ2 s2 h3
    exact ⟨ρ', s', by rw [forD_stepS h1 h2]; exact e, j⟩
/-- an evaluation ends well, so that P holds -/
def Hit {α : Type} (m : M α) (s : DS) (P : α → DS → Prop) : Prop := ∃ a s', m s = .ok a s' ∧ P a s'
theorem Hit.ret {α : Type} {a : α} {s : DS} {P : α → DS → Prop} (h : P a s) : Hit (DV.ret a) s P := ⟨a, s, rfl, h⟩
theorem Hit.imp {α : Type} {m : M α} {s : DS} {P P' : α → DS → Prop} (h : Hit m s P) (i : ∀ a s', P a s' → P' a s') : Hit m s P' := by
  obtain ⟨a, s', e, p⟩ := h
  exact ⟨a, s', e, i a s' p⟩
theorem Hit.bnd {α β : Type} {m : M α} {f : α → M β} {s : DS} {P : β → DS → Prop} (h : Hit m s fun a s1 => Hit (f a) s1 P) : Hit (DV.bnd m f) s P := by
  obtain ⟨a, s1, e, b, s2, e2, p⟩ := h
  exact ⟨b, s2, by rw [bnd_ok e]; exact e2, p⟩
theorem Hit.app {β : Type} {ρ : Rho} {z : Int} {xs : List Int} {f : Out → M β} {P : β → DS → Prop} (h : xs.length < 16000000) (h2 : 0 ≤ z) (k : Hit (f (.nx ρ)) (.b (xs ++ [z])) P) : Hit (DV.bnd (appD ρ (.int z)) f) (.b xs) P := by
  unfold Hit
  rw [appAt h h2]
  exact k
theorem Hit.app0 {ρ : Rho} {z : Int} {xs : List Int} {P : Out → DS → Prop} (h : xs.length < 16000000) (h2 : 0 ≤ z) (k : P (.nx ρ) (.b (xs ++ [z]))) : Hit (appD ρ (.int z)) (.b xs) P := ⟨_, _, appD_b h h2, k⟩
theorem Hit.for_ {hh : D → Rho → Option Rho} {body : Rho → M Out} (I : Nat → Rho → DS → Prop) (n : Nat) {ds : List D} {ρ : Rho} {s : DS} (hn : ds.length = n) (h0 : I n ρ s) (h : ∀ d ∈ ds, ∀ k ρ s, I (k + 1) ρ s → ∃ ρ1, hh d ρ = some ρ1 ∧ Hit (body ρ1) s fun o s2 => ∃ ρ2, o = .nx ρ2 ∧ I k ρ2 s2) :
    Hit (forD hh body ds ρ) s fun o s' => ∃ ρ', o = .nx ρ' ∧ I 0 ρ' s' := by
  obtain ⟨ρ', s', e, i⟩ := forD_cntS (hh := hh) (body := body) I ds (fun d hd k ρ s i => by
    obtain ⟨ρ1, h1, o, s2, e2, ρ2, rfl, j⟩ := h d hd k ρ s i
    exact ⟨ρ1, ρ2, s2, h1, e2, j⟩) ρ s (by rw [hn]; exact h0)
  exact ⟨_, _, e, ρ', rfl, i⟩
theorem Hit.getB {β : Type} {k : List Int → M β} {xs : List Int} {P : β → DS → Prop} (h : Hit (k xs) (.b xs) P) : Hit (DV.getB k) (.b xs) P := h
theorem Hit.pop {xs : List Int} {z : Int} (h : xs.getLast? = some z) {P : D → DS → Prop} (k : P (.int z) (.b xs.dropLast)) : Hit popB (.b xs) P := ⟨.int z, .b xs.dropLast, by show (match xs.getLast? with | some z => Res.ok (PyData.int z) (DS.b xs.dropLast) | none => .stuck) = _; rw [h], k⟩
/-- lists of draws -/
def BOk (s : DS) : Prop := ∃ xs : List Int, s = .b xs ∧ ∀ z ∈ xs, 0 ≤ z
theorem p18 : dPow (.int 10) (.int 18) = some (.int 1000000000000000000) := dPow_i (by decide) (by decide) (by decide)
end DV

set_option Elab.async false
set_option linter.all false
set_option maxRecDepth 100000
set_option maxHeartbeats 2000000
/-! pairs of numbers (cells), rows of three cells; their order -/
namespace DV
open PySem PySem.Spec PyProof.Rows L2
abbrev Pr := Int × Int
def C (p : Pr) : D := .tuple [.int p.1, .int p.2]
def B (bs : List Pr) : D := .tuple (bs.map C)
theorem lay_C (p : Pr) : Lay 1 (C p) := lay_tup fun d hd => by
  rcases List.mem_cons.mp hd with rfl | hd
  · exact lay_int _
  · rw [List.mem_singleton.mp hd]; exact lay_int _
theorem lay_B (bs : List Pr) : Lay 2 (B bs) := lay_tup fun d hd => by
  obtain ⟨p, _, rfl⟩ := List.mem_map.mp hd
  exact lay_C p
theorem lay_BL (bs : List Pr) : Lay 2 (.list (bs.map C)) := lay_lst fun d hd => by
  obtain ⟨p, _, rfl⟩ := List.mem_map.mp hd
  exact lay_C p
theorem eqv_C (p q : Pr) : PyData.eqv (C p) (C q) = decide (p = q) := by
  show (p.1 == q.1 && (p.2 == q.2 && true)) = _
  rw [Bool.and_true, Bool.eq_iff_iff, Bool.and_eq_true, beq_iff_eq, beq_iff_eq, decide_eq_true_eq]
  exact ⟨fun ⟨a, b⟩ => Prod.ext a b, fun e => by rw [e]; exact ⟨rfl, rfl⟩⟩
theorem dNe_C (p q : Pr) : dNe (C p) (C q) = some (.bool (!decide (p = q))) := by rw [dNe_s (lay_C p).sh (lay_C q).sh, eqv_C]
theorem dEq_C (p q : Pr) : dEq (C p) (C q) = some (.bool (decide (p = q))) := by rw [dEq_s (lay_C p).sh (lay_C q).sh, eqv_C]
theorem any_C (bs : List Pr) (p : Pr) : (bs.map C).any (fun z => PyData.eqv z (C p)) = decide (p ∈ bs) := by
  rw [Bool.eq_iff_iff, List.any_eq_true, decide_eq_true_eq]
  refine ⟨fun ⟨z, hz, e⟩ => ?_, fun h => ⟨C p, List.mem_map.mpr ⟨p, h, rfl⟩, by rw [eqv_C, decide_eq_true rfl]⟩⟩
  obtain ⟨q, hq, rfl⟩ := List.mem_map.mp hz
  rw [eqv_C, decide_eq_true_eq] at e
  rw [← e]; exact hq
theorem dIn_B (p : Pr) (bs : List Pr) : dIn (C p) (B bs) = some (.bool (decide (p ∈ bs))) := by
  rw [← any_C]; exact iteP_pos ⟨(lay_C p).sh, (lay_B bs).sh⟩
theorem dNotIn_B (p : Pr) (bs : List Pr) : dNotIn (C p) (B bs) = some (.bool (!decide (p ∈ bs))) := by
  rw [← any_C]; exact iteP_pos ⟨(lay_C p).sh, (lay_B bs).sh⟩
def ltC (p q : Pr) : Bool := decide (p.1 < q.1) || (decide (p.1 = q.1) && decide (p.2 < q.2))
theorem ltC_iff {p q : Pr} : ltC p q = true ↔ p.1 < q.1 ∨ (p.1 = q.1 ∧ p.2 < q.2) := by
  unfold ltC; simp
theorem lexLt_2 (a b c d : Int) : HT.lexLt [a, b] [c, d] = ltC (a, b) (c, d) := by
  rw [HT.lexLt_cons, HT.lexLt_cons, HT.lexLt_nil_nil]
  unfold ltC
  by_cases h : a = c
  · subst h
    by_cases h2 : b = d
    · subst h2; simp
    · simp [h2]
  · rw [if_neg h]; simp [h]
theorem dLt_C (p q : Pr) : dLt (C p) (C q) = some (.bool (ltC p q)) := by
  show some (PyData.bool (HT.lexLt [p.1, p.2] [q.1, q.2])) = _
  rw [lexLt_2]
theorem toks_C (p : Pr) : PySem.W.keyToks (C p) = [.inl 1, .inl p.1, .inl 1, .inl p.2, .inl 0] := (rfl)
theorem le_C (p q : Pr) : PySem.W.dataLe false id (C p) (C q) = !ltC q p := by
  show (!PyProof.Rows.lexLt PyProof.Rows.itemOrd (PySem.W.keyToks (C q)) (PySem.W.keyToks (C p))) = _
  have key : PyProof.Rows.lexLt PyProof.Rows.itemOrd (PySem.W.keyToks (C q)) (PySem.W.keyToks (C p)) = (false || (!false && (decide (q.1 < p.1) || (!decide (p.1 < q.1) && (false || (!false && (decide (q.2 < p.2) || (!decide (p.2 < q.2) && (false || (!false && false)))))))))) := (rfl)
  rw [key]
  unfold ltC
  have e : ∀ a b : Int, decide (a = b) = (!decide (a < b) && !decide (b < a)) := fun a b => by
    rw [Bool.eq_iff_iff]; simp; omega
  rw [e]
  have k : decide (q.1 < p.1) = true → decide (p.1 < q.1) = false := fun h => by simp at h ⊢; omega
  generalize decide (q.1 < p.1) = u at *
  generalize decide (p.1 < q.1) = v at *
  generalize decide (q.2 < p.2) = x
  generalize decide (p.2 < q.2) = y
  cases u <;> cases v <;> cases x <;> cases y <;> first | rfl | (exact absurd (k rfl) (by decide))
theorem dataLt_C (p q : Pr) : PySem.W.dataLt (C p) (C q) = ltC p q := by
  have h : (!PySem.W.dataLt (C p) (C q)) = !ltC p q := le_C q p
  exact Bool.not_inj h
theorem cmpB_C (p q : Pr) : cmpB (C p) (C q) = true := (rfl)
theorem dLtD_C (p q : Pr) : dLtD (C p) (C q) = some (.bool (ltC p q)) := by
  unfold dLtD dCmp
  rw [dLt_C]
theorem dGtD_C (p q : Pr) : dGtD (C p) (C q) = some (.bool (ltC q p)) := by
  have e : dGt (C p) (C q) = none := rfl
  unfold dGtD dCmp
  rw [e]
  show iteP _ _ _ = _
  rw [iteP_pos (cmpB_C p q)]
  exact congrArg (fun b => some (PyData.bool b)) (dataLt_C q p)
theorem dLeD_C (p q : Pr) : dLeD (C p) (C q) = some (.bool (!ltC q p)) := by
  have e : dLe (C p) (C q) = none := rfl
  unfold dLeD dCmp
  rw [e]
  show iteP _ _ _ = _
  rw [iteP_pos (cmpB_C p q)]
  exact congrArg (fun b => some (PyData.bool (!b))) (dataLt_C q p)
theorem ltC_trans {p q r : Pr} (h : ltC p q = true) (h2 : ltC q r = true) : ltC p r = true := by
  rw [ltC_iff] at *; omega
theorem ltC_irr (p : Pr) : ltC p p = false := by
  cases h : ltC p p with
  | false => rfl
  | true => rw [ltC_iff] at h; omega
theorem ltC_tri {p q : Pr} (h : ltC p q = false) (h2 : ltC q p = false) : p = q := by
  have a : ¬ (p.1 < q.1 ∨ (p.1 = q.1 ∧ p.2 < q.2)) := fun z => by rw [ltC_iff.mpr z] at h; cases h
  have b : ¬ (q.1 < p.1 ∨ (q.1 = p.1 ∧ q.2 < p.2)) := fun z => by rw [ltC_iff.mpr z] at h2; cases h2
  exact Prod.ext (by omega) (by omega)
def leC (p q : Pr) : Bool := !ltC q p
theorem leC_trans (p q r : Pr) (h : leC p q = true) (h2 : leC q r = true) : leC p r = true := by
  unfold leC at *
  simp only [Bool.not_eq_true'] at *
  cases e : ltC r p with
  | false => rfl
  | true =>
    cases e2 : ltC r q with
    | true => rw [e2] at h2; cases h2
    | false =>
      cases e3 : ltC q r with
      | true => rw [ltC_trans e3 e] at h; cases h
      | false =>
        have := ltC_tri e2 e3
        subst this
        rw [e] at h; cases h
theorem leC_total (p q : Pr) : (leC p q || leC q p) = true := by
  unfold leC
  cases e : ltC q p with
  | false => rfl
  | true =>
    cases e2 : ltC p q with
    | false => rfl
    | true => exact absurd (ltC_trans e2 e) (by rw [ltC_irr]; decide)
theorem leC_anti {p q : Pr} (h : leC p q = true) (h2 : leC q p = true) : p = q := by
  unfold leC at *
  exact ltC_tri (by simpa using h2) (by simpa using h)
def sortC (bs : List Pr) : List Pr := bs.mergeSort leC
theorem sortC_perm (bs : List Pr) : (sortC bs).Perm bs := List.mergeSort_perm _ _
theorem sortC_len (bs : List Pr) : (sortC bs).length = bs.length := (sortC_perm bs).length_eq
/-- ascending: each before each later one -/
def Asc (bs : List Pr) : Prop := bs.Pairwise fun p q => ltC p q = true
theorem Asc.le {bs : List Pr} (h : Asc bs) : bs.Pairwise fun p q => leC p q = true := List.Pairwise.imp (fun {a b} (e : ltC a b = true) => by
  unfold leC
  cases e2 : ltC b a with
  | false => rfl
  | true => have := ltC_trans e e2; rw [ltC_irr] at this; cases this) h
theorem Asc.nodup {bs : List Pr} (h : Asc bs) : bs.Nodup := List.Pairwise.imp (fun {a b} (e : ltC a b = true) z => by rw [z, ltC_irr] at e; cases e) h
theorem Asc.sub {as bs : List Pr} (h : Asc bs) (s : as.Sublist bs) : Asc as := List.Pairwise.sublist s h
theorem sortC_eq {xs ys : List Pr} (p : xs.Perm ys) (h : Asc ys) : sortC xs = ys :=
  List.Perm.eq_of_pairwise (le := fun a b => leC a b = true) (fun a b _ _ h1 h2 => leC_anti h1 h2) (List.pairwise_mergeSort leC_trans leC_total xs) h.le ((sortC_perm xs).trans p)
theorem sortC_asc {xs : List Pr} (h : xs.Nodup) : Asc (sortC xs) := by
  have p := List.pairwise_mergeSort (le := leC) leC_trans leC_total xs
  have n : (sortC xs).Nodup := (sortC_perm xs).nodup_iff.mpr h
  refine List.Pairwise.imp₂ (R := fun a b => leC a b = true) (S := fun a b => a ≠ b) (fun a b h1 h2 => ?_) p n
  unfold leC at h1
  cases e : ltC a b with
  | true => rfl
  | false => exact absurd (ltC_tri e (by simpa using h1)) h2
theorem alike_C (bs : List Pr) : alikeB (bs.map C) = true := alikeB_mk (nd_map (fun _ => rfl) bs) fun d hd => List.all_eq_true.mpr fun e he => by
  obtain ⟨p, _, rfl⟩ := List.mem_map.mp hd
  obtain ⟨q, _, rfl⟩ := List.mem_map.mp he
  rfl
theorem sortB_C (bs : List Pr) : sortB (bs.map C) = true := Bool.or_eq_true_iff.mpr (.inl (List.all_eq_true.mpr fun d hd => by
  obtain ⟨p, _, rfl⟩ := List.mem_map.mp hd
  rfl))
theorem sortD_C (bs : List Pr) : sortD (bs.map C) = (sortC bs).map C := (List.map_mergeSort fun a _ b _ => (le_C a b).symm).symm
theorem dep_C (bs : List Pr) : PyData.depthAll (bs.map C) ≤ 62 := Nat.le_trans (lay_all (n := 1) fun d hd => by
  obtain ⟨p, _, rfl⟩ := List.mem_map.mp hd
  exact lay_C p).2 (by decide)
theorem dSortA_C (bs : List Pr) : dSortA [.list (bs.map C)] = some (.list ((sortC bs).map C)) := by
  rw [← sortD_C]; exact iteP_pos ⟨alike_C bs, sortB_C bs, dep_C bs⟩
theorem dSortA_B (bs : List Pr) : dSortA [B bs] = some (.list ((sortC bs).map C)) := by
  rw [← sortD_C]; exact iteP_pos ⟨alike_C bs, sortB_C bs, dep_C bs⟩
/-! rows of three -/
abbrev Rw := Pr × Pr × Pr
def J (r : Rw) : D := .tuple [C r.1, C r.2.1, C r.2.2]
theorem lay_J (r : Rw) : Lay 2 (J r) := lay_tup fun d hd => by
  simp only [List.mem_cons, List.not_mem_nil, or_false] at hd
  rcases hd with rfl | rfl | rfl <;> exact lay_C _
theorem toks_J {a b : Rw} (h : PySem.W.keyToks (J a) = PySem.W.keyToks (J b)) : a = b := by
  have ea : ∀ r : Rw, PySem.W.keyToks (J r) = [.inl 1, .inl 1, .inl r.1.1, .inl 1, .inl r.1.2, .inl 0, .inl 1, .inl 1, .inl r.2.1.1, .inl 1, .inl r.2.1.2, .inl 0, .inl 1, .inl 1, .inl r.2.2.1, .inl 1, .inl r.2.2.2, .inl 0, .inl 0] := fun r => rfl
  rw [ea, ea] at h
  simp only [List.cons.injEq, Sum.inl.injEq, true_and, and_true] at h
  obtain ⟨h1, h2, h3, h4, h5, h6⟩ := h
  exact Prod.ext (Prod.ext h1 h2) (Prod.ext (Prod.ext h3 h4) (Prod.ext h5 h6))
def leJ (a b : Rw) : Bool := PySem.W.dataLe false id (J a) (J b)
def sortJ (rs : List Rw) : List Rw := rs.mergeSort leJ
theorem leJ_trans (a b c : Rw) (h : leJ a b = true) (h2 : leJ b c = true) : leJ a c = true :=
  (PySem.W.sortLe_total (listOrd itemOrd) false fun b => PySem.W.keyToks (id b)).trans _ _ _ h h2
theorem leJ_total (a b : Rw) : (leJ a b || leJ b a) = true := Bool.or_eq_true_iff.mpr <|
  (PySem.W.sortLe_total (listOrd itemOrd) false fun b => PySem.W.keyToks (id b)).total _ _
theorem leJ_anti {a b : Rw} (h : leJ a b = true) (h2 : leJ b a = true) : a = b := by
  have h1 : (!PyProof.Rows.lexLt itemOrd (PySem.W.keyToks (J b)) (PySem.W.keyToks (J a))) = true := h
  have h3 : (!PyProof.Rows.lexLt itemOrd (PySem.W.keyToks (J a)) (PySem.W.keyToks (J b))) = true := h2
  exact toks_J ((listOrd itemOrd).total _ _ (by simpa using h3) (by simpa using h1))
theorem sortJ_perm (rs : List Rw) : (sortJ rs).Perm rs := List.mergeSort_perm _ _
theorem sortJ_eq {xs ys : List Rw} (p : xs.Perm ys) : sortJ xs = sortJ ys :=
  List.Perm.eq_of_pairwise (le := fun a b => leJ a b = true) (fun a b _ _ h1 h2 => leJ_anti h1 h2) (List.pairwise_mergeSort leJ_trans leJ_total xs) (List.pairwise_mergeSort leJ_trans leJ_total ys) ((sortJ_perm xs).trans (p.trans (sortJ_perm ys).symm))
theorem dSortA_J (rs : List Rw) : dSortA [.list (rs.map J)] = some (.list ((sortJ rs).map J)) := by
  have e : sortD (rs.map J) = (sortJ rs).map J := (List.map_mergeSort (r := leJ) (f := J) fun a _ b _ => rfl).symm
  rw [← e]
  refine iteP_pos ⟨alikeB_mk (nd_map (fun _ => rfl) rs) fun d hd => List.all_eq_true.mpr fun e he => ?_, Bool.or_eq_true_iff.mpr (.inl (List.all_eq_true.mpr fun d hd => ?_)), Nat.le_trans (lay_all (n := 2) fun d hd => ?_).2 (by decide)⟩
  · obtain ⟨p, _, rfl⟩ := List.mem_map.mp hd
    obtain ⟨q, _, rfl⟩ := List.mem_map.mp he
    rfl
  · obtain ⟨p, _, rfl⟩ := List.mem_map.mp hd
    rfl
  · obtain ⟨p, _, rfl⟩ := List.mem_map.mp hd
    exact lay_J p
end DV

set_option Elab.async false
set_option linter.all false
set_option maxRecDepth 100000
set_option maxHeartbeats 2000000
/-! loops, comprehensions and quantifiers over f of the items of a list -/
namespace DV
open PySem PySem.Spec PyProof.Rows L2
section
variable {α : Type} {f : α → D} {hh : D → Rho → Option Rho} {tt : Rho → M Bool} {fe : Rho → M D} {fi : Rho → M (List D)} {vs : List Nat} {ρ : Rho} {xs : List α} {body : Rho → M Out}
theorem qD_allM {p : α → Bool} : ∀ {xs : List α}, (∀ x ∈ xs, ∃ ρ1, hh (f x) ρ = some ρ1 ∧ tt ρ1 = ret true ∧ fe ρ1 = ret (.bool (p x))) → qD false hh tt fe ρ (xs.map f) = ret (xs.all p)
  | [], _ => rfl
  | x :: xs, h => by
    obtain ⟨ρ1, e1, e2, e3⟩ := h x List.mem_cons_self
    have ih := qD_allM (p := p) (xs := xs) fun d' hd' => h d' (List.mem_cons_of_mem _ hd')
    have e : qD false hh tt fe ρ (f x :: xs.map f) = bnd (lift (hh (f x) ρ)) fun ρ1 => bnd (nox (tt ρ1)) fun c => if c = true then bnd (nox (fe ρ1)) fun e => match e with
      | .bool b => if b = false then ret false else qD false hh tt fe ρ (xs.map f)
      | _ => stk
    else qD false hh tt fe ρ (xs.map f) := rfl
    rw [List.map_cons, e, e1, lift_some, bnd_ret, e2, nox_ret, bnd_ret, if_tt, e3, nox_ret, bnd_ret, List.all_cons]
    cases p x with
    | true => rw [Bool.true_and, ← ih]; rfl
    | false => rfl
theorem qD_anyM {p : α → Bool} : ∀ {xs : List α}, (∀ x ∈ xs, ∃ ρ1, hh (f x) ρ = some ρ1 ∧ tt ρ1 = ret true ∧ fe ρ1 = ret (.bool (p x))) → qD true hh tt fe ρ (xs.map f) = ret (xs.any p)
  | [], _ => rfl
  | x :: xs, h => by
    obtain ⟨ρ1, e1, e2, e3⟩ := h x List.mem_cons_self
    have ih := qD_anyM (p := p) (xs := xs) fun d' hd' => h d' (List.mem_cons_of_mem _ hd')
    have e : qD true hh tt fe ρ (f x :: xs.map f) = bnd (lift (hh (f x) ρ)) fun ρ1 => bnd (nox (tt ρ1)) fun c => if c = true then bnd (nox (fe ρ1)) fun e => match e with
      | .bool b => if b = true then ret true else qD true hh tt fe ρ (xs.map f)
      | _ => stk
    else qD true hh tt fe ρ (xs.map f) := rfl
    rw [List.map_cons, e, e1, lift_some, bnd_ret, e2, nox_ret, bnd_ret, if_tt, e3, nox_ret, bnd_ret, List.any_cons]
    cases p x with
    | false => rw [Bool.false_or, ← ih]; rfl
    | true => rfl
theorem qF_all (xs : List α) (f : α → D) (p : α → Bool) (hfi : fi ρ = ret (xs.map f)) (h : ∀ x ∈ xs, ∃ ρ1, hh (f x) (wipeR ρ vs) = some ρ1 ∧ tt ρ1 = ret true ∧ fe ρ1 = ret (.bool (p x))) : qF false fi hh tt fe vs ρ = ret (.bool (xs.all p)) := by
  unfold qF
  rw [hfi, bnd_ret, qD_allM h, bnd_ret]
theorem qF_any (xs : List α) (f : α → D) (p : α → Bool) (hfi : fi ρ = ret (xs.map f)) (h : ∀ x ∈ xs, ∃ ρ1, hh (f x) (wipeR ρ vs) = some ρ1 ∧ tt ρ1 = ret true ∧ fe ρ1 = ret (.bool (p x))) : qF true fi hh tt fe vs ρ = ret (.bool (xs.any p)) := by
  unfold qF
  rw [hfi, bnd_ret, qD_anyM h, bnd_ret]
theorem lcD_filterM {p : α → Bool} {g : α → D} : ∀ {xs : List α}, (∀ x ∈ xs, ∃ ρ1, hh (f x) ρ = some ρ1 ∧ tt ρ1 = ret (p x) ∧ (p x = true → fe ρ1 = ret (g x))) → lcD hh tt fe ρ (xs.map f) = ret ((xs.filter p).map g)
  | [], _ => rfl
  | x :: xs, h => by
    obtain ⟨ρ1, e1, e2, e3⟩ := h x List.mem_cons_self
    have ih := lcD_filterM (p := p) (g := g) (xs := xs) fun d' hd' => h d' (List.mem_cons_of_mem _ hd')
    have e : lcD hh tt fe ρ (f x :: xs.map f) = bnd (lift (hh (f x) ρ)) fun ρ1 => bnd (nox (tt ρ1)) fun c => if c = true then bnd (nox (fe ρ1)) fun e => bnd (lcD hh tt fe ρ (xs.map f)) fun es => ret (e :: es) else lcD hh tt fe ρ (xs.map f) := rfl
    rw [List.map_cons, e, e1, lift_some, bnd_ret, e2, nox_ret, bnd_ret, ih]
    cases hp : p x
    · rw [if_ff, List.filter_cons_of_neg (by rw [hp]; decide)]
    · rw [if_tt, e3 hp, nox_ret, bnd_ret, bnd_ret, List.filter_cons_of_pos hp]; rfl
theorem lcF_filter (xs : List α) (f : α → D) (p : α → Bool) (g : α → D) (hfi : fi ρ = ret (xs.map f)) (hl : xs.length ≤ 16000000) (h : ∀ x ∈ xs, ∃ ρ1, hh (f x) (wipeR ρ vs) = some ρ1 ∧ tt ρ1 = ret (p x) ∧ (p x = true → fe ρ1 = ret (g x))) : lcF fi hh tt fe vs ρ = ret ((xs.filter p).map g) := by
  rw [lcF_ok hfi (by rw [List.length_map]; exact hl), lcD_filterM h]
theorem lcF_map (xs : List α) (f g : α → D) (hfi : fi ρ = ret (xs.map f)) (hl : xs.length ≤ 16000000) (h : ∀ x ∈ xs, ∃ ρ1, hh (f x) (wipeR ρ vs) = some ρ1 ∧ tt ρ1 = ret true ∧ fe ρ1 = ret (g x)) : lcF fi hh tt fe vs ρ = ret (xs.map g) := by
  rw [lcF_filter xs f (fun _ => true) g hfi hl fun x hx => by
    obtain ⟨ρ1, a, b, c⟩ := h x hx
    exact ⟨ρ1, a, b, fun _ => c⟩, List.filter_eq_self.mpr fun _ _ => rfl]
/-- a loop without state -/
theorem forD_cntM {β : Type} (I : Nat → β → Rho → Prop) (step : β → α → β) : ∀ (xs : List α), (∀ x ∈ xs, ∀ k b ρ, I (k + 1) b ρ → ∃ ρ1 ρ2, hh (f x) ρ = some ρ1 ∧ body ρ1 = ret (.nx ρ2) ∧ I k (step b x) ρ2) → ∀ b ρ, I xs.length b ρ → ∃ ρ', forD hh body (xs.map f) ρ = ret (.nx ρ') ∧ I 0 (xs.foldl step b) ρ'
  | [], _, b, ρ, i => ⟨ρ, rfl, i⟩
  | x :: xs, h, b, ρ, i => by
    obtain ⟨ρ1, ρ2, h1, h2, h3⟩ := h x List.mem_cons_self xs.length b ρ i
    obtain ⟨ρ', e, i'⟩ := forD_cntM I step xs (fun d' hd' => h d' (List.mem_cons_of_mem _ hd')) (step b x) ρ2 h3
    exact ⟨ρ', by rw [List.map_cons, forD_step h1 h2]; exact e, i'⟩
theorem for_bnd {β γ : Type} (f : α → D) (I : Nat → β → Rho → Prop) (step : β → α → β) (xs : List α) (b : β) {fo : Out → M γ} {r : M γ} (h0 : I xs.length b ρ) (h : ∀ x ∈ xs, ∀ k b ρ, I (k + 1) b ρ → ∃ ρ1 ρ2, hh (f x) ρ = some ρ1 ∧ body ρ1 = ret (.nx ρ2) ∧ I k (step b x) ρ2) (k : ∀ ρ', I 0 (xs.foldl step b) ρ' → fo (.nx ρ') = r) : bnd (forD hh body (xs.map f) ρ) fo = r := by
  obtain ⟨ρ', e, i⟩ := forD_cntM I step xs h b ρ h0
  rw [e, bnd_ret]
  exact k ρ' i
theorem for_step {Q : Rho → Prop} {d : D} {ρ1 : Rho} (e : hh d ρ = some ρ1) (h : ∃ ρ2, body ρ1 = ret (.nx ρ2) ∧ Q ρ2) : ∃ ρ1 ρ2, hh d ρ = some ρ1 ∧ body ρ1 = ret (.nx ρ2) ∧ Q ρ2 := by
  obtain ⟨ρ2, e2, q⟩ := h
  exact ⟨ρ1, ρ2, e, e2, q⟩
theorem for_ex {β : Type} {Q : Rho → Prop} (f : α → D) (I : Nat → β → Rho → Prop) (step : β → α → β) (xs : List α) (b : β) (h0 : I xs.length b ρ) (h : ∀ x ∈ xs, ∀ k b ρ, I (k + 1) b ρ → ∃ ρ1 ρ2, hh (f x) ρ = some ρ1 ∧ body ρ1 = ret (.nx ρ2) ∧ I k (step b x) ρ2) (k : ∀ ρ', I 0 (xs.foldl step b) ρ' → Q ρ') : ∃ ρ2, forD hh body (xs.map f) ρ = ret (.nx ρ2) ∧ Q ρ2 := by
  obtain ⟨ρ', e, i⟩ := forD_cntM I step xs h b ρ h0
  exact ⟨ρ', e, k ρ' i⟩
/-- a comprehension whose tests and items draw -/
theorem Hit.lcD {I : DS → Prop} {R : α → D → Prop} : ∀ {xs : List α}, (∀ x ∈ xs, ∀ s, I s → ∃ ρ1, hh (f x) ρ = some ρ1 ∧ Hit (tt ρ1) s fun c s1 => I s1 ∧ (c = true → Hit (fe ρ1) s1 fun d s2 => I s2 ∧ R x d)) → ∀ s, I s → Hit (DV.lcD hh tt fe ρ (xs.map f)) s fun es s' => I s' ∧ ∃ ys, ys.Sublist xs ∧ Paired R ys es
  | [], _, s, i => Hit.ret ⟨i, [], .slnil, .nil⟩
  | x :: xs, h, s, i => by
    obtain ⟨ρ1, e1, c, s1, e2, i1, k⟩ := h x List.mem_cons_self s i
    have e : DV.lcD hh tt fe ρ (f x :: xs.map f) = DV.bnd (lift (hh (f x) ρ)) fun ρ1 => DV.bnd (nox (tt ρ1)) fun c => if c = true then DV.bnd (nox (fe ρ1)) fun e => DV.bnd (DV.lcD hh tt fe ρ (xs.map f)) fun es => DV.ret (e :: es) else DV.lcD hh tt fe ρ (xs.map f) := rfl
    rw [List.map_cons, e, e1, lift_some, bnd_ret]
    refine Hit.bnd ⟨c, s1, nox_at e2, ?_⟩
    have ih := Hit.lcD (I := I) (R := R) (xs := xs) fun d' hd' => h d' (List.mem_cons_of_mem _ hd')
    cases c with
    | false =>
      show Hit (if false = true then _ else _) s1 _
      rw [if_ff]
      exact (ih s1 i1).imp fun es s' ⟨j, ys, sb, pr⟩ => ⟨j, ys, .cons _ sb, pr⟩
    | true =>
      show Hit (if true = true then _ else _) s1 _
      rw [if_tt]
      obtain ⟨d, s2, e3, i2, r⟩ := k rfl
      exact Hit.bnd ⟨d, s2, nox_at e3, Hit.bnd ((ih s2 i2).imp fun es s' ⟨j, ys, sb, pr⟩ => Hit.ret ⟨j, x :: ys, .cons₂ _ sb, .cons r pr⟩)⟩
theorem Hit.lcF {I : DS → Prop} (xs : List α) (f : α → D) (R : α → D → Prop) (hfi : fi ρ = DV.ret (xs.map f)) (hl : xs.length ≤ 16000000) (h : ∀ x ∈ xs, ∀ s, I s → ∃ ρ1, hh (f x) (wipeR ρ vs) = some ρ1 ∧ Hit (tt ρ1) s fun c s1 => I s1 ∧ (c = true → Hit (fe ρ1) s1 fun d s2 => I s2 ∧ R x d)) {s : DS} (i : I s) : Hit (DV.lcF fi hh tt fe vs ρ) s fun es s' => I s' ∧ ∃ ys, ys.Sublist xs ∧ Paired R ys es := by
  rw [lcF_ok hfi (by rw [List.length_map]; exact hl)]
  exact Hit.lcD h s i
theorem paired_map {g : α → D} : ∀ {ys : List α} {es : List D}, Paired (fun x d => d = g x) ys es → es = ys.map g
  | _, _, .nil => rfl
  | _, _, .cons h t => by rw [h, paired_map t]; rfl
theorem Hit.of_ret {α : Type} {m : M α} {a : α} {s : DS} {P : α → DS → Prop} (e : m = DV.ret a) (h : P a s) : Hit m s P := by rw [e]; exact Hit.ret h
/-- a loop with state over f of the items -/
theorem Hit.forM_ (I : Nat → Rho → DS → Prop) {s : DS} (h0 : I xs.length ρ s) (h : ∀ x ∈ xs, ∀ k ρ s, I (k + 1) ρ s → ∃ ρ1, hh (f x) ρ = some ρ1 ∧ Hit (body ρ1) s fun o s2 => ∃ ρ2, o = .nx ρ2 ∧ I k ρ2 s2) :
    Hit (forD hh body (xs.map f) ρ) s fun o s' => ∃ ρ', o = .nx ρ' ∧ I 0 ρ' s' :=
  Hit.for_ I xs.length (by rw [List.length_map]) h0 fun d hd k ρ s i => by
    obtain ⟨x, hx, rfl⟩ := List.mem_map.mp hd
    exact h x hx k ρ s i
end
end DV

set_option Elab.async false
set_option linter.all false
set_option maxRecDepth 100000
set_option maxHeartbeats 2000000
/-! data that the laws compare: of lists, tuples and atoms -/
namespace DV
open PySem PySem.Spec PyProof.Rows L2
inductive Atom : D → Prop
  | non : Atom .none
  | bl (b : Bool) : Atom (.bool b)
  | int (i : Int) : Atom (.int i)
  | str (x : Str) (h : PyData.canLay0 (.str x) = true) : Atom (.str x)
/-- lists and tuples of at most so many levels -/
def Pl : Nat → D → Prop
  | 0, d => Atom d
  | m + 1, d => Atom d ∨ ∃ ds : List D, (d = .list ds ∨ d = .tuple ds) ∧ ds.length ≤ 100000 ∧ ∀ x ∈ ds, Pl m x
theorem Pl.atom {m : Nat} {d : D} (h : Atom d) : Pl m d := by
  cases m with
  | zero => exact h
  | succ m => exact .inl h
theorem Pl.lst {m : Nat} {ds : List D} (hl : ds.length ≤ 100000) (h : ∀ x ∈ ds, Pl m x) : Pl (m + 1) (.list ds) := .inr ⟨ds, .inl rfl, hl, h⟩
theorem Pl.tup {m : Nat} {ds : List D} (hl : ds.length ≤ 100000) (h : ∀ x ∈ ds, Pl m x) : Pl (m + 1) (.tuple ds) := .inr ⟨ds, .inr rfl, hl, h⟩
theorem Pl.lstM {α : Type} {f : α → D} {m : Nat} {xs : List α} (hl : xs.length ≤ 100000) (h : ∀ x ∈ xs, Pl m (f x)) : Pl (m + 1) (.list (xs.map f)) := .lst (by rw [List.length_map]; exact hl) fun d hd => by
  obtain ⟨x, hx, rfl⟩ := List.mem_map.mp hd
  exact h x hx
theorem Pl.tupM {α : Type} {f : α → D} {m : Nat} {xs : List α} (hl : xs.length ≤ 100000) (h : ∀ x ∈ xs, Pl m (f x)) : Pl (m + 1) (.tuple (xs.map f)) := .tup (by rw [List.length_map]; exact hl) fun d hd => by
  obtain ⟨x, hx, rfl⟩ := List.mem_map.mp hd
  exact h x hx
theorem Pl.int (m : Nat) (i : Int) : Pl m (.int i) := .atom (.int i)
theorem Pl.str (m : Nat) (x : Str) (h : PyData.canLay0 (.str x) = true := by rfl) : Pl m (.str x) := .atom (.str x h)
theorem Pl.non (m : Nat) : Pl m .none := .atom .non
theorem Pl.bl (m : Nat) (b : Bool) : Pl m (.bool b) := .atom (.bl b)
theorem Pl.C (m : Nat) (p : Pr) : Pl (m + 1) (DV.C p) := .tup (by simp) fun d hd => by
  rcases List.mem_cons.mp hd with rfl | hd
  · exact .int _ _
  · rw [List.mem_singleton.mp hd]; exact .int _ _
theorem Pl.B (m : Nat) {bs : List Pr} (hl : bs.length ≤ 100000) : Pl (m + 2) (DV.B bs) := .tupM hl fun p _ => .C m p
theorem Pl.J (m : Nat) (r : Rw) : Pl (m + 2) (DV.J r) := .tup (by simp) fun d hd => by
  simp only [List.mem_cons, List.not_mem_nil, or_false] at hd
  rcases hd with rfl | rfl | rfl <;> exact .C m _
/-- the item at a place -/
theorem dIx_nl {ds : List D} {i : Nat} (h : i < ds.length) : dIx (.list ds) (.int (0 + (i : Int))) = some ds[i] := by
  rw [Int.zero_add]
  show atI _ _ = _
  unfold atI ixN
  rw [if_pos (by omega), if_pos (by omega)]
  show ds[i]? = _
  rw [List.getElem?_eq_getElem h]
theorem dIx_nt {ds : List D} {i : Nat} (h : i < ds.length) : dIx (.tuple ds) (.int (0 + (i : Int))) = some ds[i] := dIx_nl h
theorem dNe_bb (a : Bool) : dNe (.bool a) (.bool a) = some (.bool false) := by
  cases a <;> exact dNe_s rfl rfl
theorem dEq_bb (a b : Bool) : dEq (.bool a) (.bool b) = some (.bool (a == b)) := dEq_s rfl rfl
theorem dEq_ss (x : Str) (h : PyData.canLay0 (.str x) = true) : dEq (.str x) (.str x) = some (.bool true) := dEq_self (n := 0) ⟨h, Nat.le_refl _, rfl⟩
theorem dEq_ii (i : Int) : dEq (.int i) (.int i) = some (.bool true) := by rw [dEq_i, beq_self_eq_true]
theorem filter_ff {α : Type} (xs : List α) : xs.filter (fun _ => false) = [] := List.filter_eq_nil_iff.mpr fun _ _ => by decide
/-- a loop over range(n), by the index -/
theorem Hit.forR {hh : D → Rho → Option Rho} {body : Rho → M Out} (I : Nat → Rho → DS → Prop) : ∀ (n k : Nat) {ρ : Rho} {s : DS}, I k ρ s → (∀ i, k ≤ i → i < k + n → ∀ ρ s, I i ρ s → ∃ ρ1, hh (.int (0 + (i : Nat))) ρ = some ρ1 ∧ Hit (body ρ1) s fun o s2 => ∃ ρ2, o = .nx ρ2 ∧ I (i + 1) ρ2 s2) →
    Hit (forD hh body ((List.range' k n).map fun i => PyData.int (0 + (i : Nat))) ρ) s fun o s' => ∃ ρ', o = .nx ρ' ∧ I (k + n) ρ' s'
  | 0, k, ρ, s, i, h => ⟨_, s, rfl, ρ, rfl, i⟩
  | n + 1, k, ρ, s, i, h => by
    obtain ⟨ρ1, e1, o, s2, e2, ρ2, rfl, j⟩ := h k (Nat.le_refl _) (by omega) ρ s i
    obtain ⟨o, s', e3, ρ', rfl, z⟩ := Hit.forR I n (k + 1) j fun i h1 h2 => h i (by omega) (by omega)
    refine ⟨_, s', ?_, ρ', rfl, by rw [show k + (n + 1) = k + 1 + n from by omega]; exact z⟩
    rw [List.range'_succ, List.map_cons, forD_stepS e1 e2]
    exact e3
theorem Hit.forRange {hh : D → Rho → Option Rho} {body : Rho → M Out} (I : Nat → Rho → DS → Prop) (n : Nat) {ρ : Rho} {s : DS} (h0 : I 0 ρ s) (h : ∀ i, i < n → ∀ ρ s, I i ρ s → ∃ ρ1, hh (.int (0 + (i : Nat))) ρ = some ρ1 ∧ Hit (body ρ1) s fun o s2 => ∃ ρ2, o = .nx ρ2 ∧ I (i + 1) ρ2 s2) :
    Hit (forD hh body (rangeD 0 n) ρ) s fun o s' => ∃ ρ', o = .nx ρ' ∧ I n ρ' s' := by
  have := Hit.forR (hh := hh) (body := body) I n 0 h0 fun i _ h2 => h i (by omega)
  rw [Nat.zero_add] at this
  unfold rangeD
  rw [List.range_eq_range']
  exact this
theorem dIx_BL {bs : List Pr} {i : Nat} (h : i < bs.length) : dIx (.list (bs.map C)) (.int (i : Int)) = some (DV.C (bs.getD i (0, 0))) := by
  show atI _ _ = _
  unfold atI ixN
  rw [if_pos (by omega), if_pos (by rw [List.length_map]; omega)]
  show (bs.map DV.C)[i]? = _
  rw [List.getElem?_map, List.getElem?_eq_getElem h]
  have e : bs.getD i (0, 0) = bs[i] := by rw [List.getD_eq_getElem?_getD, List.getElem?_eq_getElem h]; rfl
  rw [e]
  rfl
theorem dEq_BLn (bs : List Pr) : dEq (.list (bs.map DV.C)) (.list []) = some (.bool (decide (bs = []))) := by
  refine (dEq_s (lay_BL bs).sh (lay_BL []).sh).trans ?_
  cases bs with
  | nil => rfl
  | cons p r => rfl
/-- a comprehension over what is drawn: a part of the items -/
theorem Hit.sub {α : Type} {hh : D → Rho → Option Rho} {tt : Rho → M Bool} {fe : Rho → M D} {fi : Rho → M (List D)} {vs : List Nat} {ρ : Rho} {I : DS → Prop} (xs : List α) (f g : α → D) (hfi : fi ρ = DV.ret (xs.map f)) (hl : xs.length ≤ 16000000) (h : ∀ x ∈ xs, ∀ s, I s → ∃ ρ1, hh (f x) (wipeR ρ vs) = some ρ1 ∧ Hit (tt ρ1) s fun c s1 => I s1 ∧ (c = true → fe ρ1 = DV.ret (g x))) {s : DS} (i : I s) : Hit (DV.lcF fi hh tt fe vs ρ) s fun es s' => I s' ∧ ∃ ys, List.Sublist ys xs ∧ es = ys.map g :=
  (Hit.lcF xs f (fun x d => d = g x) hfi hl (fun x hx s i => by
    obtain ⟨ρ1, e, h⟩ := h x hx s i
    exact ⟨ρ1, e, h.imp fun c s1 ⟨j, k⟩ => ⟨j, fun z => Hit.of_ret (k z) ⟨j, rfl⟩⟩⟩) i).imp fun es s' ⟨j, ys, sb, pr⟩ => ⟨j, ys, sb, paired_map pr⟩
theorem cutD_to (w : List D) (k : Nat) : cutD w none (some (k : Int)) = w.take k := by
  have e1 : HT.sIx w.length 0 none = 0 := rfl
  unfold cutD
  rw [e1, HT.sIx_nat, List.drop_zero, Nat.sub_zero]
  by_cases h : k ≤ w.length
  · rw [Nat.min_eq_left h]
  · rw [Nat.min_eq_right (by omega), List.take_of_length_le (by omega), List.take_of_length_le (by omega)]
theorem cutD_from (w : List D) (k : Nat) : cutD w (some (k : Int)) none = w.drop k := by
  have e1 : HT.sIx w.length w.length none = w.length := rfl
  unfold cutD
  rw [e1, HT.sIx_nat, List.take_of_length_le (by rw [List.length_drop]; exact Nat.le_refl _)]
  by_cases h : k ≤ w.length
  · rw [Nat.min_eq_left h]
  · rw [Nat.min_eq_right (by omega), List.drop_of_length_le (by omega), List.drop_of_length_le (by omega)]
theorem cutD_last (xs : List D) (x : D) : cutD (xs ++ [x]) (some (-1)) none = [x] := by
  have e2 : HT.sIx (xs ++ [x]).length (xs ++ [x]).length none = (xs ++ [x]).length := rfl
  have e1 : HT.sIx (xs ++ [x]).length 0 (some (-1)) = xs.length := by
    unfold HT.sIx
    dsimp only
    rw [if_pos (by decide), List.length_append, List.length_cons, List.length_nil]
    omega
  unfold cutD
  rw [e1, e2, List.drop_left, List.length_append]
  exact List.take_of_length_le (by simp)
theorem dCut_Bto (bs : List Pr) (k : Nat) : dCut (DV.B bs) none (some (k : Int)) = some (DV.B (bs.take k)) := by
  show some (PyData.tuple (cutD (bs.map DV.C) none (some (k : Int)))) = _
  rw [cutD_to, ← List.map_take]; rfl
theorem dCut_Bfrom (bs : List Pr) (k : Nat) : dCut (DV.B bs) (some (k : Int)) none = some (DV.B (bs.drop k)) := by
  show some (PyData.tuple (cutD (bs.map DV.C) (some (k : Int)) none)) = _
  rw [cutD_from, ← List.map_drop]; rfl
theorem dCut_Blast (bs : List Pr) (p : Pr) : dCut (DV.B (bs ++ [p])) (some (-1)) none = some (DV.B [p]) := by
  show some (PyData.tuple (cutD ((bs ++ [p]).map DV.C) (some (-1)) none)) = _
  rw [List.map_append]
  show some (PyData.tuple (cutD (bs.map DV.C ++ [DV.C p]) (some (-1)) none)) = _
  rw [cutD_last]; rfl
theorem dCut_Binit (bs : List Pr) (p : Pr) : dCut (DV.B (bs ++ [p])) none (some (-1)) = some (DV.B bs) := by
  show some (PyData.tuple (cutD ((bs ++ [p]).map DV.C) none (some (-1)))) = _
  rw [List.map_append]
  show some (PyData.tuple (cutD (bs.map DV.C ++ [DV.C p]) none (some (-1)))) = _
  rw [cutD_init]; rfl
theorem dAdd_BB {a b : List Pr} (h : a.length + b.length ≤ 100000) : dAdd (DV.B a) (DV.B b) = some (DV.B (a ++ b)) := by
  have e := dAdd_tt (xs := a.map DV.C) (ys := b.map DV.C) (by rw [List.length_map, List.length_map]; exact h)
  rw [← List.map_append] at e
  exact e
theorem dLen_B (bs : List Pr) : dLen [DV.B bs] = some (.int bs.length) := by
  show some (PyData.int ((bs.map DV.C).length : Nat)) = _
  rw [List.length_map]
theorem dLen_BL (bs : List Pr) : dLen [.list (bs.map DV.C)] = some (.int bs.length) := by
  show some (PyData.int ((bs.map DV.C).length : Nat)) = _
  rw [List.length_map]
theorem snocP {bs : List Pr} (h : bs ≠ []) : ∃ l p, bs = l ++ [p] := by
  rcases List.eq_nil_or_concat bs with rfl | ⟨l, p, e⟩
  · exact absurd rfl h
  · exact ⟨l, p, by rw [e, List.concat_eq_append]⟩
/-- a comprehension of what will not do: nothing -/
theorem Hit.lcNone {hh : D → Rho → Option Rho} {tt : Rho → M Bool} {fe : Rho → M D} {fi : Rho → M (List D)} {vs : List Nat} {ρ : Rho} {s : DS} {Q : DS → Prop} (h : Hit (fi ρ) s fun ds s' => Q s' ∧ ds.length ≤ 16000000 ∧ ∀ d ∈ ds, ∃ ρ1, hh d (wipeR ρ vs) = some ρ1 ∧ tt ρ1 = DV.ret false) : Hit (DV.lcF fi hh tt fe vs ρ) s fun es s' => es = [] ∧ Q s' := by
  unfold DV.lcF
  refine Hit.bnd (h.imp fun ds s' ⟨q, l, k⟩ => ?_)
  show Hit (if ds.length ≤ 16000000 then _ else _) s' _
  rw [if_pos l, lcD_none k]
  exact Hit.ret ⟨rfl, q⟩
/-- a loop that neither draws nor ends early -/
theorem Hit.forPure {α : Type} {hh : D → Rho → Option Rho} {body : Rho → M Out} {ρ : Rho} {s : DS} {P : Out → DS → Prop} (f : α → D) (xs : List α) (I : Rho → Prop) (h0 : I ρ) (h : ∀ x ∈ xs, ∀ ρ, I ρ → ∃ ρ1 ρ2, hh (f x) ρ = some ρ1 ∧ body ρ1 = DV.ret (.nx ρ2) ∧ I ρ2) (k : ∀ ρ', I ρ' → P (.nx ρ') s) : Hit (forD hh body (xs.map f) ρ) s P := by
  obtain ⟨ρ', e, i⟩ := forD_cntM (β := Unit) (f := f) (hh := hh) (body := body) (fun _ _ ρ => I ρ) (fun b _ => b) xs (fun x hx _ _ ρ i => h x hx ρ i) () ρ h0
  exact Hit.of_ret e (k ρ' i)
theorem dNe_ss (x : Str) (h : PyData.canLay0 (.str x) = true) : dNe (.str x) (.str x) = some (.bool false) := dNe_self (n := 0) ⟨h, Nat.le_refl _, rfl⟩
theorem dNe_Bs (bs : List Pr) (x : Str) (h : PyData.canLay0 (.str x) = true) : dNe (DV.B bs) (.str x) = some (.bool true) := by
  have l : Lay 0 (.str x) := ⟨h, Nat.le_refl _, rfl⟩
  rw [dNe_s (lay_B bs).sh l.sh]
  rfl
theorem mkL_2 (a b : D) : mkL [a, b] = ret (.list [a, b]) := mkL_ok (by simp)
theorem mkL_1 (a : D) : mkL [a] = ret (.list [a]) := mkL_ok (by simp)
theorem mkL_0 : mkL [] = ret (.list []) := mkL_ok (by simp)
theorem mkT_0 : mkT [] = ret (DV.B []) := mkT_ok (by simp)
theorem mkT_s (a : D) : mkT [a] = ret (.tuple [a]) := mkT_ok (by simp)
end DV

set_option Elab.async false
set_option linter.all false
set_option maxRecDepth 100000
set_option maxHeartbeats 2000000
/-! data that stands for values of a type: operations by the values -/
namespace DV
open PySem PySem.Spec PyProof.Rows L2
/-- f tells apart, to a depth -/
structure Enc {α : Type} (n : Nat) (f : α → D) : Prop where
  lay : ∀ a, Lay n (f a)
  eqv : ∀ a b, PyData.eqv (f a) (f b) = true ↔ a = b
theorem enc_int : Enc 0 PyData.int := ⟨lay_int, fun a b => by
  show (a == b) = true ↔ _
  rw [beq_iff_eq]⟩
section
variable {α β : Type} {n m : Nat} {f : α → D} {g : β → D}
theorem Enc.mono (h : Enc n f) (hm : n ≤ m) : Enc m f := ⟨fun a => (h.lay a).mono hm, h.eqv⟩
theorem eqvAll_map (h : ∀ a b, PyData.eqv (f a) (f b) = true ↔ a = b) : ∀ xs ys : List α, PyData.eqvAll (xs.map f) (ys.map f) = true ↔ xs = ys
  | [], [] => by simp [PyData.eqvAll]
  | [], y :: ys => by simp [PyData.eqvAll]
  | x :: xs, [] => by simp [PyData.eqvAll]
  | x :: xs, y :: ys => by
    show (PyData.eqv (f x) (f y) && PyData.eqvAll (xs.map f) (ys.map f)) = true ↔ _
    rw [Bool.and_eq_true, h, eqvAll_map h xs ys, List.cons.injEq]
theorem Enc.tup (h : Enc n f) : Enc (n + 1) (fun xs : List α => PyData.tuple (xs.map f)) := ⟨fun xs => lay_tup fun d hd => by
    obtain ⟨a, _, rfl⟩ := List.mem_map.mp hd
    exact h.lay a, fun a b => by
    show PyData.eqvAll (a.map f) (b.map f) = true ↔ _
    exact eqvAll_map h.eqv a b⟩
theorem Enc.lst (h : Enc n f) : Enc (n + 1) (fun xs : List α => PyData.list (xs.map f)) := ⟨fun xs => lay_lst fun d hd => by
    obtain ⟨a, _, rfl⟩ := List.mem_map.mp hd
    exact h.lay a, fun a b => by
    show PyData.eqvAll (a.map f) (b.map f) = true ↔ _
    exact eqvAll_map h.eqv a b⟩
theorem Enc.pair (h : Enc n f) (k : Enc n g) : Enc (n + 1) (fun p : α × β => PyData.tuple [f p.1, g p.2]) := ⟨fun p => lay_tup fun d hd => by
    simp only [List.mem_cons, List.not_mem_nil, or_false] at hd
    rcases hd with rfl | rfl
    · exact h.lay _
    · exact k.lay _, fun a b => by
    show (PyData.eqv (f a.1) (f b.1) && (PyData.eqv (g a.2) (g b.2) && true)) = true ↔ _
    rw [Bool.and_true, Bool.and_eq_true, h.eqv, k.eqv, Prod.ext_iff]⟩
theorem Enc.comp (h : Enc n f) (e : β → α) (inj : ∀ a b, e a = e b → a = b) : Enc n (fun b => f (e b)) := ⟨fun b => h.lay _, fun a b => by
    rw [h.eqv]
    exact ⟨inj a b, fun z => by rw [z]⟩⟩
variable [DecidableEq α]
theorem Enc.bool (h : Enc n f) (a b : α) : PyData.eqv (f a) (f b) = decide (a = b) := by
  by_cases c : a = b
  · rw [decide_eq_true c]; exact (h.eqv a b).mpr c
  · rw [decide_eq_false c]
    cases e : PyData.eqv (f a) (f b)
    · rfl
    · exact absurd ((h.eqv a b).mp e) c
theorem dEq_e (h : Enc n f) (hn : n ≤ 64) (a b : α) : dEq (f a) (f b) = some (.bool (decide (a = b))) := by
  rw [dEq_s ((h.lay a).sh hn) ((h.lay b).sh hn), h.bool]
theorem dNe_e (h : Enc n f) (hn : n ≤ 64) (a b : α) : dNe (f a) (f b) = some (.bool (!decide (a = b))) := by
  rw [dNe_s ((h.lay a).sh hn) ((h.lay b).sh hn), h.bool]
theorem any_e (h : Enc n f) (a : α) (xs : List α) : ((xs.map f).any fun z => PyData.eqv z (f a)) = decide (a ∈ xs) := by
  induction xs with
  | nil => rfl
  | cons x xs ih =>
    rw [List.map_cons, List.any_cons, ih, h.bool, Bool.eq_iff_iff]
    simp only [Bool.or_eq_true, decide_eq_true_eq, List.mem_cons]
    rw [show (x = a) = (a = x) from propext eq_comm]
theorem lay_lm (h : Enc n f) (xs : List α) : Lay (n + 1) (.list (xs.map f)) := h.lst.lay xs
theorem lay_tm (h : Enc n f) (xs : List α) : Lay (n + 1) (.tuple (xs.map f)) := h.tup.lay xs
theorem dIn_lm (h : Enc n f) (hn : n < 64) (a : α) (xs : List α) : dIn (f a) (.list (xs.map f)) = some (.bool (decide (a ∈ xs))) := by
  rw [← any_e h a xs]
  exact iteP_pos ⟨(h.lay a).sh (Nat.le_of_lt hn), (lay_lm h xs).sh hn⟩
theorem dIn_tm (h : Enc n f) (hn : n < 64) (a : α) (xs : List α) : dIn (f a) (.tuple (xs.map f)) = some (.bool (decide (a ∈ xs))) := by
  rw [← any_e h a xs]
  exact iteP_pos ⟨(h.lay a).sh (Nat.le_of_lt hn), (lay_tm h xs).sh hn⟩
theorem dNotIn_lm (h : Enc n f) (hn : n < 64) (a : α) (xs : List α) : dNotIn (f a) (.list (xs.map f)) = some (.bool (!decide (a ∈ xs))) := by
  rw [← any_e h a xs]
  exact iteP_pos ⟨(h.lay a).sh (Nat.le_of_lt hn), (lay_lm h xs).sh hn⟩
theorem dNotIn_tm (h : Enc n f) (hn : n < 64) (a : α) (xs : List α) : dNotIn (f a) (.tuple (xs.map f)) = some (.bool (!decide (a ∈ xs))) := by
  rw [← any_e h a xs]
  exact iteP_pos ⟨(h.lay a).sh (Nat.le_of_lt hn), (lay_tm h xs).sh hn⟩
theorem shpd_m (h : Enc n f) (hn : n < 64) (a : α) (xs : List α) : shpd (xs.map f) (f a) := ⟨(lay_lm h xs).sh hn, (lay_tm h xs).sh hn, (h.lay a).sh (Nat.le_of_lt hn)⟩
theorem firstAt_m (h : Enc n f) (a : α) : ∀ (xs : List α), a ∈ xs → firstAt (xs.map f) (f a) = some (xs.idxOf a)
  | [], ha => nomatch ha
  | x :: xs, ha => by
    unfold firstAt
    rw [List.map_cons, List.findIdx?_cons, h.bool, List.idxOf_cons]
    by_cases c : x = a
    · rw [decide_eq_true c, if_pos rfl, show (x == a) = true from beq_iff_eq.mpr c]; rfl
    · have ih := firstAt_m h a xs ((List.mem_cons.mp ha).resolve_left fun z => c z.symm)
      unfold firstAt at ih
      rw [decide_eq_false c, ih, show (x == a) = false from beq_eq_false_iff_ne.mpr c]
      rfl
theorem dIndex_m (h : Enc n f) (hn : n < 64) {a : α} {xs : List α} (ha : a ∈ xs) : dIndex (xs.map f) (f a) = some (.int (xs.idxOf a : Nat)) := by
  have e := firstAt_m h a xs ha
  refine (iteP_pos ⟨shpd_m h hn a xs, _, e⟩).trans ?_
  rw [e]; rfl
theorem dCount_m (h : Enc n f) (hn : n < 64) (a : α) (xs : List α) : dCount (xs.map f) (f a) = some (.int (xs.count a : Nat)) := by
  refine (iteP_pos (shpd_m h hn a xs)).trans ?_
  rw [List.countP_map, List.count]
  congr 4
  funext x
  show PyData.eqv (f x) (f a) = (x == a)
  rw [h.bool]
  by_cases c : x = a <;> simp [c]
end
section
variable {α : Type} {f : α → D} {xs ys : List α}
theorem dLen_lm (f : α → D) (xs : List α) : dLen [.list (xs.map f)] = some (.int (xs.length : Nat)) := by rw [dLen_l, List.length_map]
theorem dLen_tm (f : α → D) (xs : List α) : dLen [.tuple (xs.map f)] = some (.int (xs.length : Nat)) := by rw [dLen_t, List.length_map]
theorem dIx_lm {i : Nat} {a : α} (h : xs[i]? = some a) : dIx (.list (xs.map f)) (.int (i : Nat)) = some (f a) := by
  have hi := (List.getElem?_eq_some_iff.mp h).1
  show atI _ _ = _
  unfold atI ixN
  rw [if_pos (by omega), if_pos (by rw [List.length_map]; omega)]
  show (xs.map f)[i]? = _
  rw [List.getElem?_map, h]; rfl
theorem dIx_tm {i : Nat} {a : α} (h : xs[i]? = some a) : dIx (.tuple (xs.map f)) (.int (i : Nat)) = some (f a) := dIx_lm h
theorem dIx_lmz {i : Nat} {a : α} (h : xs[i]? = some a) : dIx (.list (xs.map f)) (.int (0 + (i : Nat))) = some (f a) := by rw [Int.zero_add]; exact dIx_lm h
theorem dIx_tmz {i : Nat} {a : α} (h : xs[i]? = some a) : dIx (.tuple (xs.map f)) (.int (0 + (i : Nat))) = some (f a) := dIx_lmz h
theorem dIx_lml {a : α} (h : xs.getLast? = some a) : dIx (.list (xs.map f)) (.int (-1)) = some (f a) := by
  obtain ⟨l, rfl⟩ : ∃ l, xs = l ++ [a] := by
    rcases List.eq_nil_or_concat xs with rfl | ⟨l, b, e⟩
    · cases h
    · rw [List.concat_eq_append] at e
      rw [e, List.getLast?_concat] at h
      exact ⟨l, by rw [e, Option.some.inj h]⟩
  rw [List.map_append]
  exact dIx_last _ _
theorem dIx_tml {a : α} (h : xs.getLast? = some a) : dIx (.tuple (xs.map f)) (.int (-1)) = some (f a) := dIx_lml h
theorem dCut_tmt (f : α → D) (xs : List α) (k : Nat) : dCut (.tuple (xs.map f)) none (some (k : Nat)) = some (.tuple ((xs.take k).map f)) := by
  rw [dCut_t, cutD_to, List.map_take]
theorem dCut_tmf (f : α → D) (xs : List α) (k : Nat) : dCut (.tuple (xs.map f)) (some (k : Nat)) none = some (.tuple ((xs.drop k).map f)) := by
  rw [dCut_t, cutD_from, List.map_drop]
theorem dCut_l (ds : List D) (i j : Option Int) : dCut (.list ds) i j = some (.list (cutD ds i j)) := (rfl)
theorem dCut_lmt (f : α → D) (xs : List α) (k : Nat) : dCut (.list (xs.map f)) none (some (k : Nat)) = some (.list ((xs.take k).map f)) := by
  rw [dCut_l, cutD_to, List.map_take]
theorem dCut_lmf (f : α → D) (xs : List α) (k : Nat) : dCut (.list (xs.map f)) (some (k : Nat)) none = some (.list ((xs.drop k).map f)) := by
  rw [dCut_l, cutD_from, List.map_drop]
theorem cutD_init' (xs : List D) : cutD xs none (some (-1)) = xs.dropLast := by
  rcases List.eq_nil_or_concat xs with rfl | ⟨l, a, e⟩
  · rfl
  · rw [e, List.concat_eq_append, cutD_init, List.dropLast_concat]
theorem dCut_tmi (f : α → D) (xs : List α) : dCut (.tuple (xs.map f)) none (some (-1)) = some (.tuple (xs.dropLast.map f)) := by
  rw [dCut_t, cutD_init', List.map_dropLast]
theorem dCut_lmi (f : α → D) (xs : List α) : dCut (.list (xs.map f)) none (some (-1)) = some (.list (xs.dropLast.map f)) := by
  rw [dCut_l, cutD_init', List.map_dropLast]
theorem dRev_tm (f : α → D) (xs : List α) : dRev (.tuple (xs.map f)) = some (.tuple (xs.reverse.map f)) := by
  show some (PyData.tuple (xs.map f).reverse) = _
  rw [List.map_reverse]
theorem dRev_lm (f : α → D) (xs : List α) : dRev (.list (xs.map f)) = some (.list (xs.reverse.map f)) := by
  show some (PyData.list (xs.map f).reverse) = _
  rw [List.map_reverse]
theorem dAdd_tm (h : xs.length + ys.length ≤ 100000) : dAdd (.tuple (xs.map f)) (.tuple (ys.map f)) = some (.tuple ((xs ++ ys).map f)) := by
  rw [dAdd_tt (by rw [List.length_map, List.length_map]; exact h), List.map_append]
theorem dAdd_lm (h : xs.length + ys.length ≤ 100000) : dAdd (.list (xs.map f)) (.list (ys.map f)) = some (.list ((xs ++ ys).map f)) := by
  rw [dAdd_l (by rw [List.length_map, List.length_map, sizeLine_eq]; omega), List.map_append]
section
variable {γ : Type} {hh : D → Rho → Option Rho} {body : Rho → M Out} {ρ : Rho} {fo : Out → M γ} {r : M γ}
theorem forD_pre (f : α → D) (I : List α → Rho → Prop) (xs : List α) : ∀ (post pre : List α) (ρ : Rho), xs = pre ++ post → I pre ρ → (∀ pre x post, xs = pre ++ x :: post → ∀ ρ, I pre ρ → ∃ ρ1 ρ2, hh (f x) ρ = some ρ1 ∧ body ρ1 = ret (.nx ρ2) ∧ I (pre ++ [x]) ρ2) → ∃ ρ', forD hh body (post.map f) ρ = ret (.nx ρ') ∧ I xs ρ'
  | [], pre, ρ, e, i, _ => ⟨ρ, rfl, by rw [e, List.append_nil]; exact i⟩
  | x :: post, pre, ρ, e, i, h => by
    obtain ⟨ρ1, ρ2, h1, h2, h3⟩ := h pre x post e ρ i
    obtain ⟨ρ', e', i'⟩ := forD_pre f I xs post (pre ++ [x]) ρ2 (by rw [e, List.append_assoc]; rfl) h3 h
    exact ⟨ρ', by rw [List.map_cons, forD_step h1 h2]; exact e', i'⟩
/-- a loop, by what has been walked -/
theorem for_pre (f : α → D) (I : List α → Rho → Prop) (xs : List α) (h0 : I [] ρ) (h : ∀ pre x post, xs = pre ++ x :: post → ∀ ρ, I pre ρ → ∃ ρ1 ρ2, hh (f x) ρ = some ρ1 ∧ body ρ1 = ret (.nx ρ2) ∧ I (pre ++ [x]) ρ2) (k : ∀ ρ', I xs ρ' → fo (.nx ρ') = r) : bnd (forD hh body (xs.map f) ρ) fo = r := by
  obtain ⟨ρ', e, i⟩ := forD_pre f I xs xs [] ρ rfl h0 h
  rw [e, bnd_ret]
  exact k ρ' i
theorem range_pre {n i : Nat} {pre post : List Nat} (e : List.range n = pre ++ i :: post) : i < n ∧ pre = List.range i := by
  have hl : (List.range n).length = pre.length + (post.length + 1) := by rw [e, List.length_append, List.length_cons]
  rw [List.length_range] at hl
  have h1 : (List.range n)[pre.length]? = some i := by rw [e, List.getElem?_append_right (Nat.le_refl _), Nat.sub_self]; rfl
  rw [List.getElem?_range (by omega)] at h1
  have h2 : pre.length = i := Option.some.inj h1
  refine ⟨by omega, ?_⟩
  have h3 : pre = (List.range n).take pre.length := by rw [e, List.take_left]
  rw [h3, List.take_range, h2, Nat.min_eq_left (by omega)]
/-- a loop, by how many turns are done -/
theorem for_ix (f : Nat → D) (I : Nat → Rho → Prop) (n : Nat) (h0 : I 0 ρ) (h : ∀ i, i < n → ∀ ρ, I i ρ → ∃ ρ1 ρ2, hh (f i) ρ = some ρ1 ∧ body ρ1 = ret (.nx ρ2) ∧ I (i + 1) ρ2) (k : ∀ ρ', I n ρ' → fo (.nx ρ') = r) : bnd (forD hh body ((List.range n).map f) ρ) fo = r :=
  for_pre f (fun pre ρ => I pre.length ρ) (List.range n) h0 (fun pre i post e ρ hi => by
    obtain ⟨h1, h2⟩ := range_pre e
    have hl : pre.length = i := by rw [h2, List.length_range]
    obtain ⟨ρ1, ρ2, a, b, c⟩ := h i h1 ρ (by rw [← hl]; exact hi)
    exact ⟨ρ1, ρ2, a, b, by rw [List.length_append, hl]; exact c⟩) fun ρ' i => k ρ' (by rw [List.length_range] at i; exact i)
theorem forD_find (f : α → D) (I : Rho → Prop) (p : α → Option D) : ∀ (xs : List α) (ρ : Rho), I ρ → (∀ x ∈ xs, ∀ ρ, I ρ → ∃ ρ1, hh (f x) ρ = some ρ1 ∧ match p x with
      | some d => body ρ1 = ret (.rt d)
      | none => ∃ ρ2, body ρ1 = ret (.nx ρ2) ∧ I ρ2) → match xs.findSome? p with
    | some d => forD hh body (xs.map f) ρ = ret (.rt d)
    | none => ∃ ρ', forD hh body (xs.map f) ρ = ret (.nx ρ') ∧ I ρ'
  | [], ρ, i, _ => ⟨ρ, rfl, i⟩
  | x :: xs, ρ, i, h => by
    obtain ⟨ρ1, h1, h2⟩ := h x List.mem_cons_self ρ i
    have ih := fun ρ2 i2 => forD_find f I p xs ρ2 i2 fun y hy => h y (List.mem_cons_of_mem _ hy)
    have e : forD hh body ((x :: xs).map f) ρ = bnd (lift (hh (f x) ρ)) fun ρ1 => bnd (body ρ1) fun o => match o with
      | .nx ρ2 => forD hh body (xs.map f) ρ2
      | .ct ρ2 => forD hh body (xs.map f) ρ2
      | .bk ρ2 => ret (.nx ρ2)
      | .rt d => ret (.rt d) := rfl
    rw [List.findSome?_cons]
    cases hp : p x with
    | some d =>
      rw [hp] at h2
      show forD hh body ((x :: xs).map f) ρ = ret (.rt d)
      have h2 : body ρ1 = ret (.rt d) := h2
      rw [e, h1, lift_some, bnd_ret, h2, bnd_ret]
    | none =>
      rw [hp] at h2
      obtain ⟨ρ2, h3, h4⟩ : ∃ ρ2, body ρ1 = ret (.nx ρ2) ∧ I ρ2 := h2
      have ih := ih ρ2 h4
      rw [forD_step h1 h3 |> fun z => show forD hh body ((x :: xs).map f) ρ = forD hh body (xs.map f) ρ2 from z]
      exact ih
/-- a loop that ends with the first hit -/
theorem for_find (f : α → D) (I : Rho → Prop) (p : α → Option D) (xs : List α) (h0 : I ρ) (h : ∀ x ∈ xs, ∀ ρ, I ρ → ∃ ρ1, hh (f x) ρ = some ρ1 ∧ match p x with
      | some d => body ρ1 = ret (.rt d)
      | none => ∃ ρ2, body ρ1 = ret (.nx ρ2) ∧ I ρ2) (k : match xs.findSome? p with
    | some d => fo (.rt d) = r
    | none => ∀ ρ', I ρ' → fo (.nx ρ') = r) : bnd (forD hh body (xs.map f) ρ) fo = r := by
  have q := forD_find f I p xs ρ h0 h
  cases e : xs.findSome? p with
  | some d =>
    rw [e] at q k
    have q : forD hh body (xs.map f) ρ = ret (.rt d) := q
    rw [q, bnd_ret]
    exact k
  | none =>
    rw [e] at q k
    obtain ⟨ρ', e', i⟩ := q
    rw [e', bnd_ret]
    exact k ρ' i
end
theorem rangeD_map (lo : Int) (n : Nat) : rangeD lo n = ((List.range n).map fun i => lo + ((i : Nat) : Int)).map PyData.int := by unfold rangeD; rw [List.map_map]; rfl
theorem rangeD_0 (n : Nat) : rangeD 0 n = (List.range n).map fun i : Nat => PyData.int (i : Int) := by
  unfold rangeD
  refine List.map_congr_left fun i _ => ?_
  rw [Int.zero_add]
theorem rgD_nat {n : Nat} (h : n ≤ 1000000) : rgD 0 (n : Int) = ret ((List.range n).map fun i : Nat => PyData.int (i : Int)) := by
  unfold rgD
  rw [if_pos ⟨⟨by decide, by decide⟩, ⟨by omega, by omega⟩, by omega⟩, Int.sub_zero, Int.toNat_natCast, rangeD_0]
end
theorem mkTn0 : mkT [] = ret (.tuple []) := (rfl)
theorem mkTn1 (a : D) : mkT [a] = ret (.tuple [a]) := (rfl)
theorem mkTn2 (a b : D) : mkT [a, b] = ret (.tuple [a, b]) := (rfl)
theorem mkTn3 (a b c : D) : mkT [a, b, c] = ret (.tuple [a, b, c]) := (rfl)
theorem mkTn4 (a b c d : D) : mkT [a, b, c, d] = ret (.tuple [a, b, c, d]) := (rfl)
theorem mkTn5 (a b c d e : D) : mkT [a, b, c, d, e] = ret (.tuple [a, b, c, d, e]) := (rfl)
theorem mkTn6 (a b c d e f : D) : mkT [a, b, c, d, e, f] = ret (.tuple [a, b, c, d, e, f]) := (rfl)
theorem mkTn7 (a b c d e f g : D) : mkT [a, b, c, d, e, f, g] = ret (.tuple [a, b, c, d, e, f, g]) := (rfl)
theorem mkTn8 (a b c d e f g h : D) : mkT [a, b, c, d, e, f, g, h] = ret (.tuple [a, b, c, d, e, f, g, h]) := (rfl)
theorem mkLn0 : mkL [] = ret (.list []) := (rfl)
theorem mkLn1 (a : D) : mkL [a] = ret (.list [a]) := (rfl)
theorem mkLn2 (a b : D) : mkL [a, b] = ret (.list [a, b]) := (rfl)
theorem mkLn3 (a b c : D) : mkL [a, b, c] = ret (.list [a, b, c]) := (rfl)
theorem mkLn4 (a b c d : D) : mkL [a, b, c, d] = ret (.list [a, b, c, d]) := (rfl)
theorem mkLn5 (a b c d e : D) : mkL [a, b, c, d, e] = ret (.list [a, b, c, d, e]) := (rfl)
theorem mkLn6 (a b c d e f : D) : mkL [a, b, c, d, e, f] = ret (.list [a, b, c, d, e, f]) := (rfl)
theorem mkLn7 (a b c d e f g : D) : mkL [a, b, c, d, e, f, g] = ret (.list [a, b, c, d, e, f, g]) := (rfl)
theorem mkLn8 (a b c d e f g h : D) : mkL [a, b, c, d, e, f, g, h] = ret (.list [a, b, c, d, e, f, g, h]) := (rfl)
theorem mkLn9 (a b c d e f g h i : D) : mkL [a, b, c, d, e, f, g, h, i] = ret (.list [a, b, c, d, e, f, g, h, i]) := (rfl)
theorem mkLn10 (a b c d e f g h i j : D) : mkL [a, b, c, d, e, f, g, h, i, j] = ret (.list [a, b, c, d, e, f, g, h, i, j]) := (rfl)
theorem mkLn11 (a b c d e f g h i j k : D) : mkL [a, b, c, d, e, f, g, h, i, j, k] = ret (.list [a, b, c, d, e, f, g, h, i, j, k]) := (rfl)
theorem mkLn12 (a b c d e f g h i j k l : D) : mkL [a, b, c, d, e, f, g, h, i, j, k, l] = ret (.list [a, b, c, d, e, f, g, h, i, j, k, l]) := (rfl)
theorem mkLn13 (a b c d e f g h i j k l m : D) : mkL [a, b, c, d, e, f, g, h, i, j, k, l, m] = ret (.list [a, b, c, d, e, f, g, h, i, j, k, l, m]) := (rfl)
theorem mkLn14 (a b c d e f g h i j k l m n : D) : mkL [a, b, c, d, e, f, g, h, i, j, k, l, m, n] = ret (.list [a, b, c, d, e, f, g, h, i, j, k, l, m, n]) := (rfl)
theorem mkLn15 (a b c d e f g h i j k l m n o : D) : mkL [a, b, c, d, e, f, g, h, i, j, k, l, m, n, o] = ret (.list [a, b, c, d, e, f, g, h, i, j, k, l, m, n, o]) := (rfl)
theorem mkLn16 (a b c d e f g h i j k l m n o p : D) : mkL [a, b, c, d, e, f, g, h, i, j, k, l, m, n, o, p] = ret (.list [a, b, c, d, e, f, g, h, i, j, k, l, m, n, o, p]) := (rfl)
/-- a comprehension without a test, whose items draw -/
theorem Hit.lcDA {α : Type} {f : α → D} {hh : D → Rho → Option Rho} {tt : Rho → M Bool} {fe : Rho → M D} {ρ : Rho} {I : DS → Prop} {R : α → D → Prop} : ∀ {xs : List α}, (∀ x ∈ xs, ∀ s, I s → ∃ ρ1, hh (f x) ρ = some ρ1 ∧ tt ρ1 = DV.ret true ∧ Hit (fe ρ1) s fun d s2 => I s2 ∧ R x d) → ∀ s, I s → Hit (DV.lcD hh tt fe ρ (xs.map f)) s fun es s' => I s' ∧ Paired R xs es
  | [], _, s, i => Hit.ret ⟨i, .nil⟩
  | x :: xs, h, s, i => by
    obtain ⟨ρ1, e1, e2, d, s2, e3, i2, r⟩ := h x List.mem_cons_self s i
    have e : DV.lcD hh tt fe ρ (f x :: xs.map f) = DV.bnd (lift (hh (f x) ρ)) fun ρ1 => DV.bnd (nox (tt ρ1)) fun c => if c = true then DV.bnd (nox (fe ρ1)) fun e => DV.bnd (DV.lcD hh tt fe ρ (xs.map f)) fun es => DV.ret (e :: es) else DV.lcD hh tt fe ρ (xs.map f) := rfl
    rw [List.map_cons, e, e1, lift_some, bnd_ret, e2, nox_ret, bnd_ret, if_tt]
    have ih := Hit.lcDA (I := I) (R := R) (xs := xs) (fun d' hd' => h d' (List.mem_cons_of_mem _ hd')) s2 i2
    exact Hit.bnd ⟨d, s2, nox_at e3, Hit.bnd (ih.imp fun es s' ⟨j, pr⟩ => Hit.ret ⟨j, .cons r pr⟩)⟩
theorem Hit.lcA {α : Type} {hh : D → Rho → Option Rho} {tt : Rho → M Bool} {fe : Rho → M D} {fi : Rho → M (List D)} {vs : List Nat} {ρ : Rho} {s : DS} {I : DS → Prop} (xs : List α) (f : α → D) (R : α → D → Prop) (hfi : fi ρ = DV.ret (xs.map f)) (hl : xs.length ≤ 16000000) (i : I s) (h : ∀ x ∈ xs, ∀ s, I s → ∃ ρ1, hh (f x) (wipeR ρ vs) = some ρ1 ∧ tt ρ1 = DV.ret true ∧ Hit (fe ρ1) s fun d s2 => I s2 ∧ R x d) : Hit (DV.lcF fi hh tt fe vs ρ) s fun es s' => I s' ∧ Paired R xs es := by
  rw [lcF_ok hfi (by rw [List.length_map]; exact hl)]
  exact Hit.lcDA h s i
theorem paired_ex {α β : Type} {g : β → D} {P : β → Prop} : ∀ {xs : List α} {es : List D}, Paired (fun _ d => ∃ b, P b ∧ d = g b) xs es → ∃ bs : List β, es = bs.map g ∧ bs.length = xs.length ∧ ∀ b ∈ bs, P b
  | _, _, .nil => ⟨[], rfl, rfl, fun _ h => nomatch h⟩
  | _, _, .cons h t => by
    obtain ⟨b, hb, rfl⟩ := h
    obtain ⟨bs, rfl, hl, hp⟩ := paired_ex t
    refine ⟨b :: bs, rfl, by rw [List.length_cons, List.length_cons, hl], fun c hc => ?_⟩
    rcases List.mem_cons.mp hc with rfl | hc
    · exact hb
    · exact hp c hc
/-- a loop that neither draws nor ends early -/
theorem Hit.forInv {hh : D → Rho → Option Rho} {body : Rho → M Out} {ρ : Rho} {s : DS} (I : Rho → Prop) (ds : List D) (h0 : I ρ) (h : ∀ d ∈ ds, ∀ ρ, I ρ → ∃ ρ1 ρ2, hh d ρ = some ρ1 ∧ body ρ1 = DV.ret (.nx ρ2) ∧ I ρ2) : Hit (forD hh body ds ρ) s fun o s' => s' = s ∧ ∃ ρ', o = .nx ρ' ∧ I ρ' := by
  obtain ⟨ρ', e, i⟩ := forD_inv ds h ρ h0
  exact Hit.of_ret e ⟨rfl, ρ', rfl, i⟩
theorem for_inv {γ : Type} {hh : D → Rho → Option Rho} {body : Rho → M Out} {ρ : Rho} {fo : Out → M γ} {r : M γ} (I : Rho → Prop) (ds : List D) (h0 : I ρ) (h : ∀ d ∈ ds, ∀ ρ, I ρ → ∃ ρ1 ρ2, hh d ρ = some ρ1 ∧ body ρ1 = ret (.nx ρ2) ∧ I ρ2) (k : ∀ ρ', I ρ' → fo (.nx ρ') = r) : bnd (forD hh body ds ρ) fo = r := by
  obtain ⟨ρ', e, i⟩ := forD_inv ds h ρ h0
  rw [e, bnd_ret]
  exact k ρ' i
theorem dMin_2 (i j : Int) : dMin [.int i, .int j] = some (.int (min i j)) := by
  show some (PyData.int (if j < i then j else i)) = _
  rw [show (if j < i then j else i) = min i j by split <;> omega]
theorem dMax_2 (i j : Int) : dMax [.int i, .int j] = some (.int (max i j)) := by
  show some (PyData.int (if j > i then j else i)) = _
  rw [show (if j > i then j else i) = max i j by split <;> omega]
theorem dMul_tn {ds : List D} {k : Nat} (h : ds ≠ []) (h1 : k ≤ 1000) (h2 : ds.length ≤ 1000) : dMul (.tuple ds) (.int (k : Nat)) = some (.tuple (List.replicate k ds).flatten) := by
  refine (iteP_pos ⟨h, by omega, by omega, h2⟩).trans ?_
  unfold repD
  rw [Int.toNat_natCast]
theorem dMul_t1 {d : D} {k : Nat} (h1 : k ≤ 1000) : dMul (.tuple [d]) (.int (k : Nat)) = some (.tuple (List.replicate k d)) := by
  rw [dMul_tn (by simp) h1 (by simp)]
  congr 2
  induction k with
  | zero => rfl
  | succ k ih => rw [List.replicate_succ, List.flatten_cons, ih (by omega), List.replicate_succ]; rfl
end DV

set_option Elab.async false
set_option linter.all false
set_option maxRecDepth 100000
set_option maxHeartbeats 4000000
namespace DV
open PySem PySem.Spec PyProof.Rows L2 HdL
theorem run_still (v0 : Sl) : F_still [v0] = bnd (pk_still.1 [some v0]) fin := (rfl)
theorem run_done (v0 v1 : Sl) : F_done [v0, v1] = bnd (pk_done.1 [some v0, some v1, none]) fin := (rfl)
theorem run_undone (v0 : Sl) : F_undone [v0] = bnd (pk_undone.1 [some v0, none, none, none]) fin := (rfl)
theorem run_rounds (v0 : Sl) : F_rounds [v0] = bnd (pk_rounds.1 [some v0, none, none, none, none, none, none]) fin := (rfl)
theorem run_power (v0 v1 : Sl) : F_power [v0, v1] = bnd (pk_power.1 [some v0, some v1, none, none, none, none]) fin := (rfl)
theorem run_kind_of (v0 : Sl) : F_kind_of [v0] = bnd (pk_kind_of.1 [some v0, none]) fin := (rfl)
theorem run_common_divisor (v0 v1 : Sl) : F_common_divisor [v0, v1] = bnd (pk_common_divisor.1 [some v0, some v1]) fin := (rfl)
theorem run_turn_number (v0 : Sl) : F_turn_number [v0] = bnd (pk_turn_number.1 [some v0, none, none]) fin := (rfl)
theorem run_is_even (v0 : Sl) : F_is_even [v0] = bnd (pk_is_even.1 [some v0]) fin := (rfl)
theorem run__law_take (v0 v1 : Sl) : F__law_take [v0, v1] = bnd (pk__law_take.1 [some v0, some v1]) fin := (rfl)
theorem run__law_same (m : Nat) (v0 v1 : Sl) : F__law_same (m + 1) [v0, v1] = bnd (pk__law_same.1 (F__law_same m) [some v0, some v1, none]) fin := (rfl)
theorem run__law_order (v0 v1 : Sl) : F__law_order [v0, v1] = bnd (pk__law_order.1 [some v0, some v1, none, none, none, none, none, none, none, none, none]) fin := (rfl)
theorem run__law_rounds (v0 : Sl) : F__law_rounds [v0] = bnd (pk__law_rounds.1 [some v0, none, none, none, none]) fin := (rfl)
theorem run__law_kind (v0 : Sl) : F__law_kind [v0] = bnd (pk__law_kind.1 [some v0, none]) fin := (rfl)
theorem run__law_is_even (v0 : Sl) : F__law_is_even [v0] = bnd (pk__law_is_even.1 [some v0, none, none, none]) fin := (rfl)
theorem draws_math (ns : List Int) (hn : ns.length ≤ 63) : Hit (pk__law_draws.1 (rhoD 5 ns)) (.b []) fun o _ => ∃ xs : List Int, o = .rt (.list (xs.map PyData.int)) ∧ ∀ z ∈ xs, 0 ≤ z := by
  have mul : ∀ i b : Int, 0 ≤ b → b ≤ 100000 → dMul (.int i) (.int b) = some (.int (i * b)) := fun i b h h2 => dMul_i (CMul.ok (.inr ⟨by omega, by omega⟩))
  have k1 : ∀ i : Int, dMul (.int i) (.int 48271) = some (.int (i * 48271)) := fun i => mul i _ (by decide) (by decide)
  have k2 : ∀ i : Int, dMul (.int i) (.int 69621) = some (.int (i * 69621)) := fun i => mul i _ (by decide) (by decide)
  have m1 : ∀ i : Int, dMod (.int i) (.int 2147483647) = some (.int (i % 2147483647)) := fun i => dMod_i (by decide)
  have m2 : ∀ i : Int, dMod (.int i) (.int 2147483629) = some (.int (i % 2147483629)) := fun i => dMod_i (by decide)
  have m3 : ∀ i : Int, dMod (.int i) (.int 1000003) = some (.int (i % 1000003)) := fun i => dMod_i (by decide)
  have m4 : ∀ i : Int, dMod (.int i) (.int 997) = some (.int (i % 997)) := fun i => dMod_i (by decide)
  have f1 : ∀ i : Int, dFdiv (.int i) (.int 7) = some (.int (i / 7)) := fun i => dFdiv_i (by decide) (by decide)
  have f2 : ∀ i : Int, dFdiv (.int i) (.int 997) = some (.int (i / 997)) := fun i => dFdiv_i (by decide) (by decide)
  have f3 : ∀ i : Int, dFdiv (.int i) (.int 5) = some (.int (i / 5)) := fun i => dFdiv_i (by decide) (by decide)
  have r60 : rng1 [.int 60] = ret (rangeD 0 60) := rng_nat (n := 60) (by decide)
  have r900 : rng1 [.int 900] = ret (rangeD 0 900) := rng_nat (n := 900) (by decide)
  have sn : ∀ {xs : List Int} {z : Int}, (∀ z ∈ xs, 0 ≤ z) → 0 ≤ z → ∀ y ∈ xs ++ [z], 0 ≤ y := fun h h0 y hy => by
    rcases List.mem_append.mp hy with hy | hy
    · exact h y hy
    · rw [List.mem_singleton.mp hy]; exact h0
  unfold pk__law_draws rhoD
  simp only [seqS_eq, bndr, bndb, slot0, slotS, slotW0, slotW0o, slotWS, slotD0, slotDS, ownS0, ownSS, frz_v, frz_o, frz_d, frz_n, frz_nil, lift_some, toB_bool, truth_bool, itemsD_l, itemsD_t, setV_eq, List.set_cons_zero, List.set_cons_succ, if_true, if_false, Bool.false_eq_true, Bool.not_false, Bool.not_true, Bool.true_and, Bool.and_true, dAdd_i, dSub_i, dLe_i, dLt_i, dLtD_i, dLeD_i, dGtD_i, dGeD_i, isI_ii, isI_bi, setIm, setVm, setIx, tupM, Option.bind_some, seqT_t, slotSc0, slotScS]
  refine Hit.bnd (Hit.imp (Hit.for_ (fun k ρ s => ∃ a b c d e xs, ρ = [some (.scr ns), some .drw, a, b, c, d, e] ∧ s = .b xs ∧ (∀ z ∈ xs, 0 ≤ z) ∧ xs.length + k * 70 ≤ 10000) ns.length (by rw [List.length_map]) ⟨none, none, none, none, none, [], rfl, rfl, fun _ h => (nomatch h), by simp only [List.length_nil]; omega⟩ ?_) ?_)
  · intro d hd k ρ s ⟨a, b, c, d', e, xs, hρ, hs, hx, hl⟩
    obtain ⟨z, _, rfl⟩ := List.mem_map.mp hd
    subst hρ
    subst hs
    refine ⟨_, rfl, ?_⟩
    have hz : 0 ≤ absZ z := absZ_nn z
    simp only [seqS_eq, bndr, bndb, slot0, slotS, slotW0, slotW0o, slotWS, slotD0, slotDS, ownS0, ownSS, frz_v, frz_o, frz_d, frz_n, frz_nil, lift_some, toB_bool, truth_bool, itemsD_l, itemsD_t, setV_eq, List.set_cons_zero, List.set_cons_succ, if_true, if_false, Bool.false_eq_true, Bool.not_false, Bool.not_true, Bool.true_and, Bool.and_true, dAdd_i, dSub_i, dLe_i, dLt_i, dLtD_i, dLeD_i, dGtD_i, dGeD_i, isI_ii, isI_bi, setIm, setVm, setIx, tupM, Option.bind_some, seqT_t, slotSc0, slotScS, dAbs_i, p18]
    refine Hit.bnd (Hit.imp (P := fun o s => ∃ n c' ys, o = .nx [some (.scr ns), some .drw, some (.val (.int z)), some (.val (.int n)), c', d', e] ∧ 0 ≤ n ∧ s = .b ys ∧ (∀ z ∈ ys, 0 ≤ z) ∧ ys.length + (k + 1) * 70 ≤ 10000 + 2) ?_ ?_)
    · by_cases h : absZ z < 1000000000000000000
      · rw [decide_eq_true h]
        simp only [seqS_eq, bndr, bndb, slot0, slotS, slotW0, slotW0o, slotWS, slotD0, slotDS, ownS0, ownSS, frz_v, frz_o, frz_d, frz_n, frz_nil, lift_some, toB_bool, truth_bool, itemsD_l, itemsD_t, setV_eq, List.set_cons_zero, List.set_cons_succ, if_true, if_false, Bool.false_eq_true, Bool.not_false, Bool.not_true, Bool.true_and, Bool.and_true, dAdd_i, dSub_i, dLe_i, dLt_i, dLtD_i, dLeD_i, dGtD_i, dGeD_i, isI_ii, isI_bi, setIm, setVm, setIx, tupM, Option.bind_some, seqT_t, slotSc0, slotScS, k1, k2, dInt_i, m1, m2]
        refine Hit.app (by omega) (Int.emod_nonneg _ (by decide)) ?_
        simp only [seqS_eq, bndr, bndb, slot0, slotS, slotW0, slotW0o, slotWS, slotD0, slotDS, ownS0, ownSS, frz_v, frz_o, frz_d, frz_n, frz_nil, lift_some, toB_bool, truth_bool, itemsD_l, itemsD_t, setV_eq, List.set_cons_zero, List.set_cons_succ, if_true, if_false, Bool.false_eq_true, Bool.not_false, Bool.not_true, Bool.true_and, Bool.and_true, dAdd_i, dSub_i, dLe_i, dLt_i, dLtD_i, dLeD_i, dGtD_i, dGeD_i, isI_ii, isI_bi, setIm, setVm, setIx, tupM, Option.bind_some, seqT_t, slotSc0, slotScS, f1, dInt_i, m3]
        refine Hit.app (by rw [List.length_append]; show xs.length + 1 < _; omega) (Int.emod_nonneg _ (by decide)) ?_
        refine Hit.ret ⟨0, _, _, rfl, Int.le_refl _, rfl, sn (sn hx (Int.emod_nonneg _ (by decide))) (Int.emod_nonneg _ (by decide)), ?_⟩
        rw [List.length_append, List.length_append]
        show xs.length + 1 + 1 + _ ≤ _
        omega
      · rw [decide_eq_false h]
        simp only [seqS_eq, bndr, bndb, slot0, slotS, slotW0, slotW0o, slotWS, slotD0, slotDS, ownS0, ownSS, frz_v, frz_o, frz_d, frz_n, frz_nil, lift_some, toB_bool, truth_bool, itemsD_l, itemsD_t, setV_eq, List.set_cons_zero, List.set_cons_succ, if_true, if_false, Bool.false_eq_true, Bool.not_false, Bool.not_true, Bool.true_and, Bool.and_true, dAdd_i, dSub_i, dLe_i, dLt_i, dLtD_i, dLeD_i, dGtD_i, dGeD_i, isI_ii, isI_bi, setIm, setVm, setIx, tupM, Option.bind_some, seqT_t]
        exact Hit.ret ⟨absZ z, c, xs, rfl, hz, rfl, hx, by omega⟩
    · rintro o s' ⟨n, c', ys, rfl, hn0, rfl, hy, hl2⟩
      simp only [r60, bndr]
      refine Hit.imp (Hit.for_ (fun j ρ s => ∃ n a xs, ρ = [some (.scr ns), some .drw, some (.val (.int z)), some (.val (.int n)), c', a, e] ∧ 0 ≤ n ∧ s = .b xs ∧ (∀ z ∈ xs, 0 ≤ z) ∧ xs.length + j + 8 + k * 70 ≤ 10000) 60 (by unfold rangeD; rw [List.length_map, List.length_range]) ⟨n, d', ys, rfl, hn0, rfl, hy, by omega⟩ ?_) ?_
      · rintro w hw j ρ s ⟨n, a, xs, rfl, hn0, rfl, hx, hl⟩
        refine ⟨_, rfl, ?_⟩
        simp only [seqS_eq, bndr, bndb, slot0, slotS, slotW0, slotW0o, slotWS, slotD0, slotDS, ownS0, ownSS, frz_v, frz_o, frz_d, frz_n, frz_nil, lift_some, toB_bool, truth_bool, itemsD_l, itemsD_t, setV_eq, List.set_cons_zero, List.set_cons_succ, if_true, if_false, Bool.false_eq_true, Bool.not_false, Bool.not_true, Bool.true_and, Bool.and_true, dAdd_i, dSub_i, dLe_i, dLt_i, dLtD_i, dLeD_i, dGtD_i, dGeD_i, isI_ii, isI_bi, setIm, setVm, setIx, tupM, Option.bind_some, seqT_t, dGt_i]
        by_cases h : n > 0
        · rw [decide_eq_true h]
          simp only [seqS_eq, bndr, bndb, slot0, slotS, slotW0, slotW0o, slotWS, slotD0, slotDS, ownS0, ownSS, frz_v, frz_o, frz_d, frz_n, frz_nil, lift_some, toB_bool, truth_bool, itemsD_l, itemsD_t, setV_eq, List.set_cons_zero, List.set_cons_succ, if_true, if_false, Bool.false_eq_true, Bool.not_false, Bool.not_true, Bool.true_and, Bool.and_true, dAdd_i, dSub_i, dLe_i, dLt_i, dLtD_i, dLeD_i, dGtD_i, dGeD_i, isI_ii, isI_bi, setIm, setVm, setIx, tupM, Option.bind_some, seqT_t, dInt_i, m4]
          refine Hit.app (by omega) (Int.emod_nonneg _ (by decide)) ?_
          simp only [seqS_eq, bndr, bndb, slot0, slotS, slotW0, slotW0o, slotWS, slotD0, slotDS, ownS0, ownSS, frz_v, frz_o, frz_d, frz_n, frz_nil, lift_some, toB_bool, truth_bool, itemsD_l, itemsD_t, setV_eq, List.set_cons_zero, List.set_cons_succ, if_true, if_false, Bool.false_eq_true, Bool.not_false, Bool.not_true, Bool.true_and, Bool.and_true, dAdd_i, dSub_i, dLe_i, dLt_i, dLtD_i, dLeD_i, dGtD_i, dGeD_i, isI_ii, isI_bi, setIm, setVm, setIx, tupM, Option.bind_some, seqT_t, f2]
          refine Hit.ret ⟨_, rfl, n / 997, _, _, rfl, Int.ediv_nonneg hn0 (by decide), rfl, sn hx (Int.emod_nonneg _ (by decide)), ?_⟩
          rw [List.length_append]
          show xs.length + 1 + _ + _ + _ ≤ _
          omega
        · rw [decide_eq_false h]
          simp only [seqS_eq, bndr, bndb, slot0, slotS, slotW0, slotW0o, slotWS, slotD0, slotDS, ownS0, ownSS, frz_v, frz_o, frz_d, frz_n, frz_nil, lift_some, toB_bool, truth_bool, itemsD_l, itemsD_t, setV_eq, List.set_cons_zero, List.set_cons_succ, if_true, if_false, Bool.false_eq_true, Bool.not_false, Bool.not_true, Bool.true_and, Bool.and_true, dAdd_i, dSub_i, dLe_i, dLt_i, dLtD_i, dLeD_i, dGtD_i, dGeD_i, isI_ii, isI_bi, setIm, setVm, setIx, tupM, Option.bind_some, seqT_t]
          exact Hit.ret ⟨_, rfl, n, _, xs, rfl, hn0, rfl, hx, by omega⟩
      · rintro o s' ⟨ρ', rfl, n, a, xs, rfl, hn0, rfl, hx, hl⟩
        exact ⟨_, rfl, _, _, _, _, _, xs, rfl, rfl, hx, by omega⟩
  · intro o s' ⟨ρ', ho, a, b, c, d, e, xs, hρ, hs, hx, hl⟩
    subst ho
    subst hρ
    subst hs
    simp only [seqS_eq, bndr, bndb, slot0, slotS, slotW0, slotW0o, slotWS, slotD0, slotDS, ownS0, ownSS, frz_v, frz_o, frz_d, frz_n, frz_nil, lift_some, toB_bool, truth_bool, itemsD_l, itemsD_t, setV_eq, List.set_cons_zero, List.set_cons_succ, if_true, if_false, Bool.false_eq_true, Bool.not_false, Bool.not_true, Bool.true_and, Bool.and_true, dAdd_i, dSub_i, dLe_i, dLt_i, dLtD_i, dLeD_i, dGtD_i, dGeD_i, isI_ii, isI_bi, setIm, setVm, setIx, tupM, Option.bind_some, seqT_t, slotSc0, slotScS, dGt_i, slotD0, slotDS]
    refine Hit.bnd (Hit.imp (P := fun o s => ∃ n, o = .nx [some (.scr ns), some .drw, a, b, c, d, some (.val (.int n))] ∧ s = .b xs) ?_ ?_)
    · by_cases h : (ns.length : Int) > 0
      · rw [decide_eq_true h]
        obtain ⟨z, ez⟩ := atI_in (cells := ns) (k := 0) (Int.le_refl _) h
        simp only [ez, seqS_eq, bndr, bndb, slot0, slotS, slotW0, slotW0o, slotWS, slotD0, slotDS, ownS0, ownSS, frz_v, frz_o, frz_d, frz_n, frz_nil, lift_some, toB_bool, truth_bool, itemsD_l, itemsD_t, setV_eq, List.set_cons_zero, List.set_cons_succ, if_true, if_false, Bool.false_eq_true, Bool.not_false, Bool.not_true, Bool.true_and, Bool.and_true, dAdd_i, dSub_i, dLe_i, dLt_i, dLtD_i, dLeD_i, dGtD_i, dGeD_i, isI_ii, isI_bi, setIm, setVm, setIx, tupM, Option.bind_some, seqT_t, dAbs_i]
        exact Hit.ret ⟨_, rfl, rfl⟩
      · rw [decide_eq_false h]
        simp only [seqS_eq, bndr, bndb, slot0, slotS, slotW0, slotW0o, slotWS, slotD0, slotDS, ownS0, ownSS, frz_v, frz_o, frz_d, frz_n, frz_nil, lift_some, toB_bool, truth_bool, itemsD_l, itemsD_t, setV_eq, List.set_cons_zero, List.set_cons_succ, if_true, if_false, Bool.false_eq_true, Bool.not_false, Bool.not_true, Bool.true_and, Bool.and_true, dAdd_i, dSub_i, dLe_i, dLt_i, dLtD_i, dLeD_i, dGtD_i, dGeD_i, isI_ii, isI_bi, setIm, setVm, setIx, tupM, Option.bind_some, seqT_t]
        exact Hit.ret ⟨_, rfl, rfl⟩
    · rintro o s' ⟨n, rfl, rfl⟩
      simp only [r900, bndr]
      refine Hit.bnd (Hit.imp (Hit.for_ (fun j ρ s => ∃ n y xs, ρ = [some (.scr ns), some .drw, a, b, c, y, some (.val (.int n))] ∧ s = .b xs ∧ (∀ z ∈ xs, 0 ≤ z) ∧ xs.length + j ≤ 11000) 900 (by unfold rangeD; rw [List.length_map, List.length_range]) ⟨n, d, xs, rfl, rfl, hx, by omega⟩ ?_) ?_)
      · rintro w hw j ρ s ⟨n, y, xs, rfl, rfl, hx, hl⟩
        refine ⟨_, rfl, ?_⟩
        simp only [seqS_eq, bndr, bndb, slot0, slotS, slotW0, slotW0o, slotWS, slotD0, slotDS, ownS0, ownSS, frz_v, frz_o, frz_d, frz_n, frz_nil, lift_some, toB_bool, truth_bool, itemsD_l, itemsD_t, setV_eq, List.set_cons_zero, List.set_cons_succ, if_true, if_false, Bool.false_eq_true, Bool.not_false, Bool.not_true, Bool.true_and, Bool.and_true, dAdd_i, dSub_i, dLe_i, dLt_i, dLtD_i, dLeD_i, dGtD_i, dGeD_i, isI_ii, isI_bi, setIm, setVm, setIx, tupM, Option.bind_some, seqT_t, k1, dInt_i, m1, f3]
        have h0 : 0 ≤ (n * 48271 + 69621) % 2147483647 / 5 := Int.ediv_nonneg (Int.emod_nonneg _ (by decide)) (by decide)
        refine Hit.app0 (by omega) h0 ⟨_, rfl, _, _, _, rfl, rfl, sn hx h0, ?_⟩
        rw [List.length_append]
        show xs.length + 1 + _ ≤ _
        omega
      · rintro o s' ⟨ρ', rfl, n, y, xs, rfl, rfl, hx, hl⟩
        refine ⟨_, _, rfl, xs.reverse, rfl, fun z hz => hx z (List.mem_reverse.mp hz)⟩
theorem ok__law_draws {P : Program} {w : World} {K : PySem.W.Frag} {mg : Str → Option Value} {base : Heap} (Z : Fx faL fnL tfL exL K mg base) : HasS P w K mg base "_law_draws" ["script"] 1 (spDraws K) := by
  refine hasS_of Z 9 9 rfl rfl sc__law_draws (fun vs H Q E ⟨a, ns, e, _⟩ => by rw [e]; rfl) (fun _ _ _ _ _ _ us hl => match us, hl with | [_], _ => rfl) fun cdv hcd A outer s H vs Q E hr hsp => ?_
  obtain ⟨a, ns, rfl, hS, hn, q⟩ := hsp
  obtain ⟨t, pt, qt⟩ := pk__law_draws.2 (P := P) (w := w) Z cdv hcd A outer s H E hr
  refine ⟨_, pss_cons (ps_set (X := cx__law_draws P w K mg base cdv A outer s H E) (i := 1) nd__law_draws rfl (by first | exact Or.inl rfl | exact Or.inr rfl) (pe_lst pa_nil)) pt, ?_⟩
  refine ⟨Nat.zero_le _, fun D hD => ?_⟩
  refine qt (ghD D (upd H D (.lst []))) (.b []) (rhoD 5 ns) (fun _ => 0) _ _ _ (draws_rel hS hD rfl rfl) ?_
  obtain ⟨o, s', e, xs, rfl, hx⟩ := draws_math ns hn
  rw [e]
  intro v H2 w2 e2 av
  have av : At (⟨K, w⟩ : KW) (ghD D (upd H D (.lst []))).bad H2 v (.list (xs.map PyData.int)) := av
  cases av with
  | lst nb hv l =>
    rw [l.ints] at hv
    refine q H2 _ xs (fun b o hb => ?_) hv hx
    have k : b ≠ D := fun z => by rw [z, hD] at hb; cases hb
    exact e2.keep b o k (fun z => (nomatch z)) (by show upd H D (.lst []) b = _; rw [upd_ne k]; exact hb)
theorem take_ok {b : Int} {s : DS} (hb : 0 < b) (h : BOk s) : Hit (F__law_take [.drw, .val (.int b)]) s fun d s' => ∃ r, d = .int r ∧ 0 ≤ r ∧ r < b ∧ BOk s' := by
  obtain ⟨xs, rfl, hx⟩ := h
  unfold F__law_take
  rw [runB_eq _ _ _ [some .drw, some (.val (.int b))] rfl]
  unfold pk__law_take
  simp only [seqS_eq, bndr, bndb, slot0, slotS, slotW0, slotW0o, slotWS, slotD0, slotDS, ownS0, ownSS, frz_v, frz_o, frz_d, frz_n, frz_nil, lift_some, toB_bool, truth_bool, itemsD_l, itemsD_t, setV_eq, List.set_cons_zero, List.set_cons_succ, if_true, if_false, Bool.false_eq_true, Bool.not_false, Bool.not_true, Bool.true_and, Bool.and_true, dAdd_i, dSub_i, dLe_i, dLt_i, dLtD_i, dLeD_i, dGtD_i, dGeD_i, isI_ii, isI_bi, setIm, setVm, setIx, tupM, Option.bind_some, seqT_t]
  refine Hit.bnd (Hit.getB (Hit.ret ?_))
  simp only [seqS_eq, bndr, bndb, slot0, slotS, slotW0, slotW0o, slotWS, slotD0, slotDS, ownS0, ownSS, frz_v, frz_o, frz_d, frz_n, frz_nil, lift_some, toB_bool, truth_bool, itemsD_l, itemsD_t, setV_eq, List.set_cons_zero, List.set_cons_succ, if_true, if_false, Bool.false_eq_true, Bool.not_false, Bool.not_true, Bool.true_and, Bool.and_true, dAdd_i, dSub_i, dLe_i, dLt_i, dLtD_i, dLeD_i, dGtD_i, dGeD_i, isI_ii, isI_bi, setIm, setVm, setIx, tupM, Option.bind_some, seqT_t, dEq_i]
  by_cases c : (xs.length : Int) = 0
  · rw [c]
    simp only [beq_self_eq_true, seqS_eq, bndr, bndb, slot0, slotS, slotW0, slotW0o, slotWS, slotD0, slotDS, ownS0, ownSS, frz_v, frz_o, frz_d, frz_n, frz_nil, lift_some, toB_bool, truth_bool, itemsD_l, itemsD_t, setV_eq, List.set_cons_zero, List.set_cons_succ, if_true, if_false, Bool.false_eq_true, Bool.not_false, Bool.not_true, Bool.true_and, Bool.and_true, dAdd_i, dSub_i, dLe_i, dLt_i, dLtD_i, dLeD_i, dGtD_i, dGeD_i, isI_ii, isI_bi, setIm, setVm, setIx, tupM, Option.bind_some, seqT_t, fin_rt]
    exact Hit.ret ⟨0, rfl, Int.le_refl _, hb, xs, rfl, hx⟩
  · rw [beq_eq_false_iff_ne.mpr c]
    simp only [seqS_eq, bndr, bndb, slot0, slotS, slotW0, slotW0o, slotWS, slotD0, slotDS, ownS0, ownSS, frz_v, frz_o, frz_d, frz_n, frz_nil, lift_some, toB_bool, truth_bool, itemsD_l, itemsD_t, setV_eq, List.set_cons_zero, List.set_cons_succ, if_true, if_false, Bool.false_eq_true, Bool.not_false, Bool.not_true, Bool.true_and, Bool.and_true, dAdd_i, dSub_i, dLe_i, dLt_i, dLtD_i, dLeD_i, dGtD_i, dGeD_i, isI_ii, isI_bi, setIm, setVm, setIx, tupM, Option.bind_some, seqT_t]
    obtain ⟨z, hz⟩ : ∃ z, xs.getLast? = some z := by
      cases xs with
      | nil => exact absurd rfl c
      | cons a r => exact ⟨_, List.getLast?_cons⟩
    refine Hit.bnd (Hit.pop hz ?_)
    simp only [seqS_eq, bndr, bndb, slot0, slotS, slotW0, slotW0o, slotWS, slotD0, slotDS, ownS0, ownSS, frz_v, frz_o, frz_d, frz_n, frz_nil, lift_some, toB_bool, truth_bool, itemsD_l, itemsD_t, setV_eq, List.set_cons_zero, List.set_cons_succ, if_true, if_false, Bool.false_eq_true, Bool.not_false, Bool.not_true, Bool.true_and, Bool.and_true, dAdd_i, dSub_i, dLe_i, dLt_i, dLtD_i, dLeD_i, dGtD_i, dGeD_i, isI_ii, isI_bi, setIm, setVm, setIx, tupM, Option.bind_some, seqT_t, dInt_i, dMod_i hb, fin_rt]
    exact Hit.ret ⟨_, rfl, Int.emod_nonneg _ (by omega), Int.emod_lt_of_pos _ hb, _, rfl, fun y hy => hx y (List.dropLast_subset _ hy)⟩
end DV

set_option Elab.async false
set_option linter.all false
set_option maxRecDepth 100000
set_option maxHeartbeats 2000000
/-! ranges, two clauses -/
namespace DV
open PySem PySem.Spec PyProof.Rows L2
abbrev nI (n : Nat) : D := .int (n : Int)
theorem rng1_m {n : Nat} (h : n ≤ 1000000) : rng1 [.int (n : Int)] = ret ((List.range n).map nI) := by
  rw [rng_nat (by omega), rangeD_0]
theorem rng2_m (a : Int) (n : Nat) {b : Int} (e : b = a + (n : Int)) (h1 : -1000000 ≤ a) (h2 : a ≤ 1000000) (h3 : n ≤ 1000000) : rng2 [.int a, .int b] = ret ((List.range n).map fun i : Nat => PyData.int (a + (i : Int))) := by
  subst e
  unfold rng2
  dsimp only
  rw [if_pos (by omega), show (a + (n : Int) - a).toNat = n by omega]
  rfl
theorem rng3_m {i : Int} {n : Nat} (e : i = (n : Int)) (h : n ≤ 1000000) : rng3 [.int i, .int 0, .int (-1)] = ret ((List.range n).map fun k : Nat => PyData.int (i - (k : Int))) := by
  subst e
  unfold rng3
  dsimp only
  rw [if_pos (by omega), show ((n : Int) - 0).toNat = n by omega]
  unfold rangeC
  congr 1
  refine List.map_congr_left fun k _ => ?_
  congr 1
  omega
variable {α β : Type}
theorem lc2D_map {fi1 : Rho → M (List D)} {hh hh1 : D → Rho → Option Rho} {tt tt1 : Rho → M Bool} {fe : Rho → M D} {vs1 : List Nat} {ρ : Rho} (f : α → D) (ys : α → List β) (f2 : β → D) (g : α → β → D) : ∀ (xs : List α), (∀ x ∈ xs, ∃ ρ1, hh (f x) ρ = some ρ1 ∧ tt ρ1 = ret true ∧ fi1 ρ1 = ret ((ys x).map f2) ∧ (ys x).length ≤ 4000 ∧ ∀ y ∈ ys x, ∃ ρ2, hh1 (f2 y) (wipeR ρ1 vs1) = some ρ2 ∧ tt1 ρ2 = ret true ∧ fe ρ2 = ret (g x y)) →
    lc2D hh tt fi1 hh1 tt1 fe vs1 ρ (xs.map f) = ret (xs.flatMap fun x => (ys x).map (g x))
  | [], _ => rfl
  | x :: xs, h => by
    obtain ⟨ρ1, e1, e2, e3, e4, e5⟩ := h x List.mem_cons_self
    have ih := lc2D_map f ys f2 g xs fun d' hd' => h d' (List.mem_cons_of_mem _ hd')
    have e : lc2D hh tt fi1 hh1 tt1 fe vs1 ρ ((x :: xs).map f) = bnd (lift (hh (f x) ρ)) fun ρ1 => bnd (nox (tt ρ1)) fun c => if c = true then bnd (nox (fi1 ρ1)) fun ds1 => if ds1.length ≤ 4000 then bnd (lcD hh1 tt1 fe (wipeR ρ1 vs1) ds1) fun es => bnd (lc2D hh tt fi1 hh1 tt1 fe vs1 ρ (xs.map f)) fun es2 => ret (es ++ es2) else stk else lc2D hh tt fi1 hh1 tt1 fe vs1 ρ (xs.map f) := rfl
    have e6 : lcD hh1 tt1 fe (wipeR ρ1 vs1) ((ys x).map f2) = ret (((ys x).filter fun _ => true).map (g x)) := lcD_filterM fun y hy => by
      obtain ⟨ρ2, a, b, c⟩ := e5 y hy
      exact ⟨ρ2, a, b, fun _ => c⟩
    rw [e, e1, lift_some, bnd_ret, e2, nox_ret, bnd_ret, if_tt, e3, nox_ret, bnd_ret, if_pos (by rw [List.length_map]; exact e4), e6, bnd_ret, ih, bnd_ret, List.filter_eq_self.mpr fun _ _ => rfl]
    rfl
theorem lc2F_map {fi fi1 : Rho → M (List D)} {hh hh1 : D → Rho → Option Rho} {tt tt1 : Rho → M Bool} {fe : Rho → M D} {vs vs1 : List Nat} {ρ : Rho} (xs : List α) (f : α → D) (ys : α → List β) (f2 : β → D) (g : α → β → D) (hfi : fi ρ = ret (xs.map f)) (hl : xs.length ≤ 4000)
    (h : ∀ x ∈ xs, ∃ ρ1, hh (f x) (wipeR ρ vs) = some ρ1 ∧ tt ρ1 = ret true ∧ fi1 ρ1 = ret ((ys x).map f2) ∧ (ys x).length ≤ 4000 ∧ ∀ y ∈ ys x, ∃ ρ2, hh1 (f2 y) (wipeR ρ1 vs1) = some ρ2 ∧ tt1 ρ2 = ret true ∧ fe ρ2 = ret (g x y)) :
    lc2F fi hh tt fi1 hh1 tt1 fe vs vs1 ρ = ret (xs.flatMap fun x => (ys x).map (g x)) := by
  unfold lc2F
  rw [hfi, bnd_ret, if_pos (by rw [List.length_map]; exact hl)]
  exact lc2D_map f ys f2 g xs h
theorem dTuple_l (ds : List D) : dTuple [.list ds] = some (.tuple ds) := (rfl)
theorem dRevO_lm (f : α → D) (xs : List α) : dRevO (.list (xs.map f)) = some (.list ((xs.drop 1).reverse.map f)) := by
  show some (PyData.list _) = _
  rw [List.map_reverse, List.map_drop]
theorem dRevO_tm (f : α → D) (xs : List α) : dRevO (.tuple (xs.map f)) = some (.tuple ((xs.drop 1).reverse.map f)) := by
  show some (PyData.tuple _) = _
  rw [List.map_reverse, List.map_drop]
theorem mkT_m {f : α → D} {xs : List α} (h : xs.length ≤ 100000) : mkT (xs.map f) = ret (.tuple (xs.map f)) := mkT_ok (by rw [List.length_map]; exact h)
end DV

set_option Elab.async false
set_option linter.all false
set_option maxRecDepth 100000
set_option maxHeartbeats 1000000
/-! orders of places: no program -/
namespace Od
open List
abbrev Ord (n : Nat) (o : List Nat) : Prop := o.Perm (List.range n)
def ap (o : List Nat) (p : Nat) : Nat := o.getD p 0
def it (o : List Nat) : Nat → Nat → Nat
  | 0, p => p
  | k + 1, p => ap o (it o k p)
section
variable {n : Nat} {o a b : List Nat} {p q s L : Nat}
theorem Ord.len (h : Ord n o) : o.length = n := by rw [h.length_eq, List.length_range]
theorem Ord.nodup (h : Ord n o) : o.Nodup := h.nodup_iff.mpr List.nodup_range
theorem Ord.mem (h : Ord n o) : p ∈ o ↔ p < n := by rw [h.mem_iff, List.mem_range]
theorem ap_at (h : p < o.length) : ap o p = o[p] := by unfold ap; rw [List.getD_eq_getElem?_getD, List.getElem?_eq_getElem h]; rfl
theorem ap_get (h : p < o.length) : o[p]? = some (ap o p) := by rw [ap_at h, List.getElem?_eq_getElem h]
theorem Ord.lt (h : Ord n o) (hp : p < n) : ap o p < n := by
  rw [ap_at (by rw [h.len]; exact hp)]
  exact h.mem.mp (List.getElem_mem _)
theorem Ord.inj (h : Ord n o) (hp : p < n) (hq : q < n) (e : ap o p = ap o q) : p = q := by
  rw [ap_at (by rw [h.len]; exact hp), ap_at (by rw [h.len]; exact hq)] at e
  exact (List.getElem_inj h.nodup).mp e
theorem it_lt (h : Ord n o) (hp : p < n) : ∀ k, it o k p < n
  | 0 => hp
  | k + 1 => h.lt (it_lt h hp k)
theorem it_add (o : List Nat) (i : Nat) : ∀ k p, it o (k + i) p = it o k (it o i p)
  | 0, p => by rw [Nat.zero_add]; rfl
  | k + 1, p => by rw [Nat.succ_add]; show ap o (it o (k + i) p) = ap o (it o k (it o i p)); rw [it_add o i k p]
theorem it_inj (h : Ord n o) (hp : p < n) (hq : q < n) : ∀ k, it o k p = it o k q → p = q
  | 0, e => e
  | k + 1, e => it_inj h hp hq k (h.inj (it_lt h hp k) (it_lt h hq k) e)
theorem range_eq (h : a.length = n) : a = (List.range n).map (ap a) := by
  apply List.ext_getElem?
  intro i
  by_cases hi : i < n
  · rw [ap_get (by omega), List.getElem?_map, List.getElem?_range hi]; rfl
  · rw [List.getElem?_eq_none (by omega), List.getElem?_eq_none (by rw [List.length_map, List.length_range]; omega)]
theorem ap_map {f : Nat → Nat} (hp : p < n) : ap ((List.range n).map f) p = f p := by
  unfold ap
  rw [List.getD_eq_getElem?_getD, List.getElem?_map, List.getElem?_range hp]; rfl
theorem eq_of (ha : a.length = n) (hb : b.length = n) (h : ∀ p, p < n → ap a p = ap b p) : a = b := by
  rw [range_eq ha, range_eq hb]
  exact List.map_congr_left fun p hp => h p (List.mem_range.mp hp)
/-! one after the other -/
def dn (a b : List Nat) : List Nat := a.map (ap b)
theorem dn_len (a b : List Nat) : (dn a b).length = a.length := List.length_map ..
theorem ap_dn (hp : p < a.length) : ap (dn a b) p = ap b (ap a p) := by
  unfold ap dn
  rw [List.getD_eq_getElem?_getD, List.getElem?_map, List.getElem?_eq_getElem hp, List.getD_eq_getElem?_getD, List.getD_eq_getElem?_getD, List.getElem?_eq_getElem hp]
  rfl
theorem dn_ord (ha : Ord n a) (hb : Ord n b) : Ord n (dn a b) := by
  have h := ha.map (ap b)
  rw [← range_eq hb.len] at h
  exact h.trans hb
theorem dn_assoc {c : List Nat} (ha : Ord n a) (hb : Ord n b) : dn (dn a b) c = dn a (dn b c) := by
  unfold dn
  rw [List.map_map]
  refine List.map_congr_left fun p hp => ?_
  have hp := ha.mem.mp hp
  exact (ap_dn (by rw [hb.len]; exact hp)).symm
/-! undone -/
def inv (o : List Nat) : List Nat := (List.range o.length).map fun p => o.idxOf p
theorem inv_len (o : List Nat) : (inv o).length = o.length := by unfold inv; rw [List.length_map, List.length_range]
theorem ap_inv (hp : p < o.length) : ap (inv o) p = o.idxOf p := ap_map hp
theorem inv_ap (h : Ord n o) (hp : p < n) : ap (inv o) (ap o p) = p := by
  have hl := h.len
  rw [ap_inv (by rw [hl]; exact h.lt hp), ap_at (by omega)]
  exact h.nodup.idxOf_getElem p _
theorem ap_inv_ap (h : Ord n o) (hp : p < n) : ap o (ap (inv o) p) = p := by
  have hl := h.len
  have hm : p ∈ o := h.mem.mpr hp
  have hi : o.idxOf p < o.length := List.idxOf_lt_length_iff.mpr hm
  rw [ap_inv (by omega), ap_at hi]
  exact List.getElem_idxOf hi
theorem inv_ord (h : Ord n o) : Ord n (inv o) := by
  have hl := h.len
  have e : (List.range n).Perm o := h.symm
  have e2 := e.map (fun p => o.idxOf p)
  have e3 : o.map (fun p => o.idxOf p) = List.range n := by
    apply List.ext_getElem?
    intro i
    by_cases hi : i < n
    · rw [List.getElem?_map, List.getElem?_range hi, List.getElem?_eq_getElem (by omega)]
      exact congrArg some (h.nodup.idxOf_getElem i (by omega))
    · rw [List.getElem?_eq_none (by rw [List.length_map]; omega), List.getElem?_eq_none (by rw [List.length_range]; omega)]
  rw [e3] at e2
  unfold inv
  rw [hl]
  exact e2
theorem dn_inv (h : Ord n o) : dn o (inv o) = List.range n := by
  refine eq_of (n := n) (by rw [dn_len, h.len]) List.length_range fun p hp => ?_
  rw [ap_dn (by rw [h.len]; exact hp), inv_ap h hp]
  have := ap_map (f := id) hp
  rw [List.map_id] at this
  exact this.symm
theorem inv_dn (ha : Ord n a) (hb : Ord n b) : inv (dn a b) = dn (inv b) (inv a) := by
  have hd := dn_ord ha hb
  refine eq_of (n := n) (by rw [inv_len, hd.len]) (by rw [dn_len, inv_len, hb.len]) fun p hp => ?_
  have h1 := (inv_ord hd).lt hp
  have h2 := (inv_ord hb).lt hp
  have h3 := (inv_ord ha).lt h2
  rw [ap_dn (by rw [inv_len, hb.len]; exact hp)]
  refine hd.inj h1 h3 ?_
  rw [ap_inv_ap hd hp, ap_dn (by rw [ha.len]; exact h3), ap_inv_ap ha h2, ap_inv_ap hb hp]
/-! rounds -/
theorem least {P : Nat → Prop} : ∀ m, P m → ∃ k, k ≤ m ∧ P k ∧ ∀ i, i < k → ¬ P i := by
  intro m
  induction m using Nat.strongRecOn with
  | _ m ih =>
    intro h
    by_cases c : ∃ i, i < m ∧ P i
    · obtain ⟨i, hi, pi⟩ := c
      obtain ⟨k, h1, h2, h3⟩ := ih i hi pi
      exact ⟨k, by omega, h2, h3⟩
    · exact ⟨m, Nat.le_refl _, h, fun i hi pi => c ⟨i, hi, pi⟩⟩
/-- L is the length of the round of s -/
structure Per (n : Nat) (o : List Nat) (s L : Nat) : Prop where
  pos : 1 ≤ L
  le : L ≤ n
  back : it o L s = s
  first : ∀ i, 1 ≤ i → i < L → it o i s ≠ s
theorem pig {n : Nat} {f : Nat → Nat} (h : ∀ i, i ≤ n → f i < n) : ∃ i j, i < j ∧ j ≤ n ∧ f i = f j := by
  apply Classical.byContradiction
  intro c
  have nd : ((List.range (n + 1)).map f).Nodup := by
    unfold List.Nodup
    rw [List.pairwise_map]
    refine List.Pairwise.imp_of_mem ?_ (List.pairwise_lt_range (n := n + 1))
    intro i j hi hj hij e
    exact c ⟨i, j, hij, by have := List.mem_range.mp hj; omega, e⟩
  have := List.Nodup.length_le_of_subset nd (l₂ := List.range n) fun x hx => by
    obtain ⟨i, hi, rfl⟩ := List.mem_map.mp hx
    have := List.mem_range.mp hi
    exact List.mem_range.mpr (h i (by omega))
  rw [List.length_map, List.length_range, List.length_range] at this
  omega
theorem per_ex (h : Ord n o) (hs : s < n) : ∃ L, Per n o s L := by
  obtain ⟨i, j, hij, hj, e⟩ := pig (f := fun i => it o i s) fun i _ => it_lt h hs i
  have e2 : it o (j - i) s = s := by
    have e3 : it o (i + (j - i)) s = it o i s := by rw [show i + (j - i) = j by omega]; exact e.symm
    rw [it_add] at e3
    exact it_inj h (it_lt h hs _) hs i e3
  obtain ⟨k, h1, h2, h3⟩ := least (P := fun k => 1 ≤ k ∧ it o k s = s) (j - i) ⟨by omega, e2⟩
  exact ⟨k, h2.1, by omega, h2.2, fun i hi hk z => h3 i hk ⟨hi, z⟩⟩
theorem it_mul (h : it o L s = s) : ∀ k, it o (L * k) s = s
  | 0 => rfl
  | k + 1 => by rw [Nat.mul_succ, it_add, h, it_mul h k]
theorem it_mod (h : it o L s = s) (k : Nat) : it o (k % L) s = it o k s := by
  conv => rhs; rw [← Nat.mod_add_div k L, it_add, it_mul h]
def cyc (o : List Nat) (s L : Nat) : List Nat := (List.range L).map fun i => it o i s
theorem cyc_len (o : List Nat) (s L : Nat) : (cyc o s L).length = L := by unfold cyc; rw [List.length_map, List.length_range]
theorem cyc_at {i : Nat} (h : i < L) : (cyc o s L)[i]? = some (it o i s) := by unfold cyc; rw [List.getElem?_map, List.getElem?_range h]; rfl
theorem mem_cyc (h : 1 ≤ L) (hb : it o L s = s) : p ∈ cyc o s L ↔ ∃ k, p = it o k s := by
  unfold cyc
  rw [List.mem_map]
  constructor
  · rintro ⟨i, _, rfl⟩; exact ⟨i, rfl⟩
  · rintro ⟨k, rfl⟩
    exact ⟨k % L, List.mem_range.mpr (Nat.mod_lt _ (by omega)), it_mod hb k⟩
/-- these are rounds that take each place -/
structure Rds (n : Nat) (o : List Nat) (ws : List (List Nat)) : Prop where
  each : ∀ w ∈ ws, ∃ s L, s < n ∧ Per n o s L ∧ w = cyc o s L
  all : ∀ p, p < n → ∃ w ∈ ws, p ∈ w
/-! powers -/
def F (o : List Nat) (t : Int) (p : Nat) : Nat := if 0 ≤ t then it o t.toNat p else it (inv o) (-t).toNat p
def pw (n : Nat) (o : List Nat) (t : Int) : List Nat := (List.range n).map (F o t)
theorem it_inv (h : Ord n o) (hp : p < n) : ∀ k, it o k (it (inv o) k p) = p
  | 0 => rfl
  | k + 1 => by
    show ap o (it o k (ap (inv o) (it (inv o) k p))) = p
    have comm : ∀ k q, it o k (ap o q) = ap o (it o k q) := fun k q => by
      have := it_add o 1 k q
      have e2 : it o 1 q = ap o q := rfl
      rw [e2] at this
      rw [← this]; rfl
    rw [← comm, ap_inv_ap h (it_lt (inv_ord h) hp k)]
    exact it_inv h hp k
theorem F_cyc (h : Ord n o) (hs : s < n) (hL : Per n o s L) {i : Nat} (hi : i < L) (t : Int) : it o (((i : Int) + t) % (L : Int)).toNat s = F o t (it o i s) := by
  have hL0 : 0 < L := hL.pos
  have hm0 : 0 ≤ ((i : Int) + t) % (L : Int) := Int.emod_nonneg _ (by omega)
  unfold F
  split
  · rename_i ht
    obtain ⟨k, rfl⟩ : ∃ k : Nat, t = (k : Int) := ⟨t.toNat, by omega⟩
    rw [Int.toNat_natCast, ← it_add]
    have e : (((i : Int) + (k : Int)) % (L : Int)).toNat = (k + i) % L := by
      rw [show (i : Int) + (k : Int) = ((k + i : Nat) : Int) by omega, ← Int.natCast_emod, Int.toNat_natCast]
    rw [e, it_mod hL.back]
  · rename_i ht
    obtain ⟨k, rfl⟩ : ∃ k : Nat, t = -(k : Int) := ⟨(-t).toNat, by omega⟩
    rw [show (- -(k : Int)).toNat = k by omega]
    have hq : it o i s < n := it_lt h hs i
    refine it_inj h (it_lt h hs _) (it_lt (inv_ord h) hq k) k ?_
    rw [it_inv h hq, ← it_add]
    have e : (k + (((i : Int) + -(k : Int)) % (L : Int)).toNat) % L = i := by
      generalize hm : (((i : Int) + -(k : Int)) % (L : Int)).toNat = m
      have hm' : ((i : Int) + -(k : Int)) % (L : Int) = (m : Int) := by omega
      have h1 : ((k + m : Nat) : Int) % (L : Int) = (i : Int) % (L : Int) := by
        rw [Int.natCast_add, ← hm', Int.add_emod_emod]
        congr 1
        omega
      rw [← Int.natCast_emod, ← Int.natCast_emod] at h1
      have h2 : (k + m) % L = i % L := by omega
      rw [h2, Nat.mod_eq_of_lt hi]
    rw [← it_mod hL.back (k + _), e]
/-- each place of a row gets its worth -/
def fill (f : Nat → Nat) (l : List Nat) (ps : List Nat) : List Nat := ps.foldl (fun l p => l.set p (f p)) l
theorem fill_len (f : Nat → Nat) : ∀ (ps l : List Nat), (fill f l ps).length = l.length
  | [], _ => rfl
  | p :: ps, l => by
    show (fill f (l.set p (f p)) ps).length = _
    rw [fill_len f ps, List.length_set]
theorem fill_get (f : Nat → Nat) : ∀ (ps l : List Nat) (p : Nat), p < l.length → (fill f l ps)[p]? = if p ∈ ps then some (f p) else l[p]?
  | [], l, p, _ => by simp [fill]
  | q :: ps, l, p, h => by
    show (fill f (l.set q (f q)) ps)[p]? = _
    rw [fill_get f ps _ p (by rw [List.length_set]; exact h)]
    by_cases h1 : p ∈ ps
    · rw [if_pos h1, if_pos (List.mem_cons_of_mem _ h1)]
    · rw [if_neg h1]
      by_cases h2 : p = q
      · subst h2
        rw [List.getElem?_set_self h, if_pos List.mem_cons_self]
      · rw [List.getElem?_set_ne (Ne.symm h2), if_neg (fun z => (List.mem_cons.mp z).elim h2 h1)]
theorem fill_all {f : Nat → Nat} {l ps : List Nat} (hl : l.length = n) (h : ∀ p, p < n → p ∈ ps) : fill f l ps = (List.range n).map f := by
  apply List.ext_getElem?
  intro i
  by_cases hi : i < n
  · rw [fill_get f ps l i (by omega), if_pos (h i hi), List.getElem?_map, List.getElem?_range hi]; rfl
  · rw [List.getElem?_eq_none (by rw [fill_len]; omega), List.getElem?_eq_none (by rw [List.length_map, List.length_range]; omega)]
/-! the law's rounds: those that begin with their least place -/
theorem lawRds {ws : List (List Nat)} (h : Ord n o) (h1 : ∀ w ∈ ws, ∃ s L, s < n ∧ Per n o s L ∧ w = cyc o s L) (h2 : ∀ s L, s < n → Per n o s L → (∀ x ∈ cyc o s L, s ≤ x) → cyc o s L ∈ ws) : Rds n o ws := by
  refine ⟨h1, fun p hp => ?_⟩
  obtain ⟨L, hL⟩ := per_ex h hp
  obtain ⟨m, hm, hmin, hless⟩ := least (P := fun m => ∃ k, m = it o k p) p ⟨0, rfl⟩
  obtain ⟨k, rfl⟩ := hmin
  have hs := it_lt h hp k
  obtain ⟨M, hM⟩ := per_ex h hs
  refine ⟨_, h2 _ M hs hM fun x hx => ?_, (mem_cyc hM.pos hM.back).mpr ⟨L * (k + 1) - k, ?_⟩⟩
  · obtain ⟨j, rfl⟩ := (mem_cyc hM.pos hM.back).mp hx
    apply Classical.byContradiction
    intro c
    exact hless _ (by omega) ⟨j + k, (it_add o k j p).symm⟩
  · rw [← it_add]
    have hk : k ≤ L * (k + 1) := by
      have := hL.pos
      have : 1 * (k + 1) ≤ L * (k + 1) := Nat.mul_le_mul this (Nat.le_refl _)
      omega
    rw [show L * (k + 1) - k + k = L * (k + 1) by omega, it_mul hL.back]
/-! the law's powers -/
theorem pw_step (h : Ord n o) (k : Nat) (a : List Nat) (ha : a = (List.range n).map fun p => it o k p) : dn a o = (List.range n).map fun p => it o (k + 1) p := by
  subst ha
  unfold dn
  rw [List.map_map]
  rfl
theorem pw_pos (t : Int) (ht : 0 ≤ t) : pw n o t = (List.range n).map fun p => it o t.toNat p := by
  unfold pw F
  refine List.map_congr_left fun p _ => ?_
  rw [if_pos ht]
theorem pw_neg (t : Int) (ht : t < 0) : pw n o t = (List.range n).map fun p => it (inv o) (-t).toNat p := by
  unfold pw F
  refine List.map_congr_left fun p _ => ?_
  rw [if_neg (by omega)]
end
end Od

set_option Elab.async false
set_option linter.all false
set_option maxRecDepth 100000
set_option maxHeartbeats 1000000
/-! the law's orders: no program -/
namespace Od
open List
section
variable {n : Nat} {o a b : List Nat} {p q s L : Nat}
theorem ord_of_inj {f : Nat → Nat} (h1 : ∀ q, q < n → f q < n) (h2 : ∀ p q, p < n → q < n → f p = f q → p = q) : Ord n ((List.range n).map f) := by
  have nd : ((List.range n).map f).Nodup := by
    unfold List.Nodup
    rw [List.pairwise_map]
    refine List.Pairwise.imp_of_mem ?_ (List.pairwise_lt_range (n := n))
    intro i j hi hj hij e
    have := h2 i j (List.mem_range.mp hi) (List.mem_range.mp hj) e
    omega
  refine (List.perm_ext_iff_of_nodup nd List.nodup_range).mpr fun x => ⟨fun hx => ?_, fun hx => ?_⟩
  · obtain ⟨i, hi, rfl⟩ := List.mem_map.mp hx
    exact List.mem_range.mpr (h1 i (List.mem_range.mp hi))
  · apply Classical.byContradiction
    intro c
    have nd2 : (x :: (List.range n).map f).Nodup := List.nodup_cons.mpr ⟨c, nd⟩
    have := List.Nodup.length_le_of_subset nd2 (l₂ := List.range n) fun y hy => by
      rcases List.mem_cons.mp hy with rfl | hy
      · exact hx
      · obtain ⟨i, hi, rfl⟩ := List.mem_map.mp hy
        exact List.mem_range.mpr (h1 i (List.mem_range.mp hi))
    rw [List.length_cons, List.length_map, List.length_range] at this
    omega
theorem swap_ord (h : Ord n o) (hp : p < n) (hq : q < n) : Ord n ((o.set p (ap o q)).set q (ap o p)) := by
  have hl := h.len
  rw [ap_at (show q < o.length by omega), ap_at (show p < o.length by omega)]
  exact (List.set_set_perm (by omega) (by omega)).trans h
/-- the next place of a ring -/
def nxt (sz m q : Nat) : Nat := if q < m * sz then q / sz * sz + (q % sz + 1) % sz else q
theorem nxt_at {sz m i k : Nat} (hi : i < m) (hk : k < sz) : nxt sz m (i * sz + k) = i * sz + (k + 1) % sz := by
  have e1 : (i * sz + k) / sz = i := by rw [Nat.mul_comm, Nat.mul_add_div (by omega), Nat.div_eq_of_lt hk]; rfl
  have e2 : (i * sz + k) % sz = k := by rw [Nat.mul_comm, Nat.mul_add_mod, Nat.mod_eq_of_lt hk]
  have h : i * sz + k < m * sz := by
    have : (i + 1) * sz ≤ m * sz := Nat.mul_le_mul hi (Nat.le_refl _)
    rw [Nat.succ_mul] at this
    omega
  unfold nxt
  rw [if_pos h, e1, e2]
theorem nxt_split {sz m q : Nat} (hs : 1 ≤ sz) (h : q < m * sz) : ∃ i k, i < m ∧ k < sz ∧ q = i * sz + k := by
  refine ⟨q / sz, q % sz, Nat.div_lt_of_lt_mul (by rw [Nat.mul_comm]; exact h), Nat.mod_lt _ (by omega), ?_⟩
  have := Nat.div_add_mod q sz
  rw [Nat.mul_comm] at this
  omega
theorem mul_add_lt {sz m i k : Nat} (hi : i < m) (hk : k < sz) : i * sz + k < m * sz := by
  have : (i + 1) * sz ≤ m * sz := Nat.mul_le_mul hi (Nat.le_refl _)
  rw [Nat.succ_mul] at this
  omega
theorem nxt_lt {sz m q : Nat} (hs : 1 ≤ sz) (hm : m * sz ≤ n) (hq : q < n) : nxt sz m q < n := by
  by_cases c : q < m * sz
  · obtain ⟨i, k, hi, hk, rfl⟩ := nxt_split hs c
    rw [nxt_at hi hk]
    have := mul_add_lt hi (Nat.mod_lt (k + 1) (show sz > 0 by omega))
    omega
  · unfold nxt
    rw [if_neg c]
    exact hq
theorem nxt_inj {sz m p q : Nat} (hs : 1 ≤ sz) (e : nxt sz m p = nxt sz m q) : p = q := by
  by_cases c : p < m * sz
  · obtain ⟨i, k, hi, hk, rfl⟩ := nxt_split hs c
    rw [nxt_at hi hk] at e
    have l1 := mul_add_lt hi (Nat.mod_lt (k + 1) (show sz > 0 by omega))
    by_cases d : q < m * sz
    · obtain ⟨j, l, hj, hl, rfl⟩ := nxt_split hs d
      rw [nxt_at hj hl] at e
      have m1 := Nat.mod_lt (k + 1) (show sz > 0 by omega)
      have m2 := Nat.mod_lt (l + 1) (show sz > 0 by omega)
      have f1 : (i * sz + (k + 1) % sz) / sz = i := by rw [Nat.mul_comm, Nat.mul_add_div (by omega), Nat.div_eq_of_lt m1]; rfl
      have f2 : (j * sz + (l + 1) % sz) / sz = j := by rw [Nat.mul_comm, Nat.mul_add_div (by omega), Nat.div_eq_of_lt m2]; rfl
      have eij : i = j := by rw [← f1, e, f2]
      subst eij
      have ek : (k + 1) % sz = (l + 1) % sz := by omega
      have md : ∀ x, x < sz → (x + 1) % sz = if x + 1 = sz then 0 else x + 1 := fun x hx => by
        split
        · rename_i z; rw [z, Nat.mod_self]
        · exact Nat.mod_eq_of_lt (by omega)
      rw [md k hk, md l hl] at ek
      split at ek <;> split at ek <;> omega
    · unfold nxt at e
      rw [if_neg d] at e
      omega
  · by_cases d : q < m * sz
    · obtain ⟨j, l, hj, hl, rfl⟩ := nxt_split hs d
      rw [nxt_at hj hl] at e
      have l1 := mul_add_lt hj (Nat.mod_lt (l + 1) (show sz > 0 by omega))
      unfold nxt at e
      rw [if_neg c] at e
      omega
    · unfold nxt at e
      rw [if_neg c, if_neg d] at e
      exact e
/-- where the rings send a place -/
def G (o : List Nat) (sz m x : Nat) : Nat := ap o (nxt sz m (ap (inv o) x))
theorem G_ord {sz m : Nat} (h : Ord n o) (hs : 1 ≤ sz) (hm : m * sz ≤ n) : Ord n ((List.range n).map (G o sz m)) :=
  ord_of_inj (fun q hq => h.lt (nxt_lt hs hm ((inv_ord h).lt hq))) fun p q hp hq e => by
    have e2 := h.inj (nxt_lt hs hm ((inv_ord h).lt hp)) (nxt_lt hs hm ((inv_ord h).lt hq)) e
    exact (inv_ord h).inj hp hq (nxt_inj hs e2)
theorem G_at {sz m i k : Nat} (h : Ord n o) (hm : m * sz ≤ n) (hi : i < m) (hk : k < sz) : G o sz m (ap o (i * sz + k)) = ap o (i * sz + (k + 1) % sz) := by
  unfold G
  rw [inv_ap h (by have := mul_add_lt hi hk; omega), nxt_at hi hk]
theorem take_snoc (h : q < o.length) : o.take (q + 1) = o.take q ++ [ap o q] := by
  rw [ap_at h, List.take_append_getElem]
theorem fill_G {sz m : Nat} (h : Ord n o) (hs : 1 ≤ sz) (hm : m * sz ≤ n) : fill (G o sz m) (List.range n) (o.take (m * sz)) = (List.range n).map (G o sz m) := by
  have hl := h.len
  apply List.ext_getElem?
  intro x
  by_cases hx : x < n
  · rw [fill_get _ _ _ _ (by rw [List.length_range]; exact hx), List.getElem?_map, List.getElem?_range hx]
    split
    · rfl
    · rename_i c
      have hi := (inv_ord h).lt hx
      have e : G o sz m x = x := by
        unfold G nxt
        rw [if_neg, ap_inv_ap h hx]
        intro d
        refine c ?_
        have e2 : x = ap o (ap (inv o) x) := (ap_inv_ap h hx).symm
        rw [e2, ap_at (by omega)]
        exact List.mem_take_iff_getElem.mpr ⟨ap (inv o) x, by omega, rfl⟩
      rw [show Option.map (G o sz m) (some x) = some (G o sz m x) from rfl, e]
  · rw [List.getElem?_eq_none (by rw [fill_len, List.length_range]; omega), List.getElem?_eq_none (by rw [List.length_map, List.length_range]; omega)]
theorem fill_snoc (f : Nat → Nat) (l ps : List Nat) (x : Nat) : fill f l (ps ++ [x]) = (fill f l ps).set x (f x) := by
  unfold fill
  rw [List.foldl_append]
  rfl
end
end Od

set_option Elab.async false
set_option linter.all false
set_option maxRecDepth 100000
set_option maxHeartbeats 1000000
/-! parity: inversions, rounds; no program -/
namespace Od
open List
section
variable {n : Nat} {o a b : List Nat} {p q s L : Nat}
/-! sums over pairs -/
def sm (f : Nat → Nat) (l : List Nat) : Nat := (l.map f).sum
theorem sm_perm {f : Nat → Nat} {l r : List Nat} (h : l.Perm r) : sm f l = sm f r := (h.map f).sum_nat
theorem sm_congr {f g : Nat → Nat} {l : List Nat} (h : ∀ x ∈ l, f x = g x) : sm f l = sm g l := by
  unfold sm
  rw [List.map_congr_left h]
theorem sm_add (f g : Nat → Nat) (l : List Nat) : sm (fun x => f x + g x) l = sm f l + sm g l := by
  unfold sm
  induction l with
  | nil => rfl
  | cons x l ih => simp only [List.map_cons, List.sum_cons]; omega
theorem sm_range_succ (f : Nat → Nat) (n : Nat) : sm f (List.range (n + 1)) = sm f (List.range n) + f n := by
  unfold sm
  rw [List.range_succ, List.map_append, List.sum_append_nat]
  simp
/-- over all i < j < n -/
def pr (n : Nat) (g : Nat → Nat → Nat) : Nat := sm (fun j => sm (fun i => g i j) (List.range j)) (List.range n)
/-- over all i, j < n -/
def al (n : Nat) (g : Nat → Nat → Nat) : Nat := sm (fun j => sm (fun i => g i j) (List.range n)) (List.range n)
theorem al_pr {g : Nat → Nat → Nat} (hs : ∀ i j, g i j = g j i) (h0 : ∀ i, g i i = 0) : ∀ n, al n g = 2 * pr n g
  | 0 => rfl
  | n + 1 => by
    have ih := al_pr hs h0 n
    have e1 : pr (n + 1) g = pr n g + sm (fun i => g i n) (List.range n) := sm_range_succ _ n
    have e2 : al (n + 1) g = al n g + sm (fun j => g n j) (List.range n) + (sm (fun i => g i n) (List.range n) + g n n) := by
      unfold al
      rw [sm_range_succ, sm_range_succ]
      congr 1
      rw [← sm_add]
      exact sm_congr fun x hx => sm_range_succ _ n
    have e3 : sm (fun j => g n j) (List.range n) = sm (fun i => g i n) (List.range n) := sm_congr fun x _ => hs n x
    rw [e1, e2, e3, h0, ih]
    omega
theorem al_perm {g : Nat → Nat → Nat} (h : Ord n a) : al n (fun i j => g (ap a i) (ap a j)) = al n g := by
  have key : ∀ f : Nat → Nat, sm (fun i => f (ap a i)) (List.range n) = sm f (List.range n) := fun f => by
    have e : sm (fun i => f (ap a i)) (List.range n) = sm f ((List.range n).map (ap a)) := by unfold sm; rw [List.map_map]; rfl
    rw [e, ← range_eq h.len]
    exact sm_perm h
  unfold al
  rw [key fun j => sm (fun i => g (ap a i) j) (List.range n)]
  exact sm_congr fun j _ => key fun i => g i j
theorem pr_perm {g : Nat → Nat → Nat} (h : Ord n a) (hs : ∀ i j, g i j = g j i) (h0 : ∀ i, g i i = 0) : pr n (fun i j => g (ap a i) (ap a j)) = pr n g := by
  have e1 := al_pr (g := fun i j => g (ap a i) (ap a j)) (fun i j => hs _ _) (fun i => h0 _) n
  have e2 := al_pr hs h0 n
  have e3 := al_perm (g := g) h
  omega
/-! inversions -/
def iv (o : List Nat) (i j : Nat) : Nat := if ap o j < ap o i then 1 else 0
def invs (n : Nat) (o : List Nat) : Nat := pr n (iv o)
/-- the pair of values is turned round by o, whichever comes first -/
def tw (o : List Nat) (x y : Nat) : Nat := if (x < y ∧ ap o y < ap o x) ∨ (y < x ∧ ap o x < ap o y) then 1 else 0
theorem invs_tw (n : Nat) (o : List Nat) : invs n o = pr n (tw o) := by
  unfold invs pr
  refine sm_congr fun j _ => sm_congr fun i hi => ?_
  have hi := List.mem_range.mp hi
  unfold iv tw
  by_cases h : ap o j < ap o i
  · rw [if_pos h, if_pos (.inl ⟨hi, h⟩)]
  · rw [if_neg h, if_neg (fun z => z.elim (fun z => h z.2) (fun z => by omega))]
theorem pr_add (n : Nat) (f g : Nat → Nat → Nat) : pr n (fun i j => f i j + g i j) = pr n f + pr n g := by
  unfold pr
  rw [← sm_add]
  exact sm_congr fun j _ => sm_add _ _ _
theorem sm_mod {f g : Nat → Nat} {l : List Nat} (h : ∀ x ∈ l, f x % 2 = g x % 2) : sm f l % 2 = sm g l % 2 := by
  unfold sm
  induction l with
  | nil => rfl
  | cons x l ih =>
    simp only [List.map_cons, List.sum_cons]
    have h1 := h x List.mem_cons_self
    have h2 := ih fun y hy => h y (List.mem_cons_of_mem _ hy)
    omega
theorem invs_dn (ha : Ord n a) (hb : Ord n b) : invs n (dn a b) % 2 = (invs n a + invs n b) % 2 := by
  rw [invs_tw n b, ← pr_perm ha (g := tw b) (fun i j => by unfold tw; congr 1; apply propext; exact ⟨Or.symm, Or.symm⟩) (fun i => by unfold tw; rw [if_neg]; omega)]
  unfold invs
  rw [← pr_add]
  unfold pr
  refine sm_mod fun j hj => sm_mod fun i hi => ?_
  have hj := List.mem_range.mp hj
  have hi := List.mem_range.mp hi
  have hl := ha.len
  have ne : ap a i ≠ ap a j := fun e => by have := ha.inj (by omega) hj e; omega
  have ne2 : ap b (ap a i) ≠ ap b (ap a j) := fun e => ne (hb.inj (ha.lt (by omega)) (ha.lt hj) e)
  show iv (dn a b) i j % 2 = (iv a i j + tw b (ap a i) (ap a j)) % 2
  unfold iv tw
  rw [ap_dn (by omega), ap_dn (by omega)]
  generalize ap b (ap a i) = u at *
  generalize ap b (ap a j) = v at *
  generalize ap a i = x at *
  generalize ap a j = y at *
  by_cases h1 : v < u <;> by_cases h2 : y < x
  · rw [if_pos h1, if_pos h2, if_neg (by omega)]
  · rw [if_pos h1, if_neg h2, if_pos (by omega)]
  · rw [if_neg h1, if_pos h2, if_pos (by omega)]
  · rw [if_neg h1, if_neg h2, if_neg (by omega)]
end
end Od

set_option Elab.async false
set_option linter.all false
set_option maxRecDepth 100000
set_option maxHeartbeats 1000000
/-! parity and rounds; no program -/
namespace Od
open List
section
variable {n : Nat} {o a b : List Nat} {p q s L : Nat}
theorem sm_zero (l : List Nat) : sm (fun _ => 0) l = 0 := by
  unfold sm
  induction l with
  | nil => rfl
  | cons x l ih => simp only [List.map_cons, List.sum_cons]; omega
/-- the least place of its round -/
def LeastP (o : List Nat) (s : Nat) : Prop := ∀ k, s ≤ it o k s
noncomputable def isM (o : List Nat) (s : Nat) : Bool := @decide (LeastP o s) (Classical.propDecidable _)
theorem isM_iff : isM o s = true ↔ LeastP o s := by unfold isM; exact @decide_eq_true_iff _ (Classical.propDecidable _)
noncomputable def cnt (n : Nat) (o : List Nat) : Nat := ((List.range n).filter (isM o)).length
/-- n is taken out -/
def redF (n : Nat) (o : List Nat) (p : Nat) : Nat := if ap o p = n then ap o n else ap o p
def red (n : Nat) (o : List Nat) : List Nat := (List.range n).map (redF n o)
theorem ap_red (hp : p < n) : ap (red n o) p = redF n o p := ap_map hp
theorem sm_one {f g : Nat → Nat} {j m : Nat} (hj : j < m) (h : ∀ i, i < m → i ≠ j → f i = g i) : sm f (List.range m) + g j = sm g (List.range m) + f j := by
  induction m with
  | zero => omega
  | succ m ih =>
    rw [sm_range_succ, sm_range_succ]
    by_cases c : j = m
    · subst c
      have : sm f (List.range j) = sm g (List.range j) := sm_congr fun i hi => h i (by have := List.mem_range.mp hi; omega) (by have := List.mem_range.mp hi; omega)
      omega
    · have := ih (by omega) fun i hi hne => h i (by omega) hne
      have := h m (by omega) (fun z => c z.symm)
      omega
section
variable (h : Ord (n + 1) o)
include h
theorem red_lt (hp : p < n) : redF n o p < n := by
  have h1 := h.lt (p := p) (by omega)
  have h2 := h.lt (p := n) (by omega)
  unfold redF
  split
  · rename_i e
    have : ap o n ≠ n := fun z => by have := h.inj (p := p) (q := n) (by omega) (by omega) (by rw [e, z]); omega
    omega
  · omega
theorem red_ord : Ord n (red n o) := ord_of_inj (fun q hq => red_lt h hq) fun p q hp hq e => by
  unfold redF at e
  split at e <;> split at e
  · rename_i e1 e2
    exact h.inj (by omega) (by omega) (by rw [e1, e2])
  · have := h.inj (p := n) (q := q) (by omega) (by omega) e
    omega
  · have := h.inj (p := p) (q := n) (by omega) (by omega) e
    omega
  · exact h.inj (by omega) (by omega) e
theorem red_it1 (hp : p < n) : ∀ k, ∃ k', it (red n o) k p = it o k' p
  | 0 => ⟨0, rfl⟩
  | k + 1 => by
    obtain ⟨k', e⟩ := red_it1 hp k
    have hl : it (red n o) k p < n := it_lt (red_ord h) hp k
    have e1 : it (red n o) (k + 1) p = redF n o (it (red n o) k p) := ap_red hl
    rw [e1]
    unfold redF
    split
    · rename_i z
      refine ⟨k' + 2, ?_⟩
      show ap o n = ap o (ap o (it o k' p))
      rw [← e, z]
    · refine ⟨k' + 1, ?_⟩
      show _ = ap o (it o k' p)
      rw [← e]
theorem it_front (o : List Nat) (k p : Nat) : it o (k + 1) p = it o k (ap o p) := it_add o 1 k p
theorem red_it2 : ∀ k p, p < n → it o k p < n → ∃ k', it o k p = it (red n o) k' p := by
  intro k
  induction k using Nat.strongRecOn with
  | _ k ih =>
    intro p hp hk
    cases k with
    | zero => exact ⟨0, rfl⟩
    | succ k =>
      rw [it_front h] at hk ⊢
      by_cases c : ap o p = n
      · rw [c] at hk ⊢
        cases k with
        | zero => exact absurd hk (Nat.lt_irrefl _)
        | succ k =>
          rw [it_front h] at hk ⊢
          have e : redF n o p = ap o n := by unfold redF; rw [if_pos c]
          have hx : ap o n < n := by rw [← e]; exact red_lt h hp
          obtain ⟨k', e2⟩ := ih k (by omega) (ap o n) hx hk
          refine ⟨k' + 1, ?_⟩
          rw [e2, it_front (red_ord h |> fun _ => h), ap_red hp, e]
      · have e : redF n o p = ap o p := by unfold redF; rw [if_neg c]
        have hx : ap o p < n := by rw [← e]; exact red_lt h hp
        obtain ⟨k', e2⟩ := ih k (by omega) (ap o p) hx hk
        refine ⟨k' + 1, ?_⟩
        rw [e2, it_front h, ap_red hp, e]
theorem red_least (hs : s < n) : LeastP o s ↔ LeastP (red n o) s := by
  constructor
  · intro hl k
    obtain ⟨k', e⟩ := red_it1 h hs k
    rw [e]
    exact hl k'
  · intro hl k
    by_cases c : it o k s < n
    · obtain ⟨k', e⟩ := red_it2 h k s hs c
      rw [e]
      exact hl k'
    · omega
theorem red_cnt : cnt (n + 1) o = cnt n (red n o) + if ap o n = n then 1 else 0 := by
  unfold cnt
  rw [List.range_succ, List.filter_append, List.length_append]
  congr 1
  · congr 1
    refine List.filter_congr fun s hs => ?_
    rw [Bool.eq_iff_iff, isM_iff, isM_iff]
    exact red_least h (List.mem_range.mp hs)
  · have hn : ap o n < n + 1 := h.lt (by omega)
    by_cases c : ap o n = n
    · have : isM o n = true := isM_iff.mpr fun k => by
        have : it o k n = n := by
          induction k with
          | zero => rfl
          | succ k ih => show ap o (it o k n) = n; rw [ih, c]
        omega
      rw [if_pos c, List.filter_cons_of_pos this]
      rfl
    · have : isM o n = false := Bool.eq_false_iff.mpr fun z => by
        have := isM_iff.mp z 1
        have e : it o 1 n = ap o n := rfl
        omega
      rw [if_neg c, List.filter_cons_of_neg (by rw [this]; decide)]
      rfl
theorem red_at (hp : p < n) {j : Nat} (hj : j < n) (ej : ap o j = n) : ap (red n o) p = if p = j then ap o n else ap o p := by
  rw [ap_red hp]
  unfold redF
  by_cases c : p = j
  · subst c
    rw [if_pos ej, if_pos rfl]
  · rw [if_neg c, if_neg]
    intro z
    exact c (h.inj (by omega) (by omega) (by rw [z, ej]))
theorem red_invs : invs (n + 1) o % 2 = (invs n (red n o) + if ap o n = n then 0 else 1) % 2 := by
  have hn : ap o n < n + 1 := h.lt (by omega)
  have e0 : invs (n + 1) o = pr n (iv o) + sm (fun i => iv o i n) (List.range n) := sm_range_succ _ n
  rw [e0]
  by_cases c : ap o n = n
  · rw [if_pos c, Nat.add_zero]
    have z : sm (fun i => iv o i n) (List.range n) = 0 := by
      have e : sm (fun i => iv o i n) (List.range n) = sm (fun _ => 0) (List.range n) := sm_congr fun i hi => by
        have := h.lt (p := i) (by have := List.mem_range.mp hi; omega)
        unfold iv
        rw [c, if_neg (by omega)]
      rw [e, sm_zero]
    have e : pr n (iv o) = invs n (red n o) := by
      unfold invs pr
      refine sm_congr fun j hj => sm_congr fun i hi => ?_
      have hj := List.mem_range.mp hj
      have hi := List.mem_range.mp hi
      have k : ∀ p, p < n → ap (red n o) p = ap o p := fun p hp => by
        rw [ap_red hp]
        unfold redF
        rw [if_neg]
        intro z
        have := h.inj (p := p) (q := n) (by omega) (by omega) (by rw [z, c])
        omega
      unfold iv
      rw [k j hj, k i (by omega)]
    rw [z, e]
    rfl
  · rw [if_neg c]
    have hx : ap o n < n := by omega
    obtain ⟨j, hj, ej⟩ : ∃ j, j < n ∧ ap o j = n := by
      have h1 := (inv_ord h).lt (p := n) (by omega)
      have h2 := ap_inv_ap h (p := n) (by omega)
      refine ⟨ap (inv o) n, ?_, h2⟩
      have : ap (inv o) n ≠ n := fun z => by rw [z] at h2; exact c h2
      omega
    have le : ∀ p, p < n → p ≠ j → ap o p < n := fun p hp hpj => by
      have h1 := h.lt (p := p) (by omega)
      have : ap o p ≠ n := fun z => hpj (h.inj (by omega) (by omega) (by rw [z, ej]))
      omega
    have key : ∀ m, m ≤ n → (sm (fun k => sm (fun i => iv o i k) (List.range k)) (List.range m) + sm (fun i => iv o i n) (List.range m)) % 2 = (sm (fun k => sm (fun i => iv (red n o) i k) (List.range k)) (List.range m) + if m ≤ j then sm (fun i => iv o i n) (List.range m) else 1) % 2 := by
      intro m
      induction m with
      | zero => intro _; rw [if_pos (Nat.zero_le _)]; rfl
      | succ m ih =>
        intro hm
        have ih := ih (by omega)
        rw [sm_range_succ, sm_range_succ, sm_range_succ]
        have ivr : ∀ i k, i < n → k < n → iv (red n o) i k = if (if k = j then ap o n else ap o k) < (if i = j then ap o n else ap o i) then 1 else 0 := fun i k hi hk => by
          unfold iv
          rw [red_at h hi hj ej, red_at h hk hj ej]
        rcases Nat.lt_trichotomy m j with d | d | d
        · rw [if_pos (by omega)] at ih ⊢
          have e : sm (fun i => iv o i m) (List.range m) = sm (fun i => iv (red n o) i m) (List.range m) := sm_congr fun i hi => by
            have hi := List.mem_range.mp hi
            have q1 : ¬ m = j := by omega
            have q2 : ¬ i = j := by omega
            rw [ivr i m (by omega) (by omega)]
            simp only [if_neg q1, if_neg q2]
            rfl
          rw [e]
          omega
        · subst d
          rw [if_pos (Nat.le_refl _)] at ih
          rw [if_neg (by omega)]
          have e1 : sm (fun i => iv o i m) (List.range m) = 0 := by
            have e : sm (fun i => iv o i m) (List.range m) = sm (fun _ => 0) (List.range m) := sm_congr fun i hi => by
              have := h.lt (p := i) (by have := List.mem_range.mp hi; omega)
              unfold iv
              rw [ej, if_neg (by omega)]
            rw [e, sm_zero]
          have e2 : sm (fun i => iv (red n o) i m) (List.range m) = sm (fun i => iv o i n) (List.range m) := sm_congr fun i hi => by
            have hi := List.mem_range.mp hi
            have q2 : ¬ i = m := by omega
            rw [ivr i m (by omega) (by omega)]
            simp only [↓reduceIte, if_neg q2]
            rfl
          have e3 : iv o m n = 1 := by
            unfold iv
            rw [ej, if_pos hx]
          rw [e1, e2, e3]
          omega
        · rw [if_neg (by omega)] at ih ⊢
          have e := sm_one (f := fun i => iv o i m) (g := fun i => iv (red n o) i m) (m := m) d fun i hi hne => by
            show iv o i m = iv (red n o) i m
            have q1 : ¬ m = j := by omega
            rw [ivr i m (by omega) (by omega)]
            simp only [if_neg q1, if_neg hne]
            rfl
          have hmj : ap o m < n := le m (by omega) (by omega)
          have e1 : iv o j m = 1 := by
            unfold iv
            rw [ej, if_pos hmj]
          have e2 : iv (red n o) j m = if ap o m < ap o n then 1 else 0 := by
            have q1 : ¬ m = j := by omega
            rw [ivr j m (by omega) (by omega)]
            simp only [if_neg q1, ↓reduceIte]
          have e3 : iv o m n = if ap o n < ap o m then 1 else 0 := rfl
          have hne : ap o m ≠ ap o n := fun z => by have := h.inj (p := m) (q := n) (by omega) (by omega) z; omega
          simp only [e1, e2] at e
          rw [e3]
          by_cases w : ap o m < ap o n
          · rw [if_pos w] at e
            rw [if_neg (by omega)]
            omega
          · rw [if_neg w] at e
            rw [if_pos (by omega)]
            omega
    have := key n (Nat.le_refl _)
    rw [if_neg (by omega)] at this
    exact this
end
/-- n places: an even number of pairs is turned round where n less the rounds is even -/
theorem parity : ∀ (n : Nat) (o : List Nat), Ord n o → (invs n o + cnt n o) % 2 = n % 2
  | 0, o, _ => rfl
  | n + 1, o, h => by
    have ih := parity n (red n o) (red_ord h)
    have e1 := red_invs h
    have e2 := red_cnt h
    rw [e2]
    by_cases c : ap o n = n
    · rw [if_pos c] at e1 ⊢
      omega
    · rw [if_neg c] at e1 ⊢
      omega
theorem cnt_le (n : Nat) (o : List Nat) : cnt n o ≤ n := by
  unfold cnt
  exact Nat.le_trans (List.length_filter_le _ _) (by rw [List.length_range]; exact Nat.le_refl _)
/-! the rounds, one by one -/
noncomputable def perL (n : Nat) (o : List Nat) (s : Nat) : Nat := @dite Nat (∃ L, Per n o s L) (Classical.propDecidable _) (fun h => Classical.choose h) (fun _ => 0)
theorem perL_ok (h : Ord n o) (hs : s < n) : Per n o s (perL n o s) := by
  have e := per_ex h hs
  unfold perL
  rw [dif_pos e]
  exact Classical.choose_spec e
noncomputable def rdsL (n : Nat) (o : List Nat) (k : Nat) : List (List Nat) := ((List.range k).filter (isM o)).map fun s => cyc o s (perL n o s)
theorem rdsL_succ (k : Nat) : rdsL n o (k + 1) = if isM o k = true then rdsL n o k ++ [cyc o k (perL n o k)] else rdsL n o k := by
  unfold rdsL
  rw [List.range_succ, List.filter_append, List.map_append]
  cases e : isM o k
  · rw [List.filter_cons_of_neg (by rw [e]; decide)]
    simp
  · rw [List.filter_cons_of_pos e]
    simp
theorem rdsL_len : (rdsL n o n).length = cnt n o := by unfold rdsL cnt; rw [List.length_map]
end
end Od

set_option Elab.async false
set_option linter.all false
set_option maxRecDepth 100000
set_option maxHeartbeats 1000000
/-! rounds one by one, their lengths; no program -/
namespace Od
open List
section
variable {n : Nat} {o a b : List Nat} {p q s L k : Nat}
theorem leastP_cyc (hL : Per n o s L) : LeastP o s ↔ ∀ x ∈ cyc o s L, s ≤ x := by
  constructor
  · intro h x hx
    obtain ⟨j, rfl⟩ := (mem_cyc hL.pos hL.back).mp hx
    exact h j
  · intro h j
    exact h _ ((mem_cyc hL.pos hL.back).mpr ⟨j, rfl⟩)
/-- back again -/
theorem it_back (hL : Per n o s L) (k : Nat) : it o (L * (k + 1) - k) (it o k s) = s := by
  have hk : k ≤ L * (k + 1) := by
    have := hL.pos
    have : 1 * (k + 1) ≤ L * (k + 1) := Nat.mul_le_mul this (Nat.le_refl _)
    omega
  rw [← it_add, show L * (k + 1) - k + k = L * (k + 1) by omega, it_mul hL.back]
theorem rds_no (h : Ord n o) (hk : k < n) (hw : ∃ w ∈ rdsL n o k, k ∈ w) : isM o k = false := by
  obtain ⟨w, hw, hk2⟩ := hw
  unfold rdsL at hw
  obtain ⟨s, hs, rfl⟩ := List.mem_map.mp hw
  have hs := List.mem_range.mp (List.mem_filter.mp hs).1
  have hL := perL_ok h (s := s) (by omega)
  obtain ⟨j, rfl⟩ := (mem_cyc hL.pos hL.back).mp hk2
  refine Bool.eq_false_iff.mpr fun z => ?_
  have := isM_iff.mp z (perL n o s * (j + 1) - j)
  rw [it_back hL] at this
  omega
theorem rds_yes (h : Ord n o) (hk : k < n) (hm : isM o k = false) : ∃ w ∈ rdsL n o k, k ∈ w := by
  have hn : ¬ LeastP o k := fun z => by rw [isM_iff.mpr z] at hm; cases hm
  obtain ⟨m, hmk, hmin, hless⟩ := least (P := fun m => ∃ j, m = it o j k) k ⟨0, rfl⟩
  obtain ⟨j, rfl⟩ := hmin
  have hl : LeastP o (it o j k) := fun i => by
    apply Classical.byContradiction
    intro c
    exact hless _ (by omega) ⟨i + j, (it_add o j i k).symm⟩
  have hlt : it o j k < k := by
    apply Classical.byContradiction
    intro c
    have e : it o j k = k := by omega
    rw [e] at hl
    exact hn hl
  have hs : it o j k < n := by omega
  have hM := perL_ok h hs
  have hK := perL_ok h hk
  refine ⟨cyc o (it o j k) (perL n o (it o j k)), List.mem_map.mpr ⟨it o j k, List.mem_filter.mpr ⟨List.mem_range.mpr hlt, isM_iff.mpr hl⟩, rfl⟩, ?_⟩
  exact (mem_cyc hM.pos hM.back).mpr ⟨perL n o k * (j + 1) - j, (it_back hK j).symm⟩
theorem rds_len (h : Ord n o) : ∀ w ∈ rdsL n o n, ∃ s, s < n ∧ Per n o s w.length ∧ w = cyc o s w.length := fun w hw => by
  unfold rdsL at hw
  obtain ⟨s, hs, rfl⟩ := List.mem_map.mp hw
  have hs := List.mem_range.mp (List.mem_filter.mp hs).1
  rw [cyc_len]
  exact ⟨s, hs, perL_ok h hs, rfl⟩
theorem rds_all (h : Ord n o) (hp : p < n) : ∃ w ∈ rdsL n o n, p ∈ w := by
  cases e : isM o p with
  | true => 
    have hL := perL_ok h hp
    exact ⟨cyc o p (perL n o p), List.mem_map.mpr ⟨p, List.mem_filter.mpr ⟨List.mem_range.mpr hp, e⟩, rfl⟩, (mem_cyc hL.pos hL.back).mpr ⟨0, rfl⟩⟩
  | false =>
    obtain ⟨w, hw, hm⟩ := rds_yes h hp e
    unfold rdsL at hw
    obtain ⟨s, hs, rfl⟩ := List.mem_map.mp hw
    have h1 := List.mem_filter.mp hs
    have h2 := List.mem_range.mp h1.1
    exact ⟨_, List.mem_map.mpr ⟨s, List.mem_filter.mpr ⟨List.mem_range.mpr (by omega), h1.2⟩, rfl⟩, hm⟩
theorem rds_Rds (h : Ord n o) : Rds n o (rdsL n o n) := ⟨fun w hw => by
  obtain ⟨s, hs, hp, e⟩ := rds_len h w hw
  exact ⟨s, w.length, hs, hp, e⟩, fun p hp => rds_all h hp⟩
/-! the least common multiple -/
def tn (ls : List Nat) : Nat := ls.foldl Nat.lcm 1
theorem fold_dvd : ∀ (ls : List Nat) (x : Nat), x ∣ ls.foldl Nat.lcm x ∧ ∀ l ∈ ls, l ∣ ls.foldl Nat.lcm x
  | [], x => ⟨Nat.dvd_refl _, fun _ h => nomatch h⟩
  | l :: ls, x => by
    obtain ⟨h1, h2⟩ := fold_dvd ls (Nat.lcm x l)
    refine ⟨Nat.dvd_trans (Nat.dvd_lcm_left x l) h1, fun y hy => ?_⟩
    rcases List.mem_cons.mp hy with rfl | hy
    · exact Nat.dvd_trans (Nat.dvd_lcm_right x y) h1
    · exact h2 y hy
theorem fold_least : ∀ (ls : List Nat) (x y : Nat), x ∣ y → (∀ l ∈ ls, l ∣ y) → ls.foldl Nat.lcm x ∣ y
  | [], x, y, h, _ => h
  | l :: ls, x, y, h, k => fold_least ls _ y (Nat.lcm_dvd h (k l List.mem_cons_self)) fun z hz => k z (List.mem_cons_of_mem _ hz)
theorem fold_pos : ∀ (ls : List Nat) (x : Nat), 1 ≤ x → (∀ l ∈ ls, 1 ≤ l) → 1 ≤ ls.foldl Nat.lcm x
  | [], _, h, _ => h
  | l :: ls, x, h, k => fold_pos ls _ (Nat.lcm_pos h (k l List.mem_cons_self)) fun z hz => k z (List.mem_cons_of_mem _ hz)
theorem pw_still (h : Ord n o) {T : Nat} (hT : ∀ w ∈ rdsL n o n, w.length ∣ T) : pw n o (T : Int) = List.range n := by
  rw [pw_pos _ (Int.natCast_nonneg T), Int.toNat_natCast]
  have e : (List.range n).map (fun p => it o T p) = (List.range n).map id := List.map_congr_left fun p hp => by
    obtain ⟨w, hw, hm⟩ := rds_all h (List.mem_range.mp hp)
    obtain ⟨s, hs, hP, e⟩ := rds_len h w hw
    have hd := hT w hw
    rw [e] at hm
    obtain ⟨k, rfl⟩ := (mem_cyc hP.pos hP.back).mp hm
    obtain ⟨c, hc⟩ := hd
    rw [← it_add, Nat.add_comm, it_add, hc, it_mul hP.back]
    rfl
  rw [e, List.map_id]
theorem sm_filter (f : Nat → Bool) : ∀ l : List Nat, (l.filter f).length = sm (fun x => if f x = true then 1 else 0) l
  | [] => rfl
  | x :: l => by
    have ih := sm_filter f l
    unfold sm at ih ⊢
    rw [List.map_cons, List.sum_cons, ← ih]
    cases e : f x
    · rw [List.filter_cons_of_neg (by rw [e]; decide)]
      simp
    · rw [List.filter_cons_of_pos e]
      simp
      omega
end
end Od

set_option Elab.async false
set_option linter.all false
set_option maxRecDepth 100000
set_option maxHeartbeats 4000000
namespace DV
open PySem PySem.Spec PyProof.Rows L2 HdL Od
abbrev O (o : List Nat) : D := .tuple (o.map nI)
theorem O_map (f : Nat → Nat) (l : List Nat) : PyData.tuple (l.map fun p => nI (f p)) = O (l.map f) := by
  show PyData.tuple _ = PyData.tuple _
  rw [List.map_map]
  rfl
theorem enc_nI : Enc 0 nI := enc_int.comp (fun k : Nat => (k : Int)) fun a b h => by omega
theorem enc_O : Enc 1 O := enc_nI.tup
theorem neNN (m n : Nat) : dNe (nI m) (nI n) = some (.bool (!decide (m = n))) := by
  rw [dNe_i]
  congr 3
  rw [Bool.eq_iff_iff, beq_iff_eq, decide_eq_true_eq]
  omega
/-! sorted numbers -/
def srt (o : List Nat) : List Nat := o.mergeSort fun a b => decide (a ≤ b)
theorem le_nI (a b : Nat) : PySem.W.dataLe false id (nI a) (nI b) = decide (a ≤ b) := by
  show (!PySem.W.dataLt (nI b) (nI a)) = _
  rw [PySem.W.dataLt_int, Bool.eq_iff_iff, Bool.not_eq_true', decide_eq_false_iff_not, decide_eq_true_eq]
  omega
theorem srt_perm (o : List Nat) : (srt o).Perm o := List.mergeSort_perm _ _
theorem srt_range {n : Nat} {o : List Nat} (h : Ord n o) : srt o = List.range n := by
  refine List.Perm.eq_of_pairwise (le := fun a b => a ≤ b) (fun a b _ _ h1 h2 => by omega) ?_ ?_ ((srt_perm o).trans h)
  · have := List.pairwise_mergeSort (le := fun a b : Nat => decide (a ≤ b)) (fun a b c h1 h2 => by simp at *; omega) (fun a b => by simp; omega) o
    exact this.imp fun {a b} h => by simpa using h
  · exact (List.pairwise_lt_range).imp fun {a b} h => Nat.le_of_lt h
theorem dSortA_O (o : List Nat) : dSortA [O o] = some (.list ((srt o).map nI)) := by
  have h1 : alikeB (o.map nI) = true := alikeB_mk (nd_map (fun _ => rfl) o) fun d hd => List.all_eq_true.mpr fun e he => by
    obtain ⟨a, _, rfl⟩ := List.mem_map.mp hd
    obtain ⟨b, _, rfl⟩ := List.mem_map.mp he
    rfl
  have h2 : sortB (o.map nI) = true := by
    refine Bool.or_eq_true_iff.mpr (.inr (List.all_eq_true.mpr fun d hd => ?_))
    obtain ⟨a, _, rfl⟩ := List.mem_map.mp hd
    rfl
  have h3 : PyData.depthAll (o.map nI) ≤ 62 := Nat.le_trans (lay_all (n := 0) fun d hd => by
    obtain ⟨a, _, rfl⟩ := List.mem_map.mp hd
    exact lay_int _).2 (by decide)
  have h4 : sortD (o.map nI) = (srt o).map nI := (List.map_mergeSort fun a _ b _ => (le_nI a b).symm).symm
  show iteP _ _ _ = _
  rw [iteP_pos ⟨h1, h2, h3⟩, h4]
/-- the sizes -/
def Sz (n : Nat) : Prop := 1 ≤ n ∧ n ≤ 24
/-! still, done, undone -/
theorem still_run {n : Nat} (hn : Sz n) : F_still [.val (nI n)] = ret (O (List.range n)) := by
  rw [run_still]
  unfold pk_still
  simp only [seqS_eq, bndr, bndb, slot0, slotS, slotW0, slotW0o, slotWS, slotD0, slotDS, ownS0, ownSS, frz_v, frz_o, frz_d, frz_n, frz_nil, lift_some, toB_bool, truth_bool, itemsD_l, itemsD_t, setV_eq, List.set_cons_zero, List.set_cons_succ, if_true, if_false, Bool.false_eq_true, Bool.not_false, Bool.not_true, Bool.true_and, Bool.and_true, dAdd_i, dSub_i, dLe_i, dLt_i, dLtD_i, dLeD_i, dGtD_i, dGeD_i, isI_ii, isI_bi, setIm, setVm, setIx, tupM, Option.bind_some, seqT_t, toI_i]
  rw [rgD_nat (n := n) (by have := hn.2; omega)]
  simp only [seqS_eq, bndr, bndb, slot0, slotS, slotW0, slotW0o, slotWS, slotD0, slotDS, ownS0, ownSS, frz_v, frz_o, frz_d, frz_n, frz_nil, lift_some, toB_bool, truth_bool, itemsD_l, itemsD_t, setV_eq, List.set_cons_zero, List.set_cons_succ, if_true, if_false, Bool.false_eq_true, Bool.not_false, Bool.not_true, Bool.true_and, Bool.and_true, dAdd_i, dSub_i, dLe_i, dLt_i, dLtD_i, dLeD_i, dGtD_i, dGeD_i, isI_ii, isI_bi, setIm, setVm, setIx, tupM, Option.bind_some, seqT_t, fin_rt]
theorem ixO {o : List Nat} {p : Nat} (h : p < o.length) : dIx (O o) (nI p) = some (nI (ap o p)) := dIx_tm (ap_get h)
theorem done_run {n : Nat} {a b : List Nat} (hn : Sz n) (ha : Ord n a) (hb : Ord n b) : F_done [.val (O a), .val (O b)] = ret (O (dn a b)) := by
  rw [run_done]
  unfold pk_done
  simp only [seqS_eq, bndr, bndb, slot0, slotS, slotW0, slotW0o, slotWS, slotD0, slotDS, ownS0, ownSS, frz_v, frz_o, frz_d, frz_n, frz_nil, lift_some, toB_bool, truth_bool, itemsD_l, itemsD_t, setV_eq, List.set_cons_zero, List.set_cons_succ, if_true, if_false, Bool.false_eq_true, Bool.not_false, Bool.not_true, Bool.true_and, Bool.and_true, dAdd_i, dSub_i, dLe_i, dLt_i, dLtD_i, dLeD_i, dGtD_i, dGeD_i, isI_ii, isI_bi, setIm, setVm, setIx, tupM, Option.bind_some, seqT_t]
  unfold tupF
  rw [lcF_map a nI (fun p => nI (ap b p)) (by simp only [wipeR, List.map_cons, List.map_nil, seqS_eq, bndr, bndb, slot0, slotS, slotW0, slotW0o, slotWS, slotD0, slotDS, ownS0, ownSS, frz_v, frz_o, frz_d, frz_n, frz_nil, lift_some, toB_bool, truth_bool, itemsD_l, itemsD_t, setV_eq, List.set_cons_zero, List.set_cons_succ, if_true, if_false, Bool.false_eq_true, Bool.not_false, Bool.not_true, Bool.true_and, Bool.and_true, dAdd_i, dSub_i, dLe_i, dLt_i, dLtD_i, dLeD_i, dGtD_i, dGeD_i, isI_ii, isI_bi, setIm, setVm, setIx, tupM, Option.bind_some, seqT_t]) (by rw [ha.len]; have := hn.2; omega) fun p hp => ⟨_, rfl, rfl, by simp only [wipeR, List.map_cons, List.map_nil, seqS_eq, bndr, bndb, slot0, slotS, slotW0, slotW0o, slotWS, slotD0, slotDS, ownS0, ownSS, frz_v, frz_o, frz_d, frz_n, frz_nil, lift_some, toB_bool, truth_bool, itemsD_l, itemsD_t, setV_eq, List.set_cons_zero, List.set_cons_succ, if_true, if_false, Bool.false_eq_true, Bool.not_false, Bool.not_true, Bool.true_and, Bool.and_true, dAdd_i, dSub_i, dLe_i, dLt_i, dLtD_i, dLeD_i, dGtD_i, dGeD_i, isI_ii, isI_bi, setIm, setVm, setIx, tupM, Option.bind_some, seqT_t, ixO (o := b) (p := p) (by rw [hb.len]; exact ha.mem.mp hp)]⟩]
  simp only [seqS_eq, bndr, bndb, slot0, slotS, slotW0, slotW0o, slotWS, slotD0, slotDS, ownS0, ownSS, frz_v, frz_o, frz_d, frz_n, frz_nil, lift_some, toB_bool, truth_bool, itemsD_l, itemsD_t, setV_eq, List.set_cons_zero, List.set_cons_succ, if_true, if_false, Bool.false_eq_true, Bool.not_false, Bool.not_true, Bool.true_and, Bool.and_true, dAdd_i, dSub_i, dLe_i, dLt_i, dLtD_i, dLeD_i, dGtD_i, dGeD_i, isI_ii, isI_bi, setIm, setVm, setIx, tupM, Option.bind_some, seqT_t, fin_rt]
  unfold dn
  rw [O_map (ap b)]
theorem enum_O (o : List Nat) : enumL (o.map nI) = (List.range o.length).map fun (i : Nat) => C ((i : Int), (ap o i : Int)) := by
  unfold enumL
  apply List.ext_getElem?
  intro i
  rw [List.getElem?_mapIdx, List.getElem?_map, List.getElem?_map]
  by_cases h : i < o.length
  · rw [ap_get h, List.getElem?_range h]; rfl
  · rw [List.getElem?_eq_none (by omega), List.getElem?_eq_none (by rw [List.length_range]; omega)]; rfl
def pairsL (n : Nat) (o : List Nat) : List Pr := (List.range n).map fun (i : Nat) => ((ap o i : Int), (i : Int))
def pairsS (n : Nat) (o : List Nat) : List Pr := (List.range n).map fun (k : Nat) => ((k : Int), (ap (inv o) k : Int))
theorem pairs_sort {n : Nat} {o : List Nat} (h : Ord n o) : sortC (pairsL n o) = pairsS n o := by
  have e : pairsL n o = o.map fun (k : Nat) => ((k : Int), (ap (inv o) k : Int)) := by
    unfold pairsL
    have key : ∀ g : Nat → Pr, o.map g = (List.range n).map fun i => g (ap o i) := fun g => by
      conv => lhs; rw [range_eq h.len]
      rw [List.map_map]
      rfl
    rw [key]
    refine List.map_congr_left fun i hi => ?_
    show _ = (((ap o i : Nat) : Int), ((ap (inv o) (ap o i) : Nat) : Int))
    rw [inv_ap h (List.mem_range.mp hi)]
  refine sortC_eq (by rw [e]; exact h.map _) ?_
  unfold pairsS Asc
  rw [List.pairwise_map]
  exact List.pairwise_lt_range.imp fun {a b} (hab : a < b) => ltC_iff.mpr (.inl (Int.ofNat_lt.mpr hab))
theorem undone_run {n : Nat} {o : List Nat} (hn : Sz n) (h : Ord n o) : F_undone [.val (O o)] = ret (O (inv o)) := by
  rw [run_undone]
  unfold pk_undone
  have hl := h.len
  have := hn.2
  have hen : enumD [O o] = ret ((List.range n).map fun (i : Nat) => C ((i : Int), (ap o i : Int))) := by
    show ret (enumL (o.map nI)) = _
    rw [enum_O, hl]
  simp only [seqS_eq, bndr, bndb, slot0, slotS, slotW0, slotW0o, slotWS, slotD0, slotDS, ownS0, ownSS, frz_v, frz_o, frz_d, frz_n, frz_nil, lift_some, toB_bool, truth_bool, itemsD_l, itemsD_t, setV_eq, List.set_cons_zero, List.set_cons_succ, if_true, if_false, Bool.false_eq_true, Bool.not_false, Bool.not_true, Bool.true_and, Bool.and_true, dAdd_i, dSub_i, dLe_i, dLt_i, dLtD_i, dLeD_i, dGtD_i, dGeD_i, isI_ii, isI_bi, setIm, setVm, setIx, tupM, Option.bind_some, seqT_t]
  unfold tupF sortF
  rw [lcF_map (List.range n) (fun (k : Nat) => C ((k : Int), (ap (inv o) k : Int))) (fun k => nI (ap (inv o) k)) ?_ (by rw [List.length_range]; omega) fun p hp => ⟨_, rfl, rfl, by simp only [wipeR, List.map_cons, List.map_nil, seqS_eq, bndr, bndb, slot0, slotS, slotW0, slotW0o, slotWS, slotD0, slotDS, ownS0, ownSS, frz_v, frz_o, frz_d, frz_n, frz_nil, lift_some, toB_bool, truth_bool, itemsD_l, itemsD_t, setV_eq, List.set_cons_zero, List.set_cons_succ, if_true, if_false, Bool.false_eq_true, Bool.not_false, Bool.not_true, Bool.true_and, Bool.and_true, dAdd_i, dSub_i, dLe_i, dLt_i, dLtD_i, dLeD_i, dGtD_i, dGeD_i, isI_ii, isI_bi, setIm, setVm, setIx, tupM, Option.bind_some, seqT_t]⟩]
  · simp only [seqS_eq, bndr, bndb, slot0, slotS, slotW0, slotW0o, slotWS, slotD0, slotDS, ownS0, ownSS, frz_v, frz_o, frz_d, frz_n, frz_nil, lift_some, toB_bool, truth_bool, itemsD_l, itemsD_t, setV_eq, List.set_cons_zero, List.set_cons_succ, if_true, if_false, Bool.false_eq_true, Bool.not_false, Bool.not_true, Bool.true_and, Bool.and_true, dAdd_i, dSub_i, dLe_i, dLt_i, dLtD_i, dLeD_i, dGtD_i, dGeD_i, isI_ii, isI_bi, setIm, setVm, setIx, tupM, Option.bind_some, seqT_t, fin_rt]
    have e : inv o = (List.range n).map (ap (inv o)) := range_eq (by rw [inv_len, hl])
    conv => rhs; rw [e]
    rw [O_map (ap (inv o))]
  · simp only [wipeR, List.map_cons, List.map_nil, seqS_eq, bndr, bndb, slot0, slotS, slotW0, slotW0o, slotWS, slotD0, slotDS, ownS0, ownSS, frz_v, frz_o, frz_d, frz_n, frz_nil, lift_some, toB_bool, truth_bool, itemsD_l, itemsD_t, setV_eq, List.set_cons_zero, List.set_cons_succ, if_true, if_false, Bool.false_eq_true, Bool.not_false, Bool.not_true, Bool.true_and, Bool.and_true, dAdd_i, dSub_i, dLe_i, dLt_i, dLtD_i, dLeD_i, dGtD_i, dGeD_i, isI_ii, isI_bi, setIm, setVm, setIx, tupM, Option.bind_some, seqT_t]
    rw [lcF_map (List.range n) (fun (i : Nat) => C ((i : Int), (ap o i : Int))) (fun (i : Nat) => C ((ap o i : Int), (i : Int))) (by simp only [wipeR, List.map_cons, List.map_nil, seqS_eq, bndr, bndb, slot0, slotS, slotW0, slotW0o, slotWS, slotD0, slotDS, ownS0, ownSS, frz_v, frz_o, frz_d, frz_n, frz_nil, lift_some, toB_bool, truth_bool, itemsD_l, itemsD_t, setV_eq, List.set_cons_zero, List.set_cons_succ, if_true, if_false, Bool.false_eq_true, Bool.not_false, Bool.not_true, Bool.true_and, Bool.and_true, dAdd_i, dSub_i, dLe_i, dLt_i, dLtD_i, dLeD_i, dGtD_i, dGeD_i, isI_ii, isI_bi, setIm, setVm, setIx, tupM, Option.bind_some, seqT_t]; exact hen) (by rw [List.length_range]; omega) fun p hp => ⟨_, rfl, rfl, by simp only [wipeR, List.map_cons, List.map_nil, seqS_eq, bndr, bndb, slot0, slotS, slotW0, slotW0o, slotWS, slotD0, slotDS, ownS0, ownSS, frz_v, frz_o, frz_d, frz_n, frz_nil, lift_some, toB_bool, truth_bool, itemsD_l, itemsD_t, setV_eq, List.set_cons_zero, List.set_cons_succ, if_true, if_false, Bool.false_eq_true, Bool.not_false, Bool.not_true, Bool.true_and, Bool.and_true, dAdd_i, dSub_i, dLe_i, dLt_i, dLtD_i, dLeD_i, dGtD_i, dGeD_i, isI_ii, isI_bi, setIm, setVm, setIx, tupM, Option.bind_some, seqT_t, mkTn0, mkTn1, mkTn2, mkTn3, mkTn4, mkTn5, mkTn6, mkTn7, mkTn8, mkLn0, mkLn1, mkLn2, mkLn3, mkLn4, mkLn5, mkLn6, mkLn7, mkLn8, mkLn9, mkLn10, mkLn11, mkLn12, mkLn13, mkLn14, mkLn15, mkLn16]; rfl⟩]
    have e2 : ((List.range n).map fun (i : Nat) => C ((ap o i : Int), (i : Int))) = (pairsL n o).map C := by unfold pairsL; rw [List.map_map]; rfl
    have e3 : ((List.range n).map fun (k : Nat) => C ((k : Int), (ap (inv o) k : Int))) = (pairsS n o).map C := by unfold pairsS; rw [List.map_map]; rfl
    rw [e2, e3]
    simp only [seqS_eq, bndr, bndb, slot0, slotS, slotW0, slotW0o, slotWS, slotD0, slotDS, ownS0, ownSS, frz_v, frz_o, frz_d, frz_n, frz_nil, lift_some, toB_bool, truth_bool, itemsD_l, itemsD_t, setV_eq, List.set_cons_zero, List.set_cons_succ, if_true, if_false, Bool.false_eq_true, Bool.not_false, Bool.not_true, Bool.true_and, Bool.and_true, dAdd_i, dSub_i, dLe_i, dLt_i, dLtD_i, dLeD_i, dGtD_i, dGeD_i, isI_ii, isI_bi, setIm, setVm, setIx, tupM, Option.bind_some, seqT_t, dSortA_C, pairs_sort h]
end DV

set_option Elab.async false
set_option linter.all false
set_option maxRecDepth 100000
set_option maxHeartbeats 2000000
/-! loops that end well, told by what stands behind them -/
namespace DV
open PySem PySem.Spec PyProof.Rows L2
section
variable {α : Type} {hh : D → Rho → Option Rho} {body : Rho → M Out} {ρ : Rho}
theorem for_preE (f : α → D) (I : List α → Rho → Prop) (xs : List α) (h0 : I [] ρ) (h : ∀ pre x post, xs = pre ++ x :: post → ∀ ρ, I pre ρ → ∃ ρ1 ρ2, hh (f x) ρ = some ρ1 ∧ body ρ1 = ret (.nx ρ2) ∧ I (pre ++ [x]) ρ2) : ∃ ρ', forD hh body (xs.map f) ρ = ret (.nx ρ') ∧ I xs ρ' :=
  forD_pre f I xs xs [] ρ rfl h0 h
theorem for_ixE (f : Nat → D) (I : Nat → Rho → Prop) (n : Nat) (h0 : I 0 ρ) (h : ∀ i, i < n → ∀ ρ, I i ρ → ∃ ρ1 ρ2, hh (f i) ρ = some ρ1 ∧ body ρ1 = ret (.nx ρ2) ∧ I (i + 1) ρ2) : ∃ ρ', forD hh body ((List.range n).map f) ρ = ret (.nx ρ') ∧ I n ρ' := by
  obtain ⟨ρ', e, i⟩ := for_preE (hh := hh) (body := body) f (fun pre ρ => I pre.length ρ) (List.range n) h0 (fun pre i post e ρ hi => by
    obtain ⟨h1, h2⟩ := range_pre e
    have hl : pre.length = i := by rw [h2, List.length_range]
    obtain ⟨ρ1, ρ2, a, b, c⟩ := h i h1 ρ (by rw [← hl]; exact hi)
    exact ⟨ρ1, ρ2, a, b, by rw [List.length_append, hl]; exact c⟩)
  rw [List.length_range] at i
  exact ⟨ρ', e, i⟩
theorem while_runE {t : Rho → M Bool} (I : Nat → Rho → Prop) : ∀ (k j N : Nat) (ρ : Rho), k < N → I j ρ → (∀ i, j ≤ i → i < j + k → ∀ ρ, I i ρ → t ρ = ret true ∧ ∃ ρ2, body ρ = ret (.nx ρ2) ∧ I (i + 1) ρ2) → (∀ ρ, I (j + k) ρ → t ρ = ret false) → ∃ ρ', whileD t body N ρ = ret (.nx ρ') ∧ I (j + k) ρ'
  | 0, j, N + 1, ρ, _, i0, _, he => by
    have e := he ρ i0
    refine ⟨ρ, ?_, i0⟩
    show bnd (t ρ) _ = _
    rw [e, bnd_ret]
    rfl
  | k + 1, j, N + 1, ρ, hN, i0, h, he => by
    obtain ⟨e1, ρ2, e2, i2⟩ := h j (Nat.le_refl _) (by omega) ρ i0
    obtain ⟨ρ', e3, i3⟩ := while_runE I k (j + 1) N ρ2 (by omega) i2 (fun i h1 h2 => h i (by omega) (by omega)) (fun ρ q => he ρ (by rw [show j + (k + 1) = j + 1 + k by omega]; exact q))
    refine ⟨ρ', ?_, by rw [show j + (k + 1) = j + 1 + k by omega]; exact i3⟩
    show bnd (t ρ) _ = _
    rw [e1, bnd_ret, if_pos rfl, e2, bnd_ret]
    exact e3
  | _, _, 0, _, h, _, _, _ => absurd h (Nat.not_lt_zero _)
theorem while_run {t : Rho → M Bool} (I : Nat → Rho → Prop) (k N : Nat) (hN : k < N) (h0 : I 0 ρ) (h : ∀ i, i < k → ∀ ρ, I i ρ → t ρ = ret true ∧ ∃ ρ2, body ρ = ret (.nx ρ2) ∧ I (i + 1) ρ2) (he : ∀ ρ, I k ρ → t ρ = ret false) : ∃ ρ', whileD t body N ρ = ret (.nx ρ') ∧ I k ρ' := by
  have := while_runE I k 0 N ρ hN h0 (fun i _ h2 => h i (by omega)) (fun ρ q => he ρ (by rw [Nat.zero_add] at q; exact q))
  rw [Nat.zero_add] at this
  exact this
end
theorem frzI0 (d : D) (r : Rho) : frzI 0 (some (.own d) :: r) = some (.val d) :: r := (rfl)
theorem frzIS (x : Option Sl) (r : Rho) (i : Nat) : frzI (i + 1) (x :: r) = x :: frzI i r := by
  unfold frzI
  rw [List.getElem?_cons_succ]
  rcases r[i]? with _ | (_ | (d | d | _ | _ | _)) <;> rfl
end DV

set_option Elab.async false
set_option linter.all false
set_option maxRecDepth 100000
set_option maxHeartbeats 4000000
namespace DV
open PySem PySem.Spec PyProof.Rows L2 HdL Od
def IsR (n : Nat) (o w : List Nat) : Prop := ∃ s L, s < n ∧ Per n o s L ∧ w = cyc o s L
theorem neN2 (m n : Nat) : dNe (nI m) (nI n) = some (.bool (!decide (m = n))) := neNN m n
theorem cyc_snoc (o : List Nat) (s i : Nat) : cyc o s (i + 1) = cyc o s i ++ [it o i s] := by
  unfold cyc
  rw [List.range_succ, List.map_append]
  rfl
structure RInv (n : Nat) (o : List Nat) (k : Nat) (ws : List (List Nat)) (bs : List Bool) : Prop where
  eq : ws = rdsL n o k
  len : bs.length = n
  been : ∀ p, p < n → (bs[p]? = some true ↔ ∃ w ∈ ws, p ∈ w)
  few : ws.length ≤ k
theorem setB_get (ps : List Nat) : ∀ (bs : List Bool) (p : Nat), p < bs.length → (ps.foldl (fun b q => b.set q true) bs)[p]? = if p ∈ ps then some true else bs[p]? := by
  induction ps with
  | nil => intro bs p _; simp
  | cons q ps ih =>
    intro bs p h
    rw [List.foldl_cons, ih _ p (by rw [List.length_set]; exact h)]
    by_cases h1 : p ∈ ps
    · rw [if_pos h1, if_pos (List.mem_cons_of_mem _ h1)]
    · rw [if_neg h1]
      by_cases h2 : p = q
      · subst h2
        rw [List.getElem?_set_self h, if_pos List.mem_cons_self]
      · rw [List.getElem?_set_ne (Ne.symm h2), if_neg (fun z => (List.mem_cons.mp z).elim h2 h1)]
theorem setB_len (ps : List Nat) : ∀ (bs : List Bool), (ps.foldl (fun b q => b.set q true) bs).length = bs.length := by
  induction ps with
  | nil => intro bs; rfl
  | cons q ps ih => intro bs; rw [List.foldl_cons, ih, List.length_set]
theorem ixN_nat {n k : Nat} (h : k < n) : ixN n (k : Int) = some k := by
  unfold ixN
  rw [if_pos (by omega), if_pos (by omega), Int.toNat_natCast]
theorem bexE {β : Type} {m : M Out} {fo : Out → M D} {g : β → D} {P : β → Prop} {I : Rho → Prop} (h : ∃ ρ', m = ret (.nx ρ') ∧ I ρ') (k : ∀ ρ', I ρ' → ∃ b, fo (.nx ρ') = ret (g b) ∧ P b) : ∃ b, bnd m fo = ret (g b) ∧ P b := by
  obtain ⟨ρ', e, i⟩ := h
  obtain ⟨b, e2, p⟩ := k ρ' i
  exact ⟨b, by rw [e, bnd_ret]; exact e2, p⟩
/-- a part that ends well within a body -/
theorem bexS {m : M Out} {fo : Out → M Out} {I J : Rho → Prop} (h : ∃ ρ', m = ret (.nx ρ') ∧ I ρ') (k : ∀ ρ', I ρ' → ∃ ρ2, fo (.nx ρ') = ret (.nx ρ2) ∧ J ρ2) : ∃ ρ2, bnd m fo = ret (.nx ρ2) ∧ J ρ2 := by
  obtain ⟨ρ', e, i⟩ := h
  obtain ⟨b, e2, p⟩ := k ρ' i
  exact ⟨b, by rw [e, bnd_ret]; exact e2, p⟩
theorem rounds_run {n : Nat} {o : List Nat} (hn : Sz n) (h : Ord n o) : ∃ ws, F_rounds [.val (O o)] = ret (.list (ws.map O)) ∧ ws = rdsL n o n ∧ ws.length ≤ n := by
  rw [run_rounds]
  unfold pk_rounds
  have hl := h.len
  have hn2 := hn.2
  have e2 : dLen [O o] = some (nI n) := by rw [← hl]; exact dLen_tm _ _
  have r1 : rng1 [nI n] = ret ((List.range n).map nI) := rng1_m (by omega)
  simp only [seqS_eq, bndr, bndb, slot0, slotS, slotW0, slotW0o, slotWS, slotD0, slotDS, ownS0, ownSS, frz_v, frz_o, frz_d, frz_n, frz_nil, frzI0, frzIS, lift_some, toB_bool, truth_bool, itemsD_l, itemsD_t, setV_eq, List.set_cons_zero, List.set_cons_succ, if_true, if_false, Bool.false_eq_true, Bool.not_false, Bool.not_true, Bool.true_and, Bool.and_true, dAdd_i, dSub_i, dLe_i, dLt_i, dLtD_i, dLeD_i, dGtD_i, dGeD_i, isI_ii, isI_bi, setIm, setVm, setIx, tupM, Option.bind_some, seqT_t, e2, r1]
  rw [if_pos (by decide)]
  simp only [seqS_eq, bndr, bndb, slot0, slotS, slotW0, slotW0o, slotWS, slotD0, slotDS, ownS0, ownSS, frz_v, frz_o, frz_d, frz_n, frz_nil, frzI0, frzIS, lift_some, toB_bool, truth_bool, itemsD_l, itemsD_t, setV_eq, List.set_cons_zero, List.set_cons_succ, if_true, if_false, Bool.false_eq_true, Bool.not_false, Bool.not_true, Bool.true_and, Bool.and_true, dAdd_i, dSub_i, dLe_i, dLt_i, dLtD_i, dLeD_i, dGtD_i, dGeD_i, isI_ii, isI_bi, setIm, setVm, setIx, tupM, Option.bind_some, seqT_t]
  rw [lcF_map o nI (fun _ => PyData.bool false) (by simp only [wipeR, List.map_cons, List.map_nil, seqS_eq, bndr, bndb, slot0, slotS, slotW0, slotW0o, slotWS, slotD0, slotDS, ownS0, ownSS, frz_v, frz_o, frz_d, frz_n, frz_nil, frzI0, frzIS, lift_some, toB_bool, truth_bool, itemsD_l, itemsD_t, setV_eq, List.set_cons_zero, List.set_cons_succ, if_true, if_false, Bool.false_eq_true, Bool.not_false, Bool.not_true, Bool.true_and, Bool.and_true, dAdd_i, dSub_i, dLe_i, dLt_i, dLtD_i, dLeD_i, dGtD_i, dGeD_i, isI_ii, isI_bi, setIm, setVm, setIx, tupM, Option.bind_some, seqT_t]) (by omega) fun p hp => ⟨_, rfl, rfl, rfl⟩]
  simp only [seqS_eq, bndr, bndb, slot0, slotS, slotW0, slotW0o, slotWS, slotD0, slotDS, ownS0, ownSS, frz_v, frz_o, frz_d, frz_n, frz_nil, frzI0, frzIS, lift_some, toB_bool, truth_bool, itemsD_l, itemsD_t, setV_eq, List.set_cons_zero, List.set_cons_succ, if_true, if_false, Bool.false_eq_true, Bool.not_false, Bool.not_true, Bool.true_and, Bool.and_true, dAdd_i, dSub_i, dLe_i, dLt_i, dLtD_i, dLeD_i, dGtD_i, dGeD_i, isI_ii, isI_bi, setIm, setVm, setIx, tupM, Option.bind_some, seqT_t]
  refine bexE (g := fun (ws : List (List Nat)) => PyData.list (ws.map O)) (I := fun ρ => ∃ (ws : List (List Nat)) (bs : List Bool) (s3 s4 s5 s6 : Option Sl), ρ = [some (.val (O o)), some (.own (.list (ws.map O))), some (.own (.list (bs.map PyData.bool))), s3, s4, s5, s6] ∧ RInv n o n ws bs) ?_ ?_
  · refine for_ixE nI (fun k ρ => ∃ (ws : List (List Nat)) (bs : List Bool) (s3 s4 s5 s6 : Option Sl), ρ = [some (.val (O o)), some (.own (.list (ws.map O))), some (.own (.list (bs.map PyData.bool))), s3, s4, s5, s6] ∧ RInv n o k ws bs) n ⟨[], List.replicate n false, none, none, none, none, ?_, ⟨rfl, List.length_replicate, fun p hp => ⟨fun hp => ?_, fun ⟨w, hw, _⟩ => nomatch hw⟩, Nat.le_refl _⟩⟩ ?_
    · have e : (o.map fun _ => PyData.bool false) = (List.replicate n false).map PyData.bool := by
        rw [List.map_replicate, ← hl]
        exact List.map_const'
      rw [e]
      rfl
    · rw [List.getElem?_replicate] at hp
      split at hp
      · cases hp
      · cases hp
    · rintro k hk ρ ⟨ws, bs, s3, s4, s5, s6, rfl, iv⟩
      refine for_step rfl ?_
      obtain ⟨b, hb⟩ : ∃ b, bs[k]? = some b := ⟨_, List.getElem?_eq_getElem (by rw [iv.len]; exact hk)⟩
      have ib : dIx (.list (bs.map PyData.bool)) (nI k) = some (PyData.bool b) := dIx_lm hb
      simp only [seqS_eq, bndr, bndb, slot0, slotS, slotW0, slotW0o, slotWS, slotD0, slotDS, ownS0, ownSS, frz_v, frz_o, frz_d, frz_n, frz_nil, frzI0, frzIS, lift_some, toB_bool, truth_bool, itemsD_l, itemsD_t, setV_eq, List.set_cons_zero, List.set_cons_succ, if_true, if_false, Bool.false_eq_true, Bool.not_false, Bool.not_true, Bool.true_and, Bool.and_true, dAdd_i, dSub_i, dLe_i, dLt_i, dLtD_i, dLeD_i, dGtD_i, dGeD_i, isI_ii, isI_bi, setIm, setVm, setIx, tupM, Option.bind_some, seqT_t, ib]
      cases b with
      | true =>
        simp only [seqS_eq, bndr, bndb, slot0, slotS, slotW0, slotW0o, slotWS, slotD0, slotDS, ownS0, ownSS, frz_v, frz_o, frz_d, frz_n, frz_nil, frzI0, frzIS, lift_some, toB_bool, truth_bool, itemsD_l, itemsD_t, setV_eq, List.set_cons_zero, List.set_cons_succ, if_true, if_false, Bool.false_eq_true, Bool.not_false, Bool.not_true, Bool.true_and, Bool.and_true, dAdd_i, dSub_i, dLe_i, dLt_i, dLtD_i, dLeD_i, dGtD_i, dGeD_i, isI_ii, isI_bi, setIm, setVm, setIx, tupM, Option.bind_some, seqT_t]
        have hno : isM o k = false := rds_no h hk (by rw [← iv.eq]; exact (iv.been k hk).mp hb)
        exact ⟨_, rfl, ws, bs, _, _, _, _, rfl, by rw [rdsL_succ, hno, if_neg (by decide)]; exact iv.eq, iv.len, iv.been, Nat.le_succ_of_le iv.few⟩
      | false =>
        obtain ⟨L, eL⟩ : ∃ L, L = perL n o k := ⟨_, rfl⟩
        have hL : Per n o k L := by rw [eL]; exact perL_ok h hk
        have hL1 := hL.pos
        have hLn := hL.le
        have hyes : isM o k = true := by
          cases e : isM o k with
          | true => rfl
          | false =>
            have := (iv.been k hk).mpr (by rw [iv.eq]; exact rds_yes h hk e)
            rw [hb] at this
            cases this
        simp only [seqS_eq, bndr, bndb, slot0, slotS, slotW0, slotW0o, slotWS, slotD0, slotDS, ownS0, ownSS, frz_v, frz_o, frz_d, frz_n, frz_nil, frzI0, frzIS, lift_some, toB_bool, truth_bool, itemsD_l, itemsD_t, setV_eq, List.set_cons_zero, List.set_cons_succ, if_true, if_false, Bool.false_eq_true, Bool.not_false, Bool.not_true, Bool.true_and, Bool.and_true, dAdd_i, dSub_i, dLe_i, dLt_i, dLtD_i, dLeD_i, dGtD_i, dGeD_i, isI_ii, isI_bi, setIm, setVm, setIx, tupM, Option.bind_some, seqT_t, ixO (o := o) (p := k) (by omega)]
        rw [if_pos (show [nI k].length ≤ 100000 by simp)]
        simp only [seqS_eq, bndr, bndb, slot0, slotS, slotW0, slotW0o, slotWS, slotD0, slotDS, ownS0, ownSS, frz_v, frz_o, frz_d, frz_n, frz_nil, frzI0, frzIS, lift_some, toB_bool, truth_bool, itemsD_l, itemsD_t, setV_eq, List.set_cons_zero, List.set_cons_succ, if_true, if_false, Bool.false_eq_true, Bool.not_false, Bool.not_true, Bool.true_and, Bool.and_true, dAdd_i, dSub_i, dLe_i, dLt_i, dLtD_i, dLeD_i, dGtD_i, dGeD_i, isI_ii, isI_bi, setIm, setVm, setIx, tupM, Option.bind_some, seqT_t]
        refine bexS (I := fun ρ => ρ = [some (.val (O o)), some (.own (.list (ws.map O))), some (.own (.list (bs.map PyData.bool))), some (.val (nI k)), some (.own (.list ((cyc o k L).map nI))), some (.val (nI (it o L k))), s6]) ?_ ?_
        · have w := while_run (t := fun ρ => bnd (slotW ρ 5) fun d => bnd (slotW ρ 3) fun e => bnd (lift (dNe d e)) toB) (body := seqS (fun ρ => bnd (ownS ρ 4) fun ds => bnd (slot ρ 5) fun d => if ds.length < 16000000 then ret (Out.nx (List.set ρ 4 (some (Sl.own (PyData.list (ds ++ [d])))))) else stk) fun ρ => bnd (slotW ρ 0) fun a => bnd (slotW ρ 5) fun a_8 => bnd (lift (dIx a a_8)) fun d => ret (Out.nx (List.set ρ 5 (some (Sl.val d)))))
            (fun i ρ => ρ = [some (.val (O o)), some (.own (.list (ws.map O))), some (.own (.list (bs.map PyData.bool))), some (.val (nI k)), some (.own (.list ((cyc o k (i + 1)).map nI))), some (.val (nI (it o (i + 1) k))), s6]) (L - 1) wN (by unfold wN; omega) (ρ := [some (.val (O o)), some (.own (.list (ws.map O))), some (.own (.list (bs.map PyData.bool))), some (.val (nI k)), some (.own (.list [nI k])), some (.val (nI (ap o k))), s6]) rfl ?_ ?_
          · rw [show L - 1 + 1 = L by omega] at w
            exact w
          · rintro i hi ρ rfl
            have hne := hL.first (i + 1) (by omega) (by omega)
            have hlt := it_lt h hk (i + 1)
            constructor
            · simp only [seqS_eq, bndr, bndb, slot0, slotS, slotW0, slotW0o, slotWS, slotD0, slotDS, ownS0, ownSS, frz_v, frz_o, frz_d, frz_n, frz_nil, frzI0, frzIS, lift_some, toB_bool, truth_bool, itemsD_l, itemsD_t, setV_eq, List.set_cons_zero, List.set_cons_succ, if_true, if_false, Bool.false_eq_true, Bool.not_false, Bool.not_true, Bool.true_and, Bool.and_true, dAdd_i, dSub_i, dLe_i, dLt_i, dLtD_i, dLeD_i, dGtD_i, dGeD_i, isI_ii, isI_bi, setIm, setVm, setIx, tupM, Option.bind_some, seqT_t, neNN]
              rw [decide_eq_false hne]
              rfl
            · simp only [seqS_eq, bndr, bndb, slot0, slotS, slotW0, slotW0o, slotWS, slotD0, slotDS, ownS0, ownSS, frz_v, frz_o, frz_d, frz_n, frz_nil, frzI0, frzIS, lift_some, toB_bool, truth_bool, itemsD_l, itemsD_t, setV_eq, List.set_cons_zero, List.set_cons_succ, if_true, if_false, Bool.false_eq_true, Bool.not_false, Bool.not_true, Bool.true_and, Bool.and_true, dAdd_i, dSub_i, dLe_i, dLt_i, dLtD_i, dLeD_i, dGtD_i, dGeD_i, isI_ii, isI_bi, setIm, setVm, setIx, tupM, Option.bind_some, seqT_t]
              rw [if_pos (by rw [List.length_map, cyc_len]; omega)]
              simp only [seqS_eq, bndr, bndb, slot0, slotS, slotW0, slotW0o, slotWS, slotD0, slotDS, ownS0, ownSS, frz_v, frz_o, frz_d, frz_n, frz_nil, frzI0, frzIS, lift_some, toB_bool, truth_bool, itemsD_l, itemsD_t, setV_eq, List.set_cons_zero, List.set_cons_succ, if_true, if_false, Bool.false_eq_true, Bool.not_false, Bool.not_true, Bool.true_and, Bool.and_true, dAdd_i, dSub_i, dLe_i, dLt_i, dLtD_i, dLeD_i, dGtD_i, dGeD_i, isI_ii, isI_bi, setIm, setVm, setIx, tupM, Option.bind_some, seqT_t, ixO (o := o) (p := it o (i + 1) k) (by omega)]
              refine ⟨_, rfl, ?_⟩
              rw [cyc_snoc o k (i + 1), List.map_append]
              rfl
          · rintro ρ rfl
            rw [show L - 1 + 1 = L by omega]
            simp only [seqS_eq, bndr, bndb, slot0, slotS, slotW0, slotW0o, slotWS, slotD0, slotDS, ownS0, ownSS, frz_v, frz_o, frz_d, frz_n, frz_nil, frzI0, frzIS, lift_some, toB_bool, truth_bool, itemsD_l, itemsD_t, setV_eq, List.set_cons_zero, List.set_cons_succ, if_true, if_false, Bool.false_eq_true, Bool.not_false, Bool.not_true, Bool.true_and, Bool.and_true, dAdd_i, dSub_i, dLe_i, dLt_i, dLtD_i, dLeD_i, dGtD_i, dGeD_i, isI_ii, isI_bi, setIm, setVm, setIx, tupM, Option.bind_some, seqT_t, neNN, hL.back]
            rfl
        · rintro _ rfl
          simp only [seqS_eq, bndr, bndb, slot0, slotS, slotW0, slotW0o, slotWS, slotD0, slotDS, ownS0, ownSS, frz_v, frz_o, frz_d, frz_n, frz_nil, frzI0, frzIS, lift_some, toB_bool, truth_bool, itemsD_l, itemsD_t, setV_eq, List.set_cons_zero, List.set_cons_succ, if_true, if_false, Bool.false_eq_true, Bool.not_false, Bool.not_true, Bool.true_and, Bool.and_true, dAdd_i, dSub_i, dLe_i, dLt_i, dLtD_i, dLeD_i, dGtD_i, dGeD_i, isI_ii, isI_bi, setIm, setVm, setIx, tupM, Option.bind_some, seqT_t]
          have hw : ∀ p ∈ cyc o k L, p < n := fun p hp => by
            obtain ⟨j, rfl⟩ := (mem_cyc hL1 hL.back).mp hp
            exact it_lt h hk j
          refine bexS (I := fun ρ => ∃ s5, ρ = [some (.val (O o)), some (.own (.list (ws.map O))), some (.own (.list (((cyc o k L).foldl (fun b q => b.set q true) bs).map PyData.bool))), some (.val (nI k)), some (.val (.list ((cyc o k L).map nI))), s5, s6]) ?_ ?_
          · refine for_preE nI (fun pre ρ => ∃ s5, ρ = [some (.val (O o)), some (.own (.list (ws.map O))), some (.own (.list ((pre.foldl (fun b q => b.set q true) bs).map PyData.bool))), some (.val (nI k)), some (.val (.list ((cyc o k L).map nI))), s5, s6]) (cyc o k L) ⟨_, rfl⟩ ?_
            rintro pre x post e ρ ⟨s5, rfl⟩
            have hx : x < n := hw x (by rw [e]; simp)
            refine for_step rfl ?_
            simp only [seqS_eq, bndr, bndb, slot0, slotS, slotW0, slotW0o, slotWS, slotD0, slotDS, ownS0, ownSS, frz_v, frz_o, frz_d, frz_n, frz_nil, frzI0, frzIS, lift_some, toB_bool, truth_bool, itemsD_l, itemsD_t, setV_eq, List.set_cons_zero, List.set_cons_succ, if_true, if_false, Bool.false_eq_true, Bool.not_false, Bool.not_true, Bool.true_and, Bool.and_true, dAdd_i, dSub_i, dLe_i, dLt_i, dLtD_i, dLeD_i, dGtD_i, dGeD_i, isI_ii, isI_bi, setIm, setVm, setIx, tupM, Option.bind_some, seqT_t]
            rw [List.length_map, setB_len, iv.len, ixN_nat hx]
            simp only [Option.map_some, seqS_eq, bndr, bndb, slot0, slotS, slotW0, slotW0o, slotWS, slotD0, slotDS, ownS0, ownSS, frz_v, frz_o, frz_d, frz_n, frz_nil, frzI0, frzIS, lift_some, toB_bool, truth_bool, itemsD_l, itemsD_t, setV_eq, List.set_cons_zero, List.set_cons_succ, if_true, if_false, Bool.false_eq_true, Bool.not_false, Bool.not_true, Bool.true_and, Bool.and_true, dAdd_i, dSub_i, dLe_i, dLt_i, dLtD_i, dLeD_i, dGtD_i, dGeD_i, isI_ii, isI_bi, setIm, setVm, setIx, tupM, Option.bind_some, seqT_t]
            refine ⟨_, rfl, some (.val (nI x)), ?_⟩
            rw [List.foldl_append, List.foldl_cons, List.foldl_nil, List.map_set]
          · rintro _ ⟨s5, rfl⟩
            simp only [seqS_eq, bndr, bndb, slot0, slotS, slotW0, slotW0o, slotWS, slotD0, slotDS, ownS0, ownSS, frz_v, frz_o, frz_d, frz_n, frz_nil, frzI0, frzIS, lift_some, toB_bool, truth_bool, itemsD_l, itemsD_t, setV_eq, List.set_cons_zero, List.set_cons_succ, if_true, if_false, Bool.false_eq_true, Bool.not_false, Bool.not_true, Bool.true_and, Bool.and_true, dAdd_i, dSub_i, dLe_i, dLt_i, dLtD_i, dLeD_i, dGtD_i, dGeD_i, isI_ii, isI_bi, setIm, setVm, setIx, tupM, Option.bind_some, seqT_t, dTuple_l]
            have hf := iv.few
            rw [if_pos (by rw [List.length_map]; omega)]
            refine ⟨_, rfl, ws ++ [cyc o k L], (cyc o k L).foldl (fun b q => b.set q true) bs, some (.val (nI k)), some (.val (.list ((cyc o k L).map nI))), s5, s6, ?_, ⟨?_, ?_, fun p hp => ?_, ?_⟩⟩
            · rw [List.map_append]; rfl
            · rw [rdsL_succ, hyes, if_pos rfl, iv.eq, eL]
            · rw [setB_len, iv.len]
            · rw [setB_get _ _ _ (by rw [iv.len]; exact hp)]
              by_cases hm : p ∈ cyc o k L
              · rw [if_pos hm]
                exact ⟨fun _ => ⟨_, List.mem_append_right _ List.mem_cons_self, hm⟩, fun _ => rfl⟩
              · rw [if_neg hm, iv.been p hp]
                refine ⟨fun ⟨w, h1, h2⟩ => ⟨w, List.mem_append_left _ h1, h2⟩, fun ⟨w, h1, h2⟩ => ?_⟩
                rcases List.mem_append.mp h1 with q | q
                · exact ⟨w, q, h2⟩
                · rw [List.mem_singleton.mp q] at h2
                  exact absurd h2 hm
            · rw [List.length_append, List.length_singleton]; omega
  · rintro ρ ⟨ws, bs, s3, s4, s5, s6, rfl, iv⟩
    simp only [seqS_eq, bndr, bndb, slot0, slotS, slotW0, slotW0o, slotWS, slotD0, slotDS, ownS0, ownSS, frz_v, frz_o, frz_d, frz_n, frz_nil, frzI0, frzIS, lift_some, toB_bool, truth_bool, itemsD_l, itemsD_t, setV_eq, List.set_cons_zero, List.set_cons_succ, if_true, if_false, Bool.false_eq_true, Bool.not_false, Bool.not_true, Bool.true_and, Bool.and_true, dAdd_i, dSub_i, dLe_i, dLt_i, dLtD_i, dLeD_i, dGtD_i, dGeD_i, isI_ii, isI_bi, setIm, setVm, setIx, tupM, Option.bind_some, seqT_t, fin_rt]
    exact ⟨ws, rfl, iv.eq, iv.few⟩
/-! powers -/
theorem pow_at {n : Nat} {o : List Nat} (hn : Sz n) (h : Ord n o) {s L i : Nat} (hs : s < n) (hL : Per n o s L) (hi : i < L) (t : Int) : dIx (O (cyc o s L)) (.int (((i : Int) + t) % (L : Int))) = some (nI (F o t (it o i s))) := by
  have hL0 := hL.pos
  have h0 : 0 ≤ ((i : Int) + t) % (L : Int) := Int.emod_nonneg _ (by omega)
  have h1 : ((i : Int) + t) % (L : Int) < (L : Int) := Int.emod_lt_of_pos _ (by omega)
  have e := F_cyc h hs hL hi t
  generalize hm : ((i : Int) + t) % (L : Int) = m at *
  obtain ⟨j, rfl⟩ : ∃ j : Nat, m = (j : Int) := ⟨m.toNat, by omega⟩
  rw [Int.toNat_natCast] at e
  rw [← e]
  exact dIx_tm (f := nI) (cyc_at (by omega))
theorem power_run {n : Nat} {o : List Nat} (hn : Sz n) (h : Ord n o) (t : Int) : F_power [.val (O o), .val (.int t)] = ret (O (pw n o t)) := by
  rw [run_power]
  unfold pk_power
  obtain ⟨ws, er, hw, hf⟩ := rounds_run hn h
  have hr : Rds n o ws := by rw [hw]; exact rds_Rds h
  have hl := h.len
  have hn2 := hn.2
  simp only [seqS_eq, bndr, bndb, slot0, slotS, slotW0, slotW0o, slotWS, slotD0, slotDS, ownS0, ownSS, frz_v, frz_o, frz_d, frz_n, frz_nil, frzI0, frzIS, lift_some, toB_bool, truth_bool, itemsD_l, itemsD_t, setV_eq, List.set_cons_zero, List.set_cons_succ, if_true, if_false, Bool.false_eq_true, Bool.not_false, Bool.not_true, Bool.true_and, Bool.and_true, dAdd_i, dSub_i, dLe_i, dLt_i, dLtD_i, dLeD_i, dGtD_i, dGeD_i, isI_ii, isI_bi, setIm, setVm, setIx, tupM, Option.bind_some, seqT_t, er]
  refine for_pre (r := ret (O (pw n o t))) O (fun pre ρ => ∃ s3 s4 s5, ρ = [some (.val (O o)), some (.val (.int t)), some (.own (.list ((Od.fill (F o t) o pre.flatten).map nI))), s3, s4, s5]) ws ⟨none, none, none, rfl⟩ ?_ ?_
  · rintro pre w post e ρ ⟨s3, s4, s5, rfl⟩
    obtain ⟨s, L, hs, hL, rfl⟩ := hr.each w (by rw [e]; simp)
    have hL1 := hL.pos
    have hLn := hL.le
    refine for_step rfl ?_
    have en : enumD [O (cyc o s L)] = ret ((List.range L).map fun (i : Nat) => C ((i : Int), (it o i s : Int))) := by
      show ret (enumL ((cyc o s L).map nI)) = _
      rw [enum_O, cyc_len]
      congr 1
      refine List.map_congr_left fun i hi => ?_
      have := cyc_at (o := o) (s := s) (List.mem_range.mp hi)
      rw [ap_get (by rw [cyc_len]; exact List.mem_range.mp hi)] at this
      rw [Option.some.inj this]
    simp only [seqS_eq, bndr, bndb, slot0, slotS, slotW0, slotW0o, slotWS, slotD0, slotDS, ownS0, ownSS, frz_v, frz_o, frz_d, frz_n, frz_nil, frzI0, frzIS, lift_some, toB_bool, truth_bool, itemsD_l, itemsD_t, setV_eq, List.set_cons_zero, List.set_cons_succ, if_true, if_false, Bool.false_eq_true, Bool.not_false, Bool.not_true, Bool.true_and, Bool.and_true, dAdd_i, dSub_i, dLe_i, dLt_i, dLtD_i, dLeD_i, dGtD_i, dGeD_i, isI_ii, isI_bi, setIm, setVm, setIx, tupM, Option.bind_some, seqT_t, en]
    obtain ⟨ρ', e', s4, s5, rfl⟩ := for_ixE (hh := seqT fun ds ρ => match ds with | d :: r => (match r with | d_1 :: r => (match r with | [] => some ((List.set ρ 4 (some (Sl.val d))).set 5 (some (Sl.val d_1))) | x => none) | [] => none) | [] => none)
      (body := fun ρ => bnd (slotW ρ 3) fun a => bnd (slotW ρ 4) fun a_3 => bnd (slotW ρ 1) fun a_4 => bnd (lift (dAdd a_3 a_4)) fun a_5 => bnd (slotW ρ 3) fun a_6 => bnd (lift (dLen [a_6])) fun a_7 => bnd (lift (dMod a_5 a_7)) fun a_8 => bnd (lift (dIx a a_8)) fun d => bnd (ownS ρ 2) fun a => bnd (slotW ρ 5) fun a => bnd (ownS ρ 2) fun a_9 => bnd (lift (match a with | PyData.int k => Option.map (fun m => a_9.set m d) (ixN a_9.length k) | x => none)) fun a => ret (Out.nx (List.set ρ 2 (some (Sl.own (PyData.list a))))))
      (ρ := [some (.val (O o)), some (.val (.int t)), some (.own (.list ((Od.fill (F o t) o pre.flatten).map nI))), some (.val (O (cyc o s L))), s4, s5])
      (fun (i : Nat) => C ((i : Int), (it o i s : Int))) (fun i ρ => ∃ s4 s5, ρ = [some (.val (O o)), some (.val (.int t)), some (.own (.list ((Od.fill (F o t) (Od.fill (F o t) o pre.flatten) (cyc o s i)).map nI))), some (.val (O (cyc o s L))), s4, s5]) L ⟨s4, s5, rfl⟩ (by
        rintro i hi ρ ⟨s4, s5, rfl⟩
        refine ⟨_, _, rfl, ?_, some (.val (nI i)), some (.val (nI (it o i s))), rfl⟩
        have e2 : dLen [O (cyc o s L)] = some (nI L) := by rw [← cyc_len o s L]; exact (dLen_tm _ _).trans (by rw [cyc_len])
        have m1 : dMod (.int ((i : Int) + t)) (nI L) = some (.int (((i : Int) + t) % (L : Int))) := dMod_i (by omega)
        simp only [seqS_eq, bndr, bndb, slot0, slotS, slotW0, slotW0o, slotWS, slotD0, slotDS, ownS0, ownSS, frz_v, frz_o, frz_d, frz_n, frz_nil, frzI0, frzIS, lift_some, toB_bool, truth_bool, itemsD_l, itemsD_t, setV_eq, List.set_cons_zero, List.set_cons_succ, if_true, if_false, Bool.false_eq_true, Bool.not_false, Bool.not_true, Bool.true_and, Bool.and_true, dAdd_i, dSub_i, dLe_i, dLt_i, dLtD_i, dLeD_i, dGtD_i, dGeD_i, isI_ii, isI_bi, setIm, setVm, setIx, tupM, Option.bind_some, seqT_t, e2, m1, pow_at hn h hs hL hi t]
        rw [List.length_map, fill_len, fill_len, hl, ixN_nat (it_lt h hs i)]
        simp only [Option.map_some, seqS_eq, bndr, bndb, slot0, slotS, slotW0, slotW0o, slotWS, slotD0, slotDS, ownS0, ownSS, frz_v, frz_o, frz_d, frz_n, frz_nil, frzI0, frzIS, lift_some, toB_bool, truth_bool, itemsD_l, itemsD_t, setV_eq, List.set_cons_zero, List.set_cons_succ, if_true, if_false, Bool.false_eq_true, Bool.not_false, Bool.not_true, Bool.true_and, Bool.and_true, dAdd_i, dSub_i, dLe_i, dLt_i, dLtD_i, dLeD_i, dGtD_i, dGeD_i, isI_ii, isI_bi, setIm, setVm, setIx, tupM, Option.bind_some, seqT_t]
        rw [cyc_snoc, ← List.map_set]
        unfold Od.fill
        rw [List.foldl_append]
        rfl)
    refine ⟨_, e', some (.val (O (cyc o s L))), s4, s5, ?_⟩
    rw [List.flatten_append, List.flatten_cons, List.flatten_nil, List.append_nil]
    unfold Od.fill
    rw [List.foldl_append]
  · rintro ρ ⟨s3, s4, s5, rfl⟩
    simp only [seqS_eq, bndr, bndb, slot0, slotS, slotW0, slotW0o, slotWS, slotD0, slotDS, ownS0, ownSS, frz_v, frz_o, frz_d, frz_n, frz_nil, frzI0, frzIS, lift_some, toB_bool, truth_bool, itemsD_l, itemsD_t, setV_eq, List.set_cons_zero, List.set_cons_succ, if_true, if_false, Bool.false_eq_true, Bool.not_false, Bool.not_true, Bool.true_and, Bool.and_true, dAdd_i, dSub_i, dLe_i, dLt_i, dLtD_i, dLeD_i, dGtD_i, dGeD_i, isI_ii, isI_bi, setIm, setVm, setIx, tupM, Option.bind_some, seqT_t, dTuple_l, fin_rt]
    rw [fill_all hl fun p hp => by
      obtain ⟨w, hw, hp⟩ := hr.all p hp
      exact List.mem_flatten.mpr ⟨w, hw, hp⟩]
    rfl
end DV

-- Q11
set_option Elab.async false
set_option linter.all false
set_option maxRecDepth 100000
set_option maxHeartbeats 4000000
namespace DV
open PySem PySem.Spec PyProof.Rows L2 HdL Od
theorem same_self : ∀ (m : Nat) (v : D), Pl m v → F__law_same (m + 1) [.val v, .val v] = ret (.bool true)
  | m, v, h => by
    rw [run__law_same]
    unfold pk__law_same
    have hv : Atom v ∨ ∃ m', m = m' + 1 ∧ ∃ ds : List D, (v = .list ds ∨ v = .tuple ds) ∧ ds.length ≤ 100000 ∧ ∀ x ∈ ds, Pl m' x := by
      cases m with
      | zero => exact .inl h
      | succ m' => rcases h with h | h
                   · exact .inl h
                   · exact .inr ⟨m', rfl, h⟩
    rcases hv with h | ⟨m', rfl, ds, hv, hl, hx⟩
    · have i1 : isI "list" v = false := by cases h <;> rfl
      have i2 : isI "tuple" v = false := by cases h <;> rfl
      cases h with
      | non =>
        have i3 : dIs .none .none = some (.bool true) := rfl
        simp only [seqS_eq, bndr, bndb, slot0, slotS, slotW0, slotW0o, slotWS, slotD0, slotDS, ownS0, ownSS, frz_v, frz_o, frz_d, frz_n, frz_nil, frzI0, frzIS, lift_some, toB_bool, truth_bool, itemsD_l, itemsD_t, setV_eq, List.set_cons_zero, List.set_cons_succ, if_true, if_false, Bool.false_eq_true, Bool.not_false, Bool.not_true, Bool.true_and, Bool.and_true, dAdd_i, dSub_i, dLe_i, dLt_i, dLtD_i, dLeD_i, dGtD_i, dGeD_i, isI_ii, isI_bi, setIm, setVm, setIx, tupM, Option.bind_some, seqT_t, i3, fin_rt]
      | bl b =>
        have i3 : dIs (.bool b) .none = some (.bool false) := by cases b <;> rfl
        simp only [seqS_eq, bndr, bndb, slot0, slotS, slotW0, slotW0o, slotWS, slotD0, slotDS, ownS0, ownSS, frz_v, frz_o, frz_d, frz_n, frz_nil, frzI0, frzIS, lift_some, toB_bool, truth_bool, itemsD_l, itemsD_t, setV_eq, List.set_cons_zero, List.set_cons_succ, if_true, if_false, Bool.false_eq_true, Bool.not_false, Bool.not_true, Bool.true_and, Bool.and_true, dAdd_i, dSub_i, dLe_i, dLt_i, dLtD_i, dLeD_i, dGtD_i, dGeD_i, isI_ii, isI_bi, setIm, setVm, setIx, tupM, Option.bind_some, seqT_t, i1, i2, i3, dNe_bb, dEq_bb, beq_self_eq_true, fin_rt]
      | int i =>
        have i3 : dIs (.int i) .none = some (.bool false) := rfl
        simp only [seqS_eq, bndr, bndb, slot0, slotS, slotW0, slotW0o, slotWS, slotD0, slotDS, ownS0, ownSS, frz_v, frz_o, frz_d, frz_n, frz_nil, frzI0, frzIS, lift_some, toB_bool, truth_bool, itemsD_l, itemsD_t, setV_eq, List.set_cons_zero, List.set_cons_succ, if_true, if_false, Bool.false_eq_true, Bool.not_false, Bool.not_true, Bool.true_and, Bool.and_true, dAdd_i, dSub_i, dLe_i, dLt_i, dLtD_i, dLeD_i, dGtD_i, dGeD_i, isI_ii, isI_bi, setIm, setVm, setIx, tupM, Option.bind_some, seqT_t, i1, i2, i3, dNe_bb, dEq_ii, fin_rt]
      | str x hs =>
        have i3 : dIs (.str x) .none = some (.bool false) := rfl
        simp only [seqS_eq, bndr, bndb, slot0, slotS, slotW0, slotW0o, slotWS, slotD0, slotDS, ownS0, ownSS, frz_v, frz_o, frz_d, frz_n, frz_nil, frzI0, frzIS, lift_some, toB_bool, truth_bool, itemsD_l, itemsD_t, setV_eq, List.set_cons_zero, List.set_cons_succ, if_true, if_false, Bool.false_eq_true, Bool.not_false, Bool.not_true, Bool.true_and, Bool.and_true, dAdd_i, dSub_i, dLe_i, dLt_i, dLtD_i, dLeD_i, dGtD_i, dGeD_i, isI_ii, isI_bi, setIm, setVm, setIx, tupM, Option.bind_some, seqT_t, i1, i2, i3, dNe_bb, dEq_ss x hs, fin_rt]
    · have rec' := fun x hx' => same_self m' x (hx x hx')
      have rg : rng1 [.int (ds.length : Int)] = ret ((List.range ds.length).map fun i : Nat => PyData.int (0 + (i : Int))) := rng_nat (by omega)
      rcases hv with rfl | rfl
      · have i1 : isI "list" (.list ds) = true := rfl
        have i2 : isI "tuple" (.list ds) = false := rfl
        have i3 : dIs (.list ds) .none = some (.bool false) := rfl
        simp only [seqS_eq, bndr, bndb, slot0, slotS, slotW0, slotW0o, slotWS, slotD0, slotDS, ownS0, ownSS, frz_v, frz_o, frz_d, frz_n, frz_nil, frzI0, frzIS, lift_some, toB_bool, truth_bool, itemsD_l, itemsD_t, setV_eq, List.set_cons_zero, List.set_cons_succ, if_true, if_false, Bool.false_eq_true, Bool.not_false, Bool.not_true, Bool.true_and, Bool.and_true, dAdd_i, dSub_i, dLe_i, dLt_i, dLtD_i, dLeD_i, dGtD_i, dGeD_i, isI_ii, isI_bi, setIm, setVm, setIx, tupM, Option.bind_some, seqT_t, i1, i2, i3, dNe_bb, dLen_l, dNe_ii, rg]
        refine for_ix (fun i : Nat => PyData.int (0 + (i : Int))) (fun _ ρ => ∃ s2, ρ = [some (.val (.list ds)), some (.val (.list ds)), s2]) ds.length ⟨_, rfl⟩ ?_ ?_
        · rintro i hi ρ ⟨s2, rfl⟩
          refine for_step rfl ?_
          simp only [seqS_eq, bndr, bndb, slot0, slotS, slotW0, slotW0o, slotWS, slotD0, slotDS, ownS0, ownSS, frz_v, frz_o, frz_d, frz_n, frz_nil, frzI0, frzIS, lift_some, toB_bool, truth_bool, itemsD_l, itemsD_t, setV_eq, List.set_cons_zero, List.set_cons_succ, if_true, if_false, Bool.false_eq_true, Bool.not_false, Bool.not_true, Bool.true_and, Bool.and_true, dAdd_i, dSub_i, dLe_i, dLt_i, dLtD_i, dLeD_i, dGtD_i, dGeD_i, isI_ii, isI_bi, setIm, setVm, setIx, tupM, Option.bind_some, seqT_t, dIx_nl hi, rec' _ (List.getElem_mem hi)]
          exact ⟨_, rfl, _, rfl⟩
        · rintro ρ ⟨s2, rfl⟩
          simp only [seqS_eq, bndr, bndb, slot0, slotS, slotW0, slotW0o, slotWS, slotD0, slotDS, ownS0, ownSS, frz_v, frz_o, frz_d, frz_n, frz_nil, frzI0, frzIS, lift_some, toB_bool, truth_bool, itemsD_l, itemsD_t, setV_eq, List.set_cons_zero, List.set_cons_succ, if_true, if_false, Bool.false_eq_true, Bool.not_false, Bool.not_true, Bool.true_and, Bool.and_true, dAdd_i, dSub_i, dLe_i, dLt_i, dLtD_i, dLeD_i, dGtD_i, dGeD_i, isI_ii, isI_bi, setIm, setVm, setIx, tupM, Option.bind_some, seqT_t, fin_rt]
      · have i1 : isI "list" (.tuple ds) = false := rfl
        have i2 : isI "tuple" (.tuple ds) = true := rfl
        have i3 : dIs (.tuple ds) .none = some (.bool false) := rfl
        simp only [seqS_eq, bndr, bndb, slot0, slotS, slotW0, slotW0o, slotWS, slotD0, slotDS, ownS0, ownSS, frz_v, frz_o, frz_d, frz_n, frz_nil, frzI0, frzIS, lift_some, toB_bool, truth_bool, itemsD_l, itemsD_t, setV_eq, List.set_cons_zero, List.set_cons_succ, if_true, if_false, Bool.false_eq_true, Bool.not_false, Bool.not_true, Bool.true_and, Bool.and_true, dAdd_i, dSub_i, dLe_i, dLt_i, dLtD_i, dLeD_i, dGtD_i, dGeD_i, isI_ii, isI_bi, setIm, setVm, setIx, tupM, Option.bind_some, seqT_t, i1, i2, i3, dNe_bb, dLen_t, dNe_ii, rg]
        refine for_ix (fun i : Nat => PyData.int (0 + (i : Int))) (fun _ ρ => ∃ s2, ρ = [some (.val (.tuple ds)), some (.val (.tuple ds)), s2]) ds.length ⟨_, rfl⟩ ?_ ?_
        · rintro i hi ρ ⟨s2, rfl⟩
          refine for_step rfl ?_
          simp only [seqS_eq, bndr, bndb, slot0, slotS, slotW0, slotW0o, slotWS, slotD0, slotDS, ownS0, ownSS, frz_v, frz_o, frz_d, frz_n, frz_nil, frzI0, frzIS, lift_some, toB_bool, truth_bool, itemsD_l, itemsD_t, setV_eq, List.set_cons_zero, List.set_cons_succ, if_true, if_false, Bool.false_eq_true, Bool.not_false, Bool.not_true, Bool.true_and, Bool.and_true, dAdd_i, dSub_i, dLe_i, dLt_i, dLtD_i, dLeD_i, dGtD_i, dGeD_i, isI_ii, isI_bi, setIm, setVm, setIx, tupM, Option.bind_some, seqT_t, dIx_nt hi, rec' _ (List.getElem_mem hi)]
          exact ⟨_, rfl, _, rfl⟩
        · rintro ρ ⟨s2, rfl⟩
          simp only [seqS_eq, bndr, bndb, slot0, slotS, slotW0, slotW0o, slotWS, slotD0, slotDS, ownS0, ownSS, frz_v, frz_o, frz_d, frz_n, frz_nil, frzI0, frzIS, lift_some, toB_bool, truth_bool, itemsD_l, itemsD_t, setV_eq, List.set_cons_zero, List.set_cons_succ, if_true, if_false, Bool.false_eq_true, Bool.not_false, Bool.not_true, Bool.true_and, Bool.and_true, dAdd_i, dSub_i, dLe_i, dLt_i, dLtD_i, dLeD_i, dGtD_i, dGeD_i, isI_ii, isI_bi, setIm, setVm, setIx, tupM, Option.bind_some, seqT_t, fin_rt]

theorem lmin_ex : ∀ l : List Nat, l ≠ [] → ∃ m ∈ l, ∀ x ∈ l, m ≤ x
  | [], h => absurd rfl h
  | [a], _ => ⟨a, List.mem_cons_self, fun x hx => by rw [List.mem_singleton.mp hx]; exact Nat.le_refl _⟩
  | a :: b :: l, _ => by
    obtain ⟨m, hm, hle⟩ := lmin_ex (b :: l) (by simp)
    by_cases c : a ≤ m
    · exact ⟨a, List.mem_cons_self, fun x hx => by
        rcases List.mem_cons.mp hx with rfl | hx
        · exact Nat.le_refl _
        · exact Nat.le_trans c (hle x hx)⟩
    · exact ⟨m, List.mem_cons_of_mem _ hm, fun x hx => by
        rcases List.mem_cons.mp hx with rfl | hx
        · omega
        · exact hle x hx⟩
theorem dMin_nI {l : List Nat} (h : l ≠ []) : ∃ m, dMin [.list (l.map nI)] = some (nI m) ∧ m ∈ l ∧ ∀ x ∈ l, m ≤ x := by
  obtain ⟨m, hm, hle⟩ := lmin_ex l h
  refine ⟨m, ?_, hm, hle⟩
  have e : l.map nI = (l.map fun k : Nat => (k : Int)).map PyData.int := by rw [List.map_map]; rfl
  have em : minL (l.map fun k : Nat => (k : Int)) = (m : Int) := minL_ge (List.mem_map.mpr ⟨m, hm, rfl⟩) fun y hy => by
    obtain ⟨x, hx, rfl⟩ := List.mem_map.mp hy
    exact Int.ofNat_le.mpr (hle x hx)
  have ei := intsOf_map (l.map fun k : Nat => (k : Int))
  rw [← e] at ei
  cases l with
  | nil => exact absurd rfl h
  | cons a l =>
    show (match intsOf ((a :: l).map nI) with | some (n :: ns) => some (PyData.int (minL (n :: ns))) | _ => none) = _
    rw [ei]
    show some (PyData.int (minL ((a :: l).map fun k : Nat => (k : Int)))) = _
    rw [em]
theorem per_uniq {n : Nat} {o : List Nat} {s L M : Nat} (h : Per n o s L) (k : Per n o s M) : L = M := by
  rcases Nat.lt_trichotomy L M with c | c | c
  · exact absurd h.back (k.first L h.pos c)
  · exact c
  · exact absurd k.back (h.first M k.pos c)
theorem cyc_last {o : List Nat} {s m : Nat} : (cyc o s (m + 1)).getLast? = some (it o m s) := by
  rw [cyc_snoc, List.getLast?_append]
  rfl
theorem eqNN (m n : Nat) : dEq (nI m) (nI n) = some (.bool (decide (m = n))) := by
  rw [dEq_i]
  congr 2
  rw [Bool.eq_iff_iff, beq_iff_eq, decide_eq_true_eq]
  omega
theorem lrounds_run {n : Nat} {o : List Nat} (hn : Sz n) (h : Ord n o) : ∃ ws, F__law_rounds [.val (O o)] = ret (.list (ws.map O)) ∧ ws = rdsL n o n ∧ ws.length ≤ n := by
  rw [run__law_rounds]
  unfold pk__law_rounds
  have hl := h.len
  have hn2 := hn.2
  have e2 : dLen [O o] = some (nI n) := by rw [← hl]; exact dLen_tm _ _
  have r1 : rng1 [nI n] = ret ((List.range n).map nI) := rng1_m (by omega)
  simp only [seqS_eq, bndr, bndb, slot0, slotS, slotW0, slotW0o, slotWS, slotD0, slotDS, ownS0, ownSS, frz_v, frz_o, frz_d, frz_n, frz_nil, frzI0, frzIS, lift_some, toB_bool, truth_bool, itemsD_l, itemsD_t, setV_eq, List.set_cons_zero, List.set_cons_succ, if_true, if_false, Bool.false_eq_true, Bool.not_false, Bool.not_true, Bool.true_and, Bool.and_true, dAdd_i, dSub_i, dLe_i, dLt_i, dLtD_i, dLeD_i, dGtD_i, dGeD_i, isI_ii, isI_bi, setIm, setVm, setIx, tupM, Option.bind_some, seqT_t, e2, r1]
  rw [if_pos (by decide)]
  simp only [seqS_eq, bndr, bndb, slot0, slotS, slotW0, slotW0o, slotWS, slotD0, slotDS, ownS0, ownSS, frz_v, frz_o, frz_d, frz_n, frz_nil, frzI0, frzIS, lift_some, toB_bool, truth_bool, itemsD_l, itemsD_t, setV_eq, List.set_cons_zero, List.set_cons_succ, if_true, if_false, Bool.false_eq_true, Bool.not_false, Bool.not_true, Bool.true_and, Bool.and_true, dAdd_i, dSub_i, dLe_i, dLt_i, dLtD_i, dLeD_i, dGtD_i, dGeD_i, isI_ii, isI_bi, setIm, setVm, setIx, tupM, Option.bind_some, seqT_t]
  refine bexE (g := fun (ws : List (List Nat)) => PyData.list (ws.map O)) (I := fun ρ => ∃ (ws : List (List Nat)) (s2 s3 s4 : Option Sl), ρ = [some (.val (O o)), some (.own (.list (ws.map O))), s2, s3, s4] ∧ ws = rdsL n o n ∧ ws.length ≤ n) ?_ ?_
  · refine for_ixE nI (fun k ρ => ∃ (ws : List (List Nat)) (s2 s3 s4 : Option Sl), ρ = [some (.val (O o)), some (.own (.list (ws.map O))), s2, s3, s4] ∧ ws = rdsL n o k ∧ ws.length ≤ k) n ⟨[], none, none, none, rfl, rfl, Nat.le_refl _⟩ ?_
    rintro k hk ρ ⟨ws, s2, s3, s4, rfl, h1, h3⟩
    obtain ⟨L, eL⟩ : ∃ L, L = perL n o k := ⟨_, rfl⟩
    have hL : Per n o k L := by rw [eL]; exact perL_ok h hk
    have hL1 := hL.pos
    have hLn := hL.le
    refine for_step rfl ?_
    simp only [seqS_eq, bndr, bndb, slot0, slotS, slotW0, slotW0o, slotWS, slotD0, slotDS, ownS0, ownSS, frz_v, frz_o, frz_d, frz_n, frz_nil, frzI0, frzIS, lift_some, toB_bool, truth_bool, itemsD_l, itemsD_t, setV_eq, List.set_cons_zero, List.set_cons_succ, if_true, if_false, Bool.false_eq_true, Bool.not_false, Bool.not_true, Bool.true_and, Bool.and_true, dAdd_i, dSub_i, dLe_i, dLt_i, dLtD_i, dLeD_i, dGtD_i, dGeD_i, isI_ii, isI_bi, setIm, setVm, setIx, tupM, Option.bind_some, seqT_t, e2, r1]
    rw [if_pos (show [nI k].length ≤ 100000 by simp)]
    simp only [seqS_eq, bndr, bndb, slot0, slotS, slotW0, slotW0o, slotWS, slotD0, slotDS, ownS0, ownSS, frz_v, frz_o, frz_d, frz_n, frz_nil, frzI0, frzIS, lift_some, toB_bool, truth_bool, itemsD_l, itemsD_t, setV_eq, List.set_cons_zero, List.set_cons_succ, if_true, if_false, Bool.false_eq_true, Bool.not_false, Bool.not_true, Bool.true_and, Bool.and_true, dAdd_i, dSub_i, dLe_i, dLt_i, dLtD_i, dLeD_i, dGtD_i, dGeD_i, isI_ii, isI_bi, setIm, setVm, setIx, tupM, Option.bind_some, seqT_t, e2, r1]
    refine bexS (I := fun ρ => ∃ s4, ρ = [some (.val (O o)), some (.own (.list (ws.map O))), some (.val (nI k)), some (.own (.list ((cyc o k L).map nI))), s4]) ?_ ?_
    · have w := for_ixE (hh := setV 4) (body := fun ρ => bnd (slotW ρ 0) fun a => bnd (slotW ρ 3) fun a_3 => bnd (lift (dIx a_3 (PyData.int (-1)))) fun a_4 => bnd (lift (dIx a a_4)) fun a => bnd (slotW ρ 2) fun a_5 => bnd (lift (dNe a a_5)) fun a => bnd (toB a) fun c => if c = true then bnd (ownS ρ 3) fun ds => bnd (slotW ρ 0) fun a => bnd (slotW ρ 3) fun a_6 => bnd (lift (dIx a_6 (PyData.int (-1)))) fun a_7 => bnd (lift (dIx a a_7)) fun d => if ds.length < 16000000 then ret (Out.nx (List.set ρ 3 (some (Sl.own (PyData.list (ds ++ [d])))))) else stk else ret (Out.nx ρ))
        (ρ := [some (.val (O o)), some (.own (.list (ws.map O))), some (.val (nI k)), some (.own (.list [nI k])), s4]) nI (fun j ρ => ∃ s4, ρ = [some (.val (O o)), some (.own (.list (ws.map O))), some (.val (nI k)), some (.own (.list ((cyc o k (min (j + 1) L)).map nI))), s4]) n ⟨s4, by rw [show min (0 + 1) L = 1 by omega]; rfl⟩ (by
          rintro j hj ρ ⟨s4, rfl⟩
          obtain ⟨m, hm⟩ : ∃ m, min (j + 1) L = m + 1 := ⟨min (j + 1) L - 1, by omega⟩
          rw [hm]
          have il : dIx (.list ((cyc o k (m + 1)).map nI)) (.int (-1)) = some (nI (it o m k)) := dIx_lml cyc_last
          have io : dIx (O o) (nI (it o m k)) = some (nI (it o (m + 1) k)) := ixO (by rw [hl]; exact it_lt h hk m)
          refine for_step rfl ?_
          simp only [seqS_eq, bndr, bndb, slot0, slotS, slotW0, slotW0o, slotWS, slotD0, slotDS, ownS0, ownSS, frz_v, frz_o, frz_d, frz_n, frz_nil, frzI0, frzIS, lift_some, toB_bool, truth_bool, itemsD_l, itemsD_t, setV_eq, List.set_cons_zero, List.set_cons_succ, if_true, if_false, Bool.false_eq_true, Bool.not_false, Bool.not_true, Bool.true_and, Bool.and_true, dAdd_i, dSub_i, dLe_i, dLt_i, dLtD_i, dLeD_i, dGtD_i, dGeD_i, isI_ii, isI_bi, setIm, setVm, setIx, tupM, Option.bind_some, seqT_t, il, io, neNN]
          by_cases c : m + 1 < L
          · rw [decide_eq_false (hL.first (m + 1) (by omega) c)]
            simp only [seqS_eq, bndr, bndb, slot0, slotS, slotW0, slotW0o, slotWS, slotD0, slotDS, ownS0, ownSS, frz_v, frz_o, frz_d, frz_n, frz_nil, frzI0, frzIS, lift_some, toB_bool, truth_bool, itemsD_l, itemsD_t, setV_eq, List.set_cons_zero, List.set_cons_succ, if_true, if_false, Bool.false_eq_true, Bool.not_false, Bool.not_true, Bool.true_and, Bool.and_true, dAdd_i, dSub_i, dLe_i, dLt_i, dLtD_i, dLeD_i, dGtD_i, dGeD_i, isI_ii, isI_bi, setIm, setVm, setIx, tupM, Option.bind_some, seqT_t, il, io]
            rw [if_pos (by rw [List.length_map, cyc_len]; omega)]
            refine ⟨_, rfl, some (.val (nI j)), ?_⟩
            rw [show min (j + 1 + 1) L = m + 1 + 1 by omega, cyc_snoc o k (m + 1), List.map_append]
            rfl
          · have eL : m + 1 = L := by omega
            rw [eL, hL.back, decide_eq_true rfl]
            simp only [seqS_eq, bndr, bndb, slot0, slotS, slotW0, slotW0o, slotWS, slotD0, slotDS, ownS0, ownSS, frz_v, frz_o, frz_d, frz_n, frz_nil, frzI0, frzIS, lift_some, toB_bool, truth_bool, itemsD_l, itemsD_t, setV_eq, List.set_cons_zero, List.set_cons_succ, if_true, if_false, Bool.false_eq_true, Bool.not_false, Bool.not_true, Bool.true_and, Bool.and_true, dAdd_i, dSub_i, dLe_i, dLt_i, dLtD_i, dLeD_i, dGtD_i, dGeD_i, isI_ii, isI_bi, setIm, setVm, setIx, tupM, Option.bind_some, seqT_t]
            refine ⟨_, rfl, some (.val (nI j)), ?_⟩
            rw [show min (j + 1 + 1) L = L by omega])
      rw [show min (n + 1) L = L by omega] at w
      exact w
    · rintro _ ⟨s4, rfl⟩
      obtain ⟨m, hm, hmem, hle⟩ := dMin_nI (l := cyc o k L) (by
        intro e
        have := congrArg List.length e
        rw [cyc_len] at this
        simp at this
        omega)
      simp only [seqS_eq, bndr, bndb, slot0, slotS, slotW0, slotW0o, slotWS, slotD0, slotDS, ownS0, ownSS, frz_v, frz_o, frz_d, frz_n, frz_nil, frzI0, frzIS, lift_some, toB_bool, truth_bool, itemsD_l, itemsD_t, setV_eq, List.set_cons_zero, List.set_cons_succ, if_true, if_false, Bool.false_eq_true, Bool.not_false, Bool.not_true, Bool.true_and, Bool.and_true, dAdd_i, dSub_i, dLe_i, dLt_i, dLtD_i, dLeD_i, dGtD_i, dGeD_i, isI_ii, isI_bi, setIm, setVm, setIx, tupM, Option.bind_some, seqT_t, hm, eqNN]
      by_cases c : m = k
      · rw [decide_eq_true c]
        simp only [seqS_eq, bndr, bndb, slot0, slotS, slotW0, slotW0o, slotWS, slotD0, slotDS, ownS0, ownSS, frz_v, frz_o, frz_d, frz_n, frz_nil, frzI0, frzIS, lift_some, toB_bool, truth_bool, itemsD_l, itemsD_t, setV_eq, List.set_cons_zero, List.set_cons_succ, if_true, if_false, Bool.false_eq_true, Bool.not_false, Bool.not_true, Bool.true_and, Bool.and_true, dAdd_i, dSub_i, dLe_i, dLt_i, dLtD_i, dLeD_i, dGtD_i, dGeD_i, isI_ii, isI_bi, setIm, setVm, setIx, tupM, Option.bind_some, seqT_t, dTuple_l]
        rw [if_pos (by rw [List.length_map]; omega)]
        have hM : isM o k = true := isM_iff.mpr ((leastP_cyc hL).mpr fun x hx => by rw [← c]; exact hle x hx)
        refine ⟨_, rfl, ws ++ [cyc o k L], some (.val (nI k)), some (.own (.list ((cyc o k L).map nI))), s4, ?_, ?_, by rw [List.length_append, List.length_singleton]; omega⟩
        · rw [List.map_append]; rfl
        · rw [rdsL_succ, hM, if_pos rfl, h1, eL]
      · rw [decide_eq_false c]
        simp only [seqS_eq, bndr, bndb, slot0, slotS, slotW0, slotW0o, slotWS, slotD0, slotDS, ownS0, ownSS, frz_v, frz_o, frz_d, frz_n, frz_nil, frzI0, frzIS, lift_some, toB_bool, truth_bool, itemsD_l, itemsD_t, setV_eq, List.set_cons_zero, List.set_cons_succ, if_true, if_false, Bool.false_eq_true, Bool.not_false, Bool.not_true, Bool.true_and, Bool.and_true, dAdd_i, dSub_i, dLe_i, dLt_i, dLtD_i, dLeD_i, dGtD_i, dGeD_i, isI_ii, isI_bi, setIm, setVm, setIx, tupM, Option.bind_some, seqT_t]
        have hM : isM o k = false := Bool.eq_false_iff.mpr fun z => by
          have a1 := (leastP_cyc hL).mp (isM_iff.mp z) m hmem
          have a2 := hle k ((mem_cyc hL1 hL.back).mpr ⟨0, rfl⟩)
          omega
        refine ⟨_, rfl, ws, some (.val (nI k)), some (.own (.list ((cyc o k L).map nI))), s4, rfl, ?_, by omega⟩
        rw [rdsL_succ, hM, if_neg (by decide), h1]
  · rintro ρ ⟨ws, s2, s3, s4, rfl, h1, h3⟩
    simp only [seqS_eq, bndr, bndb, slot0, slotS, slotW0, slotW0o, slotWS, slotD0, slotDS, ownS0, ownSS, frz_v, frz_o, frz_d, frz_n, frz_nil, frzI0, frzIS, lift_some, toB_bool, truth_bool, itemsD_l, itemsD_t, setV_eq, List.set_cons_zero, List.set_cons_succ, if_true, if_false, Bool.false_eq_true, Bool.not_false, Bool.not_true, Bool.true_and, Bool.and_true, dAdd_i, dSub_i, dLe_i, dLt_i, dLtD_i, dLeD_i, dGtD_i, dGeD_i, isI_ii, isI_bi, setIm, setVm, setIx, tupM, Option.bind_some, seqT_t, fin_rt]
    exact ⟨ws, rfl, h1, h3⟩
end DV

-- Q11
set_option Elab.async false
set_option linter.all false
set_option maxRecDepth 100000
set_option maxHeartbeats 4000000
namespace DV
open PySem PySem.Spec PyProof.Rows L2 HdL Od
theorem ixL {o : List Nat} {p : Nat} (h : p < o.length) : dIx (.list (o.map nI)) (nI p) = some (nI (ap o p)) := dIx_lm (ap_get h)
theorem Hit.ixE {hh : D → Rho → Option Rho} {body : Rho → M Out} {ρ : Rho} {s : DS} (f : Nat → D) (I : Nat → Rho → Prop) (n : Nat) (h0 : I 0 ρ) (h : ∀ i, i < n → ∀ ρ, I i ρ → ∃ ρ1 ρ2, hh (f i) ρ = some ρ1 ∧ body ρ1 = DV.ret (.nx ρ2) ∧ I (i + 1) ρ2) : Hit (forD hh body ((List.range n).map f) ρ) s fun o s' => s' = s ∧ ∃ ρ', o = .nx ρ' ∧ I n ρ' := by
  obtain ⟨ρ', e, i⟩ := for_ixE (hh := hh) (body := body) (ρ := ρ) f I n h0 h
  exact Hit.of_ret e ⟨rfl, ρ', rfl, i⟩
theorem mulS (a : Nat) {b : Nat} (h : b ≤ 1000) : dMul (nI a) (nI b) = some (nI (a * b)) := by
  have k : IntMulOk (a : Int) (b : Int) := cmul_small (by omega) (by omega)
  show iteP _ _ _ = _
  rw [iteP_pos k]
  show some (PyData.int ((a : Int) * (b : Int))) = some (PyData.int ((a * b : Nat) : Int))
  rw [Int.natCast_mul]
theorem cutAB {α : Type} (f : α → D) (xs : List α) {a b : Nat} (h : a ≤ b) (hb : b ≤ xs.length) : dCut (.list (xs.map f)) (some (a : Int)) (some (b : Int)) = some (.list (((xs.drop a).take (b - a)).map f)) := by
  rw [dCut_l]
  unfold cutD
  rw [HT.sIx_nat, HT.sIx_nat, List.length_map, Nat.min_eq_left hb, Nat.min_eq_left (by omega), List.map_take, List.map_drop]
def RO (n : Nat) (f : List Nat) (s3 s4 : Option Sl) : Rho := [some .drw, some (.val (nI n)), some (.own (.list (f.map nI))), s3, s4, none, none, none, none, none, none]
theorem shuffle {n : Nat} {s : DS} (hn : Sz n) (hs : BOk s) : Hit (pk__law_order.1 [some .drw, some (.val (nI n)), none, none, none, none, none, none, none, none, none]) s fun o s' => ∃ g, Ord n g ∧ o = .rt (O g) ∧ BOk s' := by
  unfold pk__law_order
  have hn1 := hn.1
  have hn2 := hn.2
  have r1 : rng1 [nI n] = ret ((List.range n).map nI) := rng1_m (by omega)
  simp only [seqS_eq, bndr, bndb, slot0, slotS, slotW0, slotW0o, slotWS, slotD0, slotDS, ownS0, ownSS, frz_v, frz_o, frz_d, frz_n, frz_nil, frzI0, frzIS, lift_some, toB_bool, truth_bool, itemsD_l, itemsD_t, setV_eq, List.set_cons_zero, List.set_cons_succ, if_true, if_false, Bool.false_eq_true, Bool.not_false, Bool.not_true, Bool.true_and, Bool.and_true, dAdd_i, dSub_i, dLe_i, dLt_i, dLtD_i, dLeD_i, dGtD_i, dGeD_i, isI_ii, isI_bi, setIm, setVm, setIx, tupM, Option.bind_some, seqT_t, toI_i]
  rw [rgD_nat (n := n) (by omega)]
  simp only [seqS_eq, bndr, bndb, slot0, slotS, slotW0, slotW0o, slotWS, slotD0, slotDS, ownS0, ownSS, frz_v, frz_o, frz_d, frz_n, frz_nil, frzI0, frzIS, lift_some, toB_bool, truth_bool, itemsD_l, itemsD_t, setV_eq, List.set_cons_zero, List.set_cons_succ, if_true, if_false, Bool.false_eq_true, Bool.not_false, Bool.not_true, Bool.true_and, Bool.and_true, dAdd_i, dSub_i, dLe_i, dLt_i, dLtD_i, dLeD_i, dGtD_i, dGeD_i, isI_ii, isI_bi, setIm, setVm, setIx, tupM, Option.bind_some, seqT_t, r1]
  refine Hit.bnd ((Hit.forM_ (xs := List.range n) (f := nI) (fun _ ρ s => ∃ f s3 s4, Ord n f ∧ ρ = RO n f s3 s4 ∧ BOk s) ⟨List.range n, none, none, List.Perm.refl _, rfl, hs⟩ fun x hx k ρ s i => ?_).imp ?_)
  · obtain ⟨f, s3, s4, hf, rfl, hs⟩ := i
    have hx := List.mem_range.mp hx
    have hfl := hf.len
    refine ⟨_, rfl, ?_⟩
    unfold RO
    simp only [seqS_eq, bndr, bndb, slot0, slotS, slotW0, slotW0o, slotWS, slotD0, slotDS, ownS0, ownSS, frz_v, frz_o, frz_d, frz_n, frz_nil, frzI0, frzIS, lift_some, toB_bool, truth_bool, itemsD_l, itemsD_t, setV_eq, List.set_cons_zero, List.set_cons_succ, if_true, if_false, Bool.false_eq_true, Bool.not_false, Bool.not_true, Bool.true_and, Bool.and_true, dAdd_i, dSub_i, dLe_i, dLt_i, dLtD_i, dLeD_i, dGtD_i, dGeD_i, isI_ii, isI_bi, setIm, setVm, setIx, tupM, Option.bind_some, seqT_t, mkTn0, mkTn1, mkTn2, mkTn3, mkTn4, mkTn5, mkTn6, mkTn7, mkTn8, mkLn0, mkLn1, mkLn2, mkLn3, mkLn4, mkLn5, mkLn6, mkLn7, mkLn8, mkLn9, mkLn10, mkLn11, mkLn12, mkLn13, mkLn14, mkLn15, mkLn16]
    refine Hit.bnd ((take_ok (by omega) hs).imp ?_)
    rintro _ s1 ⟨r, rfl, hr0, hr1, hs1⟩
    obtain ⟨j, ej⟩ : ∃ j : Nat, (x : Int) + r = (j : Int) := ⟨(x + r).toNat, by omega⟩
    have hj : j < n := by omega
    simp only [seqS_eq, bndr, bndb, slot0, slotS, slotW0, slotW0o, slotWS, slotD0, slotDS, ownS0, ownSS, frz_v, frz_o, frz_d, frz_n, frz_nil, frzI0, frzIS, lift_some, toB_bool, truth_bool, itemsD_l, itemsD_t, setV_eq, List.set_cons_zero, List.set_cons_succ, if_true, if_false, Bool.false_eq_true, Bool.not_false, Bool.not_true, Bool.true_and, Bool.and_true, dAdd_i, dSub_i, dLe_i, dLt_i, dLtD_i, dLeD_i, dGtD_i, dGeD_i, isI_ii, isI_bi, setIm, setVm, setIx, tupM, Option.bind_some, seqT_t, mkTn0, mkTn1, mkTn2, mkTn3, mkTn4, mkTn5, mkTn6, mkTn7, mkTn8, mkLn0, mkLn1, mkLn2, mkLn3, mkLn4, mkLn5, mkLn6, mkLn7, mkLn8, mkLn9, mkLn10, mkLn11, mkLn12, mkLn13, mkLn14, mkLn15, mkLn16, ej, ixL (o := f) (p := j) (by omega), ixL (o := f) (p := x) (by omega), List.length_map, hfl, ixN_nat hx, ixN_nat hj, Option.map_some, List.length_set, List.length_cons, List.length_nil, Nat.zero_add, Nat.reduceAdd]
    refine Hit.ret ⟨_, rfl, (f.set x (ap f j)).set j (ap f x), some (.val (nI x)), some (.val (nI j)), swap_ord hf hx hj, ?_, hs1⟩
    rw [List.map_set, List.map_set]
  · rintro o s' ⟨ρ', rfl, f, s3', s4, hf, rfl, hs⟩
    have hfl := hf.len
    unfold RO
    simp only [seqS_eq, bndr, bndb, slot0, slotS, slotW0, slotW0o, slotWS, slotD0, slotDS, ownS0, ownSS, frz_v, frz_o, frz_d, frz_n, frz_nil, frzI0, frzIS, lift_some, toB_bool, truth_bool, itemsD_l, itemsD_t, setV_eq, List.set_cons_zero, List.set_cons_succ, if_true, if_false, Bool.false_eq_true, Bool.not_false, Bool.not_true, Bool.true_and, Bool.and_true, dAdd_i, dSub_i, dLe_i, dLt_i, dLtD_i, dLeD_i, dGtD_i, dGeD_i, isI_ii, isI_bi, setIm, setVm, setIx, tupM, Option.bind_some, seqT_t, mkTn0, mkTn1, mkTn2, mkTn3, mkTn4, mkTn5, mkTn6, mkTn7, mkTn8, mkLn0, mkLn1, mkLn2, mkLn3, mkLn4, mkLn5, mkLn6, mkLn7, mkLn8, mkLn9, mkLn10, mkLn11, mkLn12, mkLn13, mkLn14, mkLn15, mkLn16]
    refine Hit.bnd ((take_ok (by decide) hs).imp ?_)
    rintro _ s1 ⟨kd, rfl, hk0, hk1, hs1⟩
    simp only [seqS_eq, bndr, bndb, slot0, slotS, slotW0, slotW0o, slotWS, slotD0, slotDS, ownS0, ownSS, frz_v, frz_o, frz_d, frz_n, frz_nil, frzI0, frzIS, lift_some, toB_bool, truth_bool, itemsD_l, itemsD_t, setV_eq, List.set_cons_zero, List.set_cons_succ, if_true, if_false, Bool.false_eq_true, Bool.not_false, Bool.not_true, Bool.true_and, Bool.and_true, dAdd_i, dSub_i, dLe_i, dLt_i, dLtD_i, dLeD_i, dGtD_i, dGeD_i, isI_ii, isI_bi, setIm, setVm, setIx, tupM, Option.bind_some, seqT_t, mkTn0, mkTn1, mkTn2, mkTn3, mkTn4, mkTn5, mkTn6, mkTn7, mkTn8, mkLn0, mkLn1, mkLn2, mkLn3, mkLn4, mkLn5, mkLn6, mkLn7, mkLn8, mkLn9, mkLn10, mkLn11, mkLn12, mkLn13, mkLn14, mkLn15, mkLn16]
    by_cases c1 : kd < 2
    · rw [decide_eq_true c1]
      simp only [seqS_eq, bndr, bndb, slot0, slotS, slotW0, slotW0o, slotWS, slotD0, slotDS, ownS0, ownSS, frz_v, frz_o, frz_d, frz_n, frz_nil, frzI0, frzIS, lift_some, toB_bool, truth_bool, itemsD_l, itemsD_t, setV_eq, List.set_cons_zero, List.set_cons_succ, if_true, if_false, Bool.false_eq_true, Bool.not_false, Bool.not_true, Bool.true_and, Bool.and_true, dAdd_i, dSub_i, dLe_i, dLt_i, dLtD_i, dLeD_i, dGtD_i, dGeD_i, isI_ii, isI_bi, setIm, setVm, setIx, tupM, Option.bind_some, seqT_t, dTuple_l]
      exact Hit.ret ⟨f, hf, rfl, hs1⟩
    rw [decide_eq_false c1]
    by_cases c2 : n < 2
    · rw [decide_eq_true (show (n : Int) < 2 by omega)]
      simp only [seqS_eq, bndr, bndb, slot0, slotS, slotW0, slotW0o, slotWS, slotD0, slotDS, ownS0, ownSS, frz_v, frz_o, frz_d, frz_n, frz_nil, frzI0, frzIS, lift_some, toB_bool, truth_bool, itemsD_l, itemsD_t, setV_eq, List.set_cons_zero, List.set_cons_succ, if_true, if_false, Bool.false_eq_true, Bool.not_false, Bool.not_true, Bool.true_and, Bool.and_true, dAdd_i, dSub_i, dLe_i, dLt_i, dLtD_i, dLeD_i, dGtD_i, dGeD_i, isI_ii, isI_bi, setIm, setVm, setIx, tupM, Option.bind_some, seqT_t, dTuple_l]
      exact Hit.ret ⟨f, hf, rfl, hs1⟩
    rw [decide_eq_false (show ¬ (n : Int) < 2 by omega)]
    simp only [seqS_eq, bndr, bndb, slot0, slotS, slotW0, slotW0o, slotWS, slotD0, slotDS, ownS0, ownSS, frz_v, frz_o, frz_d, frz_n, frz_nil, frzI0, frzIS, lift_some, toB_bool, truth_bool, itemsD_l, itemsD_t, setV_eq, List.set_cons_zero, List.set_cons_succ, if_true, if_false, Bool.false_eq_true, Bool.not_false, Bool.not_true, Bool.true_and, Bool.and_true, dAdd_i, dSub_i, dLe_i, dLt_i, dLtD_i, dLeD_i, dGtD_i, dGeD_i, isI_ii, isI_bi, setIm, setVm, setIx, tupM, Option.bind_some, seqT_t, mkTn0, mkTn1, mkTn2, mkTn3, mkTn4, mkTn5, mkTn6, mkTn7, mkTn8, mkLn0, mkLn1, mkLn2, mkLn3, mkLn4, mkLn5, mkLn6, mkLn7, mkLn8, mkLn9, mkLn10, mkLn11, mkLn12, mkLn13, mkLn14, mkLn15, mkLn16]
    refine Hit.bnd ((take_ok (by omega) hs1).imp ?_)
    rintro _ s2 ⟨r0, rfl, hr0, hr1, hs2⟩
    obtain ⟨sz, hsz, hz1, hz2⟩ : ∃ sz : Nat, dIx (.list [nI n, .int (1 + r0), .int 2]) (.int (kd - 2)) = some (nI sz) ∧ 1 ≤ sz ∧ sz ≤ n := by
      have : kd = 2 ∨ kd = 3 ∨ kd = 4 := by omega
      rcases this with rfl | rfl | rfl
      · exact ⟨n, rfl, hn1, Nat.le_refl _⟩
      · refine ⟨(1 + r0).toNat, ?_, by omega, by omega⟩
        rw [show nI (1 + r0).toNat = .int (1 + r0) from congrArg PyData.int (Int.toNat_of_nonneg (by omega))]
        rfl
      · exact ⟨2, rfl, by decide, by omega⟩
    have fd : dFdiv (nI n) (nI sz) = some (nI (n / sz)) := by
      show dFdiv (.int (n : Int)) (.int (sz : Int)) = _
      rw [dFdiv_i (by omega) (by rw [Int.natAbs_natCast]; exact Nat.lt_of_le_of_lt (Nat.log2_le_self sz) (by omega))]
      show some (PyData.int ((n : Int) / (sz : Int))) = some (PyData.int ((n / sz : Nat) : Int))
      rw [Int.natCast_ediv]
    have hd1 : 1 ≤ n / sz := Nat.div_pos hz2 (by omega)
    simp only [seqS_eq, bndr, bndb, slot0, slotS, slotW0, slotW0o, slotWS, slotD0, slotDS, ownS0, ownSS, frz_v, frz_o, frz_d, frz_n, frz_nil, frzI0, frzIS, lift_some, toB_bool, truth_bool, itemsD_l, itemsD_t, setV_eq, List.set_cons_zero, List.set_cons_succ, if_true, if_false, Bool.false_eq_true, Bool.not_false, Bool.not_true, Bool.true_and, Bool.and_true, dAdd_i, dSub_i, dLe_i, dLt_i, dLtD_i, dLeD_i, dGtD_i, dGeD_i, isI_ii, isI_bi, setIm, setVm, setIx, tupM, Option.bind_some, seqT_t, mkTn0, mkTn1, mkTn2, mkTn3, mkTn4, mkTn5, mkTn6, mkTn7, mkTn8, mkLn0, mkLn1, mkLn2, mkLn3, mkLn4, mkLn5, mkLn6, mkLn7, mkLn8, mkLn9, mkLn10, mkLn11, mkLn12, mkLn13, mkLn14, mkLn15, mkLn16, hsz, fd]
    refine Hit.bnd ((take_ok (by omega) hs2).imp ?_)
    rintro _ s3 ⟨r2, rfl, hr2, hr3, hs3⟩
    obtain ⟨m, hm, hm1, hm2⟩ : ∃ m : Nat, dIx (.list [.int 1, .int (1 + r2), .int 1]) (.int (kd - 2)) = some (nI m) ∧ 1 ≤ m ∧ m ≤ n / sz := by
      have : kd = 2 ∨ kd = 3 ∨ kd = 4 := by omega
      rcases this with rfl | rfl | rfl
      · exact ⟨1, rfl, by decide, hd1⟩
      · refine ⟨(1 + r2).toNat, ?_, by omega, by omega⟩
        rw [show nI (1 + r2).toNat = .int (1 + r2) from congrArg PyData.int (Int.toNat_of_nonneg (by omega))]
        rfl
      · exact ⟨1, rfl, by decide, hd1⟩
    have hms : m * sz ≤ n := Nat.le_trans (Nat.mul_le_mul hm2 (Nat.le_refl _)) (Nat.div_mul_le_self n sz)
    have hmn : m ≤ n := Nat.le_trans (Nat.le_mul_of_pos_right m (by omega)) hms
    simp only [seqS_eq, bndr, bndb, slot0, slotS, slotW0, slotW0o, slotWS, slotD0, slotDS, ownS0, ownSS, frz_v, frz_o, frz_d, frz_n, frz_nil, frzI0, frzIS, lift_some, toB_bool, truth_bool, itemsD_l, itemsD_t, setV_eq, List.set_cons_zero, List.set_cons_succ, if_true, if_false, Bool.false_eq_true, Bool.not_false, Bool.not_true, Bool.true_and, Bool.and_true, dAdd_i, dSub_i, dLe_i, dLt_i, dLtD_i, dLeD_i, dGtD_i, dGeD_i, isI_ii, isI_bi, setIm, setVm, setIx, tupM, Option.bind_some, seqT_t, mkTn0, mkTn1, mkTn2, mkTn3, mkTn4, mkTn5, mkTn6, mkTn7, mkTn8, mkLn0, mkLn1, mkLn2, mkLn3, mkLn4, mkLn5, mkLn6, mkLn7, mkLn8, mkLn9, mkLn10, mkLn11, mkLn12, mkLn13, mkLn14, mkLn15, mkLn16, hm, toI_i]
    rw [rgD_nat (n := n) (by omega)]
    simp only [seqS_eq, bndr, bndb, slot0, slotS, slotW0, slotW0o, slotWS, slotD0, slotDS, ownS0, ownSS, frz_v, frz_o, frz_d, frz_n, frz_nil, frzI0, frzIS, lift_some, toB_bool, truth_bool, itemsD_l, itemsD_t, setV_eq, List.set_cons_zero, List.set_cons_succ, if_true, if_false, Bool.false_eq_true, Bool.not_false, Bool.not_true, Bool.true_and, Bool.and_true, dAdd_i, dSub_i, dLe_i, dLt_i, dLtD_i, dLeD_i, dGtD_i, dGeD_i, isI_ii, isI_bi, setIm, setVm, setIx, tupM, Option.bind_some, seqT_t, rng1_m (show m ≤ 1000000 by omega)]
    refine Hit.bnd ((Hit.ixE nI (fun p ρ => ∃ s3 s9 s10, ρ = [some .drw, some (.val (nI n)), some (.own (.list (f.map nI))), s3, s4, some (.val (.int kd)), some (.val (nI sz)), some (.val (nI m)), some (.own (.list ((Od.fill (G f sz m) (List.range n) (f.take (p * sz))).map nI))), s9, s10]) m ⟨s3', none, none, ?_⟩ fun p hp ρ i => ?_).imp ?_)
    · rw [Nat.zero_mul, List.take_zero]
      rfl
    · obtain ⟨s3, s9, s10, rfl⟩ := i
      have hpz : p * sz + sz ≤ n := by
        have : (p + 1) * sz ≤ m * sz := Nat.mul_le_mul hp (Nat.le_refl _)
        rw [Nat.succ_mul] at this
        omega
      have m1 : dMul (nI p) (nI sz) = some (nI (p * sz)) := mulS p (by omega)
      have m2 : dMul (.int ((p : Int) + 1)) (nI sz) = some (nI (p * sz + sz)) := by
        rw [show PyData.int ((p : Int) + 1) = nI (p + 1) from rfl, mulS (p + 1) (by omega), Nat.succ_mul]
      have ct : dCut (.list (f.map nI)) (some ((p * sz : Nat) : Int)) (some ((p * sz + sz : Nat) : Int)) = some (.list (((f.drop (p * sz)).take sz).map nI)) := by
        rw [cutAB nI f (by omega) (by omega), show p * sz + sz - p * sz = sz by omega]
      have ring : ∀ k, k < sz → dIx (.list (((f.drop (p * sz)).take sz).map nI)) (nI k) = some (nI (ap f (p * sz + k))) := fun k hk => dIx_lm (by
        rw [List.getElem?_take, if_pos hk, List.getElem?_drop]
        exact ap_get (by omega))
      refine for_step rfl ?_
      simp only [seqS_eq, bndr, bndb, slot0, slotS, slotW0, slotW0o, slotWS, slotD0, slotDS, ownS0, ownSS, frz_v, frz_o, frz_d, frz_n, frz_nil, frzI0, frzIS, lift_some, toB_bool, truth_bool, itemsD_l, itemsD_t, setV_eq, List.set_cons_zero, List.set_cons_succ, if_true, if_false, Bool.false_eq_true, Bool.not_false, Bool.not_true, Bool.true_and, Bool.and_true, dAdd_i, dSub_i, dLe_i, dLt_i, dLtD_i, dLeD_i, dGtD_i, dGeD_i, isI_ii, isI_bi, setIm, setVm, setIx, tupM, Option.bind_some, seqT_t, m1, m2, toI_i, ct, rng1_m (show sz ≤ 1000000 by omega)]
      refine Exists.imp (fun ρ' h => ⟨h.1, ?_⟩) (for_ixE nI (fun k ρ => ∃ s3, ρ = [some .drw, some (.val (nI n)), some (.own (.list (f.map nI))), s3, s4, some (.val (.int kd)), some (.val (nI sz)), some (.val (nI m)), some (.own (.list ((Od.fill (G f sz m) (List.range n) (f.take (p * sz + k))).map nI))), some (.val (nI p)), some (.val (.list (((f.drop (p * sz)).take sz).map nI)))]) sz ⟨s3, rfl⟩ ?_)
      · obtain ⟨s3, e⟩ := h.2
        refine ⟨s3, some (.val (nI p)), some (.val (.list (((f.drop (p * sz)).take sz).map nI))), ?_⟩
        rw [e, Nat.succ_mul]
      · rintro k hk ρ ⟨s3, rfl⟩
        have hx := hf.lt (show p * sz + k < n by omega)
        have m3 : dMod (.int ((k : Int) + 1)) (nI sz) = some (nI ((k + 1) % sz)) := by
          show dMod (.int ((k : Int) + 1)) (.int (sz : Int)) = _
          rw [dMod_i (by omega)]
          show some (PyData.int (((k : Int) + 1) % (sz : Int))) = some (PyData.int (((k + 1) % sz : Nat) : Int))
          rw [Int.natCast_emod]
          rfl
        refine for_step rfl ?_
        simp only [seqS_eq, bndr, bndb, slot0, slotS, slotW0, slotW0o, slotWS, slotD0, slotDS, ownS0, ownSS, frz_v, frz_o, frz_d, frz_n, frz_nil, frzI0, frzIS, lift_some, toB_bool, truth_bool, itemsD_l, itemsD_t, setV_eq, List.set_cons_zero, List.set_cons_succ, if_true, if_false, Bool.false_eq_true, Bool.not_false, Bool.not_true, Bool.true_and, Bool.and_true, dAdd_i, dSub_i, dLe_i, dLt_i, dLtD_i, dLeD_i, dGtD_i, dGeD_i, isI_ii, isI_bi, setIm, setVm, setIx, tupM, Option.bind_some, seqT_t, m3, ring k hk, ring ((k + 1) % sz) (Nat.mod_lt _ (by omega)), List.length_map, fill_len, List.length_range, ixN_nat hx, Option.map_some]
        refine ⟨_, rfl, some (.val (nI k)), ?_⟩
        rw [show p * sz + (k + 1) = p * sz + k + 1 by omega, take_snoc (show p * sz + k < f.length by omega), fill_snoc, G_at hf hms hp hk, List.map_set]
    · rintro o s' ⟨rfl, ρ', rfl, s3, s9, s10, rfl⟩
      simp only [seqS_eq, bndr, bndb, slot0, slotS, slotW0, slotW0o, slotWS, slotD0, slotDS, ownS0, ownSS, frz_v, frz_o, frz_d, frz_n, frz_nil, frzI0, frzIS, lift_some, toB_bool, truth_bool, itemsD_l, itemsD_t, setV_eq, List.set_cons_zero, List.set_cons_succ, if_true, if_false, Bool.false_eq_true, Bool.not_false, Bool.not_true, Bool.true_and, Bool.and_true, dAdd_i, dSub_i, dLe_i, dLt_i, dLtD_i, dLeD_i, dGtD_i, dGeD_i, isI_ii, isI_bi, setIm, setVm, setIx, tupM, Option.bind_some, seqT_t, dTuple_l]
      rw [fill_G hf hz1 hms]
      exact Hit.ret ⟨_, G_ord hf hz1 hms, rfl, hs3⟩
theorem lorder_hit {n : Nat} {s : DS} (hn : Sz n) (hs : BOk s) : Hit (F__law_order [.drw, .val (nI n)]) s fun d s' => ∃ g, Ord n g ∧ d = O g ∧ BOk s' := by
  rw [run__law_order]
  refine Hit.bnd ((shuffle hn hs).imp ?_)
  rintro _ s' ⟨g, hg, rfl, h⟩
  exact Hit.ret ⟨g, hg, rfl, h⟩
end DV

-- Q11
set_option Elab.async false
set_option linter.all false
set_option maxRecDepth 100000
set_option maxHeartbeats 4000000
namespace DV
open PySem PySem.Spec PyProof.Rows L2 HdL Od
/-- the lengths of the rounds, ascending -/
noncomputable def kd (n : Nat) (o : List Nat) : List Nat := srt ((rdsL n o n).map List.length)
theorem kd_mem {n : Nat} {o : List Nat} {l : Nat} : l ∈ kd n o ↔ ∃ w ∈ rdsL n o n, w.length = l := by
  unfold kd
  rw [(srt_perm _).mem_iff, List.mem_map]
section
variable {n : Nat} {o : List Nat} (hn : Sz n) (h : Ord n o)
include hn h
theorem kd_small {l : Nat} (hl : l ∈ kd n o) : 1 ≤ l ∧ l ≤ 24 := by
  obtain ⟨w, hw, rfl⟩ := kd_mem.mp hl
  obtain ⟨s, hs, hP, _⟩ := rds_len h w hw
  have := hP.pos
  have := hP.le
  have := hn.2
  omega
theorem lens (ws : List (List Nat)) : (ws.map fun w => nI w.length) = (ws.map List.length).map nI := by rw [List.map_map]; rfl
theorem kind_run : F_kind_of [.val (O o)] = ret (O (kd n o)) := by
  rw [run_kind_of]
  unfold pk_kind_of
  obtain ⟨ws, er, rfl, hf⟩ := rounds_run hn h
  have hn2 := hn.2
  simp only [seqS_eq, bndr, bndb, slot0, slotS, slotW0, slotW0o, slotWS, slotD0, slotDS, ownS0, ownSS, frz_v, frz_o, frz_d, frz_n, frz_nil, frzI0, frzIS, lift_some, toB_bool, truth_bool, itemsD_l, itemsD_t, setV_eq, List.set_cons_zero, List.set_cons_succ, if_true, if_false, Bool.false_eq_true, Bool.not_false, Bool.not_true, Bool.true_and, Bool.and_true, dAdd_i, dSub_i, dLe_i, dLt_i, dLtD_i, dLeD_i, dGtD_i, dGeD_i, isI_ii, isI_bi, setIm, setVm, setIx, tupM, Option.bind_some, seqT_t]
  unfold sortF
  rw [lcF_map (rdsL n o n) O (fun w => nI w.length) (by simp only [wipeR, List.map_cons, List.map_nil, seqS_eq, bndr, bndb, slot0, slotS, slotW0, slotW0o, slotWS, slotD0, slotDS, ownS0, ownSS, frz_v, frz_o, frz_d, frz_n, frz_nil, frzI0, frzIS, lift_some, toB_bool, truth_bool, itemsD_l, itemsD_t, setV_eq, List.set_cons_zero, List.set_cons_succ, if_true, if_false, Bool.false_eq_true, Bool.not_false, Bool.not_true, Bool.true_and, Bool.and_true, dAdd_i, dSub_i, dLe_i, dLt_i, dLtD_i, dLeD_i, dGtD_i, dGeD_i, isI_ii, isI_bi, setIm, setVm, setIx, tupM, Option.bind_some, seqT_t, er]) (by omega) fun w hw => ⟨_, rfl, rfl, by simp only [wipeR, List.map_cons, List.map_nil, seqS_eq, bndr, bndb, slot0, slotS, slotW0, slotW0o, slotWS, slotD0, slotDS, ownS0, ownSS, frz_v, frz_o, frz_d, frz_n, frz_nil, frzI0, frzIS, lift_some, toB_bool, truth_bool, itemsD_l, itemsD_t, setV_eq, List.set_cons_zero, List.set_cons_succ, if_true, if_false, Bool.false_eq_true, Bool.not_false, Bool.not_true, Bool.true_and, Bool.and_true, dAdd_i, dSub_i, dLe_i, dLt_i, dLtD_i, dLeD_i, dGtD_i, dGeD_i, isI_ii, isI_bi, setIm, setVm, setIx, tupM, Option.bind_some, seqT_t]; rw [dLen_tm]; rfl⟩]
  rw [lens hn h]
  have e : dSortA [.list (((rdsL n o n).map List.length).map nI)] = some (.list ((kd n o).map nI)) := dSortA_O _
  simp only [seqS_eq, bndr, bndb, slot0, slotS, slotW0, slotW0o, slotWS, slotD0, slotDS, ownS0, ownSS, frz_v, frz_o, frz_d, frz_n, frz_nil, frzI0, frzIS, lift_some, toB_bool, truth_bool, itemsD_l, itemsD_t, setV_eq, List.set_cons_zero, List.set_cons_succ, if_true, if_false, Bool.false_eq_true, Bool.not_false, Bool.not_true, Bool.true_and, Bool.and_true, dAdd_i, dSub_i, dLe_i, dLt_i, dLtD_i, dLeD_i, dGtD_i, dGeD_i, isI_ii, isI_bi, setIm, setVm, setIx, tupM, Option.bind_some, seqT_t, e, dTuple_l, fin_rt]
theorem lkind_run : F__law_kind [.val (O o)] = ret (O (kd n o)) := by
  rw [run__law_kind]
  unfold pk__law_kind
  obtain ⟨ws, er, rfl, hf⟩ := lrounds_run hn h
  have hn2 := hn.2
  simp only [seqS_eq, bndr, bndb, slot0, slotS, slotW0, slotW0o, slotWS, slotD0, slotDS, ownS0, ownSS, frz_v, frz_o, frz_d, frz_n, frz_nil, frzI0, frzIS, lift_some, toB_bool, truth_bool, itemsD_l, itemsD_t, setV_eq, List.set_cons_zero, List.set_cons_succ, if_true, if_false, Bool.false_eq_true, Bool.not_false, Bool.not_true, Bool.true_and, Bool.and_true, dAdd_i, dSub_i, dLe_i, dLt_i, dLtD_i, dLeD_i, dGtD_i, dGeD_i, isI_ii, isI_bi, setIm, setVm, setIx, tupM, Option.bind_some, seqT_t]
  rw [lcF_map (rdsL n o n) O (fun w => nI w.length) (by simp only [wipeR, List.map_cons, List.map_nil, seqS_eq, bndr, bndb, slot0, slotS, slotW0, slotW0o, slotWS, slotD0, slotDS, ownS0, ownSS, frz_v, frz_o, frz_d, frz_n, frz_nil, frzI0, frzIS, lift_some, toB_bool, truth_bool, itemsD_l, itemsD_t, setV_eq, List.set_cons_zero, List.set_cons_succ, if_true, if_false, Bool.false_eq_true, Bool.not_false, Bool.not_true, Bool.true_and, Bool.and_true, dAdd_i, dSub_i, dLe_i, dLt_i, dLtD_i, dLeD_i, dGtD_i, dGeD_i, isI_ii, isI_bi, setIm, setVm, setIx, tupM, Option.bind_some, seqT_t, er]) (by omega) fun w hw => ⟨_, rfl, rfl, by simp only [wipeR, List.map_cons, List.map_nil, seqS_eq, bndr, bndb, slot0, slotS, slotW0, slotW0o, slotWS, slotD0, slotDS, ownS0, ownSS, frz_v, frz_o, frz_d, frz_n, frz_nil, frzI0, frzIS, lift_some, toB_bool, truth_bool, itemsD_l, itemsD_t, setV_eq, List.set_cons_zero, List.set_cons_succ, if_true, if_false, Bool.false_eq_true, Bool.not_false, Bool.not_true, Bool.true_and, Bool.and_true, dAdd_i, dSub_i, dLe_i, dLt_i, dLtD_i, dLeD_i, dGtD_i, dGeD_i, isI_ii, isI_bi, setIm, setVm, setIx, tupM, Option.bind_some, seqT_t]; rw [dLen_tm]; rfl⟩]
  rw [lens hn h]
  have e : dSortA [.list (((rdsL n o n).map List.length).map nI)] = some (.list ((kd n o).map nI)) := dSortA_O _
  simp only [seqS_eq, bndr, bndb, slot0, slotS, slotW0, slotW0o, slotWS, slotD0, slotDS, ownS0, ownSS, frz_v, frz_o, frz_d, frz_n, frz_nil, frzI0, frzIS, lift_some, toB_bool, truth_bool, itemsD_l, itemsD_t, setV_eq, List.set_cons_zero, List.set_cons_succ, if_true, if_false, Bool.false_eq_true, Bool.not_false, Bool.not_true, Bool.true_and, Bool.and_true, dAdd_i, dSub_i, dLe_i, dLt_i, dLtD_i, dLeD_i, dGtD_i, dGeD_i, isI_ii, isI_bi, setIm, setVm, setIx, tupM, Option.bind_some, seqT_t, e, dTuple_l, fin_rt]
end
theorem modNN {m : Nat} (k : Nat) (h : 1 ≤ m) : dMod (nI k) (nI m) = some (nI (k % m)) := by
  show dMod (.int (k : Int)) (.int (m : Int)) = _
  rw [dMod_i (by omega)]
  show some (PyData.int ((k : Int) % (m : Int))) = some (PyData.int ((k % m : Nat) : Int))
  rw [Int.natCast_emod]
theorem divNN {m : Nat} (k : Nat) (h : 1 ≤ m) (h2 : m ≤ 1000) : dFdiv (nI k) (nI m) = some (nI (k / m)) := by
  show dFdiv (.int (k : Int)) (.int (m : Int)) = _
  rw [dFdiv_i (by omega) (by rw [Int.natAbs_natCast]; exact Nat.lt_of_le_of_lt (Nat.log2_le_self m) (by omega))]
  show some (PyData.int ((k : Int) / (m : Int))) = some (PyData.int ((k / m : Nat) : Int))
  rw [Int.natCast_ediv]
theorem euclid {t : Rho → M Bool} {body : Rho → M Out} (ht : ∀ x y : Nat, t [some (.val (nI x)), some (.val (nI y))] = ret (decide (0 < y))) (hb : ∀ x y : Nat, 0 < y → body [some (.val (nI x)), some (.val (nI y))] = ret (.nx [some (.val (nI y)), some (.val (nI (x % y)))])) : ∀ (y x N : Nat), y < N → whileD t body N [some (.val (nI x)), some (.val (nI y))] = ret (.nx [some (.val (nI (Nat.gcd x y))), some (.val (nI 0))]) := by
  intro y
  induction y using Nat.strongRecOn with
  | _ y ih =>
    intro x N hN
    cases N with
    | zero => exact absurd hN (Nat.not_lt_zero _)
    | succ N =>
      show bnd (t _) _ = _
      rw [ht, bnd_ret]
      by_cases c : 0 < y
      · rw [decide_eq_true c, if_pos rfl, hb x y c, bnd_ret]
        have hm := Nat.mod_lt x c
        show whileD t body N [some (.val (nI y)), some (.val (nI (x % y)))] = _
        rw [ih (x % y) hm y N (by omega)]
        have : Nat.gcd x y = Nat.gcd y (x % y) := by rw [Nat.gcd_comm x y, Nat.gcd_rec y x, Nat.gcd_comm]
        rw [this]
      · have e : y = 0 := by omega
        subst e
        rw [decide_eq_false c, if_neg (by decide), Nat.gcd_zero_right]
theorem gcd_run {x y : Nat} (hy : y ≤ 1000) : F_common_divisor [.val (nI x), .val (nI y)] = ret (nI (Nat.gcd x y)) := by
  rw [run_common_divisor]
  unfold pk_common_divisor
  simp only [seqS_eq, bndr, bndb, slot0, slotS, slotW0, slotW0o, slotWS, slotD0, slotDS, ownS0, ownSS, frz_v, frz_o, frz_d, frz_n, frz_nil, frzI0, frzIS, lift_some, toB_bool, truth_bool, itemsD_l, itemsD_t, setV_eq, List.set_cons_zero, List.set_cons_succ, if_true, if_false, Bool.false_eq_true, Bool.not_false, Bool.not_true, Bool.true_and, Bool.and_true, dAdd_i, dSub_i, dLe_i, dLt_i, dLtD_i, dLeD_i, dGtD_i, dGeD_i, isI_ii, isI_bi, setIm, setVm, setIx, tupM, Option.bind_some, seqT_t]
  rw [euclid (fun x y => by
    have g : dGtD (nI y) (.int 0) = some (.bool (decide ((y : Int) > 0))) := dGtD_i _ _
    simp only [seqS_eq, bndr, bndb, slot0, slotS, slotW0, slotW0o, slotWS, slotD0, slotDS, ownS0, ownSS, frz_v, frz_o, frz_d, frz_n, frz_nil, frzI0, frzIS, lift_some, toB_bool, truth_bool, itemsD_l, itemsD_t, setV_eq, List.set_cons_zero, List.set_cons_succ, if_true, if_false, Bool.false_eq_true, Bool.not_false, Bool.not_true, Bool.true_and, Bool.and_true, dAdd_i, dSub_i, dLe_i, dLt_i, dLtD_i, dLeD_i, dGtD_i, dGeD_i, isI_ii, isI_bi, setIm, setVm, setIx, tupM, Option.bind_some, seqT_t, g]
    congr 1
    rw [Bool.eq_iff_iff, decide_eq_true_eq, decide_eq_true_eq]
    omega) (fun x y hy => by simp only [seqS_eq, bndr, bndb, slot0, slotS, slotW0, slotW0o, slotWS, slotD0, slotDS, ownS0, ownSS, frz_v, frz_o, frz_d, frz_n, frz_nil, frzI0, frzIS, lift_some, toB_bool, truth_bool, itemsD_l, itemsD_t, setV_eq, List.set_cons_zero, List.set_cons_succ, if_true, if_false, Bool.false_eq_true, Bool.not_false, Bool.not_true, Bool.true_and, Bool.and_true, dAdd_i, dSub_i, dLe_i, dLt_i, dLtD_i, dLeD_i, dGtD_i, dGeD_i, isI_ii, isI_bi, setIm, setVm, setIx, tupM, Option.bind_some, seqT_t, modNN x hy]) y x wN (by unfold wN; omega)]
  simp only [seqS_eq, bndr, bndb, slot0, slotS, slotW0, slotW0o, slotWS, slotD0, slotDS, ownS0, ownSS, frz_v, frz_o, frz_d, frz_n, frz_nil, frzI0, frzIS, lift_some, toB_bool, truth_bool, itemsD_l, itemsD_t, setV_eq, List.set_cons_zero, List.set_cons_succ, if_true, if_false, Bool.false_eq_true, Bool.not_false, Bool.not_true, Bool.true_and, Bool.and_true, dAdd_i, dSub_i, dLe_i, dLt_i, dLtD_i, dLeD_i, dGtD_i, dGeD_i, isI_ii, isI_bi, setIm, setVm, setIx, tupM, Option.bind_some, seqT_t, fin_rt]
section
variable {n : Nat} {o : List Nat} (hn : Sz n) (h : Ord n o)
include hn h
theorem turns_run : F_turn_number [.val (O o)] = ret (nI (tn (kd n o))) := by
  rw [run_turn_number]
  unfold pk_turn_number
  simp only [seqS_eq, bndr, bndb, slot0, slotS, slotW0, slotW0o, slotWS, slotD0, slotDS, ownS0, ownSS, frz_v, frz_o, frz_d, frz_n, frz_nil, frzI0, frzIS, lift_some, toB_bool, truth_bool, itemsD_l, itemsD_t, setV_eq, List.set_cons_zero, List.set_cons_succ, if_true, if_false, Bool.false_eq_true, Bool.not_false, Bool.not_true, Bool.true_and, Bool.and_true, dAdd_i, dSub_i, dLe_i, dLt_i, dLtD_i, dLeD_i, dGtD_i, dGeD_i, isI_ii, isI_bi, setIm, setVm, setIx, tupM, Option.bind_some, seqT_t, kind_run hn h]
  refine for_pre nI (fun pre ρ => ∃ s2, ρ = [some (.val (O o)), some (.val (nI (pre.foldl Nat.lcm 1))), s2]) (kd n o) ⟨none, rfl⟩ ?_ ?_
  · rintro pre l post e ρ ⟨s2, rfl⟩
    have hl := kd_small hn h (l := l) (by rw [e]; simp)
    have hp : 1 ≤ pre.foldl Nat.lcm 1 := fold_pos pre 1 (Nat.le_refl _) fun z hz => (kd_small hn h (l := z) (by rw [e]; simp [hz])).1
    have hg1 : 1 ≤ Nat.gcd (pre.foldl Nat.lcm 1) l := Nat.gcd_pos_of_pos_right _ hl.1
    have hg2 : Nat.gcd (pre.foldl Nat.lcm 1) l ≤ l := Nat.le_of_dvd hl.1 (Nat.gcd_dvd_right _ _)
    refine for_step rfl ?_
    simp only [seqS_eq, bndr, bndb, slot0, slotS, slotW0, slotW0o, slotWS, slotD0, slotDS, ownS0, ownSS, frz_v, frz_o, frz_d, frz_n, frz_nil, frzI0, frzIS, lift_some, toB_bool, truth_bool, itemsD_l, itemsD_t, setV_eq, List.set_cons_zero, List.set_cons_succ, if_true, if_false, Bool.false_eq_true, Bool.not_false, Bool.not_true, Bool.true_and, Bool.and_true, dAdd_i, dSub_i, dLe_i, dLt_i, dLtD_i, dLeD_i, dGtD_i, dGeD_i, isI_ii, isI_bi, setIm, setVm, setIx, tupM, Option.bind_some, seqT_t, mulS (pre.foldl Nat.lcm 1) (show l ≤ 1000 by omega), gcd_run (x := pre.foldl Nat.lcm 1) (show l ≤ 1000 by omega), divNN (pre.foldl Nat.lcm 1 * l) hg1 (by omega)]
    refine ⟨_, rfl, some (.val (nI l)), ?_⟩
    rw [List.foldl_append]
    rfl
  · rintro ρ ⟨s2, rfl⟩
    simp only [seqS_eq, bndr, bndb, slot0, slotS, slotW0, slotW0o, slotWS, slotD0, slotDS, ownS0, ownSS, frz_v, frz_o, frz_d, frz_n, frz_nil, frzI0, frzIS, lift_some, toB_bool, truth_bool, itemsD_l, itemsD_t, setV_eq, List.set_cons_zero, List.set_cons_succ, if_true, if_false, Bool.false_eq_true, Bool.not_false, Bool.not_true, Bool.true_and, Bool.and_true, dAdd_i, dSub_i, dLe_i, dLt_i, dLtD_i, dLeD_i, dGtD_i, dGeD_i, isI_ii, isI_bi, setIm, setVm, setIx, tupM, Option.bind_some, seqT_t, fin_rt]
    rfl
/-- an even number of pairs is turned round -/
def evB (n : Nat) (o : List Nat) : Bool := decide (invs n o % 2 = 0)
theorem even_expr (c : Nat) (hc : c = Od.cnt n o) : (((n : Int) - (c : Int)) % 2 == 0) = evB n o := by
  have hp := parity n o h
  have hle := cnt_le n o
  unfold evB
  rw [Bool.eq_iff_iff, beq_iff_eq, decide_eq_true_eq, hc]
  omega
theorem even_run : F_is_even [.val (O o)] = ret (.bool (evB n o)) := by
  rw [run_is_even]
  unfold pk_is_even
  obtain ⟨ws, er, rfl, hf⟩ := rounds_run hn h
  have e1 : dLen [O o] = some (nI n) := by rw [← h.len]; exact dLen_tm _ _
  have e2 : dLen [.list ((rdsL n o n).map O)] = some (nI (rdsL n o n).length) := dLen_lm _ _
  have e3 : ∀ i : Int, dMod (.int i) (.int 2) = some (.int (i % 2)) := fun i => dMod_i (by decide)
  simp only [seqS_eq, bndr, bndb, slot0, slotS, slotW0, slotW0o, slotWS, slotD0, slotDS, ownS0, ownSS, frz_v, frz_o, frz_d, frz_n, frz_nil, frzI0, frzIS, lift_some, toB_bool, truth_bool, itemsD_l, itemsD_t, setV_eq, List.set_cons_zero, List.set_cons_succ, if_true, if_false, Bool.false_eq_true, Bool.not_false, Bool.not_true, Bool.true_and, Bool.and_true, dAdd_i, dSub_i, dLe_i, dLt_i, dLtD_i, dLeD_i, dGtD_i, dGeD_i, isI_ii, isI_bi, setIm, setVm, setIx, tupM, Option.bind_some, seqT_t, e1, er, e2, e3, dEq_i, fin_rt]
  rw [even_expr hn h _ rdsL_len]
theorem leven_run : F__law_is_even [.val (O o)] = ret (.bool (evB n o)) := by
  rw [run__law_is_even]
  unfold pk__law_is_even
  have hl := h.len
  have hn2 := hn.2
  have e1 : dLen [O o] = some (nI n) := by rw [← hl]; exact dLen_tm _ _
  simp only [seqS_eq, bndr, bndb, slot0, slotS, slotW0, slotW0o, slotWS, slotD0, slotDS, ownS0, ownSS, frz_v, frz_o, frz_d, frz_n, frz_nil, frzI0, frzIS, lift_some, toB_bool, truth_bool, itemsD_l, itemsD_t, setV_eq, List.set_cons_zero, List.set_cons_succ, if_true, if_false, Bool.false_eq_true, Bool.not_false, Bool.not_true, Bool.true_and, Bool.and_true, dAdd_i, dSub_i, dLe_i, dLt_i, dLtD_i, dLeD_i, dGtD_i, dGeD_i, isI_ii, isI_bi, setIm, setVm, setIx, tupM, Option.bind_some, seqT_t, e1, rng1_m (show n ≤ 1000000 by omega)]
  refine for_ix nI (fun k ρ => ∃ s2 s3, ρ = [some (.val (O o)), some (.val (nI (sm (fun j => sm (fun i => iv o i j) (List.range j)) (List.range k)))), s2, s3]) n ⟨none, none, rfl⟩ ?_ ?_
  · rintro k hk ρ ⟨s2, s3, rfl⟩
    refine for_step rfl ?_
    simp only [seqS_eq, bndr, bndb, slot0, slotS, slotW0, slotW0o, slotWS, slotD0, slotDS, ownS0, ownSS, frz_v, frz_o, frz_d, frz_n, frz_nil, frzI0, frzIS, lift_some, toB_bool, truth_bool, itemsD_l, itemsD_t, setV_eq, List.set_cons_zero, List.set_cons_succ, if_true, if_false, Bool.false_eq_true, Bool.not_false, Bool.not_true, Bool.true_and, Bool.and_true, dAdd_i, dSub_i, dLe_i, dLt_i, dLtD_i, dLeD_i, dGtD_i, dGeD_i, isI_ii, isI_bi, setIm, setVm, setIx, tupM, Option.bind_some, seqT_t]
    rw [lcF_filter (List.range k) nI (fun j => decide (ap o k < ap o j)) nI (by simp only [wipeR, List.map_cons, List.map_nil, seqS_eq, bndr, bndb, slot0, slotS, slotW0, slotW0o, slotWS, slotD0, slotDS, ownS0, ownSS, frz_v, frz_o, frz_d, frz_n, frz_nil, frzI0, frzIS, lift_some, toB_bool, truth_bool, itemsD_l, itemsD_t, setV_eq, List.set_cons_zero, List.set_cons_succ, if_true, if_false, Bool.false_eq_true, Bool.not_false, Bool.not_true, Bool.true_and, Bool.and_true, dAdd_i, dSub_i, dLe_i, dLt_i, dLtD_i, dLeD_i, dGtD_i, dGeD_i, isI_ii, isI_bi, setIm, setVm, setIx, tupM, Option.bind_some, seqT_t]; exact rng1_m (by omega)) (by rw [List.length_range]; omega) fun j hj => ⟨_, rfl, by
      have hj := List.mem_range.mp hj
      have g : dGtD (nI (ap o j)) (nI (ap o k)) = some (.bool (decide ((ap o j : Int) > (ap o k : Int)))) := dGtD_i _ _
      simp only [wipeR, List.map_cons, List.map_nil, seqS_eq, bndr, bndb, slot0, slotS, slotW0, slotW0o, slotWS, slotD0, slotDS, ownS0, ownSS, frz_v, frz_o, frz_d, frz_n, frz_nil, frzI0, frzIS, lift_some, toB_bool, truth_bool, itemsD_l, itemsD_t, setV_eq, List.set_cons_zero, List.set_cons_succ, if_true, if_false, Bool.false_eq_true, Bool.not_false, Bool.not_true, Bool.true_and, Bool.and_true, dAdd_i, dSub_i, dLe_i, dLt_i, dLtD_i, dLeD_i, dGtD_i, dGeD_i, isI_ii, isI_bi, setIm, setVm, setIx, tupM, Option.bind_some, seqT_t, ixO (o := o) (p := j) (by omega), ixO (o := o) (p := k) (by omega), g]
      congr 1
      rw [Bool.eq_iff_iff, decide_eq_true_eq, decide_eq_true_eq]
      omega, fun _ => by simp only [wipeR, List.map_cons, List.map_nil, seqS_eq, bndr, bndb, slot0, slotS, slotW0, slotW0o, slotWS, slotD0, slotDS, ownS0, ownSS, frz_v, frz_o, frz_d, frz_n, frz_nil, frzI0, frzIS, lift_some, toB_bool, truth_bool, itemsD_l, itemsD_t, setV_eq, List.set_cons_zero, List.set_cons_succ, if_true, if_false, Bool.false_eq_true, Bool.not_false, Bool.not_true, Bool.true_and, Bool.and_true, dAdd_i, dSub_i, dLe_i, dLt_i, dLtD_i, dLeD_i, dGtD_i, dGeD_i, isI_ii, isI_bi, setIm, setVm, setIx, tupM, Option.bind_some, seqT_t]⟩]
    have dl : ∀ xs : List Nat, dLen [.list (xs.map nI)] = some (nI xs.length) := fun xs => dLen_lm _ _
    simp only [seqS_eq, bndr, bndb, slot0, slotS, slotW0, slotW0o, slotWS, slotD0, slotDS, ownS0, ownSS, frz_v, frz_o, frz_d, frz_n, frz_nil, frzI0, frzIS, lift_some, toB_bool, truth_bool, itemsD_l, itemsD_t, setV_eq, List.set_cons_zero, List.set_cons_succ, if_true, if_false, Bool.false_eq_true, Bool.not_false, Bool.not_true, Bool.true_and, Bool.and_true, dAdd_i, dSub_i, dLe_i, dLt_i, dLtD_i, dLeD_i, dGtD_i, dGeD_i, isI_ii, isI_bi, setIm, setVm, setIx, tupM, Option.bind_some, seqT_t, dl]
    refine ⟨_, rfl, some (.val (nI k)), s3, ?_⟩
    rw [sm_range_succ]
    have e : ((List.range k).filter fun j => decide (ap o k < ap o j)).length = sm (fun i => iv o i k) (List.range k) := by
      rw [sm_filter]
      refine sm_congr fun i _ => ?_
      unfold iv
      by_cases c : ap o k < ap o i
      · rw [decide_eq_true c, if_pos rfl, if_pos c]
      · rw [decide_eq_false c, if_neg (by decide), if_neg c]
    rw [e]
    rfl
  · rintro ρ ⟨s2, s3, rfl⟩
    have e3 : ∀ i : Int, dMod (.int i) (.int 2) = some (.int (i % 2)) := fun i => dMod_i (by decide)
    simp only [seqS_eq, bndr, bndb, slot0, slotS, slotW0, slotW0o, slotWS, slotD0, slotDS, ownS0, ownSS, frz_v, frz_o, frz_d, frz_n, frz_nil, frzI0, frzIS, lift_some, toB_bool, truth_bool, itemsD_l, itemsD_t, setV_eq, List.set_cons_zero, List.set_cons_succ, if_true, if_false, Bool.false_eq_true, Bool.not_false, Bool.not_true, Bool.true_and, Bool.and_true, dAdd_i, dSub_i, dLe_i, dLt_i, dLtD_i, dLeD_i, dGtD_i, dGeD_i, isI_ii, isI_bi, setIm, setVm, setIx, tupM, Option.bind_some, seqT_t, e3, dEq_i, fin_rt]
    congr 2
    unfold evB invs pr
    rw [Bool.eq_iff_iff, beq_iff_eq, decide_eq_true_eq]
    omega
end
end DV

-- Q11
set_option Elab.async false
set_option linter.all false
set_option maxRecDepth 100000
set_option maxHeartbeats 4000000
namespace DV
open PySem PySem.Spec PyProof.Rows L2 HdL Od
abbrev vO (o : List Nat) : Option Sl := some (.val (O o))
abbrev vN (n : Nat) : Option Sl := some (.val (nI n))
theorem neO (o : List Nat) : dNe (O o) (O o) = some (.bool false) := by
  rw [dNe_e enc_O (by decide), decide_eq_true rfl]
  rfl
theorem st1 {s : DS} (hs : BOk s) : Hit (pk_law_1.1 [none, some .drw, none, none, none, none, none, none, none, none]) s fun o s' => ∃ n, Sz n ∧ o = .nx [none, some .drw, vN n, none, none, none, none, none, none, none] ∧ BOk s' := by
  unfold pk_law_1
  simp only [seqS_eq, bndr, bndb, slot0, slotS, slotW0, slotW0o, slotWS, slotD0, slotDS, ownS0, ownSS, frz_v, frz_o, frz_d, frz_n, frz_nil, frzI0, frzIS, lift_some, toB_bool, truth_bool, itemsD_l, itemsD_t, setV_eq, List.set_cons_zero, List.set_cons_succ, if_true, if_false, Bool.false_eq_true, Bool.not_false, Bool.not_true, Bool.true_and, Bool.and_true, dAdd_i, dSub_i, dLe_i, dLt_i, dLtD_i, dLeD_i, dGtD_i, dGeD_i, isI_ii, isI_bi, setIm, setVm, setIx, tupM, Option.bind_some, seqT_t]
  refine Hit.bnd ((take_ok (by decide) hs).imp ?_)
  rintro _ s1 ⟨r, rfl, h0, h1, hs1⟩
  simp only [seqS_eq, bndr, bndb, slot0, slotS, slotW0, slotW0o, slotWS, slotD0, slotDS, ownS0, ownSS, frz_v, frz_o, frz_d, frz_n, frz_nil, frzI0, frzIS, lift_some, toB_bool, truth_bool, itemsD_l, itemsD_t, setV_eq, List.set_cons_zero, List.set_cons_succ, if_true, if_false, Bool.false_eq_true, Bool.not_false, Bool.not_true, Bool.true_and, Bool.and_true, dAdd_i, dSub_i, dLe_i, dLt_i, dLtD_i, dLeD_i, dGtD_i, dGeD_i, isI_ii, isI_bi, setIm, setVm, setIx, tupM, Option.bind_some, seqT_t]
  refine Hit.ret ⟨(1 + r).toNat, ⟨by omega, by omega⟩, ?_, hs1⟩
  have e : PyData.int (1 + r) = nI (1 + r).toNat := (congrArg PyData.int (Int.toNat_of_nonneg (by omega))).symm
  rw [e]
theorem st2 {n : Nat} {s : DS} (hn : Sz n) (hs : BOk s) : Hit (pk_law_2.1 [none, some .drw, vN n, none, none, none, none, none, none, none]) s fun o s' => ∃ a b, Ord n a ∧ Ord n b ∧ o = .nx [none, some .drw, vN n, vO a, vO b, none, none, none, none, none] ∧ BOk s' := by
  unfold pk_law_2
  simp only [seqS_eq, bndr, bndb, slot0, slotS, slotW0, slotW0o, slotWS, slotD0, slotDS, ownS0, ownSS, frz_v, frz_o, frz_d, frz_n, frz_nil, frzI0, frzIS, lift_some, toB_bool, truth_bool, itemsD_l, itemsD_t, setV_eq, List.set_cons_zero, List.set_cons_succ, if_true, if_false, Bool.false_eq_true, Bool.not_false, Bool.not_true, Bool.true_and, Bool.and_true, dAdd_i, dSub_i, dLe_i, dLt_i, dLtD_i, dLeD_i, dGtD_i, dGeD_i, isI_ii, isI_bi, setIm, setVm, setIx, tupM, Option.bind_some, seqT_t]
  refine Hit.bnd ((lorder_hit hn hs).imp ?_)
  rintro _ s1 ⟨a, ha, rfl, hs1⟩
  refine Hit.bnd ((lorder_hit hn hs1).imp ?_)
  rintro _ s2 ⟨b, hb, rfl, hs2⟩
  exact Hit.ret ⟨a, b, ha, hb, rfl, hs2⟩
def Sh (n : Nat) (a b : List Nat) (ρ : Rho) : Prop := ∃ s5 s6 s7 s8 s9 : Option Sl, ρ = [none, some .drw, vN n, vO a, vO b, s5, s6, s7, s8, s9]
section
variable {n : Nat} {a b : List Nat} (hn : Sz n) (ha : Ord n a) (hb : Ord n b)
include hn ha hb
theorem st3 {s : DS} : Hit (pk_law_3.1 [none, some .drw, vN n, vO a, vO b, none, none, none, none, none]) s fun o s' => s' = s ∧ ∃ ρ', o = .nx ρ' ∧ Sh n a b ρ' := by
  unfold pk_law_3
  simp only [seqS_eq, bndr, bndb, slot0, slotS, slotW0, slotW0o, slotWS, slotD0, slotDS, ownS0, ownSS, frz_v, frz_o, frz_d, frz_n, frz_nil, frzI0, frzIS, lift_some, toB_bool, truth_bool, itemsD_l, itemsD_t, setV_eq, List.set_cons_zero, List.set_cons_succ, if_true, if_false, Bool.false_eq_true, Bool.not_false, Bool.not_true, Bool.true_and, Bool.and_true, dAdd_i, dSub_i, dLe_i, dLt_i, dLtD_i, dLeD_i, dGtD_i, dGeD_i, isI_ii, isI_bi, setIm, setVm, setIx, tupM, Option.bind_some, seqT_t, mkTn0, mkTn1, mkTn2, mkTn3, mkTn4, mkTn5, mkTn6, mkTn7, mkTn8, mkLn0, mkLn1, mkLn2, mkLn3, mkLn4, mkLn5, mkLn6, mkLn7, mkLn8, mkLn9, mkLn10, mkLn11, mkLn12, mkLn13, mkLn14, mkLn15, mkLn16, done_run hn ha hb, undone_run hn ha]
  refine Hit.forInv (Sh n a b) _ ⟨_, _, _, _, _, rfl⟩ fun d hd ρ i => ?_
  obtain ⟨s5, s6, s7, s8, s9, rfl⟩ := i
  obtain ⟨o, rfl, ho⟩ : ∃ o, d = O o ∧ Ord n o := by
    simp only [List.mem_cons, List.not_mem_nil, or_false] at hd
    rcases hd with rfl | rfl | rfl | rfl
    · exact ⟨a, rfl, ha⟩
    · exact ⟨b, rfl, hb⟩
    · exact ⟨_, rfl, dn_ord ha hb⟩
    · exact ⟨_, rfl, inv_ord ha⟩
  have hn2 := hn.2
  obtain ⟨ws, er, ew, hf⟩ := rounds_run hn ho
  obtain ⟨ws', er', ew', hf'⟩ := lrounds_run hn ho
  rw [ew] at er
  rw [ew'] at er'
  obtain ⟨T, hT⟩ : ∃ T, T = tn (kd n o) := ⟨_, rfl⟩
  have hdv : ∀ w ∈ rdsL n o n, w.length ∣ T := fun w hw => by rw [hT]; exact (fold_dvd _ 1).2 _ (kd_mem.mpr ⟨w, hw, rfl⟩)
  have hT1 : 1 ≤ T := by rw [hT]; exact fold_pos _ 1 (Nat.le_refl _) fun l hl => (kd_small hn ho hl).1
  have hwl : ∀ w ∈ rdsL n o n, 1 ≤ w.length ∧ w.length ≤ 24 := fun w hw => kd_small hn ho (kd_mem.mpr ⟨w, hw, rfl⟩)
  have hkl : (kd n o).length ≤ 100 := by unfold kd; rw [(srt_perm _).length_eq, List.length_map, ← ew]; omega
  have sm1 : F__law_same 8 [.val (.list [.list ((rdsL n o n).map O), O (kd n o)]), .val (.list [.list ((rdsL n o n).map O), O (kd n o)])] = ret (.bool true) := same_self 7 _ (.lst (by simp) fun d hd => by
    simp only [List.mem_cons, List.not_mem_nil, or_false] at hd
    rcases hd with rfl | rfl
    · exact .lstM (by rw [← ew]; omega) fun w hw => .tupM (by have := hwl w hw; omega) fun p _ => .int 4 _
    · exact .tupM (by omega) fun p _ => .int 5 _)
  have tr : F_turn_number [.val (O o)] = ret (nI T) := by rw [hT]; exact turns_run hn ho
  have lt : dLtD (nI T) (.int 1) = some (.bool false) := by
    rw [dLtD_i, decide_eq_false (show ¬ ((T : Nat) : Int) < 1 by omega)]
  have g5 : dNe (.list []) (.list []) = some (.bool false) := dNe_s rfl rfl
  have dl : ∀ w : List Nat, dLen [O w] = some (nI w.length) := fun w => dLen_tm _ _
  have dw : ∀ xs : List (List Nat), dLen [.list (xs.map O)] = some (nI xs.length) := fun xs => dLen_lm _ _
  have pwr : F_power [.val (O o), .val (nI T)] = ret (O (List.range n)) := by
    rw [← pw_still ho hdv]
    exact power_run hn ho T
  have e3 : ∀ i : Int, dMod (.int i) (.int 2) = some (.int (i % 2)) := fun i => dMod_i (by decide)
  have sb : ∀ b : Bool, F__law_same 8 [.val (.bool b), .val (.bool b)] = ret (.bool true) := fun b => same_self 7 _ (.bl _ b)
  refine for_step rfl ?_
  simp only [seqS_eq, bndr, bndb, slot0, slotS, slotW0, slotW0o, slotWS, slotD0, slotDS, ownS0, ownSS, frz_v, frz_o, frz_d, frz_n, frz_nil, frzI0, frzIS, lift_some, toB_bool, truth_bool, itemsD_l, itemsD_t, setV_eq, List.set_cons_zero, List.set_cons_succ, if_true, if_false, Bool.false_eq_true, Bool.not_false, Bool.not_true, Bool.true_and, Bool.and_true, dAdd_i, dSub_i, dLe_i, dLt_i, dLtD_i, dLeD_i, dGtD_i, dGeD_i, isI_ii, isI_bi, setIm, setVm, setIx, tupM, Option.bind_some, seqT_t, mkTn0, mkTn1, mkTn2, mkTn3, mkTn4, mkTn5, mkTn6, mkTn7, mkTn8, mkLn0, mkLn1, mkLn2, mkLn3, mkLn4, mkLn5, mkLn6, mkLn7, mkLn8, mkLn9, mkLn10, mkLn11, mkLn12, mkLn13, mkLn14, mkLn15, mkLn16, er, er', kind_run hn ho, lkind_run hn ho, sm1, tr, lt]
  rw [lcF_filter (rdsL n o n) O (fun _ => false) O (by simp only [wipeR, List.map_cons, List.map_nil, seqS_eq, bndr, bndb, slot0, slotS, slotW0, slotW0o, slotWS, slotD0, slotDS, ownS0, ownSS, frz_v, frz_o, frz_d, frz_n, frz_nil, frzI0, frzIS, lift_some, toB_bool, truth_bool, itemsD_l, itemsD_t, setV_eq, List.set_cons_zero, List.set_cons_succ, if_true, if_false, Bool.false_eq_true, Bool.not_false, Bool.not_true, Bool.true_and, Bool.and_true, dAdd_i, dSub_i, dLe_i, dLt_i, dLtD_i, dLeD_i, dGtD_i, dGeD_i, isI_ii, isI_bi, setIm, setVm, setIx, tupM, Option.bind_some, seqT_t]) (by rw [← ew]; omega) fun w hw => ⟨_, rfl, by
    have hm := modNN T (hwl w hw).1
    have hz : T % w.length = 0 := Nat.mod_eq_zero_of_dvd (hdv w hw)
    rw [hz] at hm
    have hne : dNe (nI 0) (.int 0) = some (.bool false) := dNe_i _ _
    simp only [wipeR, List.map_cons, List.map_nil, seqS_eq, bndr, bndb, slot0, slotS, slotW0, slotW0o, slotWS, slotD0, slotDS, ownS0, ownSS, frz_v, frz_o, frz_d, frz_n, frz_nil, frzI0, frzIS, lift_some, toB_bool, truth_bool, itemsD_l, itemsD_t, setV_eq, List.set_cons_zero, List.set_cons_succ, if_true, if_false, Bool.false_eq_true, Bool.not_false, Bool.not_true, Bool.true_and, Bool.and_true, dAdd_i, dSub_i, dLe_i, dLt_i, dLtD_i, dLeD_i, dGtD_i, dGeD_i, isI_ii, isI_bi, setIm, setVm, setIx, tupM, Option.bind_some, seqT_t, dl, hm, hne], fun z => nomatch z⟩]
  rw [filter_ff]
  simp only [seqS_eq, bndr, bndb, slot0, slotS, slotW0, slotW0o, slotWS, slotD0, slotDS, ownS0, ownSS, frz_v, frz_o, frz_d, frz_n, frz_nil, frzI0, frzIS, lift_some, toB_bool, truth_bool, itemsD_l, itemsD_t, setV_eq, List.set_cons_zero, List.set_cons_succ, if_true, if_false, Bool.false_eq_true, Bool.not_false, Bool.not_true, Bool.true_and, Bool.and_true, dAdd_i, dSub_i, dLe_i, dLt_i, dLtD_i, dLeD_i, dGtD_i, dGeD_i, isI_ii, isI_bi, setIm, setVm, setIx, tupM, Option.bind_some, seqT_t, mkTn0, mkTn1, mkTn2, mkTn3, mkTn4, mkTn5, mkTn6, mkTn7, mkTn8, mkLn0, mkLn1, mkLn2, mkLn3, mkLn4, mkLn5, mkLn6, mkLn7, mkLn8, mkLn9, mkLn10, mkLn11, mkLn12, mkLn13, mkLn14, mkLn15, mkLn16, List.map_nil, g5, pwr, still_run hn, neO]
  refine bexS (I := fun ρ => ∃ s8, ρ = [none, some .drw, vN n, vO a, vO b, vO o, some (.val (.list ((rdsL n o n).map O))), some (.val (nI T)), s8, s9]) ?_ ?_
  · refine forD_inv (I := fun ρ => ∃ s8, ρ = [none, some .drw, vN n, vO a, vO b, vO o, some (.val (.list ((rdsL n o n).map O))), some (.val (nI T)), s8, s9]) _ (fun d hd ρ i => ?_) _ ⟨s8, rfl⟩
    obtain ⟨s8, rfl⟩ := i
    obtain ⟨pr, rfl, hp1, hp2⟩ : ∃ pr : Nat, d = nI pr ∧ 2 ≤ pr ∧ pr ≤ 23 := by
      simp only [List.mem_cons, List.not_mem_nil, or_false] at hd
      rcases hd with rfl | rfl | rfl | rfl | rfl | rfl | rfl | rfl | rfl
      · exact ⟨2, rfl, by decide, by decide⟩
      · exact ⟨3, rfl, by decide, by decide⟩
      · exact ⟨5, rfl, by decide, by decide⟩
      · exact ⟨7, rfl, by decide, by decide⟩
      · exact ⟨11, rfl, by decide, by decide⟩
      · exact ⟨13, rfl, by decide, by decide⟩
      · exact ⟨17, rfl, by decide, by decide⟩
      · exact ⟨19, rfl, by decide, by decide⟩
      · exact ⟨23, rfl, by decide, by decide⟩
    have q1 := modNN T (show 1 ≤ pr by omega)
    have q2 : dEq (nI (T % pr)) (.int 0) = some (.bool (decide (T % pr = 0))) := eqNN _ 0
    refine for_step rfl ?_
    simp only [seqS_eq, bndr, bndb, slot0, slotS, slotW0, slotW0o, slotWS, slotD0, slotDS, ownS0, ownSS, frz_v, frz_o, frz_d, frz_n, frz_nil, frzI0, frzIS, lift_some, toB_bool, truth_bool, itemsD_l, itemsD_t, setV_eq, List.set_cons_zero, List.set_cons_succ, if_true, if_false, Bool.false_eq_true, Bool.not_false, Bool.not_true, Bool.true_and, Bool.and_true, dAdd_i, dSub_i, dLe_i, dLt_i, dLtD_i, dLeD_i, dGtD_i, dGeD_i, isI_ii, isI_bi, setIm, setVm, setIx, tupM, Option.bind_some, seqT_t, q1, q2]
    by_cases c : T % pr = 0
    · rw [decide_eq_true c]
      simp only [seqS_eq, bndr, bndb, slot0, slotS, slotW0, slotW0o, slotWS, slotD0, slotDS, ownS0, ownSS, frz_v, frz_o, frz_d, frz_n, frz_nil, frzI0, frzIS, lift_some, toB_bool, truth_bool, itemsD_l, itemsD_t, setV_eq, List.set_cons_zero, List.set_cons_succ, if_true, if_false, Bool.false_eq_true, Bool.not_false, Bool.not_true, Bool.true_and, Bool.and_true, dAdd_i, dSub_i, dLe_i, dLt_i, dLtD_i, dLeD_i, dGtD_i, dGeD_i, isI_ii, isI_bi, setIm, setVm, setIx, tupM, Option.bind_some, seqT_t]
      have dv := divNN T (show 1 ≤ pr by omega) (by omega)
      rw [lcF_filter (rdsL n o n) O (fun w => !decide (T / pr % w.length = 0)) O (by simp only [wipeR, List.map_cons, List.map_nil, seqS_eq, bndr, bndb, slot0, slotS, slotW0, slotW0o, slotWS, slotD0, slotDS, ownS0, ownSS, frz_v, frz_o, frz_d, frz_n, frz_nil, frzI0, frzIS, lift_some, toB_bool, truth_bool, itemsD_l, itemsD_t, setV_eq, List.set_cons_zero, List.set_cons_succ, if_true, if_false, Bool.false_eq_true, Bool.not_false, Bool.not_true, Bool.true_and, Bool.and_true, dAdd_i, dSub_i, dLe_i, dLt_i, dLtD_i, dLeD_i, dGtD_i, dGeD_i, isI_ii, isI_bi, setIm, setVm, setIx, tupM, Option.bind_some, seqT_t]) (by rw [← ew]; omega) fun w hw => ⟨_, rfl, by
        have hm := modNN (T / pr) (hwl w hw).1
        have hne : dNe (nI (T / pr % w.length)) (.int 0) = some (.bool (!decide (T / pr % w.length = 0))) := neNN _ 0
        simp only [wipeR, List.map_cons, List.map_nil, seqS_eq, bndr, bndb, slot0, slotS, slotW0, slotW0o, slotWS, slotD0, slotDS, ownS0, ownSS, frz_v, frz_o, frz_d, frz_n, frz_nil, frzI0, frzIS, lift_some, toB_bool, truth_bool, itemsD_l, itemsD_t, setV_eq, List.set_cons_zero, List.set_cons_succ, if_true, if_false, Bool.false_eq_true, Bool.not_false, Bool.not_true, Bool.true_and, Bool.and_true, dAdd_i, dSub_i, dLe_i, dLt_i, dLtD_i, dLeD_i, dGtD_i, dGeD_i, isI_ii, isI_bi, setIm, setVm, setIx, tupM, Option.bind_some, seqT_t, dl, dv, hm, hne], fun _ => by simp only [wipeR, List.map_cons, List.map_nil, seqS_eq, bndr, bndb, slot0, slotS, slotW0, slotW0o, slotWS, slotD0, slotDS, ownS0, ownSS, frz_v, frz_o, frz_d, frz_n, frz_nil, frzI0, frzIS, lift_some, toB_bool, truth_bool, itemsD_l, itemsD_t, setV_eq, List.set_cons_zero, List.set_cons_succ, if_true, if_false, Bool.false_eq_true, Bool.not_false, Bool.not_true, Bool.true_and, Bool.and_true, dAdd_i, dSub_i, dLe_i, dLt_i, dLtD_i, dLeD_i, dGtD_i, dGeD_i, isI_ii, isI_bi, setIm, setVm, setIx, tupM, Option.bind_some, seqT_t]⟩]
      have ne : ((rdsL n o n).filter fun w => !decide (T / pr % w.length = 0)) ≠ [] := fun z => by
        have hall : ∀ l ∈ kd n o, l ∣ T / pr := fun l hl => by
          obtain ⟨w, hw, rfl⟩ := kd_mem.mp hl
          have := List.filter_eq_nil_iff.mp z w hw
          simp at this
          exact Nat.dvd_of_mod_eq_zero this
        have hd2 : T ∣ T / pr := by
          have := fold_least (kd n o) 1 (T / pr) (Nat.one_dvd _) hall
          rw [hT]
          rw [hT] at this
          exact this
        have hlt : T / pr < T := Nat.div_lt_self (by omega) (by omega)
        have hpos : 0 < T / pr := Nat.div_pos (Nat.le_of_dvd (by omega) (Nat.dvd_of_mod_eq_zero c)) (by omega)
        have := Nat.le_of_dvd hpos hd2
        omega
      have ee := dEq_e enc_O.lst (by decide) ((rdsL n o n).filter fun w => !decide (T / pr % w.length = 0)) []
      rw [decide_eq_false ne] at ee
      have ee2 : dEq (.list (((rdsL n o n).filter fun w => !decide (T / pr % w.length = 0)).map O)) (.list []) = some (.bool false) := ee
      simp only [seqS_eq, bndr, bndb, slot0, slotS, slotW0, slotW0o, slotWS, slotD0, slotDS, ownS0, ownSS, frz_v, frz_o, frz_d, frz_n, frz_nil, frzI0, frzIS, lift_some, toB_bool, truth_bool, itemsD_l, itemsD_t, setV_eq, List.set_cons_zero, List.set_cons_succ, if_true, if_false, Bool.false_eq_true, Bool.not_false, Bool.not_true, Bool.true_and, Bool.and_true, dAdd_i, dSub_i, dLe_i, dLt_i, dLtD_i, dLeD_i, dGtD_i, dGeD_i, isI_ii, isI_bi, setIm, setVm, setIx, tupM, Option.bind_some, seqT_t, mkTn0, mkTn1, mkTn2, mkTn3, mkTn4, mkTn5, mkTn6, mkTn7, mkTn8, mkLn0, mkLn1, mkLn2, mkLn3, mkLn4, mkLn5, mkLn6, mkLn7, mkLn8, mkLn9, mkLn10, mkLn11, mkLn12, mkLn13, mkLn14, mkLn15, mkLn16, ee2]
      exact ⟨_, rfl, _, rfl⟩
    · rw [decide_eq_false c]
      simp only [seqS_eq, bndr, bndb, slot0, slotS, slotW0, slotW0o, slotWS, slotD0, slotDS, ownS0, ownSS, frz_v, frz_o, frz_d, frz_n, frz_nil, frzI0, frzIS, lift_some, toB_bool, truth_bool, itemsD_l, itemsD_t, setV_eq, List.set_cons_zero, List.set_cons_succ, if_true, if_false, Bool.false_eq_true, Bool.not_false, Bool.not_true, Bool.true_and, Bool.and_true, dAdd_i, dSub_i, dLe_i, dLt_i, dLtD_i, dLeD_i, dGtD_i, dGeD_i, isI_ii, isI_bi, setIm, setVm, setIx, tupM, Option.bind_some, seqT_t]
      exact ⟨_, rfl, _, rfl⟩
  · rintro _ ⟨s8, rfl⟩
    have nb : dNe (.bool (evB n o)) (.bool (evB n o)) = some (.bool false) := dNe_bb _
    simp only [seqS_eq, bndr, bndb, slot0, slotS, slotW0, slotW0o, slotWS, slotD0, slotDS, ownS0, ownSS, frz_v, frz_o, frz_d, frz_n, frz_nil, frzI0, frzIS, lift_some, toB_bool, truth_bool, itemsD_l, itemsD_t, setV_eq, List.set_cons_zero, List.set_cons_succ, if_true, if_false, Bool.false_eq_true, Bool.not_false, Bool.not_true, Bool.true_and, Bool.and_true, dAdd_i, dSub_i, dLe_i, dLt_i, dLtD_i, dLeD_i, dGtD_i, dGeD_i, isI_ii, isI_bi, setIm, setVm, setIx, tupM, Option.bind_some, seqT_t, even_run hn ho, leven_run hn ho, sb, dw, e3, dEq_i]
    rw [even_expr hn ho _ rdsL_len]
    simp only [seqS_eq, bndr, bndb, slot0, slotS, slotW0, slotW0o, slotWS, slotD0, slotDS, ownS0, ownSS, frz_v, frz_o, frz_d, frz_n, frz_nil, frzI0, frzIS, lift_some, toB_bool, truth_bool, itemsD_l, itemsD_t, setV_eq, List.set_cons_zero, List.set_cons_succ, if_true, if_false, Bool.false_eq_true, Bool.not_false, Bool.not_true, Bool.true_and, Bool.and_true, dAdd_i, dSub_i, dLe_i, dLt_i, dLtD_i, dLeD_i, dGtD_i, dGeD_i, isI_ii, isI_bi, setIm, setVm, setIx, tupM, Option.bind_some, seqT_t, nb]
    exact ⟨_, rfl, _, _, _, _, _, rfl⟩
theorem st4 {ρ : Rho} (hρ : Sh n a b ρ) : pk_law_4.1 ρ = ret (.rt (.bool true)) := by
  obtain ⟨s5, s6, s7, s8, s9, rfl⟩ := hρ
  unfold pk_law_4 frz
  have hab := dn_ord ha hb
  simp only [seqS_eq, bndr, bndb, slot0, slotS, slotW0, slotW0o, slotWS, slotD0, slotDS, ownS0, ownSS, frz_v, frz_o, frz_d, frz_n, frz_nil, frzI0, frzIS, lift_some, toB_bool, truth_bool, itemsD_l, itemsD_t, setV_eq, List.set_cons_zero, List.set_cons_succ, if_true, if_false, Bool.false_eq_true, Bool.not_false, Bool.not_true, Bool.true_and, Bool.and_true, dAdd_i, dSub_i, dLe_i, dLt_i, dLtD_i, dLeD_i, dGtD_i, dGeD_i, isI_ii, isI_bi, setIm, setVm, setIx, tupM, Option.bind_some, seqT_t, List.map_cons, List.map_nil, done_run hn ha hb, even_run hn hab, even_run hn ha, even_run hn hb, dEq_bb]
  have e : (evB n (dn a b) == (evB n a == evB n b)) = true := by
    have h := invs_dn ha hb
    unfold evB
    rw [beq_iff_eq, Bool.eq_iff_iff, decide_eq_true_eq, beq_iff_eq, Bool.eq_iff_iff, decide_eq_true_eq, decide_eq_true_eq]
    omega
  rw [e]
end
theorem law_math (xs : List Int) (hx : ∀ z ∈ xs, 0 ≤ z) : ∃ s', pk_law.1 (rho0 10 1) (.b xs) = .ok (.rt (.bool true)) s' := by
  have h : Hit (pk_law.1 (rho0 10 1)) (.b xs) fun o s' => o = .rt (.bool true) := by
    show Hit (seqS pk_law_1.1 (seqS pk_law_2.1 (seqS pk_law_3.1 pk_law_4.1)) _) _ _
    refine Hit.bnd ((st1 ⟨xs, rfl, hx⟩).imp ?_)
    rintro _ s1 ⟨n, hn, rfl, hs1⟩
    refine Hit.bnd ((st2 hn hs1).imp ?_)
    rintro _ s2 ⟨a, b, ha, hb, rfl, hs2⟩
    refine Hit.bnd ((st3 hn ha hb).imp ?_)
    rintro _ s3 ⟨rfl, ρ', rfl, hρ⟩
    exact Hit.of_ret (st4 hn ha hb hρ) rfl
  obtain ⟨o, s', e, rfl⟩ := h
  exact ⟨s', e⟩
end DV

set_option Elab.async false
set_option linter.all false
set_option maxRecDepth 100000
set_option maxHeartbeats 2000000
namespace DV
open PySem PySem.Spec PyProof.Rows L2 HdL
theorem ok_law {P : Program} {w : World} {K : PySem.W.Frag} {mg : Str → Option Value} {base : Heap} (Z : Fx faL fnL tfL exL K mg base) {fd : FuncData} (F : FunD K "law" "law" (defArgs s_law) (defBody s_law) (defScope s_law) [] [] (He.ga K "law") fd) : FnOk P w K mg base (L2N.CX P w) 10 (He.ga K "law") fd ["script"] (spLaw tfL K) := by
  obtain ⟨oc, od, dV, kV, doc, pm, an, cd, ct, osl, rfl, lk, hcd, _, _⟩ := F.ex
  obtain ⟨c, ec⟩ := He.codeIn_ref hcd
  subst ec
  refine fn_of lk hcd sc_law (fun vs H Q E ⟨a, ns, e, _⟩ => by rw [e]; rfl) fun A outer s H vs Q E hr hsp => ?_
  obtain ⟨a, ns, rfl, hS, hn, hT, q⟩ := hsp
  obtain ⟨t, pt, qt⟩ := pk_law.2 (P := P) (w := w) Z (.ref c) (by rw [He.codeOf_eq (p := ("law", none)) lk rfl]) A outer s H E hr
  obtain ⟨fdo, b, kp, m, _, Fo⟩ := ok__law_draws (P := P) (w := w) Z
  refine ⟨_, pss_cons (ps_set (X := cx_law P w K mg base (.ref c) A outer s H E) (i := 1) nd_law rfl (by first | exact Or.inl rfl | exact Or.inr rfl) (pe_callS (E := WE (fun cls d _ H' => E cls d H')) Fo (hr.mono (by decide)) rfl m kp b (L2N.passAt (L2N.takes_of rfl rfl rfl rfl)) (pa_cons (pe_var (i := 0) rfl (by first | exact Or.inl rfl | exact Or.inr (Or.inl rfl)) (by decide) (by decide)) pa_nil))) pt, ?_⟩
  refine ⟨_, rfl, a, ns, rfl, hS, hn, fun H' dr xs same h3 hx => ?_⟩
  refine qt (ghB tfL K dr H') (.b xs) (rho0 10 1) (fun _ => 0) _ H' _ (law_relB (w := w) hT same h3 hx rfl (by decide)) ?_
  obtain ⟨s', hs⟩ := law_math xs hx
  rw [hs]
  intro v H2 _ _ av
  have av : At ⟨K, w⟩ (ghB tfL K dr H').bad H2 v (.bool true) := av
  cases av
  exact q H2
theorem facts_law {w : World} {K : PySem.W.Frag} {mg : Str → Option Value} {h : Heap} {fa : Addr} (KX : K.In h) (G : h.Ns mainGlobals mg) (c : He.SaysX faL fnL [] tfL exL w h K) (hm : mg ("law" : Str) = some (.ref fa)) : LamX.LawAtS PySem.Challenge.rw_setright_k05_whole_rounds_kinds_and_pari w K (L2N.CX PySem.Challenge.pw_setright_k05_whole_rounds_kinds_and_pari w) 10 63 "script" mg fa h := by
  have c1 : He.SaysD faL fnL K := congrArg (fun z : He.AlT => z.1) c.t
  obtain ⟨fd, F⟩ := c1.def_ 19 (d := d_law) rfl
  have e := hm.symm.trans (He.glo_ok KX G (c1.fact 19 (f := .glo "law") rfl))
  cases e
  refine ⟨fd, tfL.map (He.cT K), spLaw tfL K, fun p hp => ?_, fun p hp => ?_, fun p hp => ?_, fun s u => F.bindsA (ps := ["script"]) (fun _ _ _ _ _ _ us hl => match us, hl with | [_], _ => rfl) s [u] rfl, fun H a ns hl _ hT hS => ⟨a, ns, rfl, hS, hl, fun p hp => hT _ (List.mem_map.mpr ⟨p, hp, rfl⟩), fun _ => rfl⟩, fun base hX hG hTB => ok_law ⟨c1, hX, hG, c.more, fun p hp => ?_⟩ F⟩
  · obtain ⟨p', hp', rfl⟩ := List.mem_map.mp hp
    exact c.empty p' hp'
  · obtain ⟨p', hp', rfl⟩ := List.mem_map.mp hp
    exact c.out p' hp'
  · obtain ⟨p', hp', rfl⟩ := List.mem_map.mp hp
    exact PySem.W.codeHd_of_K KX (c.hd p' hp')
  · obtain ⟨q1, q2, q3⟩ := hTB _ (List.mem_map.mpr ⟨p, hp, rfl⟩)
    exact ⟨q1, q2, q3⟩

end DV
set_option maxHeartbeats 0
namespace HdL
open PySem PySem.Spec PyProof.Rows L2
def loose0 : List PySem.Str := ["still", "done", "undone", "rounds", "power", "kind_of", "common_divisor", "turn_number", "is_even", "_law_draws", "_law_take", "_law_same", "_law_order", "_law_done", "_law_undone", "_law_power", "_law_rounds", "_law_kind", "_law_is_even"]
def looseL : List PySem.Str := loose0
abbrev RL : PySem.W.OpenRow := PySem.W.OpenLaw.row PySem.Challenge.rw_setright_k05_whole_rounds_kinds_and_pari
abbrev hkL : PySem.W.Hook := He.hookX 4 faL fnL [] tfL exL
def obL (s : PySem.W.SharedT) : He.AlX := He.obsX 4 faL fnL [] tfL exL (HandSHeadRun.getT s)
theorem ob_eqL (s : PySem.W.SharedT) : obL s = hkL.obs s.abs := He.obsX_eq (HandSHeadRun.getT_eq s)
theorem runL (w : World) : HandSHeadRun.RunEq RL (PySem.W.view RL.prog [21]) hkL obL 3000 looseL w := by
  intro os
  kernel_rfl
end HdL
open PySem PySem.W PySem.Calls PyProof.Rows
theorem PySem.Challenge.cw_setright_k05_whole_rounds_kinds_and_pari_holds : PySem.Challenge.rw_setright_k05_whole_rounds_kinds_and_pari.Holds := by
  w_on; o_law
  refine HandSHeadRun.head_any (r := OpenLaw.row PySem.Challenge.rw_setright_k05_whole_rounds_kinds_and_pari) (q := view (OpenLaw.row PySem.Challenge.rw_setright_k05_whole_rounds_kinds_and_pari).prog [21]) (H := HdL.hkL) (ob := HdL.obL) (M := 3000) (loose := HdL.looseL) (d := HandSHeadRun.topDef (OpenLaw.row PySem.Challenge.rw_setright_k05_whole_rounds_kinds_and_pari).prog 21) (kwd := []) HdL.ob_eqL
    (by kernel_rfl) (fun s => by kernel_rfl) HdL.runL (by kernel_rfl) (by kernel_rfl) (by kernel_rfl) (by rfl) (by first | assumption | decide +kernel) (by decide +kernel) ⟨rfl, rfl, rfl, rfl, rfl, by decide +kernel⟩ ?hw ?hc
  case hw => w_witness2
  case hc =>
    refine LamX.walk_ofTsE (l := PySem.Challenge.rw_setright_k05_whole_rounds_kinds_and_pari) (n := 63) (k := 10) (x := "script") (CX := fun w => L2N.CX PySem.Challenge.pw_setright_k05_whole_rounds_kinds_and_pari w) rfl (by decide) (by kernel_rfl) ⟨rfl, by decide, by decide⟩ ?F (fun w H s e s' z => by
      obtain ⟨_, _, _, _, _, _, _, _, _, _, _, _, z⟩ := z
      exact z)
    intro w mg fa h Y G hmg0
    obtain ⟨K, KX, c⟩ := Y
    have hmg : mg ("law" : PySem.Str) = some (.ref fa) := by
      have e : (HandSHeadRun.topDef (OpenLaw.row PySem.Challenge.rw_setright_k05_whole_rounds_kinds_and_pari).prog 21).name = ("law" : PySem.Str) := by kernel_rfl
      rw [← e]
      exact hmg0
    exact ⟨K, KX, DV.facts_law KX G c hmg⟩

