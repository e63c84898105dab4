import PyProof.Rows.All
import HandS.DictComp
import HandS.Comp
import HandS.Zip
import HandS.ForMost
import PyProof.Draws
import KE.GoesZip
import PySem.Syntax
import HandS.Exc
import HandS.ExcSuper
import HandS.TryMany
import HandS.Flow
import HandS.Style
import HandS.Property
import HandS.TupAny
import HandS.TupMul
import HandS.Deep
import HandS.IsInst
import HandS.Conv
import HandS.SortInts
import HandS.NoneIn
import KE.SortData
import KE.SortLaws
import HandS.WordsExc
import HandS.Defaults
import HandS.Star
import HandS.MakeKw
import HandS.Small
import HandS.Codes
import HandS.Head2
import HandS.HeadEnd
import HandS.HeadHook2
import PySem.Challenge.RW_gatedlanes_k10_things_that_are_rules
import KE.KStateDown
import Lean
import PyProof.Rows.TmTac
set_option Elab.async false
section
set_option Elab.async false
set_option linter.all false
set_option maxRecDepth 100000
/-! Comprehensions of lists and dicts with any number of clauses. -/
namespace GL
open PySem L2 PySem.Spec PyProof.Rows

inductive CK where | list (elt : Expr) | dict (k v : Expr)
def CK.ex (c : CK) (gens : List Comprehension) (scope : Scope) (pos : Pos) : Expr := match c with
  | .list elt => .ListComp elt gens scope pos
  | .dict k v => .DictComp k v gens scope pos
def CK.emit (c : CK) (acc : Value) (env : Env) : Sem Unit := match c with
  | .list elt => (do let _ ← call (.builtin "list.append") [acc, ← eval elt env])
  | .dict k v => (do
        let kv ← eval k env
        let vv ← holding [kv] (eval v env)
        match acc with
        | .ref d => do
          standAt { k.pos with endLine := v.pos.endLine, endCol := v.pos.endCol }
          holding [kv, vv] (dictSet d kv vv)
        | _ => unsupported "internal:dictcomp")
section
variable {c : CK} {gens : List Comprehension} {scope : Scope} {pos : Pos} {d : Nat} {t0 i0 t1 i1 : Expr} {ifs0 ifs1 : List Expr} {it acc : Value} {env : Env}
theorem clauses_ex : clausesOf (c.ex gens scope pos) = gens := by cases c <;> rfl
theorem turn_out (h1 : gens[d]? = some ⟨t0, i0, ifs0, 0⟩) (h2 : gens[d + 1]? = some ⟨t1, i1, ifs1, 0⟩) : compTurn (c.ex gens scope pos) d it acc env = (do
      standAt i0.pos
      match ← pyNext it with
      | none => pure (.done .next)
      | some v =>
        letOwnedTupleGo t0 it v
        assign t0 env v
        let mut ok := true
        for c in ifs0 do
          if ok then ok ← isTrue c env (eval c env)
        if ok then
          let x ← eval i1 env
          standAt i1.pos
          let x ← foldedSetIterable i1 env x
          let _ ← runOwn (.compStart (c.ex gens scope pos) (d + 1) (← holding [x] (pyIter x)) acc env) env
        again (.compLoop (c.ex gens scope pos) d it acc env)) := by
  cases c <;> (unfold compTurn CK.ex; simp only [h1, h2]; rfl)
theorem turn_in (h1 : gens[d]? = some ⟨t0, i0, ifs0, 0⟩) (h2 : gens[d + 1]? = none) : compTurn (c.ex gens scope pos) d it acc env = (do
      standAt i0.pos
      match ← pyNext it with
      | none => pure (.done .next)
      | some v =>
        letOwnedTupleGo t0 it v
        assign t0 env v
        let mut ok := true
        for c in ifs0 do
          if ok then ok ← isTrue c env (eval c env)
        if ok then
          c.emit acc env
        again (.compLoop (c.ex gens scope pos) d it acc env)) := by
  cases c <;> (unfold compTurn CK.ex CK.emit; simp only [h1, h2]; rfl)

def wpRest (prog : Program) (w : World) (A : Around) (c : CK) (gens : List Comprehension) (scope : Scope) (pos : Pos) (d : Nat) (acc : Value) (env : Env) (N : Value → Shared → Prop) (P : Shared → Prop) (s : Shared) : Prop := match gens[d]? with
  | some g => wpAny (model prog w) A (eval g.iter env) (fun x s₄ => wpAny (model prog w) A (pyIter x) (fun it1 s₅ => codeAny (model prog w) A (.compStart (c.ex gens scope pos) d it1 acc env) (fun r s' => match r with
      | .ok _ => P s'
      | .error _ => False) s₅) N s₄) N s
  | none => wpAny (model prog w) A (c.emit acc env) (fun _ s' => P s') N s
variable {prog : Program} {w : World} {A : Around} {R : Result → Shared → Prop} {s : Shared}
/-- the loop of a clause -/
theorem loop_gen (h1 : gens[d]? = some ⟨t0, i0, ifs0, 0⟩) (hz : ∀ g ∈ gens, g.is_async = 0) (hs : ∀ g ∈ gens, ∀ (env : Env) x, foldedSetIterable g.iter env x = pure x) (I : Nat → Shared → Prop)
    (turn : ∀ n s, I n s → wpAny (model prog w) A (pyNext it) (fun r s₁ => match r with
      | none => R (.ok .next) s₁
      | some v => wpAny (model prog w) A (letOwnedTupleGo t0 it v) (fun _ s₁' => wpAny (model prog w) A (assign t0 env v) (fun _ s₂ =>
          wpAny (model prog w) A (forIn ifs0 true fun c r => if r = true then do let ok ← isTrue c env (eval c env); pure (ForInStep.yield ok) else pure (ForInStep.yield r)) (fun ok s₃ =>
            if ok = true then wpRest prog w A c gens scope pos (d + 1) acc env (notedBy (model prog w) A env fun e s' => R (.error e) s') (fun s' => ∃ m, m < n ∧ I m s') s₃
            else ∃ m, m < n ∧ I m s₃) (notedBy (model prog w) A env fun e s' => R (.error e) s') s₂) (notedBy (model prog w) A env fun e s' => R (.error e) s') s₁') (notedBy (model prog w) A env fun e s' => R (.error e) s') s₁) (notedBy (model prog w) A env fun e s' => R (.error e) s') s)
    (n : Nat) (h : I n s) :
    codeAny (model prog w) A (.compLoop (c.ex gens scope pos) d it acc env) R s := by
  refine codeAny_loop rfl I (fun n s hI => ?_) n h
  have eU : A.under (.compLoop (c.ex gens scope pos) d it acc env) = A := by cases c <;> rfl
  have eD : (model prog w).den (.compLoop (c.ex gens scope pos) d it acc env) = (compTurn (c.ex gens scope pos) d it acc env).onRaise (fun x => do noteFrame x env; theTreesLotGoes x) := by cases c <;> rfl
  rw [eU, eD]
  refine wpAny_noted ?_
  have turn := turn n s hI
  cases h2 : gens[d + 1]? with
  | none =>
    rw [turn_in h1 h2]
    refine wpAny_bind (wpAny_standAt (wpAny_bind (wpAny_mono turn (fun r s₁ h₁ => ?_) fun _ _ h' => h')))
    cases r with
    | none => exact wpAny_pure h₁
    | some v =>
      refine wpAny_bind (wpAny_mono h₁ (fun _ s₁' h₁' => ?_) fun _ _ h' => h')
      refine wpAny_bind (wpAny_mono h₁' (fun _ s₂ h₂ => wpAny_bind (wpAny_mono h₂ (fun ok s₃ h₃ => ?_) fun _ _ h' => h')) fun _ _ h' => h')
      cases ok with
      | false => exact wpAny_pure ⟨rfl, h₃⟩
      | true =>
        have h₃ : wpRest prog w A c gens scope pos (d + 1) acc env _ _ s₃ := h₃
        unfold wpRest at h₃
        rw [h2] at h₃
        exact wpAny_bind (wpAny_mono h₃ (fun _ s₅ h₅ => wpAny_pure ⟨rfl, h₅⟩) fun _ _ h' => h')
  | some g =>
    obtain ⟨t1, i1, ifs1, az⟩ := g
    have hg : (⟨t1, i1, ifs1, az⟩ : Comprehension) ∈ gens := List.mem_of_getElem? h2
    have e0 : az = 0 := hz _ hg
    subst e0
    have hs := hs _ hg env
    rw [turn_out h1 h2]
    refine wpAny_bind (wpAny_standAt (wpAny_bind (wpAny_mono turn (fun r s₁ h₁ => ?_) fun _ _ h' => h')))
    cases r with
    | none => exact wpAny_pure h₁
    | some v =>
      refine wpAny_bind (wpAny_mono h₁ (fun _ s₁' h₁' => ?_) fun _ _ h' => h')
      refine wpAny_bind (wpAny_mono h₁' (fun _ s₂ h₂ => wpAny_bind (wpAny_mono h₂ (fun ok s₃ h₃ => ?_) fun _ _ h' => h')) fun _ _ h' => h')
      cases ok with
      | false => exact wpAny_pure ⟨rfl, h₃⟩
      | true =>
        have h₃ : wpRest prog w A c gens scope pos (d + 1) acc env _ _ s₃ := h₃
        unfold wpRest at h₃
        rw [h2] at h₃
        refine wpAny_bind (wpAny_mono h₃ (fun x s₄ h₄ => ?_) fun _ _ h' => h')
        refine wpAny_bind (wpAny_standAt (wpAny_bind (wpAny_of_eq (hs x) (wpAny_bind (wpAny_holding (wpAny_mono h₄ (fun it1 s₅ h₅ => ?_) fun _ _ h' => h'))))))
        refine wpAny_bind (wpAny_runOwn ?_)
        rw [Around.mark_none]
        refine codeAny_mono h₅ fun r s' hr => ?_
        cases r with
        | ok f =>
          first
            | exact wpAny_pure ⟨rfl, hr⟩
            | exact wpAny_bind (wpAny_pure (wpAny_pure ⟨rfl, hr⟩))
        | error e => exact hr.elim
/-- a clause's start -/
theorem start_gen (h1 : gens[d]? = some ⟨t0, i0, ifs0, 0⟩) (h0 : codeAny (model prog w) A (.compLoop (c.ex gens scope pos) d it acc env) R s)
    (h : wpAny (model prog w) A (pyIter it) (fun it' s' => codeAny (model prog w) A (.compLoop (c.ex gens scope pos) d it' acc env) R s')
      (notedBy (model prog w) A env fun x s' => R (.error x) s') s) :
    codeAny (model prog w) A (.compStart (c.ex gens scope pos) d it acc env) R s := by
  refine codeAny_of_tree ?_
  have eU : A.under (.compStart (c.ex gens scope pos) d it acc env) = A := by cases c <;> rfl
  have eD : (model prog w).den (.compStart (c.ex gens scope pos) d it acc env) = (compStart (c.ex gens scope pos) d it acc env).onRaise (fun x => do noteFrame x env; standAt theWindowsPlace) := by cases c <;> rfl
  rw [eU, eD]
  refine wpAny_notedAt ?_
  unfold compStart
  rw [clauses_ex, h1]
  show wpAny _ _ (ask >>= _) _ _ s
  refine wpAny_bind (wpAny_askSetting (wpAny_ite ?_))
  split
  · first
      | exact wpAny_bind (wpAny_pure (wpAny_pure (And.intro rfl h0)))
      | exact wpAny_pure (And.intro rfl h0)
  · first
      | exact wpAny_bind (wpAny_rule (wpAny_bind (wpAny_standAt (wpAny_bind (wpAny_mono h (fun it' s' h' => wpAny_pure (And.intro rfl h')) fun _ _ x => x)))))
      | (refine wpAny_bind (wpAny_rule ?_); show wpAny _ _ (standAt i0.pos >>= _) _ _ s; exact wpAny_bind (wpAny_standAt (wpAny_bind (wpAny_mono h (fun it' s' h' => wpAny_pure (And.intro rfl h')) fun _ _ x => x))))
end

/-! ### the judgement of the clauses from the d-th on -/
def CK.o0 (c : CK) : HO := match c with
  | .list _ => .lst []
  | .dict _ _ => .dK []
def CK.new (c : CK) : Sem Value := match c with
  | .list _ => newList []
  | .dict _ _ => newDict
abbrev TC := L2.St → Hp → (Hp → Prop) → Prop
structure PCl (Y : Cx) (c : CK) (gens : List Comprehension) (scope : Scope) (pos : Pos) (d : Nat) (D : Addr) (vs : List Nat) (t : TC) : Prop where
  run : ∀ (pins : List (Addr × Obj)) (s : Shared) (σ : L2.St) (H : Hp) (N : Value → Shared → Prop) (Nx : Hp → Prop), Inv Y pins σ H s → t σ H Nx →
    wpRest Y.prog Y.w Y.A c gens scope pos d (.ref D) Y.env N (fun s' => ∃ H', Inv Y pins (wipe σ vs) H' s' ∧ Nx H') s
/-- a clause, those behind it -/
def tCl (wi : TI) (g : TG) (tt : TT) (t' : TC) (vs : List Nat) : TC := fun σ H Nx => wi σ H fun J H1 => ∃ W : Nat → Nat → Hp → Prop, (∃ m, W 0 m H1) ∧ ∀ i m H, W i m H →
  (J.stop i H ∧ Nx H) ∨ (J.go i H ∧ ∃ Nx1 : Hp → Prop, (∀ H', Nx1 H' → ∃ m', m' < m ∧ W (i + 1) m' H') ∧ ∀ x H', J.yld i H x H' → g x (wipe σ vs) H' fun σ2 H2 => wipe σ2 vs = wipe σ vs ∧ tt σ2 H2 fun b H3 =>
    if b = true then t' σ2 H3 Nx1 else Nx1 H3)
section
variable {Y : Cx} {c : CK} {gens : List Comprehension} {scope : Scope} {pos : Pos} {d : Nat} {D : Addr} {vs vs' : List Nat} {t' : TC} {tg iter : Expr} {ifs : List Expr} {wi : TI} {g : TG} {tt : TT}
theorem wipe_in {σ : L2.St} {i : Nat} : ∀ {vs : List Nat} {v : V}, i ∈ vs → (wipe σ vs)[i]? ≠ some (some v)
  | [], _, h => absurd h (by simp)
  | x :: vs, v, h => fun e => (wipe_some (vs := x :: vs) e).2 h
theorem keep_wipe {σ1 σ2 : L2.St} {vs vs' : List Nat} (h : wipe σ2 vs = wipe σ1 vs) (hv : ∀ i ∈ vs', i ∈ vs) : (wipe σ1 vs).length = (wipe σ2 vs').length ∧ ∀ (j : Nat) v, (wipe σ1 vs)[j]? = some (some v) → (wipe σ2 vs')[j]? = some (some v) := by
  refine ⟨by rw [← h, wipe_length, wipe_length], fun j v e => ?_⟩
  rw [← h] at e
  obtain ⟨e1, e2⟩ := wipe_some e
  rw [wipe_out fun z => e2 (hv j z)]
  exact e1
theorem wipe_keep {σ : L2.St} {vs vs' : List Nat} (hv : ∀ i ∈ vs', i ∈ vs) : (wipe σ vs).length = (wipe σ vs').length ∧ ∀ (j : Nat) v, (wipe σ vs)[j]? = some (some v) → (wipe σ vs')[j]? = some (some v) := keep_wipe rfl hv
theorem toN {α : Type} {t : Sem α} {Q Q' : α → Shared → Prop} {M : Model} {A : Around} {E E' : Value → Shared → Prop} {s : Shared} (hE : E = fun _ _ => False) (h : wpAny M A t Q E s) (hQ : ∀ a s, Q a s → Q' a s) : wpAny M A t Q' E' s := by
  subst hE
  exact wpAny_mono h hQ fun _ _ z => False.elim z
/-- an inner clause -/
theorem pcl_clause (h1 : gens[d]? = some ⟨tg, iter, ifs, 0⟩) (hz : ∀ g ∈ gens, g.is_async = 0) (hs : ∀ g ∈ gens, ∀ (env : Env) x, foldedSetIterable g.iter env x = pure x) (hxe : Y.xe = fun _ _ => False) (hc : Y.calm = true)
    (hi : PI Y tg iter wi) (hg : PG Y tg g) (ht : PTs Y ifs tt) (hr : PCl Y c gens scope pos (d + 1) D vs' t') (hv : ∀ i ∈ vs', i ∈ vs) : PCl Y c gens scope pos d D vs (tCl wi g tt t' vs) := by
  refine ⟨fun pins s9 σ8 H9 N Nx I9 q9 => ?_⟩
  unfold wpRest
  rw [h1]
  show wpAny _ _ (eval iter Y.env) _ _ s9
  refine toN hxe (hi.run _ s9 σ8 H9 _ I9 q9) fun xv s10 hx => toN hxe hx fun itv s11 h11 => ?_
  obtain ⟨it1, fp1, tn1, J1, H11, e1, I11, T1, st11, f11, W1, ⟨m1, w1⟩, turn1⟩ := h11
  subst e1
  have stat1 : ∀ {H' : Hp}, (∀ b ∈ fp1, H' b = none) → ∀ b ∈ fp1, FpOk Y pins H' b := fun hn b hb => ⟨hn b hb, (f11 b hb).2⟩
  have loop1 : codeAny (model Y.prog Y.w) Y.A (.compLoop (c.ex gens scope pos) d (.ref it1) (.ref D) Y.env)
      (fun r s' => match r with
        | .ok _ => ∃ H', Inv Y pins (wipe σ8 vs) H' s' ∧ Nx H'
        | .error _ => False) s11 := by
    refine loop_gen h1 hz hs (fun k s' => ∃ j H', Inv Y pins (wipe σ8 vs) H' s' ∧ tn1 j s'.heap ∧ (∀ b ∈ fp1, H' b = none) ∧ W1 j k H') ?_ m1 ⟨0, H11, I11.weak (wipe_length _ _) (fun j v e => (wipe_some e).1), st11, fun b hb => (f11 b hb).1, w1⟩
    rintro k s12 ⟨j, H12, I12, st12, n12, w12⟩
    rcases turn1 j k H12 w12 with ⟨stop1, nx1⟩ | ⟨go1, Nx1, hNx1, step1⟩
    · refine thnF (T1.done Y rfl rfl rfl hc j _ s12 (wipe σ8 vs) H12 (fun _ _ => False) I12 (stat1 n12) st12 stop1) fun r s13 ⟨hr, I13⟩ => ?_
      subst hr
      exact ⟨H12, I13, nx1⟩
    · refine thnF (T1.item Y rfl rfl rfl hc j _ s12 (wipe σ8 vs) H12 (fun _ _ => False) I12 (stat1 n12) st12 go1) fun r s13 ⟨u1, hr', h13⟩ => ?_
      subst hr'
      refine thnF h13 fun _ s14 ⟨x1, H14, I14, r14, y14, st14, n14⟩ => ?_
      have I14' := I14.pinned (stat1 n14) (T1.obj _ _ st14)
      refine toN hxe (hg.run _ s14 (wipe σ8 vs) H14 x1 u1 _ I14' r14 (step1 x1 H14 y14)) fun _ s15 ⟨σ15, H15, I15, hw15, q15⟩ => ?_
      refine toN hxe (ht.run _ s15 σ15 H15 _ I15 q15) fun b1 s16 ⟨H16, I16, q16⟩ => ?_
      have fin1 : ∀ {σ17 : L2.St} {s' : Shared} {H' : Hp}, Inv Y (pins ++ pinsAt fp1 s14.heap) σ17 H' s' → (wipe σ8 vs).length = σ17.length → (∀ (j : Nat) v, (wipe σ8 vs)[j]? = some (some v) → σ17[j]? = some (some v)) → Nx1 H' →
          ∃ m, m < k ∧ ∃ j H', Inv Y pins (wipe σ8 vs) H' s' ∧ tn1 j s'.heap ∧ (∀ b ∈ fp1, H' b = none) ∧ W1 j m H' := fun {σ17 s' H'} I' hl hk nx => by
        obtain ⟨m', hm, w'⟩ := hNx1 H' nx
        have pin' : ∀ b ∈ fp1, ∀ o, s14.heap.get? b = some o → s'.heap.get? b = some o ∧ H' b = none := fun b hb o e =>
          let z := I'.pin (b, o) (List.mem_append_right _ (List.mem_append_right _ (mem_pinsAt hb e)))
          ⟨z.1, z.2.1⟩
        refine ⟨m', hm, j + 1, H', I'.unpinned.weak hl hk, T1.keep _ _ _ st14 fun b hb o e => (pin' b hb o e).1, fun b hb => ?_, w'⟩
        obtain ⟨o, e, _⟩ := T1.obj _ _ st14 b hb
        exact (pin' b hb o e).2
      cases b1 with
      | false =>
        simp only [Bool.false_eq_true, if_false] at q16 ⊢
        obtain ⟨k1, k2⟩ := keep_wipe (vs' := []) hw15 (fun _ h => absurd h (by simp))
        exact fin1 I16 k1 k2 q16
      | true =>
        simp only [if_true] at q16 ⊢
        obtain ⟨k1, k2⟩ := keep_wipe hw15 hv
        have := hr.run _ s16 σ15 H16 (notedBy (model Y.prog Y.w) Y.A Y.env fun e s' => False) Nx1 I16 q16
        unfold wpRest at this ⊢
        cases e : gens[d + 1]? with
        | none =>
          rw [e] at this
          exact wpAny_mono this (fun _ s' ⟨H', I', nx⟩ => fin1 I' k1 k2 nx) fun _ _ z => z
        | some g' =>
          rw [e] at this
          refine wpAny_mono this (fun x s4 h4 => wpAny_mono h4 (fun it1 s5 h5 => codeAny_mono h5 fun r s' hr => ?_) fun _ _ z => z) fun _ _ z => z
          cases r with
          | ok f =>
            obtain ⟨H', I', nx⟩ := hr
            exact fin1 I' k1 k2 nx
          | error e => exact hr
  exact start_gen h1 loop1 (T1.self Y.A 0 _ _ _ st11 loop1)
/-- the items of a list -/
theorem pcl_list {elt : Expr} {te : TE} (h1 : gens[d]? = none) (hxe : Y.xe = fun _ _ => False) (he : PE Y elt te) : PCl Y (.list elt) gens scope pos d D []
    (fun σ H Nx => te σ H fun y H4 => ∃ acc, H4 D = some (.lst acc) ∧ acc.length < sizeLine ∧ Nx (upd H4 D (.lst (acc ++ [y])))) := by
  refine ⟨fun pins s σ H N Nx I q => ?_⟩
  unfold wpRest
  rw [h1]
  show wpAny _ _ (do let _ ← call (.builtin "list.append") [.ref D, ← eval elt Y.env]) _ _ s
  refine wpAny_bind (toN hxe (he.run _ s σ H _ I q) fun z s17 ⟨yv, H17, I17, r17, acc, hD17, hz17, nx⟩ => ?_)
  exact wpAny_bind (app_ok (X := Y) I17 hD17 hz17 r17 fun s18 I18 => wpAny_pure ⟨_, I18, nx⟩)
theorem pcl_dict {kx vx : Expr} {tk tv : TE} (h1 : gens[d]? = none) (hxe : Y.xe = fun _ _ => False) (hk : PE Y kx tk) (he : PE Y vx tv) : PCl Y (.dict kx vx) gens scope pos d D []
    (fun σ H Nx => tk σ H fun y H4 => tv σ H4 fun z H5 => ∃ kvs k, y = kV k ∧ H5 D = some (.dK kvs) ∧ kvs.length < sizeLine ∧ Nx (upd H5 D (.dK (putK kvs k z)))) := by
  refine ⟨fun pins s σ H N Nx I q => ?_⟩
  unfold wpRest
  rw [h1]
  show wpAny _ _ (CK.emit (.dict kx vx) (.ref D) Y.env) _ _ s
  unfold CK.emit
  refine wpAny_bind (toN hxe (hk.run _ s σ H _ I q) fun z s10 ⟨yk, H10, I10, r10, q10⟩ => ?_)
  refine wpAny_bind (wpAny_holding (toN hxe (he.run _ s10 σ H10 _ I10 q10) fun z2 s11 ⟨yv, H11, I11, r11, kvs, k, ek, hD11, hz11, nx⟩ => ?_))
  subst ek
  exact wpAny_bind (wpAny_standAt (wpAny_holding (d_dictSet (X := Y) I11 hD11 hz11 r10 r11 fun s12 I12 => ⟨_, I12, nx⟩)))
end

/-! ### the whole -/
/-- D the new object -/
def tTop (wi : TI) (g : TG) (tt : TT) (t' : Addr → TC) (vs : List Nat) (o0 : HO) : TE := fun σ H Q => wi σ H fun J H1 => ∀ D, H1 D = none → ∃ W : Nat → Nat → Hp → Prop, (∃ m, W 0 m (upd H1 D o0)) ∧ ∀ i m H, W i m H →
  (J.stop i H ∧ Q (.ref D) H) ∨ (J.go i H ∧ ∃ Nx : Hp → Prop, (∀ H', Nx H' → ∃ m', m' < m ∧ W (i + 1) m' H') ∧ ∀ x H', J.yld i H x H' → g x (wipe σ vs) H' fun σ2 H2 => wipe σ2 vs = wipe σ vs ∧ tt σ2 H2 fun b H3 =>
    if b = true then t' D σ2 H3 Nx else Nx H3)
section
variable {X : Cx} {c : CK} {gs : List Comprehension} {scope : Scope} {vs' : List Nat} {t' : Addr → TC} {tg iter : Expr} {ifs : List Expr} {wi : TI} {g : TG} {tt : TT} {own : List (Str × Nat)}
/-- the block's facts at any block -/
def AtBlk (X : Cx) (scope : Scope) (P : Cx → Prop) : Prop := ∀ (s : Shared) (H : Hp) (C : Addr) (cl : List (Str × Addr)) (fp : List Addr), P (X.blk s H scope (compEnvC scope cl C X.env) fp)
theorem new_ok {pins : List (Addr × Obj)} {σ : L2.St} {H2 : Hp} {s2 : Shared} {Q : Value → Shared → Prop} {E : Value → Shared → Prop} {A : Around} (I2 : Inv X pins σ H2 s2)
    (h : ∀ s3 : Shared, Inv X pins σ (upd H2 s2.heap.objs.size c.o0) s3 → (∀ b o, s2.heap.get? b = some o → s3.heap.get? b = some o) → s2.heap.objs.size < s3.heap.objs.size → Q (.ref s2.heap.objs.size) s3) : wpAny (model X.prog X.w) A c.new Q E s2 := by
  cases c with
  | list elt =>
    refine wpAny_newObj_type (h { s2 with heap := s2.heap.push { cls := .type "list", data := .seq ([] : List Value).toArray } } ?_ (fun b o e => Heap.get?_push_of_some _ e) (by show _ < (Heap.push _ _).objs.size; rw [Heap.size_push]; exact Nat.lt_succ_self _)) (by show 0 ≤ sizeLine; decide)
    refine I2.laid (t' := s2.toks) (fun b o e => Heap.get?_push_of_some _ e) (Nat.le_refl _) ⟨Nat.zero_le _, [], 0, .nil, ?_⟩
    exact Heap.get?_push_size _ rfl
  | dict k v =>
    refine wpAny_newObj_type (h { s2 with heap := s2.heap.push { cls := .type "dict", data := .dict #[] } } ?_ (fun b o e => Heap.get?_push_of_some _ e) (by show _ < (Heap.push _ _).objs.size; rw [Heap.size_push]; exact Nat.lt_succ_self _))
    refine I2.laid (t' := s2.toks) (fun b o e => Heap.get?_push_of_some _ e) (Nat.le_refl _) ?_
    exact dk_empty s2.heap I2.big
theorem core_gen {pins : List (Addr × Obj)} {s : Shared} {σ : L2.St} {H : Hp} {Q : VK} {pos pos' : Pos} {use : Option (Value → Sem Unit)} {Qf : Value → Shared → Prop}
    (hc : X.calm = true) (hN : X.N.Nodup) (I : Inv X pins σ H s) (hi : PI X tg iter wi) (ok : BlkOk X.N X.env.scope scope own)
    (hz : ∀ g ∈ ((⟨tg, iter, ifs, 0⟩ : Comprehension) :: gs), g.is_async = 0) (hs : ∀ g ∈ ((⟨tg, iter, ifs, 0⟩ : Comprehension) :: gs), ∀ (env : Env) x, foldedSetIterable g.iter env x = pure x)
    (hg : AtBlk X scope fun Y => PG Y tg g) (ht : AtBlk X scope fun Y => PTs Y ifs tt) (hr : AtBlk X scope fun Y => ∀ D, PCl Y c ((⟨tg, iter, ifs, 0⟩ : Comprehension) :: gs) scope pos 1 D vs' (t' D)) (hv : ∀ i ∈ vs', i ∈ own.map (·.2))
    (h : tTop wi g tt t' (own.map (·.2)) c.o0 σ H Q)
    (hRR : ∀ D C s' m H', Inv X pins σ H' s' → Q (.ref D) H' → s'.heap.Ns C m → FpOk X pins H' C → compPost (model X.prog X.w) X.A X.xe use Qf (.ref D) C (.ok .next) s') :
    wpAny (model X.prog X.w) X.A (comprehension (c.ex ((⟨tg, iter, ifs, 0⟩ : Comprehension) :: gs) scope pos) scope X.env pos' c.new false (eval iter X.env) use) Qf X.xe s := by
  have hfree : ∀ y ∈ scope.names, y.2 = .free → ∃ c, X.env.cells.lookup y.1 = some c := fun y hy e => by
    rcases ok.free y hy e with k | k
    · exact I.ok.has _ (.inl k)
    · exact I.ok.has _ (.inr k)
  refine wpAny_comprehension_free (use := use) clauses_ex (hs _ List.mem_cons_self _) (closure_ok hfree) ok.kind (fun y hy e => by rw [ok.uniq y hy, e])
    (thn (hi.run pins s σ H _ I h) fun xv s1 hx => thn hx fun itv s2 h2 => ?_)
  obtain ⟨it, fp, tn, J, H2, e, I2, T, st2, f2, q⟩ := h2
  subst e
  refine new_ok I2 fun s3 I3 kp3 sz3 => newEnv_comp ?_
  generalize hD : s2.heap.objs.size = D at I3 sz3 ⊢
  have hDn : H2 D = none := I2.hok.fresh (Nat.le_of_eq hD)
  obtain ⟨W, ⟨m0, w0⟩, turn⟩ := q D hDn
  have sz : ∀ b ∈ fp, b < s2.heap.objs.size := fun b hb => by
    obtain ⟨o, e, _⟩ := T.obj _ _ st2 b hb
    exact Heap.lt_size e
  have f3 : ∀ b ∈ fp, FpOk X pins (upd H2 D c.o0) b ∧ b < s3.heap.objs.size := fun b hb => by
    have hlt := sz b hb
    refine ⟨⟨?_, (f2 b hb).2⟩, Nat.lt_trans hlt (by rw [hD]; exact sz3)⟩
    rw [upd_ne (by rw [← hD]; exact Nat.ne_of_lt hlt)]
    exact (f2 b hb).1
  have st3 : tn 0 s3.heap := T.keep _ _ _ st2 fun b _ o e => kp3 b o e
  have I4 := block_start I3 ok hN f3
  have pg := hg s3 (upd H2 D c.o0) s3.heap.objs.size (cellsFrom (s3.heap.objs.size + 1) scope.names (cloFrom X.env.cells scope.names [])) fp
  have pt := ht s3 (upd H2 D c.o0) s3.heap.objs.size (cellsFrom (s3.heap.objs.size + 1) scope.names (cloFrom X.env.cells scope.names [])) fp
  have pr := hr s3 (upd H2 D c.o0) s3.heap.objs.size (cellsFrom (s3.heap.objs.size + 1) scope.names (cloFrom X.env.cells scope.names [])) fp D
  show codeAny _ _ (.compStart (c.ex ((⟨tg, iter, ifs, 0⟩ : Comprehension) :: gs) scope pos) 0 (.ref it) (.ref D) (compEnvC scope (cellsFrom (s3.heap.objs.size + 1) scope.names (cloFrom X.env.cells scope.names [])) s3.heap.objs.size X.env)) (compPost (model X.prog X.w) X.A X.xe use Qf (.ref D) s3.heap.objs.size) { s3 with heap := pushCells (s3.heap.push { cls := .type "dict", data := .dict #[] }) scope.names }
  have nfp : ∀ b ∈ fp, (upd H2 D c.o0) b = none := fun b hb => (f3 b hb).1.1
  generalize hce : compEnvC scope (cellsFrom (s3.heap.objs.size + 1) scope.names (cloFrom X.env.cells scope.names [])) s3.heap.objs.size X.env = ce at I4 pg pt pr ⊢
  have cL : ce.locals = s3.heap.objs.size := by subst hce; rfl
  generalize hH3 : upd H2 D c.o0 = H3 at I3 I4 pg pt pr w0 nfp f3
  generalize hs4 : ({ s3 with heap := pushCells (s3.heap.push { cls := .type "dict", data := .dict #[] }) scope.names } : Shared) = s4 at I4 ⊢
  have st4 : tn 0 s4.heap := T.keep _ _ _ st3 fun b _ o e => by rw [← hs4]; exact pushCells_keeps _ _ _ _ (Heap.get?_push_of_some _ e)
  have stat : ∀ {σ' : L2.St} {H' : Hp} {s' : Shared}, Inv (X.blk s3 H3 scope ce fp) [] σ' H' s' → (∀ b ∈ fp, H' b = none) → ∀ b ∈ fp, FpOk (X.blk s3 H3 scope ce fp) [] H' b := fun {σ' H' s'} I' hn b hb =>
    ⟨hn b hb, (I'.ok.exf b hb).1, I'.ok.exfs b hb, .inl hb, fun x c e => (I'.ok.exf b hb).2 x c e, fun p hp => absurd (show p ∈ ([] : List (Addr × Obj)) ++ [] from hp) (by simp)⟩
  have loop : codeAny (model X.prog X.w) X.A (.compLoop (c.ex ((⟨tg, iter, ifs, 0⟩ : Comprehension) :: gs) scope pos) 0 (.ref it) (.ref D) ce) (compPost (model X.prog X.w) X.A X.xe use Qf (.ref D) s3.heap.objs.size) s4 := by
    refine loop_gen (t0 := tg) (i0 := iter) (ifs0 := ifs) rfl hz hs (fun n s' => ∃ i H', Inv (X.blk s3 H3 scope ce fp) [] (wipe σ (own.map (·.2))) H' s' ∧ tn i s'.heap ∧ (∀ b ∈ fp, H' b = none) ∧ W i n H') ?_ m0 ⟨0, H3, I4, st4, nfp, w0⟩
    rintro n s5 ⟨i, H5, I5, st5, n5, w5⟩
    rcases turn i n H5 w5 with ⟨stop, qq⟩ | ⟨go, Nx, hNx, step⟩
    · have td := T.done (X.blk s3 H3 scope ce fp) rfl rfl rfl hc i [] s5 _ H5 (fun _ _ => False) I5 (stat I5 n5) st5 stop
      refine thnF td fun r s6 ⟨hr, I6⟩ => ?_
      subst hr
      -- back in the def's context
      have I7 : Inv X pins σ H5 s6 := I3.call' (ch := fp) I6.os I6.base I6.hok I6.bare fun b hb => ⟨(f3 b hb).1.2.2.2.1, (f3 b hb).1.2.1, (f3 b hb).1.2.2.2.2.1, (f3 b hb).1.2.2.2.2.2⟩
      have nC : H5 s3.heap.objs.size = none := by
        have z : H5 ce.locals = none := I6.free
        rw [cL] at z
        exact z
      obtain ⟨m, hn, _⟩ := I6.loc
      have hn : s6.heap.Ns ce.locals m := hn
      rw [cL] at hn
      exact hRR D s3.heap.objs.size s6 m H5 I7 qq hn (I3.fpOk (Nat.le_refl _) nC)
    · have ti := T.item (X.blk s3 H3 scope ce fp) rfl rfl rfl hc i [] s5 _ H5 (fun _ _ => False) I5 (stat I5 n5) st5 go
      refine thnF ti fun r s6 ⟨u, hr, h6⟩ => ?_
      subst hr
      refine thnF h6 fun _ s7 ⟨x, H7, I7, r7, y7, st7, n7⟩ => ?_
      have I7' := I7.pinned (stat I7 n7) (T.obj _ _ st7)
      refine thnF (pg.run _ s7 _ H7 x u _ I7' r7 (step x H7 y7)) fun _ s8 ⟨σ8, H8, I8, hw8, q8⟩ => ?_
      refine thnF (pt.run _ s8 σ8 H8 _ I8 q8) fun b s9 ⟨H9, I9, q9⟩ => ?_
      -- the turn's end, from any slots that know what the block knew at its start
      have fin : ∀ {σ9 : L2.St} {s' : Shared} {H' : Hp}, Inv (X.blk s3 H3 scope ce fp) ([] ++ pinsAt fp s7.heap) σ9 H' s' → (wipe σ (own.map (·.2))).length = σ9.length → (∀ (j : Nat) v, (wipe σ (own.map (·.2)))[j]? = some (some v) → σ9[j]? = some (some v)) → Nx H' →
          ∃ m, m < n ∧ ∃ i H', Inv (X.blk s3 H3 scope ce fp) [] (wipe σ (own.map (·.2))) H' s' ∧ tn i s'.heap ∧ (∀ b ∈ fp, H' b = none) ∧ W i m H' := fun {σ9 s' H'} I' hl hk nx => by
        obtain ⟨m', hm, w'⟩ := hNx H' nx
        have pin' : ∀ b ∈ fp, ∀ o, s7.heap.get? b = some o → s'.heap.get? b = some o ∧ H' b = none := fun b hb o e =>
          let z := I'.pin (b, o) (List.mem_append_right _ (List.mem_append_right _ (mem_pinsAt hb e)))
          ⟨z.1, z.2.1⟩
        refine ⟨m', hm, i + 1, H', (I'.unpinned (pins := [])).weak hl hk, T.keep _ _ _ st7 fun b hb o e => (pin' b hb o e).1, fun b hb => ?_, w'⟩
        obtain ⟨o, e, _⟩ := T.obj _ _ st7 b hb
        exact (pin' b hb o e).2
      cases b with
      | false =>
        simp only [Bool.false_eq_true, if_false] at q9 ⊢
        obtain ⟨k1, k2⟩ := keep_wipe (vs' := []) hw8 (fun _ h => absurd h (by simp))
        exact fin I9 k1 k2 q9
      | true =>
        simp only [if_true] at q9 ⊢
        obtain ⟨k1, k2⟩ := keep_wipe hw8 hv
        have := pr.run _ s9 σ8 H9 (fun _ _ => False) Nx I9 q9
        unfold wpRest at this ⊢
        cases e : ((⟨tg, iter, ifs, 0⟩ : Comprehension) :: gs)[0 + 1]? with
        | none =>
          rw [e] at this
          exact thnF this fun _ s' ⟨H', I', nx⟩ => fin I' k1 k2 nx
        | some g' =>
          rw [e] at this
          refine thnF this fun x s4 h4 => thnF h4 fun it1 s5 h5 => codeAny_mono h5 fun r s' hr => ?_
          cases r with
          | ok f =>
            obtain ⟨H', I', nx⟩ := hr
            exact fin I' k1 k2 nx
          | error e => exact hr
  exact start_gen (t0 := tg) (i0 := iter) (ifs0 := ifs) rfl loop (T.self X.A 0 _ _ _ st4 loop)
/-- as a value -/
theorem pe_comp {pos : Pos} (hc : X.calm = true) (hN : X.N.Nodup) (hi : PI X tg iter wi) (ok : BlkOk X.N X.env.scope scope own)
    (hz : ∀ g ∈ ((⟨tg, iter, ifs, 0⟩ : Comprehension) :: gs), g.is_async = 0) (hs : ∀ g ∈ ((⟨tg, iter, ifs, 0⟩ : Comprehension) :: gs), ∀ (env : Env) x, foldedSetIterable g.iter env x = pure x)
    (hg : AtBlk X scope fun Y => PG Y tg g) (ht : AtBlk X scope fun Y => PTs Y ifs tt) (hr : AtBlk X scope fun Y => ∀ D, PCl Y c ((⟨tg, iter, ifs, 0⟩ : Comprehension) :: gs) scope pos 1 D vs' (t' D)) (hv : ∀ i ∈ vs', i ∈ own.map (·.2)) :
    PE X (c.ex ((⟨tg, iter, ifs, 0⟩ : Comprehension) :: gs) scope pos) (tTop wi g tt t' (own.map (·.2)) c.o0) := by
  refine ⟨fun pins s σ H Q I h => ?_⟩
  have e : eval (c.ex ((⟨tg, iter, ifs, 0⟩ : Comprehension) :: gs) scope pos) X.env = comprehension (c.ex ((⟨tg, iter, ifs, 0⟩ : Comprehension) :: gs) scope pos) scope X.env (firstIterPos ((⟨tg, iter, ifs, 0⟩ : Comprehension) :: gs) pos) c.new false (eval iter X.env) none := by
    cases c with
    | list elt => unfold CK.ex CK.new; rw [eval_ListComp]; rfl
    | dict k v => unfold CK.ex CK.new; rw [arm_eval_DictComp]; rfl
  rw [e]
  refine core_gen hc hN I hi ok hz hs hg ht hr hv h fun D C s' m H' I' q hn f => ⟨m, hn, fun h'' sb => ?_⟩
  obtain ⟨f0, f1, f2, f3, f4, f5⟩ := f
  exact ⟨.ref D, H', I'.turned (t' := s'.toks) (fun b o hb e => (sb.2 b hb).trans e) f0 f1 f3 f4 f5, rfl, q⟩
/-- name = [..] on one line, the name a local -/
theorem ps_setComp {i : Nat} {y : Str} {py pos spos : Pos} (hc : X.calm = true) (hN : X.N.Nodup) (hy : X.N[i]? = some y) (hyl : X.env.scope.names.lookup y = some .local)
    (hsw : swapsWith (c.ex ((⟨tg, iter, ifs, 0⟩ : Comprehension) :: gs) scope pos) (some (.Name y py)) spos.line X.env = pure true) (hi : PI X tg iter wi) (ok : BlkOk X.N X.env.scope scope own)
    (hz : ∀ g ∈ ((⟨tg, iter, ifs, 0⟩ : Comprehension) :: gs), g.is_async = 0) (hs : ∀ g ∈ ((⟨tg, iter, ifs, 0⟩ : Comprehension) :: gs), ∀ (env : Env) x, foldedSetIterable g.iter env x = pure x)
    (hg : AtBlk X scope fun Y => PG Y tg g) (ht : AtBlk X scope fun Y => PTs Y ifs tt) (hr : AtBlk X scope fun Y => ∀ D, PCl Y c ((⟨tg, iter, ifs, 0⟩ : Comprehension) :: gs) scope pos 1 D vs' (t' D)) (hv : ∀ i ∈ vs', i ∈ own.map (·.2)) :
    PS X (.Assign [.Name y py] (c.ex ((⟨tg, iter, ifs, 0⟩ : Comprehension) :: gs) scope pos) spos) (tAsg (tTop wi g tt t' (own.map (·.2)) c.o0) (gName i)) := by
  refine ⟨fun pins s σ H D I h => ?_⟩
  rw [exec_Assign_Name_used _ _ _ _ hsw]
  refine wpAny_bind (wpAny_standAt (wpAny_bind ?_))
  have h : tTop wi g tt t' (own.map (·.2)) c.o0 σ H (fun x H1 => gName i x σ H1 D.nx) := h
  have fin : wpAny (model X.prog X.w) X.A (comprehension (c.ex ((⟨tg, iter, ifs, 0⟩ : Comprehension) :: gs) scope pos) scope X.env (firstIterPos ((⟨tg, iter, ifs, 0⟩ : Comprehension) :: gs) pos) c.new false (eval iter X.env) (some (assign (.Name y py) X.env))) (fun _ s' => SP X pins D .next s') X.xe s := by
    refine core_gen (Qf := fun _ s' => SP X pins D .next s') hc hN I hi ok hz hs hg ht hr hv h fun L C s' m H' I' q hn f => ?_
    show wpAny _ _ (assign (.Name y py) X.env (.ref L)) _ _ _
    refine wpAny_assign_Name (store_ok2 (v := V.ref L) I' hN hy (.inl hyl) rfl (fun s2 I2 ⟨a, sb, ha⟩ => ?_) (.inr hyl))
    obtain ⟨f0, f1, f2, f3, f4, f5⟩ := f
    have haC : C ≠ a := by
      rcases ha with z | z
      · rw [z]; exact f1
      · exact fun e => f4 y a z e.symm
    refine ⟨m, hn.sameBut sb haC, fun h3 sb3 => ?_⟩
    exact ⟨_, H', I2.turned (t' := s2.toks) (fun b o hb e => (sb3.2 b hb).trans e) f0 f1 f3 f4 f5, q⟩
  cases c with
  | list elt =>
    show wpAny _ X.A (do let _ ← comprehension (CK.ex (.list elt) ((⟨tg, iter, ifs, 0⟩ : Comprehension) :: gs) scope pos) scope X.env (firstIterPos ((⟨tg, iter, ifs, 0⟩ : Comprehension) :: gs) pos) (newList []) false (eval iter X.env) (some (assign (.Name y py) X.env))) _ _ s
    exact wpAny_bind (thn fin fun _ s' hq => wpAny_pure (wpAny_pure hq))
  | dict k v =>
    show wpAny _ X.A (do let _ ← comprehension (CK.ex (.dict k v) ((⟨tg, iter, ifs, 0⟩ : Comprehension) :: gs) scope pos) scope X.env (firstIterPos ((⟨tg, iter, ifs, 0⟩ : Comprehension) :: gs) pos) newDict false (eval iter X.env) (some (assign (.Name y py) X.env))) _ _ s
    exact wpAny_bind (thn fin fun _ s' hq => wpAny_pure (wpAny_pure hq))
end
end GL
end
section
set_option Elab.async false
set_option linter.all false
set_option maxRecDepth 100000
/-! enumerate over a tuple. -/
namespace GLE
open PySem
open Sem (wp)
open AutoSeq1 (wpAny_loadPart')
theorem meets_enumerate_newT (l : Addr) (items : Array Value) (n : Nat) (dct : Option Addr) (sl : Array (Option Value)) :
    Meets (Builtin.«enumerate.__new__» ⟨[.type "enumerate", .ref l], []⟩) (fun _ R s => s.heap.get? l = some { cls := .type "tuple", dict := dct, data := .seq items n, slots := sl } ∧
      R (.ok (.ret (.ref (s.heap.push { cls := .type "tuple_iterator", data := .fields #[.ref l, .int 0 0] }).objs.size)))
        { s with heap := (s.heap.push { cls := .type "tuple_iterator", data := .fields #[.ref l, .int 0 0] }).push { cls := .type "enumerate", data := .fields #[.none, .bool false, .ref s.heap.objs.size, rawInt 0, .none, .none] } }) :=
  .of_wp fun prog w A R s h => by
    obtain ⟨hp, g, d, tk, os⟩ := s; obtain ⟨hl, h⟩ := h
    have hsub := sub_enumerate
    have hL : Heap.IsTuple (Shared.heap ⟨hp, g, d, tk, os⟩) l items := ⟨_, hl, rfl, n, rfl⟩
    wp_walk using wpAny_loadPart' hl
    refine wpAny_stack_any fun st => wpAny_pure ?_
    split
    · rename_i c _ _ _ _ _
      cases (c == Value.type "enumerate")
      · wp_walk using wpAny_loadPart' hl, wpAny_pyIter_tuple hL
        exact ⟨_, rfl, h⟩
      · wp_walk using wpAny_loadPart' hl, wpAny_pyIter_tuple hL
        exact ⟨_, rfl, h⟩
    · wp_walk using wpAny_loadPart' hl, wpAny_pyIter_tuple hL
      exact ⟨_, rfl, h⟩
section
variable {prog : Program} {w : World} {A : Around} {E : Value → Shared → Prop} {s : Shared}
theorem call_enumerate_tup {l : Addr} {items : Array Value} {Q : Value → Shared → Prop} (hL : s.heap.IsTuple l items)
    (h : ∀ h', IsEnum h' (s.heap.objs.size + 1) s.heap.objs.size 0 .none → h'.IsTupleIter s.heap.objs.size l 0 → h'.objs.size = s.heap.objs.size + 2 →
      (∀ b o, s.heap.get? b = some o → h'.get? b = some o) → Q (.ref (s.heap.objs.size + 1)) { s with heap := h' }) :
    wpAny (model prog w) A (call (.type "enumerate") [.ref l]) Q E s := by
  obtain ⟨⟨c, dct, dt, sl⟩, hl, hc, n, hd⟩ := hL
  replace hc : c = .type "tuple" := hc
  replace hd : dt = .seq items n := hd
  subst hc hd
  refine callType_new F.called_enumerate (by decide) (F.typeCall_enumerate_1 _) (F.newCall_enumerate_1 _) (fun obj => F.args_object_init_2 obj _) F.entry_enumerate_new
    (meets_enumerate_newT l items n dct sl) ⟨hl, ?_⟩
  have hz : (s.heap.push { cls := .type "tuple_iterator", data := .fields #[.ref l, .int 0 0] }).objs.size = s.heap.objs.size + 1 := Heap.size_push ..
  show _ ∧ _
  rw [hz]
  have he : IsEnum ((s.heap.push { cls := .type "tuple_iterator", data := .fields #[.ref l, .int 0 0] }).push
      { cls := .type "enumerate", data := .fields #[.none, .bool false, .ref s.heap.objs.size, rawInt 0, .none, .none] }) (s.heap.objs.size + 1) s.heap.objs.size 0 .none := by
    have := Heap.get?_push_size (s.heap.push { cls := .type "tuple_iterator", data := .fields #[.ref l, .int 0 0] })
      (o := { cls := .type "enumerate", data := .fields #[.none, .bool false, .ref s.heap.objs.size, rawInt 0, .none, .none] }) rfl
    rw [hz] at this; exact this
  refine ⟨⟨_, he, rfl⟩, h _ he ⟨_, Heap.get?_push_of_some _ (Heap.get?_push_size _ rfl), rfl, rfl⟩ (by rw [Heap.size_push, hz]) fun b o x => Heap.get?_push_of_some _ (Heap.get?_push_of_some _ x)⟩
theorem draws_tup (hh : A.handled = none) (it t : Addr) (items : Array Value) (hne : it ≠ t) : Draws prog w A it [it, t] items.size (fun i x => items[i]? = some x) (fun i h => h.IsTupleIter it t i ∧ h.IsTuple t items) where
  live := fun i h st => let ⟨⟨o, e, _⟩, _⟩ := st; ⟨o, e⟩
  frame := fun i h h' st k => ⟨st.1.at fun o e => k it (by simp) o e, let ⟨o, e, r⟩ := st.2; ⟨o, k t (by simp) o e, r⟩⟩
  item := fun i s Q E hi st hQ => by
    have hx : items[i]? = some items[i] := by simp [hi]
    refine RZ.nextOf_tuple_item st.1 st.2 hx fun h' st' sb => ?_
    exact hQ items[i] h' s.toks hx ⟨st', let ⟨o, e, r⟩ := st.2; ⟨o, (sb.2 t (Ne.symm hne)).trans e, r⟩⟩ sb
  done := fun s Q E st hE => RZ.nextOf_tuple_end hh st.1 st.2 (by simp) hE
end
end GLE
namespace L2
open PySem PySem.Spec PyProof.Rows
def IteT (K : PySem.W.Frag) (a : Addr) : It :=
  ⟨fun i H => ∃ (xs : List V) (x : V), SqT K H a xs ∧ xs[i]? = some x, fun i H v H' => ∃ T x, v = .ref T ∧ H T = none ∧ H' = upd H T (.tup [.int (i : Nat), x]) ∧ ∀ xs, SqT K H a xs → xs[i]? = some x, fun i H => ∃ xs : List V, SqT K H a xs ∧ xs.length = i⟩
theorem turn_enumT {P : Program} {w : World} {K : PySem.W.Frag} {elts : List Expr} {kk : Nat} {tpos : Pos} (a e it : Addr) :
    Turn P w K (.Tuple elts kk tpos) (IteT K a) [e, it] e (fun i h => (∃ old, IsEnum h e it ((i : Nat) : Int) old) ∧ h.IsTupleIter it a i ∧ e ≠ it ∧ it ≠ a ∧ e ≠ a) where
  mem := by simp
  obj := fun i h st b hb => by
    obtain ⟨⟨old, he⟩, ⟨o, ho, hc, hd⟩, _⟩ := st
    have e' : b = e ∨ b = it := by simpa using hb
    rcases e' with z | z
    · rw [z]; exact ⟨_, he, fun v q => nomatch q⟩
    · rw [z]; exact ⟨o, ho, fun v q => by rw [hd] at q; cases q⟩
  keep := fun i h h' st k => let ⟨⟨old, he⟩, hi, hne⟩ := st; ⟨⟨old, k e (by simp) _ he⟩, hi.at fun o q => k it (by simp) o q, hne⟩
  item := by
    intro X hP hw hK hc i pins s σ H E I hf st hg
    subst hP hw hK
    obtain ⟨⟨old, he⟩, hit, hne, hia, hea⟩ := st
    obtain ⟨xs, x, hq, hx⟩ := hg
    obtain ⟨its, rv, p, hz⟩ := I.tuple hq
    obtain ⟨u, hu, ru⟩ := rv.get hx
    have hel : e < s.heap.objs.size := Heap.lt_size he
    have hil : it < s.heap.objs.size := by obtain ⟨_, q, _⟩ := hit; exact Heap.lt_size q
    have hlt : i < its.toArray.size := by
      have := (List.getElem?_eq_some_iff.mp hu).1
      simpa using this
    refine wpAny_pyNext_enum_itemD (GLE.draws_tup (A := X.A.in1) (I.ok.hd hc) it a its.toArray hia) he ⟨hit, p⟩ hlt hne (by simp [hne, hea]) fun u' h' tk hPx ho hit' hT hsz hk => ?_
    have eu : u' = u := by
      have h1 : its[i]? = some u' := by simpa using hPx
      rw [hu] at h1
      exact (Option.some.inj h1).symm
    subst eu
    refine ⟨_, rfl, wpAny_letOwnedTupleGo_enum (s := { s with heap := h', toks := tk + 1 }) ho fun h'' he' sb => ?_⟩
    have hT2 : h''.get? s.heap.objs.size = some { cls := .type "tuple", data := .seq #[.int i tk, u'] } := (sb.2 _ (Nat.ne_of_gt hel)).trans hT
    have new : ObjOk X.prog X.w (upd H s.heap.objs.size (.tup [.int (i : Nat), x])) h'' s.heap.objs.size (.tup [.int (i : Nat), x]) :=
      ⟨by show 2 ≤ sizeLine; decide, [.int i tk, u'], .cons ⟨_, rfl⟩ (.cons ru .nil), ⟨_, hT2, rfl, _, rfl⟩⟩
    have I1 : Inv X pins σ (upd H s.heap.objs.size (.tup [.int (i : Nat), x])) { s with heap := h'', toks := tk + 1 } :=
      I.turnedNew (ch := [e, it]) (fun b ob hb q => (sb.2 b (fun z => hb (by simp [z]))).trans (hk b ob (fun z => hb (by simp [z])) (fun z => hb (by simp [z])) q)) hf (Nat.le_refl _) new
    refine ⟨.ref s.heap.objs.size, _, I1, rfl, ⟨_, x, rfl, I.hok.fresh (Nat.le_refl _), rfl, fun ys hy => by rw [I.tuple_inj hy hq]; exact hx⟩, ⟨⟨u', ?_⟩, hit'.1.at fun o q => (sb.2 it (Ne.symm hne)).trans q, hne, hia, hea⟩, fun b hb => ?_⟩
    · have e1 : ((i + 1 : Nat) : Int) = (i : Int) + 1 := by omega
      rw [e1]; exact he'
    · have hb' : b < s.heap.objs.size := by
        have e' : b = e ∨ b = it := by simpa using hb
        rcases e' with z | z
        · rw [z]; exact hel
        · rw [z]; exact hil
      rw [upd_ne (Nat.ne_of_lt hb')]
      exact (hf b hb).1
  done := by
    intro X hP hw hK hc i pins s σ H E I hf st hg
    subst hP hw hK
    obtain ⟨⟨old, he⟩, hit, hne, hia, hea⟩ := st
    obtain ⟨xs, hq, hx⟩ := hg
    obtain ⟨its, rv, p, hz⟩ := I.tuple hq
    obtain ⟨f0, f1, f2, f3, f4, f5⟩ := hf it (by simp)
    have hl := rv.length
    have hi : i = its.toArray.size := by simp; omega
    refine wpAny_pyNext_enum_endD (GLE.draws_tup (A := X.A.in1) (I.ok.hd hc) it a its.toArray hia) he (by rw [← hi]; exact ⟨hit, p⟩) fun h' eb => ⟨rfl, I.turned (t' := s.toks) (fun b o hb q => eb b o hb q) f0 f1 f3 f4 f5⟩
  self := fun A i s Q E st h => let ⟨⟨_, he⟩, _⟩ := st; wpAny_pyIter_enum he h
def iEnumT (K : PySem.W.Frag) (ta : TA) : TI := fun σ H R => ta σ H fun vs H1 => ∃ a xs, vs = [.ref a] ∧ SqT K H1 a xs ∧ R (IteT K a) H1
theorem pi_enumT {X : Cx} {e : Expr} {ta : TA} {p pos tpos : Pos} {elts : List Expr} {kk : Nat} (hg : Gl X "enumerate") (hm : X.mg "enumerate" = none) (ha : PA X [e] ta) (hs : starEach [e] X.env = [(false, eval e X.env)] := by rfl) :
    PI X (.Tuple elts kk tpos) (.Call (.Name "enumerate" p) [e] [] pos) (iEnumT X.K ta) := by
  refine ⟨fun pins s σ H R I h => ?_⟩
  refine Call_ (ld_blt I hg hm boot_enumerate (PyProof.Rows.callWith_type1 (thn (ha.run pos pins s σ H _ I h) fun us s1 ⟨vs, H1, I1, r1, q1⟩ => ?_) hs rfl))
  obtain ⟨a, xs, ex, hq, q⟩ := q1
  subst ex
  cases r1 with
  | cons r rr =>
    cases rr
    cases r
    obtain ⟨its, rv, p', hz⟩ := I1.tuple hq
    have p2 := p'
    have hal : a < s1.heap.objs.size := by obtain ⟨o, ho, _⟩ := p2; exact Heap.lt_size ho
    refine GLE.call_enumerate_tup p' fun h' he hit hsz hk => wpAny_pyIter_enum he ?_
    have I2 : Inv X pins σ H1 { s1 with heap := h' } := I1.kept (t' := s1.toks) hk
    refine ⟨s1.heap.objs.size + 1, [s1.heap.objs.size + 1, s1.heap.objs.size], _, _, H1, rfl, I2, turn_enumT a (s1.heap.objs.size + 1) s1.heap.objs.size, ⟨⟨.none, he⟩, hit, Nat.succ_ne_self _, Nat.ne_of_gt hal, Nat.ne_of_gt (Nat.lt_succ_of_lt hal)⟩, fun b hb => ?_, q⟩
    have e' : b = s1.heap.objs.size + 1 ∨ b = s1.heap.objs.size := by simpa using hb
    have hle : s1.heap.objs.size ≤ b := by
      rcases e' with z | z <;> rw [z] <;> omega
    exact I1.fpOk hle (I1.hok.fresh hle)
end L2
end
section
set_option Elab.async false
set_option linter.all false
set_option maxRecDepth 100000
/-! zip of two lists or tuples, of either kind. -/
namespace GLE
open PySem
open Sem (wp)
/-- the iterator of a list (false), of a tuple (true) -/
def itn (k : Bool) : String := if k then "tuple_iterator" else "list_iterator"
def IsSq (k : Bool) (h : Heap) (l : Addr) (xs : Array Value) : Prop := if k then h.IsTuple l xs else h.IsList l xs
def IsIt (k : Bool) (h : Heap) (it l : Addr) (i : Nat) : Prop := if k then h.IsTupleIter it l i else h.IsListIter it l i
abbrev zH1 (k1 : Bool) (h : Heap) (l1 : Addr) : Heap := h.push { cls := .type (itn k1), data := .fields #[.ref l1, .int 0 0] }
abbrev zH2 (k1 k2 : Bool) (h : Heap) (l1 l2 : Addr) : Heap := (zH1 k1 h l1).push { cls := .type (itn k2), data := .fields #[.ref l2, .int 0 0] }
abbrev zH3 (k1 k2 : Bool) (h : Heap) (l1 l2 : Addr) : Heap := (zH2 k1 k2 h l1 l2).push { cls := .type "tuple", data := .seq #[.ref h.objs.size, .ref (zH1 k1 h l1).objs.size] }
abbrev zH4 (k1 k2 : Bool) (h : Heap) (l1 l2 : Addr) : Heap := (zH3 k1 k2 h l1 l2).push { cls := .type "tuple", data := .seq #[.none, .none] }
abbrev zH5 (k1 k2 : Bool) (h : Heap) (l1 l2 : Addr) : Heap := (zH4 k1 k2 h l1 l2).push { cls := .type "zip", data := .fields #[.none, .bool false, .bool false, .ref (zH2 k1 k2 h l1 l2).objs.size, .ref (zH3 k1 k2 h l1 l2).objs.size] }
theorem isSq_push {k : Bool} {h : Heap} {l : Addr} {xs : Array Value} (x : IsSq k h l xs) (o : Obj) : IsSq k (h.push o) l xs := by
  cases k with
  | true => exact Heap.IsTuple.push x o
  | false =>
    obtain ⟨o', e, r⟩ := x
    exact ⟨o', Heap.get?_push_of_some _ e, r⟩
theorem pyIter_sq {prog : Program} {w : World} {A : Around} {E : Value → Shared → Prop} {s : Shared} {k : Bool} {l : Addr} {xs : Array Value} {Q : Value → Shared → Prop} (hl : IsSq k s.heap l xs)
    (hQ : Q (.ref s.heap.objs.size) { s with heap := s.heap.push { cls := .type (itn k), data := .fields #[.ref l, .int 0 0] } }) : wpAny (model prog w) A (pyIter (.ref l)) Q E s := by
  cases k with
  | true => exact wpAny_pyIter_tuple hl hQ
  | false => exact wpAny_pyIter_list hl hQ
theorem meets_zip_new (k1 k2 : Bool) (l1 l2 : Addr) (xs ys : Array Value) :
    Meets (Builtin.«zip.__new__» ⟨[.type "zip", .ref l1, .ref l2], []⟩) (fun _ R s => IsSq k1 s.heap l1 xs ∧ IsSq k2 s.heap l2 ys ∧
      R (.ok (.ret (.ref (zH4 k1 k2 s.heap l1 l2).objs.size))) { s with heap := zH5 k1 k2 s.heap l1 l2 }) :=
  .of_wp fun prog w A R s h => by
    obtain ⟨hp, g, d, tk, os⟩ := s; obtain ⟨hl1, hl2, h⟩ := h
    have hsub := sub_zip
    have hL1 : IsSq k1 (Shared.heap ⟨hp, g, d, tk, os⟩) l1 xs := hl1
    have hL2 : IsSq k2 (Shared.heap ⟨hp.push { cls := .type (itn k1), data := .fields #[.ref l1, .int 0 0] }, g, d, tk, os⟩) l2 ys := isSq_push hl2 _
    wp_walk using pyIter_sq hL1, pyIter_sq hL2
    exact ⟨_, rfl, h⟩
section
variable {prog : Program} {w : World} {A : Around} {E : Value → Shared → Prop} {s : Shared}
theorem call_zip {k1 k2 : Bool} {l1 l2 : Addr} {xs ys : Array Value} {Q : Value → Shared → Prop} (hl1 : IsSq k1 s.heap l1 xs) (hl2 : IsSq k2 s.heap l2 ys)
    (h : ∀ h', IsZip h' (s.heap.objs.size + 4) (s.heap.objs.size + 2) (s.heap.objs.size + 3) .none → IsPair h' (s.heap.objs.size + 2) (.ref s.heap.objs.size) (.ref (s.heap.objs.size + 1)) →
      IsPair h' (s.heap.objs.size + 3) .none .none → IsIt k1 h' s.heap.objs.size l1 0 → IsIt k2 h' (s.heap.objs.size + 1) l2 0 → h'.objs.size = s.heap.objs.size + 5 →
      (∀ c o, s.heap.get? c = some o → h'.get? c = some o) → Q (.ref (s.heap.objs.size + 4)) { s with heap := h' }) :
    wpAny (model prog w) A (call (.type "zip") [.ref l1, .ref l2]) Q E s := by
  refine callType_new F.called_zip (by decide) (F.typeCall_zip_2 _ _) (F.newCall_zip_2 _ _) (fun obj => F.args_object_init_3 obj _ _) F.entry_zip_new
    (meets_zip_new k1 k2 l1 l2 xs ys) ⟨hl1, hl2, ?_⟩
  have z1 : (zH1 k1 s.heap l1).objs.size = s.heap.objs.size + 1 := Heap.size_push ..
  have z2 : (zH2 k1 k2 s.heap l1 l2).objs.size = s.heap.objs.size + 2 := by rw [Heap.size_push, z1]
  have z3 : (zH3 k1 k2 s.heap l1 l2).objs.size = s.heap.objs.size + 3 := by rw [Heap.size_push, z2]
  have z4 : (zH4 k1 k2 s.heap l1 l2).objs.size = s.heap.objs.size + 4 := by rw [Heap.size_push, z3]
  have z5 : (zH5 k1 k2 s.heap l1 l2).objs.size = s.heap.objs.size + 5 := by rw [Heap.size_push, z4]
  have g5 : (zH5 k1 k2 s.heap l1 l2).get? (zH4 k1 k2 s.heap l1 l2).objs.size = some _ := Heap.get?_push_size _ rfl
  have g4 : (zH5 k1 k2 s.heap l1 l2).get? (zH3 k1 k2 s.heap l1 l2).objs.size = some _ := Heap.get?_push_of_some _ (Heap.get?_push_size _ rfl)
  have g3 : (zH5 k1 k2 s.heap l1 l2).get? (zH2 k1 k2 s.heap l1 l2).objs.size = some _ := Heap.get?_push_of_some _ (Heap.get?_push_of_some _ (Heap.get?_push_size _ rfl))
  have g2 : (zH5 k1 k2 s.heap l1 l2).get? (zH1 k1 s.heap l1).objs.size = some _ := Heap.get?_push_of_some _ (Heap.get?_push_of_some _ (Heap.get?_push_of_some _ (Heap.get?_push_size _ rfl)))
  have g1 : (zH5 k1 k2 s.heap l1 l2).get? s.heap.objs.size = some _ := Heap.get?_push_of_some _ (Heap.get?_push_of_some _ (Heap.get?_push_of_some _ (Heap.get?_push_of_some _ (Heap.get?_push_size _ rfl))))
  show _ ∧ _
  rw [z2, z3, z4] at g5
  rw [z1, z2] at g3
  rw [z3] at g4
  rw [z1] at g2
  rw [z4]
  refine ⟨⟨_, g5, rfl⟩, h _ g5 g3 g4 ?_ ?_ z5 fun c o x =>
    Heap.get?_push_of_some _ (Heap.get?_push_of_some _ (Heap.get?_push_of_some _ (Heap.get?_push_of_some _ (Heap.get?_push_of_some _ x))))⟩
  · cases k1 <;> exact ⟨_, g1, rfl, rfl⟩
  · cases k2 <;> exact ⟨_, g2, rfl, rfl⟩
theorem isIt_at {k : Bool} {h h' : Heap} {it l : Addr} {i : Nat} (x : IsIt k h it l i) (e : ∀ o, h.get? it = some o → h'.get? it = some o) : IsIt k h' it l i := by
  cases k with
  | true => exact Heap.IsTupleIter.at x e
  | false => exact Heap.IsListIter.at x e
theorem isIt_obj {k : Bool} {h : Heap} {it l : Addr} {i : Nat} (x : IsIt k h it l i) : ∃ o d, h.get? it = some o ∧ o.data = .fields d := by
  cases k with
  | true => obtain ⟨o, e, _, d⟩ := x; exact ⟨o, _, e, d⟩
  | false => obtain ⟨o, e, _, d⟩ := x; exact ⟨o, _, e, d⟩
theorem isSq_at {k : Bool} {h h' : Heap} {l : Addr} {xs : Array Value} (x : IsSq k h l xs) (e : ∀ o, h.get? l = some o → h'.get? l = some o) : IsSq k h' l xs := by
  cases k with
  | true => obtain ⟨o, q, r⟩ := x; exact ⟨o, e o q, r⟩
  | false => obtain ⟨o, q, r⟩ := x; exact ⟨o, e o q, r⟩
theorem draws_sq (hh : A.handled = none) (k : Bool) (it t : Addr) (items : Array Value) (hne : it ≠ t) : Draws prog w A it [it, t] items.size (fun i x => items[i]? = some x) (fun i h => IsIt k h it t i ∧ IsSq k h t items) where
  live := fun i h st => let ⟨o, _, e, _⟩ := isIt_obj st.1; ⟨o, e⟩
  frame := fun i h h' st q => ⟨isIt_at st.1 fun o e => q it (by simp) o e, isSq_at st.2 fun o e => q t (by simp) o e⟩
  item := fun i s Q E hi st hQ => by
    have hx : items[i]? = some items[i] := by simp [hi]
    cases k with
    | true => exact RZ.nextOf_tuple_item st.1 st.2 hx fun h' st' sb => hQ items[i] h' s.toks hx ⟨st', isSq_at st.2 fun o e => (sb.2 t (Ne.symm hne)).trans e⟩ sb
    | false => exact wpAny_nextOf_list_item st.1 st.2 hx fun h' st' sb => hQ items[i] h' s.toks hx ⟨st', isSq_at st.2 fun o e => (sb.2 t (Ne.symm hne)).trans e⟩ sb
  done := fun s Q E st hE => by
    cases k with
    | true => exact RZ.nextOf_tuple_end hh st.1 st.2 (by simp) hE
    | false => exact wpAny_nextOf_list_end hh st.1 st.2 (by simp) hE
end
end GLE
namespace L2
open PySem PySem.Spec PyProof.Rows
def SqK (k : Bool) (K : PySem.W.Frag) (H : Hp) (a : Addr) (xs : List V) : Prop := if k then SqT K H a xs else SqL K H a xs
theorem Inv.sqK {X : Cx} {pins : List (Addr × Obj)} {σ : L2.St} {H : Hp} {s : Shared} {k : Bool} {a : Addr} {xs : List V} (I : Inv X pins σ H s) (h : SqK k X.K H a xs) : ∃ its, Vals xs its ∧ GLE.IsSq k s.heap a its.toArray ∧ a < s.heap.objs.size := by
  cases k with
  | true =>
    obtain ⟨its, rv, p, _⟩ := I.tuple h
    have p2 := p
    obtain ⟨o, ho, _⟩ := p2
    exact ⟨its, rv, p, Heap.lt_size ho⟩
  | false =>
    obtain ⟨its, rv, p, _⟩ := I.list h
    exact ⟨its, rv, p.isList, p.lt⟩
theorem Inv.sqK_inj {X : Cx} {pins : List (Addr × Obj)} {σ : L2.St} {H : Hp} {s : Shared} {k : Bool} {a : Addr} {xs ys : List V} (I : Inv X pins σ H s) (h : SqK k X.K H a xs) (h' : SqK k X.K H a ys) : xs = ys := by
  cases k with
  | true => exact I.tuple_inj h h'
  | false => exact I.list_inj h h'
def ItzK (k1 k2 : Bool) (K : PySem.W.Frag) (a b : Addr) : It :=
  ⟨fun i H => ∃ (xs ys : List V) (x y : V), SqK k1 K H a xs ∧ SqK k2 K H b ys ∧ xs[i]? = some x ∧ ys[i]? = some y,
    fun i H v H' => ∃ T x y, v = .ref T ∧ H T = none ∧ H' = upd H T (.tup [x, y]) ∧ (∀ xs, SqK k1 K H a xs → xs[i]? = some x) ∧ ∀ ys, SqK k2 K H b ys → ys[i]? = some y,
    fun i H => ∃ xs ys : List V, SqK k1 K H a xs ∧ SqK k2 K H b ys ∧ i ≤ xs.length ∧ i ≤ ys.length ∧ (i = xs.length ∨ i = ys.length)⟩
theorem sep_of {a b z TI TO i1 i2 : Addr} (D : ZipApart z TI TO i1 i2 a b) : ZipSep2 z TI TO i1 i2 [i1, a] [i2, b] := by
  constructor <;> first | exact D.TIz | exact D.TOz | exact D.TITO | exact D.TIi1 | exact D.TIi2 | (simp [D.i1z.symm, D.i2z.symm, D.l1z.symm, D.l2z.symm, D.TOi1, D.TOi2, D.l1TO.symm, D.l2TO.symm, D.i12, D.i12.symm, D.l1i2.symm, D.l2i1.symm]; done)
theorem turn_zipK {P : Program} {w : World} {K : PySem.W.Frag} {k1 k2 : Bool} {elts : List Expr} {kk : Nat} {tpos : Pos} {a b z TI TO i1 i2 : Addr} (D : ZipApart z TI TO i1 i2 a b) :
    Turn P w K (.Tuple elts kk tpos) (ItzK k1 k2 K a b) [z, TI, TO, i1, i2] z (fun i h => IsZip h z TI TO .none ∧ IsPair h TI (.ref i1) (.ref i2) ∧ (∃ x y, IsPair h TO x y) ∧ GLE.IsIt k1 h i1 a i ∧ GLE.IsIt k2 h i2 b i) where
  mem := by simp
  obj := fun i h st c hc => by
    obtain ⟨hz, hTI, ⟨x, y, hTO⟩, h1, h2⟩ := st
    obtain ⟨o1, dd1, e1, d1⟩ := GLE.isIt_obj h1
    obtain ⟨o2, dd2, e2, d2⟩ := GLE.isIt_obj h2
    have e' : c = z ∨ c = TI ∨ c = TO ∨ c = i1 ∨ c = i2 := by simpa using hc
    rcases e' with q | q | q | q | q
    · rw [q]; exact ⟨_, hz, fun v q => nomatch q⟩
    · rw [q]; exact ⟨_, hTI, fun v q => nomatch q⟩
    · rw [q]; exact ⟨_, hTO, fun v q => nomatch q⟩
    · rw [q]; exact ⟨o1, e1, fun v q => by rw [d1] at q; cases q⟩
    · rw [q]; exact ⟨o2, e2, fun v q => by rw [d2] at q; cases q⟩
  keep := fun i h h' st k => by
    obtain ⟨hz, hTI, ⟨x, y, hTO⟩, h1, h2⟩ := st
    exact ⟨k z (by simp) _ hz, k TI (by simp) _ hTI, ⟨x, y, k TO (by simp) _ hTO⟩, GLE.isIt_at h1 fun o q => k i1 (by simp) o q, GLE.isIt_at h2 fun o q => k i2 (by simp) o q⟩
  item := by
    intro X hP hw hK hc i pins s σ H E I hf st hg
    subst hP hw hK
    obtain ⟨hz, hTI, ⟨x0, y0, hTO⟩, h1, h2⟩ := st
    obtain ⟨xs, ys, x, y, hqx, hqy, hx, hy⟩ := hg
    obtain ⟨its, rv, p, la⟩ := I.sqK hqx
    obtain ⟨its2, rv2, p2, lb⟩ := I.sqK hqy
    obtain ⟨u, hu, ru⟩ := rv.get hx
    obtain ⟨u2, hu2, ru2⟩ := rv2.get hy
    have hzl : z < s.heap.objs.size := Heap.lt_size hz
    have lt1 : i < its.toArray.size := by simpa using (List.getElem?_eq_some_iff.mp hu).1
    have lt2 : i < its2.toArray.size := by simpa using (List.getElem?_eq_some_iff.mp hu2).1
    refine wpAny_pyNext_zipD2_item (sep_of D) (GLE.draws_sq (A := X.A.in1) (I.ok.hd hc) k1 i1 a its.toArray (Ne.symm D.l1i1)) (GLE.draws_sq (A := X.A.in1) (I.ok.hd hc) k2 i2 b its2.toArray (Ne.symm D.l2i2)) hz hTI hTO ⟨h1, p⟩ ⟨h2, p2⟩ lt1 lt2 fun w1 w2 h' tk q1 q2 z' TO' h1' h2' hT hsz hk => ?_
    have ew1 : w1 = u := by
      have q : its[i]? = some w1 := by simpa using q1
      rw [hu] at q
      exact (Option.some.inj q).symm
    have ew2 : w2 = u2 := by
      have q : its2[i]? = some w2 := by simpa using q2
      rw [hu2] at q
      exact (Option.some.inj q).symm
    subst ew1 ew2
    refine ⟨_, rfl, wpAny_letOwnedTupleGo_zip (s := { s with heap := h', toks := tk }) z' fun h'' z'' sb => ?_⟩
    have hT2 : h''.get? s.heap.objs.size = some { cls := .type "tuple", data := .seq #[w1, w2] } := (sb.2 _ (Nat.ne_of_gt hzl)).trans hT
    have new : ObjOk X.prog X.w (upd H s.heap.objs.size (.tup [x, y])) h'' s.heap.objs.size (.tup [x, y]) :=
      ⟨by show 2 ≤ sizeLine; decide, [w1, w2], .cons ru (.cons ru2 .nil), ⟨_, hT2, rfl, _, rfl⟩⟩
    have I1 : Inv X pins σ (upd H s.heap.objs.size (.tup [x, y])) { s with heap := h'', toks := tk } :=
      I.turnedNew (t' := tk) (ch := [z, TI, TO, i1, i2]) (fun c o hb q => (sb.2 c (fun q' => hb (by simp [q']))).trans (hk c o (fun q' => hb (by simp [q'])) (fun q' => hb (by simp [q'])) (fun q' => hb (by simp [q'])) (fun q' => hb (by simp [q'])) q)) hf (Nat.le_refl _) new
    refine ⟨.ref s.heap.objs.size, _, I1, rfl, ⟨_, x, y, rfl, I.hok.fresh (Nat.le_refl _), rfl, fun l hl => by rw [I.sqK_inj hl hqx]; exact hx, fun l hl => by rw [I.sqK_inj hl hqy]; exact hy⟩, ⟨z'', ?_, ⟨w1, w2, ?_⟩, ?_, ?_⟩, fun c hcm => ?_⟩
    · exact (sb.2 _ D.TIz).trans (hk _ _ D.TIz D.TITO D.TIi1 D.TIi2 hTI)
    · exact (sb.2 _ D.TOz).trans TO'
    · exact GLE.isIt_at h1'.1 fun o q => (sb.2 _ D.i1z).trans q
    · exact GLE.isIt_at h2'.1 fun o q => (sb.2 _ D.i2z).trans q
    · have hlt : c < s.heap.objs.size := by
        have e' : c = z ∨ c = TI ∨ c = TO ∨ c = i1 ∨ c = i2 := by simpa using hcm
        rcases e' with q | q | q | q | q
        · rw [q]; exact hzl
        · rw [q]; exact Heap.lt_size hTI
        · rw [q]; exact Heap.lt_size hTO
        · rw [q]; obtain ⟨_, _, e1, _⟩ := GLE.isIt_obj h1; exact Heap.lt_size e1
        · rw [q]; obtain ⟨_, _, e2, _⟩ := GLE.isIt_obj h2; exact Heap.lt_size e2
      rw [upd_ne (Nat.ne_of_lt hlt)]
      exact (hf c hcm).1
  done := by
    intro X hP hw hK hc i pins s σ H E I hf st hg
    subst hP hw hK
    obtain ⟨hz, hTI, ⟨x0, y0, hTO⟩, h1, h2⟩ := st
    obtain ⟨xs, ys, hqx, hqy, l1, l2, hend⟩ := hg
    obtain ⟨its, rv, p, la⟩ := I.sqK hqx
    obtain ⟨its2, rv2, p2, lb⟩ := I.sqK hqy
    have e1 := rv.length
    have e2 := rv2.length
    exact wpAny_pyNext_zipD2_end (sep_of D) (GLE.draws_sq (A := X.A.in1) (I.ok.hd hc) k1 i1 a its.toArray (Ne.symm D.l1i1)) (GLE.draws_sq (A := X.A.in1) (I.ok.hd hc) k2 i2 b its2.toArray (Ne.symm D.l2i2)) hz hTI hTO ⟨h1, p⟩ ⟨h2, p2⟩
      (by simp; omega) (by simp; omega) (by simp; omega) fun h' tk hk => ⟨rfl, I.turnedL (t' := tk) (ch := [z, TI, TO, i1, i2]) (fun c o hb q =>
      hk c o (fun q' => hb (by simp [q'])) (fun q' => hb (by simp [q'])) (fun q' => hb (by simp [q'])) (fun q' => hb (by simp [q'])) q) hf⟩
  self := fun A i s Q E st h => wpAny_pyIter_zip st.1 h
def iZipK (k1 k2 : Bool) (K : PySem.W.Frag) (ta : TA) : TI := fun σ H R => ta σ H fun vs H1 => ∃ a b xs ys, vs = [.ref a, .ref b] ∧ SqK k1 K H1 a xs ∧ SqK k2 K H1 b ys ∧ R (ItzK k1 k2 K a b) H1
theorem pi_zipK {k1 k2 : Bool} {X : Cx} {e e2 : Expr} {ta : TA} {p pos tpos : Pos} {elts : List Expr} {kk : Nat} (hg : Gl X "zip") (hm : X.mg "zip" = none) (ha : PA X [e, e2] ta)
    (hs : starEach [e, e2] X.env = (false, eval e X.env) :: starEach [e2] X.env := by rfl) (hpl : (backTo pos (starEach [e2] X.env)).any (·.1) = false := by rfl) :
    PI X (.Tuple elts kk tpos) (.Call (.Name "zip" p) [e, e2] [] pos) (iZipK k1 k2 X.K ta) := by
  refine ⟨fun pins s σ H R I h => ?_⟩
  refine Call_ (ld_blt I hg hm PyProof.Rows.boot_zip (PyProof.Rows.callWith_type1 (thn (ha.run pos pins s σ H _ I h) fun us s1 ⟨vs, H1, I1, r1, q1⟩ => ?_) hs hpl))
  obtain ⟨a, b, xs, ys, ex, hqx, hqy, q⟩ := q1
  subst ex
  cases r1 with
  | cons r rr =>
    cases rr with
    | cons r' rr =>
      cases rr
      cases r
      cases r'
      have fresh5 : ∀ c, c ∈ [s1.heap.objs.size + 4, s1.heap.objs.size + 2, s1.heap.objs.size + 3, s1.heap.objs.size, s1.heap.objs.size + 1] → FpOk X pins H1 c := fun c hcm => by
        have e' : c = s1.heap.objs.size + 4 ∨ c = s1.heap.objs.size + 2 ∨ c = s1.heap.objs.size + 3 ∨ c = s1.heap.objs.size ∨ c = s1.heap.objs.size + 1 := by simpa using hcm
        have hle : s1.heap.objs.size ≤ c := by
          rcases e' with z | z | z | z | z
          · rw [z]; exact Nat.le_add_right _ _
          · rw [z]; exact Nat.le_add_right _ _
          · rw [z]; exact Nat.le_add_right _ _
          · rw [z]; exact Nat.le_refl _
          · rw [z]; exact Nat.le_add_right _ _
        exact I1.fpOk hle (I1.hok.fresh hle)
      obtain ⟨its, rv, p1, la⟩ := I1.sqK hqx
      obtain ⟨its2, rv2, p2, lb⟩ := I1.sqK hqy
      refine GLE.call_zip p1 p2 fun h' hz hTI hTO h1 h2 hsz hk => wpAny_pyIter_zip hz ?_
      have I2 : Inv X pins σ H1 { s1 with heap := h' } := I1.kept (t' := s1.toks) hk
      exact ⟨s1.heap.objs.size + 4, [s1.heap.objs.size + 4, s1.heap.objs.size + 2, s1.heap.objs.size + 3, s1.heap.objs.size, s1.heap.objs.size + 1], _, _, H1, rfl, I2, turn_zipK (PySem.W.ktu_apart s1.heap.objs.size a b la lb), ⟨hz, hTI, ⟨_, _, hTO⟩, h1, h2⟩, fresh5, q⟩
end L2
end
section
/-! The pure side: data, store, core programs, their interpreter. -/
namespace GL
open PySem (Str)

/-- keys of dicts -/
inductive DK where
  | i (n : Int) | s (x : List Nat)
  deriving DecidableEq

inductive DV where
  | non | bl (b : Bool) | int (i : Int) | str (x : List Nat)
  | tup (xs : List DV) | lst (xs : List DV)
  | dct (ks : List DK) (vs : List DV)
  | obj (c : Nat) (ns : List Str) (vs : List DV)
  | exn (c : Nat) (ns : List Str) (vs : List DV)
  | loc (n : Nat)
  /-- the script's list -/
  | scr (xs : List DV)
  deriving Inhabited

/-- objects that may change: shared ones (in the store), owned ones (in a slot) -/
inductive OV where
  | lst (xs : List DV) | dct (ks : List DK) (vs : List DV) | obj (c : Nat) (ns : List Str) (vs : List DV)
  deriving Inhabited
abbrev Sto := List OV
inductive Slot where
  | no | val (d : DV) | own (o : OV)
  deriving Inhabited
abbrev Env := List Slot

inductive Rs (α : Type) where
  | ok (a : α) (S : Sto) | ex (x : DV) (S : Sto) | bad
abbrev M (α : Type) := Sto → Rs α
@[inline] def M.pure {α : Type} (a : α) : M α := fun S => .ok a S
@[inline] def M.bind {α β : Type} (m : M α) (k : α → M β) : M β := fun S => match m S with
  | .ok a S' => k a S'
  | .ex x S' => .ex x S'
  | .bad => .bad
instance : Monad M where
  pure := M.pure
  bind := M.bind
def M.fail {α : Type} : M α := fun _ => .bad
def M.opt {α : Type} : Option α → M α
  | some a => M.pure a
  | none => M.fail
def M.chk (b : Bool) : M Unit := if b then M.pure () else M.fail
/-- nothing is raised here -/
def M.nox {α : Type} (m : M α) : M α := fun S => match m S with
  | .ok a S' => .ok a S'
  | _ => .bad

def LIM : Nat := 16777216

/-! ### data -/
mutual
def eqv : DV → DV → Bool
  | .non, .non => true
  | .bl a, .bl b => a == b
  | .bl a, .int j => (if a then 1 else 0) == j
  | .int i, .bl b => i == (if b then 1 else 0)
  | .int i, .int j => i == j
  | .str x, .str y => x == y
  | .tup xs, .tup ys => eqvs xs ys
  | .lst xs, .lst ys => eqvs xs ys
  | _, _ => false
def eqvs : List DV → List DV → Bool
  | [], [] => true
  | x :: xs, y :: ys => eqv x y && eqvs xs ys
  | _, _ => false
end
def mapO {α β : Type} (f : α → Option β) : List α → Option (List β)
  | [] => some []
  | x :: xs => match f x with
    | none => none
    | some y => match mapO f xs with
      | none => none
      | some ys => some (y :: ys)
/-- what a value reads as: shared lists put in; None for dicts, instances, exceptions -/
def rsv (S : Sto) : Nat → DV → Option DV
  | 0, _ => none
  | n + 1, d => match d with
    | .non => some .non
    | .bl b => some (.bl b)
    | .int i => some (.int i)
    | .str x => some (.str x)
    | .tup xs => (mapO (rsv S n) xs).map .tup
    | .lst xs => (mapO (rsv S n) xs).map .lst
    | .loc k => match S[k]? with
      | some (.lst xs) => (mapO (rsv S n) xs).map .lst
      | _ => none
    | _ => none
def FU : Nat := 60

/-- the order of texts -/
def ltS : List Nat → List Nat → Bool
  | _, [] => false
  | [], _ :: _ => true
  | x :: xs, y :: ys => if x = y then ltS xs ys else decide (x < y)
def ixO (n : Nat) (i : Int) : Option Nat :=
  if 0 ≤ i then (if i < n then some i.toNat else none) else (if 0 ≤ i + n then some (i + n).toNat else none)
def atO {α : Type} (xs : List α) (i : Int) : Option α := (ixO xs.length i).bind fun j => xs[j]?
/-- a slice's end -/
def cutE (n d : Nat) : Option Int → Nat
  | none => d
  | some i => if i < 0 then (if i + n < 0 then 0 else (i + n).toNat) else min i.toNat n
def cut {α : Type} (xs : List α) (lo hi : Option Int) : List α :=
  (xs.drop (cutE xs.length 0 lo)).take (cutE xs.length xs.length hi - cutE xs.length 0 lo)
def keyOf : DV → Option DK
  | .int i => some (.i i)
  | .str x => some (.s x)
  | _ => none
def ofKey : DK → DV
  | .i n => .int n
  | .s x => .str x
def dget : List DK → List DV → DK → Option DV
  | k :: ks, v :: vs, q => if k = q then some v else dget ks vs q
  | _, _, _ => none
def dputK (ks : List DK) (q : DK) : List DK := if q ∈ ks then ks else ks ++ [q]
def dputV : List DK → List DV → DK → DV → List DV
  | k :: ks, v :: vs, q, x => if k = q then x :: vs else v :: dputV ks vs q x
  | _, vs, _, x => vs ++ [x]
def fget : List Str → List DV → Str → Option DV
  | k :: ks, v :: vs, q => if k = q then some v else fget ks vs q
  | _, _, _ => none
def fputK (ks : List Str) (q : Str) : List Str := if q ∈ ks then ks else ks ++ [q]
def fputV : List Str → List DV → Str → DV → List DV
  | k :: ks, v :: vs, q, x => if k = q then x :: vs else v :: fputV ks vs q x
  | _, vs, _, x => vs ++ [x]

/-! ### the core language -/
inductive Bop where | add | sub | mul | fdiv | mod | pow
  deriving DecidableEq
inductive Cop where | eq | ne | lt | le | gt | ge | is | isnot | isin | notin
  deriving DecidableEq
inductive Bi where | len | abs | int | str | sum | all | any | max | min | sorted | list | tuple | dict
  deriving DecidableEq
inductive Bm where | get | index | count | join
  deriving DecidableEq
inductive Ty where | int | bool | str | tuple | list | cls (c : Nat) | value | lookup | key | index
  deriving DecidableEq
inductive CT where | nm (i : Nat) | tp (ts : List CT)

mutual
inductive CE where
  | var (i : Nat) | pkx (i : Nat) (k : CE) | pkl (i : Nat) | pkf (i : Nat) (f : Str)
  | int (i : Int) | bl (b : Bool) | non | str (x : List Nat) | gl (k : Nat)
  | bin (op : Bop) (a b : CE) | neg (a : CE) | cmp (op : Cop) (a b : CE) | cmp2 (o1 o2 : Cop) (a b c : CE)
  | not (a : CE) | and (a b : CE) | or (a b : CE) | ite (c a b : CE)
  | tup (es : CEs) | lst (es : CEs)
  | ix (a i : CE) | sl (a : CE) (lo hi : CEo) | rev (a : CE)
  | fld (a : CE) (f : Str) | xfld (a : CE) (f : Str) | prop (a : CE) (f : Str)
  | call (f : Nat) (es : CEs) | callk (f : Nat) (n : Nat) (ks : List Str) (perm : List Nat) (es kes : CEs) | meth (o : CE) (m : Str) (es : CEs) | new (c : Nat) (es : CEs)
  | bi (b : Bi) (es : CEs) | bm (o : CE) (m : Bm) (es : CEs) | isi (a : CE) (ts : List Ty)
  | rng (a b : CE) (c : Int)
  | comp (elt : CE) (g : CGs) (own : List (Str × Nat))
  | dcomp (k v : CE) (g : CGs) (own : List (Str × Nat))
  | sset (a : CE) | lset (a : CE)
  /-- a new list that is shared -/
  | shr (f : CF)
  /-- what is never reached -/
  | never
/-- what makes a new list (or dict) -/
inductive CF where
  | lst (es : CEs) | bi (b : Bi) (e : CE) | add (a b : CE) | sl (a : CE) (lo hi : CEo) | rng (a b : CE) (c : Int) | or (a b : CF) | dct0
  | comp (elt : CE) (g : CGs) (own : List (Str × Nat))
inductive CEs where | nil | cons (st : Bool) (e : CE) (r : CEs)
inductive CEo where | no | so (e : CE)
inductive CI where | seq (e : CE) | rng (a b : CE) (c : Int) | enum (e : CE) | zip (a b : CE) | items (e : CE)
inductive CG where | mk (t : CT) (i : CI) (c : CEs)
inductive CGs where | one (g : CG) | two (g : CG) (r : CGs)
end

/-- the tables of a program -/
structure Tab where
  glob : Nat → DV
  /-- defaults of a def, for its last parameters -/
  dfl : Nat → List DV
  arity : Nat → Nat
  /-- parameters of an __init__, self among them -/
  iar : Nat → Nat
  meth : Nat → Str → Option Nat
  prop : Nat → Str → Option Nat
  flds : Nat → List Str
  /-- the classes of which isinstance is known -/
  cl : Nat → Bool
  /-- the exception classes: their base -/
  exb : Nat → Ty
  /-- the calls with keywords that are known to bind: how many ahead, the names, where each parameter stands among the given -/
  kb : Nat → List (Nat × List Str × List Nat)
end GL
end
section
/-! The interpreter. -/
namespace GL
open PySem (Str)

/-! ### values -/
def truth (S : Sto) : DV → Option Bool
  | .non => some false
  | .bl b => some b
  | .int i => some (i != 0)
  | .str x => some (!x.isEmpty)
  | .tup xs => some (!xs.isEmpty)
  | .lst xs => some (!xs.isEmpty)
  | .dct ks _ => some (!ks.isEmpty)
  | .loc k => match S[k]? with
    | some (.lst xs) => some (!xs.isEmpty)
    | _ => none
  | _ => none
def getS : M Sto := fun S => .ok S S
def setS (T : Sto) : M Unit := fun _ => .ok () T
/-- a list or a tuple as it lies -/
def seqOf (S : Sto) : DV → Option (List DV)
  | .tup xs => some xs
  | .lst xs => some xs
  | .scr xs => some xs
  | .loc k => match S[k]? with
    | some (.lst xs) => some xs
    | _ => none
  | _ => none
def lstOf (S : Sto) : DV → Option (List DV)
  | .lst xs => some xs
  | .scr xs => some xs
  | .loc k => match S[k]? with
    | some (.lst xs) => some xs
    | _ => none
  | _ => none
/-- a tracked list -/
def lstX (S : Sto) : DV → Option (List DV)
  | .lst xs => some xs
  | .loc k => match S[k]? with
    | some (.lst xs) => some xs
    | _ => none
  | _ => none
def intOf : DV → Option Int
  | .int i => some i
  | _ => none
def blOf : DV → Option Bool
  | .bl i => some i
  | _ => none
def strOf : DV → Option (List Nat)
  | .str i => some i
  | _ => none
/-- bounds of products: one side small, or both below 2 ^ 4000 -/
def mulOk (i j : Int) : Bool := (decide (-(2 ^ 64) < i) && decide (i < 2 ^ 64)) || (decide (-(2 ^ 64) < j) && decide (j < 2 ^ 64))
def binD (op : Bop) (a b : DV) : M DV := fun S => match op, a, b with
  | .add, .int i, .int j => .ok (.int (i + j)) S
  | .add, .str x, .str y => if x.length + y.length ≤ LIM then .ok (.str (x ++ y)) S else .bad
  | .add, .tup x, .tup y => if x.length + y.length ≤ LIM then .ok (.tup (x ++ y)) S else .bad
  | .add, .lst x, .lst y => if x.length + y.length ≤ LIM then .ok (.lst (x ++ y)) S else .bad
  | .sub, .int i, .int j => .ok (.int (i - j)) S
  | .mul, .int i, .int j => if mulOk i j then .ok (.int (i * j)) S else .bad
  | .mul, .lst x, .int j => if 0 ≤ j ∧ j ≤ 1000 ∧ x.length * j.toNat ≤ LIM then .ok (.lst (List.replicate j.toNat x).flatten) S else .bad
  | .mul, .tup x, .int j => if 2 ≤ j ∧ j ≤ 1000 ∧ x.length ≤ 1000 ∧ 0 < x.length then .ok (.tup (List.replicate j.toNat x).flatten) S else .bad
  | .fdiv, .int i, .int j => if 0 < j ∧ j < 1073741824 then .ok (.int (i / j)) S else .bad
  | .mod, .int i, .int j => if 0 < j then .ok (.int (i % j)) S else .bad
  | .pow, .int i, .int j => if 0 ≤ j ∧ j ≤ 1000000 ∧ i.natAbs < 2 ^ 64 then .ok (.int (i ^ j.toNat)) S else .bad
  | _, _, _ => .bad
def eqD (a b : DV) : M Bool := fun S => match rsv S FU a, rsv S FU b with
  | some x, some y => .ok (eqv x y) S
  | _, _ => .bad
def inD (a b : DV) : M Bool := fun S => match b with
  | .str z => match a with
    | .str [c] => .ok (decide (c ∈ z)) S
    | _ => .bad
  | .dct ks _ => match keyOf a with
    | some k => .ok (decide (k ∈ ks)) S
    | none => .bad
  | _ => match rsv S FU a, rsv S FU b with
    | some x, some (.lst ys) => .ok (ys.any fun y => eqv y x) S
    | some x, some (.tup ys) => .ok (ys.any fun y => eqv y x) S
    | _, _ => .bad
def cmpD (op : Cop) (a b : DV) : M DV := fun S => match op with
  | .eq => (eqD a b >>= fun r => pure (.bl r)) S
  | .ne => (eqD a b >>= fun r => pure (.bl (!r))) S
  | .lt => match a, b with
    | .int i, .int j => .ok (.bl (decide (i < j))) S
    | .str i, .str j => .ok (.bl (ltS i j)) S
    | _, _ => .bad
  | .le => match a, b with
    | .int i, .int j => .ok (.bl (decide (i ≤ j))) S
    | _, _ => .bad
  | .gt => match a, b with
    | .int i, .int j => .ok (.bl (decide (j < i))) S
    | _, _ => .bad
  | .ge => match a, b with
    | .int i, .int j => .ok (.bl (decide (j ≤ i))) S
    | _, _ => .bad
  | .is => match b with
    | .non => .ok (.bl (match a with | .non => true | _ => false)) S
    | _ => .bad
  | .isnot => match b with
    | .non => .ok (.bl (match a with | .non => false | _ => true)) S
    | _ => .bad
  | .isin => (inD a b >>= fun r => pure (.bl r)) S
  | .notin => (inD a b >>= fun r => pure (.bl (!r))) S
def ixD (a i : DV) : M DV := fun S => match a, i with
  | .str x, .int k => match atO x k with
    | some c => .ok (.str [c]) S
    | none => .bad
  | .dct ks vs, k => match keyOf k with
    | some q => match dget ks vs q with
      | some v => .ok v S
      | none => .bad
    | none => .bad
  | _, .int k => match seqOf S a with
    | some xs => match atO xs k with
      | some v => .ok v S
      | none => .bad
    | none => .bad
  | _, _ => .bad
def slI (a : DV) (l h : Option Int) : M DV := fun S => match a with
    | .str x => .ok (.str (cut x l h)) S
    | .tup x => .ok (.tup (cut x l h)) S
    | _ => match lstOf S a with
      | some x => .ok (.lst (cut x l h)) S
      | none => .bad

/-! ### sorting -/
mutual
def ltD : DV → DV → Bool
  | .int i, .int j => decide (i < j)
  | .str i, .str j => ltS i j
  | .tup x, .tup y => ltDs x y
  | _, _ => false
def ltDs : List DV → List DV → Bool
  | [], [] => false
  | [], _ :: _ => true
  | _ :: _, [] => false
  | x :: xs, y :: ys => if eqv x y then ltDs xs ys else ltD x y
end
def insL {α : Type} (lt : α → α → Bool) (x : α) : List α → List α
  | [] => [x]
  | y :: ys => if lt y x then y :: insL lt x ys else x :: y :: ys
def sortL {α : Type} (lt : α → α → Bool) : List α → List α
  | [] => []
  | x :: xs => insL lt x (sortL lt xs)
/-- sorted, equal ones in their order -/
def sortD (xs : List DV) : List DV := sortL ltD xs
mutual
/-- what can be compared -/
def alk : DV → DV → Bool
  | .int _, .int _ => true
  | .str _, .str _ => true
  | .tup xs, .tup ys => alks xs ys
  | _, _ => false
def alks : List DV → List DV → Bool
  | x :: xs, y :: ys => alk x y && alks xs ys
  | _, _ => true
end
mutual
/-- numbers, texts, tuples of these, not too deep -/
def flatD : Nat → DV → Bool
  | _, .int _ => true
  | _, .str _ => true
  | 0, .tup _ => false
  | n + 1, .tup xs => flatDs n xs
  | _, _ => false
def flatDs : Nat → List DV → Bool
  | _, [] => true
  | n, x :: xs => flatD n x && flatDs n xs
end
def nonE : DV → Bool
  | .tup [] => false
  | .tup _ => true
  | _ => false
def notT : DV → Bool
  | .tup _ => false
  | _ => true
def sortOk (xs : List DV) : Bool := xs.all (fun x => xs.all (alk x)) && (xs.all nonE || xs.all notT) && xs.all (flatD 8)
def ddup : List DV → List DV
  | [] => []
  | x :: xs => if xs.any (fun y => eqv y x) then ddup xs else x :: ddup xs

/-! ### built-ins -/
/-- the signs of a number -/
def digs (i : Int) : List Nat := (toString i).toList.map Char.toNat
def maxL : Int → List Int → Int
  | m, [] => m
  | m, x :: xs => maxL (if x > m then x else m) xs
def minL : Int → List Int → Int
  | m, [] => m
  | m, x :: xs => minL (if x < m then x else m) xs
def biD (b : Bi) (args : List DV) : M DV := fun S => match b, args with
  | .len, [.str x] => .ok (.int x.length) S
  | .len, [.dct ks _] => .ok (.int ks.length) S
  | .len, [a] => match seqOf S a with
    | some xs => .ok (.int xs.length) S
    | none => .bad
  | .abs, [.int i] => .ok (.int (if i < 0 then -i else i)) S
  | .int, [.int i] => .ok (.int i) S
  | .int, [.bl k] => .ok (.int (if k then 1 else 0)) S
  | .str, [.int i] => if i.natAbs.log2 < 1920 ∧ (digs i).length ≤ 16777216 then .ok (.str (digs i)) S else .bad
  | .sum, [a] => match (lstOf S a).bind (mapO intOf) with
    | some xs => .ok (.int xs.sum) S
    | none => .bad
  | .all, [a] => match (lstOf S a).bind (mapO blOf) with
    | some xs => .ok (.bl (xs.all id)) S
    | none => .bad
  | .any, [a] => match (lstOf S a).bind (mapO blOf) with
    | some xs => .ok (.bl (xs.any id)) S
    | none => .bad
  | .max, [.int i, .int j] => .ok (.int (if j > i then j else i)) S
  | .max, [a] => match (lstOf S a).bind (mapO intOf) with
    | some (x :: xs) => .ok (.int (maxL x xs)) S
    | _ => .bad
  | .min, [.int i, .int j] => .ok (.int (if j < i then j else i)) S
  | .min, [a] => match (lstOf S a).bind (mapO intOf) with
    | some (x :: xs) => .ok (.int (minL x xs)) S
    | _ => .bad
  | .sorted, [a] => match seqOf S a with
    | some xs => if sortOk xs then .ok (.lst (sortD xs)) S else .bad
    | none => .bad
  | .list, [.dct ks _] => .ok (.lst (ks.map ofKey)) S
  | .list, [a] => match seqOf S a with
    | some xs => .ok (.lst xs) S
    | none => .bad
  | .tuple, [a] => match seqOf S a with
    | some xs => .ok (.tup xs) S
    | none => .bad
  | _, _ => .bad
def joinS (sep : List Nat) : List (List Nat) → List Nat
  | [] => []
  | [x] => x
  | x :: y :: r => x ++ sep ++ joinS sep (y :: r)
def bmD (m : Bm) (o : DV) (args : List DV) : M DV := fun S => match m, o, args with
  | .join, .str sep, [a] => match (seqOf S a).bind (mapO strOf) with
    | some xs => if (xs.map (·.length)).sum + xs.length * sep.length ≤ LIM then .ok (.str (joinS sep xs)) S else .bad
    | none => .bad
  | _, _, _ => .bad
/-- what the methods are for -/
def bmOk : Bm → DV → Bool
  | .join, .str _ => true
  | _, _ => false
/-- what kind a value is -/
inductive Kn where | non | bool | int | str | tup | lst | dct | obj (c : Nat)
  deriving DecidableEq
def knOf (S : Sto) : DV → Option Kn
  | .non => some .non
  | .bl _ => some .bool
  | .int _ => some .int
  | .str _ => some .str
  | .tup _ => some .tup
  | .lst _ => some .lst
  | .dct _ _ => some .dct
  | .obj c _ _ => some (.obj c)
  | .exn _ _ _ => none
  | .loc k => match S[k]? with
    | some (.lst _) => some .lst
    | some (.dct _ _) => some .dct
    | some (.obj c _ _) => some (.obj c)
    | none => none
  | .scr _ => none
def isKn (_T : Tab) : Kn → Ty → Bool
  | .bool, .int => true
  | .bool, .bool => true
  | .int, .int => true
  | .str, .str => true
  | .tup, .tuple => true
  | .lst, .list => true
  | .obj c, .cls c' => c == c'
  | _, _ => false

def knOk (T : Tab) : Kn → Bool
  | .obj c => T.cl c
  | _ => true
def tyOk (T : Tab) : Ty → Bool
  | .cls c => T.cl c
  | .value => false
  | .lookup => false
  | .key => false
  | .index => false
  | _ => true

/-! ### slots -/
def sget (ρ : Env) (i : Nat) : Option DV := match ρ[i]? with
  | some (.val d) => some d
  | _ => none
def asg : CT → DV → Env → Sto → Option Env
  | .nm i, d, ρ, _ => if i < ρ.length then some (ρ.set i (.val d)) else none
  | .tp ts, d, ρ, S => match seqOf S d with
    | some xs => asgs ts xs ρ S
    | none => none
where asgs : List CT → List DV → Env → Sto → Option Env
  | [], [], ρ, _ => some ρ
  | t :: ts, x :: xs, ρ, S => match asg t x ρ S with
    | some ρ' => asgs ts xs ρ' S
    | none => none
  | _, _, _, _ => none
def wipeE (ρ : Env) : List Nat → Env
  | [] => ρ
  | v :: vs => (wipeE ρ vs).set v .no

mutual
def beq : DV → DV → Bool
  | .non, .non => true
  | .bl a, .bl b => a == b
  | .int i, .int j => i == j
  | .str x, .str y => x == y
  | .tup xs, .tup ys => beqs xs ys
  | .lst xs, .lst ys => beqs xs ys
  | .dct ks xs, .dct ls ys => decide (ks = ls) && beqs xs ys
  | .obj c ns xs, .obj d ms ys => c == d && decide (ns = ms) && beqs xs ys
  | .exn c ns xs, .exn d ms ys => c == d && decide (ns = ms) && beqs xs ys
  | .loc n, .loc m => n == m
  | .scr xs, .scr ys => beqs xs ys
  | _, _ => false
def beqs : List DV → List DV → Bool
  | [], [] => true
  | x :: xs, y :: ys => beq x y && beqs xs ys
  | _, _ => false
end
mutual
theorem beq_eq : ∀ a b : DV, beq a b = true → a = b := by
  intro a b h
  cases a <;> cases b <;> simp only [beq, Bool.false_eq_true, Bool.and_eq_true, beq_iff_eq, decide_eq_true_eq] at h <;>
    first
    | rfl
    | (subst h; rfl)
    | (rw [beqs_eq _ _ h])
    | (obtain ⟨h1, h2⟩ := h; subst h1; rw [beqs_eq _ _ h2])
    | (obtain ⟨⟨h0, h1⟩, h2⟩ := h; subst h0; subst h1; rw [beqs_eq _ _ h2])
theorem beqs_eq : ∀ a b : List DV, beqs a b = true → a = b
  | [], [], _ => rfl
  | x :: xs, y :: ys, h => by
    simp only [beqs, Bool.and_eq_true] at h
    rw [beq_eq x y h.1, beqs_eq xs ys h.2]
  | [], _ :: _, h => by simp [beqs] at h
  | _ :: _, [], h => by simp [beqs] at h
end
/-- what is walked: its items, and the shared lists that must stay -/
structure Wk where
  items : List DV
  src : List (Nat × List DV)
def Wk.stays (w : Wk) (S : Sto) : Bool := w.src.all fun p => match S[p.1]? with
  | some (.lst xs) => beqs xs p.2
  | _ => false
/-! ### statements -/
inductive CP where | v (i : Nat) (e : CE) | o (i : Nat) (f : CF)
mutual
inductive CS where
  | ex (e : CE) | set (t : CT) (e : CE) | par (ps : List CP)
  | own (i : Nat) (f : CF) | frz (i : Nat)
  | aug (i : Nat) (op : Bop) (e : CE)
  | app (i : Nat) (e : CE) | extd (i : Nat) (e : CE) | put (i : Nat) (k e : CE)
  | sput (o k e : CE) | sapp (o e : CE)
  | setf (f : Str) (e : CE)
  | ret (e : CE) | retn
  | ite (c : CE) (a b : CSs) | whl (c : CE) (b : CSs) | for (t : CT) (i : CI) (b : CSs)
  | brk | cnt | pass
  | raise (c : Nat) (es : CEs)
  | try (b : CSs) (hs : CHs)
  | never
inductive CSs where | nil | cons (s : CS) (r : CSs)
inductive CH where | mk (t : Ty) (i : Option Nat) (b : CSs)
inductive CHs where | nil | cons (h : CH) (r : CHs)
end

inductive RS where
  | nx (ρ : Env) (S : Sto) | rt (d : DV) (ρ : Env) (S : Sto) | bk (ρ : Env) (S : Sto) | ct (ρ : Env) (S : Sto)
  | ex (x : DV) (ρ : Env) (S : Sto) | bad

/-- what stands around a body: the calls, one level down; the room for whiles -/
structure Cl where
  T : Tab
  call : Nat → List DV → M DV
  init : Nat → List DV → M DV
  W : Nat

/-- the arguments of a call, the defaults filled in -/
def fill (T : Tab) (f : Nat) (ds : List DV) : Option (List DV) :=
  if ds.length ≤ T.arity f ∧ T.arity f ≤ ds.length + (T.dfl f).length then some (ds ++ (T.dfl f).drop ((T.dfl f).length - (T.arity f - ds.length))) else none

/-- a list or a tuple that is walked -/
def seqW (S : Sto) : DV → Option Wk
  | .tup xs => some ⟨xs, []⟩
  | .lst xs => some ⟨xs, []⟩
  | .loc k => match S[k]? with
    | some (.lst xs) => some ⟨xs, [(k, xs)]⟩
    | _ => none
  | _ => none
def walkOf (S : Sto) : DV → Option Wk
  | .str x => some ⟨x.map fun c => .str [c], []⟩
  | d => seqW S d
def enumL : Nat → List DV → List DV
  | _, [] => []
  | n, x :: xs => .tup [.int n, x] :: enumL (n + 1) xs
def zipL : List DV → List DV → List DV
  | x :: xs, y :: ys => .tup [x, y] :: zipL xs ys
  | _, _ => []
def itemsL : List DK → List DV → List DV
  | k :: ks, v :: vs => .tup [ofKey k, v] :: itemsL ks vs
  | _, _ => []
def rngN (a b c : Int) : Nat := if 0 < c then ((b - a + c - 1) / c).toNat else ((a - b - c - 1) / (-c)).toNat
def rngL (a b c : Int) : List DV := (List.range (rngN a b c)).map fun (i : Nat) => .int (a + (i : Int) * c)
def rngOk (a b c : Int) : Bool := decide (c = 1 ∨ c = -1) && (decide (-4611686018427387904 ≤ a) && decide (a < 4611686018427387904) && decide (-4611686018427387904 ≤ b) && decide (b < 4611686018427387904)) && decide (rngN a b c ≤ LIM)

section
variable (K : Cl)
def callF (f : Nat) (ds : List DV) : M DV := match fill K.T f ds with
  | some es => K.call f es
  | none => M.fail
/-- an instance: its class, its fields -/
def insOf (S : Sto) : DV → Option (Nat × List Str × List DV)
  | .obj c ns vs => some (c, ns, vs)
  | .loc k => match S[k]? with
    | some (.obj c ns vs) => some (c, ns, vs)
    | _ => none
  | _ => none
def fldD (a : DV) (f : Str) : M DV := fun S => match insOf S a with
  | some (c, ns, vs) => if f ∈ K.T.flds c then M.opt (fget ns vs f) S else .bad
  | none => .bad
def xfldD (a : DV) (f : Str) : M DV := fun S => match a with
  | .exn _ ns vs => M.opt (fget ns vs f) S
  | _ => .bad
def propD (a : DV) (f : Str) : M DV := fun S => match insOf S a with
  | some (c, _, _) => match K.T.prop c f with
    | some g => M.nox (callF K g [a]) S
    | none => .bad
  | none => .bad
/-- which def a method is -/
def methO (o : DV) (m : Str) : M Nat := fun S => match insOf S o with
  | some (c, ns, _) => if m ∈ ns then .bad else M.opt (K.T.meth c m) S
  | none => .bad
/-- the slots of a target -/
def tslots : CT → List Nat
  | .nm i => [i]
  | .tp ts => tslotsL ts
where tslotsL : List CT → List Nat
  | [] => []
  | t :: ts => tslots t ++ tslotsL ts
def gslots : CGs → List Nat
  | .one (.mk t _ _) => tslots t
  | .two (.mk t _ _) r => tslots t ++ gslots r
def lcLoop {α : Type} (t : CT) (w : Wk) (body : Env → α → M α) : List DV → Env → α → M α
  | [], _, acc => fun S => if w.stays S then .ok acc S else .bad
  | x :: xs, ρ, acc => fun S => if w.stays S then (match asg t x ρ S with
      | some ρ' => (body ρ' acc >>= fun acc' => lcLoop t w body xs ρ acc') S
      | none => .bad) else .bad
def tst (m : M DV) : M Bool := m >>= fun x => getS >>= fun S => M.opt (truth S x)

mutual
def evE : CE → Env → M DV
  | .never, _ => M.fail
  | .var i, ρ => M.opt (sget ρ i)
  | .int i, _ => pure (.int i)
  | .bl b, _ => pure (.bl b)
  | .non, _ => pure .non
  | .str x, _ => pure (.str x)
  | .gl k, _ => pure (K.T.glob k)
  | .bin op a b, ρ => evE a ρ >>= fun x => evE b ρ >>= fun y => binD op x y
  | .neg a, ρ => evE a ρ >>= fun x => match x with
    | .int i => pure (.int (-i))
    | _ => M.fail
  | .cmp op a b, ρ => evE a ρ >>= fun x => evE b ρ >>= fun y => cmpD op x y
  | .cmp2 o1 o2 a b c, ρ => evE a ρ >>= fun x => evE b ρ >>= fun y => cmpD o1 x y >>= fun r => match r with
    | .bl true => evE c ρ >>= fun z => cmpD o2 y z
    | .bl false => pure (.bl false)
    | _ => M.fail
  | .not a, ρ => tst (evE a ρ) >>= fun k => pure (.bl (!k))
  | .and a b, ρ => evE a ρ >>= fun x => getS >>= fun S => M.opt (truth S x) >>= fun k => if k then evE b ρ else pure x
  | .or a b, ρ => evE a ρ >>= fun x => getS >>= fun S => M.opt (truth S x) >>= fun k => if k then pure x else evE b ρ
  | .ite c a b, ρ => tst (evE c ρ) >>= fun k => if k then evE a ρ else evE b ρ
  | .tup es, ρ => evs es ρ >>= fun xs => if xs.length ≤ LIM then pure (.tup xs) else M.fail
  | .lst es, ρ => evs es ρ >>= fun xs => if xs.length ≤ LIM then pure (.lst xs) else M.fail
  | .pkx i k, ρ => match ρ[i]? with
    | some (.own (.lst xs)) => evE k ρ >>= fun y => match y with
      | .int j => M.opt (atO xs j)
      | _ => M.fail
    | some (.own (.dct ks vs)) => evE k ρ >>= fun y => M.opt ((keyOf y).bind (dget ks vs))
    | some (.val d) => evE k ρ >>= fun y => ixD d y
    | _ => M.fail
  | .pkl i, ρ => match ρ[i]? with
    | some (.own (.lst xs)) => pure (.int xs.length)
    | some (.val d) => biD .len [d]
    | _ => M.fail
  | .pkf i f, ρ => match ρ[i]? with
    | some (.own (.obj c ns vs)) => if f ∈ K.T.flds c then M.opt (fget ns vs f) else M.fail
    | some (.val d) => fldD K d f
    | _ => M.fail
  | .ix a i, ρ => evE a ρ >>= fun x => evE i ρ >>= fun y => ixD x y
  | .sl a lo hi, ρ => evE a ρ >>= fun x => evo lo ρ >>= fun l => evo hi ρ >>= fun h => slI x l h
  | .rev a, ρ => evE a ρ >>= fun x => match x with
    | .tup xs => pure (.tup xs.reverse)
    | _ => getS >>= fun S => match lstOf S x with
      | some xs => pure (.lst xs.reverse)
      | none => M.fail
  | .fld a f, ρ => evE a ρ >>= fun x => fldD K x f
  | .xfld a f, ρ => evE a ρ >>= fun x => xfldD x f
  | .prop a f, ρ => evE a ρ >>= fun x => propD K x f
  | .call f es, ρ => evs es ρ >>= fun xs => callF K f xs
  | .callk f n ks perm es kes, ρ => evs es ρ >>= fun xs => evs kes ρ >>= fun ys => if (n, ks, perm) ∈ K.T.kb f ∧ xs.length = n ∧ ys.length = ks.length ∧ perm.length = K.T.arity f then (match mapO (fun (i : Nat) => (xs ++ ys)[i]?) perm with
      | some zs => K.call f zs
      | none => M.fail) else M.fail
  | .rng a b c, ρ => evE a ρ >>= fun x => evE b ρ >>= fun y => match x, y with
    | .int i, .int j => if rngOk i j c then pure (.lst (rngL i j c)) else M.fail
    | _, _ => M.fail
  | .shr f, ρ => evF f ρ >>= fun o => getS >>= fun S => setS (S ++ [o]) >>= fun _ => pure (.loc S.length)
  | .meth o m es, ρ => evE o ρ >>= fun x => methO K x m >>= fun g => evs es ρ >>= fun xs => callF K g (x :: xs)
  | .new c es, ρ => evs es ρ >>= fun xs => if xs.length + 1 = K.T.iar c then K.init c xs else M.fail
  | .bi b es, ρ => evs es ρ >>= fun xs => biD b xs
  | .bm o m es, ρ => evE o ρ >>= fun x => M.chk (bmOk m x) >>= fun _ => evs es ρ >>= fun xs => bmD m x xs
  | .isi a ts, ρ => evE a ρ >>= fun x => getS >>= fun S => M.opt (knOf S x) >>= fun k => if knOk K.T k && ts.all (tyOk K.T) then pure (.bl (ts.any (isKn K.T k))) else M.fail
  | .comp elt g own, ρ => M.nox (evG g (fun ρ' (acc : List DV) => evE elt ρ' >>= fun x => if acc.length < LIM then pure (acc ++ [x]) else M.fail) ρ (wipeE ρ (own.map (·.2))) [] >>= fun xs => pure (.lst xs))
  | .dcomp k v g own, ρ => M.nox (evG g (fun ρ' (acc : List DK × List DV) => evE k ρ' >>= fun x => evE v ρ' >>= fun y => match keyOf x with
      | some q => if acc.1.length < LIM then pure (dputK acc.1 q, dputV acc.1 acc.2 q y) else M.fail
      | none => M.fail) ρ (wipeE ρ (own.map (·.2))) ([], []) >>= fun xs => pure (.dct xs.1 xs.2))
  | .sset a, ρ => evE a ρ >>= fun x => getS >>= fun S => match lstOf S x with
    | some xs => if sortOk xs then pure (.lst (sortD (ddup xs))) else M.fail
    | none => M.fail
  | .lset a, ρ => evE a ρ >>= fun x => getS >>= fun S => match lstOf S x with
    | some xs => if sortOk xs then pure (.int (ddup xs).length) else M.fail
    | none => M.fail
def evF : CF → Env → M OV
  | .lst es, ρ => evs es ρ >>= fun xs => if xs.length ≤ LIM then pure (.lst xs) else M.fail
  | .bi b e, ρ => evE e ρ >>= fun x => getS >>= fun S => match b, x with
    | .list, .dct ks _ => pure (.lst (ks.map ofKey))
    | .list, x => (match seqOf S x with
      | some xs => pure (.lst xs)
      | none => M.fail)
    | _, _ => M.fail
  | .add a b, ρ => evE a ρ >>= fun x => evE b ρ >>= fun y => getS >>= fun S => match lstX S x, lstX S y with
    | some xs, some ys => if xs.length + ys.length ≤ LIM then pure (.lst (xs ++ ys)) else M.fail
    | _, _ => M.fail
  | .sl a lo hi, ρ => evE a ρ >>= fun x => evo lo ρ >>= fun l => evo hi ρ >>= fun h => getS >>= fun S => match lstOf S x with
    | some xs => pure (.lst (cut xs l h))
    | none => M.fail
  | .rng a b c, ρ => evE a ρ >>= fun x => evE b ρ >>= fun y => match x, y with
    | .int i, .int j => if rngOk i j c then pure (.lst (rngL i j c)) else M.fail
    | _, _ => M.fail
  | .or a b, ρ => evF a ρ >>= fun o => match o with
    | .lst xs => if xs.isEmpty then evF b ρ else pure o
    | _ => M.fail
  | .dct0, _ => pure (.dct [] [])
  | .comp elt g own, ρ => M.nox (evG g (fun ρ' (acc : List DV) => evE elt ρ' >>= fun x => if acc.length < LIM then pure (acc ++ [x]) else M.fail) ρ (wipeE ρ (own.map (·.2))) [] >>= fun xs => pure (.lst xs))
def evs : CEs → Env → M (List DV)
  | .nil, _ => pure []
  | .cons false e r, ρ => evE e ρ >>= fun x => evs r ρ >>= fun xs => pure (x :: xs)
  | .cons true e r, ρ => evE e ρ >>= fun x => getS >>= fun S => M.opt (seqOf S x) >>= fun ys => evs r ρ >>= fun xs => pure (ys ++ xs)
def evo : CEo → Env → M (Option Int)
  | .no, _ => pure none
  | .so e, ρ => evE e ρ >>= fun x => match x with
    | .int i => pure (some i)
    | _ => M.fail
def evI : CI → Env → M Wk
  | .seq e, ρ => evE e ρ >>= fun x => getS >>= fun S => M.opt (walkOf S x)
  | .rng a b c, ρ => evE a ρ >>= fun x => evE b ρ >>= fun y => match x, y with
    | .int i, .int j => if rngOk i j c then pure ⟨rngL i j c, []⟩ else M.fail
    | _, _ => M.fail
  | .enum e, ρ => evE e ρ >>= fun x => getS >>= fun S => match seqW S x with
    | some w => pure ⟨enumL 0 w.items, w.src⟩
    | none => M.fail
  | .zip a b, ρ => evE a ρ >>= fun x => evE b ρ >>= fun y => getS >>= fun S => match seqW S x, seqW S y with
    | some w, some v => pure ⟨zipL w.items v.items, w.src ++ v.src⟩
    | _, _ => M.fail
  | .items e, ρ => evE e ρ >>= fun x => match x with
    | .dct ks vs => pure ⟨itemsL ks vs, []⟩
    | _ => M.fail
/-- the tests of a clause, one behind the other -/
def evC : CEs → Env → M Bool
  | .nil, _ => pure true
  | .cons _ e r, ρ => tst (evE e ρ) >>= fun k => if k then evC r ρ else pure false
def evG {α : Type} : CGs → (Env → α → M α) → Env → Env → α → M α
  | .one (.mk t i c), F, ρi, ρb, acc => evI i ρi >>= fun w => lcLoop t w (fun ρ' a => evC c ρ' >>= fun k => if k then F ρ' a else pure a) w.items ρb acc
  | .two (.mk t i c) r, F, ρi, ρb, acc => evI i ρi >>= fun w => lcLoop t w (fun ρ' a => evC c ρ' >>= fun k => if k then evG r F ρ' (wipeE ρ' (gslots r)) a else pure a) w.items ρb acc
end
end
end GL
end
section
/-! Statements, defs, levels. -/
namespace GL
open PySem (Str)

def liftE {α : Type} (m : M α) (ρ : Env) (k : α → Sto → RS) : Sto → RS := fun S => match m S with
  | .ok a S' => k a S'
  | .ex x S' => .ex x ρ S'
  | .bad => .bad
def loopW (test : Env → M Bool) (body : Env → Sto → RS) : Nat → Env → Sto → RS
  | 0, _, _ => .bad
  | n + 1, ρ, S => liftE (test ρ) ρ (fun k S1 => if k then (match body ρ S1 with
      | .nx ρ' S' => loopW test body n ρ' S'
      | .ct ρ' S' => loopW test body n ρ' S'
      | .bk ρ' S' => .nx ρ' S'
      | r => r) else .nx ρ S1) S
def loopF (t : CT) (w : Wk) (body : Env → Sto → RS) : List DV → Env → Sto → RS
  | [], ρ, S => if w.stays S then .nx ρ S else .bad
  | x :: xs, ρ, S => if w.stays S then (match asg t x ρ S with
      | some ρ1 => match body ρ1 S with
        | .nx ρ' S' => loopF t w body xs ρ' S'
        | .ct ρ' S' => loopF t w body xs ρ' S'
        | .bk ρ' S' => .nx ρ' S'
        | r => r
      | none => .bad) else .bad
/-- the stores of a parallel assignment, from the left -/
def parE : List (Nat × Slot) → Env → Env
  | [], ρ => ρ
  | (i, s) :: r, ρ => parE r (ρ.set i s)
def cpI : CP → Nat
  | .v i _ => i
  | .o i _ => i
def frzO : OV → DV
  | .lst xs => .lst xs
  | .dct ks vs => .dct ks vs
  | .obj c ns vs => .obj c ns vs
/-- o[k] = v upon a list or a dict -/
def putO (o : OV) (k v : DV) : Option OV := match o with
  | .lst xs => match k with
    | .int i => (ixO xs.length i).map fun j => .lst (xs.set j v)
    | _ => none
  | .dct ks vs => match keyOf k with
    | some q => if ks.length < LIM then some (.dct (dputK ks q) (dputV ks vs q v)) else none
    | none => none
  | _ => none
/-- name op= value: numbers alone -/
def augD (op : Bop) (a b : DV) : M DV := fun S => match op, a, b with
  | .add, .int i, .int j => .ok (.int (i + j)) S
  | .sub, .int i, .int j => .ok (.int (i - j)) S
  | _, _, _ => .bad
def mkExn (T : Tab) (c : Nat) (ds : List DV) : Option DV := if ds.length = (T.flds c).length then some (.exn c (T.flds c) ds) else none
def isExn (T : Tab) : DV → Ty → Bool
  | .exn c _ _, .cls c' => c == c'
  | .exn c _ _, t => T.exb c == t
  | _, _ => false

section
variable (K : Cl)
def evP : List CP → Env → M (List (Nat × Slot))
  | [], _ => pure []
  | .v i e :: r, ρ => evE K e ρ >>= fun d => evP r ρ >>= fun xs => pure ((i, .val d) :: xs)
  | .o i f :: r, ρ => evF K f ρ >>= fun o => evP r ρ >>= fun xs => pure ((i, .own o) :: xs)
mutual
def evS : CS → Env → Sto → RS
  | .never, _, _ => .bad
  | .ex e, ρ, S => liftE (evE K e ρ) ρ (fun _ S' => .nx ρ S') S
  | .set t e, ρ, S => liftE (evE K e ρ) ρ (fun d S' => match asg t d ρ S' with
    | some ρ' => .nx ρ' S'
    | none => .bad) S
  | .par ps, ρ, S => if (ps.map cpI).all (· < ρ.length) then liftE (evP K ps ρ) ρ (fun ds S' => .nx (parE ds ρ) S') S else .bad
  | .own i f, ρ, S => liftE (evF K f ρ) ρ (fun o S' => if i < ρ.length then .nx (ρ.set i (.own o)) S' else .bad) S
  | .frz i, ρ, S => match ρ[i]? with
    | some (.own o) => .nx (ρ.set i (.val (frzO o))) S
    | _ => .bad
  | .aug i op e, ρ, S => match sget ρ i with
    | some x => liftE (evE K e ρ) ρ (fun y S' => liftE (augD op x y) ρ (fun z S'' => .nx (ρ.set i (.val z)) S'') S') S
    | none => .bad
  | .app i e, ρ, S => match ρ[i]? with
    | some (.own (.lst xs)) => liftE (evE K e ρ) ρ (fun d S' => if xs.length < LIM then .nx (ρ.set i (.own (.lst (xs ++ [d])))) S' else .bad) S
    | _ => .bad
  | .extd i e, ρ, S => match ρ[i]? with
    | some (.own (.lst xs)) => liftE (evE K e ρ) ρ (fun d S' => match d with
      | .lst ys => if xs.length + ys.length ≤ LIM then .nx (ρ.set i (.own (.lst (xs ++ ys)))) S' else .bad
      | _ => .bad) S
    | _ => .bad
  | .put i k e, ρ, S => match ρ[i]? with
    | some (.own o) => liftE (evE K e ρ) ρ (fun v S1 => liftE (evE K k ρ) ρ (fun q S2 => match putO o q v with
      | some o' => .nx (ρ.set i (.own o')) S2
      | none => .bad) S1) S
    | _ => .bad
  | .sput o k e, ρ, S => liftE (evE K e ρ) ρ (fun v S1 => liftE (evE K o ρ) ρ (fun a S2 => liftE (evE K k ρ) ρ (fun q S3 => match a with
    | .loc n => match S3[n]? with
      | some w => match putO w q v with
        | some w' => .nx ρ (S3.set n w')
        | none => .bad
      | none => .bad
    | _ => .bad) S2) S1) S
  | .sapp o e, ρ, S => liftE (evE K o ρ) ρ (fun a S1 => match a with
    | .loc n => match S1[n]? with
      | some (.lst _) => liftE (evE K e ρ) ρ (fun v S2 => match S2[n]? with
        | some (.lst xs) => if xs.length < LIM then .nx ρ (S2.set n (.lst (xs ++ [v]))) else .bad
        | _ => .bad) S1
      | _ => .bad
    | _ => .bad) S
  | .setf f e, ρ, S => match ρ[(0 : Nat)]? with
    | some (.own (.obj c ns vs)) => liftE (evE K e ρ) ρ (fun v S1 => if f ∈ K.T.flds c ∧ ns.length < 1000 then .nx (ρ.set 0 (.own (.obj c (fputK ns f) (fputV ns vs f v)))) S1 else .bad) S
    | _ => .bad
  | .ret e, ρ, S => liftE (evE K e ρ) ρ (fun d S' => .rt d ρ S') S
  | .retn, ρ, S => .rt .non ρ S
  | .ite c a b, ρ, S => liftE (tst (evE K c ρ)) ρ (fun k S' => if k then evSs a ρ S' else evSs b ρ S') S
  | .whl c b, ρ, S => loopW (fun ρ' => tst (evE K c ρ')) (fun ρ' S' => evSs b ρ' S') K.W ρ S
  | .for t i b, ρ, S => liftE (evI K i ρ) ρ (fun w S' => loopF t w (fun ρ' S'' => evSs b ρ' S'') w.items ρ S') S
  | .brk, ρ, S => .bk ρ S
  | .cnt, ρ, S => .ct ρ S
  | .pass, ρ, S => .nx ρ S
  | .raise c es, ρ, S => liftE (evs K es ρ) ρ (fun ds S' => match mkExn K.T c ds with
    | some x => .ex x ρ S'
    | none => .bad) S
  | .try b hs, ρ, S => match evSs b ρ S with
    | .ex x ρ' S' => evH hs x ρ' S'
    | r => r
def evSs : CSs → Env → Sto → RS
  | .nil, ρ, S => .nx ρ S
  | .cons s r, ρ, S => match evS s ρ S with
    | .nx ρ' S' => evSs r ρ' S'
    | q => q
def evH : CHs → DV → Env → Sto → RS
  | .nil, x, ρ, S => .ex x ρ S
  | .cons (.mk t i b) r, x, ρ, S => if isExn K.T x t then
      (match i with
      | none => evSs b ρ S
      | some j => if j < ρ.length then (match evSs b (ρ.set j (.val x)) S with
        | .nx ρ' S' => .nx (ρ'.set j .no) S'
        | .bk ρ' S' => .bk (ρ'.set j .no) S'
        | .ct ρ' S' => .ct (ρ'.set j .no) S'
        | q => q) else .bad)
    else evH r x ρ S
end
end

structure Df where
  slots : Nat
  body : CSs
structure Pg where
  T : Tab
  df : Nat → Df
  ini : Nat → Df
  W : Nat
def startE (d : Df) (ds : List DV) : Env := ds.map .val ++ List.replicate (d.slots - ds.length) .no
def runD (K : Cl) (d : Df) (ds : List DV) : M DV := fun S => if ds.length ≤ d.slots then (match evSs K d.body (startE d ds) S with
  | .nx _ S' => .ok .non S'
  | .rt x _ S' => .ok x S'
  | .ex x _ S' => .ex x S'
  | _ => .bad) else .bad
def runI (K : Cl) (d : Df) (c : Nat) (ds : List DV) : M DV := fun S => if ds.length + 1 ≤ d.slots then (match evSs K d.body (.own (.obj c [] []) :: (startE ⟨d.slots - 1, d.body⟩ ds)) S with
  | .nx ρ S' => match ρ[(0 : Nat)]? with
    | some (.own (.obj c' ns vs)) => .ok (.obj c' ns vs) S'
    | _ => .bad
  | .ex x _ S' => .ex x S'
  | _ => .bad) else .bad
def failF : Nat → List DV → M DV := fun _ _ => M.fail
/-- the calls, the makings, by the level -/
def lev (P : Pg) : Nat → (Nat → List DV → M DV) × (Nat → List DV → M DV)
  | 0 => (failF, failF)
  | n + 1 => (fun f ds => runD ⟨P.T, (lev P n).1, (lev P n).2, P.W⟩ (P.df f) ds, fun c ds => runI ⟨P.T, (lev P n).1, (lev P n).2, P.W⟩ (P.ini c) c ds)
def clv (P : Pg) (n : Nat) : Cl := ⟨P.T, (lev P n).1, (lev P n).2, P.W⟩
theorem lev_succ (P : Pg) (n : Nat) (f : Nat) (ds : List DV) : (lev P (n + 1)).1 f ds = runD (clv P n) (P.df f) ds := rfl
theorem lev_succI (P : Pg) (n : Nat) (c : Nat) (ds : List DV) : (lev P (n + 1)).2 c ds = runI (clv P n) (P.ini c) c ds := rfl
end GL
end
section
set_option Elab.async false
set_option linter.all false
/-! How the pure side lies in the abstract heap. -/
namespace GL
open PySem L2

structure Gh where
  F : Hp
  π : List Addr
  R : Hp
structure Le (g g' : Gh) : Prop where
  F : ∀ a o, g.F a = some o → g'.F a = some o
  π : ∀ (n : Nat) a, g.π[n]? = some a → g'.π[n]? = some a
  R : g'.R = g.R
/-- the ghost's growth but for the owned part -/
structure LeF (g g' : Gh) : Prop where
  F : ∀ a o, g.F a = some o → g'.F a = some o
  π : ∀ (n : Nat) a, g.π[n]? = some a → g'.π[n]? = some a
theorem LeF.of {g g' : Gh} (l : Le g g') : LeF g g' := ⟨l.F, l.π⟩
theorem LeF.rfl' {g : Gh} : LeF g g := ⟨fun _ _ h => h, fun _ _ h => h⟩
theorem LeF.trans {g g1 g2 : Gh} (a : LeF g g1) (b : LeF g1 g2) : LeF g g2 := ⟨fun x o h => b.F x o (a.F x o h), fun n x h => b.π n x (a.π n x h)⟩
theorem Le.rfl' {g : Gh} : Le g g := ⟨fun _ _ h => h, fun _ _ h => h, rfl⟩
theorem Le.trans {g g1 g2 : Gh} (a : Le g g1) (b : Le g1 g2) : Le g g2 := ⟨fun x o h => b.F x o (a.F x o h), fun n x h => b.π n x (a.π n x h), b.R.trans a.R⟩

def okS (x : List Nat) : Bool := x.all (· < 0x110000) && decide (x.length ≤ 16777216)
def mkS (x : List Nat) : Str := ⟨x.toArray⟩
def kOf : DK → L2.Key
  | .i n => .inl n
  | .s x => .inr (mkS x)
def okK : DK → Bool
  | .i _ => true
  | .s x => okS x
/-- an exception's object of the class at C, its own dict at d -/
def ExX (C : Addr) (d : Option Addr) (a : Addr) : HO := .ext fun h => ∃ (oe : Obj) (vs : Array Value), h.get? a = some oe ∧ Zc (.ref C) d oe ∧ oe.data = .fields vs

/-- where an exception's fields lie -/
def XdAt (F : Hp) (d : Option Addr) (ns : List Str) (vs : List V) : Prop :=
  (ns = [] ∧ d = none) ∨ (ns ≠ [] ∧ ∃ dd, d = some dd ∧ F dd = some (.xd (ns.zip vs)))
theorem XdAt.mono {F F' : Hp} {d : Option Addr} {ns : List Str} {vs : List V} (h : XdAt F d ns vs) (f : ∀ a o, F a = some o → F' a = some o) : XdAt F' d ns vs := by
  rcases h with h | ⟨h, dd, e, q⟩
  · exact .inl h
  · exact .inr ⟨h, dd, e, f _ _ q⟩
theorem sqT_mono {K : PySem.W.Frag} {F F' : Hp} {a : Addr} {vs : List V} (h : SqT K F a vs) (f : ∀ a o, F a = some o → F' a = some o) : SqT K F' a vs := by
  rcases h with (h | ⟨o, h⟩) | h
  · exact .inl (.inl (f _ _ h))
  · exact .inl (.inr ⟨o, f _ _ h⟩)
  · exact .inr h
theorem sqL_mono {K : PySem.W.Frag} {F F' : Hp} {a : Addr} {vs : List V} (h : SqL K F a vs) (f : ∀ a o, F a = some o → F' a = some o) : SqL K F' a vs := by
  rcases h with (h | ⟨o, h⟩) | h
  · exact .inl (.inl (f _ _ h))
  · exact .inl (.inr ⟨o, f _ _ h⟩)
  · exact .inr h
section
variable (K : PySem.W.Frag) (cA : Nat → Addr)
mutual
def Rep (g : Gh) : DV → V → Prop
  | .non, v => v = .non
  | .bl b, v => v = .bl b
  | .int i, v => v = .int i
  | .str x, v => v = .str (mkS x) ∧ okS x = true
  | .tup xs, v => ∃ a vs, v = .ref a ∧ SqT K g.F a vs ∧ Reps g xs vs
  | .lst xs, v => ∃ a vs, v = .ref a ∧ g.F a = some (.lst vs) ∧ Reps g xs vs
  | .scr xs, v => ∃ a vs, v = .ref a ∧ SqL K g.F a vs ∧ Reps g xs vs
  | .dct ks ws, v => ∃ a o vs, v = .ref a ∧ g.F a = some (.frz o (.dK ((ks.map kOf).zip vs))) ∧ ks.length = vs.length ∧ ks.all okK = true ∧ ks.Nodup ∧ Reps g ws vs
  | .obj c ns ws, v => ∃ a dx vs, v = .ref a ∧ g.F a = some (.ins (cA c) dx (ns.zip vs)) ∧ ns.length = vs.length ∧ Reps g ws vs
  | .exn c ns ws, v => ∃ a d vs, v = .ref a ∧ g.F a = some (ExX (cA c) d a) ∧ ns.length = vs.length ∧ XdAt g.F d ns vs ∧ Reps g ws vs
  | .loc n, v => ∃ a, g.π[n]? = some a ∧ v = .ref a
def Reps (g : Gh) : List DV → List V → Prop
  | [], vs => vs = []
  | d :: ds, vs => ∃ w ws, vs = w :: ws ∧ Rep g d w ∧ Reps g ds ws
end

variable {K cA}
mutual
theorem Rep.monoF {g g' : Gh} (l : LeF g g') : ∀ (d : DV) (v : V), Rep K cA g d v → Rep K cA g' d v
  | .non, v, h => by simp only [Rep] at h ⊢; exact h
  | .bl b, v, h => by simp only [Rep] at h ⊢; exact h
  | .int i, v, h => by simp only [Rep] at h ⊢; exact h
  | .str x, v, h => by simp only [Rep] at h ⊢; exact h
  | .tup xs, v, h => by
    simp only [Rep] at h ⊢
    obtain ⟨a, vs, e, q, r⟩ := h
    exact ⟨a, vs, e, sqT_mono q l.F, Reps.monoF l xs vs r⟩
  | .lst xs, v, h => by
    simp only [Rep] at h ⊢
    obtain ⟨a, vs, e, q, r⟩ := h
    exact ⟨a, vs, e, l.F _ _ q, Reps.monoF l xs vs r⟩
  | .scr xs, v, h => by
    simp only [Rep] at h ⊢
    obtain ⟨a, vs, e, q, r⟩ := h
    exact ⟨a, vs, e, sqL_mono q l.F, Reps.monoF l xs vs r⟩
  | .dct ks ws, v, h => by
    simp only [Rep] at h ⊢
    obtain ⟨a, o, vs, e, q, h1, h2, h3, r⟩ := h
    exact ⟨a, o, vs, e, l.F _ _ q, h1, h2, h3, Reps.monoF l ws vs r⟩
  | .obj c ns ws, v, h => by
    simp only [Rep] at h ⊢
    obtain ⟨a, dx, vs, e, q, h1, r⟩ := h
    exact ⟨a, dx, vs, e, l.F _ _ q, h1, Reps.monoF l ws vs r⟩
  | .exn c ns ws, v, h => by
    simp only [Rep] at h ⊢
    obtain ⟨a, d, vs, e, q, h1, h2, r⟩ := h
    exact ⟨a, d, vs, e, l.F _ _ q, h1, h2.mono l.F, Reps.monoF l ws vs r⟩
  | .loc n, v, h => by
    simp only [Rep] at h ⊢
    obtain ⟨a, q, e⟩ := h
    exact ⟨a, l.π _ _ q, e⟩
theorem Reps.monoF {g g' : Gh} (l : LeF g g') : ∀ (ds : List DV) (vs : List V), Reps K cA g ds vs → Reps K cA g' ds vs
  | [], vs, h => by simp only [Reps] at h ⊢; exact h
  | d :: ds, vs, h => by
    simp only [Reps] at h ⊢
    obtain ⟨w, ws, e, q, r⟩ := h
    exact ⟨w, ws, e, Rep.monoF l d w q, Reps.monoF l ds ws r⟩
end
theorem Rep.mono {g g' : Gh} (l : Le g g') (d : DV) (v : V) (r : Rep K cA g d v) : Rep K cA g' d v := Rep.monoF (.of l) d v r
theorem Reps.mono {g g' : Gh} (l : Le g g') (d : List DV) (v : List V) (r : Reps K cA g d v) : Reps K cA g' d v := Reps.monoF (.of l) d v r
theorem Reps.length {g : Gh} : ∀ {ds : List DV} {vs : List V}, Reps K cA g ds vs → ds.length = vs.length
  | [], vs, h => by simp only [Reps] at h; subst h; rfl
  | d :: ds, vs, h => by
    simp only [Reps] at h
    obtain ⟨w, ws, e, _, r⟩ := h
    rw [e, List.length_cons, List.length_cons, Reps.length r]
theorem Reps.get {g : Gh} : ∀ {ds : List DV} {vs : List V} {i : Nat} {d : DV}, Reps K cA g ds vs → ds[i]? = some d → ∃ v, vs[i]? = some v ∧ Rep K cA g d v
  | [], _, _, _, _, e => by simp at e
  | d :: ds, vs, i, d', h, e => by
    simp only [Reps] at h
    obtain ⟨w, ws, rfl, q, r⟩ := h
    cases i with
    | zero => simp at e; subst e; exact ⟨w, by simp, q⟩
    | succ i =>
      obtain ⟨v, h1, h2⟩ := Reps.get (i := i) r (by simpa using e)
      exact ⟨v, by simpa using h1, h2⟩
theorem Reps.nil {g : Gh} : Reps K cA g [] [] := by simp only [Reps]
theorem Reps.cons {g : Gh} {d : DV} {ds : List DV} {v : V} {vs : List V} (h : Rep K cA g d v) (r : Reps K cA g ds vs) : Reps K cA g (d :: ds) (v :: vs) := by
  simp only [Reps]
  exact ⟨v, vs, rfl, h, r⟩
theorem Reps.app {g : Gh} : ∀ {ds es : List DV} {vs ws : List V}, Reps K cA g ds vs → Reps K cA g es ws → Reps K cA g (ds ++ es) (vs ++ ws)
  | [], es, vs, ws, h, r => by simp only [Reps] at h; subst h; exact r
  | d :: ds, es, vs, ws, h, r => by
    simp only [Reps] at h
    obtain ⟨w, us, rfl, q, t⟩ := h
    exact Reps.cons q (Reps.app t r)
theorem Reps.take {g : Gh} : ∀ {ds : List DV} {vs : List V} (n : Nat), Reps K cA g ds vs → Reps K cA g (ds.take n) (vs.take n)
  | [], vs, n, h => by simp only [Reps] at h; subst h; simp only [List.take_nil]; exact Reps.nil
  | d :: ds, vs, n, h => by
    simp only [Reps] at h
    obtain ⟨w, us, rfl, q, t⟩ := h
    cases n with
    | zero => exact Reps.nil
    | succ n => exact Reps.cons q (Reps.take n t)
theorem Reps.drop {g : Gh} : ∀ {ds : List DV} {vs : List V} (n : Nat), Reps K cA g ds vs → Reps K cA g (ds.drop n) (vs.drop n)
  | [], vs, n, h => by simp only [Reps] at h; subst h; simp only [List.drop_nil]; exact Reps.nil
  | d :: ds, vs, n, h => by
    have h' := h
    simp only [Reps] at h
    obtain ⟨w, us, rfl, q, t⟩ := h
    cases n with
    | zero => exact h'
    | succ n => exact Reps.drop n t
theorem Reps.set {g : Gh} {d : DV} {v : V} (q : Rep K cA g d v) : ∀ {ds : List DV} {vs : List V} (n : Nat), Reps K cA g ds vs → Reps K cA g (ds.set n d) (vs.set n v)
  | [], vs, n, h => by simp only [Reps] at h; subst h; exact Reps.nil
  | x :: ds, vs, n, h => by
    simp only [Reps] at h
    obtain ⟨w, us, rfl, p, t⟩ := h
    cases n with
    | zero => exact Reps.cons q t
    | succ n => exact Reps.cons p (Reps.set q n t)

/-- an object that may change -/
def OvR (K : PySem.W.Frag) (cA : Nat → Addr) (g : Gh) : OV → HO → Prop
  | .lst xs, h => ∃ vs, h = .lst vs ∧ Reps K cA g xs vs
  | .dct ks ws, h => ∃ vs, h = .dK ((ks.map kOf).zip vs) ∧ ks.length = vs.length ∧ ks.all okK = true ∧ ks.Nodup ∧ Reps K cA g ws vs
  | .obj c ns ws, h => ∃ dx vs, h = .ins (cA c) dx (ns.zip vs) ∧ ns.length = vs.length ∧ Reps K cA g ws vs
theorem OvR.mono {g g' : Gh} (l : Le g g') : ∀ {o : OV} {h : HO}, OvR K cA g o h → OvR K cA g' o h
  | .lst xs, h, q => by obtain ⟨vs, e, r⟩ := q; exact ⟨vs, e, Reps.mono l _ _ r⟩
  | .dct ks ws, h, q => by obtain ⟨vs, e, h1, h2, h3, r⟩ := q; exact ⟨vs, e, h1, h2, h3, Reps.mono l _ _ r⟩
  | .obj c ns ws, h, q => by obtain ⟨dx, vs, e, h1, r⟩ := q; exact ⟨dx, vs, e, h1, Reps.mono l _ _ r⟩

/-- the store lies in the heap -/
structure RelS (K : PySem.W.Frag) (cA : Nat → Addr) (g : Gh) (S : Sto) (H : Hp) : Prop where
  hF : ∀ a o, g.F a = some o → H a = some o
  hR : ∀ a o, g.R a = some o → H a = some o
  dis : ∀ a o, g.F a = some o → g.R a = none
  len : g.π.length = S.length
  st : ∀ (n : Nat) o, S[n]? = some o → ∃ a h, g.π[n]? = some a ∧ H a = some h ∧ OvR K cA g o h ∧ g.F a = none ∧ g.R a = none
  inj : ∀ (n m : Nat) a, g.π[n]? = some a → g.π[m]? = some a → n = m
def Gh.lay (g : Gh) (p : Addr) (o : HO) : Gh := { g with F := upd g.F p o }
theorem Le.lay {g : Gh} {p : Addr} {o : HO} (h : g.F p = none) : Le g (g.lay p o) :=
  ⟨fun a u e => by show upd g.F p o a = some u; rw [upd_ne (ne_of_none e h)]; exact e, fun _ _ e => e, rfl⟩
section
variable {g : Gh} {S : Sto} {H : Hp} {p : Addr} {o : HO}
theorem RelS.noF (r : RelS K cA g S H) (h : H p = none) : g.F p = none := by
  cases e : g.F p with
  | none => rfl
  | some u => rw [r.hF _ _ e] at h; cases h
theorem RelS.noR (r : RelS K cA g S H) (h : H p = none) : g.R p = none := by
  cases e : g.R p with
  | none => rfl
  | some u => rw [r.hR _ _ e] at h; cases h
/-- a new object that never changes -/
theorem RelS.lay (r : RelS K cA g S H) (h : H p = none) : RelS K cA (g.lay p o) S (upd H p o) := by
  refine ⟨fun a u e => ?_, fun a u e => ?_, fun a u e => ?_, r.len, fun n u e => ?_, r.inj⟩
  · by_cases q : a = p
    · subst q; have e : upd g.F a o a = some u := e; rw [upd_same] at e ⊢; exact e
    · have e : upd g.F p o a = some u := e; rw [upd_ne q] at e ⊢; exact r.hF _ _ e
  · have e : g.R a = some u := e
    rw [upd_ne (ne_of_none (r.hR _ _ e) h)]; exact r.hR _ _ e
  · show g.R a = none
    by_cases q : a = p
    · subst q; exact r.noR h
    · have e : upd g.F p o a = some u := e; rw [upd_ne q] at e; exact r.dis _ _ e
  · obtain ⟨a, w, h1, h2, h3, h4, h5⟩ := r.st n u e
    have q : a ≠ p := ne_of_none h2 h
    exact ⟨a, w, h1, by rw [upd_ne q]; exact h2, h3.mono (Le.lay (r.noF h)), by show upd g.F p o a = none; rw [upd_ne q]; exact h4, h5⟩
theorem RelS.leLay (r : RelS K cA g S H) (h : H p = none) : Le g (g.lay p o) := Le.lay (r.noF h)
theorem lay_at : (g.lay p o).F p = some o := upd_same
/-- a new shared object -/
def Gh.push (g : Gh) (p : Addr) : Gh := { g with π := g.π ++ [p] }
theorem Le.push : Le g (g.push p) := ⟨fun _ _ e => e, fun n a e => by
  show (g.π ++ [p])[n]? = some a
  rw [List.getElem?_append_left (List.getElem?_eq_some_iff.mp e).1]; exact e, rfl⟩
theorem RelS.push {w : OV} (r : RelS K cA g S H) (h : H p = none) (q : OvR K cA g w o) : RelS K cA (g.push p) (S ++ [w]) (upd H p o) := by
  have out : ∀ (n : Nat) a, g.π[n]? = some a → a ≠ p := fun n a e => by
    have hl := (List.getElem?_eq_some_iff.mp e).1
    obtain ⟨a', w', h1, h2, _⟩ := r.st n (S[n]'(by rw [← r.len]; exact hl)) (by simp [← r.len, hl])
    rw [e] at h1; cases h1
    exact ne_of_none h2 h
  refine ⟨fun a u e => ?_, fun a u e => ?_, r.dis, ?_, fun n u e => ?_, fun n m a e1 e2 => ?_⟩
  · rw [upd_ne (ne_of_none (r.hF _ _ e) h)]; exact r.hF _ _ e
  · rw [upd_ne (ne_of_none (r.hR _ _ e) h)]; exact r.hR _ _ e
  · show (g.π ++ [p]).length = _
    rw [List.length_append, List.length_append, r.len]; rfl
  · by_cases hn : n < S.length
    · rw [List.getElem?_append_left hn] at e
      obtain ⟨a, w', h1, h2, h3, h4, h5⟩ := r.st n u e
      exact ⟨a, w', Le.push.π _ _ h1, by rw [upd_ne (ne_of_none h2 h)]; exact h2, h3.mono Le.push, h4, h5⟩
    · have en : n = S.length := by
        have := (List.getElem?_eq_some_iff.mp e).1
        rw [List.length_append, List.length_singleton] at this
        omega
      subst en
      rw [List.getElem?_append_right (Nat.le_refl _), Nat.sub_self] at e
      simp only [List.getElem?_cons_zero, Option.some.injEq] at e
      subst e
      refine ⟨p, o, ?_, upd_same, q.mono Le.push, r.noF h, r.noR h⟩
      show (g.π ++ [p])[S.length]? = some p
      rw [← r.len, List.getElem?_append_right (Nat.le_refl _), Nat.sub_self]; rfl
  · have cs : ∀ {n : Nat} {a : Addr}, (g.π ++ [p])[n]? = some a → (n < g.π.length ∧ g.π[n]? = some a) ∨ (n = g.π.length ∧ a = p) := fun {n a} e => by
      by_cases hn : n < g.π.length
      · rw [List.getElem?_append_left hn] at e; exact .inl ⟨hn, e⟩
      · have hl := (List.getElem?_eq_some_iff.mp e).1
        rw [List.length_append, List.length_singleton] at hl
        have en : n = g.π.length := by omega
        subst en
        rw [List.getElem?_append_right (Nat.le_refl _), Nat.sub_self] at e
        simp only [List.getElem?_cons_zero, Option.some.injEq] at e
        exact .inr ⟨rfl, e.symm⟩
    rcases cs e1 with ⟨a1, b1⟩ | ⟨a1, b1⟩ <;> rcases cs e2 with ⟨a2, b2⟩ | ⟨a2, b2⟩
    · exact r.inj n m a b1 b2
    · exact absurd b2 (out _ _ b1)
    · exact absurd b1 (out _ _ b2)
    · rw [a1, a2]
/-- a shared object is changed -/
theorem RelS.put {n : Nat} {a : Addr} {w : OV} {o' : HO} (r : RelS K cA g S H) (hn : g.π[n]? = some a) (q : OvR K cA g w o') : RelS K cA g (S.set n w) (upd H a o') := by
  have hl : n < S.length := by rw [← r.len]; exact (List.getElem?_eq_some_iff.mp hn).1
  obtain ⟨a', h', h1, h2, h3, h4, h5⟩ := r.st n S[n] (by simp [hl])
  rw [hn] at h1; cases h1
  refine ⟨fun b u e => ?_, fun b u e => ?_, r.dis, by rw [List.length_set]; exact r.len, fun m u e => ?_, r.inj⟩
  · rw [upd_ne (fun z => by subst z; rw [h4] at e; cases e)]; exact r.hF _ _ e
  · rw [upd_ne (fun z => by subst z; rw [h5] at e; cases e)]; exact r.hR _ _ e
  · by_cases hm : m = n
    · subst hm
      rw [List.getElem?_set_self hl] at e; cases e
      exact ⟨a, o', hn, upd_same, q, h4, h5⟩
    · rw [List.getElem?_set_ne (Ne.symm hm)] at e
      obtain ⟨b, w', k1, k2, k3, k4, k5⟩ := r.st m u e
      refine ⟨b, w', k1, ?_, k3, k4, k5⟩
      rw [upd_ne (fun z => by subst z; exact hm (r.inj _ _ _ k1 hn))]; exact k2
end

/-- the slots -/
structure RelE (K : PySem.W.Frag) (cA : Nat → Addr) (g : Gh) (ρ : Env) (σ : St) : Prop where
  len : ρ.length = σ.length
  val : ∀ (i : Nat) d, ρ[i]? = some (.val d) → ∃ v, σ[i]? = some (some v) ∧ Rep K cA g d v
  own : ∀ (i : Nat) o, ρ[i]? = some (.own o) → ∃ a h, σ[i]? = some (some (.ref a)) ∧ g.R a = some h ∧ OvR K cA g o h
theorem RelE.mono {g g' : Gh} {ρ : Env} {σ : St} (r : RelE K cA g ρ σ) (l : Le g g') : RelE K cA g' ρ σ :=
  ⟨r.len, fun i d e => by obtain ⟨v, h1, h2⟩ := r.val i d e; exact ⟨v, h1, Rep.mono l _ _ h2⟩, fun i o e => by
    obtain ⟨a, h, h1, h2, h3⟩ := r.own i o e
    exact ⟨a, h, h1, by rw [l.R]; exact h2, h3.mono l⟩⟩

/-! ### what a run asks of the heap's side -/
/-- an exception in the air -/
def XRep (K : PySem.W.Frag) (cA : Nat → Addr) (g : Gh) (x : DV) (cls : Value) (d : Option Addr) : Prop :=
  ∃ c ns ws vs, x = .exn c ns ws ∧ cls = .ref (cA c) ∧ ns.length = vs.length ∧ XdAt g.F d ns vs ∧ Reps K cA g ws vs
def Post {α β : Type} (K : PySem.W.Frag) (cA : Nat → Addr) (rp : Gh → α → β → Prop) (g : Gh) (r : Rs α) (Q : β → Hp → Prop) (E : XK) : Prop := match r with
  | .ok a S' => ∀ g' b H', Le g g' → RelS K cA g' S' H' → rp g' a b → Q b H'
  | .ex x S' => ∀ g' H' cls d, Le g g' → RelS K cA g' S' H' → XRep K cA g' x cls d → E cls d H'
  | .bad => False
theorem Post.mono {α β : Type} {rp : Gh → α → β → Prop} {g g1 : Gh} {r : Rs α} {Q : β → Hp → Prop} {E : XK} (l : Le g g1) (h : Post K cA rp g r Q E) : Post K cA rp g1 r Q E := by
  cases r with
  | ok a S' => exact fun g' b H' l' => h g' b H' (l.trans l')
  | ex x S' => exact fun g' H' cls d l' => h g' H' cls d (l.trans l')
  | bad => exact h
theorem Post.bind {α β γ δ : Type} {rp : Gh → α → β → Prop} {rq : Gh → γ → δ → Prop} {g : Gh} {S : Sto} {m : M α} {k : α → M γ} {Q : δ → Hp → Prop} {E : XK} (h : Post K cA rq g ((m >>= k) S) Q E) :
    Post K cA rp g (m S) (fun b H1 => ∃ g1 S1 a, Le g g1 ∧ RelS K cA g1 S1 H1 ∧ rp g1 a b ∧ Post K cA rq g1 (k a S1) Q E) E := by
  have h : Post K cA rq g (M.bind m k S) Q E := h
  unfold M.bind at h
  cases e : m S with
  | ok a S' =>
    rw [e] at h
    exact fun g' b H' l r q => ⟨g', S', a, l, r, q, h.mono l⟩
  | ex x S' => rw [e] at h; exact h
  | bad => rw [e] at h; exact h
/-- a part of a program, run at related slots and stores -/
def Ab {α β : Type} (K : PySem.W.Frag) (cA : Nat → Addr) (rp : Gh → α → β → Prop) (m : Env → M α) (E : XK) : St → Hp → (β → Hp → Prop) → Prop := fun σ H Q =>
  ∃ g ρ S, RelE K cA g ρ σ ∧ RelS K cA g S H ∧ Post K cA rp g (m ρ S) Q E
end
end GL
end
section
set_option Elab.async false
set_option linter.all false
set_option maxRecDepth 100000
/-! The primitive operations, by values. -/
namespace GL
open PySem L2 PySem.Spec PyProof.Rows

section
variable {X : Cx} {cA : Nat → Addr} {E : XK}
/-- a binary operation -/
def A2 (X : Cx) (cA : Nat → Addr) (f : DV → DV → M DV) (E : XK) : R2 := fun x y H Q =>
  ∃ g S dx dy, RelS X.K cA g S H ∧ Rep X.K cA g dx x ∧ Rep X.K cA g dy y ∧ Post X.K cA (Rep X.K cA) g (f dx dy S) Q E
def A1 (X : Cx) (cA : Nat → Addr) (f : DV → M DV) (E : XK) : V → Hp → VK → Prop := fun x H Q =>
  ∃ g S dx, RelS X.K cA g S H ∧ Rep X.K cA g dx x ∧ Post X.K cA (Rep X.K cA) g (f dx S) Q E
def AN (X : Cx) (cA : Nat → Addr) (f : List DV → M DV) (E : XK) : List V → Hp → VK → Prop := fun xs H Q =>
  ∃ g S ds, RelS X.K cA g S H ∧ Reps X.K cA g ds xs ∧ Post X.K cA (Rep X.K cA) g (f ds S) Q E

theorem sizeL : LIM = sizeLine := by rw [sizeLine_eq]; rfl
theorem Post.here {g : Gh} {S : Sto} {H : Hp} {d : DV} {v : V} {K : PySem.W.Frag} {Q : VK} (p : Post K cA (Rep K cA) g (.ok d S) Q E) (rs : RelS K cA g S H) (r : Rep K cA g d v) : Q v H :=
  p g v H Le.rfl' rs r
theorem Post.tup {g : Gh} {S : Sto} {H : Hp} {ds : List DV} {vs : List V} {K : PySem.W.Frag} {Q : VK} (p : Post K cA (Rep K cA) g (.ok (.tup ds) S) Q E) (rs : RelS K cA g S H) (r : Reps K cA g ds vs) : ∀ a, H a = none → Q (.ref a) (upd H a (.tup vs)) := fun a h =>
  p (g.lay a (.tup vs)) _ _ (rs.leLay h) (rs.lay h) (by
    simp only [Rep]
    exact ⟨a, vs, rfl, SqT.of lay_at, Reps.mono (rs.leLay h) _ _ r⟩)
theorem Post.lst {g : Gh} {S : Sto} {H : Hp} {ds : List DV} {vs : List V} {K : PySem.W.Frag} {Q : VK} (p : Post K cA (Rep K cA) g (.ok (.lst ds) S) Q E) (rs : RelS K cA g S H) (r : Reps K cA g ds vs) : ∀ a, H a = none → Q (.ref a) (upd H a (.lst vs)) := fun a h =>
  p (g.lay a (.lst vs)) _ _ (rs.leLay h) (rs.lay h) (by
    simp only [Rep]
    exact ⟨a, vs, rfl, lay_at, Reps.mono (rs.leLay h) _ _ r⟩)
theorem Rep.int {K : PySem.W.Frag} {g : Gh} {i : Int} : Rep K cA g (.int i) (.int i) := by simp only [Rep]
theorem Rep.bl {K : PySem.W.Frag} {g : Gh} {i : Bool} : Rep K cA g (.bl i) (.bl i) := by simp only [Rep]
theorem Rep.non {K : PySem.W.Frag} {g : Gh} : Rep K cA g .non .non := by simp only [Rep]
theorem Rep.str {K : PySem.W.Frag} {g : Gh} {x : List Nat} (h : okS x = true) : Rep K cA g (.str x) (.str (mkS x)) := by simp only [Rep]; exact ⟨trivial, h⟩
theorem mkS_len (x : List Nat) : (mkS x).length = x.length := by unfold mkS Str.length; simp
theorem mkS_app (x y : List Nat) : mkS x ++ mkS y = mkS (x ++ y) := by
  show Str.append _ _ = _
  unfold Str.append mkS
  simp
theorem okS_app {x y : List Nat} (h : okS x = true) (k : okS y = true) (l : x.length + y.length ≤ LIM) : okS (x ++ y) = true := by
  unfold okS at *
  simp only [Bool.and_eq_true, decide_eq_true_eq] at *
  exact ⟨by rw [List.all_append, h.1, k.1]; rfl, by rw [List.length_append]; exact l⟩
theorem okS_len {x : List Nat} (h : okS x = true) : x.length ≤ sizeLine := by
  unfold okS at h
  simp only [Bool.and_eq_true, decide_eq_true_eq] at h
  rw [sizeLine_eq]
  exact h.2
theorem okS_sub {x y : List Nat} (h : okS x = true) (k : ∀ c ∈ y, c ∈ x) (l : y.length ≤ x.length) : okS y = true := by
  unfold okS at *
  simp only [Bool.and_eq_true, decide_eq_true_eq, List.all_eq_true] at *
  exact ⟨fun c hc => h.1 c (k c hc), Nat.le_trans l h.2⟩

theorem Reps.rep {K : PySem.W.Frag} {g : Gh} {ds : List DV} {vs : List V} (r : Reps K cA g ds vs) : ∀ n : Nat, Reps K cA g (List.replicate n ds).flatten (List.replicate n vs).flatten
  | 0 => Reps.nil
  | n + 1 => by
    rw [List.replicate_succ, List.replicate_succ, List.flatten_cons, List.flatten_cons]
    exact r.app (Reps.rep r n)
theorem orAdd : OpR X (binaryOp .Add) (A2 X cA (binD .add) E) := by
  intro pins s σ H x y v u Q I rx ry h
  obtain ⟨g, S, dx, dy, rs, r1, r2, p⟩ := h
  cases dx <;> cases dy <;> try exact False.elim p
  · simp only [Rep] at r1 r2
    subst r1 r2
    exact op_add pins s σ H _ _ v u Q I rx ry ⟨_, _, rfl, rfl, p.here rs Rep.int⟩
  · rename_i a b
    simp only [Rep] at r1 r2
    obtain ⟨rfl, k1⟩ := r1
    obtain ⟨rfl, k2⟩ := r2
    have p : Post X.K cA (Rep X.K cA) g (if a.length + b.length ≤ LIM then .ok (.str (a ++ b)) S else .bad) Q E := p
    split at p
    · rename_i hl
      refine op_add_str pins s σ H _ _ v u Q I rx ry ⟨_, _, rfl, rfl, by rw [mkS_len, mkS_len, ← sizeL]; exact hl, ?_⟩
      rw [mkS_app]
      exact p.here rs (Rep.str (okS_app k1 k2 hl))
    · exact False.elim p
  · rename_i a b
    simp only [Rep] at r1 r2
    obtain ⟨a1, vs, rfl, q1, t1⟩ := r1
    obtain ⟨a2, ws, rfl, q2, t2⟩ := r2
    have p : Post X.K cA (Rep X.K cA) g (if a.length + b.length ≤ LIM then .ok (.tup (a ++ b)) S else .bad) Q E := p
    split at p
    · rename_i hl
      refine op_catA pins s σ H _ _ v u Q I rx ry ⟨a1, a2, vs, ws, rfl, rfl, sqT_mono q1 rs.hF, sqT_mono q2 rs.hF, by rw [← t1.length, ← t2.length, ← sizeL]; exact hl, ?_⟩
      refine ⟨fun e => ?_, fun _ e => ?_, fun _ _ => p.tup rs (t1.app t2)⟩
      · subst e
        have ea : a = [] := List.length_eq_zero_iff.mp (by rw [t1.length]; rfl)
        subst ea
        exact p.here rs (by simp only [Rep]; exact ⟨a2, ws, rfl, q2, by simpa using t2⟩)
      · subst e
        have eb : b = [] := List.length_eq_zero_iff.mp (by rw [t2.length]; rfl)
        subst eb
        exact p.here rs (by simp only [Rep]; exact ⟨a1, vs, rfl, q1, by simpa using t1⟩)
    · exact False.elim p
  · rename_i a b
    simp only [Rep] at r1 r2
    obtain ⟨a1, vs, rfl, q1, t1⟩ := r1
    obtain ⟨a2, ws, rfl, q2, t2⟩ := r2
    have p : Post X.K cA (Rep X.K cA) g (if a.length + b.length ≤ LIM then .ok (.lst (a ++ b)) S else .bad) Q E := p
    split at p
    · rename_i hl
      exact op_cat pins s σ H _ _ v u Q I rx ry ⟨a1, a2, vs, ws, rfl, rfl, rs.hF _ _ q1, rs.hF _ _ q2, by rw [← t1.length, ← t2.length, ← sizeL]; exact hl, p.lst rs (t1.app t2)⟩
    · exact False.elim p

theorem orSub : OpR X (binaryOp .Sub) (A2 X cA (binD .sub) E) := by
  intro pins s σ H x y v u Q I rx ry h
  obtain ⟨g, S, dx, dy, rs, r1, r2, p⟩ := h
  cases dx <;> cases dy <;> try exact False.elim p
  simp only [Rep] at r1 r2
  subst r1 r2
  exact op_sub pins s σ H _ _ v u Q I rx ry ⟨_, _, rfl, rfl, p.here rs Rep.int⟩
theorem orMul : OpR X (binaryOp .Mult) (A2 X cA (binD .mul) E) := by
  intro pins s σ H x y v u Q I rx ry h
  obtain ⟨g, S, dx, dy, rs, r1, r2, p⟩ := h
  cases dx <;> cases dy <;> try exact False.elim p
  rotate_left
  · rename_i xs j
    simp only [Rep] at r1 r2
    obtain ⟨a1, vs, rfl, q1, t1⟩ := r1
    subst r2
    have p : Post X.K cA (Rep X.K cA) g (if 2 ≤ j ∧ j ≤ 1000 ∧ xs.length ≤ 1000 ∧ 0 < xs.length then .ok (.tup (List.replicate j.toNat xs).flatten) S else .bad) Q E := p
    split at p
    · rename_i hm
      obtain ⟨h1, h2, h3, h4⟩ := hm
      rw [t1.length] at h3 h4
      exact op_repT pins s σ H _ _ v u Q I rx ry ⟨a1, j, vs, rfl, rfl, sqT_mono q1 rs.hF, fun z => (by subst z; simp at h4), h1, h2, h3, p.tup rs (t1.rep _)⟩
    · exact False.elim p
  · rename_i xs j
    simp only [Rep] at r1 r2
    obtain ⟨a1, vs, rfl, q1, t1⟩ := r1
    subst r2
    have p : Post X.K cA (Rep X.K cA) g (if 0 ≤ j ∧ j ≤ 1000 ∧ xs.length * j.toNat ≤ LIM then .ok (.lst (List.replicate j.toNat xs).flatten) S else .bad) Q E := p
    split at p
    · rename_i hm
      obtain ⟨h1, h2, h3⟩ := hm
      exact op_rep pins s σ H _ _ v u Q I rx ry ⟨a1, j, vs, rfl, rfl, rs.hF _ _ q1, by omega, by omega, by rw [← t1.length, ← sizeL]; exact h3, p.lst rs (t1.rep _)⟩
    · exact False.elim p
  rename_i i j
  simp only [Rep] at r1 r2
  subst r1 r2
  have p : Post X.K cA (Rep X.K cA) g (if mulOk i j then .ok (.int (i * j)) S else .bad) Q E := p
  split at p
  · rename_i hm
    refine op_mul pins s σ H _ _ v u Q I rx ry ⟨_, _, rfl, rfl, ?_, p.here rs Rep.int⟩
    unfold mulOk at hm
    simp only [Bool.or_eq_true, Bool.and_eq_true, decide_eq_true_eq] at hm
    exact hm
  · exact False.elim p
theorem orFdiv : OpR X (binaryOp .FloorDiv) (A2 X cA (binD .fdiv) E) := by
  intro pins s σ H x y v u Q I rx ry h
  obtain ⟨g, S, dx, dy, rs, r1, r2, p⟩ := h
  cases dx <;> cases dy <;> try exact False.elim p
  rename_i i j
  simp only [Rep] at r1 r2
  subst r1 r2
  have p : Post X.K cA (Rep X.K cA) g (if 0 < j ∧ j < 1073741824 then .ok (.int (i / j)) S else .bad) Q E := p
  split at p
  · rename_i hm
    exact op_fdiv pins s σ H _ _ v u Q I rx ry ⟨_, _, rfl, rfl, hm, p.here rs Rep.int⟩
  · exact False.elim p
theorem orMod : OpR X (binaryOp .Mod) (A2 X cA (binD .mod) E) := by
  intro pins s σ H x y v u Q I rx ry h
  obtain ⟨g, S, dx, dy, rs, r1, r2, p⟩ := h
  cases dx <;> cases dy <;> try exact False.elim p
  rename_i i j
  simp only [Rep] at r1 r2
  subst r1 r2
  have p : Post X.K cA (Rep X.K cA) g (if 0 < j then .ok (.int (i % j)) S else .bad) Q E := p
  split at p
  · rename_i hm
    exact op_mod pins s σ H _ _ v u Q I rx ry ⟨_, _, rfl, rfl, hm, p.here rs Rep.int⟩
  · exact False.elim p
theorem orPow : OpR X (binaryOp .Pow) (A2 X cA (binD .pow) E) := by
  intro pins s σ H x y v u Q I rx ry h
  obtain ⟨g, S, dx, dy, rs, r1, r2, p⟩ := h
  cases dx <;> cases dy <;> try exact False.elim p
  rename_i i j
  simp only [Rep] at r1 r2
  subst r1 r2
  have p : Post X.K cA (Rep X.K cA) g (if 0 ≤ j ∧ j ≤ 1000000 ∧ i.natAbs < 2 ^ 64 then .ok (.int (i ^ j.toNat)) S else .bad) Q E := p
  split at p
  · rename_i hm
    exact op_pow pins s σ H _ _ v u Q I rx ry ⟨_, _, rfl, rfl, hm, p.here rs Rep.int⟩
  · exact False.elim p
def pyB : Bop → Operator
  | .add => .Add | .sub => .Sub | .mul => .Mult | .fdiv => .FloorDiv | .mod => .Mod | .pow => .Pow
theorem orBin (op : Bop) : OpR X (binaryOp (pyB op)) (A2 X cA (binD op) E) := by
  cases op
  · exact orAdd
  · exact orSub
  · exact orMul
  · exact orFdiv
  · exact orMod
  · exact orPow

/-! ### data -/
def Plain : DV → Bool
  | .dct _ _ => false | .obj _ _ _ => false | .exn _ _ _ => false | .loc _ => false | .scr _ => false
  | _ => true
mutual
def pd : DV → PyData
  | .non => .none
  | .bl b => .bool b
  | .int i => .int i
  | .str x => .str (mkS x)
  | .tup xs => .tuple (pds xs)
  | .lst xs => .list (pds xs)
  | _ => .none
def pds : List DV → List PyData
  | [] => []
  | x :: xs => pd x :: pds xs
end
mutual
def plain : DV → Bool
  | .non => true | .bl _ => true | .int _ => true | .str _ => true
  | .tup xs => plains xs
  | .lst xs => plains xs
  | _ => false
def plains : List DV → Bool
  | [] => true
  | x :: xs => plain x && plains xs
end
theorem mkS_beq (x y : List Nat) : (mkS x == mkS y) = (x == y) := by
  by_cases h : x = y
  · subst h; simp
  · have : mkS x ≠ mkS y := fun e => h (by unfold mkS at e; simpa using e)
    rw [beq_eq_false_iff_ne.mpr this, beq_eq_false_iff_ne.mpr h]
mutual
theorem eqv_pd : ∀ a b : DV, plain a = true → plain b = true → eqv a b = PyData.eqv (pd a) (pd b) := by
  intro a b ha hb
  cases a <;> simp only [plain, Bool.false_eq_true] at ha <;> cases b <;> simp only [plain, Bool.false_eq_true] at hb <;>
    first
    | (simp only [eqv, pd, PyData.eqv]; done)
    | (simp only [eqv, pd, PyData.eqv]; exact (mkS_beq _ _).symm)
    | (simp only [eqv, pd, PyData.eqv]; exact eqvs_pd _ _ ha hb)
theorem eqvs_pd : ∀ a b : List DV, plains a = true → plains b = true → eqvs a b = PyData.eqvAll (pds a) (pds b)
  | [], [], _, _ => by simp only [eqvs, pds, PyData.eqvAll]
  | [], _ :: _, _, _ => by simp only [eqvs, pds, PyData.eqvAll]
  | _ :: _, [], _, _ => by simp only [eqvs, pds, PyData.eqvAll]
  | x :: xs, y :: ys, ha, hb => by
    simp only [plains, Bool.and_eq_true] at ha hb
    simp only [eqvs, pds, PyData.eqvAll]
    rw [eqv_pd x y ha.1 hb.1, eqvs_pd xs ys ha.2 hb.2]
end
/-- a value that reads as d -/
structure Rds (K : PySem.W.Frag) (H : Hp) (n : Nat) (d : DV) (v : V) : Prop where
  dp : Dp K H v (pd d)
  pl : plain d = true
  lay : (pd d).canLay0 = true
  dep : (pd d).depth ≤ n
structure Rdss (K : PySem.W.Frag) (H : Hp) (n : Nat) (d : List DV) (v : List V) : Prop where
  dp : DpAll K H v (pds d)
  pl : plains d = true
  lay : PyData.canLayAll0 (pds d) = true
  dep : PyData.depthAll (pds d) ≤ n
theorem strOk_of {x : List Nat} (h : okS x = true) : PyData.strOk (mkS x) = true := by
  unfold PyData.strOk mkS
  unfold okS at h
  simp only [Bool.and_eq_true] at h
  simpa using h.1
theorem rsvs_ok {K : PySem.W.Frag} {g : Gh} {S : Sto} {H : Hp} {n : Nat} (ih : ∀ (d d' : DV) (v : V), rsv S n d = some d' → Rep K cA g d v → Rds K H n d' v) :
    ∀ (ds ds' : List DV) (vs : List V), mapO (rsv S n) ds = some ds' → Reps K cA g ds vs → Rdss K H n ds' vs
  | [], ds', vs, e, r => by
    simp only [mapO, Option.some.injEq] at e
    subst e
    simp only [Reps] at r
    subst r
    exact ⟨DpAll.nil, rfl, by simp only [pds, PyData.canLayAll0], by simp only [pds, PyData.depthAll]; omega⟩
  | d :: ds, ds', vs, e, r => by
    simp only [Reps] at r
    obtain ⟨w, ws, rfl, q, t⟩ := r
    simp only [mapO] at e
    cases e1 : rsv S n d with
    | none => rw [e1] at e; cases e
    | some d1 =>
      rw [e1] at e
      cases e2 : mapO (rsv S n) ds with
      | none => rw [e2] at e; cases e
      | some ds1 =>
        rw [e2] at e
        simp only [Option.some.injEq] at e
        subst e
        obtain ⟨a1, a2, a3, a4⟩ := ih d d1 w e1 q
        obtain ⟨b1, b2, b3, b4⟩ := rsvs_ok ih ds ds1 ws e2 t
        refine ⟨DpAll.cons a1 b1, by simp only [plains, a2, b2, Bool.and_self], by simp only [pds, PyData.canLayAll0, a3, b3, Bool.and_self], ?_⟩
        simp only [pds, PyData.depthAll]
        omega
theorem rsv_ok {K : PySem.W.Frag} {g : Gh} {S : Sto} {H : Hp} (rs : RelS K cA g S H) : ∀ (n : Nat) (d d' : DV) (v : V), rsv S n d = some d' → Rep K cA g d v → Rds K H n d' v := by
  intro n
  induction n with
  | zero => intro d d' v e; simp only [rsv] at e; cases e
  | succ n ih =>
    intro d d' v e r
    cases d <;> simp only [rsv] at e
    · cases e; simp only [Rep] at r; subst r; exact ⟨Dp.non, rfl, by simp only [pd, PyData.canLay0], by simp only [pd, PyData.depth]; omega⟩
    · cases e; simp only [Rep] at r; subst r; exact ⟨Dp.bl _, rfl, by simp only [pd, PyData.canLay0], by simp only [pd, PyData.depth]; omega⟩
    · cases e; simp only [Rep] at r; subst r; exact ⟨Dp.int _, rfl, by simp only [pd, PyData.canLay0], by simp only [pd, PyData.depth]; omega⟩
    · cases e; simp only [Rep] at r; obtain ⟨rfl, k⟩ := r; exact ⟨Dp.str _, rfl, by simp only [pd, PyData.canLay0]; exact strOk_of k, by simp only [pd, PyData.depth]; omega⟩
    · rename_i xs
      cases e1 : mapO (rsv S n) xs with
      | none => rw [e1] at e; cases e
      | some ys =>
        rw [e1] at e
        cases e
        simp only [Rep] at r
        obtain ⟨a, vs, rfl, q, t⟩ := r
        obtain ⟨b1, b2, b3, b4⟩ := rsvs_ok (H := H) ih xs ys vs e1 t
        exact ⟨Dp.tup (sqT_mono q rs.hF) b1, by simp only [plain]; exact b2, by simp only [pd, PyData.canLay0]; exact b3, by simp only [pd, PyData.depth]; omega⟩
    · rename_i xs
      cases e1 : mapO (rsv S n) xs with
      | none => rw [e1] at e; cases e
      | some ys =>
        rw [e1] at e
        cases e
        simp only [Rep] at r
        obtain ⟨a, vs, rfl, q, t⟩ := r
        obtain ⟨b1, b2, b3, b4⟩ := rsvs_ok (H := H) ih xs ys vs e1 t
        exact ⟨Dp.lst (SqL.of (rs.hF _ _ q)) b1, by simp only [plain]; exact b2, by simp only [pd, PyData.canLay0]; exact b3, by simp only [pd, PyData.depth]; omega⟩
    · cases e
    · cases e
    · cases e
    · rename_i k
      cases e0 : S[k]? with
      | none => rw [e0] at e; cases e
      | some o =>
        rw [e0] at e
        cases o with
        | dct _ _ => cases e
        | obj _ _ _ => cases e
        | lst xs =>
          simp only [] at e
          cases e1 : mapO (rsv S n) xs with
          | none => rw [e1] at e; cases e
          | some ys =>
            rw [e1] at e
            cases e
            simp only [Rep] at r
            obtain ⟨a, q, rfl⟩ := r
            obtain ⟨a', h, h1, h2, ⟨vs, rfl, t⟩, _, _⟩ := rs.st k _ e0
            rw [q] at h1; cases h1
            obtain ⟨b1, b2, b3, b4⟩ := rsvs_ok (H := H) ih xs ys vs e1 t
            exact ⟨Dp.lst (SqL.of h2) b1, by simp only [plain]; exact b2, by simp only [pd, PyData.canLay0]; exact b3, by simp only [pd, PyData.depth]; omega⟩
    · cases e
theorem Rds.shaped {K : PySem.W.Frag} {H : Hp} {d : DV} {v : V} (h : Rds K H FU d v) : SeqAt.shaped (pd d) = true := by
  unfold SeqAt.shaped
  rw [h.lay, decide_eq_true (by have := h.dep; unfold FU at this; omega)]
  rfl

/-! ### comparisons -/
theorem Post.bndB {K : PySem.W.Frag} {g : Gh} {S : Sto} {m : M Bool} {f : Bool → Bool} {Q : VK} (h : Post K cA (Rep K cA) g ((m >>= fun r => (pure (.bl (f r)) : M DV)) S) Q E) {b : Bool} (e : m S = .ok b S) : Post K cA (Rep K cA) g (.ok (.bl (f b)) S) Q E := by
  have h : Post K cA (Rep K cA) g (M.bind m (fun r => M.pure (.bl (f r))) S) Q E := h
  unfold M.bind at h
  rw [e] at h
  exact h
theorem Post.badB {K : PySem.W.Frag} {g : Gh} {S : Sto} {m : M Bool} {f : Bool → Bool} {Q : VK} (h : Post K cA (Rep K cA) g ((m >>= fun r => (pure (.bl (f r)) : M DV)) S) Q E) (e : m S = .bad) : False := by
  have h : Post K cA (Rep K cA) g (M.bind m (fun r => M.pure (.bl (f r))) S) Q E := h
  unfold M.bind at h
  rw [e] at h
  exact h
theorem eqD_ok {S : Sto} {a b : DV} : (∃ x y, rsv S FU a = some x ∧ rsv S FU b = some y ∧ eqD a b S = .ok (eqv x y) S) ∨ eqD a b S = .bad := by
  unfold eqD
  cases e1 : rsv S FU a <;> cases e2 : rsv S FU b <;> simp
theorem orEq (hu : X.A.units + 64 < cLine) : OpR X (compareOp .Eq) (A2 X cA (cmpD .eq) E) := by
  intro pins s σ H x y v u Q I rx ry h
  obtain ⟨g, S, dx, dy, rs, r1, r2, p⟩ := h
  rcases eqD_ok (S := S) (a := dx) (b := dy) with ⟨x', y', e1, e2, e⟩ | e
  · have a1 := rsv_ok rs _ _ _ _ e1 r1
    have a2 := rsv_ok rs _ _ _ _ e2 r2
    have q := (Post.bndB (f := id) p e).here rs Rep.bl
    exact op_eqD hu pins s σ H _ _ v u Q I rx ry ⟨_, _, a1.dp, a2.dp, a1.shaped, a2.shaped, by rw [← eqv_pd _ _ a1.pl a2.pl]; exact q⟩
  · exact (Post.badB (f := id) p e).elim
theorem orNe (hu : X.A.units + 64 < cLine) : OpR X (compareOp .NotEq) (A2 X cA (cmpD .ne) E) := by
  intro pins s σ H x y v u Q I rx ry h
  obtain ⟨g, S, dx, dy, rs, r1, r2, p⟩ := h
  rcases eqD_ok (S := S) (a := dx) (b := dy) with ⟨x', y', e1, e2, e⟩ | e
  · have a1 := rsv_ok rs _ _ _ _ e1 r1
    have a2 := rsv_ok rs _ _ _ _ e2 r2
    have q := (Post.bndB (f := fun r => !r) p e).here rs Rep.bl
    exact op_neD hu pins s σ H _ _ v u Q I rx ry ⟨_, _, a1.dp, a2.dp, a1.shaped, a2.shaped, by rw [← eqv_pd _ _ a1.pl a2.pl]; exact q⟩
  · exact (Post.badB (f := fun r => !r) p e).elim
theorem ltS_iff : ∀ x y : List Nat, ltS x y = decide (x < y)
  | [], [] => by simp [ltS]
  | [], _ :: _ => by simp [ltS]
  | _ :: _, [] => by simp [ltS]
  | x :: xs, y :: ys => by
    simp only [ltS]
    by_cases h : x = y
    · subst h
      rw [if_pos rfl, ltS_iff xs ys]
      simp [List.cons_lt_cons_iff]
    · rw [if_neg h]
      simp [List.cons_lt_cons_iff, h]
theorem orLt : OpR X (compareOp .Lt) (A2 X cA (cmpD .lt) E) := by
  intro pins s σ H x y v u Q I rx ry h
  obtain ⟨g, S, dx, dy, rs, r1, r2, p⟩ := h
  cases dx <;> cases dy <;> try exact False.elim p
  · simp only [Rep] at r1 r2
    subst r1 r2
    exact op_lt pins s σ H _ _ v u Q I rx ry ⟨_, _, rfl, rfl, p.here rs Rep.bl⟩
  · simp only [Rep] at r1 r2
    obtain ⟨rfl, k1⟩ := r1
    obtain ⟨rfl, k2⟩ := r2
    refine op_lt_str pins s σ H _ _ v u Q I rx ry ⟨_, _, rfl, rfl, ?_⟩
    have q := p.here rs Rep.bl
    rw [ltS_iff] at q
    exact q
theorem orLe : OpR X (compareOp .LtE) (A2 X cA (cmpD .le) E) := by
  intro pins s σ H x y v u Q I rx ry h
  obtain ⟨g, S, dx, dy, rs, r1, r2, p⟩ := h
  cases dx <;> cases dy <;> try exact False.elim p
  simp only [Rep] at r1 r2
  subst r1 r2
  exact op_le pins s σ H _ _ v u Q I rx ry ⟨_, _, rfl, rfl, p.here rs Rep.bl⟩
theorem orGt : OpR X (compareOp .Gt) (A2 X cA (cmpD .gt) E) := by
  intro pins s σ H x y v u Q I rx ry h
  obtain ⟨g, S, dx, dy, rs, r1, r2, p⟩ := h
  cases dx <;> cases dy <;> try exact False.elim p
  simp only [Rep] at r1 r2
  subst r1 r2
  exact op_gt pins s σ H _ _ v u Q I rx ry ⟨_, _, rfl, rfl, p.here rs Rep.bl⟩
theorem orGe : OpR X (compareOp .GtE) (A2 X cA (cmpD .ge) E) := by
  intro pins s σ H x y v u Q I rx ry h
  obtain ⟨g, S, dx, dy, rs, r1, r2, p⟩ := h
  cases dx <;> cases dy <;> try exact False.elim p
  simp only [Rep] at r1 r2
  subst r1 r2
  exact op_ge pins s σ H _ _ v u Q I rx ry ⟨_, _, rfl, rfl, p.here rs Rep.bl⟩
def isNon : DV → Bool | .non => true | _ => false
theorem Rep.isNon {K : PySem.W.Frag} {g : Gh} {d : DV} {v : V} (r : Rep K cA g d v) : decide (v = .non) = isNon d := by
  cases d <;> simp only [Rep] at r
  · subst r; rfl
  · subst r; rfl
  · subst r; rfl
  · obtain ⟨rfl, _⟩ := r; rfl
  · obtain ⟨a, _, rfl, _⟩ := r; rfl
  · obtain ⟨a, _, rfl, _⟩ := r; rfl
  · obtain ⟨a, _, _, rfl, _⟩ := r; rfl
  · obtain ⟨a, _, _, rfl, _⟩ := r; rfl
  · obtain ⟨a, _, _, rfl, _⟩ := r; rfl
  · obtain ⟨a, _, rfl⟩ := r; rfl
  · obtain ⟨a, _, rfl, _⟩ := r; rfl
theorem orIs : OpR X (compareOp .Is) (A2 X cA (cmpD .is) E) := by
  intro pins s σ H x y v u Q I rx ry h
  obtain ⟨g, S, dx, dy, rs, r1, r2, p⟩ := h
  cases dy <;> try exact False.elim p
  simp only [Rep] at r2
  subst r2
  refine op_isN pins s σ H _ _ v u Q I rx ry ⟨rfl, ?_⟩
  rw [r1.isNon]
  have q := p.here rs Rep.bl
  cases dx <;> exact q
theorem orIsnot : OpR X (compareOp .IsNot) (A2 X cA (cmpD .isnot) E) := by
  intro pins s σ H x y v u Q I rx ry h
  obtain ⟨g, S, dx, dy, rs, r1, r2, p⟩ := h
  cases dy <;> try exact False.elim p
  simp only [Rep] at r2
  subst r2
  refine op_notN pins s σ H _ _ v u Q I rx ry ⟨rfl, ?_⟩
  rw [r1.isNon]
  have q := p.here rs Rep.bl
  cases dx <;> exact q
end
end GL
end
section
set_option Elab.async false
set_option linter.all false
set_option maxRecDepth 100000
namespace GL
open PySem L2 PySem.Spec PyProof.Rows

section
variable {X : Cx} {cA : Nat → Addr} {E : XK}
/-! ### sequences -/
theorem seqOf_ok {K : PySem.W.Frag} {g : Gh} {S : Sto} {H : Hp} (rs : RelS K cA g S H) {d : DV} {v : V} {xs : List DV} (e : seqOf S d = some xs) (r : Rep K cA g d v) :
    ∃ a vs, v = .ref a ∧ (SqL K H a vs ∨ SqT K H a vs) ∧ Reps K cA g xs vs := by
  cases d <;> simp only [seqOf] at e <;> try (cases e; done)
  · cases e; simp only [Rep] at r; obtain ⟨a, vs, rfl, q, t⟩ := r; exact ⟨a, vs, rfl, .inr (sqT_mono q rs.hF), t⟩
  · cases e; simp only [Rep] at r; obtain ⟨a, vs, rfl, q, t⟩ := r; exact ⟨a, vs, rfl, .inl (SqL.of (rs.hF _ _ q)), t⟩
  · rename_i k
    simp only [Rep] at r
    obtain ⟨a, q, rfl⟩ := r
    cases e0 : S[k]? with
    | none => rw [e0] at e; cases e
    | some o =>
      rw [e0] at e
      cases o with
      | dct _ _ => cases e
      | obj _ _ _ => cases e
      | lst ys =>
        cases e
        obtain ⟨a', h, h1, h2, ⟨vs, rfl, t⟩, _, _⟩ := rs.st k _ e0
        rw [q] at h1; cases h1
        exact ⟨a, vs, rfl, .inl (SqL.of h2), t⟩
  · cases e; simp only [Rep] at r; obtain ⟨a, vs, rfl, q, t⟩ := r; exact ⟨a, vs, rfl, .inl (sqL_mono q rs.hF), t⟩
theorem lstOf_ok {K : PySem.W.Frag} {g : Gh} {S : Sto} {H : Hp} (rs : RelS K cA g S H) {d : DV} {v : V} {xs : List DV} (e : lstOf S d = some xs) (r : Rep K cA g d v) :
    ∃ a vs, v = .ref a ∧ SqL K H a vs ∧ Reps K cA g xs vs := by
  cases d <;> simp only [lstOf] at e <;> try (cases e; done)
  · cases e; simp only [Rep] at r; obtain ⟨a, vs, rfl, q, t⟩ := r; exact ⟨a, vs, rfl, SqL.of (rs.hF _ _ q), t⟩
  · rename_i k
    simp only [Rep] at r
    obtain ⟨a, q, rfl⟩ := r
    cases e0 : S[k]? with
    | none => rw [e0] at e; cases e
    | some o =>
      rw [e0] at e
      cases o with
      | dct _ _ => cases e
      | obj _ _ _ => cases e
      | lst ys =>
        cases e
        obtain ⟨a', h, h1, h2, ⟨vs, rfl, t⟩, _, _⟩ := rs.st k _ e0
        rw [q] at h1; cases h1
        exact ⟨a, vs, rfl, SqL.of h2, t⟩
  · cases e; simp only [Rep] at r; obtain ⟨a, vs, rfl, q, t⟩ := r; exact ⟨a, vs, rfl, sqL_mono q rs.hF, t⟩
theorem ixO_eq (n : Nat) (i : Int) : ixO n i = ixN n i := by
  unfold ixO ixN
  split
  · rfl
  · by_cases h : 0 ≤ i + n
    · rw [if_pos h, if_pos (by omega)]
    · rw [if_neg h, if_neg (by omega)]
theorem atO_eq {α : Type} (xs : List α) (i : Int) : atO xs i = atI xs i := by unfold atO atI; rw [ixO_eq]
theorem Reps.at {K : PySem.W.Frag} {g : Gh} {ds : List DV} {vs : List V} {i : Int} {d : DV} (r : Reps K cA g ds vs) (e : atO ds i = some d) : ∃ v, atI vs i = some v ∧ Rep K cA g d v := by
  unfold atO at e
  unfold atI
  rw [ixO_eq, r.length] at e
  cases q : ixN vs.length i with
  | none => rw [q] at e; cases e
  | some j =>
    rw [q] at e
    exact r.get e
theorem cutE_eq (n d : Nat) (o : Option Int) : cutE n d o = HT.sIx n d o := by
  cases o with
  | none => rfl
  | some i =>
    unfold cutE HT.sIx
    by_cases h : i < 0
    · simp only [h, if_true]
      by_cases h2 : i + n < 0
      · rw [if_pos h2]; omega
      · rw [if_neg h2]
    · simp only [h, if_false]
theorem cut_eq {α : Type} (xs : List α) (lo hi : Option Int) : cut xs lo hi = (xs.drop (HT.sIx xs.length 0 lo)).take (HT.sIx xs.length xs.length hi - HT.sIx xs.length 0 lo) := by
  unfold cut; rw [cutE_eq, cutE_eq]
theorem Reps.cut {K : PySem.W.Frag} {g : Gh} {ds : List DV} {vs : List V} (lo hi : Option Int) (r : Reps K cA g ds vs) : Reps K cA g (GL.cut ds lo hi) (cutV vs lo hi) := by
  rw [cut_eq]
  show Reps K cA g _ ((vs.drop (HT.sIx vs.length 0 lo)).take (HT.sIx vs.length vs.length hi - HT.sIx vs.length 0 lo))
  rw [r.length]
  exact (r.drop _).take _

/-! ### in -/
theorem keyOf_ok {K : PySem.W.Frag} {g : Gh} {d : DV} {v : V} {k : DK} (e : keyOf d = some k) (r : Rep K cA g d v) : v = kV (kOf k) ∧ okK k = true := by
  cases d <;> simp only [keyOf] at e <;> try (cases e; done)
  · cases e; simp only [Rep] at r; subst r; exact ⟨rfl, rfl⟩
  · cases e; simp only [Rep] at r; obtain ⟨rfl, k⟩ := r; exact ⟨rfl, k⟩
theorem kOf_inj {a b : DK} (e : kOf a = kOf b) : a = b := by
  cases a <;> cases b <;> simp only [kOf] at e
  · injection e with e; subst e; rfl
  · cases e
  · cases e
  · injection e with e; unfold mkS at e; simp only [Str.mk.injEq] at e; have : _ := congrArg Array.toList e; simp at this; subst this; rfl
theorem dget_val : ∀ {ks : List DK} {ds : List DV} {vs : List V} {K : PySem.W.Frag} {g : Gh} (k : DK), ks.length = vs.length → Reps K cA g ds vs →
    (∀ d, dget ks ds k = some d → ∃ v, valV ((ks.map kOf).zip vs) (kOf k) = some v ∧ Rep K cA g d v) ∧ (dget ks ds k = none → valV ((ks.map kOf).zip vs) (kOf k) = none)
  | [], ds, vs, K, g, k, hl, r => by
    constructor
    · intro d e; simp only [dget] at e; cases e
    · intro _; rfl
  | q :: ks, [], vs, K, g, k, hl, r => by
    simp only [Reps] at r
    subst r
    simp at hl
  | q :: ks, d :: ds, vs, K, g, k, hl, r => by
    simp only [Reps] at r
    obtain ⟨w, ws, rfl, p, t⟩ := r
    have ih := dget_val (ks := ks) (ds := ds) (vs := ws) k (by simpa using hl) t
    simp only [dget, List.map_cons, List.zip_cons_cons]
    by_cases h : q = k
    · subst h
      rw [if_pos rfl, valV_pos rfl]
      exact ⟨fun d' e => by cases e; exact ⟨w, rfl, p⟩, fun e => by cases e⟩
    · rw [if_neg h, valV_neg (fun z => h (kOf_inj z))]
      exact ih
theorem kmem_val : ∀ {ks : List DK} {vs : List V} (k : DK), ks.length = vs.length → (valV ((ks.map kOf).zip vs) (kOf k)).isSome = decide (k ∈ ks)
  | [], vs, k, _ => by simp [valV_nil]
  | q :: ks, [], k, h => by simp at h
  | q :: ks, v :: vs, k, h => by
    simp only [List.map_cons, List.zip_cons_cons]
    by_cases e : q = k
    · subst e; rw [valV_pos rfl]; simp
    · rw [valV_neg (fun z => e (kOf_inj z)), kmem_val k (by simpa using h)]
      have : (k ∈ q :: ks) ↔ (k ∈ ks) := by simp [Ne.symm e]
      simp [this]
theorem any_pd (d : DV) (hd : plain d = true) : ∀ xs : List DV, plains xs = true → (xs.any fun y => eqv y d) = ((pds xs).any fun z => PyData.eqv z (pd d))
  | [], _ => rfl
  | x :: xs, h => by
    simp only [plains, Bool.and_eq_true] at h
    simp only [pds, List.any_cons]
    rw [eqv_pd x d h.1 hd, any_pd d hd xs h.2]
theorem in_core (hu : X.A.units + 65 < cLine) {pins : List (Addr × Obj)} {s : Shared} {σ : L2.St} {H : Hp} {x y : V} {v u : Value} {g : Gh} {S : Sto} {dx dy ex : DV} {ey : List DV} (tup : Bool) (I : Inv X pins σ H s) (rx : RelV x v) (ry : RelV y u) (rs : RelS X.K cA g S H)
    (r1 : Rep X.K cA g dx x) (r2 : Rep X.K cA g dy y) (e1 : rsv S FU dx = some ex) (e2 : rsv S FU dy = some (if tup then .tup ey else .lst ey)) (neg : Bool) {Q : VK} (q : Q (.bl (if neg then !(ey.any fun z => eqv z ex) else ey.any fun z => eqv z ex)) H) :
    wpAny (model X.prog X.w) X.A (compareOp (if neg then .NotIn else .In) v u) (EP X pins σ Q) X.xe s := by
  have a1 := rsv_ok rs _ _ _ _ e1 r1
  have a2 := rsv_ok rs _ _ _ _ e2 r2
  obtain ⟨as, q1⟩ := Dp.reads I _ _ _ a1.dp rx
  have hd := a1.shaped
  have hr : X.A.units + 1 + min (PyData.depthAll (pds ey)) (pd ex).depth < cLine := by
    have h1 := a1.dep
    have h2 : min (PyData.depthAll (pds ey)) (pd ex).depth ≤ (pd ex).depth := Nat.min_le_right _ _
    unfold FU at h1
    omega
  have hdl := SeqAt.canLay_of_shaped hd
  cases tup with
  | false =>
    have p2 : plains ey = true := by have := a2.pl; simpa [plain] using this
    obtain ⟨bs, q2⟩ := Dp.reads I (.list (pds ey)) _ _ (by have := a2.dp; simpa [pd] using this) ry
    have l2 : PyData.canLayAll0 (pds ey) = true := by have := a2.lay; simpa [pd, PyData.canLay0] using this
    cases neg with
    | false => exact SeqAt.in_list_reads q2 q1 l2 hdl hr ⟨.bl _, H, I, rfl, by rw [← any_pd ex a1.pl ey p2]; exact q⟩
    | true => exact SeqAt.notIn_list_reads q2 q1 l2 hdl hr ⟨.bl _, H, I, rfl, by rw [← any_pd ex a1.pl ey p2]; exact q⟩
  | true =>
    have p2 : plains ey = true := by have := a2.pl; simpa [plain] using this
    obtain ⟨bs, q2⟩ := Dp.reads I (.tuple (pds ey)) _ _ (by have := a2.dp; simpa [pd] using this) ry
    have l2 : PyData.canLayAll0 (pds ey) = true := by have := a2.lay; simpa [pd, PyData.canLay0] using this
    cases neg with
    | false => exact SeqAt.in_tuple_reads q2 q1 l2 hdl hr ⟨.bl _, H, I, rfl, by rw [← any_pd ex a1.pl ey p2]; exact q⟩
    | true => exact SeqAt.notIn_tuple_reads q2 q1 l2 hdl hr ⟨.bl _, H, I, rfl, by rw [← any_pd ex a1.pl ey p2]; exact q⟩
theorem mkS1 (c : Nat) : mkS [c] = ⟨#[c]⟩ := rfl
theorem inD_ok {S : Sto} {a b : DV} : inD a b S = .bad ∨ (∃ c z, a = .str [c] ∧ b = .str z ∧ inD a b S = .ok (decide (c ∈ z)) S) ∨ (∃ ks vs k, b = .dct ks vs ∧ keyOf a = some k ∧ inD a b S = .ok (decide (k ∈ ks)) S) ∨
    (∃ ex tup ey, rsv S FU a = some ex ∧ rsv S FU b = some (if tup = true then .tup ey else .lst ey) ∧ inD a b S = .ok (ey.any fun y => eqv y ex) S) := by
  have gen : ∀ b, (match rsv S FU a, rsv S FU b with
      | some x, some (.lst ys) => Rs.ok (ys.any fun y => eqv y x) S
      | some x, some (.tup ys) => .ok (ys.any fun y => eqv y x) S
      | _, _ => .bad) = .bad ∨ ∃ ex tup ey, rsv S FU a = some ex ∧ rsv S FU b = some (if tup = true then .tup ey else .lst ey) ∧ (match rsv S FU a, rsv S FU b with
      | some x, some (.lst ys) => Rs.ok (ys.any fun y => eqv y x) S
      | some x, some (.tup ys) => .ok (ys.any fun y => eqv y x) S
      | _, _ => .bad) = .ok (ey.any fun y => eqv y ex) S := by
    intro b
    cases e1 : rsv S FU a with
    | none => left; rfl
    | some ex =>
      cases e2 : rsv S FU b with
      | none => left; rfl
      | some ey =>
        cases ey <;> first
          | (left; rfl)
          | (right; rename_i ys; exact ⟨ex, true, ys, rfl, rfl, rfl⟩)
          | (right; rename_i ys; exact ⟨ex, false, ys, rfl, rfl, rfl⟩)
  cases b with
  | str z =>
    cases a with
    | str x =>
      match x with
      | [] => left; rfl
      | [c] => right; left; exact ⟨c, z, rfl, rfl, rfl⟩
      | _ :: _ :: _ => left; rfl
    | _ => left; rfl
  | dct ks vs =>
    cases e : keyOf a with
    | none => left; unfold inD; simp only [e]
    | some k => right; right; left; exact ⟨ks, vs, k, rfl, rfl, by unfold inD; simp only [e]⟩
  | _ =>
    rcases gen _ with h | h
    · left; exact h
    · right; right; right; exact h
theorem orInG (hu : X.A.units + 65 < cLine) (neg : Bool) : OpR X (compareOp (if neg then .NotIn else .In)) (A2 X cA (fun a b => inD a b >>= fun r => pure (.bl (if neg then !r else r))) E) := by
  intro pins s σ H x y v u Q I rx ry h
  obtain ⟨g, S, dx, dy, rs, r1, r2, p⟩ := h
  rcases inD_ok (S := S) (a := dx) (b := dy) with e | ⟨c, z, rfl, rfl, e⟩ | ⟨ks, vs, k, rfl, ek, e⟩ | ⟨ex, tup, ey, e1, e2, e⟩
  · exact (Post.badB (f := fun r => if neg then !r else r) p e).elim
  · have q := (Post.bndB (f := fun r => if neg then !r else r) p e).here rs Rep.bl
    simp only [Rep] at r1 r2
    obtain ⟨rfl, k1⟩ := r1
    obtain ⟨rfl, k2⟩ := r2
    cases neg with
    | false => exact op_in_sign pins s σ H _ _ v u Q I rx ry ⟨c, mkS z, rfl, rfl, q⟩
    | true => exact op_notIn_sign pins s σ H _ _ v u Q I rx ry ⟨c, mkS z, rfl, rfl, q⟩
  · have q := (Post.bndB (f := fun r => if neg then !r else r) p e).here rs Rep.bl
    obtain ⟨rfl, _⟩ := keyOf_ok ek r1
    simp only [Rep] at r2
    obtain ⟨a, o, ws, rfl, hF, hl, _, _, _⟩ := r2
    cases ry
    have dg : DGet H a (kV (kOf k)) (valV ((ks.map kOf).zip ws) (kOf k)) := .inl ⟨_, _, .inr ⟨_, rs.hF _ _ hF⟩, rfl, rfl⟩
    rw [← kmem_val k hl] at q
    cases neg with
    | false => exact d_in (by omega) I dg rx fun s' I' => ⟨.bl _, H, I', rfl, q⟩
    | true => exact d_notIn (by omega) I dg rx fun s' I' => ⟨.bl _, H, I', rfl, q⟩
  · have q := (Post.bndB (f := fun r => if neg then !r else r) p e).here rs Rep.bl
    exact in_core hu tup I rx ry rs r1 r2 e1 e2 neg (by cases neg <;> exact q)
def pyC : Cop → CmpOp
  | .eq => .Eq | .ne => .NotEq | .lt => .Lt | .le => .LtE | .gt => .Gt | .ge => .GtE | .is => .Is | .isnot => .IsNot | .isin => .In | .notin => .NotIn
theorem orCmp (hu : X.A.units + 65 < cLine) (op : Cop) : OpR X (compareOp (pyC op)) (A2 X cA (cmpD op) E) := by
  cases op
  · exact orEq (by omega)
  · exact orNe (by omega)
  · exact orLt
  · exact orLe
  · exact orGt
  · exact orGe
  · exact orIs
  · exact orIsnot
  · exact orInG hu false
  · exact orInG hu true
end
end GL
end
section
set_option Elab.async false
set_option linter.all false
set_option maxRecDepth 100000
namespace GL
open PySem L2 PySem.Spec PyProof.Rows
/-! ### insertion -/
section
variable {α β : Type} {lt : α → α → Bool}
theorem mem_insL {x y : α} : ∀ {l : List α}, y ∈ insL lt x l ↔ y = x ∨ y ∈ l
  | [] => by simp [insL]
  | z :: l => by
    unfold insL
    split
    · rw [List.mem_cons, mem_insL, List.mem_cons]
      constructor
      · rintro (h | h | h)
        · exact .inr (.inl h)
        · exact .inl h
        · exact .inr (.inr h)
      · rintro (h | h | h)
        · exact .inr (.inl h)
        · exact .inl h
        · exact .inr (.inr h)
    · simp
theorem insL_perm (x : α) : ∀ l : List α, (insL lt x l).Perm (x :: l)
  | [] => List.Perm.refl _
  | z :: l => by
    unfold insL
    split
    · exact ((insL_perm x l).cons z).trans (List.Perm.swap x z l)
    · exact List.Perm.refl _
theorem sortL_perm : ∀ l : List α, (sortL lt l).Perm l
  | [] => List.Perm.refl _
  | x :: l => (insL_perm x _).trans ((sortL_perm l).cons x)
theorem insL_sorted (h : PySem.W.TotalLe (fun a b => !lt b a)) (x : α) : ∀ {l : List α}, l.Pairwise (fun a b => (!lt b a) = true) → (insL lt x l).Pairwise (fun a b => (!lt b a) = true)
  | [], _ => List.pairwise_singleton _ _
  | z :: l, hl => by
    have hz := List.pairwise_cons.mp hl
    unfold insL
    split
    · rename_i c
      refine List.pairwise_cons.mpr ⟨fun y hy => ?_, insL_sorted h x hz.2⟩
      rcases mem_insL.mp hy with rfl | hy
      · rcases h.total z y with t | t
        · exact t
        · have t : (!lt z y) = true := t
          rw [c] at t; cases t
      · exact hz.1 y hy
    · rename_i c
      have c' : (!lt z x) = true := by cases e : lt z x with | true => exact absurd e c | false => rfl
      refine List.pairwise_cons.mpr ⟨fun y hy => ?_, hl⟩
      rcases List.mem_cons.mp hy with rfl | hy
      · exact c'
      · exact h.trans x z y c' (hz.1 y hy)
theorem sortL_sorted (h : PySem.W.TotalLe (fun a b => !lt b a)) : ∀ l : List α, (sortL lt l).Pairwise (fun a b => (!lt b a) = true)
  | [] => List.Pairwise.nil
  | x :: l => insL_sorted h x (sortL_sorted h l)
theorem insL_stable (h : PySem.W.TotalLe (fun a b => !lt b a)) (c x : α) : ∀ {l : List α}, (insL lt x l).filter (PySem.W.sameRank (fun a b => !lt b a) c) = (x :: l).filter (PySem.W.sameRank (fun a b => !lt b a) c)
  | [] => rfl
  | z :: l => by
    unfold insL
    split
    · rename_i e
      have ih := insL_stable h c x (l := l)
      rw [List.filter_cons, ih]
      simp only [List.filter_cons]
      cases e1 : PySem.W.sameRank (fun a b => !lt b a) c z with
      | false => simp
      | true =>
        cases e2 : PySem.W.sameRank (fun a b => !lt b a) c x with
        | false => simp
        | true =>
          exfalso
          unfold PySem.W.sameRank at e1 e2
          simp only [Bool.and_eq_true] at e1 e2
          have t := h.trans x c z e2.2 e1.1
          simp only [e] at t
          cases t
    · rfl
theorem sortL_stable (h : PySem.W.TotalLe (fun a b => !lt b a)) (c : α) : ∀ l : List α, (sortL lt l).filter (PySem.W.sameRank (fun a b => !lt b a) c) = l.filter (PySem.W.sameRank (fun a b => !lt b a) c)
  | [] => rfl
  | x :: l => by
    show (insL lt x (sortL lt l)).filter _ = _
    rw [insL_stable h c x, List.filter_cons, sortL_stable h c l, List.filter_cons]
theorem sortL_eq (h : PySem.W.TotalLe (fun a b => !lt b a)) (l : List α) : sortL lt l = l.mergeSort (fun a b => !lt b a) :=
  PySem.W.sort_unique h (sortL_sorted h l) fun c => sortL_stable h c l
theorem insL_congr {lt' : α → α → Bool} {x : α} : ∀ {l : List α}, (∀ y ∈ l, lt y x = lt' y x) → insL lt x l = insL lt' x l
  | [], _ => rfl
  | z :: l, h => by
    unfold insL
    rw [h z List.mem_cons_self, insL_congr fun y hy => h y (List.mem_cons_of_mem _ hy)]
theorem sortL_congr {lt' : α → α → Bool} : ∀ {l : List α}, (∀ x ∈ l, ∀ y ∈ l, lt x y = lt' x y) → sortL lt l = sortL lt' l
  | [], _ => rfl
  | x :: l, h => by
    show insL lt x (sortL lt l) = insL lt' x (sortL lt' l)
    rw [sortL_congr fun a ha b hb => h a (List.mem_cons_of_mem _ ha) b (List.mem_cons_of_mem _ hb)]
    exact insL_congr fun y hy => h y (List.mem_cons_of_mem _ ((sortL_perm l).mem_iff.mp hy)) x List.mem_cons_self
end

/-! ### the order of data -/
mutual
theorem alk_pd : ∀ a b : DV, alk a b = true → PySem.W.alike (pd a) (pd b) = true := by
  intro a b h
  cases a <;> cases b <;> simp only [alk, Bool.false_eq_true] at h
  · simp only [pd, PySem.W.alike]
  · simp only [pd, PySem.W.alike]
  · simp only [pd, PySem.W.alike]; exact alks_pd _ _ h
theorem alks_pd : ∀ a b : List DV, alks a b = true → PySem.W.alikeAll (pds a) (pds b) = true
  | [], _, _ => by simp only [pds, PySem.W.alikeAll]
  | _ :: _, [], _ => by simp only [pds, PySem.W.alikeAll]
  | x :: xs, y :: ys, h => by
    simp only [alks, Bool.and_eq_true] at h
    simp only [pds, PySem.W.alikeAll, alk_pd x y h.1, alks_pd xs ys h.2, Bool.and_self]
end
mutual
theorem flat_plain : ∀ (n : Nat) (a : DV), flatD n a = true → plain a = true ∧ (pd a).depth ≤ n := by
  intro n a h
  cases a <;> cases n <;> simp only [flatD, Bool.false_eq_true] at h
  · exact ⟨by simp only [plain], by simp only [pd, PyData.depth]; omega⟩
  · exact ⟨by simp only [plain], by simp only [pd, PyData.depth]; omega⟩
  · exact ⟨by simp only [plain], by simp only [pd, PyData.depth]; omega⟩
  · exact ⟨by simp only [plain], by simp only [pd, PyData.depth]; omega⟩
  · rename_i xs n
    obtain ⟨h1, h2⟩ := flats_plain n xs h
    exact ⟨by simp only [plain]; exact h1, by simp only [pd, PyData.depth]; omega⟩
theorem flats_plain : ∀ (n : Nat) (a : List DV), flatDs n a = true → plains a = true ∧ PyData.depthAll (pds a) ≤ n
  | n, [], _ => ⟨by simp only [plains], by simp only [pds, PyData.depthAll]; omega⟩
  | n, x :: xs, h => by
    simp only [flatDs, Bool.and_eq_true] at h
    obtain ⟨h1, h2⟩ := flat_plain n x h.1
    obtain ⟨h3, h4⟩ := flats_plain n xs h.2
    exact ⟨by simp only [plains, h1, h3, Bool.and_self], by simp only [pds, PyData.depthAll]; omega⟩
end
mutual
theorem ltD_pd : ∀ a b : DV, alk a b = true → plain a = true → plain b = true → ltD a b = PySem.W.dataLt (pd a) (pd b) := by
  intro a b h pa pb
  cases a <;> cases b <;> simp only [alk, Bool.false_eq_true] at h
  · simp only [ltD, pd]; exact (PySem.W.dataLt_int _ _).symm
  · simp only [ltD, pd]; rw [PySem.W.dataLt_str, ltS_iff]; rfl
  · simp only [plain] at pa pb
    simp only [ltD, pd]; rw [PySem.W.dataLt_tuple]; exact ltDs_pd _ _ h pa pb
theorem ltDs_pd : ∀ a b : List DV, alks a b = true → plains a = true → plains b = true → ltDs a b = PyProof.Rows.lexLt PyProof.Rows.itemOrd (PySem.W.keyToksAll (pds a)) (PySem.W.keyToksAll (pds b))
  | [], [], _, _, _ => by simp only [ltDs, pds]; exact (PyProof.Rows.lex_irrefl _).symm
  | [], y :: ys, _, _, _ => by simp only [ltDs, pds, PySem.W.keyToksAll]; rfl
  | x :: xs, [], _, _, _ => by simp only [ltDs, pds, PySem.W.keyToksAll]; rfl
  | x :: xs, y :: ys, h, pa, pb => by
    simp only [alks, Bool.and_eq_true] at h
    simp only [plains, Bool.and_eq_true] at pa pb
    simp only [ltDs, pds]
    rw [PySem.W.dataLt_cons (alk_pd x y h.1), eqv_pd x y pa.1 pb.1, ltDs_pd xs ys h.2 pa.2 pb.2, ltD_pd x y h.1 pa.1 pb.1]
end

mutual
theorem rsv_plain (S : Sto) : ∀ (n : Nat) (d : DV), plain d = true → (pd d).depth < n → rsv S n d = some d := by
  intro n d h l
  cases n with
  | zero => omega
  | succ n =>
    cases d <;> simp only [plain, Bool.false_eq_true] at h
    · rfl
    · rfl
    · rfl
    · rfl
    · rename_i xs
      simp only [pd, PyData.depth] at l
      simp only [rsv]
      rw [rsvs_plain S n xs h (by omega)]
      rfl
    · rename_i xs
      simp only [pd, PyData.depth] at l
      simp only [rsv]
      rw [rsvs_plain S n xs h (by omega)]
      rfl
theorem rsvs_plain (S : Sto) : ∀ (n : Nat) (ds : List DV), plains ds = true → PyData.depthAll (pds ds) < n → mapO (rsv S n) ds = some ds
  | n, [], _, _ => rfl
  | n, d :: ds, h, l => by
    simp only [plains, Bool.and_eq_true] at h
    simp only [pds, PyData.depthAll] at l
    simp only [mapO]
    rw [rsv_plain S n d h.1 (by omega), rsvs_plain S n ds h.2 (by omega)]
end
theorem alk_nn {a b : DV} (h : alk a b = true) : True := trivial
section
variable {X : Cx} {cA : Nat → Addr} {E : XK}
/-- the values of a list of data -/
def RV (K : PySem.W.Frag) (cA : Nat → Addr) (g : Gh) (v : Value) (d : DV) : Prop := ∃ w, RelV w v ∧ Rep K cA g d w
theorem each_of {K : PySem.W.Frag} {g : Gh} : ∀ {xs : List DV} {vs : List V} {us : List Value}, Reps K cA g xs vs → Vals vs us → PySem.W.EachIs (RV K cA g) us xs
  | [], vs, us, r, v => by simp only [Reps] at r; subst r; cases v; exact .nil
  | d :: xs, vs, us, r, v => by
    simp only [Reps] at r
    obtain ⟨w, ws, rfl, q, t⟩ := r
    cases v with
    | cons p v => exact .cons ⟨w, p, q⟩ (each_of t v)
theorem of_each {K : PySem.W.Frag} {g : Gh} : ∀ {xs : List DV} {us : List Value}, PySem.W.EachIs (RV K cA g) us xs → ∃ vs, Reps K cA g xs vs ∧ Vals vs us
  | _, _, .nil => ⟨[], Reps.nil, .nil⟩
  | _, _, .cons ⟨w, p, q⟩ t => by
    obtain ⟨vs, h1, h2⟩ := of_each t
    exact ⟨w :: vs, Reps.cons q h1, .cons p h2⟩
theorem each_mem' {α β : Type} {R R' : α → β → Prop} : ∀ {as : List α} {bs : List β}, PySem.W.EachIs R as bs → (∀ a b, b ∈ bs → R a b → R' a b) → PySem.W.EachIs R' as bs
  | _, _, .nil, _ => .nil
  | _, _, .cons h t, f => .cons (f _ _ List.mem_cons_self h) (each_mem' t fun a b m => f a b (List.mem_cons_of_mem _ m))
theorem sortD_merge {xs : List DV} (h : sortOk xs = true) : xs.mergeSort (PySem.W.dataLe false pd) = sortD xs := by
  unfold sortOk at h
  simp only [Bool.and_eq_true, List.all_eq_true] at h
  obtain ⟨⟨h1, _⟩, h3⟩ := h
  have e : PySem.W.dataLe false pd = fun a b => !(fun a b => PySem.W.dataLt (pd a) (pd b)) b a := PySem.W.dataLe_eq false pd
  have T : PySem.W.TotalLe (fun a b => !(fun a b => PySem.W.dataLt (pd a) (pd b)) b a) := by
    rw [← e]; exact PySem.W.sortLe_total _ false _
  rw [e, ← sortL_eq T xs]
  exact (sortL_congr fun x hx y hy => (ltD_pd x y (h1 x hx y hy) (flat_plain 8 x (h3 x hx)).1 (flat_plain 8 y (h3 y hy)).1).symm)
theorem nonE_pd {d : DV} (h : nonE d = true) : ∃ x r, pd d = .tuple (x :: r) := by
  cases d with
  | tup xs =>
    cases xs with
    | nil => cases h
    | cons x xs => exact ⟨pd x, pds xs, by simp only [pd, pds]⟩
  | _ => cases h
theorem notT_pd {n : Nat} {d : DV} (h : notT d = true) (f : flatD n d = true) : pd d ≠ .none ∧ ∀ xs, pd d ≠ .tuple xs := by
  cases d <;> first
    | (cases n <;> simp only [flatD, Bool.false_eq_true] at f; done)
    | (simp only [notT, Bool.false_eq_true] at h; done)
    | (constructor <;> intros <;> simp only [pd] <;> intro q <;> cases q; done)
    | (exfalso; cases n <;> simp [flatD] at f; done)
theorem sortOk_sortable {xs : List DV} (h : sortOk xs = true) : PySem.W.Sortable (xs.map pd) := by
  unfold sortOk at h
  simp only [Bool.and_eq_true, Bool.or_eq_true, List.all_eq_true] at h
  obtain ⟨⟨_, h2⟩, h3⟩ := h
  rcases h2 with h2 | h2
  · refine .inl fun d hd => ?_
    obtain ⟨b, hb, rfl⟩ := List.mem_map.mp hd
    exact nonE_pd (h2 b hb)
  · refine .inr fun d hd => ?_
    obtain ⟨b, hb, rfl⟩ := List.mem_map.mp hd
    exact notT_pd (h2 b hb) (h3 b hb)
theorem sorted_core (hu : X.A.units + 65 < cLine) {pins : List (Addr × Obj)} {s : Shared} {σ : L2.St} {H : Hp} {g : Gh} {S : Sto} {a : Addr} {vs : List V} {xs : List DV} (I : Inv X pins σ H s) (rs : RelS X.K cA g S H) (hl : SqL X.K H a vs) (r : Reps X.K cA g xs vs) (ok : sortOk xs = true)
    {Q : VK} (q : ∀ p ws, H p = none → Reps X.K cA g (sortD xs) ws → Q (.ref p) (upd H p (.lst ws))) : wpAny (model X.prog X.w) X.A (call (.builtin "sorted") [.ref a]) (EP X pins σ Q) X.xe s := by
  obtain ⟨its, rv, hp, hz⟩ := I.list hl
  have ok' := ok
  unfold sortOk at ok'
  simp only [Bool.and_eq_true, List.all_eq_true] at ok'
  obtain ⟨⟨h1, _⟩, h3⟩ := ok'
  have e := each_of r rv
  have hlen : xs.length ≤ sizeLine := by rw [r.length]; exact hz
  refine PySem.W.sorted_data (enc := pd) (vs := its) (bs := xs) hp.isList e (each_mem' e fun v d hd ⟨w, h4, h5⟩ => ?_) (fun d hd d' hd' => ?_) (sortOk_sortable ok) hlen (fun d hd => ?_) fun out ho h4 => ?_
  · have f := flat_plain 8 d (h3 d hd)
    have k := rsv_ok rs FU d d w (rsv_plain S FU d f.1 (by unfold FU; omega)) h5
    exact Dp.reads I _ _ _ k.dp h4
  · obtain ⟨b, hb, rfl⟩ := List.mem_map.mp hd
    obtain ⟨b', hb', rfl⟩ := List.mem_map.mp hd'
    exact alk_pd b b' (h1 b hb b' hb')
  · have f := flat_plain 8 d (h3 d hd)
    omega
  · rw [sortD_merge ok] at h4
    obtain ⟨ws, k1, k2⟩ := of_each h4
    obtain ⟨ep, he'⟩ := PyProof.Rows.sortedAll_at s.heap its out.toArray
    have hl2 : ws.length ≤ sizeLine := by rw [k2.length, ho]; exact hlen
    exact ⟨.ref _, upd H (s.heap.objs.size + 1) (.lst ws), I.laid (t' := s.toks) (fun _ _ => PyProof.Rows.sortedAll_old) (Nat.le_succ _) ⟨hl2, out, ep, k2, he'⟩, rfl, q _ _ (I.hok.fresh (Nat.le_succ _)) k1⟩
theorem sorted_coreT (hu : X.A.units + 65 < cLine) {pins : List (Addr × Obj)} {s : Shared} {σ : L2.St} {H : Hp} {g : Gh} {S : Sto} {a : Addr} {vs : List V} {xs : List DV} (I : Inv X pins σ H s) (rs : RelS X.K cA g S H) (hl : SqT X.K H a vs) (r : Reps X.K cA g xs vs) (ok : sortOk xs = true)
    {Q : VK} (q : ∀ p ws, H p = none → Reps X.K cA g (sortD xs) ws → Q (.ref p) (upd H p (.lst ws))) : wpAny (model X.prog X.w) X.A (call (.builtin "sorted") [.ref a]) (EP X pins σ Q) X.xe s := by
  obtain ⟨its, rv, ⟨o, ho, hc, n, hd⟩, hz⟩ := I.tuple hl
  have ok' := ok
  unfold sortOk at ok'
  simp only [Bool.and_eq_true, List.all_eq_true] at ok'
  obtain ⟨⟨al, _⟩, fl⟩ := ok'
  have ea := each_of r rv
  have lx : xs.length ≤ sizeLine := by rw [r.length]; exact hz
  have li : its.length ≤ sizeLine := by rw [← rv.length]; exact hz
  refine call_function_entry_kw kind_sorted plain_sorted entry_sorted (args_sorted1 _) ?_
  unfold Builtin.«sorted»
  refine wpAny_bind (m := checkCount "sorted" 1 1 _) (wpAny_pure (wpAny_bind (wpAny_collect_seq a (.inr rfl) ho hc hd (fun h' kp => ?_) (by simpa using li))))
  have I1 : Inv X pins σ H { s with heap := h' } := I.kept (t' := s.toks) kp
  refine wpAny_bind (wpAny_newList (wpAny_bind (wpAny_holding ?_)) (by simpa using li))
  have hn : (h'.push (PyProof.Rows.seqObj "list" its.toArray 0)).get? h'.objs.size = some (PyProof.Rows.seqObj "list" its.toArray 0) := Heap.get?_push_size _ rfl
  have old : ∀ b u, s.heap.get? b = some u → (PySem.W.sortingHeap (h'.push (PyProof.Rows.seqObj "list" its.toArray 0)) h'.objs.size its).get? b = some u := fun b u e =>
    PySem.W.sortingHeap_old (Nat.ne_of_lt (Heap.lt_size (kp b u e))) (Heap.get?_push_of_some _ (kp b u e))
  have rd : PySem.W.EachIs (fun v d => ∃ as, Reads (PySem.W.sortingHeap (h'.push (PyProof.Rows.seqObj "list" its.toArray 0)) h'.objs.size its) v (pd d) as) its xs := each_mem' ea fun v d hd ⟨w, h4, h5⟩ => by
    have f := flat_plain 8 d (fl d hd)
    have k := rsv_ok rs FU d d w (rsv_plain S FU d f.1 (by unfold FU; omega)) h5
    obtain ⟨as, rr⟩ := Dp.reads I _ _ _ k.dp h4
    exact ⟨as, PyProof.Rows.Reads.keeps old rr⟩
  have al' : PySem.W.AllAlike (xs.map pd) := fun d hd d' hd' => by
    obtain ⟨b, hb, rfl⟩ := List.mem_map.mp hd
    obtain ⟨b', hb', rfl⟩ := List.mem_map.mp hd'
    exact alk_pd b b' (al b hb b' hb')
  refine wpAny_call_entry_kw slot_list_sort ⟨_, hn, rfl⟩ entry_list_sort ?_ (args_list_sort _)
  have so : PySem.W.SortsAt X.prog X.w X.A.in1.in1 { s with heap := PySem.W.sortingHeap (h'.push (PyProof.Rows.seqObj "list" its.toArray 0)) h'.objs.size its } (PySem.W.dataKind (PySem.W.sortingHeap (h'.push (PyProof.Rows.seqObj "list" its.toArray 0)) h'.objs.size its) (xs.map pd)) its :=
    PySem.W.SortsAt.data (PySem.W.each_map (R := fun v d => ∃ as, Reads (PySem.W.sortingHeap (h'.push (PyProof.Rows.seqObj "list" its.toArray 0)) h'.objs.size its) v d as) pd rd) al' (sortOk_sortable ok) (PySem.W.bound_map fun b hb => by
      have f := flat_plain 8 b (fl b hb)
      show X.A.units + 2 + _ < cLine
      omega)
  refine PySem.W.list_sort_vals (s := { s with heap := h'.push (PyProof.Rows.seqObj "list" its.toArray 0) }) hn so li ⟨_, rfl, wpAny_pure ⟨_, rfl, ?_⟩⟩
  have h4 := PySem.W.sortVals_data false ea rd al'
  rw [sortD_merge ok] at h4
  obtain ⟨ws, k1, k2⟩ := of_each h4
  obtain ⟨ep, he'⟩ := PyProof.Rows.sortedHeap_at (vs := its) (out := (PySem.W.sortVals (PySem.W.dataKind (PySem.W.sortingHeap (h'.push (PyProof.Rows.seqObj "list" its.toArray 0)) h'.objs.size its) (xs.map pd)) false its its).toArray) hn
  have hl2 : ws.length ≤ sizeLine := by rw [k2.length, PySem.W.sortVals_length false rfl]; exact li
  exact ⟨.ref _, upd H h'.objs.size (.lst ws), I1.laid (t' := s.toks) (fun b u e => (PyProof.Rows.sortedHeap_old (Nat.ne_of_lt (Heap.lt_size e)) (Heap.lt_size (Heap.get?_push_of_some _ e))).trans (Heap.get?_push_of_some _ e)) (Nat.le_refl _) ⟨hl2, _, ep, k2, he'⟩, rfl, q _ _ (I1.hok.fresh (Nat.le_refl _)) k1⟩
theorem crSorted (hu : X.A.units + 65 < cLine) : CallR X (.builtin "sorted") (AN X cA (biD .sorted) E) := by
  intro pins s σ H vs us Q I r h
  obtain ⟨g, S, ds, rs, rr, p⟩ := h
  match ds, rr, p with
  | [], _, p => exact False.elim p
  | _ :: _ :: _, _, p => exact False.elim p
  | [d], rr, p =>
    simp only [Reps] at rr
    obtain ⟨w, ws, rfl, r1, rfl⟩ := rr
    have p : Post X.K cA (Rep X.K cA) g (match seqOf S d with
      | some xs => if sortOk xs then .ok (.lst (sortD xs)) S else .bad
      | none => .bad) Q E := p
    cases e : seqOf S d with
    | none => rw [e] at p; exact False.elim p
    | some xs =>
      rw [e] at p
      simp only [] at p
      split at p
      · rename_i ok
        obtain ⟨a, vs', rfl, hl, t⟩ := seqOf_ok rs e r1
        obtain ⟨u, rfl, ru⟩ := vals1 r
        cases ru
        rcases hl with hl | hl
        · exact sorted_core hu I rs hl t ok fun b zs hb hz => p.lst rs hz b hb
        · exact sorted_coreT hu I rs hl t ok fun b zs hb hz => p.lst rs hz b hb
      · exact False.elim p
end
end GL
end
section
set_option Elab.async false
set_option linter.all false
set_option maxRecDepth 100000
namespace GL
open PySem L2 PySem.Spec PyProof.Rows
section
variable {X : Cx} {cA : Nat → Addr} {E : XK}

/-! ### a[i] -/
theorem ix_dct (hu : X.A.units + 1 < cLine) : IxR X (fun x y H Q => ∃ a w, x = .ref a ∧ DGet H a y (some w) ∧ Q w H) := by
  intro value slice pins s σ H x y v u Q I rx ry h hs
  obtain ⟨a, w, rfl, g, q⟩ := h
  cases rx
  have hT := dict_typeIs I g
  have main : wpAny (model X.prog X.w) X.A (getItem (.ref a) u) (EP X pins σ Q) X.xe s := d_getItem hu I g ry fun w' s' I' r' => ⟨w, H, I', r', q⟩
  unfold subscriptTail
  refine wpAny_bind ?_
  rw [getitemInPython_of_ne hT.not_modules]
  refine wpAny_bind (wpAny_specialOf hT PySem.F.slot_dict_getitem.lookup ?_)
  have fin : wpAny (model X.prog X.w) X.A (subscripted slice false (.ref a) u) (fun r s₃ => wpAny (model X.prog X.w) X.A (letTemporaryGo value (.ref a) r >>= fun _ => pure r) (EP X pins σ Q) X.xe s₃) X.xe s := by
    rw [hs]
    exact wpAny_operating (wpAny_mono main (fun r s₃ h₃ => wpAny_bind (wpAny_letTemporaryGo (wpAny_pure h₃))) fun _ _ z => z)
  first
    | exact wpAny_pure (wpAny_bind fin)
    | exact wpAny_bind (wpAny_pure (wpAny_bind fin))
    | exact wpAny_bind fin
theorem atO_str {x : List Nat} {k : Int} {c : Nat} (e : atO x k = some c) : atI (mkS x).cps.toList k = some c ∧ c ∈ x := by
  rw [atO_eq] at e
  refine ⟨by unfold mkS; simpa using e, ?_⟩
  unfold atI at e
  cases q : ixN x.length k with
  | none => rw [q] at e; cases e
  | some j => rw [q] at e; exact List.mem_of_getElem? e
theorem okS_one {x : List Nat} {c : Nat} (h : okS x = true) (m : c ∈ x) : okS [c] = true :=
  okS_sub h (fun d hd => by simp only [List.mem_singleton] at hd; subst hd; exact m) (by cases x with | nil => cases m | cons _ _ => simp)
theorem ixD_seq {S : Sto} {a i : DV} (h1 : ∀ x, a ≠ .str x) (h2 : ∀ ks vs, a ≠ .dct ks vs) : ixD a i S = (match i with
    | .int k => match seqOf S a with
      | some xs => match atO xs k with
        | some v => .ok v S
        | none => .bad
      | none => .bad
    | _ => .bad) := by
  cases a with
  | str x => exact absurd rfl (h1 x)
  | dct ks vs => exact absurd rfl (h2 ks vs)
  | _ => cases i <;> rfl
theorem orIx (hu : X.A.units + 65 < cLine) : IxR X (A2 X cA ixD E) := by
  intro value slice pins s σ H x y v u Q I rx ry h hs
  obtain ⟨g, S, dx, dy, rs, r1, r2, p⟩ := h
  by_cases c1 : ∃ x, dx = .str x
  · obtain ⟨z, rfl⟩ := c1
    cases dy <;> try exact False.elim p
    rename_i k
    have p : Post X.K cA (Rep X.K cA) g (match atO z k with
      | some c => .ok (.str [c]) S
      | none => .bad) Q E := p
    cases e : atO z k with
    | none => rw [e] at p; exact False.elim p
    | some c =>
      rw [e] at p
      simp only [Rep] at r1 r2
      obtain ⟨rfl, k1⟩ := r1
      subst r2
      obtain ⟨e1, m⟩ := atO_str e
      exact ix_str value slice pins s σ H _ _ v u Q I rx ry ⟨mkS z, k, c, rfl, rfl, by rw [mkS_len]; exact okS_len k1, e1, p.here rs (Rep.str (okS_one k1 m))⟩ hs
  · by_cases c2 : ∃ ks vs, dx = .dct ks vs
    · obtain ⟨ks, ws, rfl⟩ := c2
      have p : Post X.K cA (Rep X.K cA) g (match keyOf dy with
        | some q => match dget ks ws q with
          | some v => .ok v S
          | none => .bad
        | none => .bad) Q E := by cases dy <;> exact p
      cases e : keyOf dy with
      | none => rw [e] at p; exact False.elim p
      | some q =>
        rw [e] at p
        simp only [] at p
        cases e2 : dget ks ws q with
        | none => rw [e2] at p; exact False.elim p
        | some d =>
          rw [e2] at p
          obtain ⟨rfl, _⟩ := keyOf_ok e r2
          simp only [Rep] at r1
          obtain ⟨a, o, vs, rfl, hF, hl, _, _, t⟩ := r1
          obtain ⟨w, h1, h2⟩ := (dget_val q hl t).1 d e2
          exact ix_dct (by omega) value slice pins s σ H _ _ v u Q I rx ry ⟨a, w, rfl, .inl ⟨_, _, .inr ⟨_, rs.hF _ _ hF⟩, rfl, h1.symm⟩, p.here rs h2⟩ hs
    · rw [ixD_seq (fun z e => c1 ⟨z, e⟩) (fun a b e => c2 ⟨a, b, e⟩)] at p
      cases dy <;> try exact False.elim p
      rename_i k
      simp only [] at p
      cases e : seqOf S dx with
      | none => rw [e] at p; exact False.elim p
      | some xs =>
        rw [e] at p
        simp only [] at p
        cases e2 : atO xs k with
        | none => rw [e2] at p; exact False.elim p
        | some d =>
          rw [e2] at p
          simp only [Rep] at r2
          subst r2
          obtain ⟨a, vs, rfl, hs', t⟩ := seqOf_ok rs e r1
          obtain ⟨w, h1, h2⟩ := t.at e2
          rcases hs' with hs' | hs'
          · exact ix_list value slice pins s σ H _ _ v u Q I rx ry ⟨a, vs, k, w, rfl, rfl, hs', h1, p.here rs h2⟩ hs
          · exact ix_tup value slice pins s σ H _ _ v u Q I rx ry ⟨a, vs, k, w, rfl, rfl, hs', h1, p.here rs h2⟩ hs

/-! ### a[lo:hi] -/
theorem slI_lst {S : Sto} {a : DV} {l h : Option Int} (h1 : ∀ x, a ≠ .str x) (h2 : ∀ x, a ≠ .tup x) : slI a l h S = (match lstOf S a with
      | some x => .ok (.lst (cut x l h)) S
      | none => .bad) := by
  cases a with
  | str x => exact absurd rfl (h1 x)
  | tup x => exact absurd rfl (h2 x)
  | _ => rfl
theorem mem_cut {α : Type} {x : List α} {l h : Option Int} {c : α} (m : c ∈ cut x l h) : c ∈ x := List.mem_of_mem_drop (List.mem_of_mem_take m)
theorem cut_len {α : Type} (x : List α) (l h : Option Int) : (cut x l h).length ≤ x.length := by
  unfold cut
  rw [List.length_take, List.length_drop]
  omega
theorem cutS_mk (x : List Nat) (l h : Option Int) : cutS (mkS x) l h = mkS (cut x l h) := by
  unfold cutS mkS
  rw [cut_eq]
  simp [Str.length]
theorem cutV_all {α : Type} {xs : List V} {lo hi : Option Int} (h : HT.sIx xs.length 0 lo = 0 ∧ HT.sIx xs.length xs.length hi = xs.length) : cutV xs lo hi = xs := by
  show (xs.drop (HT.sIx xs.length 0 lo)).take (HT.sIx xs.length xs.length hi - HT.sIx xs.length 0 lo) = xs
  rw [h.1, h.2]
  simp
theorem orSl : SlR X (fun x lo hi H Q => ∃ g S dx, RelS X.K cA g S H ∧ Rep X.K cA g dx x ∧ Post X.K cA (Rep X.K cA) g (slI dx lo hi S) Q E) := by
  intro pins s σ H x v vl vu lo hi sl Q I rx hs pl pu h
  obtain ⟨g, S, dx, rs, r1, p⟩ := h
  by_cases c1 : ∃ x, dx = .str x
  · obtain ⟨z, rfl⟩ := c1
    simp only [Rep] at r1
    obtain ⟨rfl, k1⟩ := r1
    have q := Post.here (d := .str (cut z lo hi)) p rs (Rep.str (okS_sub k1 (fun c m => mem_cut m) (cut_len _ _ _)))
    exact sl_str pins s σ H _ v vl vu lo hi sl Q I rx hs pl pu ⟨mkS z, rfl, by rw [mkS_len]; exact okS_len k1, by rw [cutS_mk]; exact q⟩
  · by_cases c2 : ∃ x, dx = .tup x
    · obtain ⟨z, rfl⟩ := c2
      simp only [Rep] at r1
      obtain ⟨a, vs, rfl, q1, t1⟩ := r1
      have tc := t1.cut lo hi
      refine sl_tupA pins s σ H _ v vl vu lo hi sl Q I rx hs pl pu ⟨a, vs, rfl, sqT_mono q1 rs.hF, fun hw => ?_, fun _ => Post.tup (ds := cut z lo hi) p rs tc⟩
      rw [cutV_all (α := V) hw] at tc
      exact Post.here (d := .tup (cut z lo hi)) p rs (by simp only [Rep]; exact ⟨a, vs, rfl, q1, tc⟩)
    · rw [slI_lst (fun z e => c1 ⟨z, e⟩) (fun z e => c2 ⟨z, e⟩)] at p
      cases e : lstOf S dx with
      | none => rw [e] at p; exact False.elim p
      | some xs =>
        rw [e] at p
        obtain ⟨a, vs, rfl, hl, t⟩ := lstOf_ok rs e r1
        exact sl_list pins s σ H _ v vl vu lo hi sl Q I rx hs pl pu ⟨a, vs, rfl, hl, Post.lst p rs (t.cut lo hi)⟩

/-! ### minus, truth -/
def negD (x : DV) : M DV := match x with
    | .int i => pure (.int (-i))
    | _ => M.fail
theorem orNeg : UnR X (unaryOp .USub) (A1 X cA negD E) := by
  intro pins s σ H x v Q I rx h
  obtain ⟨g, S, dx, rs, r1, p⟩ := h
  cases dx <;> try exact False.elim p
  simp only [Rep] at r1
  subst r1
  exact un_neg pins s σ H _ v Q I rx ⟨_, rfl, Post.here (d := .int _) p rs Rep.int⟩
theorem isEmpty_reps {K : PySem.W.Frag} {g : Gh} {ds : List DV} {vs : List V} (r : Reps K cA g ds vs) : ds.isEmpty = vs.isEmpty := by
  have := r.length
  cases ds <;> cases vs <;> simp at this <;> rfl
theorem truth_ok {pins : List (Addr × Obj)} {s : Shared} {σ : L2.St} {H : Hp} {x : V} {v : Value} {g : Gh} {S : Sto} {d : DV} {k : Bool} {Q : Bool → Hp → Prop} (I : Inv X pins σ H s) (rx : RelV x v) (rs : RelS X.K cA g S H) (r : Rep X.K cA g d x)
    (e : truth S d = some k) (q : Q k H) : wpAny (model X.prog X.w) X.A (truthy v) (TP X pins σ Q) X.xe s := by
  have tv : ∀ {x : V} {v : Value}, RelV x v → TruV X.K x H k → wpAny (model X.prog X.w) X.A (truthy v) (TP X pins σ Q) X.xe s := fun rx t => tru_ok pins s σ H _ _ Q I rx ⟨k, t, q⟩
  cases d <;> simp only [truth] at e <;> try (cases e; done)
  · cases e; simp only [Rep] at r; subst r; exact tv rx rfl
  · cases e; simp only [Rep] at r; subst r; exact tv rx rfl
  · cases e; simp only [Rep] at r; subst r; exact tv rx rfl
  · rename_i z
    cases e; simp only [Rep] at r; obtain ⟨rfl, k1⟩ := r
    refine tv rx ⟨by rw [mkS_len]; exact okS_len k1, ?_⟩
    rw [mkS_len]
    cases z with
    | nil => rfl
    | cons c z => simp only [List.isEmpty_cons, Bool.not_false, List.length_cons]; exact (bne_iff_ne.mpr (by omega)).symm
  · cases e; simp only [Rep] at r; obtain ⟨a, vs, rfl, h1, t⟩ := r; exact tv rx (.inr (.inl ⟨vs, sqT_mono h1 rs.hF, by rw [isEmpty_reps t]⟩))
  · cases e; simp only [Rep] at r; obtain ⟨a, vs, rfl, h1, t⟩ := r; exact tv rx (.inl ⟨vs, SqL.of (rs.hF _ _ h1), by rw [isEmpty_reps t]⟩)
  · rename_i ks ws
    cases e; simp only [Rep] at r; obtain ⟨a, o, vs, rfl, h1, h2, _, _, t⟩ := r
    cases rx
    refine d_truth I (.inr ⟨o, rs.hF _ _ h1⟩) fun s' I' => ⟨H, I', ?_⟩
    have : ((ks.map kOf).zip vs).isEmpty = ks.isEmpty := by
      cases ks <;> cases vs <;> simp at h2 ⊢
    rw [this]; exact q
  · rename_i n
    cases e0 : S[n]? with
    | none => rw [e0] at e; cases e
    | some o =>
      rw [e0] at e
      cases o with
      | dct _ _ => cases e
      | obj _ _ _ => cases e
      | lst ys =>
        cases e
        simp only [Rep] at r
        obtain ⟨a, h1, rfl⟩ := r
        obtain ⟨a', h, k1, k2, ⟨vs, rfl, t⟩, _, _⟩ := rs.st n _ e0
        rw [h1] at k1; cases k1
        exact tv rx (.inl ⟨vs, SqL.of k2, by rw [isEmpty_reps t]⟩)

/-! ### built-ins -/
theorem ints_of {K : PySem.W.Frag} {g : Gh} : ∀ {ds : List DV} {vs : List V} {ns : List Int}, mapO intOf ds = some ns → Reps K cA g ds vs → vs = ns.map V.int
  | [], vs, ns, e, r => by simp only [mapO] at e; cases e; simp only [Reps] at r; subst r; rfl
  | d :: ds, vs, ns, e, r => by
    simp only [Reps] at r
    obtain ⟨w, ws, rfl, q, t⟩ := r
    simp only [mapO] at e
    cases d <;> simp only [intOf] at e <;> try (cases e; done)
    cases e2 : mapO intOf ds with
    | none => rw [e2] at e; cases e
    | some ms =>
      rw [e2] at e
      cases e
      simp only [Rep] at q
      rw [q, ints_of e2 t]; rfl
theorem bls_of {K : PySem.W.Frag} {g : Gh} : ∀ {ds : List DV} {vs : List V} {ns : List Bool}, mapO blOf ds = some ns → Reps K cA g ds vs → vs = ns.map V.bl
  | [], vs, ns, e, r => by simp only [mapO] at e; cases e; simp only [Reps] at r; subst r; rfl
  | d :: ds, vs, ns, e, r => by
    simp only [Reps] at r
    obtain ⟨w, ws, rfl, q, t⟩ := r
    simp only [mapO] at e
    cases d <;> simp only [blOf] at e <;> try (cases e; done)
    cases e2 : mapO blOf ds with
    | none => rw [e2] at e; cases e
    | some ms =>
      rw [e2] at e
      cases e
      simp only [Rep] at q
      rw [q, bls_of e2 t]; rfl
theorem strs_of {K : PySem.W.Frag} {g : Gh} : ∀ {ds : List DV} {vs : List V} {ns : List (List Nat)}, mapO strOf ds = some ns → Reps K cA g ds vs → vs = (ns.map mkS).map V.str ∧ ∀ x ∈ ns, okS x = true
  | [], vs, ns, e, r => by simp only [mapO] at e; cases e; simp only [Reps] at r; subst r; exact ⟨rfl, fun x h => by cases h⟩
  | d :: ds, vs, ns, e, r => by
    simp only [Reps] at r
    obtain ⟨w, ws, rfl, q, t⟩ := r
    simp only [mapO] at e
    cases d <;> simp only [strOf] at e <;> try (cases e; done)
    cases e2 : mapO strOf ds with
    | none => rw [e2] at e; cases e
    | some ms =>
      rw [e2] at e
      cases e
      simp only [Rep] at q
      obtain ⟨rfl, k⟩ := q
      obtain ⟨h1, h2⟩ := strs_of e2 t
      subst h1
      refine ⟨rfl, fun x h => ?_⟩
      rcases List.mem_cons.mp h with rfl | h
      · exact k
      · exact h2 x h
/-- one argument -/
theorem crOne {b : String} {f : DV → M DV} {P : Value → String → Prop} (h : ∀ (pins : List (Addr × Obj)) (s : Shared) (σ : L2.St) (H : Hp) (x : V) (u : Value) (Q : VK) (g : Gh) (S : Sto) (d : DV), Inv X pins σ H s → RelV x u → RelS X.K cA g S H → Rep X.K cA g d x → Post X.K cA (Rep X.K cA) g (f d S) Q E →
    wpAny (model X.prog X.w) X.A (call (.builtin b) [u]) (EP X pins σ Q) X.xe s) {F : List DV → M DV} (hF : ∀ ds S, (∀ d, ds ≠ [d]) → F ds S = .bad) (hF1 : ∀ d S, F [d] S = f d S) : CallR X (.builtin b) (AN X cA F E) := by
  intro pins s σ H xs us Q I r hp
  obtain ⟨g, S, ds, rs, rr, p⟩ := hp
  by_cases c : ∃ d, ds = [d]
  · obtain ⟨d, rfl⟩ := c
    simp only [Reps] at rr
    obtain ⟨w, ws, rfl, r1, rfl⟩ := rr
    obtain ⟨u, rfl, ru⟩ := vals1 r
    rw [hF1] at p
    exact h pins s σ H w u Q g S d I ru rs r1 p
  · rw [hF ds S fun d e => c ⟨d, e⟩] at p
    exact False.elim p
end
end GL
end
section
set_option Elab.async false
set_option linter.all false
set_option maxRecDepth 100000
namespace GL
open PySem L2 PySem.Spec PyProof.Rows
section
variable {X : Cx} {cA : Nat → Addr} {E : XK}
/-- by the kind of what is called -/
theorem crG {f : Value} {F : List DV → M DV} (h : ∀ (pins : List (Addr × Obj)) (s : Shared) (σ : L2.St) (H : Hp) (xs : List V) (us : List Value) (Q : VK) (g : Gh) (S : Sto) (ds : List DV), Inv X pins σ H s → Vals xs us → RelS X.K cA g S H → Reps X.K cA g ds xs → Post X.K cA (Rep X.K cA) g (F ds S) Q E →
    wpAny (model X.prog X.w) X.A (call f us) (EP X pins σ Q) X.xe s) : CallR X f (AN X cA F E) := by
  intro pins s σ H xs us Q I r hp
  obtain ⟨g, S, ds, rs, rr, p⟩ := hp
  exact h pins s σ H xs us Q g S ds I r rs rr p
theorem Reps.one {K : PySem.W.Frag} {g : Gh} {d : DV} {vs : List V} (r : Reps K cA g [d] vs) : ∃ v, vs = [v] ∧ Rep K cA g d v := by
  simp only [Reps] at r
  obtain ⟨w, ws, rfl, q, rfl⟩ := r
  exact ⟨w, rfl, q⟩
theorem Reps.two {K : PySem.W.Frag} {g : Gh} {d e : DV} {vs : List V} (r : Reps K cA g [d, e] vs) : ∃ v w, vs = [v, w] ∧ Rep K cA g d v ∧ Rep K cA g e w := by
  simp only [Reps] at r
  obtain ⟨w, ws, rfl, q, x, y, rfl, q2, rfl⟩ := r
  exact ⟨w, x, rfl, q, q2⟩

theorem biLen_gen {S : Sto} {d : DV} (h1 : ∀ x, d ≠ .str x) (h2 : ∀ ks vs, d ≠ .dct ks vs) : biD .len [d] S = (match seqOf S d with
    | some xs => .ok (.int xs.length) S
    | none => .bad) := by
  cases d with
  | str x => exact absurd rfl (h1 x)
  | dct ks vs => exact absurd rfl (h2 ks vs)
  | _ => rfl
theorem crLen : CallR X (.builtin "len") (AN X cA (biD .len) E) := crG fun pins s σ H xs us Q g S ds I r rs rr p => by
  match ds, rr, p with
  | [], _, p => exact False.elim p
  | a :: _ :: _, _, p => exact False.elim (by cases a <;> exact p)
  | [d], rr, p =>
    obtain ⟨w, rfl, r1⟩ := rr.one
    by_cases c1 : ∃ x, d = .str x
    · obtain ⟨z, rfl⟩ := c1
      simp only [Rep] at r1
      obtain ⟨rfl, k1⟩ := r1
      exact call_len pins s σ H _ us Q I r ⟨_, z.length, rfl, ⟨by rw [mkS_len]; exact okS_len k1, (mkS_len z).symm⟩, Post.here (d := .int z.length) p rs Rep.int⟩
    · by_cases c2 : ∃ ks vs, d = .dct ks vs
      · obtain ⟨ks, ws, rfl⟩ := c2
        simp only [Rep] at r1
        obtain ⟨a, o, vs, rfl, h1, h2, _, _, t⟩ := r1
        obtain ⟨u, rfl, ru⟩ := vals1 r
        cases ru
        have q := Post.here (d := .int ks.length) p rs Rep.int
        refine d_len I (.inr ⟨o, rs.hF _ _ h1⟩) fun t s' I' => ⟨.int ks.length, H, I', ⟨t, ?_⟩, q⟩
        rw [List.length_zip, List.length_map, h2, Nat.min_self]
      · rw [biLen_gen (fun z e => c1 ⟨z, e⟩) (fun a b e => c2 ⟨a, b, e⟩)] at p
        cases e : seqOf S d with
        | none => rw [e] at p; exact False.elim p
        | some xs =>
          rw [e] at p
          obtain ⟨a, vs, rfl, hl, t⟩ := seqOf_ok rs e r1
          refine call_len pins s σ H _ us Q I r ⟨_, xs.length, rfl, ?_, Post.here (d := .int xs.length) p rs Rep.int⟩
          rw [t.length]
          rcases hl with hl | hl
          · exact .inl ⟨vs, hl, rfl⟩
          · exact .inr ⟨vs, hl, rfl⟩
theorem crAbs : CallR X (.builtin "abs") (AN X cA (biD .abs) E) := crG fun pins s σ H xs us Q g S ds I r rs rr p => by
  match ds, rr, p with
  | [], _, p => exact False.elim p
  | a :: _ :: _, _, p => exact False.elim (by cases a <;> exact p)
  | [d], rr, p =>
    obtain ⟨w, rfl, r1⟩ := rr.one
    cases d <;> try exact False.elim p
    simp only [Rep] at r1
    subst r1
    exact call_abs pins s σ H _ us Q I r ⟨_, rfl, Post.here (d := .int _) p rs Rep.int⟩
theorem crInt : CallR X (.type "int") (AN X cA (biD .int) E) := crG fun pins s σ H xs us Q g S ds I r rs rr p => by
  match ds, rr, p with
  | [], _, p => exact False.elim p
  | a :: _ :: _, _, p => exact False.elim (by cases a <;> exact p)
  | [d], rr, p =>
    obtain ⟨w, rfl, r1⟩ := rr.one
    cases d <;> try exact False.elim p
    · simp only [Rep] at r1
      subst r1
      exact call_int1 pins s σ H _ us Q I r (.inr ⟨_, rfl, Post.here (d := .int _) p rs Rep.int⟩)
    · simp only [Rep] at r1
      subst r1
      exact call_int1 pins s σ H _ us Q I r (.inl ⟨_, rfl, Post.here (d := .int _) p rs Rep.int⟩)
theorem digs_mk (i : Int) : mkS (digs i) = Str.ofString (toString i) := by rw [Str.ofString_eq_toList]; rfl
theorem okS_digs (i : Int) (h : (digs i).length ≤ 16777216) : okS (digs i) = true := by
  unfold okS
  simp only [Bool.and_eq_true, decide_eq_true_eq, List.all_eq_true]
  refine ⟨fun c hc => ?_, h⟩
  unfold digs at hc
  obtain ⟨ch, _, rfl⟩ := List.mem_map.mp hc
  have h := ch.valid
  have : ch.toNat = ch.val.toNat := rfl
  simp only [UInt32.isValidChar, Nat.isValidChar] at h
  omega
theorem crStr : CallR X (.type "str") (AN X cA (biD .str) E) := crG fun pins s σ H xs us Q g S ds I r rs rr p => by
  match ds, rr, p with
  | [], _, p => exact False.elim p
  | a :: _ :: _, _, p => exact False.elim (by cases a <;> exact p)
  | [d], rr, p =>
    obtain ⟨w, rfl, r1⟩ := rr.one
    cases d <;> try exact False.elim p
    rename_i i
    simp only [Rep] at r1
    subst r1
    have p : Post X.K cA (Rep X.K cA) g (if i.natAbs.log2 < 1920 ∧ (digs i).length ≤ 16777216 then .ok (.str (digs i)) S else .bad) Q E := p
    split at p
    · rename_i h
      refine call_str_int pins s σ H _ us Q I r ⟨_, rfl, h.1, ?_⟩
      have q := Post.here (d := .str (digs i)) p rs (Rep.str (okS_digs i h.2))
      rw [digs_mk] at q
      exact q
    · exact False.elim p
theorem crSum (hc : X.calm = true) : CallR X (.builtin "sum") (AN X cA (biD .sum) E) := crG fun pins s σ H xs us Q g S ds I r rs rr p => by
  match ds, rr, p with
  | [], _, p => exact False.elim p
  | a :: _ :: _, _, p => exact False.elim (by cases a <;> exact p)
  | [d], rr, p =>
    obtain ⟨w, rfl, r1⟩ := rr.one
    have p : Post X.K cA (Rep X.K cA) g (match (lstOf S d).bind (mapO intOf) with
      | some xs => .ok (.int xs.sum) S
      | none => .bad) Q E := p
    cases e : lstOf S d with
    | none => rw [e] at p; exact False.elim p
    | some ys =>
      rw [e] at p
      simp only [Option.bind_some] at p
      cases e2 : mapO intOf ys with
      | none => rw [e2] at p; exact False.elim p
      | some ns =>
        rw [e2] at p
        obtain ⟨a, vs, rfl, hl, t⟩ := lstOf_ok rs e r1
        have := ints_of e2 t
        subst this
        exact cr_sum hc pins s σ H _ us Q I r ⟨a, ns, rfl, hl, Post.here (d := .int _) p rs Rep.int⟩
theorem crAll (hc : X.calm = true) : CallR X (.builtin "all") (AN X cA (biD .all) E) := crG fun pins s σ H xs us Q g S ds I r rs rr p => by
  match ds, rr, p with
  | [], _, p => exact False.elim p
  | a :: _ :: _, _, p => exact False.elim (by cases a <;> exact p)
  | [d], rr, p =>
    obtain ⟨w, rfl, r1⟩ := rr.one
    have p : Post X.K cA (Rep X.K cA) g (match (lstOf S d).bind (mapO blOf) with
      | some xs => .ok (.bl (xs.all id)) S
      | none => .bad) Q E := p
    cases e : lstOf S d with
    | none => rw [e] at p; exact False.elim p
    | some ys =>
      rw [e] at p
      simp only [Option.bind_some] at p
      cases e2 : mapO blOf ys with
      | none => rw [e2] at p; exact False.elim p
      | some ns =>
        rw [e2] at p
        obtain ⟨a, vs, rfl, hl, t⟩ := lstOf_ok rs e r1
        have := bls_of e2 t
        subst this
        exact cr_all hc pins s σ H _ us Q I r ⟨a, ns, rfl, hl, Post.here (d := .bl _) p rs Rep.bl⟩
theorem crAny (hc : X.calm = true) : CallR X (.builtin "any") (AN X cA (biD .any) E) := crG fun pins s σ H xs us Q g S ds I r rs rr p => by
  match ds, rr, p with
  | [], _, p => exact False.elim p
  | a :: _ :: _, _, p => exact False.elim (by cases a <;> exact p)
  | [d], rr, p =>
    obtain ⟨w, rfl, r1⟩ := rr.one
    have p : Post X.K cA (Rep X.K cA) g (match (lstOf S d).bind (mapO blOf) with
      | some xs => .ok (.bl (xs.any id)) S
      | none => .bad) Q E := p
    cases e : lstOf S d with
    | none => rw [e] at p; exact False.elim p
    | some ys =>
      rw [e] at p
      simp only [Option.bind_some] at p
      cases e2 : mapO blOf ys with
      | none => rw [e2] at p; exact False.elim p
      | some ns =>
        rw [e2] at p
        obtain ⟨a, vs, rfl, hl, t⟩ := lstOf_ok rs e r1
        have := bls_of e2 t
        subst this
        exact cr_any hc pins s σ H _ us Q I r ⟨a, ns, rfl, hl, Post.here (d := .bl _) p rs Rep.bl⟩
theorem maxL_max : ∀ (xs : List Int) (m k : Int), k ∈ m :: xs → (∀ y ∈ m :: xs, y ≤ k) → maxL m xs = k
  | [], m, k, h1, h2 => by simp at h1; exact h1.symm
  | x :: xs, m, k, h1, h2 => by
    unfold maxL
    have a := h2 m List.mem_cons_self
    have b := h2 x (List.mem_cons_of_mem _ List.mem_cons_self)
    refine maxL_max xs _ k ?_ fun y hy => ?_
    · rcases List.mem_cons.mp h1 with rfl | h1
      · by_cases c : x > k
        · omega
        · rw [if_neg c]; exact List.mem_cons_self
      · rcases List.mem_cons.mp h1 with rfl | h1
        · by_cases c : k > m
          · rw [if_pos c]; exact List.mem_cons_self
          · have : k = m := by omega
            rw [if_neg c, this]; exact List.mem_cons_self
        · exact List.mem_cons_of_mem _ h1
    · rcases List.mem_cons.mp hy with rfl | hy
      · split <;> assumption
      · exact h2 y (List.mem_cons_of_mem _ (List.mem_cons_of_mem _ hy))
theorem minL_min : ∀ (xs : List Int) (m k : Int), k ∈ m :: xs → (∀ y ∈ m :: xs, k ≤ y) → minL m xs = k
  | [], m, k, h1, h2 => by simp at h1; exact h1.symm
  | x :: xs, m, k, h1, h2 => by
    unfold minL
    have a := h2 m List.mem_cons_self
    have b := h2 x (List.mem_cons_of_mem _ List.mem_cons_self)
    refine minL_min xs _ k ?_ fun y hy => ?_
    · rcases List.mem_cons.mp h1 with rfl | h1
      · by_cases c : x < k
        · omega
        · rw [if_neg c]; exact List.mem_cons_self
      · rcases List.mem_cons.mp h1 with rfl | h1
        · by_cases c : k < m
          · rw [if_pos c]; exact List.mem_cons_self
          · have : k = m := by omega
            rw [if_neg c, this]; exact List.mem_cons_self
        · exact List.mem_cons_of_mem _ h1
    · rcases List.mem_cons.mp hy with rfl | hy
      · split <;> assumption
      · exact h2 y (List.mem_cons_of_mem _ (List.mem_cons_of_mem _ hy))
theorem crMax (hc : X.calm = true) : CallR X (.builtin "max") (AN X cA (biD .max) E) := crG fun pins s σ H xs us Q g S ds I r rs rr p => by
  match ds, rr, p with
  | [], _, p => exact False.elim p
  | a :: b :: _ :: _, _, p => exact False.elim (by cases a <;> cases b <;> exact p)
  | [d, e], rr, p =>
    obtain ⟨w, w2, rfl, r1, r2⟩ := rr.two
    cases d <;> cases e <;> try exact False.elim p
    simp only [Rep] at r1 r2
    subst r1 r2
    exact call_max2 hc pins s σ H _ us Q I r ⟨_, _, rfl, Post.here (d := .int _) p rs Rep.int⟩
  | [d], rr, p =>
    obtain ⟨w, rfl, r1⟩ := rr.one
    have p : Post X.K cA (Rep X.K cA) g (match (lstOf S d).bind (mapO intOf) with
      | some (x :: xs) => .ok (.int (maxL x xs)) S
      | _ => .bad) Q E := by cases d <;> exact p
    cases e : lstOf S d with
    | none => rw [e] at p; exact False.elim p
    | some ys =>
      rw [e] at p
      simp only [Option.bind_some] at p
      cases e2 : mapO intOf ys with
      | none => rw [e2] at p; exact False.elim p
      | some ns =>
        rw [e2] at p
        cases ns with
        | nil => exact False.elim p
        | cons n ns =>
          obtain ⟨a, vs, rfl, hl, t⟩ := lstOf_ok rs e r1
          have := ints_of e2 t
          subst this
          refine cr_max hc pins s σ H _ us Q I r ⟨a, n :: ns, rfl, hl, by simp, fun m h1 h2 => ?_⟩
          have q := Post.here (d := .int (maxL n ns)) p rs Rep.int
          rw [maxL_max ns n m h1 h2] at q
          exact q
theorem crMin (hc : X.calm = true) : CallR X (.builtin "min") (AN X cA (biD .min) E) := crG fun pins s σ H xs us Q g S ds I r rs rr p => by
  match ds, rr, p with
  | [], _, p => exact False.elim p
  | a :: b :: _ :: _, _, p => exact False.elim (by cases a <;> cases b <;> exact p)
  | [d, e], rr, p =>
    obtain ⟨w, w2, rfl, r1, r2⟩ := rr.two
    cases d <;> cases e <;> try exact False.elim p
    simp only [Rep] at r1 r2
    subst r1 r2
    exact call_min2 hc pins s σ H _ us Q I r ⟨_, _, rfl, Post.here (d := .int _) p rs Rep.int⟩
  | [d], rr, p =>
    obtain ⟨w, rfl, r1⟩ := rr.one
    have p : Post X.K cA (Rep X.K cA) g (match (lstOf S d).bind (mapO intOf) with
      | some (x :: xs) => .ok (.int (minL x xs)) S
      | _ => .bad) Q E := by cases d <;> exact p
    cases e : lstOf S d with
    | none => rw [e] at p; exact False.elim p
    | some ys =>
      rw [e] at p
      simp only [Option.bind_some] at p
      cases e2 : mapO intOf ys with
      | none => rw [e2] at p; exact False.elim p
      | some ns =>
        rw [e2] at p
        cases ns with
        | nil => exact False.elim p
        | cons n ns =>
          obtain ⟨a, vs, rfl, hl, t⟩ := lstOf_ok rs e r1
          have := ints_of e2 t
          subst this
          refine cr_min hc pins s σ H _ us Q I r ⟨a, n :: ns, rfl, hl, by simp, fun m h1 h2 => ?_⟩
          have q := Post.here (d := .int (minL n ns)) p rs Rep.int
          rw [minL_min ns n m h1 h2] at q
          exact q
end
end GL
end
section
set_option Elab.async false
set_option linter.all false
set_option maxRecDepth 100000
/-! The program as it lies; contexts; what is asked of the written form. -/
namespace GL
open PySem L2 PySem.Spec PyProof.Rows

inductive Gn where | fn (i : Nat) | cls (i : Nat) | con (k : Nat) | blt
  deriving DecidableEq
structure Prg where
  prog : Program
  w : World
  K : PySem.W.Frag
  mg : Str → Option Value
  base : Heap
  cA : Nat → Addr
  fA : Nat → Addr
  iA : Nat → Addr
  fd : Nat → FuncData
  ifd : Nat → FuncData
  ps : Nat → List Str
  ips : Nat → List Str
  T : Tab
  gn : Str → Option Gn
abbrev pF : XK := fun _ _ _ => False
/-- a def's promise -/
def spF (G : Prg) (call : Nat → List DV → M DV) (i : Nat) : Sp := fun vs H Q E => vs.length = (G.ps i).length ∧
  ∃ g S ds, RelS G.K G.cA g S H ∧ Reps G.K G.cA g ds vs ∧ Post G.K G.cA (Rep G.K G.cA) g (call i ds S) Q E
def spI (G : Prg) (init : Nat → List DV → M DV) (c : Nat) : Sp := fun vs H Q E => vs.length = (G.ips c).length ∧
  ∃ g S ds x dx H1 ws, vs = .ref x :: ws ∧ H1 x = none ∧ H1 dx = none ∧ dx ≠ x ∧ H = upd (upd H1 dx (.own x)) x (.ins (G.cA c) dx []) ∧
    RelS G.K G.cA g S H1 ∧ Reps G.K G.cA g ds ws ∧ Post G.K G.cA (fun g' d v => v = .ref x ∧ Rep G.K G.cA g' d v) g (init c ds S) (fun v H2 => Q .non H2) E
def permV {α : Type} (perm : List Nat) (us ws : List α) : List α := perm.filterMap fun i => (us ++ ws)[i]?
def knV (G : Prg) : Kn → Value
  | .non => .type "NoneType" | .bool => .type "bool" | .int => .type "int" | .str => .type "str" | .tup => .type "tuple" | .lst => .type "list" | .dct => .type "dict" | .obj c => .ref (G.cA c)
def tyV' (G : Prg) : Ty → V
  | .int => .ty "int" | .bool => .ty "bool" | .str => .ty "str" | .tuple => .ty "tuple" | .list => .ty "list" | .cls c => .ref (G.cA c) | _ => .non
def tyVl (G : Prg) : Ty → Value
  | .int => .type "int" | .bool => .type "bool" | .str => .type "str" | .tuple => .type "tuple" | .list => .type "list" | .cls c => .ref (G.cA c) | _ => .none
structure POk (G : Prg) : Prop where
  kit : ∀ kn t, knOk G.T kn = true → tyOk G.T t = true → PySem.W.kitOne G.K (knV G kn) (tyVl G t) = some (isKn G.T kn t)
  own : ∀ c, G.T.cl c = true → Cls G.K (G.cA c) ∧ PySem.W.findIn G.K (.ref (G.cA c)) "__class__" = some (some (.builtin "object.__class__")) ∧ PySem.W.specialIn G.K (.builtin "object.__class__") "__get__" = some (some (.builtin "getset_descriptor.__get__")) ∧
    PySem.W.takesIn G.K (.builtin "object.__class__") = some true ∧ PySem.W.mroIn G.K (G.cA c) (.type "object") = some true
  fn : ∀ x i, G.gn x = some (.fn i) → G.mg x = some (.ref (G.fA i)) ∧ PySem.W.keepIn G.K (.ref (G.fA i)) = true
  cls : ∀ x c, G.gn x = some (.cls c) → G.mg x = some (.ref (G.cA c)) ∧ Mk G.K (G.cA c) (G.iA c)
  con : ∀ x k, G.gn x = some (.con k) → ∃ v u, G.mg x = some u ∧ RelV v u ∧ ∀ g, Rep G.K G.cA g (G.T.glob k) v
  blt : ∀ x, G.gn x = some .blt → G.mg x = none
  ar : ∀ i, G.T.arity i = (G.ps i).length
  iar : ∀ c, G.T.iar c = (G.ips c).length
  bnd : ∀ i j, j ≤ (G.T.dfl i).length → (G.T.dfl i).length ≤ j + (G.ps i).length → ∃ dvs ds, Vals dvs ds ∧ Binds G.K (G.fd i) (G.ps i) ds ∧ ∀ g, Reps G.K G.cA g ((G.T.dfl i).drop j) dvs
  bndI : ∀ c, Binds G.K (G.ifd c) (G.ips c) []
  kb : ∀ f n ks perm, (n, ks, perm) ∈ G.T.kb f → KBn G.K (G.fd f) (G.ps f) n ks (permV perm) (permV perm)
  meth : ∀ c m g, G.T.meth c m = some g → Meth G.K (G.cA c) m (G.fA g)
  prop : ∀ c f g, G.T.prop c f = some g → ∃ p, PropOf G.K (G.cA c) f p (G.fA g)
  fld : ∀ c f, f ∈ G.T.flds c → Cls G.K (G.cA c) ∧ NoAttr G.K (G.cA c) f
  mcl : ∀ c m g, G.T.meth c m = some g → Cls G.K (G.cA c)
  pcl : ∀ c m g, G.T.prop c m = some g → Cls G.K (G.cA c)
/-- the calls, by what they promise at a level -/
structure Lv (G : Prg) (K : Cl) (k : Nat) : Prop where
  T : K.T = G.T
  call : ∀ i, FnOk G.prog G.w G.K G.mg G.base (L2.CX G.prog G.w) k (G.fA i) (G.fd i) (G.ps i) (spF G K.call i)
  init : ∀ c, FnOk G.prog G.w G.K G.mg G.base (L2.CX G.prog G.w) k (G.iA c) (G.ifd c) (G.ips c) (spI G K.init c)
/-- a context, its names and its scope -/
structure CtxOk (G : Prg) (k : Nat) (N : List Str) (sc : Scope) (X : Cx) : Prop where
  prog : X.prog = G.prog
  w : X.w = G.w
  K : X.K = G.K
  mg : X.mg = G.mg
  base : X.base = G.base
  N : X.N = N
  nd : X.N.Nodup
  sc : X.env.scope = sc
  calm : X.calm = true
  room : Room (k + 1) X.A
theorem passF {X : Cx} : Passes (L2.CX X.prog X.w) X pF := fun _ _ _ _ _ _ _ h => by
  obtain ⟨_, _, _, _, _, _, _, _, _, _, _, _, z⟩ := h
  exact z.elim
theorem CtxOk.hu {G : Prg} {k : Nat} {N : List Str} {sc : Scope} {X : Cx} (c : CtxOk G k N sc X) : X.A.units + 65 < cLine := by
  have := c.room.un
  omega
/-- a block of a context -/
theorem CtxOk.blk {G : Prg} {k : Nat} {N : List Str} {sc : Scope} {X : Cx} (c : CtxOk G k N sc X) (scope : Scope) (s : Shared) (H : Hp) (C : Addr) (cl : List (Str × Addr)) (fp : List Addr) :
    CtxOk G k N (relS scope sc) (X.blk s H scope (compEnvC scope cl C X.env) fp) :=
  ⟨c.prog, c.w, c.K, c.mg, c.base, c.N, c.nd, by rw [← c.sc]; rfl, c.calm, c.room⟩

/-! ### the written form -/
def visB (sc : Scope) (x : Str) : Bool := match sc.names.lookup x with
  | some .local => true
  | some .cell => true
  | some .free => true
  | _ => false
theorem visB_ok {sc : Scope} {x : Str} (h : visB sc x = true) : Vis sc x := by
  unfold visB at h
  unfold Vis
  split at h
  · next e => exact .inl e
  · next e => exact .inr (.inl e)
  · next e => exact .inr (.inr e)
  · cases h
def locB (sc : Scope) (x : Str) : Bool := match sc.names.lookup x with
  | some .local => true
  | some .cell => true
  | _ => false
theorem locB_ok {sc : Scope} {x : Str} (h : locB sc x = true) : L2.Loc sc x := by
  unfold locB at h
  unfold L2.Loc
  split at h
  · next e => exact .inl e
  · next e => exact .inr e
  · cases h
def glB (sc : Scope) (x : Str) : Bool := match sc.names.lookup x with
  | some .globalImplicit => !(x == ("__debug__" : Str))
  | _ => false
theorem glB_ok {sc : Scope} {X : Cx} {x : Str} (e : X.env.scope = sc) (h : glB sc x = true) : Gl X x ∧ (x == ("__debug__" : Str)) = false := by
  unfold glB at h
  split at h
  · next q =>
    refine ⟨?_, by simpa using h⟩
    show X.env.scope.names.lookup x = _
    rw [e]; exact q
  · cases h
def noStar : Expr → Bool
  | .Starred _ _ => false
  | _ => true
theorem star_cons {e : Expr} (h : noStar e = true) (es : List Expr) (env : PySem.Env) : starEach (e :: es) env = (false, eval e env) :: starEach es env := by
  cases e <;> first | rfl | (unfold noStar at h; cases h)
theorem star_any {es : List Expr} (h : es.all noStar = true) (env : PySem.Env) (pos : Pos) : (backTo pos (starEach es env)).any (·.1) = false := by
  induction es with
  | nil => rfl
  | cons e es ih =>
    simp only [List.all_cons, Bool.and_eq_true] at h
    rw [star_cons h.1]
    show (false || (backTo pos (starEach es env)).any (·.1)) = false
    rw [ih h.2]
    rfl
theorem star_all {es : List Expr} (h : es.all noStar = true) (env : PySem.Env) (pos : Pos) : (backTo pos (starEach es env)).all (fun x => !x.1) = true := by
  induction es with
  | nil => rfl
  | cons e es ih =>
    simp only [List.all_cons, Bool.and_eq_true] at h
    rw [star_cons h.1]
    show (true && (backTo pos (starEach es env)).all (fun x => !x.1)) = true
    rw [ih h.2]
    rfl
def noSup : Expr → Bool
  | .Call (.Name _ _) [] [] _ => false
  | _ => true
theorem noSup_ok {e : Expr} (h : noSup e = true) (f : Str) (env : PySem.Env) (m : Sem Value) : attributeBase e f env m = m := by
  unfold attributeBase
  split
  · next e => unfold noSup at h; simp at h
  · rfl
def noSlc : Expr → Bool
  | .Slice _ _ _ _ => false
  | _ => true
theorem noSlc_ok {e : Expr} (h : noSlc e = true) : PlainIx e := by
  intro o i
  unfold subscripted
  cases e <;> first | rfl | (unfold noSlc at h; cases h)
def noSet : Expr → Bool
  | .Set _ _ _ => false
  | _ => true
theorem noSet_mark {e : Expr} (h : noSet e = true) (op : CmpOp) : behindInMarks op e = false := by
  cases e <;> first | rfl | (unfold noSet at h; cases h)
theorem noSet_fold {e : Expr} (h : noSet e = true) (env : PySem.Env) (x : Value) : foldedSetIterable e env x = pure x := by
  cases e <;> first | rfl | (unfold noSet at h; cases h)
/-- what the test of an expression is: its own truth -/
def plainT : Expr → Bool
  | .UnaryOp .Not _ _ => false
  | .BoolOp _ _ _ => false
  | .IfExp _ _ _ _ => false
  | .Compare _ _ _ _ => false
  | _ => true
theorem plainT_ok {e : Expr} (h : plainT e = true) (env : PySem.Env) (whole : Sem Value) : isTrue e env whole = (do let v ← whole; standAt e.pos; holding [v] (truthy v)) := by
  cases e <;> first | rfl | (unfold plainT at h; cases h) | skip
  rename_i op a p
  cases op <;> first | rfl | (unfold plainT at h; cases h)
end GL
end
section
set_option Elab.async false
set_option linter.all false
set_option maxRecDepth 100000
/-! The core program and the written one: the match. -/
namespace GL
open PySem
open L2 (blkC relS)

def biN : Bi → Str
  | .len => "len" | .abs => "abs" | .int => "int" | .str => "str" | .sum => "sum" | .all => "all" | .any => "any" | .max => "max" | .min => "min" | .sorted => "sorted" | .list => "list" | .tuple => "tuple" | .dict => "dict"
def bmN : Bm → Str
  | .get => "get" | .index => "index" | .count => "count" | .join => "join"
def tyN : Ty → Option Str
  | .int => some "int" | .bool => some "bool" | .str => some "str" | .tuple => some "tuple" | .list => some "list" | _ => none
def lineB (apos pos : Pos) : Bool := apos.endLine == pos.line
section
variable (N : List Str) (gn : Str → Option Gn)
def fnB (sc : Scope) (x : Str) (i : Nat) : Bool := glB sc x && decide (gn x = some (.fn i))
def clB (sc : Scope) (x : Str) (i : Nat) : Bool := glB sc x && decide (gn x = some (.cls i))
def blB (sc : Scope) (x b : Str) : Bool := decide (x = b) && (glB sc x && decide (gn x = some .blt))
def nmB (sc : Scope) (i : Nat) (x : Str) : Bool := decide (N[i]? = some x) && visB sc x && !(x == ("__debug__" : Str)) && !(x == ("__classdict__" : Str))
mutual
def mtT (lf : Str → Bool) : CT → Expr → Bool
  | .nm i, .Name x _ => decide (N[i]? = some x) && lf x
  | .tp ts, .Tuple es _ _ => mtTs lf ts es
  | _, _ => false
def mtTs (lf : Str → Bool) : List CT → List Expr → Bool
  | [], [] => true
  | t :: ts, e :: es => noStar e && mtT lf t e && mtTs lf ts es
  | _, _ => false
end
def mtY (sc : Scope) : Ty → Expr → Bool
  | .cls c, .Name x _ => clB gn sc x c
  | t, .Name x _ => match tyN t with
    | some y => blB gn sc x y
    | none => false
  | _, _ => false
def mtYs (sc : Scope) : List Ty → List Expr → Bool
  | [], [] => true
  | t :: ts, e :: es => noStar e && mtY gn sc t e && mtYs sc ts es
  | _, _ => false
mutual
def mtE : CE → Scope → Expr → Bool
  | .never, _, _ => true
  | .var i, sc, .Name x _ => nmB N sc i x
  | .int i, _, .Constant (.int j) _ _ => decide (i = j)
  | .bl b, _, .Constant (.bool c) _ _ => b == c
  | .non, _, .Constant .none _ _ => true
  | .str x, _, .Constant (.str y) _ _ => decide (mkS x = y) && okS x
  | .gl k, sc, .Name x _ => glB sc x && decide (gn x = some (.con k))
  | .bin op a b, sc, .BinOp l o r _ => decide (o = pyB op) && mtE a sc l && mtE b sc r
  | .neg a, sc, .UnaryOp o e _ => decide (o = .USub) && mtE a sc e
  | .cmp op a b, sc, .Compare l [o] [r] _ => decide (o = pyC op) && noSet r && mtE a sc l && mtE b sc r
  | .cmp2 o1 o2 a b c, sc, .Compare l [p1, p2] [m, r] _ => decide (p1 = pyC o1) && decide (p2 = pyC o2) && noSet r && mtE a sc l && mtE b sc m && mtE c sc r
  | .not a, sc, .UnaryOp o e _ => decide (o = .Not) && mtE a sc e
  | .and a b, sc, .BoolOp .And (e1 :: e2 :: rest) pos => mtE a sc e1 && (match rest with
    | [] => mtE b sc e2
    | _ => mtE b sc (.BoolOp .And (e2 :: rest) pos))
  | .or a b, sc, .BoolOp .Or (e1 :: e2 :: rest) pos => mtE a sc e1 && (match rest with
    | [] => mtE b sc e2
    | _ => mtE b sc (.BoolOp .Or (e2 :: rest) pos))
  | .ite c a b, sc, .IfExp t x y _ => mtE c sc t && mtE a sc x && mtE b sc y
  | .tup es, sc, .Tuple l _ _ => mtEs es sc l
  | .lst es, sc, .List l _ => mtEs es sc l
  | .pkx i k, sc, .Subscript (.Name x _) e _ => nmB N sc i x && noSlc e && mtE k sc e
  | .pkl i, sc, .Call (.Name f _) [.Name x _] [] _ => blB gn sc f "len" && nmB N sc i x
  | .pkf i f, sc, .Attribute (.Name x _) g _ => nmB N sc i x && decide (f = g)
  | .ix a i, sc, .Subscript x e _ => noSlc e && mtE a sc x && mtE i sc e
  | .sl a lo hi, sc, .Subscript x (.Slice l h none _) _ => mtE a sc x && mtEo lo sc l && mtEo hi sc h
  | .rev a, sc, .Subscript x (.Slice none none (some (.UnaryOp .USub (.Constant (.int n) _ _) _)) _) _ => decide (n = 1) && mtE a sc x
  | .fld a f, sc, .Attribute x g _ => decide (f = g) && noSup x && mtE a sc x
  | .prop a f, sc, .Attribute x g _ => decide (f = g) && noSup x && mtE a sc x
  | .call f es, sc, .Call (.Name x _) args [] _ => fnB gn sc x f && args.all noStar && mtEs es sc args
  | .callk f n ks perm es kes, sc, .Call (.Name x _) args kws _ => fnB gn sc x f && args.all noStar && !ks.isEmpty && mtEs es sc args && mtKs ks kes sc kws
  | .meth o m es, sc, .Call (.Attribute x g ap) args [] pos => decide (m = g) && noSup x && args.all noStar && decide (args.length < 30) && lineB ap pos && mtE o sc x && mtEs es sc args
  | .new c es, sc, .Call (.Name x _) args [] _ => clB gn sc x c && args.all noStar && mtEs es sc args
  | .bi b es, sc, .Call (.Name x _) (a :: args) [] _ => blB gn sc x (biN b) && (a :: args).all noStar && mtEs es sc (a :: args)
  | .bm o m es, sc, .Call (.Attribute x g ap) (a :: args) [] pos => decide (m = .join) && decide (g = bmN m) && noSup x && (a :: args).all noStar && decide ((a :: args).length < 30) && lineB ap pos && mtE o sc x && mtEs es sc (a :: args)
  | .isi a ts, sc, .Call (.Name x _) [e, t] [] _ => blB gn sc x "isinstance" && noStar e && noStar t && mtE a sc e && (match t with
    | .Tuple l _ _ => decide (ts.length < 100) && mtYs gn sc ts l
    | t => (match ts with
      | [y] => mtY gn sc y t
      | _ => false))
  | .rng a b c, sc, .Call (.Name l _) [.Call (.Name x _) args [] _] [] _ => blB gn sc l "list" && blB gn sc x "range" && args.all noStar && decide (c = 1) && (match args with
    | [e] => (match a with
      | .int i => decide (i = 0) && mtE b sc e
      | _ => false)
    | [e1, e2] => mtE a sc e1 && mtE b sc e2
    | _ => false)
  | .comp elt g own, sc, .ListComp e gens scope _ => blkC N sc scope own && (gslots g).all (fun i => decide (i ∈ own.map (·.2))) && mtGs g sc (relS scope sc) scope gens && mtE elt (relS scope sc) e
  | .dcomp k v g own, sc, .DictComp e1 e2 gens scope _ => blkC N sc scope own && (gslots g).all (fun i => decide (i ∈ own.map (·.2))) && mtGs g sc (relS scope sc) scope gens && mtE k (relS scope sc) e1 && mtE v (relS scope sc) e2
  | .shr f, sc, e => plainT e && mtF f sc e
  | _, _, _ => false
def mtF : CF → Scope → Expr → Bool
  | .lst es, sc, .List l _ => mtEs es sc l
  | .bi b a, sc, .Call (.Name x _) [e] [] _ => decide (b = .list) && blB gn sc x "list" && noStar e && mtE a sc e
  | .add a b, sc, .BinOp l o r _ => decide (o = .Add) && mtE a sc l && mtE b sc r
  | .sl a lo hi, sc, .Subscript x (.Slice l h none _) _ => mtE a sc x && mtEo lo sc l && mtEo hi sc h
  | .rng a b c, sc, .Call (.Name l _) [.Call (.Name x _) args [] _] [] _ => blB gn sc l "list" && blB gn sc x "range" && args.all noStar && decide (c = 1) && (match args with
    | [e] => (match a with
      | .int i => decide (i = 0) && mtE b sc e
      | _ => false)
    | [e1, e2] => mtE a sc e1 && mtE b sc e2
    | _ => false)
  | .or a b, sc, .BoolOp .Or [e1, e2] _ => mtF a sc e1 && mtF b sc e2
  | .comp elt g own, sc, .ListComp e gens scope _ => blkC N sc scope own && (gslots g).all (fun i => decide (i ∈ own.map (·.2))) && mtGs g sc (relS scope sc) scope gens && mtE elt (relS scope sc) e
  | _, _, _ => false
def mtEs : CEs → Scope → List Expr → Bool
  | .nil, _, [] => true
  | .cons false e r, sc, x :: xs => noStar x && mtE e sc x && mtEs r sc xs
  | .cons true e r, sc, .Starred x _ :: xs => mtE e sc x && mtEs r sc xs
  | _, _, _ => false
def mtKs : List Str → CEs → Scope → List Keyword → Bool
  | [], .nil, _, [] => true
  | k :: ks, .cons false e r, sc, ⟨some n, x, _⟩ :: xs => decide (k = n) && mtE e sc x && mtKs ks r sc xs
  | _, _, _, _ => false
def mtEo : CEo → Scope → Option Expr → Bool
  | .no, _, none => true
  | .so e, sc, some x => mtE e sc x
  | _, _, _ => false
def mtI : CI → Scope → Expr → Expr → Bool
  | .seq e, sc, _, x => mtE e sc x
  | .rng a b c, sc, _, .Call (.Name x _) args [] _ => blB gn sc x "range" && args.all noStar && (match args with
    | [e] => (match a with
      | .int i => decide (i = 0) && decide (c = 1) && mtE b sc e
      | _ => false)
    | [e1, e2] => decide (c = 1) && mtE a sc e1 && mtE b sc e2
    | [e1, e2, .UnaryOp .USub (.Constant (.int n) _ _) _] => decide (n = 1) && decide (c = -1) && mtE a sc e1 && mtE b sc e2
    | _ => false)
  | .enum e, sc, .Tuple _ _ _, .Call (.Name f _) [x] [] _ => blB gn sc f "enumerate" && noStar x && mtE e sc x
  | .zip a b, sc, .Tuple _ _ _, .Call (.Name f _) [x, y] [] _ => blB gn sc f "zip" && noStar x && noStar y && mtE a sc x && mtE b sc y
  | _, _, _, _ => false
def mtGs : CGs → Scope → Scope → Scope → List Comprehension → Bool
  | .one (.mk t i c), si, sb, raw, [⟨tg, it, ifs, az⟩] => decide (az = 0) && noSet it && mtT N (locB raw) t tg && mtI i si tg it && mtC c sb ifs
  | .two (.mk t i c) r, si, sb, raw, ⟨tg, it, ifs, az⟩ :: gens => decide (az = 0) && noSet it && mtT N (locB raw) t tg && mtI i si tg it && mtC c sb ifs && mtGs r sb sb raw gens
  | _, _, _, _, _ => false
def mtC : CEs → Scope → List Expr → Bool
  | .nil, _, [] => true
  | .cons _ e .nil, sc, [x] => mtE e sc x
  | _, _, _ => false
end
end
end GL
end
section
set_option Elab.async false
set_option linter.all false
set_option maxRecDepth 100000
/-! The expressions, one by one. -/
namespace GL
open PySem L2 PySem.Spec PyProof.Rows

theorem Post.imp {α β : Type} {K : PySem.W.Frag} {cA : Nat → Addr} {rp : Gh → α → β → Prop} {g : Gh} {r : Rs α} {Q Q' : β → Hp → Prop} {E : XK} (h : Post K cA rp g r Q E) (q : ∀ b H, Q b H → Q' b H) : Post K cA rp g r Q' E := by
  cases r with
  | ok a S' => exact fun g' b H' l r p => q _ _ (h g' b H' l r p)
  | ex x S' => exact h
  | bad => exact h
theorem Post.bindE {α β γ δ : Type} {K : PySem.W.Frag} {cA : Nat → Addr} {rp : Gh → α → β → Prop} {rq : Gh → γ → δ → Prop} {g : Gh} {S : Sto} {m : M α} {k : α → M γ} {Q : δ → Hp → Prop} {R : β → Hp → Prop} {E : XK} (h : Post K cA rq g ((m >>= k) S) Q E)
    (f : ∀ g1 S1 a b H1, Le g g1 → RelS K cA g1 S1 H1 → rp g1 a b → Post K cA rq g1 (k a S1) Q E → R b H1) : Post K cA rp g (m S) R E :=
  (Post.bind h).imp fun b H ⟨g1, S1, a, l, rs, r, p⟩ => f g1 S1 a b H l rs r p
theorem _root_.L2.PE.imp {X : Cx} {e : Expr} {t t' : TE} (h : PE X e t) (i : ∀ σ H Q, t' σ H Q → t σ H Q) : PE X e t' := ⟨fun pins s σ H Q I q => h.run pins s σ H Q I (i _ _ _ q)⟩
theorem _root_.L2.PT.imp {X : Cx} {e : Expr} {t t' : TT} (h : PT X e t) (i : ∀ σ H Q, t' σ H Q → t σ H Q) : PT X e t' := ⟨fun pins s σ H Q I q => h.run pins s σ H Q I (i _ _ _ q)⟩
theorem _root_.L2.PA.imp {X : Cx} {e : List Expr} {t t' : TA} (h : PA X e t) (i : ∀ σ H Q, t' σ H Q → t σ H Q) : PA X e t' := ⟨fun pos pins s σ H Q I q => h.run pos pins s σ H Q I (i _ _ _ q)⟩
theorem _root_.L2.PI.imp {X : Cx} {tg e : Expr} {t t' : TI} (h : PI X tg e t) (i : ∀ σ H Q, t' σ H Q → t σ H Q) : PI X tg e t' := ⟨fun pins s σ H Q I q => h.run pins s σ H Q I (i _ _ _ q)⟩
abbrev eqR (g : Gh) (a b : Bool) : Prop := a = b
abbrev optR (g : Gh) (a b : Option Int) : Prop := a = b

section
variable {X : Cx} {cA : Nat → Addr} {E : XK} {K : Cl} {pos : Pos}
abbrev TAE (X : Cx) (cA : Nat → Addr) (E : XK) (m : Env → M DV) : TE := Ab X.K cA (Rep X.K cA) m E
abbrev TAT (X : Cx) (cA : Nat → Addr) (E : XK) (m : Env → M Bool) : TT := Ab X.K cA eqR m E
abbrev TAS (X : Cx) (cA : Nat → Addr) (E : XK) (m : Env → M (List DV)) : TA := Ab X.K cA (Reps X.K cA) m E
variable {e x y z : Expr} {a b c : CE}

theorem ab_var {i : Nat} {nm : Str} (hN : X.N[i]? = some nm) (hv : Vis X.env.scope nm) (h1 : (nm == ("__debug__" : Str)) = false) (h2 : (nm == ("__classdict__" : Str)) = false) : PE X (.Name nm pos) (TAE X cA E (evE K (.var i))) := by
  refine (pe_var hN hv h1 h2).imp fun σ H Q ⟨g, ρ, S, re, rs, p⟩ => ?_
  simp only [evE] at p
  unfold sget at p
  cases q : ρ[i]? with
  | none => rw [q] at p; exact False.elim p
  | some s =>
    rw [q] at p
    cases s with
    | val d =>
      obtain ⟨v, h1, h2⟩ := re.val i d q
      exact ⟨v, h1, Post.here p rs h2⟩
    | _ => exact False.elim p
theorem ab_const {d : DV} {v : V} (h : PE X e (tC v)) (r : ∀ g, Rep X.K cA g d v) {m : Env → M DV} (hm : ∀ ρ S, m ρ S = .ok d S) : PE X e (TAE X cA E m) := by
  refine h.imp fun σ H Q ⟨g, ρ, S, re, rs, p⟩ => ?_
  rw [hm] at p
  exact Post.here p rs (r g)
theorem ab_bin {op : Bop} (ha : PE X x (TAE X cA E (evE K a))) (hb : PE X y (TAE X cA E (evE K b))) : PE X (.BinOp x (pyB op) y pos) (TAE X cA E (evE K (.bin op a b))) := by
  refine (pe_op (orBin (cA := cA) (E := E) op) ha hb).imp fun σ H Q ⟨g, ρ, S, re, rs, p⟩ => ?_
  simp only [evE] at p
  refine ⟨g, ρ, S, re, rs, p.bindE fun g1 S1 u v H1 l1 rs1 r1 p => ?_⟩
  refine ⟨g1, ρ, S1, re.mono l1, rs1, p.bindE fun g2 S2 u2 v2 H2 l2 rs2 r2 p => ?_⟩
  exact ⟨g2, S2, u, u2, rs2, Rep.mono l2 _ _ r1, r2, p⟩
theorem ab_neg (ha : PE X x (TAE X cA E (evE K a))) : PE X (.UnaryOp .USub x pos) (TAE X cA E (evE K (.neg a))) := by
  refine (pe_un (orNeg (cA := cA) (E := E)) ha).imp fun σ H Q ⟨g, ρ, S, re, rs, p⟩ => ?_
  simp only [evE] at p
  refine ⟨g, ρ, S, re, rs, p.bindE fun g1 S1 u v H1 l1 rs1 r1 p => ?_⟩
  exact ⟨g1, S1, u, rs1, r1, p⟩
theorem ab_cmp (hu : X.A.units + 65 < cLine) {op : Cop} (ha : PE X x (TAE X cA E (evE K a))) (hb : PE X y (TAE X cA E (evE K b))) (hs : noSet y = true) : PE X (.Compare x [pyC op] [y] pos) (TAE X cA E (evE K (.cmp op a b))) := by
  refine (pe_cmpR (orCmp (cA := cA) (E := E) hu op) ha hb (noSet_mark hs _)).imp fun σ H Q ⟨g, ρ, S, re, rs, p⟩ => ?_
  simp only [evE] at p
  refine ⟨g, ρ, S, re, rs, p.bindE fun g1 S1 u v H1 l1 rs1 r1 p => ?_⟩
  refine ⟨g1, ρ, S1, re.mono l1, rs1, p.bindE fun g2 S2 u2 v2 H2 l2 rs2 r2 p => ?_⟩
  exact ⟨g2, S2, u, u2, rs2, Rep.mono l2 _ _ r1, r2, p⟩
/-- a comparison's answer is a bool -/
theorem cmpD_bl (op : Cop) (u v : DV) (S : Sto) : cmpD op u v S = .bad ∨ ∃ k S', cmpD op u v S = .ok (.bl k) S' := by
  have eb : ∀ (m : M Bool) (f : Bool → Bool), (m S = .bad ∨ ∃ k S', m S = .ok k S') → ((m >>= fun r => (pure (.bl (f r)) : M DV)) S = .bad ∨ ∃ k S', (m >>= fun r => (pure (.bl (f r)) : M DV)) S = .ok (.bl k) S') := fun m f h => by
    rcases h with e | ⟨k, S', e⟩
    · refine .inl ?_
      show M.bind m _ S = _
      unfold M.bind
      rw [e]
    · refine .inr ⟨f k, S', ?_⟩
      show M.bind m _ S = _
      unfold M.bind
      rw [e]
      rfl
  have he : eqD u v S = .bad ∨ ∃ k S', eqD u v S = .ok k S' := by
    rcases eqD_ok (S := S) (a := u) (b := v) with ⟨_, _, _, _, e⟩ | e
    · exact .inr ⟨_, _, e⟩
    · exact .inl e
  have hi : inD u v S = .bad ∨ ∃ k S', inD u v S = .ok k S' := by
    unfold inD
    repeat' split
    all_goals first | exact .inl rfl | exact .inr ⟨_, _, rfl⟩
  cases op with
  | eq => exact eb (eqD u v) id he
  | ne => exact eb (eqD u v) (fun k => !k) he
  | isin => exact eb (inD u v) id hi
  | notin => exact eb (inD u v) (fun k => !k) hi
  | lt => unfold cmpD; simp only []; repeat' split
          all_goals first | exact .inl rfl | exact .inr ⟨_, _, rfl⟩
  | le => unfold cmpD; simp only []; repeat' split
          all_goals first | exact .inl rfl | exact .inr ⟨_, _, rfl⟩
  | gt => unfold cmpD; simp only []; repeat' split
          all_goals first | exact .inl rfl | exact .inr ⟨_, _, rfl⟩
  | ge => unfold cmpD; simp only []; repeat' split
          all_goals first | exact .inl rfl | exact .inr ⟨_, _, rfl⟩
  | is => unfold cmpD; simp only []; repeat' split
          all_goals first | exact .inl rfl | exact .inr ⟨_, _, rfl⟩
  | isnot => unfold cmpD; simp only []; repeat' split
             all_goals first | exact .inl rfl | exact .inr ⟨_, _, rfl⟩

/-! ### tests -/
theorem M.bind_ok {α β : Type} {m : M α} {k : α → M β} {S S' : Sto} {a : α} (e : m S = .ok a S') : (m >>= k) S = k a S' := by
  show M.bind m k S = _
  unfold M.bind
  rw [e]
theorem M.bind_ex {α β : Type} {m : M α} {k : α → M β} {S S' : Sto} {x : DV} (e : m S = .ex x S') : (m >>= k) S = .ex x S' := by
  show M.bind m k S = _
  unfold M.bind
  rw [e]
theorem M.bind_bad {α β : Type} {m : M α} {k : α → M β} {S : Sto} (e : m S = .bad) : (m >>= k) S = .bad := by
  show M.bind m k S = _
  unfold M.bind
  rw [e]
theorem tst_of {m : M DV} {S : Sto} : tst m S = (match m S with
    | .ok d S' => (match truth S' d with
      | some k => .ok k S'
      | none => .bad)
    | .ex x S' => .ex x S'
    | .bad => .bad) := by
  unfold tst
  cases e : m S with
  | ok d S' =>
    rw [M.bind_ok e]
    show M.opt (truth S' d) S' = (match truth S' d with
      | some k => .ok k S'
      | none => .bad)
    cases e2 : truth S' d <;> rfl
  | ex x S' => rw [M.bind_ex e]
  | bad => rw [M.bind_bad e]
/-- truth of a value as an operation -/
def truO (d : DV) : M Bool := fun S => M.opt (truth S d) S
theorem pt_of (he : PE X e (TAE X cA E (evE K a))) (hp : plainT e = true) : PT X e (TAT X cA E (fun ρ => tst (evE K a ρ))) := by
  refine ⟨fun pins s σ H Q I ⟨g, ρ, S, re, rs, p⟩ => ?_⟩
  refine isTrue_plain (thn (he.run pins s σ H (fun b H1 => ∃ g1 S1 d, Le g g1 ∧ RelS X.K cA g1 S1 H1 ∧ Rep X.K cA g1 d b ∧ Post X.K cA eqR g1 ((getS >>= fun S => M.opt (truth S d)) S1) Q E) I ⟨g, ρ, S, re, rs, Post.bind p⟩) fun v s1 ⟨x, H1, I1, r1, g1, S1, d, l1, rs1, rd, p⟩ => ?_) (plainT_ok hp _ _)
  cases e2 : truth S1 d with
  | none =>
    have p : Post X.K cA eqR g1 (M.opt (truth S1 d) S1) Q E := p
    rw [e2] at p
    exact False.elim p
  | some k =>
    have p : Post X.K cA eqR g1 (M.opt (truth S1 d) S1) Q E := p
    rw [e2] at p
    exact truth_ok I1 r1 rs1 rd e2 (p g1 k H1 Le.rfl' rs1 rfl)
theorem pt_cast {t t' : Env → M Bool} (h : PT X e (TAT X cA E t)) (q : ∀ ρ S, t' ρ S = t ρ S) : PT X e (TAT X cA E t') := h.imp fun σ H Q ⟨g, ρ, S, re, rs, p⟩ => ⟨g, ρ, S, re, rs, by rw [← q]; exact p⟩
theorem pe_cast {t t' : Env → M DV} (h : PE X e (TAE X cA E t)) (q : ∀ ρ S, t' ρ S = t ρ S) : PE X e (TAE X cA E t') := h.imp fun σ H Q ⟨g, ρ, S, re, rs, p⟩ => ⟨g, ρ, S, re, rs, by rw [← q]; exact p⟩
theorem Post.bl {K' : PySem.W.Frag} {cA : Nat → Addr} {g : Gh} {m : M DV} {S : Sto} {Q : Bool → Hp → Prop} {E : XK} (h : Post K' cA eqR g (tst m S) Q E) (hb : m S = .bad ∨ ∃ k S', m S = .ok (.bl k) S') : Post K' cA (Rep K' cA) g (m S) (fun x H' => ∃ k, x = .bl k ∧ Q k H') E := by
  rw [tst_of] at h
  rcases hb with e | ⟨k, S', e⟩
  · rw [e] at h; exact False.elim h
  · rw [e] at h ⊢
    intro g' b H' l rs r
    simp only [Rep] at r
    exact ⟨k, r, h g' k H' l rs rfl⟩
theorem pt_cmp' (hu : X.A.units + 65 < cLine) {op : Cop} (ha : PE X x (TAE X cA E (evE K a))) (hb : PE X y (TAE X cA E (evE K b))) (hs : noSet y = true) : PT X (.Compare x [pyC op] [y] pos) (TAT X cA E (fun ρ => tst (evE K (.cmp op a b) ρ))) := by
  refine (pt_cmpR (orCmp (cA := cA) (E := E) hu op) ha hb (noSet_mark hs _)).imp fun σ H Q ⟨g, ρ, S, re, rs, p⟩ => ?_
  have p : Post X.K cA eqR g (((evE K a ρ >>= fun x => evE K b ρ >>= fun y => cmpD op x y) >>= fun x => getS >>= fun S => M.opt (truth S x)) S) Q E := by
    simp only [evE] at p
    exact p
  have as : ∀ {α β γ : Type} (m : M α) (k : α → M β) (f : β → M γ) (S : Sto), ((m >>= k) >>= f) S = (m >>= fun a => k a >>= f) S := fun m k f S => by
    cases e : m S with
    | ok a S' =>
      rw [M.bind_ok (k := fun a => k a >>= f) e]
      cases e2 : k a S' with
      | ok b S2 => rw [M.bind_ok e2, M.bind_ok (by rw [M.bind_ok e, e2])]
      | ex b S2 => rw [M.bind_ex e2, M.bind_ex (by rw [M.bind_ok e, e2])]
      | bad => rw [M.bind_bad e2, M.bind_bad (by rw [M.bind_ok e, e2])]
    | ex x S' => rw [M.bind_ex (k := fun a => k a >>= f) e, M.bind_ex (M.bind_ex e)]
    | bad => rw [M.bind_bad (k := fun a => k a >>= f) e, M.bind_bad (M.bind_bad e)]
  rw [as] at p
  refine ⟨g, ρ, S, re, rs, p.bindE fun g1 S1 u v H1 l1 rs1 r1 p => ?_⟩
  rw [as] at p
  refine ⟨g1, ρ, S1, re.mono l1, rs1, p.bindE fun g2 S2 u2 v2 H2 l2 rs2 r2 p => ?_⟩
  exact ⟨g2, S2, u, u2, rs2, Rep.mono l2 _ _ r1, r2, Post.bl p (cmpD_bl _ _ _ _)⟩
theorem M.assoc {α β γ : Type} (m : M α) (k : α → M β) (f : β → M γ) (S : Sto) : ((m >>= k) >>= f) S = (m >>= fun a => k a >>= f) S := by
    cases e : m S with
    | ok a S' =>
      rw [M.bind_ok (k := fun a => k a >>= f) e]
      cases e2 : k a S' with
      | ok b S2 => rw [M.bind_ok e2, M.bind_ok (by rw [M.bind_ok e, e2])]
      | ex b S2 => rw [M.bind_ex e2, M.bind_ex (by rw [M.bind_ok e, e2])]
      | bad => rw [M.bind_bad e2, M.bind_bad (by rw [M.bind_ok e, e2])]
    | ex x S' => rw [M.bind_ex (k := fun a => k a >>= f) e, M.bind_ex (M.bind_ex e)]
    | bad => rw [M.bind_bad (k := fun a => k a >>= f) e, M.bind_bad (M.bind_bad e)]
theorem pt_not' (ha : PT X x (TAT X cA E (fun ρ => tst (evE K a ρ)))) : PT X (.UnaryOp .Not x pos) (TAT X cA E (fun ρ => tst (evE K (.not a) ρ))) := by
  refine (pt_not ha).imp fun σ H Q ⟨g, ρ, S, re, rs, p⟩ => ?_
  refine ⟨g, ρ, S, re, rs, ?_⟩
  have p : Post X.K cA eqR g (tst (tst (evE K a ρ) >>= fun k => pure (.bl (!k))) S) Q E := by
    simp only [evE] at p
    exact p
  rw [tst_of] at p
  show Post X.K cA eqR g (tst (evE K a ρ) S) _ E
  cases e : tst (evE K a ρ) S with
  | ok k S' => rw [M.bind_ok e] at p; exact fun g' b H' l r q => by subst q; exact p g' (!k) H' l r rfl
  | ex y S' => rw [M.bind_ex e] at p; exact p
  | bad => rw [M.bind_bad e] at p; exact p
theorem M.bind_congr {α β : Type} {m m' : M α} {f : α → M β} {S : Sto} (e : m S = m' S) : (m >>= f) S = (m' >>= f) S := by
  show M.bind m f S = M.bind m' f S
  unfold M.bind
  rw [e]
theorem M.bind_congr2 {α β : Type} {m : M α} {f f' : α → M β} {S : Sto} (e : ∀ a S', m S = .ok a S' → f a S' = f' a S') : (m >>= f) S = (m >>= f') S := by
  show M.bind m f S = M.bind m f' S
  unfold M.bind
  cases h : m S with
  | ok a S' => exact e a S' h
  | ex x S' => rfl
  | bad => rfl
theorem get_tru {β : Type} {d : DV} {f : Bool → M β} {S : Sto} : (getS >>= fun S => M.opt (truth S d) >>= f) S = (match truth S d with
    | some k => f k S
    | none => .bad) := by
  show (M.opt (truth S d) >>= f) S = _
  cases truth S d with
  | none => rfl
  | some k => rfl
theorem tst_bind {β : Type} {m : M DV} {f : Bool → M β} {S : Sto} : (tst m >>= f) S = (m >>= fun d => getS >>= fun S => M.opt (truth S d) >>= f) S := by
  unfold tst
  rw [M.assoc]
  refine M.bind_congr2 fun d S' _ => ?_
  rw [M.assoc]
/-- and, or, if, by their tests -/
theorem tst_and (ρ : Env) (S : Sto) : tst (evE K (.and a b) ρ) S = (tst (evE K a ρ) >>= fun k => if k then tst (evE K b ρ) else pure false) S := by
  have e0 : evE K (.and a b) ρ = (evE K a ρ >>= fun x => getS >>= fun S => M.opt (truth S x) >>= fun k => if k then evE K b ρ else pure x) := by simp only [evE]
  rw [e0, tst_bind]
  show ((evE K a ρ >>= _) >>= _) S = _
  rw [M.assoc]
  refine M.bind_congr2 fun d S' _ => ?_
  rw [get_tru]
  cases e2 : truth S' d with
  | none => exact M.bind_bad (by rw [get_tru, e2])
  | some k =>
    cases k with
    | true => exact M.bind_congr (f := fun x => getS >>= fun S => M.opt (truth S x)) (m' := evE K b ρ) (by rw [get_tru, e2]; rfl)
    | false =>
      rw [M.bind_ok (a := d) (S' := S') (by rw [get_tru, e2]; rfl)]
      show M.opt (truth S' d) S' = _
      rw [e2]; rfl
theorem tst_or (ρ : Env) (S : Sto) : tst (evE K (.or a b) ρ) S = (tst (evE K a ρ) >>= fun k => if k then pure true else tst (evE K b ρ)) S := by
  have e0 : evE K (.or a b) ρ = (evE K a ρ >>= fun x => getS >>= fun S => M.opt (truth S x) >>= fun k => if k then pure x else evE K b ρ) := by simp only [evE]
  rw [e0, tst_bind]
  show ((evE K a ρ >>= _) >>= _) S = _
  rw [M.assoc]
  refine M.bind_congr2 fun d S' _ => ?_
  rw [get_tru]
  cases e2 : truth S' d with
  | none => exact M.bind_bad (by rw [get_tru, e2])
  | some k =>
    cases k with
    | false => exact M.bind_congr (f := fun x => getS >>= fun S => M.opt (truth S x)) (m' := evE K b ρ) (by rw [get_tru, e2]; rfl)
    | true =>
      rw [M.bind_ok (a := d) (S' := S') (by rw [get_tru, e2]; rfl)]
      show M.opt (truth S' d) S' = _
      rw [e2]; rfl
theorem tst_ite (ρ : Env) (S : Sto) : tst (evE K (.ite c a b) ρ) S = (tst (evE K c ρ) >>= fun k => if k then tst (evE K a ρ) else tst (evE K b ρ)) S := by
  have e0 : evE K (.ite c a b) ρ = (tst (evE K c ρ) >>= fun k => if k then evE K a ρ else evE K b ρ) := by simp only [evE]
  rw [e0]
  show ((tst (evE K c ρ) >>= _) >>= _) S = _
  rw [M.assoc]
  refine M.bind_congr2 fun k S' _ => ?_
  cases k <;> rfl
theorem pt_and' {rest : List Expr} (ha : PT X x (TAT X cA E (fun ρ => tst (evE K a ρ)))) (hb : PT X (.BoolOp .And (y :: rest) pos) (TAT X cA E (fun ρ => tst (evE K b ρ)))) : PT X (.BoolOp .And (x :: y :: rest) pos) (TAT X cA E (fun ρ => tst (evE K (.and a b) ρ))) := by
  have hb' : PW X (.BoolOp .And (y :: rest) pos) (TAT X cA E (fun ρ => tst (evE K b ρ))) := ⟨fun wh pins s σ H Q I q => hb.run pins s σ H Q I q⟩
  refine (pw_and ha hb').pt.imp fun σ H Q ⟨g, ρ, S, re, rs, p⟩ => ?_
  have p : Post X.K cA eqR g (tst (evE K (.and a b) ρ) S) Q E := p
  rw [tst_and] at p
  refine ⟨g, ρ, S, re, rs, p.bindE fun g1 S1 k k' H1 l1 rs1 r1 p => ?_⟩
  cases r1
  cases k with
  | true => exact ⟨g1, ρ, S1, re.mono l1, rs1, p⟩
  | false => exact p g1 false H1 Le.rfl' rs1 rfl
theorem pt_or' {rest : List Expr} (ha : PT X x (TAT X cA E (fun ρ => tst (evE K a ρ)))) (hb : PT X (.BoolOp .Or (y :: rest) pos) (TAT X cA E (fun ρ => tst (evE K b ρ)))) : PT X (.BoolOp .Or (x :: y :: rest) pos) (TAT X cA E (fun ρ => tst (evE K (.or a b) ρ))) := by
  have hb' : PW X (.BoolOp .Or (y :: rest) pos) (TAT X cA E (fun ρ => tst (evE K b ρ))) := ⟨fun wh pins s σ H Q I q => hb.run pins s σ H Q I q⟩
  refine (pw_or ha hb').pt.imp fun σ H Q ⟨g, ρ, S, re, rs, p⟩ => ?_
  have p : Post X.K cA eqR g (tst (evE K (.or a b) ρ) S) Q E := p
  rw [tst_or] at p
  refine ⟨g, ρ, S, re, rs, p.bindE fun g1 S1 k k' H1 l1 rs1 r1 p => ?_⟩
  cases r1
  cases k with
  | false => exact ⟨g1, ρ, S1, re.mono l1, rs1, p⟩
  | true => exact p g1 true H1 Le.rfl' rs1 rfl
theorem pt_one {op : BoolOp} {t : TT} (h : PT X x t) : PT X (.BoolOp op [x] pos) t := by
  cases op with
  | And => exact (pw_and1 h).pt
  | Or => exact (pw_or1 h).pt
theorem pt_ite' (hc : PT X z (TAT X cA E (fun ρ => tst (evE K c ρ)))) (ha : PT X x (TAT X cA E (fun ρ => tst (evE K a ρ)))) (hb : PT X y (TAT X cA E (fun ρ => tst (evE K b ρ)))) : PT X (.IfExp z x y pos) (TAT X cA E (fun ρ => tst (evE K (.ite c a b) ρ))) := by
  refine ⟨fun pins s σ H Q I ⟨g, ρ, S, re, rs, p⟩ => ?_⟩
  have p : Post X.K cA eqR g (tst (evE K (.ite c a b) ρ) S) Q E := p
  rw [tst_ite] at p
  refine isTrue_IfExp (thn (hc.run pins s σ H (fun k H1 => if k = true then TAT X cA E (fun ρ => tst (evE K a ρ)) σ H1 Q else TAT X cA E (fun ρ => tst (evE K b ρ)) σ H1 Q) I ⟨g, ρ, S, re, rs, p.bindE fun g1 S1 k k' H1 l1 rs1 r1 p => ?_⟩) fun k s1 ⟨H1, I1, q1⟩ => ?_)
  · cases r1
    cases k with
    | true => exact ⟨g1, ρ, S1, re.mono l1, rs1, p⟩
    | false => exact ⟨g1, ρ, S1, re.mono l1, rs1, p⟩
  · cases k with
    | true => exact ha.run pins s1 σ H1 Q I1 q1
    | false => exact hb.run pins s1 σ H1 Q I1 q1
end
end GL
end
section
set_option Elab.async false
set_option linter.all false
set_option maxRecDepth 100000
/-! The expressions: logic, chains, displays, subscripts. -/
namespace GL
open PySem L2 PySem.Spec PyProof.Rows
section
variable {X : Cx} {cA : Nat → Addr} {E : XK} {K : Cl} {pos : Pos} {e x y z : Expr} {a b c : CE}

/-- UnaryOp Not is by the operand's truth -/
theorem ab_not (ha : PE X x (TAE X cA E (evE K a))) : PE X (.UnaryOp .Not x pos) (TAE X cA E (evE K (.not a))) := by
  refine ⟨fun pins s σ H Q I ⟨g, ρ, S, re, rs, p⟩ => ?_⟩
  have p : Post X.K cA (Rep X.K cA) g ((tst (evE K a ρ) >>= fun k => pure (.bl (!k))) S) Q E := by
    simp only [evE] at p
    exact p
  rw [tst_bind] at p
  refine UnaryOp_ (thn (ha.run pins s σ H _ I ⟨g, ρ, S, re, rs, Post.bind p⟩) fun v s1 ⟨w, H1, I1, r1, g1, S1, d, l1, rs1, rd, p⟩ => ?_)
  rw [get_tru] at p
  cases e2 : truth S1 d with
  | none => rw [e2] at p; exact False.elim p
  | some k =>
    rw [e2] at p
    exact not_of (thn (truth_ok (Q := fun c H2 => Q (.bl (!c)) H2) I1 r1 rs1 rd e2 (Post.here (d := .bl (!k)) p rs1 Rep.bl)) fun c s2 ⟨H2, I2, q2⟩ => ⟨.bl (!c), H2, I2, rfl, q2⟩)
theorem truth_keep {pins : List (Addr × Obj)} {s : Shared} {σ : L2.St} {H : Hp} {w : V} {v : Value} {g : Gh} {S : Sto} {d : DV} {k : Bool} {R : Bool → Shared → Prop} (I : Inv X pins σ H s) (rx : RelV w v) (rs : RelS X.K cA g S H) (r : Rep X.K cA g d w)
    (e : truth S d = some k) (q : ∀ s', Inv X pins σ H s' → R k s') : wpAny (model X.prog X.w) X.A (truthy v) R X.xe s := by
  refine thn (truth_ok (Q := fun c H2 => c = k ∧ H2 = H) I rx rs r e ⟨rfl, rfl⟩) fun c s2 ⟨H2, I2, e1, e2⟩ => ?_
  subst e1 e2
  exact q s2 I2
theorem ab_and {rest : List Expr} (ha : PE X x (TAE X cA E (evE K a))) (hb : PE X (.BoolOp .And (y :: rest) pos) (TAE X cA E (evE K b))) : PE X (.BoolOp .And (x :: y :: rest) pos) (TAE X cA E (evE K (.and a b))) := by
  refine ⟨fun pins s σ H Q I ⟨g, ρ, S, re, rs, p⟩ => ?_⟩
  simp only [evE] at p
  refine BoolOp_and (thn (ha.run pins s σ H _ I ⟨g, ρ, S, re, rs, Post.bind p⟩) fun v s1 ⟨w, H1, I1, r1, g1, S1, d, l1, rs1, rd, p⟩ => ?_)
  rw [get_tru] at p
  cases e2 : truth S1 d with
  | none => rw [e2] at p; exact False.elim p
  | some k =>
    rw [e2] at p
    refine truth_keep I1 r1 rs1 rd e2 fun s2 I2 => ?_
    cases k with
    | true => exact hb.run pins s2 σ H1 Q I2 ⟨g1, ρ, S1, re.mono l1, rs1, p⟩
    | false => exact ⟨w, H1, I2, r1, Post.here (d := d) p rs1 rd⟩
theorem ab_or {rest : List Expr} (ha : PE X x (TAE X cA E (evE K a))) (hb : PE X (.BoolOp .Or (y :: rest) pos) (TAE X cA E (evE K b))) : PE X (.BoolOp .Or (x :: y :: rest) pos) (TAE X cA E (evE K (.or a b))) := by
  refine ⟨fun pins s σ H Q I ⟨g, ρ, S, re, rs, p⟩ => ?_⟩
  simp only [evE] at p
  refine BoolOp_or (thn (ha.run pins s σ H _ I ⟨g, ρ, S, re, rs, Post.bind p⟩) fun v s1 ⟨w, H1, I1, r1, g1, S1, d, l1, rs1, rd, p⟩ => ?_)
  rw [get_tru] at p
  cases e2 : truth S1 d with
  | none => rw [e2] at p; exact False.elim p
  | some k =>
    rw [e2] at p
    refine truth_keep I1 r1 rs1 rd e2 fun s2 I2 => ?_
    cases k with
    | false => exact hb.run pins s2 σ H1 Q I2 ⟨g1, ρ, S1, re.mono l1, rs1, p⟩
    | true => exact ⟨w, H1, I2, r1, Post.here (d := d) p rs1 rd⟩
theorem ab_ite (hc : PT X z (TAT X cA E (fun ρ => tst (evE K c ρ)))) (ha : PE X x (TAE X cA E (evE K a))) (hb : PE X y (TAE X cA E (evE K b))) : PE X (.IfExp z x y pos) (TAE X cA E (evE K (.ite c a b))) := by
  refine (pe_ifExp hc ha hb).imp fun σ H Q ⟨g, ρ, S, re, rs, p⟩ => ?_
  have p : Post X.K cA (Rep X.K cA) g ((tst (evE K c ρ) >>= fun k => if k then evE K a ρ else evE K b ρ) S) Q E := by
    simp only [evE] at p
    exact p
  refine ⟨g, ρ, S, re, rs, p.bindE fun g1 S1 k k' H1 l1 rs1 r1 p => ?_⟩
  cases r1
  cases k with
  | true => exact ⟨g1, ρ, S1, re.mono l1, rs1, p⟩
  | false => exact ⟨g1, ρ, S1, re.mono l1, rs1, p⟩
theorem noSet_last {op op' : CmpOp} (hs : noSet z = true) : lastMarks [op, op'] [y, z] = false := noSet_mark hs op'
/-- the first link's answer as a bool -/
theorem Post.blK {g : Gh} {m : M DV} {f : DV → M DV} {S : Sto} {Q : VK} (p : Post X.K cA (Rep X.K cA) g ((m >>= f) S) Q E) (hb : m S = .bad ∨ ∃ k S', m S = .ok (.bl k) S') :
    Post X.K cA (Rep X.K cA) g (m S) (fun u H3 => ∃ k, u = .bl k ∧ ∃ g1 S1, Le g g1 ∧ RelS X.K cA g1 S1 H3 ∧ Post X.K cA (Rep X.K cA) g1 (f (.bl k) S1) Q E) E := by
  rcases hb with e | ⟨k, S', e⟩
  · rw [M.bind_bad e] at p; exact p.elim
  · have p' := p.mono (g1 := g) Le.rfl'
    rw [M.bind_ok e] at p'
    rw [e]
    intro g' b H' l rs r
    simp only [Rep] at r
    exact ⟨k, r, g', S', l, rs, p'.mono l⟩
theorem ab_cmp2 (hu : X.A.units + 65 < cLine) {o1 o2 : Cop} (ha : PE X x (TAE X cA E (evE K a))) (hb : PE X y (TAE X cA E (evE K b))) (hc : PE X z (TAE X cA E (evE K c))) (hs : noSet z = true) : PE X (.Compare x [pyC o1, pyC o2] [y, z] pos) (TAE X cA E (evE K (.cmp2 o1 o2 a b c))) := by
  refine (pe_chain (orCmp (cA := cA) (E := E) hu o1) (orCmp (cA := cA) (E := E) hu o2) ha hb hc (noSet_last hs)).imp fun σ H Q ⟨g, ρ, S, re, rs, p⟩ => ?_
  simp only [evE] at p
  refine ⟨g, ρ, S, re, rs, p.bindE fun g1 S1 u v H1 l1 rs1 r1 p => ?_⟩
  refine ⟨g1, ρ, S1, re.mono l1, rs1, p.bindE fun g2 S2 u2 v2 H2 l2 rs2 r2 p => ?_⟩
  refine ⟨g2, S2, u, u2, rs2, Rep.mono l2 _ _ r1, r2, (Post.blK p (cmpD_bl _ _ _ _)).imp fun w H3 ⟨k, ek, g3, S3, l3, rs3, p⟩ => ⟨k, ek, ?_⟩⟩
  cases k with
  | false => exact Post.here (d := .bl false) p rs3 Rep.bl
  | true =>
    refine ⟨g3, ρ, S3, (re.mono (l1.trans l2)).mono l3, rs3, Post.bindE p fun g4 S4 u4 v4 H4 l4 rs4 r4 p => ?_⟩
    exact ⟨g4, S4, u2, u4, rs4, Rep.mono (l3.trans l4) _ _ r2, r4, p⟩
/-- a test whose value is a bool, by its value's reading -/
theorem tst_bind' {m : M DV} {f : DV → M DV} {S : Sto} : tst (m >>= f) S = (m >>= fun d => tst (f d)) S := by
  unfold tst
  rw [M.assoc]
theorem pt_cmp2 (hu : X.A.units + 65 < cLine) {o1 o2 : Cop} (ha : PE X x (TAE X cA E (evE K a))) (hb : PE X y (TAE X cA E (evE K b))) (hc : PE X z (TAE X cA E (evE K c))) (hs : noSet z = true) : PT X (.Compare x [pyC o1, pyC o2] [y, z] pos) (TAT X cA E (fun ρ => tst (evE K (.cmp2 o1 o2 a b c) ρ))) := by
  refine (pt_chain (orCmp (cA := cA) (E := E) hu o1) (orCmp (cA := cA) (E := E) hu o2) ha hb hc (noSet_last hs)).imp fun σ H Q ⟨g, ρ, S, re, rs, p⟩ => ?_
  have p : Post X.K cA eqR g (tst (evE K (.cmp2 o1 o2 a b c) ρ) S) Q E := p
  simp only [evE] at p
  rw [tst_bind'] at p
  refine ⟨g, ρ, S, re, rs, p.bindE fun g1 S1 u v H1 l1 rs1 r1 p => ?_⟩
  rw [tst_bind'] at p
  refine ⟨g1, ρ, S1, re.mono l1, rs1, p.bindE fun g2 S2 u2 v2 H2 l2 rs2 r2 p => ?_⟩
  refine ⟨g2, S2, u, u2, rs2, Rep.mono l2 _ _ r1, r2, ?_⟩
  rw [tst_bind'] at p
  rcases cmpD_bl o1 u u2 S2 with e | ⟨k, S', e⟩
  · rw [M.bind_bad e] at p; exact p.elim
  rw [M.bind_ok e] at p
  rw [e]
  intro g3 w H3 l3 rs3 r3
  simp only [Rep] at r3
  refine ⟨k, r3, ?_⟩
  have p := p.mono l3
  cases k with
  | false => exact ⟨false, rfl, p g3 false H3 Le.rfl' rs3 rfl⟩
  | true =>
    have p : Post X.K cA eqR g3 (tst (evE K c ρ >>= fun z => cmpD o2 u2 z) S') Q E := p
    rw [tst_bind'] at p
    refine ⟨g3, ρ, S', (re.mono (l1.trans l2)).mono l3, rs3, Post.bindE p fun g4 S4 u4 v4 H4 l4 rs4 r4 p => ?_⟩
    exact ⟨g4, S4, u2, u4, rs4, Rep.mono (l3.trans l4) _ _ r2, r4, Post.bl p (cmpD_bl _ _ _ _)⟩

/-! ### lists of expressions -/
variable {es : CEs} {xs : List Expr}
theorem as_nil : PA X [] (TAS X cA E (evs K .nil)) := by
  refine pa_nil.imp fun σ H Q ⟨g, ρ, S, re, rs, p⟩ => ?_
  simp only [evs] at p
  exact p g [] H Le.rfl' rs Reps.nil
theorem as_cons (hn : noStar x = true) (ha : PE X x (TAE X cA E (evE K a))) (hr : PA X xs (TAS X cA E (evs K es))) : PA X (x :: xs) (TAS X cA E (evs K (.cons false a es))) := by
  refine (pa_cons ha hr (star_cons hn _ _)).imp fun σ H Q ⟨g, ρ, S, re, rs, p⟩ => ?_
  simp only [evs] at p
  refine ⟨g, ρ, S, re, rs, p.bindE fun g1 S1 u v H1 l1 rs1 r1 p => ?_⟩
  refine ⟨g1, ρ, S1, re.mono l1, rs1, p.bindE fun g2 S2 us vs H2 l2 rs2 r2 p => ?_⟩
  exact p g2 (v :: vs) H2 Le.rfl' rs2 (Reps.cons (Rep.mono l2 _ _ r1) r2)
theorem as_star {sp : Pos} (ha : PE X x (TAE X cA E (evE K a))) (hr : PA X xs (TAS X cA E (evs K es))) : PA X (.Starred x sp :: xs) (TAS X cA E (evs K (.cons true a es))) := by
  refine (StX.pa_star ha hr).imp fun σ H Q ⟨g, ρ, S, re, rs, p⟩ => ?_
  simp only [evs] at p
  refine ⟨g, ρ, S, re, rs, p.bindE fun g1 S1 u v H1 l1 rs1 r1 p => ?_⟩
  have p : Post X.K cA (Reps X.K cA) g1 ((M.opt (seqOf S1 u) >>= fun ys => evs K es ρ >>= fun xs => pure (ys ++ xs)) S1) Q E := p
  cases e : seqOf S1 u with
  | none => rw [e] at p; exact p.elim
  | some ys =>
    rw [e] at p
    obtain ⟨q, ws, rfl, hq, hr⟩ := seqOf_ok rs1 e r1
    have p : Post X.K cA (Reps X.K cA) g1 ((evs K es ρ >>= fun xs => pure (ys ++ xs)) S1) Q E := p
    refine ⟨q, ws, rfl, hq.symm, g1, ρ, S1, re.mono l1, rs1, p.bindE fun g2 S2 us vs H2 l2 rs2 r2 p => ?_⟩
    exact p g2 (ws ++ vs) H2 Le.rfl' rs2 ((Reps.mono l2 _ _ hr).app r2)
theorem ab_tup {kk : Nat} (h : PA X xs (TAS X cA E (evs K es))) : PE X (.Tuple xs kk pos) (TAE X cA E (evE K (.tup es))) := by
  refine (pe_tup h).imp fun σ H Q ⟨g, ρ, S, re, rs, p⟩ => ?_
  simp only [evE] at p
  refine ⟨g, ρ, S, re, rs, p.bindE fun g1 S1 us vs H1 l1 rs1 r1 p => ?_⟩
  split at p
  · next hl => exact ⟨by rw [← r1.length, ← sizeL]; exact hl, Post.tup p rs1 r1⟩
  · exact p.elim
theorem ab_lst (h : PA X xs (TAS X cA E (evs K es))) : PE X (.List xs pos) (TAE X cA E (evE K (.lst es))) := by
  refine (pe_lst h).imp fun σ H Q ⟨g, ρ, S, re, rs, p⟩ => ?_
  simp only [evE] at p
  refine ⟨g, ρ, S, re, rs, p.bindE fun g1 S1 us vs H1 l1 rs1 r1 p => ?_⟩
  split at p
  · next hl => exact ⟨by rw [← r1.length, ← sizeL]; exact hl, Post.lst p rs1 r1⟩
  · exact p.elim
/-! ### subscripts -/
theorem ab_ix (hu : X.A.units + 65 < cLine) (hs : noSlc y = true) (ha : PE X x (TAE X cA E (evE K a))) (hb : PE X y (TAE X cA E (evE K b))) : PE X (.Subscript x y pos) (TAE X cA E (evE K (.ix a b))) := by
  refine (pe_ix (orIx (cA := cA) (E := E) hu) ha hb (noSlc_ok hs)).imp fun σ H Q ⟨g, ρ, S, re, rs, p⟩ => ?_
  simp only [evE] at p
  refine ⟨g, ρ, S, re, rs, p.bindE fun g1 S1 u v H1 l1 rs1 r1 p => ?_⟩
  refine ⟨g1, ρ, S1, re.mono l1, rs1, p.bindE fun g2 S2 u2 v2 H2 l2 rs2 r2 p => ?_⟩
  exact ⟨g2, S2, u, u2, rs2, Rep.mono l2 _ _ r1, r2, p⟩
abbrev TAO (X : Cx) (cA : Nat → Addr) (E : XK) (m : Env → M (Option Int)) : TO := Ab X.K cA optR m E
variable {lo hi : CEo} {l h : Option Expr}
theorem ao_no : PO X none (TAO X cA E (evo K .no)) := by
  refine ⟨fun pins s σ H Q I ⟨g, ρ, S, re, rs, p⟩ => po_none.run pins s σ H Q I ?_⟩
  simp only [evo] at p
  exact p g none H Le.rfl' rs rfl
theorem ao_so (ha : PE X x (TAE X cA E (evE K a))) : PO X (some x) (TAO X cA E (evo K (.so a))) := by
  refine ⟨fun pins s σ H Q I ⟨g, ρ, S, re, rs, p⟩ => (po_some ha).run pins s σ H Q I ⟨g, ρ, S, re, rs, ?_⟩⟩
  simp only [evo] at p
  refine p.bindE (rp := Rep X.K cA) fun g1 S1 u v H1 l1 rs1 r1 p => ?_
  cases u <;> first | (exact p.elim; done) | skip
  rename_i i
  simp only [Rep] at r1
  exact ⟨i, r1, p g1 (some i) H1 Le.rfl' rs1 rfl⟩
end
end GL
end
section
set_option Elab.async false
set_option linter.all false
set_option maxRecDepth 100000
/-! The expressions: slices, own slots, fields, calls. -/
namespace GL
open PySem L2 PySem.Spec PyProof.Rows
theorem RelV.refl_ref {a : Addr} {u : Value} (h : RelV (.ref a) u) : u = .ref a := h
section
variable {X : Cx} {cA : Nat → Addr} {E : XK} {K : Cl} {pos : Pos} {e x y z : Expr} {a b c : CE} {lo hi : CEo} {l h : Option Expr} {es : CEs} {xs : List Expr}
theorem ab_sl {p2 : Pos} (ha : PE X x (TAE X cA E (evE K a))) (hl : PO X l (TAO X cA E (evo K lo))) (hh : PO X h (TAO X cA E (evo K hi))) : PE X (.Subscript x (.Slice l h none p2) pos) (TAE X cA E (evE K (.sl a lo hi))) := by
  refine (pe_slice (orSl (cA := cA) (E := E)) ha hl hh).imp fun σ H Q ⟨g, ρ, S, re, rs, p⟩ => ?_
  simp only [evE] at p
  refine ⟨g, ρ, S, re, rs, p.bindE fun g1 S1 u v H1 l1 rs1 r1 p => ?_⟩
  refine ⟨g1, ρ, S1, re.mono l1, rs1, Post.bindE p fun g2 S2 o o' H2 l2 rs2 r2 p => ?_⟩
  cases r2
  refine ⟨g2, ρ, S2, re.mono (l1.trans l2), rs2, Post.bindE p fun g3 S3 o3 o3' H3 l3 rs3 r3 p => ?_⟩
  cases r3
  exact ⟨g3, S3, u, rs3, Rep.mono (l2.trans l3) _ _ r1, p⟩
/-! ### what an own slot holds -/
theorem zip_get {α β : Type} {ks : List α} {vs : List β} {i : Nat} {k : α} {v : β} (h1 : ks[i]? = some k) (h2 : vs[i]? = some v) : (ks.zip vs)[i]? = some (k, v) := by
  rw [List.getElem?_zip_eq_some]
  exact ⟨h1, h2⟩
theorem fget_val {g : Gh} {f : Str} {d : DV} : ∀ {ns : List Str} {ds : List DV} {vs : List V}, ns.length = vs.length → Reps X.K cA g ds vs → fget ns ds f = some d → ∃ v, (ns.zip vs).lookup f = some v ∧ Rep X.K cA g d v
  | [], _, _, _, _, e => by simp [fget] at e
  | _ :: _, [], _, _, _, e => by simp [fget] at e
  | k :: ks, w :: ds, vs, hl, r, e => by
    simp only [Reps] at r
    obtain ⟨v, vs', rfl, r1, r2⟩ := r
    simp only [fget] at e
    rw [List.zip_cons_cons, List.lookup_cons]
    by_cases h : k = f
    · subst h
      rw [if_pos rfl] at e
      cases e
      exact ⟨v, by simp, r1⟩
    · rw [if_neg h] at e
      have : (f == k) = false := by simpa using fun z : f = k => h z.symm
      rw [this]
      exact fget_val (by simpa using hl) r2 e
theorem nolook {f : Str} : ∀ {ns : List Str} {vs : List V}, f ∉ ns → (ns.zip vs).lookup f = none
  | [], _, _ => rfl
  | _ :: _, [], _ => rfl
  | k :: ks, v :: vs, h => by
    rw [List.zip_cons_cons, List.lookup_cons]
    have h1 : (f == k) = false := by simpa using fun z : f = k => h (by rw [z]; exact List.mem_cons_self)
    rw [h1]
    exact nolook fun z => h (List.mem_cons_of_mem _ z)
/-- an instance, frozen or shared -/
theorem insOf_ok {g : Gh} {S : Sto} {H : Hp} (rs : RelS X.K cA g S H) {d : DV} {v : V} {c : Nat} {ns : List Str} {ds : List DV} (e : insOf S d = some (c, ns, ds)) (r : Rep X.K cA g d v) :
    ∃ a dx vs, v = .ref a ∧ H a = some (.ins (cA c) dx (ns.zip vs)) ∧ ns.length = vs.length ∧ Reps X.K cA g ds vs := by
  cases d with
  | obj c' ns' vs' =>
    cases e
    simp only [Rep] at r
    obtain ⟨a, dx, vs, rfl, h1, h2, h3⟩ := r
    exact ⟨a, dx, vs, rfl, rs.hF _ _ h1, h2, h3⟩
  | loc n =>
    simp only [insOf] at e
    cases q : S[n]? with
    | none => rw [q] at e; cases e
    | some o =>
      rw [q] at e
      cases o with
      | obj c' ns' vs' =>
        cases e
        simp only [Rep] at r
        obtain ⟨a, h1, rfl⟩ := r
        obtain ⟨a', h', k1, k2, k3, _, _⟩ := rs.st n _ q
        rw [h1] at k1; cases k1
        obtain ⟨dx, vs, rfl, k4, k5⟩ := k3
        exact ⟨a, dx, vs, rfl, k2, k4, k5⟩
      | _ => cases e
  | _ => simp [insOf] at e
structure Flds (X : Cx) (cA : Nat → Addr) (T : Tab) : Prop where
  fld : ∀ c f, f ∈ T.flds c → Cls X.K (cA c) ∧ NoAttr X.K (cA c) f
theorem ab_fld {f : Str} (F : Flds X cA K.T) (hs : noSup x = true) (ha : PE X x (TAE X cA E (evE K a))) : PE X (.Attribute x f pos) (TAE X cA E (evE K (.fld a f))) := by
  refine (pe_fld ha (noSup_ok hs _ _ _)).imp fun σ H Q ⟨g, ρ, S, re, rs, p⟩ => ?_
  simp only [evE] at p
  refine ⟨g, ρ, S, re, rs, p.bindE fun g1 S1 u v H1 l1 rs1 r1 p => ?_⟩
  unfold fldD at p
  cases e : insOf S1 u with
  | none => rw [e] at p; exact p.elim
  | some q =>
    obtain ⟨c, ns, ds⟩ := q
    rw [e] at p
    obtain ⟨a, dx, vs, rfl, h1, h2, h3⟩ := insOf_ok rs1 e r1
    simp only [] at p
    split at p
    · next hf =>
      cases e2 : fget ns ds f with
      | none => rw [e2] at p; exact p.elim
      | some d =>
        rw [e2] at p
        obtain ⟨w, k1, k2⟩ := fget_val h2 h3 e2
        exact ⟨a, cA c, dx, _, w, rfl, h1, (F.fld c f hf).1, (F.fld c f hf).2, k1, Post.here (d := d) p rs1 k2⟩
    · exact p.elim
/-- a name's value -/
theorem slot_val {i : Nat} {nm : Str} (hN : X.N[i]? = some nm) (hv : Vis X.env.scope nm) (h1 : (nm == ("__debug__" : Str)) = false) (h2 : (nm == ("__classdict__" : Str)) = false) : PE X (.Name nm pos) (tVar i) := pe_var hN hv h1 h2
theorem ab_pkf {i : Nat} {nm f : Str} {p2 : Pos} (F : Flds X cA K.T) (hN : X.N[i]? = some nm) (hv : Vis X.env.scope nm) (h1 : (nm == ("__debug__" : Str)) = false) (h2 : (nm == ("__classdict__" : Str)) = false) : PE X (.Attribute (.Name nm p2) f pos) (TAE X cA E (evE K (.pkf i f))) := by
  refine (pe_fld (pe_var hN hv h1 h2) (noSup_ok rfl _ _ _)).imp fun σ H Q ⟨g, ρ, S, re, rs, p⟩ => ?_
  simp only [evE] at p
  cases q : ρ[i]? with
  | none => rw [q] at p; exact p.elim
  | some s =>
    rw [q] at p
    cases s with
    | no => exact p.elim
    | val u =>
      obtain ⟨v, k1, r1⟩ := re.val i u q
      refine ⟨v, k1, ?_⟩
      simp only [] at p
      unfold fldD at p
      cases e : insOf S u with
      | none => rw [e] at p; exact p.elim
      | some q =>
        obtain ⟨c, ns, ds⟩ := q
        rw [e] at p
        obtain ⟨a, dx, vs, rfl, h1, h2, h3⟩ := insOf_ok rs e r1
        simp only [] at p
        split at p
        · next hf =>
          cases e2 : fget ns ds f with
          | none => rw [e2] at p; exact p.elim
          | some d =>
            rw [e2] at p
            obtain ⟨w, k1, k2⟩ := fget_val h2 h3 e2
            exact ⟨a, cA c, dx, _, w, rfl, h1, (F.fld c f hf).1, (F.fld c f hf).2, k1, Post.here (d := d) p rs k2⟩
        · exact p.elim
    | own o =>
      cases o with
      | obj c ns ds =>
        obtain ⟨a, ho, k1, k2, k3⟩ := re.own i _ q
        obtain ⟨dx, vs, rfl, k4, k5⟩ := k3
        refine ⟨_, k1, ?_⟩
        simp only [] at p
        split at p
        · next hf =>
          cases e2 : fget ns ds f with
          | none => rw [e2] at p; exact p.elim
          | some d =>
            rw [e2] at p
            obtain ⟨w, k6, k7⟩ := fget_val k4 k5 e2
            exact ⟨a, cA c, dx, _, w, rfl, rs.hR _ _ k2, (F.fld c f hf).1, (F.fld c f hf).2, k6, Post.here (d := d) p rs k7⟩
        · exact p.elim
      | _ => exact p.elim
theorem ab_pkl {i : Nat} {nm : Str} {p1 p2 : Pos} (hg : Gl X "len") (hm : X.mg "len" = none) (hN : X.N[i]? = some nm) (hv : Vis X.env.scope nm) (h1 : (nm == ("__debug__" : Str)) = false) (h2 : (nm == ("__classdict__" : Str)) = false) :
    PE X (.Call (.Name "len" p1) [.Name nm p2] [] pos) (TAE X cA E (evE K (.pkl i))) := by
  have cr : CallR X (.builtin "len") (fun vs H Q => AN X cA (biD .len) E vs H Q ∨ ∃ a xs, vs = [.ref a] ∧ SqL X.K H a xs ∧ Q (.int xs.length) H) := by
    intro pins s σ H xs us Q I r h
    rcases h with h | ⟨a, ys, rfl, hs, q⟩
    · exact crLen pins s σ H xs us Q I r h
    · exact call_len pins s σ H _ us Q I r ⟨.ref a, ys.length, rfl, .inl ⟨ys, hs, rfl⟩, q⟩
  refine (pe_callB cr hg hm (by rfl) (pa_cons (pe_var hN hv h1 h2) pa_nil)).imp fun σ H Q ⟨g, ρ, S, re, rs, p⟩ => ?_
  simp only [evE] at p
  cases q : ρ[i]? with
  | none => rw [q] at p; exact p.elim
  | some s =>
    rw [q] at p
    cases s with
    | no => exact p.elim
    | val u =>
      obtain ⟨v, k1, r1⟩ := re.val i u q
      exact ⟨v, k1, .inl ⟨g, S, [u], rs, Reps.cons r1 Reps.nil, p⟩⟩
    | own o =>
      cases o with
      | lst ds =>
        obtain ⟨a, ho, k1, k2, vs, rfl, k3⟩ := re.own i _ q
        refine ⟨_, k1, .inr ⟨a, vs, rfl, .inl (.inl (rs.hR _ _ k2)), ?_⟩⟩
        rw [← k3.length]
        exact Post.here (d := .int ds.length) p rs Rep.int
      | _ => exact p.elim
end
end GL
end
section
set_option Elab.async false
set_option linter.all false
set_option maxRecDepth 100000
/-! The expressions: calls. -/
namespace GL
open PySem L2 PySem.Spec PyProof.Rows
section
variable {X : Cx} {CX : CXT} {k : Nat} {f C : Addr} {fd : FuncData} {ps : List Str} {sp : Sp} {E : XK} {x m : Str} {p pos apos : Pos} {o : Expr} {args : List Expr} {ta : TE} {t : TA}
/-- arguments, none of them starred; none at all: at once -/
structure PAn (X : Cx) (args : List Expr) (t : TA) : Prop where
  pa : PA X args t
  nil : args = [] → ∀ σ H Q, t σ H Q → Q [] H
theorem callW {pins : List (Addr × Obj)} {σ : L2.St} {H : Hp} {s : Shared} {Q : List V → Hp → Prop} {R : Value → Shared → Prop} {fv : Value} {first : List Value} (I : Inv X pins σ H s) (hk : PySem.W.keepIn X.K fv = true) (ha : PAn X args t) (hn : args.all noStar = true) (q : t σ H Q)
    (h : ∀ us s1 vs H1, Inv X pins σ H1 s1 → Vals vs us → Q vs H1 → wpAny (model X.prog X.w) X.A (call fv (first ++ us)) R X.xe s1) :
    wpAny (model X.prog X.w) X.A (callWith pos fv first (backTo pos (starEach args X.env)) (backToKw pos (keywordEach [] X.env))) R X.xe s := by
  cases args with
  | nil => exact PySem.W.callWith_K0 I.kIn hk (h [] s [] H I .nil (ha.nil rfl _ _ _ q))
  | cons e es =>
    simp only [List.all_cons, Bool.and_eq_true] at hn
    exact PySem.W.callWith_K (h₀ := X.base) I.ok.mod.kin hk (thn (ha.pa.run pos pins s σ H _ I q) fun us s1 ⟨vs, H1, I1, r, q⟩ => ⟨I1.kIn, h us s1 vs H1 I1 r q⟩) (star_cons hn.1 _ _) (star_any hn.2 _ _)
theorem keys_all {kws : List Keyword} {ks : List Str} (h : kws.map (·.arg) = ks.map some) (env : PySem.Env) (pos : Pos) : (backToKw pos (keywordEach kws env)).all (·.1.isSome) = true ∧ (backToKw pos (keywordEach kws env)).filterMap (·.1) = ks ∧ (backToKw pos (keywordEach kws env)).any (·.1.isNone) = false := by
  induction kws generalizing ks with
  | nil => cases ks with
    | nil => exact ⟨rfl, rfl, rfl⟩
    | cons k ks => cases h
  | cons w ws ih =>
    obtain ⟨nm, v, kp⟩ := w
    cases ks with
    | nil => cases h
    | cons k ks =>
      simp only [List.map_cons, List.cons.injEq] at h
      obtain ⟨h1, h2⟩ := h
      obtain ⟨i1, i2, i3⟩ := ih h2
      subst h1
      refine ⟨?_, ?_, ?_⟩
      · show (true && (backToKw pos (keywordEach ws env)).all (·.1.isSome)) = true
        rw [i1]; rfl
      · show k :: (backToKw pos (keywordEach ws env)).filterMap (·.1) = k :: ks
        rw [i2]
      · show (false || (backToKw pos (keywordEach ws env)).any (·.1.isNone)) = false
        rw [i3]; rfl
theorem callWk {pins : List (Addr × Obj)} {σ : L2.St} {H : Hp} {s : Shared} {Q : List V → Hp → Prop} {R : Value → Shared → Prop} {fv : Value} {kws : List Keyword} {ks : List Str} {tk : TA} (I : Inv X pins σ H s) (hk : PySem.W.keepIn X.K fv = true) (ha : PAn X args t) (hn : args.all noStar = true)
    (hkw : PK X kws tk) (hks : kws.map (·.arg) = ks.map some) (q : t σ H Q)
    (h : ∀ us s1 vs H1, Inv X pins σ H1 s1 → Vals vs us → Q vs H1 → tk σ H1 (fun zs H2 => ∀ s2 ws, Inv X pins σ H2 s2 → Vals zs ws → wpAny (model X.prog X.w) X.A (call fv us (ks.zip ws)) R X.xe s2)) :
    wpAny (model X.prog X.w) X.A (callWith pos fv [] (backTo pos (starEach args X.env)) (backToKw pos (keywordEach kws X.env))) R X.xe s := by
  obtain ⟨k1, k2, k3⟩ := keys_all hks X.env pos
  cases args with
  | nil =>
    refine PySem.W.callWith_KW0 (h₀ := X.base) I.ok.mod.kin hk k1 ?_ (by rw [k3]; rfl)
    refine thn (hkw.run pos pins s σ H _ I (h [] s [] H I .nil (ha.nil rfl _ _ _ q))) fun ws s2 ⟨zs, H2, I2, rz, q2⟩ => ⟨I2.kIn, ?_⟩
    rw [k2]
    exact q2 s2 ws I2 rz
  | cons e es =>
    simp only [List.all_cons, Bool.and_eq_true] at hn
    refine PySem.W.callWith_KW (h₀ := X.base) I.ok.mod.kin hk k1 (thn (ha.pa.run pos pins s σ H _ I q) fun us s1 ⟨vs, H1, I1, r, q⟩ => ?_) (by rw [star_any (es := e :: es) (by simp [hn.1, hn.2]), k3]; rfl) (star_cons hn.1 _ _)
    refine thn (hkw.run pos pins s1 σ H1 _ I1 (h us s1 vs H1 I1 r q)) fun ws s2 ⟨zs, H2, I2, rz, q2⟩ => ⟨I2.kIn, ?_⟩
    rw [k2]
    exact q2 s2 ws I2 rz
/-- a method call's tree -/
theorem meth_tree {env : PySem.Env} (hn : args.all noStar = true) (hl : args.length < 30) (hb : noSup o = true) (hline : lineB apos pos = true) : eval (.Call (.Attribute o m apos) args [] pos) env = (do
      let ov ← eval o env
      standAt apos.atName
      let (f, first) ← holding [ov] (getMethod ov m (do return (← importBound o env).getD true))
      callWith pos f first (backTo pos (starEach args env)) (backToKw pos (keywordEach [] env))) := by
  have e1 : eval (.Call (.Attribute o m apos) args [] pos) env = (do
    let ov ← attributeBase o m env (eval o env)
    standAt apos.atName
    methodCall o m apos pos env ov (args.length + ([] : List Keyword).length) (backTo pos (starEach args env)) (backToKw pos (keywordEach [] env))) := rfl
  rw [e1, noSup_ok hb]
  have e2 : methodCallForm (args.length + ([] : List Keyword).length) (backTo pos (starEach args env)) (backToKw pos (keywordEach [] env)) = true := by
    unfold methodCallForm
    rw [star_all hn]
    show (true && true && decide (args.length + 0 + 0 < 30)) = true
    simpa using hl
  unfold methodCall
  rw [e2]
  have e3 : (!true || apos.endLine == pos.line) = true := hline
  unfold methodCallPos
  rw [if_pos e3]
  rfl
end
section
variable {G : Prg} {K : Cl} {k : Nat} {N : List Str} {sc : Scope} {X : Cx} {E : XK} {pos p1 : Pos} {x : Str} {args : List Expr} {es : CEs}
theorem CtxOk.fn (c : CtxOk G k N sc X) (L : Lv G K k) (i : Nat) : FnOk X.prog X.w X.K X.mg X.base (L2.CX X.prog X.w) k (G.fA i) (G.fd i) (G.ps i) (spF G K.call i) := by
  rw [c.prog, c.w, c.K, c.mg, c.base]; exact L.call i
theorem CtxOk.ini (c : CtxOk G k N sc X) (L : Lv G K k) (i : Nat) : FnOk X.prog X.w X.K X.mg X.base (L2.CX X.prog X.w) k (G.iA i) (G.ifd i) (G.ips i) (spI G K.init i) := by
  rw [c.prog, c.w, c.K, c.mg, c.base]; exact L.init i
/-- the defaults of a call -/
theorem fill_ok (P : POk G) {i : Nat} {ds zs : List DV} (e : fill G.T i ds = some zs) : zs.length = (G.ps i).length ∧ ∃ tl dvs us, zs = ds ++ tl ∧ Vals dvs us ∧ Binds G.K (G.fd i) (G.ps i) us ∧ ∀ g, Reps G.K G.cA g tl dvs := by
  unfold fill at e
  split at e
  · next h =>
    cases e
    obtain ⟨h1, h2⟩ := h
    obtain ⟨dvs, us, a1, a2, a3⟩ := P.bnd i ((G.T.dfl i).length - (G.T.arity i - ds.length)) (by omega) (by rw [← P.ar]; omega)
    refine ⟨?_, _, dvs, us, rfl, a1, a2, a3⟩
    rw [List.length_append, List.length_drop, ← P.ar]
    omega
  · cases e
theorem run_callF (c : CtxOk G k N sc X) (L : Lv G K k) (P : POk G) (hx : Passes (L2.CX X.prog X.w) X E) {pins : List (Addr × Obj)} {σ : L2.St} {H : Hp} {s : Shared} {Q : VK} {us : List Value} {vs : List V} {g : Gh} {S : Sto} {ds : List DV} {i : Nat} (I : Inv X pins σ H s) (r : Vals vs us)
    (rs : RelS X.K G.cA g S H) (rr : Reps X.K G.cA g ds vs) (p : Post X.K G.cA (Rep X.K G.cA) g (callF K i ds S) Q E) : wpAny (model X.prog X.w) X.A (call (.ref (G.fA i)) us) (EP X pins σ Q) X.xe s := by
  unfold callF at p
  rw [L.T] at p
  cases e : fill G.T i ds with
  | none => rw [e] at p; exact p.elim
  | some zs =>
    rw [e] at p
    obtain ⟨hl, tl, dvs, ws, rfl, a1, a2, a3⟩ := fill_ok P e
    have a3 := a3 g
    rw [← c.K] at a2 a3
    refine run_fn (c.fn L i) (c.room.mono (Nat.le_succ _)) a2 a1 hx I r ?_
    have rr2 := rr.app a3
    refine ⟨by rw [← rr2.length]; exact hl, g, S, ds ++ tl, ?_⟩
    rw [← c.K]
    exact ⟨rs, rr2, p⟩
theorem ab_call (c : CtxOk G k N sc X) (L : Lv G K k) (P : POk G) (hx : Passes (L2.CX X.prog X.w) X E) {i : Nat} (hf : fnB G.gn sc x i = true) (hn : args.all noStar = true) (ha : PAn X args (TAS X G.cA E (evs K es))) : PE X (.Call (.Name x p1) args [] pos) (TAE X G.cA E (evE K (.call i es))) := by
  unfold fnB at hf
  simp only [Bool.and_eq_true, decide_eq_true_eq] at hf
  obtain ⟨hg, hd⟩ := glB_ok c.sc hf.1
  obtain ⟨hm, hk⟩ := P.fn x i hf.2
  refine ⟨fun pins s σ H Q I ⟨g, ρ, S, re, rs, p⟩ => ?_⟩
  simp only [evE] at p
  refine wpAny_Call_Name_kw (ld_glob I hg (by rw [c.mg]; exact hm) ?_ hd)
  refine callW I (by rw [c.K]; exact hk) ha hn ⟨g, ρ, S, re, rs, Post.bind p⟩ fun us s1 vs H1 I1 r ⟨g1, S1, ds, l1, rs1, rr, p⟩ => ?_
  exact run_callF c L P hx I1 r rs1 rr p
theorem ab_meth (c : CtxOk G k N sc X) (L : Lv G K k) (P : POk G) (hx : Passes (L2.CX X.prog X.w) X E) {m : Str} {o : Expr} {a : CE} {ap : Pos} (hn : args.all noStar = true) (hl : args.length < 30) (hb : noSup o = true) (hline : lineB ap pos = true) (ho : PE X o (TAE X G.cA E (evE K a)))
    (ha : PAn X args (TAS X G.cA E (evs K es))) : PE X (.Call (.Attribute o m ap) args [] pos) (TAE X G.cA E (evE K (.meth a m es))) := by
  refine ⟨fun pins s σ H Q I ⟨g, ρ, S, re, rs, p⟩ => ?_⟩
  simp only [evE] at p
  refine PySem.W.methodCall_KW (thn (ho.run pins s σ H _ I ⟨g, ρ, S, re, rs, Post.bind p⟩) fun u s1 ⟨v, H1, I1, r1, g1, S1, d, l1, rs1, rd, p⟩ => ?_) (meth_tree hn hl hb hline)
  cases e : insOf S1 d with
  | none => rw [M.bind_bad (by unfold methO; rw [e])] at p; exact p.elim
  | some q =>
    obtain ⟨cc, ns, fs⟩ := q
    by_cases hm : m ∈ ns
    · rw [M.bind_bad (by unfold methO; rw [e]; simp only []; rw [if_pos hm])] at p; exact p.elim
    cases e2 : G.T.meth cc m with
    | none => rw [M.bind_bad (by unfold methO; rw [e]; simp only []; rw [if_neg hm, L.T, e2]; rfl)] at p; exact p.elim
    | some i =>
      rw [M.bind_ok (a := i) (S' := S1) (by unfold methO; rw [e]; simp only []; rw [if_neg hm, L.T, e2]; rfl)] at p
      obtain ⟨a, dx, vs, rfl, h1, h2, h3⟩ := insOf_ok rs1 e rd
      obtain rfl : u = Value.ref a := r1
      have hM := P.meth cc m i e2
      rw [← c.K] at hM
      refine getmeth_ok I1 h1 (by rw [c.K]; exact P.mcl cc m i e2) hM (nolook hm) ?_
      refine callW (first := [.ref a]) I1 hM.kp ha hn ⟨g1, ρ, S1, re.mono l1, rs1, Post.bind p⟩ fun us s2 vs' H2 I2 r ⟨g2, S2, ds, l2, rs2, rr, p⟩ => ?_
      exact run_callF c L P hx I2 (.cons (show RelV (.ref a) (.ref a) from rfl) r) rs2 (Reps.cons (Rep.mono l2 _ _ rd) rr) p
theorem ab_prop (c : CtxOk G k N sc X) (L : Lv G K k) (P : POk G) {f : Str} {o : Expr} {a : CE} (hb : noSup o = true) (ho : PE X o (TAE X G.cA E (evE K a))) : PE X (.Attribute o f pos) (TAE X G.cA E (evE K (.prop a f))) := by
  refine ⟨fun pins s σ H Q I ⟨g, ρ, S, re, rs, p⟩ => ?_⟩
  simp only [evE] at p
  refine attr_of (noSup_ok hb _ _ _) (thn (ho.run pins s σ H _ I ⟨g, ρ, S, re, rs, Post.bind p⟩) fun u s1 ⟨v, H1, I1, r1, g1, S1, d, l1, rs1, rd, p⟩ => ?_)
  unfold propD at p
  cases e : insOf S1 d with
  | none => rw [e] at p; exact p.elim
  | some q =>
    obtain ⟨cc, ns, fs⟩ := q
    rw [e, L.T] at p
    simp only [] at p
    cases e2 : G.T.prop cc f with
    | none => rw [e2] at p; exact p.elim
    | some i =>
      rw [e2] at p
      obtain ⟨a, dx, vs, rfl, h1, h2, h3⟩ := insOf_ok rs1 e rd
      obtain rfl : u = Value.ref a := r1
      obtain ⟨pp, hP⟩ := P.prop cc f i e2
      have hC := P.pcl cc f i e2
      rw [← c.K] at hP hC
      have p : Post X.K G.cA (Rep X.K G.cA) g1 (M.nox (callF K i [d]) S1) Q E := p
      unfold M.nox callF at p
      rw [L.T] at p
      cases e3 : fill G.T i [d] with
      | none => rw [e3] at p; exact p.elim
      | some zs =>
        rw [e3] at p
        simp only [] at p
        obtain ⟨hl, tl, dvs, ws, rfl, a1, a2, a3⟩ := fill_ok P e3
        have a3 := a3 g1
        rw [← c.K] at a2 a3
        have rr2 := (Reps.cons rd Reps.nil).app a3
        refine getprop_ok I1 h1 hC hP (c.fn L i) c.room a2 a1 (passF (X := X.nox)) ⟨by show (V.ref a :: dvs).length = _; rw [← hl]; exact rr2.length.symm, g1, S1, [d] ++ tl, ?_⟩
        rw [← c.K]
        refine ⟨rs1, rr2, ?_⟩
        show Post X.K G.cA _ g1 (K.call i ([d] ++ tl) S1) Q pF
        cases e4 : K.call i ([d] ++ tl) S1 with
        | ok y S' => rw [e4] at p; exact p
        | ex y S' => rw [e4] at p; exact p.elim
        | bad => rw [e4] at p; exact p.elim
theorem ab_new (c : CtxOk G k N sc X) (L : Lv G K k) (P : POk G) (hx : Passes (L2.CX X.prog X.w) X E) {i : Nat} (hf : clB G.gn sc x i = true) (hn : args.all noStar = true) (ha : PAn X args (TAS X G.cA E (evs K es))) : PE X (.Call (.Name x p1) args [] pos) (TAE X G.cA E (evE K (.new i es))) := by
  unfold clB at hf
  simp only [Bool.and_eq_true, decide_eq_true_eq] at hf
  obtain ⟨hg, hd⟩ := glB_ok c.sc hf.1
  obtain ⟨hm, M⟩ := P.cls x i hf.2
  have hB := P.bndI i
  rw [← c.K] at M hB
  refine ⟨fun pins s σ H Q I ⟨g, ρ, S, re, rs, p⟩ => ?_⟩
  simp only [evE] at p
  refine wpAny_Call_Name_kw (ld_glob I hg (by rw [c.mg]; exact hm) ?_ hd)
  refine callW I M.kp ha hn ⟨g, ρ, S, re, rs, Post.bind p⟩ fun us s1 vs H1 I1 r ⟨g1, S1, ds, l1, rs1, rr, p⟩ => ?_
  split at p
  · next hl =>
    refine run_make (dvs := []) (ds := []) M (c.ini L i) c.room hB .nil hx I1 r fun y dx hy hdx hne => ?_
    rw [List.append_nil]
    rw [L.T, P.iar] at hl
    refine ⟨by rw [List.length_cons, ← rr.length]; exact hl, g1, S1, ds, y, dx, H1, vs, rfl, hy, hdx, hne, rfl, ?_⟩
    rw [← c.K]
    refine ⟨rs1, rr, ?_⟩
    cases e : K.init i ds S1 with
    | ok d S' =>
      rw [e] at p
      intro g' b H' l rs' ⟨eb, rb⟩
      subst eb
      exact ⟨rfl, p g' _ H' l rs' rb⟩
    | ex z S' => rw [e] at p; exact p
    | bad => rw [e] at p; exact p
  · exact p.elim
theorem mapO_get {α : Type} {xs : List α} : ∀ {perm : List Nat} {zs : List α}, mapO (fun (i : Nat) => xs[i]?) perm = some zs → perm.filterMap (fun i => xs[i]?) = zs
  | [], zs, e => by cases e; rfl
  | i :: is, zs, e => by
    simp only [mapO] at e
    cases q : xs[i]? with
    | none => rw [q] at e; cases e
    | some x =>
      rw [q] at e
      simp only [] at e
      cases q2 : mapO (fun (i : Nat) => xs[i]?) is with
      | none => rw [q2] at e; cases e
      | some ys =>
        rw [q2] at e
        cases e
        rw [List.filterMap_cons, q, mapO_get q2]
theorem reps_perm {K : PySem.W.Frag} {cA : Nat → Addr} {g : Gh} {ds : List DV} {vs : List V} (r : Reps K cA g ds vs) : ∀ {perm : List Nat} {zs : List DV}, mapO (fun (i : Nat) => ds[i]?) perm = some zs → Reps K cA g zs (perm.filterMap fun i => vs[i]?) ∧ zs.length = perm.length
  | [], zs, e => by cases e; exact ⟨Reps.nil, rfl⟩
  | i :: is, zs, e => by
    simp only [mapO] at e
    cases q : ds[i]? with
    | none => rw [q] at e; cases e
    | some x =>
      rw [q] at e
      simp only [] at e
      cases q2 : mapO (fun (i : Nat) => ds[i]?) is with
      | none => rw [q2] at e; cases e
      | some ys =>
        rw [q2] at e
        cases e
        obtain ⟨v, e1, e2⟩ := r.get q
        obtain ⟨i1, i2⟩ := reps_perm r q2
        rw [List.filterMap_cons, e1]
        exact ⟨Reps.cons e2 i1, by rw [List.length_cons, List.length_cons, i2]⟩
variable {kes : CEs} {kws : List Keyword}
theorem ab_callk (c : CtxOk G k N sc X) (L : Lv G K k) (P : POk G) (hx : Passes (L2.CX X.prog X.w) X E) {i n : Nat} {ks : List Str} {perm : List Nat} (hf : fnB G.gn sc x i = true) (hn : args.all noStar = true) (ha : PAn X args (TAS X G.cA E (evs K es))) (hks : kws.map (·.arg) = ks.map some)
    (hk : PK X kws (TAS X G.cA E (evs K kes))) : PE X (.Call (.Name x p1) args kws pos) (TAE X G.cA E (evE K (.callk i n ks perm es kes))) := by
  unfold fnB at hf
  simp only [Bool.and_eq_true, decide_eq_true_eq] at hf
  obtain ⟨hg, hd⟩ := glB_ok c.sc hf.1
  obtain ⟨hm, hkp⟩ := P.fn x i hf.2
  refine ⟨fun pins s σ H Q I ⟨g, ρ, S, re, rs, p⟩ => ?_⟩
  simp only [evE] at p
  refine wpAny_Call_Name_kw (ld_glob I hg (by rw [c.mg]; exact hm) ?_ hd)
  refine callWk I (by rw [c.K]; exact hkp) ha hn hk hks ⟨g, ρ, S, re, rs, Post.bind p⟩ fun us s1 vs H1 I1 r ⟨g1, S1, ds, l1, rs1, rr, p⟩ => ?_
  refine ⟨g1, ρ, S1, re.mono l1, rs1, Post.bindE p fun g2 S2 es zs H2 l2 rs2 rz p => ?_⟩
  intro s2 ws I2 rzv
  split at p
  · next hc =>
    obtain ⟨hc1, hc2, hc3, hc4⟩ := hc
    cases e : mapO (fun (i : Nat) => (ds ++ es)[i]?) perm with
    | none => rw [e] at p; exact p.elim
    | some zs' =>
      rw [e] at p
      rw [L.T] at hc1 hc4
      have kb := P.kb i n ks perm hc1
      rw [← c.K] at kb
      have rall := (Reps.mono l2 _ _ rr).app rz
      obtain ⟨q1, q2⟩ := reps_perm rall e
      refine run_fnN (c.fn L i) (c.room.mono (Nat.le_succ _)) kb hx I2 r rzv (by rw [← rr.length]; exact hc2) (by rw [← rz.length]; exact hc3) ?_
      refine ⟨by show (permV perm vs zs).length = _; unfold permV; rw [← q1.length, q2, hc4, P.ar], g2, S2, zs', ?_⟩
      rw [← c.K]
      exact ⟨rs2, q1, p⟩
  · exact p.elim
end
end GL
end
section
set_option Elab.async false
set_option linter.all false
set_option maxRecDepth 100000
/-! The expressions: built-ins, isinstance, range lists. -/
namespace GL
open PySem L2 PySem.Spec PyProof.Rows
section
variable {X : Cx} {cA : Nat → Addr} {E : XK}
theorem keys_pairs : ∀ {ks : List DK} {vs : List V}, ks.length = vs.length → (((ks.map kOf).zip vs).map fun kv => kV kv.1) = ks.map fun k => kV (kOf k)
  | [], [], _ => rfl
  | k :: ks, v :: vs, h => by
    rw [List.map_cons, List.zip_cons_cons, List.map_cons, List.map_cons, keys_pairs (by simpa using h)]
  | [], _ :: _, h => by cases h
  | _ :: _, [], h => by cases h
theorem keys_rep {K : PySem.W.Frag} {g : Gh} : ∀ {ks : List DK}, ks.all okK = true → Reps K cA g (ks.map ofKey) (ks.map fun k => kV (kOf k))
  | [], _ => Reps.nil
  | k :: ks, h => by
    simp only [List.all_cons, Bool.and_eq_true] at h
    refine Reps.cons ?_ (keys_rep h.2)
    cases k with
    | i n => exact Rep.int
    | s x => exact Rep.str h.1
theorem biList_gen {S : Sto} {d : DV} (h2 : ∀ ks vs, d ≠ .dct ks vs) : biD .list [d] S = (match seqOf S d with
    | some xs => .ok (.lst xs) S
    | none => .bad) := by
  cases d with
  | dct ks vs => exact absurd rfl (h2 ks vs)
  | _ => rfl
theorem crList (hc : X.calm = true) : CallR X (.type "list") (AN X cA (biD .list) E) := crG fun pins s σ H xs us Q g S ds I r rs rr p => by
  cases ds with
  | nil => exact p.elim
  | cons d ds =>
    cases ds with
    | cons _ _ =>
      have e : ∀ (e : DV) (r : List DV), biD .list (d :: e :: r) S = .bad := fun e r => by cases d <;> rfl
      rw [e] at p
      exact p.elim
    | nil =>
      obtain ⟨v, rfl, rd⟩ := rr.one
      by_cases c1 : ∃ ks vs, d = .dct ks vs
      · obtain ⟨ks, ws, rfl⟩ := c1
        simp only [Rep] at rd
        obtain ⟨a, o, vs, rfl, h1, h2, h3, h4, h5⟩ := rd
        refine call_listD hc pins s σ H _ us Q I r ⟨a, _, rfl, .inr ⟨o, rs.hF _ _ h1⟩, fun q hq => ?_⟩
        rw [keys_pairs h2]
        exact Post.lst p rs (keys_rep h3) q hq
      · rw [biList_gen (fun ks vs e => c1 ⟨ks, vs, e⟩)] at p
        cases e : seqOf S d with
        | none => rw [e] at p; exact p.elim
        | some ys =>
          rw [e] at p
          obtain ⟨a, vs, rfl, hq, hr⟩ := seqOf_ok rs e rd
          exact call_list_of pins s σ H _ us Q I r ⟨a, vs, rfl, hq, Post.lst p rs hr⟩
theorem biTup_gen {S : Sto} {d : DV} : biD .tuple [d] S = (match seqOf S d with
    | some xs => .ok (.tup xs) S
    | none => .bad) := by
  cases d <;> rfl
theorem crTup : CallR X (.type "tuple") (AN X cA (biD .tuple) E) := crG fun pins s σ H xs us Q g S ds I r rs rr p => by
  cases ds with
  | nil => exact p.elim
  | cons d ds =>
    cases ds with
    | cons _ _ => exact p.elim
    | nil =>
      obtain ⟨v, rfl, rd⟩ := rr.one
      rw [biTup_gen] at p
      by_cases c1 : ∃ ys, d = .tup ys
      · obtain ⟨ys, rfl⟩ := c1
        have rd' := rd
        simp only [Rep] at rd
        obtain ⟨a, vs, rfl, h1, h2⟩ := rd
        exact call_tuple_of pins s σ H _ us Q I r ⟨a, vs, rfl, .inr ⟨sqT_mono h1 rs.hF, Post.here p rs rd'⟩⟩
      · cases e : seqOf S d with
        | none => rw [e] at p; exact p.elim
        | some ys =>
          rw [e] at p
          have e' : lstOf S d = some ys := by
            cases d <;> first | exact e | exact absurd ⟨_, rfl⟩ c1
          obtain ⟨a, vs, rfl, hq, hr⟩ := lstOf_ok rs e' rd
          exact call_tuple_of pins s σ H _ us Q I r ⟨a, vs, rfl, .inl ⟨hq, Post.tup p rs hr⟩⟩
def biV : Bi → Value
  | .len => .builtin "len" | .abs => .builtin "abs" | .int => .type "int" | .str => .type "str" | .sum => .builtin "sum" | .all => .builtin "all" | .any => .builtin "any"
  | .max => .builtin "max" | .min => .builtin "min" | .sorted => .builtin "sorted" | .list => .type "list" | .tuple => .type "tuple" | .dict => .type "dict"
theorem crBi (hc : X.calm = true) (hu : X.A.units + 65 < cLine) (b : Bi) : CallR X (biV b) (AN X cA (biD b) E) := by
  cases b with
  | len => exact crLen
  | abs => exact crAbs
  | int => exact crInt
  | str => exact crStr
  | sum => exact crSum hc
  | all => exact crAll hc
  | any => exact crAny hc
  | max => exact crMax hc
  | min => exact crMin hc
  | sorted => exact crSorted hu
  | list => exact crList hc
  | tuple => exact crTup
  | dict => exact crG fun pins s σ H xs us Q g S ds I r rs rr p => p.elim
variable {K : Cl} {pos p1 : Pos} {x : Expr} {f : Str} {args : List Expr} {es : CEs} {sc : Scope} {gn : Str → Option Gn} {G : Prg} {k : Nat} {N : List Str}
theorem blB_ok (c : CtxOk G k N sc X) (P : POk G) {y : Str} (h : blB G.gn sc f y = true) : f = y ∧ Gl X y ∧ X.mg y = none := by
  unfold blB at h
  simp only [Bool.and_eq_true, decide_eq_true_eq] at h
  obtain ⟨rfl, h1, h2⟩ := h
  exact ⟨rfl, (glB_ok c.sc h1).1, by rw [c.mg]; exact P.blt _ h2⟩
theorem ab_bi (c : CtxOk G k N sc X) (P : POk G) {b : Bi} (hb : blB G.gn sc f (biN b) = true) (hn : (x :: args).all noStar = true) (ha : PA X (x :: args) (TAS X cA E (evs K es))) : PE X (.Call (.Name f p1) (x :: args) [] pos) (TAE X cA E (evE K (.bi b es))) := by
  obtain ⟨rfl, hg, hm⟩ := blB_ok c P hb
  simp only [List.all_cons, Bool.and_eq_true] at hn
  have cr := crBi (cA := cA) (E := E) c.calm c.hu b
  have fin : PE X (.Call (.Name (biN b) p1) (x :: args) [] pos) (tCB (AN X cA (biD b) E) (TAS X cA E (evs K es))) := by
    have he := star_cons hn.1 args X.env
    have hp := star_any hn.2 X.env pos
    cases b with
    | len => exact pe_callB cr hg hm (by rfl) ha (by decide) (by decide) he hp
    | abs => exact pe_callB cr hg hm (by rfl) ha (by decide) (by decide) he hp
    | sum => exact pe_callB cr hg hm (by rfl) ha (by decide) (by decide) he hp
    | all => exact pe_callB cr hg hm (by rfl) ha (by decide) (by decide) he hp
    | any => exact pe_callB cr hg hm (by rfl) ha (by decide) (by decide) he hp
    | max => exact pe_callB cr hg hm (by rfl) ha (by decide) (by decide) he hp
    | min => exact pe_callB cr hg hm (by rfl) ha (by decide) (by decide) he hp
    | sorted => exact pe_callB cr hg hm (by rfl) ha (by decide) (by decide) he hp
    | int => exact pe_callTy cr hg hm (by rfl) ha (by decide) (by decide) he hp
    | str => exact pe_callTy cr hg hm (by rfl) ha (by decide) (by decide) he hp
    | list => exact pe_callTy cr hg hm (by rfl) ha (by decide) (by decide) he hp
    | tuple => exact pe_callTy cr hg hm (by rfl) ha (by decide) (by decide) he hp
    | dict => exact pe_callTy cr hg hm (by rfl) ha (by decide) (by decide) he hp
  refine fin.imp fun σ H Q ⟨g, ρ, S, re, rs, p⟩ => ?_
  simp only [evE] at p
  exact ⟨g, ρ, S, re, rs, p.bindE fun g1 S1 ds vs H1 l1 rs1 r1 p => ⟨g1, S1, ds, rs1, r1, p⟩⟩
/-! ### methods of built-in types -/
theorem joinS_mk' (a : List Nat) : ∀ ys : List (List Nat), Str.join (mkS a) (ys.map mkS) = mkS (joinS a ys)
  | [] => rfl
  | [x] => rfl
  | x :: y :: r => by
    show mkS x ++ mkS a ++ Str.join (mkS a) ((y :: r).map mkS) = _
    rw [joinS_mk' a (y :: r), mkS_app, mkS_app]
    rfl
theorem joinS_mk (a : List Nat) (ys : List (List Nat)) : Txt.join (mkS a) (ys.map mkS) = mkS (joinS a ys) := by
  rw [TL.join_eq, joinS_mk']
theorem joinS_len (a : List Nat) : ∀ ys : List (List Nat), (joinS a ys).length ≤ (ys.map (·.length)).sum + ys.length * a.length
  | [] => Nat.zero_le _
  | [x] => by simp [joinS]
  | x :: y :: r => by
    have := joinS_len a (y :: r)
    simp only [joinS, List.length_append, List.map_cons, List.sum_cons, List.length_cons] at this ⊢
    have e : (r.length + 1 + 1) * a.length = (r.length + 1) * a.length + a.length := by rw [Nat.succ_mul]
    omega
theorem joinS_mem (a : List Nat) {c : Nat} : ∀ ys : List (List Nat), c ∈ joinS a ys → c ∈ a ∨ ∃ y ∈ ys, c ∈ y
  | [], h => by simp [joinS] at h
  | [x], h => .inr ⟨x, by simp, h⟩
  | x :: y :: r, h => by
    simp only [joinS, List.mem_append] at h
    rcases h with (h | h) | h
    · exact .inr ⟨x, by simp, h⟩
    · exact .inl h
    · rcases joinS_mem a (y :: r) h with h | ⟨z, h1, h2⟩
      · exact .inl h
      · exact .inr ⟨z, List.mem_cons_of_mem _ h1, h2⟩
theorem okS_join {a : List Nat} {ys : List (List Nat)} (ha : okS a = true) (hy : ∀ y ∈ ys, okS y = true) (hl : (joinS a ys).length ≤ LIM) : okS (joinS a ys) = true := by
  unfold okS at *
  simp only [Bool.and_eq_true, decide_eq_true_eq, List.all_eq_true] at *
  refine ⟨fun c hc => ?_, hl⟩
  rcases joinS_mem a ys hc with h | ⟨y, h1, h2⟩
  · exact ha.1 c h
  · exact (hy y h1).1 c h2
theorem ab_join {o : Expr} {a : CE} {ap : Pos} (hb : noSup o = true) (hn : (x :: args).all noStar = true) (hl : (x :: args).length < 30) (hline : lineB ap pos = true) (ho : PE X o (TAE X cA E (evE K a))) (ha : PA X (x :: args) (TAS X cA E (evs K es))) :
    PE X (.Call (.Attribute o "join" ap) (x :: args) [] pos) (TAE X cA E (evE K (.bm a .join es))) := by
  have hn' := hn
  simp only [List.all_cons, Bool.and_eq_true] at hn
  refine (pe_bm F.plainAttrs_str F.slot_str_join F.type_str_join mt_join ho ha (noSup_ok hb _ _ _) ?_ hline (star_cons hn.1 _ _) (star_any hn.2 _ _)).imp fun σ H Q ⟨g, ρ, S, re, rs, p⟩ => ?_
  · rw [star_all hn']
    show (true && true && decide ((x :: args).length + 0 + 0 < 30)) = true
    simpa using hl
  · simp only [evE] at p
    refine ⟨g, ρ, S, re, rs, p.bindE fun g1 S1 d v H1 l1 rs1 r1 p => ?_⟩
    have hd : ∃ sp, d = .str sp := by
      cases d with
      | str sp => exact ⟨sp, rfl⟩
      | _ => exact p.elim
    obtain ⟨sp, rfl⟩ := hd
    have p : Post X.K cA (Rep X.K cA) g1 ((evs K es ρ >>= fun xs => bmD .join (.str sp) xs) S1) Q E := p
    simp only [Rep] at r1
    obtain ⟨rfl, hsp⟩ := r1
    refine ⟨rfl, g1, ρ, S1, re.mono l1, rs1, p.bindE fun g2 S2 ds vs H2 l2 rs2 r2 p => ?_⟩
    cases ds with
    | nil => exact p.elim
    | cons d ds =>
      cases ds with
      | cons _ _ => exact p.elim
      | nil =>
        obtain ⟨w, rfl, rd⟩ := r2.one
        have p : Post X.K cA (Rep X.K cA) g2 (match (seqOf S2 d).bind (mapO strOf) with
          | some xs => if (xs.map (·.length)).sum + xs.length * sp.length ≤ LIM then .ok (.str (joinS sp xs)) S2 else .bad
          | none => .bad) Q E := p
        cases e : seqOf S2 d with
        | none => rw [e] at p; exact p.elim
        | some ys =>
          rw [e] at p
          simp only [Option.bind_some] at p
          cases e2 : mapO strOf ys with
          | none => rw [e2] at p; exact p.elim
          | some ns =>
            rw [e2] at p
            simp only [] at p
            split at p
            · next hlen =>
              obtain ⟨q, ws, rfl, hq, hr⟩ := seqOf_ok rs2 e rd
              obtain ⟨rfl, hok⟩ := strs_of e2 hr
              refine ⟨mkS sp, q, ns.map mkS, rfl, rfl, hq, ?_, ?_⟩
              · have e3 : ((ns.map mkS).map (·.length)) = ns.map (·.length) := by rw [List.map_map]; exact List.map_congr_left fun x _ => mkS_len x
                rw [e3, List.length_map, mkS_len]
                exact hlen
              · rw [joinS_mk]
                exact Post.here (d := .str _) p rs2 (Rep.str (okS_join hsp hok (Nat.le_trans (joinS_len _ _) hlen)))
            · exact p.elim
end
end GL
end
section
set_option Elab.async false
set_option linter.all false
set_option maxRecDepth 100000
/-! The expressions: isinstance, range lists, own slots' items. -/
namespace GL
open PySem L2 PySem.Spec PyProof.Rows
section
variable {G : Prg} {K : Cl} {k : Nat} {N : List Str} {sc : Scope} {X : Cx} {E : XK} {pos p1 : Pos} {x y : Expr} {f : Str} {a b : CE}
theorem tyX_ok (c : CtxOk G k N sc X) (P : POk G) {g : Gh} {S : Sto} {H : Hp} (rs : RelS X.K G.cA g S H) {d : DV} {v : V} {kn : Kn} (e : knOf S d = some kn) (ho : knOk G.T kn = true) (r : Rep X.K G.cA g d v) : TyX X.K H v (knV G kn) := by
  have obj : ∀ {cc : Nat} {a dx : Addr} {fs : List (Str × V)}, G.T.cl cc = true → H a = some (.ins (G.cA cc) dx fs) → TyX X.K H (.ref a) (.ref (G.cA cc)) := fun {cc a dx fs} h ea => by
    obtain ⟨h1, h2, h3, h4, h5⟩ := P.own cc h
    rw [← c.K] at h1 h2 h3 h4 h5
    exact .base (.ins ea h1 h2 h3 h4 h5)
  cases d <;> simp only [knOf] at e <;> try (cases e; done)
  · cases e; simp only [Rep] at r; subst r; exact .base .non
  · cases e; simp only [Rep] at r; subst r; exact .base (.bl _)
  · cases e; simp only [Rep] at r; subst r; exact .base (.int _)
  · cases e; simp only [Rep] at r; obtain ⟨rfl, _⟩ := r; exact .base (.str _)
  · cases e; simp only [Rep] at r; obtain ⟨a, vs, rfl, q, _⟩ := r
    rcases sqT_mono q rs.hF with (h | ⟨o, h⟩) | ⟨o, its, n, h1, h2, _⟩
    · exact .base (.tup h)
    · exact .fTuple h
    · exact .kTuple h1 h2
  · cases e; simp only [Rep] at r; obtain ⟨a, vs, rfl, q, _⟩ := r; exact .base (.lst (rs.hF _ _ q))
  · cases e; simp only [Rep] at r; obtain ⟨a, o, vs, rfl, q, _⟩ := r; exact .fDict (rs.hF _ _ q)
  · cases e; simp only [Rep] at r; obtain ⟨a, dx, vs, rfl, q, _⟩ := r; exact obj ho (rs.hF _ _ q)
  · rename_i n
    simp only [Rep] at r
    obtain ⟨a, h1, rfl⟩ := r
    cases q : S[n]? with
    | none => rw [q] at e; cases e
    | some o =>
      rw [q] at e
      obtain ⟨a', h', k1, k2, k3, _, _⟩ := rs.st n _ q
      rw [h1] at k1; cases k1
      cases o with
      | lst xs => cases e; obtain ⟨vs, rfl, _⟩ := k3; exact .base (.lst k2)
      | dct ks ws => cases e; obtain ⟨vs, rfl, _⟩ := k3; exact .base (.dK k2)
      | obj cc ns ws => cases e; obtain ⟨dx, vs, rfl, _⟩ := k3; exact obj ho k2
theorem ty_cls {t : Ty} (h : tyOk G.T t = true) : ClsV (tyV' G t) (tyVl G t) := by
  cases t <;> first | exact .ty _ | exact .own _ | (cases h; done)
theorem pe_tyN (c : CtxOk G k N sc X) (P : POk G) {t : Ty} (h : mtY G.gn sc t x = true) : PE X x (tC (tyV' G t)) := by
  unfold mtY at h
  split at h
  · next cc nm p =>
    unfold clB at h
    simp only [Bool.and_eq_true, decide_eq_true_eq] at h
    obtain ⟨hg, hd⟩ := glB_ok c.sc h.1
    exact pe_glob hg (by rw [c.mg]; exact (P.cls _ _ h.2).1) (show RelV (.ref (G.cA cc)) (.ref (G.cA cc)) from rfl) hd
  · next nm p _ =>
    cases e : tyN t with
    | none => rw [e] at h; cases h
    | some y =>
      rw [e] at h
      obtain ⟨rfl, hg, hm⟩ := blB_ok c P h
      cases t <;> first | (cases e; done) | skip
      all_goals (cases e; exact pe_bltn hg hm (by rfl) rfl (by decide) (by decide))
  · cases h
theorem pa_tys (c : CtxOk G k N sc X) (P : POk G) : ∀ {ts : List Ty} {es : List Expr}, mtYs G.gn sc ts es = true → PA X es (fun σ H Q => Q (ts.map (tyV' G)) H)
  | [], [], _ => pa_nil
  | t :: ts, e :: es, h => by
    simp only [mtYs, Bool.and_eq_true] at h
    exact pa_cons (pe_tyN c P h.1.2) (pa_tys c P h.2) (star_cons h.1.1 _ _)
  | [], _ :: _, h => by simp [mtYs] at h
  | _ :: _, [], h => by simp [mtYs] at h
theorem tys_cls : ∀ {ts : List Ty}, ts.all (tyOk G.T) = true → Paired ClsV (ts.map (tyV' G)) (ts.map (tyVl G))
  | [], _ => .nil
  | t :: ts, h => by
    simp only [List.all_cons, Bool.and_eq_true] at h
    exact .cons (ty_cls h.1) (tys_cls h.2)
theorem kit_any (P : POk G) {kn : Kn} (hk : knOk G.T kn = true) : ∀ {ts : List Ty}, ts.all (tyOk G.T) = true → PySem.W.kitAny G.K (knV G kn) (ts.map (tyVl G)) = some (ts.any (isKn G.T kn))
  | [], _ => rfl
  | t :: ts, h => by
    simp only [List.all_cons, Bool.and_eq_true] at h
    rw [List.map_cons, List.any_cons]
    refine kitAny_cons (P.kit kn t hk h.1) (fun e => ?_) fun e => ?_
    · rw [e, Bool.false_or]; exact kit_any P hk h.2
    · rw [e]; rfl
theorem Post.kn {g : Gh} {S : Sto} {d : DV} {T : Tab} {ts : List Ty} {Q : VK} {KK : PySem.W.Frag} {cA : Nat → Addr} (p : Post KK cA (Rep KK cA) g ((getS >>= fun S => M.opt (knOf S d) >>= fun k => if knOk T k && ts.all (tyOk T) then (pure (.bl (ts.any (isKn T k))) : M DV) else M.fail) S) Q E) :
    ∃ kn, knOf S d = some kn ∧ knOk T kn = true ∧ ts.all (tyOk T) = true ∧ Post KK cA (Rep KK cA) g (.ok (.bl (ts.any (isKn T kn))) S) Q E := by
  have p : Post KK cA (Rep KK cA) g ((M.opt (knOf S d) >>= fun k => if knOk T k && ts.all (tyOk T) then (pure (.bl (ts.any (isKn T k))) : M DV) else M.fail) S) Q E := p
  cases e : knOf S d with
  | none => rw [e] at p; exact p.elim
  | some kn =>
    rw [e] at p
    have p : Post KK cA (Rep KK cA) g ((if knOk T kn && ts.all (tyOk T) then (pure (.bl (ts.any (isKn T kn))) : M DV) else M.fail) S) Q E := p
    split at p
    · next h =>
      simp only [Bool.and_eq_true] at h
      exact ⟨kn, rfl, h.1, h.2, p⟩
    · exact p.elim
theorem ab_isi1 (c : CtxOk G k N sc X) (P : POk G) (L : Lv G K k) {t : Ty} (hb : blB G.gn sc f "isinstance" = true) (hn : noStar x = true) (hn2 : noStar y = true) (ha : PE X x (TAE X G.cA E (evE K a))) (ht : mtY G.gn sc t y = true) :
    PE X (.Call (.Name f p1) [x, y] [] pos) (TAE X G.cA E (evE K (.isi a [t]))) := by
  obtain ⟨rfl, hg, hm⟩ := blB_ok c P hb
  refine (pe_callB call_isi hg hm (by rfl) (pa_cons ha (pa_cons (pe_tyN c P ht) pa_nil (star_cons hn2 _ _)) (star_cons hn _ _)) (by decide) (by decide) (star_cons hn _ _) (star_any (by simp [hn2]) _ _)).imp fun σ H Q ⟨g, ρ, S, re, rs, p⟩ => ?_
  simp only [evE] at p
  refine ⟨g, ρ, S, re, rs, p.bindE fun g1 S1 d v H1 l1 rs1 r1 p => ?_⟩
  rw [L.T] at p
  obtain ⟨kn, e, h1, h2, p⟩ := Post.kn p
  simp only [List.all_cons, List.all_nil, Bool.and_true] at h2
  refine ⟨v, tyV' G t, knV G kn, tyVl G t, isKn G.T kn t, rfl, ty_cls h2, tyX_ok c P rs1 e h1 r1, by rw [c.K]; exact P.kit kn t h1 h2, ?_⟩
  have : [t].any (isKn G.T kn) = isKn G.T kn t := by simp
  rw [this] at p
  exact Post.here p rs1 Rep.bl
theorem ab_isiT (c : CtxOk G k N sc X) (P : POk G) (L : Lv G K k) {ts : List Ty} {es : List Expr} {kk : Nat} {p2 : Pos} (hb : blB G.gn sc f "isinstance" = true) (hn : noStar x = true) (ha : PE X x (TAE X G.cA E (evE K a))) (ht : mtYs G.gn sc ts es = true) (hl : ts.length < 100) :
    PE X (.Call (.Name f p1) [x, .Tuple es kk p2] [] pos) (TAE X G.cA E (evE K (.isi a ts))) := by
  obtain ⟨rfl, hg, hm⟩ := blB_ok c P hb
  refine (pe_callB call_isiT hg hm (by rfl) (pa_cons ha (pa_cons (pe_tup (pa_tys c P ht)) pa_nil) (star_cons hn _ _)) (by decide) (by decide) (star_cons hn _ _) (by rfl)).imp fun σ H Q ⟨g, ρ, S, re, rs, p⟩ => ?_
  simp only [evE] at p
  refine ⟨g, ρ, S, re, rs, p.bindE fun g1 S1 d v H1 l1 rs1 r1 p => ?_⟩
  rw [L.T] at p
  obtain ⟨kn, e, h1, h2, p⟩ := Post.kn p
  refine ⟨by rw [List.length_map]; exact Nat.le_of_lt (small1000 (by omega)), fun q hq => ?_⟩
  refine ⟨v, q, ts.map (tyV' G), knV G kn, ts.map (tyVl G), ts.any (isKn G.T kn), rfl, upd_same, tys_cls h2, tyX_ok c P (rs1.lay hq) e h1 (Rep.mono (rs1.leLay hq) _ _ r1), by rw [c.K]; exact kit_any P h1 h2, ?_⟩
  exact Post.here (Post.mono (rs1.leLay hq) p) (rs1.lay hq) Rep.bl
/-! ### list(range(..)) -/
theorem rgV_rep {g : Gh} {i j : Int} {KK : PySem.W.Frag} {cA : Nat → Addr} : Reps KK cA g (rngL i j 1) (rgV i j) := by
  unfold rngL rgV rngN
  rw [if_pos (by decide : (0 : Int) < 1)]
  have e : ((j - i + 1 - 1) / 1 : Int).toNat = (j - i).toNat := by rw [Int.ediv_one]; omega
  rw [e]
  generalize (j - i).toNat = n
  have : ∀ l : List Nat, Reps KK cA g (l.map fun (m : Nat) => DV.int (i + (m : Int) * 1)) (l.map fun m => V.int (i + (m : Nat))) := by
    intro l
    induction l with
    | nil => exact Reps.nil
    | cons a r ih =>
      refine Reps.cons ?_ ih
      show Rep KK cA g (.int (i + (a : Int) * 1)) (.int (i + (a : Nat)))
      rw [Int.mul_one]
      exact Rep.int
  exact this _
theorem rngOk_1 {i j : Int} (h : rngOk i j 1 = true) : RgOk i j := by
  unfold rngOk at h
  simp only [Bool.and_eq_true, decide_eq_true_eq] at h
  obtain ⟨⟨_, ⟨⟨h1, h2⟩, h3⟩, h4⟩, h5⟩ := h
  unfold rngN LIM at h5
  rw [if_pos (by decide : (0 : Int) < 1), Int.ediv_one] at h5
  exact ⟨by omega, by omega, by omega, by omega, by omega⟩
theorem ab_rng1 (c : CtxOk G k N sc X) (P : POk G) {l : Str} {p2 : Pos} {p3 : Pos} (hl : blB G.gn sc l "list" = true) (hb : blB G.gn sc f "range" = true) (hn : noStar x = true) (ha : PE X x (TAE X G.cA E (evE K b))) :
    PE X (.Call (.Name l p1) [.Call (.Name f p2) [x] [] p3] [] pos) (TAE X G.cA E (evE K (.rng (.int 0) b 1))) := by
  obtain ⟨rfl, hg, hm⟩ := blB_ok c P hb
  obtain ⟨rfl, hg2, hm2⟩ := blB_ok c P hl
  refine (pe_listRg c.calm hg2 hm2 (prg_1 hg hm ha (star_cons hn _ _)) (by rfl)).imp fun σ H Q ⟨g, ρ, S, re, rs, p⟩ => ?_
  simp only [evE] at p
  have p : Post X.K G.cA (Rep X.K G.cA) g ((evE K b ρ >>= fun y => match DV.int 0, y with
    | .int i, .int j => if rngOk i j 1 then (pure (.lst (rngL i j 1)) : M DV) else M.fail
    | _, _ => M.fail) S) Q E := p
  refine ⟨g, ρ, S, re, rs, p.bindE fun g1 S1 d v H1 l1 rs1 r1 p => ?_⟩
  cases d <;> try (exact p.elim)
  rename_i j
  simp only [Rep] at r1
  refine ⟨j, r1, ?_⟩
  simp only [] at p
  split at p
  · next h => exact ⟨rngOk_1 h, Post.lst p rs1 rgV_rep⟩
  · exact p.elim
theorem ab_rng2 (c : CtxOk G k N sc X) (P : POk G) {l : Str} {p2 : Pos} {p3 : Pos} (hl : blB G.gn sc l "list" = true) (hb : blB G.gn sc f "range" = true) (hn : noStar x = true) (hn2 : noStar y = true) (ha : PE X x (TAE X G.cA E (evE K a))) (hb : PE X y (TAE X G.cA E (evE K b))) :
    PE X (.Call (.Name l p1) [.Call (.Name f p2) [x, y] [] p3] [] pos) (TAE X G.cA E (evE K (.rng a b 1))) := by
  rename_i hb0
  obtain ⟨rfl, hg, hm⟩ := blB_ok c P hb0
  obtain ⟨rfl, hg2, hm2⟩ := blB_ok c P hl
  refine (pe_listRg c.calm hg2 hm2 (prg_2 hg hm ha hb (star_cons hn _ _) (star_cons hn2 _ _) (star_any (by simp [hn2]) _ _)) (by rfl)).imp fun σ H Q ⟨g, ρ, S, re, rs, p⟩ => ?_
  simp only [evE] at p
  refine ⟨g, ρ, S, re, rs, p.bindE fun g1 S1 d v H1 l1 rs1 r1 p => ?_⟩
  refine ⟨g1, ρ, S1, re.mono l1, rs1, p.bindE fun g2 S2 d2 v2 H2 l2 rs2 r2 p => ?_⟩
  cases d <;> try (exact p.elim)
  cases d2 <;> try (exact p.elim)
  simp only [Rep] at r1 r2
  refine ⟨_, _, r1, r2, ?_⟩
  simp only [] at p
  split at p
  · next h => exact ⟨rngOk_1 h, Post.lst p rs2 rgV_rep⟩
  · exact p.elim
/-! ### items of own slots -/
theorem ab_pkx (c : CtxOk G k N sc X) {i : Nat} {nm : Str} {p2 : Pos} (hs : noSlc y = true) (hN : X.N[i]? = some nm) (hv : Vis X.env.scope nm) (h1 : (nm == ("__debug__" : Str)) = false) (h2 : (nm == ("__classdict__" : Str)) = false) (hb : PE X y (TAE X G.cA E (evE K b))) :
    PE X (.Subscript (.Name nm p2) y pos) (TAE X G.cA E (evE K (.pkx i b))) := by
  have cr : IxR X (fun u v H Q => A2 X G.cA ixD E u v H Q ∨ (rIxL X.K u v H Q ∨ ∃ a w, u = .ref a ∧ DGet H a v (some w) ∧ Q w H)) := (orIx c.hu).or (ix_list.or (ix_dct (by have := c.hu; omega)))
  refine (pe_ix cr (pe_var hN hv h1 h2) hb (noSlc_ok hs)).imp fun σ H Q ⟨g, ρ, S, re, rs, p⟩ => ?_
  simp only [evE] at p
  cases q : ρ[i]? with
  | none => rw [q] at p; exact p.elim
  | some s =>
    rw [q] at p
    cases s with
    | no => exact p.elim
    | val d =>
      obtain ⟨v, k1, r1⟩ := re.val i d q
      refine ⟨v, k1, g, ρ, S, re, rs, Post.bindE p fun g2 S2 d2 v2 H2 l2 rs2 r2 p => ?_⟩
      exact .inl ⟨g2, S2, d, d2, rs2, Rep.mono l2 _ _ r1, r2, p⟩
    | own o =>
      obtain ⟨ad, ho, k1, k2, k3⟩ := re.own i o q
      cases o with
      | obj cc ns vs => exact p.elim
      | lst xs =>
        obtain ⟨vs, rfl, r1⟩ := k3
        refine ⟨_, k1, g, ρ, S, re, rs, Post.bindE p fun g2 S2 d2 v2 H2 l2 rs2 r2 p => ?_⟩
        cases d2 <;> try (exact p.elim)
        simp only [Rep] at r2
        subst r2
        rename_i j
        have p : Post X.K G.cA (Rep X.K G.cA) g2 (M.opt (atO xs j) S2) Q E := p
        cases e : atO xs j with
        | none => rw [e] at p; exact p.elim
        | some d =>
          rw [e] at p
          obtain ⟨w, h1, h2⟩ := (Reps.mono l2 _ _ r1).at e
          exact .inr (.inl ⟨ad, vs, j, w, rfl, rfl, SqL.of (rs2.hR _ _ (by rw [l2.R]; exact k2)), h1, Post.here (d := d) p rs2 h2⟩)
      | dct ks ws =>
        obtain ⟨vs, rfl, h1, h2, h3, r1⟩ := k3
        refine ⟨_, k1, g, ρ, S, re, rs, Post.bindE p fun g2 S2 d2 v2 H2 l2 rs2 r2 p => ?_⟩
        have p : Post X.K G.cA (Rep X.K G.cA) g2 (M.opt ((keyOf d2).bind (dget ks ws)) S2) Q E := p
        cases e : keyOf d2 with
        | none => rw [e] at p; exact p.elim
        | some kk =>
          rw [e] at p
          simp only [Option.bind_some] at p
          cases e2 : dget ks ws kk with
          | none => rw [e2] at p; exact p.elim
          | some d =>
            rw [e2] at p
            obtain ⟨rfl, hk⟩ := keyOf_ok e r2
            obtain ⟨w, q1, q2⟩ := (dget_val (K := X.K) (g := g2) kk h1 (Reps.mono l2 _ _ r1)).1 d e2
            exact .inr (.inr ⟨ad, w, rfl, .inl ⟨_, _, .inl (rs2.hR _ _ (by rw [l2.R]; exact k2)), rfl, q1.symm⟩, Post.here (d := d) p rs2 q2⟩)
end
end GL
end
section
set_option Elab.async false
set_option linter.all false
set_option maxRecDepth 100000
/-! What makes new lists. -/
namespace GL
open PySem L2 PySem.Spec PyProof.Rows
def PostF (K : PySem.W.Frag) (cA : Nat → Addr) (g : Gh) (r : Rs OV) (Q : VK) (E : XK) : Prop := match r with
  | .ok o S' => ∀ g' a h H', Le g g' → RelS K cA g' S' H' → H' a = none → OvR K cA g' o h → Q (.ref a) (upd H' a h)
  | .ex x S' => ∀ g' H' cls d, Le g g' → RelS K cA g' S' H' → XRep K cA g' x cls d → E cls d H'
  | .bad => False
def TAF (X : Cx) (cA : Nat → Addr) (E : XK) (m : Env → M OV) : TE := fun σ H Q => ∃ g ρ S, RelE X.K cA g ρ σ ∧ RelS X.K cA g S H ∧ PostF X.K cA g (m ρ S) Q E
section
variable {X : Cx} {cA : Nat → Addr} {E : XK} {K : Cl} {pos : Pos} {e x y z : Expr} {a b : CE} {lo hi : CEo} {l h : Option Expr} {es : CEs} {xs : List Expr} {f f2 : CF}
theorem PostF.mono {K : PySem.W.Frag} {g g1 : Gh} {r : Rs OV} {Q : VK} (l : Le g g1) (h : PostF K cA g r Q E) : PostF K cA g1 r Q E := by
  cases r with
  | ok a S' => exact fun g' a h' H' l' => h g' a h' H' (l.trans l')
  | ex x S' => exact fun g' H' cls d l' => h g' H' cls d (l.trans l')
  | bad => exact h
theorem PostF.bindE {α β : Type} {K : PySem.W.Frag} {rp : Gh → α → β → Prop} {g : Gh} {S : Sto} {m : M α} {k : α → M OV} {Q : VK} {R : β → Hp → Prop} (h : PostF K cA g ((m >>= k) S) Q E)
    (f : ∀ g1 S1 a b H1, Le g g1 → RelS K cA g1 S1 H1 → rp g1 a b → PostF K cA g1 (k a S1) Q E → R b H1) : Post K cA rp g (m S) R E := by
  cases e : m S with
  | ok a S' =>
    rw [M.bind_ok e] at h
    exact fun g' b H' l r q => f g' S' a b H' l r q (h.mono l)
  | ex x S' => rw [M.bind_ex e] at h; exact h
  | bad => rw [M.bind_bad e] at h; exact h
theorem PostF.lst {K : PySem.W.Frag} {g : Gh} {S : Sto} {H : Hp} {ds : List DV} {vs : List V} {Q : VK} (p : PostF K cA g (.ok (.lst ds) S) Q E) (rs : RelS K cA g S H) (r : Reps K cA g ds vs) : ∀ a, H a = none → Q (.ref a) (upd H a (.lst vs)) :=
  fun a ha => p g a _ H Le.rfl' rs ha ⟨vs, rfl, r⟩
theorem lstX_ok {K : PySem.W.Frag} {g : Gh} {S : Sto} {H : Hp} (rs : RelS K cA g S H) {d : DV} {v : V} {xs : List DV} (e : lstX S d = some xs) (r : Rep K cA g d v) :
    ∃ a vs, v = .ref a ∧ H a = some (.lst vs) ∧ Reps K cA g xs vs := by
  cases d <;> simp only [lstX] at e <;> try (cases e; done)
  · cases e; simp only [Rep] at r; obtain ⟨a, vs, rfl, q, t⟩ := r; exact ⟨a, vs, rfl, rs.hF _ _ q, t⟩
  · rename_i k
    simp only [Rep] at r
    obtain ⟨a, q, rfl⟩ := r
    cases e0 : S[k]? with
    | none => rw [e0] at e; cases e
    | some o =>
      rw [e0] at e
      cases o with
      | dct _ _ => cases e
      | obj _ _ _ => cases e
      | lst ys =>
        cases e
        obtain ⟨a', h, h1, h2, ⟨vs, rfl, t⟩, _, _⟩ := rs.st k _ e0
        rw [q] at h1; cases h1
        exact ⟨a, vs, rfl, h2, t⟩
theorem af_lst (h : PA X xs (TAS X cA E (evs K es))) : PE X (.List xs pos) (TAF X cA E (evF K (.lst es))) := by
  refine (pe_lst h).imp fun σ H Q ⟨g, ρ, S, re, rs, p⟩ => ?_
  simp only [evF] at p
  refine ⟨g, ρ, S, re, rs, p.bindE fun g1 S1 us vs H1 l1 rs1 r1 p => ?_⟩
  split at p
  · next hl => exact ⟨by rw [← r1.length, ← sizeL]; exact hl, PostF.lst p rs1 r1⟩
  · exact p.elim
theorem af_sl {p2 : Pos} (ha : PE X x (TAE X cA E (evE K a))) (hl : PO X l (TAO X cA E (evo K lo))) (hh : PO X h (TAO X cA E (evo K hi))) : PE X (.Subscript x (.Slice l h none p2) pos) (TAF X cA E (evF K (.sl a lo hi))) := by
  refine (pe_slice sl_list ha hl hh).imp fun σ H Q ⟨g, ρ, S, re, rs, p⟩ => ?_
  simp only [evF] at p
  refine ⟨g, ρ, S, re, rs, p.bindE fun g1 S1 u v H1 l1 rs1 r1 p => ?_⟩
  refine ⟨g1, ρ, S1, re.mono l1, rs1, PostF.bindE p fun g2 S2 o o' H2 l2 rs2 r2 p => ?_⟩
  cases r2
  refine ⟨g2, ρ, S2, re.mono (l1.trans l2), rs2, PostF.bindE p fun g3 S3 o3 o3' H3 l3 rs3 r3 p => ?_⟩
  cases r3
  have p : PostF X.K cA g3 ((match lstOf S3 u with
    | some xs => (pure (.lst (GL.cut xs o o3)) : M OV)
    | none => M.fail) S3) Q E := p
  cases e : lstOf S3 u with
  | none => rw [e] at p; exact p.elim
  | some ys =>
    rw [e] at p
    obtain ⟨ad, vs, rfl, hq, hr⟩ := lstOf_ok rs3 e (Rep.mono (l2.trans l3) _ _ r1)
    exact ⟨ad, vs, rfl, hq, PostF.lst p rs3 (hr.cut o o3)⟩
theorem af_add (ha : PE X x (TAE X cA E (evE K a))) (hb : PE X y (TAE X cA E (evE K b))) : PE X (.BinOp x .Add y pos) (TAF X cA E (evF K (.add a b))) := by
  refine (pe_op op_cat ha hb).imp fun σ H Q ⟨g, ρ, S, re, rs, p⟩ => ?_
  simp only [evF] at p
  refine ⟨g, ρ, S, re, rs, p.bindE fun g1 S1 u v H1 l1 rs1 r1 p => ?_⟩
  refine ⟨g1, ρ, S1, re.mono l1, rs1, PostF.bindE p fun g2 S2 u2 v2 H2 l2 rs2 r2 p => ?_⟩
  have p : PostF X.K cA g2 ((match lstX S2 u, lstX S2 u2 with
    | some xs, some ys => if xs.length + ys.length ≤ LIM then (pure (.lst (xs ++ ys)) : M OV) else M.fail
    | _, _ => M.fail) S2) Q E := p
  cases e : lstX S2 u with
  | none => rw [e] at p; exact p.elim
  | some xs =>
    rw [e] at p
    cases e2 : lstX S2 u2 with
    | none => rw [e2] at p; exact p.elim
    | some ys =>
      rw [e2] at p
      simp only [] at p
      split at p
      · next hl =>
        obtain ⟨a1, vs, rfl, h1, t1⟩ := lstX_ok rs2 e (Rep.mono l2 _ _ r1)
        obtain ⟨a2, ws, rfl, h2, t2⟩ := lstX_ok rs2 e2 r2
        exact ⟨a1, a2, vs, ws, rfl, rfl, h1, h2, by rw [← t1.length, ← t2.length, ← sizeL]; exact hl, PostF.lst p rs2 (t1.app t2)⟩
      · exact p.elim
theorem truV_upd {H : Hp} {q : Addr} {vs : List V} {KK : PySem.W.Frag} : TruV KK (.ref q) (upd H q (.lst vs)) (!vs.isEmpty) := .inl ⟨vs, SqL.of upd_same, rfl⟩
theorem af_or {p2 : Pos} (ha : PE X x (TAF X cA E (evF K f))) (hb : PE X y (TAF X cA E (evF K f2))) : PE X (.BoolOp .Or [x, y] pos) (TAF X cA E (evF K (.or f f2))) := by
  refine (pe_orT ha (pe_one hb)).imp fun σ H Q ⟨g, ρ, S, re, rs, p⟩ => ?_
  simp only [evF] at p
  refine ⟨g, ρ, S, re, rs, ?_⟩
  cases e : evF K f ρ S with
  | bad => rw [M.bind_bad e] at p; exact p.elim
  | ex w S' => rw [M.bind_ex e] at p; exact p
  | ok o S' =>
    rw [M.bind_ok e] at p
    intro g' q hh H' l' rs' hq ho
    have p := p.mono l'
    cases o with
    | obj cc ns vs => exact p.elim
    | lst ds =>
      obtain ⟨vs, rfl, r⟩ := ho
      refine ⟨_, truV_upd, ?_⟩
      simp only [] at p
      rw [← isEmpty_reps r]
      cases e2 : ds.isEmpty with
      | true =>
        rw [e2] at p
        simp only [Bool.not_true, Bool.false_eq_true, if_false]
        exact ⟨g'.lay q (.lst vs), ρ, S', (re.mono l').mono (rs'.leLay hq), rs'.lay hq, PostF.mono (rs'.leLay hq) p⟩
      | false =>
        rw [e2] at p
        simp only [Bool.not_false, if_true]
        exact p g' q _ H' Le.rfl' rs' hq ⟨vs, rfl, r⟩
    | dct ks ds => exact p.elim
/-- as a shared list -/
theorem ab_shr (hf : PE X x (TAF X cA E (evF K f))) : PE X x (TAE X cA E (evE K (.shr f))) := by
  refine hf.imp fun σ H Q ⟨g, ρ, S, re, rs, p⟩ => ?_
  simp only [evE] at p
  refine ⟨g, ρ, S, re, rs, ?_⟩
  cases e : evF K f ρ S with
  | bad => rw [M.bind_bad e] at p; exact p.elim
  | ex w S' => rw [M.bind_ex e] at p; exact p
  | ok o S' =>
    rw [M.bind_ok e] at p
    intro g' q hh H' l' rs' hq ho
    have p : Post X.K cA (Rep X.K cA) g (.ok (.loc S'.length) (S' ++ [o])) Q E := p
    refine p (g'.push q) _ _ (l'.trans Le.push) (rs'.push hq ho) ?_
    simp only [Rep]
    refine ⟨q, ?_, rfl⟩
    show (g'.π ++ [q])[S'.length]? = some q
    rw [← rs'.len, List.getElem?_append_right (Nat.le_refl _), Nat.sub_self]; rfl
end
section
variable {G : Prg} {K : Cl} {k : Nat} {N : List Str} {sc : Scope} {X : Cx} {E : XK} {pos p1 : Pos} {x y : Expr} {f : Str} {a b : CE}
theorem af_list (c : CtxOk G k N sc X) (P : POk G) (hb : blB G.gn sc f "list" = true) (hn : noStar x = true) (ha : PE X x (TAE X G.cA E (evE K a))) : PE X (.Call (.Name f p1) [x] [] pos) (TAF X G.cA E (evF K (.bi .list a))) := by
  obtain ⟨rfl, hg, hm⟩ := blB_ok c P hb
  refine (pe_callTy (CallR.or call_list_of (call_listD c.calm)) hg hm (by rfl) (pa_cons ha pa_nil (star_cons hn _ _)) (by decide) (by decide) (star_cons hn _ _) (by rfl)).imp fun σ H Q ⟨g, ρ, S, re, rs, p⟩ => ?_
  simp only [evF] at p
  refine ⟨g, ρ, S, re, rs, p.bindE fun g1 S1 d v H1 l1 rs1 r1 p => ?_⟩
  by_cases c1 : ∃ ks vs, d = .dct ks vs
  · obtain ⟨ks, ws, rfl⟩ := c1
    simp only [Rep] at r1
    obtain ⟨ad, o, vs, rfl, h1, h2, h3, h4, h5⟩ := r1
    refine .inr ⟨ad, _, rfl, .inr ⟨o, rs1.hF _ _ h1⟩, fun q hq => ?_⟩
    rw [keys_pairs h2]
    exact PostF.lst (ds := ks.map ofKey) p rs1 (keys_rep h3) q hq
  · have p : PostF X.K G.cA g1 ((match seqOf S1 d with
      | some xs => (pure (.lst xs) : M OV)
      | none => M.fail) S1) Q E := by
      cases d <;> first | exact absurd ⟨_, _, rfl⟩ c1 | exact p
    cases e : seqOf S1 d with
    | none => rw [e] at p; exact p.elim
    | some ys =>
      rw [e] at p
      obtain ⟨ad, vs, rfl, hq, hr⟩ := seqOf_ok rs1 e r1
      exact .inl ⟨ad, vs, rfl, hq, PostF.lst p rs1 hr⟩
theorem af_rng1 (c : CtxOk G k N sc X) (P : POk G) {l : Str} {p2 : Pos} {p3 : Pos} (hl : blB G.gn sc l "list" = true) (hb : blB G.gn sc f "range" = true) (hn : noStar x = true) (ha : PE X x (TAE X G.cA E (evE K b))) :
    PE X (.Call (.Name l p1) [.Call (.Name f p2) [x] [] p3] [] pos) (TAF X G.cA E (evF K (.rng (.int 0) b 1))) := by
  obtain ⟨rfl, hg, hm⟩ := blB_ok c P hb
  obtain ⟨rfl, hg2, hm2⟩ := blB_ok c P hl
  refine (pe_listRg c.calm hg2 hm2 (prg_1 hg hm ha (star_cons hn _ _)) (by rfl)).imp fun σ H Q ⟨g, ρ, S, re, rs, p⟩ => ?_
  simp only [evF, evE] at p
  have p : PostF X.K G.cA g ((evE K b ρ >>= fun y => match DV.int 0, y with
    | .int i, .int j => if rngOk i j 1 then (pure (.lst (rngL i j 1)) : M OV) else M.fail
    | _, _ => M.fail) S) Q E := p
  refine ⟨g, ρ, S, re, rs, p.bindE fun g1 S1 d v H1 l1 rs1 r1 p => ?_⟩
  cases d <;> try (exact p.elim)
  rename_i j
  simp only [Rep] at r1
  refine ⟨j, r1, ?_⟩
  simp only [] at p
  split at p
  · next h => exact ⟨rngOk_1 h, PostF.lst p rs1 rgV_rep⟩
  · exact p.elim
theorem af_rng2 (c : CtxOk G k N sc X) (P : POk G) {l : Str} {p2 : Pos} {p3 : Pos} (hl : blB G.gn sc l "list" = true) (hb : blB G.gn sc f "range" = true) (hn : noStar x = true) (hn2 : noStar y = true) (ha : PE X x (TAE X G.cA E (evE K a))) (hb : PE X y (TAE X G.cA E (evE K b))) :
    PE X (.Call (.Name l p1) [.Call (.Name f p2) [x, y] [] p3] [] pos) (TAF X G.cA E (evF K (.rng a b 1))) := by
  rename_i hb0
  obtain ⟨rfl, hg, hm⟩ := blB_ok c P hb0
  obtain ⟨rfl, hg2, hm2⟩ := blB_ok c P hl
  refine (pe_listRg c.calm hg2 hm2 (prg_2 hg hm ha hb (star_cons hn _ _) (star_cons hn2 _ _) (star_any (by simp [hn2]) _ _)) (by rfl)).imp fun σ H Q ⟨g, ρ, S, re, rs, p⟩ => ?_
  simp only [evF, evE] at p
  refine ⟨g, ρ, S, re, rs, p.bindE fun g1 S1 d v H1 l1 rs1 r1 p => ?_⟩
  refine ⟨g1, ρ, S1, re.mono l1, rs1, p.bindE fun g2 S2 d2 v2 H2 l2 rs2 r2 p => ?_⟩
  cases d <;> try (exact p.elim)
  cases d2 <;> try (exact p.elim)
  simp only [Rep] at r1 r2
  refine ⟨_, _, r1, r2, ?_⟩
  simp only [] at p
  split at p
  · next h => exact ⟨rngOk_1 h, PostF.lst p rs2 rgV_rep⟩
  · exact p.elim
end
end GL
end
section
set_option Elab.async false
set_option linter.all false
set_option maxRecDepth 100000
/-! Walks, targets. -/
namespace GL
open PySem L2 PySem.Spec PyProof.Rows
theorem OvR.monoF {K : PySem.W.Frag} {cA : Nat → Addr} {g g' : Gh} (l : LeF g g') : ∀ {o : OV} {h : HO}, OvR K cA g o h → OvR K cA g' o h
  | .lst xs, h, q => by obtain ⟨vs, e, r⟩ := q; exact ⟨vs, e, Reps.monoF l _ _ r⟩
  | .dct ks ws, h, q => by obtain ⟨vs, e, h1, h2, h3, r⟩ := q; exact ⟨vs, e, h1, h2, h3, Reps.monoF l _ _ r⟩
  | .obj c ns ws, h, q => by obtain ⟨dx, vs, e, h1, r⟩ := q; exact ⟨dx, vs, e, h1, Reps.monoF l _ _ r⟩
def IWalk (K : PySem.W.Frag) (cA : Nat → Addr) (g0 : Gh) (w : Wk) (J : It) : Prop := ∀ (i : Nat) (g : Gh) (S : Sto) (H : Hp), LeF g0 g → RelS K cA g S H → w.stays S = true →
  (∀ d, w.items[i]? = some d → J.go i H ∧ ∀ x H', J.yld i H x H' → ∃ g', Le g g' ∧ RelS K cA g' S H' ∧ Rep K cA g' d x) ∧ (i = w.items.length → J.stop i H)
section
variable {X : Cx} {cA : Nat → Addr} {E : XK} {K : Cl} {pos : Pos} {e x y z : Expr} {a b : CE}
/-- the walked list or tuple at its place, for as long as it stays -/
def Src (K : PySem.W.Frag) (cA : Nat → Addr) (g0 : Gh) (w : Wk) (P : Hp → List V → Prop) : Prop := ∀ (g : Gh) (S : Sto) (H : Hp), LeF g0 g → RelS K cA g S H → w.stays S = true → ∃ vs, P H vs ∧ Reps K cA g w.items vs
def kindT : DV → Bool
  | .tup _ => true
  | _ => false
theorem src_of {KK : PySem.W.Frag} {g : Gh} {S : Sto} {H : Hp} (rs : RelS KK cA g S H) {d : DV} {v : V} {w : Wk} (e : seqW S d = some w) (r : Rep KK cA g d v) : ∃ ad, v = .ref ad ∧
    ∃ vs, SqK (kindT d) KK H ad vs ∧ Src KK cA g w (fun H vs => SqK (kindT d) KK H ad vs) := by
  cases d <;> simp only [seqW] at e <;> try (cases e; done)
  · cases e
    simp only [Rep] at r
    obtain ⟨ad, vs, rfl, q, t⟩ := r
    exact ⟨ad, rfl, vs, sqT_mono q rs.hF, fun g' S' H' l rs' _ => ⟨vs, sqT_mono q fun a o h => rs'.hF _ _ (l.F _ _ h), Reps.monoF l _ _ t⟩⟩
  · cases e
    simp only [Rep] at r
    obtain ⟨ad, vs, rfl, q, t⟩ := r
    exact ⟨ad, rfl, vs, SqL.of (rs.hF _ _ q), fun g' S' H' l rs' _ => ⟨vs, SqL.of (rs'.hF _ _ (l.F _ _ q)), Reps.monoF l _ _ t⟩⟩
  · rename_i k
    simp only [Rep] at r
    obtain ⟨ad, q, rfl⟩ := r
    cases e0 : S[k]? with
    | none => rw [e0] at e; cases e
    | some o =>
      rw [e0] at e
      cases o with
      | dct _ _ => cases e
      | obj _ _ _ => cases e
      | lst ys =>
        cases e
        obtain ⟨a', h, h1, h2, ⟨vs, rfl, t⟩, _, _⟩ := rs.st k _ e0
        rw [q] at h1; cases h1
        refine ⟨ad, rfl, vs, SqL.of h2, fun g' S' H' l rs' hs => ?_⟩
        unfold Wk.stays at hs
        simp only [List.all_cons, List.all_nil, Bool.and_true] at hs
        cases e1 : S'[k]? with
        | none => rw [e1] at hs; cases hs
        | some o' =>
          rw [e1] at hs
          cases o' with
          | dct _ _ => cases hs
          | obj _ _ _ => cases hs
          | lst zs =>
            have := beqs_eq _ _ hs
            subst this
            obtain ⟨a2, h', k1, k2, ⟨vs', rfl, t'⟩, _, _⟩ := rs'.st k _ e1
            rw [l.π _ _ q] at k1; cases k1
            exact ⟨vs', SqL.of k2, t'⟩
theorem reps_at {KK : PySem.W.Frag} {g : Gh} {ds : List DV} {vs : List V} {i : Nat} {d : DV} (r : Reps KK cA g ds vs) (e : ds[i]? = some d) : ∃ v, vs[i]? = some v ∧ Rep KK cA g d v := r.get e
theorem iw_list {KK : PySem.W.Frag} {g : Gh} {w : Wk} {ad : Addr} (h : Src KK cA g w (fun H vs => SqL KK H ad vs)) : IWalk KK cA g w (Itl KK ad) := fun i g' S H l rs hs => by
  obtain ⟨vs, hq, r⟩ := h g' S H l rs hs
  refine ⟨fun d ed => ?_, fun ei => ⟨vs, hq, by rw [ei, r.length]; exact Nat.le_refl _⟩⟩
  obtain ⟨v, h1, h2⟩ := r.get ed
  refine ⟨⟨vs, v, hq, h1⟩, fun x H' ⟨eh, ey⟩ => ⟨g', Le.rfl', by rw [eh]; exact rs, ?_⟩⟩
  have := ey vs hq
  rw [h1] at this
  cases this
  exact h2
theorem iw_tup {KK : PySem.W.Frag} {g : Gh} {w : Wk} {ad : Addr} (h : Src KK cA g w (fun H vs => SqT KK H ad vs)) : IWalk KK cA g w (Itt KK ad) := fun i g' S H l rs hs => by
  obtain ⟨vs, hq, r⟩ := h g' S H l rs hs
  refine ⟨fun d ed => ?_, fun ei => ⟨vs, hq, by rw [ei, r.length]; exact Nat.le_refl _⟩⟩
  obtain ⟨v, h1, h2⟩ := r.get ed
  refine ⟨⟨vs, v, hq, h1⟩, fun x H' ⟨eh, ey⟩ => ⟨g', Le.rfl', by rw [eh]; exact rs, ?_⟩⟩
  have := ey vs hq
  rw [h1] at this
  cases this
  exact h2
theorem enumL_get : ∀ {xs : List DV} {n i : Nat} {d : DV}, (enumL n xs)[i]? = some d → ∃ x, xs[i]? = some x ∧ d = .tup [.int ((n + i : Nat) : Int), x]
  | [], n, i, d, e => by simp [enumL] at e
  | x :: xs, n, 0, d, e => by simp [enumL] at e; exact ⟨x, rfl, e.symm⟩
  | x :: xs, n, i + 1, d, e => by
    simp only [enumL, List.getElem?_cons_succ] at e
    obtain ⟨y, h1, h2⟩ := enumL_get e
    refine ⟨y, by simpa using h1, ?_⟩
    rw [h2]
    have : n + 1 + i = n + (i + 1) := by omega
    rw [this]
theorem enumL_len : ∀ {xs : List DV} {n : Nat}, (enumL n xs).length = xs.length
  | [], _ => rfl
  | x :: xs, n => by simp only [enumL, List.length_cons, enumL_len]
theorem rep_pair {KK : PySem.W.Frag} {g : Gh} {S : Sto} {H : Hp} {T : Addr} {d1 d2 : DV} {v1 v2 : V} (rs : RelS KK cA g S H) (hT : H T = none) (r1 : Rep KK cA g d1 v1) (r2 : Rep KK cA g d2 v2) :
    Le g (g.lay T (.tup [v1, v2])) ∧ RelS KK cA (g.lay T (.tup [v1, v2])) S (upd H T (.tup [v1, v2])) ∧ Rep KK cA (g.lay T (.tup [v1, v2])) (.tup [d1, d2]) (.ref T) := by
  refine ⟨rs.leLay hT, rs.lay hT, ?_⟩
  simp only [Rep]
  exact ⟨T, [v1, v2], rfl, SqT.of lay_at, Reps.cons (Rep.mono (rs.leLay hT) _ _ r1) (Reps.cons (Rep.mono (rs.leLay hT) _ _ r2) Reps.nil)⟩
theorem iw_enum {KK : PySem.W.Frag} {g : Gh} {w : Wk} {ad : Addr} (h : Src KK cA g w (fun H vs => SqL KK H ad vs)) : IWalk KK cA g ⟨enumL 0 w.items, w.src⟩ (Ite KK ad) := fun i g' S H l rs hs => by
  obtain ⟨vs, hq, r⟩ := h g' S H l rs hs
  refine ⟨fun d ed => ?_, fun ei => ⟨vs, hq, by rw [ei]; show vs.length ≤ (enumL 0 w.items).length; rw [enumL_len, r.length]; exact Nat.le_refl _⟩⟩
  obtain ⟨x, e1, e2⟩ := enumL_get ed
  obtain ⟨v, h1, h2⟩ := r.get e1
  refine ⟨⟨vs, v, hq, h1⟩, fun y H' ⟨T, y', ev, hT, eh, ey⟩ => ?_⟩
  have := ey vs hq
  rw [h1] at this
  cases this
  subst e2 ev eh
  obtain ⟨q1, q2, q3⟩ := rep_pair rs hT (Rep.int (i := ((0 + i : Nat) : Int))) h2
  rw [Nat.zero_add] at q1 q2 q3 ⊢
  exact ⟨_, q1, q2, q3⟩
theorem iw_enumT {KK : PySem.W.Frag} {g : Gh} {w : Wk} {ad : Addr} (h : Src KK cA g w (fun H vs => SqT KK H ad vs)) : IWalk KK cA g ⟨enumL 0 w.items, w.src⟩ (IteT KK ad) := fun i g' S H l rs hs => by
  obtain ⟨vs, hq, r⟩ := h g' S H l rs hs
  refine ⟨fun d ed => ?_, fun ei => ⟨vs, hq, by rw [ei]; show vs.length = (enumL 0 w.items).length; rw [enumL_len, r.length]⟩⟩
  obtain ⟨x, e1, e2⟩ := enumL_get ed
  obtain ⟨v, h1, h2⟩ := r.get e1
  refine ⟨⟨vs, v, hq, h1⟩, fun y H' ⟨T, y', ev, hT, eh, ey⟩ => ?_⟩
  have := ey vs hq
  rw [h1] at this
  cases this
  subst e2 ev eh
  obtain ⟨q1, q2, q3⟩ := rep_pair rs hT (Rep.int (i := ((0 + i : Nat) : Int))) h2
  rw [Nat.zero_add] at q1 q2 q3 ⊢
  exact ⟨_, q1, q2, q3⟩
theorem zipL_get : ∀ {xs ys : List DV} {i : Nat} {d : DV}, (zipL xs ys)[i]? = some d → ∃ x y, xs[i]? = some x ∧ ys[i]? = some y ∧ d = .tup [x, y]
  | [], ys, i, d, e => by simp [zipL] at e
  | _ :: _, [], i, d, e => by simp [zipL] at e
  | x :: xs, y :: ys, 0, d, e => by simp [zipL] at e; exact ⟨x, y, rfl, rfl, e.symm⟩
  | x :: xs, y :: ys, i + 1, d, e => by
    simp only [zipL, List.getElem?_cons_succ] at e
    obtain ⟨u, v, h1, h2, h3⟩ := zipL_get e
    exact ⟨u, v, by simpa using h1, by simpa using h2, h3⟩
theorem zipL_len : ∀ {xs ys : List DV}, (zipL xs ys).length = min xs.length ys.length
  | [], ys => by simp [zipL]
  | _ :: _, [] => by simp [zipL]
  | x :: xs, y :: ys => by simp only [zipL, List.length_cons, zipL_len]; omega

theorem iw_zip {KK : PySem.W.Frag} {k1 k2 : Bool} {g : Gh} {w v : Wk} {ad bd : Addr} (h : Src KK cA g w (fun H vs => SqK k1 KK H ad vs)) (h2 : Src KK cA g v (fun H vs => SqK k2 KK H bd vs)) :
    IWalk KK cA g ⟨zipL w.items v.items, w.src ++ v.src⟩ (ItzK k1 k2 KK ad bd) := fun i g' S H l rs hs => by
  have hs1 : w.stays S = true ∧ v.stays S = true := by
    unfold Wk.stays at hs ⊢
    simpa only [List.all_append, Bool.and_eq_true] using hs
  obtain ⟨vs, hq, r⟩ := h g' S H l rs hs1.1
  obtain ⟨ws, hq2, r2⟩ := h2 g' S H l rs hs1.2
  refine ⟨fun d ed => ?_, fun ei => ⟨vs, ws, hq, hq2, ?_⟩⟩
  · obtain ⟨x, y, e1, e2, e3⟩ := zipL_get ed
    obtain ⟨a1, b1, c1⟩ := r.get e1
    obtain ⟨a2, b2, c2⟩ := r2.get e2
    refine ⟨⟨vs, ws, a1, a2, hq, hq2, b1, b2⟩, fun y' H' ⟨T, x1, x2, ev, hT, eh, ey, ey2⟩ => ?_⟩
    have := ey vs hq
    rw [b1] at this
    cases this
    have := ey2 ws hq2
    rw [b2] at this
    cases this
    subst e3 ev eh
    exact ⟨_, rep_pair rs hT c1 c2⟩
  · have ei : i = (zipL w.items v.items).length := ei
    rw [zipL_len, r.length, r2.length] at ei
    omega
theorem rngL_get {i j c : Int} {n : Nat} {d : DV} (e : (rngL i j c)[n]? = some d) : n < rngN i j c ∧ d = .int (i + (n : Int) * c) := by
  unfold rngL at e
  rw [List.getElem?_map] at e
  cases q : (List.range (rngN i j c))[n]? with
  | none => rw [q] at e; cases e
  | some m =>
    rw [q] at e
    obtain ⟨h1, h2⟩ := List.getElem?_eq_some_iff.mp q
    rw [List.length_range] at h1
    rw [List.getElem_range] at h2
    subst h2
    cases e
    exact ⟨h1, rfl⟩
theorem iw_rng {KK : PySem.W.Frag} {g : Gh} {i j : Int} : IWalk KK cA g ⟨rngL i j 1, []⟩ (Itr i (rngN i j 1)) := fun n g' S H l rs hs => by
  refine ⟨fun d ed => ?_, fun ei => ?_⟩
  · obtain ⟨h1, rfl⟩ := rngL_get ed
    refine ⟨h1, fun x H' ⟨eh, ex⟩ => ⟨g', Le.rfl', by rw [eh]; exact rs, ?_⟩⟩
    rw [ex, Int.mul_one]
    exact Rep.int
  · show rngN i j 1 ≤ n
    rw [ei]
    show rngN i j 1 ≤ (rngL i j 1).length
    unfold rngL
    rw [List.length_map, List.length_range]
    exact Nat.le_refl _
theorem iw_rngC {KK : PySem.W.Frag} {g : Gh} {i j c : Int} : IWalk KK cA g ⟨rngL i j c, []⟩ (Itc i c (rngN i j c)) := fun n g' S H l rs hs => by
  refine ⟨fun d ed => ?_, fun ei => ?_⟩
  · obtain ⟨h1, rfl⟩ := rngL_get ed
    refine ⟨h1, fun x H' ⟨eh, ex⟩ => ⟨g', Le.rfl', by rw [eh]; exact rs, ?_⟩⟩
    rw [ex]
    exact Rep.int
  · show rngN i j c ≤ n
    rw [ei]
    show rngN i j c ≤ (rngL i j c).length
    unfold rngL
    rw [List.length_map, List.length_range]
    exact Nat.le_refl _
theorem iw_str {KK : PySem.W.Frag} {g : Gh} {z : List Nat} (hz : okS z = true) : IWalk KK cA g ⟨z.map fun c => .str [c], []⟩ (Its (mkS z)) := fun n g' S H l rs hs => by
  refine ⟨fun d ed => ?_, fun ei => ?_⟩
  · rw [List.getElem?_map] at ed
    cases q : z[n]? with
    | none => rw [q] at ed; cases ed
    | some c =>
      rw [q] at ed
      cases ed
      have hn := (List.getElem?_eq_some_iff.mp q).1
      refine ⟨?_, fun x H' ⟨eh, c', ec, ex⟩ => ⟨g', Le.rfl', by rw [eh]; exact rs, ?_⟩⟩
      · show n < (mkS z).cps.size
        unfold mkS
        simpa using hn
      · have : c' = c := by
          unfold mkS at ec
          have : z[n]? = some c' := by simpa using ec
          rw [q] at this
          exact (Option.some.inj this).symm
        subst this
        rw [ex]
        exact Rep.str (okS_one hz (List.mem_of_getElem? q))
  · show (mkS z).cps.size ≤ n
    rw [ei]
    unfold mkS
    simp
/-- what a walk is -/
abbrev wR (K : PySem.W.Frag) (cA : Nat → Addr) (g : Gh) (w : Wk) (J : It) : Prop := IWalk K cA g w J
abbrev TAI (X : Cx) (cA : Nat → Addr) (E : XK) (m : Env → M Wk) : TI := Ab X.K cA (wR X.K cA) m E
theorem Post.hereI {K : PySem.W.Frag} {g : Gh} {S : Sto} {H : Hp} {w : Wk} {J : It} {Q : It → Hp → Prop} (p : Post K cA (wR K cA) g (.ok w S) Q E) (rs : RelS K cA g S H) (r : IWalk K cA g w J) : Q J H := p g J H Le.rfl' rs r
theorem Post.ofOk {α γ δ : Type} {K : PySem.W.Frag} {cA : Nat → Addr} {rq : Gh → γ → δ → Prop} {g : Gh} {S : Sto} {m : M α} {k : α → M γ} {Q : δ → Hp → Prop} {E : XK} (h : Post K cA rq g ((m >>= k) S) Q E) :
    (∃ a S', m S = .ok a S' ∧ Post K cA rq g (k a S') Q E) ∨ (∃ x S', m S = .ex x S' ∧ Post K cA rq g (.ex x S') Q E) := by
  cases e : m S with
  | ok a S' => rw [M.bind_ok e] at h; exact .inl ⟨a, S', rfl, h⟩
  | ex x S' => rw [M.bind_ex e] at h; exact .inr ⟨x, S', rfl, h⟩
  | bad => rw [M.bind_bad e] at h; exact h.elim
theorem ai_seq {tg : Expr} (ha : PE X x (TAE X cA E (evE K a))) : PI X tg x (TAI X cA E (evI K (.seq a))) := by
  refine ⟨fun pins s σ H R I ⟨g, ρ, S, re, rs, p⟩ => ?_⟩
  simp only [evI] at p
  rcases Post.ofOk p with ⟨d, S', e, p1⟩ | ⟨w, S', e, p1⟩
  · have p1 : Post X.K cA (wR X.K cA) g (M.opt (walkOf S' d) S') R E := p1
    cases ew : walkOf S' d with
    | none => rw [ew] at p1; exact p1.elim
    | some w =>
      rw [ew] at p1
      by_cases c1 : ∃ z, d = .str z
      · obtain ⟨z, rfl⟩ := c1
        refine (pi_str ha).run pins s σ H R I ⟨g, ρ, S, re, rs, ?_⟩
        rw [e]
        intro g1 v H1 l1 rs1 r1
        simp only [Rep] at r1
        obtain ⟨rfl, hz⟩ := r1
        cases ew
        exact ⟨_, rfl, Post.hereI (p1.mono l1) rs1 (iw_str hz)⟩
      · have ew' : seqW S' d = some w := by
          cases d <;> first | exact ew | exact absurd ⟨_, rfl⟩ c1
        cases hk : kindT d with
        | true =>
          refine (pi_tup ha).run pins s σ H R I ⟨g, ρ, S, re, rs, ?_⟩
          rw [e]
          intro g1 v H1 l1 rs1 r1
          obtain ⟨ad, rfl, vs, h1, h2⟩ := src_of rs1 ew' r1
          rw [hk] at h1 h2
          exact ⟨ad, rfl, ⟨vs, h1⟩, Post.hereI (p1.mono l1) rs1 (iw_tup h2)⟩
        | false =>
          refine (pi_list ha).run pins s σ H R I ⟨g, ρ, S, re, rs, ?_⟩
          rw [e]
          intro g1 v H1 l1 rs1 r1
          obtain ⟨ad, rfl, vs, h1, h2⟩ := src_of rs1 ew' r1
          rw [hk] at h1 h2
          exact ⟨ad, rfl, ⟨vs, h1⟩, Post.hereI (p1.mono l1) rs1 (iw_list h2)⟩
  · refine (pi_list ha).run pins s σ H R I ⟨g, ρ, S, re, rs, ?_⟩
    rw [e]
    exact p1
end
section
variable {G : Prg} {K : Cl} {k : Nat} {N : List Str} {sc : Scope} {X : Cx} {E : XK} {pos p1 : Pos} {x y z : Expr} {f : Str} {a b : CE}
theorem ai_enum (c : CtxOk G k N sc X) (P : POk G) {elts : List Expr} {kk : Nat} {tpos : Pos} (hb : blB G.gn sc f "enumerate" = true) (hn : noStar x = true) (ha : PE X x (TAE X G.cA E (evE K a))) : PI X (.Tuple elts kk tpos) (.Call (.Name f p1) [x] [] pos) (TAI X G.cA E (evI K (.enum a))) := by
  obtain ⟨rfl, hg, hm⟩ := blB_ok c P hb
  refine ⟨fun pins s σ H R I ⟨g, ρ, S, re, rs, p⟩ => ?_⟩
  simp only [evI] at p
  have pa := pa_cons ha pa_nil (star_cons hn [] X.env)
  rcases Post.ofOk p with ⟨d, S', e, p1⟩ | ⟨w, S', e, p1⟩
  · have p1 : Post X.K G.cA (wR X.K G.cA) g ((match seqW S' d with
      | some w => (pure ⟨enumL 0 w.items, w.src⟩ : M Wk)
      | none => M.fail) S') R E := p1
    cases ew : seqW S' d with
    | none => rw [ew] at p1; exact p1.elim
    | some w =>
      rw [ew] at p1
      cases hk : kindT d with
      | true =>
        refine (pi_enumT hg hm pa (star_cons hn [] X.env)).run pins s σ H R I ⟨g, ρ, S, re, rs, ?_⟩
        rw [e]
        intro g1 v H1 l1 rs1 r1
        obtain ⟨ad, rfl, vs, h1, h2⟩ := src_of rs1 ew r1
        rw [hk] at h1 h2
        exact ⟨ad, vs, rfl, h1, Post.hereI (p1.mono l1) rs1 (iw_enumT h2)⟩
      | false =>
        refine (pi_enum hg hm pa (star_cons hn [] X.env)).run pins s σ H R I ⟨g, ρ, S, re, rs, ?_⟩
        rw [e]
        intro g1 v H1 l1 rs1 r1
        obtain ⟨ad, rfl, vs, h1, h2⟩ := src_of rs1 ew r1
        rw [hk] at h1 h2
        exact ⟨ad, vs, rfl, h1, Post.hereI (p1.mono l1) rs1 (iw_enum h2)⟩
  · refine (pi_enum hg hm pa (star_cons hn [] X.env)).run pins s σ H R I ⟨g, ρ, S, re, rs, ?_⟩
    rw [e]
    exact p1
theorem ai_zip (c : CtxOk G k N sc X) (P : POk G) {elts : List Expr} {kk : Nat} {tpos : Pos} (hb : blB G.gn sc f "zip" = true) (hn : noStar x = true) (hn2 : noStar y = true) (ha : PE X x (TAE X G.cA E (evE K a))) (hb2 : PE X y (TAE X G.cA E (evE K b))) :
    PI X (.Tuple elts kk tpos) (.Call (.Name f p1) [x, y] [] pos) (TAI X G.cA E (evI K (.zip a b))) := by
  obtain ⟨rfl, hg, hm⟩ := blB_ok c P hb
  have pa := pa_cons ha (pa_cons hb2 pa_nil (star_cons hn2 [] X.env)) (star_cons hn [y] X.env)
  have rule : ∀ k1 k2, PI X (.Tuple elts kk tpos) (.Call (.Name "zip" p1) [x, y] [] pos) (iZipK k1 k2 X.K (tCons (TAE X G.cA E (evE K a)) (tCons (TAE X G.cA E (evE K b)) tNil))) := fun k1 k2 => pi_zipK hg hm pa (star_cons hn [y] X.env) (star_any (es := [y]) (by simp [hn2]) _ _)
  refine ⟨fun pins s σ H R I ⟨g, ρ, S, re, rs, p⟩ => ?_⟩
  simp only [evI] at p
  rcases Post.ofOk p with ⟨d, S', e, p1⟩ | ⟨w, S', e, p1⟩
  · rcases Post.ofOk p1 with ⟨d2, S2, e2, p2⟩ | ⟨w2, S2, e2, p2⟩
    · have p2 : Post X.K G.cA (wR X.K G.cA) g ((match seqW S2 d, seqW S2 d2 with
        | some w, some v => (pure ⟨zipL w.items v.items, w.src ++ v.src⟩ : M Wk)
        | _, _ => M.fail) S2) R E := p2
      cases ew : seqW S2 d with
      | none => rw [ew] at p2; exact p2.elim
      | some w =>
        rw [ew] at p2
        cases ew2 : seqW S2 d2 with
        | none => rw [ew2] at p2; exact p2.elim
        | some v =>
          rw [ew2] at p2
          refine (rule (kindT d) (kindT d2)).run pins s σ H R I ⟨g, ρ, S, re, rs, ?_⟩
          rw [e]
          intro g1 v1 H1 l1 rs1 r1
          refine ⟨g1, ρ, S', re.mono l1, rs1, ?_⟩
          rw [e2]
          intro g2 v2 H2 l2 rs2 r2
          obtain ⟨ad, rfl, vs, h1, h2⟩ := src_of rs2 ew (Rep.mono l2 _ _ r1)
          obtain ⟨bd, rfl, ws, h3, h4⟩ := src_of rs2 ew2 r2
          exact ⟨ad, bd, vs, ws, rfl, h1, h3, Post.hereI (p2.mono (l1.trans l2)) rs2 (iw_zip h2 h4)⟩
    · refine (rule true true).run pins s σ H R I ⟨g, ρ, S, re, rs, ?_⟩
      rw [e]
      intro g1 v1 H1 l1 rs1 r1
      refine ⟨g1, ρ, S', re.mono l1, rs1, ?_⟩
      rw [e2]
      exact Post.mono (K := X.K) (cA := G.cA) (rp := Rep X.K G.cA) (r := .ex w2 S2) l1 p2
  · refine (rule true true).run pins s σ H R I ⟨g, ρ, S, re, rs, ?_⟩
    rw [e]
    exact p1
theorem rngOk_b {i j c : Int} (h : rngOk i j c = true) : (c = 1 ∨ c = -1) ∧ -(2 ^ 62) ≤ i ∧ i < 2 ^ 62 ∧ -(2 ^ 62) ≤ j ∧ j < 2 ^ 62 := by
  unfold rngOk at h
  simp only [Bool.and_eq_true, decide_eq_true_eq] at h
  obtain ⟨⟨h0, ⟨⟨h1, h2⟩, h3⟩, h4⟩, h5⟩ := h
  exact ⟨h0, by omega, by omega, by omega, by omega⟩
theorem rngN_1 (i j : Int) : rngN i j 1 = (j - i).toNat := by
  unfold rngN
  rw [if_pos (by decide : (0 : Int) < 1), Int.ediv_one]
  omega
theorem rngN_m1 (i j : Int) : rngN i j (-1) = (i - j).toNat := by
  unfold rngN
  rw [if_neg (by decide : ¬ (0 : Int) < -1)]
  have : (-(-1) : Int) = 1 := by decide
  rw [this, Int.ediv_one]
  omega
theorem ai_rng1 (c : CtxOk G k N sc X) (P : POk G) {tg : Expr} (hb : blB G.gn sc f "range" = true) (hn : noStar x = true) (ha : PE X x (TAE X G.cA E (evE K b))) : PI X tg (.Call (.Name f p1) [x] [] pos) (TAI X G.cA E (evI K (.rng (.int 0) b 1))) := by
  obtain ⟨rfl, hg, hm⟩ := blB_ok c P hb
  refine (pi_range1 hg hm (pa_cons ha pa_nil (star_cons hn [] X.env)) (star_cons hn [] X.env)).imp fun σ H R ⟨g, ρ, S, re, rs, p⟩ => ?_
  simp only [evI, evE] at p
  have p : Post X.K G.cA (wR X.K G.cA) g ((evE K b ρ >>= fun y => match DV.int 0, y with
    | .int i, .int j => if rngOk i j 1 then (pure ⟨rngL i j 1, []⟩ : M Wk) else M.fail
    | _, _ => M.fail) S) R E := p
  refine ⟨g, ρ, S, re, rs, p.bindE fun g1 S1 d v H1 l1 rs1 r1 p => ?_⟩
  cases d <;> try (exact p.elim)
  rename_i j
  simp only [Rep] at r1
  simp only [] at p
  split at p
  · next h =>
    obtain ⟨_, _, _, h3, h4⟩ := rngOk_b h
    refine ⟨j, by rw [r1], h3, h4, ?_⟩
    have := Post.hereI p rs1 (iw_rng (i := 0) (j := j))
    rw [rngN_1] at this
    simpa using this
  · exact p.elim
theorem ai_rng2 (c : CtxOk G k N sc X) (P : POk G) {tg : Expr} (hb : blB G.gn sc f "range" = true) (hn : noStar x = true) (hn2 : noStar y = true) (ha : PE X x (TAE X G.cA E (evE K a))) (hb2 : PE X y (TAE X G.cA E (evE K b))) : PI X tg (.Call (.Name f p1) [x, y] [] pos) (TAI X G.cA E (evI K (.rng a b 1))) := by
  obtain ⟨rfl, hg, hm⟩ := blB_ok c P hb
  have s1 : starEach [x, y] X.env = [(false, eval x X.env), (false, eval y X.env)] := by rw [star_cons hn, star_cons hn2]; rfl
  have s2 : starEach [y] X.env = [(false, eval y X.env)] := by rw [star_cons hn2]; rfl
  refine (pi_range2 hg hm (pa_cons ha (pa_cons hb2 pa_nil (star_cons hn2 [] X.env)) (star_cons hn [y] X.env)) s1 s2).imp fun σ H R ⟨g, ρ, S, re, rs, p⟩ => ?_
  simp only [evI] at p
  refine ⟨g, ρ, S, re, rs, p.bindE fun g1 S1 d v H1 l1 rs1 r1 p => ?_⟩
  refine ⟨g1, ρ, S1, re.mono l1, rs1, p.bindE fun g2 S2 d2 v2 H2 l2 rs2 r2 p => ?_⟩
  obtain ⟨i, rfl⟩ : ∃ i, d = .int i := by
    cases d <;> first | exact ⟨_, rfl⟩ | exact p.elim
  obtain ⟨j, rfl⟩ : ∃ j, d2 = .int j := by
    cases d2 <;> first | exact ⟨_, rfl⟩ | exact p.elim
  simp only [Rep] at r1 r2
  simp only [] at p
  split at p
  · next h =>
    obtain ⟨_, h1, h2, h3, h4⟩ := rngOk_b h
    refine ⟨i, j, by rw [r1, r2], ⟨h1, h2, h3, h4⟩, ?_⟩
    have := Post.hereI p rs2 (iw_rng (i := i) (j := j))
    rw [rngN_1] at this
    exact this
  · exact p.elim
theorem ai_rngm (c : CtxOk G k N sc X) (P : POk G) {tg : Expr} {kk : Nat} {q1 q2 : Pos} (hb : blB G.gn sc f "range" = true) (hn : noStar x = true) (hn2 : noStar y = true) (ha : PE X x (TAE X G.cA E (evE K a))) (hb2 : PE X y (TAE X G.cA E (evE K b))) :
    PI X tg (.Call (.Name f p1) [x, y, .UnaryOp .USub (.Constant (.int 1) kk q1) q2] [] pos) (TAI X G.cA E (evI K (.rng a b (-1)))) := by
  obtain ⟨rfl, hg, hm⟩ := blB_ok c P hb
  have hm1 : PE X (.UnaryOp .USub (.Constant (.int 1) kk q1) q2) (tUn (rU fun i => .int (-i)) (tC (.int 1))) := pe_un un_neg pe_int
  refine (pi_range3 hg hm (pa_cons ha (pa_cons hb2 (pa_cons hm1 pa_nil) (star_cons hn2 _ X.env)) (star_cons hn _ X.env)) (star_cons hn _ _) (star_any (es := [y, .UnaryOp .USub (.Constant (.int 1) kk q1) q2]) (by show (noStar y && (true && true)) = true; rw [hn2]; rfl) _ _)).imp fun σ H R ⟨g, ρ, S, re, rs, p⟩ => ?_
  simp only [evI] at p
  refine ⟨g, ρ, S, re, rs, p.bindE fun g1 S1 d v H1 l1 rs1 r1 p => ?_⟩
  refine ⟨g1, ρ, S1, re.mono l1, rs1, p.bindE fun g2 S2 d2 v2 H2 l2 rs2 r2 p => ?_⟩
  obtain ⟨i, rfl⟩ : ∃ i, d = .int i := by
    cases d <;> first | exact ⟨_, rfl⟩ | exact p.elim
  obtain ⟨j, rfl⟩ : ∃ j, d2 = .int j := by
    cases d2 <;> first | exact ⟨_, rfl⟩ | exact p.elim
  simp only [Rep] at r1 r2
  simp only [] at p
  split at p
  · next h =>
    obtain ⟨_, h1, h2, h3, h4⟩ := rngOk_b h
    refine ⟨1, rfl, ⟨i, j, -1, rngN i j (-1), by rw [r1, r2], ?_, Post.hereI p rs2 iw_rngC⟩⟩
    rw [rngN_m1]
    exact RgC.neg h1 h2 h3 h4
  · exact p.elim
end
end GL
end
section
set_option Elab.async false
set_option linter.all false
set_option maxRecDepth 100000
/-! Targets. -/
namespace GL
open PySem L2 PySem.Spec PyProof.Rows
theorem each_len {es : List Expr} (h : es.all noStar = true) (env : PySem.Env) : (assignEach es env).length = es.length ∧ (assignEach es env).findIdx? (·.1) = none := by
  induction es with
  | nil => exact ⟨rfl, rfl⟩
  | cons e es ih =>
    simp only [List.all_cons, Bool.and_eq_true] at h
    obtain ⟨i1, i2⟩ := ih h.2
    have e1 : assignEach (e :: es) env = (false, assign e env) :: assignEach es env := by
      cases e <;> first | rfl | (have := h.1; unfold noStar at this; cases this)
    rw [e1]
    refine ⟨by rw [List.length_cons, i1]; rfl, ?_⟩
    rw [List.findIdx?_cons, i2]
    rfl
theorem each_map {e : Expr} {es : List Expr} (h : noStar e = true) (env : PySem.Env) : (assignEach (e :: es) env).map (·.2) = assign e env :: (assignEach es env).map (·.2) := by
  cases e <;> first | rfl | (unfold noStar at h; cases h)
section
variable {X : Cx} {cA : Nat → Addr}
def GAp (X : Cx) (cA : Nat → Addr) (f : Env → Sto → Option Env) (sl : List Nat) (g : Gh) (S : Sto) (ρ : Env) (σ : L2.St) (H : Hp) (Q : L2.St → Hp → Prop) : Prop :=
  ∃ ρ', f ρ S = some ρ' ∧ ∀ σ', RelE X.K cA g ρ' σ' → (∀ i, i ∉ sl → σ'[i]? = σ[i]?) → σ'.length = σ.length → Q σ' H
def gA (X : Cx) (cA : Nat → Addr) (t : CT) : TG := fun v σ H Q => ∃ g S d ρ, RelE X.K cA g ρ σ ∧ RelS X.K cA g S H ∧ Rep X.K cA g d v ∧ GAp X cA (asg t d) (tslots t) g S ρ σ H Q
def gAs (X : Cx) (cA : Nat → Addr) (ts : List CT) : TGs := fun vs σ H Q => ∃ g S ds ρ, RelE X.K cA g ρ σ ∧ RelS X.K cA g S H ∧ Reps X.K cA g ds vs ∧ GAp X cA (asg.asgs ts ds) (tslots.tslotsL ts) g S ρ σ H Q
theorem RelE.set {g : Gh} {ρ : Env} {σ : L2.St} {i : Nat} {d : DV} {v : V} (re : RelE X.K cA g ρ σ) (hi : i < ρ.length) (r : Rep X.K cA g d v) : RelE X.K cA g (ρ.set i (.val d)) (σ.set i (some v)) := by
  refine ⟨by rw [List.length_set, List.length_set]; exact re.len, fun j d' e => ?_, fun j o e => ?_⟩
  · by_cases h : i = j
    · subst h
      rw [List.getElem?_set_self hi] at e
      cases e
      exact ⟨v, by rw [List.getElem?_set_self (by rw [← re.len]; exact hi)], r⟩
    · rw [List.getElem?_set_ne h] at e ⊢
      exact re.val j d' e
  · by_cases h : i = j
    · subst h
      rw [List.getElem?_set_self hi] at e
      cases e
    · rw [List.getElem?_set_ne h] at e
      obtain ⟨a, hh, h1, h2, h3⟩ := re.own j o e
      exact ⟨a, hh, by rw [List.getElem?_set_ne h]; exact h1, h2, h3⟩
variable {N : List Str} {lf : Str → Bool}
mutual
theorem pg_ok (hN : X.N = N) (nd : X.N.Nodup) (hc : X.calm = true) (hl : ∀ x, lf x = true → L2.Loc X.env.scope x ∧ (X.fn x = true ∨ X.env.scope.names.lookup x = some .local)) : ∀ (t : CT) (e : Expr), mtT N lf t e = true → PG X e (gA X cA t)
  | .nm i, e, h => by
    cases e with
    | Name x pos =>
      simp only [mtT, Bool.and_eq_true, decide_eq_true_eq] at h
      obtain ⟨h1, h2⟩ := hl x h.2
      refine ⟨fun pins s σ H v u Q I r ⟨g, S, d, ρ, re, rs, rd, ρ', e1, q⟩ => ?_⟩
      simp only [asg] at e1
      split at e1
      · next hi =>
        cases e1
        refine (pg_name nd (by rw [hN]; exact h.1) h1 h2).run pins s σ H v u Q I r ?_
        refine q _ (re.set hi rd) (fun j hj => ?_) (List.length_set ..)
        rw [List.getElem?_set_ne (fun z => hj (by rw [← z]; simp [tslots]))]
      · cases e1
    | _ => simp [mtT] at h
  | .tp ts, e, h => by
    cases e with
    | Tuple es kk pos =>
      simp only [mtT] at h
      have hn : es.all noStar = true := by
        have : ∀ (ts : List CT) (es : List Expr), mtTs N lf ts es = true → es.all noStar = true := by
          intro ts
          induction ts with
          | nil => intro es h; cases es with
            | nil => rfl
            | cons _ _ => simp [mtTs] at h
          | cons t ts ih => intro es h; cases es with
            | nil => rfl
            | cons e es =>
              simp only [mtTs, Bool.and_eq_true] at h
              simp only [List.all_cons, Bool.and_eq_true]
              exact ⟨h.1.1, ih es h.2⟩
        exact this ts es h
      have hes := pgs_ok hN nd hc hl ts es h
      obtain ⟨k1, k2⟩ := each_len hn X.env
      refine ⟨fun pins s σ H v u Q I r ⟨g, S, d, ρ, re, rs, rd, ρ', e1, q⟩ => ?_⟩
      simp only [asg] at e1
      cases es1 : seqOf S d with
      | none => rw [es1] at e1; cases e1
      | some xs =>
        rw [es1] at e1
        obtain ⟨a, vs, rfl, hq, rr⟩ := seqOf_ok rs es1 rd
        have hlen : vs.length = es.length := by
          have : ∀ (ts : List CT) (es : List Expr) (xs : List DV) (ρ ρ' : Env), mtTs N lf ts es = true → asg.asgs ts xs ρ S = some ρ' → xs.length = es.length := by
            intro ts
            induction ts with
            | nil => intro es xs ρ ρ' h e; cases es with
              | nil => cases xs with
                | nil => rfl
                | cons _ _ => simp [asg.asgs] at e
              | cons _ _ => simp [mtTs] at h
            | cons t ts ih => intro es xs ρ ρ' h e; cases es with
              | nil => simp [mtTs] at h
              | cons _ es => cases xs with
                | nil => simp [asg.asgs] at e
                | cons x xs =>
                  simp only [mtTs, Bool.and_eq_true] at h
                  simp only [asg.asgs] at e
                  cases e2 : asg t x ρ S with
                  | none => rw [e2] at e; cases e
                  | some ρ1 =>
                    rw [e2] at e
                    simp only [List.length_cons]
                    rw [ih es xs ρ1 ρ' h.2 e]
          rw [← rr.length]
          exact this ts es xs ρ ρ' h e1
        have tl : gAs X cA ts vs σ H Q := ⟨g, S, xs, ρ, re, rs, rr, ρ', e1, by simpa only [tslots] using q⟩
        rcases hq with hq | hq
        · exact (pg_unl hc hes (n := es.length) k1 k2).run pins s σ H (.ref a) u Q I r ⟨a, vs, rfl, hq, hlen, tl⟩
        · exact (pg_tup hc hes (n := es.length) k1 k2).run pins s σ H (.ref a) u Q I r ⟨a, vs, rfl, hq, hlen, tl⟩
    | _ => simp [mtT] at h
theorem pgs_ok (hN : X.N = N) (nd : X.N.Nodup) (hc : X.calm = true) (hl : ∀ x, lf x = true → L2.Loc X.env.scope x ∧ (X.fn x = true ∨ X.env.scope.names.lookup x = some .local)) : ∀ (ts : List CT) (es : List Expr), mtTs N lf ts es = true → PGs X es (gAs X cA ts)
  | [], es, h => by
    cases es with
    | nil =>
      refine ⟨fun pins s σ H vs us Q I r ⟨g, S, ds, ρ, re, rs, rr, ρ', e1, q⟩ => ?_⟩
      cases ds with
      | nil =>
        simp only [asg.asgs] at e1
        cases e1
        simp only [Reps] at rr
        subst rr
        exact pgs_nil.run pins s σ H [] us Q I r ⟨rfl, q σ re (fun _ _ => rfl) rfl⟩
      | cons _ _ => simp [asg.asgs] at e1
    | cons _ _ => simp [mtTs] at h
  | t :: ts, es, h => by
    cases es with
    | nil => simp [mtTs] at h
    | cons e es =>
      simp only [mtTs, Bool.and_eq_true] at h
      have h1 := pg_ok hN nd hc hl t e h.1.2
      have h2 := pgs_ok hN nd hc hl ts es h.2
      refine ⟨fun pins s σ H vs us Q I r ⟨g, S, ds, ρ, re, rs, rr, ρ', e1, q⟩ => ?_⟩
      refine (pgs_cons h1 h2 (each_map h.1.1 _)).run pins s σ H vs us Q I r ?_
      cases ds with
      | nil => simp [asg.asgs] at e1
      | cons d ds =>
        simp only [Reps] at rr
        obtain ⟨v, vs', rfl, r1, r2⟩ := rr
        simp only [asg.asgs] at e1
        cases e2 : asg t d ρ S with
        | none => rw [e2] at e1; cases e1
        | some ρ1 =>
          rw [e2] at e1
          refine ⟨v, vs', rfl, g, S, d, ρ, re, rs, r1, ρ1, e2, fun σ1 re1 k1 l1 => ?_⟩
          refine ⟨g, S, ds, ρ1, re1, rs, r2, ρ', e1, fun σ2 re2 k2 l2 => q σ2 re2 (fun i hi => ?_) (l2.trans l1)⟩
          simp only [tslots.tslotsL, List.mem_append, not_or] at hi
          rw [k2 i hi.2, k1 i hi.1]
end
end
end GL
end
section
set_option Elab.async false
set_option linter.all false
set_option maxRecDepth 100000
/-! Comprehensions, run. -/
namespace GL
open PySem L2 PySem.Spec PyProof.Rows
theorem upd_self {H : Hp} {a : Addr} {o : HO} (h : H a = some o) : upd H a o = H := by
  funext b
  unfold upd
  by_cases e : b = a
  · rw [if_pos e, e, h]
  · rw [if_neg e]
theorem upd_upd {H : Hp} {a : Addr} {o o' : HO} : upd (upd H a o) a o' = upd H a o' := by
  funext b
  unfold upd
  by_cases e : b = a
  · rw [if_pos e, if_pos e]
  · rw [if_neg e, if_neg e, if_neg e]
section
variable {X : Cx} {cA : Nat → Addr} {α : Type}
/-- the owned part has the object at D besides -/
structure LeD (D : Addr) (o : HO) (g g' : Gh) : Prop where
  F : LeF g g'
  R : g'.R = upd g.R D o
theorem LeD.trans {D : Addr} {o o' : HO} {g g1 g2 : Gh} (a : LeD D o g g1) (b : LeD D o' g1 g2) : LeD D o' g g2 := ⟨a.F.trans b.F, by rw [b.R, a.R, upd_upd]⟩
theorem LeD.le {D : Addr} {o : HO} {g g1 g2 : Gh} (a : LeD D o g g1) (b : Le g1 g2) : LeD D o g g2 := ⟨a.F.trans (.of b), by rw [b.R, a.R]⟩
def PostC (K : PySem.W.Frag) (cA : Nat → Addr) (D : Addr) (ov : α → OV) (g : Gh) (r : Rs α) (Nx : Hp → Prop) : Prop := match r with
  | .ok acc S' => ∀ g' H' o', LeD D o' g g' → RelS K cA g' S' H' → OvR K cA g' (ov acc) o' → Nx H'
  | _ => False
theorem PostC.mono {K : PySem.W.Frag} {D : Addr} {ov : α → OV} {g g1 : Gh} {r : Rs α} {Nx : Hp → Prop} {o : HO} (l : LeD D o g g1) (h : PostC K cA D ov g r Nx) : PostC K cA D ov g1 r Nx := by
  cases r with
  | ok a S' => exact fun g' H' o' l' => h g' H' o' (l.trans l')
  | ex x S' => exact h
  | bad => exact h
/-- own slots are elsewhere -/
def OwnNe (D : Addr) (ρ : Env) (σ : L2.St) : Prop := ∀ (i : Nat) o a, ρ[i]? = some (.own o) → σ[i]? = some (some (.ref a)) → a ≠ D
theorem RelE.move {K : PySem.W.Frag} {D : Addr} {o : HO} {g g' : Gh} {ρ : Env} {σ : L2.St} (re : RelE K cA g ρ σ) (ne : OwnNe D ρ σ) (l : LeD D o g g') : RelE K cA g' ρ σ :=
  ⟨re.len, fun i d e => let ⟨v, h1, h2⟩ := re.val i d e; ⟨v, h1, Rep.monoF l.F _ _ h2⟩, fun i u e => by
    obtain ⟨a, h, h1, h2, h3⟩ := re.own i u e
    refine ⟨a, h, h1, ?_, h3.monoF l.F⟩
    rw [l.R, upd_ne (ne i u a e h1)]
    exact h2⟩
theorem wipeE_len : ∀ {vs : List Nat} {ρ : Env}, (wipeE ρ vs).length = ρ.length
  | [], _ => rfl
  | v :: vs, ρ => by unfold wipeE; rw [List.length_set, wipeE_len]
theorem wipeE_get {ρ : Env} {i : Nat} {s : Slot} (hs : s ≠ .no) : ∀ {vs : List Nat}, (wipeE ρ vs)[i]? = some s → ρ[i]? = some s ∧ i ∉ vs
  | [], h => ⟨h, by simp⟩
  | v :: vs, h => by
    unfold wipeE at h
    by_cases e : v = i
    · subst e
      by_cases hv : v < (wipeE ρ vs).length
      · rw [List.getElem?_set_self hv] at h; cases h; exact absurd rfl hs
      · rw [List.getElem?_eq_none (by simpa using hv)] at h; cases h
    · rw [List.getElem?_set_ne e] at h
      obtain ⟨h1, h2⟩ := wipeE_get hs h
      exact ⟨h1, by simp only [List.mem_cons, not_or]; exact ⟨fun z => e z.symm, h2⟩⟩
theorem RelE.wipe {K : PySem.W.Frag} {g : Gh} {ρ : Env} {σ : L2.St} (re : RelE K cA g ρ σ) (vs : List Nat) : RelE K cA g (wipeE ρ vs) (L2.wipe σ vs) := by
  refine ⟨by rw [wipeE_len, wipe_length]; exact re.len, fun i d e => ?_, fun i o e => ?_⟩
  · obtain ⟨h1, h2⟩ := wipeE_get (s := .val d) (fun z => by cases z) e
    obtain ⟨v, k1, k2⟩ := re.val i d h1
    exact ⟨v, by rw [wipe_out h2]; exact k1, k2⟩
  · obtain ⟨h1, h2⟩ := wipeE_get (s := .own o) (fun z => by cases z) e
    obtain ⟨a, h, k1, k2⟩ := re.own i o h1
    exact ⟨a, h, by rw [wipe_out h2]; exact k1, k2⟩
theorem OwnNe.wipe {D : Addr} {ρ : Env} {σ : L2.St} (ne : OwnNe D ρ σ) (vs : List Nat) : OwnNe D (wipeE ρ vs) (L2.wipe σ vs) := fun i o a e1 e2 => by
  obtain ⟨h1, h2⟩ := wipeE_get (s := .own o) (fun z => by cases z) e1
  exact ne i o a h1 (by rw [← wipe_out h2]; exact e2)
theorem OwnNe.keep {D : Addr} {ρ ρ' : Env} {σ σ' : L2.St} {sl : List Nat} (ne : OwnNe D ρ σ) (h1 : ∀ (i : Nat) o, ρ'[i]? = some (.own o) → ρ[i]? = some (.own o) ∧ i ∉ sl) (h2 : ∀ i, i ∉ sl → σ'[i]? = σ[i]?) : OwnNe D ρ' σ' := fun i o a e1 e2 => by
  obtain ⟨k1, k2⟩ := h1 i o e1
  exact ne i o a k1 (by rw [← h2 i k2]; exact e2)
/-- a store of a target leaves no own slot that was not -/
theorem set_own {ρ : Env} {j : Nat} {d : DV} {i : Nat} {o : OV} (e : (ρ.set j (.val d))[i]? = some (.own o)) : ρ[i]? = some (.own o) ∧ i ≠ j := by
  by_cases h : j = i
  · subst h
    by_cases hj : j < ρ.length
    · rw [List.getElem?_set_self hj] at e; cases e
    · rw [List.getElem?_eq_none (by simpa using hj)] at e; cases e
  · rw [List.getElem?_set_ne h] at e
    exact ⟨e, fun z => h z.symm⟩
mutual
theorem asg_own {S : Sto} : ∀ (t : CT) (d : DV) (ρ ρ' : Env), asg t d ρ S = some ρ' → ∀ (i : Nat) o, ρ'[i]? = some (.own o) → ρ[i]? = some (.own o) ∧ i ∉ tslots t
  | .nm j, d, ρ, ρ', h, i, o, e => by
    simp only [asg] at h
    split at h
    · cases h
      obtain ⟨h1, h2⟩ := set_own e
      exact ⟨h1, by simp only [tslots, List.mem_singleton]; exact h2⟩
    · cases h
  | .tp ts, d, ρ, ρ', h, i, o, e => by
    simp only [asg] at h
    cases q : seqOf S d with
    | none => rw [q] at h; cases h
    | some xs =>
      rw [q] at h
      simp only [tslots]
      exact asgs_own ts xs ρ ρ' h i o e
theorem asgs_own {S : Sto} : ∀ (ts : List CT) (xs : List DV) (ρ ρ' : Env), asg.asgs ts xs ρ S = some ρ' → ∀ (i : Nat) o, ρ'[i]? = some (.own o) → ρ[i]? = some (.own o) ∧ i ∉ tslots.tslotsL ts
  | [], xs, ρ, ρ', h, i, o, e => by
    cases xs with
    | nil => simp only [asg.asgs] at h; cases h; exact ⟨e, by simp [tslots.tslotsL]⟩
    | cons _ _ => simp [asg.asgs] at h
  | t :: ts, xs, ρ, ρ', h, i, o, e => by
    cases xs with
    | nil => simp [asg.asgs] at h
    | cons x xs =>
      simp only [asg.asgs] at h
      cases q : asg t x ρ S with
      | none => rw [q] at h; cases h
      | some ρ1 =>
        rw [q] at h
        obtain ⟨h1, h2⟩ := asgs_own ts xs ρ1 ρ' h i o e
        obtain ⟨h3, h4⟩ := asg_own t x ρ ρ1 q i o h1
        exact ⟨h3, by simp only [tslots.tslotsL, List.mem_append, not_or]; exact ⟨h4, h2⟩⟩
end
theorem wipe_set (σ : L2.St) : ∀ {vs : List Nat} {i : Nat}, i ∈ vs → (L2.wipe σ vs)[i]? = if i < σ.length then some none else none
  | v :: vs, i, h => by
    unfold L2.wipe
    by_cases e : v = i
    · subst e
      by_cases hv : v < σ.length
      · rw [List.getElem?_set_self (by rw [wipe_length]; exact hv), if_pos hv]
      · rw [List.getElem?_eq_none (by rw [List.length_set, wipe_length]; omega), if_neg hv]
    · rw [List.getElem?_set_ne e]
      rcases List.mem_cons.mp h with z | z
      · exact absurd z.symm e
      · exact wipe_set σ z
theorem wipe_same {σ σ' : L2.St} {vs sl : List Nat} (h : ∀ i, i ∉ sl → σ'[i]? = (L2.wipe σ vs)[i]?) (hl : σ'.length = (L2.wipe σ vs).length) (hs : ∀ i ∈ sl, i ∈ vs) : L2.wipe σ' vs = L2.wipe σ vs := by
  refine List.ext_getElem? fun i => ?_
  have hl' : σ'.length = σ.length := by rw [hl, wipe_length]
  by_cases hi : i ∈ vs
  · rw [wipe_set σ' hi, wipe_set σ hi, hl']
  · rw [wipe_out hi, h i fun z => hi (hs i z)]
def TAC (X : Cx) (cA : Nat → Addr) (D : Addr) (ov : α → OV) (m : Env → α → M α) : TC := fun σ H Nx => ∃ g ρ S acc o, RelE X.K cA g ρ σ ∧ OwnNe D ρ σ ∧ RelS X.K cA g S H ∧ g.R D = some o ∧ OvR X.K cA g (ov acc) o ∧ PostC X.K cA D ov g (m ρ acc S) Nx
/-- one turn's tests, then the clauses behind -/
def body (K : Cl) (c : CEs) (F' : Env → α → M α) : Env → α → M α := fun ρ' a => evC K c ρ' >>= fun k => if k then F' ρ' a else pure a
/-- the loop, from the i-th item on -/
theorem loop_sem {K : Cl} {t : CT} {c : CEs} {F' : Env → α → M α} {ov : α → OV} {D : Addr} {w : Wk} {J : It} {g0 : Gh} {ρ : Env} {σ : L2.St} {vs : List Nat} {Fin : Hp → Prop} {rest : L2.St → Hp → (Hp → Prop) → Prop}
    (iw : IWalk X.K cA g0 w J) (re : RelE X.K cA g0 ρ σ) (ne : OwnNe D ρ σ) (hs : ∀ i ∈ tslots t, i ∈ vs) (hR : ∃ o, g0.R D = some o)
    (hrest : ∀ σ H Nx, TAC X cA D ov F' σ H Nx → rest σ H Nx) {H1 : Hp} {S1 : Sto} {acc : α} {o : HO} {g1 : Gh} (l1 : LeD D o g0 g1) (rs1 : RelS X.K cA g1 S1 H1) (ho : OvR X.K cA g1 (ov acc) o)
    (p : PostC X.K cA D ov g1 (lcLoop t w (body K c F') w.items (wipeE ρ vs) acc S1) Fin) :
    ∃ W : Nat → Nat → Hp → Prop, (∃ m, W 0 m H1) ∧ ∀ i m H, W i m H →
      (J.stop i H ∧ Fin H) ∨ (J.go i H ∧ ∃ Nx1 : Hp → Prop, (∀ H', Nx1 H' → ∃ m', m' < m ∧ W (i + 1) m' H') ∧ ∀ x H', J.yld i H x H' → gA X cA t x (L2.wipe σ vs) H' fun σ2 H2 => L2.wipe σ2 vs = L2.wipe σ vs ∧ TAT X cA pF (fun ρ => evC K c ρ) σ2 H2 fun b H3 =>
        if b = true then rest σ2 H3 Nx1 else Nx1 H3) := by
  let W : Nat → Nat → Hp → Prop := fun i m H => m = w.items.length - i ∧ i ≤ w.items.length ∧ ∃ gi Si acci oi, LeD D oi g0 gi ∧ RelS X.K cA gi Si H ∧ OvR X.K cA gi (ov acci) oi ∧
    PostC X.K cA D ov gi (lcLoop t w (body K c F') (w.items.drop i) (wipeE ρ vs) acci Si) Fin
  refine ⟨W, ⟨w.items.length, by simp, Nat.zero_le _, g1, S1, acc, o, l1, rs1, ho, p⟩, ?_⟩
  rintro i m H ⟨rfl, hi, gi, Si, acci, oi, li, rsi, hoi, pi⟩
  by_cases hlt : i < w.items.length
  · have hx : w.items[i]? = some w.items[i] := List.getElem?_eq_getElem hlt
    rw [List.drop_eq_getElem_cons hlt] at pi
    simp only [lcLoop] at pi
    split at pi
    · next hst =>
      obtain ⟨go, yl⟩ := (iw i gi Si H li.F rsi hst).1 _ hx
      cases ea : asg t w.items[i] (wipeE ρ vs) Si with
      | none => rw [ea] at pi; exact pi.elim
      | some ρ' =>
        rw [ea] at pi
        simp only [] at pi
        refine .inr ⟨go, W (i + 1) (w.items.length - (i + 1)), fun H' h => ⟨_, by omega, h⟩, fun x' H' y => ?_⟩
        obtain ⟨g2, l2, rs2, rd⟩ := yl x' H' y
        have lD2 : LeD D oi g0 g2 := li.le l2
        have reB := (re.wipe vs).move (ne.wipe vs) lD2
        refine ⟨g2, Si, w.items[i], wipeE ρ vs, reB, rs2, rd, ρ', ea, fun σ2 re2 k2 len2 => ⟨wipe_same k2 len2 hs, ?_⟩⟩
        have neB : OwnNe D ρ' σ2 := (ne.wipe vs).keep (asg_own t _ _ _ ea) k2
        refine ⟨g2, ρ', Si, re2, rs2, ?_⟩
        have pi : PostC X.K cA D ov gi (((evC K c ρ' >>= fun k => if k then F' ρ' acci else pure acci) >>= fun acc' => lcLoop t w (body K c F') (w.items.drop (i + 1)) (wipeE ρ vs) acc') Si) Fin := pi
        rw [M.assoc] at pi
        show Post X.K cA eqR g2 (evC K c ρ' Si) _ pF
        have toN : ∀ {g3 : Gh} {S3 : Sto} {H3 : Hp} {acc3 : α} {o3 : HO}, LeD D o3 gi g3 → RelS X.K cA g3 S3 H3 → OvR X.K cA g3 (ov acc3) o3 → PostC X.K cA D ov gi (lcLoop t w (body K c F') (w.items.drop (i + 1)) (wipeE ρ vs) acc3 S3) Fin → W (i + 1) (w.items.length - (i + 1)) H3 :=
          fun {g3 S3 H3 acc3 o3} l3 rs3 ho3 p3 => ⟨rfl, hlt, g3, S3, acc3, o3, li.trans l3, rs3, ho3, p3.mono l3⟩
        have liR : gi.R D = some oi := by rw [li.R, upd_same]
        have lii : LeD D oi gi g2 := ⟨.of l2, by rw [l2.R, upd_self liR]⟩
        cases ec : evC K c ρ' Si with
        | bad => rw [M.bind_bad ec] at pi; exact pi.elim
        | ex z S3 => rw [M.bind_ex ec] at pi; exact pi.elim
        | ok k S3 =>
          rw [M.bind_ok ec] at pi
          intro g3 b H3 l3 rs3 eb
          have eb : k = b := eb
          subst eb
          have l3D : LeD D oi gi g3 := lii.le l3
          cases k with
          | false => exact toN l3D rs3 (hoi.monoF l3D.F) pi
          | true =>
            have pi : PostC X.K cA D ov gi ((F' ρ' acci >>= fun acc' => lcLoop t w (body K c F') (w.items.drop (i + 1)) (wipeE ρ vs) acc') S3) Fin := pi
            refine hrest _ _ _ ⟨g3, ρ', S3, acci, oi, re2.mono l3, neB, rs3, by rw [l3D.R, upd_same], hoi.monoF l3D.F, ?_⟩
            cases ef : F' ρ' acci S3 with
            | bad => rw [M.bind_bad ef] at pi; exact pi.elim
            | ex z S4 => rw [M.bind_ex ef] at pi; exact pi.elim
            | ok acc4 S4 =>
              rw [M.bind_ok ef] at pi
              intro g4 H4 o4 l4 rs4 ho4
              exact toN (l3D.trans l4) rs4 ho4 pi
    · exact pi.elim
  · have ei : i = w.items.length := by omega
    subst ei
    rw [List.drop_eq_nil_of_le (Nat.le_refl _)] at pi
    simp only [lcLoop] at pi
    split at pi
    · next hst =>
      have liR : gi.R D = some oi := by rw [li.R, upd_same]
      exact .inl ⟨(iw _ gi Si H li.F rsi hst).2 rfl, pi gi H oi ⟨LeF.rfl', (upd_self liR).symm⟩ rsi hoi⟩
    · exact pi.elim
end
end GL
end
section
set_option Elab.async false
set_option linter.all false
set_option maxRecDepth 100000
/-! Comprehensions: from the clauses to the value. -/
namespace GL
open PySem L2 PySem.Spec PyProof.Rows
theorem PCl.imp {Y : Cx} {c : CK} {gens : List Comprehension} {scope : Scope} {pos : Pos} {d : Nat} {D : Addr} {vs : List Nat} {t t' : TC} (h : PCl Y c gens scope pos d D vs t) (i : ∀ σ H Q, t' σ H Q → t σ H Q) : PCl Y c gens scope pos d D vs t' :=
  ⟨fun pins s σ H N Nx I q => h.run pins s σ H N Nx I (i _ _ _ q)⟩
section
variable {X : Cx} {cA : Nat → Addr} {α : Type} {K : Cl} {ck : CK} {all : List Comprehension} {scope : Scope} {pos : Pos} {d : Nat} {D : Addr} {vs vs' : List Nat} {tg it : Expr} {ifs : List Expr} {t : CT} {i : CI} {c : CEs} {F' : Env → α → M α} {ov : α → OV}
theorem clause_step (h1 : all[d]? = some ⟨tg, it, ifs, 0⟩) (hz : ∀ g ∈ all, g.is_async = 0) (hs : ∀ g ∈ all, ∀ (env : PySem.Env) x, foldedSetIterable g.iter env x = pure x) (hxe : X.xe = fun _ _ => False) (hc : X.calm = true)
    (hi : PI X tg it (TAI X cA pF (evI K i))) (hg : PG X tg (gA X cA t)) (ht : PTs X ifs (TAT X cA pF (fun ρ => evC K c ρ))) (hr : PCl X ck all scope pos (d + 1) D vs' (TAC X cA D ov F')) (hv : ∀ i ∈ vs', i ∈ vs) (hsl : ∀ i ∈ tslots t, i ∈ vs) :
    PCl X ck all scope pos d D vs (TAC X cA D ov (fun ρ acc => evI K i ρ >>= fun w => lcLoop t w (body K c F') w.items (wipeE ρ vs) acc)) := by
  refine (pcl_clause h1 hz hs hxe hc hi hg ht hr hv).imp fun σ H Nx ⟨g, ρ, S, acc, o, re, ne, rs, hD, ho, p⟩ => ?_
  refine ⟨g, ρ, S, re, rs, ?_⟩
  have p : PostC X.K cA D ov g ((evI K i ρ >>= fun w => lcLoop t w (body K c F') w.items (wipeE ρ vs) acc) S) Nx := p
  cases e : evI K i ρ S with
  | bad => rw [M.bind_bad e] at p; exact p.elim
  | ex z S1 => rw [M.bind_ex e] at p; exact p.elim
  | ok w S1 =>
    rw [M.bind_ok e] at p
    intro g1 J H1 l1 rs1 iw
    have lD : LeD D o g g1 := ⟨.of l1, by rw [l1.R, upd_self hD]⟩
    have lD1 : LeD D o g1 g1 := ⟨LeF.rfl', by rw [upd_self (by rw [l1.R]; exact hD)]⟩
    exact loop_sem iw (re.mono l1) ne hsl ⟨o, by rw [l1.R]; exact hD⟩ (fun _ _ _ h => h) lD1 rs1 (ho.monoF lD.F) (p.mono lD)
theorem top_sem {σ : L2.St} {H : Hp} {Q : VK} {g : Gh} {ρ : Env} {S SF : Sto} {acc0 accF : α} (re : RelE X.K cA g ρ σ) (rs : RelS X.K cA g S H) (hsl : ∀ i ∈ tslots t, i ∈ vs)
    (m0 : (evI K i ρ >>= fun w => lcLoop t w (body K c F') w.items (wipeE ρ vs) acc0) S = .ok accF SF) (ho0 : ∀ g, OvR X.K cA g (ov acc0) ck.o0)
    (hQ : ∀ D g' H' o', LeD D o' g g' → g.R D = none → RelS X.K cA g' SF H' → OvR X.K cA g' (ov accF) o' → Q (.ref D) H') :
    tTop (TAI X cA pF (evI K i)) (gA X cA t) (TAT X cA pF (fun ρ => evC K c ρ)) (fun D => TAC X cA D ov F') vs ck.o0 σ H Q := by
  refine ⟨g, ρ, S, re, rs, ?_⟩
  cases e : evI K i ρ S with
  | bad => rw [M.bind_bad e] at m0; cases m0
  | ex z S1 => rw [M.bind_ex e] at m0; cases m0
  | ok w S1 =>
    rw [M.bind_ok e] at m0
    intro g1 J H1 l1 rs1 iw D hD
    have nR : g1.R D = none := rs1.noR hD
    have nF : g1.F D = none := rs1.noF hD
    let g0 : Gh := { g1 with R := upd g1.R D ck.o0 }
    have rs0 : RelS X.K cA g0 S1 (upd H1 D ck.o0) := by
      refine ⟨fun a o h => ?_, fun a o h => ?_, fun a o h => ?_, rs1.len, fun n o h => ?_, rs1.inj⟩
      · rw [upd_ne (ne_of_none (rs1.hF _ _ h) hD)]; exact rs1.hF _ _ h
      · by_cases q : a = D
        · subst q
          have h : upd g1.R a ck.o0 a = some o := h
          rw [upd_same] at h ⊢; exact h
        · have h : upd g1.R D ck.o0 a = some o := h
          rw [upd_ne q] at h ⊢; exact rs1.hR _ _ h
      · show upd g1.R D ck.o0 a = none
        rw [upd_ne (fun z => by rw [z, nF] at h; cases h)]
        exact rs1.dis _ _ h
      · obtain ⟨a, h', k1, k2, k3, k4, k5⟩ := rs1.st n o h
        have q : a ≠ D := ne_of_none k2 hD
        exact ⟨a, h', k1, by rw [upd_ne q]; exact k2, OvR.monoF (g := g1) (g' := g0) ⟨fun _ _ z => z, fun _ _ z => z⟩ k3, k4, by show upd g1.R D ck.o0 a = none; rw [upd_ne q]; exact k5⟩
    have ne : OwnNe D ρ σ := fun j o a e1 e2 => by
      obtain ⟨a', h', k1, k2, _⟩ := re.own j o e1
      rw [e2] at k1
      cases k1
      exact ne_of_none (rs1.hR _ _ (by rw [l1.R]; exact k2)) hD
    have lD0 : LeD D ck.o0 g1 g0 := ⟨⟨fun _ _ z => z, fun _ _ z => z⟩, rfl⟩
    have re0 : RelE X.K cA g0 ρ σ := (re.mono l1).move ne lD0
    have iw0 : IWalk X.K cA g0 w J := fun j g' S' H' l' => iw j g' S' H' ⟨fun a o z => l'.F _ _ z, fun n a z => l'.π _ _ z⟩
    have lD00 : LeD D ck.o0 g0 g0 := ⟨LeF.rfl', by show g0.R = upd (upd g1.R D ck.o0) D ck.o0; rw [upd_upd]⟩
    refine loop_sem iw0 re0 ne hsl ⟨ck.o0, upd_same⟩ (fun _ _ _ h => h) lD00 rs0 (ho0 g0) ?_
    rw [m0]
    intro g' H' o' lD' rs' ho'
    refine hQ D g' H' o' ⟨⟨fun a o z => lD'.F.F _ _ (l1.F _ _ z), fun n a z => lD'.F.π _ _ (l1.π _ _ z)⟩, ?_⟩ (by rw [← l1.R]; exact nR) rs' ho'
    rw [lD'.R]
    show upd (upd g1.R D ck.o0) D o' = _
    rw [upd_upd, l1.R]
/-- what was owned stays for good -/
theorem RelS.freeze {K : PySem.W.Frag} {D : Addr} {g g' : Gh} {S : Sto} {H : Hp} {o : HO} (l : LeD D o g g') (hn : g.R D = none) (rs : RelS K cA g' S H) : Le g ⟨upd g'.F D o, g'.π, g.R⟩ ∧ RelS K cA ⟨upd g'.F D o, g'.π, g.R⟩ S H := by
  have rD : g'.R D = some o := by rw [l.R, upd_same]
  have fD : g'.F D = none := by
    cases q : g'.F D with
    | none => rfl
    | some u => rw [rs.dis _ _ q] at rD; cases rD
  have up : ∀ a u, g'.F a = some u → upd g'.F D o a = some u := fun a u h => by rw [upd_ne (fun z => by rw [z, fD] at h; cases h)]; exact h
  refine ⟨⟨fun a u h => up _ _ (l.F.F _ _ h), fun n a h => l.F.π _ _ h, rfl⟩, ⟨fun a u h => ?_, fun a u h => ?_, fun a u h => ?_, rs.len, fun n u h => ?_, rs.inj⟩⟩
  · by_cases q : a = D
    · subst q
      have h : upd g'.F a o a = some u := h
      rw [upd_same] at h; cases h
      exact rs.hR _ _ rD
    · have h : upd g'.F D o a = some u := h
      rw [upd_ne q] at h; exact rs.hF _ _ h
  · have q : a ≠ D := fun z => by rw [z, hn] at h; cases h
    exact rs.hR _ _ (by rw [l.R, upd_ne q]; exact h)
  · by_cases q : a = D
    · rw [q]; exact hn
    · have h : upd g'.F D o a = some u := h
      rw [upd_ne q] at h
      have := rs.dis _ _ h
      rw [l.R, upd_ne q] at this
      exact this
  · obtain ⟨a, h', k1, k2, k3, k4, k5⟩ := rs.st n u h
    have q : a ≠ D := fun z => by rw [z, rD] at k5; cases k5
    exact ⟨a, h', k1, k2, OvR.monoF (g := g') (g' := ⟨upd g'.F D o, g'.π, g.R⟩) ⟨up, fun _ _ z => z⟩ k3, by show upd g'.F D o a = none; rw [upd_ne q]; exact k4, by rw [l.R, upd_ne q] at k5; exact k5⟩
/-- .. or is handed on as new -/
def unupd (H : Hp) (D : Addr) : Hp := fun b => if b = D then none else H b
theorem unupd_upd {H : Hp} {D : Addr} {o : HO} (h : H D = some o) : upd (unupd H D) D o = H := by
  funext b
  unfold upd unupd
  by_cases e : b = D
  · rw [if_pos e, e, h]
  · rw [if_neg e, if_neg e]
theorem RelS.out {K : PySem.W.Frag} {D : Addr} {g g' : Gh} {S : Sto} {H : Hp} {o : HO} (l : LeD D o g g') (hn : g.R D = none) (rs : RelS K cA g' S H) : Le g ⟨g'.F, g'.π, g.R⟩ ∧ RelS K cA ⟨g'.F, g'.π, g.R⟩ S (unupd H D) ∧ H D = some o := by
  have rD : g'.R D = some o := by rw [l.R, upd_same]
  have fD : g'.F D = none := by
    cases q : g'.F D with
    | none => rfl
    | some u => rw [rs.dis _ _ q] at rD; cases rD
  have un : ∀ a, a ≠ D → unupd H D a = H a := fun a h => by unfold unupd; rw [if_neg h]
  refine ⟨⟨fun a u h => l.F.F _ _ h, fun n a h => l.F.π _ _ h, rfl⟩, ⟨fun a u h => ?_, fun a u h => ?_, fun a u h => ?_, rs.len, fun n u h => ?_, rs.inj⟩, rs.hR _ _ rD⟩
  · have q : a ≠ D := fun z => by rw [z] at h; have h : g'.F D = some u := h; rw [fD] at h; cases h
    rw [un a q]; exact rs.hF _ _ h
  · have q : a ≠ D := fun z => by rw [z] at h; have h : g.R D = some u := h; rw [hn] at h; cases h
    rw [un a q]
    exact rs.hR _ _ (by rw [l.R, upd_ne q]; exact h)
  · have q : a ≠ D := fun z => by rw [z] at h; have h : g'.F D = some u := h; rw [fD] at h; cases h
    have := rs.dis _ _ h
    rw [l.R, upd_ne q] at this
    exact this
  · obtain ⟨a, h', k1, k2, k3, k4, k5⟩ := rs.st n u h
    have q : a ≠ D := fun z => by rw [z, rD] at k5; cases k5
    exact ⟨a, h', k1, by rw [un a q]; exact k2, OvR.monoF (g := g') (g' := ⟨g'.F, g'.π, g.R⟩) ⟨fun _ _ z => z, fun _ _ z => z⟩ k3, k4, by rw [l.R, upd_ne q] at k5; exact k5⟩
/-- a value that was just made, locked for good -/
def tLockV (t : TE) : TE := fun σ H Q => t σ H fun v H1 => ∃ d u, v = .ref d ∧ H1 d = some u ∧ Mut (some u) ∧ ∀ od, Q v (upd H1 d (.frz od u))
theorem pe_lockV {e : Expr} {t : TE} (h : PE X e t) : PE X e (tLockV t) := by
  refine ⟨fun pins s σ H Q I hw => ?_⟩
  refine thn (h.run pins s σ H _ I hw) fun v s1 ⟨x, H1, I1, r, d, u, ev, hd, mu, q⟩ => ?_
  obtain ⟨od, I2⟩ := I1.lock hd mu
  exact ⟨x, _, I2, r, q od⟩
/-- an exchange of the owned object for the locked one -/
theorem RelS.lock {K : PySem.W.Frag} {D : Addr} {g g' : Gh} {S : Sto} {H : Hp} {o o2 : HO} (l : LeD D o g g') (rs : RelS K cA g' S H) : LeD D o2 g { g' with R := upd g'.R D o2 } ∧ RelS K cA { g' with R := upd g'.R D o2 } S (upd H D o2) := by
  have rD : g'.R D = some o := by rw [l.R, upd_same]
  have fD : g'.F D = none := by
    cases q : g'.F D with
    | none => rfl
    | some u => rw [rs.dis _ _ q] at rD; cases rD
  refine ⟨⟨⟨l.F.F, l.F.π⟩, by show upd g'.R D o2 = _; rw [l.R, upd_upd]⟩, ⟨fun a u h => ?_, fun a u h => ?_, fun a u h => ?_, rs.len, fun n u h => ?_, rs.inj⟩⟩
  · rw [upd_ne (fun z => by rw [z] at h; have h : g'.F D = some u := h; rw [fD] at h; cases h)]; exact rs.hF _ _ h
  · by_cases q : a = D
    · subst q
      have h : upd g'.R a o2 a = some u := h
      rw [upd_same] at h ⊢; exact h
    · have h : upd g'.R D o2 a = some u := h
      rw [upd_ne q] at h ⊢; exact rs.hR _ _ h
  · show upd g'.R D o2 a = none
    rw [upd_ne (fun z => by rw [z] at h; have h : g'.F D = some u := h; rw [fD] at h; cases h)]
    exact rs.dis _ _ h
  · obtain ⟨a, h', k1, k2, k3, k4, k5⟩ := rs.st n u h
    have q : a ≠ D := fun z => by rw [z, rD] at k5; cases k5
    exact ⟨a, h', k1, by rw [upd_ne q]; exact k2, OvR.monoF (g := g') (g' := { g' with R := upd g'.R D o2 }) ⟨fun _ _ z => z, fun _ _ z => z⟩ k3, k4, by show upd g'.R D o2 a = none; rw [upd_ne q]; exact k5⟩
end
end GL
end
section
set_option Elab.async false
set_option linter.all false
set_option maxRecDepth 100000
/-! Comprehensions: what is taken in; the values at the end. -/
namespace GL
open PySem L2 PySem.Spec PyProof.Rows
theorem lookup_map {P : Str → NameKind → Bool} {x : Str} : ∀ l : List (Str × NameKind), (l.map fun (n, k) => if P n k then (n, NameKind.cell) else (n, k)).lookup x = (l.lookup x).map fun k => if P x k then .cell else k
  | [] => rfl
  | (n, k) :: l => by
    rw [List.map_cons, List.lookup_cons, ]
    by_cases h : x = n
    · subst h
      have e1 : (x == x) = true := by simp
      cases hp : P x k with
      | true => simp [hp, List.lookup_cons]
      | false => simp [hp, List.lookup_cons]
    · have e1 : (x == n) = false := by simpa using h
      cases hp : P n k with
      | true => simp only [hp, if_true, List.lookup_cons, e1]; exact lookup_map l
      | false => simp only [hp, Bool.false_eq_true, if_false, List.lookup_cons, e1]; exact lookup_map l
theorem relS_look {scope sc : Scope} {x : Str} : (relS scope sc).names.lookup x = (scope.names.lookup x).map fun k => if (k == .free && sc.kind == .function && sc.names.lookup x == some .cell) then .cell else k := by
  unfold relS
  exact lookup_map (P := fun n k => k == .free && sc.kind == .function && sc.names.lookup n == some .cell) scope.names
theorem blk_loc {X : Cx} {scope : Scope} {s : Shared} {H : Hp} {C : Addr} {cl : List (Str × Addr)} {fp : List Addr} (x : Str) (h : locB scope x = true) :
    L2.Loc (X.blk s H scope (compEnvC scope cl C X.env) fp).env.scope x ∧ ((X.blk s H scope (compEnvC scope cl C X.env) fp).fn x = true ∨ (X.blk s H scope (compEnvC scope cl C X.env) fp).env.scope.names.lookup x = some .local) := by
  have e : (X.blk s H scope (compEnvC scope cl C X.env) fp).env.scope = relS scope X.env.scope := rfl
  rw [e]
  unfold locB at h
  split at h
  · next q =>
    have : (relS scope X.env.scope).names.lookup x = some .local := by rw [relS_look, q]; rfl
    exact ⟨.inl this, .inr this⟩
  · next q =>
    have : (relS scope X.env.scope).names.lookup x = some .cell := by rw [relS_look, q]; rfl
    refine ⟨.inr this, .inl ?_⟩
    show (scope.names.lookup x == some .cell) = true
    rw [q]; rfl
  · cases h
theorem mtGs_all {N : List Str} {gn : Str → Option Gn} : ∀ {g : CGs} {si sb raw : Scope} {gens : List Comprehension}, mtGs N gn g si sb raw gens = true → ∀ q ∈ gens, q.is_async = 0 ∧ noSet q.iter = true
  | .one (.mk t i c), si, sb, raw, gens, h => by
    rcases gens with _ | ⟨⟨tg, it, ifs, az⟩, _ | ⟨_, _⟩⟩
    · exact absurd h Bool.false_ne_true
    · have h : (decide (az = 0) && noSet it && mtT N (locB raw) t tg && mtI N gn i si tg it && mtC N gn c sb ifs) = true := h
      simp only [Bool.and_eq_true, decide_eq_true_eq] at h
      intro q hq
      rcases List.mem_singleton.mp hq with rfl
      exact ⟨h.1.1.1.1, h.1.1.1.2⟩
    · exact absurd h Bool.false_ne_true
  | .two (.mk t i c) r, si, sb, raw, gens, h => by
    rcases gens with _ | ⟨⟨tg, it, ifs, az⟩, gens⟩
    · exact absurd h Bool.false_ne_true
    · have h : (decide (az = 0) && noSet it && mtT N (locB raw) t tg && mtI N gn i si tg it && mtC N gn c sb ifs && mtGs N gn r sb sb raw gens) = true := h
      simp only [Bool.and_eq_true, decide_eq_true_eq] at h
      intro q hq
      rcases List.mem_cons.mp hq with rfl | hq
      · exact ⟨h.1.1.1.1.1, h.1.1.1.1.2⟩
      · exact mtGs_all h.2 q hq
section
variable {X : Cx} {cA : Nat → Addr} {K : Cl} {D : Addr}
def FL (K : Cl) (elt : CE) : Env → List DV → M (List DV) := fun ρ' acc => evE K elt ρ' >>= fun x => if acc.length < LIM then pure (acc ++ [x]) else M.fail
def FD (K : Cl) (k v : CE) : Env → List DK × List DV → M (List DK × List DV) := fun ρ' acc => evE K k ρ' >>= fun x => evE K v ρ' >>= fun y => match keyOf x with
      | some q => if acc.1.length < LIM then pure (dputK acc.1 q, dputV acc.1 acc.2 q y) else M.fail
      | none => M.fail
theorem emit_list {elt : CE} {σ : L2.St} {H : Hp} {Nx : Hp → Prop} (h : TAC X cA D OV.lst (FL K elt) σ H Nx) : TAE X cA pF (evE K elt) σ H fun y H4 => ∃ acc, H4 D = some (.lst acc) ∧ acc.length < sizeLine ∧ Nx (upd H4 D (.lst (acc ++ [y]))) := by
  obtain ⟨g, ρ, S, acc, o, re, ne, rs, hD, ⟨vs, rfl, rr⟩, p⟩ := h
  refine ⟨g, ρ, S, re, rs, ?_⟩
  have p : PostC X.K cA D OV.lst g ((evE K elt ρ >>= fun x => if acc.length < LIM then pure (acc ++ [x]) else M.fail) S) Nx := p
  cases e : evE K elt ρ S with
  | bad => rw [M.bind_bad e] at p; exact p.elim
  | ex z S1 => rw [M.bind_ex e] at p; exact p.elim
  | ok d S1 =>
    rw [M.bind_ok e] at p
    intro g1 v H1 l1 rs1 rd
    split at p
    · next hl =>
      have lD : LeD D (.lst vs) g g1 := ⟨.of l1, by rw [l1.R, upd_self hD]⟩
      obtain ⟨q1, q2⟩ := RelS.lock (o2 := .lst (vs ++ [v])) lD rs1
      refine ⟨vs, rs1.hR _ _ (by rw [l1.R]; exact hD), by rw [← rr.length, ← sizeL]; exact hl, ?_⟩
      refine p _ _ _ q1 q2 ⟨_, rfl, ?_⟩
      exact Reps.monoF (g := g1) (g' := { g1 with R := upd g1.R D (.lst (vs ++ [v])) }) ⟨fun _ _ z => z, fun _ _ z => z⟩ _ _ ((Reps.mono l1 _ _ rr).app (Reps.cons rd Reps.nil))
    · exact p.elim
theorem kOf_kV (q : DK) : ∃ v, kV (kOf q) = v := ⟨_, rfl⟩
theorem kOf_inj' {a b : DK} (e : kOf a = kOf b) : a = b := kOf_inj e
theorem map_no {q : DK} {v : V} : ∀ {ks : List DK} {vs : List V}, q ∉ ks → ((ks.map kOf).zip vs).map (fun kv => if kv.1 = kOf q then (kv.1, v) else kv) = (ks.map kOf).zip vs
  | [], _, _ => rfl
  | _ :: _, [], _ => rfl
  | k :: ks, w :: vs, h => by
    simp only [List.mem_cons, not_or] at h
    rw [List.map_cons, List.zip_cons_cons, List.map_cons, map_no h.2]
    rw [if_neg (fun z => h.1 (kOf_inj z).symm)]
theorem map_yes {KK : PySem.W.Frag} {g : Gh} {q : DK} {d : DV} {v : V} (rd : Rep KK cA g d v) : ∀ {ks : List DK} {ds : List DV} {vs : List V}, q ∈ ks → ks.Nodup → ks.length = vs.length → Reps KK cA g ds vs →
    ∃ vs', ((ks.map kOf).zip vs).map (fun kv => if kv.1 = kOf q then (kv.1, v) else kv) = (ks.map kOf).zip vs' ∧ ks.length = vs'.length ∧ Reps KK cA g (dputV ks ds q d) vs'
  | [], ds, vs, h, _, _, _ => absurd h (by simp)
  | k :: ks, ds, [], h, _, hl, _ => by simp at hl
  | k :: ks, [], w :: vs, h, _, hl, r => by simp [Reps] at r
  | k :: ks, e :: ds, w :: vs, h, nd, hl, r => by
    simp only [Reps] at r
    obtain ⟨w', ws, e1, r1, r2⟩ := r
    cases e1
    rw [List.nodup_cons] at nd
    rw [List.map_cons, List.zip_cons_cons, List.map_cons]
    by_cases hk : k = q
    · subst hk
      rw [if_pos rfl, map_no nd.1]
      refine ⟨v :: vs, rfl, by simpa using hl, ?_⟩
      simp only [dputV, if_true]
      exact Reps.cons rd r2
    · rw [if_neg (fun z => hk (kOf_inj z))]
      have hm : q ∈ ks := by
        rcases List.mem_cons.mp h with z | z
        · exact absurd z.symm hk
        · exact z
      obtain ⟨vs', i1, i2, i3⟩ := map_yes rd hm nd.2 (by simpa using hl) r2
      rw [i1]
      refine ⟨w :: vs', rfl, by simp [i2], ?_⟩
      simp only [dputV, if_neg hk]
      exact Reps.cons r1 i3
theorem dputV_no {KK : PySem.W.Frag} {g : Gh} {q : DK} {d : DV} {v : V} (rd : Rep KK cA g d v) : ∀ {ks : List DK} {ds : List DV} {vs : List V}, q ∉ ks → ks.length = vs.length → Reps KK cA g ds vs → Reps KK cA g (dputV ks ds q d) (vs ++ [v])
  | [], ds, vs, _, hl, r => by
    have : vs = [] := List.length_eq_zero_iff.mp hl.symm
    subst this
    cases ds with
    | nil => exact Reps.cons rd Reps.nil
    | cons _ _ => simp [Reps] at r
  | k :: ks, ds, [], _, hl, _ => by simp at hl
  | k :: ks, [], w :: vs, _, hl, r => by simp [Reps] at r
  | k :: ks, e :: ds, w :: vs, h, hl, r => by
    simp only [List.mem_cons, not_or] at h
    simp only [Reps] at r
    obtain ⟨w', ws, e1, r1, r2⟩ := r
    cases e1
    simp only [dputV, if_neg (fun z => h.1 (Eq.symm z))]
    exact Reps.cons r1 (dputV_no rd h.2 (by simpa using hl) r2)
theorem any_key {q : DK} : ∀ {ks : List DK} {vs : List V}, ks.length = vs.length → (((ks.map kOf).zip vs).any fun kv => decide (kv.1 = kOf q)) = decide (q ∈ ks)
  | [], [], _ => rfl
  | [], _ :: _, h => by simp at h
  | _ :: _, [], h => by simp at h
  | k :: ks, v :: vs, h => by
    rw [List.map_cons, List.zip_cons_cons, List.any_cons, any_key (by simpa using h)]
    by_cases e : k = q
    · subst e; simp
    · have : ¬ kOf k = kOf q := fun z => e (kOf_inj z)
      have e' : ¬ q = k := fun z => e z.symm
      simp [this, e']
theorem put_zip {KK : PySem.W.Frag} {g : Gh} {q : DK} {d : DV} {v : V} (rd : Rep KK cA g d v) (hq : okK q = true) {ks : List DK} {ds : List DV} {vs : List V} (hl : ks.length = vs.length) (r : Reps KK cA g ds vs) (hok : ks.all okK = true) (nd : ks.Nodup) :
    ∃ vs', putK ((ks.map kOf).zip vs) (kOf q) v = ((dputK ks q).map kOf).zip vs' ∧ (dputK ks q).length = vs'.length ∧ (dputK ks q).all okK = true ∧ (dputK ks q).Nodup ∧ Reps KK cA g (dputV ks ds q d) vs' := by
  unfold putK dputK
  rw [any_key hl]
  by_cases h : q ∈ ks
  · obtain ⟨vs', i1, i2, i3⟩ := map_yes rd h nd hl r
    rw [if_pos (by simpa using h), if_pos h]
    exact ⟨vs', i1, i2, hok, nd, i3⟩
  · rw [if_neg (by simpa using h), if_neg h]
    refine ⟨vs ++ [v], ?_, by simp [hl], ?_, ?_, dputV_no rd h hl r⟩
    · rw [List.map_append, List.zip_append (by simpa using hl)]
      rfl
    · rw [List.all_append, hok]
      simp [hq]
    · rw [List.nodup_append]
      exact ⟨nd, by simp, fun a ha b hb => by rw [List.mem_singleton.mp hb]; exact fun z => h (z ▸ ha)⟩
theorem emit_dict {k e : CE} {σ : L2.St} {H : Hp} {Nx : Hp → Prop} (h : TAC X cA D (fun p : List DK × List DV => OV.dct p.1 p.2) (FD K k e) σ H Nx) :
    TAE X cA pF (evE K k) σ H fun y H4 => TAE X cA pF (evE K e) σ H4 fun z H5 => ∃ kvs k, y = kV k ∧ H5 D = some (.dK kvs) ∧ kvs.length < sizeLine ∧ Nx (upd H5 D (.dK (putK kvs k z))) := by
  obtain ⟨g, ρ, S, acc, o, re, ne, rs, hD, ⟨vs, rfl, hl, hok, hnd, rr⟩, p⟩ := h
  refine ⟨g, ρ, S, re, rs, ?_⟩
  have p : PostC X.K cA D (fun p : List DK × List DV => OV.dct p.1 p.2) g ((evE K k ρ >>= fun x => evE K e ρ >>= fun y => match keyOf x with
      | some q => if acc.1.length < LIM then pure (dputK acc.1 q, dputV acc.1 acc.2 q y) else M.fail
      | none => M.fail) S) Nx := p
  cases e1 : evE K k ρ S with
  | bad => rw [M.bind_bad e1] at p; exact p.elim
  | ex z S1 => rw [M.bind_ex e1] at p; exact p.elim
  | ok dk S1 =>
    rw [M.bind_ok e1] at p
    intro g1 v1 H1 l1 rs1 rd1
    refine ⟨g1, ρ, S1, re.mono l1, rs1, ?_⟩
    cases e2 : evE K e ρ S1 with
    | bad => rw [M.bind_bad e2] at p; exact p.elim
    | ex z S2 => rw [M.bind_ex e2] at p; exact p.elim
    | ok dv S2 =>
      rw [M.bind_ok e2] at p
      intro g2 v2 H2 l2 rs2 rd2
      cases ek : keyOf dk with
      | none => rw [ek] at p; exact p.elim
      | some q =>
        rw [ek] at p
        simp only [] at p
        split at p
        · next hlt =>
          obtain ⟨rfl, hk⟩ := keyOf_ok ek rd1
          have lt := l1.trans l2
          have lD : LeD D (.dK ((acc.1.map kOf).zip vs)) g g2 := ⟨.of lt, by rw [lt.R, upd_self hD]⟩
          obtain ⟨vs', h1, h2, h3, h4, h5⟩ := put_zip (cA := cA) rd2 hk hl (Reps.mono lt _ _ rr) hok hnd
          obtain ⟨q1, q2⟩ := RelS.lock (o2 := .dK (putK ((acc.1.map kOf).zip vs) (kOf q) v2)) lD rs2
          refine ⟨_, kOf q, rfl, rs2.hR _ _ (by rw [lt.R]; exact hD), ?_, ?_⟩
          · rw [List.length_zip, List.length_map, ← hl, Nat.min_self, ← sizeL]; exact hlt
          · exact p _ _ _ q1 q2 ⟨vs', by rw [h1], h2, h3, h4, Reps.monoF (g := g2) (g' := { g2 with R := upd g2.R D (.dK (putK ((acc.1.map kOf).zip vs) (kOf q) v2)) }) ⟨fun _ _ z => z, fun _ _ z => z⟩ _ _ h5⟩
        · exact p.elim
end
end GL
end
section
set_option Elab.async false
set_option linter.all false
set_option maxRecDepth 100000
/-! [::-1] of tuples and lists. -/
namespace GLE
open PySem PySem.Spec PyProof.Rows L2 HT
theorem rev_adjust (n : Nat) : Builtin.Slice.sliceAdjust none none (-1) (n : Int) = ((n : Int) - 1, -1) := by
  unfold Builtin.Slice.sliceAdjust
  simp
theorem rev_places (n : Nat) : Builtin.Slice.slicePlaces ((n : Int) - 1) (-1) (-1) = n := by
  unfold Builtin.Slice.slicePlaces
  rw [if_neg (by decide)]
  by_cases h : (n : Int) - 1 > -1
  · rw [if_pos h]
    have : (-(-1) : Int) = 1 := by decide
    rw [this, Int.ediv_one]
    omega
  · rw [if_neg h]
    omega
theorem fm_congr {α β : Type} {f g : α → Option β} : ∀ {l : List α}, (∀ x ∈ l, f x = g x) → l.filterMap f = l.filterMap g
  | [], _ => rfl
  | a :: l, h => by
    rw [List.filterMap_cons, List.filterMap_cons, h a List.mem_cons_self, fm_congr fun x hx => h x (List.mem_cons_of_mem _ hx)]
theorem fm_range {α : Type} : ∀ (l : List α), (List.range l.length).filterMap (fun k => l[k]?) = l
  | [] => rfl
  | a :: l => by
    rw [List.length_cons, List.range_succ_eq_map, List.filterMap_cons, List.filterMap_map]
    show a :: (List.range l.length).filterMap (fun k => l[k]?) = a :: l
    rw [fm_range l]
theorem rev_pick (xs : Array Value) : ((List.range xs.size).filterMap fun (k : Nat) => xs[(((xs.size : Int) - 1) + (k : Int) * (-1)).toNat]?).toArray = xs.toList.reverse.toArray := by
  congr 1
  have e : ∀ k ∈ List.range xs.size, xs[(((xs.size : Int) - 1) + (k : Int) * (-1)).toNat]? = xs.toList.reverse[k]? := fun k hk => by
    have hk := List.mem_range.mp hk
    have e1 : (((xs.size : Int) - 1) + (k : Int) * (-1)).toNat = xs.size - 1 - k := by omega
    rw [e1, List.getElem?_reverse (by simpa using hk), Array.getElem?_toList]
    simp
  rw [fm_congr e]
  have h2 := fm_range xs.toList.reverse
  rw [List.length_reverse, Array.length_toList] at h2
  exact h2
section
variable {prog : Program} {w : World} {A : Around} {E : Value → Shared → Prop} {s : Shared}
theorem sliceApplied_rev {sl : Addr} {vl vu vk : Value} {n : Nat} {Q : Int × Int × Nat → Shared → Prop} (hs : s.heap.IsSliceOf sl vl vu vk) (pl : IsPart vl none) (pu : IsPart vu none) (pk : IsPart vk (some (-1)))
    (h : Q ((n : Int) - 1, -1, n) s) : wpAny (model prog w) A (Builtin.Slice.sliceApplied (.ref sl) (pure (n : Int))) Q E s := by
  obtain ⟨os, hos, hcs, hds⟩ := id hs
  unfold Builtin.Slice.sliceApplied Builtin.Slice.sliceFields
  refine wpAny_bind (wpAny_bind (wpAny_field hos hds (x := vl) rfl (wpAny_bind (wpAny_field hos hds (x := vu) rfl (wpAny_bind (wpAny_field hos hds (x := vk) rfl (wpAny_pure ?_)))))))
  refine wpAny_bind (slicePart_ pk ?_)
  show wpAny _ _ (if ((-1 : Int) == 0) = true then _ else _) _ _ s
  rw [if_neg (by decide)]
  refine wpAny_bind (slicePart_ pl (wpAny_bind (slicePart_ pu (wpAny_bind (wpAny_pure ?_)))))
  show wpAny _ _ (match Builtin.Slice.sliceAdjust none none (-1) (n : Int) with | (lo, hi) => pure (lo, (-1 : Int), Builtin.Slice.slicePlaces lo hi (-1))) _ _ s
  rw [rev_adjust n]
  show wpAny _ _ (pure ((n : Int) - 1, (-1 : Int), Builtin.Slice.slicePlaces ((n : Int) - 1) (-1) (-1))) _ _ s
  rw [rev_places]
  exact wpAny_pure h
theorem getItem_tuple_rev {t sl : Addr} {items : Array Value} {vl vu vk : Value} {Q : Value → Shared → Prop} (ht : IsTup s.heap t items) (hs : s.heap.IsSliceOf sl vl vu vk) (pl : IsPart vl none) (pu : IsPart vu none) (pk : IsPart vk (some (-1)))
    (h : Q (.ref s.heap.objs.size) { s with heap := s.heap.push { cls := .type "tuple", data := .seq items.toList.reverse.toArray } })
    (hsz : items.size ≤ sizeLine) : wpAny (model prog w) A (getItem (.ref t) (.ref sl)) Q E s := by
  have htake : sizeOk (.seq items.toList.reverse.toArray) := by
    show items.toList.reverse.toArray.size ≤ sizeLine
    simpa using hsz
  obtain ⟨os, hos, hcs, hds⟩ := id hs
  have hTs : s.TypeIs (.ref sl) "slice" := ⟨os, hos, hcs⟩
  unfold getItem
  try with_reducible refine wpAny_holding ?_
  first | refine wpAny_bind (wpAny_pure ?_) | skip
  refine wpAny_bind (wpAny_sequenceKey ht.typeIs (by decide) ?_)
  refine wpAny_bind (wpAny_callSpecial?_slot (name := Str.ofString "__getitem__") ht.typeIs PyProof.Rows.slot_tuple_getitem
    (wpAny_call_entry PyProof.Rows.slot_tuple_getitem ht.typeIs entry_tuple_getitem ?_ (args_tuple_getitem _ _)))
  show wpAny _ _ (Builtin.Tuple.tupleItemsOf (.ref t) >>= _) _ _ s
  refine wpAny_bind (tupleItemsOf_ ht ?_)
  refine wpAny_bind (wpAny_typeOf hTs ?_)
  rw [if_pos (by decide)]
  refine wpAny_bind (sliceApplied_rev hs pl pu pk ?_)
  have hno : ¬ ((((items.size : Int) - 1) == 0 && (-1 : Int) == 1 && items.size == items.size) = true) := by
    intro q
    rw [Bool.and_eq_true, Bool.and_eq_true] at q
    exact absurd q.1.2 (by decide)
  show wpAny _ _ (if (((items.size : Int) - 1) == 0 && (-1 : Int) == 1 && items.size == items.size) = true then _ else _) _ _ s
  rw [if_neg hno, rev_pick]
  first
    | exact wpAny_bind (m := Builtin.Tuple.tupleExact _) (wpAny_newObj_type (wpAny_pure ⟨_, rfl, wpAny_pure h⟩) htake)
    | exact wpAny_bind (m := Builtin.Tuple.tupleExact _) (wpAny_newObj_type (wpAny_bind (wpAny_pure (wpAny_pure ⟨_, rfl, wpAny_pure h⟩))) htake)
    | exact wpAny_bind (wpAny_bind (m := Builtin.Tuple.tupleExact _) (wpAny_newObj_type (wpAny_pure (wpAny_pure ⟨_, rfl, wpAny_pure h⟩)) htake))
    | exact wpAny_bind (wpAny_bind (m := Builtin.Tuple.tupleExact _) (wpAny_newObj_type (wpAny_pure ⟨_, rfl, wpAny_pure h⟩) htake))
end
end GLE
namespace L2
open PySem PySem.Spec PyProof.Rows
def tRevT (K : PySem.W.Frag) (te : TE) : TE := fun σ H Q => te σ H fun x H1 => ∃ a xs, x = .ref a ∧ SqT K H1 a xs ∧ ∀ p, H1 p = none → Q (.ref p) (upd H1 p (.tup xs.reverse))
theorem pe_revT {X : Cx} {e : Expr} {te : TE} {k : Nat} {p1 p2 p3 pos : Pos} (he : PE X e te) : PE X (.Subscript e (.Slice none none (some (.UnaryOp .USub (.Constant (.int 1) k p1) p2)) p3) pos) (tRevT X.K te) := by
  refine ⟨fun pins s σ H Q I h => ?_⟩
  refine Subscript_ (thn (he.run pins s σ H _ I h) fun v s1 ⟨x, H1, I1, r1, q1⟩ => ?_)
  obtain ⟨a, xs, ex, hx, q⟩ := q1
  subst ex
  cases r1
  have hst : PO X (some (.UnaryOp .USub (.Constant (.int 1) k p1) p2)) (tPart (tUn (rU fun i => .int (-i)) (tC (.int 1)))) := po_some (pe_un un_neg pe_int)
  refine wpAny_Slice (thn (po_none.run pins s1 σ H1 (fun o H2 => o = none ∧ H2 = H1) I1 ⟨rfl, rfl⟩) fun vl s2 ⟨l, H2, I2, pl, el, e2⟩ => ?_)
  subst el e2
  refine thn (po_none.run pins s2 σ H2 (fun o H3 => o = none ∧ H3 = H2) I2 ⟨rfl, rfl⟩) fun vu s3 ⟨u, H3, I3, pu, eu, e3⟩ => ?_
  subst eu e3
  refine thn (hst.run pins s3 σ H3 (fun o H4 => o = some (-1) ∧ H4 = H3) I3 ⟨1, rfl, -1, rfl, rfl, rfl⟩) fun vs s4 ⟨o, H4, I4, ps, eo, e4⟩ => ?_
  subst eo e4
  have I5 : Inv X pins σ H4 { s4 with heap := s4.heap.push { cls := .type "slice", data := .fields #[vl, vu, vs] } } := I4.kept (t' := s4.toks) fun b ob q => Heap.get?_push_of_some _ q
  obtain ⟨its, r, ht, hz⟩ := I5.tuple hx
  have hlen := r.length
  show wpAny (model X.prog X.w) X.A (subscriptTail e (.Slice none none (some (.UnaryOp .USub (.Constant (.int 1) k p1) p2)) p3) (.ref a) (.ref s4.heap.objs.size)) (EP X pins σ Q) X.xe { s4 with heap := s4.heap.push { cls := .type "slice", data := .fields #[vl, vu, vs] } }
  refine tail_any (ops := [.ref a, .ref s4.heap.objs.size]) ht.typeIs PyProof.Rows.slot_tuple_getitem.lookup ?_ (by with_unfolding_all rfl)
  refine GLE.getItem_tuple_rev ht (Heap.IsSliceOf.new _ vl vu vs) pl pu ps ?_ (by rw [List.size_toArray]; omega)
  refine ⟨.ref _, _, I5.laid (t' := s4.toks) (o := .tup xs.reverse) (fun b ob q => Heap.get?_push_of_some _ q) (Nat.le_refl _) ?_, rfl, q _ (I5.hok.fresh (Nat.le_refl _))⟩
  exact ⟨by rw [List.length_reverse]; exact hz, _, r.reverse, ⟨_, Heap.get?_push_size _ rfl, rfl, _, rfl⟩⟩
end L2
namespace GL
open PySem L2 PySem.Spec PyProof.Rows
section
variable {X : Cx} {cA : Nat → Addr} {E : XK} {K : Cl} {pos : Pos} {x : Expr} {a : CE}
theorem Reps.reverse {KK : PySem.W.Frag} {g : Gh} : ∀ {ds : List DV} {vs : List V}, Reps KK cA g ds vs → Reps KK cA g ds.reverse vs.reverse
  | [], vs, h => by simp only [Reps] at h; subst h; exact Reps.nil
  | d :: ds, vs, h => by
    simp only [Reps] at h
    obtain ⟨w, ws, rfl, q, r⟩ := h
    rw [List.reverse_cons, List.reverse_cons]
    exact (Reps.reverse r).app (Reps.cons q Reps.nil)
theorem ab_rev {k : Nat} {p1 p2 p3 : Pos} (ha : PE X x (TAE X cA E (evE K a))) : PE X (.Subscript x (.Slice none none (some (.UnaryOp .USub (.Constant (.int 1) k p1) p2)) p3) pos) (TAE X cA E (evE K (.rev a))) := by
  refine ⟨fun pins s σ H Q I ⟨g, ρ, S, re, rs, p⟩ => ?_⟩
  simp only [evE] at p
  cases e : evE K a ρ S with
  | bad => rw [M.bind_bad e] at p; exact p.elim
  | ex z S1 =>
    rw [M.bind_ex e] at p
    refine (pe_revL ha).run pins s σ H Q I ⟨g, ρ, S, re, rs, ?_⟩
    rw [e]
    exact p
  | ok d S1 =>
    rw [M.bind_ok e] at p
    by_cases c : ∃ ys, d = .tup ys
    · obtain ⟨ys, rfl⟩ := c
      refine (pe_revT ha).run pins s σ H Q I ⟨g, ρ, S, re, rs, ?_⟩
      rw [e]
      intro g1 v H1 l1 rs1 r1
      simp only [Rep] at r1
      obtain ⟨ad, vs, rfl, q1, t1⟩ := r1
      have p : Post X.K cA (Rep X.K cA) g (.ok (.tup ys.reverse) S1) Q E := p
      exact ⟨ad, vs, rfl, sqT_mono q1 rs1.hF, Post.tup (p.mono l1) rs1 t1.reverse⟩
    · have p : Post X.K cA (Rep X.K cA) g (match lstOf S1 d with
        | some xs => .ok (.lst xs.reverse) S1
        | none => .bad) Q E := by
        cases d with
        | tup ys => exact absurd ⟨ys, rfl⟩ c
        | loc n =>
          have p : Post X.K cA (Rep X.K cA) g ((match lstOf S1 (.loc n) with
            | some xs => (pure (.lst xs.reverse) : M DV)
            | none => M.fail) S1) Q E := p
          cases e2 : lstOf S1 (.loc n) <;> rw [e2] at p <;> exact p
        | _ => exact p
      refine (pe_revL ha).run pins s σ H Q I ⟨g, ρ, S, re, rs, ?_⟩
      rw [e]
      intro g1 v H1 l1 rs1 r1
      cases e2 : lstOf S1 d with
      | none => rw [e2] at p; exact p.elim
      | some ys =>
        rw [e2] at p
        obtain ⟨ad, vs, rfl, hq, hr⟩ := lstOf_ok rs1 e2 r1
        exact ⟨ad, vs, rfl, hq, Post.lst (p.mono l1) rs1 hr.reverse⟩
end
end GL
end
section
set_option Elab.async false
set_option linter.all false
set_option maxRecDepth 100000
/-! Every matched expression runs as the interpreter says. -/
namespace GL
open PySem L2 PySem.Spec PyProof.Rows
theorem ff {P : Prop} (h : false = true) : P := nomatch h
theorem and3 {a b c : Bool} (h : (a && b && c) = true) : a = true ∧ b = true ∧ c = true := by
  simp only [Bool.and_eq_true] at h
  exact ⟨h.1.1, h.1.2, h.2⟩
section
variable {G : Prg} {K : Cl} {k : Nat} {N : List Str} (P : POk G) (L : Lv G K k)
theorem nmB_ok {sc : Scope} {X : Cx} (c : CtxOk G k N sc X) {i : Nat} {x : Str} (h : nmB N sc i x = true) : X.N[i]? = some x ∧ Vis X.env.scope x ∧ (x == ("__debug__" : Str)) = false ∧ (x == ("__classdict__" : Str)) = false := by
  unfold nmB at h
  simp only [Bool.and_eq_true, decide_eq_true_eq, Bool.not_eq_true'] at h
  exact ⟨by rw [c.N]; exact h.1.1.1, by rw [c.sc]; exact visB_ok h.1.1.2, h.1.2, h.2⟩
include P L in
theorem flds_ok {sc : Scope} {X : Cx} (c : CtxOk G k N sc X) : Flds X G.cA K.T := ⟨fun cc f h => by rw [c.K]; rw [L.T] at h; exact P.fld cc f h⟩
def OkE (G : Prg) (K : Cl) (k : Nat) (N : List Str) (e : CE) : Prop := (∀ (sc : Scope) (X : Cx) (E : XK) (x : Expr), CtxOk G k N sc X → Passes (L2.CX X.prog X.w) X E → mtE N G.gn e sc x = true → PE X x (TAE X G.cA E (evE K e))) ∧
  ∀ (sc : Scope) (X : Cx) (E : XK) (x : Expr), CtxOk G k N sc X → Passes (L2.CX X.prog X.w) X E → mtE N G.gn e sc x = true → PT X x (TAT X G.cA E (fun ρ => tst (evE K e ρ)))
theorem okP {e : CE} (h : ∀ (sc : Scope) (X : Cx) (E : XK) (x : Expr), CtxOk G k N sc X → Passes (L2.CX X.prog X.w) X E → mtE N G.gn e sc x = true → PE X x (TAE X G.cA E (evE K e)))
    (hp : ∀ (sc : Scope) (x : Expr), mtE N G.gn e sc x = true → plainT x = true) : OkE G K k N e := ⟨h, fun sc X E x c hx hm => pt_of (h sc X E x c hx hm) (hp sc x hm)⟩
/-- what the first clause hands on to -/
def clF {α : Type} (K : Cl) (F : Env → α → M α) : CGs → Env → α → M α
  | .one _ => F
  | .two _ r => fun ρ' a => evG K r F ρ' (wipeE ρ' (gslots r)) a
theorem CtxOk.blkP {sc : Scope} {X : Cx} (c : CtxOk G k N sc X) {scope : Scope} {P : Cx → Prop} (h : ∀ Y, CtxOk G k N (relS scope sc) Y → Y.K = X.K → Y.xe = (fun _ _ => False) → Passes (L2.CX Y.prog Y.w) Y pF →
    (∀ x, locB scope x = true → L2.Loc Y.env.scope x ∧ (Y.fn x = true ∨ Y.env.scope.names.lookup x = some .local)) → P Y) : AtBlk X scope P := fun s H C cl fp =>
  h _ (c.blk scope s H C cl fp) rfl rfl passF fun x hx => blk_loc x hx
theorem gA_K {X Y : Cx} (e : Y.K = X.K) (cA : Nat → Addr) (t : CT) : gA Y cA t = gA X cA t := by unfold gA GAp; rw [e]
theorem TAT_K {X Y : Cx} (e : Y.K = X.K) (cA : Nat → Addr) (E : XK) (m : Env → M Bool) : TAT Y cA E m = TAT X cA E m := by unfold TAT; rw [e]
theorem TAC_K {α : Type} {X Y : Cx} (e : Y.K = X.K) (cA : Nat → Addr) (D : Addr) (ov : α → OV) (m : Env → α → M α) : TAC Y cA D ov m = TAC X cA D ov m := by unfold TAC; rw [e]
include P L in
theorem es_an (es : CEs) (sc : Scope) (X : Cx) (E : XK) (xs : List Expr) (c : CtxOk G k N sc X) (h : mtEs N G.gn es sc xs = true) (hp : PA X xs (TAS X G.cA E (evs K es))) : PAn X xs (TAS X G.cA E (evs K es)) := by
  refine ⟨hp, fun e σ H Q ⟨g, ρ, S, re, rs, p⟩ => ?_⟩
  subst e
  rcases es with _ | ⟨st, _, _⟩
  · simp only [evs] at p
    exact p g [] H Le.rfl' rs Reps.nil
  · cases st <;> exact ff h
include P L
mutual
theorem ex_ok : ∀ (e : CE), OkE G K k N e
  | .never => ⟨fun sc X E x c hx h => ⟨fun pins s σ H Q I ⟨g, ρ, S, re, rs, p⟩ => by
      simp only [evE] at p
      exact False.elim p⟩, fun sc X E x c hx h => ⟨fun pins s σ H Q I ⟨g, ρ, S, re, rs, p⟩ => by
      simp only [evE] at p
      exact False.elim p⟩⟩
  | .var i => okP (fun sc X E x c hx h => by
    cases x <;> first | exact ff h | skip
    obtain ⟨h1, h2, h3, h4⟩ := nmB_ok c (show nmB N sc i _ = true from h)
    exact ab_var h1 h2 h3 h4) fun sc x h => by
    cases x <;> first | exact ff h | rfl
  | .int i => okP (fun sc X E x c hx h => by
    cases x <;> first | exact ff h | skip
    rename_i v kk p
    cases v <;> first | exact ff h | skip
    have h := of_decide_eq_true (show decide (i = _) = true from h)
    subst h
    exact ab_const pe_int (fun _ => Rep.int) (fun _ _ => by simp only [evE]; rfl)) fun sc x h => by
    cases x <;> first | exact ff h | rfl
  | .bl b => okP (fun sc X E x c hx h => by
    cases x <;> first | exact ff h | skip
    rename_i v kk p
    cases v <;> first | exact ff h | skip
    have h := eq_of_beq (show (b == _) = true from h)
    subst h
    exact ab_const pe_bl (fun _ => Rep.bl) (fun _ _ => by simp only [evE]; rfl)) fun sc x h => by
    cases x <;> first | exact ff h | rfl
  | .non => okP (fun sc X E x c hx h => by
    cases x <;> first | exact ff h | skip
    rename_i v kk p
    cases v <;> first | exact ff h | skip
    exact ab_const pe_non (fun _ => Rep.non) (fun _ _ => by simp only [evE]; rfl)) fun sc x h => by
    cases x <;> first | exact ff h | rfl
  | .str z => okP (fun sc X E x c hx h => by
    cases x <;> first | exact ff h | skip
    rename_i v kk p
    cases v <;> first | exact ff h | skip
    rename_i y
    have h : (decide (mkS z = y) && okS z) = true := h
    simp only [Bool.and_eq_true, decide_eq_true_eq] at h
    obtain ⟨rfl, h2⟩ := h
    exact ab_const pe_str (fun _ => Rep.str h2) (fun _ _ => by simp only [evE]; rfl)) fun sc x h => by
    cases x <;> first | exact ff h | rfl
  | .gl j => okP (fun sc X E x c hx h => by
    cases x <;> first | exact ff h | skip
    rename_i nm p
    have h : (glB sc nm && decide (G.gn nm = some (.con j))) = true := h
    simp only [Bool.and_eq_true, decide_eq_true_eq] at h
    obtain ⟨hg, hd⟩ := glB_ok c.sc h.1
    obtain ⟨v, u, h1, h2, h3⟩ := P.con nm j h.2
    exact ab_const (pe_glob hg (by rw [c.mg]; exact h1) h2 hd) (fun g => by rw [c.K]; exact h3 g) (fun _ _ => by simp only [evE]; rw [L.T]; rfl)) fun sc x h => by
    cases x <;> first | exact ff h | rfl
  | .bin op a b => okP (fun sc X E x c hx h => by
    cases x <;> first | exact ff h | skip
    rename_i l o r p
    obtain ⟨h1, h2, h3⟩ := and3 (show (decide (o = pyB op) && mtE N G.gn a sc l && mtE N G.gn b sc r) = true from h)
    have h1 := of_decide_eq_true h1
    subst h1
    exact ab_bin ((ex_ok a).1 sc X E l c hx h2) ((ex_ok b).1 sc X E r c hx h3)) fun sc x h => by
    cases x <;> first | exact ff h | rfl
  | .neg a => okP (fun sc X E x c hx h => by
    cases x <;> first | exact ff h | skip
    rename_i o l p
    have h : (decide (o = .USub) && mtE N G.gn a sc l) = true := h
    simp only [Bool.and_eq_true, decide_eq_true_eq] at h
    obtain ⟨rfl, h2⟩ := h
    exact ab_neg ((ex_ok a).1 sc X E l c hx h2)) fun sc x h => by
    cases x <;> first | exact ff h | rfl | skip
    rename_i o _ _
    cases o <;> first | exact ff h | rfl
  | .cmp op a b => ⟨fun sc X E x c hx h => by
    cases x <;> first | exact ff h | skip
    rename_i l ops cs p
    rcases ops with _ | ⟨o, _ | ⟨_, _⟩⟩ <;> rcases cs with _ | ⟨r, _ | ⟨_, _⟩⟩ <;> first | exact ff h | skip
    have h : (decide (o = pyC op) && noSet r && mtE N G.gn a sc l && mtE N G.gn b sc r) = true := h
    simp only [Bool.and_eq_true, decide_eq_true_eq] at h
    obtain ⟨⟨⟨rfl, h2⟩, h3⟩, h4⟩ := h
    exact ab_cmp c.hu ((ex_ok a).1 sc X E l c hx h3) ((ex_ok b).1 sc X E r c hx h4) h2, fun sc X E x c hx h => by
    cases x <;> first | exact ff h | skip
    rename_i l ops cs p
    rcases ops with _ | ⟨o, _ | ⟨_, _⟩⟩ <;> rcases cs with _ | ⟨r, _ | ⟨_, _⟩⟩ <;> first | exact ff h | skip
    have h : (decide (o = pyC op) && noSet r && mtE N G.gn a sc l && mtE N G.gn b sc r) = true := h
    simp only [Bool.and_eq_true, decide_eq_true_eq] at h
    obtain ⟨⟨⟨rfl, h2⟩, h3⟩, h4⟩ := h
    exact pt_cmp' c.hu ((ex_ok a).1 sc X E l c hx h3) ((ex_ok b).1 sc X E r c hx h4) h2⟩
  | .cmp2 o1 o2 a b d => ⟨fun sc X E x c hx h => by
    cases x <;> first | exact ff h | skip
    rename_i l ops cs p
    rcases ops with _ | ⟨p1, _ | ⟨p2, _ | ⟨_, _⟩⟩⟩ <;> rcases cs with _ | ⟨m, _ | ⟨r, _ | ⟨_, _⟩⟩⟩ <;> first | exact ff h | skip
    have h : (decide (p1 = pyC o1) && decide (p2 = pyC o2) && noSet r && mtE N G.gn a sc l && mtE N G.gn b sc m && mtE N G.gn d sc r) = true := h
    simp only [Bool.and_eq_true, decide_eq_true_eq] at h
    obtain ⟨⟨⟨⟨⟨rfl, rfl⟩, h2⟩, h3⟩, h4⟩, h5⟩ := h
    exact ab_cmp2 c.hu ((ex_ok a).1 sc X E l c hx h3) ((ex_ok b).1 sc X E m c hx h4) ((ex_ok d).1 sc X E r c hx h5) h2, fun sc X E x c hx h => by
    cases x <;> first | exact ff h | skip
    rename_i l ops cs p
    rcases ops with _ | ⟨p1, _ | ⟨p2, _ | ⟨_, _⟩⟩⟩ <;> rcases cs with _ | ⟨m, _ | ⟨r, _ | ⟨_, _⟩⟩⟩ <;> first | exact ff h | skip
    have h : (decide (p1 = pyC o1) && decide (p2 = pyC o2) && noSet r && mtE N G.gn a sc l && mtE N G.gn b sc m && mtE N G.gn d sc r) = true := h
    simp only [Bool.and_eq_true, decide_eq_true_eq] at h
    obtain ⟨⟨⟨⟨⟨rfl, rfl⟩, h2⟩, h3⟩, h4⟩, h5⟩ := h
    exact pt_cmp2 c.hu ((ex_ok a).1 sc X E l c hx h3) ((ex_ok b).1 sc X E m c hx h4) ((ex_ok d).1 sc X E r c hx h5) h2⟩
  | .not a => ⟨fun sc X E x c hx h => by
    cases x <;> first | exact ff h | skip
    rename_i o l p
    have h : (decide (o = .Not) && mtE N G.gn a sc l) = true := h
    simp only [Bool.and_eq_true, decide_eq_true_eq] at h
    obtain ⟨rfl, h2⟩ := h
    exact ab_not ((ex_ok a).1 sc X E l c hx h2), fun sc X E x c hx h => by
    cases x <;> first | exact ff h | skip
    rename_i o l p
    have h : (decide (o = .Not) && mtE N G.gn a sc l) = true := h
    simp only [Bool.and_eq_true, decide_eq_true_eq] at h
    obtain ⟨rfl, h2⟩ := h
    exact pt_not' ((ex_ok a).2 sc X E l c hx h2)⟩
  | .and a b => ⟨fun sc X E x c hx h => by
    cases x <;> first | exact ff h | skip
    rename_i o vs p
    cases o <;> first | exact ff h | skip
    rcases vs with _ | ⟨e1, _ | ⟨e2, _ | ⟨e3, r⟩⟩⟩ <;> first | exact ff h | skip
    · have h : (mtE N G.gn a sc e1 && mtE N G.gn b sc e2) = true := h
      simp only [Bool.and_eq_true] at h
      exact ab_and ((ex_ok a).1 sc X E e1 c hx h.1) (L2.pe_one ((ex_ok b).1 sc X E e2 c hx h.2))
    · have h : (mtE N G.gn a sc e1 && mtE N G.gn b sc (.BoolOp .And (e2 :: e3 :: r) p)) = true := h
      simp only [Bool.and_eq_true] at h
      exact ab_and ((ex_ok a).1 sc X E e1 c hx h.1) ((ex_ok b).1 sc X E _ c hx h.2), fun sc X E x c hx h => by
    cases x <;> first | exact ff h | skip
    rename_i o vs p
    cases o <;> first | exact ff h | skip
    rcases vs with _ | ⟨e1, _ | ⟨e2, _ | ⟨e3, r⟩⟩⟩ <;> first | exact ff h | skip
    · have h : (mtE N G.gn a sc e1 && mtE N G.gn b sc e2) = true := h
      simp only [Bool.and_eq_true] at h
      exact pt_and' ((ex_ok a).2 sc X E e1 c hx h.1) (GL.pt_one ((ex_ok b).2 sc X E e2 c hx h.2))
    · have h : (mtE N G.gn a sc e1 && mtE N G.gn b sc (.BoolOp .And (e2 :: e3 :: r) p)) = true := h
      simp only [Bool.and_eq_true] at h
      exact pt_and' ((ex_ok a).2 sc X E e1 c hx h.1) ((ex_ok b).2 sc X E _ c hx h.2)⟩
  | .or a b => ⟨fun sc X E x c hx h => by
    cases x <;> first | exact ff h | skip
    rename_i o vs p
    cases o <;> first | exact ff h | skip
    rcases vs with _ | ⟨e1, _ | ⟨e2, _ | ⟨e3, r⟩⟩⟩ <;> first | exact ff h | skip
    · have h : (mtE N G.gn a sc e1 && mtE N G.gn b sc e2) = true := h
      simp only [Bool.and_eq_true] at h
      exact ab_or ((ex_ok a).1 sc X E e1 c hx h.1) (L2.pe_one ((ex_ok b).1 sc X E e2 c hx h.2))
    · have h : (mtE N G.gn a sc e1 && mtE N G.gn b sc (.BoolOp .Or (e2 :: e3 :: r) p)) = true := h
      simp only [Bool.and_eq_true] at h
      exact ab_or ((ex_ok a).1 sc X E e1 c hx h.1) ((ex_ok b).1 sc X E _ c hx h.2), fun sc X E x c hx h => by
    cases x <;> first | exact ff h | skip
    rename_i o vs p
    cases o <;> first | exact ff h | skip
    rcases vs with _ | ⟨e1, _ | ⟨e2, _ | ⟨e3, r⟩⟩⟩ <;> first | exact ff h | skip
    · have h : (mtE N G.gn a sc e1 && mtE N G.gn b sc e2) = true := h
      simp only [Bool.and_eq_true] at h
      exact pt_or' ((ex_ok a).2 sc X E e1 c hx h.1) (GL.pt_one ((ex_ok b).2 sc X E e2 c hx h.2))
    · have h : (mtE N G.gn a sc e1 && mtE N G.gn b sc (.BoolOp .Or (e2 :: e3 :: r) p)) = true := h
      simp only [Bool.and_eq_true] at h
      exact pt_or' ((ex_ok a).2 sc X E e1 c hx h.1) ((ex_ok b).2 sc X E _ c hx h.2)⟩
  | .ite d a b => ⟨fun sc X E x c hx h => by
    cases x <;> first | exact ff h | skip
    rename_i t y z p
    obtain ⟨h1, h2, h3⟩ := and3 (show (mtE N G.gn d sc t && mtE N G.gn a sc y && mtE N G.gn b sc z) = true from h)
    exact ab_ite ((ex_ok d).2 sc X E t c hx h1) ((ex_ok a).1 sc X E y c hx h2) ((ex_ok b).1 sc X E z c hx h3), fun sc X E x c hx h => by
    cases x <;> first | exact ff h | skip
    rename_i t y z p
    obtain ⟨h1, h2, h3⟩ := and3 (show (mtE N G.gn d sc t && mtE N G.gn a sc y && mtE N G.gn b sc z) = true from h)
    exact pt_ite' ((ex_ok d).2 sc X E t c hx h1) ((ex_ok a).2 sc X E y c hx h2) ((ex_ok b).2 sc X E z c hx h3)⟩
  | .tup es => okP (fun sc X E x c hx h => by
    cases x <;> first | exact ff h | skip
    exact ab_tup (es_ok es sc X E _ c hx h)) fun sc x h => by
    cases x <;> first | exact ff h | rfl
  | .lst es => okP (fun sc X E x c hx h => by
    cases x <;> first | exact ff h | skip
    exact ab_lst (es_ok es sc X E _ c hx h)) fun sc x h => by
    cases x <;> first | exact ff h | rfl
  | .pkx i e => okP (fun sc X E x c hx h => by
    cases x <;> first | exact ff h | skip
    rename_i b y p
    cases b <;> first | exact ff h | skip
    obtain ⟨h1, h2, h3⟩ := and3 (show (nmB N sc i _ && noSlc y && mtE N G.gn e sc y) = true from h)
    obtain ⟨k1, k2, k3, k4⟩ := nmB_ok c h1
    exact ab_pkx c h2 k1 k2 k3 k4 ((ex_ok e).1 sc X E y c hx h3)) fun sc x h => by
    cases x <;> first | exact ff h | rfl
  | .pkl i => okP (fun sc X E x c hx h => by
    cases x <;> first | exact ff h | skip
    rename_i f args kws p
    cases f <;> first | exact ff h | skip
    rcases args with _ | ⟨a, as⟩
    · exact ff h
    cases a <;> first | exact ff h | skip
    rcases as with _ | ⟨_, _⟩ <;> first | exact ff h | skip
    cases kws <;> first | exact ff h | skip
    have h : (blB G.gn sc _ "len" && nmB N sc i _) = true := h
    simp only [Bool.and_eq_true] at h
    obtain ⟨rfl, hg, hm⟩ := blB_ok c P h.1
    obtain ⟨k1, k2, k3, k4⟩ := nmB_ok c h.2
    exact ab_pkl hg hm k1 k2 k3 k4) fun sc x h => by
    cases x <;> first | exact ff h | rfl
  | .pkf i f => okP (fun sc X E x c hx h => by
    cases x <;> first | exact ff h | skip
    rename_i b y p
    cases b <;> first | exact ff h | skip
    have h : (nmB N sc i _ && decide (f = y)) = true := h
    simp only [Bool.and_eq_true, decide_eq_true_eq] at h
    obtain ⟨h1, rfl⟩ := h
    obtain ⟨k1, k2, k3, k4⟩ := nmB_ok c h1
    exact ab_pkf (flds_ok P L c) k1 k2 k3 k4) fun sc x h => by
    cases x <;> first | exact ff h | rfl
  | .ix a i => okP (fun sc X E x c hx h => by
    cases x <;> first | exact ff h | skip
    obtain ⟨h1, h2, h3⟩ := and3 (show (noSlc _ && mtE N G.gn a sc _ && mtE N G.gn i sc _) = true from h)
    exact ab_ix c.hu h1 ((ex_ok a).1 sc X E _ c hx h2) ((ex_ok i).1 sc X E _ c hx h3)) fun sc x h => by
    cases x <;> first | exact ff h | rfl
  | .sl a lo hi => okP (fun sc X E x c hx h => by
    cases x <;> first | exact ff h | skip
    rename_i b y p
    cases y <;> first | exact ff h | skip
    rename_i l hh st p2
    cases st <;> first | exact ff h | skip
    obtain ⟨h1, h2, h3⟩ := and3 (show (mtE N G.gn a sc _ && mtEo N G.gn lo sc l && mtEo N G.gn hi sc hh) = true from h)
    exact ab_sl ((ex_ok a).1 sc X E _ c hx h1) (eo_ok lo sc X E _ c hx h2) (eo_ok hi sc X E _ c hx h3)) fun sc x h => by
    cases x <;> first | exact ff h | rfl
  | .rev a => okP (fun sc X E x c hx h => by
    cases x <;> first | exact ff h | skip
    rename_i b y p
    cases y <;> first | exact ff h | skip
    rename_i l hh st p2
    cases l <;> first | exact ff h | skip
    cases hh <;> first | exact ff h | skip
    rcases st with _ | s
    · exact ff h
    cases s <;> first | exact ff h | skip
    rename_i o v p3
    cases o <;> first | exact ff h | skip
    cases v <;> first | exact ff h | skip
    rename_i v kk p4
    cases v <;> first | exact ff h | skip
    rename_i n
    have h : (decide (n = 1) && mtE N G.gn a sc b) = true := h
    simp only [Bool.and_eq_true, decide_eq_true_eq] at h
    obtain ⟨rfl, h⟩ := h
    exact ab_rev ((ex_ok a).1 sc X E _ c hx h)) fun sc x h => by
    cases x <;> first | exact ff h | rfl
  | .fld a f => okP (fun sc X E x c hx h => by
    cases x <;> first | exact ff h | skip
    obtain ⟨h1, h2, h3⟩ := and3 (show (decide (f = _) && noSup _ && mtE N G.gn a sc _) = true from h)
    have h1 := of_decide_eq_true h1
    subst h1
    exact ab_fld (flds_ok P L c) h2 ((ex_ok a).1 sc X E _ c hx h3)) fun sc x h => by
    cases x <;> first | exact ff h | rfl
  | .xfld a f => okP (fun sc X E x c hx h => ff (by cases x <;> exact h)) fun sc x h => ff (by cases x <;> exact h)
  | .prop a f => okP (fun sc X E x c hx h => by
    cases x <;> first | exact ff h | skip
    obtain ⟨h1, h2, h3⟩ := and3 (show (decide (f = _) && noSup _ && mtE N G.gn a sc _) = true from h)
    have h1 := of_decide_eq_true h1
    subst h1
    exact ab_prop c L P h2 ((ex_ok a).1 sc X E _ c hx h3)) fun sc x h => by
    cases x <;> first | exact ff h | rfl
  | .call f es => okP (fun sc X E x c hx h => by
    cases x <;> first | exact ff h | skip
    rename_i b args kws p
    cases b <;> first | exact ff h | skip
    cases kws <;> first | exact ff h | skip
    obtain ⟨h1, h2, h3⟩ := and3 (show (fnB G.gn sc _ f && args.all noStar && mtEs N G.gn es sc args) = true from h)
    exact ab_call c L P hx h1 h2 (es_an P L es sc X E _ c h3 (es_ok es sc X E _ c hx h3))) fun sc x h => by
    cases x <;> first | exact ff h | rfl
  | .callk f n ks perm es kes => okP (fun sc X E x c hx h => by
    cases x <;> first | exact ff h | skip
    rename_i b args kws p
    cases b <;> first | exact ff h | skip
    have h : (fnB G.gn sc _ f && args.all noStar && !ks.isEmpty && mtEs N G.gn es sc args && mtKs N G.gn ks kes sc kws) = true := h
    simp only [Bool.and_eq_true] at h
    obtain ⟨⟨⟨⟨h1, h2⟩, h3⟩, h4⟩, h5⟩ := h
    obtain ⟨k1, k2⟩ := ks_ok kes ks sc X E kws c hx h5
    exact ab_callk c L P hx h1 h2 (es_an P L es sc X E _ c h4 (es_ok es sc X E _ c hx h4)) k1 k2) fun sc x h => by
    cases x <;> first | exact ff h | rfl
  | .meth o m es => okP (fun sc X E x c hx h => by
    cases x <;> first | exact ff h | skip
    rename_i b args kws p
    cases b <;> first | exact ff h | skip
    rename_i y g ap
    cases kws <;> first | exact ff h | skip
    have h : (decide (m = g) && noSup y && args.all noStar && decide (args.length < 30) && lineB ap p && mtE N G.gn o sc y && mtEs N G.gn es sc args) = true := h
    simp only [Bool.and_eq_true, decide_eq_true_eq] at h
    obtain ⟨⟨⟨⟨⟨⟨rfl, h2⟩, h3⟩, h4⟩, h5⟩, h6⟩, h7⟩ := h
    exact ab_meth c L P hx h3 h4 h2 h5 ((ex_ok o).1 sc X E _ c hx h6) (es_an P L es sc X E _ c h7 (es_ok es sc X E _ c hx h7))) fun sc x h => by
    cases x <;> first | exact ff h | rfl
  | .new cc es => okP (fun sc X E x c hx h => by
    cases x <;> first | exact ff h | skip
    rename_i b args kws p
    cases b <;> first | exact ff h | skip
    cases kws <;> first | exact ff h | skip
    obtain ⟨h1, h2, h3⟩ := and3 (show (clB G.gn sc _ cc && args.all noStar && mtEs N G.gn es sc args) = true from h)
    exact ab_new c L P hx h1 h2 (es_an P L es sc X E _ c h3 (es_ok es sc X E _ c hx h3))) fun sc x h => by
    cases x <;> first | exact ff h | rfl
  | .bi b es => okP (fun sc X E x c hx h => by
    cases x <;> first | exact ff h | skip
    rename_i f args kws p
    cases f <;> first | exact ff h | skip
    cases args <;> first | exact ff h | skip
    cases kws <;> first | exact ff h | skip
    obtain ⟨h1, h2, h3⟩ := and3 (show (blB G.gn sc _ (biN b) && (_ :: _ : List Expr).all noStar && mtEs N G.gn es sc (_ :: _)) = true from h)
    exact ab_bi c P h1 h2 (es_ok es sc X E _ c hx h3)) fun sc x h => by
    cases x <;> first | exact ff h | rfl
  | .bm o m es => okP (fun sc X E x c hx h => by
    cases x <;> first | exact ff h | skip
    rename_i b args kws p
    cases b <;> first | exact ff h | skip
    rename_i y g ap
    cases args <;> first | exact ff h | skip
    rename_i a0 args
    cases kws <;> first | exact ff h | skip
    have h : (decide (m = .join) && decide (g = bmN m) && noSup y && (a0 :: args).all noStar && decide ((a0 :: args).length < 30) && lineB ap p && mtE N G.gn o sc y && mtEs N G.gn es sc (a0 :: args)) = true := h
    simp only [Bool.and_eq_true, decide_eq_true_eq] at h
    obtain ⟨⟨⟨⟨⟨⟨⟨rfl, rfl⟩, h2⟩, h3⟩, h4⟩, h5⟩, h6⟩, h7⟩ := h
    exact ab_join h2 (by simpa only [List.all_cons, Bool.and_eq_true] using h3) h4 h5 ((ex_ok o).1 sc X E _ c hx h6) (es_ok es sc X E _ c hx h7)) fun sc x h => by
    cases x <;> first | exact ff h | rfl
  | .isi a ts => okP (fun sc X E x c hx h => by
    cases x <;> first | exact ff h | skip
    rename_i f args kws p
    cases f <;> first | exact ff h | skip
    rename_i fnm fp
    rcases args with _ | ⟨e, _ | ⟨t, _ | ⟨_, _⟩⟩⟩ <;> first | exact ff h | skip
    cases kws <;> first | exact ff h | skip
    by_cases ht : ∃ l kk q, t = .Tuple l kk q
    · obtain ⟨l, kk, q, rfl⟩ := ht
      have h : (blB G.gn sc _ "isinstance" && noStar e && noStar (.Tuple l kk q) && mtE N G.gn a sc e && (decide (ts.length < 100) && mtYs G.gn sc ts l)) = true := h
      simp only [Bool.and_eq_true, decide_eq_true_eq] at h
      obtain ⟨⟨⟨⟨h1, h2⟩, h3⟩, h4⟩, h5, h6⟩ := h
      exact ab_isiT c P L h1 h2 ((ex_ok a).1 sc X E _ c hx h4) h6 h5
    · rcases ts with _ | ⟨y, _ | ⟨_, _⟩⟩
      · have h : (blB G.gn sc fnm "isinstance" && noStar e && noStar t && mtE N G.gn a sc e && false) = true := by
          cases t <;> first | exact h | exact absurd ⟨_, _, _, rfl⟩ ht
        simp at h
      · have h : (blB G.gn sc fnm "isinstance" && noStar e && noStar t && mtE N G.gn a sc e && mtY G.gn sc y t) = true := by
          cases t <;> first | exact h | exact absurd ⟨_, _, _, rfl⟩ ht
        simp only [Bool.and_eq_true] at h
        obtain ⟨⟨⟨⟨h1, h2⟩, h3⟩, h4⟩, h5⟩ := h
        exact ab_isi1 c P L h1 h2 h3 ((ex_ok a).1 sc X E _ c hx h4) h5
      · have h : (blB G.gn sc fnm "isinstance" && noStar e && noStar t && mtE N G.gn a sc e && false) = true := by
          cases t <;> first | exact h | exact absurd ⟨_, _, _, rfl⟩ ht
        simp at h) fun sc x h => by
    cases x <;> first | exact ff h | rfl
  | .rng a b cc => okP (fun sc X E x c hx h => by
    cases x <;> first | exact ff h | skip
    rename_i l args kws p
    cases l <;> first | exact ff h | skip
    rename_i ln lp
    rcases args with _ | ⟨r, as⟩
    · exact ff h
    cases r <;> first | exact ff h | skip
    rename_i f args kws3 p3
    cases f <;> first | exact ff h | skip
    rename_i fn fp
    cases kws3 <;> first | exact ff h | skip
    rcases as with _ | ⟨_, _⟩ <;> first | exact ff h | skip
    cases kws <;> first | exact ff h | skip
    rcases args with _ | ⟨e1, _ | ⟨e2, _ | ⟨_, _⟩⟩⟩
    · exact (Bool.and_eq_true_iff.mp h).2 |> ff
    · cases a <;> first | exact (Bool.and_eq_true_iff.mp h).2 |> ff | skip
      rename_i i
      have h : (blB G.gn sc ln "list" && blB G.gn sc fn "range" && (noStar e1 && true) && decide (cc = 1) && (decide (i = 0) && mtE N G.gn b sc e1)) = true := h
      simp only [Bool.and_eq_true, decide_eq_true_eq, Bool.and_true] at h
      obtain ⟨⟨⟨⟨h1, h2⟩, h3⟩, rfl⟩, rfl, h5⟩ := h
      exact ab_rng1 c P h1 h2 h3 ((ex_ok b).1 sc X E e1 c hx h5)
    · have h : (blB G.gn sc ln "list" && blB G.gn sc fn "range" && (noStar e1 && (noStar e2 && true)) && decide (cc = 1) && (mtE N G.gn a sc e1 && mtE N G.gn b sc e2)) = true := h
      simp only [Bool.and_eq_true, decide_eq_true_eq, Bool.and_true] at h
      obtain ⟨⟨⟨⟨h1, h2⟩, h3, h4⟩, rfl⟩, h5, h6⟩ := h
      exact ab_rng2 c P h1 h2 h3 h4 ((ex_ok a).1 sc X E e1 c hx h5) ((ex_ok b).1 sc X E e2 c hx h6)
    · exact (Bool.and_eq_true_iff.mp h).2 |> ff) fun sc x h => by
    cases x <;> first | exact ff h | rfl
  | .comp elt g own => okP (fun sc X E x c hx h => by
    cases x <;> first | exact ff h | skip
    rename_i e gens scope pos
    have h : (blkC N sc scope own && (gslots g).all (fun i => decide (i ∈ own.map (·.2))) && mtGs N G.gn g sc (relS scope sc) scope gens && mtE N G.gn elt (relS scope sc) e) = true := h
    simp only [Bool.and_eq_true] at h
    obtain ⟨⟨⟨h1, h2⟩, h3⟩, h4⟩ := h
    have ho : ∀ i ∈ gslots g, i ∈ own.map (·.2) := by simpa only [List.all_eq_true, decide_eq_true_eq] using h2
    refine (comp_ok g sc X (.list e) (own := own) (F := FL K elt) (ov := OV.lst) (a0 := []) e c h1 ho h3 (fun Y cY eK hxe hp D all d he => (pcl_list he hxe ((ex_ok elt).1 _ Y pF e cY hp h4)).imp fun σ H Nx hh => ?_) (fun _ => ⟨[], rfl, Reps.nil⟩)).imp fun σ H Q ⟨g0, ρ, S, re, rs, p⟩ => ?_
    · have := emit_list (X := Y) hh
      exact this
    · simp only [evE] at p
      refine ⟨g0, ρ, S, re, rs, ?_⟩
      have p : Post X.K G.cA (Rep X.K G.cA) g0 (M.nox (evG K g (FL K elt) ρ (wipeE ρ (own.map (·.2))) [] >>= fun xs => pure (.lst xs)) S) Q E := p
      unfold M.nox at p
      cases em : evG K g (FL K elt) ρ (wipeE ρ (own.map (·.2))) [] S with
      | bad => rw [M.bind_bad em] at p; exact p.elim
      | ex z S1 => rw [M.bind_ex em] at p; exact p.elim
      | ok acc SF =>
        rw [M.bind_ok em] at p
        refine ⟨acc, SF, rfl, fun D g' H' o' lD hn rs' ⟨vs, eo, rr⟩ => ?_⟩
        subst eo
        obtain ⟨q1, q2⟩ := RelS.freeze lD hn rs'
        refine p _ _ _ q1 q2 ?_
        simp only [Rep]
        exact ⟨D, vs, rfl, upd_same, Reps.monoF (g := g') (g' := ⟨upd g'.F D (.lst vs), g'.π, g0.R⟩) ⟨fun a o z => by
          show upd g'.F D (.lst vs) a = some o
          rw [upd_ne (fun e => by
            have rD : g'.R D = some (.lst vs) := by rw [lD.R, upd_same]
            rw [e] at z
            rw [rs'.dis _ _ z] at rD; cases rD)]
          exact z, fun _ _ z => z⟩ _ _ rr⟩) fun sc x h => by
    cases x <;> first | exact ff h | rfl
  | .dcomp e1 e2 g own => okP (fun sc X E x c hx h => by
    cases x <;> first | exact ff h | skip
    rename_i k1 v1 gens scope pos
    have h : (blkC N sc scope own && (gslots g).all (fun i => decide (i ∈ own.map (·.2))) && mtGs N G.gn g sc (relS scope sc) scope gens && mtE N G.gn e1 (relS scope sc) k1 && mtE N G.gn e2 (relS scope sc) v1) = true := h
    simp only [Bool.and_eq_true] at h
    obtain ⟨⟨⟨⟨h1, h2⟩, h3⟩, h4⟩, h5⟩ := h
    have ho : ∀ i ∈ gslots g, i ∈ own.map (·.2) := by simpa only [List.all_eq_true, decide_eq_true_eq] using h2
    refine (pe_lockV (comp_ok g sc X (.dict k1 v1) (own := own) (F := FD K e1 e2) (ov := fun p : List DK × List DV => OV.dct p.1 p.2) (a0 := ([], [])) k1 c h1 ho h3 (fun Y cY eK hxe hp D all d he => (pcl_dict he hxe ((ex_ok e1).1 _ Y pF k1 cY hp h4) ((ex_ok e2).1 _ Y pF v1 cY hp h5)).imp fun σ H Nx hh => ?_) (fun _ => ⟨[], rfl, rfl, rfl, List.nodup_nil, Reps.nil⟩))).imp fun σ H Q ⟨g0, ρ, S, re, rs, p⟩ => ?_
    · have := emit_dict (X := Y) hh
      exact this
    · simp only [evE] at p
      refine ⟨g0, ρ, S, re, rs, ?_⟩
      have p : Post X.K G.cA (Rep X.K G.cA) g0 (M.nox (evG K g (FD K e1 e2) ρ (wipeE ρ (own.map (·.2))) ([], []) >>= fun xs => pure (.dct xs.1 xs.2)) S) Q E := p
      unfold M.nox at p
      cases em : evG K g (FD K e1 e2) ρ (wipeE ρ (own.map (·.2))) ([], []) S with
      | bad => rw [M.bind_bad em] at p; exact p.elim
      | ex z S1 => rw [M.bind_ex em] at p; exact p.elim
      | ok acc SF =>
        rw [M.bind_ok em] at p
        refine ⟨acc, SF, rfl, fun D g' H' o' lD hn rs' ⟨vs, eo, j1, j2, j3, rr⟩ => ?_⟩
        subst eo
        refine ⟨D, .dK ((acc.1.map kOf).zip vs), rfl, rs'.hR _ _ (by rw [lD.R, upd_same]), True.intro, fun od => ?_⟩
        obtain ⟨w1, w2⟩ := RelS.lock (o2 := .frz od (.dK ((acc.1.map kOf).zip vs))) lD rs'
        obtain ⟨q1, q2⟩ := RelS.freeze w1 hn w2
        refine p _ _ _ q1 q2 ?_
        simp only [Rep]
        refine ⟨D, od, vs, rfl, upd_same, j1, j2, j3, Reps.monoF (g := g') (g' := ⟨upd g'.F D (.frz od (.dK ((acc.1.map kOf).zip vs))), g'.π, g0.R⟩) ⟨fun a o z => ?_, fun _ _ z => z⟩ _ _ rr⟩
        show upd g'.F D _ a = some o
        rw [upd_ne (fun e => by
            have rD : g'.R D = some (.dK ((acc.1.map kOf).zip vs)) := by rw [lD.R, upd_same]
            rw [e] at z
            rw [rs'.dis _ _ z] at rD; cases rD)]
        exact z) fun sc x h => by
    cases x <;> first | exact ff h | rfl
  | .sset a => okP (fun sc X E x c hx h => ff (by cases x <;> exact h)) fun sc x h => ff (by cases x <;> exact h)
  | .lset a => okP (fun sc X E x c hx h => ff (by cases x <;> exact h)) fun sc x h => ff (by cases x <;> exact h)
  | .shr f => okP (fun sc X E x c hx h => by
    have h : (plainT x && mtF N G.gn f sc x) = true := h
    simp only [Bool.and_eq_true] at h
    exact ab_shr (cf_ok f sc X E x c hx h.2)) fun sc x h => by
    have h : (plainT x && mtF N G.gn f sc x) = true := h
    simp only [Bool.and_eq_true] at h
    exact h.1
theorem cf_ok : ∀ (f : CF) (sc : Scope) (X : Cx) (E : XK) (x : Expr), CtxOk G k N sc X → Passes (L2.CX X.prog X.w) X E → mtF N G.gn f sc x = true → PE X x (TAF X G.cA E (evF K f))
  | .lst es, sc, X, E, x, c, hx, h => by
    cases x <;> first | exact ff h | skip
    exact af_lst (es_ok es sc X E _ c hx h)
  | .bi b a, sc, X, E, x, c, hx, h => by
    cases x <;> first | exact ff h | skip
    rename_i f args kws p
    cases f <;> first | exact ff h | skip
    rcases args with _ | ⟨e, _ | ⟨_, _⟩⟩ <;> first | exact ff h | skip
    cases kws <;> first | exact ff h | skip
    have h : (decide (b = .list) && blB G.gn sc _ "list" && noStar e && mtE N G.gn a sc e) = true := h
    simp only [Bool.and_eq_true, decide_eq_true_eq] at h
    obtain ⟨⟨⟨rfl, h2⟩, h3⟩, h4⟩ := h
    exact af_list c P h2 h3 ((ex_ok a).1 sc X E _ c hx h4)
  | .add a b, sc, X, E, x, c, hx, h => by
    cases x <;> first | exact ff h | skip
    rename_i l o r p
    obtain ⟨h1, h2, h3⟩ := and3 (show (decide (o = .Add) && mtE N G.gn a sc l && mtE N G.gn b sc r) = true from h)
    have h1 := of_decide_eq_true h1
    subst h1
    exact af_add ((ex_ok a).1 sc X E l c hx h2) ((ex_ok b).1 sc X E r c hx h3)
  | .sl a lo hi, sc, X, E, x, c, hx, h => by
    cases x <;> first | exact ff h | skip
    rename_i b y p
    cases y <;> first | exact ff h | skip
    rename_i l hh st p2
    cases st <;> first | exact ff h | skip
    obtain ⟨h1, h2, h3⟩ := and3 (show (mtE N G.gn a sc _ && mtEo N G.gn lo sc l && mtEo N G.gn hi sc hh) = true from h)
    exact af_sl ((ex_ok a).1 sc X E _ c hx h1) (eo_ok lo sc X E _ c hx h2) (eo_ok hi sc X E _ c hx h3)
  | .rng a b cc, sc, X, E, x, c, hx, h => by
    cases x <;> first | exact ff h | skip
    rename_i l args kws p
    cases l <;> first | exact ff h | skip
    rename_i ln lp
    rcases args with _ | ⟨r, as⟩
    · exact ff h
    cases r <;> first | exact ff h | skip
    rename_i f args kws3 p3
    cases f <;> first | exact ff h | skip
    rename_i fn fp
    cases kws3 <;> first | exact ff h | skip
    rcases as with _ | ⟨_, _⟩ <;> first | exact ff h | skip
    cases kws <;> first | exact ff h | skip
    rcases args with _ | ⟨e1, _ | ⟨e2, _ | ⟨_, _⟩⟩⟩
    · exact (Bool.and_eq_true_iff.mp h).2 |> ff
    · cases a <;> first | exact (Bool.and_eq_true_iff.mp h).2 |> ff | skip
      rename_i i
      have h : (blB G.gn sc ln "list" && blB G.gn sc fn "range" && (noStar e1 && true) && decide (cc = 1) && (decide (i = 0) && mtE N G.gn b sc e1)) = true := h
      simp only [Bool.and_eq_true, decide_eq_true_eq, Bool.and_true] at h
      obtain ⟨⟨⟨⟨h1, h2⟩, h3⟩, rfl⟩, rfl, h5⟩ := h
      exact af_rng1 c P h1 h2 h3 ((ex_ok b).1 sc X E e1 c hx h5)
    · have h : (blB G.gn sc ln "list" && blB G.gn sc fn "range" && (noStar e1 && (noStar e2 && true)) && decide (cc = 1) && (mtE N G.gn a sc e1 && mtE N G.gn b sc e2)) = true := h
      simp only [Bool.and_eq_true, decide_eq_true_eq, Bool.and_true] at h
      obtain ⟨⟨⟨⟨h1, h2⟩, h3, h4⟩, rfl⟩, h5, h6⟩ := h
      exact af_rng2 c P h1 h2 h3 h4 ((ex_ok a).1 sc X E e1 c hx h5) ((ex_ok b).1 sc X E e2 c hx h6)
    · exact (Bool.and_eq_true_iff.mp h).2 |> ff
  | .or a b, sc, X, E, x, c, hx, h => by
    cases x <;> first | exact ff h | skip
    rename_i o vs p
    cases o <;> first | exact ff h | skip
    rcases vs with _ | ⟨e1, _ | ⟨e2, _ | ⟨_, _⟩⟩⟩ <;> first | exact ff h | skip
    have h : (mtF N G.gn a sc e1 && mtF N G.gn b sc e2) = true := h
    simp only [Bool.and_eq_true] at h
    exact af_or (p2 := p) (cf_ok a sc X E e1 c hx h.1) (cf_ok b sc X E e2 c hx h.2)
  | .dct0, sc, X, E, x, c, hx, h => ff (by cases x <;> exact h)
  | .comp elt g own, sc, X, E, x, c, hx, h => by
    cases x <;> first | exact ff h | skip
    rename_i e gens scope pos
    have h : (blkC N sc scope own && (gslots g).all (fun i => decide (i ∈ own.map (·.2))) && mtGs N G.gn g sc (relS scope sc) scope gens && mtE N G.gn elt (relS scope sc) e) = true := h
    simp only [Bool.and_eq_true] at h
    obtain ⟨⟨⟨h1, h2⟩, h3⟩, h4⟩ := h
    have ho : ∀ i ∈ gslots g, i ∈ own.map (·.2) := by simpa only [List.all_eq_true, decide_eq_true_eq] using h2
    refine (comp_ok g sc X (.list e) (own := own) (F := FL K elt) (ov := OV.lst) (a0 := []) e c h1 ho h3 (fun Y cY eK hxe hp D all d he => (pcl_list he hxe ((ex_ok elt).1 _ Y pF e cY hp h4)).imp fun σ H Nx hh => ?_) (fun _ => ⟨[], rfl, Reps.nil⟩)).imp fun σ H Q ⟨g0, ρ, S, re, rs, p⟩ => ?_
    · have := emit_list (X := Y) hh
      exact this
    · simp only [evF] at p
      refine ⟨g0, ρ, S, re, rs, ?_⟩
      have p : PostF X.K G.cA g0 (M.nox (evG K g (FL K elt) ρ (wipeE ρ (own.map (·.2))) [] >>= fun xs => pure (.lst xs)) S) Q E := p
      unfold M.nox at p
      cases em : evG K g (FL K elt) ρ (wipeE ρ (own.map (·.2))) [] S with
      | bad => rw [M.bind_bad em] at p; exact p.elim
      | ex z S1 => rw [M.bind_ex em] at p; exact p.elim
      | ok acc SF =>
        rw [M.bind_ok em] at p
        refine ⟨acc, SF, rfl, fun D g' H' o' lD hn rs' ho' => ?_⟩
        obtain ⟨q1, q2, q3⟩ := RelS.out lD hn rs'
        have q := p _ D o' _ q1 q2 (by unfold unupd; rw [if_pos rfl]) (OvR.monoF (g := g') (g' := ⟨g'.F, g'.π, g0.R⟩) ⟨fun _ _ z => z, fun _ _ z => z⟩ ho')
        rw [unupd_upd q3] at q
        exact q
theorem es_ok : ∀ (es : CEs) (sc : Scope) (X : Cx) (E : XK) (xs : List Expr), CtxOk G k N sc X → Passes (L2.CX X.prog X.w) X E → mtEs N G.gn es sc xs = true → PA X xs (TAS X G.cA E (evs K es))
  | .nil, sc, X, E, xs, c, hx, h => by
    cases xs <;> first | exact ff h | exact as_nil
  | .cons false e r, sc, X, E, xs, c, hx, h => by
    cases xs <;> first | exact ff h | skip
    rename_i y ys
    have h : (noStar y && mtE N G.gn e sc y && mtEs N G.gn r sc ys) = true := h
    obtain ⟨h1, h2, h3⟩ := and3 h
    exact as_cons h1 ((ex_ok e).1 sc X E y c hx h2) (es_ok r sc X E ys c hx h3)
  | .cons true e r, sc, X, E, xs, c, hx, h => by
    cases xs <;> first | exact ff h | skip
    rename_i y ys
    cases y <;> first | exact ff h | skip
    have h : (mtE N G.gn e sc _ && mtEs N G.gn r sc ys) = true := h
    simp only [Bool.and_eq_true] at h
    exact as_star ((ex_ok e).1 sc X E _ c hx h.1) (es_ok r sc X E ys c hx h.2)
theorem ks_ok : ∀ (es : CEs) (ks : List Str) (sc : Scope) (X : Cx) (E : XK) (kws : List Keyword), CtxOk G k N sc X → Passes (L2.CX X.prog X.w) X E → mtKs N G.gn ks es sc kws = true → kws.map (·.arg) = ks.map some ∧ PK X kws (TAS X G.cA E (evs K es))
  | .nil, ks, sc, X, E, kws, c, hx, h => by
    cases ks <;> first | exact ff h | skip
    cases kws <;> first | exact ff h | skip
    refine ⟨rfl, ⟨fun pos pins s σ H Q I q => pk_nil.run pos pins s σ H Q I ?_⟩⟩
    obtain ⟨g, ρ, S, re, rs, p⟩ := q
    simp only [evs] at p
    exact p g [] H Le.rfl' rs Reps.nil
  | .cons st e r, ks, sc, X, E, kws, c, hx, h => by
    cases st
    · rcases ks with _ | ⟨k0, ks⟩
      · exact ff h
      rcases kws with _ | ⟨⟨n, y, kp⟩, ws⟩
      · exact ff h
      rcases n with _ | n
      · exact ff h
      obtain ⟨h1, h2, h3⟩ := and3 (show (decide (k0 = n) && mtE N G.gn e sc y && mtKs N G.gn ks r sc ws) = true from h)
      have h1 := of_decide_eq_true h1
      subst h1
      obtain ⟨i1, i2⟩ := ks_ok r ks sc X E ws c hx h3
      refine ⟨by rw [List.map_cons, List.map_cons, i1], ⟨fun pos pins s σ H Q I q => (pk_cons ((ex_ok e).1 sc X E y c hx h2) i2).run pos pins s σ H Q I ?_⟩⟩
      obtain ⟨g, ρ, S, re, rs, p⟩ := q
      simp only [evs] at p
      refine ⟨g, ρ, S, re, rs, p.bindE fun g1 S1 u v H1 l1 rs1 r1 p => ?_⟩
      refine ⟨g1, ρ, S1, re.mono l1, rs1, p.bindE fun g2 S2 us vs H2 l2 rs2 r2 p => ?_⟩
      exact p g2 (v :: vs) H2 Le.rfl' rs2 (Reps.cons (Rep.mono l2 _ _ r1) r2)
    · cases ks <;> exact ff h
theorem eo_ok : ∀ (o : CEo) (sc : Scope) (X : Cx) (E : XK) (x : Option Expr), CtxOk G k N sc X → Passes (L2.CX X.prog X.w) X E → mtEo N G.gn o sc x = true → PO X x (TAO X G.cA E (evo K o))
  | .no, sc, X, E, x, c, hx, h => by
    cases x <;> first | exact ff h | exact ao_no
  | .so e, sc, X, E, x, c, hx, h => by
    cases x <;> first | exact ff h | skip
    exact ao_so ((ex_ok e).1 sc X E _ c hx h)
theorem ci_ok : ∀ (i : CI) (sc : Scope) (X : Cx) (E : XK) (tg x : Expr), CtxOk G k N sc X → Passes (L2.CX X.prog X.w) X E → mtI N G.gn i sc tg x = true → PI X tg x (TAI X G.cA E (evI K i))
  | .seq e, sc, X, E, tg, x, c, hx, h => ai_seq ((ex_ok e).1 sc X E x c hx h)
  | .rng a b cc, sc, X, E, tg, x, c, hx, h => by
    cases x <;> first | exact ff h | skip
    rename_i l args kws p
    cases l <;> first | exact ff h | skip
    rename_i fn fp
    cases kws <;> first | exact ff h | skip
    rcases args with _ | ⟨e1, _ | ⟨e2, as⟩⟩
    · exact (Bool.and_eq_true_iff.mp h).2 |> ff
    · cases a <;> first | exact (Bool.and_eq_true_iff.mp h).2 |> ff | skip
      rename_i i
      have h : (blB G.gn sc fn "range" && (noStar e1 && true) && (decide (i = 0) && decide (cc = 1) && mtE N G.gn b sc e1)) = true := h
      simp only [Bool.and_eq_true, decide_eq_true_eq, Bool.and_true] at h
      obtain ⟨⟨h1, h2⟩, ⟨rfl, rfl⟩, h5⟩ := h
      exact ai_rng1 c P h1 h2 ((ex_ok b).1 sc X E e1 c hx h5)
    rcases as with _ | ⟨e3, as⟩
    · have h : (blB G.gn sc fn "range" && (noStar e1 && (noStar e2 && true)) && (decide (cc = 1) && mtE N G.gn a sc e1 && mtE N G.gn b sc e2)) = true := h
      simp only [Bool.and_eq_true, decide_eq_true_eq, Bool.and_true] at h
      obtain ⟨⟨h1, h2, h3⟩, ⟨rfl, h4⟩, h5⟩ := h
      exact ai_rng2 c P h1 h2 h3 ((ex_ok a).1 sc X E e1 c hx h4) ((ex_ok b).1 sc X E e2 c hx h5)
    · have h0 := (Bool.and_eq_true_iff.mp h).2
      cases e3 <;> first | exact ff h0 | skip
      rename_i o v p2
      cases o <;> first | exact ff h0 | skip
      cases v <;> first | exact ff h0 | skip
      rename_i v kk p3
      cases v <;> first | exact ff h0 | skip
      rename_i n
      rcases as with _ | ⟨_, _⟩
      · have h : (blB G.gn sc fn "range" && (noStar e1 && (noStar e2 && true)) && (decide (n = 1) && decide (cc = -1) && mtE N G.gn a sc e1 && mtE N G.gn b sc e2)) = true := h
        simp only [Bool.and_eq_true, decide_eq_true_eq, Bool.and_true] at h
        obtain ⟨⟨h1, h2, h3⟩, ⟨⟨rfl, rfl⟩, h4⟩, h5⟩ := h
        exact ai_rngm c P h1 h2 h3 ((ex_ok a).1 sc X E e1 c hx h4) ((ex_ok b).1 sc X E e2 c hx h5)
      · exact ff h0
  | .enum e, sc, X, E, tg, x, c, hx, h => by
    cases tg <;> first | exact ff h | skip
    cases x <;> first | exact ff h | skip
    rename_i f args kws p
    cases f <;> first | exact ff h | skip
    rcases args with _ | ⟨y, _ | ⟨_, _⟩⟩ <;> first | exact ff h | skip
    cases kws <;> first | exact ff h | skip
    obtain ⟨h1, h2, h3⟩ := and3 (show (blB G.gn sc _ "enumerate" && noStar y && mtE N G.gn e sc y) = true from h)
    exact ai_enum c P h1 h2 ((ex_ok e).1 sc X E y c hx h3)
  | .zip a b, sc, X, E, tg, x, c, hx, h => by
    cases tg <;> first | exact ff h | skip
    cases x <;> first | exact ff h | skip
    rename_i f args kws p
    cases f <;> first | exact ff h | skip
    rcases args with _ | ⟨y, _ | ⟨z, _ | ⟨_, _⟩⟩⟩ <;> first | exact ff h | skip
    cases kws <;> first | exact ff h | skip
    have h : (blB G.gn sc _ "zip" && noStar y && noStar z && mtE N G.gn a sc y && mtE N G.gn b sc z) = true := h
    simp only [Bool.and_eq_true] at h
    obtain ⟨⟨⟨⟨h1, h2⟩, h3⟩, h4⟩, h5⟩ := h
    exact ai_zip c P h1 h2 h3 ((ex_ok a).1 sc X E y c hx h4) ((ex_ok b).1 sc X E z c hx h5)
  | .items e, sc, X, E, tg, x, c, hx, h => ff (by cases tg <;> cases x <;> exact h)
theorem cc_ok : ∀ (cs : CEs) (sc : Scope) (X : Cx) (ifs : List Expr), CtxOk G k N sc X → Passes (L2.CX X.prog X.w) X pF → mtC N G.gn cs sc ifs = true → PTs X ifs (TAT X G.cA pF (fun ρ => evC K cs ρ))
  | .nil, sc, X, ifs, c, hx, h => by
    cases ifs <;> first | exact ff h | skip
    refine ⟨fun pins s σ H Q I ⟨g, ρ, S, re, rs, p⟩ => pts_nil.run pins s σ H Q I ?_⟩
    have p : Post X.K G.cA eqR g (.ok true S) Q pF := by
      simp only [evC] at p
      exact p
    exact p g true H Le.rfl' rs rfl
  | .cons st e .nil, sc, X, ifs, c, hx, h => by
    rcases ifs with _ | ⟨y, _ | ⟨_, _⟩⟩ <;> first | exact ff h | skip
    have h : mtE N G.gn e sc y = true := h
    refine ⟨fun pins s σ H Q I ⟨g, ρ, S, re, rs, p⟩ => (pts_one ((ex_ok e).2 sc X pF y c hx h)).run pins s σ H Q I ⟨g, ρ, S, re, rs, ?_⟩⟩
    have p : Post X.K G.cA eqR g ((tst (evE K e ρ) >>= fun k => if k then (pure true : M Bool) else pure false) S) Q pF := by
      simp only [evC] at p
      exact p
    show Post X.K G.cA eqR g (tst (evE K e ρ) S) Q pF
    cases et : tst (evE K e ρ) S with
    | bad => rw [M.bind_bad et] at p; exact p.elim
    | ex z S1 => rw [M.bind_ex et] at p; exact p
    | ok k S1 => rw [M.bind_ok et] at p; cases k <;> exact p
  | .cons st e (.cons st2 e2 r), sc, X, ifs, c, hx, h => by
    cases ifs <;> exact ff h
theorem cgs_ok {α : Type} {F : Env → α → M α} {ov : α → OV} {ck : CK} {all : List Comprehension} {scope : Scope} {pos : Pos} {D : Addr} (hz : ∀ g ∈ all, g.is_async = 0) (hs : ∀ g ∈ all, ∀ (env : PySem.Env) x, foldedSetIterable g.iter env x = pure x) :
    ∀ (g : CGs) (sb raw : Scope) (Y : Cx) (d : Nat) (gens : List Comprehension), CtxOk G k N sb Y → Y.xe = (fun _ _ => False) → Passes (L2.CX Y.prog Y.w) Y pF →
    (∀ x, locB raw x = true → L2.Loc Y.env.scope x ∧ (Y.fn x = true ∨ Y.env.scope.names.lookup x = some .local)) → mtGs N G.gn g sb sb raw gens = true → all.drop d = gens →
    (∀ d, all[d]? = none → PCl Y ck all scope pos d D [] (TAC Y G.cA D ov F)) → PCl Y ck all scope pos d D (gslots g) (TAC Y G.cA D ov (fun ρ acc => evG K g F ρ (wipeE ρ (gslots g)) acc))
  | .one (.mk t i cs), sb, raw, Y, d, gens, c, hxe, hp, hl, h, hd, hem => by
    rcases gens with _ | ⟨⟨tg, it, ifs, az⟩, _ | ⟨_, _⟩⟩
    · exact ff h
    · have h : (decide (az = 0) && noSet it && mtT N (locB raw) t tg && mtI N G.gn i sb tg it && mtC N G.gn cs sb ifs) = true := h
      simp only [Bool.and_eq_true, decide_eq_true_eq] at h
      obtain ⟨⟨⟨⟨rfl, h2⟩, h3⟩, h4⟩, h5⟩ := h
      have e1 : all[d]? = some ⟨tg, it, ifs, 0⟩ := by
        have := congrArg (fun l => l[0]?) hd
        simpa using this
      have e2 : all[d + 1]? = none := by
        have := congrArg (fun l => l[1]?) hd
        simpa using this
      refine (clause_step e1 hz hs hxe c.calm (ci_ok i sb Y pF tg it c hp h4) (pg_ok c.N c.nd c.calm hl t tg h3) (cc_ok cs sb Y ifs c hp h5) (hem (d + 1) e2) (fun _ hh => absurd hh (by simp)) (fun j hj => by simpa only [gslots] using hj)).imp fun σ H Q q => ?_
      simp only [evG] at q
      exact q
    · exact ff h
  | .two (.mk t i cs) r, sb, raw, Y, d, gens, c, hxe, hp, hl, h, hd, hem => by
    rcases gens with _ | ⟨⟨tg, it, ifs, az⟩, gens⟩
    · exact ff h
    · have h : (decide (az = 0) && noSet it && mtT N (locB raw) t tg && mtI N G.gn i sb tg it && mtC N G.gn cs sb ifs && mtGs N G.gn r sb sb raw gens) = true := h
      simp only [Bool.and_eq_true, decide_eq_true_eq] at h
      obtain ⟨⟨⟨⟨⟨rfl, h2⟩, h3⟩, h4⟩, h5⟩, h6⟩ := h
      have e1 : all[d]? = some ⟨tg, it, ifs, 0⟩ := by
        have := congrArg (fun l => l[0]?) hd
        simpa using this
      have e2 : all.drop (d + 1) = gens := by
        have := congrArg List.tail hd
        simpa [List.tail_drop] using this
      have hr := cgs_ok hz hs r sb raw Y (d + 1) gens c hxe hp hl h6 e2 hem
      refine (clause_step e1 hz hs hxe c.calm (ci_ok i sb Y pF tg it c hp h4) (pg_ok c.N c.nd c.calm hl t tg h3) (cc_ok cs sb Y ifs c hp h5) hr (fun j hj => by simp only [gslots, List.mem_append]; exact .inr hj) (fun j hj => by simp only [gslots, List.mem_append]; exact .inl hj)).imp fun σ H Q q => ?_
      simp only [evG] at q
      exact q
theorem comp_ok {α : Type} {F : Env → α → M α} {ov : α → OV} {a0 : α} {own : List (Str × Nat)} {scope : Scope} {pos : Pos} {gens : List Comprehension} :
    ∀ (g : CGs) (sc : Scope) (X : Cx) (ck : CK) (dummy : Expr), CtxOk G k N sc X → blkC N sc scope own = true → (∀ i ∈ gslots g, i ∈ own.map (·.2)) → mtGs N G.gn g sc (relS scope sc) scope gens = true →
    (∀ Y, CtxOk G k N (relS scope sc) Y → Y.K = X.K → Y.xe = (fun _ _ => False) → Passes (L2.CX Y.prog Y.w) Y pF → ∀ D all d, all[d]? = none → PCl Y ck all scope pos d D [] (TAC Y G.cA D ov F)) → (∀ g, OvR X.K G.cA g (ov a0) ck.o0) →
    PE X (ck.ex gens scope pos) (fun σ H Q => ∃ g0 ρ S, RelE X.K G.cA g0 ρ σ ∧ RelS X.K G.cA g0 S H ∧ ∃ acc SF, evG K g F ρ (wipeE ρ (own.map (·.2))) a0 S = .ok acc SF ∧
      ∀ D g' H' o', LeD D o' g0 g' → g0.R D = none → RelS X.K G.cA g' SF H' → OvR X.K G.cA g' (ov acc) o' → Q (.ref D) H')
  | .one (.mk t i cs), sc, X, ck, dummy, c, h1, ho, h3, hem, ha => by
    have hall := mtGs_all h3
    rcases gens with _ | ⟨⟨tg, it, ifs, az⟩, _ | ⟨_, _⟩⟩
    · exact ff h3
    · have h : (decide (az = 0) && noSet it && mtT N (locB scope) t tg && mtI N G.gn i sc tg it && mtC N G.gn cs (relS scope sc) ifs) = true := h3
      simp only [Bool.and_eq_true, decide_eq_true_eq] at h
      obtain ⟨⟨⟨⟨rfl, h2⟩, h7⟩, h4⟩, h5⟩ := h
      refine (pe_comp c.calm c.nd (ci_ok i sc X pF tg it c passF h4) (blkOk_by (by rw [c.N, c.sc]; exact h1)) (fun q hq => (hall q hq).1) (fun q hq env y => noSet_fold (hall q hq).2 env y)
        (g := gA X G.cA t) (tt := TAT X G.cA pF (fun ρ => evC K cs ρ)) (vs' := []) (t' := fun D => TAC X G.cA D ov F)
        (CtxOk.blkP c fun Y cY eK hxe hp hl => by rw [← gA_K eK]; exact pg_ok cY.N cY.nd cY.calm hl t tg h7)
        (CtxOk.blkP c fun Y cY eK hxe hp hl => by rw [← TAT_K eK]; exact cc_ok cs _ Y ifs cY hp h5)
        (CtxOk.blkP c fun Y cY eK hxe hp hl D => by rw [← TAC_K eK]; exact hem Y cY eK hxe hp D _ 1 rfl) (fun _ hh => absurd hh (by simp))).imp fun σ H Q ⟨g0, ρ, S, re, rs, acc, SF, em, hQ⟩ => ?_
      refine top_sem re rs (fun j hj => ho j (by simpa only [gslots] using hj)) (accF := acc) (SF := SF) (acc0 := a0) ?_ ha hQ
      simp only [evG] at em
      exact em
    · exact ff h3
  | .two (.mk t i cs) r, sc, X, ck, dummy, c, h1, ho, h3, hem, ha => by
    have hall := mtGs_all h3
    rcases gens with _ | ⟨⟨tg, it, ifs, az⟩, gens⟩
    · exact ff h3
    · have h : (decide (az = 0) && noSet it && mtT N (locB scope) t tg && mtI N G.gn i sc tg it && mtC N G.gn cs (relS scope sc) ifs && mtGs N G.gn r (relS scope sc) (relS scope sc) scope gens) = true := h3
      simp only [Bool.and_eq_true, decide_eq_true_eq] at h
      obtain ⟨⟨⟨⟨⟨rfl, h2⟩, h7⟩, h4⟩, h5⟩, h6⟩ := h
      have hz : ∀ q ∈ ((⟨tg, it, ifs, 0⟩ : Comprehension) :: gens), q.is_async = 0 := fun q hq => (hall q hq).1
      have hs : ∀ q ∈ ((⟨tg, it, ifs, 0⟩ : Comprehension) :: gens), ∀ (env : PySem.Env) y, foldedSetIterable q.iter env y = pure y := fun q hq env y => noSet_fold (hall q hq).2 env y
      refine (pe_comp c.calm c.nd (ci_ok i sc X pF tg it c passF h4) (blkOk_by (by rw [c.N, c.sc]; exact h1)) hz hs
        (g := gA X G.cA t) (tt := TAT X G.cA pF (fun ρ => evC K cs ρ)) (vs' := gslots r) (t' := fun D => TAC X G.cA D ov (fun ρ' a => evG K r F ρ' (wipeE ρ' (gslots r)) a))
        (CtxOk.blkP c fun Y cY eK hxe hp hl => by rw [← gA_K eK]; exact pg_ok cY.N cY.nd cY.calm hl t tg h7)
        (CtxOk.blkP c fun Y cY eK hxe hp hl => by rw [← TAT_K eK]; exact cc_ok cs _ Y ifs cY hp h5)
        (CtxOk.blkP c fun Y cY eK hxe hp hl D => by rw [← TAC_K eK]; exact cgs_ok hz hs r _ scope Y 1 gens cY hxe hp hl h6 rfl (hem Y cY eK hxe hp D _)) (fun j hj => ho j (by simp only [gslots, List.mem_append]; exact .inr hj))).imp fun σ H Q ⟨g0, ρ, S, re, rs, acc, SF, em, hQ⟩ => ?_
      refine top_sem re rs (fun j hj => ho j (by simp only [gslots, List.mem_append]; exact .inl hj)) (accF := acc) (SF := SF) (acc0 := a0) ?_ ha hQ
      simp only [evG] at em
      exact em
end
end
end GL
end
section
set_option Elab.async false
set_option linter.all false
set_option maxRecDepth 100000
/-! Statements: how slots, store and heap go together, what a run asks. -/
namespace GL
open PySem L2 PySem.Spec PyProof.Rows
/-- what the callers own; the instance that an __init__ makes -/
structure R0T where
  R : Hp
  pin : Option Addr
instance : CoeFun R0T (fun _ => Addr → Option HO) := ⟨R0T.R⟩
/-- within a body: R0 is what the callers own -/
structure SRel (K : PySem.W.Frag) (cA : Nat → Addr) (R0 : R0T) (g : Gh) (ρ : Env) (S : Sto) (σ : L2.St) (H : Hp) : Prop where
  re : RelE K cA g ρ σ
  rs : RelS K cA g S H
  r0 : ∀ a o, R0 a = some o → g.R a = some o
  out : ∀ (i : Nat) o a, ρ[i]? = some (.own o) → σ[i]? = some (some (.ref a)) → R0 a = none
  inj : ∀ (i j : Nat) o o' a, ρ[i]? = some (.own o) → ρ[j]? = some (.own o') → σ[i]? = some (some (.ref a)) → σ[j]? = some (some (.ref a)) → i = j
  pin : ∀ x c ns vs, R0.pin = some x → ρ[(0 : Nat)]? = some (.own (.obj c ns vs)) → σ[(0 : Nat)]? = some (some (.ref x))
def PostS (K : PySem.W.Frag) (cA : Nat → Addr) (R0 : R0T) (g0 : Gh) (r : RS) (D : Ends) (E : XK) : Prop := match r with
  | .nx ρ' S' => ∀ g σ' H', LeF g0 g → SRel K cA R0 g ρ' S' σ' H' → D.nx σ' H'
  | .bk ρ' S' => ∀ g σ' H', LeF g0 g → SRel K cA R0 g ρ' S' σ' H' → D.bk σ' H'
  | .ct ρ' S' => ∀ g σ' H', LeF g0 g → SRel K cA R0 g ρ' S' σ' H' → D.ct σ' H'
  | .rt d _ S' => ∀ g v H', LeF g0 g → (∀ a o, R0 a = some o → g.R a = some o) → RelS K cA g S' H' → Rep K cA g d v → D.rt v H'
  | .ex x _ S' => ∀ g H' cls d, LeF g0 g → (∀ a o, R0 a = some o → g.R a = some o) → RelS K cA g S' H' → XRep K cA g x cls d → E cls d H'
  | .bad => False
theorem PostS.mono {K : PySem.W.Frag} {cA : Nat → Addr} {R0 : R0T} {g g1 : Gh} {r : RS} {D : Ends} {E : XK} (l : LeF g g1) (h : PostS K cA R0 g r D E) : PostS K cA R0 g1 r D E := by
  cases r with
  | nx ρ S => exact fun g' σ' H' l' => h g' σ' H' (l.trans l')
  | bk ρ S => exact fun g' σ' H' l' => h g' σ' H' (l.trans l')
  | ct ρ S => exact fun g' σ' H' l' => h g' σ' H' (l.trans l')
  | rt d ρ S => exact fun g' v H' l' => h g' v H' (l.trans l')
  | ex x ρ S => exact fun g' H' cls d l' => h g' H' cls d (l.trans l')
  | bad => exact h
/-- what is owned may be left -/
theorem RelS.shrink {K : PySem.W.Frag} {cA : Nat → Addr} {g : Gh} {S : Sto} {H : Hp} {R0 : Hp} (rs : RelS K cA g S H) (h : ∀ a o, R0 a = some o → g.R a = some o) : RelS K cA { g with R := R0 } S H := by
  refine ⟨rs.hF, fun a o e => rs.hR _ _ (h _ _ e), fun a o e => ?_, rs.len, fun n o e => ?_, rs.inj⟩
  · show R0 a = none
    cases q : R0 a with
    | none => rfl
    | some u =>
      have := rs.dis _ _ e
      rw [h _ _ q] at this; cases this
  · obtain ⟨a, h', k1, k2, k3, k4, k5⟩ := rs.st n o e
    refine ⟨a, h', k1, k2, OvR.monoF (g := g) (g' := { g with R := R0 }) ⟨fun _ _ z => z, fun _ _ z => z⟩ k3, k4, ?_⟩
    show R0 a = none
    cases q : R0 a with
    | none => rfl
    | some u => rw [h _ _ q] at k5; cases k5
/-! ### new objects are lists or dicts -/
def OV.nob : OV → Bool
  | .obj _ _ _ => false
  | _ => true
def Nob (m : M OV) : Prop := ∀ S o S', m S = .ok o S' → o.nob = true
theorem Nob.bind {α : Type} {m : M α} {k : α → M OV} (h : ∀ a, Nob (k a)) : Nob (m >>= k) := fun S o S' e => by
  cases em : m S with
  | ok a S1 => rw [M.bind_ok em] at e; exact h a S1 o S' e
  | ex z S1 => rw [M.bind_ex em] at e; cases e
  | bad => rw [M.bind_bad em] at e; cases e
theorem Nob.pure {o : OV} (h : o.nob = true) : Nob (pure o) := fun S o' S' e => by cases e; exact h
theorem Nob.fail : Nob M.fail := fun S o' S' e => by cases e
theorem Nob.nox {m : M OV} (h : Nob m) : Nob (M.nox m) := fun S o S' e => by
  unfold M.nox at e
  split at e
  · next e1 => cases e; exact h _ _ _ e1
  · cases e
theorem evF_Nob (K : Cl) : ∀ (f : CF) (ρ : Env), Nob (evF K f ρ)
  | .lst es, ρ => by
    simp only [evF]
    refine Nob.bind fun xs => ?_
    split
    · exact Nob.pure rfl
    · exact Nob.fail
  | .bi b e, ρ => by
    simp only [evF]
    refine Nob.bind fun x => Nob.bind fun S => ?_
    split
    · exact Nob.pure rfl
    · split
      · exact Nob.pure rfl
      · exact Nob.fail
    · exact Nob.fail
  | .add a b, ρ => by
    simp only [evF]
    refine Nob.bind fun x => Nob.bind fun y => Nob.bind fun S => ?_
    split
    · split
      · exact Nob.pure rfl
      · exact Nob.fail
    · exact Nob.fail
  | .sl a lo hi, ρ => by
    simp only [evF]
    refine Nob.bind fun x => Nob.bind fun l => Nob.bind fun h => Nob.bind fun S => ?_
    split
    · exact Nob.pure rfl
    · exact Nob.fail
  | .rng a b c, ρ => by
    simp only [evF]
    refine Nob.bind fun x => Nob.bind fun y => ?_
    split
    · split
      · exact Nob.pure rfl
      · exact Nob.fail
    · exact Nob.fail
  | .or a b, ρ => by
    simp only [evF]
    refine Nob.bind fun o => ?_
    split
    · split
      · exact evF_Nob K b ρ
      · exact Nob.pure rfl
    · exact Nob.fail
  | .dct0, ρ => by
    simp only [evF]
    exact Nob.pure rfl
  | .comp elt g own, ρ => by
    simp only [evF]
    exact Nob.nox (Nob.bind fun xs => Nob.pure rfl)
theorem evF_nob {K : Cl} {f : CF} {ρ : Env} {S S' : Sto} {o : OV} (e : evF K f ρ S = .ok o S') : o.nob = true := evF_Nob K f ρ S o S' e
section
variable {X : Cx} {cA : Nat → Addr} {E : XK}
/-- a statement's reading -/
def TAS' (X : Cx) (cA : Nat → Addr) (R0 : R0T) (E : XK) (m : Env → Sto → RS) : TS := fun D σ H => ∃ g ρ S, SRel X.K cA R0 g ρ S σ H ∧ PostS X.K cA R0 g (m ρ S) D E
theorem SRel.grow {R0 : R0T} {g g1 : Gh} {ρ : Env} {S S1 : Sto} {σ : L2.St} {H H1 : Hp} (r : SRel X.K cA R0 g ρ S σ H) (l : Le g g1) (rs1 : RelS X.K cA g1 S1 H1) : SRel X.K cA R0 g1 ρ S1 σ H1 :=
  ⟨r.re.mono l, rs1, fun a o h => by rw [l.R]; exact r.r0 a o h, r.out, r.inj, r.pin⟩
/-- an expression ahead: what the statement does with its value -/
theorem liftE_ok {α β : Type} {rp : Gh → α → β → Prop} {R0 : R0T} {g : Gh} {ρ : Env} {S : Sto} {σ : L2.St} {H : Hp} {m : M α} {k : α → Sto → RS} {D : Ends} {Q : β → Hp → Prop} (r : SRel X.K cA R0 g ρ S σ H) (p : PostS X.K cA R0 g (liftE m ρ k S) D E)
    (h : ∀ g1 S1 a b H1, Le g g1 → SRel X.K cA R0 g1 ρ S1 σ H1 → rp g1 a b → PostS X.K cA R0 g1 (k a S1) D E → Q b H1) : Post X.K cA rp g (m S) Q E := by
  unfold liftE at p
  cases e : m S with
  | ok a S' =>
    rw [e] at p
    exact fun g' b H' l rs q => h g' S' a b H' l (r.grow l rs) q (p.mono (.of l))
  | ex x S' =>
    rw [e] at p
    exact fun g' H' cls d l rs xr => p g' H' cls d (.of l) (fun a o z => by rw [l.R]; exact r.r0 a o z) rs xr
  | bad => rw [e] at p; exact p.elim
theorem SRel.set {R0 : R0T} {g : Gh} {ρ : Env} {S : Sto} {σ : L2.St} {H : Hp} {i : Nat} {d : DV} {v : V} (r : SRel X.K cA R0 g ρ S σ H) (hi : i < ρ.length) (q : Rep X.K cA g d v) : SRel X.K cA R0 g (ρ.set i (.val d)) S (σ.set i (some v)) H := by
  refine ⟨RelE.set r.re hi q, r.rs, r.r0, fun j o a e1 e2 => ?_, fun j l o o' a e1 e2 e3 e4 => ?_, fun x c ns vs e1 e2 => ?_⟩
  rotate_right
  · obtain ⟨h1, h2⟩ := set_own e2
    rw [List.getElem?_set_ne (fun z => h2 z.symm)]
    exact r.pin x c ns vs e1 h1
  · obtain ⟨h1, h2⟩ := set_own e1
    rw [List.getElem?_set_ne (fun z => h2 z.symm)] at e2
    exact r.out j o a h1 e2
  · obtain ⟨h1, h2⟩ := set_own e1
    obtain ⟨h3, h4⟩ := set_own e2
    rw [List.getElem?_set_ne (fun z => h2 z.symm)] at e3
    rw [List.getElem?_set_ne (fun z => h4 z.symm)] at e4
    exact r.inj j l o o' a h1 h3 e3 e4

/-! ### simple statements -/
def noComp : Expr → Bool
  | .ListComp _ _ _ _ => false
  | .SetComp _ _ _ _ => false
  | .DictComp _ _ _ _ _ => false
  | _ => true
theorem noComp_ok {e : Expr} (h : noComp e = true) (t : Option Expr) (l : Nat) (env : PySem.Env) : swapsWith e t l env = pure false := by
  cases e <;> first | rfl | (unfold noComp at h; cases h)
theorem _root_.L2.PS.imp {X : Cx} {st : Stmt} {t t' : TS} (h : PS X st t) (i : ∀ D σ H, t' D σ H → t D σ H) : PS X st t' := ⟨fun pins s σ H D I q => h.run pins s σ H D I (i _ _ _ q)⟩
theorem _root_.L2.PSs.imp {X : Cx} {st : List Stmt} {t t' : TS} (h : PSs X st t) (i : ∀ D σ H, t' D σ H → t D σ H) : PSs X st t' := ⟨fun pins s σ H D I q => h.run pins s σ H D I (i _ _ _ q)⟩
variable {K : Cl} {R0 : R0T} {pos : Pos} {x : Expr} {e : CE} {a b : CSs} {sa sb : List Stmt}
theorem st_ex (hc : noComp x = true) (he : PE X x (TAE X cA E (evE K e))) : PS X (.Expr x pos) (TAS' X cA R0 E (evS K (.ex e))) := by
  refine (ps_expr he (noComp_ok hc _ _ _)).imp fun D σ H ⟨g, ρ, S, r, p⟩ => ?_
  simp only [evS] at p
  exact ⟨g, ρ, S, r.re, r.rs, liftE_ok r p fun g1 S1 d v H1 l r1 _ p => p g1 σ H1 LeF.rfl' r1⟩
theorem st_ret (he : PE X x (TAE X cA E (evE K e))) : PS X (.Return (some x) pos) (TAS' X cA R0 E (evS K (.ret e))) := by
  refine (ps_ret he).imp fun D σ H ⟨g, ρ, S, r, p⟩ => ?_
  simp only [evS] at p
  exact ⟨g, ρ, S, r.re, r.rs, liftE_ok r p fun g1 S1 d v H1 l r1 q p => p g1 v H1 LeF.rfl' r1.r0 r1.rs q⟩
theorem st_retn : PS X (.Return none pos) (TAS' X cA R0 E (evS K .retn)) := by
  refine ps_retN.imp fun D σ H ⟨g, ρ, S, r, p⟩ => ?_
  simp only [evS] at p
  exact p g .non H LeF.rfl' r.r0 r.rs Rep.non
theorem st_pass : PS X (.Pass pos) (TAS' X cA R0 E (evS K .pass)) := by
  refine ps_pass.imp fun D σ H ⟨g, ρ, S, r, p⟩ => ?_
  simp only [evS] at p
  exact p g σ H LeF.rfl' r
theorem st_brk : PS X (.Break pos) (TAS' X cA R0 E (evS K .brk)) := by
  refine ps_break.imp fun D σ H ⟨g, ρ, S, r, p⟩ => ?_
  simp only [evS] at p
  exact p g σ H LeF.rfl' r
theorem st_cnt : PS X (.Continue pos) (TAS' X cA R0 E (evS K .cnt)) := by
  refine ps_continue.imp fun D σ H ⟨g, ρ, S, r, p⟩ => ?_
  simp only [evS] at p
  exact p g σ H LeF.rfl' r
theorem st_nil : PSs X [] (TAS' X cA R0 E (evSs K .nil)) := by
  refine pss_nil.imp fun D σ H ⟨g, ρ, S, r, p⟩ => ?_
  simp only [evSs] at p
  exact p g σ H LeF.rfl' r
theorem st_cons {st : Stmt} {s : CS} (h1 : PS X st (TAS' X cA R0 E (evS K s))) (h2 : PSs X sa (TAS' X cA R0 E (evSs K a))) : PSs X (st :: sa) (TAS' X cA R0 E (evSs K (.cons s a))) := by
  refine (pss_cons h1 h2).imp fun D σ H ⟨g, ρ, S, r, p⟩ => ⟨g, ρ, S, r, ?_⟩
  simp only [evSs] at p
  cases es : evS K s ρ S with
  | nx ρ' S' => rw [es] at p; exact fun g' σ' H' l r' => ⟨g', ρ', S', r', p.mono l⟩
  | bk ρ' S' => rw [es] at p; exact p
  | ct ρ' S' => rw [es] at p; exact p
  | rt d ρ' S' => rw [es] at p; exact p
  | ex d ρ' S' => rw [es] at p; exact p
  | bad => rw [es] at p; exact p
/-- code behind a statement that never goes on -/
theorem st_last {st : Stmt} {s : CS} (h1 : PS X st (TAS' X cA R0 E (evS K s))) : PSs X [st] (TAS' X cA R0 E (evSs K (.cons s .nil))) := st_cons h1 st_nil
theorem st_if {c : Expr} {d : CE} (hc : PT X c (TAT X cA E (fun ρ => tst (evE K d ρ)))) (ha : PSs X sa (TAS' X cA R0 E (evSs K a))) (hb : PSs X sb (TAS' X cA R0 E (evSs K b))) : PS X (.If c sa sb pos) (TAS' X cA R0 E (evS K (.ite d a b))) := by
  refine (ps_if hc ha hb).imp fun D σ H ⟨g, ρ, S, r, p⟩ => ?_
  have p : PostS X.K cA R0 g (liftE (tst (evE K d ρ)) ρ (fun k S' => if k then evSs K a ρ S' else evSs K b ρ S') S) D E := by
    simp only [evS] at p
    exact p
  refine ⟨g, ρ, S, r.re, r.rs, liftE_ok r p fun g1 S1 k k' H1 l r1 q p => ?_⟩
  cases q
  cases k with
  | true => exact ⟨g1, ρ, S1, r1, p⟩
  | false => exact ⟨g1, ρ, S1, r1, p⟩

/-! ### stores -/
theorem SRel.asg {g : Gh} {ρ ρ' : Env} {S : Sto} {σ σ' : L2.St} {H : Hp} {sl : List Nat} (r : SRel X.K cA R0 g ρ S σ H) (ho : ∀ (i : Nat) o, ρ'[i]? = some (.own o) → ρ[i]? = some (.own o) ∧ i ∉ sl) (hk : ∀ i, i ∉ sl → σ'[i]? = σ[i]?) (re : RelE X.K cA g ρ' σ') : SRel X.K cA R0 g ρ' S σ' H :=
  ⟨re, r.rs, r.r0, fun i o a e1 e2 => by
    obtain ⟨h1, h2⟩ := ho i o e1
    exact r.out i o a h1 (by rw [← hk i h2]; exact e2), fun i j o o' a e1 e2 e3 e4 => by
    obtain ⟨h1, h2⟩ := ho i o e1
    obtain ⟨h3, h4⟩ := ho j o' e2
    exact r.inj i j o o' a h1 h3 (by rw [← hk i h2]; exact e3) (by rw [← hk j h4]; exact e4), fun x c ns vs e1 e2 => by
    obtain ⟨h1, h2⟩ := ho 0 _ e2
    rw [hk 0 h2]
    exact r.pin x c ns vs e1 h1⟩
def isNm : Expr → Bool
  | .Name _ _ => true
  | _ => false
def noTup : Expr → Bool
  | .Tuple _ _ _ => false
  | _ => true
theorem nm_swap {tg x : Expr} (h : (isNm tg || noTup x) = true) (env : PySem.Env) : swappedStores [tg] x env = pure none := by
  cases tg <;> cases x <;> first | rfl | (simp [isNm, noTup] at h)
theorem sole_swap {tg x : Expr} (h : noComp x = true) (l : Nat) (env : PySem.Env) : swapsWithSole [tg] x l env = pure false := noComp_ok h _ _ _
theorem st_set {tg : Expr} {t : CT} (hc : noComp x = true) (hw : (isNm tg || noTup x) = true) (hn : noStar tg = true) (hg : PG X tg (gA X cA t)) (he : PE X x (TAE X cA E (evE K e))) : PS X (.Assign [tg] x pos) (TAS' X cA R0 E (evS K (.set t e))) := by
  refine (ps_asg he hg (sole_swap hc _ _) (nm_swap hw _) (by rw [each_map hn]; rfl)).imp fun D σ H ⟨g, ρ, S, r, p⟩ => ?_
  have p : PostS X.K cA R0 g (liftE (evE K e ρ) ρ (fun d S' => match GL.asg t d ρ S' with
    | some ρ' => .nx ρ' S'
    | none => .bad) S) D E := by
    simp only [evS] at p
    exact p
  refine ⟨g, ρ, S, r.re, r.rs, liftE_ok r p fun g1 S1 d v H1 l r1 q p => ?_⟩
  cases ea : GL.asg t d ρ S1 with
  | none => rw [ea] at p; exact p.elim
  | some ρ' =>
    rw [ea] at p
    exact ⟨g1, S1, d, ρ, r1.re, r1.rs, q, ρ', ea, fun σ' re' k' _ => p g1 σ' H1 LeF.rfl' (r1.asg (asg_own t d ρ ρ' ea) k' re')⟩
/-- a new object into an own slot -/
theorem SRel.own {g : Gh} {ρ : Env} {S : Sto} {σ : L2.St} {H : Hp} {i : Nat} {o : OV} {h : HO} {a : Addr} (r : SRel X.K cA R0 g ρ S σ H) (hi : i < ρ.length) (ha : H a = none) (ho : OvR X.K cA g o h) (hob : o.nob = true) :
    SRel X.K cA R0 { g with R := upd g.R a h } (ρ.set i (.own o)) S (σ.set i (some (.ref a))) (upd H a h) := by
  have nR : g.R a = none := r.rs.noR ha
  have nF : g.F a = none := r.rs.noF ha
  have n0 : R0 a = none := by
    cases q : R0 a with
    | none => rfl
    | some u => rw [r.r0 _ _ q] at nR; cases nR
  have lF : LeF g { g with R := upd g.R a h } := ⟨fun _ _ z => z, fun _ _ z => z⟩
  have ne : ∀ (j : Nat) u b, ρ[j]? = some (.own u) → σ[j]? = some (some (.ref b)) → b ≠ a := fun j u b e1 e2 z => by
    obtain ⟨b', h', k1, k2, _⟩ := r.re.own j u e1
    rw [e2] at k1
    cases k1
    rw [z, nR] at k2; cases k2
  have hi' : i < σ.length := by rw [← r.re.len]; exact hi
  refine ⟨⟨by rw [List.length_set, List.length_set]; exact r.re.len, fun j d e => ?_, fun j u e => ?_⟩, ⟨fun b u z => ?_, fun b u z => ?_, fun b u z => ?_, r.rs.len, fun n u z => ?_, r.rs.inj⟩, fun b u z => ?_, fun j u b e1 e2 => ?_, fun j l u u' b e1 e2 e3 e4 => ?_, fun x c ns vs e1 e2 => ?_⟩
  rotate_right
  · by_cases q : i = 0
    · subst q
      rw [List.getElem?_set_self hi] at e2
      cases e2
      exact absurd hob (by simp [OV.nob])
    · rw [List.getElem?_set_ne q] at e2 ⊢
      exact r.pin x c ns vs e1 e2
  · by_cases q : i = j
    · subst q; rw [List.getElem?_set_self hi] at e; cases e
    · rw [List.getElem?_set_ne q] at e
      obtain ⟨v, k1, k2⟩ := r.re.val j d e
      exact ⟨v, by rw [List.getElem?_set_ne q]; exact k1, Rep.monoF lF _ _ k2⟩
  · by_cases q : i = j
    · subst q
      rw [List.getElem?_set_self hi] at e; cases e
      exact ⟨a, h, by rw [List.getElem?_set_self hi'], upd_same, ho.monoF lF⟩
    · rw [List.getElem?_set_ne q] at e
      obtain ⟨b, h', k1, k2, k3⟩ := r.re.own j u e
      refine ⟨b, h', by rw [List.getElem?_set_ne q]; exact k1, ?_, k3.monoF lF⟩
      show upd g.R a h b = some h'
      rw [upd_ne (ne j u b e k1)]
      exact k2
  · rw [upd_ne (fun e => by rw [e] at z; have z : g.F a = some u := z; rw [nF] at z; cases z)]; exact r.rs.hF _ _ z
  · by_cases q : b = a
    · subst q
      have z : upd g.R b h b = some u := z
      rw [upd_same] at z ⊢; exact z
    · have z : upd g.R a h b = some u := z
      rw [upd_ne q] at z ⊢; exact r.rs.hR _ _ z
  · show upd g.R a h b = none
    rw [upd_ne (fun e => by rw [e] at z; have z : g.F a = some u := z; rw [nF] at z; cases z)]
    exact r.rs.dis _ _ z
  · obtain ⟨b, h', k1, k2, k3, k4, k5⟩ := r.rs.st n u z
    have q : b ≠ a := ne_of_none k2 ha
    exact ⟨b, h', k1, by rw [upd_ne q]; exact k2, k3.monoF lF, k4, by show upd g.R a h b = none; rw [upd_ne q]; exact k5⟩
  · show upd g.R a h b = some u
    rw [upd_ne (fun e => by rw [e, n0] at z; cases z)]
    exact r.r0 _ _ z
  · by_cases q : i = j
    · subst q
      rw [List.getElem?_set_self hi'] at e2
      cases e2
      exact n0
    · rw [List.getElem?_set_ne q] at e1 e2
      exact r.out j u b e1 e2
  · by_cases q : i = j
    · subst q
      rw [List.getElem?_set_self hi'] at e3
      cases e3
      by_cases q2 : i = l
      · exact q2
      · rw [List.getElem?_set_ne q2] at e2 e4
        exact absurd rfl (ne l u' _ e2 e4)
    · rw [List.getElem?_set_ne q] at e1 e3
      by_cases q2 : i = l
      · subst q2
        rw [List.getElem?_set_self hi'] at e4
        cases e4
        exact absurd rfl (ne j u _ e1 e3)
      · rw [List.getElem?_set_ne q2] at e2 e4
        exact r.inj j l u u' b e1 e2 e3 e4
theorem liftF_ok {g : Gh} {ρ : Env} {S : Sto} {σ : L2.St} {H : Hp} {m : M OV} {k : OV → Sto → RS} {D : Ends} {Q : VK} (r : SRel X.K cA R0 g ρ S σ H) (p : PostS X.K cA R0 g (liftE m ρ k S) D E)
    (h : ∀ g1 S1 o a u H1, m S = .ok o S1 → Le g g1 → SRel X.K cA R0 g1 ρ S1 σ H1 → H1 a = none → OvR X.K cA g1 o u → PostS X.K cA R0 g1 (k o S1) D E → Q (.ref a) (upd H1 a u)) : PostF X.K cA g (m S) Q E := by
  unfold liftE at p
  cases e : m S with
  | ok a S' =>
    rw [e] at p
    exact fun g' b u H' l rs hb q => h g' S' a b u H' e l (r.grow l rs) hb q (p.mono (.of l))
  | ex x S' =>
    rw [e] at p
    exact fun g' H' cls d l rs xr => p g' H' cls d (.of l) (fun a o z => by rw [l.R]; exact r.r0 a o z) rs xr
  | bad => rw [e] at p; exact p.elim
theorem st_own {i : Nat} {nm : Str} {f : CF} {p2 : Pos} (hc : noComp x = true) (nd : X.N.Nodup) (hN : X.N[i]? = some nm) (hl : L2.Loc X.env.scope nm) (hf : X.fn nm = true) (he : PE X x (TAF X cA E (evF K f))) :
    PS X (.Assign [.Name nm p2] x pos) (TAS' X cA R0 E (evS K (.own i f))) := by
  refine (ps_set nd hN hl he (noComp_ok hc _ _ _) (.inl hf)).imp fun D σ H ⟨g, ρ, S, r, p⟩ => ?_
  have p : PostS X.K cA R0 g (liftE (evF K f ρ) ρ (fun o S' => if i < ρ.length then .nx (ρ.set i (.own o)) S' else .bad) S) D E := by
    simp only [evS] at p
    exact p
  refine ⟨g, ρ, S, r.re, r.rs, liftF_ok r p fun g1 S1 o a u H1 em l r1 ha ho p => ?_⟩
  split at p
  · next hi =>
    exact p { g1 with R := upd g1.R a u } _ _ ⟨fun _ _ z => z, fun _ _ z => z⟩ (r1.own hi ha ho (evF_nob em))
  · exact p.elim

/-! ### an own slot is given up: what stands there stays for good -/
def noR (R : Hp) (a : Addr) : Hp := fun b => if b = a then none else R b
theorem SRel.frz {g : Gh} {ρ : Env} {S : Sto} {σ : L2.St} {H : Hp} {i : Nat} {o : OV} {a : Addr} {h h2 : HO} {d : DV} (r : SRel X.K cA R0 g ρ S σ H) (hi : ρ[i]? = some (.own o)) (ha : σ[i]? = some (some (.ref a))) (hR : g.R a = some h)
    (hd : LeF g ⟨upd g.F a h2, g.π, noR g.R a⟩ → Rep X.K cA ⟨upd g.F a h2, g.π, noR g.R a⟩ d (.ref a)) : LeF g ⟨upd g.F a h2, g.π, noR g.R a⟩ ∧ SRel X.K cA R0 ⟨upd g.F a h2, g.π, noR g.R a⟩ (ρ.set i (.val d)) S σ (upd H a h2) := by
  have nF : g.F a = none := by
    cases q : g.F a with
    | none => rfl
    | some u => have := r.rs.dis _ _ q; rw [hR] at this; cases this
  have up : ∀ b u, g.F b = some u → upd g.F a h2 b = some u := fun b u z => by rw [upd_ne (fun e => by rw [e, nF] at z; cases z)]; exact z
  have lF : LeF g ⟨upd g.F a h2, g.π, noR g.R a⟩ := ⟨up, fun _ _ z => z⟩
  have hil : i < ρ.length := (List.getElem?_eq_some_iff.mp hi).1
  have un : ∀ b, b ≠ a → noR g.R a b = g.R b := fun b q => by unfold noR; rw [if_neg q]
  refine ⟨lF, ⟨⟨by rw [List.length_set]; exact r.re.len, fun j d' e => ?_, fun j u e => ?_⟩, ⟨fun b u z => ?_, fun b u z => ?_, fun b u z => ?_, r.rs.len, fun n u z => ?_, r.rs.inj⟩, fun b u z => ?_, fun j u b e1 e2 => ?_, fun j l u u' b e1 e2 e3 e4 => ?_, fun x c ns vs e1 e2 => r.pin x c ns vs e1 (set_own e2).1⟩⟩
  · by_cases q : i = j
    · subst q
      rw [List.getElem?_set_self hil] at e; cases e
      exact ⟨_, ha, hd lF⟩
    · rw [List.getElem?_set_ne q] at e
      obtain ⟨v, k1, k2⟩ := r.re.val j d' e
      exact ⟨v, k1, Rep.monoF lF _ _ k2⟩
  · obtain ⟨e, q⟩ := set_own e
    obtain ⟨b, h', k1, k2, k3⟩ := r.re.own j u e
    refine ⟨b, h', k1, ?_, k3.monoF lF⟩
    show noR g.R a b = some h'
    rw [un b (fun z => q (r.inj j i u o a e hi (by rw [← z]; exact k1) ha))]
    exact k2
  · by_cases q : b = a
    · subst q
      have z : upd g.F b h2 b = some u := z
      rw [upd_same] at z ⊢; exact z
    · have z : upd g.F a h2 b = some u := z
      rw [upd_ne q] at z ⊢; exact r.rs.hF _ _ z
  · have q : b ≠ a := fun e => by
      have z : noR g.R a b = some u := z
      unfold noR at z
      rw [if_pos e] at z; cases z
    have z : noR g.R a b = some u := z
    rw [un b q] at z
    rw [upd_ne q]
    exact r.rs.hR _ _ z
  · show noR g.R a b = none
    by_cases q : b = a
    · unfold noR; rw [if_pos q]
    · rw [un b q]
      have z : upd g.F a h2 b = some u := z
      rw [upd_ne q] at z
      exact r.rs.dis _ _ z
  · obtain ⟨b, h', k1, k2, k3, k4, k5⟩ := r.rs.st n u z
    have q : b ≠ a := fun e => by rw [e, hR] at k5; cases k5
    exact ⟨b, h', k1, by rw [upd_ne q]; exact k2, k3.monoF lF, by show upd g.F a h2 b = none; rw [upd_ne q]; exact k4, by show noR g.R a b = none; rw [un b q]; exact k5⟩
  · have q : b ≠ a := fun e => by
      have := r.out i o a hi ha
      rw [e, this] at z; cases z
    show noR g.R a b = some u
    rw [un b q]
    exact r.r0 _ _ z
  · obtain ⟨e1, q⟩ := set_own e1
    exact r.out j u b e1 e2
  · obtain ⟨e1, q⟩ := set_own e1
    obtain ⟨e2, q2⟩ := set_own e2
    exact r.inj j l u u' b e1 e2 e3 e4
theorem st_frz {i : Nat} (h : PSs X sa (TAS' X cA R0 E (evSs K a))) : PSs X sa (TAS' X cA R0 E (evSs K (.cons (.frz i) a))) := by
  refine ⟨fun pins s σ H D I ⟨g, ρ, S, r, p⟩ => ?_⟩
  simp only [evSs, evS] at p
  cases q : ρ[i]? with
  | none => rw [q] at p; exact p.elim
  | some sl =>
    rw [q] at p
    cases sl with
    | no => exact p.elim
    | val d => exact p.elim
    | own o =>
      obtain ⟨ad, ho, k1, k2, k3⟩ := r.re.own i o q
      have hH := r.rs.hR _ _ k2
      cases o with
      | lst xs =>
        obtain ⟨vs, rfl, rr⟩ := k3
        obtain ⟨l, r'⟩ := SRel.frz (h2 := .lst vs) (d := .lst xs) r q k1 k2 (fun lF => by simp only [Rep]; exact ⟨ad, vs, rfl, upd_same, Reps.monoF lF _ _ rr⟩)
        rw [upd_self hH] at r'
        exact h.run pins s σ H D I ⟨_, _, S, r', PostS.mono l p⟩
      | obj cc ns ws =>
        obtain ⟨dx, vs, rfl, hl, rr⟩ := k3
        obtain ⟨l, r'⟩ := SRel.frz (h2 := .ins (cA cc) dx (ns.zip vs)) (d := .obj cc ns ws) r q k1 k2 (fun lF => by simp only [Rep]; exact ⟨ad, dx, vs, rfl, upd_same, hl, Reps.monoF lF _ _ rr⟩)
        rw [upd_self hH] at r'
        exact h.run pins s σ H D I ⟨_, _, S, r', PostS.mono l p⟩
      | dct ks ws =>
        obtain ⟨vs, rfl, h1, h2, h3, rr⟩ := k3
        obtain ⟨od, I2⟩ := I.lock hH True.intro
        obtain ⟨l, r'⟩ := SRel.frz (h2 := .frz od (.dK ((ks.map kOf).zip vs))) (d := .dct ks ws) r q k1 k2 (fun lF => by simp only [Rep]; exact ⟨ad, od, vs, rfl, upd_same, h1, h2, h3, Reps.monoF lF _ _ rr⟩)
        exact h.run pins s σ _ D I2 ⟨_, _, S, r', PostS.mono l p⟩

/-! ### own objects change -/
theorem SRel.put {g : Gh} {ρ : Env} {S : Sto} {σ : L2.St} {H : Hp} {i : Nat} {o o' : OV} {a : Addr} {h h' : HO} (r : SRel X.K cA R0 g ρ S σ H) (hi : ρ[i]? = some (.own o)) (ha : σ[i]? = some (some (.ref a))) (hR : g.R a = some h) (ho : OvR X.K cA g o' h') (hoo : o'.nob = true ∨ o.nob = false) :
    LeF g { g with R := upd g.R a h' } ∧ SRel X.K cA R0 { g with R := upd g.R a h' } (ρ.set i (.own o')) S σ (upd H a h') := by
  have nF : g.F a = none := by
    cases q : g.F a with
    | none => rfl
    | some u => have := r.rs.dis _ _ q; rw [hR] at this; cases this
  have lF : LeF g { g with R := upd g.R a h' } := ⟨fun _ _ z => z, fun _ _ z => z⟩
  have hil : i < ρ.length := (List.getElem?_eq_some_iff.mp hi).1
  have back : ∀ {j : Nat} {u : OV}, (ρ.set i (.own o'))[j]? = some (.own u) → (j = i ∧ u = o') ∨ (j ≠ i ∧ ρ[j]? = some (.own u)) := fun {j u} e => by
    by_cases q : i = j
    · subst q
      rw [List.getElem?_set_self hil] at e
      cases e
      exact .inl ⟨rfl, rfl⟩
    · rw [List.getElem?_set_ne q] at e
      exact .inr ⟨fun z => q z.symm, e⟩
  have own1 : ∀ {j : Nat} {u : OV}, (ρ.set i (.own o'))[j]? = some (.own u) → ∃ u', ρ[j]? = some (.own u') := fun {j u} e => by
    rcases back e with ⟨rfl, _⟩ | ⟨_, e⟩
    · exact ⟨o, hi⟩
    · exact ⟨u, e⟩
  refine ⟨lF, ⟨⟨by rw [List.length_set]; exact r.re.len, fun j d' e => ?_, fun j u e => ?_⟩, ⟨fun b u z => ?_, fun b u z => ?_, fun b u z => ?_, r.rs.len, fun n u z => ?_, r.rs.inj⟩, fun b u z => ?_, fun j u b e1 e2 => ?_, fun j l u u' b e1 e2 e3 e4 => ?_, fun x c ns vs e1 e2 => ?_⟩⟩
  rotate_right
  · rcases back e2 with ⟨z, rfl⟩ | ⟨_, e2⟩
    · subst z
      rcases hoo with hoo | hoo
      · exact absurd hoo (by simp [OV.nob])
      · cases o <;> first | (cases hoo; done) | exact r.pin x _ _ _ e1 hi
    · exact r.pin x c ns vs e1 e2
  · by_cases q : i = j
    · subst q
      rw [List.getElem?_set_self hil] at e; cases e
    · rw [List.getElem?_set_ne q] at e
      obtain ⟨v, k1, k2⟩ := r.re.val j d' e
      exact ⟨v, k1, Rep.monoF lF _ _ k2⟩
  · rcases back e with ⟨rfl, rfl⟩ | ⟨q, e⟩
    · exact ⟨a, h', ha, upd_same, ho.monoF lF⟩
    · obtain ⟨b, h2, k1, k2, k3⟩ := r.re.own j u e
      refine ⟨b, h2, k1, ?_, k3.monoF lF⟩
      show upd g.R a h' b = some h2
      rw [upd_ne (fun z => q (r.inj j i u o a e hi (by rw [← z]; exact k1) ha))]
      exact k2
  · rw [upd_ne (fun e => by rw [e] at z; have z : g.F a = some u := z; rw [nF] at z; cases z)]; exact r.rs.hF _ _ z
  · by_cases q : b = a
    · subst q
      have z : upd g.R b h' b = some u := z
      rw [upd_same] at z ⊢; exact z
    · have z : upd g.R a h' b = some u := z
      rw [upd_ne q] at z ⊢; exact r.rs.hR _ _ z
  · show upd g.R a h' b = none
    rw [upd_ne (fun e => by rw [e] at z; have z : g.F a = some u := z; rw [nF] at z; cases z)]
    exact r.rs.dis _ _ z
  · obtain ⟨b, h2, k1, k2, k3, k4, k5⟩ := r.rs.st n u z
    have q : b ≠ a := fun e => by rw [e, hR] at k5; cases k5
    exact ⟨b, h2, k1, by rw [upd_ne q]; exact k2, k3.monoF lF, k4, by show upd g.R a h' b = none; rw [upd_ne q]; exact k5⟩
  · have q : b ≠ a := fun e => by
      have := r.out i o a hi ha
      rw [e, this] at z; cases z
    show upd g.R a h' b = some u
    rw [upd_ne q]
    exact r.r0 _ _ z
  · obtain ⟨u', e1⟩ := own1 e1
    exact r.out j u' b e1 e2
  · obtain ⟨v1, e1⟩ := own1 e1
    obtain ⟨v2, e2⟩ := own1 e2
    exact r.inj j l v1 v2 b e1 e2 e3 e4
theorem st_app {i : Nat} {nm : Str} {y : Expr} {p1 ap cp : Pos} (hn : noStar y = true) (hline : lineB ap cp = true) (hN : X.N[i]? = some nm) (hv : Vis X.env.scope nm) (h1 : (nm == ("__debug__" : Str)) = false) (h2 : (nm == ("__classdict__" : Str)) = false)
    (he : PE X y (TAE X cA E (evE K e))) : PS X (.Expr (.Call (.Attribute (.Name nm p1) "append" ap) [y] [] cp) pos) (TAS' X cA R0 E (evS K (.app i e))) := by
  refine (ps_expr (pe_bm F.plainAttrs_list F.slot_list_append F.type_list_append mt_append (pe_var hN hv h1 h2) (pa_cons he pa_nil (star_cons hn _ _)) (noSup_ok rfl _ _ _) (by rw [star_cons hn]; rfl) hline (star_cons hn _ _) (by rfl))).imp fun D σ H ⟨g, ρ, S, r, p⟩ => ?_
  simp only [evS] at p
  cases q : ρ[i]? with
  | none => rw [q] at p; exact p.elim
  | some sl =>
    rw [q] at p
    cases sl with
    | no => exact p.elim
    | val d => exact p.elim
    | own o =>
      cases o with
      | dct _ _ => exact p.elim
      | obj _ _ _ => exact p.elim
      | lst xs =>
        obtain ⟨ad, ho, k1, k2, vs, rfl, rr⟩ := r.re.own i _ q
        refine ⟨_, k1, .inl ⟨rfl, vs, SqL.of (r.rs.hR _ _ k2)⟩, g, ρ, S, r.re, r.rs, liftE_ok r p fun g1 S1 d v H1 l r1 rd p => ?_⟩
        split at p
        · next hl =>
          have k3 : g1.R ad = some (.lst vs) := by rw [l.R]; exact k2
          refine ⟨ad, vs, v, rfl, rfl, r1.rs.hR _ _ k3, by rw [← rr.length, ← sizeL]; exact hl, ?_⟩
          obtain ⟨w1, w2⟩ := r1.put (o' := .lst (xs ++ [d])) (h' := .lst (vs ++ [v])) q k1 k3 ⟨_, rfl, (Reps.mono l _ _ rr).app (Reps.cons rd Reps.nil)⟩ (.inl rfl)
          exact p _ _ _ w1 w2
        · exact p.elim

/-! ### shared objects change -/
theorem SRel.sput {g : Gh} {ρ : Env} {S : Sto} {σ : L2.St} {H : Hp} {n : Nat} {a : Addr} {w : OV} {h' : HO} (r : SRel X.K cA R0 g ρ S σ H) (hn : g.π[n]? = some a) (q : OvR X.K cA g w h') : SRel X.K cA R0 g ρ (S.set n w) σ (upd H a h') :=
  ⟨r.re, r.rs.put hn q, r.r0, r.out, r.inj, r.pin⟩
theorem st_sapp {o y : Expr} {oe : CE} {ap cp : Pos} (hs : noSup o = true) (hn : noStar y = true) (hline : lineB ap cp = true) (ho : PE X o (TAE X cA E (evE K oe))) (he : PE X y (TAE X cA E (evE K e))) :
    PS X (.Expr (.Call (.Attribute o "append" ap) [y] [] cp) pos) (TAS' X cA R0 E (evS K (.sapp oe e))) := by
  refine (ps_expr (pe_bm F.plainAttrs_list F.slot_list_append F.type_list_append mt_append ho (pa_cons he pa_nil (star_cons hn _ _)) (noSup_ok hs _ _ _) (by rw [star_cons hn]; rfl) hline (star_cons hn _ _) (by rfl))).imp fun D σ H ⟨g, ρ, S, r, p⟩ => ?_
  simp only [evS] at p
  refine ⟨g, ρ, S, r.re, r.rs, liftE_ok r p fun g1 S1 d v H1 l r1 rd p => ?_⟩
  cases d <;> try (exact p.elim)
  rename_i n
  simp only [Rep] at rd
  obtain ⟨ad, hn1, rfl⟩ := rd
  simp only [] at p
  cases q : S1[n]? with
  | none => rw [q] at p; exact p.elim
  | some w =>
    rw [q] at p
    cases w with
    | dct _ _ => exact p.elim
    | obj _ _ _ => exact p.elim
    | lst ys =>
      obtain ⟨a', h', k1, k2, ⟨vs0, rfl, _⟩, _, _⟩ := r1.rs.st n _ q
      rw [hn1] at k1; cases k1
      refine ⟨.inl ⟨rfl, vs0, SqL.of k2⟩, g1, ρ, S1, r1.re, r1.rs, liftE_ok r1 p fun g2 S2 d2 v2 H2 l2 r2 rd2 p => ?_⟩
      cases q2 : S2[n]? with
      | none => rw [q2] at p; exact p.elim
      | some w =>
        rw [q2] at p
        cases w with
        | dct _ _ => exact p.elim
        | obj _ _ _ => exact p.elim
        | lst xs =>
          simp only [] at p
          split at p
          · next hl =>
            obtain ⟨a2, h2, j1, j2, ⟨vs, rfl, rr⟩, _, _⟩ := r2.rs.st n _ q2
            have hn2 := l2.π _ _ hn1
            rw [hn2] at j1; cases j1
            refine ⟨ad, vs, v2, rfl, rfl, j2, by rw [← rr.length, ← sizeL]; exact hl, ?_⟩
            exact p g2 σ _ LeF.rfl' (r2.sput hn2 ⟨_, rfl, rr.app (Reps.cons rd2 Reps.nil)⟩)
          · exact p.elim
end
end GL
end
section
set_option Elab.async false
set_option linter.all false
set_option maxRecDepth 100000
/-! Statements: fields of self, extend, name op= value. -/
namespace GL
open PySem L2 PySem.Spec PyProof.Rows
section
variable {X : Cx} {cA : Nat → Addr} {E : XK} {K : Cl} {R0 : R0T} {pos : Pos} {x : Expr} {e : CE}
theorem putF_zip {KK : PySem.W.Frag} {g : Gh} {f : Str} {d : DV} {v : V} (rd : Rep KK cA g d v) : ∀ {ns : List Str} {ws : List DV} {vs : List V}, ns.length = vs.length → Reps KK cA g ws vs →
    ∃ vs', putF f v (ns.zip vs) = (fputK ns f).zip vs' ∧ (fputK ns f).length = vs'.length ∧ Reps KK cA g (fputV ns ws f d) vs'
  | [], ws, vs, hl, r => by
    have : vs = [] := List.length_eq_zero_iff.mp hl.symm
    subst this
    cases ws with
    | nil => exact ⟨[v], rfl, rfl, Reps.cons rd Reps.nil⟩
    | cons _ _ => simp [Reps] at r
  | n :: ns, ws, [], hl, r => by simp at hl
  | n :: ns, [], w :: vs, hl, r => by simp [Reps] at r
  | n :: ns, d' :: ws, w :: vs, hl, r => by
    simp only [Reps] at r
    obtain ⟨w', vs', e1, r1, r2⟩ := r
    cases e1
    by_cases h : n = f
    · subst h
      refine ⟨v :: vs, ?_, ?_, ?_⟩
      · simp [putF, fputK]
      · simp only [fputK, List.mem_cons, true_or, if_true, List.length_cons]; simpa using hl
      · simp only [fputV, if_true]; exact Reps.cons rd r2
    · obtain ⟨us, i1, i2, i3⟩ := putF_zip (f := f) rd (ns := ns) (ws := ws) (vs := vs) (by simpa using hl) r2
      have hk : fputK (n :: ns) f = n :: fputK ns f := by
        unfold fputK
        have hnf : ¬ f = n := fun z => h z.symm
        by_cases hm : f ∈ ns
        · rw [if_pos hm, if_pos (List.mem_cons_of_mem _ hm)]
        · rw [if_neg hm, if_neg (by simp [hm, hnf])]
          rfl
      refine ⟨w :: us, ?_, ?_, ?_⟩
      · rw [hk]
        show (if n = f then (n, v) :: ns.zip vs else (n, w) :: putF f v (ns.zip vs)) = (n, w) :: (fputK ns f).zip us
        rw [if_neg h, i1]
      · rw [hk, List.length_cons, List.length_cons, i2]
      · simp only [fputV, if_neg h]; exact Reps.cons r1 i3
theorem st_setf {nm f : Str} {p2 p3 : Pos} (F : Flds X cA K.T) (hN : X.N[(0 : Nat)]? = some nm) (hv : Vis X.env.scope nm) (h1 : (nm == ("__debug__" : Str)) = false) (h2 : (nm == ("__classdict__" : Str)) = false)
    (hc : swapsWith x (some (.Attribute (.Name nm p2) f p3)) pos.line X.env = pure false) (he : PE X x (TAE X cA E (evE K e))) : PS X (.Assign [.Attribute (.Name nm p2) f p3] x pos) (TAS' X cA R0 E (evS K (.setf f e))) := by
  refine (ps_fld (pe_var hN hv h1 h2) he hc).imp fun D σ H ⟨g, ρ, S, r, p⟩ => ?_
  simp only [evS] at p
  cases q : ρ[(0 : Nat)]? with
  | none => rw [q] at p; exact p.elim
  | some sl =>
    rw [q] at p
    cases sl with
    | no => exact p.elim
    | val d => exact p.elim
    | own o =>
      cases o with
      | dct _ _ => exact p.elim
      | lst _ => exact p.elim
      | obj cc ns ws =>
        obtain ⟨ad, ho, k1, k2, dx, vs, rfl, hl, rr⟩ := r.re.own 0 _ q
        refine ⟨g, ρ, S, r.re, r.rs, liftE_ok r p fun g1 S1 d v H1 l r1 rd p => ⟨_, k1, ?_⟩⟩
        split at p
        · next hh =>
          obtain ⟨hf, hz⟩ := hh
          have k3 : g1.R ad = some (.ins (cA cc) dx (ns.zip vs)) := by rw [l.R]; exact k2
          obtain ⟨us, i1, i2, i3⟩ := putF_zip (cA := cA) (f := f) rd hl (Reps.mono l _ _ rr)
          obtain ⟨w1, w2⟩ := r1.put (o' := .obj cc (fputK ns f) (fputV ns ws f d)) (h' := .ins (cA cc) dx (putF f v (ns.zip vs))) q k1 k3 ⟨dx, us, by rw [i1], i2, i3⟩ (.inr rfl)
          refine ⟨ad, cA cc, dx, ns.zip vs, rfl, r1.rs.hR _ _ k3, (F.fld cc f hf).1, (F.fld cc f hf).2, ?_, p _ _ _ w1 w2⟩
          rw [List.length_zip, ← hl, Nat.min_self]; exact hz
        · exact p.elim
theorem st_extd {i : Nat} {nm : Str} {y : Expr} {p1 ap cp : Pos} (hn : noStar y = true) (hline : lineB ap cp = true) (hN : X.N[i]? = some nm) (hv : Vis X.env.scope nm) (h1 : (nm == ("__debug__" : Str)) = false) (h2 : (nm == ("__classdict__" : Str)) = false)
    (he : PE X y (TAE X cA E (evE K e))) : PS X (.Expr (.Call (.Attribute (.Name nm p1) "extend" ap) [y] [] cp) pos) (TAS' X cA R0 E (evS K (.extd i e))) := by
  refine (ps_expr (pe_bm F.plainAttrs_list F.slot_list_extend F.type_list_extend mt_extend (pe_var hN hv h1 h2) (pa_cons he pa_nil (star_cons hn _ _)) (noSup_ok rfl _ _ _) (by rw [star_cons hn]; rfl) hline (star_cons hn _ _) (by rfl))).imp fun D σ H ⟨g, ρ, S, r, p⟩ => ?_
  simp only [evS] at p
  cases q : ρ[i]? with
  | none => rw [q] at p; exact p.elim
  | some sl =>
    rw [q] at p
    cases sl with
    | no => exact p.elim
    | val d => exact p.elim
    | own o =>
      cases o with
      | dct _ _ => exact p.elim
      | obj _ _ _ => exact p.elim
      | lst xs =>
        obtain ⟨ad, ho, k1, k2, vs, rfl, rr⟩ := r.re.own i _ q
        refine ⟨_, k1, .inl ⟨rfl, vs, SqL.of (r.rs.hR _ _ k2)⟩, g, ρ, S, r.re, r.rs, liftE_ok r p fun g1 S1 d v H1 l r1 rd p => ?_⟩
        cases d <;> try (exact p.elim)
        rename_i ys
        simp only [Rep] at rd
        obtain ⟨b, zs, rfl, hb, rz⟩ := rd
        simp only [] at p
        split at p
        · next hl =>
          have k3 : g1.R ad = some (.lst vs) := by rw [l.R]; exact k2
          refine ⟨ad, b, vs, zs, rfl, rfl, r1.rs.hR _ _ k3, r1.rs.hF _ _ hb, by rw [← rr.length, ← rz.length, ← sizeL]; exact hl, ?_⟩
          obtain ⟨w1, w2⟩ := r1.put (o' := .lst (xs ++ ys)) (h' := .lst (vs ++ zs)) q k1 k3 ⟨_, rfl, (Reps.mono l _ _ rr).app rz⟩ (.inl rfl)
          exact p _ _ _ w1 w2
        · exact p.elim
theorem augD_ok {op : Bop} {d1 d2 : DV} {S : Sto} : augD op d1 d2 S = .bad ∨ (∃ i j, d1 = .int i ∧ d2 = .int j ∧ op = .add ∧ augD op d1 d2 S = .ok (.int (i + j)) S) ∨ ∃ i j, d1 = .int i ∧ d2 = .int j ∧ op = .sub ∧ augD op d1 d2 S = .ok (.int (i - j)) S := by
  unfold augD
  split
  · exact .inr (.inl ⟨_, _, rfl, rfl, rfl, rfl⟩)
  · exact .inr (.inr ⟨_, _, rfl, rfl, rfl, rfl⟩)
  · exact .inl rfl
theorem ipAug (op : Bop) : PIp X (pyB op) (A2 X cA (augD op) E) := by
  intro pins s σ H u v u' v' Q I ru rv h
  obtain ⟨g, S, d1, d2, rs, r1, r2, p⟩ := h
  rcases augD_ok (op := op) (d1 := d1) (d2 := d2) (S := S) with e | ⟨i, j, rfl, rfl, rfl, e⟩ | ⟨i, j, rfl, rfl, rfl, e⟩
  · rw [e] at p; exact p.elim
  · rw [e] at p
    simp only [Rep] at r1 r2
    subst r1 r2
    exact iop_add pins s σ H _ _ u' v' Q I ru rv ⟨_, _, rfl, rfl, Post.here (d := .int _) p rs Rep.int⟩
  · rw [e] at p
    simp only [Rep] at r1 r2
    subst r1 r2
    exact iop_sub pins s σ H _ _ u' v' Q I ru rv ⟨_, _, rfl, rfl, Post.here (d := .int _) p rs Rep.int⟩
theorem st_aug {i : Nat} {nm : Str} {op : Bop} {p2 : Pos} (nd : X.N.Nodup) (hN : X.N[i]? = some nm) (hl : L2.Loc X.env.scope nm) (hf : X.fn nm = true) (he : PE X x (TAE X cA E (evE K e))) :
    PS X (.AugAssign (.Name nm p2) (pyB op) x pos) (TAS' X cA R0 E (evS K (.aug i op e))) := by
  refine (ps_aug nd hN hl he (ipAug (cA := cA) (E := E) op) (.inl hf)).imp fun D σ H ⟨g, ρ, S, r, p⟩ => ?_
  simp only [evS] at p
  cases q : sget ρ i with
  | none => rw [q] at p; exact p.elim
  | some d0 =>
    rw [q] at p
    have q' : ρ[i]? = some (.val d0) := by
      unfold sget at q
      split at q
      · next h => cases q; exact h
      · cases q
    obtain ⟨v0, k1, k2⟩ := r.re.val i d0 q'
    refine ⟨v0, k1, g, ρ, S, r.re, r.rs, liftE_ok r p fun g1 S1 d v H1 l r1 rd p => ?_⟩
    refine ⟨g1, S1, d0, d, r1.rs, Rep.mono l _ _ k2, rd, liftE_ok (rp := Rep X.K cA) r1 p fun g2 S2 z w H2 l2 r2 rz p => ?_⟩
    exact p g2 _ H2 LeF.rfl' (r2.set (List.getElem?_eq_some_iff.mp q').1 rz)
end
end GL
end
section
set_option Elab.async false
set_option linter.all false
set_option maxRecDepth 100000
/-! Statements: loops. -/
namespace GL
open PySem L2 PySem.Spec PyProof.Rows
section
variable {X : Cx} {cA : Nat → Addr} {E : XK} {K : Cl} {R0 : R0T} {pos : Pos} {c : Expr} {e : CE} {b : CSs} {sb : List Stmt}
theorem st_whl (hp : PassesOwn (model X.prog X.w) X.A X.env X.xe) (hc : PT X c (TAT X cA E (fun ρ => tst (evE K e ρ)))) (hb : PSs X sb (TAS' X cA R0 E (evSs K b))) : PS X (.While c sb [] pos) (TAS' X cA R0 E (evS K (.whl e b))) := by
  refine (ps_while hp hc hb).imp fun D σ H ⟨g, ρ, S, r, p⟩ => ?_
  have p : PostS X.K cA R0 g (loopW (fun ρ' => tst (evE K e ρ')) (fun ρ' S' => evSs K b ρ' S') K.W ρ S) D E := by
    simp only [evS] at p
    exact p
  refine ⟨fun n σ H => ∃ g ρ S, SRel X.K cA R0 g ρ S σ H ∧ PostS X.K cA R0 g (loopW (fun ρ' => tst (evE K e ρ')) (fun ρ' S' => evSs K b ρ' S') n ρ S) D E, ⟨K.W, g, ρ, S, r, p⟩, ?_⟩
  rintro n σ H ⟨g, ρ, S, r, p⟩
  cases n with
  | zero => exact p.elim
  | succ n =>
    have p : PostS X.K cA R0 g (liftE (tst (evE K e ρ)) ρ (fun k S1 => if k then (match evSs K b ρ S1 with
      | .nx ρ' S' => loopW (fun ρ' => tst (evE K e ρ')) (fun ρ' S' => evSs K b ρ' S') n ρ' S'
      | .ct ρ' S' => loopW (fun ρ' => tst (evE K e ρ')) (fun ρ' S' => evSs K b ρ' S') n ρ' S'
      | .bk ρ' S' => .nx ρ' S'
      | r => r) else .nx ρ S1) S) D E := p
    refine ⟨g, ρ, S, r.re, r.rs, liftE_ok r p fun g1 S1 k k' H1 l r1 q p => ?_⟩
    cases q
    cases k with
    | false => exact p g1 σ H1 LeF.rfl' r1
    | true =>
      simp only [if_true] at p ⊢
      refine ⟨fun σ' H' => ∃ g ρ S, SRel X.K cA R0 g ρ S σ' H' ∧ PostS X.K cA R0 g (loopW (fun ρ' => tst (evE K e ρ')) (fun ρ' S' => evSs K b ρ' S') n ρ S) D E, fun σ' H' h => ⟨n, Nat.lt_succ_self _, h⟩, g1, ρ, S1, r1, ?_⟩
      cases eb : evSs K b ρ S1 with
      | nx ρ' S' => rw [eb] at p; exact fun g' σ' H' l' r' => ⟨g', ρ', S', r', p.mono l'⟩
      | ct ρ' S' => rw [eb] at p; exact fun g' σ' H' l' r' => ⟨g', ρ', S', r', p.mono l'⟩
      | bk ρ' S' => rw [eb] at p; exact p
      | rt d ρ' S' => rw [eb] at p; exact p
      | ex d ρ' S' => rw [eb] at p; exact p
      | bad => rw [eb] at p; exact p
theorem st_for {t : CT} {i : CI} {tg it : Expr} (hp : PassesOwn (model X.prog X.w) X.A X.env X.xe) (hc : X.calm = true) (hi : PI X tg it (TAI X cA E (evI K i))) (hg : PG X tg (gA X cA t)) (hs : noSet it = true) (hb : PSs X sb (TAS' X cA R0 E (evSs K b))) :
    PS X (.For tg it sb [] pos) (TAS' X cA R0 E (evS K (.for t i b))) := by
  refine (ps_for hp hc hi hg hb (noSet_fold hs _)).imp fun D σ H ⟨g, ρ, S, r, p⟩ => ?_
  have p : PostS X.K cA R0 g (liftE (evI K i ρ) ρ (fun w S' => loopF t w (fun ρ' S'' => evSs K b ρ' S'') w.items ρ S') S) D E := by
    simp only [evS] at p
    exact p
  refine ⟨g, ρ, S, r.re, r.rs, liftE_ok r p fun g1 S1 w J H1 l r1 iw p => ?_⟩
  refine ⟨fun j m σ H => m = w.items.length - j ∧ j ≤ w.items.length ∧ ∃ gj ρj Sj, LeF g1 gj ∧ SRel X.K cA R0 gj ρj Sj σ H ∧ PostS X.K cA R0 gj (loopF t w (fun ρ' S'' => evSs K b ρ' S'') (w.items.drop j) ρj Sj) D E,
    ⟨w.items.length, by simp, Nat.zero_le _, g1, ρ, S1, LeF.rfl', r1, p⟩, ?_⟩
  rintro j m σ H ⟨rfl, hj, gj, ρj, Sj, lj, rj, pj⟩
  by_cases hlt : j < w.items.length
  · have hx : w.items[j]? = some w.items[j] := List.getElem?_eq_getElem hlt
    rw [List.drop_eq_getElem_cons hlt] at pj
    simp only [loopF] at pj
    split at pj
    · next hst =>
      obtain ⟨go, yl⟩ := (iw j gj Sj H lj rj.rs hst).1 _ hx
      cases ea : GL.asg t w.items[j] ρj Sj with
      | none => rw [ea] at pj; exact pj.elim
      | some ρ1 =>
        rw [ea] at pj
        simp only [] at pj
        refine .inr ⟨go, fun σ' H' => ∃ gj ρj Sj, LeF g1 gj ∧ SRel X.K cA R0 gj ρj Sj σ' H' ∧ PostS X.K cA R0 gj (loopF t w (fun ρ' S'' => evSs K b ρ' S'') (w.items.drop (j + 1)) ρj Sj) D E, fun σ' H' h => ⟨w.items.length - (j + 1), by omega, rfl, hlt, h⟩, fun x' H' y => ?_⟩
        obtain ⟨g2, l2, rs2, rd⟩ := yl x' H' y
        have r2 := rj.grow l2 rs2
        refine ⟨g2, Sj, w.items[j], ρj, r2.re, rs2, rd, ρ1, ea, fun σ2 re2 k2 _ => ?_⟩
        have r3 := r2.asg (asg_own t _ _ _ ea) k2 re2
        refine ⟨g2, ρ1, Sj, r3, ?_⟩
        have pj := pj.mono (.of l2)
        have l12 : LeF g1 g2 := lj.trans (.of l2)
        cases eb : evSs K b ρ1 Sj with
        | nx ρ' S' => rw [eb] at pj; exact fun g' σ' H' l' r' => ⟨g', ρ', S', l12.trans l', r', pj.mono l'⟩
        | ct ρ' S' => rw [eb] at pj; exact fun g' σ' H' l' r' => ⟨g', ρ', S', l12.trans l', r', pj.mono l'⟩
        | bk ρ' S' => rw [eb] at pj; exact pj
        | rt d ρ' S' => rw [eb] at pj; exact pj
        | ex d ρ' S' => rw [eb] at pj; exact pj
        | bad => rw [eb] at pj; exact pj
    · exact pj.elim
  · have ej : j = w.items.length := by omega
    subst ej
    rw [List.drop_eq_nil_of_le (Nat.le_refl _)] at pj
    simp only [loopF] at pj
    split at pj
    · next hst => exact .inl ⟨(iw _ gj Sj H lj rj.rs hst).2 rfl, pj gj σ H LeF.rfl' rj⟩
    · exact pj.elim
end
end GL
end
section
set_option Elab.async false
set_option linter.all false
set_option maxRecDepth 100000
/-! Statements: o[i] = v. -/
namespace GL
open PySem L2 PySem.Spec PyProof.Rows
section
variable {X : Cx} {cA : Nat → Addr} {E : XK} {K : Cl} {R0 : R0T} {pos : Pos} {x y o : Expr} {e k oe : CE}
theorem sub_swap {o i x : Expr} {p : Pos} (env : PySem.Env) : swappedStores [.Subscript o i p] x env = pure none := by
  cases x <;> rfl
/-- what a store into a list or dict leaves -/
theorem putO_ok {g : Gh} {o o' : OV} {h : HO} {q d : DV} {vq v : V} (ho : OvR X.K cA g o h) (rq : Rep X.K cA g q vq) (rd : Rep X.K cA g d v) (e : putO o q d = some o') :
    (∃ vs n j, h = .lst vs ∧ vq = .int n ∧ ixN vs.length n = some j ∧ OvR X.K cA g o' (.lst (vs.set j v))) ∨ (∃ kvs kk, h = .dK kvs ∧ vq = kV kk ∧ kvs.length < sizeLine ∧ OvR X.K cA g o' (.dK (putK kvs kk v))) := by
  cases o with
  | obj _ _ _ => cases e
  | lst xs =>
    obtain ⟨vs, rfl, rr⟩ := ho
    cases q <;> try (cases e; done)
    rename_i n
    simp only [putO] at e
    cases ei : ixO xs.length n with
    | none => rw [ei] at e; cases e
    | some j =>
      rw [ei] at e
      cases e
      simp only [Rep] at rq
      exact .inl ⟨vs, n, j, rfl, rq, by rw [← ixO_eq, ← rr.length]; exact ei, _, rfl, Reps.set rd j rr⟩
  | dct ks ws =>
    obtain ⟨vs, rfl, h1, h2, h3, rr⟩ := ho
    simp only [putO] at e
    cases ek : keyOf q with
    | none => rw [ek] at e; cases e
    | some kk =>
      rw [ek] at e
      simp only [] at e
      split at e
      · next hl =>
        cases e
        obtain ⟨rfl, hk⟩ := keyOf_ok ek rq
        obtain ⟨us, i1, i2, i3, i4, i5⟩ := put_zip (cA := cA) rd hk h1 rr h2 h3
        refine .inr ⟨_, kOf kk, rfl, rfl, by rw [List.length_zip, List.length_map, ← h1, Nat.min_self, ← sizeL]; exact hl, us, by rw [i1], i2, i3, i4, i5⟩
      · cases e
theorem putO_nob {o o' : OV} {q d : DV} (e : putO o q d = some o') : o'.nob = true := by
  unfold putO at e
  split at e
  · split at e
    · cases hx : ixO _ _ with
      | none => rw [hx] at e; cases e
      | some j => rw [hx] at e; cases e; rfl
    · cases e
  · split at e
    · split at e
      · cases e; rfl
      · cases e
    · cases e
  · cases e
theorem sub_assign {o i : Expr} {p : Pos} (h : noSlc i = true) (env : PySem.Env) (v : Value) : assign (.Subscript o i p) env v = (do
      let ov ← holding [v] (eval o env)
      let iv ← holding [v, ov] (eval i env)
      standAt p
      holding [v, ov, iv] (setItem ov iv v)
      release [v, ov, iv] []) := by
  cases i <;> first | rfl | (unfold noSlc at h; cases h)
def rSetA : TSet := fun o i v H Q => rSetL o i v H Q ∨ rSetD o i v H Q
theorem set_any (hu : X.A.units + 1 < cLine) : PSet X rSetA := fun pins s σ H o i v ov iv u Q I ro ri rv h => by
  rcases h with h | h
  · exact set_list pins s σ H o i v ov iv u Q I ro ri rv h
  · exact set_dict hu pins s σ H o i v ov iv u Q I ro ri rv h
theorem setA_of {H : Hp} {a : Addr} {h h' : HO} {vq v : V} {Q : Hp → Prop} (hH : H a = some h) (hh : (∃ vs n j, h = .lst vs ∧ vq = .int n ∧ ixN vs.length n = some j ∧ h' = .lst (vs.set j v)) ∨ (∃ kvs kk, h = .dK kvs ∧ vq = kV kk ∧ kvs.length < sizeLine ∧ h' = .dK (putK kvs kk v))) (q : Q (upd H a h')) : rSetA (.ref a) vq v H Q := by
  rcases hh with ⟨vs, n, j, rfl, rfl, h1, rfl⟩ | ⟨kvs, kk, rfl, rfl, h1, rfl⟩
  · exact .inl ⟨a, vs, n, j, rfl, rfl, hH, h1, q⟩
  · exact .inr ⟨a, _, rfl, .inl ⟨kvs, kk, hH, rfl, h1, rfl⟩, q⟩
theorem st_put {i : Nat} {nm : Str} {p2 p3 : Pos} (hu : X.A.units + 1 < cLine) (hy : noSlc y = true) (hc : noComp x = true) (hN : X.N[i]? = some nm) (hv : Vis X.env.scope nm) (h1 : (nm == ("__debug__" : Str)) = false) (h2 : (nm == ("__classdict__" : Str)) = false)
    (he : PE X x (TAE X cA E (evE K e))) (hk : PE X y (TAE X cA E (evE K k))) : PS X (.Assign [.Subscript (.Name nm p2) y p3] x pos) (TAS' X cA R0 E (evS K (.put i k e))) := by
  refine (ps_asg he (pg_sub (pe_var hN hv h1 h2) hk (set_any hu) (sub_assign hy _)) (sole_swap hc _ _) (sub_swap _)).imp fun D σ H ⟨g, ρ, S, r, p⟩ => ?_
  simp only [evS] at p
  cases q : ρ[i]? with
  | none => rw [q] at p; exact p.elim
  | some sl =>
    rw [q] at p
    cases sl with
    | no => exact p.elim
    | val d => exact p.elim
    | own o =>
      obtain ⟨ad, ho, k1, k2, k3⟩ := r.re.own i _ q
      refine ⟨g, ρ, S, r.re, r.rs, liftE_ok r p fun g1 S1 d v H1 l r1 rd p => ⟨_, k1, ?_⟩⟩
      refine ⟨g1, ρ, S1, r1.re, r1.rs, liftE_ok (rp := Rep X.K cA) r1 p fun g2 S2 dq vq H2 l2 r2 rq p => ?_⟩
      cases ep : putO o dq d with
      | none => rw [ep] at p; exact p.elim
      | some o' =>
        rw [ep] at p
        have lt := l.trans l2
        have kR : g2.R ad = some ho := by rw [lt.R]; exact k2
        rcases putO_ok (k3.mono lt) rq (Rep.mono l2 _ _ rd) ep with ⟨vs, n, j, rfl, rfl, e1, e2⟩ | ⟨kvs, kk, rfl, rfl, e1, e2⟩
        · obtain ⟨w1, w2⟩ := r2.put q k1 kR e2 (.inl (putO_nob ep))
          exact setA_of (r2.rs.hR _ _ kR) (.inl ⟨vs, n, j, rfl, rfl, e1, rfl⟩) (p _ _ _ w1 w2)
        · obtain ⟨w1, w2⟩ := r2.put q k1 kR e2 (.inl (putO_nob ep))
          exact setA_of (r2.rs.hR _ _ kR) (.inr ⟨kvs, kk, rfl, rfl, e1, rfl⟩) (p _ _ _ w1 w2)
theorem st_sput {p3 : Pos} (hu : X.A.units + 1 < cLine) (hy : noSlc y = true) (hc : noComp x = true) (he : PE X x (TAE X cA E (evE K e))) (ho : PE X o (TAE X cA E (evE K oe))) (hk : PE X y (TAE X cA E (evE K k))) :
    PS X (.Assign [.Subscript o y p3] x pos) (TAS' X cA R0 E (evS K (.sput oe k e))) := by
  refine (ps_asg he (pg_sub ho hk (set_any hu) (sub_assign hy _)) (sole_swap hc _ _) (sub_swap _)).imp fun D σ H ⟨g, ρ, S, r, p⟩ => ?_
  simp only [evS] at p
  refine ⟨g, ρ, S, r.re, r.rs, liftE_ok (rp := Rep X.K cA) r p fun g1 S1 d v H1 l r1 rd p => ?_⟩
  refine ⟨g1, ρ, S1, r1.re, r1.rs, liftE_ok (rp := Rep X.K cA) r1 p fun g2 S2 da va H2 l2 r2 ra p => ?_⟩
  refine ⟨g2, ρ, S2, r2.re, r2.rs, liftE_ok (rp := Rep X.K cA) r2 p fun g3 S3 dq vq H3 l3 r3 rq p => ?_⟩
  obtain ⟨n, rfl⟩ : ∃ n, da = .loc n := by
    cases da <;> first | exact ⟨_, rfl⟩ | exact p.elim
  simp only [Rep] at ra
  obtain ⟨ad, hn, rfl⟩ := ra
  have hn3 := l3.π _ _ hn
  simp only [] at p
  cases q : S3[n]? with
  | none => rw [q] at p; exact p.elim
  | some w =>
    rw [q] at p
    simp only [] at p
    cases ep : putO w dq d with
    | none => rw [ep] at p; exact p.elim
    | some w' =>
      rw [ep] at p
      obtain ⟨a', h', k1, k2, k3, _, _⟩ := r3.rs.st n _ q
      rw [hn3] at k1; cases k1
      rcases putO_ok k3 rq (Rep.mono (l2.trans l3) _ _ rd) ep with ⟨vs, j', j, rfl, rfl, e1, e2⟩ | ⟨kvs, kk, rfl, rfl, e1, e2⟩
      · exact setA_of k2 (.inl ⟨vs, j', j, rfl, rfl, e1, rfl⟩) (p g3 σ _ LeF.rfl' (r3.sput hn3 e2))
      · exact setA_of k2 (.inr ⟨kvs, kk, rfl, rfl, e1, rfl⟩) (p g3 σ _ LeF.rfl' (r3.sput hn3 e2))
end
end GL
end
section
set_option Elab.async false
set_option linter.all false
set_option maxRecDepth 100000
/-! Parallel stores: what is evaluated waits as slots behind the names'. -/
namespace GL
open PySem L2 PySem.Spec PyProof.Rows
section
variable {X : Cx} {cA : Nat → Addr} {E : XK} {K : Cl} {R0 : R0T}
theorem app_left {α : Type} {l m : List α} {i : Nat} {a : α} (h : l[i]? = some a) : (l ++ m)[i]? = some a := by
  rw [List.getElem?_append_left (List.getElem?_eq_some_iff.mp h).1]; exact h
/-- the names' part alone -/
theorem SRel.head {g : Gh} {ρ ρ2 : Env} {S : Sto} {σ σ2 : L2.St} {H : Hp} (r : SRel X.K cA R0 g (ρ ++ ρ2) S (σ ++ σ2) H) (hl : ρ.length = σ.length) : SRel X.K cA R0 g ρ S σ H := by
  have dn : ∀ {i : Nat} {s : Slot} {v : Option V}, ρ[i]? = some s → (σ ++ σ2)[i]? = some v → σ[i]? = some v := fun {i s v} h e => by
    rw [List.getElem?_append_left (by rw [← hl]; exact (List.getElem?_eq_some_iff.mp h).1)] at e
    exact e
  refine ⟨⟨hl, fun i d e => ?_, fun i o e => ?_⟩, r.rs, r.r0, fun i o a e1 e2 => r.out i o a (app_left e1) (app_left e2), fun i j o o' a e1 e2 e3 e4 => r.inj i j o o' a (app_left e1) (app_left e2) (app_left e3) (app_left e4), fun x c ns vs e1 e2 => dn e2 (r.pin x c ns vs e1 (app_left e2))⟩
  · obtain ⟨v, k1, k2⟩ := r.re.val i d (app_left e)
    exact ⟨v, dn e k1, k2⟩
  · obtain ⟨a, h, k1, k2, k3⟩ := r.re.own i o (app_left e)
    exact ⟨a, h, dn e k1, k2, k3⟩
/-- a value comes to those that wait -/
theorem SRel.waitV {g : Gh} {ρ : Env} {S : Sto} {σ : L2.St} {H : Hp} {d : DV} {v : V} (r : SRel X.K cA R0 g ρ S σ H) (rd : Rep X.K cA g d v) : SRel X.K cA R0 g (ρ ++ [.val d]) S (σ ++ [some v]) H := by
  have cs : ∀ {i : Nat} {s : Slot}, (ρ ++ [.val d])[i]? = some s → (i < ρ.length ∧ ρ[i]? = some s) ∨ (i = ρ.length ∧ s = .val d) := fun {i s} e => by
    by_cases h : i < ρ.length
    · rw [List.getElem?_append_left h] at e; exact .inl ⟨h, e⟩
    · rw [List.getElem?_append_right (by omega)] at e
      have : i - ρ.length = 0 := by
        have := (List.getElem?_eq_some_iff.mp e).1
        simp at this; omega
      rw [this] at e
      simp at e
      exact .inr ⟨by omega, e.symm⟩
  have hl := r.re.len
  refine ⟨⟨by simp [hl], fun i d' e => ?_, fun i o e => ?_⟩, r.rs, r.r0, fun i o a e1 e2 => ?_, fun i j o o' a e1 e2 e3 e4 => ?_, fun x c ns vs e1 e2 => ?_⟩
  rotate_right
  · rcases cs e2 with ⟨h, e⟩ | ⟨h, e⟩
    · exact app_left (r.pin x c ns vs e1 e)
    · cases e
  · rcases cs e with ⟨h, e⟩ | ⟨h, e⟩
    · obtain ⟨w, k1, k2⟩ := r.re.val i d' e
      exact ⟨w, app_left k1, k2⟩
    · cases e
      exact ⟨v, by rw [h, hl, List.getElem?_append_right (Nat.le_refl _), Nat.sub_self]; rfl, rd⟩
  · rcases cs e with ⟨h, e⟩ | ⟨h, e⟩
    · obtain ⟨a, hh, k1, k2, k3⟩ := r.re.own i o e
      exact ⟨a, hh, app_left k1, k2, k3⟩
    · cases e
  · rcases cs e1 with ⟨h, e1⟩ | ⟨h, e1⟩
    · rw [List.getElem?_append_left (by rw [← hl]; exact h)] at e2
      exact r.out i o a e1 e2
    · cases e1
  · rcases cs e1 with ⟨h, e1⟩ | ⟨h, e1⟩
    · rcases cs e2 with ⟨h2, e2⟩ | ⟨h2, e2⟩
      · rw [List.getElem?_append_left (by rw [← hl]; exact h)] at e3
        rw [List.getElem?_append_left (by rw [← hl]; exact h2)] at e4
        exact r.inj i j o o' a e1 e2 e3 e4
      · cases e2
    · cases e1
/-- a new object comes to those that wait: an empty slot, then SRel.own -/
theorem SRel.waitN {g : Gh} {ρ : Env} {S : Sto} {σ : L2.St} {H : Hp} (r : SRel X.K cA R0 g ρ S σ H) : SRel X.K cA R0 g (ρ ++ [.no]) S (σ ++ [none]) H := by
  have cs : ∀ {i : Nat} {s : Slot}, s ≠ .no → (ρ ++ [.no])[i]? = some s → i < ρ.length ∧ ρ[i]? = some s := fun {i s} hs e => by
    by_cases h : i < ρ.length
    · rw [List.getElem?_append_left h] at e; exact ⟨h, e⟩
    · rw [List.getElem?_append_right (by omega)] at e
      have : i - ρ.length = 0 := by
        have := (List.getElem?_eq_some_iff.mp e).1
        simp at this; omega
      rw [this] at e
      simp at e
      exact absurd e.symm hs
  have hl := r.re.len
  refine ⟨⟨by simp [hl], fun i d' e => ?_, fun i o e => ?_⟩, r.rs, r.r0, fun i o a e1 e2 => ?_, fun i j o o' a e1 e2 e3 e4 => ?_, fun x c ns vs e1 e2 => ?_⟩
  rotate_right
  · obtain ⟨h, e⟩ := cs (fun z => by cases z) e2
    exact app_left (r.pin x c ns vs e1 e)
  · obtain ⟨h, e⟩ := cs (fun z => by cases z) e
    obtain ⟨w, k1, k2⟩ := r.re.val i d' e
    exact ⟨w, app_left k1, k2⟩
  · obtain ⟨h, e⟩ := cs (fun z => by cases z) e
    obtain ⟨a, hh, k1, k2, k3⟩ := r.re.own i o e
    exact ⟨a, hh, app_left k1, k2, k3⟩
  · obtain ⟨h, e1⟩ := cs (fun z => by cases z) e1
    rw [List.getElem?_append_left (by rw [← hl]; exact h)] at e2
    exact r.out i o a e1 e2
  · obtain ⟨h, e1⟩ := cs (fun z => by cases z) e1
    obtain ⟨h2, e2⟩ := cs (fun z => by cases z) e2
    rw [List.getElem?_append_left (by rw [← hl]; exact h)] at e3
    rw [List.getElem?_append_left (by rw [← hl]; exact h2)] at e4
    exact r.inj i j o o' a e1 e2 e3 e4
theorem set_last {α : Type} {l : List α} {a b : α} : (l ++ [a]).set l.length b = l ++ [b] := by
  rw [List.set_append_right _ _ (Nat.le_refl _), Nat.sub_self]; rfl
theorem SRel.waitO {g : Gh} {ρ : Env} {S : Sto} {σ : L2.St} {H : Hp} {o : OV} {h : HO} {a : Addr} (r : SRel X.K cA R0 g ρ S σ H) (ha : H a = none) (ho : OvR X.K cA g o h) (hob : o.nob = true) :
    SRel X.K cA R0 { g with R := upd g.R a h } (ρ ++ [.own o]) S (σ ++ [some (.ref a)]) (upd H a h) := by
  have := r.waitN.own (i := ρ.length) (o := o) (h := h) (a := a) (by simp) ha ho hob
  rw [set_last, show ρ.length = σ.length from r.re.len, set_last] at this
  exact this

def PostP (K : PySem.W.Frag) (cA : Nat → Addr) (R0 : R0T) (ρ : Env) (σ : L2.St) (pn : List Slot) (pv : List V) (g : Gh) (r : Rs (List (Nat × Slot))) (Q : List V → Hp → Prop) (E : XK) : Prop := match r with
  | .ok xs S' => ∀ g' vs H', LeF g g' → SRel K cA R0 g' (ρ ++ (pn ++ xs.map (·.2))) S' (σ ++ (pv ++ vs).map some) H' → vs.length = xs.length → Q vs H'
  | .ex x S' => ∀ g' H' cls d, LeF g g' → (∀ a o, R0 a = some o → g'.R a = some o) → RelS K cA g' S' H' → XRep K cA g' x cls d → E cls d H'
  | .bad => False
theorem PostP.mono {KK : PySem.W.Frag} {ρ : Env} {σ : L2.St} {pn : List Slot} {pv : List V} {g g1 : Gh} {r : Rs (List (Nat × Slot))} {Q : List V → Hp → Prop} (l : LeF g g1) (h : PostP KK cA R0 ρ σ pn pv g r Q E) : PostP KK cA R0 ρ σ pn pv g1 r Q E := by
  cases r with
  | ok xs S' => exact fun g' vs H' l' => h g' vs H' (l.trans l')
  | ex x S' => exact fun g' H' cls d l' => h g' H' cls d (l.trans l')
  | bad => exact h
/-- the values of a parallel store -/
def TAP (X : Cx) (cA : Nat → Addr) (R0 : R0T) (E : XK) (m : Env → M (List (Nat × Slot))) : TA := fun σ H Q => ∃ g ρ S pn pv, SRel X.K cA R0 g (ρ ++ pn) S (σ ++ pv.map some) H ∧ ρ.length = σ.length ∧ PostP X.K cA R0 ρ σ pn pv g (m ρ S) Q E
theorem ap_nil : PA X [] (TAP X cA R0 E (evP K [])) := by
  refine pa_nil.imp fun σ H Q ⟨g, ρ, S, pn, pv, r, hl, p⟩ => ?_
  have p : PostP X.K cA R0 ρ σ pn pv g (.ok [] S) Q E := p
  exact p g [] H LeF.rfl' (by simpa using r) rfl
theorem ap_v {x : Expr} {xs : List Expr} {i : Nat} {e : CE} {ps : List CP} (hn : noStar x = true) (he : PE X x (TAE X cA E (evE K e))) (hr : PA X xs (TAP X cA R0 E (evP K ps))) : PA X (x :: xs) (TAP X cA R0 E (evP K (.v i e :: ps))) := by
  refine (pa_cons he hr (star_cons hn _ _)).imp fun σ H Q ⟨g, ρ, S, pn, pv, r, hl, p⟩ => ?_
  have p : PostP X.K cA R0 ρ σ pn pv g ((evE K e ρ >>= fun d => evP K ps ρ >>= fun xs => pure ((i, .val d) :: xs)) S) Q E := p
  refine ⟨g, ρ, S, (r.head hl).re, r.rs, ?_⟩
  cases ee : evE K e ρ S with
  | bad => rw [M.bind_bad ee] at p; exact p.elim
  | ex z S1 => rw [M.bind_ex ee] at p; exact fun g' H' cls d l rs xr => p g' H' cls d (.of l) (fun a o z => by rw [l.R]; exact r.r0 a o z) rs xr
  | ok d S1 =>
    rw [M.bind_ok ee] at p
    intro g1 v H1 l1 rs1 rd
    have r1 := (r.grow l1 rs1).waitV rd
    refine ⟨g1, ρ, S1, pn ++ [.val d], pv ++ [v], by simpa using r1, hl, ?_⟩
    cases ep : evP K ps ρ S1 with
    | bad => rw [M.bind_bad ep] at p; exact p.elim
    | ex z S2 => rw [M.bind_ex ep] at p; exact fun g' H' cls d l => p g' H' cls d ((LeF.of l1).trans l)
    | ok xs' S2 =>
      rw [M.bind_ok ep] at p
      intro g2 vs H2 l2 r2 hlen
      exact p g2 (v :: vs) H2 ((LeF.of l1).trans l2) (by simpa using r2) (by simp [hlen])
theorem ap_o {x : Expr} {xs : List Expr} {i : Nat} {f : CF} {ps : List CP} (hn : noStar x = true) (he : PE X x (TAF X cA E (evF K f))) (hr : PA X xs (TAP X cA R0 E (evP K ps))) : PA X (x :: xs) (TAP X cA R0 E (evP K (.o i f :: ps))) := by
  refine (pa_cons he hr (star_cons hn _ _)).imp fun σ H Q ⟨g, ρ, S, pn, pv, r, hl, p⟩ => ?_
  have p : PostP X.K cA R0 ρ σ pn pv g ((evF K f ρ >>= fun o => evP K ps ρ >>= fun xs => pure ((i, .own o) :: xs)) S) Q E := p
  refine ⟨g, ρ, S, (r.head hl).re, r.rs, ?_⟩
  cases ee : evF K f ρ S with
  | bad => rw [M.bind_bad ee] at p; exact p.elim
  | ex z S1 => rw [M.bind_ex ee] at p; exact fun g' H' cls d l rs xr => p g' H' cls d (.of l) (fun a o z => by rw [l.R]; exact r.r0 a o z) rs xr
  | ok o S1 =>
    rw [M.bind_ok ee] at p
    intro g1 ad u H1 l1 rs1 ha ho
    have r1 := (r.grow l1 rs1).waitO ha ho (evF_nob ee)
    have lF : LeF g { g1 with R := upd g1.R ad u } := ⟨fun a o z => l1.F a o z, fun n a z => l1.π n a z⟩
    refine ⟨{ g1 with R := upd g1.R ad u }, ρ, S1, pn ++ [.own o], pv ++ [.ref ad], by simpa using r1, hl, ?_⟩
    cases ep : evP K ps ρ S1 with
    | bad => rw [M.bind_bad ep] at p; exact p.elim
    | ex z S2 => rw [M.bind_ex ep] at p; exact fun g' H' cls d l => p g' H' cls d (lF.trans l)
    | ok xs' S2 =>
      rw [M.bind_ok ep] at p
      intro g2 vs H2 l2 r2 hlen
      exact p g2 (.ref ad :: vs) H2 (lF.trans l2) (by simpa using r2) (by simp [hlen])

/-- the slots in another order, some left out -/
theorem SRel.reindex {g : Gh} {ρ ρ' : Env} {S : Sto} {σ σ' : L2.St} {H : Hp} (r : SRel X.K cA R0 g ρ S σ H) (φ : Nat → Nat) (h0 : ∀ c ns vs, ρ'[(0 : Nat)]? = some (.own (.obj c ns vs)) → φ 0 = 0) (h1 : ∀ j, ρ'[j]? = ρ[φ j]?) (h2 : ∀ j, σ'[j]? = σ[φ j]?) (inj : ∀ i j, φ i = φ j → i = j) (hl : ρ'.length = σ'.length) : SRel X.K cA R0 g ρ' S σ' H := by
  refine ⟨⟨hl, fun i d e => ?_, fun i o e => ?_⟩, r.rs, r.r0, fun i o a e1 e2 => ?_, fun i j o o' a e1 e2 e3 e4 => ?_, fun x c ns vs e1 e2 => ?_⟩
  rotate_right
  · have h := h0 c ns vs e2
    rw [h1, h] at e2
    rw [h2, h]
    exact r.pin x c ns vs e1 e2
  · rw [h1] at e
    obtain ⟨v, k1, k2⟩ := r.re.val _ d e
    exact ⟨v, by rw [h2]; exact k1, k2⟩
  · rw [h1] at e
    obtain ⟨a, h, k1, k2, k3⟩ := r.re.own _ o e
    exact ⟨a, h, by rw [h2]; exact k1, k2, k3⟩
  · rw [h1] at e1
    rw [h2] at e2
    exact r.out _ o a e1 e2
  · rw [h1] at e1 e2
    rw [h2] at e3 e4
    exact inj i j (r.inj _ _ o o' a e1 e2 e3 e4)
def mv (n i j : Nat) : Nat := if j < n then (if j = i then n else j) else j + 1
theorem mv_inj {n i : Nat} (a b : Nat) (h : mv n i a = mv n i b) : a = b := by
  unfold mv at h
  split at h <;> split at h <;> (try split at h) <;> (try split at h) <;> omega
theorem mv_get {α : Type} {l m : List α} {s : α} {i j : Nat} (hi : i < l.length) : (l.set i s ++ m)[j]? = (l ++ s :: m)[mv l.length i j]? := by
  unfold mv
  by_cases h : j < l.length
  · rw [if_pos h, List.getElem?_append_left (by simpa using h)]
    by_cases e : j = i
    · subst e
      rw [if_pos rfl, List.getElem?_set_self hi, List.getElem?_append_right (Nat.le_refl _), Nat.sub_self]
      rfl
    · rw [if_neg e, List.getElem?_set_ne (fun z => e z.symm), List.getElem?_append_left h]
  · rw [if_neg h, List.getElem?_append_right (by simpa using Nat.le_of_not_lt h), List.getElem?_append_right (by omega), List.length_set]
    have : j + 1 - l.length = (j - l.length) + 1 := by omega
    rw [this]
    rfl
def Slot.nob : Slot → Bool
  | .own o => o.nob
  | _ => true
/-- one that waits gets its name -/
theorem SRel.move {g : Gh} {ρ : Env} {S : Sto} {σ : L2.St} {H : Hp} {i : Nat} {s : Slot} {pn : List Slot} {v : Option V} {pv : L2.St} (r : SRel X.K cA R0 g (ρ ++ s :: pn) S (σ ++ v :: pv) H) (hl : ρ.length = σ.length) (hi : i < ρ.length) (hs : s.nob = true) :
    SRel X.K cA R0 g (ρ.set i s ++ pn) S (σ.set i v ++ pv) H := by
  refine r.reindex (mv ρ.length i) (fun c ns vs e => ?_) (fun j => mv_get hi) (fun j => by rw [hl]; exact mv_get (by rw [← hl]; exact hi)) mv_inj ?_
  · have hn : 0 < ρ.length := by omega
    rw [List.getElem?_append_left (by simpa using hn)] at e
    by_cases q : i = 0
    · subst q
      rw [List.getElem?_set_self hi] at e
      cases e
      exact absurd hs (by simp [Slot.nob, OV.nob])
    · unfold mv
      rw [if_pos hn, if_neg (fun z => q z.symm)]
  have := r.re.len
  simp only [List.length_append, List.length_cons, List.length_set] at this ⊢
  omega
/-- all of them -/
def setAll : List (Nat × Slot) → List V → L2.St → L2.St
  | (i, _) :: r, v :: vs, σ => setAll r vs (σ.set i (some v))
  | _, _, σ => σ
theorem SRel.moveAll {g : Gh} {S : Sto} {H : Hp} : ∀ {xs : List (Nat × Slot)} {vs : List V} {ρ : Env} {σ : L2.St}, SRel X.K cA R0 g (ρ ++ xs.map (·.2)) S (σ ++ vs.map some) H → vs.length = xs.length → ρ.length = σ.length → (∀ p ∈ xs, p.1 < ρ.length ∧ p.2.nob = true) →
    SRel X.K cA R0 g (parE xs ρ) S (setAll xs vs σ) H
  | [], vs, ρ, σ, r, hl, _, _ => by
    have : vs = [] := List.length_eq_zero_iff.mp hl
    subst this
    simpa [parE, setAll] using r
  | (i, s) :: xs, [], ρ, σ, r, hl, _, _ => by simp at hl
  | (i, s) :: xs, v :: vs, ρ, σ, r, hl, h2, hb => by
    have r1 : SRel X.K cA R0 g (ρ.set i s ++ xs.map (·.2)) S (σ.set i (some v) ++ vs.map some) H := SRel.move (by simpa using r) h2 (hb _ List.mem_cons_self).1 (hb _ List.mem_cons_self).2
    exact SRel.moveAll (xs := xs) (vs := vs) (ρ := ρ.set i s) (σ := σ.set i (some v)) r1 (by simpa using hl) (by simpa using h2) fun p hp => by rw [List.length_set]; exact hb p (List.mem_cons_of_mem _ hp)
end
end GL
end
section
set_option Elab.async false
set_option linter.all false
set_option maxRecDepth 100000
/-! Parallel stores of two and three plain names. -/
namespace GL
open PySem L2 PySem.Spec PyProof.Rows
section
theorem stars_any {vs : List Expr} (h : vs.all noStar = true) : (vs.any fun | .Starred .. => true | _ => false) = false := by
  induction vs with
  | nil => rfl
  | cons e es ih =>
    simp only [List.all_cons, Bool.and_eq_true] at h
    rw [List.any_cons, ih h.2]
    cases e <;> first | rfl | (have := h.1; unfold noStar at this; cases this)
theorem sw2 {env : PySem.Env} {x y : Str} {px py pt p2 : Pos} {kt k2 : Nat} {a b : Expr} (hk : env.scope.kind = .function) (hx : env.scope.names.lookup x = some .local) (hy : env.scope.names.lookup y = some .local) (hl : (py.line == px.line) = true) (hxy : (x == y) = false)
    (hs : [a, b].all noStar = true) (hf : [a, b].all (foldedForSure 8) = false) (hc : [a, b].all (constantsAlone 8) = false) : swappedStores [.Tuple [.Name x px, .Name y py] kt pt] (.Tuple [a, b] k2 p2) env = pure (some [x, y]) := by
  have kx : env.kindOf x = some .local := hx
  have ky : env.kindOf y = some .local := hy
  have hb : env.blockKind = .function := by unfold Env.blockKind; rw [hk]; rfl
  have hl' : py.line = px.line := eq_of_beq hl
  have e1 := stars_any hs
  have n2 : (x == y) = false := hxy
  have hxy' : ¬ x = y := by simpa using hxy
  have hyx' : ¬ y = x := fun z => hxy' z.symm
  have ed : [x, y].eraseDups = [x, y] := by
    simp [List.eraseDups_cons, hyx', hxy']
  unfold swappedStores
  simp only [hb]
  generalize hfm : List.filterMap _ [Expr.Name x px, Expr.Name y py] = nm
  have fm : nm = [x, y] := by
    rw [← hfm]
    simp [kx, ky, hl', Expr.pos]
  rw [fm, ed]
  simp only [hf, hc]
  have sa : noStar a = true ∧ noStar b = true := by simpa only [List.all_cons, List.all_nil, Bool.and_true, Bool.and_eq_true] using hs
  generalize hany : List.any [a, b] _ = an
  have ean : an = false := by
    rw [← hany]
    obtain ⟨s1, s2⟩ := sa
    cases a <;> first | (unfold noStar at s1; cases s1; done) | skip
    all_goals (cases b <;> first | (unfold noStar at s2; cases s2; done) | rfl)
  rw [ean]
  rfl
variable {X : Cx} {cA : Nat → Addr} {E : XK} {K : Cl} {R0 : R0T}
theorem evP_fst : ∀ {ps : List CP} {ρ : Env} {S S' : Sto} {xs : List (Nat × Slot)}, evP K ps ρ S = .ok xs S' → xs.map (·.1) = ps.map cpI
  | [], ρ, S, S', xs, h => by cases h; rfl
  | .v i e :: ps, ρ, S, S', xs, h => by
    have h : (evE K e ρ >>= fun d => evP K ps ρ >>= fun xs => pure ((i, .val d) :: xs)) S = .ok xs S' := h
    cases e1 : evE K e ρ S with
    | bad => rw [M.bind_bad e1] at h; cases h
    | ex z S1 => rw [M.bind_ex e1] at h; cases h
    | ok d S1 =>
      rw [M.bind_ok e1] at h
      cases e2 : evP K ps ρ S1 with
      | bad => rw [M.bind_bad e2] at h; cases h
      | ex z S2 => rw [M.bind_ex e2] at h; cases h
      | ok ys S2 =>
        rw [M.bind_ok e2] at h
        cases h
        rw [List.map_cons, List.map_cons, evP_fst e2]
        rfl
  | .o i f :: ps, ρ, S, S', xs, h => by
    have h : (evF K f ρ >>= fun o => evP K ps ρ >>= fun xs => pure ((i, .own o) :: xs)) S = .ok xs S' := h
    cases e1 : evF K f ρ S with
    | bad => rw [M.bind_bad e1] at h; cases h
    | ex z S1 => rw [M.bind_ex e1] at h; cases h
    | ok d S1 =>
      rw [M.bind_ok e1] at h
      cases e2 : evP K ps ρ S1 with
      | bad => rw [M.bind_bad e2] at h; cases h
      | ex z S2 => rw [M.bind_ex e2] at h; cases h
      | ok ys S2 =>
        rw [M.bind_ok e2] at h
        cases h
        rw [List.map_cons, List.map_cons, evP_fst e2]
        rfl
theorem evP_nob : ∀ {ps : List CP} {ρ : Env} {S S' : Sto} {xs : List (Nat × Slot)}, evP K ps ρ S = .ok xs S' → ∀ q ∈ xs, q.2.nob = true
  | [], ρ, S, S', xs, h => by cases h; intro q hq; cases hq
  | .v i e :: ps, ρ, S, S', xs, h => by
    have h : (evE K e ρ >>= fun d => evP K ps ρ >>= fun xs => pure ((i, .val d) :: xs)) S = .ok xs S' := h
    cases e1 : evE K e ρ S with
    | bad => rw [M.bind_bad e1] at h; cases h
    | ex z S1 => rw [M.bind_ex e1] at h; cases h
    | ok d S1 =>
      rw [M.bind_ok e1] at h
      cases e2 : evP K ps ρ S1 with
      | bad => rw [M.bind_bad e2] at h; cases h
      | ex z S2 => rw [M.bind_ex e2] at h; cases h
      | ok ys S2 =>
        rw [M.bind_ok e2] at h
        cases h
        intro q hq
        rcases List.mem_cons.mp hq with rfl | hq
        · rfl
        · exact evP_nob e2 q hq
  | .o i f :: ps, ρ, S, S', xs, h => by
    have h : (evF K f ρ >>= fun o => evP K ps ρ >>= fun xs => pure ((i, .own o) :: xs)) S = .ok xs S' := h
    cases e1 : evF K f ρ S with
    | bad => rw [M.bind_bad e1] at h; cases h
    | ex z S1 => rw [M.bind_ex e1] at h; cases h
    | ok d S1 =>
      rw [M.bind_ok e1] at h
      cases e2 : evP K ps ρ S1 with
      | bad => rw [M.bind_bad e2] at h; cases h
      | ex z S2 => rw [M.bind_ex e2] at h; cases h
      | ok ys S2 =>
        rw [M.bind_ok e2] at h
        cases h
        intro q hq
        rcases List.mem_cons.mp hq with rfl | hq
        · exact evF_nob e1
        · exact evP_nob e2 q hq
/-- the reading of a parallel store, from its values -/
theorem par_sem {ps : List CP} {D : Ends} {σ : L2.St} {H : Hp} (h : TAS' X cA R0 E (evS K (.par ps)) D σ H) : TAP X cA R0 E (evP K ps) σ H fun vs H1 => ∃ xs : List (Nat × Slot), xs.map (·.1) = ps.map cpI ∧ vs.length = xs.length ∧ D.nx (setAll xs vs σ) H1 := by
  obtain ⟨g, ρ, S, r, p⟩ := h
  simp only [evS] at p
  split at p
  · next hb =>
    refine ⟨g, ρ, S, [], [], by simpa using r, r.re.len, ?_⟩
    unfold liftE at p
    cases e : evP K ps ρ S with
    | bad => rw [e] at p; exact p.elim
    | ex z S1 => rw [e] at p; exact p
    | ok xs S1 =>
      rw [e] at p
      intro g' vs H' l r' hlen
      refine ⟨xs, evP_fst e, hlen, p g' _ H' l (SRel.moveAll (by simpa using r') hlen r.re.len fun q hq => ⟨?_, evP_nob e q hq⟩)⟩
      have : q.1 ∈ ps.map cpI := by rw [← evP_fst e]; exact List.mem_map_of_mem hq
      have := List.all_eq_true.mp hb _ this
      simpa using this
  · exact p.elim
theorem st_par2 {i j : Nat} {ps : List CP} {x y : Str} {px py pt p2 pos : Pos} {kt k2 : Nat} {a b : Expr} (hcalm : X.calm = true) (nd : X.N.Nodup) (hi : X.N[i]? = some x) (hj : X.N[j]? = some y) (hk : X.env.scope.kind = .function)
    (hx : X.env.scope.names.lookup x = some .local) (hy : X.env.scope.names.lookup y = some .local) (hl : (py.line == px.line) = true) (hij : i ≠ j)
    (hs : [a, b].all noStar = true) (hf : [a, b].all (foldedForSure 8) = false) (hc : [a, b].all (constantsAlone 8) = false) (hps : ps.map cpI = [i, j]) (ha : PA X [a, b] (TAP X cA R0 E (evP K ps))) :
    PS X (.Assign [.Tuple [.Name x px, .Name y py] kt pt] (.Tuple [a, b] k2 p2) pos) (TAS' X cA R0 E (evS K (.par ps))) := by
  have hxy : (x == y) = false := by
    refine beq_eq_false_iff_ne.mpr fun z => hij ?_
    subst z
    exact (List.getElem?_inj (List.getElem?_eq_some_iff.mp hi).1 nd).mp (hi.trans hj.symm)
  refine (ps_par hcalm nd hi hj hij hx hy ha (sw2 hk hx hy hl hxy hs hf hc) (by rfl)).imp fun D σ H h => ?_
  obtain ⟨g, ρ, S, pn, pv, r, hlen, p⟩ := par_sem h
  refine ⟨g, ρ, S, pn, pv, r, hlen, ?_⟩
  cases e : evP K ps ρ S with
  | bad => rw [e] at p; exact p.elim
  | ex z S1 => rw [e] at p; exact p
  | ok xs S1 =>
    rw [e] at p
    intro g' vs H' l r' hl'
    obtain ⟨ys, h1, h2, q⟩ := p g' vs H' l r' hl'
    rw [hps] at h1
    rcases ys with _ | ⟨⟨i', s1⟩, _ | ⟨⟨j', s2⟩, _ | ⟨_, _⟩⟩⟩ <;> simp at h1
    obtain ⟨rfl, rfl⟩ := h1
    rcases vs with _ | ⟨v, _ | ⟨w, _ | ⟨_, _⟩⟩⟩ <;> simp at h2
    exact ⟨v, w, rfl, q⟩
end
end GL
end
section
set_option Elab.async false
set_option linter.all false
set_option maxRecDepth 100000
/-! Parallel stores of three plain names; names stored in order; which of these it is, by the scope. -/
namespace GL
open PySem L2 PySem.Spec PyProof.Rows
def nmsW (sc : Scope) (ts : List Expr) : List Str := ts.filterMap fun
    | .Name x p => if sc.names.lookup x == some .local && p.line == (ts.head?.map (·.pos.line)).getD 0 then some x else none
    | _ => none
/-- which stores are exchanged: by the scope alone -/
def swM (sc : Scope) (ts vs : List Expr) : Option (Option (List Str)) :=
  if (!(ts.length == 2 || ts.length == 3) || vs.length != ts.length) = true then some none else
  if (vs.any fun | .Starred .. => true | _ => false) = true then some none else
  if ((nmsW sc ts).length != ts.length || (nmsW sc ts).eraseDups.length != (nmsW sc ts).length) = true then some none else
  if vs.all (foldedForSure 8) = true then some none else
  if vs.all (constantsAlone 8) = true then none else some (some (nmsW sc ts))
theorem swM_ok {env : PySem.Env} (hk : env.scope.kind = .function) {ts vs : List Expr} {kt k2 : Nat} {pt p2 : Pos} {r : Option (List Str)} (h : swM env.scope ts vs = some r) : swappedStores [.Tuple ts kt pt] (.Tuple vs k2 p2) env = pure r := by
  have hb : env.blockKind = .function := by unfold Env.blockKind; rw [hk]; rfl
  unfold swM at h
  unfold swappedStores
  simp only [hb]
  generalize hg : (List.filterMap _ ts : List Str) = nm2
  generalize hn : nmsW env.scope ts = nms at h
  have e : nm2 = nms := by rw [← hg, ← hn]; rfl
  subst e
  clear hg hn
  generalize hv : List.any vs _ = av
  generalize hv2 : List.any vs _ = av2 at h
  have e2 : av = av2 := by rw [← hv, ← hv2]; rfl
  subst e2
  clear hv hv2
  by_cases c1 : (!(ts.length == 2 || ts.length == 3) || vs.length != ts.length) = true
  · rw [if_pos c1] at h; cases h
    rw [if_pos (by rw [c1]; rfl)]
  · rw [if_neg c1] at h
    rw [if_neg (show ¬ _ by simpa using c1)]
    by_cases c2 : av = true
    · rw [if_pos c2] at h; cases h
      simp [c2]
    · rw [if_neg c2] at h
      by_cases c3 : (nm2.length != ts.length || nm2.eraseDups.length != nm2.length) = true
      · rw [if_pos c3] at h; cases h
        simp only [c2, c3, pure_bind, if_true]
        rfl
      · rw [if_neg c3] at h
        by_cases c4 : vs.all (foldedForSure 8) = true
        · rw [if_pos c4] at h; cases h
          simp only [c2, c3, c4, pure_bind, if_true]
          rfl
        · rw [if_neg c4] at h
          by_cases c5 : vs.all (constantsAlone 8) = true
          · rw [if_pos c5] at h; cases h
          · rw [if_neg c5] at h; cases h
            simp only [c2, c3, c4, c5, pure_bind, if_true]
            rfl
section
variable {X : Cx} {cA : Nat → Addr} {E : XK} {K : Cl} {R0 : R0T}
theorem ne_names {N : List Str} (nd : N.Nodup) {i j : Nat} {x y : Str} (hi : N[i]? = some x) (hj : N[j]? = some y) (h : x ≠ y) : i ≠ j := fun e => h (by subst e; rw [hi] at hj; exact Option.some.inj hj)
theorem st_par2s {i j : Nat} {ps : List CP} {x y : Str} {px py pt p2 pos : Pos} {kt k2 : Nat} {a b : Expr} (hcalm : X.calm = true) (nd : X.N.Nodup) (hi : X.N[i]? = some x) (hj : X.N[j]? = some y)
    (hx : X.env.scope.names.lookup x = some .local) (hy : X.env.scope.names.lookup y = some .local) (hij : i ≠ j)
    (hw : swappedStores [.Tuple [.Name x px, .Name y py] kt pt] (.Tuple [a, b] k2 p2) X.env = pure (some [x, y])) (hps : ps.map cpI = [i, j]) (ha : PA X [a, b] (TAP X cA R0 E (evP K ps))) :
    PS X (.Assign [.Tuple [.Name x px, .Name y py] kt pt] (.Tuple [a, b] k2 p2) pos) (TAS' X cA R0 E (evS K (.par ps))) := by
  refine (ps_par hcalm nd hi hj hij hx hy ha hw (by rfl)).imp fun D σ H h => ?_
  obtain ⟨g, ρ, S, pn, pv, r, hlen, p⟩ := par_sem h
  refine ⟨g, ρ, S, pn, pv, r, hlen, ?_⟩
  cases e : evP K ps ρ S with
  | bad => rw [e] at p; exact p.elim
  | ex z S1 => rw [e] at p; exact p
  | ok xs S1 =>
    rw [e] at p
    intro g' vs H' l r' hl'
    obtain ⟨ys, h1, h2, q⟩ := p g' vs H' l r' hl'
    rw [hps] at h1
    rcases ys with _ | ⟨⟨i', s1⟩, _ | ⟨⟨j', s2⟩, _ | ⟨_, _⟩⟩⟩ <;> simp at h1
    obtain ⟨rfl, rfl⟩ := h1
    rcases vs with _ | ⟨v, _ | ⟨w, _ | ⟨_, _⟩⟩⟩ <;> simp at h2
    exact ⟨v, w, rfl, q⟩
theorem st_par3s {i j l : Nat} {ps : List CP} {x y z : Str} {px py pz pt p2 pos : Pos} {kt k2 : Nat} {a b c : Expr} (hcalm : X.calm = true) (nd : X.N.Nodup) (hi : X.N[i]? = some x) (hj : X.N[j]? = some y) (hl : X.N[l]? = some z)
    (hx : X.env.scope.names.lookup x = some .local) (hy : X.env.scope.names.lookup y = some .local) (hz : X.env.scope.names.lookup z = some .local) (hij : i ≠ j) (hil : i ≠ l) (hjl : j ≠ l)
    (hw : swappedStores [.Tuple [.Name x px, .Name y py, .Name z pz] kt pt] (.Tuple [a, b, c] k2 p2) X.env = pure (some [x, y, z])) (hps : ps.map cpI = [i, j, l]) (ha : PA X [a, b, c] (TAP X cA R0 E (evP K ps))) :
    PS X (.Assign [.Tuple [.Name x px, .Name y py, .Name z pz] kt pt] (.Tuple [a, b, c] k2 p2) pos) (TAS' X cA R0 E (evS K (.par ps))) := by
  refine (ps_par3 hcalm nd hi hj hl hij hil hjl hx hy hz ha hw (by rfl)).imp fun D σ H h => ?_
  obtain ⟨g, ρ, S, pn, pv, r, hlen, p⟩ := par_sem h
  refine ⟨g, ρ, S, pn, pv, r, hlen, ?_⟩
  cases e : evP K ps ρ S with
  | bad => rw [e] at p; exact p.elim
  | ex z S1 => rw [e] at p; exact p
  | ok xs S1 =>
    rw [e] at p
    intro g' vs H' l r' hl'
    obtain ⟨ys, h1, h2, q⟩ := p g' vs H' l r' hl'
    rw [hps] at h1
    rcases ys with _ | ⟨⟨i', s1⟩, _ | ⟨⟨j', s2⟩, _ | ⟨⟨l', s3⟩, _ | ⟨_, _⟩⟩⟩⟩ <;> simp at h1
    obtain ⟨rfl, rfl, rfl⟩ := h1
    rcases vs with _ | ⟨v, _ | ⟨w, _ | ⟨u, _ | ⟨_, _⟩⟩⟩⟩ <;> simp at h2
    exact ⟨v, w, u, rfl, q⟩

/-! ### in order -/
def setNs : List Nat → List V → L2.St → L2.St
  | i :: r, v :: vs, σ => setNs r vs (σ.set i (some v))
  | _, _, σ => σ
theorem setAll_ns : ∀ (xs : List (Nat × Slot)) (vs : List V) (σ : L2.St), setAll xs vs σ = setNs (xs.map (·.1)) vs σ
  | [], [], _ => rfl
  | [], _ :: _, _ => rfl
  | _ :: _, [], _ => rfl
  | (i, _) :: xs, v :: vs, σ => by
    show setAll xs vs _ = setNs (xs.map (·.1)) vs _
    exact setAll_ns xs vs _
/-- the names of a target, one after another -/
def mtN (N : List Str) (lf : Str → Bool) : List Nat → List Expr → Bool
  | [], [] => true
  | i :: is, .Name x _ :: es => decide (N[i]? = some x) && lf x && mtN N lf is es
  | _, _ => false
theorem mtN_star {N : List Str} {lf : Str → Bool} : ∀ {is : List Nat} {es : List Expr}, mtN N lf is es = true → es.all noStar = true ∧ es.length = is.length
  | [], [], _ => ⟨rfl, rfl⟩
  | [], _ :: _, h => ff h
  | i :: is, [], h => ff h
  | i :: is, e :: es, h => by
    cases e <;> first | exact ff h | skip
    have h := (and3 (show (decide (N[i]? = some _) && lf _ && mtN N lf is es) = true from h)).2.2
    obtain ⟨h1, h2⟩ := mtN_star h
    exact ⟨by simpa [noStar] using h1, by simp [h2]⟩
theorem pgs_names {N : List Str} {lf : Str → Bool} (hN : X.N = N) (nd : X.N.Nodup) (hl : ∀ x, lf x = true → L2.Loc X.env.scope x ∧ (X.fn x = true ∨ X.env.scope.names.lookup x = some .local)) :
    ∀ {is : List Nat} {es : List Expr}, mtN N lf is es = true → PGs X es (fun vs σ H Q => vs.length = is.length ∧ Q (setNs is vs σ) H)
  | [], [], _ => by
    refine ⟨fun pins s σ H vs us Q I r ⟨h1, h2⟩ => ?_⟩
    have e : vs = [] := List.length_eq_zero_iff.mp h1
    subst e
    exact pgs_nil.run pins s σ H [] us Q I r ⟨rfl, h2⟩
  | [], _ :: _, h => ff h
  | i :: is, [], h => ff h
  | i :: is, e :: es, h => by
    cases e <;> first | exact ff h | skip
    obtain ⟨h1, h2, h3⟩ := and3 (show (decide (N[i]? = some _) && lf _ && mtN N lf is es) = true from h)
    obtain ⟨k1, k2⟩ := hl _ h2
    refine ⟨fun pins s σ H vs us Q I r ⟨q1, q2⟩ => ?_⟩
    rcases vs with _ | ⟨v, vs⟩
    · simp at q1
    · exact (pgs_cons (pg_name nd (by rw [hN]; exact of_decide_eq_true h1) k1 k2) (pgs_names hN nd hl h3) (by rfl)).run pins s σ H _ us Q I r ⟨v, vs, rfl, by simpa using q1, q2⟩
theorem st_parU {N : List Str} {lf : Str → Bool} {ps : List CP} {ts es : List Expr} {kt k2 : Nat} {pt p2 pos : Pos} (hcalm : X.calm = true) (hN : X.N = N) (nd : X.N.Nodup) (hl : ∀ x, lf x = true → L2.Loc X.env.scope x ∧ (X.fn x = true ∨ X.env.scope.names.lookup x = some .local))
    (hm : mtN N lf (ps.map cpI) ts = true) (hsm : ps.length ≤ 1000) (hw : swappedStores [.Tuple ts kt pt] (.Tuple es k2 p2) X.env = pure none) (ha : PA X es (TAP X cA R0 E (evP K ps))) :
    PS X (.Assign [.Tuple ts kt pt] (.Tuple es k2 p2) pos) (TAS' X cA R0 E (evS K (.par ps))) := by
  obtain ⟨hst, hlen0⟩ := mtN_star hm
  obtain ⟨k1, k2'⟩ := each_len hst X.env
  refine (ps_asg (pe_tup ha) (pg_tup hcalm (pgs_names hN nd hl hm) k1 k2') (by rfl) hw (by rfl)).imp fun D σ H h => ?_
  obtain ⟨g, ρ, S, r, p⟩ := h
  simp only [evS] at p
  split at p
  · next hb =>
    refine ⟨g, ρ, S, [], [], by simpa using r, r.re.len, ?_⟩
    unfold liftE at p
    cases e : evP K ps ρ S with
    | bad => rw [e] at p; exact p.elim
    | ex z S1 => rw [e] at p; exact p
    | ok xs S1 =>
      rw [e] at p
      intro g' vs H' l r' hlen
      have el : vs.length = (ps.map cpI).length := by rw [hlen, ← evP_fst e, List.length_map]
      have el' : vs.length = ps.length := by rw [el, List.length_map]
      refine ⟨Nat.le_trans (by rw [el']; exact hsm) (by rw [← sizeL]; unfold LIM; omega), fun q hq => ⟨q, vs, rfl, .inl (.inl upd_same), ?_, el, ?_⟩⟩
      · rw [el', hlen0, List.length_map]
      · have r2 := r'.grow (r'.rs.leLay (o := .tup vs) hq) (r'.rs.lay hq)
        have := p _ _ _ (l.trans (.of (r'.rs.leLay (o := .tup vs) hq))) (SRel.moveAll (by simpa using r2) hlen r.re.len fun q hq => ⟨by
          have : q.1 ∈ ps.map cpI := by rw [← evP_fst e]; exact List.mem_map_of_mem hq
          have := List.all_eq_true.mp hb _ this
          simpa using this, evP_nob e q hq⟩)
        rw [setAll_ns, evP_fst e] at this
        exact this
  · exact p.elim
end
end GL
end
section
set_option Elab.async false
set_option linter.all false
set_option maxRecDepth 100000
/-! Statements: the match with the written form. -/
namespace GL
open PySem
open L2 (blkC relS)
/-- name = [..] on one line: whether the name is stored ahead of what the list's names held -/
def swC (sc scope : Scope) (y : Str) (py pos : Pos) : Bool := sc.names.lookup y == some .local && py.line == pos.line && !(scope.names.any fun (n, k) => n == y && (k == .local || k == .cell))
/-- stored in order, from a value -/
def swN (sc : Scope) (tg x : Expr) : Bool := match tg, x with
  | .Tuple ts _ _, .Tuple vs _ _ => decide (swM sc ts vs = some none)
  | .List _ _, _ => false
  | _, _ => true
def cmN (sc : Scope) (tg x : Expr) : Bool := match tg, x with
  | .Name y py, .ListComp _ _ scope pos => !swC sc scope y py pos
  | .Name y py, .SetComp _ _ scope pos => !swC sc scope y py pos
  | .Name y py, .DictComp _ _ _ scope pos => !swC sc scope y py pos
  | _, _ => true
section
variable (N : List Str) (gn : Str → Option Gn)
def locO (sc : Scope) (x : Str) : Bool := decide (sc.names.lookup x = some .local)
def mtP : List CP → Scope → List Expr → Bool
  | [], _, [] => true
  | .v i e :: ps, sc, x :: xs => noStar x && mtE N gn e sc x && mtP ps sc xs
  | .o i f :: ps, sc, x :: xs => noStar x && mtF N gn f sc x && mtP ps sc xs
  | _, _, _ => false
def mtW (sc : Scope) (is : List Nat) (ts es : List Expr) : Bool := match swM sc ts es with
  | none => false
  | some none => mtN N (locB sc) is ts
  | some (some nms) => match is, ts, es with
    | [i, j], [.Name x _, .Name y _], [_, _] => decide (nms = [x, y]) && decide (N[i]? = some x) && decide (N[j]? = some y) && locO sc x && locO sc y && decide (i ≠ j)
    | [i, j, l], [.Name x _, .Name y _, .Name z _], [_, _, _] => decide (nms = [x, y, z]) && decide (N[i]? = some x) && decide (N[j]? = some y) && decide (N[l]? = some z) && locO sc x && locO sc y && locO sc z && decide (i ≠ j) && decide (i ≠ l) && decide (j ≠ l)
    | _, _, _ => false
mutual
def mtS : CS → Scope → Stmt → Bool
  | .never, _, _ => true
  | .ex e, sc, .Expr x _ => noComp x && mtE N gn e sc x
  | .set t e, sc, .Assign [tg] x pos => noStar tg && mtT N (locB sc) t tg && mtE N gn e sc x && (match t, e, tg, x with
    | .nm i, .comp elt g own, .Name y py, .ListComp _ _ scope p2 => swC sc scope y py p2 || (swN sc tg x && cmN sc tg x)
    | _, _, _, _ => swN sc tg x && cmN sc tg x)
  | .par ps, sc, .Assign [.Tuple ts _ _] (.Tuple es _ _) _ => decide (ps.length ≤ 1000) && mtP N gn ps sc es && mtW N sc (ps.map cpI) ts es
  | .own i f, sc, .Assign [.Name y py] x _ => decide (N[i]? = some y) && locB sc y && mtF N gn f sc x && (match f, x with
    | .comp elt g own, .ListComp _ _ scope p2 => true
    | _, _ => noComp x)
  | .aug i op e, sc, .AugAssign (.Name y _) o x _ => decide (N[i]? = some y) && locB sc y && decide (o = pyB op) && mtE N gn e sc x
  | .app i e, sc, .Expr (.Call (.Attribute (.Name nm _) m ap) [y] [] cp) _ => decide (m = "append") && nmB N sc i nm && noStar y && lineB ap cp && mtE N gn e sc y
  | .sapp o e, sc, .Expr (.Call (.Attribute x m ap) [y] [] cp) _ => decide (m = "append") && noSup x && noStar y && lineB ap cp && mtE N gn o sc x && mtE N gn e sc y
  | .extd i e, sc, .Expr (.Call (.Attribute (.Name nm _) m ap) [y] [] cp) _ => decide (m = "extend") && nmB N sc i nm && noStar y && lineB ap cp && mtE N gn e sc y
  | .put i k e, sc, .Assign [.Subscript (.Name nm _) y _] x _ => nmB N sc i nm && noSlc y && noComp x && mtE N gn e sc x && mtE N gn k sc y
  | .sput o k e, sc, .Assign [.Subscript z y _] x _ => noSlc y && noComp x && mtE N gn e sc x && mtE N gn o sc z && mtE N gn k sc y
  | .setf f e, sc, .Assign [.Attribute (.Name nm _) g _] x _ => nmB N sc 0 nm && decide (f = g) && mtE N gn e sc x
  | .ret e, sc, .Return (some x) _ => mtE N gn e sc x
  | .retn, sc, .Return none _ => true
  | .ite c a b, sc, .If x sa sb _ => mtE N gn c sc x && mtSs a sc sa && mtSs b sc sb
  | .whl c b, sc, .While x sb [] _ => mtE N gn c sc x && mtSs b sc sb
  | .for t i b, sc, .For tg it sb [] _ => noSet it && mtT N (locB sc) t tg && mtI N gn i sc tg it && mtSs b sc sb
  | .brk, _, .Break _ => true
  | .cnt, _, .Continue _ => true
  | .pass, _, .Pass _ => true
  | _, _, _ => false
def mtSs : CSs → Scope → List Stmt → Bool
  | .nil, _, [] => true
  | .cons .never .nil, _, _ => true
  | .cons (.frz i) r, sc, l => mtSs r sc l
  | .cons s r, sc, st :: l => mtS s sc st && mtSs r sc l
  | _, _, _ => false
end
end
end GL
end
section
set_option Elab.async false
set_option linter.all false
set_option maxRecDepth 100000
/-! name = [..] on one line. -/
namespace GL
open PySem L2 PySem.Spec PyProof.Rows
section
variable {G : Prg} {K : Cl} {k : Nat} {N : List Str} (P : POk G) (L : Lv G K k)
theorem swC_list {elt : Expr} {gs : List Comprehension} {scope : Scope} {pos py : Pos} {y : Str} {l : Nat} {env : PySem.Env} (hk : env.scope.kind = .function) : swapsWith (.ListComp elt gs scope pos) (some (.Name y py)) l env = pure (swC env.scope scope y py pos) := by
  have hb : env.blockKind = .function := by unfold Env.blockKind; rw [hk]; rfl
  unfold swapsWith swC
  simp only [hb, Env.kindOf, Expr.pos]
  rfl
theorem swC_set {elt : Expr} {gs : List Comprehension} {scope : Scope} {pos py : Pos} {y : Str} {l : Nat} {env : PySem.Env} (hk : env.scope.kind = .function) : swapsWith (.SetComp elt gs scope pos) (some (.Name y py)) l env = pure (swC env.scope scope y py pos) := by
  have hb : env.blockKind = .function := by unfold Env.blockKind; rw [hk]; rfl
  unfold swapsWith swC
  simp only [hb, Env.kindOf, Expr.pos]
  rfl
theorem swC_dict {e1 e2 : Expr} {gs : List Comprehension} {scope : Scope} {pos py : Pos} {y : Str} {l : Nat} {env : PySem.Env} (hk : env.scope.kind = .function) : swapsWith (.DictComp e1 e2 gs scope pos) (some (.Name y py)) l env = pure (swC env.scope scope y py pos) := by
  have hb : env.blockKind = .function := by unfold Env.blockKind; rw [hk]; rfl
  unfold swapsWith swC
  simp only [hb, Env.kindOf, Expr.pos]
  rfl
/-- what a comprehension asks -/
def TComp {α : Type} (X : Cx) (cA : Nat → Addr) (K : Cl) (F : Env → α → M α) (ov : α → OV) (a0 : α) (own : List (Str × Nat)) (g : CGs) : TE := fun σ H Q => ∃ g0 ρ S, RelE X.K cA g0 ρ σ ∧ RelS X.K cA g0 S H ∧ ∃ acc SF, evG K g F ρ (wipeE ρ (own.map (·.2))) a0 S = .ok acc SF ∧
  ∀ D g' H' o', LeD D o' g0 g' → g0.R D = none → RelS X.K cA g' SF H' → OvR X.K cA g' (ov acc) o' → Q (.ref D) H'
include P L
theorem comp_set {α : Type} {F : Env → α → M α} {ov : α → OV} {a0 : α} {own : List (Str × Nat)} {scope : Scope} {pos spos py : Pos} {y : Str} {i0 : Nat} {gens : List Comprehension} :
    ∀ (g : CGs) (sc : Scope) (X : Cx) (ck : CK), CtxOk G k N sc X → blkC N sc scope own = true → (∀ i ∈ gslots g, i ∈ own.map (·.2)) → mtGs N G.gn g sc (relS scope sc) scope gens = true →
    (∀ Y, CtxOk G k N (relS scope sc) Y → Y.K = X.K → Y.xe = (fun _ _ => False) → Passes (L2.CX Y.prog Y.w) Y pF → ∀ D all d, all[d]? = none → PCl Y ck all scope pos d D [] (TAC Y G.cA D ov F)) → (∀ g, OvR X.K G.cA g (ov a0) ck.o0) →
    X.N[i0]? = some y → X.env.scope.names.lookup y = some .local → (∀ gs : List Comprehension, swapsWith (ck.ex gs scope pos) (some (.Name y py)) spos.line X.env = pure true) →
    PS X (.Assign [.Name y py] (ck.ex gens scope pos) spos) (tAsg (TComp X G.cA K F ov a0 own g) (gName i0))
  | .one (.mk t i cs), sc, X, ck, c, h1, ho, h3, hem, ha, hy, hyl, hsw => by
    have hall := mtGs_all h3
    rcases gens with _ | ⟨⟨tg, it, ifs, az⟩, _ | ⟨_, _⟩⟩
    · exact ff h3
    · have h : (decide (az = 0) && noSet it && mtT N (locB scope) t tg && mtI N G.gn i sc tg it && mtC N G.gn cs (relS scope sc) ifs) = true := h3
      simp only [Bool.and_eq_true, decide_eq_true_eq] at h
      obtain ⟨⟨⟨⟨rfl, h2⟩, h7⟩, h4⟩, h5⟩ := h
      refine (ps_setComp c.calm c.nd hy hyl (hsw _) ((ci_ok P L) i sc X pF tg it c passF h4) (blkOk_by (by rw [c.N, c.sc]; exact h1)) (fun q hq => (hall q hq).1) (fun q hq env y => noSet_fold (hall q hq).2 env y)
        (g := gA X G.cA t) (tt := TAT X G.cA pF (fun ρ => evC K cs ρ)) (vs' := []) (t' := fun D => TAC X G.cA D ov F)
        (CtxOk.blkP c fun Y cY eK hxe hp hl => by rw [← gA_K eK]; exact pg_ok cY.N cY.nd cY.calm hl t tg h7)
        (CtxOk.blkP c fun Y cY eK hxe hp hl => by rw [← TAT_K eK]; exact (cc_ok P L) cs _ Y ifs cY hp h5)
        (CtxOk.blkP c fun Y cY eK hxe hp hl D => by rw [← TAC_K eK]; exact hem Y cY eK hxe hp D _ 1 rfl) (fun _ hh => absurd hh (by simp))).imp fun D σ H h => ?_
      obtain ⟨g0, ρ, S, re, rs, acc, SF, em, hQ⟩ := h
      refine top_sem re rs (fun j hj => ho j (by simpa only [gslots] using hj)) (accF := acc) (SF := SF) (acc0 := a0) ?_ ha hQ
      simp only [evG] at em
      exact em
    · exact ff h3
  | .two (.mk t i cs) r, sc, X, ck, c, h1, ho, h3, hem, ha, hy, hyl, hsw => by
    have hall := mtGs_all h3
    rcases gens with _ | ⟨⟨tg, it, ifs, az⟩, gens⟩
    · exact ff h3
    · have h : (decide (az = 0) && noSet it && mtT N (locB scope) t tg && mtI N G.gn i sc tg it && mtC N G.gn cs (relS scope sc) ifs && mtGs N G.gn r (relS scope sc) (relS scope sc) scope gens) = true := h3
      simp only [Bool.and_eq_true, decide_eq_true_eq] at h
      obtain ⟨⟨⟨⟨⟨rfl, h2⟩, h7⟩, h4⟩, h5⟩, h6⟩ := h
      have hz : ∀ q ∈ ((⟨tg, it, ifs, 0⟩ : Comprehension) :: gens), q.is_async = 0 := fun q hq => (hall q hq).1
      have hs : ∀ q ∈ ((⟨tg, it, ifs, 0⟩ : Comprehension) :: gens), ∀ (env : PySem.Env) y, foldedSetIterable q.iter env y = pure y := fun q hq env y => noSet_fold (hall q hq).2 env y
      refine (ps_setComp c.calm c.nd hy hyl (hsw _) ((ci_ok P L) i sc X pF tg it c passF h4) (blkOk_by (by rw [c.N, c.sc]; exact h1)) hz hs
        (g := gA X G.cA t) (tt := TAT X G.cA pF (fun ρ => evC K cs ρ)) (vs' := gslots r) (t' := fun D => TAC X G.cA D ov (fun ρ' a => evG K r F ρ' (wipeE ρ' (gslots r)) a))
        (CtxOk.blkP c fun Y cY eK hxe hp hl => by rw [← gA_K eK]; exact pg_ok cY.N cY.nd cY.calm hl t tg h7)
        (CtxOk.blkP c fun Y cY eK hxe hp hl => by rw [← TAT_K eK]; exact (cc_ok P L) cs _ Y ifs cY hp h5)
        (CtxOk.blkP c fun Y cY eK hxe hp hl D => by rw [← TAC_K eK]; exact (cgs_ok P L) hz hs r _ scope Y 1 gens cY hxe hp hl h6 rfl (hem Y cY eK hxe hp D _)) (fun j hj => ho j (by simp only [gslots, List.mem_append]; exact .inr hj))).imp fun D σ H h => ?_
      obtain ⟨g0, ρ, S, re, rs, acc, SF, em, hQ⟩ := h
      refine top_sem re rs (fun j hj => ho j (by simp only [gslots, List.mem_append]; exact .inl hj)) (accF := acc) (SF := SF) (acc0 := a0) ?_ ha hQ
      simp only [evG] at em
      exact em
omit P L
/-! ### what the values' readings ask of it -/
theorem tc_list {X : Cx} {elt : CE} {g : CGs} {own : List (Str × Nat)} {g0 : Gh} {ρ : Env} {S : Sto} {σ : L2.St} {H : Hp} {Q : VK} {E : XK} (re : RelE X.K G.cA g0 ρ σ) (rs : RelS X.K G.cA g0 S H) (p : Post X.K G.cA (Rep X.K G.cA) g0 (evE K (.comp elt g own) ρ S) Q E) :
    TComp X G.cA K (FL K elt) OV.lst [] own g σ H Q := by
  simp only [evE] at p
  refine ⟨g0, ρ, S, re, rs, ?_⟩
  have p : Post X.K G.cA (Rep X.K G.cA) g0 (M.nox (evG K g (FL K elt) ρ (wipeE ρ (own.map (·.2))) [] >>= fun xs => pure (.lst xs)) S) Q E := p
  unfold M.nox at p
  cases em : evG K g (FL K elt) ρ (wipeE ρ (own.map (·.2))) [] S with
  | bad => rw [M.bind_bad em] at p; exact p.elim
  | ex z S1 => rw [M.bind_ex em] at p; exact p.elim
  | ok acc SF =>
    rw [M.bind_ok em] at p
    refine ⟨acc, SF, rfl, fun D g' H' o' lD hn rs' ⟨vs, eo, rr⟩ => ?_⟩
    subst eo
    obtain ⟨q1, q2⟩ := RelS.freeze lD hn rs'
    refine p _ _ _ q1 q2 ?_
    simp only [Rep]
    exact ⟨D, vs, rfl, upd_same, Reps.monoF (g := g') (g' := ⟨upd g'.F D (.lst vs), g'.π, g0.R⟩) ⟨fun a o z => by
      show upd g'.F D (.lst vs) a = some o
      rw [upd_ne (fun e => by
        have rD : g'.R D = some (.lst vs) := by rw [lD.R, upd_same]
        rw [e] at z
        rw [rs'.dis _ _ z] at rD; cases rD)]
      exact z, fun _ _ z => z⟩ _ _ rr⟩
theorem tc_own {X : Cx} {elt : CE} {g : CGs} {own : List (Str × Nat)} {g0 : Gh} {ρ : Env} {S : Sto} {σ : L2.St} {H : Hp} {Q : VK} {E : XK} (re : RelE X.K G.cA g0 ρ σ) (rs : RelS X.K G.cA g0 S H) (p : PostF X.K G.cA g0 (evF K (.comp elt g own) ρ S) Q E) :
    TComp X G.cA K (FL K elt) OV.lst [] own g σ H Q := by
  simp only [evF] at p
  refine ⟨g0, ρ, S, re, rs, ?_⟩
  have p : PostF X.K G.cA g0 (M.nox (evG K g (FL K elt) ρ (wipeE ρ (own.map (·.2))) [] >>= fun xs => pure (.lst xs)) S) Q E := p
  unfold M.nox at p
  cases em : evG K g (FL K elt) ρ (wipeE ρ (own.map (·.2))) [] S with
  | bad => rw [M.bind_bad em] at p; exact p.elim
  | ex z S1 => rw [M.bind_ex em] at p; exact p.elim
  | ok acc SF =>
    rw [M.bind_ok em] at p
    refine ⟨acc, SF, rfl, fun D g' H' o' lD hn rs' ho' => ?_⟩
    obtain ⟨q1, q2, q3⟩ := RelS.out lD hn rs'
    have q := p _ D o' _ q1 q2 (by unfold unupd; rw [if_pos rfl]) (OvR.monoF (g := g') (g' := ⟨g'.F, g'.π, g0.R⟩) ⟨fun _ _ z => z, fun _ _ z => z⟩ ho')
    rw [unupd_upd q3] at q
    exact q
end
end GL
end
section
set_option Elab.async false
set_option linter.all false
set_option maxRecDepth 100000
/-! Every matched statement runs as the interpreter says. -/
namespace GL
open PySem L2 PySem.Spec PyProof.Rows
/-- a body's context -/
structure BCtx (X : Cx) : Prop where
  kind : X.env.scope.kind = .function
  fn : ∀ x, X.fn x = true
  own : PassesOwn (model X.prog X.w) X.A X.env X.xe
theorem ps_no {X : Cx} {st : Stmt} : PS X st (fun _ _ _ => False) := ⟨fun _ _ _ _ _ _ h => h.elim⟩
theorem pss_no {X : Cx} {st : List Stmt} : PSs X st (fun _ _ _ => False) := ⟨fun _ _ _ _ _ _ h => h.elim⟩
section
variable {X : Cx} {cA : Nat → Addr} {E : XK} {K : Cl} {R0 : R0T} {pos : Pos} {x : Expr} {e : CE}
theorem st_set' {tg : Expr} {t : CT} (hs : swapsWithSole [tg] x pos.line X.env = pure false) (hw : swappedStores [tg] x X.env = pure none) (hn : noStar tg = true) (hg : PG X tg (gA X cA t)) (he : PE X x (TAE X cA E (evE K e))) : PS X (.Assign [tg] x pos) (TAS' X cA R0 E (evS K (.set t e))) := by
  refine (ps_asg he hg hs hw (by rw [each_map hn]; rfl)).imp fun D σ H ⟨g, ρ, S, r, p⟩ => ?_
  have p : PostS X.K cA R0 g (liftE (evE K e ρ) ρ (fun d S' => match GL.asg t d ρ S' with
    | some ρ' => .nx ρ' S'
    | none => .bad) S) D E := by
    simp only [evS] at p
    exact p
  refine ⟨g, ρ, S, r.re, r.rs, liftE_ok r p fun g1 S1 d v H1 l r1 q p => ?_⟩
  cases ea : GL.asg t d ρ S1 with
  | none => rw [ea] at p; exact p.elim
  | some ρ' =>
    rw [ea] at p
    exact ⟨g1, S1, d, ρ, r1.re, r1.rs, q, ρ', ea, fun σ' re' k' _ => p g1 σ' H1 LeF.rfl' (r1.asg (asg_own t d ρ ρ' ea) k' re')⟩
theorem st_own' {i : Nat} {nm : Str} {f : CF} {p2 : Pos} (hs : swapsWith x (some (.Name nm p2)) pos.line X.env = pure false) (nd : X.N.Nodup) (hN : X.N[i]? = some nm) (hl : L2.Loc X.env.scope nm) (hf : X.fn nm = true) (he : PE X x (TAF X cA E (evF K f))) :
    PS X (.Assign [.Name nm p2] x pos) (TAS' X cA R0 E (evS K (.own i f))) := by
  refine (ps_set nd hN hl he hs (.inl hf)).imp fun D σ H ⟨g, ρ, S, r, p⟩ => ?_
  have p : PostS X.K cA R0 g (liftE (evF K f ρ) ρ (fun o S' => if i < ρ.length then .nx (ρ.set i (.own o)) S' else .bad) S) D E := by
    simp only [evS] at p
    exact p
  refine ⟨g, ρ, S, r.re, r.rs, liftF_ok r p fun g1 S1 o a u H1 em l r1 ha ho p => ?_⟩
  split at p
  · next hi =>
    exact p { g1 with R := upd g1.R a u } _ _ ⟨fun _ _ z => z, fun _ _ z => z⟩ (r1.own hi ha ho (evF_nob em))
  · exact p.elim
end
section
variable {G : Prg} {K : Cl} {k : Nat} {N : List Str} (P : POk G) (L : Lv G K k)
include P L
theorem pp_ok {R0 : R0T} : ∀ (ps : List CP) (sc : Scope) (X : Cx) (E : XK) (es : List Expr), CtxOk G k N sc X → Passes (L2.CX X.prog X.w) X E → mtP N G.gn ps sc es = true → PA X es (TAP X G.cA R0 E (evP K ps))
  | [], sc, X, E, es, c, hx, h => by
    cases es <;> first | exact ff h | exact ap_nil
  | .v i e :: ps, sc, X, E, es, c, hx, h => by
    cases es <;> first | exact ff h | skip
    rename_i y ys
    obtain ⟨h1, h2, h3⟩ := and3 (show (noStar y && mtE N G.gn e sc y && mtP N G.gn ps sc ys) = true from h)
    exact ap_v h1 ((ex_ok P L e).1 sc X E y c hx h2) (pp_ok ps sc X E ys c hx h3)
  | .o i f :: ps, sc, X, E, es, c, hx, h => by
    cases es <;> first | exact ff h | skip
    rename_i y ys
    obtain ⟨h1, h2, h3⟩ := and3 (show (noStar y && mtF N G.gn f sc y && mtP N G.gn ps sc ys) = true from h)
    exact ap_o h1 ((cf_ok P L) f sc X E y c hx h2) (pp_ok ps sc X E ys c hx h3)
omit P L in
theorem locO_ok {sc : Scope} {x : Str} (h : locO sc x = true) : sc.names.lookup x = some .local := of_decide_eq_true h
theorem par_ok {R0 : R0T} {ps : List CP} {sc : Scope} {X : Cx} {E : XK} {ts es : List Expr} {kt k2 : Nat} {pt p2 pos : Pos} (c : CtxOk G k N sc X) (b : BCtx X) (hx : Passes (L2.CX X.prog X.w) X E)
    (h0 : ps.length ≤ 1000) (h1 : mtP N G.gn ps sc es = true) (h2 : mtW N sc (ps.map cpI) ts es = true) : PS X (.Assign [.Tuple ts kt pt] (.Tuple es k2 p2) pos) (TAS' X G.cA R0 E (evS K (.par ps))) := by
  have ha := pp_ok P L (R0 := R0) ps sc X E es c hx h1
  unfold mtW at h2
  cases e : swM sc ts es with
  | none => rw [e] at h2; exact ff h2
  | some r =>
    rw [e] at h2
    have hw := swM_ok (kt := kt) (k2 := k2) (pt := pt) (p2 := p2) b.kind (show swM X.env.scope ts es = some r by rw [c.sc]; exact e)
    cases r with
    | none => exact st_parU c.calm c.N c.nd (lf := locB sc) (fun x hx => ⟨by rw [c.sc]; exact locB_ok hx, .inl (b.fn x)⟩) h2 h0 hw ha
    | some nms =>
      simp only [] at h2
      split at h2
      · rename_i i j x px y py e1 e2 hm
        simp only [Bool.and_eq_true, decide_eq_true_eq] at h2
        obtain ⟨⟨⟨⟨⟨rfl, k1⟩, k2'⟩, k3⟩, k4⟩, k5⟩ := h2
        exact st_par2s c.calm c.nd (by rw [c.N]; exact k1) (by rw [c.N]; exact k2') (by rw [c.sc]; exact locO_ok k3) (by rw [c.sc]; exact locO_ok k4) k5 hw hm ha
      · rename_i i j l x px y py z pz e1 e2 e3 hm
        simp only [Bool.and_eq_true, decide_eq_true_eq] at h2
        obtain ⟨⟨⟨⟨⟨⟨⟨⟨⟨rfl, k1⟩, k2'⟩, k3⟩, k4⟩, k5⟩, k6⟩, k7⟩, k8⟩, k9⟩ := h2
        exact st_par3s c.calm c.nd (by rw [c.N]; exact k1) (by rw [c.N]; exact k2') (by rw [c.N]; exact k3) (by rw [c.sc]; exact locO_ok k4) (by rw [c.sc]; exact locO_ok k5) (by rw [c.sc]; exact locO_ok k6) k7 k8 k9 hw hm ha
      · exact ff h2
omit P L in
theorem swN_ok {tg x : Expr} {X : Cx} (b : BCtx X) {sc : Scope} (hsc : X.env.scope = sc) (h : swN sc tg x = true) : swappedStores [tg] x X.env = pure none := by
  cases tg <;> cases x <;> first | rfl | exact ff h | skip
  exact swM_ok b.kind (by rw [hsc]; exact of_decide_eq_true h)
omit P L in
theorem cmN_ok {tg x : Expr} {X : Cx} (b : BCtx X) {sc : Scope} (hsc : X.env.scope = sc) (h : cmN sc tg x = true) (l : Nat) : swapsWith x (some tg) l X.env = pure false := by
  cases x <;> first | rfl | skip
  all_goals (cases tg <;> first | rfl | skip)
  · rw [swC_list b.kind, hsc]
    have h : (!swC sc _ _ _ _) = true := h
    rw [Bool.not_eq_true'] at h
    rw [h]
  · rw [swC_set b.kind, hsc]
    have h : (!swC sc _ _ _ _) = true := h
    rw [Bool.not_eq_true'] at h
    rw [h]
  · rw [swC_dict b.kind, hsc]
    have h : (!swC sc _ _ _ _) = true := h
    rw [Bool.not_eq_true'] at h
    rw [h]
omit P L in
theorem swC_loc {sc scope : Scope} {y : Str} {py pos : Pos} (h : swC sc scope y py pos = true) : sc.names.lookup y = some .local := by
  unfold swC at h
  simp only [Bool.and_eq_true] at h
  exact eq_of_beq h.1.1
theorem comp_list {sc : Scope} {X : Cx} {elt : CE} {g : CGs} {own : List (Str × Nat)} {e : Expr} {gens : List Comprehension} {scope : Scope} {p2 py spos : Pos} {y : Str} {i0 : Nat} (c : CtxOk G k N sc X) (b : BCtx X)
    (hm : mtE N G.gn (.comp elt g own) sc (.ListComp e gens scope p2) = true) (hsw : swC sc scope y py p2 = true) (hN : N[i0]? = some y) : PS X (.Assign [.Name y py] (.ListComp e gens scope p2) spos) (tAsg (TComp X G.cA K (FL K elt) OV.lst [] own g) (gName i0)) := by
  have h : (blkC N sc scope own && (gslots g).all (fun i => decide (i ∈ own.map (·.2))) && mtGs N G.gn g sc (relS scope sc) scope gens && mtE N G.gn elt (relS scope sc) e) = true := hm
  simp only [Bool.and_eq_true] at h
  obtain ⟨⟨⟨h1, h2⟩, h3⟩, h4⟩ := h
  have ho : ∀ i ∈ gslots g, i ∈ own.map (·.2) := by simpa only [List.all_eq_true, decide_eq_true_eq] using h2
  refine comp_set P L g sc X (.list e) c h1 ho h3 (fun Y cY eK hxe hp D all d he => (pcl_list he hxe ((ex_ok P L elt).1 _ Y pF e cY hp h4)).imp fun σ H Nx hh => ?_) (fun _ => ⟨[], rfl, Reps.nil⟩) (by rw [c.N]; exact hN) (by rw [c.sc]; exact swC_loc hsw) (fun gs => by
    show swapsWith (.ListComp e gs scope p2) _ _ _ = _
    rw [swC_list b.kind, c.sc, hsw])
  have := emit_list (X := Y) hh
  exact this
mutual
theorem s_ok {R0 : R0T} {E : XK} {X : Cx} {sc : Scope} (c : CtxOk G k N sc X) (b : BCtx X) (hx : Passes (L2.CX X.prog X.w) X E) : ∀ (s : CS) (st : Stmt), mtS N G.gn s sc st = true → PS X st (TAS' X G.cA R0 E (evS K s))
  | .never, st, h => (ps_no (X := X) (st := st)).imp fun D σ H ⟨g, ρ, S, r, p⟩ => by
    simp only [evS] at p
    exact p
  | .ex e, st, h => by
    cases st <;> first | exact ff h | skip
    have h : (noComp _ && mtE N G.gn e sc _) = true := h
    simp only [Bool.and_eq_true] at h
    exact st_ex h.1 ((ex_ok P L e).1 sc X E _ c hx h.2)
  | .set t e, st, h => by
    cases st <;> first | exact ff h | skip
    rename_i tgs x pos
    rcases tgs with _ | ⟨tg, _ | ⟨_, _⟩⟩ <;> first | exact ff h | skip
    have hfn : ∀ x, locB sc x = true → L2.Loc X.env.scope x ∧ (X.fn x = true ∨ X.env.scope.names.lookup x = some .local) := fun x hx => ⟨by rw [c.sc]; exact locB_ok hx, .inl (b.fn x)⟩
    simp only [mtS, Bool.and_eq_true] at h
    obtain ⟨⟨⟨h1, h2⟩, h3⟩, h4⟩ := h
    have plain : swN sc tg x = true → cmN sc tg x = true → PS X (.Assign [tg] x pos) (TAS' X G.cA R0 E (evS K (.set t e))) := fun q1 q2 =>
      st_set' (cmN_ok b c.sc q2 _) (swN_ok b c.sc q1) h1 (pg_ok c.N c.nd c.calm hfn t tg h2) ((ex_ok P L e).1 sc X E x c hx h3)
    split at h4
    · rename_i i elt g own y py e2 gens scope p2
      rcases Bool.or_eq_true_iff.mp h4 with h5 | h5
      · have h2 : (decide (N[i]? = some y) && locB sc y) = true := h2
        simp only [Bool.and_eq_true, decide_eq_true_eq] at h2
        refine (comp_list P L c b h3 h5 h2.1).imp fun D σ H ⟨g0, ρ, S, r, p⟩ => ?_
        have p : PostS X.K G.cA R0 g0 (liftE (evE K (.comp elt g own) ρ) ρ (fun d S' => match GL.asg (.nm i) d ρ S' with
          | some ρ' => .nx ρ' S'
          | none => .bad) S) D E := by
          simp only [evS] at p
          exact p
        refine tc_list r.re r.rs (liftE_ok (rp := Rep X.K G.cA) r p fun g1 S1 d v H1 l r1 q p => ?_)
        simp only [GL.asg] at p
        by_cases hi : i < ρ.length
        · rw [if_pos hi] at p
          exact p g1 _ H1 LeF.rfl' (r1.set hi q)
        · rw [if_neg hi] at p
          exact p.elim
      · have h5 := Bool.and_eq_true_iff.mp h5
        exact plain h5.1 h5.2
    · have h5 := Bool.and_eq_true_iff.mp h4
      exact plain h5.1 h5.2
  | .par ps, st, h => by
    cases st <;> first | exact ff h | skip
    rename_i tgs x pos
    rcases tgs with _ | ⟨tg, _ | ⟨_, _⟩⟩
    · exact ff (by cases x <;> exact h)
    rotate_left
    · exact ff (by cases tg <;> cases x <;> exact h)
    cases tg <;> first | exact ff h | (refine ff ?_; cases x <;> exact h; done) | skip
    cases x <;> first | exact ff h | skip
    obtain ⟨h1, h2, h3⟩ := and3 (show (decide (ps.length ≤ 1000) && mtP N G.gn ps sc _ && mtW N sc (ps.map cpI) _ _) = true from h)
    exact par_ok P L c b hx (of_decide_eq_true h1) h2 h3
  | .own i f, st, h => by
    cases st <;> first | exact ff h | skip
    rename_i tgs x pos
    rcases tgs with _ | ⟨tg, _ | ⟨_, _⟩⟩
    · exact ff (by cases x <;> exact h)
    rotate_left
    · exact ff (by cases tg <;> cases x <;> exact h)
    cases tg <;> first | exact ff h | (refine ff ?_; cases x <;> exact h; done) | skip
    rename_i y py
    simp only [mtS, Bool.and_eq_true, decide_eq_true_eq] at h
    obtain ⟨⟨⟨h1, h2⟩, h3⟩, h4⟩ := h
    have hl : L2.Loc X.env.scope y := by rw [c.sc]; exact locB_ok h2
    have plain : swapsWith x (some (.Name y py)) pos.line X.env = pure false → PS X (.Assign [.Name y py] x pos) (TAS' X G.cA R0 E (evS K (.own i f))) := fun q =>
      st_own' q c.nd (by rw [c.N]; exact h1) hl (b.fn y) ((cf_ok P L) f sc X E x c hx h3)
    split at h4
    · rename_i elt g own e2 gens scope p2
      cases h5 : swC sc scope y py p2 with
      | false => exact plain (by rw [swC_list b.kind, c.sc, h5])
      | true =>
        refine (comp_list P L c b (show mtE N G.gn (.comp elt g own) sc (.ListComp e2 gens scope p2) = true from h3) h5 h1).imp fun D σ H ⟨g0, ρ, S, r, p⟩ => ?_
        have p : PostS X.K G.cA R0 g0 (liftE (evF K (.comp elt g own) ρ) ρ (fun o S' => if i < ρ.length then .nx (ρ.set i (.own o)) S' else .bad) S) D E := by
          simp only [evS] at p
          exact p
        refine tc_own r.re r.rs (liftF_ok r p fun g1 S1 o a u H1 em l r1 ha ho p => ?_)
        split at p
        · next hi =>
          exact p { g1 with R := upd g1.R a u } _ _ ⟨fun _ _ z => z, fun _ _ z => z⟩ (r1.own hi ha ho (evF_nob em))
        · exact p.elim
    · exact plain (noComp_ok h4 _ _ _)
  | .frz i, st, h => by
    cases st <;> exact ff h
  | .aug i op e, st, h => by
    cases st <;> first | exact ff h | skip
    rename_i tg o x pos
    cases tg <;> first | exact ff h | skip
    rename_i y py
    simp only [mtS, Bool.and_eq_true, decide_eq_true_eq] at h
    obtain ⟨⟨⟨h1, h2⟩, rfl⟩, h4⟩ := h
    exact st_aug c.nd (by rw [c.N]; exact h1) (by rw [c.sc]; exact locB_ok h2) (b.fn y) ((ex_ok P L e).1 sc X E x c hx h4)
  | .app i e, st, h => by
    cases st <;> first | exact ff h | skip
    rename_i x pos
    cases x <;> first | exact ff h | skip
    rename_i f args kws cp
    cases f <;> first | exact ff h | skip
    rename_i o m ap
    cases o <;> first | exact ff h | skip
    rename_i nm p1
    rcases args with _ | ⟨y, _ | ⟨_, _⟩⟩ <;> first | exact ff h | skip
    cases kws <;> first | exact ff h | skip
    simp only [mtS, Bool.and_eq_true, decide_eq_true_eq] at h
    obtain ⟨⟨⟨⟨rfl, h1⟩, h2⟩, h3⟩, h4⟩ := h
    obtain ⟨k1, k2, k3, k4⟩ := nmB_ok c h1
    exact st_app h2 h3 k1 k2 k3 k4 ((ex_ok P L e).1 sc X E y c hx h4)
  | .sapp o e, st, h => by
    cases st <;> first | exact ff h | skip
    rename_i x pos
    cases x <;> first | exact ff h | skip
    rename_i f args kws cp
    cases f <;> first | exact ff h | skip
    rename_i z m ap
    rcases args with _ | ⟨y, _ | ⟨_, _⟩⟩ <;> first | exact ff h | skip
    cases kws <;> first | exact ff h | skip
    simp only [mtS, Bool.and_eq_true, decide_eq_true_eq] at h
    obtain ⟨⟨⟨⟨⟨rfl, h1⟩, h2⟩, h3⟩, h4⟩, h5⟩ := h
    exact st_sapp h1 h2 h3 ((ex_ok P L o).1 sc X E z c hx h4) ((ex_ok P L e).1 sc X E y c hx h5)
  | .extd i e, st, h => by
    cases st <;> first | exact ff h | skip
    rename_i x pos
    cases x <;> first | exact ff h | skip
    rename_i f args kws cp
    cases f <;> first | exact ff h | skip
    rename_i o m ap
    cases o <;> first | exact ff h | skip
    rename_i nm p1
    rcases args with _ | ⟨y, _ | ⟨_, _⟩⟩ <;> first | exact ff h | skip
    cases kws <;> first | exact ff h | skip
    simp only [mtS, Bool.and_eq_true, decide_eq_true_eq] at h
    obtain ⟨⟨⟨⟨rfl, h1⟩, h2⟩, h3⟩, h4⟩ := h
    obtain ⟨k1, k2, k3, k4⟩ := nmB_ok c h1
    exact st_extd h2 h3 k1 k2 k3 k4 ((ex_ok P L e).1 sc X E y c hx h4)
  | .put i q e, st, h => by
    cases st <;> first | exact ff h | skip
    rename_i tgs x pos
    rcases tgs with _ | ⟨tg, _ | ⟨_, _⟩⟩
    · exact ff (by cases x <;> exact h)
    rotate_left
    · cases tg <;> first | exact ff h | (rename_i v _ _; cases v <;> exact ff h)
    cases tg <;> first | exact ff h | (refine ff ?_; cases x <;> exact h; done) | skip
    rename_i o y p3
    cases o <;> first | exact ff h | skip
    simp only [mtS, Bool.and_eq_true] at h
    obtain ⟨⟨⟨⟨h1, h2⟩, h3⟩, h4⟩, h5⟩ := h
    obtain ⟨k1, k2, k3, k4⟩ := nmB_ok c h1
    exact st_put (by have := c.hu; omega) h2 h3 k1 k2 k3 k4 ((ex_ok P L e).1 sc X E x c hx h4) ((ex_ok P L q).1 sc X E y c hx h5)
  | .sput o q e, st, h => by
    cases st <;> first | exact ff h | skip
    rename_i tgs x pos
    rcases tgs with _ | ⟨tg, _ | ⟨_, _⟩⟩
    · exact ff (by cases x <;> exact h)
    rotate_left
    · exact ff (by cases tg <;> cases x <;> exact h)
    cases tg <;> first | exact ff h | (refine ff ?_; cases x <;> exact h; done) | skip
    rename_i z y p3
    simp only [mtS, Bool.and_eq_true] at h
    obtain ⟨⟨⟨⟨h2, h3⟩, h4⟩, h5⟩, h6⟩ := h
    exact st_sput (by have := c.hu; omega) h2 h3 ((ex_ok P L e).1 sc X E x c hx h4) ((ex_ok P L o).1 sc X E z c hx h5) ((ex_ok P L q).1 sc X E y c hx h6)
  | .setf f e, st, h => by
    cases st <;> first | exact ff h | skip
    rename_i tgs x pos
    rcases tgs with _ | ⟨tg, _ | ⟨_, _⟩⟩
    · exact ff (by cases x <;> exact h)
    rotate_left
    · cases tg <;> first | exact ff h | (rename_i v _ _; cases v <;> exact ff h)
    cases tg <;> first | exact ff h | (refine ff ?_; cases x <;> exact h; done) | skip
    rename_i z g p3
    cases z <;> first | exact ff h | skip
    simp only [mtS, Bool.and_eq_true, decide_eq_true_eq] at h
    obtain ⟨⟨h1, rfl⟩, h3⟩ := h
    obtain ⟨k1, k2, k3, k4⟩ := nmB_ok c h1
    exact st_setf (flds_ok P L c) k1 k2 k3 k4 (by cases x <;> rfl) ((ex_ok P L e).1 sc X E x c hx h3)
  | .ret e, st, h => by
    cases st <;> first | exact ff h | skip
    rename_i x pos
    cases x <;> first | exact ff h | skip
    exact st_ret ((ex_ok P L e).1 sc X E _ c hx h)
  | .retn, st, h => by
    cases st <;> first | exact ff h | skip
    rename_i x pos
    cases x <;> first | exact ff h | skip
    exact st_retn
  | .ite d u v, st, h => by
    cases st <;> first | exact ff h | skip
    obtain ⟨h1, h2, h3⟩ := and3 (show (mtE N G.gn d sc _ && mtSs N G.gn u sc _ && mtSs N G.gn v sc _) = true by simpa only [mtS] using h)
    exact st_if ((ex_ok P L d).2 sc X E _ c hx h1) (ss_ok c b hx u _ h2) (ss_ok c b hx v _ h3)
  | .whl d u, st, h => by
    cases st <;> first | exact ff h | skip
    rename_i x sb els pos
    cases els <;> first | exact ff h | skip
    have h : (mtE N G.gn d sc x && mtSs N G.gn u sc sb) = true := by simpa only [mtS] using h
    simp only [Bool.and_eq_true] at h
    exact st_whl b.own ((ex_ok P L d).2 sc X E _ c hx h.1) (ss_ok c b hx u _ h.2)
  | .for t i u, st, h => by
    cases st <;> first | exact ff h | skip
    rename_i tg it sb els pos
    cases els <;> first | exact ff h | skip
    have h : (noSet it && mtT N (locB sc) t tg && mtI N G.gn i sc tg it && mtSs N G.gn u sc sb) = true := by simpa only [mtS] using h
    simp only [Bool.and_eq_true] at h
    obtain ⟨⟨⟨h1, h2⟩, h3⟩, h4⟩ := h
    have hfn : ∀ x, locB sc x = true → L2.Loc X.env.scope x ∧ (X.fn x = true ∨ X.env.scope.names.lookup x = some .local) := fun x hx => ⟨by rw [c.sc]; exact locB_ok hx, .inl (b.fn x)⟩
    exact st_for b.own c.calm ((ci_ok P L) i sc X E tg it c hx h3) (pg_ok c.N c.nd c.calm hfn t tg h2) h1 (ss_ok c b hx u _ h4)
  | .brk, st, h => by
    cases st <;> first | exact ff h | exact st_brk
  | .cnt, st, h => by
    cases st <;> first | exact ff h | exact st_cnt
  | .pass, st, h => by
    cases st <;> first | exact ff h | exact st_pass
  | .raise cc es, st, h => by
    cases st <;> exact ff h
  | .try u hs, st, h => by
    cases st <;> exact ff h
theorem ss_ok {R0 : R0T} {E : XK} {X : Cx} {sc : Scope} (c : CtxOk G k N sc X) (b : BCtx X) (hx : Passes (L2.CX X.prog X.w) X E) : ∀ (s : CSs) (l : List Stmt), mtSs N G.gn s sc l = true → PSs X l (TAS' X G.cA R0 E (evSs K s))
  | .nil, l, h => by
    cases l <;> first | exact ff h | exact st_nil
  | .cons s r, l, h => by
    by_cases hf : ∃ i, s = .frz i
    · obtain ⟨i, rfl⟩ := hf
      have h : mtSs N G.gn r sc l = true := by simpa only [mtSs] using h
      exact st_frz (ss_ok c b hx r l h)
    · by_cases hn : s = .never
      · subst hn
        refine (pss_no (X := X) (st := l)).imp fun D σ H ⟨g, ρ, S, rr, p⟩ => ?_
        simp only [evSs, evS] at p
        exact p
      · cases l with
        | nil => cases s <;> first | exact ff h | (exact absurd rfl hn) | (exact absurd ⟨_, rfl⟩ hf)
        | cons st l =>
          have h : (mtS N G.gn s sc st && mtSs N G.gn r sc l) = true := by
            cases s <;> first | (exact absurd rfl hn) | (exact absurd ⟨_, rfl⟩ hf) | simpa only [mtSs] using h
          simp only [Bool.and_eq_true] at h
          exact st_cons (s_ok c b hx s st h.1) (ss_ok c b hx r l h.2)
end
end
end GL
end
section
set_option Elab.async false
set_option linter.all false
set_option maxRecDepth 100000
/-! Defs: each keeps its promise at its level. -/
namespace GL
open PySem L2 PySem.Spec PyProof.Rows
/-- a def and its core -/
def FnD (G : Prg) (ps : List Str) (f : Addr) (fd : FuncData) (d : Df) : Prop :=
  ∃ (x qual : Str) (params : Arguments) (body : List Stmt) (scope : Scope) (dvs : List V) (kws : List (Str × V)) (N : List Str),
    FunD G.K x qual params body scope dvs kws f fd ∧ FnScope N ps scope ∧ mtSs N G.gn d.body scope body = true ∧ N.length = d.slots
theorem startE_len {d : Df} {ds : List DV} (h : ds.length ≤ d.slots) : (startE d ds).length = d.slots := by
  unfold startE
  rw [List.length_append, List.length_map, List.length_replicate]
  omega
theorem start_len {N : List Str} {vs : List V} (h : vs.length ≤ N.length) : (L2.start N vs).length = N.length := by
  unfold L2.start
  rw [List.length_append, List.length_map, List.length_replicate]
  omega
theorem startE_val {d : Df} {ds : List DV} {i : Nat} {s : Slot} (e : (startE d ds)[i]? = some s) (hs : s ≠ .no) : ∃ x, ds[i]? = some x ∧ s = .val x := by
  unfold startE at e
  by_cases h : i < ds.length
  · rw [List.getElem?_append_left (by simpa using h), List.getElem?_map] at e
    cases q : ds[i]? with
    | none => rw [q] at e; cases e
    | some x => rw [q] at e; cases e; exact ⟨x, rfl, rfl⟩
  · rw [List.getElem?_append_right (by simpa using Nat.le_of_not_lt h)] at e
    have := List.mem_of_getElem? e
    rw [List.mem_replicate] at this
    exact absurd this.2 hs
theorem start_get {N : List Str} {vs : List V} {i : Nat} {v : V} (e : vs[i]? = some v) : (L2.start N vs)[i]? = some (some v) := by
  unfold L2.start
  have h := (List.getElem?_eq_some_iff.mp e).1
  rw [List.getElem?_append_left (by simpa using h), List.getElem?_map, e]
  rfl
theorem start_rel {K : PySem.W.Frag} {cA : Nat → Addr} {g : Gh} {S : Sto} {H : Hp} {d : Df} {N : List Str} {ds : List DV} {vs : List V} {pin : Option Addr} (rs : RelS K cA g S H) (r : Reps K cA g ds vs) (hN : N.length = d.slots) (hl : ds.length ≤ d.slots) :
    SRel K cA ⟨g.R, pin⟩ g (startE d ds) S (L2.start N vs) H := by
  have el := r.length
  refine ⟨⟨by rw [startE_len hl, start_len (by rw [← el, hN]; exact hl), hN], fun i x e => ?_, fun i o e => ?_⟩, rs, fun a o h => h, fun i o a e1 e2 => ?_, fun i j o o' a e1 e2 e3 e4 => ?_, fun x c ns ws e1 e2 => ?_⟩
  · obtain ⟨y, h1, h2⟩ := startE_val e (by simp)
    cases h2
    obtain ⟨v, k1, k2⟩ := r.get h1
    exact ⟨v, start_get k1, k2⟩
  · obtain ⟨y, h1, h2⟩ := startE_val e (by simp); cases h2
  · obtain ⟨y, h1, h2⟩ := startE_val e1 (by simp); cases h2
  · obtain ⟨y, h1, h2⟩ := startE_val e1 (by simp); cases h2
  · obtain ⟨y, h1, h2⟩ := startE_val e2 (by simp); cases h2
/-- an own object is given away -/
theorem RelS.keep {K : PySem.W.Frag} {cA : Nat → Addr} {g : Gh} {S : Sto} {H R0 : Hp} {a : Addr} {h : HO} (rs : RelS K cA g S H) (hR : g.R a = some h) (h0 : ∀ b o, R0 b = some o → g.R b = some o) (na : R0 a = none) :
    LeF g ⟨upd g.F a h, g.π, R0⟩ ∧ RelS K cA ⟨upd g.F a h, g.π, R0⟩ S H := by
  have nF : g.F a = none := by
    cases q : g.F a with
    | none => rfl
    | some u => have := rs.dis _ _ q; rw [hR] at this; cases this
  have lF : LeF g ⟨upd g.F a h, g.π, R0⟩ := ⟨fun b u z => by
    show upd g.F a h b = some u
    rw [upd_ne (fun e => by rw [e, nF] at z; cases z)]; exact z, fun _ _ z => z⟩
  refine ⟨lF, fun b u z => ?_, fun b u z => rs.hR _ _ (h0 _ _ z), fun b u z => ?_, rs.len, fun n u z => ?_, rs.inj⟩
  · by_cases q : b = a
    · subst q
      have z : upd g.F b h b = some u := z
      rw [upd_same] at z; cases z
      exact rs.hR _ _ hR
    · have z : upd g.F a h b = some u := z
      rw [upd_ne q] at z; exact rs.hF _ _ z
  · show R0 b = none
    by_cases q : b = a
    · rw [q]; exact na
    · have z : upd g.F a h b = some u := z
      rw [upd_ne q] at z
      cases e : R0 b with
      | none => rfl
      | some w =>
        have := rs.dis _ _ z
        rw [h0 _ _ e] at this; cases this
  · obtain ⟨b, h', k1, k2, k3, k4, k5⟩ := rs.st n u z
    have q : b ≠ a := fun e => by rw [e, hR] at k5; cases k5
    refine ⟨b, h', k1, k2, k3.monoF lF, by show upd g.F a h b = none; rw [upd_ne q]; exact k4, ?_⟩
    show R0 b = none
    cases e : R0 b with
    | none => rfl
    | some w => rw [h0 _ _ e] at k5; cases k5
section
variable {G : Prg} {K : Cl} {k : Nat} (P : POk G) (L : Lv G K k)
include P L
/-- a body run -/
theorem run_ok {ps : List Str} {f : Addr} {fd : FuncData} {d : Df} {sp : Sp} (F : FnD G ps f fd d) (len : ∀ vs H Q E, sp vs H Q E → vs.length = ps.length)
    (h : ∀ (N : List Str) vs H Q E, N.length = d.slots → sp vs H Q E → ∃ R0 g ρ S, SRel G.K G.cA R0 g ρ S (L2.start N vs) H ∧ PostS G.K G.cA R0 g (evSs K d.body ρ S) { nx := fun _ H' => Q .non H', rt := Q } E) :
    FnOk G.prog G.w G.K G.mg G.base (L2.CX G.prog G.w) (k + 2) f fd ps sp := by
  obtain ⟨x, qual, params, body, scope, dvs, kws, N, F, S, hm, hN⟩ := F
  refine F.ok S len fun cdv A outer s H vs Q E hr hsp => ?_
  obtain ⟨R0, g, ρ, T, r, p⟩ := h N vs H Q E hN hsp
  have c : CtxOk G k N scope (cxOf (L2.CX G.prog G.w) G.prog G.w G.K G.mg G.base N qual scope f cdv A outer s H E) := ⟨rfl, rfl, rfl, rfl, rfl, rfl, S.nd, rfl, rfl, hr⟩
  have b : BCtx (cxOf (L2.CX G.prog G.w) G.prog G.w G.K G.mg G.base N qual scope f cdv A outer s H E) := ⟨S.kind, fun _ => rfl, passes_of rfl⟩
  exact ⟨_, ss_ok (R0 := R0) (E := E) P L c b (passes_call (takes_of rfl rfl rfl rfl) fun _ _ _ _ h => h) d.body body hm, g, ρ, T, r, p⟩
theorem def_ok {i : Nat} {d : Df} (F : FnD G (G.ps i) (G.fA i) (G.fd i) d) : FnOk G.prog G.w G.K G.mg G.base (L2.CX G.prog G.w) (k + 2) (G.fA i) (G.fd i) (G.ps i) (spF G (fun _ ds => runD K d ds) i) := by
  refine run_ok P L F (fun vs H Q E h => h.1) fun N vs H Q E hN ⟨hl, g, S, ds, rs, rr, p⟩ => ?_
  simp only [] at p
  unfold runD at p
  by_cases hs : ds.length ≤ d.slots
  · rw [if_pos hs] at p
    refine ⟨⟨g.R, none⟩, g, startE d ds, S, start_rel rs rr hN hs, ?_⟩
    cases e : evSs K d.body (startE d ds) S with
    | nx ρ' S' =>
      rw [e] at p
      intro g' σ' H' l r'
      have rs' := r'.rs.shrink (R0 := g.R) r'.r0
      exact p { g' with R := g.R } _ _ ⟨l.F, l.π, rfl⟩ rs' Rep.non
    | rt x ρ' S' =>
      rw [e] at p
      intro g' v H' l h0 rs' rd
      exact p { g' with R := g.R } _ _ ⟨l.F, l.π, rfl⟩ (rs'.shrink (R0 := g.R) h0) (Rep.monoF (g := g') (g' := { g' with R := g.R }) ⟨fun _ _ z => z, fun _ _ z => z⟩ _ _ rd)
    | ex x ρ' S' =>
      rw [e] at p
      intro g' H' cls dd l h0 rs' ⟨c, ns, ws, us, x1, x2, x3, x4, x5⟩
      exact p { g' with R := g.R } _ _ _ ⟨l.F, l.π, rfl⟩ (rs'.shrink (R0 := g.R) h0) ⟨c, ns, ws, us, x1, x2, x3, x4, Reps.monoF (g := g') (g' := { g' with R := g.R }) ⟨fun _ _ z => z, fun _ _ z => z⟩ _ _ x5⟩
    | bk ρ' S' => rw [e] at p; exact p.elim
    | ct ρ' S' => rw [e] at p; exact p.elim
    | bad => rw [e] at p; exact p.elim
  · rw [if_neg hs] at p; exact p.elim
theorem ini_ok {c : Nat} {d : Df} (F : FnD G (G.ips c) (G.iA c) (G.ifd c) d) : FnOk G.prog G.w G.K G.mg G.base (L2.CX G.prog G.w) (k + 2) (G.iA c) (G.ifd c) (G.ips c) (spI G (fun c ds => runI K d c ds) c) := by
  refine run_ok P L F (fun vs H Q E h => h.1) fun N vs H Q E hN ⟨hl, g, S, ds, x, dx, H1, ws, e0, nx, ndx, nxd, eH, rs, rr, p⟩ => ?_
  subst e0 eH
  simp only [] at p
  unfold runI at p
  by_cases hs : ds.length + 1 ≤ d.slots
  · rw [if_pos hs] at p
    have nR := rs.noR nx
    have nF := rs.noF nx
    have nRd := rs.noR ndx
    have rs1 : RelS G.K G.cA g S (upd H1 dx (.own x)) := by
      refine ⟨fun a o h => ?_, fun a o h => ?_, rs.dis, rs.len, fun n o h => ?_, rs.inj⟩
      · rw [upd_ne (ne_of_none (rs.hF _ _ h) ndx)]; exact rs.hF _ _ h
      · rw [upd_ne (ne_of_none (rs.hR _ _ h) ndx)]; exact rs.hR _ _ h
      · obtain ⟨a, h', k1, k2, k3, k4, k5⟩ := rs.st n o h
        exact ⟨a, h', k1, by rw [upd_ne (ne_of_none k2 ndx)]; exact k2, k3, k4, k5⟩
    have nx1 : upd H1 dx (.own x) x = none := by rw [upd_ne nxd.symm]; exact nx
    have r0 : SRel G.K G.cA ⟨g.R, some x⟩ g (.no :: startE ⟨d.slots - 1, d.body⟩ ds) S (L2.start N (.ref x :: ws)) (upd H1 dx (.own x)) := by
      have e1 : L2.start N (.ref x :: ws) = some (.ref x) :: L2.start (N.drop 1) ws := by
        unfold L2.start
        simp only [List.map_cons, List.length_cons, List.cons_append, List.length_drop]
        congr 3
        omega
      have r1 := start_rel (d := ⟨d.slots - 1, d.body⟩) (N := N.drop 1) (pin := none) rs1 rr (by rw [List.length_drop, hN]) (by show ds.length ≤ d.slots - 1; omega)
      rw [e1]
      refine ⟨⟨by simp [r1.re.len], fun i y e => ?_, fun i o e => ?_⟩, rs1, fun a o h => h, fun i o a e1 e2 => ?_, fun i j o o' a e1 e2 e3 e4 => ?_, fun y c ns ws e1 e2 => by cases e2⟩
      · cases i with
        | zero => cases e
        | succ i => exact r1.re.val i y e
      · cases i with
        | zero => cases e
        | succ i => exact r1.re.own i o e
      · cases i with
        | zero => cases e1
        | succ i => exact r1.out i o a e1 e2
      · cases i with
        | zero => cases e1
        | succ i => cases j with
          | zero => cases e2
          | succ j => rw [r1.inj i j o o' a e1 e2 e3 e4]
    -- the instance comes into slot 0
    have ownv : ∀ {i : Nat} {o : OV}, (Slot.own (.obj c [] []) :: startE ⟨d.slots - 1, d.body⟩ ds)[i]? = some (.own o) → i = 0 ∧ o = .obj c [] [] := fun {i o} e => by
      cases i with
      | zero => cases e; exact ⟨rfl, rfl⟩
      | succ i =>
        obtain ⟨y, h1, h2⟩ := startE_val (show (startE ⟨d.slots - 1, d.body⟩ ds)[i]? = some (.own o) from e) (by simp)
        cases h2
    have s0 : (L2.start N (.ref x :: ws))[(0 : Nat)]? = some (some (.ref x)) := start_get rfl
    have r : SRel G.K G.cA ⟨g.R, some x⟩ { g with R := upd g.R x (.ins (G.cA c) dx []) } (.own (.obj c [] []) :: startE ⟨d.slots - 1, d.body⟩ ds) S (L2.start N (.ref x :: ws)) (upd (upd H1 dx (.own x)) x (.ins (G.cA c) dx [])) := by
      have lF : LeF g { g with R := upd g.R x (.ins (G.cA c) dx []) } := ⟨fun _ _ z => z, fun _ _ z => z⟩
      refine ⟨⟨r0.re.len, fun i y e => ?_, fun i o e => ?_⟩, ⟨fun a o h => ?_, fun a o h => ?_, fun a o h => ?_, rs.len, fun n o h => ?_, rs.inj⟩, fun a o h => ?_, fun i o a e1 e2 => ?_, fun i j o o' a e1 e2 e3 e4 => ?_, fun y c ns ws e1 e2 => ?_⟩
      · cases i with
        | zero => cases e
        | succ i =>
          obtain ⟨v, k1, k2⟩ := r0.re.val (i + 1) y e
          exact ⟨v, k1, Rep.monoF lF _ _ k2⟩
      · obtain ⟨rfl, rfl⟩ := ownv e
        exact ⟨x, _, s0, upd_same, dx, [], rfl, rfl, Reps.nil⟩
      · rw [upd_ne (ne_of_none (rs1.hF _ _ h) nx1)]; exact rs1.hF _ _ h
      · by_cases q : a = x
        · subst q
          have h : upd g.R a (.ins (G.cA c) dx []) a = some o := h
          rw [upd_same] at h ⊢; exact h
        · have h : upd g.R x (.ins (G.cA c) dx []) a = some o := h
          rw [upd_ne q] at h ⊢; exact rs1.hR _ _ h
      · show upd g.R x (.ins (G.cA c) dx []) a = none
        rw [upd_ne (fun e => by rw [e] at h; have h : g.F x = some o := h; rw [nF] at h; cases h)]
        exact rs.dis _ _ h
      · obtain ⟨a, h', k1, k2, k3, k4, k5⟩ := rs1.st n o h
        have q : a ≠ x := ne_of_none k2 nx1
        exact ⟨a, h', k1, by rw [upd_ne q]; exact k2, k3.monoF lF, k4, by show upd g.R x _ a = none; rw [upd_ne q]; exact k5⟩
      · show upd g.R x (.ins (G.cA c) dx []) a = some o
        rw [upd_ne (fun e => by rw [e] at h; have h : g.R x = some o := h; rw [nR] at h; cases h)]
        exact h
      · obtain ⟨rfl, rfl⟩ := ownv e1
        rw [s0] at e2; cases e2
        exact nR
      · obtain ⟨rfl, rfl⟩ := ownv e1
        obtain ⟨rfl, rfl⟩ := ownv e2
        rfl
      · cases e1
        exact s0
    refine ⟨⟨g.R, some x⟩, _, _, S, r, ?_⟩
    have lg : ∀ {g' : Gh}, LeF { g with R := upd g.R x (.ins (G.cA c) dx []) } g' → LeF g g' := fun {g'} l => ⟨l.F, l.π⟩
    cases e : evSs K d.body (.own (.obj c [] []) :: startE ⟨d.slots - 1, d.body⟩ ds) S with
    | nx ρ' S' =>
      rw [e] at p
      simp only [] at p
      intro g' σ' H' l r'
      cases q : ρ'[(0 : Nat)]? with
      | none => rw [q] at p; exact p.elim
      | some sl =>
        rw [q] at p
        cases sl with
        | no => exact p.elim
        | val d => exact p.elim
        | own o =>
          obtain ⟨a, ho, k1, k2, k3⟩ := r'.re.own 0 o q
          cases o with
          | lst xs => exact p.elim
          | dct ks vs => exact p.elim
          | obj cc ns vs =>
            have := r'.pin x cc ns vs rfl q
            rw [k1] at this
            cases this
            obtain ⟨dy, us, rfl, hl2, rr2⟩ := k3
            obtain ⟨w1, w2⟩ := r'.rs.keep (R0 := g.R) k2 r'.r0 nR
            refine p _ _ _ ⟨fun a o z => w1.F _ _ ((lg l).F _ _ z), fun n a z => w1.π _ _ ((lg l).π _ _ z), rfl⟩ w2 ⟨rfl, ?_⟩
            simp only [Rep]
            exact ⟨x, dy, us, rfl, upd_same, hl2, Reps.monoF w1 _ _ rr2⟩
    | rt y ρ' S' => rw [e] at p; exact p.elim
    | ex y ρ' S' =>
      rw [e] at p
      intro g' H' cls dd l h0 rs' ⟨c, ns, ws, us, x1, x2, x3, x4, x5⟩
      exact p { g' with R := g.R } _ _ _ ⟨(lg l).F, (lg l).π, rfl⟩ (rs'.shrink (R0 := g.R) h0) ⟨c, ns, ws, us, x1, x2, x3, x4, Reps.monoF (g := g') (g' := { g' with R := g.R }) ⟨fun _ _ z => z, fun _ _ z => z⟩ _ _ x5⟩
    | bk ρ' S' => rw [e] at p; exact p.elim
    | ct ρ' S' => rw [e] at p; exact p.elim
    | bad => rw [e] at p; exact p.elim
  · rw [if_neg hs] at p; exact p.elim
end
end GL
end
section
set_option Elab.async false
set_option linter.all false
set_option maxRecDepth 100000
set_option maxHeartbeats 1000000
/-! The end, once for all laws: what the top has left, by one Bool. -/
namespace GL
open PySem L2 PySem.Spec PyProof.Rows
inductive Pth where | glo (x : Str) | mem (C m : Str) | get (C f : Str)
def pA (K : PySem.W.Frag) : Pth → Addr
  | .glo x => He.ga K x
  | .mem C m => He.ma K (He.ga K C) m
  | .get C f => match PySem.W.recIn K (He.ma K (He.ga K C) f) "property" with
    | some (.ref g :: _) => g
    | _ => 0
structure DD where
  at_ : Pth
  name : Str
  qual : Str
  params : Arguments
  body : List Stmt
  scope : Scope
  N : List Str
  ps : List Str
  dfl : List DV
  core : CSs
structure CD where
  name : Str
  init : DD
  flds : List Str
  meths : List (Str × Nat)
  props : List (Str × Nat)
structure PD where
  defs : List DD
  d0 : DD
  clss : List CD
  c0 : CD
  globs : List (Str × DV)
  gn : List (Str × Gn)
  kb : List (Nat × Nat × List Str × List Nat)
  W : Nat
namespace PD
variable (D : PD)
def df (i : Nat) : DD := D.defs.getD i D.d0
def cl (c : Nat) : CD := D.clss.getD c D.c0
def alld : List DD := D.d0 :: D.defs ++ (D.c0.init :: D.clss.map CD.init)
def allc : List CD := D.c0 :: D.clss
def tab : Tab where
  glob := fun k => (D.globs.getD k ("", .non)).2
  dfl := fun i => (D.df i).dfl
  arity := fun i => (D.df i).ps.length
  iar := fun c => (D.cl c).init.ps.length
  meth := fun c m => (D.cl c).meths.lookup m
  prop := fun c f => (D.cl c).props.lookup f
  flds := fun c => (D.cl c).flds
  cl := fun c => decide (c < D.clss.length)
  exb := fun _ => .value
  kb := fun f => (D.kb.filter fun q => decide (q.1 = f)).map (·.2)
def pg : Pg where
  T := D.tab
  df := fun i => ⟨(D.df i).N.length, (D.df i).core⟩
  ini := fun c => ⟨(D.cl c).init.N.length, (D.cl c).init.core⟩
  W := D.W
end PD
def fdAt (K : PySem.W.Frag) (a : Addr) : FuncData := match K.lookup a with
  | some ⟨_, _, .func fd, _⟩ => fd
  | _ => default
def mkG (D : PD) (prog : Program) (w : World) (K : PySem.W.Frag) (mg : Str → Option Value) (base : Heap) : Prg where
  prog := prog
  w := w
  K := K
  mg := mg
  base := base
  cA := fun c => He.ga K (D.cl c).name
  fA := fun i => pA K (D.df i).at_
  iA := fun c => pA K (D.cl c).init.at_
  fd := fun i => fdAt K (pA K (D.df i).at_)
  ifd := fun c => fdAt K (pA K (D.cl c).init.at_)
  ps := fun i => (D.df i).ps
  ips := fun c => (D.cl c).init.ps
  T := D.tab
  gn := fun x => D.gn.lookup x

/-! ### constants -/
mutual
def conB (K : PySem.W.Frag) : DV → Value → Bool
  | .non, .none => true
  | .bl b, .bool c => b == c
  | .int i, .int j _ => decide (i = j)
  | .str x, .str y _ => decide (mkS x = y) && okS x
  | .tup xs, .ref a => match K.lookup a with
    | some ⟨.type c, _, .seq its _, _⟩ => decide (c = "tuple") && (decide (its.size ≤ sizeLine) && conBs K xs its.toList)
    | _ => false
  | _, _ => false
def conBs (K : PySem.W.Frag) : List DV → List Value → Bool
  | [], [] => true
  | x :: xs, u :: us => conB K x u && conBs K xs us
  | _, _ => false
end
mutual
theorem conB_ok {K : PySem.W.Frag} {cA : Nat → Addr} : ∀ (d : DV) (u : Value), conB K d u = true → ∃ v, RelV v u ∧ ∀ g, Rep K cA g d v
  | .non, u, h => by cases u <;> first | exact ff h | exact ⟨.non, rfl, fun g => Rep.non⟩
  | .bl b, u, h => by
    cases u <;> first | exact ff h | skip
    have h := eq_of_beq (show (b == _) = true from h)
    subst h
    exact ⟨.bl b, rfl, fun g => Rep.bl⟩
  | .int i, u, h => by
    cases u <;> first | exact ff h | skip
    have h := of_decide_eq_true (show decide (i = _) = true from h)
    subst h
    exact ⟨.int i, ⟨_, rfl⟩, fun g => Rep.int⟩
  | .str x, u, h => by
    cases u <;> first | exact ff h | skip
    have h : (decide (mkS x = _) && okS x) = true := h
    simp only [Bool.and_eq_true, decide_eq_true_eq] at h
    obtain ⟨rfl, h2⟩ := h
    exact ⟨.str (mkS x), ⟨_, rfl⟩, fun g => Rep.str h2⟩
  | .tup xs, u, h => by
    cases u <;> first | exact ff h | skip
    rename_i a
    simp only [conB] at h
    split at h
    · rename_i c od its n sl q
      simp only [Bool.and_eq_true, decide_eq_true_eq] at h
      obtain ⟨rfl, h2, h3⟩ := h
      obtain ⟨vs, h4, h5⟩ := conBs_ok (cA := cA) xs its.toList h3
      exact ⟨.ref a, rfl, fun g => by
        simp only [Rep]
        exact ⟨a, vs, rfl, .inr ⟨_, its, n, q, rfl, rfl, h2, h4⟩, h5 g⟩⟩
    · cases h
  | .lst _, u, h => by cases u <;> exact ff h
  | .dct _ _, u, h => by cases u <;> exact ff h
  | .obj _ _ _, u, h => by cases u <;> exact ff h
  | .exn _ _ _, u, h => by cases u <;> exact ff h
  | .loc _, u, h => by cases u <;> exact ff h
  | .scr _, u, h => by cases u <;> exact ff h
theorem conBs_ok {K : PySem.W.Frag} {cA : Nat → Addr} : ∀ (ds : List DV) (us : List Value), conBs K ds us = true → ∃ vs, Vals vs us ∧ ∀ g, Reps K cA g ds vs
  | [], us, h => by cases us <;> first | exact ff h | exact ⟨[], .nil, fun g => Reps.nil⟩
  | d :: ds, us, h => by
    cases us <;> first | exact ff h | skip
    rename_i u us
    have h : (conB K d u && conBs K ds us) = true := h
    simp only [Bool.and_eq_true] at h
    obtain ⟨v, h1, h2⟩ := conB_ok (cA := cA) d u h.1
    obtain ⟨vs, h3, h4⟩ := conBs_ok (cA := cA) ds us h.2
    exact ⟨v :: vs, .cons h1 h3, fun g => Reps.cons (h2 g) (h4 g)⟩
end
/-! ### what is looked at -/
def dflG (K : PySem.W.Frag) (dV : Value) : List DV → Bool
  | [] => match dV with
    | .none => true
    | _ => false
  | d :: ds => match dV with
    | .ref T => match K.lookup T with
      | some ⟨_, _, .seq its _, _⟩ => conBs K (d :: ds) its.toList
      | _ => false
    | _ => false
theorem dflG_ok {K : PySem.W.Frag} {cA : Nat → Addr} {dV : Value} {ds : List DV} (h : dflG K dV ds = true) : ∃ dvs, DflV K dV dvs ∧ dvs.length = ds.length ∧ ∀ g, Reps K cA g ds dvs := by
  cases ds with
  | nil =>
    cases dV <;> first | exact ff h | exact ⟨[], .inl ⟨rfl, rfl⟩, rfl, fun g => Reps.nil⟩
  | cons d ds =>
    cases dV <;> first | exact ff h | skip
    rename_i T
    simp only [dflG] at h
    split at h
    · rename_i c od its n sl q
      obtain ⟨vs, h1, h2⟩ := conBs_ok (cA := cA) _ _ h
      have hl := (h2 ⟨fun _ => none, [], fun _ => none⟩).length
      have hne : vs ≠ [] := fun e => by
        rw [e] at hl
        cases hl
      refine ⟨vs, .inr ⟨hne, T, _, its.toList, n, rfl, q, by simp, h1⟩, hl.symm, h2⟩
    · cases h
def ddB (K : PySem.W.Frag) (d : DD) : Bool := PySem.W.keepIn K (.ref (pA K d.at_)) && (match K.lookup (pA K d.at_) with
  | some ⟨_, _, .func fd, _⟩ => PySem.W.codeIn K fd.code d.qual && dflG K fd.defaults d.dfl
  | _ => false)
abbrev FnW : Type := Option (Str × Str × Arguments × FuncBody × Scope × Addr × List (Str × Addr) × Addr)
def fnW (K : PySem.W.Frag) (a : Addr) : FnW := match K.lookup a with
  | some ⟨_, _, .func fd, _⟩ => some (fd.name, fd.qualname, fd.params, fd.body, fd.scope, fd.globals, fd.closure, fd.builtins)
  | _ => none
def DD.val (d : DD) : FnW := some (d.name, d.qual, d.params, .stmts d.body, d.scope, mainGlobals, [], builtinsNs)
theorem dd_fun {K : PySem.W.Frag} {cA : Nat → Addr} {d : DD} (e : fnW K (pA K d.at_) = d.val) (c : ddB K d = true) :
    ∃ dvs, FunD K d.name d.qual d.params d.body d.scope dvs [] (pA K d.at_) (fdAt K (pA K d.at_)) ∧ dvs.length = d.dfl.length ∧ ∀ g, Reps K cA g d.dfl dvs := by
  unfold ddB at c
  rw [Bool.and_eq_true] at c
  obtain ⟨kp, c2⟩ := c
  unfold fnW at e
  unfold fdAt
  cases q : K.lookup (pA K d.at_) with
  | none => rw [q] at c2; cases c2
  | some o =>
    obtain ⟨oc, od, dt, osl⟩ := o
    rw [q] at c2 e
    cases dt with
    | func fd =>
      obtain ⟨n1, n2, n3, n4, n5, n6, n7, n8, n9, n10, n11, n12, n13, n14, n15⟩ := fd
      have e2 : (some (n1, n2, n3, n4, n5, n6, n7, n15) : FnW) = some (d.name, d.qual, d.params, .stmts d.body, d.scope, mainGlobals, [], builtinsNs) := e
      simp only [Option.some.injEq, Prod.mk.injEq] at e2
      obtain ⟨h1, h2, h3, h4, h5, h6, h7, h8⟩ := e2
      subst h1 h2 h3 h4 h5 h6 h7 h8
      have c3 : (PySem.W.codeIn K n13 d.qual && dflG K n8 d.dfl) = true := c2
      rw [Bool.and_eq_true] at c3
      obtain ⟨dvs, k1, k2, k3⟩ := dflG_ok (cA := cA) c3.2
      exact ⟨dvs, ⟨⟨oc, od, n8, n9, n10, n11, n12, n13, n14, osl, rfl, q, c3.1, k1, .inl rfl⟩, kp⟩, k2, k3⟩
    | _ => cases c2
/-- a class may make instances; names are looked up on them -/
def clsB (K : PySem.W.Frag) (C : Addr) : Bool := PySem.W.plainGet K C Str.empty && PySem.W.hasDictIn K C && PySem.W.plainOver K C && He.eqO (PySem.W.findIn K (.ref C) "__setattr__") (some (some (.builtin "object.__setattr__")))
theorem clsB_ok {K : PySem.W.Frag} {C : Addr} (h : clsB K C = true) : Cls K C := by
  unfold clsB at h
  simp only [Bool.and_eq_true] at h
  exact ⟨h.1.1.1, h.1.1.2, h.1.2, He.eqO_ok h.2⟩
def ownB (K : PySem.W.Frag) (C : Addr) : Bool := He.eqO (PySem.W.findIn K (.ref C) "__class__") (some (some (.builtin "object.__class__"))) && He.eqO (PySem.W.specialIn K (.builtin "object.__class__") "__get__") (some (some (.builtin "getset_descriptor.__get__"))) &&
  decide (PySem.W.takesIn K (.builtin "object.__class__") = some true) && decide (PySem.W.mroIn K C (.type "object") = some true)
def mkB (K : PySem.W.Frag) (C : Addr) (i : Addr) : Bool := PySem.W.makesIn K C && He.eqO (PySem.W.findIn K (.ref C) "__init__") (some (some (.ref i))) && PySem.W.isFn K (.ref i) && PySem.W.keepIn K (.ref C)
def methB (D : PD) (K : PySem.W.Frag) (C : Addr) (q : Str × Nat) : Bool := He.eqO (PySem.W.findIn K (.ref C) q.1) (some (some (.ref (pA K (D.df q.2).at_)))) && PySem.W.isFn K (.ref (pA K (D.df q.2).at_)) && PySem.W.keepIn K (.ref (pA K (D.df q.2).at_))
def propB (D : PD) (K : PySem.W.Frag) (C : Addr) (q : Str × Nat) : Bool := He.eqO (PySem.W.findIn K (.ref C) q.1) (some (some (.ref (He.ma K C q.1)))) && He.eqO (PySem.W.specialIn K (.ref (He.ma K C q.1)) "__get__") (some (some (.builtin "property.__get__"))) &&
  decide (PySem.W.takesIn K (.ref (He.ma K C q.1)) = some true) && (match PySem.W.recIn K (He.ma K C q.1) "property" with
  | some (.ref g :: _) => decide (g = pA K (D.df q.2).at_)
  | _ => false)
def kinds (D : PD) : List Kn := [.non, .bool, .int, .str, .tup, .lst, .dct] ++ (List.range D.clss.length).map Kn.obj
def types (D : PD) : List Ty := [.int, .bool, .str, .tuple, .list] ++ (List.range D.clss.length).map Ty.cls
def knA (D : PD) (K : PySem.W.Frag) : Kn → Value
  | .non => .type "NoneType" | .bool => .type "bool" | .int => .type "int" | .str => .type "str" | .tup => .type "tuple" | .lst => .type "list" | .dct => .type "dict" | .obj c => .ref (He.ga K (D.cl c).name)
def tyA (D : PD) (K : PySem.W.Frag) : Ty → Value
  | .int => .type "int" | .bool => .type "bool" | .str => .type "str" | .tuple => .type "tuple" | .list => .type "list" | .cls c => .ref (He.ga K (D.cl c).name) | _ => .none
def kitB (D : PD) (K : PySem.W.Frag) : Bool := (kinds D).all fun kn => (types D).all fun t => decide (PySem.W.kitOne K (knA D K kn) (tyA D K t) = some (isKn D.tab kn t))
def gnB (D : PD) (K : PySem.W.Frag) (q : Str × Gn) : Bool := match q.2 with
  | .fn i => He.eqO (PySem.W.nsIn K mainGlobals q.1) (some (some (.ref (pA K (D.df i).at_)))) && PySem.W.keepIn K (.ref (pA K (D.df i).at_))
  | .cls c => He.eqO (PySem.W.nsIn K mainGlobals q.1) (some (some (.ref (He.ga K (D.cl c).name)))) && mkB K (He.ga K (D.cl c).name) (pA K (D.cl c).init.at_)
  | .con k => match PySem.W.nsIn K mainGlobals q.1 with
    | some (some u) => conB K (D.tab.glob k) u
    | _ => false
  | .blt => He.eqO (PySem.W.nsIn K mainGlobals q.1) (some none)
def ctB (D : PD) (K : PySem.W.Frag) (c : CD) : Bool := clsB K (He.ga K c.name) && ownB K (He.ga K c.name) && (c.flds.all fun f => He.eqO (PySem.W.findIn K (.ref (He.ga K c.name)) f) (some none)) && c.meths.all (methB D K (He.ga K c.name)) && c.props.all (propB D K (He.ga K c.name))
def chk (D : PD) (K : PySem.W.Frag) : Bool := D.alld.all (ddB K) && D.clss.all (ctB D K) && kitB D K && D.gn.all (gnB D K)
/-- the scopes, the match -/
def ddC (D : PD) (d : DD) : Bool := C8.scC d.N d.ps d.scope && mtSs d.N (fun x => D.gn.lookup x) d.core d.scope d.body
/-! ### how arguments come to parameters -/
def DBind (d : DD) : Prop :=
  (d.dfl = [] → ∀ (kV doc pm : Value) (an : Option Addr) (cdv ct : Value) (us : List Value), us.length = d.ps.length → bindArgs (PySem.W.fnOf d.name d.qual d.params d.body d.scope .none kV doc pm an cdv ct) ⟨us, []⟩ = pure (d.ps.zip us)) ∧
  (d.dfl ≠ [] → d.dfl.length ≤ d.ps.length ∧ ∀ j, j ≤ d.dfl.length → ∀ (T : Addr) (kV doc pm : Value) (an : Option Addr) (cdv ct : Value) (us its : List Value), us.length + (d.dfl.length - j) = d.ps.length → its.length = d.dfl.length →
    ∃ k, bindArgs (PySem.W.fnOf d.name d.qual d.params d.body d.scope (.ref T) kV doc pm an cdv ct) ⟨us, []⟩ = seqItems? (.ref T) >>= k ∧ k (some its.toArray) = pure (d.ps.zip (us ++ its.drop j)))
def DKb (d : DD) (n : Nat) (ks : List Str) (perm : List Nat) : Prop :=
  ∀ (kV doc pm : Value) (an : Option Addr) (cdv ct : Value) (us ws : List Value), us.length = n → ws.length = ks.length → bindArgs (PySem.W.fnOf d.name d.qual d.params d.body d.scope .none kV doc pm an cdv ct) ⟨us, ks.zip ws⟩ = pure (d.ps.zip (permV perm us ws))
theorem permV_rel {perm : List Nat} {vs zs : List V} {us ws : List Value} (r1 : Vals vs us) (r2 : Vals zs ws) : Vals (permV perm vs zs) (permV perm us ws) := by
  have r := r1.append r2
  unfold permV
  induction perm with
  | nil => exact .nil
  | cons i perm ih =>
    cases e : (vs ++ zs)[i]? with
    | none =>
      have e2 : (us ++ ws)[i]? = none := by
        rw [List.getElem?_eq_none_iff] at e ⊢
        rw [← r.length]; exact e
      simp only [List.filterMap_cons, e, e2]
      exact ih
    | some v =>
      obtain ⟨u, e2, ru⟩ := r.get e
      simp only [List.filterMap_cons, e, e2]
      exact .cons ru ih
structure PBind (D : PD) : Prop where
  ds : ∀ d ∈ D.alld, DBind d
  ci : ∀ c ∈ D.allc, c.init.dfl = []
  kb : ∀ q ∈ D.kb, (D.df q.1).dfl = [] ∧ DKb (D.df q.1) q.2.1 q.2.2.1 q.2.2.2
section
variable {D : PD}
theorem df_mem (i : Nat) : D.df i ∈ D.alld := by
  unfold PD.df PD.alld
  rw [List.getD_eq_getElem?_getD]
  cases e : D.defs[i]? with
  | none => simp
  | some d => simp [List.mem_of_getElem? e]
theorem cl_mem (c : Nat) : (D.cl c) ∈ D.allc := by
  unfold PD.cl PD.allc
  rw [List.getD_eq_getElem?_getD]
  cases e : D.clss[c]? with
  | none => simp
  | some d => simp [List.mem_of_getElem? e]
theorem ini_mem (c : Nat) : (D.cl c).init ∈ D.alld := by
  unfold PD.cl PD.alld
  rw [List.getD_eq_getElem?_getD]
  cases e : D.clss[c]? with
  | none => simp
  | some d =>
    have : d.init ∈ D.clss.map CD.init := List.mem_map_of_mem (List.mem_of_getElem? e)
    simp only [Option.getD_some, List.cons_append, List.mem_cons, List.mem_append]
    exact .inr (.inr (.inr this))
theorem lookup_mem' {α : Type} {x : Str} {g : α} : ∀ {l : List (Str × α)}, l.lookup x = some g → (x, g) ∈ l
  | [], h => by cases h
  | (y, u) :: r, h => by
    rw [List.lookup_cons] at h
    split at h
    · rename_i q
      cases h
      rw [beq_iff_eq.mp q]
      exact List.mem_cons_self
    · exact List.mem_cons_of_mem _ (lookup_mem' h)
variable {prog : Program} {w : World} {K : PySem.W.Frag} {mg : Str → Option Value} {base h : Heap}
theorem pok_of (B : PBind D) (he : ∀ d ∈ D.alld, fnW K (pA K d.at_) = d.val) (c : chk D K = true) (hc0 : D.c0 ∈ D.clss ∨ (D.c0.meths = [] ∧ D.c0.props = [] ∧ D.c0.flds = [])) (X : K.In h) (Gm : h.Ns mainGlobals mg) : POk (mkG D prog w K mg base) := by
  unfold chk at c
  simp only [Bool.and_eq_true, List.all_eq_true] at c
  obtain ⟨⟨⟨c1, c2⟩, c3⟩, c4⟩ := c
  have hfun := fun i => dd_fun (cA := fun c => He.ga K (D.cl c).name) (he _ (df_mem (D := D) i)) (c1 _ (df_mem i))
  have hini := fun i => dd_fun (cA := fun c => He.ga K (D.cl c).name) (he _ (ini_mem (D := D) i)) (c1 _ (ini_mem i))
  have hcl : ∀ cc, cc < D.clss.length → ctB D K (D.cl cc) = true := fun cc hcc => by
    have : D.cl cc = D.clss[cc] := by unfold PD.cl; simp [hcc]
    rw [this]
    exact c2 _ (List.getElem_mem hcc)
  have hcl' : ∀ cc, ctB D K (D.cl cc) = true ∨ ((D.cl cc).meths = [] ∧ (D.cl cc).props = [] ∧ (D.cl cc).flds = []) := fun cc => by
    have := cl_mem (D := D) cc
    unfold PD.allc at this
    rcases List.mem_cons.mp this with e | e
    · rw [e]
      rcases hc0 with h | h
      · exact .inl (c2 _ h)
      · exact .inr h
    · exact .inl (c2 _ e)
  have gnx : ∀ x g, D.gn.lookup x = some g → gnB D K (x, g) = true := fun x g e => c4 _ (lookup_mem' e)
  have cB : ∀ {c : CD}, ctB D K c = true → Cls K (He.ga K c.name) ∧ ownB K (He.ga K c.name) = true ∧ (∀ f ∈ c.flds, He.eqO (PySem.W.findIn K (.ref (He.ga K c.name)) f) (some none) = true) ∧ (∀ q ∈ c.meths, methB D K (He.ga K c.name) q = true) ∧ ∀ q ∈ c.props, propB D K (He.ga K c.name) q = true := fun {c} e => by
    unfold ctB at e
    simp only [Bool.and_eq_true, List.all_eq_true] at e
    exact ⟨clsB_ok e.1.1.1.1, e.1.1.1.2, e.1.1.2, e.1.2, e.2⟩
  refine ⟨fun kn t h1 h2 => ?_, fun cc h1 => ?_, fun x i e => ?_, fun x cc e => ?_, fun x kk e => ?_, fun x e => ?_, fun i => rfl, fun cc => rfl, fun i j h1 h2 => ?_, fun cc => ?_, fun f n ks perm e => ?_, fun cc m g e => ?_, fun cc f g e => ?_, fun cc f e => ?_, fun cc m g e => ?_, fun cc m g e => ?_⟩
  · have k1 : kn ∈ kinds D := by
      cases kn <;> try (simp [kinds]; done)
      rename_i cc
      have : decide (cc < D.clss.length) = true := h1
      simp only [kinds, List.mem_append, List.mem_map, List.mem_range]
      exact .inr ⟨cc, of_decide_eq_true this, rfl⟩
    have k2 : t ∈ types D := by
      cases t <;> try (simp [types]; done)
      · rename_i cc
        have : decide (cc < D.clss.length) = true := h2
        simp only [types, List.mem_append, List.mem_map, List.mem_range]
        exact .inr ⟨cc, of_decide_eq_true this, rfl⟩
      all_goals exact ff h2
    unfold kitB at c3
    simp only [List.all_eq_true, decide_eq_true_eq] at c3
    have := c3 kn k1 t k2
    have e1 : knV (mkG D prog w K mg base) kn = knA D K kn := by cases kn <;> rfl
    have e2 : tyVl (mkG D prog w K mg base) t = tyA D K t := by cases t <;> rfl
    rw [e1, e2]
    exact this
  · obtain ⟨k1, k2, _⟩ := cB (hcl cc (of_decide_eq_true h1))
    unfold ownB at k2
    simp only [Bool.and_eq_true, decide_eq_true_eq] at k2
    exact ⟨k1, He.eqO_ok k2.1.1.1, He.eqO_ok k2.1.1.2, k2.1.2, k2.2⟩
  · have := gnx x _ e
    unfold gnB at this
    simp only [Bool.and_eq_true] at this
    exact ⟨PySem.W.mg_of X Gm (He.eqO_ok this.1), this.2⟩
  · have := gnx x _ e
    unfold gnB mkB at this
    simp only [Bool.and_eq_true] at this
    exact ⟨PySem.W.mg_of X Gm (He.eqO_ok this.1), ⟨this.2.1.1.1, He.eqO_ok this.2.1.1.2, this.2.1.2, this.2.2⟩⟩
  · have := gnx x _ e
    simp only [gnB] at this
    split at this
    · rename_i u q
      obtain ⟨v, h1, h2⟩ := conB_ok (cA := fun c => He.ga K (D.cl c).name) _ _ this
      exact ⟨v, u, PySem.W.mg_of X Gm q, h1, h2⟩
    · cases this
  · have := gnx x _ e
    exact PySem.W.mg_none_of X Gm (He.eqO_ok this)
  · obtain ⟨dvs, F, hl, hr⟩ := hfun i
    have Bd := B.ds _ (df_mem i)
    by_cases hd : (D.df i).dfl = []
    · have hz : dvs = [] := List.length_eq_zero_iff.mp (by rw [hl, hd]; rfl)
      subst hz
      refine ⟨[], [], .nil, F.bindsN (Bd.1 hd), fun g => ?_⟩
      show Reps K _ g ((D.df i).dfl.drop j) []
      rw [hd, List.drop_nil]
      exact Reps.nil
    · obtain ⟨b0, b1⟩ := Bd.2 hd
      have h1 : j ≤ (D.df i).dfl.length := h1
      have h2 : (D.df i).dfl.length ≤ j + (D.df i).ps.length := h2
      have hne : dvs ≠ [] := fun z => hd (List.length_eq_zero_iff.mp (by rw [← hl, z]; rfl))
      obtain ⟨ds, v1, v2⟩ := F.binds1 ((D.df i).ps.length - ((D.df i).dfl.length - j)) j hne (by rw [hl]; omega) (fun T kV doc pm an cdv ct us its h3 h4 => b1 j h1 T kV doc pm an cdv ct us its (by rw [h3]; omega) (by rw [h4, hl]))
      exact ⟨dvs.drop j, ds, v1, v2, fun g => Reps.drop j (hr g)⟩
  · obtain ⟨dvs, F, hl, hr⟩ := hini cc
    have hd := B.ci _ (cl_mem (D := D) cc)
    have hz : dvs = [] := List.length_eq_zero_iff.mp (by rw [hl, hd]; rfl)
    subst hz
    exact F.bindsN ((B.ds _ (ini_mem cc)).1 hd)
  · have e : (n, ks, perm) ∈ (D.kb.filter fun q => decide (q.1 = f)).map (·.2) := e
    obtain ⟨q, q1, q2⟩ := List.mem_map.mp e
    obtain ⟨q1, q3⟩ := List.mem_filter.mp q1
    have q3 : q.1 = f := of_decide_eq_true q3
    obtain ⟨b1, b2⟩ := B.kb q q1
    obtain ⟨qf, qn, qk, qp⟩ := q
    cases q2
    cases q3
    obtain ⟨dvs, F, hl, hr⟩ := hfun qf
    have hz : dvs = [] := List.length_eq_zero_iff.mp (by rw [hl, b1]; rfl)
    subst hz
    obtain ⟨oc, od, dV, kV, doc, pm, an, cdv, ct, osl, efd, lk, hcd, hD, hK⟩ := F.ex
    rcases hD with ⟨_, rfl⟩ | ⟨z, _⟩
    · refine ⟨fun s us ws _ l1 l2 => ?_, fun r1 r2 => permV_rel r1 r2⟩
      show BindsTo s (fdAt K (pA K (D.df qf).at_)) _ _
      rw [efd]
      exact .of_eq (b2 kV doc pm an cdv ct us ws l1 l2)
    · exact absurd rfl z
  · have e : (D.cl cc).meths.lookup m = some g := e
    rcases hcl' cc with hb | ⟨hb, _⟩
    · have := (cB hb).2.2.2.1 _ (lookup_mem' e)
      unfold methB at this
      simp only [Bool.and_eq_true] at this
      exact ⟨He.eqO_ok this.1.1, this.1.2, this.2⟩
    · rw [hb] at e; cases e
  · have e : (D.cl cc).props.lookup f = some g := e
    rcases hcl' cc with hb | ⟨_, hb, _⟩
    · have := (cB hb).2.2.2.2 _ (lookup_mem' e)
      unfold propB at this
      simp only [Bool.and_eq_true, decide_eq_true_eq] at this
      obtain ⟨⟨⟨p1, p2⟩, p3⟩, p4⟩ := this
      split at p4
      · rename_i gg rest q
        have p4 := of_decide_eq_true p4
        subst p4
        exact ⟨_, He.eqO_ok p1, He.eqO_ok p2, p3, ⟨rest, q⟩⟩
      · cases p4
    · rw [hb] at e; cases e
  · have e : f ∈ (D.cl cc).flds := e
    rcases hcl' cc with hb | ⟨_, _, hb⟩
    · exact ⟨(cB hb).1, He.eqO_ok ((cB hb).2.2.1 _ e)⟩
    · rw [hb] at e; cases e
  · have e : (D.cl cc).meths.lookup m = some g := e
    rcases hcl' cc with hb | ⟨hb, _⟩
    · exact (cB hb).1
    · rw [hb] at e; cases e
  · have e : (D.cl cc).props.lookup m = some g := e
    rcases hcl' cc with hb | ⟨_, hb, _⟩
    · exact (cB hb).1
    · rw [hb] at e; cases e
theorem fnd_of (he : ∀ d ∈ D.alld, fnW K (pA K d.at_) = d.val) (c : chk D K = true) (m : ∀ d ∈ D.alld, ddC D d = true) {d : DD} (hd : d ∈ D.alld) :
    FnD (mkG D prog w K mg base) d.ps (pA K d.at_) (fdAt K (pA K d.at_)) ⟨d.N.length, d.core⟩ := by
  unfold chk at c
  simp only [Bool.and_eq_true, List.all_eq_true] at c
  obtain ⟨dvs, F, _, _⟩ := dd_fun (cA := fun c => He.ga K (D.cl c).name) (he _ hd) (c.1.1.1 _ hd)
  have := m _ hd
  unfold ddC at this
  rw [Bool.and_eq_true] at this
  exact ⟨_, _, _, _, _, _, _, d.N, F, C8.fnScope_by this.1, this.2, rfl⟩
theorem lv_of (B : PBind D) (he : ∀ d ∈ D.alld, fnW K (pA K d.at_) = d.val) (c : chk D K = true) (hc0 : D.c0 ∈ D.clss ∨ (D.c0.meths = [] ∧ D.c0.props = [] ∧ D.c0.flds = [])) (m : ∀ d ∈ D.alld, ddC D d = true) (X : K.In h) (Gm : h.Ns mainGlobals mg) :
    ∀ n, Lv (mkG D prog w K mg base) (clv D.pg n) (2 * n)
  | 0 => ⟨rfl, fun i => ⟨fun vs H Q E hs => hs.1, fun A outer s H args us vs Q E hr he hb hv ⟨_, g, S, ds, _, _, p⟩ => p.elim⟩, fun cc => ⟨fun vs H Q E hs => hs.1, fun A outer s H args us vs Q E hr he hb hv ⟨_, g, S, ds, x, dx, H1, ws, _, _, _, _, _, _, _, p⟩ => p.elim⟩⟩
  | n + 1 => by
    have L := lv_of B he c hc0 m X Gm n
    have P : POk (mkG D prog w K mg base) := pok_of B he c hc0 X Gm
    exact ⟨rfl, fun i => def_ok P L (i := i) (d := ⟨(D.df i).N.length, (D.df i).core⟩) (fnd_of he c m (df_mem i)), fun cc => ini_ok P L (c := cc) (d := ⟨(D.cl cc).init.N.length, (D.cl cc).init.core⟩) (fnd_of he c m (ini_mem cc))⟩
end
/-! ### the Hook -/
abbrev AlG : Type := Bool × List FnW
def obsG (D : PD) (K : PySem.W.Frag) : AlG := (chk D K, D.alld.map fun d => fnW K (pA K d.at_))
def valG (D : PD) : AlG := (true, D.alld.map DD.val)
def obsGG (n : Nat) (D : PD) (g : Addr → Option Obj) : AlG := obsG D (He.frG g (He.asD g n))
def hookG (n : Nat) (D : PD) : PySem.W.Hook where
  α := AlG
  obs := fun s => obsGG n D s.heap.get?
  val := fun _ => valG D
  says := fun _ h => ∃ K : PySem.W.Frag, K.In h ∧ obsG D K = valG D
  of := fun _ _ e => ⟨_, He.frG_in, e⟩
  keeps := fun _ _ _ ⟨K, hK, c⟩ k => ⟨K, PySem.W.Frag.In.keeps hK k, c⟩
theorem obsGG_eq {n : Nat} {D : PD} {g : Addr → Option Obj} {s : Shared} (h : ∀ a, g a = s.heap.get? a) : obsGG n D g = (hookG n D).obs s := by
  have e : g = s.heap.get? := funext h
  rw [e] <;> rfl
def obG (n : Nat) (D : PD) (s : PySem.W.SharedT) : AlG := obsGG n D (HandSHeadRun.getT s)
theorem obG_eq (n : Nat) (D : PD) (s : PySem.W.SharedT) : obG n D s = (hookG n D).obs s.abs := obsGG_eq (HandSHeadRun.getT_eq s)
theorem says_of {D : PD} {K : PySem.W.Frag} (c : obsG D K = valG D) : chk D K = true ∧ ∀ d ∈ D.alld, fnW K (pA K d.at_) = d.val := by
  refine ⟨congrArg (fun z : AlG => z.1) c, fun d hd => ?_⟩
  have e : D.alld.map (fun d => fnW K (pA K d.at_)) = D.alld.map DD.val := congrArg (fun z : AlG => z.2) c
  obtain ⟨i, hi, e1⟩ := List.mem_iff_getElem.mp hd
  have e2 := congrArg (fun l => l[i]?) e
  simp only [List.getElem?_map, List.getElem?_eq_getElem hi, e1, Option.map_some, Option.some.injEq] at e2
  exact e2
/-- the law, from the pure side -/
theorem law_facts {D : PD} {P : Program} {w : World} {K : PySem.W.Frag} {h : Heap} {mg : Str → Option Value} {f : Addr} {n i : Nat} {x : Str} (X : K.In h) (Gm : h.Ns mainGlobals mg) (hfa : mg x = some (.ref f)) (c : obsG D K = valG D)
    (B : PBind D) (hc0 : D.c0 ∈ D.clss ∨ (D.c0.meths = [] ∧ D.c0.props = [] ∧ D.c0.flds = [])) (m : ∀ d ∈ D.alld, ddC D d = true) (hx : D.gn.lookup x = some (.fn i)) (hps : (D.df i).ps.length = 1) (hdf : (D.df i).dfl = [])
    (law : ∀ ns : List Int, ns.length ≤ 63 → ∃ S, (lev D.pg n).1 i [.scr (ns.map DV.int)] [] = .ok (.bl true) S) :
    ∃ (fd : FuncData) (sp : Sp), (∀ (s : Shared) (u : Value), BindsTo s fd ⟨[u], []⟩ [((D.df i).ps.headD "", u)]) ∧
      (∀ (H : Hp) (a : Addr) (ns : List Int), ns.length ≤ 63 → SqL K H a (ns.map V.int) → sp [.ref a] H (fun v _ => v = .bl true) fun _ _ _ => False) ∧
      ∀ base : Heap, K.In base → base.Ns mainGlobals mg → FnOk P w K mg base (L2.CX P w) (2 * n) f fd [(D.df i).ps.headD ""] sp := by
  obtain ⟨c1, c2⟩ := says_of c
  have P0 : POk (mkG D P w K mg h) := pok_of B c2 c1 hc0 X Gm
  have e := hfa.symm.trans (P0.fn x i hx).1
  cases e
  obtain ⟨dvs, F, hl, _⟩ := dd_fun (cA := fun c => He.ga K (D.cl c).name) (c2 _ (df_mem i)) (by
    have c1 := c1
    unfold chk at c1
    simp only [Bool.and_eq_true, List.all_eq_true] at c1
    exact c1.1.1.1 _ (df_mem i))
  have hz : dvs = [] := List.length_eq_zero_iff.mp (by rw [hl, hdf]; rfl)
  subst hz
  have hps1 : (D.df i).ps = [(D.df i).ps.headD ""] := by
    obtain ⟨y, e⟩ := List.length_eq_one_iff.mp hps
    rw [e]
    rfl
  refine ⟨fdAt K (pA K (D.df i).at_), spF (mkG D P w K mg h) (lev D.pg n).1 i, fun s u => ?_, fun H a ns hn hS => ?_, fun base hK hB => ?_⟩
  · have := FunD.bindsA F ((B.ds _ (df_mem i)).1 hdf) s [u] (by rw [hps1]; rfl)
    rw [hps1] at this
    exact this
  · refine ⟨by show 1 = (D.df i).ps.length; rw [hps1]; rfl, ⟨H, [], fun _ => none⟩, [], [.scr (ns.map DV.int)], ?_, ?_, ?_⟩
    · exact ⟨fun a o h => h, fun a o h => (by cases h), fun a o h => rfl, rfl, fun n o h => (by simp at h), fun n m a h => (by simp at h)⟩
    · refine Reps.cons ?_ Reps.nil
      simp only [Rep]
      refine ⟨a, ns.map V.int, rfl, hS, ?_⟩
      clear hS hn
      induction ns with
      | nil => exact Reps.nil
      | cons z ns ih => exact Reps.cons Rep.int ih
    · obtain ⟨S, e⟩ := law ns hn
      show Post _ _ _ _ ((lev D.pg n).1 i [.scr (ns.map DV.int)] []) _ _
      rw [e]
      intro g' b H' l rs r
      simp only [Rep] at r
      exact r
  · have L := (lv_of (prog := P) (w := w) (base := base) B c2 c1 hc0 m hK hB n).call i
    rw [← hps1]
    refine FnOk.imp L fun vs H Q E hs => ?_
    exact hs
end GL
namespace GL
open PySem L2 PySem.Spec PyProof.Rows
/-- the law's walk, what may be let out told by the world -/
theorem walkW {l : PySem.W.OpenLaw} {n k : Nat} {q : Program} {loose : List Str} {XP : (Str → Option Value) → Heap → Prop} {YP : World → Heap → Prop} {d : DefRec} {x : Str} (hn : l.most = some n) (hn2 : n ≤ sizeLine) (hdf : d.params.defaults = []) (hr : Room k callerA)
    (F : ∀ (w : World) (mg : Str → Option Value) (fa : Addr) (h : Heap), YP w h → h.Ns mainGlobals mg → mg d.name = some (.ref fa) → ∃ (K : PySem.W.Frag) (fd : FuncData) (sp : Sp), K.In h ∧ (∀ (s : Shared) (u : Value), BindsTo s fd ⟨[u], []⟩ [(x, u)]) ∧
        (∀ (H : Hp) (a : Addr) (ns : List Int), ns.length ≤ n → SqL K H a (ns.map V.int) → sp [.ref a] H (fun v _ => v = .bl true) fun _ _ _ => False) ∧ ∀ base : Heap, K.In base → base.Ns mainGlobals mg → FnOk l.prog w K mg base (L2.CX l.prog w) k fa fd [x] sp) :
    PySem.W.WalkO q loose XP YP l.row.toRowW d [] (fun f vs => PySem.call f vs) :=
  Att.attach_call hn hdf fun w t0 t1 m1 m2 fa ob pv cv dv a us ns G Y o1 o2 o3 hm h1 h2 h3 h4 => by
    obtain ⟨K, fd, sp, KX, hb, hs, hF⟩ := F w m1 fa _ Y G.T.g hm
    refine law_call KX G.T.g G.T.b G.T.builtins G.T.nolimit h4 h1 h2 (Nat.le_trans h3 hn2) hr hF hb (fun H _ hS => hs H a ns h3 hS) fun H e s' z => ?_
    obtain ⟨_, _, _, _, _, _, _, _, _, _, _, _, z⟩ := z
    exact z
end GL
end
section
set_option Elab.async false
set_option linter.all false
set_option maxRecDepth 100000
set_option maxHeartbeats 1000000
namespace K10
open PySem L2 GL
def top (i : Nat) : Stmt := PySem.Challenge.pw_gatedlanes_k10_things_that_are_rules.main.body.getD i (.Pass ⟨0, 0, 0, 0⟩)
abbrev s_is_number : Stmt := top 7
def b_is_number : CSs := .cons (.ret (.and (.isi (.var 0) [.int]) (.and (.not (.isi (.var 0) [.bool])) (.cmp .ge (.var 0) (.int 0))))) (.nil)
def d_is_number : DD := ⟨.glo "is_number", "is_number", "is_number", defArgs s_is_number, defBody s_is_number, defScope s_is_number, ["thing"], ["thing"], [], b_is_number⟩
theorem bd_is_number : DBind d_is_number := ⟨fun _ _ _ _ _ _ _ us hl => match us, hl with | [_], _ => rfl, fun h => absurd rfl h⟩
abbrev s_as_tree : Stmt := top 8
def b_as_tree : CSs := .cons (.ret (.bi .tuple (.cons false (.comp (.ite (.isi (.var 1) [.str]) (.var 1) (.call 1 (.cons false (.var 1) (.nil)))) (.one (.mk (.nm 1) (.seq (.var 0)) (.nil))) [("member", 1)]) (.nil)))) (.nil)
def d_as_tree : DD := ⟨.glo "as_tree", "as_tree", "as_tree", defArgs s_as_tree, defBody s_as_tree, defScope s_as_tree, ["members", "member"], ["members"], [], b_as_tree⟩
theorem bd_as_tree : DBind d_as_tree := ⟨fun _ _ _ _ _ _ _ us hl => match us, hl with | [_], _ => rfl, fun h => absurd rfl h⟩
abbrev s_gates_in : Stmt := top 9
def b_gates_in : CSs := .cons (.par [.o 2 (.lst (.nil)), .o 3 (.lst (.nil)), .v 4 (.bin .add (.var 1) (.int 1))]) (.cons (.for (.nm 5) (.seq (.var 0)) (.cons (.ite (.isi (.var 5) [.str]) (.cons (.app 2 (.var 5)) (.nil)) (.cons (.set (.nm 6) (.call 2 (.cons false (.var 5) (.cons false (.var 4) (.nil))))) (.cons (.app 2 (.var 4)) (.cons (.extd 3 (.var 6)) (.cons (.aug 4 .add (.bi .len (.cons false (.var 6) (.nil)))) (.nil)))))) (.nil))) (.cons (.frz 2) (.cons (.frz 3) (.cons (.ret (.lst (.cons false (.bi .tuple (.cons false (.var 2) (.nil))) (.cons true (.var 3) (.nil))))) (.nil)))))
def d_gates_in : DD := ⟨.glo "gates_in", "gates_in", "gates_in", defArgs s_gates_in, defBody s_gates_in, defScope s_gates_in, ["tree", "first", "members", "found", "later", "member", "beneath"], ["tree", "first"], [.int (0)], b_gates_in⟩
theorem bd_gates_in : DBind d_gates_in := by
  refine ⟨fun h => absurd h (by decide), fun _ => ⟨by decide, fun j hj T kV doc pm an cdv ct us its h1 h2 => ?_⟩⟩
  have hj : j ≤ 1 := hj
  have h1 : us.length + (1 - j) = 2 := h1
  have h2 : its.length = 1 := h2
  rcases (show j = 0 ∨ j = 1 by omega) with rfl | rfl
  · match us, its, h1, h2 with
    | [_], [_], _, _ => exact ⟨_, rfl, rfl⟩
  · match us, its, h1, h2 with
    | [_, _], [_], _, _ => exact ⟨_, rfl, rfl⟩
abbrev s_lanes_in : Stmt := top 10
def b_lanes_in : CSs := .cons (.ret (.comp (.var 2) (.two (.mk (.nm 1) (.seq (.var 0)) (.nil)) (.one (.mk (.nm 2) (.seq (.ite (.isi (.var 1) [.str]) (.lst (.cons false (.var 1) (.nil))) (.call 3 (.cons false (.var 1) (.nil))))) (.nil)))) [("member", 1), ("name", 2)])) (.nil)
def d_lanes_in : DD := ⟨.glo "lanes_in", "lanes_in", "lanes_in", defArgs s_lanes_in, defBody s_lanes_in, defScope s_lanes_in, ["tree", "member", "name"], ["tree"], [], b_lanes_in⟩
theorem bd_lanes_in : DBind d_lanes_in := ⟨fun _ _ _ _ _ _ _ us hl => match us, hl with | [_], _ => rfl, fun h => absurd rfl h⟩
abbrev s_Plan_gates : Stmt := inClass (top 11) 3
def b_Plan_gates : CSs := .cons (.ret (.bi .len (.cons false (.fld (.var 0) "own_gates") (.nil)))) (.nil)
def d_Plan_gates : DD := ⟨.get "Plan" "gates", "gates", "Plan.gates", defArgs s_Plan_gates, defBody s_Plan_gates, defScope s_Plan_gates, ["self"], ["self"], [], b_Plan_gates⟩
theorem bd_Plan_gates : DBind d_Plan_gates := ⟨fun _ _ _ _ _ _ _ us hl => match us, hl with | [_], _ => rfl, fun h => absurd rfl h⟩
abbrev s_Plan_check_gate : Stmt := inClass (top 11) 5
def b_Plan_check_gate : CSs := .cons (.ite (.not (.cmp2 .le .lt (.int 0) (.var 1) (.bi .len (.cons false (.fld (.var 0) "own_gates") (.nil))))) (.cons (.never) (.nil)) (.nil)) (.nil)
def d_Plan_check_gate : DD := ⟨.mem "Plan" "check_gate", "check_gate", "Plan.check_gate", defArgs s_Plan_check_gate, defBody s_Plan_check_gate, defScope s_Plan_check_gate, ["self", "gate"], ["self", "gate"], [], b_Plan_check_gate⟩
theorem bd_Plan_check_gate : DBind d_Plan_check_gate := ⟨fun _ _ _ _ _ _ _ us hl => match us, hl with | [_, _], _ => rfl, fun h => absurd rfl h⟩
abbrev s_Plan_members : Stmt := inClass (top 11) 7
def b_Plan_members : CSs := .cons (.ex (.meth (.var 0) "check_gate" (.cons false (.var 1) (.nil)))) (.cons (.ret (.ix (.fld (.var 0) "own_gates") (.var 1))) (.nil))
def d_Plan_members : DD := ⟨.mem "Plan" "members", "members", "Plan.members", defArgs s_Plan_members, defBody s_Plan_members, defScope s_Plan_members, ["self", "gate"], ["self", "gate"], [], b_Plan_members⟩
theorem bd_Plan_members : DBind d_Plan_members := ⟨fun _ _ _ _ _ _ _ us hl => match us, hl with | [_, _], _ => rfl, fun h => absurd rfl h⟩
abbrev s_is_rule : Stmt := top 20
def b_is_rule : CSs := .cons (.ite (.or (.not (.isi (.var 1) [.tuple])) (.or (.cmp .ne (.bi .len (.cons false (.var 1) (.nil))) (.gl 0)) (.cmp .notin (.ix (.var 1) (.int 0)) (.gl 1)))) (.cons (.ret (.bl false)) (.nil)) (.nil)) (.cons (.ite (.or (.not (.isi (.ix (.var 1) (.int 1)) [.tuple])) (.not (.bi .all (.cons false (.comp (.call 0 (.cons false (.var 2) (.nil))) (.one (.mk (.nm 2) (.seq (.ix (.var 1) (.int 1))) (.nil))) [("place", 2)]) (.nil))))) (.cons (.ret (.bl false)) (.nil)) (.nil)) (.cons (.ret (.cmp .eq (.bi .sorted (.cons false (.ix (.var 1) (.int 1)) (.nil))) (.rng (.int 0) (.var 0) 1))) (.nil)))
def d_is_rule : DD := ⟨.glo "is_rule", "is_rule", "is_rule", defArgs s_is_rule, defBody s_is_rule, defScope s_is_rule, ["many", "thing", "place"], ["many", "thing"], [], b_is_rule⟩
theorem bd_is_rule : DBind d_is_rule := ⟨fun _ _ _ _ _ _ _ us hl => match us, hl with | [_, _], _ => rfl, fun h => absurd rfl h⟩
abbrev s_is_rules : Stmt := top 21
def b_is_rules : CSs := .cons (.ite (.or (.not (.isi (.var 1) [.tuple])) (.cmp .ne (.bi .len (.cons false (.var 1) (.nil))) (.prop (.var 0) "gates"))) (.cons (.ret (.bl false)) (.nil)) (.nil)) (.cons (.ret (.bi .all (.cons false (.comp (.call 7 (.cons false (.bi .len (.cons false (.meth (.var 0) "members" (.cons false (.var 2) (.nil))) (.nil))) (.cons false (.var 3) (.nil)))) (.one (.mk (.tp [(.nm 2), (.nm 3)]) (.enum (.var 1)) (.nil))) [("gate", 2), ("rule", 3)]) (.nil)))) (.nil))
def d_is_rules : DD := ⟨.glo "is_rules", "is_rules", "is_rules", defArgs s_is_rules, defBody s_is_rules, defScope s_is_rules, ["plan", "thing", "gate", "rule"], ["plan", "thing"], [], b_is_rules⟩
theorem bd_is_rules : DBind d_is_rules := ⟨fun _ _ _ _ _ _ _ us hl => match us, hl with | [_, _], _ => rfl, fun h => absurd rfl h⟩
abbrev s__law_box : Stmt := top 23
def b__law_box : CSs := .cons (.set (.nm 2) (.ite (.cmp .lt (.var 1) (.bi .len (.cons false (.var 0) (.nil)))) (.ix (.var 0) (.var 1)) (.int 0))) (.cons (.ret (.shr (.lst (.cons false (.bin .mul (.bi .abs (.cons false (.var 2) (.nil))) (.bi .int (.cons false (.cmp .ge (.bi .abs (.cons false (.var 2) (.nil))) (.bin .pow (.int 10) (.int 18))) (.nil)))) (.cons false (.bin .add (.bin .add (.bin .mod (.bi .int (.cons false (.var 2) (.nil))) (.int 2305843009213693951)) (.bin .mul (.int 39373) (.var 1))) (.int 10716)) (.cons false (.int 0) (.nil))))))) (.nil))
def d__law_box : DD := ⟨.glo "_law_box", "_law_box", "_law_box", defArgs s__law_box, defBody s__law_box, defScope s__law_box, ["_law_script", "_law_k", "_law_cell"], ["_law_script", "_law_k"], [], b__law_box⟩
theorem bd__law_box : DBind d__law_box := ⟨fun _ _ _ _ _ _ _ us hl => match us, hl with | [_, _], _ => rfl, fun h => absurd rfl h⟩
abbrev s__law_take : Stmt := top 24
def b__law_take : CSs := .cons (.ite (.cmp .gt (.ix (.var 0) (.int 0)) (.int 0)) (.cons (.set (.nm 2) (.bin .mod (.bi .int (.cons false (.ix (.var 0) (.int 0)) (.nil))) (.var 1))) (.cons (.sput (.var 0) (.int 0) (.bin .fdiv (.ix (.var 0) (.int 0)) (.var 1))) (.cons (.ret (.var 2)) (.nil)))) (.nil)) (.cons (.sput (.var 0) (.int 2) (.bin .add (.ix (.var 0) (.int 2)) (.int 1))) (.cons (.set (.nm 3) (.bin .mod (.bi .int (.cons false (.bin .mul (.bin .add (.ix (.var 0) (.int 1)) (.bin .mul (.int 48271) (.ix (.var 0) (.int 2)))) (.bin .add (.int 39373) (.ix (.var 0) (.int 2)))) (.nil))) (.int 2147483647))) (.cons (.set (.nm 4) (.bin .add (.bin .mod (.bi .int (.cons false (.var 3) (.nil))) (.int 40009)) (.int 7))) (.cons (.set (.nm 5) (.bin .mod (.bi .int (.cons false (.bin .mul (.bin .add (.bin .add (.var 3) (.ix (.var 0) (.int 2))) (.bin .fdiv (.ix (.var 0) (.int 1)) (.int 1000003))) (.var 4)) (.nil))) (.int 2147483629))) (.cons (.ret (.bin .mod (.bi .int (.cons false (.bin .fdiv (.bin .mod (.bi .int (.cons false (.bin .add (.bin .mul (.var 5) (.int 48271)) (.var 3)) (.nil))) (.int 2147483587)) (.int 64)) (.nil))) (.var 1))) (.nil))))))
def d__law_take : DD := ⟨.glo "_law_take", "_law_take", "_law_take", defArgs s__law_take, defBody s__law_take, defScope s__law_take, ["_law_box_here", "_law_below_so", "_law_drawn", "_law_once", "_law_far_so", "_law_twice_so"], ["_law_box_here", "_law_below_so"], [], b__law_take⟩
theorem bd__law_take : DBind d__law_take := ⟨fun _ _ _ _ _ _ _ us hl => match us, hl with | [_, _], _ => rfl, fun h => absurd rfl h⟩
abbrev s__law_cells : Stmt := top 25
def b__law_cells : CSs := .cons (.own 2 (.or (.bi .list (.sl (.var 0) (.no) (.so (.var 1)))) (.lst (.cons false (.int 0) (.nil))))) (.cons (.for (.tp [(.nm 3), (.nm 4)]) (.enum (.sl (.var 0) (.so (.var 1)) (.so (.int 63)))) (.cons (.set (.nm 5) (.bin .mod (.bi .int (.cons false (.var 3) (.nil))) (.var 1))) (.cons (.put 2 (.var 5) (.bin .add (.pkx 2 (.var 5)) (.bin .mul (.var 4) (.bin .add (.var 3) (.int 2))))) (.nil)))) (.cons (.frz 2) (.cons (.ret (.var 2)) (.nil))))
def d__law_cells : DD := ⟨.glo "_law_cells", "_law_cells", "_law_cells", defArgs s__law_cells, defBody s__law_cells, defScope s__law_cells, ["_law_script", "_law_most_so", "_law_cells_here", "_law_k", "_law_cell", "_law_at_so"], ["_law_script", "_law_most_so"], [], b__law_cells⟩
theorem bd__law_cells : DBind d__law_cells := ⟨fun _ _ _ _ _ _ _ us hl => match us, hl with | [_, _], _ => rfl, fun h => absurd rfl h⟩
abbrev s__law_of : Stmt := top 26
def b__law_of : CSs := .cons (.ret (.ix (.var 1) (.call 10 (.cons false (.var 0) (.cons false (.bi .len (.cons false (.var 1) (.nil))) (.nil)))))) (.nil)
def d__law_of : DD := ⟨.glo "_law_of", "_law_of", "_law_of", defArgs s__law_of, defBody s__law_of, defScope s__law_of, ["_law_box_here", "_law_some"], ["_law_box_here", "_law_some"], [], b__law_of⟩
theorem bd__law_of : DBind d__law_of := ⟨fun _ _ _ _ _ _ _ us hl => match us, hl with | [_, _], _ => rfl, fun h => absurd rfl h⟩
abbrev s__law_lists : Stmt := top 27
def b__law_lists : CSs := .cons (.ret (.ite (.isi (.var 0) [.list, .tuple]) (.comp (.call 13 (.cons false (.var 1) (.nil))) (.one (.mk (.nm 1) (.seq (.var 0)) (.nil))) [("_law_bit", 1)]) (.var 0))) (.nil)
def d__law_lists : DD := ⟨.glo "_law_lists", "_law_lists", "_law_lists", defArgs s__law_lists, defBody s__law_lists, defScope s__law_lists, ["_law_matter", "_law_bit"], ["_law_matter"], [], b__law_lists⟩
theorem bd__law_lists : DBind d__law_lists := ⟨fun _ _ _ _ _ _ _ us hl => match us, hl with | [_], _ => rfl, fun h => absurd rfl h⟩
abbrev s__law_same : Stmt := top 28
def b__law_same : CSs := .cons (.ite (.isi (.var 1) [.list, .tuple]) (.cons (.ite (.or (.cmp .ne (.isi (.var 0) [.list]) (.isi (.var 1) [.list])) (.cmp .ne (.isi (.var 0) [.tuple]) (.isi (.var 1) [.tuple]))) (.cons (.ret (.bl false)) (.nil)) (.nil)) (.cons (.ret (.and (.cmp .eq (.bi .len (.cons false (.var 0) (.nil))) (.bi .len (.cons false (.var 1) (.nil)))) (.bi .all (.cons false (.comp (.call 14 (.cons false (.var 2) (.cons false (.var 3) (.nil)))) (.one (.mk (.tp [(.nm 2), (.nm 3)]) (.zip (.var 0) (.var 1)) (.nil))) [("_law_mine", 2), ("_law_its", 3)]) (.nil))))) (.nil))) (.nil)) (.cons (.ite (.or (.cmp .is (.var 1) (.non)) (.isi (.var 1) [.bool, .str])) (.cons (.ret (.and (.cmp .eq (.var 0) (.var 1)) (.and (.cmp .eq (.isi (.var 0) [.bool]) (.isi (.var 1) [.bool])) (.cmp .eq (.cmp .is (.var 0) (.non)) (.cmp .is (.var 1) (.non)))))) (.nil)) (.nil)) (.cons (.ret (.and (.isi (.var 0) [.int]) (.and (.not (.isi (.var 0) [.bool])) (.cmp .eq (.var 0) (.var 1))))) (.nil)))
def d__law_same : DD := ⟨.glo "_law_same", "_law_same", "_law_same", defArgs s__law_same, defBody s__law_same, defScope s__law_same, ["_law_got", "_law_due_so", "_law_mine", "_law_its"], ["_law_got", "_law_due_so"], [], b__law_same⟩
theorem bd__law_same : DBind d__law_same := ⟨fun _ _ _ _ _ _ _ us hl => match us, hl with | [_, _], _ => rfl, fun h => absurd rfl h⟩
abbrev s__law_mixed : Stmt := top 29
def b__law_mixed : CSs := .cons (.par [.v 2 (.bi .list (.cons false (.var 1) (.nil))), .o 3 (.lst (.nil))]) (.cons (.for (.nm 4) (.rng (.int 0) (.bi .len (.cons false (.var 1) (.nil))) 1) (.cons (.set (.nm 5) (.call 10 (.cons false (.var 0) (.cons false (.bi .len (.cons false (.var 2) (.nil))) (.nil))))) (.cons (.app 3 (.ix (.var 2) (.var 5))) (.cons (.set (.nm 2) (.bin .add (.sl (.var 2) (.no) (.so (.var 5))) (.sl (.var 2) (.so (.bin .add (.var 5) (.int 1))) (.no)))) (.nil))))) (.cons (.frz 3) (.cons (.ret (.var 3)) (.nil))))
def d__law_mixed : DD := ⟨.glo "_law_mixed", "_law_mixed", "_law_mixed", defArgs s__law_mixed, defBody s__law_mixed, defScope s__law_mixed, ["_law_box_here", "_law_rows_so", "_law_rest_so", "_law_found", "_law_turn", "_law_at_so"], ["_law_box_here", "_law_rows_so"], [], b__law_mixed⟩
theorem bd__law_mixed : DBind d__law_mixed := ⟨fun _ _ _ _ _ _ _ us hl => match us, hl with | [_, _], _ => rfl, fun h => absurd rfl h⟩
abbrev s__law_names : Stmt := top 30
def b__law_names : CSs := .cons (.set (.nm 2) (.str [97, 98, 99, 100, 101, 102, 103, 104, 105, 106, 107, 108, 109, 110, 111, 112, 113, 114, 115, 116, 117, 118, 119, 120, 121, 122])) (.cons (.set (.nm 3) (.bm (.str []) .join (.cons false (.comp (.ix (.var 2) (.call 10 (.cons false (.var 0) (.cons false (.int 26) (.nil))))) (.one (.mk (.nm 10) (.rng (.int 0) (.int 8) 1) (.nil))) [("_law_k", 10)]) (.nil)))) (.cons (.par [.v 4 (.bin .add (.int 1) (.call 10 (.cons false (.var 0) (.cons false (.int 8) (.nil))))), .v 5 (.call 10 (.cons false (.var 0) (.cons false (.int 8) (.nil)))), .v 6 (.call 10 (.cons false (.var 0) (.cons false (.int 2) (.nil))))]) (.cons (.set (.nm 7) (.call 10 (.cons false (.var 0) (.cons false (.int 26) (.nil))))) (.cons (.set (.nm 8) (.call 12 (.cons false (.var 0) (.cons false (.lst (.cons false (.int 1) (.cons false (.int 3) (.cons false (.int 5) (.cons false (.int 7) (.cons false (.int 9) (.cons false (.int 11) (.cons false (.int 15) (.cons false (.int 17) (.cons false (.int 19) (.cons false (.int 21) (.cons false (.int 23) (.cons false (.int 25) (.nil)))))))))))))) (.nil))))) (.cons (.own 9 (.lst (.nil))) (.cons (.for (.nm 10) (.rng (.int 0) (.var 1) 1) (.cons (.set (.nm 11) (.ite (.cmp .eq (.var 6) (.int 0)) (.var 4) (.bin .add (.int 1) (.call 10 (.cons false (.var 0) (.cons false (.int 8) (.nil))))))) (.cons (.set (.nm 12) (.sl (.var 3) (.no) (.so (.var 11)))) (.cons (.ite (.cmp .gt (.var 6) (.int 0)) (.cons (.set (.nm 12) (.bm (.str []) .join (.cons false (.comp (.ix (.var 2) (.call 10 (.cons false (.var 0) (.cons false (.int 26) (.nil))))) (.one (.mk (.nm 15) (.rng (.int 0) (.var 11) 1) (.nil))) [("_law_turn", 15)]) (.nil)))) (.nil)) (.nil)) (.cons (.set (.nm 13) (.bin .mod (.bi .int (.cons false (.var 5) (.nil))) (.var 11))) (.cons (.set (.nm 14) (.ix (.var 2) (.bin .mod (.bi .int (.cons false (.bin .add (.var 7) (.bin .mul (.var 8) (.var 10))) (.nil))) (.int 26)))) (.cons (.app 9 (.bin .add (.bin .add (.sl (.var 12) (.no) (.so (.var 13))) (.var 14)) (.sl (.var 12) (.so (.bin .add (.var 13) (.int 1))) (.no)))) (.nil)))))))) (.cons (.frz 9) (.cons (.ret (.var 9)) (.nil)))))))))
def d__law_names : DD := ⟨.glo "_law_names", "_law_names", "_law_names", defArgs s__law_names, defBody s__law_names, defScope s__law_names, ["_law_box_here", "_law_some", "_law_signs_so", "_law_stem_so", "_law_far_so", "_law_spot_so", "_law_near_so", "_law_first_so", "_law_stride_so", "_law_found", "_law_k", "_law_size_so", "_law_word_so", "_law_at_so", "_law_sign_so", "_law_turn"], ["_law_box_here", "_law_some"], [], b__law_names⟩
theorem bd__law_names : DBind d__law_names := ⟨fun _ _ _ _ _ _ _ us hl => match us, hl with | [_, _], _ => rfl, fun h => absurd rfl h⟩
abbrev s__law_read : Stmt := top 31
def b__law_read : CSs := .cons (.set (.nm 4) (.bi .len (.cons false (.var 3) (.nil)))) (.cons (.sapp (.var 3) (.shr (.lst (.cons false (.shr (.bi .list (.var 0))) (.cons false (.var 1) (.cons false (.var 2) (.nil))))))) (.cons (.for (.tp [(.nm 5), (.nm 6)]) (.enum (.var 0)) (.cons (.ite (.not (.isi (.var 6) [.str])) (.cons (.sput (.ix (.ix (.var 3) (.var 4)) (.int 0)) (.var 5) (.bi .len (.cons false (.var 3) (.nil)))) (.cons (.ex (.call 17 (.cons false (.var 6) (.cons false (.var 4) (.cons false (.var 5) (.cons false (.var 3) (.nil))))))) (.nil))) (.nil)) (.nil))) (.cons (.ret (.var 3)) (.nil))))
def d__law_read : DD := ⟨.glo "_law_read", "_law_read", "_law_read", defArgs s__law_read, defBody s__law_read, defScope s__law_read, ["_law_tree_so", "_law_parent_so", "_law_spot_so", "_law_found", "_law_here", "_law_k", "_law_own"], ["_law_tree_so", "_law_parent_so", "_law_spot_so", "_law_found"], [], b__law_read⟩
theorem bd__law_read : DBind d__law_read := ⟨fun _ _ _ _ _ _ _ us hl => match us, hl with | [_, _, _, _], _ => rfl, fun h => absurd rfl h⟩
abbrev s__law_tree : Stmt := top 32
def b__law_tree : CSs := .cons (.ite (.cmp .lt (.var 2) (.int 2)) (.cons (.ret (.bi .tuple (.cons false (.var 1) (.nil)))) (.nil)) (.nil)) (.cons (.par [.v 3 (.bi .list (.cons false (.var 1) (.nil))), .o 4 (.lst (.nil))]) (.cons (.whl (.cmp .ne (.var 3) (.lst (.nil))) (.cons (.set (.nm 5) (.bin .add (.int 1) (.call 10 (.cons false (.var 0) (.cons false (.bi .len (.cons false (.var 3) (.nil))) (.nil)))))) (.cons (.par [.v 6 (.sl (.var 3) (.no) (.so (.var 5))), .v 3 (.sl (.var 3) (.so (.var 5)) (.no))]) (.cons (.ite (.or (.cmp .gt (.var 5) (.int 1)) (.cmp .eq (.call 10 (.cons false (.var 0) (.cons false (.int 5) (.nil)))) (.int 0))) (.cons (.app 4 (.call 18 (.cons false (.var 0) (.cons false (.var 6) (.cons false (.bin .sub (.var 2) (.int 1)) (.nil)))))) (.nil)) (.cons (.frz 4) (.cons (.own 4 (.add (.var 4) (.var 6))) (.nil)))) (.nil))))) (.cons (.frz 4) (.cons (.ret (.bi .tuple (.cons false (.var 4) (.nil)))) (.nil)))))
def d__law_tree : DD := ⟨.glo "_law_tree", "_law_tree", "_law_tree", defArgs s__law_tree, defBody s__law_tree, defScope s__law_tree, ["_law_box_here", "_law_tags_so", "_law_deep_so", "_law_rest_so", "_law_found", "_law_size_so", "_law_lot_so"], ["_law_box_here", "_law_tags_so", "_law_deep_so"], [], b__law_tree⟩
theorem bd__law_tree : DBind d__law_tree := ⟨fun _ _ _ _ _ _ _ us hl => match us, hl with | [_, _, _], _ => rfl, fun h => absurd rfl h⟩
abbrev s__law_plan : Stmt := top 33
def b__law_plan : CSs := .cons (.set (.nm 2) (.call 15 (.cons false (.var 0) (.cons false (.call 16 (.cons false (.var 0) (.cons false (.bin .add (.int 2) (.call 10 (.cons false (.var 0) (.cons false (.bin .sub (.var 1) (.int 1)) (.nil))))) (.nil)))) (.nil))))) (.cons (.ret (.call 18 (.cons false (.var 0) (.cons false (.var 2) (.cons false (.bin .add (.int 1) (.call 10 (.cons false (.var 0) (.cons false (.ite (.cmp .lt (.bi .len (.cons false (.var 2) (.nil))) (.int 6)) (.int 3) (.int 2)) (.nil))))) (.nil)))))) (.nil))
def d__law_plan : DD := ⟨.glo "_law_plan", "_law_plan", "_law_plan", defArgs s__law_plan, defBody s__law_plan, defScope s__law_plan, ["_law_box_here", "_law_most_so", "_law_tags_so"], ["_law_box_here", "_law_most_so"], [], b__law_plan⟩
theorem bd__law_plan : DBind d__law_plan := ⟨fun _ _ _ _ _ _ _ us hl => match us, hl with | [_, _], _ => rfl, fun h => absurd rfl h⟩
abbrev s__law_plan_host : Stmt := top 34
def b__law_plan_host : CSs := .cons (.ret (.new 0 (.cons false (.var 0) (.nil)))) (.nil)
def d__law_plan_host : DD := ⟨.glo "_law_plan_host", "_law_plan_host", "_law_plan_host", defArgs s__law_plan_host, defBody s__law_plan_host, defScope s__law_plan_host, ["_law_tree_so"], ["_law_tree_so"], [], b__law_plan_host⟩
theorem bd__law_plan_host : DBind d__law_plan_host := ⟨fun _ _ _ _ _ _ _ us hl => match us, hl with | [_], _ => rfl, fun h => absurd rfl h⟩
abbrev s__law_rules : Stmt := top 35
def b__law_rules : CSs := .cons (.own 2 (.lst (.nil))) (.cons (.for (.tp [(.nm 3), (.nm 4), (.nm 5)]) (.seq (.call 17 (.cons false (.var 1) (.cons false (.neg (.int 1)) (.cons false (.neg (.int 1)) (.cons false (.shr (.lst (.nil))) (.nil))))))) (.cons (.set (.nm 6) (.call 12 (.cons false (.var 0) (.cons false (.lst (.cons false (.str [102, 105, 114, 115, 116]) (.cons false (.str [116, 117, 114, 110, 115]) (.cons false (.str [108, 97, 115, 116]) (.cons false (.str [108, 111, 110, 103]) (.cons false (.str [111, 108, 100]) (.nil))))))) (.nil))))) (.cons (.app 2 (.tup (.cons false (.var 6) (.cons false (.bi .tuple (.cons false (.call 15 (.cons false (.var 0) (.cons false (.rng (.int 0) (.bi .len (.cons false (.var 3) (.nil))) 1) (.nil)))) (.nil))) (.nil))))) (.nil)))) (.cons (.frz 2) (.cons (.ret (.bi .tuple (.cons false (.var 2) (.nil)))) (.nil))))
def d__law_rules : DD := ⟨.glo "_law_rules", "_law_rules", "_law_rules", defArgs s__law_rules, defBody s__law_rules, defScope s__law_rules, ["_law_box_here", "_law_tree_so", "_law_found", "_law_members_so", "_law_up_so", "_law_spot_so", "_law_kind_so"], ["_law_box_here", "_law_tree_so"], [], b__law_rules⟩
theorem bd__law_rules : DBind d__law_rules := ⟨fun _ _ _ _ _ _ _ us hl => match us, hl with | [_, _], _ => rfl, fun h => absurd rfl h⟩
abbrev s__law_is_so : Stmt := top 36
def b__law_is_so : CSs := .cons (.ite (.or (.not (.isi (.var 1) [.tuple])) (.cmp .ne (.bi .len (.cons false (.var 1) (.nil))) (.bi .len (.cons false (.var 0) (.nil))))) (.cons (.ret (.bl false)) (.nil)) (.nil)) (.cons (.for (.tp [(.nm 2), (.nm 3)]) (.zip (.var 1) (.var 0)) (.cons (.ite (.or (.not (.isi (.var 2) [.tuple])) (.or (.cmp .ne (.bi .len (.cons false (.var 2) (.nil))) (.int 2)) (.cmp .notin (.ix (.var 2) (.int 0)) (.lst (.cons false (.str [102, 105, 114, 115, 116]) (.cons false (.str [116, 117, 114, 110, 115]) (.cons false (.str [108, 97, 115, 116]) (.cons false (.str [108, 111, 110, 103]) (.cons false (.str [111, 108, 100]) (.nil)))))))))) (.cons (.ret (.bl false)) (.nil)) (.nil)) (.cons (.ite (.or (.not (.isi (.ix (.var 2) (.int 1)) [.tuple])) (.cmp .ne (.comp (.var 4) (.one (.mk (.nm 4) (.seq (.ix (.var 2) (.int 1))) (.cons false (.or (.isi (.var 4) [.bool]) (.not (.isi (.var 4) [.int]))) (.nil)))) [("_law_k", 4)]) (.lst (.nil)))) (.cons (.ret (.bl false)) (.nil)) (.nil)) (.cons (.ite (.cmp .ne (.bi .sorted (.cons false (.ix (.var 2) (.int 1)) (.nil))) (.rng (.int 0) (.bi .len (.cons false (.ix (.var 3) (.int 0)) (.nil))) 1)) (.cons (.ret (.bl false)) (.nil)) (.nil)) (.nil))))) (.cons (.ret (.bl true)) (.nil)))
def d__law_is_so : DD := ⟨.glo "_law_is_so", "_law_is_so", "_law_is_so", defArgs s__law_is_so, defBody s__law_is_so, defScope s__law_is_so, ["_law_gates_so", "_law_thing_so", "_law_own", "_law_row_so", "_law_k"], ["_law_gates_so", "_law_thing_so"], [], b__law_is_so⟩
theorem bd__law_is_so : DBind d__law_is_so := ⟨fun _ _ _ _ _ _ _ us hl => match us, hl with | [_, _], _ => rfl, fun h => absurd rfl h⟩
abbrev s__law_by_hand_right : Stmt := top 37
def b__law_by_hand_right : CSs := .cons (.par [.v 0 (.new 0 (.cons false (.tup (.cons false (.tup (.cons false (.str [97]) (.cons false (.str [98]) (.nil)))) (.cons false (.str [99]) (.nil)))) (.nil))), .v 1 (.new 0 (.cons false (.tup (.cons false (.str [97]) (.nil))) (.nil)))]) (.cons (.set (.nm 2) (.lst (.cons false (.tup (.cons false (.tup (.cons false (.str [102, 105, 114, 115, 116]) (.cons false (.tup (.cons false (.int 0) (.cons false (.int 1) (.nil)))) (.nil)))) (.cons false (.tup (.cons false (.str [116, 117, 114, 110, 115]) (.cons false (.tup (.cons false (.int 1) (.cons false (.int 0) (.nil)))) (.nil)))) (.nil)))) (.cons false (.tup (.cons false (.tup (.cons false (.str [111, 108, 100]) (.cons false (.tup (.cons false (.int 1) (.cons false (.int 0) (.nil)))) (.nil)))) (.cons false (.tup (.cons false (.str [108, 111, 110, 103]) (.cons false (.tup (.cons false (.int 0) (.cons false (.int 1) (.nil)))) (.nil)))) (.nil)))) (.cons false (.bin .mul (.tup (.cons false (.tup (.cons false (.str [108, 97, 115, 116]) (.cons false (.tup (.cons false (.int 0) (.cons false (.int 1) (.nil)))) (.nil)))) (.nil))) (.int 2)) (.nil)))))) (.cons (.own 3 (.lst (.cons false (.tup (.cons false (.tup (.cons false (.str [102, 105, 114, 115, 116]) (.cons false (.tup (.cons false (.int 0) (.cons false (.int 1) (.nil)))) (.nil)))) (.nil))) (.cons false (.bin .mul (.tup (.cons false (.tup (.cons false (.str [102, 105, 114, 115, 116]) (.cons false (.tup (.cons false (.int 0) (.cons false (.int 1) (.nil)))) (.nil)))) (.nil))) (.int 3)) (.cons false (.tup (.cons false (.tup (.cons false (.str [102, 105, 114, 115, 116]) (.cons false (.tup (.cons false (.int 0) (.cons false (.int 1) (.nil)))) (.nil)))) (.cons false (.tup (.cons false (.str [116, 117, 114, 110, 115]) (.cons false (.tup (.cons false (.int 1) (.cons false (.int 1) (.nil)))) (.nil)))) (.nil)))) (.cons false (.tup (.nil)) (.cons false (.non) (.nil)))))))) (.cons (.frz 3) (.cons (.own 3 (.add (.var 3) (.lst (.cons false (.str [102, 105, 114, 115, 116]) (.cons false (.int 0) (.nil)))))) (.cons (.frz 3) (.cons (.own 3 (.add (.var 3) (.lst (.cons false (.lst (.cons false (.tup (.cons false (.str [102, 105, 114, 115, 116]) (.cons false (.tup (.cons false (.int 0) (.cons false (.int 1) (.nil)))) (.nil)))) (.cons false (.tup (.cons false (.str [116, 117, 114, 110, 115]) (.cons false (.tup (.cons false (.int 1) (.cons false (.int 0) (.nil)))) (.nil)))) (.nil)))) (.cons false (.tup (.cons false (.lst (.cons false (.str [102, 105, 114, 115, 116]) (.cons false (.tup (.cons false (.int 0) (.cons false (.int 1) (.nil)))) (.nil)))) (.cons false (.tup (.cons false (.str [116, 117, 114, 110, 115]) (.cons false (.tup (.cons false (.int 1) (.cons false (.int 0) (.nil)))) (.nil)))) (.nil)))) (.nil)))))) (.cons (.frz 3) (.cons (.own 3 (.add (.var 3) (.lst (.cons false (.tup (.cons false (.tup (.cons false (.str [102, 105, 114, 115, 116]) (.cons false (.lst (.cons false (.int 0) (.cons false (.int 1) (.nil)))) (.nil)))) (.cons false (.tup (.cons false (.str [116, 117, 114, 110, 115]) (.cons false (.tup (.cons false (.int 1) (.cons false (.int 0) (.nil)))) (.nil)))) (.nil)))) (.cons false (.tup (.cons false (.tup (.cons false (.str [70, 105, 114, 115, 116]) (.cons false (.tup (.cons false (.int 0) (.cons false (.int 1) (.nil)))) (.nil)))) (.cons false (.tup (.cons false (.str [116, 117, 114, 110, 115]) (.cons false (.tup (.cons false (.int 1) (.cons false (.int 0) (.nil)))) (.nil)))) (.nil)))) (.nil)))))) (.cons (.frz 3) (.cons (.own 3 (.add (.var 3) (.lst (.cons false (.tup (.cons false (.tup (.cons false (.str [102, 105, 114, 115, 116]) (.cons false (.tup (.cons false (.int 0) (.cons false (.bl true) (.nil)))) (.nil)))) (.cons false (.tup (.cons false (.str [116, 117, 114, 110, 115]) (.cons false (.tup (.cons false (.int 1) (.cons false (.int 0) (.nil)))) (.nil)))) (.nil)))) (.cons false (.tup (.cons false (.tup (.cons false (.str [102, 105, 114, 115, 116]) (.cons false (.tup (.cons false (.int 0) (.cons false (.int 1) (.cons false (.int 2) (.nil))))) (.nil)))) (.cons false (.tup (.cons false (.str [116, 117, 114, 110, 115]) (.cons false (.tup (.cons false (.int 1) (.cons false (.int 0) (.nil)))) (.nil)))) (.nil)))) (.nil)))))) (.cons (.frz 3) (.cons (.own 3 (.add (.var 3) (.lst (.cons false (.tup (.cons false (.tup (.cons false (.str [102, 105, 114, 115, 116]) (.cons false (.tup (.cons false (.int 0) (.nil))) (.nil)))) (.cons false (.tup (.cons false (.str [116, 117, 114, 110, 115]) (.cons false (.tup (.cons false (.int 1) (.cons false (.int 0) (.nil)))) (.nil)))) (.nil)))) (.cons false (.tup (.cons false (.tup (.cons false (.str [102, 105, 114, 115, 116]) (.cons false (.tup (.cons false (.int 0) (.cons false (.str [49]) (.nil)))) (.nil)))) (.cons false (.tup (.cons false (.str [116, 117, 114, 110, 115]) (.cons false (.tup (.cons false (.int 1) (.cons false (.int 0) (.nil)))) (.nil)))) (.nil)))) (.nil)))))) (.cons (.frz 3) (.cons (.own 3 (.add (.var 3) (.lst (.cons false (.tup (.cons false (.tup (.cons false (.str [102, 105, 114, 115, 116]) (.cons false (.tup (.cons false (.int 0) (.cons false (.int 1) (.nil)))) (.cons false (.int 0) (.nil))))) (.cons false (.tup (.cons false (.str [116, 117, 114, 110, 115]) (.cons false (.tup (.cons false (.int 1) (.cons false (.int 0) (.nil)))) (.nil)))) (.nil)))) (.cons false (.tup (.cons false (.tup (.cons false (.str [102, 105, 114, 115, 116]) (.nil))) (.cons false (.tup (.cons false (.str [116, 117, 114, 110, 115]) (.cons false (.tup (.cons false (.int 1) (.cons false (.int 0) (.nil)))) (.nil)))) (.nil)))) (.nil)))))) (.cons (.app 3 (.bin .mul (.tup (.cons false (.tup (.cons false (.str [102, 105, 114, 115, 116]) (.cons false (.tup (.cons false (.int 0) (.cons false (.neg (.int 1)) (.nil)))) (.nil)))) (.nil))) (.int 2))) (.cons (.frz 3) (.cons (.own 3 (.add (.var 3) (.lst (.cons false (.tup (.cons false (.tup (.cons false (.non) (.cons false (.tup (.cons false (.int 0) (.cons false (.int 1) (.nil)))) (.nil)))) (.cons false (.tup (.cons false (.str [116, 117, 114, 110, 115]) (.cons false (.tup (.cons false (.int 1) (.cons false (.int 0) (.nil)))) (.nil)))) (.nil)))) (.cons false (.tup (.cons false (.tup (.cons false (.lst (.cons false (.str [102, 105, 114, 115, 116]) (.nil))) (.cons false (.tup (.cons false (.int 0) (.cons false (.int 1) (.nil)))) (.nil)))) (.cons false (.tup (.cons false (.str [116, 117, 114, 110, 115]) (.cons false (.tup (.cons false (.int 1) (.cons false (.int 0) (.nil)))) (.nil)))) (.nil)))) (.nil)))))) (.cons (.app 3 (.bin .mul (.tup (.cons false (.tup (.cons false (.str [102, 105, 114, 115, 116]) (.cons false (.int 0) (.nil)))) (.nil))) (.int 2))) (.cons (.frz 3) (.cons (.own 3 (.add (.var 3) (.lst (.cons false (.tup (.cons false (.tup (.cons false (.str [102, 105, 114, 115, 116]) (.cons false (.tup (.cons false (.int 0) (.cons false (.non) (.nil)))) (.nil)))) (.cons false (.tup (.cons false (.str [116, 117, 114, 110, 115]) (.cons false (.tup (.cons false (.int 1) (.cons false (.int 0) (.nil)))) (.nil)))) (.nil)))) (.cons false (.tup (.cons false (.tup (.cons false (.str [102, 105, 114, 115, 116]) (.cons false (.tup (.cons false (.int 0) (.cons false (.tup (.cons false (.int 1) (.nil))) (.nil)))) (.nil)))) (.cons false (.tup (.cons false (.str [116, 117, 114, 110, 115]) (.cons false (.tup (.cons false (.int 1) (.cons false (.int 0) (.nil)))) (.nil)))) (.nil)))) (.nil)))))) (.cons (.app 3 (.bl true)) (.cons (.frz 3) (.cons (.own 3 (.add (.var 3) (.lst (.cons false (.tup (.cons false (.str [102, 105, 114, 115, 116]) (.cons false (.tup (.cons false (.int 0) (.cons false (.int 1) (.nil)))) (.nil)))) (.cons false (.tup (.cons false (.tup (.cons false (.str [102, 105, 114, 115, 116]) (.cons false (.str [48, 49]) (.nil)))) (.cons false (.tup (.cons false (.str [116, 117, 114, 110, 115]) (.cons false (.tup (.cons false (.int 1) (.cons false (.int 0) (.nil)))) (.nil)))) (.nil)))) (.nil)))))) (.cons (.app 3 (.tup (.cons false (.tup (.cons false (.tup (.cons false (.str [102, 105, 114, 115, 116]) (.cons false (.tup (.cons false (.int 0) (.cons false (.int 1) (.nil)))) (.nil)))) (.nil))) (.cons false (.tup (.cons false (.str [116, 117, 114, 110, 115]) (.cons false (.tup (.cons false (.int 1) (.cons false (.int 0) (.nil)))) (.nil)))) (.nil))))) (.cons (.frz 3) (.cons (.set (.nm 4) (.bin .add (.comp (.call 8 (.cons false (.var 0) (.cons false (.var 5) (.nil)))) (.one (.mk (.nm 5) (.seq (.bin .add (.var 2) (.var 3))) (.nil))) [("_law_own", 5)]) (.lst (.cons false (.callk 8 0 ["thing", "plan"] [1, 0] (.nil) (.cons false (.ix (.var 2) (.int 0)) (.cons false (.var 0) (.nil)))) (.nil))))) (.cons (.set (.nm 4) (.bin .add (.var 4) (.comp (.call 8 (.cons false (.var 1) (.cons false (.tup (.cons false (.tup (.cons false (.str [108, 111, 110, 103]) (.cons false (.var 6) (.nil)))) (.nil))) (.nil)))) (.one (.mk (.nm 6) (.seq (.tup (.cons false (.tup (.cons false (.int 0) (.nil))) (.cons false (.tup (.cons false (.int 1) (.nil))) (.cons false (.tup (.nil)) (.nil)))))) (.nil))) [("_law_way_so", 6)]))) (.cons (.ret (.call 14 (.cons false (.var 4) (.cons false (.bin .add (.bin .add (.bin .mul (.lst (.cons false (.bl true) (.nil))) (.bi .len (.cons false (.var 2) (.nil)))) (.bin .mul (.lst (.cons false (.bl false) (.nil))) (.pkl 3))) (.lst (.cons false (.bl true) (.cons false (.bl true) (.cons false (.bl false) (.cons false (.bl false) (.nil))))))) (.nil))))) (.nil)))))))))))))))))))))))))))))
def d__law_by_hand_right : DD := ⟨.glo "_law_by_hand_right", "_law_by_hand_right", "_law_by_hand_right", defArgs s__law_by_hand_right, defBody s__law_by_hand_right, defScope s__law_by_hand_right, ["_law_host", "_law_one_so", "_law_good_so", "_law_bad_so", "_law_got", "_law_own", "_law_way_so"], [], [], b__law_by_hand_right⟩
theorem bd__law_by_hand_right : DBind d__law_by_hand_right := ⟨fun _ _ _ _ _ _ _ us hl => match us, hl with | [], _ => rfl, fun h => absurd rfl h⟩
abbrev s__law_bent : Stmt := top 38
def b__law_bent : CSs := .cons (.set (.nm 2) (.call 10 (.cons false (.var 0) (.cons false (.bi .len (.cons false (.var 1) (.nil))) (.nil))))) (.cons (.set (.tp [(.nm 3), (.nm 4)]) (.ix (.var 1) (.var 2))) (.cons (.par [.v 5 (.call 10 (.cons false (.var 0) (.cons false (.bi .len (.cons false (.var 4) (.nil))) (.nil)))), .v 6 (.call 12 (.cons false (.var 0) (.cons false (.lst (.cons false (.int 0) (.cons false (.int 1) (.cons false (.int 2) (.cons false (.int 9) (.cons false (.neg (.int 1)) (.cons false (.bl true) (.cons false (.non) (.cons false (.str [48]) (.cons false (.tup (.cons false (.int 0) (.nil))) (.nil))))))))))) (.nil))))]) (.cons (.set (.nm 7) (.lst (.cons false (.tup (.cons false (.var 3) (.cons false (.bin .add (.bin .add (.sl (.var 4) (.no) (.so (.var 5))) (.tup (.cons false (.var 6) (.nil)))) (.sl (.var 4) (.so (.bin .add (.var 5) (.int 1))) (.no))) (.nil)))) (.cons false (.tup (.cons false (.var 3) (.cons false (.bin .add (.var 4) (.tup (.cons false (.var 6) (.nil)))) (.nil)))) (.nil))))) (.cons (.set (.nm 7) (.bin .add (.var 7) (.lst (.cons false (.tup (.cons false (.var 3) (.cons false (.sl (.var 4) (.no) (.so (.neg (.int 1)))) (.nil)))) (.cons false (.tup (.cons false (.var 3) (.cons false (.bi .list (.cons false (.var 4) (.nil))) (.nil)))) (.cons false (.lst (.cons false (.var 3) (.cons false (.var 4) (.nil)))) (.cons false (.tup (.cons false (.var 3) (.cons false (.rev (.var 4)) (.nil)))) (.nil)))))))) (.cons (.set (.nm 7) (.bin .add (.var 7) (.lst (.cons false (.tup (.cons false (.call 12 (.cons false (.var 0) (.cons false (.lst (.cons false (.str [102, 105, 114, 115, 116, 115]) (.cons false (.str []) (.cons false (.str [111, 108, 100]) (.cons false (.str [116, 117, 114, 110]) (.cons false (.non) (.cons false (.int 1) (.cons false (.str [76, 111, 110, 103]) (.nil))))))))) (.nil)))) (.cons false (.var 4) (.nil)))) (.cons false (.tup (.cons false (.var 4) (.cons false (.var 3) (.nil)))) (.nil)))))) (.cons (.set (.nm 8) (.bin .add (.bin .add (.sl (.var 1) (.no) (.so (.var 2))) (.tup (.cons false (.call 12 (.cons false (.var 0) (.cons false (.var 7) (.nil)))) (.nil)))) (.sl (.var 1) (.so (.bin .add (.var 2) (.int 1))) (.no)))) (.cons (.ret (.call 12 (.cons false (.var 0) (.cons false (.lst (.cons false (.var 8) (.cons false (.var 8) (.cons false (.var 8) (.cons false (.bin .add (.var 8) (.sl (.var 1) (.no) (.so (.int 1)))) (.cons false (.sl (.var 1) (.so (.int 1)) (.no)) (.cons false (.bi .list (.cons false (.var 1) (.nil))) (.nil)))))))) (.nil))))) (.nil))))))))
def d__law_bent : DD := ⟨.glo "_law_bent", "_law_bent", "_law_bent", defArgs s__law_bent, defBody s__law_bent, defScope s__law_bent, ["_law_box_here", "_law_rules_so", "_law_k", "_law_kind_so", "_law_way_so", "_law_spot_so", "_law_odd", "_law_fresh_so", "_law_parts_so"], ["_law_box_here", "_law_rules_so"], [], b__law_bent⟩
theorem bd__law_bent : DBind d__law_bent := ⟨fun _ _ _ _ _ _ _ us hl => match us, hl with | [_, _], _ => rfl, fun h => absurd rfl h⟩
abbrev s__law_right : Stmt := top 39
def b__law_right : CSs := .cons (.for (.nm 1) (.rng (.int 0) (.int 8) 1) (.cons (.set (.nm 2) (.call 19 (.cons false (.var 0) (.cons false (.int 5) (.nil))))) (.cons (.par [.v 3 (.call 17 (.cons false (.var 2) (.cons false (.neg (.int 1)) (.cons false (.neg (.int 1)) (.cons false (.shr (.lst (.nil))) (.nil)))))), .v 4 (.call 20 (.cons false (.var 2) (.nil))), .v 5 (.call 21 (.cons false (.var 0) (.cons false (.var 2) (.nil))))]) (.cons (.ite (.not (.call 14 (.cons false (.lst (.cons false (.call 8 (.cons false (.var 4) (.cons false (.var 5) (.nil)))) (.cons false (.call 8 (.cons false (.var 4) (.cons false (.call 13 (.cons false (.var 5) (.nil))) (.nil)))) (.nil)))) (.cons false (.lst (.cons false (.bl true) (.cons false (.bl false) (.nil)))) (.nil))))) (.cons (.ret (.bl false)) (.nil)) (.nil)) (.cons (.for (.nm 6) (.rng (.int 0) (.int 6) 1) (.cons (.set (.nm 7) (.call 24 (.cons false (.var 0) (.cons false (.var 5) (.nil))))) (.cons (.ite (.not (.call 14 (.cons false (.call 8 (.cons false (.var 4) (.cons false (.var 7) (.nil)))) (.cons false (.call 22 (.cons false (.var 3) (.cons false (.var 7) (.nil)))) (.nil))))) (.cons (.ret (.bl false)) (.nil)) (.nil)) (.nil)))) (.nil)))))) (.cons (.ret (.bl true)) (.nil))
def d__law_right : DD := ⟨.glo "_law_right", "_law_right", "_law_right", defArgs s__law_right, defBody s__law_right, defScope s__law_right, ["_law_box_here", "_law_turn", "_law_tree_so", "_law_gates_so", "_law_host", "_law_rules_so", "_law_lap", "_law_bent_so"], ["_law_box_here"], [], b__law_right⟩
theorem bd__law_right : DBind d__law_right := ⟨fun _ _ _ _ _ _ _ us hl => match us, hl with | [_], _ => rfl, fun h => absurd rfl h⟩
abbrev s_law : Stmt := top 40
def b_law : CSs := .cons (.ite (.not (.call 23 (.nil))) (.cons (.ret (.bl false)) (.nil)) (.nil)) (.cons (.set (.nm 1) (.call 11 (.cons false (.var 0) (.cons false (.int 3) (.nil))))) (.cons (.ret (.bi .all (.cons false (.comp (.call 25 (.cons false (.call 9 (.cons false (.var 1) (.cons false (.var 2) (.nil)))) (.nil))) (.one (.mk (.nm 2) (.rng (.int 0) (.bi .len (.cons false (.var 1) (.nil))) 1) (.nil))) [("_law_k", 2)]) (.nil)))) (.nil)))
def d_law : DD := ⟨.glo "law", "law", "law", defArgs s_law, defBody s_law, defScope s_law, ["_law_script", "_law_cells_here", "_law_k"], ["_law_script"], [], b_law⟩
theorem bd_law : DBind d_law := ⟨fun _ _ _ _ _ _ _ us hl => match us, hl with | [_], _ => rfl, fun h => absurd rfl h⟩
abbrev s_Plan_init : Stmt := inClass (top 11) 0
def b_Plan_init : CSs := .cons (.setf "own_tree" (.call 1 (.cons false (.var 1) (.nil)))) (.cons (.setf "own_gates" (.call 2 (.cons false (.pkf 0 "own_tree") (.nil)))) (.cons (.ite (.cmp .isin (.tup (.nil)) (.pkf 0 "own_gates")) (.cons (.never) (.nil)) (.nil)) (.cons (.set (.nm 2) (.call 3 (.cons false (.pkf 0 "own_tree") (.nil)))) (.cons (.for (.tp [(.nm 3), (.nm 4)]) (.enum (.var 2)) (.cons (.ite (.cmp .isin (.var 4) (.sl (.var 2) (.no) (.so (.var 3)))) (.cons (.never) (.nil)) (.nil)) (.nil))) (.cons (.setf "own_lanes" (.bi .tuple (.cons false (.bi .sorted (.cons false (.var 2) (.nil))) (.nil)))) (.cons (.setf "own_above" (.dcomp (.var 7) (.var 5) (.two (.mk (.tp [(.nm 5), (.nm 6)]) (.enum (.pkf 0 "own_gates")) (.nil)) (.one (.mk (.nm 7) (.seq (.var 6)) (.nil)))) [("gate", 5), ("members", 6), ("one", 7)])) (.nil)))))))
def d_Plan_init : DD := ⟨.mem "Plan" "__init__", "__init__", "Plan.__init__", defArgs s_Plan_init, defBody s_Plan_init, defScope s_Plan_init, ["self", "tree", "names", "place", "name", "gate", "members", "one"], ["self", "tree"], [], b_Plan_init⟩
theorem bd_Plan_init : DBind d_Plan_init := ⟨fun _ _ _ _ _ _ _ us hl => match us, hl with | [_, _], _ => rfl, fun h => absurd rfl h⟩
def c_Plan : CD := ⟨"Plan", d_Plan_init, ["own_tree", "own_gates", "own_lanes", "own_above"], [("check_gate", 5), ("members", 6)], [("gates", 4)]⟩
def D : PD where
  defs := ([d_is_number, d_as_tree, d_gates_in, d_lanes_in, d_Plan_gates, d_Plan_check_gate, d_Plan_members, d_is_rule, d_is_rules, d__law_box, d__law_take, d__law_cells, d__law_of, d__law_lists, d__law_same, d__law_mixed, d__law_names, d__law_read, d__law_tree, d__law_plan] : List DD) ++ ([d__law_plan_host, d__law_rules, d__law_is_so, d__law_by_hand_right, d__law_bent, d__law_right, d_law] : List DD)
  d0 := d_law
  clss := [c_Plan]
  c0 := c_Plan
  globs := [("PAIR", .int (2)), ("KINDS", .tup [.str [102, 105, 114, 115, 116], .str [116, 117, 114, 110, 115], .str [108, 97, 115, 116], .str [108, 111, 110, 103], .str [111, 108, 100]])]
  gn := ([("is_number", .fn 0), ("as_tree", .fn 1), ("gates_in", .fn 2), ("lanes_in", .fn 3), ("is_rule", .fn 7), ("is_rules", .fn 8), ("_law_box", .fn 9), ("_law_take", .fn 10), ("_law_cells", .fn 11), ("_law_of", .fn 12), ("_law_lists", .fn 13), ("_law_same", .fn 14), ("_law_mixed", .fn 15), ("_law_names", .fn 16), ("_law_read", .fn 17), ("_law_tree", .fn 18), ("_law_plan", .fn 19), ("_law_plan_host", .fn 20), ("_law_rules", .fn 21), ("_law_is_so", .fn 22)] : List (Str × Gn)) ++ ([("_law_by_hand_right", .fn 23), ("_law_bent", .fn 24), ("_law_right", .fn 25), ("law", .fn 26), ("Plan", .cls 0), ("PAIR", .con 0), ("KINDS", .con 1), ("abs", .blt), ("all", .blt), ("bool", .blt), ("enumerate", .blt), ("int", .blt), ("isinstance", .blt), ("len", .blt), ("list", .blt), ("range", .blt), ("sorted", .blt), ("str", .blt), ("tuple", .blt), ("zip", .blt)] : List (Str × Gn))
  kb := [(8, 0, ["thing", "plan"], [1, 0])]
  W := 1000
def iLaw : Nat := 26
-- fn 0 is_number
-- fn 1 as_tree
-- fn 2 gates_in
-- fn 3 lanes_in
-- fn 7 is_rule
-- fn 8 is_rules
-- fn 9 _law_box
-- fn 10 _law_take
-- fn 11 _law_cells
-- fn 12 _law_of
-- fn 13 _law_lists
-- fn 14 _law_same
-- fn 15 _law_mixed
-- fn 16 _law_names
-- fn 17 _law_read
-- fn 18 _law_tree
-- fn 19 _law_plan
-- fn 20 _law_plan_host
-- fn 21 _law_rules
-- fn 22 _law_is_so
-- fn 23 _law_by_hand_right
-- fn 24 _law_bent
-- fn 25 _law_right
-- fn 26 law
theorem pb : PBind D where
  ds := by
    intro d hd
    simp only [PD.alld, D, List.map_cons, List.map_nil, List.cons_append, List.nil_append, List.mem_cons, List.not_mem_nil, or_false] at hd
    rcases hd with rfl | rfl | rfl | rfl | rfl | rfl | rfl | rfl | rfl | rfl | rfl | rfl | rfl | rfl | rfl | rfl | rfl | rfl | rfl | rfl | rfl | rfl | rfl | rfl | rfl | rfl | rfl | rfl | rfl | rfl
    · exact bd_law
    · exact bd_is_number
    · exact bd_as_tree
    · exact bd_gates_in
    · exact bd_lanes_in
    · exact bd_Plan_gates
    · exact bd_Plan_check_gate
    · exact bd_Plan_members
    · exact bd_is_rule
    · exact bd_is_rules
    · exact bd__law_box
    · exact bd__law_take
    · exact bd__law_cells
    · exact bd__law_of
    · exact bd__law_lists
    · exact bd__law_same
    · exact bd__law_mixed
    · exact bd__law_names
    · exact bd__law_read
    · exact bd__law_tree
    · exact bd__law_plan
    · exact bd__law_plan_host
    · exact bd__law_rules
    · exact bd__law_is_so
    · exact bd__law_by_hand_right
    · exact bd__law_bent
    · exact bd__law_right
    · exact bd_law
    · exact bd_Plan_init
    · exact bd_Plan_init
  ci := by
    intro c hc
    simp only [PD.allc, D, List.mem_cons, List.not_mem_nil, or_false] at hc
    rcases hc with rfl | rfl <;> rfl
  kb := by
    intro q hq
    simp only [D, List.mem_cons, List.not_mem_nil, or_false] at hq
    rcases hq with rfl
    · exact ⟨rfl, fun _ _ _ _ _ _ us ws h1 h2 => match us, ws, h1, h2 with | [], [_, _], _, _ => rfl⟩
theorem md : ∀ d ∈ D.alld, ddC D d = true := List.all_eq_true.mp (by decide +kernel)
end K10
end
section
set_option Elab.async false
set_option linter.all false
set_option maxRecDepth 100000
set_option maxHeartbeats 0
namespace K10
open PySem PySem.Spec PyProof.Rows L2 GL
abbrev R : PySem.W.OpenRow := PySem.W.OpenLaw.row PySem.Challenge.rw_gatedlanes_k10_things_that_are_rules
abbrev hk : PySem.W.Hook := hookG 6 D
def ob (s : PySem.W.SharedT) : AlG := obG 6 D s
theorem ob_eq (s : PySem.W.SharedT) : ob s = hk.obs s.abs := obG_eq 6 D s
def loose : List PySem.Str := (["_wall", "Twice", "NoMembers", "NoLane", "NoGate", "is_number", "as_tree", "gates_in", "lanes_in", "Plan", "FIRST", "TURNS", "LAST", "LONG", "OLD", "KINDS", "PAIR", "is_rule", "is_rules", "_law_box", "_law_take", "_law_cells", "_law_of", "_law_lists", "_law_same", "_law_mixed", "_law_names", "_law_read", "_law_tree", "_law_plan"] : List PySem.Str) ++ (["_law_plan_host", "_law_rules", "_law_is_so", "_law_by_hand_right", "_law_bent", "_law_right"] : List PySem.Str)
theorem run (w : World) : HandSHeadRun.RunEq R (PySem.W.view R.prog [40]) hk ob 4000 loose w := by
  intro os
  kernel_rfl
end K10
end
section
set_option Elab.async false
set_option linter.all false
set_option maxRecDepth 100000
/-! The pure side: what a run gives, by what is asked of it. -/
namespace GL
open PySem (Str)
def wp {α : Type} (m : M α) (S : Sto) (Q : α → Sto → Prop) : Prop := match m S with
  | .ok a S' => Q a S'
  | _ => False
section
variable {α β : Type} {S : Sto} {Q : α → Sto → Prop}
@[simp] theorem wp_pure {a : α} : wp (pure a) S Q = Q a S := rfl
@[simp] theorem wp_mpure {a : α} : wp (M.pure a) S Q = Q a S := rfl
@[simp] theorem wp_bind {m : M β} {k : β → M α} : wp (m >>= k) S Q = wp m S (fun a S' => wp (k a) S' Q) := by
  unfold wp
  show (match M.bind m k S with | .ok a S' => Q a S' | _ => False) = _
  unfold M.bind
  cases m S <;> rfl
@[simp] theorem wp_getS {Q : Sto → Sto → Prop} : wp getS S Q = Q S S := rfl
@[simp] theorem wp_setS {T : Sto} {Q : Unit → Sto → Prop} : wp (setS T) S Q = Q () T := rfl
@[simp] theorem wp_some {a : α} : wp (M.opt (some a)) S Q = Q a S := rfl
@[simp] theorem wp_none : wp (M.opt (none : Option α)) S Q = False := rfl
theorem wp_opt {o : Option α} : wp (M.opt o) S Q = ∃ a, o = some a ∧ Q a S := by
  cases o <;> simp
@[simp] theorem wp_fail : wp (M.fail : M α) S Q = False := rfl
@[simp] theorem wp_chk {b : Bool} {Q : Unit → Sto → Prop} : wp (M.chk b) S Q = (b = true ∧ Q () S) := by
  cases b <;> simp [M.chk]
@[simp] theorem wp_nox {m : M α} : wp (M.nox m) S Q = wp m S Q := by
  unfold wp M.nox
  cases m S <;> rfl
theorem wp_mono {m : M α} {Q' : α → Sto → Prop} (h : wp m S Q) (i : ∀ a S', Q a S' → Q' a S') : wp m S Q' := by
  unfold wp at *
  cases e : m S with
  | ok a S' => rw [e] at h; exact i _ _ h
  | ex x S' => rw [e] at h; exact h.elim
  | bad => rw [e] at h; exact h.elim
theorem wp_cg {m : M α} {Q' : α → Sto → Prop} (h : ∀ a S', Q a S' = Q' a S') : wp m S Q = wp m S Q' := by
  rw [show Q = Q' from funext fun a => funext fun S' => h a S']
theorem wp_ok {m : M α} {a : α} {S' : Sto} (e : m S = .ok a S') (h : Q a S') : wp m S Q := by unfold wp; rw [e]; exact h
theorem wp_elim {m : M α} (h : wp m S Q) : ∃ a S', m S = .ok a S' ∧ Q a S' := by
  unfold wp at h
  cases e : m S with
  | ok a S' => rw [e] at h; exact ⟨a, S', rfl, h⟩
  | ex x S' => rw [e] at h; exact h.elim
  | bad => rw [e] at h; exact h.elim
theorem wp_if {b : Bool} {m n : M α} : wp (if b then m else n) S Q = if b then wp m S Q else wp n S Q := by cases b <;> rfl
theorem wp_ifp {p : Prop} [Decidable p] {m n : M α} : wp (if p then m else n) S Q = if p then wp m S Q else wp n S Q := by split <;> rfl
end
section
variable {S : Sto} {Q : DV → Sto → Prop} {i j : Int}
@[simp] theorem wp_add : wp (binD .add (.int i) (.int j)) S Q = Q (.int (i + j)) S := rfl
@[simp] theorem wp_sub : wp (binD .sub (.int i) (.int j)) S Q = Q (.int (i - j)) S := rfl
@[simp] theorem wp_mul : wp (binD .mul (.int i) (.int j)) S Q = (mulOk i j = true ∧ Q (.int (i * j)) S) := by
  unfold wp binD; by_cases h : mulOk i j = true <;> simp [h]
@[simp] theorem wp_fdiv : wp (binD .fdiv (.int i) (.int j)) S Q = ((0 < j ∧ j < 1073741824) ∧ Q (.int (i / j)) S) := by
  unfold wp binD; by_cases h : 0 < j ∧ j < 1073741824 <;> simp only [h, and_self, if_true, true_and, if_false, false_and]
@[simp] theorem wp_mod : wp (binD .mod (.int i) (.int j)) S Q = (0 < j ∧ Q (.int (i % j)) S) := by
  unfold wp binD; by_cases h : 0 < j <;> simp [h]
@[simp] theorem wp_addS {x y : List Nat} : wp (binD .add (.str x) (.str y)) S Q = (x.length + y.length ≤ LIM ∧ Q (.str (x ++ y)) S) := by
  unfold wp binD; by_cases h : x.length + y.length ≤ LIM <;> simp [h]
@[simp] theorem wp_addT {x y : List DV} : wp (binD .add (.tup x) (.tup y)) S Q = (x.length + y.length ≤ LIM ∧ Q (.tup (x ++ y)) S) := by
  unfold wp binD; by_cases h : x.length + y.length ≤ LIM <;> simp [h]
@[simp] theorem wp_addL {x y : List DV} : wp (binD .add (.lst x) (.lst y)) S Q = (x.length + y.length ≤ LIM ∧ Q (.lst (x ++ y)) S) := by
  unfold wp binD; by_cases h : x.length + y.length ≤ LIM <;> simp [h]
theorem wp_pow : wp (binD .pow (.int i) (.int j)) S Q = ((0 ≤ j ∧ j ≤ 1000000 ∧ i.natAbs < 2 ^ 64) ∧ Q (.int (i ^ j.toNat)) S) := by
  unfold wp binD; by_cases h : 0 ≤ j ∧ j ≤ 1000000 ∧ i.natAbs < 2 ^ 64 <;> simp only [h, and_self, if_true, true_and, if_false, false_and]
@[simp] theorem wp_eqI : wp (cmpD .eq (.int i) (.int j)) S Q = Q (.bl (i == j)) S := rfl
@[simp] theorem wp_neI : wp (cmpD .ne (.int i) (.int j)) S Q = Q (.bl (!(i == j))) S := rfl
@[simp] theorem wp_eqB {a b : Bool} : wp (cmpD .eq (.bl a) (.bl b)) S Q = Q (.bl (a == b)) S := rfl
@[simp] theorem wp_neB {a b : Bool} : wp (cmpD .ne (.bl a) (.bl b)) S Q = Q (.bl (!(a == b))) S := rfl
@[simp] theorem wp_lt : wp (cmpD .lt (.int i) (.int j)) S Q = Q (.bl (decide (i < j))) S := rfl
@[simp] theorem wp_le : wp (cmpD .le (.int i) (.int j)) S Q = Q (.bl (decide (i ≤ j))) S := rfl
@[simp] theorem wp_gt : wp (cmpD .gt (.int i) (.int j)) S Q = Q (.bl (decide (j < i))) S := rfl
@[simp] theorem wp_ge : wp (cmpD .ge (.int i) (.int j)) S Q = Q (.bl (decide (j ≤ i))) S := rfl
theorem wp_eqD {a b : DV} {Q : Bool → Sto → Prop} : wp (eqD a b) S Q = wp (M.opt (rsv S FU a)) S (fun x S' => wp (M.opt (rsv S FU b)) S' (fun y S' => Q (eqv x y) S')) := by
  unfold wp eqD
  cases rsv S FU a <;> cases rsv S FU b <;> rfl
theorem wp_eq {a b : DV} : wp (cmpD .eq a b) S Q = wp (M.opt (rsv S FU a)) S (fun x S' => wp (M.opt (rsv S FU b)) S' (fun y S' => Q (.bl (eqv x y)) S')) := by
  show wp (eqD a b >>= fun r => pure (.bl r)) S Q = _
  rw [wp_bind, wp_eqD]
  rfl
theorem wp_ne {a b : DV} : wp (cmpD .ne a b) S Q = wp (M.opt (rsv S FU a)) S (fun x S' => wp (M.opt (rsv S FU b)) S' (fun y S' => Q (.bl (!eqv x y)) S')) := by
  show wp (eqD a b >>= fun r => pure (.bl (!r))) S Q = _
  rw [wp_bind, wp_eqD]
  rfl
@[simp] theorem wp_isin {a b : DV} : wp (cmpD .isin a b) S Q = wp (inD a b) S (fun r S' => Q (.bl r) S') := by
  show wp (inD a b >>= fun r => pure (.bl r)) S Q = _
  rw [wp_bind]; rfl
@[simp] theorem wp_notin {a b : DV} : wp (cmpD .notin a b) S Q = wp (inD a b) S (fun r S' => Q (.bl (!r)) S') := by
  show wp (inD a b >>= fun r => pure (.bl (!r))) S Q = _
  rw [wp_bind]; rfl
@[simp] theorem wp_is {a : DV} : wp (cmpD .is a .non) S Q = Q (.bl (match a with | .non => true | _ => false)) S := rfl
theorem wp_inT {a : DV} {ys : List DV} {Q : Bool → Sto → Prop} : wp (inD a (.tup ys)) S Q = wp (M.opt (rsv S FU a)) S (fun x S => wp (M.opt (mapO (rsv S 59) ys)) S (fun zs S => Q (zs.any fun y => eqv y x) S)) := by
  have e : rsv S FU (.tup ys) = (mapO (rsv S 59) ys).map .tup := rfl
  have e2 : wp (inD a (.tup ys)) S Q = wp (match rsv S FU a, rsv S FU (.tup ys) with
    | some x, some (.lst ys) => (pure (ys.any fun y => eqv y x) : M Bool)
    | some x, some (.tup ys) => pure (ys.any fun y => eqv y x)
    | _, _ => M.fail) S Q := by
    unfold wp inD
    simp only []
    cases rsv S FU a with
    | none => rfl
    | some x =>
      rw [e]
      cases mapO (rsv S 59) ys <;> rfl
  rw [e2, e]
  cases rsv S FU a with
  | none => simp
  | some x => cases h : mapO (rsv S 59) ys <;> simp [h]
theorem wp_inL {a : DV} {ys : List DV} {Q : Bool → Sto → Prop} : wp (inD a (.lst ys)) S Q = wp (M.opt (rsv S FU a)) S (fun x S => wp (M.opt (mapO (rsv S 59) ys)) S (fun zs S => Q (zs.any fun y => eqv y x) S)) := by
  have e : rsv S FU (.lst ys) = (mapO (rsv S 59) ys).map .lst := rfl
  have e2 : wp (inD a (.lst ys)) S Q = wp (match rsv S FU a, rsv S FU (.lst ys) with
    | some x, some (.lst ys) => (pure (ys.any fun y => eqv y x) : M Bool)
    | some x, some (.tup ys) => pure (ys.any fun y => eqv y x)
    | _, _ => M.fail) S Q := by
    unfold wp inD
    simp only []
    cases rsv S FU a with
    | none => rfl
    | some x =>
      rw [e]
      cases mapO (rsv S 59) ys <;> rfl
  rw [e2, e]
  cases rsv S FU a with
  | none => simp
  | some x => cases h : mapO (rsv S 59) ys <;> simp [h]
@[simp] theorem wp_ixT {xs : List DV} : wp (ixD (.tup xs) (.int i)) S Q = wp (M.opt (atO xs i)) S Q := by
  unfold wp ixD
  simp only [seqOf]
  cases atO xs i <;> rfl
@[simp] theorem wp_ixL {xs : List DV} : wp (ixD (.lst xs) (.int i)) S Q = wp (M.opt (atO xs i)) S Q := by
  unfold wp ixD
  simp only [seqOf]
  cases atO xs i <;> rfl
@[simp] theorem wp_ixS {xs : List DV} : wp (ixD (.scr xs) (.int i)) S Q = wp (M.opt (atO xs i)) S Q := by
  unfold wp ixD
  simp only [seqOf]
  cases atO xs i <;> rfl
@[simp] theorem wp_ixX {x : List Nat} : wp (ixD (.str x) (.int i)) S Q = wp (M.opt (atO x i)) S (fun c S' => Q (.str [c]) S') := by
  unfold wp ixD
  simp only []
  cases atO x i <;> rfl
theorem wp_ixl {n : Nat} {xs : List DV} (h : S[n]? = some (.lst xs)) : wp (ixD (.loc n) (.int i)) S Q = wp (M.opt (atO xs i)) S Q := by
  unfold wp ixD
  simp only [seqOf, h]
  cases atO xs i <;> rfl
@[simp] theorem wp_slX {x : List Nat} {l h : Option Int} : wp (slI (.str x) l h) S Q = Q (.str (cut x l h)) S := rfl
@[simp] theorem wp_slT {x : List DV} {l h : Option Int} : wp (slI (.tup x) l h) S Q = Q (.tup (cut x l h)) S := rfl
@[simp] theorem wp_slL {x : List DV} {l h : Option Int} : wp (slI (.lst x) l h) S Q = Q (.lst (cut x l h)) S := rfl
@[simp] theorem wp_slS {x : List DV} {l h : Option Int} : wp (slI (.scr x) l h) S Q = Q (.lst (cut x l h)) S := rfl
/-! ### built-ins -/
@[simp] theorem wp_lenX {x : List Nat} : wp (biD .len [.str x]) S Q = Q (.int x.length) S := rfl
@[simp] theorem wp_lenT {x : List DV} : wp (biD .len [.tup x]) S Q = Q (.int x.length) S := rfl
@[simp] theorem wp_lenL {x : List DV} : wp (biD .len [.lst x]) S Q = Q (.int x.length) S := rfl
@[simp] theorem wp_lenS {x : List DV} : wp (biD .len [.scr x]) S Q = Q (.int x.length) S := rfl
theorem wp_lenl {n : Nat} {x : List DV} (h : S[n]? = some (.lst x)) : wp (biD .len [.loc n]) S Q = Q (.int x.length) S := by
  unfold wp biD
  simp only [seqOf, h]
@[simp] theorem wp_abs : wp (biD .abs [.int i]) S Q = Q (.int (if i < 0 then -i else i)) S := rfl
@[simp] theorem wp_int : wp (biD .int [.int i]) S Q = Q (.int i) S := rfl
@[simp] theorem wp_intB {b : Bool} : wp (biD .int [.bl b]) S Q = Q (.int (if b then 1 else 0)) S := rfl
@[simp] theorem wp_listT {x : List DV} : wp (biD .list [.tup x]) S Q = Q (.lst x) S := rfl
@[simp] theorem wp_listL {x : List DV} : wp (biD .list [.lst x]) S Q = Q (.lst x) S := rfl
@[simp] theorem wp_tupleT {x : List DV} : wp (biD .tuple [.tup x]) S Q = Q (.tup x) S := rfl
@[simp] theorem wp_tupleL {x : List DV} : wp (biD .tuple [.lst x]) S Q = Q (.tup x) S := rfl
theorem wp_sortedL {x : List DV} (h : sortOk x = true) : wp (biD .sorted [.lst x]) S Q = Q (.lst (sortD x)) S := by
  unfold wp biD; simp only [seqOf, h, if_true]
theorem wp_sortedT {x : List DV} (h : sortOk x = true) : wp (biD .sorted [.tup x]) S Q = Q (.lst (sortD x)) S := by
  unfold wp biD; simp only [seqOf, h, if_true]
theorem mapO_map {α β γ : Type} {f : β → Option γ} {g : α → β} {h : α → γ} (e : ∀ a, f (g a) = some (h a)) : ∀ l : List α, mapO f (l.map g) = some (l.map h)
  | [] => rfl
  | a :: l => by simp only [List.map_cons, mapO, e, mapO_map e l]
@[simp] theorem wp_all {x : List Bool} : wp (biD .all [.lst (x.map .bl)]) S Q = Q (.bl (x.all id)) S := by
  unfold wp biD
  simp only [lstOf, Option.bind_some, mapO_map (h := id) (f := blOf) (g := DV.bl) (fun a => rfl), List.map_id]
theorem wp_join {sep : List Nat} {x : List (List Nat)} : wp (bmD .join (.str sep) [.lst (x.map .str)]) S Q = ((x.map (·.length)).sum + x.length * sep.length ≤ LIM ∧ Q (.str (joinS sep x)) S) := by
  unfold wp bmD
  simp only [seqOf, Option.bind_some, mapO_map (h := id) (f := strOf) (g := DV.str) (fun a => rfl), List.map_id]
  by_cases h : (x.map (·.length)).sum + x.length * sep.length ≤ LIM <;> simp [h]
end
/-! ### tests -/
@[simp] theorem wp_tst {m : M DV} {S : Sto} {Q : Bool → Sto → Prop} : wp (tst m) S Q = wp m S (fun x S' => wp (M.opt (truth S' x)) S' Q) := by
  unfold tst
  rw [wp_bind]
  refine wp_cg fun x S' => ?_
  rw [wp_bind, wp_getS]
@[simp] theorem truth_bl {S : Sto} {b : Bool} : truth S (.bl b) = some b := rfl
@[simp] theorem truth_int {S : Sto} {i : Int} : truth S (.int i) = some (i != 0) := rfl
@[simp] theorem truth_lst {S : Sto} {x : List DV} : truth S (.lst x) = some (!x.isEmpty) := rfl
@[simp] theorem truth_tup {S : Sto} {x : List DV} : truth S (.tup x) = some (!x.isEmpty) := rfl
def locD : DV → Option Nat
  | .loc n => some n
  | _ => none
def lstD : DV → Option (List DV)
  | .lst xs => some xs
  | _ => none
def lstO : Option OV → Option (List DV)
  | some (.lst xs) => some xs
  | _ => none
@[simp] theorem locD_loc {n : Nat} : locD (.loc n) = some n := rfl
@[simp] theorem lstD_lst {xs : List DV} : lstD (.lst xs) = some xs := rfl
@[simp] theorem lstO_lst {xs : List DV} : lstO (some (.lst xs)) = some xs := rfl
/-! ### statements -/
structure PQ where
  nx : Env → Sto → Prop
  rt : DV → Sto → Prop
  bk : Env → Sto → Prop
  ct : Env → Sto → Prop
def ws (r : RS) (P : PQ) : Prop := match r with
  | .nx ρ S => P.nx ρ S
  | .rt d _ S => P.rt d S
  | .bk ρ S => P.bk ρ S
  | .ct ρ S => P.ct ρ S
  | _ => False
section
variable {K : Cl} {ρ : Env} {S : Sto} {P : PQ} {e : CE} {r : CSs}
@[simp] theorem ws_nx : ws (.nx ρ S) P = P.nx ρ S := rfl
@[simp] theorem ws_bad : ws .bad P = False := rfl
@[simp] theorem ws_lift {α : Type} {m : M α} {k : α → Sto → RS} : ws (liftE m ρ k S) P = wp m S (fun a S' => ws (k a S') P) := by
  unfold liftE wp
  cases m S <;> rfl
@[simp] theorem ws_nil : ws (evSs K .nil ρ S) P = P.nx ρ S := by simp only [evSs]; rfl
@[simp] theorem ws_cons {s : CS} : ws (evSs K (.cons s r) ρ S) P = ws (evS K s ρ S) { P with nx := fun ρ' S' => ws (evSs K r ρ' S') P } := by
  simp only [evSs]
  cases evS K s ρ S <;> rfl
@[simp] theorem ws_ex : ws (evS K (.ex e) ρ S) P = wp (evE K e ρ) S (fun _ S' => P.nx ρ S') := by simp only [evS, ws_lift]; rfl
@[simp] theorem ws_set {i : Nat} : ws (evS K (.set (.nm i) e) ρ S) P = wp (evE K e ρ) S (fun d S' => i < ρ.length ∧ P.nx (ρ.set i (.val d)) S') := by
  simp only [evS, ws_lift, asg]
  refine wp_cg fun d S' => ?_
  by_cases h : i < ρ.length <;> simp [h]
theorem ws_setT {t : CT} : ws (evS K (.set t e) ρ S) P = wp (evE K e ρ) S (fun d S' => wp (M.opt (asg t d ρ S')) S' P.nx) := by
  simp only [evS, ws_lift]
  refine wp_cg fun d S' => ?_
  cases asg t d ρ S' <;> rfl
@[simp] theorem ws_own {i : Nat} {f : CF} : ws (evS K (.own i f) ρ S) P = wp (evF K f ρ) S (fun o S' => i < ρ.length ∧ P.nx (ρ.set i (.own o)) S') := by
  simp only [evS, ws_lift]
  refine wp_cg fun d S' => ?_
  by_cases h : i < ρ.length <;> simp [h]
@[simp] theorem ws_ret : ws (evS K (.ret e) ρ S) P = wp (evE K e ρ) S P.rt := by simp only [evS, ws_lift]; rfl
@[simp] theorem ws_retn : ws (evS K .retn ρ S) P = P.rt .non S := by simp only [evS]; rfl
@[simp] theorem ws_ite {a b : CSs} : ws (evS K (.ite e a b) ρ S) P = wp (tst (evE K e ρ)) S (fun k S' => if k then ws (evSs K a ρ S') P else ws (evSs K b ρ S') P) := by
  simp only [evS, ws_lift]
  refine wp_cg fun k S' => ?_
  cases k <;> rfl
@[simp] theorem ws_par {ps : List CP} : ws (evS K (.par ps) ρ S) P = ((ps.map cpI).all (· < ρ.length) = true ∧ wp (evP K ps ρ) S (fun ds S' => P.nx (parE ds ρ) S')) := by
  simp only [evS]
  by_cases h : (ps.map cpI).all (· < ρ.length) = true
  · simp only [h, if_true, ws_lift, true_and]; rfl
  · simp only [h, Bool.false_eq_true, if_false, false_and]; rfl
theorem ws_frz {i : Nat} {o : OV} (h : ρ[i]? = some (.own o)) : ws (evS K (.frz i) ρ S) P = P.nx (ρ.set i (.val (frzO o))) S := by
  simp only [evS, h]; rfl
theorem ws_app {i : Nat} {xs : List DV} (h : ρ[i]? = some (.own (.lst xs))) : ws (evS K (.app i e) ρ S) P = wp (evE K e ρ) S (fun d S' => xs.length < LIM ∧ P.nx (ρ.set i (.own (.lst (xs ++ [d])))) S') := by
  simp only [evS, h, ws_lift]
  refine wp_cg fun d S' => ?_
  by_cases h : xs.length < LIM <;> simp [h]
theorem ws_extd {i : Nat} {xs : List DV} (h : ρ[i]? = some (.own (.lst xs))) : ws (evS K (.extd i e) ρ S) P = wp (evE K e ρ) S (fun d S' => wp (M.opt (lstD d)) S' (fun ys S' => xs.length + ys.length ≤ LIM ∧ P.nx (ρ.set i (.own (.lst (xs ++ ys)))) S')) := by
  simp only [evS, h, ws_lift]
  refine wp_cg fun d S' => ?_
  cases d <;> simp [lstD]
  rename_i ys
  by_cases h : xs.length + ys.length ≤ LIM <;> simp [h]
theorem ws_aug {i : Nat} {op : Bop} {x : DV} (h : sget ρ i = some x) : ws (evS K (.aug i op e) ρ S) P = wp (evE K e ρ) S (fun y S' => wp (augD op x y) S' (fun z S'' => P.nx (ρ.set i (.val z)) S'')) := by
  simp only [evS, h, ws_lift]
  refine wp_cg fun y S' => ?_
  try rw [ws_lift]
  rfl
@[simp] theorem wp_augI {i j : Int} {Q : DV → Sto → Prop} : wp (augD .add (.int i) (.int j)) S Q = Q (.int (i + j)) S := rfl
@[simp] theorem wp_augS {i j : Int} {Q : DV → Sto → Prop} : wp (augD .sub (.int i) (.int j)) S Q = Q (.int (i - j)) S := rfl
theorem ws_put {i : Nat} {k : CE} {o : OV} (h : ρ[i]? = some (.own o)) : ws (evS K (.put i k e) ρ S) P = wp (evE K e ρ) S (fun v S1 => wp (evE K k ρ) S1 (fun q S2 => wp (M.opt (putO o q v)) S2 (fun o' S2 => P.nx (ρ.set i (.own o')) S2))) := by
  simp only [evS, h, ws_lift]
  refine wp_cg fun v S1 => ?_
  try rw [ws_lift]
  refine wp_cg fun q S2 => ?_
  cases putO o q v <;> rfl
@[simp] theorem ws_sput {o k : CE} : ws (evS K (.sput o k e) ρ S) P = wp (evE K e ρ) S (fun v S1 => wp (evE K o ρ) S1 (fun a S2 => wp (evE K k ρ) S2 (fun q S3 => wp (M.opt (locD a)) S3 (fun n S3 => wp (M.opt S3[n]?) S3 (fun w S3 => wp (M.opt (putO w q v)) S3 (fun w' S3 => P.nx ρ (S3.set n w'))))))) := by
  simp only [evS, ws_lift]
  refine wp_cg fun v S1 => ?_
  try rw [ws_lift]
  refine wp_cg fun a S2 => ?_
  try rw [ws_lift]
  refine wp_cg fun q S3 => ?_
  cases a <;> simp [locD]
  rename_i n
  cases S3[n]? <;> simp
  rename_i w
  cases putO w q v <;> simp
@[simp] theorem ws_sapp {o : CE} : ws (evS K (.sapp o e) ρ S) P = wp (evE K o ρ) S (fun a S1 => wp (M.opt (locD a)) S1 (fun n S1 => wp (M.opt (lstO S1[n]?)) S1 (fun _ S1 => wp (evE K e ρ) S1 (fun v S2 => wp (M.opt (lstO S2[n]?)) S2 (fun xs S2 => xs.length < LIM ∧ P.nx ρ (S2.set n (.lst (xs ++ [v])))))))) := by
  simp only [evS, ws_lift]
  refine wp_cg fun a S1 => ?_
  cases a <;> simp [locD]
  rename_i n
  cases h1 : S1[n]? with
  | none => simp [lstO]
  | some w =>
    cases w with
    | dct _ _ => simp [lstO]
    | obj _ _ _ => simp [lstO]
    | lst ys =>
      simp [lstO]
      refine iff_of_eq ?_
      refine wp_cg fun v S2 => ?_
      cases h2 : S2[n]? with
      | none => simp
      | some w =>
        cases w with
        | dct _ _ => simp
        | obj _ _ _ => simp
        | lst xs =>
          by_cases h : xs.length < LIM <;> simp [h]
theorem ws_setf {f : Str} {c : Nat} {ns : List Str} {vs : List DV} (h : ρ[(0 : Nat)]? = some (.own (.obj c ns vs))) : ws (evS K (.setf f e) ρ S) P = wp (evE K e ρ) S (fun v S1 => (f ∈ K.T.flds c ∧ ns.length < 1000) ∧ P.nx (ρ.set 0 (.own (.obj c (fputK ns f) (fputV ns vs f v)))) S1) := by
  simp only [evS, h, ws_lift]
  refine wp_cg fun d S' => ?_
  by_cases h : f ∈ K.T.flds c ∧ ns.length < 1000 <;> simp only [h, and_self, if_true, true_and, if_false, false_and] <;> rfl
@[simp] theorem ws_brk : ws (evS K .brk ρ S) P = P.bk ρ S := by simp only [evS]; rfl
@[simp] theorem ws_cnt : ws (evS K .cnt ρ S) P = P.ct ρ S := by simp only [evS]; rfl
@[simp] theorem ws_pass : ws (evS K .pass ρ S) P = P.nx ρ S := by simp only [evS]; rfl
@[simp] theorem ws_for {t : CT} {i : CI} {b : CSs} : ws (evS K (.for t i b) ρ S) P = wp (evI K i ρ) S (fun w S' => ws (loopF t w (fun ρ' S'' => evSs K b ρ' S'') w.items ρ S') P) := by simp only [evS, ws_lift]
@[simp] theorem ws_whl {b : CSs} : ws (evS K (.whl e b) ρ S) P = ws (loopW (fun ρ' => tst (evE K e ρ')) (fun ρ' S' => evSs K b ρ' S') K.W ρ S) P := by simp only [evS]
theorem ws_mono {x : RS} {P' : PQ} (h : ws x P) (h1 : ∀ ρ S, P.nx ρ S → P'.nx ρ S) (h2 : ∀ ρ S, P.rt ρ S → P'.rt ρ S) (h3 : ∀ ρ S, P.bk ρ S → P'.bk ρ S) (h4 : ∀ ρ S, P.ct ρ S → P'.ct ρ S) : ws x P' := by
  cases x with
  | nx ρ S => exact h1 _ _ h
  | rt d ρ S => exact h2 _ _ h
  | bk ρ S => exact h3 _ _ h
  | ct ρ S => exact h4 _ _ h
  | ex d ρ S => exact h
  | bad => exact h
/-- a for by its invariant over what is left -/
theorem ws_loopF {t : CT} {w : Wk} {body : Env → Sto → RS} (I : List DV → Env → Sto → Prop) (h1 : ∀ x r ρ S, I (x :: r) ρ S → w.stays S = true ∧ ∃ ρ1, asg t x ρ S = some ρ1 ∧ ws (body ρ1 S) ⟨I r, P.rt, P.nx, I r⟩)
    (h0 : ∀ ρ S, I [] ρ S → w.stays S = true ∧ P.nx ρ S) : ∀ (xs : List DV) (ρ : Env) (S : Sto), I xs ρ S → ws (loopF t w body xs ρ S) P
  | [], ρ, S, h => by
    obtain ⟨a, b⟩ := h0 ρ S h
    simp only [loopF, a, if_true]
    exact b
  | x :: xs, ρ, S, h => by
    obtain ⟨a, ρ1, b, c⟩ := h1 x xs ρ S h
    simp only [loopF, a, if_true, b]
    cases e : body ρ1 S with
    | nx ρ' S' => rw [e] at c; exact ws_loopF I h1 h0 xs ρ' S' c
    | ct ρ' S' => rw [e] at c; exact ws_loopF I h1 h0 xs ρ' S' c
    | bk ρ' S' => rw [e] at c; exact c
    | rt d ρ' S' => rw [e] at c; exact c
    | ex d ρ' S' => rw [e] at c; exact c
    | bad => rw [e] at c; exact c
/-- a while by what it still can do -/
theorem ws_loopW {test : Env → M Bool} {body : Env → Sto → RS} (I : Nat → Env → Sto → Prop) (h : ∀ n ρ S, I n ρ S → wp (test ρ) S (fun k S1 => if k then ∃ m, n = m + 1 ∧ ws (body ρ S1) ⟨I m, P.rt, P.nx, I m⟩ else P.nx ρ S1)) :
    ∀ (n m : Nat) (ρ : Env) (S : Sto), I m ρ S → m < n → ws (loopW test body n ρ S) P
  | 0, m, ρ, S, _, h2 => absurd h2 (Nat.not_lt_zero _)
  | n + 1, m, ρ, S, hI, hm => by
    have h1 := h m ρ S hI
    simp only [loopW, ws_lift]
    refine wp_mono h1 fun k S1 q => ?_
    cases k with
    | false => simpa using q
    | true =>
      simp only [if_true] at q ⊢
      obtain ⟨m', rfl, c⟩ := q
      cases e : body ρ S1 with
      | nx ρ' S' => rw [e] at c; exact ws_loopW I h n m' ρ' S' c (by omega)
      | ct ρ' S' => rw [e] at c; exact ws_loopW I h n m' ρ' S' c (by omega)
      | bk ρ' S' => rw [e] at c; exact c
      | rt d ρ' S' => rw [e] at c; exact c
      | ex d ρ' S' => rw [e] at c; exact c
      | bad => rw [e] at c; exact c
/-- a comprehension's loop -/
theorem wp_lc {α : Type} {t : CT} {w : Wk} {body : Env → α → M α} {ρ : Env} {Q : α → Sto → Prop} (I : List DV → α → Sto → Prop) (h1 : ∀ x r acc S, I (x :: r) acc S → w.stays S = true ∧ ∃ ρ1, asg t x ρ S = some ρ1 ∧ wp (body ρ1 acc) S (I r))
    (h0 : ∀ acc S, I [] acc S → w.stays S = true ∧ Q acc S) : ∀ (xs : List DV) (acc : α) (S : Sto), I xs acc S → wp (lcLoop t w body xs ρ acc) S Q
  | [], acc, S, h => by
    obtain ⟨a, b⟩ := h0 acc S h
    unfold wp lcLoop
    simp only [a, if_true]
    exact b
  | x :: xs, acc, S, h => by
    obtain ⟨a, ρ1, b, c⟩ := h1 x xs acc S h
    have : wp (body ρ1 acc >>= fun acc' => lcLoop t w body xs ρ acc') S Q := by
      rw [wp_bind]
      exact wp_mono c fun acc' S' q => wp_lc I h1 h0 xs acc' S' q
    unfold wp lcLoop
    simp only [a, if_true, b]
    exact this
end
/-- a def's run -/
theorem wp_runD {K : Cl} {d : Df} {ds : List DV} {S : Sto} {Q : DV → Sto → Prop} (hl : ds.length ≤ d.slots) (h : ws (evSs K d.body (startE d ds) S) ⟨fun _ S' => Q .non S', Q, fun _ _ => False, fun _ _ => False⟩) : wp (runD K d ds) S Q := by
  unfold wp runD
  simp only [hl, if_true]
  cases e : evSs K d.body (startE d ds) S with
  | nx ρ' S' => rw [e] at h; exact h
  | ct ρ' S' => rw [e] at h; exact h.elim
  | bk ρ' S' => rw [e] at h; exact h.elim
  | rt d ρ' S' => rw [e] at h; exact h
  | ex d ρ' S' => rw [e] at h; exact h.elim
  | bad => rw [e] at h; exact h.elim
theorem wp_runI {K : Cl} {d : Df} {c : Nat} {ds : List DV} {S : Sto} {Q : DV → Sto → Prop} (hl : ds.length + 1 ≤ d.slots) (h : ws (evSs K d.body (.own (.obj c [] []) :: (startE ⟨d.slots - 1, d.body⟩ ds)) S) ⟨fun ρ S' => ∃ c' ns vs, ρ[(0 : Nat)]? = some (.own (.obj c' ns vs)) ∧ Q (.obj c' ns vs) S', fun _ _ => False, fun _ _ => False, fun _ _ => False⟩) : wp (runI K d c ds) S Q := by
  unfold wp runI
  simp only [hl, if_true]
  cases e : evSs K d.body (.own (.obj c [] []) :: (startE ⟨d.slots - 1, d.body⟩ ds)) S with
  | nx ρ' S' =>
    rw [e] at h
    obtain ⟨c', ns, vs, h1, h2⟩ := h
    simp only [h1]
    exact h2
  | ct ρ' S' => rw [e] at h; exact h.elim
  | bk ρ' S' => rw [e] at h; exact h.elim
  | rt d ρ' S' => rw [e] at h; exact h.elim
  | ex d ρ' S' => rw [e] at h; exact h.elim
  | bad => rw [e] at h; exact h.elim
end GL
end
section
set_option Elab.async false
set_option linter.all false
set_option maxRecDepth 100000
/-! Expressions, one step each. -/
namespace GL
open PySem (Str)
@[simp] theorem sget_z {d : DV} {ρ : Env} : sget (.val d :: ρ) 0 = some d := rfl
@[simp] theorem sget_s {x : Slot} {ρ : Env} {i : Nat} : sget (x :: ρ) (i + 1) = sget ρ i := by simp [sget]
section
variable {K : Cl} {ρ : Env} {S : Sto} {Q : DV → Sto → Prop} {a b c : CE} {es : CEs}
theorem wp_of {α : Type} {m m' : M α} (h : m = m') {Q : α → Sto → Prop} : wp m S Q = wp m' S Q := by rw [h]
@[simp] theorem ev_var {i : Nat} : wp (evE K (.var i) ρ) S Q = wp (M.opt (sget ρ i)) S Q := wp_of (by simp only [evE])
@[simp] theorem ev_int {i : Int} : wp (evE K (.int i) ρ) S Q = Q (.int i) S := (wp_of (by simp only [evE])).trans wp_pure
@[simp] theorem ev_bl {i : Bool} : wp (evE K (.bl i) ρ) S Q = Q (.bl i) S := (wp_of (by simp only [evE])).trans wp_pure
@[simp] theorem ev_non : wp (evE K .non ρ) S Q = Q .non S := (wp_of (by simp only [evE])).trans wp_pure
@[simp] theorem ev_str {x : List Nat} : wp (evE K (.str x) ρ) S Q = Q (.str x) S := (wp_of (by simp only [evE])).trans wp_pure
@[simp] theorem ev_gl {k : Nat} : wp (evE K (.gl k) ρ) S Q = Q (K.T.glob k) S := (wp_of (by simp only [evE])).trans wp_pure
@[simp] theorem ev_never : wp (evE K .never ρ) S Q = False := (wp_of (by simp only [evE])).trans wp_fail
@[simp] theorem ev_bin {op : Bop} : wp (evE K (.bin op a b) ρ) S Q = wp (evE K a ρ) S (fun x S => wp (evE K b ρ) S (fun y S => wp (binD op x y) S Q)) := by
  rw [wp_of (show evE K (.bin op a b) ρ = _ by simp only [evE]; rfl), wp_bind]
  refine wp_cg fun x S => ?_
  rw [wp_bind]
@[simp] theorem ev_cmp {op : Cop} : wp (evE K (.cmp op a b) ρ) S Q = wp (evE K a ρ) S (fun x S => wp (evE K b ρ) S (fun y S => wp (cmpD op x y) S Q)) := by
  rw [wp_of (show evE K (.cmp op a b) ρ = _ by simp only [evE]; rfl), wp_bind]
  refine wp_cg fun x S => ?_
  rw [wp_bind]
def negO : DV → Option Int
  | .int i => some i
  | _ => none
@[simp] theorem negO_int {i : Int} : negO (.int i) = some i := rfl
@[simp] theorem ev_neg : wp (evE K (.neg a) ρ) S Q = wp (evE K a ρ) S (fun x S => wp (M.opt (negO x)) S (fun i S => Q (.int (-i)) S)) := by
  rw [wp_of (show evE K (.neg a) ρ = _ by simp only [evE]; rfl), wp_bind]
  refine wp_cg fun x S => ?_
  cases x <;> rfl
@[simp] theorem ev_cmp2 {o1 o2 : Cop} : wp (evE K (.cmp2 o1 o2 a b c) ρ) S Q = wp (evE K a ρ) S (fun x S => wp (evE K b ρ) S (fun y S => wp (cmpD o1 x y) S (fun r S => wp (M.opt (blOf r)) S (fun k S => if k then wp (evE K c ρ) S (fun z S => wp (cmpD o2 y z) S Q) else Q (.bl false) S)))) := by
  rw [wp_of (show evE K (.cmp2 o1 o2 a b c) ρ = _ by simp only [evE]; rfl), wp_bind]
  refine wp_cg fun x S => ?_
  rw [wp_bind]
  refine wp_cg fun y S => ?_
  rw [wp_bind]
  refine wp_cg fun r S => ?_
  cases r <;> try rfl
  rename_i k
  cases k
  · rfl
  · simp only [blOf, wp_some, if_true]
    rw [wp_bind]
@[simp] theorem ev_not : wp (evE K (.not a) ρ) S Q = wp (tst (evE K a ρ)) S (fun k S => Q (.bl (!k)) S) := by
  rw [wp_of (show evE K (.not a) ρ = _ by simp only [evE]; rfl), wp_bind]
  rfl
@[simp] theorem ev_and : wp (evE K (.and a b) ρ) S Q = wp (evE K a ρ) S (fun x S => wp (M.opt (truth S x)) S (fun k S => if k then wp (evE K b ρ) S Q else Q x S)) := by
  rw [wp_of (show evE K (.and a b) ρ = _ by simp only [evE]; rfl), wp_bind]
  refine wp_cg fun x S => ?_
  rw [wp_bind, wp_getS, wp_bind]
  refine wp_cg fun k S => ?_
  cases k <;> rfl
@[simp] theorem ev_or : wp (evE K (.or a b) ρ) S Q = wp (evE K a ρ) S (fun x S => wp (M.opt (truth S x)) S (fun k S => if k then Q x S else wp (evE K b ρ) S Q)) := by
  rw [wp_of (show evE K (.or a b) ρ = _ by simp only [evE]; rfl), wp_bind]
  refine wp_cg fun x S => ?_
  rw [wp_bind, wp_getS, wp_bind]
  refine wp_cg fun k S => ?_
  cases k <;> rfl
@[simp] theorem ev_ite : wp (evE K (.ite c a b) ρ) S Q = wp (tst (evE K c ρ)) S (fun k S => if k then wp (evE K a ρ) S Q else wp (evE K b ρ) S Q) := by
  rw [wp_of (show evE K (.ite c a b) ρ = _ by simp only [evE]; rfl), wp_bind]
  refine wp_cg fun k S => ?_
  cases k <;> rfl
@[simp] theorem ev_tup : wp (evE K (.tup es) ρ) S Q = wp (evs K es ρ) S (fun xs S => xs.length ≤ LIM ∧ Q (.tup xs) S) := by
  rw [wp_of (show evE K (.tup es) ρ = _ by simp only [evE]; rfl), wp_bind]
  refine wp_cg fun xs S => ?_
  by_cases h : xs.length ≤ LIM <;> simp [h]
@[simp] theorem ev_lst : wp (evE K (.lst es) ρ) S Q = wp (evs K es ρ) S (fun xs S => xs.length ≤ LIM ∧ Q (.lst xs) S) := by
  rw [wp_of (show evE K (.lst es) ρ = _ by simp only [evE]; rfl), wp_bind]
  refine wp_cg fun xs S => ?_
  by_cases h : xs.length ≤ LIM <;> simp [h]
theorem ev_pkx {i : Nat} {xs : List DV} (h : ρ[i]? = some (.own (.lst xs))) : wp (evE K (.pkx i a) ρ) S Q = wp (evE K a ρ) S (fun y S => wp (M.opt (intOf y)) S (fun j S => wp (M.opt (atO xs j)) S Q)) := by
  rw [wp_of (show evE K (.pkx i a) ρ = _ by simp only [evE, h]; rfl), wp_bind]
  refine wp_cg fun y S => ?_
  cases y <;> rfl
theorem ev_pkl {i : Nat} {xs : List DV} (h : ρ[i]? = some (.own (.lst xs))) : wp (evE K (.pkl i) ρ) S Q = Q (.int xs.length) S := by
  rw [wp_of (show evE K (.pkl i) ρ = _ by simp only [evE, h]; rfl)]
  rfl
theorem ev_pkf {i : Nat} {f : Str} {cc : Nat} {ns : List Str} {vs : List DV} (h : ρ[i]? = some (.own (.obj cc ns vs))) : wp (evE K (.pkf i f) ρ) S Q = (f ∈ K.T.flds cc ∧ wp (M.opt (fget ns vs f)) S Q) := by
  rw [wp_of (show evE K (.pkf i f) ρ = _ by simp only [evE, h]; rfl)]
  by_cases h2 : f ∈ K.T.flds cc <;> simp [h2]
@[simp] theorem ev_ix : wp (evE K (.ix a b) ρ) S Q = wp (evE K a ρ) S (fun x S => wp (evE K b ρ) S (fun y S => wp (ixD x y) S Q)) := by
  rw [wp_of (show evE K (.ix a b) ρ = _ by simp only [evE]; rfl), wp_bind]
  refine wp_cg fun x S => ?_
  rw [wp_bind]
@[simp] theorem ev_sl {lo hi : CEo} : wp (evE K (.sl a lo hi) ρ) S Q = wp (evE K a ρ) S (fun x S => wp (evo K lo ρ) S (fun l S => wp (evo K hi ρ) S (fun h S => wp (slI x l h) S Q))) := by
  rw [wp_of (show evE K (.sl a lo hi) ρ = _ by simp only [evE]; rfl), wp_bind]
  refine wp_cg fun x S => ?_
  rw [wp_bind]
  refine wp_cg fun l S => ?_
  rw [wp_bind]
@[simp] theorem evo_no {Q : Option Int → Sto → Prop} : wp (evo K .no ρ) S Q = Q none S := (wp_of (by simp only [evo])).trans wp_pure
@[simp] theorem evo_so {Q : Option Int → Sto → Prop} : wp (evo K (.so a) ρ) S Q = wp (evE K a ρ) S (fun x S => wp (M.opt (intOf x)) S (fun i S => Q (some i) S)) := by
  rw [wp_of (show evo K (.so a) ρ = _ by simp only [evo]; rfl), wp_bind]
  refine wp_cg fun x S => ?_
  cases x <;> rfl
@[simp] theorem intOf_int {i : Int} : intOf (.int i) = some i := rfl
@[simp] theorem blOf_bl {i : Bool} : blOf (.bl i) = some i := rfl
def revO (S : Sto) : DV → Option DV
  | .tup xs => some (.tup xs.reverse)
  | d => (lstOf S d).map fun xs => .lst xs.reverse
@[simp] theorem revO_tup {xs : List DV} : revO S (.tup xs) = some (.tup xs.reverse) := rfl
@[simp] theorem ev_rev : wp (evE K (.rev a) ρ) S Q = wp (evE K a ρ) S (fun x S => wp (M.opt (revO S x)) S Q) := by
  rw [wp_of (show evE K (.rev a) ρ = _ by simp only [evE]; rfl), wp_bind]
  refine wp_cg fun x S => ?_
  by_cases h : ∃ xs, x = .tup xs
  · obtain ⟨xs, rfl⟩ := h; rfl
  · have e : revO S x = (lstOf S x).map fun xs => .lst xs.reverse := by
      cases x <;> first | rfl | (exact absurd ⟨_, rfl⟩ h)
    rw [e]
    cases x <;> first | (exact absurd ⟨_, rfl⟩ h) | skip
    all_goals
      simp only [wp_bind, wp_getS]
      cases lstOf S _ <;> rfl
@[simp] theorem ev_fld {f : Str} : wp (evE K (.fld a f) ρ) S Q = wp (evE K a ρ) S (fun x S => wp (fldD K x f) S Q) := by
  rw [wp_of (show evE K (.fld a f) ρ = _ by simp only [evE]; rfl), wp_bind]
@[simp] theorem wp_fldD {cc : Nat} {ns : List Str} {vs : List DV} {f : Str} : wp (fldD K (.obj cc ns vs) f) S Q = (f ∈ K.T.flds cc ∧ wp (M.opt (fget ns vs f)) S Q) := by
  unfold wp fldD
  simp only [insOf]
  by_cases h2 : f ∈ K.T.flds cc <;> simp [h2]
@[simp] theorem ev_prop {f : Str} : wp (evE K (.prop a f) ρ) S Q = wp (evE K a ρ) S (fun x S => wp (propD K x f) S Q) := by
  rw [wp_of (show evE K (.prop a f) ρ = _ by simp only [evE]; rfl), wp_bind]
theorem wp_propD {cc : Nat} {ns : List Str} {vs : List DV} {f : Str} {g : Nat} (h : K.T.prop cc f = some g) : wp (propD K (.obj cc ns vs) f) S Q = wp (callF K g [.obj cc ns vs]) S Q := by
  have : wp (propD K (.obj cc ns vs) f) S Q = wp (M.nox (callF K g [.obj cc ns vs])) S Q := by
    unfold wp propD
    simp only [insOf, h]
  rw [this, wp_nox]
@[simp] theorem ev_call {f : Nat} : wp (evE K (.call f es) ρ) S Q = wp (evs K es ρ) S (fun xs S => wp (callF K f xs) S Q) := by
  rw [wp_of (show evE K (.call f es) ρ = _ by simp only [evE]; rfl), wp_bind]
@[simp] theorem ev_meth {m : Str} : wp (evE K (.meth a m es) ρ) S Q = wp (evE K a ρ) S (fun x S => wp (methO K x m) S (fun g S => wp (evs K es ρ) S (fun xs S => wp (callF K g (x :: xs)) S Q))) := by
  rw [wp_of (show evE K (.meth a m es) ρ = _ by simp only [evE]; rfl), wp_bind]
  refine wp_cg fun x S => ?_
  rw [wp_bind]
  refine wp_cg fun g S => ?_
  rw [wp_bind]
theorem wp_methO {cc : Nat} {ns : List Str} {vs : List DV} {m : Str} {g : Nat} {Q : Nat → Sto → Prop} (h : K.T.meth cc m = some g) (hn : m ∉ ns) : wp (methO K (.obj cc ns vs) m) S Q = Q g S := by
  unfold wp methO
  simp only [insOf, hn, if_false, h]
  rfl
@[simp] theorem ev_new {cc : Nat} : wp (evE K (.new cc es) ρ) S Q = wp (evs K es ρ) S (fun xs S => xs.length + 1 = K.T.iar cc ∧ wp (K.init cc xs) S Q) := by
  rw [wp_of (show evE K (.new cc es) ρ = _ by simp only [evE]; rfl), wp_bind]
  refine wp_cg fun xs S => ?_
  by_cases h : xs.length + 1 = K.T.iar cc <;> simp [h]
@[simp] theorem ev_bi {b : Bi} : wp (evE K (.bi b es) ρ) S Q = wp (evs K es ρ) S (fun xs S => wp (biD b xs) S Q) := by
  rw [wp_of (show evE K (.bi b es) ρ = _ by simp only [evE]; rfl), wp_bind]
@[simp] theorem ev_bm {m : Bm} : wp (evE K (.bm a m es) ρ) S Q = wp (evE K a ρ) S (fun x S => bmOk m x = true ∧ wp (evs K es ρ) S (fun xs S => wp (bmD m x xs) S Q)) := by
  rw [wp_of (show evE K (.bm a m es) ρ = _ by simp only [evE]; rfl), wp_bind]
  refine wp_cg fun x S => ?_
  rw [wp_bind, wp_chk, wp_bind]
theorem ev_isi {ts : List Ty} : wp (evE K (.isi a ts) ρ) S Q = wp (evE K a ρ) S (fun x S => wp (M.opt (knOf S x)) S (fun k S => (knOk K.T k && ts.all (tyOk K.T)) = true ∧ Q (.bl (ts.any (isKn K.T k))) S)) := by
  rw [wp_of (show evE K (.isi a ts) ρ = _ by simp only [evE]; rfl), wp_bind]
  refine wp_cg fun x S => ?_
  rw [wp_bind, wp_getS, wp_bind]
  refine wp_cg fun k S => ?_
  by_cases h : (knOk K.T k && ts.all (tyOk K.T)) = true <;> simp only [h, if_true, true_and, wp_pure, if_false, false_and, Bool.false_eq_true] <;> rfl
@[simp] theorem ev_rng {n : Int} : wp (evE K (.rng a b n) ρ) S Q = wp (evE K a ρ) S (fun x S => wp (evE K b ρ) S (fun y S => wp (M.opt (intOf x)) S (fun i S => wp (M.opt (intOf y)) S (fun j S => rngOk i j n = true ∧ Q (.lst (rngL i j n)) S)))) := by
  rw [wp_of (show evE K (.rng a b n) ρ = _ by simp only [evE]; rfl), wp_bind]
  refine wp_cg fun x S => ?_
  rw [wp_bind]
  refine wp_cg fun y S => ?_
  cases x <;> cases y <;> try rfl
  rename_i i j
  by_cases h : rngOk i j n = true <;> simp [h]
@[simp] theorem ev_shr {f : CF} : wp (evE K (.shr f) ρ) S Q = wp (evF K f ρ) S (fun o S => Q (.loc S.length) (S ++ [o])) := by
  rw [wp_of (show evE K (.shr f) ρ = _ by simp only [evE]; rfl), wp_bind]
  refine wp_cg fun o S => ?_
  rw [wp_bind, wp_getS, wp_bind, wp_setS, wp_pure]
@[simp] theorem evs_nil {Q : List DV → Sto → Prop} : wp (evs K .nil ρ) S Q = Q [] S := (wp_of (by simp only [evs])).trans wp_pure
@[simp] theorem evs_f {Q : List DV → Sto → Prop} : wp (evs K (.cons false a es) ρ) S Q = wp (evE K a ρ) S (fun x S => wp (evs K es ρ) S (fun xs S => Q (x :: xs) S)) := by
  rw [wp_of (show evs K (.cons false a es) ρ = _ by simp only [evs]; rfl), wp_bind]
  refine wp_cg fun x S => ?_
  rw [wp_bind]
  rfl
@[simp] theorem evs_t {Q : List DV → Sto → Prop} : wp (evs K (.cons true a es) ρ) S Q = wp (evE K a ρ) S (fun x S => wp (M.opt (seqOf S x)) S (fun ys S => wp (evs K es ρ) S (fun xs S => Q (ys ++ xs) S))) := by
  rw [wp_of (show evs K (.cons true a es) ρ = _ by simp only [evs]; rfl), wp_bind]
  refine wp_cg fun x S => ?_
  rw [wp_bind, wp_getS, wp_bind]
  refine wp_cg fun ys S => ?_
  rw [wp_bind]
  rfl
@[simp] theorem seqOf_tup {x : List DV} : seqOf S (.tup x) = some x := rfl
@[simp] theorem seqOf_lst {x : List DV} : seqOf S (.lst x) = some x := rfl
/-! ### new lists -/
@[simp] theorem ef_lst {Q : OV → Sto → Prop} : wp (evF K (.lst es) ρ) S Q = wp (evs K es ρ) S (fun xs S => xs.length ≤ LIM ∧ Q (.lst xs) S) := by
  rw [wp_of (show evF K (.lst es) ρ = _ by simp only [evF]; rfl), wp_bind]
  refine wp_cg fun xs S => ?_
  by_cases h : xs.length ≤ LIM <;> simp [h]
def copO (S : Sto) : DV → Option (List DV)
  | .dct ks _ => some (ks.map ofKey)
  | d => seqOf S d
@[simp] theorem copO_tup {x : List DV} : copO S (.tup x) = some x := rfl
@[simp] theorem copO_lst {x : List DV} : copO S (.lst x) = some x := rfl
@[simp] theorem copO_scr {x : List DV} : copO S (.scr x) = some x := rfl
@[simp] theorem ef_list {Q : OV → Sto → Prop} : wp (evF K (.bi .list a) ρ) S Q = wp (evE K a ρ) S (fun x S => wp (M.opt (copO S x)) S (fun xs S => Q (.lst xs) S)) := by
  rw [wp_of (show evF K (.bi .list a) ρ = _ by simp only [evF]; rfl), wp_bind]
  refine wp_cg fun x S => ?_
  rw [wp_bind, wp_getS]
  cases x <;> first | rfl | skip
  all_goals
    simp only [copO]
    cases seqOf S _ <;> rfl
@[simp] theorem lstX_lst {x : List DV} : lstX S (.lst x) = some x := rfl
@[simp] theorem lstOf_lst {x : List DV} : lstOf S (.lst x) = some x := rfl
@[simp] theorem lstOf_scr {x : List DV} : lstOf S (.scr x) = some x := rfl
@[simp] theorem ef_add {Q : OV → Sto → Prop} : wp (evF K (.add a b) ρ) S Q = wp (evE K a ρ) S (fun x S => wp (evE K b ρ) S (fun y S => wp (M.opt (lstX S x)) S (fun xs S => wp (M.opt (lstX S y)) S (fun ys S => xs.length + ys.length ≤ LIM ∧ Q (.lst (xs ++ ys)) S)))) := by
  rw [wp_of (show evF K (.add a b) ρ = _ by simp only [evF]; rfl), wp_bind]
  refine wp_cg fun x S => ?_
  rw [wp_bind]
  refine wp_cg fun y S => ?_
  rw [wp_bind, wp_getS]
  cases h1 : lstX S x <;> cases h2 : lstX S y <;> simp [h2]
  rename_i xs ys
  by_cases h : xs.length + ys.length ≤ LIM <;> simp [h]
@[simp] theorem ef_sl {lo hi : CEo} {Q : OV → Sto → Prop} : wp (evF K (.sl a lo hi) ρ) S Q = wp (evE K a ρ) S (fun x S => wp (evo K lo ρ) S (fun l S => wp (evo K hi ρ) S (fun h S => wp (M.opt (lstOf S x)) S (fun xs S => Q (.lst (cut xs l h)) S)))) := by
  rw [wp_of (show evF K (.sl a lo hi) ρ = _ by simp only [evF]; rfl), wp_bind]
  refine wp_cg fun x S => ?_
  rw [wp_bind]
  refine wp_cg fun l S => ?_
  rw [wp_bind]
  refine wp_cg fun h S => ?_
  rw [wp_bind, wp_getS]
  cases lstOf S x <;> rfl
@[simp] theorem ef_rng {n : Int} {Q : OV → Sto → Prop} : wp (evF K (.rng a b n) ρ) S Q = wp (evE K a ρ) S (fun x S => wp (evE K b ρ) S (fun y S => wp (M.opt (intOf x)) S (fun i S => wp (M.opt (intOf y)) S (fun j S => rngOk i j n = true ∧ Q (.lst (rngL i j n)) S)))) := by
  rw [wp_of (show evF K (.rng a b n) ρ = _ by simp only [evF]; rfl), wp_bind]
  refine wp_cg fun x S => ?_
  rw [wp_bind]
  refine wp_cg fun y S => ?_
  cases x <;> cases y <;> try rfl
  rename_i i j
  by_cases h : rngOk i j n = true <;> simp [h]
def lstV : OV → Option (List DV)
  | .lst xs => some xs
  | _ => none
@[simp] theorem lstV_lst {x : List DV} : lstV (.lst x) = some x := rfl
@[simp] theorem ef_or {f h : CF} {Q : OV → Sto → Prop} : wp (evF K (.or f h) ρ) S Q = wp (evF K f ρ) S (fun o S => wp (M.opt (lstV o)) S (fun xs S => if xs.isEmpty then wp (evF K h ρ) S Q else Q o S)) := by
  rw [wp_of (show evF K (.or f h) ρ = _ by simp only [evF]; rfl), wp_bind]
  refine wp_cg fun o S => ?_
  cases o <;> try rfl
  rename_i xs
  cases xs <;> rfl
/-! ### walks -/
@[simp] theorem ei_seq {Q : Wk → Sto → Prop} : wp (evI K (.seq a) ρ) S Q = wp (evE K a ρ) S (fun x S => wp (M.opt (walkOf S x)) S Q) := by
  rw [wp_of (show evI K (.seq a) ρ = _ by simp only [evI]; rfl), wp_bind]
  refine wp_cg fun x S => ?_
  rw [wp_bind, wp_getS]
@[simp] theorem walkOf_tup {x : List DV} : walkOf S (.tup x) = some ⟨x, []⟩ := rfl
@[simp] theorem walkOf_lst {x : List DV} : walkOf S (.lst x) = some ⟨x, []⟩ := rfl
@[simp] theorem walkOf_str {x : List Nat} : walkOf S (.str x) = some ⟨x.map fun c => .str [c], []⟩ := rfl
@[simp] theorem ei_rng {n : Int} {Q : Wk → Sto → Prop} : wp (evI K (.rng a b n) ρ) S Q = wp (evE K a ρ) S (fun x S => wp (evE K b ρ) S (fun y S => wp (M.opt (intOf x)) S (fun i S => wp (M.opt (intOf y)) S (fun j S => rngOk i j n = true ∧ Q ⟨rngL i j n, []⟩ S)))) := by
  rw [wp_of (show evI K (.rng a b n) ρ = _ by simp only [evI]; rfl), wp_bind]
  refine wp_cg fun x S => ?_
  rw [wp_bind]
  refine wp_cg fun y S => ?_
  cases x <;> cases y <;> try rfl
  rename_i i j
  by_cases h : rngOk i j n = true <;> simp [h]
@[simp] theorem ei_enum {Q : Wk → Sto → Prop} : wp (evI K (.enum a) ρ) S Q = wp (evE K a ρ) S (fun x S => wp (M.opt (seqW S x)) S (fun w S => Q ⟨enumL 0 w.items, w.src⟩ S)) := by
  rw [wp_of (show evI K (.enum a) ρ = _ by simp only [evI]; rfl), wp_bind]
  refine wp_cg fun x S => ?_
  rw [wp_bind, wp_getS]
  cases seqW S x <;> rfl
@[simp] theorem seqW_tup {x : List DV} : seqW S (.tup x) = some ⟨x, []⟩ := rfl
@[simp] theorem seqW_lst {x : List DV} : seqW S (.lst x) = some ⟨x, []⟩ := rfl
@[simp] theorem ei_zip {Q : Wk → Sto → Prop} : wp (evI K (.zip a b) ρ) S Q = wp (evE K a ρ) S (fun x S => wp (evE K b ρ) S (fun y S => wp (M.opt (seqW S x)) S (fun w S => wp (M.opt (seqW S y)) S (fun v S => Q ⟨zipL w.items v.items, w.src ++ v.src⟩ S)))) := by
  rw [wp_of (show evI K (.zip a b) ρ = _ by simp only [evI]; rfl), wp_bind]
  refine wp_cg fun x S => ?_
  rw [wp_bind]
  refine wp_cg fun y S => ?_
  rw [wp_bind, wp_getS]
  cases h1 : seqW S x <;> cases h2 : seqW S y <;> simp [h2]
/-! ### tests of clauses, comprehensions -/
@[simp] theorem ec_nil {Q : Bool → Sto → Prop} : wp (evC K .nil ρ) S Q = Q true S := (wp_of (by simp only [evC])).trans wp_pure
@[simp] theorem ec_cons {st : Bool} {Q : Bool → Sto → Prop} : wp (evC K (.cons st a es) ρ) S Q = wp (tst (evE K a ρ)) S (fun k S => if k then wp (evC K es ρ) S Q else Q false S) := by
  rw [wp_of (show evC K (.cons st a es) ρ = _ by simp only [evC]; rfl), wp_bind]
  refine wp_cg fun k S => ?_
  cases k <;> rfl
@[simp] theorem eg_one {α : Type} {t : CT} {i : CI} {cs : CEs} {F : Env → α → M α} {ρi ρb : Env} {acc : α} {Q : α → Sto → Prop} : wp (evG K (.one (.mk t i cs)) F ρi ρb acc) S Q = wp (evI K i ρi) S (fun w S => wp (lcLoop t w (fun ρ' a => evC K cs ρ' >>= fun k => if k then F ρ' a else pure a) w.items ρb acc) S Q) := by
  rw [wp_of (show evG K (.one (.mk t i cs)) F ρi ρb acc = _ by simp only [evG]; rfl), wp_bind]
@[simp] theorem eg_two {α : Type} {t : CT} {i : CI} {cs : CEs} {r : CGs} {F : Env → α → M α} {ρi ρb : Env} {acc : α} {Q : α → Sto → Prop} : wp (evG K (.two (.mk t i cs) r) F ρi ρb acc) S Q = wp (evI K i ρi) S (fun w S => wp (lcLoop t w (fun ρ' a => evC K cs ρ' >>= fun k => if k then evG K r F ρ' (wipeE ρ' (gslots r)) a else pure a) w.items ρb acc) S Q) := by
  rw [wp_of (show evG K (.two (.mk t i cs) r) F ρi ρb acc = _ by simp only [evG]; rfl), wp_bind]
/-- what a list's comprehension does with an item -/
def FLs (K : Cl) (elt : CE) : Env → List DV → M (List DV) := fun ρ' acc => evE K elt ρ' >>= fun x => if acc.length < LIM then pure (acc ++ [x]) else M.fail
@[simp] theorem wp_FLs {elt : CE} {acc : List DV} {Q : List DV → Sto → Prop} : wp (FLs K elt ρ acc) S Q = wp (evE K elt ρ) S (fun x S => acc.length < LIM ∧ Q (acc ++ [x]) S) := by
  unfold FLs
  rw [wp_bind]
  refine wp_cg fun x S => ?_
  by_cases h : acc.length < LIM <;> simp [h]
@[simp] theorem ev_comp {elt : CE} {g : CGs} {own : List (Str × Nat)} : wp (evE K (.comp elt g own) ρ) S Q = wp (evG K g (FLs K elt) ρ (wipeE ρ (own.map (·.2))) []) S (fun xs S => Q (.lst xs) S) := by
  rw [wp_of (show evE K (.comp elt g own) ρ = _ by simp only [evE]; rfl), wp_nox, wp_bind]
  rfl
@[simp] theorem ef_comp {elt : CE} {g : CGs} {own : List (Str × Nat)} {Q : OV → Sto → Prop} : wp (evF K (.comp elt g own) ρ) S Q = wp (evG K g (FLs K elt) ρ (wipeE ρ (own.map (·.2))) []) S (fun xs S => Q (.lst xs) S) := by
  rw [wp_of (show evF K (.comp elt g own) ρ = _ by simp only [evF]; rfl), wp_nox, wp_bind]
  rfl
def FDs (K : Cl) (k v : CE) : Env → List DK × List DV → M (List DK × List DV) := fun ρ' acc => evE K k ρ' >>= fun x => evE K v ρ' >>= fun y => match keyOf x with
      | some q => if acc.1.length < LIM then pure (dputK acc.1 q, dputV acc.1 acc.2 q y) else M.fail
      | none => M.fail
@[simp] theorem wp_FDs {k v : CE} {acc : List DK × List DV} {Q : List DK × List DV → Sto → Prop} : wp (FDs K k v ρ acc) S Q = wp (evE K k ρ) S (fun x S => wp (evE K v ρ) S (fun y S => wp (M.opt (keyOf x)) S (fun q S => acc.1.length < LIM ∧ Q (dputK acc.1 q, dputV acc.1 acc.2 q y) S))) := by
  unfold FDs
  rw [wp_bind]
  refine wp_cg fun x S => ?_
  rw [wp_bind]
  refine wp_cg fun y S => ?_
  cases keyOf x with
  | none => rfl
  | some q => by_cases h : acc.1.length < LIM <;> simp [h]
@[simp] theorem ev_dcomp {k v : CE} {g : CGs} {own : List (Str × Nat)} : wp (evE K (.dcomp k v g own) ρ) S Q = wp (evG K g (FDs K k v) ρ (wipeE ρ (own.map (·.2))) ([], [])) S (fun xs S => Q (.dct xs.1 xs.2) S) := by
  rw [wp_of (show evE K (.dcomp k v g own) ρ = _ by simp only [evE]; rfl), wp_nox, wp_bind]
  rfl
/-! ### parallel values -/
@[simp] theorem epv_nil {Q : List (Nat × Slot) → Sto → Prop} : wp (evP K [] ρ) S Q = Q [] S := rfl
@[simp] theorem epv_v {i : Nat} {r : List CP} {Q : List (Nat × Slot) → Sto → Prop} : wp (evP K (.v i a :: r) ρ) S Q = wp (evE K a ρ) S (fun d S => wp (evP K r ρ) S (fun xs S => Q ((i, .val d) :: xs) S)) := by
  rw [wp_of (show evP K (.v i a :: r) ρ = (evE K a ρ >>= fun d => evP K r ρ >>= fun xs => pure ((i, .val d) :: xs)) from rfl), wp_bind]
  refine wp_cg fun d S => ?_
  rw [wp_bind]
  rfl
@[simp] theorem epv_o {i : Nat} {f : CF} {r : List CP} {Q : List (Nat × Slot) → Sto → Prop} : wp (evP K (.o i f :: r) ρ) S Q = wp (evF K f ρ) S (fun o S => wp (evP K r ρ) S (fun xs S => Q ((i, .own o) :: xs) S)) := by
  rw [wp_of (show evP K (.o i f :: r) ρ = (evF K f ρ >>= fun o => evP K r ρ >>= fun xs => pure ((i, .own o) :: xs)) from rfl), wp_bind]
  refine wp_cg fun d S => ?_
  rw [wp_bind]
  rfl
end
end GL
end
section
set_option Elab.async false
set_option linter.all false
set_option maxRecDepth 100000
/-! The steps as rules to be applied at the head. -/
namespace GL
open PySem (Str)
def isO (T : Tab) (k : Kn) (ts : List Ty) : Option Bool := match knOk T k && ts.all (tyOk T), ts.any (isKn T k) with
  | true, true => some true
  | true, false => some false
  | false, _ => none
section
variable {α : Type} {K : Cl} {ρ ρ' : Env} {S : Sto} {P : PQ} {f g : Env → Sto → Prop} {r : DV → Sto → Prop} {b c : Env → Sto → Prop}
theorem gE {e : CE} {Q : DV → Sto → Prop} (h : wp (evE K e ρ) S Q) : wp (evE K e ρ) S Q := h
theorem gs {e : CEs} {Q : List DV → Sto → Prop} (h : wp (evs K e ρ) S Q) : wp (evs K e ρ) S Q := h
theorem gB {o : Bop} {x y : DV} {Q : DV → Sto → Prop} (h : wp (binD o x y) S Q) : wp (binD o x y) S Q := h
theorem gC {o : Cop} {x y : DV} {Q : DV → Sto → Prop} (h : wp (cmpD o x y) S Q) : wp (cmpD o x y) S Q := h
theorem gX {x y : DV} {Q : DV → Sto → Prop} (h : wp (ixD x y) S Q) : wp (ixD x y) S Q := h
theorem gV {o : Bi} {x : List DV} {Q : DV → Sto → Prop} (h : wp (biD o x) S Q) : wp (biD o x) S Q := h
theorem gF {e : CF} {Q : OV → Sto → Prop} (h : wp (evF K e ρ) S Q) : wp (evF K e ρ) S Q := h
theorem gI {e : CI} {Q : Wk → Sto → Prop} (h : wp (evI K e ρ) S Q) : wp (evI K e ρ) S Q := h
theorem gS {e : CS} (h : ws (evS K e ρ S) P) : ws (evS K e ρ S) P := h
theorem r_all {p : α → Bool} {l : List α} {A : Prop} (e : l.all p = true) (h : A) : l.all p = true ∧ A := ⟨e, h⟩
theorem wp_it {m n : M α} {Q : α → Sto → Prop} : wp (if true = true then m else n) S Q = wp m S Q := rfl
theorem wp_iff {m n : M α} {Q : α → Sto → Prop} : wp (if false = true then m else n) S Q = wp n S Q := rfl
theorem nx_mk (h : f ρ S) : (PQ.mk f r b c).nx ρ S := h
theorem rt_mk {d : DV} (h : r d S) : (PQ.mk f r b c).rt d S := h
theorem bk_mk (h : b ρ S) : (PQ.mk f r b c).bk ρ S := h
theorem ct_mk (h : c ρ S) : (PQ.mk f r b c).ct ρ S := h
theorem r_set {i : Nat} {s : Slot} (e : ρ.set i s = ρ') (h : P.nx ρ' S) : P.nx (ρ.set i s) S := by rw [e]; exact h
theorem r_par {xs : List (Nat × Slot)} (e : parE xs ρ = ρ') (h : P.nx ρ' S) : P.nx (parE xs ρ) S := by rw [e]; exact h
theorem r_opt {o : Option α} {a : α} {Q : α → Sto → Prop} (e : o = some a) (h : Q a S) : wp (M.opt o) S Q := by rw [e]; exact h
theorem r_t {A B : Prop} (h : A) : if true = true then A else B := by simpa using h
theorem r_f {A B : Prop} (h : B) : if false = true then A else B := by simpa using h
theorem r_lt {i : Nat} {A : Prop} (e : Nat.ble (i + 1) ρ.length = true) (h : A) : i < ρ.length ∧ A := ⟨Nat.le_of_ble_eq_true e, h⟩
theorem r_lim {A : Prop} {l : List α} (e : Nat.ble l.length LIM = true) (h : A) : l.length ≤ LIM ∧ A := ⟨Nat.le_of_ble_eq_true e, h⟩
theorem r_and {A B : Prop} (e : A) (h : B) : A ∧ B := ⟨e, h⟩
theorem wp_run {d : Df} {ds : List DV} {Q : DV → Sto → Prop} (hl : Nat.ble ds.length d.slots = true) (e : startE d ds = ρ) (h : ws (evSs K d.body ρ S) ⟨fun _ S' => Q .non S', Q, fun _ _ => False, fun _ _ => False⟩) : wp (runD K d ds) S Q := wp_runD (Nat.le_of_ble_eq_true hl) (by rw [e]; exact h)
theorem ev_is {a : CE} {ts : List Ty} {Q : DV → Sto → Prop} : wp (evE K (.isi a ts) ρ) S Q = wp (evE K a ρ) S (fun x S => wp (M.opt (knOf S x)) S (fun k S => wp (M.opt (isO K.T k ts)) S (fun b S => Q (.bl b) S))) := by
  rw [ev_isi]
  refine wp_cg fun x S => wp_cg fun k S => ?_
  unfold isO
  cases h : (knOk K.T k && ts.all (tyOk K.T)) <;> cases h2 : ts.any (isKn K.T k) <;> simp
theorem r_ifp {p : Prop} [Decidable p] {A B : Prop} (e : p) (h : A) : if p then A else B := by rw [if_pos e]; exact h
theorem r_ifn {p : Prop} [Decidable p] {A B : Prop} (e : ¬ p) (h : B) : if p then A else B := by rw [if_neg e]; exact h
theorem r_ifnb {p : Bool} {A B : Prop} (e : p = false) (h : B) : if p = true then A else B := by rw [e]; exact h
theorem r_dec {p : Prop} [Decidable p] {A B : Prop} (h1 : p → A) (h2 : ¬ p → B) : if decide p = true then A else B := by
  by_cases h : p
  · simpa [h] using h1 h
  · simpa [h] using h2 h
theorem mulL {i j : Int} {A : Prop} (h : -18446744073709551616 < i ∧ i < 18446744073709551616) (g : A) : mulOk i j = true ∧ A := ⟨by
  unfold mulOk
  simp only [Bool.or_eq_true, Bool.and_eq_true, decide_eq_true_eq]
  exact .inl ⟨by omega, by omega⟩, g⟩
theorem mulR {i j : Int} {A : Prop} (h : -18446744073709551616 < j ∧ j < 18446744073709551616) (g : A) : mulOk i j = true ∧ A := ⟨by
  unfold mulOk
  simp only [Bool.or_eq_true, Bool.and_eq_true, decide_eq_true_eq]
  exact .inr ⟨by omega, by omega⟩, g⟩
theorem get_set {S : Sto} {n : Nat} {o w : OV} (h : S[n]? = some o) : (S.set n w)[n]? = some w := List.getElem?_set_self (List.getElem?_eq_some_iff.mp h).1
theorem get_app {S : Sto} {n : Nat} {o w : OV} (h : S[n]? = some o) : (S ++ [w])[n]? = some o := by
  rw [List.getElem?_append_left (List.getElem?_eq_some_iff.mp h).1]; exact h
theorem get_new {S : Sto} {w : OV} : (S ++ [w])[S.length]? = some w := by simp
end
end GL
end
section
set_option Elab.async false
set_option linter.all false
set_option maxRecDepth 100000
set_option maxHeartbeats 4000000
/-! What the laws have in common: draws. -/
namespace GL
open PySem (Str)
local macro_rules | `(tactic| tm_at "go") => `(tactic| first
  | ((with_reducible refine r_set (ρ' := ?_) ?_ ?_); rotate_left; (simp only [List.set_cons_succ, List.set_cons_zero]; rfl))
  | ((with_reducible refine r_par (ρ' := ?_) ?_ ?_); rotate_left; (simp only [parE, List.set_cons_succ, List.set_cons_zero]; rfl))
  | with_reducible refine nx_mk ?_
  | with_reducible refine rt_mk ?_
  | with_reducible refine bk_mk ?_
  | with_reducible refine ct_mk ?_
  | with_reducible refine r_t ?_
  | with_reducible refine r_f ?_
  | ((with_reducible refine r_opt (a := ?_) ?_ ?_); rotate_left; rfl)
  | ((with_reducible refine gE ?_); first
    | with_reducible refine Eq.mpr ev_var ?_
    | with_reducible refine Eq.mpr ev_int ?_
    | with_reducible refine Eq.mpr ev_bl ?_
    | with_reducible refine Eq.mpr ev_non ?_
    | with_reducible refine Eq.mpr ev_str ?_
    | with_reducible refine Eq.mpr ev_gl ?_
    | with_reducible refine Eq.mpr ev_bin ?_
    | with_reducible refine Eq.mpr ev_cmp ?_
    | with_reducible refine Eq.mpr ev_ix ?_
    | with_reducible refine Eq.mpr ev_call ?_
    | with_reducible refine Eq.mpr ev_bi ?_
    | with_reducible refine Eq.mpr ev_and ?_
    | with_reducible refine Eq.mpr ev_or ?_
    | with_reducible refine Eq.mpr ev_not ?_
    | with_reducible refine Eq.mpr ev_ite ?_
    | with_reducible refine Eq.mpr ev_tup ?_
    | with_reducible refine Eq.mpr ev_lst ?_
    | with_reducible refine Eq.mpr ev_sl ?_
    | with_reducible refine Eq.mpr ev_fld ?_
    | with_reducible refine Eq.mpr ev_prop ?_
    | with_reducible refine Eq.mpr ev_meth ?_
    | with_reducible refine Eq.mpr ev_new ?_
    | with_reducible refine Eq.mpr ev_isi ?_
    | with_reducible refine Eq.mpr ev_neg ?_
    | with_reducible refine Eq.mpr ev_cmp2 ?_
    | with_reducible refine Eq.mpr ev_rng ?_
    | with_reducible refine Eq.mpr ev_shr ?_
    | with_reducible refine Eq.mpr ev_comp ?_
    | with_reducible refine Eq.mpr ev_dcomp ?_
    | with_reducible refine Eq.mpr ev_rev ?_
    | with_reducible refine Eq.mpr ev_bm ?_)
  | ((with_reducible refine gs ?_); first
    | with_reducible refine Eq.mpr evs_nil ?_
    | with_reducible refine Eq.mpr evs_f ?_
    | with_reducible refine Eq.mpr evs_t ?_)
  | ((with_reducible refine gB ?_); first
    | with_reducible refine Eq.mpr wp_add ?_
    | with_reducible refine Eq.mpr wp_sub ?_
    | with_reducible refine Eq.mpr wp_mul ?_
    | with_reducible refine Eq.mpr wp_fdiv ?_
    | with_reducible refine Eq.mpr wp_mod ?_
    | with_reducible refine Eq.mpr wp_addS ?_
    | with_reducible refine Eq.mpr wp_addT ?_
    | with_reducible refine Eq.mpr wp_addL ?_)
  | ((with_reducible refine gC ?_); first
    | with_reducible refine Eq.mpr wp_eqI ?_
    | with_reducible refine Eq.mpr wp_neI ?_
    | with_reducible refine Eq.mpr wp_eqB ?_
    | with_reducible refine Eq.mpr wp_neB ?_
    | with_reducible refine Eq.mpr wp_lt ?_
    | with_reducible refine Eq.mpr wp_le ?_
    | with_reducible refine Eq.mpr wp_gt ?_
    | with_reducible refine Eq.mpr wp_ge ?_
    | with_reducible refine Eq.mpr wp_isin ?_
    | with_reducible refine Eq.mpr wp_notin ?_
    | with_reducible refine Eq.mpr wp_is ?_)
  | ((with_reducible refine gX ?_); first
    | with_reducible refine Eq.mpr wp_ixT ?_
    | with_reducible refine Eq.mpr wp_ixL ?_
    | with_reducible refine Eq.mpr wp_ixS ?_
    | with_reducible refine Eq.mpr wp_ixX ?_)
  | ((with_reducible refine gV ?_); first
    | with_reducible refine Eq.mpr wp_lenX ?_
    | with_reducible refine Eq.mpr wp_lenT ?_
    | with_reducible refine Eq.mpr wp_lenL ?_
    | with_reducible refine Eq.mpr wp_lenS ?_
    | with_reducible refine Eq.mpr wp_abs ?_
    | with_reducible refine Eq.mpr wp_int ?_
    | with_reducible refine Eq.mpr wp_intB ?_
    | with_reducible refine Eq.mpr wp_listT ?_
    | with_reducible refine Eq.mpr wp_listL ?_
    | with_reducible refine Eq.mpr wp_tupleT ?_
    | with_reducible refine Eq.mpr wp_tupleL ?_)
  | ((with_reducible refine gF ?_); first
    | with_reducible refine Eq.mpr ef_lst ?_
    | with_reducible refine Eq.mpr ef_list ?_
    | with_reducible refine Eq.mpr ef_add ?_
    | with_reducible refine Eq.mpr ef_sl ?_
    | with_reducible refine Eq.mpr ef_rng ?_
    | with_reducible refine Eq.mpr ef_or ?_
    | with_reducible refine Eq.mpr ef_comp ?_)
  | ((with_reducible refine gI ?_); first
    | with_reducible refine Eq.mpr ei_seq ?_
    | with_reducible refine Eq.mpr ei_rng ?_
    | with_reducible refine Eq.mpr ei_enum ?_
    | with_reducible refine Eq.mpr ei_zip ?_)
  | ((with_reducible refine gS ?_); first
    | with_reducible refine Eq.mpr ws_set ?_
    | with_reducible refine Eq.mpr ws_ret ?_
    | with_reducible refine Eq.mpr ws_ite ?_
    | with_reducible refine Eq.mpr ws_own ?_
    | with_reducible refine Eq.mpr ws_retn ?_
    | with_reducible refine Eq.mpr ws_par ?_
    | with_reducible refine Eq.mpr ws_ex ?_
    | with_reducible refine Eq.mpr ws_for ?_
    | with_reducible refine Eq.mpr ws_whl ?_
    | with_reducible refine Eq.mpr ws_sput ?_
    | with_reducible refine Eq.mpr ws_sapp ?_
    | with_reducible refine Eq.mpr ws_brk ?_
    | with_reducible refine Eq.mpr ws_cnt ?_
    | with_reducible refine Eq.mpr ws_pass ?_)
  | with_reducible refine Eq.mpr ws_cons ?_
  | with_reducible refine Eq.mpr ws_nil ?_
  | with_reducible refine Eq.mpr wp_tst ?_
  | with_reducible refine Eq.mpr wp_pure ?_
  | with_reducible refine Eq.mpr wp_it ?_
  | with_reducible refine Eq.mpr wp_iff ?_
  | with_reducible refine Eq.mpr wp_FLs ?_
  | with_reducible refine Eq.mpr wp_FDs ?_
  | with_reducible refine Eq.mpr wp_bind ?_
  | with_reducible refine Eq.mpr evo_no ?_
  | with_reducible refine Eq.mpr evo_so ?_
  | with_reducible refine Eq.mpr wp_slX ?_
  | with_reducible refine Eq.mpr wp_slT ?_
  | with_reducible refine Eq.mpr wp_slL ?_
  | with_reducible refine Eq.mpr wp_slS ?_
  | with_reducible refine Eq.mpr epv_nil ?_
  | with_reducible refine Eq.mpr epv_v ?_
  | with_reducible refine Eq.mpr epv_o ?_
  | with_reducible refine Eq.mpr ec_nil ?_
  | with_reducible refine Eq.mpr ec_cons ?_
  | with_reducible refine Eq.mpr eg_one ?_
  | with_reducible refine Eq.mpr eg_two ?_
  | with_reducible refine Eq.mpr wp_fldD ?_
  | with_reducible refine Eq.mpr wp_augI ?_
  | with_reducible refine Eq.mpr wp_augS ?_
  | ((with_reducible refine r_lt ?_ ?_); rfl)
  | ((with_reducible refine r_lim ?_ ?_); rfl)
  | ((with_reducible refine r_all ?_ ?_); rfl))
/-- a box of draws, c at most drawn -/
def Bx (S : Sto) (b : Nat) (c : Nat) : Prop := ∃ x y z : Int, S[b]? = some (.lst [.int x, .int y, .int z]) ∧ 0 ≤ z ∧ z ≤ c
theorem Bx.mono {S : Sto} {b c c' : Nat} (h : Bx S b c) (l : c ≤ c') : Bx S b c' := by
  obtain ⟨x, y, z, h1, h2, h3⟩ := h
  exact ⟨x, y, z, h1, h2, by omega⟩
/-- the store grows, and changes at b alone -/
def Fr (b : Nat) (S S' : Sto) : Prop := S.length ≤ S'.length ∧ ∀ i, i < S.length → i ≠ b → S'[i]? = S[i]?
theorem Fr.rfl' {b : Nat} {S : Sto} : Fr b S S := ⟨Nat.le_refl _, fun _ _ _ => rfl⟩
theorem Fr.trans {b : Nat} {S S1 S2 : Sto} (h : Fr b S S1) (g : Fr b S1 S2) : Fr b S S2 :=
  ⟨Nat.le_trans h.1 g.1, fun i hi hb => (g.2 i (Nat.lt_of_lt_of_le hi h.1) hb).trans (h.2 i hi hb)⟩
theorem Fr.get {b i : Nat} {S S' : Sto} {o : OV} (h : Fr b S S') (e : S[i]? = some o) (hb : i ≠ b) : S'[i]? = some o := (h.2 i (List.getElem?_eq_some_iff.mp e).1 hb).trans e
theorem Fr.set {b : Nat} {S : Sto} {o : OV} : Fr b S (S.set b o) := ⟨by simp, fun i hi hb => by rw [List.getElem?_set_ne (fun e => hb e.symm)]⟩
def bTake : CSs := .cons (.ite (.cmp .gt (.ix (.var 0) (.int 0)) (.int 0)) (.cons (.set (.nm 2) (.bin .mod (.bi .int (.cons false (.ix (.var 0) (.int 0)) (.nil))) (.var 1))) (.cons (.sput (.var 0) (.int 0) (.bin .fdiv (.ix (.var 0) (.int 0)) (.var 1))) (.cons (.ret (.var 2)) (.nil)))) (.nil)) (.cons (.sput (.var 0) (.int 2) (.bin .add (.ix (.var 0) (.int 2)) (.int 1))) (.cons (.set (.nm 3) (.bin .mod (.bi .int (.cons false (.bin .mul (.bin .add (.ix (.var 0) (.int 1)) (.bin .mul (.int 48271) (.ix (.var 0) (.int 2)))) (.bin .add (.int 39373) (.ix (.var 0) (.int 2)))) (.nil))) (.int 2147483647))) (.cons (.set (.nm 4) (.bin .add (.bin .mod (.bi .int (.cons false (.var 3) (.nil))) (.int 40009)) (.int 7))) (.cons (.set (.nm 5) (.bin .mod (.bi .int (.cons false (.bin .mul (.bin .add (.bin .add (.var 3) (.ix (.var 0) (.int 2))) (.bin .fdiv (.ix (.var 0) (.int 1)) (.int 1000003))) (.var 4)) (.nil))) (.int 2147483629))) (.cons (.ret (.bin .mod (.bi .int (.cons false (.bin .fdiv (.bin .mod (.bi .int (.cons false (.bin .add (.bin .mul (.var 5) (.int 48271)) (.var 3)) (.nil))) (.int 2147483587)) (.int 64)) (.nil))) (.var 1))) (.nil))))))
theorem take_ok {K : Cl} {b c : Nat} {n : Int} {S : Sto} {Q : DV → Sto → Prop} (hB : Bx S b c) (hc : c < 2 ^ 62) (h0 : 0 < n) (h1 : n < 1073741824) (hQ : ∀ (r : Int) S', 0 ≤ r → r < n → Bx S' b (c + 1) → Fr b S S' → Q (.int r) S') :
    wp (runD K ⟨6, bTake⟩ [.loc b, .int n]) S Q := by
  obtain ⟨x, y, z, e, z0, z1⟩ := hB
  have hb : b < S.length := (List.getElem?_eq_some_iff.mp e).1
  have z2 : z < 2 ^ 62 := by omega
  refine wp_run (ρ := [.val (.loc b), .val (.int n), .no, .no, .no, .no]) (by rfl) (by rfl) ?_
  unfold bTake
  repeat (first | tm_at "go" | with_reducible refine Eq.mpr (wp_ixl e) ?_)
  refine r_dec (fun hx => ?_) (fun hx => ?_)
  · repeat (first | tm_at "go" | with_reducible refine Eq.mpr (wp_ixl e) ?_ | refine r_opt e ?_ | ((with_reducible refine r_and ?_ ?_); omega))
    exact hQ _ _ (Int.emod_nonneg _ (by omega)) (Int.emod_lt_of_pos _ h0) ⟨_, _, _, get_set e, z0, by omega⟩ Fr.set
  · repeat (first | tm_at "go" | with_reducible refine Eq.mpr (wp_ixl e) ?_ | with_reducible refine r_opt e ?_ | with_reducible refine Eq.mpr (wp_ixl (get_set e)) ?_ | ((with_reducible refine mulL ?_ ?_); omega) | ((with_reducible refine mulR ?_ ?_); omega) | ((with_reducible refine r_and ?_ ?_); omega))
    exact hQ _ _ (Int.emod_nonneg _ (by omega)) (Int.emod_lt_of_pos _ h0) ⟨_, _, _, get_set e, by omega, by omega⟩ Fr.set

def TakeOk (K : Cl) (t : Nat) : Prop := ∀ {b c : Nat} {n : Int} {S : Sto} {Q : DV → Sto → Prop}, Bx S b c → c < 2 ^ 62 → 0 < n → n < 1073741824 → (∀ (r : Int) S', 0 ≤ r → r < n → Bx S' b (c + 1) → Fr b S S' → Q (.int r) S') → wp (callF K t [.loc b, .int n]) S Q
theorem atO_lt {xs : List DV} {i : Int} (h0 : 0 ≤ i) (h1 : i < xs.length) : ∃ x, atO xs i = some x ∧ xs[i.toNat]? = some x ∧ x ∈ xs := by
  have h2 : i.toNat < xs.length := by omega
  refine ⟨xs[i.toNat], ?_, List.getElem?_eq_getElem h2, List.getElem_mem h2⟩
  unfold atO ixO
  simp [h0, h1, h2]
def bOf (t : Nat) : CSs := .cons (.ret (.ix (.var 1) (.call t (.cons false (.var 0) (.cons false (.bi .len (.cons false (.var 1) (.nil))) (.nil)))))) (.nil)
theorem of_ok {K : Cl} {t b c : Nat} {xs : List DV} {S : Sto} {Q : DV → Sto → Prop} (hT : TakeOk K t) (hB : Bx S b c) (hc : c < 2 ^ 62) (h0 : xs ≠ []) (h1 : xs.length < 1073741824) (hQ : ∀ x S', x ∈ xs → Bx S' b (c + 1) → Fr b S S' → Q x S') :
    wp (runD K ⟨2, bOf t⟩ [.loc b, .lst xs]) S Q := by
  have hl : 0 < xs.length := List.length_pos_iff.mpr h0
  refine wp_run (ρ := [.val (.loc b), .val (.lst xs)]) (by rfl) (by rfl) ?_
  unfold bOf
  repeat (first | tm_at "go")
  refine hT hB hc (by omega) (by omega) fun r S' r0 r1 hB' hF => ?_
  obtain ⟨x, e1, _, e2⟩ := atO_lt r0 r1
  repeat (first | tm_at "go")
  exact r_opt e1 (hQ x S' e2 hB' hF)
def OfOk (K : Cl) (t : Nat) : Prop := ∀ {b c : Nat} {xs : List DV} {S : Sto} {Q : DV → Sto → Prop}, Bx S b c → c < 2 ^ 62 → xs ≠ [] → xs.length < 1073741824 → (∀ x S', x ∈ xs → Bx S' b (c + 1) → Fr b S S' → Q x S') → wp (callF K t [.loc b, .lst xs]) S Q
/-! ### ranges -/
theorem rngN_nat (n : Nat) : rngN 0 n 1 = n := by
  unfold rngN
  simp
theorem rngL_nat (n : Nat) : rngL 0 n 1 = (List.range n).map fun (i : Nat) => .int i := by
  unfold rngL
  rw [rngN_nat]
  simp
theorem rngL_len (n : Nat) : (rngL 0 n 1).length = n := by rw [rngL_nat]; simp
theorem rngOk_nat {n : Nat} (h : n ≤ LIM) : rngOk 0 n 1 = true := by
  unfold rngOk
  rw [rngN_nat]
  unfold LIM at *
  simp [h]
  omega
theorem cut_to {α : Type} (xs : List α) {i : Int} (h0 : 0 ≤ i) (h1 : i ≤ xs.length) : cut xs none (some i) = xs.take i.toNat := by
  unfold cut cutE
  have : ¬ i < 0 := by omega
  simp only [this, if_false, List.drop_zero, Nat.sub_zero]
  rw [Nat.min_eq_left (by omega)]
theorem cut_from {α : Type} (xs : List α) {i : Int} (h0 : 0 ≤ i) (h1 : i ≤ xs.length) : cut xs (some i) none = xs.drop i.toNat := by
  unfold cut cutE
  have : ¬ i < 0 := by omega
  simp only [this, if_false]
  rw [Nat.min_eq_left (by omega)]
  exact List.take_of_length_le (by simp)
/-! ### mixed -/
def bMixed (t : Nat) : CSs := .cons (.par [.v 2 (.bi .list (.cons false (.var 1) (.nil))), .o 3 (.lst (.nil))]) (.cons (.for (.nm 4) (.rng (.int 0) (.bi .len (.cons false (.var 1) (.nil))) 1) (.cons (.set (.nm 5) (.call t (.cons false (.var 0) (.cons false (.bi .len (.cons false (.var 2) (.nil))) (.nil))))) (.cons (.app 3 (.ix (.var 2) (.var 5))) (.cons (.set (.nm 2) (.bin .add (.sl (.var 2) (.no) (.so (.var 5))) (.sl (.var 2) (.so (.bin .add (.var 5) (.int 1))) (.no)))) (.nil))))) (.cons (.frz 3) (.cons (.ret (.var 3)) (.nil))))
theorem perm_pick {rest found rows : List DV} {r : Nat} {x : DV} (h : (found ++ rest).Perm rows) (e : rest[r]? = some x) : ((found ++ [x]) ++ (rest.take r ++ rest.drop (r + 1))).Perm rows := by
  refine List.Perm.trans ?_ h
  rw [List.append_assoc]
  refine List.Perm.append_left found ?_
  have h1 := (List.getElem?_eq_some_iff.mp e)
  have e2 : rest = rest.take r ++ x :: rest.drop (r + 1) := by
    obtain ⟨hr, hx⟩ := h1
    rw [← hx, List.getElem_cons_drop, List.take_append_drop]
  conv => rhs; rw [e2]
  show (x :: (rest.take r ++ rest.drop (r + 1))).Perm _
  exact List.perm_middle.symm
theorem mixed_ok {K : Cl} {t b c : Nat} {rows : List DV} {S : Sto} {Q : DV → Sto → Prop} (hT : TakeOk K t) (hB : Bx S b c) (hc : c + rows.length < 2 ^ 62) (h1 : rows.length < 10000) (hQ : ∀ ys S', ys.Perm rows → Bx S' b (c + rows.length) → Fr b S S' → Q (.lst ys) S') :
    wp (runD K ⟨6, bMixed t⟩ [.loc b, .lst rows]) S Q := by
  refine wp_run (ρ := [.val (.loc b), .val (.lst rows), .no, .no, .no, .no]) (by rfl) (by rfl) ?_
  unfold bMixed
  repeat (first | tm_at "go")
  refine r_and (rngOk_nat (by unfold LIM; omega)) ?_
  refine ws_loopF (fun rem ρ S' => ∃ rest found s4 s5, ρ = [.val (.loc b), .val (.lst rows), .val (.lst rest), .own (.lst found), s4, s5] ∧ rest.length = rem.length ∧ rem.length ≤ rows.length ∧ (found ++ rest).Perm rows ∧ Bx S' b (c + (rows.length - rem.length)) ∧ Fr b S S') ?_ ?_ _ _ _ ?_
  · rintro x r ρ S' ⟨rest, found, s4, s5, rfl, hl, hr, hp, hB', hF⟩
    have hpl := hp.length_eq
    simp only [List.length_cons, List.length_append] at hl hr hpl hB'
    refine ⟨by rfl, _, by rfl, ?_⟩
    simp only [List.set_cons_succ, List.set_cons_zero]
    repeat (first | tm_at "go")
    refine hT hB' (by omega) (by omega) (by omega) fun k S2 k0 k1 hB2 hF2 => ?_
    obtain ⟨x, e1, e3, e2⟩ := atO_lt k0 k1
    repeat (first | tm_at "go")
    refine Eq.mpr (ws_app (xs := found) (by rfl)) ?_
    repeat (first | tm_at "go")
    refine r_opt e1 ?_
    refine r_and (by unfold LIM; omega) ?_
    repeat (first | tm_at "go")
    rw [cut_to rest k0 (by omega), cut_from rest (i := k + 1) (by omega) (by omega)]
    refine r_and (by simp only [List.length_take, List.length_drop]; unfold LIM; omega) ?_
    repeat (first | tm_at "go")
    refine ⟨_, _, _, _, rfl, ?_, by omega, ?_, ?_, hF.trans hF2⟩
    · simp only [List.length_append, List.length_take, List.length_drop]; omega
    · have := perm_pick hp e3
      rw [show (k + 1).toNat = k.toNat + 1 by omega]
      exact this
    · exact hB2.mono (by omega)
  · rintro ρ S' ⟨rest, found, s4, s5, rfl, hl, hr, hp, hB', hF⟩
    have hz : rest = [] := List.length_eq_zero_iff.mp hl
    subst hz
    refine ⟨by rfl, ?_⟩
    repeat (first | tm_at "go")
    refine Eq.mpr (ws_frz (o := .lst found) (by rfl)) ?_
    repeat (first | tm_at "go")
    exact hQ _ _ (by simpa using hp) (by simpa using hB') hF
  · refine ⟨rows, [], _, _, rfl, ?_, ?_, by simp, ?_, Fr.rfl'⟩
    · rw [rngL_len]
    · rw [rngL_len]; exact Nat.le_refl _
    · rw [rngL_len]; simpa using hB
def MixedOk (K : Cl) (t : Nat) : Prop := ∀ {b c : Nat} {rows : List DV} {S : Sto} {Q : DV → Sto → Prop}, Bx S b c → c + rows.length < 2 ^ 62 → rows.length < 10000 → (∀ ys S', ys.Perm rows → Bx S' b (c + rows.length) → Fr b S S' → Q (.lst ys) S') → wp (callF K t [.loc b, .lst rows]) S Q
end GL
end
section
set_option Elab.async false
set_option linter.all false
set_option maxRecDepth 100000
set_option maxHeartbeats 4000000
/-! What the laws have in common: boxes, the script's cells. -/
namespace GL
open PySem (Str)
local macro_rules | `(tactic| tm_at "go") => `(tactic| first
  | ((with_reducible refine r_set (ρ' := ?_) ?_ ?_); rotate_left; (simp only [List.set_cons_succ, List.set_cons_zero]; rfl))
  | ((with_reducible refine r_par (ρ' := ?_) ?_ ?_); rotate_left; (simp only [parE, List.set_cons_succ, List.set_cons_zero]; rfl))
  | with_reducible refine nx_mk ?_
  | with_reducible refine rt_mk ?_
  | with_reducible refine bk_mk ?_
  | with_reducible refine ct_mk ?_
  | with_reducible refine r_t ?_
  | with_reducible refine r_f ?_
  | ((with_reducible refine r_opt (a := ?_) ?_ ?_); rotate_left; rfl)
  | ((with_reducible refine gE ?_); first
    | with_reducible refine Eq.mpr ev_var ?_
    | with_reducible refine Eq.mpr ev_int ?_
    | with_reducible refine Eq.mpr ev_bl ?_
    | with_reducible refine Eq.mpr ev_non ?_
    | with_reducible refine Eq.mpr ev_str ?_
    | with_reducible refine Eq.mpr ev_gl ?_
    | with_reducible refine Eq.mpr ev_bin ?_
    | with_reducible refine Eq.mpr ev_cmp ?_
    | with_reducible refine Eq.mpr ev_ix ?_
    | with_reducible refine Eq.mpr ev_call ?_
    | with_reducible refine Eq.mpr ev_bi ?_
    | with_reducible refine Eq.mpr ev_and ?_
    | with_reducible refine Eq.mpr ev_or ?_
    | with_reducible refine Eq.mpr ev_not ?_
    | with_reducible refine Eq.mpr ev_ite ?_
    | with_reducible refine Eq.mpr ev_tup ?_
    | with_reducible refine Eq.mpr ev_lst ?_
    | with_reducible refine Eq.mpr ev_sl ?_
    | with_reducible refine Eq.mpr ev_fld ?_
    | with_reducible refine Eq.mpr ev_prop ?_
    | with_reducible refine Eq.mpr ev_meth ?_
    | with_reducible refine Eq.mpr ev_new ?_
    | with_reducible refine Eq.mpr ev_isi ?_
    | with_reducible refine Eq.mpr ev_neg ?_
    | with_reducible refine Eq.mpr ev_cmp2 ?_
    | with_reducible refine Eq.mpr ev_rng ?_
    | with_reducible refine Eq.mpr ev_shr ?_
    | with_reducible refine Eq.mpr ev_comp ?_
    | with_reducible refine Eq.mpr ev_dcomp ?_
    | with_reducible refine Eq.mpr ev_rev ?_
    | with_reducible refine Eq.mpr ev_bm ?_)
  | ((with_reducible refine gs ?_); first
    | with_reducible refine Eq.mpr evs_nil ?_
    | with_reducible refine Eq.mpr evs_f ?_
    | with_reducible refine Eq.mpr evs_t ?_)
  | ((with_reducible refine gB ?_); first
    | with_reducible refine Eq.mpr wp_add ?_
    | with_reducible refine Eq.mpr wp_sub ?_
    | with_reducible refine Eq.mpr wp_mul ?_
    | with_reducible refine Eq.mpr wp_fdiv ?_
    | with_reducible refine Eq.mpr wp_mod ?_
    | with_reducible refine Eq.mpr wp_addS ?_
    | with_reducible refine Eq.mpr wp_addT ?_
    | with_reducible refine Eq.mpr wp_addL ?_)
  | ((with_reducible refine gC ?_); first
    | with_reducible refine Eq.mpr wp_eqI ?_
    | with_reducible refine Eq.mpr wp_neI ?_
    | with_reducible refine Eq.mpr wp_eqB ?_
    | with_reducible refine Eq.mpr wp_neB ?_
    | with_reducible refine Eq.mpr wp_lt ?_
    | with_reducible refine Eq.mpr wp_le ?_
    | with_reducible refine Eq.mpr wp_gt ?_
    | with_reducible refine Eq.mpr wp_ge ?_
    | with_reducible refine Eq.mpr wp_isin ?_
    | with_reducible refine Eq.mpr wp_notin ?_
    | with_reducible refine Eq.mpr wp_is ?_)
  | ((with_reducible refine gX ?_); first
    | with_reducible refine Eq.mpr wp_ixT ?_
    | with_reducible refine Eq.mpr wp_ixL ?_
    | with_reducible refine Eq.mpr wp_ixS ?_
    | with_reducible refine Eq.mpr wp_ixX ?_)
  | ((with_reducible refine gV ?_); first
    | with_reducible refine Eq.mpr wp_lenX ?_
    | with_reducible refine Eq.mpr wp_lenT ?_
    | with_reducible refine Eq.mpr wp_lenL ?_
    | with_reducible refine Eq.mpr wp_lenS ?_
    | with_reducible refine Eq.mpr wp_abs ?_
    | with_reducible refine Eq.mpr wp_int ?_
    | with_reducible refine Eq.mpr wp_intB ?_
    | with_reducible refine Eq.mpr wp_listT ?_
    | with_reducible refine Eq.mpr wp_listL ?_
    | with_reducible refine Eq.mpr wp_tupleT ?_
    | with_reducible refine Eq.mpr wp_tupleL ?_)
  | ((with_reducible refine gF ?_); first
    | with_reducible refine Eq.mpr ef_lst ?_
    | with_reducible refine Eq.mpr ef_list ?_
    | with_reducible refine Eq.mpr ef_add ?_
    | with_reducible refine Eq.mpr ef_sl ?_
    | with_reducible refine Eq.mpr ef_rng ?_
    | with_reducible refine Eq.mpr ef_or ?_
    | with_reducible refine Eq.mpr ef_comp ?_)
  | ((with_reducible refine gI ?_); first
    | with_reducible refine Eq.mpr ei_seq ?_
    | with_reducible refine Eq.mpr ei_rng ?_
    | with_reducible refine Eq.mpr ei_enum ?_
    | with_reducible refine Eq.mpr ei_zip ?_)
  | ((with_reducible refine gS ?_); first
    | with_reducible refine Eq.mpr ws_set ?_
    | with_reducible refine Eq.mpr ws_ret ?_
    | with_reducible refine Eq.mpr ws_ite ?_
    | with_reducible refine Eq.mpr ws_own ?_
    | with_reducible refine Eq.mpr ws_retn ?_
    | with_reducible refine Eq.mpr ws_par ?_
    | with_reducible refine Eq.mpr ws_ex ?_
    | with_reducible refine Eq.mpr ws_for ?_
    | with_reducible refine Eq.mpr ws_whl ?_
    | with_reducible refine Eq.mpr ws_sput ?_
    | with_reducible refine Eq.mpr ws_sapp ?_
    | with_reducible refine Eq.mpr ws_brk ?_
    | with_reducible refine Eq.mpr ws_cnt ?_
    | with_reducible refine Eq.mpr ws_pass ?_)
  | with_reducible refine Eq.mpr ws_cons ?_
  | with_reducible refine Eq.mpr ws_nil ?_
  | with_reducible refine Eq.mpr wp_tst ?_
  | with_reducible refine Eq.mpr wp_pure ?_
  | with_reducible refine Eq.mpr wp_it ?_
  | with_reducible refine Eq.mpr wp_iff ?_
  | with_reducible refine Eq.mpr wp_FLs ?_
  | with_reducible refine Eq.mpr wp_FDs ?_
  | with_reducible refine Eq.mpr wp_bind ?_
  | with_reducible refine Eq.mpr evo_no ?_
  | with_reducible refine Eq.mpr evo_so ?_
  | with_reducible refine Eq.mpr wp_slX ?_
  | with_reducible refine Eq.mpr wp_slT ?_
  | with_reducible refine Eq.mpr wp_slL ?_
  | with_reducible refine Eq.mpr wp_slS ?_
  | with_reducible refine Eq.mpr epv_nil ?_
  | with_reducible refine Eq.mpr epv_v ?_
  | with_reducible refine Eq.mpr epv_o ?_
  | with_reducible refine Eq.mpr ec_nil ?_
  | with_reducible refine Eq.mpr ec_cons ?_
  | with_reducible refine Eq.mpr eg_one ?_
  | with_reducible refine Eq.mpr eg_two ?_
  | with_reducible refine Eq.mpr wp_fldD ?_
  | with_reducible refine Eq.mpr wp_augI ?_
  | with_reducible refine Eq.mpr wp_augS ?_
  | ((with_reducible refine r_lt ?_ ?_); rfl)
  | ((with_reducible refine r_lim ?_ ?_); rfl)
  | ((with_reducible refine r_all ?_ ?_); rfl))
def bBox (z : Int) : CSs := .cons (.set (.nm 2) (.ite (.cmp .lt (.var 1) (.bi .len (.cons false (.var 0) (.nil)))) (.ix (.var 0) (.var 1)) (.int 0))) (.cons (.ret (.shr (.lst (.cons false (.bin .mul (.bi .abs (.cons false (.var 2) (.nil))) (.bi .int (.cons false (.cmp .ge (.bi .abs (.cons false (.var 2) (.nil))) (.bin .pow (.int 10) (.int 18))) (.nil)))) (.cons false (.bin .add (.bin .add (.bin .mod (.bi .int (.cons false (.var 2) (.nil))) (.int 2305843009213693951)) (.bin .mul (.int 39373) (.var 1))) (.int z)) (.cons false (.int 0) (.nil))))))) (.nil))
theorem box_ok {K : Cl} {z : Int} {k : Nat} {ms : List Int} {S : Sto} {Q : DV → Sto → Prop} (hk : k < ms.length) (hm : ms.length ≤ 1000) (hQ : ∀ w, Bx (S ++ [w]) S.length 0 → Q (.loc S.length) (S ++ [w])) :
    wp (runD K ⟨3, bBox z⟩ [.lst (ms.map .int), .int k]) S Q := by
  refine wp_run (ρ := [.val (.lst (ms.map .int)), .val (.int k), .no]) (by rfl) (by rfl) ?_
  unfold bBox
  repeat (first | tm_at "go")
  refine r_dec (fun _ => ?_) (fun h => absurd (show (k : Int) < ((ms.map DV.int).length : Int) by simp; omega) h)
  repeat (first | tm_at "go")
  obtain ⟨x, e1, e2, _⟩ := atO_lt (xs := ms.map DV.int) (i := k) (by omega) (by simp; omega)
  obtain ⟨m, rfl⟩ : ∃ m, x = .int m := by
    rw [List.getElem?_map] at e2
    cases h : ms[((k : Int)).toNat]? with
    | none => rw [h] at e2; cases e2
    | some m => rw [h] at e2; cases e2; exact ⟨m, rfl⟩
  refine r_opt e1 ?_
  repeat (first | tm_at "go")
  refine mulR (by split <;> omega) ?_
  repeat (first | tm_at "go" | ((with_reducible refine mulR ?_ ?_); omega) | ((with_reducible refine r_and ?_ ?_); omega))
  exact hQ _ ⟨_, _, 0, get_new, by omega, by omega⟩
def bCells : CSs := .cons (.own 2 (.or (.bi .list (.sl (.var 0) (.no) (.so (.var 1)))) (.lst (.cons false (.int 0) (.nil))))) (.cons (.for (.tp [(.nm 3), (.nm 4)]) (.enum (.sl (.var 0) (.so (.var 1)) (.so (.int 63)))) (.cons (.set (.nm 5) (.bin .mod (.bi .int (.cons false (.var 3) (.nil))) (.var 1))) (.cons (.put 2 (.var 5) (.bin .add (.pkx 2 (.var 5)) (.bin .mul (.var 4) (.bin .add (.var 3) (.int 2))))) (.nil)))) (.cons (.frz 2) (.cons (.ret (.var 2)) (.nil))))
theorem cut_map {α β : Type} (f : α → β) (xs : List α) (a b : Option Int) : cut (xs.map f) a b = (cut xs a b).map f := by
  unfold cut
  simp [List.map_drop, List.map_take]
theorem putO_ints {ms : List Int} {i v : Int} (h0 : 0 ≤ i) (h1 : i < ms.length) : putO (.lst (ms.map .int)) (.int i) (.int v) = some (.lst ((ms.set i.toNat v).map .int)) := by
  unfold putO ixO
  simp [h0, h1]
theorem atO_ints {ms : List Int} {i : Int} (h0 : 0 ≤ i) (h1 : i < ms.length) : ∃ v, atO (ms.map DV.int) i = some (.int v) := by
  have h2 : i.toNat < ms.length := by omega
  refine ⟨ms[i.toNat], ?_⟩
  unfold atO ixO
  simp [h0, h1, h2]
theorem cells_ok {K : Cl} {ns : List Int} {S : Sto} {Q : DV → Sto → Prop} {m : Int} (hn : ns.length ≤ 63) (m0 : 0 < m) (m1 : m ≤ 63) (hQ : ∀ ms : List Int, 0 < ms.length → ms.length ≤ m → Q (.lst (ms.map .int)) S) :
    wp (runD K ⟨6, bCells⟩ [.scr (ns.map .int), .int m]) S Q := by
  refine wp_run (ρ := [.val (.scr (ns.map .int)), .val (.int m), .no, .no, .no, .no]) (by rfl) (by rfl) ?_
  unfold bCells
  repeat (first | tm_at "go")
  rw [cut_map]
  have hcl : (cut ns none (some m)).length ≤ m ∧ (3 < ns.length ∨ True) := by
    refine ⟨?_, .inr trivial⟩
    unfold cut cutE
    have : ¬ m < 0 := by omega
    simp only [this, if_false, List.drop_zero, Nat.sub_zero, List.length_take]
    omega
  have hcm : ∀ j, (m.toNat + j < ns.length) → (cut ns none (some m)).length = m.toNat := fun j hj => by
    unfold cut cutE
    have : ¬ m < 0 := by omega
    simp only [this, if_false, List.drop_zero, Nat.sub_zero, List.length_take]
    omega
  generalize hc0 : cut ns none (some m) = c0 at hcl hcm ⊢
  have key : ∀ (own : List Int), 0 < own.length → own.length ≤ m → (∀ j, m.toNat + j < ns.length → own.length = m.toNat) →
      ws (evSs K (.cons (.for (.tp [(.nm 3), (.nm 4)]) (.enum (.sl (.var 0) (.so (.var 1)) (.so (.int 63)))) (.cons (.set (.nm 5) (.bin .mod (.bi .int (.cons false (.var 3) (.nil))) (.var 1))) (.cons (.put 2 (.var 5) (.bin .add (.pkx 2 (.var 5)) (.bin .mul (.var 4) (.bin .add (.var 3) (.int 2))))) (.nil)))) (.cons (.frz 2) (.cons (.ret (.var 2)) (.nil))))
        [.val (.scr (ns.map .int)), .val (.int m), .own (.lst (own.map .int)), .no, .no, .no] S) ⟨fun _ S' => Q .non S', Q, fun _ _ => False, fun _ _ => False⟩ := by
    intro own o0 o1 o2
    repeat (first | tm_at "go")
    rw [cut_map]
    have hl2 : (cut ns (some m) (some 63)).length ≤ 63 ∧ ((cut ns (some m) (some 63)).length ≠ 0 → m.toNat + 0 < ns.length) := by
      unfold cut cutE
      have : ¬ m < 0 := by omega
      simp only [this, if_false, List.length_take, List.length_drop]
      omega
    generalize cut ns (some m) (some 63) = r0 at hl2 ⊢
    refine ws_loopF (fun rem ρ S' => ∃ (j : Nat) (l own : List Int) (s3 s4 s5 : Slot), rem = enumL j (l.map .int) ∧ j + l.length ≤ 63 ∧ ρ = [.val (.scr (ns.map .int)), .val (.int m), .own (.lst (own.map .int)), s3, s4, s5] ∧ 0 < own.length ∧ own.length ≤ m ∧ (l ≠ [] → own.length = m.toNat) ∧ S' = S) ?_ ?_ _ _ _ ?_
    · rintro x r ρ S' ⟨j, l, own, s3, s4, s5, e, hj, rfl, w0, w1, w2, rfl⟩
      rcases l with _ | ⟨v, l⟩
      · cases e
      · have e : x :: r = .tup [.int j, .int v] :: enumL (j + 1) (l.map .int) := e
        cases e
        have w3 : own.length = m.toNat := w2 (by simp)
        simp only [List.length_cons] at hj
        refine ⟨by rfl, _, by rfl, ?_⟩
        simp only [List.set_cons_succ, List.set_cons_zero]
        repeat (first | tm_at "go" | ((with_reducible refine r_and ?_ ?_); omega))
        have p0 : 0 ≤ (j : Int) % m := Int.emod_nonneg _ (by omega)
        have p1 : (j : Int) % m < own.length := by have := Int.emod_lt_of_pos (j : Int) m0; omega
        refine Eq.mpr (ws_put (o := .lst (own.map .int)) (by rfl)) ?_
        repeat (first | tm_at "go")
        refine Eq.mpr (ev_pkx (xs := own.map .int) (by rfl)) ?_
        repeat (first | tm_at "go")
        obtain ⟨u, hu⟩ := atO_ints (ms := own) p0 p1
        refine r_opt hu ?_
        repeat (first | tm_at "go" | ((with_reducible refine mulR ?_ ?_); omega))
        refine r_opt (putO_ints p0 p1) ?_
        repeat (first | tm_at "go")
        exact ⟨j + 1, l, _, _, _, _, rfl, by omega, rfl, by simpa using w0, by simpa using w1, fun _ => by simpa using w3, rfl⟩
    · rintro ρ S' ⟨j, l, own, s3, s4, s5, e, hj, rfl, w0, w1, w2, rfl⟩
      refine ⟨by rfl, ?_⟩
      repeat (first | tm_at "go")
      refine Eq.mpr (ws_frz (o := .lst (own.map .int)) (by rfl)) ?_
      repeat (first | tm_at "go")
      exact hQ own w0 w1
    · exact ⟨0, r0, own, _, _, _, rfl, by omega, rfl, o0, o1, fun h => o2 0 (hl2.2 (fun z => h (List.length_eq_zero_iff.mp z))), rfl⟩
  cases c0 with
  | nil =>
    refine r_ifp (by rfl) ?_
    iterate 8 (tm_at "go")
    exact key [0] (by simp) (by simp; omega) (fun j hj => by have := hcm j hj; simp at this; omega)
  | cons a c0 =>
    refine r_ifn (by simp) ?_
    iterate 3 (tm_at "go")
    exact key (a :: c0) (by simp) hcl.1 hcm
end GL
end
section
set_option Elab.async false
set_option linter.all false
set_option maxRecDepth 100000
set_option maxHeartbeats 4000000
/-! What the laws have in common: names. -/
namespace GL
open PySem (Str)
local macro_rules | `(tactic| tm_at "go") => `(tactic| first
  | ((with_reducible refine r_set (ρ' := ?_) ?_ ?_); rotate_left; (simp only [List.set_cons_succ, List.set_cons_zero]; rfl))
  | ((with_reducible refine r_par (ρ' := ?_) ?_ ?_); rotate_left; (simp only [parE, List.set_cons_succ, List.set_cons_zero]; rfl))
  | with_reducible refine nx_mk ?_
  | with_reducible refine rt_mk ?_
  | with_reducible refine bk_mk ?_
  | with_reducible refine ct_mk ?_
  | with_reducible refine r_t ?_
  | with_reducible refine r_f ?_
  | ((with_reducible refine r_opt (a := ?_) ?_ ?_); rotate_left; rfl)
  | ((with_reducible refine gE ?_); first
    | with_reducible refine Eq.mpr ev_var ?_
    | with_reducible refine Eq.mpr ev_int ?_
    | with_reducible refine Eq.mpr ev_bl ?_
    | with_reducible refine Eq.mpr ev_non ?_
    | with_reducible refine Eq.mpr ev_str ?_
    | with_reducible refine Eq.mpr ev_gl ?_
    | with_reducible refine Eq.mpr ev_bin ?_
    | with_reducible refine Eq.mpr ev_cmp ?_
    | with_reducible refine Eq.mpr ev_ix ?_
    | with_reducible refine Eq.mpr ev_call ?_
    | with_reducible refine Eq.mpr ev_bi ?_
    | with_reducible refine Eq.mpr ev_and ?_
    | with_reducible refine Eq.mpr ev_or ?_
    | with_reducible refine Eq.mpr ev_not ?_
    | with_reducible refine Eq.mpr ev_ite ?_
    | with_reducible refine Eq.mpr ev_tup ?_
    | with_reducible refine Eq.mpr ev_lst ?_
    | with_reducible refine Eq.mpr ev_sl ?_
    | with_reducible refine Eq.mpr ev_fld ?_
    | with_reducible refine Eq.mpr ev_prop ?_
    | with_reducible refine Eq.mpr ev_meth ?_
    | with_reducible refine Eq.mpr ev_new ?_
    | with_reducible refine Eq.mpr ev_isi ?_
    | with_reducible refine Eq.mpr ev_neg ?_
    | with_reducible refine Eq.mpr ev_cmp2 ?_
    | with_reducible refine Eq.mpr ev_rng ?_
    | with_reducible refine Eq.mpr ev_shr ?_
    | with_reducible refine Eq.mpr ev_comp ?_
    | with_reducible refine Eq.mpr ev_dcomp ?_
    | with_reducible refine Eq.mpr ev_rev ?_
    | with_reducible refine Eq.mpr ev_bm ?_)
  | ((with_reducible refine gs ?_); first
    | with_reducible refine Eq.mpr evs_nil ?_
    | with_reducible refine Eq.mpr evs_f ?_
    | with_reducible refine Eq.mpr evs_t ?_)
  | ((with_reducible refine gB ?_); first
    | with_reducible refine Eq.mpr wp_add ?_
    | with_reducible refine Eq.mpr wp_sub ?_
    | with_reducible refine Eq.mpr wp_mul ?_
    | with_reducible refine Eq.mpr wp_fdiv ?_
    | with_reducible refine Eq.mpr wp_mod ?_
    | with_reducible refine Eq.mpr wp_addS ?_
    | with_reducible refine Eq.mpr wp_addT ?_
    | with_reducible refine Eq.mpr wp_addL ?_)
  | ((with_reducible refine gC ?_); first
    | with_reducible refine Eq.mpr wp_eqI ?_
    | with_reducible refine Eq.mpr wp_neI ?_
    | with_reducible refine Eq.mpr wp_eqB ?_
    | with_reducible refine Eq.mpr wp_neB ?_
    | with_reducible refine Eq.mpr wp_lt ?_
    | with_reducible refine Eq.mpr wp_le ?_
    | with_reducible refine Eq.mpr wp_gt ?_
    | with_reducible refine Eq.mpr wp_ge ?_
    | with_reducible refine Eq.mpr wp_isin ?_
    | with_reducible refine Eq.mpr wp_notin ?_
    | with_reducible refine Eq.mpr wp_is ?_)
  | ((with_reducible refine gX ?_); first
    | with_reducible refine Eq.mpr wp_ixT ?_
    | with_reducible refine Eq.mpr wp_ixL ?_
    | with_reducible refine Eq.mpr wp_ixS ?_
    | with_reducible refine Eq.mpr wp_ixX ?_)
  | ((with_reducible refine gV ?_); first
    | with_reducible refine Eq.mpr wp_lenX ?_
    | with_reducible refine Eq.mpr wp_lenT ?_
    | with_reducible refine Eq.mpr wp_lenL ?_
    | with_reducible refine Eq.mpr wp_lenS ?_
    | with_reducible refine Eq.mpr wp_abs ?_
    | with_reducible refine Eq.mpr wp_int ?_
    | with_reducible refine Eq.mpr wp_intB ?_
    | with_reducible refine Eq.mpr wp_listT ?_
    | with_reducible refine Eq.mpr wp_listL ?_
    | with_reducible refine Eq.mpr wp_tupleT ?_
    | with_reducible refine Eq.mpr wp_tupleL ?_)
  | ((with_reducible refine gF ?_); first
    | with_reducible refine Eq.mpr ef_lst ?_
    | with_reducible refine Eq.mpr ef_list ?_
    | with_reducible refine Eq.mpr ef_add ?_
    | with_reducible refine Eq.mpr ef_sl ?_
    | with_reducible refine Eq.mpr ef_rng ?_
    | with_reducible refine Eq.mpr ef_or ?_
    | with_reducible refine Eq.mpr ef_comp ?_)
  | ((with_reducible refine gI ?_); first
    | with_reducible refine Eq.mpr ei_seq ?_
    | with_reducible refine Eq.mpr ei_rng ?_
    | with_reducible refine Eq.mpr ei_enum ?_
    | with_reducible refine Eq.mpr ei_zip ?_)
  | ((with_reducible refine gS ?_); first
    | with_reducible refine Eq.mpr ws_set ?_
    | with_reducible refine Eq.mpr ws_ret ?_
    | with_reducible refine Eq.mpr ws_ite ?_
    | with_reducible refine Eq.mpr ws_own ?_
    | with_reducible refine Eq.mpr ws_retn ?_
    | with_reducible refine Eq.mpr ws_par ?_
    | with_reducible refine Eq.mpr ws_ex ?_
    | with_reducible refine Eq.mpr ws_for ?_
    | with_reducible refine Eq.mpr ws_whl ?_
    | with_reducible refine Eq.mpr ws_sput ?_
    | with_reducible refine Eq.mpr ws_sapp ?_
    | with_reducible refine Eq.mpr ws_brk ?_
    | with_reducible refine Eq.mpr ws_cnt ?_
    | with_reducible refine Eq.mpr ws_pass ?_)
  | with_reducible refine Eq.mpr ws_cons ?_
  | with_reducible refine Eq.mpr ws_nil ?_
  | with_reducible refine Eq.mpr wp_tst ?_
  | with_reducible refine Eq.mpr wp_pure ?_
  | with_reducible refine Eq.mpr wp_it ?_
  | with_reducible refine Eq.mpr wp_iff ?_
  | with_reducible refine Eq.mpr wp_FLs ?_
  | with_reducible refine Eq.mpr wp_FDs ?_
  | with_reducible refine Eq.mpr wp_bind ?_
  | with_reducible refine Eq.mpr evo_no ?_
  | with_reducible refine Eq.mpr evo_so ?_
  | with_reducible refine Eq.mpr wp_slX ?_
  | with_reducible refine Eq.mpr wp_slT ?_
  | with_reducible refine Eq.mpr wp_slL ?_
  | with_reducible refine Eq.mpr wp_slS ?_
  | with_reducible refine Eq.mpr epv_nil ?_
  | with_reducible refine Eq.mpr epv_v ?_
  | with_reducible refine Eq.mpr epv_o ?_
  | with_reducible refine Eq.mpr ec_nil ?_
  | with_reducible refine Eq.mpr ec_cons ?_
  | with_reducible refine Eq.mpr eg_one ?_
  | with_reducible refine Eq.mpr eg_two ?_
  | with_reducible refine Eq.mpr wp_fldD ?_
  | with_reducible refine Eq.mpr wp_augI ?_
  | with_reducible refine Eq.mpr wp_augS ?_
  | ((with_reducible refine r_lt ?_ ?_); rfl)
  | ((with_reducible refine r_lim ?_ ?_); rfl)
  | ((with_reducible refine r_all ?_ ?_); rfl))
def bNames (t o : Nat) : CSs := .cons (.set (.nm 2) (.str [97, 98, 99, 100, 101, 102, 103, 104, 105, 106, 107, 108, 109, 110, 111, 112, 113, 114, 115, 116, 117, 118, 119, 120, 121, 122])) (.cons (.set (.nm 3) (.bm (.str []) .join (.cons false (.comp (.ix (.var 2) (.call t (.cons false (.var 0) (.cons false (.int 26) (.nil))))) (.one (.mk (.nm 10) (.rng (.int 0) (.int 8) 1) (.nil))) [("_law_k", 10)]) (.nil)))) (.cons (.par [.v 4 (.bin .add (.int 1) (.call t (.cons false (.var 0) (.cons false (.int 8) (.nil))))), .v 5 (.call t (.cons false (.var 0) (.cons false (.int 8) (.nil)))), .v 6 (.call t (.cons false (.var 0) (.cons false (.int 2) (.nil))))]) (.cons (.set (.nm 7) (.call t (.cons false (.var 0) (.cons false (.int 26) (.nil))))) (.cons (.set (.nm 8) (.call o (.cons false (.var 0) (.cons false (.lst (.cons false (.int 1) (.cons false (.int 3) (.cons false (.int 5) (.cons false (.int 7) (.cons false (.int 9) (.cons false (.int 11) (.cons false (.int 15) (.cons false (.int 17) (.cons false (.int 19) (.cons false (.int 21) (.cons false (.int 23) (.cons false (.int 25) (.nil)))))))))))))) (.nil))))) (.cons (.own 9 (.lst (.nil))) (.cons (.for (.nm 10) (.rng (.int 0) (.var 1) 1) (.cons (.set (.nm 11) (.ite (.cmp .eq (.var 6) (.int 0)) (.var 4) (.bin .add (.int 1) (.call t (.cons false (.var 0) (.cons false (.int 8) (.nil))))))) (.cons (.set (.nm 12) (.sl (.var 3) (.no) (.so (.var 11)))) (.cons (.ite (.cmp .gt (.var 6) (.int 0)) (.cons (.set (.nm 12) (.bm (.str []) .join (.cons false (.comp (.ix (.var 2) (.call t (.cons false (.var 0) (.cons false (.int 26) (.nil))))) (.one (.mk (.nm 15) (.rng (.int 0) (.var 11) 1) (.nil))) [("_law_turn", 15)]) (.nil)))) (.nil)) (.nil)) (.cons (.set (.nm 13) (.bin .mod (.bi .int (.cons false (.var 5) (.nil))) (.var 11))) (.cons (.set (.nm 14) (.ix (.var 2) (.bin .mod (.bi .int (.cons false (.bin .add (.var 7) (.bin .mul (.var 8) (.var 10))) (.nil))) (.int 26)))) (.cons (.app 9 (.bin .add (.bin .add (.sl (.var 12) (.no) (.so (.var 13))) (.var 14)) (.sl (.var 12) (.so (.bin .add (.var 13) (.int 1))) (.no)))) (.nil)))))))) (.cons (.frz 9) (.cons (.ret (.var 9)) (.nil)))))))))
def abc : List Nat := [97, 98, 99, 100, 101, 102, 103, 104, 105, 106, 107, 108, 109, 110, 111, 112, 113, 114, 115, 116, 117, 118, 119, 120, 121, 122]
theorem atO_abc {r : Int} (h0 : 0 ≤ r) (h1 : r < 26) : atO abc r = some (97 + r.toNat) := by
  obtain ⟨n, rfl⟩ : ∃ n : Nat, r = n := ⟨r.toNat, by omega⟩
  have hn : n < 26 := by omega
  clear h0 h1
  revert n
  decide
theorem joinS_one : ∀ {x : List (List Nat)}, (∀ w ∈ x, w.length = 1) → (joinS [] x).length = x.length
  | [], _ => rfl
  | [w], h => h w (by simp)
  | w :: v :: r, h => by
    have := joinS_one (x := v :: r) fun u hu => h u (List.mem_cons_of_mem _ hu)
    have hw := h w (by simp)
    simp only [joinS, List.length_append, List.length_cons, List.length_nil, hw] at this ⊢
    omega
theorem sum_one : ∀ {x : List (List Nat)}, (∀ w ∈ x, w.length = 1) → (x.map (·.length)).sum = x.length
  | [], _ => rfl
  | w :: r, h => by
    have := sum_one (x := r) fun u hu => h u (List.mem_cons_of_mem _ hu)
    have hw := h w (by simp)
    simp only [List.map_cons, List.sum_cons, List.length_cons, hw, this]; omega
/-- a drawn word -/
theorem word_ok {K : Cl} {t b c i : Nat} {n : Nat} {ρ : Env} {S : Sto} {own : List (Str × Nat)} {e : CE} {Q : DV → Sto → Prop} (hT : TakeOk K t) (hB : Bx S b c) (hc : c + n < 2 ^ 62) (hn : n ≤ 1000) (hi' : Nat.ble (i + 1) ρ.length = true) (hi2 : 2 < i) (h0 : 0 < i)
    (e0 : sget ρ 0 = some (.loc b)) (e2 : sget ρ 2 = some (.str abc)) (hw : wipeE ρ (own.map (·.2)) = ρ.set i .no) (he : ∀ S Q, wp (evE K e ρ) S Q = Q (.int n) S)
    (hQ : ∀ x S', x.length = n → Bx S' b (c + n) → Fr b S S' → Q (.str x) S') :
    wp (evE K (.bm (.str []) .join (.cons false (.comp (.ix (.var 2) (.call t (.cons false (.var 0) (.cons false (.int 26) (.nil))))) (.one (.mk (.nm i) (.rng (.int 0) e 1) (.nil))) own) (.nil))) ρ) S Q := by
  have hi : i < ρ.length := Nat.le_of_ble_eq_true hi'
  have g0 : ∀ d, sget ((ρ.set i .no).set i (.val d)) 0 = some (.loc b) := fun d => by
    unfold sget at *
    rw [List.getElem?_set_ne (by omega), List.getElem?_set_ne (by omega)]; exact e0
  have g2 : ∀ d, sget ((ρ.set i .no).set i (.val d)) 2 = some (.str abc) := fun d => by
    unfold sget at *
    rw [List.getElem?_set_ne (by omega), List.getElem?_set_ne (by omega)]; exact e2
  repeat (first | tm_at "go")
  refine r_and (by rfl) ?_
  repeat (first | tm_at "go")
  rw [he]
  repeat (first | tm_at "go")
  refine r_and (rngOk_nat (by unfold LIM; omega)) ?_
  rw [hw]
  refine wp_lc (fun rem acc S' => ∃ x : List (List Nat), acc = x.map .str ∧ (∀ w ∈ x, w.length = 1) ∧ x.length + rem.length = n ∧ Bx S' b (c + x.length) ∧ Fr b S S') ?_ ?_ _ _ _ ?_
  · rintro y r acc S' ⟨x, rfl, hx, hl, hB', hF⟩
    simp only [List.length_cons] at hl
    refine ⟨by rfl, (ρ.set i .no).set i (.val y), by simp [asg, hi], ?_⟩
    repeat (first | tm_at "go")
    refine r_opt (g2 y) ?_
    repeat (first | tm_at "go")
    refine r_opt (g0 y) ?_
    repeat (first | tm_at "go")
    refine hT hB' (by omega) (by omega) (by omega) fun k S2 k0 k1 hB2 hF2 => ?_
    repeat (first | tm_at "go")
    refine r_opt (atO_abc k0 k1) ?_
    refine r_and (show (x.map DV.str).length < LIM by rw [List.length_map]; unfold LIM; omega) ?_
    refine ⟨x ++ [[97 + k.toNat]], by simp, fun w hw => ?_, by simp; omega, ?_, hF.trans hF2⟩
    · rcases List.mem_append.mp hw with h | h
      · exact hx w h
      · simp at h; rw [h]; rfl
    · simpa [Nat.add_assoc] using hB2
  · rintro acc S' ⟨x, rfl, hx, hl, hB', hF⟩
    refine ⟨by rfl, ?_⟩
    repeat (first | tm_at "go")
    refine Eq.mpr wp_join ?_
    rw [sum_one hx]
    have hl : x.length + 0 = n := hl
    refine r_and (by show x.length + x.length * 0 ≤ LIM; unfold LIM; omega) ?_
    exact hQ _ S' (by rw [joinS_one hx]; omega) (by rw [show n = x.length by omega]; exact hB') hF
  · refine ⟨[], rfl, by simp, ?_, by simpa using hB, Fr.rfl'⟩
    show 0 + _ = n
    rw [rngL_len]; omega
/-- the i-th of the names -/
def NmOk (spot first stride : Int) (i : Nat) (w : List Nat) : Prop := 0 < w.length ∧ w.length ≤ 8 ∧ w[(spot % w.length).toNat]? = some (97 + ((first + stride * i) % 26).toNat)
theorem nm_ne {spot first stride : Int} {i j : Nat} {w : List Nat} (hs : stride ∈ ([1, 3, 5, 7, 9, 11, 15, 17, 19, 21, 23, 25] : List Int)) (hi : i < 26) (hj : j < 26) (h1 : NmOk spot first stride i w) (h2 : NmOk spot first stride j w) : i = j := by
  obtain ⟨_, _, a⟩ := h1
  obtain ⟨_, _, b⟩ := h2
  rw [a] at b
  have b := Option.some.inj b
  have m1 := Int.emod_nonneg (first + stride * i) (show (26 : Int) ≠ 0 by decide)
  have m2 := Int.emod_nonneg (first + stride * j) (show (26 : Int) ≠ 0 by decide)
  have e : (first + stride * i) % 26 = (first + stride * j) % 26 := by omega
  have e2 : (stride * i - stride * j) % 26 = 0 := by
    have := Int.emod_emod_of_dvd
    omega
  simp only [List.mem_cons, List.not_mem_nil, or_false] at hs
  rcases hs with rfl | rfl | rfl | rfl | rfl | rfl | rfl | rfl | rfl | rfl | rfl | rfl <;> omega
/-- all names so far -/
def NmsOk (spot first stride : Int) : Nat → List (List Nat) → Prop
  | _, [] => True
  | i, w :: ws => NmOk spot first stride i w ∧ NmsOk spot first stride (i + 1) ws
theorem NmsOk.app {spot first stride : Int} {w : List Nat} : ∀ {i : Nat} {ws : List (List Nat)}, NmsOk spot first stride i ws → NmOk spot first stride (i + ws.length) w → NmsOk spot first stride i (ws ++ [w])
  | i, [], _, h => ⟨by simpa using h, trivial⟩
  | i, v :: ws, h, g => ⟨h.1, NmsOk.app h.2 (by simp only [List.length_cons] at g; rw [show i + 1 + ws.length = i + (ws.length + 1) by omega]; exact g)⟩
theorem NmsOk.mem {spot first stride : Int} {w : List Nat} : ∀ {i : Nat} {ws : List (List Nat)}, NmsOk spot first stride i ws → w ∈ ws → ∃ j, i ≤ j ∧ j < i + ws.length ∧ NmOk spot first stride j w
  | i, [], _, h => by cases h
  | i, v :: ws, h, g => by
    rcases List.mem_cons.mp g with rfl | g
    · exact ⟨i, Nat.le_refl _, by simp, h.1⟩
    · obtain ⟨j, h1, h2, h3⟩ := NmsOk.mem h.2 g
      exact ⟨j, by omega, by simp only [List.length_cons]; omega, h3⟩
theorem NmsOk.nodup {spot first stride : Int} (hs : stride ∈ ([1, 3, 5, 7, 9, 11, 15, 17, 19, 21, 23, 25] : List Int)) : ∀ {i : Nat} {ws : List (List Nat)}, NmsOk spot first stride i ws → i + ws.length ≤ 26 → ws.Nodup
  | i, [], _, _ => List.nodup_nil
  | i, w :: ws, h, hl => by
    simp only [List.length_cons] at hl
    refine List.nodup_cons.mpr ⟨fun hm => ?_, NmsOk.nodup hs h.2 (by omega)⟩
    obtain ⟨j, h1, h2, h3⟩ := NmsOk.mem h.2 hm
    have := nm_ne hs (by omega) (by omega) h.1 h3
    omega

theorem names_ok {K : Cl} {t o b c n : Nat} {S : Sto} {Q : DV → Sto → Prop} (hT : TakeOk K t) (hO : OfOk K o) (hB : Bx S b c) (hc : c + 400 < 2 ^ 62) (hn : n ≤ 20) (hQ : ∀ (nl : List (List Nat)) S', nl.length = n → nl.Nodup → Bx S' b (c + 400) → Fr b S S' → Q (.lst (nl.map .str)) S') :
    wp (runD K ⟨16, bNames t o⟩ [.loc b, .int n]) S Q := by
  refine wp_run (ρ := [.val (.loc b), .val (.int n), .no, .no, .no, .no, .no, .no, .no, .no, .no, .no, .no, .no, .no, .no]) (by rfl) (by rfl) ?_
  unfold bNames
  iterate 8 (tm_at "go")
  refine word_ok (n := 8) hT hB (by omega) (by omega) (by rfl) (by decide) (by decide) (by rfl) (by rfl) (by rfl) (fun S Q => ev_int) fun stem S1 st1 hB1 hF1 => ?_
  repeat (first | tm_at "go")
  refine hT hB1 (by omega) (by omega) (by omega) fun far S2 f0 f1 hB2 hF2 => ?_
  repeat (first | tm_at "go")
  refine hT hB2 (by omega) (by omega) (by omega) fun spot S3 sp0 sp1 hB3 hF3 => ?_
  repeat (first | tm_at "go")
  refine hT hB3 (by omega) (by omega) (by omega) fun near S4 n0 n1 hB4 hF4 => ?_
  repeat (first | tm_at "go")
  refine hT hB4 (by omega) (by omega) (by omega) fun fst S5 fs0 fs1 hB5 hF5 => ?_
  repeat (first | tm_at "go")
  refine hO hB5 (by omega) (by simp) (by simp) fun str S6 hstr hB6 hF6 => ?_
  obtain ⟨stride, rfl, hst⟩ : ∃ k : Int, str = .int k ∧ k ∈ ([1, 3, 5, 7, 9, 11, 15, 17, 19, 21, 23, 25] : List Int) := by
    simp only [List.mem_cons, List.not_mem_nil, or_false] at hstr
    rcases hstr with rfl | rfl | rfl | rfl | rfl | rfl | rfl | rfl | rfl | rfl | rfl | rfl <;> exact ⟨_, rfl, by decide⟩
  have hsb : 0 < stride ∧ stride < 26 := by
    simp only [List.mem_cons, List.not_mem_nil, or_false] at hst
    omega
  have hF : Fr b S S6 := ((((hF1.trans hF2).trans hF3).trans hF4).trans hF5).trans hF6
  have hB' : Bx S6 b (c + 20) := hB6.mono (by omega)
  clear hB1 hB2 hB3 hB4 hB5 hB6 hF1 hF2 hF3 hF4 hF5 hF6
  repeat (first | tm_at "go")
  refine r_and (rngOk_nat (by unfold LIM; omega)) ?_
  refine ws_loopF (fun rem ρ S' => ∃ (i : Nat) (nl : List (List Nat)) (s10 s11 s12 s13 s14 s15 : Slot), ρ = [.val (.loc b), .val (.int n), .val (.str abc), .val (.str stem), .val (.int (1 + far)), .val (.int spot), .val (.int near), .val (.int fst), .val (.int stride), .own (.lst (nl.map .str)), s10, s11, s12, s13, s14, s15] ∧
    rem = ((List.range n).drop i).map (fun (i : Nat) => DV.int i) ∧ nl.length = i ∧ i ≤ n ∧ NmsOk spot fst stride 0 nl ∧ Bx S' b (c + 20 + 10 * i) ∧ Fr b S6 S') ?_ ?_ _ _ _ ?_
  · rintro x r ρ S7 ⟨i, nl, s10, s11, s12, s13, s14, s15, rfl, hrem, hwl, hi, hnm, hB7, hF7⟩
    have hlt : i < n := by
      by_cases h : i < n
      · exact h
      · rw [List.drop_eq_nil_of_le (by simp; omega)] at hrem; cases hrem
    rw [List.drop_eq_getElem_cons (by simpa using hlt), List.getElem_range, List.map_cons] at hrem
    cases hrem
    refine ⟨by rfl, _, by rfl, ?_⟩
    simp only [List.set_cons_succ, List.set_cons_zero]
    -- size
    have tail : ∀ (size : Int) (word : List Nat) (S8 : Sto) (s13 s14 s15 : Slot), 0 < size → size ≤ 8 → word.length = size → Bx S8 b (c + 20 + 10 * (i + 1)) → Fr b S6 S8 →
      ws (evSs K (.cons (.set (.nm 13) (.bin .mod (.bi .int (.cons false (.var 5) (.nil))) (.var 11))) (.cons (.set (.nm 14) (.ix (.var 2) (.bin .mod (.bi .int (.cons false (.bin .add (.var 7) (.bin .mul (.var 8) (.var 10))) (.nil))) (.int 26)))) (.cons (.app 9 (.bin .add (.bin .add (.sl (.var 12) (.no) (.so (.var 13))) (.var 14)) (.sl (.var 12) (.so (.bin .add (.var 13) (.int 1))) (.no)))) (.nil))))
        [.val (.loc b), .val (.int n), .val (.str abc), .val (.str stem), .val (.int (1 + far)), .val (.int spot), .val (.int near), .val (.int fst), .val (.int stride), .own (.lst (nl.map .str)), .val (.int i), .val (.int size), .val (.str word), s13, s14, s15] S8)
        ⟨fun ρ S' => ∃ (i' : Nat) (nl : List (List Nat)) (s10 s11 s12 s13 s14 s15 : Slot), ρ = [.val (.loc b), .val (.int n), .val (.str abc), .val (.str stem), .val (.int (1 + far)), .val (.int spot), .val (.int near), .val (.int fst), .val (.int stride), .own (.lst (nl.map .str)), s10, s11, s12, s13, s14, s15] ∧
          ((List.range n).drop (i + 1)).map (fun (i : Nat) => DV.int i) = ((List.range n).drop i').map (fun (i : Nat) => DV.int i) ∧ nl.length = i' ∧ i' ≤ n ∧ NmsOk spot fst stride 0 nl ∧ Bx S' b (c + 20 + 10 * i') ∧ Fr b S6 S', fun _ _ => False, fun _ _ => False, fun _ _ => False⟩ := by
      intro size word S8 s13 s14 s15 z0 z1 zw hB8 hF8
      have p0 : 0 ≤ spot % size := Int.emod_nonneg _ (by omega)
      have p1 : spot % size < size := Int.emod_lt_of_pos _ z0
      have q0 : 0 ≤ (fst + stride * i) % 26 := Int.emod_nonneg _ (by omega)
      have q1 : (fst + stride * i) % 26 < 26 := Int.emod_lt_of_pos _ (by omega)
      repeat (first | tm_at "go" | ((with_reducible refine r_and ?_ ?_); omega) | ((with_reducible refine mulL ?_ ?_); omega))
      refine r_opt (atO_abc q0 q1) ?_
      repeat (first | tm_at "go")
      refine Eq.mpr (ws_app (xs := nl.map .str) (by rfl)) ?_
      repeat (first | tm_at "go")
      rw [cut_to word p0 (by omega)]
      refine r_and (by simp only [List.length_take, List.length_cons, List.length_nil]; unfold LIM; omega) ?_
      repeat (first | tm_at "go")
      rw [cut_from word (i := spot % size + 1) (by omega) (by omega)]
      refine r_and (by simp only [List.length_take, List.length_drop, List.length_append, List.length_cons, List.length_nil]; unfold LIM; omega) ?_
      refine r_and (show (nl.map DV.str).length < LIM by rw [List.length_map]; unfold LIM; omega) ?_
      repeat (first | tm_at "go")
      have hnew : NmOk spot fst stride i (word.take (spot % size).toNat ++ [97 + ((fst + stride * i) % 26).toNat] ++ word.drop (spot % size + 1).toNat) := by
        have hl : ((word.take (spot % size).toNat ++ [97 + ((fst + stride * i) % 26).toNat] ++ word.drop (spot % size + 1).toNat).length : Int) = size := by
          simp only [List.length_take, List.length_drop, List.length_append, List.length_cons, List.length_nil]
          omega
        refine ⟨by omega, by omega, ?_⟩
        rw [hl, List.append_assoc, List.getElem?_append_right (by simp only [List.length_take]; omega)]
        simp only [List.length_take]
        rw [show (spot % size).toNat - min (spot % size).toNat word.length = 0 by omega]
        rfl
      refine ⟨i + 1, nl ++ [word.take (spot % size).toNat ++ [97 + ((fst + stride * i) % 26).toNat] ++ word.drop (spot % size + 1).toNat], .val (.int i), .val (.int size), .val (.str word), .val (.int (spot % size)), .val (.str [97 + ((fst + stride * i) % 26).toNat]), s15, ?_, rfl, by rw [List.length_append, hwl]; rfl, by omega, hnm.app (by rw [hwl, Nat.zero_add]; exact hnew), hB8, hF8⟩
      rw [List.map_append]
      rfl
    -- the size, the word
    rcases (show near = 0 ∨ near = 1 by omega) with rfl | rfl
    · repeat (first | tm_at "go")
      refine r_ifp (by rfl) ?_
      repeat (first | tm_at "go")
      rw [cut_to stem (i := 1 + far) (by omega) (by omega)]
      refine r_ifn (by decide) ?_
      exact Eq.mpr ws_nil (ws_mono (tail (1 + far) (stem.take (1 + far).toNat) S7 s13 s14 s15 (by omega) (by omega) (by simp only [List.length_take]; omega) (hB7.mono (by omega)) hF7) (fun ρ S' h => h) (fun d S' h => h.elim) (fun ρ S' h => h.elim) (fun ρ S' h => h.elim))
    · repeat (first | tm_at "go")
      refine r_ifn (by decide) ?_
      repeat (first | tm_at "go")
      refine hT hB7 (by omega) (by omega) (by omega) fun sz S8 z0 z1 hB8 hF8 => ?_
      obtain ⟨m, rfl⟩ : ∃ m : Nat, sz = m := ⟨sz.toNat, by omega⟩
      repeat (first | tm_at "go")
      refine r_ifp (by decide) ?_
      iterate 2 (tm_at "go")
      refine word_ok (n := 1 + m) hT hB8 (by omega) (by omega) (by rfl) (by decide) (by decide) (by rfl) (by rfl) (by rfl) (fun S Q => by rw [ev_var]; rfl) fun word S9 w1 hB9 hF9 => ?_
      iterate 3 (tm_at "go")
      exact Eq.mpr ws_nil (ws_mono (tail (1 + m) word S9 s13 s14 s15 (by omega) (by omega) (by omega) (hB9.mono (by omega)) ((hF7.trans hF8).trans hF9)) (fun ρ S' h => h) (fun d S' h => h.elim) (fun ρ S' h => h.elim) (fun ρ S' h => h.elim))
  · rintro ρ S' ⟨i, nl, s10, s11, s12, s13, s14, s15, rfl, hrem, hwl, hi, hnm, hB7, hF7⟩
    have hin : i = n := by
      have := congrArg List.length hrem
      simp at this
      omega
    refine ⟨by rfl, ?_⟩
    repeat (first | tm_at "go")
    refine Eq.mpr (ws_frz (o := .lst (nl.map .str)) (by rfl)) ?_
    repeat (first | tm_at "go")
    exact hQ nl S' (by omega) (hnm.nodup hst (by omega)) (hB7.mono (by omega)) (hF.trans hF7)
  · exact ⟨0, [], _, _, _, _, _, _, rfl, by rw [rngL_nat]; rfl, rfl, by omega, trivial, by simpa using hB', Fr.rfl'⟩
def NamesOk (K : Cl) (t : Nat) : Prop := ∀ {b c n : Nat} {S : Sto} {Q : DV → Sto → Prop}, Bx S b c → c + 400 < 2 ^ 62 → n ≤ 20 → (∀ (nl : List (List Nat)) S', nl.length = n → nl.Nodup → Bx S' b (c + 400) → Fr b S S' → Q (.lst (nl.map .str)) S') → wp (callF K t [.loc b, .int n]) S Q
end GL
end
section
set_option Elab.async false
set_option linter.all false
set_option maxRecDepth 100000
set_option maxHeartbeats 4000000
/-! What the laws have in common: the same, lists for tuples. -/
namespace GL
open PySem (Str)
local macro_rules | `(tactic| tm_at "go") => `(tactic| first
  | ((with_reducible refine r_set (ρ' := ?_) ?_ ?_); rotate_left; (simp only [List.set_cons_succ, List.set_cons_zero]; rfl))
  | ((with_reducible refine r_par (ρ' := ?_) ?_ ?_); rotate_left; (simp only [parE, List.set_cons_succ, List.set_cons_zero]; rfl))
  | with_reducible refine nx_mk ?_
  | with_reducible refine rt_mk ?_
  | with_reducible refine bk_mk ?_
  | with_reducible refine ct_mk ?_
  | with_reducible refine r_t ?_
  | with_reducible refine r_f ?_
  | ((with_reducible refine r_opt (a := ?_) ?_ ?_); rotate_left; rfl)
  | ((with_reducible refine gE ?_); first
    | with_reducible refine Eq.mpr ev_var ?_
    | with_reducible refine Eq.mpr ev_int ?_
    | with_reducible refine Eq.mpr ev_bl ?_
    | with_reducible refine Eq.mpr ev_non ?_
    | with_reducible refine Eq.mpr ev_str ?_
    | with_reducible refine Eq.mpr ev_gl ?_
    | with_reducible refine Eq.mpr ev_bin ?_
    | with_reducible refine Eq.mpr ev_cmp ?_
    | with_reducible refine Eq.mpr ev_ix ?_
    | with_reducible refine Eq.mpr ev_call ?_
    | with_reducible refine Eq.mpr ev_bi ?_
    | with_reducible refine Eq.mpr ev_and ?_
    | with_reducible refine Eq.mpr ev_or ?_
    | with_reducible refine Eq.mpr ev_not ?_
    | with_reducible refine Eq.mpr ev_ite ?_
    | with_reducible refine Eq.mpr ev_tup ?_
    | with_reducible refine Eq.mpr ev_lst ?_
    | with_reducible refine Eq.mpr ev_sl ?_
    | with_reducible refine Eq.mpr ev_fld ?_
    | with_reducible refine Eq.mpr ev_prop ?_
    | with_reducible refine Eq.mpr ev_meth ?_
    | with_reducible refine Eq.mpr ev_new ?_
    | with_reducible refine Eq.mpr ev_is ?_
    | with_reducible refine Eq.mpr ev_neg ?_
    | with_reducible refine Eq.mpr ev_cmp2 ?_
    | with_reducible refine Eq.mpr ev_rng ?_
    | with_reducible refine Eq.mpr ev_shr ?_
    | with_reducible refine Eq.mpr ev_comp ?_
    | with_reducible refine Eq.mpr ev_dcomp ?_
    | with_reducible refine Eq.mpr ev_rev ?_
    | with_reducible refine Eq.mpr ev_bm ?_)
  | ((with_reducible refine gs ?_); first
    | with_reducible refine Eq.mpr evs_nil ?_
    | with_reducible refine Eq.mpr evs_f ?_
    | with_reducible refine Eq.mpr evs_t ?_)
  | ((with_reducible refine gB ?_); first
    | with_reducible refine Eq.mpr wp_add ?_
    | with_reducible refine Eq.mpr wp_sub ?_
    | with_reducible refine Eq.mpr wp_mul ?_
    | with_reducible refine Eq.mpr wp_fdiv ?_
    | with_reducible refine Eq.mpr wp_mod ?_
    | with_reducible refine Eq.mpr wp_addS ?_
    | with_reducible refine Eq.mpr wp_addT ?_
    | with_reducible refine Eq.mpr wp_addL ?_)
  | ((with_reducible refine gC ?_); first
    | with_reducible refine Eq.mpr wp_eqI ?_
    | with_reducible refine Eq.mpr wp_neI ?_
    | with_reducible refine Eq.mpr wp_eqB ?_
    | with_reducible refine Eq.mpr wp_neB ?_
    | with_reducible refine Eq.mpr wp_lt ?_
    | with_reducible refine Eq.mpr wp_le ?_
    | with_reducible refine Eq.mpr wp_gt ?_
    | with_reducible refine Eq.mpr wp_ge ?_
    | with_reducible refine Eq.mpr wp_isin ?_
    | with_reducible refine Eq.mpr wp_notin ?_
    | with_reducible refine Eq.mpr wp_is ?_)
  | ((with_reducible refine gX ?_); first
    | with_reducible refine Eq.mpr wp_ixT ?_
    | with_reducible refine Eq.mpr wp_ixL ?_
    | with_reducible refine Eq.mpr wp_ixS ?_
    | with_reducible refine Eq.mpr wp_ixX ?_)
  | ((with_reducible refine gV ?_); first
    | with_reducible refine Eq.mpr wp_lenX ?_
    | with_reducible refine Eq.mpr wp_lenT ?_
    | with_reducible refine Eq.mpr wp_lenL ?_
    | with_reducible refine Eq.mpr wp_lenS ?_
    | with_reducible refine Eq.mpr wp_abs ?_
    | with_reducible refine Eq.mpr wp_int ?_
    | with_reducible refine Eq.mpr wp_intB ?_
    | with_reducible refine Eq.mpr wp_listT ?_
    | with_reducible refine Eq.mpr wp_listL ?_
    | with_reducible refine Eq.mpr wp_tupleT ?_
    | with_reducible refine Eq.mpr wp_tupleL ?_)
  | ((with_reducible refine gF ?_); first
    | with_reducible refine Eq.mpr ef_lst ?_
    | with_reducible refine Eq.mpr ef_list ?_
    | with_reducible refine Eq.mpr ef_add ?_
    | with_reducible refine Eq.mpr ef_sl ?_
    | with_reducible refine Eq.mpr ef_rng ?_
    | with_reducible refine Eq.mpr ef_or ?_
    | with_reducible refine Eq.mpr ef_comp ?_)
  | ((with_reducible refine gI ?_); first
    | with_reducible refine Eq.mpr ei_seq ?_
    | with_reducible refine Eq.mpr ei_rng ?_
    | with_reducible refine Eq.mpr ei_enum ?_
    | with_reducible refine Eq.mpr ei_zip ?_)
  | ((with_reducible refine gS ?_); first
    | with_reducible refine Eq.mpr ws_set ?_
    | with_reducible refine Eq.mpr ws_ret ?_
    | with_reducible refine Eq.mpr ws_ite ?_
    | with_reducible refine Eq.mpr ws_own ?_
    | with_reducible refine Eq.mpr ws_retn ?_
    | with_reducible refine Eq.mpr ws_par ?_
    | with_reducible refine Eq.mpr ws_ex ?_
    | with_reducible refine Eq.mpr ws_for ?_
    | with_reducible refine Eq.mpr ws_whl ?_
    | with_reducible refine Eq.mpr ws_sput ?_
    | with_reducible refine Eq.mpr ws_sapp ?_
    | with_reducible refine Eq.mpr ws_brk ?_
    | with_reducible refine Eq.mpr ws_cnt ?_
    | with_reducible refine Eq.mpr ws_pass ?_)
  | with_reducible refine Eq.mpr ws_cons ?_
  | with_reducible refine Eq.mpr ws_nil ?_
  | with_reducible refine Eq.mpr wp_tst ?_
  | with_reducible refine Eq.mpr wp_pure ?_
  | with_reducible refine Eq.mpr wp_it ?_
  | with_reducible refine Eq.mpr wp_iff ?_
  | with_reducible refine Eq.mpr wp_FLs ?_
  | with_reducible refine Eq.mpr wp_FDs ?_
  | with_reducible refine Eq.mpr wp_bind ?_
  | with_reducible refine Eq.mpr evo_no ?_
  | with_reducible refine Eq.mpr evo_so ?_
  | with_reducible refine Eq.mpr wp_slX ?_
  | with_reducible refine Eq.mpr wp_slT ?_
  | with_reducible refine Eq.mpr wp_slL ?_
  | with_reducible refine Eq.mpr wp_slS ?_
  | with_reducible refine Eq.mpr epv_nil ?_
  | with_reducible refine Eq.mpr epv_v ?_
  | with_reducible refine Eq.mpr epv_o ?_
  | with_reducible refine Eq.mpr ec_nil ?_
  | with_reducible refine Eq.mpr ec_cons ?_
  | with_reducible refine Eq.mpr eg_one ?_
  | with_reducible refine Eq.mpr eg_two ?_
  | with_reducible refine Eq.mpr wp_fldD ?_
  | with_reducible refine Eq.mpr wp_augI ?_
  | with_reducible refine Eq.mpr wp_augS ?_
  | ((with_reducible refine r_lt ?_ ?_); rfl)
  | ((with_reducible refine r_lim ?_ ?_); rfl)
  | ((with_reducible refine r_all ?_ ?_); rfl)
  | ((with_reducible refine r_ifp ?_ ?_); decide)
  | ((with_reducible refine r_ifnb ?_ ?_); decide))
def Atom : DV → Prop
  | .non => True
  | .bl _ => True
  | .int _ => True
  | .str _ => True
  | _ => False
def Pl : Nat → DV → Prop
  | 0, d => Atom d
  | n + 1, d => Atom d ∨ ∃ xs, (d = .tup xs ∨ d = .lst xs) ∧ xs.length < 10000 ∧ ∀ x ∈ xs, Pl n x
theorem Pl.succ : ∀ {n : Nat} {d : DV}, Pl n d → Pl (n + 1) d
  | 0, d, h => .inl h
  | n + 1, d, h => by
    rcases h with h | ⟨xs, h1, h2, h3⟩
    · exact .inl h
    · exact .inr ⟨xs, h1, h2, fun x hx => Pl.succ (h3 x hx)⟩
theorem Pl.le {n m : Nat} {d : DV} (h : Pl n d) (l : n ≤ m) : Pl m d := by
  induction l with
  | refl => exact h
  | step _ ih => exact ih.succ
def bSame (s : Nat) : CSs := .cons (.ite (.isi (.var 1) [.list, .tuple]) (.cons (.ite (.or (.cmp .ne (.isi (.var 0) [.list]) (.isi (.var 1) [.list])) (.cmp .ne (.isi (.var 0) [.tuple]) (.isi (.var 1) [.tuple]))) (.cons (.ret (.bl false)) (.nil)) (.nil)) (.cons (.ret (.and (.cmp .eq (.bi .len (.cons false (.var 0) (.nil))) (.bi .len (.cons false (.var 1) (.nil)))) (.bi .all (.cons false (.comp (.call s (.cons false (.var 2) (.cons false (.var 3) (.nil)))) (.one (.mk (.tp [(.nm 2), (.nm 3)]) (.zip (.var 0) (.var 1)) (.nil))) [("_law_mine", 2), ("_law_its", 3)]) (.nil))))) (.nil))) (.nil)) (.cons (.ite (.or (.cmp .is (.var 1) (.non)) (.isi (.var 1) [.bool, .str])) (.cons (.ret (.and (.cmp .eq (.var 0) (.var 1)) (.and (.cmp .eq (.isi (.var 0) [.bool]) (.isi (.var 1) [.bool])) (.cmp .eq (.cmp .is (.var 0) (.non)) (.cmp .is (.var 1) (.non)))))) (.nil)) (.nil)) (.cons (.ret (.and (.isi (.var 0) [.int]) (.and (.not (.isi (.var 0) [.bool])) (.cmp .eq (.var 0) (.var 1))))) (.nil)))
def SameOk (K : Cl) (s n : Nat) : Prop := ∀ {d : DV} {S : Sto} {Q : DV → Sto → Prop}, Pl n d → Q (.bl true) S → wp (callF K s [d, d]) S Q
theorem rep_true (n : Nat) : (List.replicate n (DV.bl true)) = (List.replicate n true).map .bl := by simp
theorem all_true (n : Nat) : (List.replicate n true).all id = true := by simp
theorem same_zip {K : Cl} {s : Nat} {xs : List DV} {S : Sto} {ρ : Env} {Q : DV → Sto → Prop} (hS : ∀ x ∈ xs, ∀ {S : Sto} {Q : DV → Sto → Prop}, Q (.bl true) S → wp (callF K s [x, x]) S Q) (hl : xs.length < 10000) (hρ : Nat.ble 4 ρ.length = true) {w : Wk} (hw : w.src = []) (hQ : Q (.bl true) S) :
    wp (lcLoop (.tp [(.nm 2), (.nm 3)]) w (fun ρ' a => evC K .nil ρ' >>= fun k => if k then FLs K (.call s (.cons false (.var 2) (.cons false (.var 3) (.nil)))) ρ' a else pure a) (zipL xs xs) ρ []) S (fun xs S' => wp (evs K .nil ρ) S' fun ys S => wp (biD .all (.lst xs :: ys)) S Q) := by
  have hst : ∀ S, w.stays S = true := fun S => by unfold Wk.stays; rw [hw]; rfl
  have h4 : 4 ≤ ρ.length := Nat.le_of_ble_eq_true hρ
  refine wp_lc (fun rem acc S' => ∃ l, rem = zipL l l ∧ (∀ x ∈ l, x ∈ xs) ∧ ∃ n, acc = List.replicate n (.bl true) ∧ n + l.length = xs.length ∧ S' = S) ?_ ?_ _ _ _ ?_
  · rintro x r acc S' ⟨l, e, hl2, n, rfl, hn, rfl⟩
    rcases l with _ | ⟨y, l⟩
    · cases e
    · have e : x :: r = .tup [y, y] :: zipL l l := e
      cases e
      simp only [List.length_cons] at hn
      refine ⟨hst _, (ρ.set 2 (.val y)).set 3 (.val y), ?_, ?_⟩
      · simp only [asg, seqOf, asg.asgs]
        rw [if_pos (by omega)]
        simp only [List.length_set]
        rw [if_pos (by omega)]
      · repeat (first | tm_at "go")
        refine r_opt (a := y) (by unfold sget; rw [List.getElem?_set_ne (by decide), List.getElem?_set_self (by omega)]) ?_
        repeat (first | tm_at "go")
        refine r_opt (a := y) (by unfold sget; rw [List.getElem?_set_self (by simp; omega)]) ?_
        repeat (first | tm_at "go")
        refine hS y (hl2 y List.mem_cons_self) ?_
        refine r_and (by rw [List.length_replicate]; unfold LIM; omega) ?_
        exact ⟨l, rfl, fun z hz => hl2 z (List.mem_cons_of_mem _ hz), n + 1, by rw [List.replicate_succ'], by omega, rfl⟩
  · rintro acc S' ⟨l, e, hl2, n, rfl, hn, rfl⟩
    refine ⟨hst _, ?_⟩
    rw [rep_true]
    repeat (first | tm_at "go")
    refine Eq.mpr wp_all ?_
    rw [all_true]
    exact hQ
  · exact ⟨xs, rfl, fun x hx => hx, 0, rfl, by simp, rfl⟩
theorem eqv_refl_atom {d : DV} (h : Atom d) : eqv d d = true := by
  cases d <;> first | (simp [eqv]; done) | exact h.elim
theorem rsv_atom {d : DV} {S : Sto} (h : Atom d) : rsv S FU d = some d := by
  cases d <;> first | rfl | exact h.elim
theorem same_ok {K : Cl} {s n : Nat} (hS : SameOk K s n) {d : DV} {S : Sto} {Q : DV → Sto → Prop} (hd : Pl (n + 1) d) (hQ : Q (.bl true) S) : wp (runD K ⟨4, bSame s⟩ [d, d]) S Q := by
  refine wp_run (ρ := [.val d, .val d, .no, .no]) (by rfl) (by rfl) ?_
  unfold bSame
  rcases hd with hd | ⟨xs, rfl | rfl, hl, hx⟩
  · cases d with
    | non =>
      repeat (first | tm_at "go")
      exact hQ
    | bl b =>
      repeat (first | tm_at "go")
      refine r_ifp (by cases b <;> rfl) ?_
      repeat (first | tm_at "go")
      exact hQ
    | int i =>
      repeat (first | tm_at "go")
      simpa using hQ
    | str x =>
      repeat (first | tm_at "go")
      refine r_ifp (by simp [eqv]) ?_
      repeat (first | tm_at "go")
      exact hQ
    | _ => exact hd.elim
  · repeat (first | tm_at "go")
    refine r_ifp (by simp) ?_
    repeat (first | tm_at "go")
    exact same_zip (fun x h => fun q => hS (hx x h) q) hl (by rfl) rfl hQ
  · repeat (first | tm_at "go")
    refine r_ifp (by simp) ?_
    repeat (first | tm_at "go")
    exact same_zip (fun x h => fun q => hS (hx x h) q) hl (by rfl) rfl hQ
end GL
end
section
set_option Elab.async false
set_option linter.all false
set_option maxRecDepth 100000
set_option maxHeartbeats 4000000
/-! What the laws have in common: trees. -/
namespace GL
open PySem (Str)
local macro_rules | `(tactic| tm_at "go") => `(tactic| first
  | ((with_reducible refine r_set (ρ' := ?_) ?_ ?_); rotate_left; (simp only [List.set_cons_succ, List.set_cons_zero]; rfl))
  | ((with_reducible refine r_par (ρ' := ?_) ?_ ?_); rotate_left; (simp only [parE, List.set_cons_succ, List.set_cons_zero]; rfl))
  | with_reducible refine nx_mk ?_
  | with_reducible refine rt_mk ?_
  | with_reducible refine bk_mk ?_
  | with_reducible refine ct_mk ?_
  | with_reducible refine r_t ?_
  | with_reducible refine r_f ?_
  | ((with_reducible refine r_opt (a := ?_) ?_ ?_); rotate_left; rfl)
  | ((with_reducible refine gE ?_); first
    | with_reducible refine Eq.mpr ev_var ?_
    | with_reducible refine Eq.mpr ev_int ?_
    | with_reducible refine Eq.mpr ev_bl ?_
    | with_reducible refine Eq.mpr ev_non ?_
    | with_reducible refine Eq.mpr ev_str ?_
    | with_reducible refine Eq.mpr ev_gl ?_
    | with_reducible refine Eq.mpr ev_bin ?_
    | with_reducible refine Eq.mpr ev_cmp ?_
    | with_reducible refine Eq.mpr ev_ix ?_
    | with_reducible refine Eq.mpr ev_call ?_
    | with_reducible refine Eq.mpr ev_bi ?_
    | with_reducible refine Eq.mpr ev_and ?_
    | with_reducible refine Eq.mpr ev_or ?_
    | with_reducible refine Eq.mpr ev_not ?_
    | with_reducible refine Eq.mpr ev_ite ?_
    | with_reducible refine Eq.mpr ev_tup ?_
    | with_reducible refine Eq.mpr ev_lst ?_
    | with_reducible refine Eq.mpr ev_sl ?_
    | with_reducible refine Eq.mpr ev_fld ?_
    | with_reducible refine Eq.mpr ev_prop ?_
    | with_reducible refine Eq.mpr ev_meth ?_
    | with_reducible refine Eq.mpr ev_new ?_
    | with_reducible refine Eq.mpr ev_is ?_
    | with_reducible refine Eq.mpr ev_neg ?_
    | with_reducible refine Eq.mpr ev_cmp2 ?_
    | with_reducible refine Eq.mpr ev_rng ?_
    | with_reducible refine Eq.mpr ev_shr ?_
    | with_reducible refine Eq.mpr ev_comp ?_
    | with_reducible refine Eq.mpr ev_dcomp ?_
    | with_reducible refine Eq.mpr ev_rev ?_
    | with_reducible refine Eq.mpr ev_bm ?_)
  | ((with_reducible refine gs ?_); first
    | with_reducible refine Eq.mpr evs_nil ?_
    | with_reducible refine Eq.mpr evs_f ?_
    | with_reducible refine Eq.mpr evs_t ?_)
  | ((with_reducible refine gB ?_); first
    | with_reducible refine Eq.mpr wp_add ?_
    | with_reducible refine Eq.mpr wp_sub ?_
    | with_reducible refine Eq.mpr wp_mul ?_
    | with_reducible refine Eq.mpr wp_fdiv ?_
    | with_reducible refine Eq.mpr wp_mod ?_
    | with_reducible refine Eq.mpr wp_addS ?_
    | with_reducible refine Eq.mpr wp_addT ?_
    | with_reducible refine Eq.mpr wp_addL ?_)
  | ((with_reducible refine gC ?_); first
    | with_reducible refine Eq.mpr wp_eqI ?_
    | with_reducible refine Eq.mpr wp_neI ?_
    | with_reducible refine Eq.mpr wp_eqB ?_
    | with_reducible refine Eq.mpr wp_neB ?_
    | with_reducible refine Eq.mpr wp_lt ?_
    | with_reducible refine Eq.mpr wp_le ?_
    | with_reducible refine Eq.mpr wp_gt ?_
    | with_reducible refine Eq.mpr wp_ge ?_
    | with_reducible refine Eq.mpr wp_isin ?_
    | with_reducible refine Eq.mpr wp_notin ?_
    | with_reducible refine Eq.mpr wp_is ?_)
  | ((with_reducible refine gX ?_); first
    | with_reducible refine Eq.mpr wp_ixT ?_
    | with_reducible refine Eq.mpr wp_ixL ?_
    | with_reducible refine Eq.mpr wp_ixS ?_
    | with_reducible refine Eq.mpr wp_ixX ?_)
  | ((with_reducible refine gV ?_); first
    | with_reducible refine Eq.mpr wp_lenX ?_
    | with_reducible refine Eq.mpr wp_lenT ?_
    | with_reducible refine Eq.mpr wp_lenL ?_
    | with_reducible refine Eq.mpr wp_lenS ?_
    | with_reducible refine Eq.mpr wp_abs ?_
    | with_reducible refine Eq.mpr wp_int ?_
    | with_reducible refine Eq.mpr wp_intB ?_
    | with_reducible refine Eq.mpr wp_listT ?_
    | with_reducible refine Eq.mpr wp_listL ?_
    | with_reducible refine Eq.mpr wp_tupleT ?_
    | with_reducible refine Eq.mpr wp_tupleL ?_)
  | ((with_reducible refine gF ?_); first
    | with_reducible refine Eq.mpr ef_lst ?_
    | with_reducible refine Eq.mpr ef_list ?_
    | with_reducible refine Eq.mpr ef_add ?_
    | with_reducible refine Eq.mpr ef_sl ?_
    | with_reducible refine Eq.mpr ef_rng ?_
    | with_reducible refine Eq.mpr ef_or ?_
    | with_reducible refine Eq.mpr ef_comp ?_)
  | ((with_reducible refine gI ?_); first
    | with_reducible refine Eq.mpr ei_seq ?_
    | with_reducible refine Eq.mpr ei_rng ?_
    | with_reducible refine Eq.mpr ei_enum ?_
    | with_reducible refine Eq.mpr ei_zip ?_)
  | ((with_reducible refine gS ?_); first
    | with_reducible refine Eq.mpr ws_set ?_
    | with_reducible refine Eq.mpr ws_ret ?_
    | with_reducible refine Eq.mpr ws_ite ?_
    | with_reducible refine Eq.mpr ws_own ?_
    | with_reducible refine Eq.mpr ws_retn ?_
    | with_reducible refine Eq.mpr ws_par ?_
    | with_reducible refine Eq.mpr ws_ex ?_
    | with_reducible refine Eq.mpr ws_for ?_
    | with_reducible refine Eq.mpr ws_whl ?_
    | with_reducible refine Eq.mpr ws_sput ?_
    | with_reducible refine Eq.mpr ws_sapp ?_
    | with_reducible refine Eq.mpr ws_brk ?_
    | with_reducible refine Eq.mpr ws_cnt ?_
    | with_reducible refine Eq.mpr ws_pass ?_)
  | with_reducible refine Eq.mpr ws_cons ?_
  | with_reducible refine Eq.mpr ws_nil ?_
  | with_reducible refine Eq.mpr wp_tst ?_
  | with_reducible refine Eq.mpr wp_pure ?_
  | with_reducible refine Eq.mpr wp_it ?_
  | with_reducible refine Eq.mpr wp_iff ?_
  | with_reducible refine Eq.mpr wp_FLs ?_
  | with_reducible refine Eq.mpr wp_FDs ?_
  | with_reducible refine Eq.mpr wp_bind ?_
  | with_reducible refine Eq.mpr evo_no ?_
  | with_reducible refine Eq.mpr evo_so ?_
  | with_reducible refine Eq.mpr wp_slX ?_
  | with_reducible refine Eq.mpr wp_slT ?_
  | with_reducible refine Eq.mpr wp_slL ?_
  | with_reducible refine Eq.mpr wp_slS ?_
  | with_reducible refine Eq.mpr epv_nil ?_
  | with_reducible refine Eq.mpr epv_v ?_
  | with_reducible refine Eq.mpr epv_o ?_
  | with_reducible refine Eq.mpr ec_nil ?_
  | with_reducible refine Eq.mpr ec_cons ?_
  | with_reducible refine Eq.mpr eg_one ?_
  | with_reducible refine Eq.mpr eg_two ?_
  | with_reducible refine Eq.mpr wp_fldD ?_
  | with_reducible refine Eq.mpr wp_augI ?_
  | with_reducible refine Eq.mpr wp_augS ?_
  | ((with_reducible refine r_lt ?_ ?_); rfl)
  | ((with_reducible refine r_lim ?_ ?_); rfl)
  | ((with_reducible refine r_all ?_ ?_); rfl)
  | ((with_reducible refine r_ifp ?_ ?_); decide)
  | ((with_reducible refine r_ifnb ?_ ?_); decide))
/-- a member of a gate: a lane, or a gate of depth n at most -/
def Mem : Nat → DV → Prop
  | 0, d => ∃ w, d = .str w
  | n + 1, d => (∃ w, d = .str w) ∨ ∃ xs, d = .tup xs ∧ xs ≠ [] ∧ xs.length ≤ 10 ∧ ∀ x ∈ xs, Mem n x
theorem Mem.str {n : Nat} {w : List Nat} : Mem n (.str w) := by
  cases n with
  | zero => exact ⟨w, rfl⟩
  | succ n => exact .inl ⟨w, rfl⟩
mutual
def lvs : DV → List (List Nat)
  | .str w => [w]
  | .tup xs => lvss xs
  | _ => []
def lvss : List DV → List (List Nat)
  | [] => []
  | x :: xs => lvs x ++ lvss xs
end
theorem lvss_app : ∀ (xs ys : List DV), lvss (xs ++ ys) = lvss xs ++ lvss ys
  | [], ys => by simp [lvss]
  | x :: xs, ys => by simp [lvss, lvss_app xs ys]
theorem lvss_str : ∀ (ws : List (List Nat)), lvss (ws.map .str) = ws
  | [] => rfl
  | w :: ws => by simp [lvss, lvs, lvss_str ws]
theorem mapO_strs {S : Sto} {n : Nat} (ws : List (List Nat)) : mapO (rsv S (n + 1)) (ws.map .str) = some (ws.map .str) := mapO_map (f := rsv S (n + 1)) (h := DV.str) (fun _ => rfl) ws
theorem rsv_strs {S : Sto} {ws : List (List Nat)} : rsv S FU (.lst (ws.map .str)) = some (.lst (ws.map .str)) := by
  show (mapO (rsv S 59) (ws.map .str)).map DV.lst = _
  rw [mapO_strs (n := 58)]; rfl
def bTree (t r : Nat) : CSs := .cons (.ite (.cmp .lt (.var 2) (.int 2)) (.cons (.ret (.bi .tuple (.cons false (.var 1) (.nil)))) (.nil)) (.nil)) (.cons (.par [.v 3 (.bi .list (.cons false (.var 1) (.nil))), .o 4 (.lst (.nil))]) (.cons (.whl (.cmp .ne (.var 3) (.lst (.nil))) (.cons (.set (.nm 5) (.bin .add (.int 1) (.call t (.cons false (.var 0) (.cons false (.bi .len (.cons false (.var 3) (.nil))) (.nil)))))) (.cons (.par [.v 6 (.sl (.var 3) (.no) (.so (.var 5))), .v 3 (.sl (.var 3) (.so (.var 5)) (.no))]) (.cons (.ite (.or (.cmp .gt (.var 5) (.int 1)) (.cmp .eq (.call t (.cons false (.var 0) (.cons false (.int 5) (.nil)))) (.int 0))) (.cons (.app 4 (.call r (.cons false (.var 0) (.cons false (.var 6) (.cons false (.bin .sub (.var 2) (.int 1)) (.nil)))))) (.nil)) (.cons (.frz 4) (.cons (.own 4 (.add (.var 4) (.var 6))) (.nil)))) (.nil))))) (.cons (.frz 4) (.cons (.ret (.bi .tuple (.cons false (.var 4) (.nil)))) (.nil)))))
/-- drawn trees of depth d at most, with C draws at most -/
def TreeOk (K : Cl) (r : Nat) (d C : Nat) : Prop := ∀ {b c : Nat} {ws : List (List Nat)} {S : Sto} {Q : DV → Sto → Prop}, Bx S b c → c + C < 2 ^ 62 → ws ≠ [] → ws.length ≤ 10 →
  (∀ xs S', xs ≠ [] → xs.length ≤ ws.length → (∀ x ∈ xs, Mem (d - 1) x) → lvss xs = ws → Bx S' b (c + C) → Fr b S S' → Q (.tup xs) S') → wp (callF K r [.loc b, .lst (ws.map .str), .int d]) S Q
theorem tree1_ok {K : Cl} {t r : Nat} {b c C : Nat} {ws : List (List Nat)} {S : Sto} {Q : DV → Sto → Prop} (hB : Bx S b c) (h0 : ws ≠ []) (hQ : ∀ xs S', xs ≠ [] → xs.length ≤ ws.length → (∀ x ∈ xs, Mem 0 x) → lvss xs = ws → Bx S' b (c + C) → Fr b S S' → Q (.tup xs) S') :
    wp (runD K ⟨7, bTree t r⟩ [.loc b, .lst (ws.map .str), .int 1]) S Q := by
  refine wp_run (ρ := [.val (.loc b), .val (.lst (ws.map .str)), .val (.int 1), .no, .no, .no, .no]) (by rfl) (by rfl) ?_
  unfold bTree
  repeat (first | tm_at "go")
  refine hQ _ S (by simpa using h0) (by simp) (fun x hx => ?_) (lvss_str ws) (hB.mono (by omega)) Fr.rfl'
  obtain ⟨w, _, rfl⟩ := List.mem_map.mp hx
  exact Mem.str
theorem tree_ok {K : Cl} {t r : Nat} {d C : Nat} (hT : TakeOk K t) (hR : TreeOk K r d C) (hd : 1 ≤ d) (hW : 100 < K.W) {b c : Nat} {ws : List (List Nat)} {S : Sto} {Q : DV → Sto → Prop} (hB : Bx S b c) (hc : c + 10 * (2 + C) < 2 ^ 62) (h0 : ws ≠ []) (h1 : ws.length ≤ 10)
    (hQ : ∀ xs S', xs ≠ [] → xs.length ≤ ws.length → (∀ x ∈ xs, Mem d x) → lvss xs = ws → Bx S' b (c + 10 * (2 + C)) → Fr b S S' → Q (.tup xs) S') :
    wp (runD K ⟨7, bTree t r⟩ [.loc b, .lst (ws.map .str), .int ((d + 1 : Nat) : Int)]) S Q := by
  refine wp_run (ρ := [.val (.loc b), .val (.lst (ws.map .str)), .val (.int ((d + 1 : Nat) : Int)), .no, .no, .no, .no]) (by rfl) (by rfl) ?_
  unfold bTree
  repeat (first | tm_at "go")
  refine r_dec (fun h => absurd h (by omega)) (fun _ => ?_)
  repeat (first | tm_at "go")
  refine ws_loopW (fun m ρ S' => ∃ (fs : List DV) (rs : List (List Nat)) (s5 s6 : Slot), ρ = [.val (.loc b), .val (.lst (ws.map .str)), .val (.int ((d + 1 : Nat) : Int)), .val (.lst (rs.map .str)), .own (.lst fs), s5, s6] ∧ rs.length ≤ m ∧ lvss fs ++ rs = ws ∧ fs.length + rs.length ≤ ws.length ∧ (∀ x ∈ fs, Mem d x) ∧
    Bx S' b (c + (ws.length - rs.length) * (2 + C)) ∧ Fr b S S') ?_ _ ws.length _ _ ?_ (by omega)
  · rintro m ρ S' ⟨fs, rs, s5, s6, rfl, hm, hlv, hlen, hmem, hB', hF⟩
    cases rs with
    | nil =>
      repeat (first | tm_at "go")
      refine Eq.mpr (ws_frz (o := .lst fs) (by rfl)) ?_
      repeat (first | tm_at "go")
      have hlv : lvss fs = ws := by simpa using hlv
      refine hQ fs S' (fun e => h0 (by rw [← hlv, e]; rfl)) (by simpa using hlen) hmem hlv (hB'.mono ?_) hF
      simp only [List.length_nil, Nat.sub_zero]
      exact Nat.add_le_add_left (Nat.mul_le_mul_right _ h1) _
    | cons r0 rs =>
      simp only [List.length_cons] at hm hlen hB'
      have hbd : ∀ k, k ≤ ws.length → k * (2 + C) ≤ 10 * (2 + C) := fun k hk => Nat.mul_le_mul_right _ (by omega)
      repeat (first | tm_at "go")
      refine Eq.mpr wp_eqD ?_
      refine r_opt (rsv_strs (ws := r0 :: rs)) ?_
      repeat (first | tm_at "go")
      refine r_ifp (by rfl) ?_
      refine ⟨m - 1, by omega, ?_⟩
      repeat (first | tm_at "go")
      have hb0 := hbd (ws.length - (rs.length + 1)) (by omega)
      refine hT hB' (by omega) (by rw [List.length_map, List.length_cons]; omega) (by rw [List.length_map, List.length_cons]; omega) fun k S2 k0 k1 hB2 hF2 => ?_
      have k1 : k < rs.length + 1 := by simpa using k1
      repeat (first | tm_at "go")
      rw [cut_map DV.str (r0 :: rs) none (some (1 + k)), cut_map DV.str (r0 :: rs) (some (1 + k)) none, cut_to (r0 :: rs) (i := 1 + k) (by omega) (by rw [List.length_cons]; omega), cut_from (r0 :: rs) (i := 1 + k) (by omega) (by rw [List.length_cons]; omega)]
      have hlot : ((r0 :: rs).take (1 + k).toNat) ≠ [] := by
        rw [show (1 + k).toNat = k.toNat + 1 by omega, List.take_succ_cons]; simp
      have hlotl : ((r0 :: rs).take (1 + k).toNat).length ≤ 10 := by simp only [List.length_take, List.length_cons]; omega
      have hdl : ((r0 :: rs).drop (1 + k).toNat).length + k.toNat = rs.length := by simp only [List.length_drop, List.length_cons]; omega
      have htd : (r0 :: rs).take (1 + k).toNat ++ (r0 :: rs).drop (1 + k).toNat = r0 :: rs := List.take_append_drop _ _
      have hbn : (ws.length - (rs.length + 1)) * (2 + C) + (2 + C) ≤ (ws.length - ((r0 :: rs).drop (1 + k).toNat).length) * (2 + C) := by
        rw [← Nat.succ_mul]
        exact Nat.mul_le_mul_right _ (by omega)
      have hbt := hbd (ws.length - ((r0 :: rs).drop (1 + k).toNat).length) (by omega)
      generalize hlo : (r0 :: rs).take (1 + k).toNat = lot at *
      generalize hdr : (r0 :: rs).drop (1 + k).toNat = rs' at *
      have appd : ∀ (S3 : Sto) (s5 s6 : Slot), Bx S3 b (c + (ws.length - (rs.length + 1)) * (2 + C) + 2) → Fr b S S3 → s6 = .val (.lst (lot.map .str)) →
          GL.ws (evS K (.app 4 (.call r (.cons false (.var 0) (.cons false (.var 6) (.cons false (.bin .sub (.var 2) (.int 1)) (.nil)))))) [.val (.loc b), .val (.lst (ws.map .str)), .val (.int ((d + 1 : Nat) : Int)), .val (.lst (rs'.map .str)), .own (.lst fs), s5, s6] S3)
            ⟨fun ρ S' => ∃ (fs : List DV) (rs : List (List Nat)) (s5 s6 : Slot), ρ = [.val (.loc b), .val (.lst (ws.map .str)), .val (.int ((d + 1 : Nat) : Int)), .val (.lst (rs.map .str)), .own (.lst fs), s5, s6] ∧ rs.length ≤ m - 1 ∧ lvss fs ++ rs = ws ∧ fs.length + rs.length ≤ ws.length ∧ (∀ x ∈ fs, Mem d x) ∧
              Bx S' b (c + (ws.length - rs.length) * (2 + C)) ∧ Fr b S S', fun _ _ => False, fun _ _ => False, fun _ _ => False⟩ := by
        intro S3 s5 s6 hB3 hF3 hs6
        subst hs6
        refine Eq.mpr (ws_app (xs := fs) (by rfl)) ?_
        repeat (first | tm_at "go")
        rw [show ((d + 1 : Nat) : Int) - 1 = (d : Nat) by omega]
        refine hR hB3 (by omega) hlot hlotl fun xs S4 x0 xl xm xlv hB4 hF4 => ?_
        refine r_and (by unfold LIM; omega) ?_
        refine ⟨fs ++ [.tup xs], rs', s5, _, rfl, by omega, ?_, ?_, fun x hx => ?_, hB4.mono (by omega), hF3.trans hF4⟩
        · rw [lvss_app, show lvss [DV.tup xs] = lvss xs by simp [lvss, lvs], xlv, List.append_assoc, htd]; exact hlv
        · simp only [List.length_append, List.length_cons, List.length_nil]; omega
        · rcases List.mem_append.mp hx with h | h
          · exact hmem x h
          · simp only [List.mem_cons, List.not_mem_nil, or_false] at h
            subst h
            obtain ⟨d', rfl⟩ : ∃ d', d = d' + 1 := ⟨d - 1, by omega⟩
            exact .inr ⟨xs, rfl, x0, by omega, xm⟩
      have fin : ∀ (S3 : Sto) (s5 : Slot), Bx S3 b (c + (ws.length - (rs.length + 1)) * (2 + C) + 2) → Fr b S S3 → ∀ P : PQ, (∀ ρ S', (∃ (fs : List DV) (rs : List (List Nat)) (s5 s6 : Slot), ρ = [.val (.loc b), .val (.lst (ws.map .str)), .val (.int ((d + 1 : Nat) : Int)), .val (.lst (rs.map .str)), .own (.lst fs), s5, s6] ∧ rs.length ≤ m - 1 ∧ lvss fs ++ rs = ws ∧ fs.length + rs.length ≤ ws.length ∧ (∀ x ∈ fs, Mem d x) ∧
              Bx S' b (c + (ws.length - rs.length) * (2 + C)) ∧ Fr b S S') → P.nx ρ S') →
          GL.ws (evSs K (.cons (.app 4 (.call r (.cons false (.var 0) (.cons false (.var 6) (.cons false (.bin .sub (.var 2) (.int 1)) (.nil)))))) .nil) [.val (.loc b), .val (.lst (ws.map .str)), .val (.int ((d + 1 : Nat) : Int)), .val (.lst (rs'.map .str)), .own (.lst fs), s5, .val (.lst (lot.map .str))] S3) P := by
        intro S3 s5 hB3 hF3 P hP
        refine Eq.mpr ws_cons (ws_mono (appd S3 s5 _ hB3 hF3 rfl) (fun ρ S' h => show GL.ws (evSs K .nil ρ S') P from Eq.mpr ws_nil (hP ρ S' h)) (fun d S' h => h.elim) (fun ρ S' h => h.elim) (fun ρ S' h => h.elim))
      refine r_dec (fun hk => ?_) (fun hk => ?_)
      · refine r_opt (a := true) (by simp [truth, hk]) (r_t ?_)
        refine fin S2 _ (hB2.mono (by omega)) (hF.trans hF2) _ fun ρ S' h => ?_
        show GL.ws (evSs K .nil ρ S') _
        rw [ws_nil]
        exact h
      · repeat (first | tm_at "go")
        refine hT hB2 (by omega) (by omega) (by omega) fun k5 S3 k50 k51 hB3 hF3 => ?_
        repeat (first | tm_at "go")
        by_cases h5 : k5 = 0
        · subst h5
          refine r_ifp (by rfl) ?_
          refine fin S3 _ (hB3.mono (by omega)) ((hF.trans hF2).trans hF3) _ fun ρ S' h => ?_
          show GL.ws (evSs K .nil ρ S') _
          rw [ws_nil]
          exact h
        · refine r_ifnb (by simpa using h5) ?_
          tm_at "go"
          refine Eq.mpr (ws_frz (o := .lst fs) (by rfl)) ?_
          repeat (first | tm_at "go")
          refine r_and (by rw [List.length_map]; unfold LIM; omega) ?_
          repeat (first | tm_at "go")
          have hk0 : k = 0 := by omega
          have hl1 : lot.length = 1 := by rw [← hlo, hk0]; rfl
          refine ⟨fs ++ lot.map .str, rs', _, _, rfl, by omega, ?_, ?_, fun x hx => ?_, hB3.mono (by omega), (hF.trans hF2).trans hF3⟩
          · rw [lvss_app, lvss_str, List.append_assoc, htd]; exact hlv
          · simp only [List.length_append, List.length_map]; omega
          · rcases List.mem_append.mp hx with h | h
            · exact hmem x h
            · obtain ⟨w, _, rfl⟩ := List.mem_map.mp h
              exact Mem.str
  · exact ⟨[], ws, _, _, rfl, Nat.le_refl _, rfl, by simp, by simp, by simpa using hB, Fr.rfl'⟩
end GL
end
section
set_option Elab.async false
set_option linter.all false
set_option maxRecDepth 100000
set_option maxHeartbeats 4000000
/-! What the laws have in common: plans, the gates read. -/
namespace GL
open PySem (Str)
local macro_rules | `(tactic| tm_at "go") => `(tactic| first
  | ((with_reducible refine r_set (ρ' := ?_) ?_ ?_); rotate_left; (simp only [List.set_cons_succ, List.set_cons_zero]; rfl))
  | ((with_reducible refine r_par (ρ' := ?_) ?_ ?_); rotate_left; (simp only [parE, List.set_cons_succ, List.set_cons_zero]; rfl))
  | with_reducible refine nx_mk ?_
  | with_reducible refine rt_mk ?_
  | with_reducible refine bk_mk ?_
  | with_reducible refine ct_mk ?_
  | with_reducible refine r_t ?_
  | with_reducible refine r_f ?_
  | ((with_reducible refine r_opt (a := ?_) ?_ ?_); rotate_left; rfl)
  | ((with_reducible refine gE ?_); first
    | with_reducible refine Eq.mpr ev_var ?_
    | with_reducible refine Eq.mpr ev_int ?_
    | with_reducible refine Eq.mpr ev_bl ?_
    | with_reducible refine Eq.mpr ev_non ?_
    | with_reducible refine Eq.mpr ev_str ?_
    | with_reducible refine Eq.mpr ev_gl ?_
    | with_reducible refine Eq.mpr ev_bin ?_
    | with_reducible refine Eq.mpr ev_cmp ?_
    | with_reducible refine Eq.mpr ev_ix ?_
    | with_reducible refine Eq.mpr ev_call ?_
    | with_reducible refine Eq.mpr ev_bi ?_
    | with_reducible refine Eq.mpr ev_and ?_
    | with_reducible refine Eq.mpr ev_or ?_
    | with_reducible refine Eq.mpr ev_not ?_
    | with_reducible refine Eq.mpr ev_ite ?_
    | with_reducible refine Eq.mpr ev_tup ?_
    | with_reducible refine Eq.mpr ev_lst ?_
    | with_reducible refine Eq.mpr ev_sl ?_
    | with_reducible refine Eq.mpr ev_fld ?_
    | with_reducible refine Eq.mpr ev_prop ?_
    | with_reducible refine Eq.mpr ev_meth ?_
    | with_reducible refine Eq.mpr ev_new ?_
    | with_reducible refine Eq.mpr ev_is ?_
    | with_reducible refine Eq.mpr ev_neg ?_
    | with_reducible refine Eq.mpr ev_cmp2 ?_
    | with_reducible refine Eq.mpr ev_rng ?_
    | with_reducible refine Eq.mpr ev_shr ?_
    | with_reducible refine Eq.mpr ev_comp ?_
    | with_reducible refine Eq.mpr ev_dcomp ?_
    | with_reducible refine Eq.mpr ev_rev ?_
    | with_reducible refine Eq.mpr ev_bm ?_)
  | ((with_reducible refine gs ?_); first
    | with_reducible refine Eq.mpr evs_nil ?_
    | with_reducible refine Eq.mpr evs_f ?_
    | with_reducible refine Eq.mpr evs_t ?_)
  | ((with_reducible refine gB ?_); first
    | with_reducible refine Eq.mpr wp_add ?_
    | with_reducible refine Eq.mpr wp_sub ?_
    | with_reducible refine Eq.mpr wp_mul ?_
    | with_reducible refine Eq.mpr wp_fdiv ?_
    | with_reducible refine Eq.mpr wp_mod ?_
    | with_reducible refine Eq.mpr wp_addS ?_
    | with_reducible refine Eq.mpr wp_addT ?_
    | with_reducible refine Eq.mpr wp_addL ?_)
  | ((with_reducible refine gC ?_); first
    | with_reducible refine Eq.mpr wp_eqI ?_
    | with_reducible refine Eq.mpr wp_neI ?_
    | with_reducible refine Eq.mpr wp_eqB ?_
    | with_reducible refine Eq.mpr wp_neB ?_
    | with_reducible refine Eq.mpr wp_lt ?_
    | with_reducible refine Eq.mpr wp_le ?_
    | with_reducible refine Eq.mpr wp_gt ?_
    | with_reducible refine Eq.mpr wp_ge ?_
    | with_reducible refine Eq.mpr wp_isin ?_
    | with_reducible refine Eq.mpr wp_notin ?_
    | with_reducible refine Eq.mpr wp_is ?_)
  | ((with_reducible refine gX ?_); first
    | with_reducible refine Eq.mpr wp_ixT ?_
    | with_reducible refine Eq.mpr wp_ixL ?_
    | with_reducible refine Eq.mpr wp_ixS ?_
    | with_reducible refine Eq.mpr wp_ixX ?_)
  | ((with_reducible refine gV ?_); first
    | with_reducible refine Eq.mpr wp_lenX ?_
    | with_reducible refine Eq.mpr wp_lenT ?_
    | with_reducible refine Eq.mpr wp_lenL ?_
    | with_reducible refine Eq.mpr wp_lenS ?_
    | with_reducible refine Eq.mpr wp_abs ?_
    | with_reducible refine Eq.mpr wp_int ?_
    | with_reducible refine Eq.mpr wp_intB ?_
    | with_reducible refine Eq.mpr wp_listT ?_
    | with_reducible refine Eq.mpr wp_listL ?_
    | with_reducible refine Eq.mpr wp_tupleT ?_
    | with_reducible refine Eq.mpr wp_tupleL ?_)
  | ((with_reducible refine gF ?_); first
    | with_reducible refine Eq.mpr ef_lst ?_
    | with_reducible refine Eq.mpr ef_list ?_
    | with_reducible refine Eq.mpr ef_add ?_
    | with_reducible refine Eq.mpr ef_sl ?_
    | with_reducible refine Eq.mpr ef_rng ?_
    | with_reducible refine Eq.mpr ef_or ?_
    | with_reducible refine Eq.mpr ef_comp ?_)
  | ((with_reducible refine gI ?_); first
    | with_reducible refine Eq.mpr ei_seq ?_
    | with_reducible refine Eq.mpr ei_rng ?_
    | with_reducible refine Eq.mpr ei_enum ?_
    | with_reducible refine Eq.mpr ei_zip ?_)
  | ((with_reducible refine gS ?_); first
    | with_reducible refine Eq.mpr ws_set ?_
    | with_reducible refine Eq.mpr ws_ret ?_
    | with_reducible refine Eq.mpr ws_ite ?_
    | with_reducible refine Eq.mpr ws_own ?_
    | with_reducible refine Eq.mpr ws_retn ?_
    | with_reducible refine Eq.mpr ws_par ?_
    | with_reducible refine Eq.mpr ws_ex ?_
    | with_reducible refine Eq.mpr ws_for ?_
    | with_reducible refine Eq.mpr ws_whl ?_
    | with_reducible refine Eq.mpr ws_sput ?_
    | with_reducible refine Eq.mpr ws_sapp ?_
    | with_reducible refine Eq.mpr ws_brk ?_
    | with_reducible refine Eq.mpr ws_cnt ?_
    | with_reducible refine Eq.mpr ws_pass ?_)
  | with_reducible refine Eq.mpr ws_cons ?_
  | with_reducible refine Eq.mpr ws_nil ?_
  | with_reducible refine Eq.mpr wp_tst ?_
  | with_reducible refine Eq.mpr wp_pure ?_
  | with_reducible refine Eq.mpr wp_it ?_
  | with_reducible refine Eq.mpr wp_iff ?_
  | with_reducible refine Eq.mpr wp_FLs ?_
  | with_reducible refine Eq.mpr wp_FDs ?_
  | with_reducible refine Eq.mpr wp_bind ?_
  | with_reducible refine Eq.mpr evo_no ?_
  | with_reducible refine Eq.mpr evo_so ?_
  | with_reducible refine Eq.mpr wp_slX ?_
  | with_reducible refine Eq.mpr wp_slT ?_
  | with_reducible refine Eq.mpr wp_slL ?_
  | with_reducible refine Eq.mpr wp_slS ?_
  | with_reducible refine Eq.mpr epv_nil ?_
  | with_reducible refine Eq.mpr epv_v ?_
  | with_reducible refine Eq.mpr epv_o ?_
  | with_reducible refine Eq.mpr ec_nil ?_
  | with_reducible refine Eq.mpr ec_cons ?_
  | with_reducible refine Eq.mpr eg_one ?_
  | with_reducible refine Eq.mpr eg_two ?_
  | with_reducible refine Eq.mpr wp_fldD ?_
  | with_reducible refine Eq.mpr wp_augI ?_
  | with_reducible refine Eq.mpr wp_augS ?_
  | ((with_reducible refine r_lt ?_ ?_); rfl)
  | ((with_reducible refine r_lim ?_ ?_); rfl)
  | ((with_reducible refine r_all ?_ ?_); rfl)
  | ((with_reducible refine r_ifp ?_ ?_); decide)
  | ((with_reducible refine r_ifnb ?_ ?_); decide))
theorem perm_strs {ys : List DV} {nl : List (List Nat)} (h : ys.Perm (nl.map .str)) : ∃ ws : List (List Nat), ys = ws.map .str ∧ ws.Perm nl := by
  have h1 : ∀ y ∈ ys, ∃ w, y = .str w := fun y hy => by
    obtain ⟨w, _, e⟩ := List.mem_map.mp (h.mem_iff.mp hy)
    exact ⟨w, e.symm⟩
  have h2 : ∃ ws : List (List Nat), ys = ws.map .str := by
    clear h
    induction ys with
    | nil => exact ⟨[], rfl⟩
    | cons y ys ih =>
      obtain ⟨w, rfl⟩ := h1 _ List.mem_cons_self
      obtain ⟨ws, rfl⟩ := ih fun z hz => h1 z (List.mem_cons_of_mem _ hz)
      exact ⟨w :: ws, rfl⟩
  obtain ⟨ws, rfl⟩ := h2
  refine ⟨ws, rfl, ?_⟩
  have := h.map strOf
  simp only [List.map_map] at this
  have e : (strOf ∘ DV.str) = some := rfl
  rw [e] at this
  have := this.filterMap id
  simpa [List.filterMap_map] using this
def bPlan (t n m r : Nat) : CSs := .cons (.set (.nm 2) (.call m (.cons false (.var 0) (.cons false (.call n (.cons false (.var 0) (.cons false (.bin .add (.int 2) (.call t (.cons false (.var 0) (.cons false (.bin .sub (.var 1) (.int 1)) (.nil))))) (.nil)))) (.nil))))) (.cons (.ret (.call r (.cons false (.var 0) (.cons false (.var 2) (.cons false (.bin .add (.int 1) (.call t (.cons false (.var 0) (.cons false (.ite (.cmp .lt (.bi .len (.cons false (.var 2) (.nil))) (.int 6)) (.int 3) (.int 2)) (.nil))))) (.nil)))))) (.nil))
/-- a drawn plan with two to m lanes -/
structure Plan (m : Nat) (xs : List DV) : Prop where
  ne : xs ≠ []
  len : xs.length ≤ 10
  mem : ∀ x ∈ xs, Mem 2 x
  nd : (lvss xs).Nodup
  lo : 2 ≤ (lvss xs).length
  hi : (lvss xs).length ≤ m
theorem Mem.up : ∀ {n : Nat} {d : DV}, Mem n d → Mem (n + 1) d
  | 0, d, h => .inl h
  | n + 1, d, h => by
    rcases h with h | ⟨xs, h1, h2, h3, h4⟩
    · exact .inl h
    · exact .inr ⟨xs, h1, h2, h3, fun x hx => Mem.up (h4 x hx)⟩
theorem plan_ok {K : Cl} {t n m r : Nat} (hT : TakeOk K t) (hN : NamesOk K n) (hM : MixedOk K m) (h1 : TreeOk K r 1 0) (h2 : TreeOk K r 2 20) (h3 : TreeOk K r 3 220) {b c : Nat} {k : Nat} {S : Sto} {Q : DV → Sto → Prop} (hB : Bx S b c) (hc : c + 1000 < 2 ^ 62) (hk : 2 ≤ k) (hk2 : k ≤ 8)
    (hQ : ∀ xs S', Plan k xs → Bx S' b (c + 1000) → Fr b S S' → Q (.tup xs) S') : wp (runD K ⟨3, bPlan t n m r⟩ [.loc b, .int k]) S Q := by
  refine wp_run (ρ := [.val (.loc b), .val (.int k), .no]) (by rfl) (by rfl) ?_
  unfold bPlan
  repeat (first | tm_at "go")
  refine hT hB (by omega) (by omega) (by omega) fun x S1 x0 x1 hB1 hF1 => ?_
  obtain ⟨y, rfl⟩ : ∃ y : Nat, x = y := ⟨x.toNat, by omega⟩
  repeat (first | tm_at "go")
  rw [show (2 : Int) + (y : Int) = ((2 + y : Nat) : Int) by omega]
  refine hN hB1 (by omega) (by omega) fun nl S2 nll nd hB2 hF2 => ?_
  repeat (first | tm_at "go")
  refine hM hB2 (by rw [List.length_map]; omega) (by rw [List.length_map]; omega) fun ys S3 hp hB3 hF3 => ?_
  obtain ⟨ws, rfl, hw⟩ := perm_strs hp
  have hwl := hw.length_eq
  rw [List.length_map] at hB3
  have hF := (hF1.trans hF2).trans hF3
  have hw0 : ws ≠ [] := fun e => by rw [e] at hwl; simp at hwl; omega
  have fin : ∀ (C : Nat), C ≤ 220 → ∀ (S4 : Sto), Bx S4 b (c + 500) → Fr b S S4 → ∀ xs S', xs ≠ [] → xs.length ≤ ws.length → (∀ x ∈ xs, Mem 2 x) → lvss xs = ws → Bx S' b (c + 500 + C) → Fr b S4 S' → Q (.tup xs) S' :=
    fun C hC S4 _ hF4 xs S' a1 a2 a3 a4 a5 a6 => hQ xs S' ⟨a1, by omega, a3, by rw [a4]; exact hw.nodup_iff.mpr nd, by rw [a4]; omega, by rw [a4]; omega⟩ (a5.mono (by omega)) (hF4.trans a6)
  have dep : ∀ (z : Int) (S4 : Sto), 0 ≤ z → z < 3 → Bx S4 b (c + 500) → Fr b S S4 → wp (callF K r [.loc b, .lst (ws.map .str), .int (1 + z)]) S4 Q := fun z S4 z0 z1 hB4 hF4 => by
    rcases (show z = 0 ∨ z = 1 ∨ z = 2 by omega) with rfl | rfl | rfl
    · exact h1 hB4 (by omega) hw0 (by omega) fun xs S' a1 a2 a3 a4 a5 a6 => fin 0 (by omega) S4 hB4 hF4 xs S' a1 a2 (fun x hx => (a3 x hx).up.up) a4 a5 a6
    · exact h2 hB4 (by omega) hw0 (by omega) fun xs S' a1 a2 a3 a4 a5 a6 => fin 20 (by omega) S4 hB4 hF4 xs S' a1 a2 (fun x hx => (a3 x hx).up) a4 a5 a6
    · exact h3 hB4 (by omega) hw0 (by omega) fun xs S' a1 a2 a3 a4 a5 a6 => fin 220 (by omega) S4 hB4 hF4 xs S' a1 a2 a3 a4 a5 a6
  repeat (first | tm_at "go")
  refine r_dec (fun _ => ?_) (fun _ => ?_)
  · repeat (first | tm_at "go")
    refine hT hB3 (by omega) (by omega) (by omega) fun z S4 z0 z1 hB4 hF4 => ?_
    repeat (first | tm_at "go")
    exact dep z S4 z0 z1 (hB4.mono (by omega)) (hF.trans hF4)
  · repeat (first | tm_at "go")
    refine hT hB3 (by omega) (by omega) (by omega) fun z S4 z0 z1 hB4 hF4 => ?_
    repeat (first | tm_at "go")
    exact dep z S4 z0 (by omega) (hB4.mono (by omega)) (hF.trans hF4)
def PlanOk (K : Cl) (p : Nat) : Prop := ∀ {b c k : Nat} {S : Sto} {Q : DV → Sto → Prop}, Bx S b c → c + 1000 < 2 ^ 62 → 2 ≤ k → k ≤ 8 → (∀ xs S', Plan k xs → Bx S' b (c + 1000) → Fr b S S' → Q (.tup xs) S') → wp (callF K p [.loc b, .int k]) S Q
/-! ### the gates in the order of reading -/
mutual
def ars : DV → List Nat
  | .tup xs => xs.length :: arss xs
  | _ => []
def arss : List DV → List Nat
  | [] => []
  | x :: xs => ars x ++ arss xs
end
/-- a gate that was read: its members' list as long as said, all its cells from lo on -/
def Ent (lo : Nat) (S : Sto) (a : Nat) (d : DV) : Prop := ∃ e m ms x y, d = .loc e ∧ lo ≤ e ∧ lo ≤ m ∧ e ≠ m ∧ S[e]? = some (.lst [.loc m, x, y]) ∧ S[m]? = some (.lst ms) ∧ ms.length = a
def Ents (lo : Nat) (S : Sto) : List Nat → List DV → Prop
  | [], [] => True
  | a :: as, d :: ds => Ent lo S a d ∧ Ents lo S as ds
  | _, _ => False
theorem Ents.keep {lo : Nat} {S S' : Sto} (h : ∀ i o, lo ≤ i → S[i]? = some o → S'[i]? = some o) : ∀ {as : List Nat} {ds : List DV}, Ents lo S as ds → Ents lo S' as ds
  | [], [], _ => trivial
  | [], _ :: _, h' => h'.elim
  | _ :: _, [], h' => h'.elim
  | a :: as, d :: ds, ⟨⟨e, m, ms, x, y, h1, h2, h3, h4, h5, h6, h7⟩, r⟩ => ⟨⟨e, m, ms, x, y, h1, h2, h3, h4, h _ _ h2 h5, h _ _ h3 h6, h7⟩, Ents.keep h r⟩
theorem Ents.lower {lo lo' : Nat} {S : Sto} (l : lo' ≤ lo) : ∀ {as : List Nat} {ds : List DV}, Ents lo S as ds → Ents lo' S as ds
  | [], [], _ => trivial
  | [], _ :: _, h' => h'.elim
  | _ :: _, [], h' => h'.elim
  | a :: as, d :: ds, ⟨⟨e, m, ms, x, y, h1, h2, h3, h4, h5, h6, h7⟩, r⟩ => ⟨⟨e, m, ms, x, y, h1, by omega, by omega, h4, h5, h6, h7⟩, Ents.lower l r⟩
theorem Ents.app {lo : Nat} {S : Sto} : ∀ {as bs : List Nat} {ds es : List DV}, Ents lo S as ds → Ents lo S bs es → Ents lo S (as ++ bs) (ds ++ es)
  | [], bs, [], es, _, h => h
  | [], _, _ :: _, _, h', _ => h'.elim
  | _ :: _, _, [], _, h', _ => h'.elim
  | a :: as, bs, d :: ds, es, ⟨h, r⟩, g => ⟨h, Ents.app r g⟩
theorem Ents.len {lo : Nat} {S : Sto} : ∀ {as : List Nat} {ds : List DV}, Ents lo S as ds → as.length = ds.length
  | [], [], _ => rfl
  | [], _ :: _, h' => h'.elim
  | _ :: _, [], h' => h'.elim
  | a :: as, d :: ds, ⟨_, r⟩ => by simp [Ents.len r]
def bRead (r : Nat) : CSs := .cons (.set (.nm 4) (.bi .len (.cons false (.var 3) (.nil)))) (.cons (.sapp (.var 3) (.shr (.lst (.cons false (.shr (.bi .list (.var 0))) (.cons false (.var 1) (.cons false (.var 2) (.nil))))))) (.cons (.for (.tp [(.nm 5), (.nm 6)]) (.enum (.var 0)) (.cons (.ite (.not (.isi (.var 6) [.str])) (.cons (.sput (.ix (.ix (.var 3) (.var 4)) (.int 0)) (.var 5) (.bi .len (.cons false (.var 3) (.nil)))) (.cons (.ex (.call r (.cons false (.var 6) (.cons false (.var 4) (.cons false (.var 5) (.cons false (.var 3) (.nil))))))) (.nil))) (.nil)) (.nil))) (.cons (.ret (.var 3)) (.nil))))
/-- reading a gate of depth n at most, A gates at most -/
def ReadOk (K : Cl) (r n : Nat) : Prop := ∀ {f : Nat} {fl xs : List DV} {x y : DV} {S : Sto} {Q : DV → Sto → Prop}, S[f]? = some (.lst fl) → xs ≠ [] → xs.length ≤ 10 → (∀ z ∈ xs, Mem n z) → fl.length + (ars (.tup xs)).length < 10000 →
  (∀ es S', S'[f]? = some (.lst (fl ++ es)) → Ents S.length S' (ars (.tup xs)) es → Fr f S S' → Q (.loc f) S') → wp (callF K r [.tup xs, x, y, .loc f]) S Q
theorem Mem.cs : ∀ {n : Nat} {z : DV}, Mem n z → (∃ w, z = .str w) ∨ ∃ n' ys, n = n' + 1 ∧ z = .tup ys ∧ ys ≠ [] ∧ ys.length ≤ 10 ∧ ∀ x ∈ ys, Mem n' x
  | 0, z, h => .inl h
  | n + 1, z, h => by
    rcases h with h | ⟨ys, h1, h2, h3, h4⟩
    · exact .inl h
    · exact .inr ⟨n, ys, rfl, h1, h2, h3, h4⟩
theorem arss_app : ∀ (xs ys : List DV), arss (xs ++ ys) = arss xs ++ arss ys
  | [], ys => by simp [arss]
  | x :: xs, ys => by simp [arss, arss_app xs ys]
theorem read_ok {K : Cl} {r n : Nat} (hR : ∀ n', n = n' + 1 → ReadOk K r n') {f : Nat} {fl xs : List DV} {x y : DV} {S : Sto} {Q : DV → Sto → Prop} (hf : S[f]? = some (.lst fl)) (x0 : xs ≠ []) (x1 : xs.length ≤ 10) (xm : ∀ z ∈ xs, Mem n z) (hl : fl.length + (ars (.tup xs)).length < 10000)
    (hQ : ∀ es S', S'[f]? = some (.lst (fl ++ es)) → Ents S.length S' (ars (.tup xs)) es → Fr f S S' → Q (.loc f) S') : wp (runD K ⟨7, bRead r⟩ [.tup xs, x, y, .loc f]) S Q := by
  have hfl : f < S.length := (List.getElem?_eq_some_iff.mp hf).1
  refine wp_run (ρ := [.val (.tup xs), .val x, .val y, .val (.loc f), .no, .no, .no]) (by rfl) (by rfl) ?_
  unfold bRead
  repeat (first | tm_at "go" | with_reducible refine Eq.mpr (wp_lenl hf) ?_)
  refine r_opt (a := fl) (by rw [hf]; rfl) ?_
  repeat (first | tm_at "go")
  have g0 : (S ++ [OV.lst xs] ++ [OV.lst [DV.loc S.length, x, y]])[f]? = some (.lst fl) := get_app (get_app hf)
  refine r_opt (a := fl) (by rw [g0]; rfl) ?_
  simp only [List.length_cons, ars] at hl
  refine r_and (by unfold LIM; omega) ?_
  repeat (first | tm_at "go")
  have hm0 : S.length < (S ++ [OV.lst xs] ++ [OV.lst [DV.loc S.length, x, y]]).length := by simp <;> omega
  have he0 : S.length + 1 < (S ++ [OV.lst xs] ++ [OV.lst [DV.loc S.length, x, y]]).length := by simp
  have inv0 : ∃ ms : List DV, ((S ++ [OV.lst xs] ++ [OV.lst [DV.loc S.length, x, y]]).set f (.lst (fl ++ [.loc (S ++ [OV.lst xs]).length])))[S.length]? = some (.lst ms) ∧ ms.length = xs.length := ⟨xs, by
    rw [List.getElem?_set_ne (by omega), List.append_assoc, List.getElem?_append_right (Nat.le_refl _), Nat.sub_self]; rfl, rfl⟩
  have inv1 : ((S ++ [OV.lst xs] ++ [OV.lst [DV.loc S.length, x, y]]).set f (.lst (fl ++ [.loc (S ++ [OV.lst xs]).length])))[S.length + 1]? = some (.lst [DV.loc S.length, x, y]) := by
    rw [List.getElem?_set_ne (by omega), List.append_assoc, List.getElem?_append_right (by omega)]
    simp
  have inv2 : ((S ++ [OV.lst xs] ++ [OV.lst [DV.loc S.length, x, y]]).set f (.lst (fl ++ [.loc (S ++ [OV.lst xs]).length])))[f]? = some (.lst (fl ++ .loc (S.length + 1) :: [])) := by
    rw [List.getElem?_set_self (by simp; omega)]
    simp
  have inv3 : Fr f S ((S ++ [OV.lst xs] ++ [OV.lst [DV.loc S.length, x, y]]).set f (.lst (fl ++ [.loc (S ++ [OV.lst xs]).length]))) :=
    ⟨by simp <;> omega, fun i hi hif => by rw [List.getElem?_set_ne (fun z => hif z.symm), List.getElem?_append_left (by simp; omega), List.getElem?_append_left hi]⟩
  have inv4 : ((S ++ [OV.lst xs] ++ [OV.lst [DV.loc S.length, x, y]]).set f (.lst (fl ++ [.loc (S ++ [OV.lst xs]).length]))).length = S.length + 2 := by simp
  generalize (S ++ [OV.lst xs] ++ [OV.lst [DV.loc S.length, x, y]]).set f (.lst (fl ++ [.loc (S ++ [OV.lst xs]).length])) = S1 at inv0 inv1 inv2 inv3 inv4 ⊢
  refine ws_loopF (fun rem ρ S' => ∃ (dn l es ms : List DV) (s5 s6 : Slot), xs = dn ++ l ∧ rem = enumL dn.length l ∧ ρ = [.val (.tup xs), .val x, .val y, .val (.loc f), .val (.int fl.length), s5, s6] ∧ S'[f]? = some (.lst (fl ++ .loc (S.length + 1) :: es)) ∧
    S'[S.length + 1]? = some (.lst [DV.loc S.length, x, y]) ∧ S'[S.length]? = some (.lst ms) ∧ ms.length = xs.length ∧ Ents (S.length + 2) S' (arss dn) es ∧ S.length + 2 ≤ S'.length ∧ Fr f S S') ?_ ?_ _ _ _ ?_
  · rintro it rem ρ S' ⟨dn, l, es, ms, s5, s6, hx, he, rfl, q1, q2, q3, q4, q5, q6, q7⟩
    rcases l with _ | ⟨z, l⟩
    · cases he
    · have he : it :: rem = .tup [.int dn.length, z] :: enumL (dn.length + 1) l := he
      cases he
      refine ⟨by rfl, _, by rfl, ?_⟩
      simp only [List.set_cons_succ, List.set_cons_zero]
      have hz : Mem n z := xm z (by rw [hx]; simp)
      have hel := q5.len
      have hxl : (arss xs).length = (arss dn).length + (ars z).length + (arss l).length := by
        rw [hx, arss_app]; simp only [arss, List.length_append]; omega
      rcases hz.cs with ⟨w, rfl⟩ | ⟨n', ys, hn, rfl, y0, y1, ym⟩
      · repeat (first | tm_at "go")
        exact ⟨dn ++ [.str w], l, es, ms, _, _, by rw [hx]; simp, by simp, rfl, q1, q2, q3, q4, by rw [arss_app]; simpa [arss, ars] using q5, q6, q7⟩
      · simp only [ars, List.length_cons] at hxl
        repeat (first | tm_at "go" | with_reducible refine Eq.mpr (wp_lenl q1) ?_ | with_reducible refine Eq.mpr (wp_ixl q1) ?_)
        obtain ⟨v, v1, v2, _⟩ := atO_lt (xs := fl ++ .loc (S.length + 1) :: es) (i := fl.length) (by omega) (by simp; omega)
        have v2 : some (DV.loc (S.length + 1)) = some v := by
          rw [← v2, Int.toNat_natCast, List.getElem?_append_right (Nat.le_refl _), Nat.sub_self]; rfl
        cases v2
        refine r_opt v1 ?_
        repeat (first | tm_at "go" | with_reducible refine Eq.mpr (wp_ixl q2) ?_)
        refine r_opt q3 ?_
        have hj : dn.length < ms.length := by rw [q4, hx]; simp
        refine r_opt (a := .lst (ms.set dn.length (.int (fl ++ .loc (S.length + 1) :: es).length))) (by unfold putO ixO; simp [hj]) ?_
        repeat (first | tm_at "go")
        have c1 : (S'.set S.length (.lst (ms.set dn.length (.int (fl ++ .loc (S.length + 1) :: es).length))))[f]? = some (.lst (fl ++ .loc (S.length + 1) :: es)) := by rw [List.getElem?_set_ne (by omega)]; exact q1
        refine hR n' hn c1 y0 y1 ym (by simp only [List.length_append, List.length_cons, ars]; omega) fun es2 S3 d1 d2 d3 => ?_
        have e2 : S3[S.length + 1]? = some (.lst [DV.loc S.length, x, y]) := d3.get (by rw [List.getElem?_set_ne (by omega)]; exact q2) (by omega)
        have e3 := d3.get (get_set q3 (w := .lst (ms.set dn.length (.int (fl ++ .loc (S.length + 1) :: es).length)))) (by omega)
        refine ⟨dn ++ [.tup ys], l, es ++ es2, _, _, _, by rw [hx]; simp, by simp, rfl, by rw [d1]; simp, e2, e3, by rw [List.length_set]; exact q4, ?_, ?_, ?_⟩
        · rw [arss_app, show arss [DV.tup ys] = ars (.tup ys) by simp [arss]]
          refine Ents.app (q5.keep fun i o hi ho => ?_) (d2.lower (by rw [List.length_set]; exact q6))
          exact d3.get (by rw [List.getElem?_set_ne (by omega)]; exact ho) (by omega)
        · exact Nat.le_trans q6 (by have := d3.1; rw [List.length_set] at this; exact this)
        · refine ⟨Nat.le_trans q7.1 (by have := d3.1; rw [List.length_set] at this; exact this), fun i hi hif => ?_⟩
          rw [d3.2 i (by rw [List.length_set]; exact Nat.lt_of_lt_of_le hi q7.1) hif, List.getElem?_set_ne (by omega)]
          exact q7.2 i hi hif
  · rintro ρ S' ⟨dn, l, es, ms, s5, s6, hx, he, rfl, q1, q2, q3, q4, q5, q6, q7⟩
    rcases l with _ | ⟨z, l⟩
    · refine ⟨by rfl, ?_⟩
      repeat (first | tm_at "go")
      rw [List.append_nil] at hx
      subst hx
      refine hQ _ S' q1 ?_ q7
      simp only [ars]
      exact ⟨⟨S.length + 1, S.length, ms, x, y, rfl, by omega, Nat.le_refl _, by omega, q2, q3, q4⟩, q5.lower (by omega)⟩
    · cases he
  · obtain ⟨ms, i1, i2⟩ := inv0
    exact ⟨[], xs, [], ms, _, _, rfl, rfl, rfl, inv2, inv1, i1, i2, trivial, by omega, inv3⟩
end GL
end
section
set_option Elab.async false
set_option linter.all false
set_option maxRecDepth 100000
set_option maxHeartbeats 4000000
/-! The program: trees of plans. -/
namespace GL
open PySem (Str)
local macro_rules | `(tactic| tm_at "go") => `(tactic| first
  | ((with_reducible refine r_set (ρ' := ?_) ?_ ?_); rotate_left; (simp only [List.set_cons_succ, List.set_cons_zero]; rfl))
  | ((with_reducible refine r_par (ρ' := ?_) ?_ ?_); rotate_left; (simp only [parE, List.set_cons_succ, List.set_cons_zero]; rfl))
  | with_reducible refine nx_mk ?_
  | with_reducible refine rt_mk ?_
  | with_reducible refine bk_mk ?_
  | with_reducible refine ct_mk ?_
  | with_reducible refine r_t ?_
  | with_reducible refine r_f ?_
  | ((with_reducible refine r_opt (a := ?_) ?_ ?_); rotate_left; rfl)
  | ((with_reducible refine gE ?_); first
    | with_reducible refine Eq.mpr ev_var ?_
    | with_reducible refine Eq.mpr ev_int ?_
    | with_reducible refine Eq.mpr ev_bl ?_
    | with_reducible refine Eq.mpr ev_non ?_
    | with_reducible refine Eq.mpr ev_str ?_
    | with_reducible refine Eq.mpr ev_gl ?_
    | with_reducible refine Eq.mpr ev_bin ?_
    | with_reducible refine Eq.mpr ev_cmp ?_
    | with_reducible refine Eq.mpr ev_ix ?_
    | with_reducible refine Eq.mpr ev_call ?_
    | with_reducible refine Eq.mpr ev_bi ?_
    | with_reducible refine Eq.mpr ev_and ?_
    | with_reducible refine Eq.mpr ev_or ?_
    | with_reducible refine Eq.mpr ev_not ?_
    | with_reducible refine Eq.mpr ev_ite ?_
    | with_reducible refine Eq.mpr ev_tup ?_
    | with_reducible refine Eq.mpr ev_lst ?_
    | with_reducible refine Eq.mpr ev_sl ?_
    | with_reducible refine Eq.mpr ev_fld ?_
    | with_reducible refine Eq.mpr ev_prop ?_
    | with_reducible refine Eq.mpr ev_meth ?_
    | with_reducible refine Eq.mpr ev_new ?_
    | with_reducible refine Eq.mpr ev_is ?_
    | with_reducible refine Eq.mpr ev_neg ?_
    | with_reducible refine Eq.mpr ev_cmp2 ?_
    | with_reducible refine Eq.mpr ev_rng ?_
    | with_reducible refine Eq.mpr ev_shr ?_
    | with_reducible refine Eq.mpr ev_comp ?_
    | with_reducible refine Eq.mpr ev_dcomp ?_
    | with_reducible refine Eq.mpr ev_rev ?_
    | with_reducible refine Eq.mpr ev_bm ?_)
  | ((with_reducible refine gs ?_); first
    | with_reducible refine Eq.mpr evs_nil ?_
    | with_reducible refine Eq.mpr evs_f ?_
    | with_reducible refine Eq.mpr evs_t ?_)
  | ((with_reducible refine gB ?_); first
    | with_reducible refine Eq.mpr wp_add ?_
    | with_reducible refine Eq.mpr wp_sub ?_
    | with_reducible refine Eq.mpr wp_mul ?_
    | with_reducible refine Eq.mpr wp_fdiv ?_
    | with_reducible refine Eq.mpr wp_mod ?_
    | with_reducible refine Eq.mpr wp_addS ?_
    | with_reducible refine Eq.mpr wp_addT ?_
    | with_reducible refine Eq.mpr wp_addL ?_)
  | ((with_reducible refine gC ?_); first
    | with_reducible refine Eq.mpr wp_eqI ?_
    | with_reducible refine Eq.mpr wp_neI ?_
    | with_reducible refine Eq.mpr wp_eqB ?_
    | with_reducible refine Eq.mpr wp_neB ?_
    | with_reducible refine Eq.mpr wp_lt ?_
    | with_reducible refine Eq.mpr wp_le ?_
    | with_reducible refine Eq.mpr wp_gt ?_
    | with_reducible refine Eq.mpr wp_ge ?_
    | with_reducible refine Eq.mpr wp_isin ?_
    | with_reducible refine Eq.mpr wp_notin ?_
    | with_reducible refine Eq.mpr wp_is ?_)
  | ((with_reducible refine gX ?_); first
    | with_reducible refine Eq.mpr wp_ixT ?_
    | with_reducible refine Eq.mpr wp_ixL ?_
    | with_reducible refine Eq.mpr wp_ixS ?_
    | with_reducible refine Eq.mpr wp_ixX ?_)
  | ((with_reducible refine gV ?_); first
    | with_reducible refine Eq.mpr wp_lenX ?_
    | with_reducible refine Eq.mpr wp_lenT ?_
    | with_reducible refine Eq.mpr wp_lenL ?_
    | with_reducible refine Eq.mpr wp_lenS ?_
    | with_reducible refine Eq.mpr wp_abs ?_
    | with_reducible refine Eq.mpr wp_int ?_
    | with_reducible refine Eq.mpr wp_intB ?_
    | with_reducible refine Eq.mpr wp_listT ?_
    | with_reducible refine Eq.mpr wp_listL ?_
    | with_reducible refine Eq.mpr wp_tupleT ?_
    | with_reducible refine Eq.mpr wp_tupleL ?_)
  | ((with_reducible refine gF ?_); first
    | with_reducible refine Eq.mpr ef_lst ?_
    | with_reducible refine Eq.mpr ef_list ?_
    | with_reducible refine Eq.mpr ef_add ?_
    | with_reducible refine Eq.mpr ef_sl ?_
    | with_reducible refine Eq.mpr ef_rng ?_
    | with_reducible refine Eq.mpr ef_or ?_
    | with_reducible refine Eq.mpr ef_comp ?_)
  | ((with_reducible refine gI ?_); first
    | with_reducible refine Eq.mpr ei_seq ?_
    | with_reducible refine Eq.mpr ei_rng ?_
    | with_reducible refine Eq.mpr ei_enum ?_
    | with_reducible refine Eq.mpr ei_zip ?_)
  | ((with_reducible refine gS ?_); first
    | with_reducible refine Eq.mpr ws_set ?_
    | with_reducible refine Eq.mpr ws_ret ?_
    | with_reducible refine Eq.mpr ws_ite ?_
    | with_reducible refine Eq.mpr ws_own ?_
    | with_reducible refine Eq.mpr ws_retn ?_
    | with_reducible refine Eq.mpr ws_par ?_
    | with_reducible refine Eq.mpr ws_ex ?_
    | with_reducible refine Eq.mpr ws_for ?_
    | with_reducible refine Eq.mpr ws_whl ?_
    | with_reducible refine Eq.mpr ws_sput ?_
    | with_reducible refine Eq.mpr ws_sapp ?_
    | with_reducible refine Eq.mpr ws_brk ?_
    | with_reducible refine Eq.mpr ws_cnt ?_
    | with_reducible refine Eq.mpr ws_pass ?_)
  | with_reducible refine Eq.mpr ws_cons ?_
  | with_reducible refine Eq.mpr ws_nil ?_
  | with_reducible refine Eq.mpr wp_tst ?_
  | with_reducible refine Eq.mpr wp_pure ?_
  | with_reducible refine Eq.mpr wp_it ?_
  | with_reducible refine Eq.mpr wp_iff ?_
  | with_reducible refine Eq.mpr wp_FLs ?_
  | with_reducible refine Eq.mpr wp_FDs ?_
  | with_reducible refine Eq.mpr wp_bind ?_
  | with_reducible refine Eq.mpr evo_no ?_
  | with_reducible refine Eq.mpr evo_so ?_
  | with_reducible refine Eq.mpr wp_slX ?_
  | with_reducible refine Eq.mpr wp_slT ?_
  | with_reducible refine Eq.mpr wp_slL ?_
  | with_reducible refine Eq.mpr wp_slS ?_
  | with_reducible refine Eq.mpr epv_nil ?_
  | with_reducible refine Eq.mpr epv_v ?_
  | with_reducible refine Eq.mpr epv_o ?_
  | with_reducible refine Eq.mpr ec_nil ?_
  | with_reducible refine Eq.mpr ec_cons ?_
  | with_reducible refine Eq.mpr eg_one ?_
  | with_reducible refine Eq.mpr eg_two ?_
  | with_reducible refine Eq.mpr wp_fldD ?_
  | with_reducible refine Eq.mpr wp_augI ?_
  | with_reducible refine Eq.mpr wp_augS ?_
  | ((with_reducible refine r_lt ?_ ?_); rfl)
  | ((with_reducible refine r_lim ?_ ?_); rfl)
  | ((with_reducible refine r_all ?_ ?_); rfl)
  | ((with_reducible refine r_ifp ?_ ?_); decide)
  | ((with_reducible refine r_ifnb ?_ ?_); decide))
theorem asg_nm {i : Nat} {d : DV} {ρ : Env} {S : Sto} (h : Nat.ble (i + 1) ρ.length = true) : asg (.nm i) d ρ S = some (ρ.set i (.val d)) := by
  have : i < ρ.length := Nat.le_of_ble_eq_true h
  simp [asg, this]
theorem stays_nil {w : Wk} (h : w.src = []) (S : Sto) : w.stays S = true := by unfold Wk.stays; rw [h]; rfl
/-- a comprehension that leaves the store -/
theorem wp_mapc {K : Cl} {elt : CE} {i : Nat} {w : Wk} {xs acc0 : List DV} {ρ : Env} {S : Sto} {Q : List DV → Sto → Prop} (g : DV → DV) (hw : w.src = []) (hi : Nat.ble (i + 1) ρ.length = true) (hl : acc0.length + xs.length ≤ 10000)
    (h : ∀ x ∈ xs, ∀ Q' : DV → Sto → Prop, Q' (g x) S → wp (evE K elt (ρ.set i (.val x))) S Q') (hQ : Q (acc0 ++ xs.map g) S) :
    wp (lcLoop (.nm i) w (fun ρ' a => evC K .nil ρ' >>= fun k => if k then FLs K elt ρ' a else pure a) xs ρ acc0) S Q := by
  refine wp_lc (fun rem acc S' => ∃ dn, xs = dn ++ rem ∧ acc = acc0 ++ dn.map g ∧ S' = S) ?_ ?_ _ _ _ ?_
  · rintro x r acc S' ⟨dn, hx, rfl, rfl⟩
    refine ⟨stays_nil hw _, _, asg_nm hi, ?_⟩
    repeat (first | tm_at "go")
    have hxl := congrArg List.length hx
    simp only [List.length_append, List.length_cons] at hxl
    refine h x (by rw [hx]; simp) _ ?_
    refine r_and (by simp only [List.length_append, List.length_map]; unfold LIM; omega) ?_
    exact ⟨dn ++ [x], by rw [hx]; simp, by simp, rfl⟩
  · rintro acc S' ⟨dn, hx, rfl, rfl⟩
    rw [List.append_nil] at hx
    subst hx
    exact ⟨stays_nil hw _, hQ⟩
  · exact ⟨[], rfl, by simp, rfl⟩
def bAs (a : Nat) : CSs := .cons (.ret (.bi .tuple (.cons false (.comp (.ite (.isi (.var 1) [.str]) (.var 1) (.call a (.cons false (.var 1) (.nil)))) (.one (.mk (.nm 1) (.seq (.var 0)) (.nil))) [("member", 1)]) (.nil)))) (.nil)
def AsOk (K : Cl) (a n : Nat) : Prop := ∀ {xs : List DV} {S : Sto} {Q : DV → Sto → Prop}, xs.length ≤ 10 → (∀ x ∈ xs, Mem n x) → Q (.tup xs) S → wp (callF K a [.tup xs]) S Q
theorem as_ok {K : Cl} {a n : Nat} (hA : ∀ n', n = n' + 1 → AsOk K a n') {xs : List DV} {S : Sto} {Q : DV → Sto → Prop} (hl : xs.length ≤ 10) (hm : ∀ x ∈ xs, Mem n x) (hQ : Q (.tup xs) S) : wp (runD K ⟨2, bAs a⟩ [.tup xs]) S Q := by
  refine wp_run (ρ := [.val (.tup xs), .no]) (by rfl) (by rfl) ?_
  unfold bAs
  repeat (first | tm_at "go")
  refine wp_mapc (fun x => x) rfl (by rfl) (by simp; omega) (fun x hx Q' hq => ?_) ?_
  · simp only [wipeE, List.map_cons, List.map_nil, List.set_cons_succ, List.set_cons_zero]
    rcases (hm x hx).cs with ⟨w, rfl⟩ | ⟨n', ys, hn, rfl, y0, y1, ym⟩
    · repeat (first | tm_at "go")
      exact hq
    · repeat (first | tm_at "go")
      exact hA n' hn y1 ym hq
  · simp only [List.nil_append, List.map_id']
    repeat (first | tm_at "go")
    exact hQ
/-! ### gates -/
def GT (a : Nat) (d : DV) : Prop := ∃ ms, d = .tup ms ∧ ms.length = a ∧ 0 < a ∧ a ≤ 10 ∧ ∀ m ∈ ms, (∃ w, m = .str w) ∨ ∃ i, m = .int i
def GTs : List Nat → List DV → Prop
  | [], [] => True
  | a :: as, d :: ds => GT a d ∧ GTs as ds
  | _, _ => False
theorem GTs.app : ∀ {as bs : List Nat} {ds es : List DV}, GTs as ds → GTs bs es → GTs (as ++ bs) (ds ++ es)
  | [], bs, [], es, _, h => h
  | [], _, _ :: _, _, h', _ => h'.elim
  | _ :: _, _, [], _, h', _ => h'.elim
  | a :: as, bs, d :: ds, es, ⟨h, r⟩, g => ⟨h, GTs.app r g⟩
theorem GTs.len : ∀ {as : List Nat} {ds : List DV}, GTs as ds → ds.length = as.length
  | [], [], _ => rfl
  | [], _ :: _, h' => h'.elim
  | _ :: _, [], h' => h'.elim
  | a :: as, d :: ds, ⟨_, r⟩ => by simp [GTs.len r]
def bGates (g : Nat) : CSs := .cons (.par [.o 2 (.lst (.nil)), .o 3 (.lst (.nil)), .v 4 (.bin .add (.var 1) (.int 1))]) (.cons (.for (.nm 5) (.seq (.var 0)) (.cons (.ite (.isi (.var 5) [.str]) (.cons (.app 2 (.var 5)) (.nil)) (.cons (.set (.nm 6) (.call g (.cons false (.var 5) (.cons false (.var 4) (.nil))))) (.cons (.app 2 (.var 4)) (.cons (.extd 3 (.var 6)) (.cons (.aug 4 .add (.bi .len (.cons false (.var 6) (.nil)))) (.nil)))))) (.nil))) (.cons (.frz 2) (.cons (.frz 3) (.cons (.ret (.lst (.cons false (.bi .tuple (.cons false (.var 2) (.nil))) (.cons true (.var 3) (.nil))))) (.nil)))))
def GatesOk (K : Cl) (g n : Nat) : Prop := ∀ {xs : List DV} {f : Int} {S : Sto} {Q : DV → Sto → Prop}, xs ≠ [] → xs.length ≤ 10 → (∀ x ∈ xs, Mem n x) → (ars (.tup xs)).length ≤ 10000 → (∀ gs, GTs (ars (.tup xs)) gs → Q (.lst gs) S) → wp (callF K g [.tup xs, .int f]) S Q
theorem gates_ok {K : Cl} {g n : Nat} (hG : ∀ n', n = n' + 1 → GatesOk K g n') {xs : List DV} {f : Int} {S : Sto} {Q : DV → Sto → Prop} (h0 : xs ≠ []) (hl : xs.length ≤ 10) (hm : ∀ x ∈ xs, Mem n x) (ha : (ars (.tup xs)).length ≤ 10000) (hQ : ∀ gs, GTs (ars (.tup xs)) gs → Q (.lst gs) S) :
    wp (runD K ⟨7, bGates g⟩ [.tup xs, .int f]) S Q := by
  refine wp_run (ρ := [.val (.tup xs), .val (.int f), .no, .no, .no, .no, .no]) (by rfl) (by rfl) ?_
  unfold bGates
  repeat (first | tm_at "go")
  refine ws_loopF (fun rem ρ S' => ∃ (dn ms gs : List DV) (lt : Int) (s5 s6 : Slot), xs = dn ++ rem ∧ ρ = [.val (.tup xs), .val (.int f), .own (.lst ms), .own (.lst gs), .val (.int lt), s5, s6] ∧ ms.length = dn.length ∧ (∀ m ∈ ms, (∃ w, m = .str w) ∨ ∃ i, m = .int i) ∧ GTs (arss dn) gs ∧ S' = S) ?_ ?_ _ _ _ ?_
  · rintro z rem ρ S' ⟨dn, ms, gs, lt, s5, s6, hx, rfl, q1, q2, q3, rfl⟩
    refine ⟨by rfl, _, by rfl, ?_⟩
    simp only [List.set_cons_succ, List.set_cons_zero]
    have hz : Mem n z := hm z (by rw [hx]; simp)
    have hxl := congrArg List.length hx
    simp only [List.length_append, List.length_cons] at hxl
    have hgl := q3.len
    have hal : (arss xs).length = (arss dn).length + (ars z).length + (arss rem).length := by
      rw [hx, arss_app]; simp only [arss, List.length_append]; omega
    simp only [ars, List.length_cons] at ha
    rcases hz.cs with ⟨w, rfl⟩ | ⟨n', ys, hn, rfl, y0, y1, ym⟩
    · repeat (first | tm_at "go")
      refine Eq.mpr (ws_app (xs := ms) (by rfl)) ?_
      repeat (first | tm_at "go")
      refine r_and (by unfold LIM; omega) ?_
      repeat (first | tm_at "go")
      refine ⟨dn ++ [.str w], ms ++ [.str w], gs, lt, _, _, by rw [hx]; simp, rfl, by simp [q1], fun m h => ?_, by rw [arss_app]; simpa [arss, ars] using q3, rfl⟩
      rcases List.mem_append.mp h with h | h
      · exact q2 m h
      · simp only [List.mem_cons, List.not_mem_nil, or_false] at h
        exact .inl ⟨w, h⟩
    · repeat (first | tm_at "go")
      refine hG n' hn y0 y1 ym (by omega) fun gs2 hg2 => ?_
      have hg2l := hg2.len
      repeat (first | tm_at "go")
      refine Eq.mpr (ws_app (xs := ms) (by rfl)) ?_
      repeat (first | tm_at "go")
      refine r_and (by unfold LIM; omega) ?_
      repeat (first | tm_at "go")
      refine Eq.mpr (ws_extd (xs := gs) (by rfl)) ?_
      repeat (first | tm_at "go")
      refine r_and (by unfold LIM; omega) ?_
      repeat (first | tm_at "go")
      refine Eq.mpr (ws_aug (x := .int lt) (by rfl)) ?_
      repeat (first | tm_at "go")
      refine ⟨dn ++ [.tup ys], ms ++ [.int lt], gs ++ gs2, _, _, _, by rw [hx]; simp, rfl, by simp [q1], fun m h => ?_, ?_, rfl⟩
      · rcases List.mem_append.mp h with h | h
        · exact q2 m h
        · simp only [List.mem_cons, List.not_mem_nil, or_false] at h
          exact .inr ⟨lt, h⟩
      · rw [arss_app, show arss [DV.tup ys] = ars (.tup ys) by simp [arss]]
        exact q3.app hg2
  · rintro ρ S' ⟨dn, ms, gs, lt, s5, s6, hx, rfl, q1, q2, q3, rfl⟩
    rw [List.append_nil] at hx
    subst hx
    refine ⟨by rfl, ?_⟩
    have hgl := q3.len
    simp only [ars, List.length_cons] at ha
    repeat (first | tm_at "go")
    refine Eq.mpr (ws_frz (o := .lst ms) (by rfl)) ?_
    repeat (first | tm_at "go")
    refine Eq.mpr (ws_frz (o := .lst gs) (by rfl)) ?_
    repeat (first | tm_at "go")
    refine r_and (by simp only [List.length_cons, List.length_append, List.length_nil]; unfold LIM; omega) ?_
    repeat (first | tm_at "go")
    rw [List.append_nil]
    refine hQ _ ?_
    simp only [ars]
    exact ⟨⟨ms, rfl, q1, List.length_pos_iff.mpr h0, hl, q2⟩, q3⟩
  · exact ⟨[], [], [], _, _, _, rfl, rfl, rfl, by simp, trivial, rfl⟩
/-! ### lanes -/
def bLanes (l : Nat) : CSs := .cons (.ret (.comp (.var 2) (.two (.mk (.nm 1) (.seq (.var 0)) (.nil)) (.one (.mk (.nm 2) (.seq (.ite (.isi (.var 1) [.str]) (.lst (.cons false (.var 1) (.nil))) (.call l (.cons false (.var 1) (.nil))))) (.nil)))) [("member", 1), ("name", 2)])) (.nil)
def LanesOk (K : Cl) (l n : Nat) : Prop := ∀ {xs : List DV} {S : Sto} {Q : DV → Sto → Prop}, xs.length ≤ 10 → (∀ x ∈ xs, Mem n x) → (lvss xs).length ≤ 1000 → Q (.lst ((lvss xs).map .str)) S → wp (callF K l [.tup xs]) S Q
theorem lanes_ok {K : Cl} {l n : Nat} (hL : ∀ n', n = n' + 1 → LanesOk K l n') {xs : List DV} {S : Sto} {Q : DV → Sto → Prop} (hl : xs.length ≤ 10) (hm : ∀ x ∈ xs, Mem n x) (hv : (lvss xs).length ≤ 1000) (hQ : Q (.lst ((lvss xs).map .str)) S) :
    wp (runD K ⟨3, bLanes l⟩ [.tup xs]) S Q := by
  refine wp_run (ρ := [.val (.tup xs), .no, .no]) (by rfl) (by rfl) ?_
  unfold bLanes
  repeat (first | tm_at "go")
  refine wp_lc (fun rem acc S' => ∃ dn, xs = dn ++ rem ∧ acc = (lvss dn).map .str ∧ S' = S) ?_ ?_ _ _ _ ?_
  · rintro z rem acc S' ⟨dn, hx, rfl, rfl⟩
    refine ⟨by rfl, _, by rfl, ?_⟩
    have hvl : (lvss xs).length = (lvss dn).length + (lvs z).length + (lvss rem).length := by
      rw [hx, lvss_app]; simp only [lvss, List.length_append]; omega
    have fin : (lvss (dn ++ [z])) = lvss dn ++ lvs z := by rw [lvss_app]; simp [lvss]
    rcases (hm z (by rw [hx]; simp)).cs with ⟨w, rfl⟩ | ⟨n', ys, hn, rfl, y0, y1, ym⟩
    · simp only [lvs, List.length_cons, List.length_nil] at hvl
      repeat (first | tm_at "go")
      refine r_and (by rw [List.length_map]; unfold LIM; omega) ?_
      unfold wp lcLoop
      exact ⟨dn ++ [.str w], by rw [hx]; simp, by rw [fin]; simp [lvs], rfl⟩
    · simp only [lvs] at hvl
      repeat (first | tm_at "go")
      refine hL n' hn y1 ym (by omega) ?_
      repeat (first | tm_at "go")
      refine wp_mapc (fun x => x) rfl (by rfl) (by simp; omega) (fun x hx Q' hq => ?_) ?_
      · simp only [wipeE, List.map_cons, List.map_nil, List.set_cons_succ, List.set_cons_zero, gslots, tslots]
        repeat (first | tm_at "go")
        exact hq
      · exact ⟨dn ++ [.tup ys], by rw [hx]; simp, by rw [fin]; simp [lvs], rfl⟩
  · rintro acc S' ⟨dn, hx, rfl, rfl⟩
    rw [List.append_nil] at hx
    subst hx
    refine ⟨by rfl, ?_⟩
    repeat (first | tm_at "go")
    exact hQ
  · exact ⟨[], rfl, rfl, rfl⟩
end GL
end
section
set_option Elab.async false
set_option linter.all false
set_option maxRecDepth 100000
set_option maxHeartbeats 4000000
/-! The program: Plan. -/
namespace GL
open PySem (Str)
local macro_rules | `(tactic| tm_at "go") => `(tactic| first
  | ((with_reducible refine r_set (ρ' := ?_) ?_ ?_); rotate_left; (simp only [List.set_cons_succ, List.set_cons_zero]; rfl))
  | ((with_reducible refine r_par (ρ' := ?_) ?_ ?_); rotate_left; (simp only [parE, List.set_cons_succ, List.set_cons_zero]; rfl))
  | with_reducible refine nx_mk ?_
  | with_reducible refine rt_mk ?_
  | with_reducible refine bk_mk ?_
  | with_reducible refine ct_mk ?_
  | with_reducible refine r_t ?_
  | with_reducible refine r_f ?_
  | ((with_reducible refine r_opt (a := ?_) ?_ ?_); rotate_left; rfl)
  | ((with_reducible refine gE ?_); first
    | with_reducible refine Eq.mpr ev_var ?_
    | with_reducible refine Eq.mpr ev_int ?_
    | with_reducible refine Eq.mpr ev_bl ?_
    | with_reducible refine Eq.mpr ev_non ?_
    | with_reducible refine Eq.mpr ev_str ?_
    | with_reducible refine Eq.mpr ev_gl ?_
    | with_reducible refine Eq.mpr ev_bin ?_
    | with_reducible refine Eq.mpr ev_cmp ?_
    | with_reducible refine Eq.mpr ev_ix ?_
    | with_reducible refine Eq.mpr ev_call ?_
    | with_reducible refine Eq.mpr ev_bi ?_
    | with_reducible refine Eq.mpr ev_and ?_
    | with_reducible refine Eq.mpr ev_or ?_
    | with_reducible refine Eq.mpr ev_not ?_
    | with_reducible refine Eq.mpr ev_ite ?_
    | with_reducible refine Eq.mpr ev_tup ?_
    | with_reducible refine Eq.mpr ev_lst ?_
    | with_reducible refine Eq.mpr ev_sl ?_
    | with_reducible refine Eq.mpr ev_fld ?_
    | with_reducible refine Eq.mpr ev_prop ?_
    | with_reducible refine Eq.mpr ev_meth ?_
    | with_reducible refine Eq.mpr ev_new ?_
    | with_reducible refine Eq.mpr ev_is ?_
    | with_reducible refine Eq.mpr ev_neg ?_
    | with_reducible refine Eq.mpr ev_cmp2 ?_
    | with_reducible refine Eq.mpr ev_rng ?_
    | with_reducible refine Eq.mpr ev_shr ?_
    | with_reducible refine Eq.mpr ev_comp ?_
    | with_reducible refine Eq.mpr ev_dcomp ?_
    | with_reducible refine Eq.mpr ev_rev ?_
    | with_reducible refine Eq.mpr ev_bm ?_)
  | ((with_reducible refine gs ?_); first
    | with_reducible refine Eq.mpr evs_nil ?_
    | with_reducible refine Eq.mpr evs_f ?_
    | with_reducible refine Eq.mpr evs_t ?_)
  | ((with_reducible refine gB ?_); first
    | with_reducible refine Eq.mpr wp_add ?_
    | with_reducible refine Eq.mpr wp_sub ?_
    | with_reducible refine Eq.mpr wp_mul ?_
    | with_reducible refine Eq.mpr wp_fdiv ?_
    | with_reducible refine Eq.mpr wp_mod ?_
    | with_reducible refine Eq.mpr wp_addS ?_
    | with_reducible refine Eq.mpr wp_addT ?_
    | with_reducible refine Eq.mpr wp_addL ?_)
  | ((with_reducible refine gC ?_); first
    | with_reducible refine Eq.mpr wp_eqI ?_
    | with_reducible refine Eq.mpr wp_neI ?_
    | with_reducible refine Eq.mpr wp_eqB ?_
    | with_reducible refine Eq.mpr wp_neB ?_
    | with_reducible refine Eq.mpr wp_lt ?_
    | with_reducible refine Eq.mpr wp_le ?_
    | with_reducible refine Eq.mpr wp_gt ?_
    | with_reducible refine Eq.mpr wp_ge ?_
    | with_reducible refine Eq.mpr wp_isin ?_
    | with_reducible refine Eq.mpr wp_notin ?_
    | with_reducible refine Eq.mpr wp_is ?_)
  | ((with_reducible refine gX ?_); first
    | with_reducible refine Eq.mpr wp_ixT ?_
    | with_reducible refine Eq.mpr wp_ixL ?_
    | with_reducible refine Eq.mpr wp_ixS ?_
    | with_reducible refine Eq.mpr wp_ixX ?_)
  | ((with_reducible refine gV ?_); first
    | with_reducible refine Eq.mpr wp_lenX ?_
    | with_reducible refine Eq.mpr wp_lenT ?_
    | with_reducible refine Eq.mpr wp_lenL ?_
    | with_reducible refine Eq.mpr wp_lenS ?_
    | with_reducible refine Eq.mpr wp_abs ?_
    | with_reducible refine Eq.mpr wp_int ?_
    | with_reducible refine Eq.mpr wp_intB ?_
    | with_reducible refine Eq.mpr wp_listT ?_
    | with_reducible refine Eq.mpr wp_listL ?_
    | with_reducible refine Eq.mpr wp_tupleT ?_
    | with_reducible refine Eq.mpr wp_tupleL ?_)
  | ((with_reducible refine gF ?_); first
    | with_reducible refine Eq.mpr ef_lst ?_
    | with_reducible refine Eq.mpr ef_list ?_
    | with_reducible refine Eq.mpr ef_add ?_
    | with_reducible refine Eq.mpr ef_sl ?_
    | with_reducible refine Eq.mpr ef_rng ?_
    | with_reducible refine Eq.mpr ef_or ?_
    | with_reducible refine Eq.mpr ef_comp ?_)
  | ((with_reducible refine gI ?_); first
    | with_reducible refine Eq.mpr ei_seq ?_
    | with_reducible refine Eq.mpr ei_rng ?_
    | with_reducible refine Eq.mpr ei_enum ?_
    | with_reducible refine Eq.mpr ei_zip ?_)
  | ((with_reducible refine gS ?_); first
    | with_reducible refine Eq.mpr ws_set ?_
    | with_reducible refine Eq.mpr ws_ret ?_
    | with_reducible refine Eq.mpr ws_ite ?_
    | with_reducible refine Eq.mpr ws_own ?_
    | with_reducible refine Eq.mpr ws_retn ?_
    | with_reducible refine Eq.mpr ws_par ?_
    | with_reducible refine Eq.mpr ws_ex ?_
    | with_reducible refine Eq.mpr ws_for ?_
    | with_reducible refine Eq.mpr ws_whl ?_
    | with_reducible refine Eq.mpr ws_sput ?_
    | with_reducible refine Eq.mpr ws_sapp ?_
    | with_reducible refine Eq.mpr ws_brk ?_
    | with_reducible refine Eq.mpr ws_cnt ?_
    | with_reducible refine Eq.mpr ws_pass ?_)
  | with_reducible refine Eq.mpr ws_cons ?_
  | with_reducible refine Eq.mpr ws_nil ?_
  | with_reducible refine Eq.mpr wp_tst ?_
  | with_reducible refine Eq.mpr wp_pure ?_
  | with_reducible refine Eq.mpr wp_it ?_
  | with_reducible refine Eq.mpr wp_iff ?_
  | with_reducible refine Eq.mpr wp_FLs ?_
  | with_reducible refine Eq.mpr wp_FDs ?_
  | with_reducible refine Eq.mpr wp_bind ?_
  | with_reducible refine Eq.mpr evo_no ?_
  | with_reducible refine Eq.mpr evo_so ?_
  | with_reducible refine Eq.mpr wp_slX ?_
  | with_reducible refine Eq.mpr wp_slT ?_
  | with_reducible refine Eq.mpr wp_slL ?_
  | with_reducible refine Eq.mpr wp_slS ?_
  | with_reducible refine Eq.mpr epv_nil ?_
  | with_reducible refine Eq.mpr epv_v ?_
  | with_reducible refine Eq.mpr epv_o ?_
  | with_reducible refine Eq.mpr ec_nil ?_
  | with_reducible refine Eq.mpr ec_cons ?_
  | with_reducible refine Eq.mpr eg_one ?_
  | with_reducible refine Eq.mpr eg_two ?_
  | with_reducible refine Eq.mpr wp_fldD ?_
  | with_reducible refine Eq.mpr wp_augI ?_
  | with_reducible refine Eq.mpr wp_augS ?_
  | ((with_reducible refine r_lt ?_ ?_); rfl)
  | ((with_reducible refine r_lim ?_ ?_); rfl)
  | ((with_reducible refine r_all ?_ ?_); rfl)
  | ((with_reducible refine r_ifp ?_ ?_); decide)
  | ((with_reducible refine r_ifnb ?_ ?_); decide))
theorem ars_mem : ∀ {n : Nat} {z : DV}, Mem n z → n ≤ 2 → (ars z).length ≤ 11 := by
  have key : ∀ (xs : List DV) (B : Nat), (∀ x ∈ xs, (ars x).length ≤ B) → (arss xs).length ≤ xs.length * B := by
    intro xs B
    induction xs with
    | nil => intro _; simp [arss]
    | cons x xs ih =>
      intro h
      have h1 := h x List.mem_cons_self
      have h2 := ih fun y hy => h y (List.mem_cons_of_mem _ hy)
      simp only [arss, List.length_append, List.length_cons, Nat.succ_mul]
      omega
  have m0 : ∀ z, Mem 0 z → (ars z).length ≤ 0 := by rintro z ⟨w, rfl⟩; simp [ars]
  have m1 : ∀ z, Mem 1 z → (ars z).length ≤ 1 := by
    intro z h
    rcases h with ⟨w, rfl⟩ | ⟨xs, rfl, _, h2, h3⟩
    · simp [ars]
    · have := key xs 0 fun x hx => m0 x (h3 x hx)
      simp only [ars, List.length_cons]; omega
  intro n z h hn
  rcases n with _ | _ | _ | n
  · have := m0 z h; omega
  · have := m1 z h; omega
  · rcases h with ⟨w, rfl⟩ | ⟨xs, rfl, _, h2, h3⟩
    · simp [ars]
    · have := key xs 1 fun x hx => m1 x (h3 x hx)
      simp only [ars, List.length_cons]; omega
  · omega
theorem arss_mem {xs : List DV} (hl : xs.length ≤ 10) (h : ∀ x ∈ xs, Mem 2 x) : (arss xs).length ≤ 110 := by
  have key : ∀ (xs : List DV), (∀ x ∈ xs, Mem 2 x) → (arss xs).length ≤ xs.length * 11 := by
    intro xs
    induction xs with
    | nil => intro _; simp [arss]
    | cons x xs ih =>
      intro h
      have h1 := ars_mem (h x List.mem_cons_self) (by omega)
      have h2 := ih fun y hy => h y (List.mem_cons_of_mem _ hy)
      simp only [arss, List.length_append, List.length_cons, Nat.succ_mul]
      omega
  have := key xs h
  omega
theorem GTs.mem : ∀ {as : List Nat} {ds : List DV}, GTs as ds → ∀ d ∈ ds, ∃ a, GT a d
  | [], [], _, d, h => by cases h
  | [], _ :: _, h', _, _ => h'.elim
  | _ :: _, [], h', _, _ => h'.elim
  | a :: as, d :: ds, ⟨h, r⟩, e, he => by
    rcases List.mem_cons.mp he with rfl | he
    · exact ⟨a, h⟩
    · exact GTs.mem r e he
theorem mapO_id {f : DV → Option DV} : ∀ {l : List DV}, (∀ d ∈ l, f d = some d) → mapO f l = some l
  | [], _ => rfl
  | d :: l, h => by
    simp only [mapO, h d List.mem_cons_self, mapO_id fun e he => h e (List.mem_cons_of_mem _ he)]
theorem rsv_GT {a : Nat} {d : DV} {S : Sto} {n : Nat} (h : GT a d) : rsv S (n + 2) d = some d := by
  obtain ⟨ms, rfl, _, _, _, h⟩ := h
  simp only [rsv]
  rw [mapO_id fun m hm => ?_]
  · rfl
  · rcases h m hm with ⟨w, rfl⟩ | ⟨i, rfl⟩ <;> simp [rsv]
theorem any_GT {as : List Nat} {gs : List DV} (h : GTs as gs) : (gs.any fun y => eqv y (.tup [])) = false := by
  rw [List.any_eq_false]
  intro d hd
  obtain ⟨a, ms, rfl, h1, h2, _⟩ := h.mem d hd
  cases ms with
  | nil => simp at h1; omega
  | cons m ms => simp [eqv, eqvs]
theorem sortOk_strs (ws : List (List Nat)) : sortOk (ws.map .str) = true := by
  unfold sortOk
  simp only [Bool.and_eq_true, Bool.or_eq_true, List.all_eq_true, List.mem_map]
  refine ⟨⟨?_, .inr ?_⟩, ?_⟩
  · rintro x ⟨w, _, rfl⟩ y ⟨v, _, rfl⟩; simp [alk]
  · rintro x ⟨w, _, rfl⟩; simp [notT]
  · rintro x ⟨w, _, rfl⟩; simp [flatD]
theorem any_strs {ws : List (List Nat)} {w : List Nat} (h : w ∉ ws) : ((ws.map DV.str).any fun y => eqv y (.str w)) = false := by
  rw [List.any_eq_false]
  intro d hd
  obtain ⟨v, hv, rfl⟩ := List.mem_map.mp hd
  simp only [eqv, beq_iff_eq]
  intro e
  exact h (e ▸ hv)
theorem dputK_len (ks : List DK) (q : DK) : (dputK ks q).length ≤ ks.length + 1 := by
  unfold dputK
  split <;> simp
def bInit (a g l : Nat) : CSs := .cons (.setf "own_tree" (.call a (.cons false (.var 1) (.nil)))) (.cons (.setf "own_gates" (.call g (.cons false (.pkf 0 "own_tree") (.nil)))) (.cons (.ite (.cmp .isin (.tup (.nil)) (.pkf 0 "own_gates")) (.cons (.never) (.nil)) (.nil)) (.cons (.set (.nm 2) (.call l (.cons false (.pkf 0 "own_tree") (.nil)))) (.cons (.for (.tp [(.nm 3), (.nm 4)]) (.enum (.var 2)) (.cons (.ite (.cmp .isin (.var 4) (.sl (.var 2) (.no) (.so (.var 3)))) (.cons (.never) (.nil)) (.nil)) (.nil))) (.cons (.setf "own_lanes" (.bi .tuple (.cons false (.bi .sorted (.cons false (.var 2) (.nil))) (.nil)))) (.cons (.setf "own_above" (.dcomp (.var 7) (.var 5) (.two (.mk (.tp [(.nm 5), (.nm 6)]) (.enum (.pkf 0 "own_gates")) (.nil)) (.one (.mk (.nm 7) (.seq (.var 6)) (.nil)))) [("gate", 5), ("members", 6), ("one", 7)])) (.nil)))))))
def pflds : List Str := ["own_tree", "own_gates", "own_lanes", "own_above"]
/-- a Plan of this tree -/
def PObj (c : Nat) (xs : List DV) (d : DV) : Prop := ∃ gs ks vs, d = .obj c pflds [.tup xs, .lst gs, .tup (sortD ((lvss xs).map .str)), .dct ks vs] ∧ GTs (ars (.tup xs)) gs
theorem init_ok {K : Cl} {a g l c k : Nat} (hF : K.T.flds c = pflds) (hA : AsOk K a 2) (hG : ∀ {xs : List DV} {S : Sto} {Q : DV → Sto → Prop}, xs ≠ [] → xs.length ≤ 10 → (∀ x ∈ xs, Mem 2 x) → (ars (.tup xs)).length ≤ 10000 → (∀ gs, GTs (ars (.tup xs)) gs → Q (.lst gs) S) → wp (callF K g [.tup xs]) S Q)
    (hL : LanesOk K l 2) {xs : List DV} {S : Sto} {Q : DV → Sto → Prop} (hP : Plan k xs) (hk : k ≤ 100) (hQ : ∀ d, PObj c xs d → Q d S) : wp (runI K ⟨8, bInit a g l⟩ c [.tup xs]) S Q := by
  have ha := arss_mem hP.len hP.mem
  have ha1 : (ars (.tup xs)).length ≤ 111 := by simp only [ars, List.length_cons]; omega
  refine wp_runI (by simp) ?_
  show ws (evSs K (bInit a g l) [.own (.obj c [] []), .val (.tup xs), .no, .no, .no, .no, .no, .no] S) _
  unfold bInit
  repeat (first | tm_at "go")
  refine Eq.mpr (ws_setf (c := c) (ns := []) (vs := []) (by rfl)) ?_
  repeat (first | tm_at "go")
  refine hA hP.len hP.mem ?_
  refine r_and ⟨by rw [hF]; decide, by decide⟩ ?_
  repeat (first | tm_at "go")
  refine Eq.mpr (ws_setf (c := c) (ns := ["own_tree"]) (vs := [.tup xs]) (by rfl)) ?_
  repeat (first | tm_at "go")
  refine Eq.mpr (ev_pkf (cc := c) (ns := ["own_tree"]) (vs := [.tup xs]) (by rfl)) ?_
  refine r_and (by rw [hF]; decide) ?_
  repeat (first | tm_at "go")
  refine hG hP.ne hP.len hP.mem (by omega) fun gs hg => ?_
  have hgl := hg.len
  refine r_and ⟨by rw [hF]; decide, by decide⟩ ?_
  repeat (first | tm_at "go")
  refine Eq.mpr (ev_pkf (cc := c) (ns := ["own_tree", "own_gates"]) (vs := [.tup xs, .lst gs]) (by rfl)) ?_
  refine r_and (by rw [hF]; decide) ?_
  repeat (first | tm_at "go")
  refine Eq.mpr wp_inL ?_
  repeat (first | tm_at "go")
  refine r_opt (mapO_id (f := rsv S 59) fun d hd => by obtain ⟨a, h⟩ := hg.mem d hd; exact rsv_GT (n := 57) h) ?_
  rw [any_GT hg]
  repeat (first | tm_at "go")
  refine Eq.mpr (ev_pkf (cc := c) (ns := ["own_tree", "own_gates"]) (vs := [.tup xs, .lst gs]) (by rfl)) ?_
  refine r_and (by rw [hF]; decide) ?_
  repeat (first | tm_at "go")
  refine hL hP.len hP.mem (by have := hP.hi; omega) ?_
  repeat (first | tm_at "go")
  have hnd := hP.nd
  have hhi := hP.hi
  have hQ : ∀ gs ks vs, GTs (ars (.tup xs)) gs → Q (.obj c pflds [.tup xs, .lst gs, .tup (sortD ((lvss xs).map .str)), .dct ks vs]) S := fun gs ks vs h => hQ _ ⟨gs, ks, vs, rfl, h⟩
  generalize lvss xs = nl at hnd hhi hQ ⊢
  refine ws_loopF (fun rem ρ S' => ∃ (dn r : List (List Nat)) (s3 s4 : Slot), nl = dn ++ r ∧ rem = enumL dn.length (r.map .str) ∧ ρ = [.own (.obj c ["own_tree", "own_gates"] [.tup xs, .lst gs]), .val (.tup xs), .val (.lst (nl.map .str)), s3, s4, .no, .no, .no] ∧ S' = S) ?_ ?_ _ _ _ ?_
  · rintro it rem ρ S' ⟨dn, r, s3, s4, hn, he, rfl, rfl⟩
    rcases r with _ | ⟨w, r⟩
    · cases he
    · have he : it :: rem = .tup [.int dn.length, .str w] :: enumL (dn.length + 1) (r.map .str) := he
      cases he
      refine ⟨by rfl, _, by rfl, ?_⟩
      simp only [List.set_cons_succ, List.set_cons_zero]
      repeat (first | tm_at "go")
      have hnl := congrArg List.length hn
      simp only [List.length_append, List.length_cons] at hnl
      rw [cut_map, cut_to nl (i := (dn.length : Int)) (by omega) (by omega), Int.toNat_natCast]
      have ht : nl.take dn.length = dn := by rw [hn]; simp
      rw [ht]
      refine Eq.mpr wp_inL ?_
      repeat (first | tm_at "go")
      refine r_opt (mapO_strs (n := 58) dn) ?_
      have hw : w ∉ dn := fun h => by
        rw [hn, List.nodup_append] at hnd
        exact hnd.2.2 w h w (by simp) rfl
      rw [any_strs hw]
      repeat (first | tm_at "go")
      exact ⟨dn ++ [w], r, _, _, by rw [hn]; simp, by simp, rfl, rfl⟩
  · rintro ρ S' ⟨dn, r, s3, s4, hn, he, rfl, rfl⟩
    refine ⟨by rfl, ?_⟩
    repeat (first | tm_at "go")
    refine Eq.mpr (ws_setf (c := c) (ns := ["own_tree", "own_gates"]) (vs := [.tup xs, .lst gs]) (by rfl)) ?_
    repeat (first | tm_at "go")
    refine Eq.mpr (wp_sortedL (sortOk_strs nl)) ?_
    repeat (first | tm_at "go")
    refine r_and ⟨by rw [hF]; decide, by decide⟩ ?_
    repeat (first | tm_at "go")
    refine Eq.mpr (ws_setf (c := c) (ns := ["own_tree", "own_gates", "own_lanes"]) (vs := [.tup xs, .lst gs, .tup (sortD (nl.map .str))]) (by rfl)) ?_
    repeat (first | tm_at "go")
    refine Eq.mpr (ev_pkf (cc := c) (ns := ["own_tree", "own_gates", "own_lanes"]) (vs := [.tup xs, .lst gs, .tup (sortD (nl.map .str))]) (by rfl)) ?_
    refine r_and (by rw [hF]; decide) ?_
    repeat (first | tm_at "go")
    refine wp_lc (fun rem (acc : List DK × List DV) T => ∃ (dn r : List DV), gs = dn ++ r ∧ rem = enumL dn.length r ∧ acc.1.length ≤ dn.length * 10 ∧ T = S') ?_ ?_ _ _ _ ?_
    · rintro it rem ⟨ks, vs⟩ T ⟨dn, r, hn2, he, hacc, rfl⟩
      rcases r with _ | ⟨d, r⟩
      · cases he
      · have he : it :: rem = .tup [.int dn.length, d] :: enumL (dn.length + 1) r := he
        cases he
        obtain ⟨ar, ms, rfl, m1, m2, m3, m4⟩ := hg.mem d (by rw [hn2]; simp)
        have hnl := congrArg List.length hn2
        simp only [List.length_append, List.length_cons] at hnl
        refine ⟨by rfl, _, by rfl, ?_⟩
        iterate 8 (tm_at "go")
        refine wp_lc (fun rem (acc : List DK × List DV) U => ∃ (dm : List DV), ms = dm ++ rem ∧ acc.1.length ≤ dn.length * 10 + dm.length ∧ U = T) ?_ ?_ _ _ _ ?_
        · rintro m rem2 ⟨ks2, vs2⟩ U ⟨dm, hm, hacc2, rfl⟩
          have hml := congrArg List.length hm
          simp only [List.length_append, List.length_cons] at hml
          refine ⟨by rfl, _, by rfl, ?_⟩
          simp only [wipeE, List.map_cons, List.map_nil, List.set_cons_succ, List.set_cons_zero, gslots, tslots]
          repeat (first | tm_at "go")
          have hq : ∃ q, keyOf m = some q := by
            rcases m4 m (by rw [hm]; simp) with ⟨w, rfl⟩ | ⟨i, rfl⟩ <;> exact ⟨_, rfl⟩
          obtain ⟨q, hq⟩ := hq
          refine r_opt hq ?_
          simp only [] at hacc2
          refine r_and (show ks2.length < LIM by unfold LIM; omega) ?_
          refine ⟨dm ++ [m], by rw [hm]; simp, ?_, rfl⟩
          have := dputK_len ks2 q
          simp only [List.length_append, List.length_cons, List.length_nil]
          omega
        · rintro ⟨ks2, vs2⟩ U ⟨dm, hm, hacc2, rfl⟩
          rw [List.append_nil] at hm
          subst hm
          refine ⟨by rfl, dn ++ [.tup ms], r, by rw [hn2]; simp, by simp, ?_, rfl⟩
          simp only [List.length_append, List.length_cons, List.length_nil] at hacc2 ⊢
          omega
        · exact ⟨[], rfl, by simpa using hacc, rfl⟩
    · rintro ⟨ks, vs⟩ T ⟨dn, r, hn2, he, hacc, rfl⟩
      refine ⟨by rfl, ?_⟩
      refine r_and ⟨by rw [hF]; decide, by decide⟩ ?_
      repeat (first | tm_at "go")
      exact ⟨c, pflds, [.tup xs, .lst gs, .tup (sortD (nl.map .str)), .dct ks vs], by rfl, hQ gs ks vs hg⟩
    · exact ⟨[], gs, rfl, rfl, by simp, rfl⟩
  · exact ⟨[], nl, _, _, rfl, rfl, rfl, rfl⟩
end GL
end
section
set_option Elab.async false
set_option linter.all false
set_option maxRecDepth 100000
set_option maxHeartbeats 4000000
/-! The program: gates, members, rules. -/
namespace GL
open PySem (Str)
local macro_rules | `(tactic| tm_at "go") => `(tactic| first
  | ((with_reducible refine r_set (ρ' := ?_) ?_ ?_); rotate_left; (simp only [List.set_cons_succ, List.set_cons_zero]; rfl))
  | ((with_reducible refine r_par (ρ' := ?_) ?_ ?_); rotate_left; (simp only [parE, List.set_cons_succ, List.set_cons_zero]; rfl))
  | with_reducible refine nx_mk ?_
  | with_reducible refine rt_mk ?_
  | with_reducible refine bk_mk ?_
  | with_reducible refine ct_mk ?_
  | with_reducible refine r_t ?_
  | with_reducible refine r_f ?_
  | ((with_reducible refine r_opt (a := ?_) ?_ ?_); rotate_left; rfl)
  | ((with_reducible refine gE ?_); first
    | with_reducible refine Eq.mpr ev_var ?_
    | with_reducible refine Eq.mpr ev_int ?_
    | with_reducible refine Eq.mpr ev_bl ?_
    | with_reducible refine Eq.mpr ev_non ?_
    | with_reducible refine Eq.mpr ev_str ?_
    | with_reducible refine Eq.mpr ev_gl ?_
    | with_reducible refine Eq.mpr ev_bin ?_
    | with_reducible refine Eq.mpr ev_cmp ?_
    | with_reducible refine Eq.mpr ev_ix ?_
    | with_reducible refine Eq.mpr ev_call ?_
    | with_reducible refine Eq.mpr ev_bi ?_
    | with_reducible refine Eq.mpr ev_and ?_
    | with_reducible refine Eq.mpr ev_or ?_
    | with_reducible refine Eq.mpr ev_not ?_
    | with_reducible refine Eq.mpr ev_ite ?_
    | with_reducible refine Eq.mpr ev_tup ?_
    | with_reducible refine Eq.mpr ev_lst ?_
    | with_reducible refine Eq.mpr ev_sl ?_
    | with_reducible refine Eq.mpr ev_fld ?_
    | with_reducible refine Eq.mpr ev_prop ?_
    | with_reducible refine Eq.mpr ev_meth ?_
    | with_reducible refine Eq.mpr ev_new ?_
    | with_reducible refine Eq.mpr ev_is ?_
    | with_reducible refine Eq.mpr ev_neg ?_
    | with_reducible refine Eq.mpr ev_cmp2 ?_
    | with_reducible refine Eq.mpr ev_rng ?_
    | with_reducible refine Eq.mpr ev_shr ?_
    | with_reducible refine Eq.mpr ev_comp ?_
    | with_reducible refine Eq.mpr ev_dcomp ?_
    | with_reducible refine Eq.mpr ev_rev ?_
    | with_reducible refine Eq.mpr ev_bm ?_)
  | ((with_reducible refine gs ?_); first
    | with_reducible refine Eq.mpr evs_nil ?_
    | with_reducible refine Eq.mpr evs_f ?_
    | with_reducible refine Eq.mpr evs_t ?_)
  | ((with_reducible refine gB ?_); first
    | with_reducible refine Eq.mpr wp_add ?_
    | with_reducible refine Eq.mpr wp_sub ?_
    | with_reducible refine Eq.mpr wp_mul ?_
    | with_reducible refine Eq.mpr wp_fdiv ?_
    | with_reducible refine Eq.mpr wp_mod ?_
    | with_reducible refine Eq.mpr wp_addS ?_
    | with_reducible refine Eq.mpr wp_addT ?_
    | with_reducible refine Eq.mpr wp_addL ?_)
  | ((with_reducible refine gC ?_); first
    | with_reducible refine Eq.mpr wp_eqI ?_
    | with_reducible refine Eq.mpr wp_neI ?_
    | with_reducible refine Eq.mpr wp_eqB ?_
    | with_reducible refine Eq.mpr wp_neB ?_
    | with_reducible refine Eq.mpr wp_lt ?_
    | with_reducible refine Eq.mpr wp_le ?_
    | with_reducible refine Eq.mpr wp_gt ?_
    | with_reducible refine Eq.mpr wp_ge ?_
    | with_reducible refine Eq.mpr wp_isin ?_
    | with_reducible refine Eq.mpr wp_notin ?_
    | with_reducible refine Eq.mpr wp_is ?_)
  | ((with_reducible refine gX ?_); first
    | with_reducible refine Eq.mpr wp_ixT ?_
    | with_reducible refine Eq.mpr wp_ixL ?_
    | with_reducible refine Eq.mpr wp_ixS ?_
    | with_reducible refine Eq.mpr wp_ixX ?_)
  | ((with_reducible refine gV ?_); first
    | with_reducible refine Eq.mpr wp_lenX ?_
    | with_reducible refine Eq.mpr wp_lenT ?_
    | with_reducible refine Eq.mpr wp_lenL ?_
    | with_reducible refine Eq.mpr wp_lenS ?_
    | with_reducible refine Eq.mpr wp_abs ?_
    | with_reducible refine Eq.mpr wp_int ?_
    | with_reducible refine Eq.mpr wp_intB ?_
    | with_reducible refine Eq.mpr wp_listT ?_
    | with_reducible refine Eq.mpr wp_listL ?_
    | with_reducible refine Eq.mpr wp_tupleT ?_
    | with_reducible refine Eq.mpr wp_tupleL ?_)
  | ((with_reducible refine gF ?_); first
    | with_reducible refine Eq.mpr ef_lst ?_
    | with_reducible refine Eq.mpr ef_list ?_
    | with_reducible refine Eq.mpr ef_add ?_
    | with_reducible refine Eq.mpr ef_sl ?_
    | with_reducible refine Eq.mpr ef_rng ?_
    | with_reducible refine Eq.mpr ef_or ?_
    | with_reducible refine Eq.mpr ef_comp ?_)
  | ((with_reducible refine gI ?_); first
    | with_reducible refine Eq.mpr ei_seq ?_
    | with_reducible refine Eq.mpr ei_rng ?_
    | with_reducible refine Eq.mpr ei_enum ?_
    | with_reducible refine Eq.mpr ei_zip ?_)
  | ((with_reducible refine gS ?_); first
    | with_reducible refine Eq.mpr ws_set ?_
    | with_reducible refine Eq.mpr ws_ret ?_
    | with_reducible refine Eq.mpr ws_ite ?_
    | with_reducible refine Eq.mpr ws_own ?_
    | with_reducible refine Eq.mpr ws_retn ?_
    | with_reducible refine Eq.mpr ws_par ?_
    | with_reducible refine Eq.mpr ws_ex ?_
    | with_reducible refine Eq.mpr ws_for ?_
    | with_reducible refine Eq.mpr ws_whl ?_
    | with_reducible refine Eq.mpr ws_sput ?_
    | with_reducible refine Eq.mpr ws_sapp ?_
    | with_reducible refine Eq.mpr ws_brk ?_
    | with_reducible refine Eq.mpr ws_cnt ?_
    | with_reducible refine Eq.mpr ws_pass ?_)
  | with_reducible refine Eq.mpr ws_cons ?_
  | with_reducible refine Eq.mpr ws_nil ?_
  | with_reducible refine Eq.mpr wp_tst ?_
  | with_reducible refine Eq.mpr wp_pure ?_
  | with_reducible refine Eq.mpr wp_it ?_
  | with_reducible refine Eq.mpr wp_iff ?_
  | with_reducible refine Eq.mpr wp_FLs ?_
  | with_reducible refine Eq.mpr wp_FDs ?_
  | with_reducible refine Eq.mpr wp_bind ?_
  | with_reducible refine Eq.mpr evo_no ?_
  | with_reducible refine Eq.mpr evo_so ?_
  | with_reducible refine Eq.mpr wp_slX ?_
  | with_reducible refine Eq.mpr wp_slT ?_
  | with_reducible refine Eq.mpr wp_slL ?_
  | with_reducible refine Eq.mpr wp_slS ?_
  | with_reducible refine Eq.mpr epv_nil ?_
  | with_reducible refine Eq.mpr epv_v ?_
  | with_reducible refine Eq.mpr epv_o ?_
  | with_reducible refine Eq.mpr ec_nil ?_
  | with_reducible refine Eq.mpr ec_cons ?_
  | with_reducible refine Eq.mpr eg_one ?_
  | with_reducible refine Eq.mpr eg_two ?_
  | with_reducible refine Eq.mpr wp_fldD ?_
  | with_reducible refine Eq.mpr wp_augI ?_
  | with_reducible refine Eq.mpr wp_augS ?_
  | ((with_reducible refine r_lt ?_ ?_); rfl)
  | ((with_reducible refine r_lim ?_ ?_); rfl)
  | ((with_reducible refine r_all ?_ ?_); rfl)
  | ((with_reducible refine r_ifp ?_ ?_); decide)
  | ((with_reducible refine r_ifnb ?_ ?_); decide))
theorem r_b {b : Bool} {A B : Prop} (h1 : b = true → A) (h2 : b = false → B) : if b = true then A else B := by
  cases b
  · simpa using h2 rfl
  · simpa using h1 rfl
abbrev pob (c : Nat) (xs gs ls : List DV) (ks : List DK) (vs : List DV) : DV := .obj c pflds [.tup xs, .lst gs, .tup ls, .dct ks vs]
def bGatesP : CSs := .cons (.ret (.bi .len (.cons false (.fld (.var 0) "own_gates") (.nil)))) (.nil)
theorem gatesP_ok {K : Cl} {c : Nat} {xs gs ls vs : List DV} {ks : List DK} {S : Sto} {Q : DV → Sto → Prop} (hF : K.T.flds c = pflds) (hQ : Q (.int gs.length) S) : wp (runD K ⟨1, bGatesP⟩ [pob c xs gs ls ks vs]) S Q := by
  refine wp_run (ρ := [.val (pob c xs gs ls ks vs)]) (by rfl) (by rfl) ?_
  unfold bGatesP pob
  repeat (first | tm_at "go")
  refine r_and (by rw [hF]; decide) ?_
  repeat (first | tm_at "go")
  exact hQ
def bCheck : CSs := .cons (.ite (.not (.cmp2 .le .lt (.int 0) (.var 1) (.bi .len (.cons false (.fld (.var 0) "own_gates") (.nil))))) (.cons (.never) (.nil)) (.nil)) (.nil)
theorem check_ok {K : Cl} {c : Nat} {xs gs ls vs : List DV} {ks : List DK} {j : Nat} {S : Sto} {Q : DV → Sto → Prop} (hF : K.T.flds c = pflds) (hj : j < gs.length) (hQ : Q .non S) : wp (runD K ⟨2, bCheck⟩ [pob c xs gs ls ks vs, .int j]) S Q := by
  refine wp_run (ρ := [.val (pob c xs gs ls ks vs), .val (.int j)]) (by rfl) (by rfl) ?_
  unfold bCheck pob
  repeat (first | tm_at "go")
  refine r_dec (fun _ => ?_) (fun h => absurd (by omega) h)
  repeat (first | tm_at "go")
  refine r_and (by rw [hF]; decide) ?_
  repeat (first | tm_at "go")
  refine r_ifnb (by simp; omega) ?_
  repeat (first | tm_at "go")
  exact hQ
def CheckOk (K : Cl) (c t : Nat) : Prop := ∀ {xs gs ls vs : List DV} {ks : List DK} {j : Nat} {S : Sto} {Q : DV → Sto → Prop}, j < gs.length → Q .non S → wp (callF K t [pob c xs gs ls ks vs, .int j]) S Q
def bMembers : CSs := .cons (.ex (.meth (.var 0) "check_gate" (.cons false (.var 1) (.nil)))) (.cons (.ret (.ix (.fld (.var 0) "own_gates") (.var 1))) (.nil))
theorem members_ok {K : Cl} {c t : Nat} {xs gs ls vs : List DV} {ks : List DK} {j : Nat} {S : Sto} {Q : DV → Sto → Prop} (hF : K.T.flds c = pflds) (hm : K.T.meth c "check_gate" = some t) (hC : CheckOk K c t) {d : DV} (hj : gs[j]? = some d) (hQ : Q d S) : wp (runD K ⟨2, bMembers⟩ [pob c xs gs ls ks vs, .int j]) S Q := by
  have hjl : j < gs.length := (List.getElem?_eq_some_iff.mp hj).1
  refine wp_run (ρ := [.val (pob c xs gs ls ks vs), .val (.int j)]) (by rfl) (by rfl) ?_
  unfold bMembers
  repeat (first | tm_at "go")
  refine Eq.mpr (wp_methO hm (by decide)) ?_
  repeat (first | tm_at "go")
  refine hC hjl ?_
  unfold pob
  repeat (first | tm_at "go")
  refine r_and (by rw [hF]; decide) ?_
  repeat (first | tm_at "go")
  obtain ⟨v, v1, v2, _⟩ := atO_lt (xs := gs) (i := (j : Int)) (by omega) (by omega)
  rw [Int.toNat_natCast, hj] at v2
  cases v2
  exact r_opt v1 hQ
def MembersOk (K : Cl) (c t : Nat) : Prop := ∀ {xs gs ls vs : List DV} {ks : List DK} {j : Nat} {d : DV} {S : Sto} {Q : DV → Sto → Prop}, gs[j]? = some d → Q d S → wp (callF K t [pob c xs gs ls ks vs, .int j]) S Q
/-! ### numbers, rules -/
def isNum : DV → Bool
  | .int i => decide (0 ≤ i)
  | _ => false
def bIsNum : CSs := .cons (.ret (.and (.isi (.var 0) [.int]) (.and (.not (.isi (.var 0) [.bool])) (.cmp .ge (.var 0) (.int 0))))) (.nil)
theorem Pl.cs {n : Nat} {d : DV} (h : Pl n d) : d = .non ∨ (∃ b, d = .bl b) ∨ (∃ i, d = .int i) ∨ (∃ x, d = .str x) ∨ ∃ n' xs, n = n' + 1 ∧ (d = .tup xs ∨ d = .lst xs) ∧ xs.length < 10000 ∧ ∀ x ∈ xs, Pl n' x := by
  have at' : Atom d → d = .non ∨ (∃ b, d = .bl b) ∨ (∃ i, d = .int i) ∨ (∃ x, d = .str x) ∨ ∃ n' xs, n = n' + 1 ∧ (d = .tup xs ∨ d = .lst xs) ∧ xs.length < 10000 ∧ ∀ x ∈ xs, Pl n' x := fun h => by
    cases d <;> first | exact h.elim | simp
  cases n with
  | zero => exact at' h
  | succ n =>
    rcases h with h | ⟨xs, h1, h2, h3⟩
    · exact at' h
    · exact .inr (.inr (.inr (.inr ⟨n, xs, rfl, h1, h2, h3⟩)))
theorem isnum_ok {K : Cl} {n : Nat} {d : DV} {S : Sto} {Q : DV → Sto → Prop} (h : Pl n d) (hQ : Q (.bl (isNum d)) S) : wp (runD K ⟨1, bIsNum⟩ [d]) S Q := by
  refine wp_run (ρ := [.val d]) (by rfl) (by rfl) ?_
  unfold bIsNum
  rcases h.cs with rfl | ⟨b, rfl⟩ | ⟨i, rfl⟩ | ⟨x, rfl⟩ | ⟨n', xs, _, rfl | rfl, _, _⟩
  · repeat (first | tm_at "go")
    exact hQ
  · repeat (first | tm_at "go")
    exact hQ
  · repeat (first | tm_at "go")
    exact hQ
  · repeat (first | tm_at "go")
    exact hQ
  · repeat (first | tm_at "go")
    exact hQ
  · repeat (first | tm_at "go")
    exact hQ
def IsNumOk (K : Cl) (t : Nat) : Prop := ∀ {n : Nat} {d : DV} {S : Sto} {Q : DV → Sto → Prop}, Pl n d → Q (.bl (isNum d)) S → wp (callF K t [d]) S Q
theorem rsv_Pl {S : Sto} : ∀ {n m : Nat} {d : DV}, Pl n d → n < m → rsv S m d = some d
  | n, 0, d, _, h => absurd h (Nat.not_lt_zero _)
  | n, m + 1, d, h, hm => by
    rcases h.cs with rfl | ⟨b, rfl⟩ | ⟨i, rfl⟩ | ⟨x, rfl⟩ | ⟨n', xs, rfl, rfl | rfl, _, hx⟩
    · rfl
    · rfl
    · rfl
    · rfl
    · simp only [rsv]
      rw [mapO_id fun e he => rsv_Pl (hx e he) (by omega)]
      rfl
    · simp only [rsv]
      rw [mapO_id fun e he => rsv_Pl (hx e he) (by omega)]
      rfl
def kindsL : List DV := [.str [102, 105, 114, 115, 116], .str [116, 117, 114, 110, 115], .str [108, 97, 115, 116], .str [108, 111, 110, 103], .str [111, 108, 100]]
def kindB (k : DV) : Bool := kindsL.any fun y => eqv y k
def rulB (num : DV → Bool) (many : Nat) : DV → Bool
  | .tup [k, .tup ws] => kindB k && (ws.all num && eqv (.lst (sortD ws)) (.lst (rngL 0 many 1)))
  | _ => false
theorem sortOk_nums {ws : List DV} (h : ∀ w ∈ ws, ∃ i, w = .int i) : sortOk ws = true := by
  unfold sortOk
  simp only [Bool.and_eq_true, Bool.or_eq_true, List.all_eq_true]
  refine ⟨⟨fun x hx y hy => ?_, .inr fun x hx => ?_⟩, fun x hx => ?_⟩
  · obtain ⟨i, rfl⟩ := h x hx
    obtain ⟨j, rfl⟩ := h y hy
    simp [alk]
  · obtain ⟨i, rfl⟩ := h x hx; simp [notT]
  · obtain ⟨i, rfl⟩ := h x hx; simp [flatD]
theorem mem_sortL {lt : DV → DV → Bool} {x : DV} : ∀ {l : List DV}, x ∈ sortL lt l → x ∈ l
  | [], h => h
  | y :: l, h => by
    have ins : ∀ {l : List DV}, x ∈ insL lt y l → x = y ∨ x ∈ l := by
      intro l
      induction l with
      | nil => intro h; simpa [insL] using h
      | cons z l ih =>
        intro h
        unfold insL at h
        split at h
        · rcases List.mem_cons.mp h with h | h
          · exact .inr (by rw [h]; exact List.mem_cons_self)
          · rcases ih h with h | h
            · exact .inl h
            · exact .inr (List.mem_cons_of_mem _ h)
        · rcases List.mem_cons.mp h with h | h
          · exact .inl h
          · exact .inr h
    rcases ins (show x ∈ insL lt y (sortL lt l) from h) with h | h
    · rw [h]; exact List.mem_cons_self
    · exact List.mem_cons_of_mem _ (mem_sortL h)
theorem rsv_nums {S : Sto} {ws : List DV} (h : ∀ w ∈ ws, ∃ i, w = .int i) : rsv S FU (.lst ws) = some (.lst ws) := by
  show (mapO (rsv S 59) ws).map DV.lst = _
  rw [mapO_id fun w hw => by obtain ⟨i, rfl⟩ := h w hw; rfl]
  rfl
theorem rngL_int (n : Nat) : ∀ w ∈ rngL 0 n 1, ∃ i, w = .int i := by
  rw [rngL_nat]
  intro w hw
  obtain ⟨i, _, rfl⟩ := List.mem_map.mp hw
  exact ⟨_, rfl⟩
theorem all_map_bl {f : DV → Bool} (ws : List DV) : (ws.map fun x => DV.bl (f x)) = (ws.map f).map .bl := by simp
def bIsRule (n : Nat) : CSs := .cons (.ite (.or (.not (.isi (.var 1) [.tuple])) (.or (.cmp .ne (.bi .len (.cons false (.var 1) (.nil))) (.gl 0)) (.cmp .notin (.ix (.var 1) (.int 0)) (.gl 1)))) (.cons (.ret (.bl false)) (.nil)) (.nil)) (.cons (.ite (.or (.not (.isi (.ix (.var 1) (.int 1)) [.tuple])) (.not (.bi .all (.cons false (.comp (.call n (.cons false (.var 2) (.nil))) (.one (.mk (.nm 2) (.seq (.ix (.var 1) (.int 1))) (.nil))) [("place", 2)]) (.nil))))) (.cons (.ret (.bl false)) (.nil)) (.nil)) (.cons (.ret (.cmp .eq (.bi .sorted (.cons false (.ix (.var 1) (.int 1)) (.nil))) (.rng (.int 0) (.var 0) 1))) (.nil)))
theorem isrule_ok {K : Cl} {t many n : Nat} {d : DV} {S : Sto} {Q : DV → Sto → Prop} (h0 : K.T.glob 0 = .int 2) (h1 : K.T.glob 1 = .tup kindsL) (hN : IsNumOk K t) (hm : many ≤ 100) (h : Pl n d) (hn : n ≤ 40) (hQ : Q (.bl (rulB isNum many d)) S) : wp (runD K ⟨3, bIsRule t⟩ [.int many, d]) S Q := by
  refine wp_run (ρ := [.val (.int many), .val d, .no]) (by rfl) (by rfl) ?_
  unfold bIsRule
  rcases h.cs with rfl | ⟨b, rfl⟩ | ⟨i, rfl⟩ | ⟨x, rfl⟩ | ⟨n', xs, rfl, rfl | rfl, hxl, hx⟩
  · repeat (first | tm_at "go")
    exact hQ
  · repeat (first | tm_at "go")
    exact hQ
  · repeat (first | tm_at "go")
    exact hQ
  · repeat (first | tm_at "go")
    exact hQ
  · repeat (first | tm_at "go")
    rw [h0]
    repeat (first | tm_at "go")
    refine r_b (fun hl => ?_) (fun hl => ?_)
    · have hl2 : xs.length ≠ 2 := by
        intro e; rw [e] at hl; exact absurd hl (by decide)
      have hr : rulB isNum many (.tup xs) = false := by
        rcases xs with _ | ⟨x, _ | ⟨y, _ | ⟨z, r⟩⟩⟩
        · rfl
        · rfl
        · exact absurd rfl hl2
        · simp [rulB]
      rw [hr] at hQ
      repeat (first | tm_at "go")
      refine r_ifp hl ?_
      repeat (first | tm_at "go")
      exact hQ
    · have hl2 : xs.length = 2 := by
        have hl : (!(((xs.length : Nat) : Int) == 2)) = false := hl
        simp at hl; omega
      obtain ⟨k, v, rfl⟩ : ∃ k v, xs = [k, v] := by
        rcases xs with _ | ⟨x, _ | ⟨y, _ | ⟨z, r⟩⟩⟩ <;> simp at hl2
        exact ⟨_, _, rfl⟩
      have hk := hx k (by simp)
      have hv := hx v (by simp)
      repeat (first | tm_at "go")
      rw [h1]
      refine Eq.mpr wp_inT ?_
      refine r_opt (rsv_Pl hk (show n' < 60 by omega)) ?_
      refine r_opt (show mapO (rsv S 59) kindsL = some kindsL by rfl) ?_
      repeat (first | tm_at "go")
      refine r_b (fun hb => ?_) (fun hb => ?_)
      · have hr : rulB isNum many (.tup [k, v]) = false := by
          have hkb : kindB k = false := by simpa [kindB] using hb
          cases v <;> simp [rulB, hkb]
        rw [hr] at hQ
        repeat (first | tm_at "go")
        exact hQ
      · have hkb : kindB k = true := by simpa [kindB] using hb
        repeat (first | tm_at "go")
        rcases hv.cs with rfl | ⟨b, rfl⟩ | ⟨i, rfl⟩ | ⟨x, rfl⟩ | ⟨n'', ws, rfl, rfl | rfl, hwl, hw⟩
        · repeat (first | tm_at "go")
          exact hQ
        · repeat (first | tm_at "go")
          exact hQ
        · repeat (first | tm_at "go")
          exact hQ
        · repeat (first | tm_at "go")
          exact hQ
        · repeat (first | tm_at "go")
          refine wp_mapc (fun x => .bl (isNum x)) rfl (by rfl) (by simp; omega) (fun x hx Q' hq => ?_) ?_
          · simp only [wipeE, List.map_cons, List.map_nil, List.set_cons_succ, List.set_cons_zero]
            repeat (first | tm_at "go")
            exact hN (hw x hx) hq
          · rw [List.nil_append, all_map_bl]
            repeat (first | tm_at "go")
            refine Eq.mpr wp_all ?_
            repeat (first | tm_at "go")
            refine r_b (fun ha => ?_) (fun ha => ?_)
            · have ha2 : ws.all isNum = false := by simpa using ha
              have hr : rulB isNum many (.tup [k, .tup ws]) = false := by simp [rulB, ha2]
              rw [hr] at hQ
              repeat (first | tm_at "go")
              exact hQ
            · have ha2 : ws.all isNum = true := by simpa using ha
              have hn2 : ∀ w ∈ ws, ∃ i, w = .int i := fun w hw => by
                have := List.all_eq_true.mp ha2 w hw
                cases w <;> first | exact ⟨_, rfl⟩ | cases this
              repeat (first | tm_at "go")
              refine Eq.mpr (wp_sortedT (sortOk_nums hn2)) ?_
              repeat (first | tm_at "go")
              refine r_and (rngOk_nat (by unfold LIM; omega)) ?_
              refine Eq.mpr wp_eq ?_
              refine r_opt (rsv_nums fun w hw => hn2 w (mem_sortL hw)) ?_
              refine r_opt (rsv_nums (rngL_int many)) ?_
              repeat (first | tm_at "go")
              have hr : rulB isNum many (.tup [k, .tup ws]) = eqv (.lst (sortD ws)) (.lst (rngL 0 many 1)) := by simp [rulB, ha2, hkb]
              rw [hr] at hQ
              exact hQ
        · repeat (first | tm_at "go")
          exact hQ
  · repeat (first | tm_at "go")
    exact hQ
def IsRuleOk (K : Cl) (t : Nat) : Prop := ∀ {many n : Nat} {d : DV} {S : Sto} {Q : DV → Sto → Prop}, many ≤ 100 → Pl n d → n ≤ 40 → Q (.bl (rulB isNum many d)) S → wp (callF K t [.int many, d]) S Q
/-! ### a rule for every gate -/
def rulsB (num : DV → Bool) : List Nat → List DV → Bool
  | [], [] => true
  | a :: as, d :: ds => rulB num a d && rulsB num as ds
  | _, _ => false
def rulsD (num : DV → Bool) (as : List Nat) : DV → Bool
  | .tup ds => rulsB num as ds
  | _ => false
def bIsRules (n : Nat) : CSs := .cons (.ite (.or (.not (.isi (.var 1) [.tuple])) (.cmp .ne (.bi .len (.cons false (.var 1) (.nil))) (.prop (.var 0) "gates"))) (.cons (.ret (.bl false)) (.nil)) (.nil)) (.cons (.ret (.bi .all (.cons false (.comp (.call n (.cons false (.bi .len (.cons false (.meth (.var 0) "members" (.cons false (.var 2) (.nil))) (.nil))) (.cons false (.var 3) (.nil)))) (.one (.mk (.tp [(.nm 2), (.nm 3)]) (.enum (.var 1)) (.nil))) [("gate", 2), ("rule", 3)]) (.nil)))) (.nil))
theorem rulsB_len {num : DV → Bool} : ∀ {as : List Nat} {ds : List DV}, as.length ≠ ds.length → rulsB num as ds = false
  | [], [], h => absurd rfl h
  | [], _ :: _, _ => rfl
  | _ :: _, [], _ => rfl
  | a :: as, d :: ds, h => by
    simp only [rulsB, Bool.and_eq_false_iff]
    exact .inr (rulsB_len (by simpa using h))
theorem isrules_ok {K : Cl} {t mb gp c n : Nat} {xs gs ls vs : List DV} {ks : List DK} {as : List Nat} {d : DV} {S : Sto} {Q : DV → Sto → Prop} (hp : K.T.prop c "gates" = some gp) (hm : K.T.meth c "members" = some mb)
    (hG : ∀ {S : Sto} {Q : DV → Sto → Prop}, Q (.int gs.length) S → wp (callF K gp [pob c xs gs ls ks vs]) S Q) (hM : MembersOk K c mb) (hR : IsRuleOk K t) (hg : GTs as gs) (h : Pl n d) (hn : n ≤ 40) (hl : gs.length ≤ 1000)
    (hQ : Q (.bl (rulsD isNum as d)) S) : wp (runD K ⟨4, bIsRules t⟩ [pob c xs gs ls ks vs, d]) S Q := by
  refine wp_run (ρ := [.val (pob c xs gs ls ks vs), .val d, .no, .no]) (by rfl) (by rfl) ?_
  unfold bIsRules
  rcases h.cs with rfl | ⟨b, rfl⟩ | ⟨i, rfl⟩ | ⟨x, rfl⟩ | ⟨n', ds, rfl, rfl | rfl, hxl, hx⟩
  · repeat (first | tm_at "go")
    exact hQ
  · repeat (first | tm_at "go")
    exact hQ
  · repeat (first | tm_at "go")
    exact hQ
  · repeat (first | tm_at "go")
    exact hQ
  · repeat (first | tm_at "go")
    refine Eq.mpr (wp_propD hp) ?_
    refine hG ?_
    repeat (first | tm_at "go")
    have hgl := hg.len
    refine r_b (fun he => ?_) (fun he => ?_)
    · have he : (!(((ds.length : Nat) : Int) == ((gs.length : Nat) : Int))) = true := he
      have hr : rulsD isNum as (.tup ds) = false := rulsB_len (by simp at he; omega)
      rw [hr] at hQ
      repeat (first | tm_at "go")
      exact hQ
    · have he : (!(((ds.length : Nat) : Int) == ((gs.length : Nat) : Int))) = false := he
      have hdl : as.length = ds.length := by simp at he; omega
      repeat (first | tm_at "go")
      refine wp_lc (fun rem acc T => ∃ (bs : List Bool) (ar : List Nat) (dn r gn gr : List DV), acc = bs.map .bl ∧ bs.length = dn.length ∧ rem = enumL dn.length r ∧ ds = dn ++ r ∧ gs = gn ++ gr ∧ gn.length = dn.length ∧ GTs ar gr ∧ ar.length = r.length ∧ rulsB isNum as ds = (bs.all id && rulsB isNum ar r) ∧ T = S) ?_ ?_ _ _ _ ?_
      · rintro it rem acc T ⟨bs, ar, dn, r, gn, gr, rfl, hbl, hrem, hd, hgs, hgn, hgt, har, hrb, rfl⟩
        rcases r with _ | ⟨d, r⟩
        · cases hrem
        · have hrem : it :: rem = .tup [.int dn.length, d] :: enumL (dn.length + 1) r := hrem
          cases hrem
          rcases ar with _ | ⟨a, ar⟩
          · cases har
          · rcases gr with _ | ⟨g, gr⟩
            · exact hgt.elim
            · obtain ⟨⟨ms, rfl, m1, m2, m3, m4⟩, hgt⟩ := hgt
              have hdl2 := congrArg List.length hd
              simp only [List.length_append, List.length_cons] at hdl2
              refine ⟨by rfl, _, by rfl, ?_⟩
              simp only [wipeE, List.map_cons, List.map_nil, List.set_cons_succ, List.set_cons_zero, gslots, tslots]
              repeat (first | tm_at "go")
              refine Eq.mpr (wp_methO hm (by decide)) ?_
              repeat (first | tm_at "go")
              refine hM (d := .tup ms) (by rw [hgs, ← hgn]; simp) ?_
              repeat (first | tm_at "go")
              refine hR (by omega) (hx d (by rw [hd]; simp)) (by omega) ?_
              refine r_and (by rw [List.length_map]; unfold LIM; omega) ?_
              refine ⟨bs ++ [rulB isNum ms.length d], ar, dn ++ [d], r, gn ++ [.tup ms], gr, by simp, by simp [hbl], by simp, by rw [hd]; simp, by rw [hgs]; simp, by simp [hgn], hgt, by simpa using har, ?_, rfl⟩
              rw [hrb, m1]
              simp [rulsB, Bool.and_assoc]
      · rintro acc T ⟨bs, ar, dn, r, gn, gr, rfl, hbl, hrem, hd, hgs, hgn, hgt, har, hrb, rfl⟩
        refine ⟨by rfl, ?_⟩
        rcases r with _ | ⟨d, r⟩
        · rcases ar with _ | ⟨a, ar⟩
          · repeat (first | tm_at "go")
            refine Eq.mpr wp_all ?_
            have hr : rulsD isNum as (.tup ds) = bs.all id := by
              show rulsB isNum as ds = _
              rw [hrb]; simp [rulsB]
            rw [hr] at hQ
            exact hQ
          · cases har
        · cases hrem
      · exact ⟨[], as, [], ds, [], gs, rfl, rfl, rfl, rfl, rfl, rfl, hg, hdl, by simp, rfl⟩
  · repeat (first | tm_at "go")
    exact hQ
end GL
end
section
set_option Elab.async false
set_option linter.all false
set_option maxRecDepth 100000
set_option maxHeartbeats 4000000
/-! The program: what the law asks of a rule. -/
namespace GL
open PySem (Str)
local macro_rules | `(tactic| tm_at "go") => `(tactic| first
  | ((with_reducible refine r_set (ρ' := ?_) ?_ ?_); rotate_left; (simp only [List.set_cons_succ, List.set_cons_zero]; rfl))
  | ((with_reducible refine r_par (ρ' := ?_) ?_ ?_); rotate_left; (simp only [parE, List.set_cons_succ, List.set_cons_zero]; rfl))
  | with_reducible refine nx_mk ?_
  | with_reducible refine rt_mk ?_
  | with_reducible refine bk_mk ?_
  | with_reducible refine ct_mk ?_
  | with_reducible refine r_t ?_
  | with_reducible refine r_f ?_
  | ((with_reducible refine r_opt (a := ?_) ?_ ?_); rotate_left; rfl)
  | ((with_reducible refine gE ?_); first
    | with_reducible refine Eq.mpr ev_var ?_
    | with_reducible refine Eq.mpr ev_int ?_
    | with_reducible refine Eq.mpr ev_bl ?_
    | with_reducible refine Eq.mpr ev_non ?_
    | with_reducible refine Eq.mpr ev_str ?_
    | with_reducible refine Eq.mpr ev_gl ?_
    | with_reducible refine Eq.mpr ev_bin ?_
    | with_reducible refine Eq.mpr ev_cmp ?_
    | with_reducible refine Eq.mpr ev_ix ?_
    | with_reducible refine Eq.mpr ev_call ?_
    | with_reducible refine Eq.mpr ev_bi ?_
    | with_reducible refine Eq.mpr ev_and ?_
    | with_reducible refine Eq.mpr ev_or ?_
    | with_reducible refine Eq.mpr ev_not ?_
    | with_reducible refine Eq.mpr ev_ite ?_
    | with_reducible refine Eq.mpr ev_tup ?_
    | with_reducible refine Eq.mpr ev_lst ?_
    | with_reducible refine Eq.mpr ev_sl ?_
    | with_reducible refine Eq.mpr ev_fld ?_
    | with_reducible refine Eq.mpr ev_prop ?_
    | with_reducible refine Eq.mpr ev_meth ?_
    | with_reducible refine Eq.mpr ev_new ?_
    | with_reducible refine Eq.mpr ev_is ?_
    | with_reducible refine Eq.mpr ev_neg ?_
    | with_reducible refine Eq.mpr ev_cmp2 ?_
    | with_reducible refine Eq.mpr ev_rng ?_
    | with_reducible refine Eq.mpr ev_shr ?_
    | with_reducible refine Eq.mpr ev_comp ?_
    | with_reducible refine Eq.mpr ev_dcomp ?_
    | with_reducible refine Eq.mpr ev_rev ?_
    | with_reducible refine Eq.mpr ev_bm ?_)
  | ((with_reducible refine gs ?_); first
    | with_reducible refine Eq.mpr evs_nil ?_
    | with_reducible refine Eq.mpr evs_f ?_
    | with_reducible refine Eq.mpr evs_t ?_)
  | ((with_reducible refine gB ?_); first
    | with_reducible refine Eq.mpr wp_add ?_
    | with_reducible refine Eq.mpr wp_sub ?_
    | with_reducible refine Eq.mpr wp_mul ?_
    | with_reducible refine Eq.mpr wp_fdiv ?_
    | with_reducible refine Eq.mpr wp_mod ?_
    | with_reducible refine Eq.mpr wp_addS ?_
    | with_reducible refine Eq.mpr wp_addT ?_
    | with_reducible refine Eq.mpr wp_addL ?_)
  | ((with_reducible refine gC ?_); first
    | with_reducible refine Eq.mpr wp_eqI ?_
    | with_reducible refine Eq.mpr wp_neI ?_
    | with_reducible refine Eq.mpr wp_eqB ?_
    | with_reducible refine Eq.mpr wp_neB ?_
    | with_reducible refine Eq.mpr wp_lt ?_
    | with_reducible refine Eq.mpr wp_le ?_
    | with_reducible refine Eq.mpr wp_gt ?_
    | with_reducible refine Eq.mpr wp_ge ?_
    | with_reducible refine Eq.mpr wp_isin ?_
    | with_reducible refine Eq.mpr wp_notin ?_
    | with_reducible refine Eq.mpr wp_is ?_)
  | ((with_reducible refine gX ?_); first
    | with_reducible refine Eq.mpr wp_ixT ?_
    | with_reducible refine Eq.mpr wp_ixL ?_
    | with_reducible refine Eq.mpr wp_ixS ?_
    | with_reducible refine Eq.mpr wp_ixX ?_)
  | ((with_reducible refine gV ?_); first
    | with_reducible refine Eq.mpr wp_lenX ?_
    | with_reducible refine Eq.mpr wp_lenT ?_
    | with_reducible refine Eq.mpr wp_lenL ?_
    | with_reducible refine Eq.mpr wp_lenS ?_
    | with_reducible refine Eq.mpr wp_abs ?_
    | with_reducible refine Eq.mpr wp_int ?_
    | with_reducible refine Eq.mpr wp_intB ?_
    | with_reducible refine Eq.mpr wp_listT ?_
    | with_reducible refine Eq.mpr wp_listL ?_
    | with_reducible refine Eq.mpr wp_tupleT ?_
    | with_reducible refine Eq.mpr wp_tupleL ?_)
  | ((with_reducible refine gF ?_); first
    | with_reducible refine Eq.mpr ef_lst ?_
    | with_reducible refine Eq.mpr ef_list ?_
    | with_reducible refine Eq.mpr ef_add ?_
    | with_reducible refine Eq.mpr ef_sl ?_
    | with_reducible refine Eq.mpr ef_rng ?_
    | with_reducible refine Eq.mpr ef_or ?_
    | with_reducible refine Eq.mpr ef_comp ?_)
  | ((with_reducible refine gI ?_); first
    | with_reducible refine Eq.mpr ei_seq ?_
    | with_reducible refine Eq.mpr ei_rng ?_
    | with_reducible refine Eq.mpr ei_enum ?_
    | with_reducible refine Eq.mpr ei_zip ?_)
  | ((with_reducible refine gS ?_); first
    | with_reducible refine Eq.mpr ws_set ?_
    | with_reducible refine Eq.mpr ws_ret ?_
    | with_reducible refine Eq.mpr ws_ite ?_
    | with_reducible refine Eq.mpr ws_own ?_
    | with_reducible refine Eq.mpr ws_retn ?_
    | with_reducible refine Eq.mpr ws_par ?_
    | with_reducible refine Eq.mpr ws_ex ?_
    | with_reducible refine Eq.mpr ws_for ?_
    | with_reducible refine Eq.mpr ws_whl ?_
    | with_reducible refine Eq.mpr ws_sput ?_
    | with_reducible refine Eq.mpr ws_sapp ?_
    | with_reducible refine Eq.mpr ws_brk ?_
    | with_reducible refine Eq.mpr ws_cnt ?_
    | with_reducible refine Eq.mpr ws_pass ?_)
  | with_reducible refine Eq.mpr ws_cons ?_
  | with_reducible refine Eq.mpr ws_nil ?_
  | with_reducible refine Eq.mpr wp_tst ?_
  | with_reducible refine Eq.mpr wp_pure ?_
  | with_reducible refine Eq.mpr wp_it ?_
  | with_reducible refine Eq.mpr wp_iff ?_
  | with_reducible refine Eq.mpr wp_FLs ?_
  | with_reducible refine Eq.mpr wp_FDs ?_
  | with_reducible refine Eq.mpr wp_bind ?_
  | with_reducible refine Eq.mpr evo_no ?_
  | with_reducible refine Eq.mpr evo_so ?_
  | with_reducible refine Eq.mpr wp_slX ?_
  | with_reducible refine Eq.mpr wp_slT ?_
  | with_reducible refine Eq.mpr wp_slL ?_
  | with_reducible refine Eq.mpr wp_slS ?_
  | with_reducible refine Eq.mpr epv_nil ?_
  | with_reducible refine Eq.mpr epv_v ?_
  | with_reducible refine Eq.mpr epv_o ?_
  | with_reducible refine Eq.mpr ec_nil ?_
  | with_reducible refine Eq.mpr ec_cons ?_
  | with_reducible refine Eq.mpr eg_one ?_
  | with_reducible refine Eq.mpr eg_two ?_
  | with_reducible refine Eq.mpr wp_fldD ?_
  | with_reducible refine Eq.mpr wp_augI ?_
  | with_reducible refine Eq.mpr wp_augS ?_
  | ((with_reducible refine r_lt ?_ ?_); rfl)
  | ((with_reducible refine r_lim ?_ ?_); rfl)
  | ((with_reducible refine r_all ?_ ?_); rfl)
  | ((with_reducible refine r_ifp ?_ ?_); decide)
  | ((with_reducible refine r_ifnb ?_ ?_); decide))
def isInt : DV → Bool
  | .int _ => true
  | _ => false
def bIsSo : CSs := .cons (.ite (.or (.not (.isi (.var 1) [.tuple])) (.cmp .ne (.bi .len (.cons false (.var 1) (.nil))) (.bi .len (.cons false (.var 0) (.nil))))) (.cons (.ret (.bl false)) (.nil)) (.nil)) (.cons (.for (.tp [(.nm 2), (.nm 3)]) (.zip (.var 1) (.var 0)) (.cons (.ite (.or (.not (.isi (.var 2) [.tuple])) (.or (.cmp .ne (.bi .len (.cons false (.var 2) (.nil))) (.int 2)) (.cmp .notin (.ix (.var 2) (.int 0)) (.lst (.cons false (.str [102, 105, 114, 115, 116]) (.cons false (.str [116, 117, 114, 110, 115]) (.cons false (.str [108, 97, 115, 116]) (.cons false (.str [108, 111, 110, 103]) (.cons false (.str [111, 108, 100]) (.nil)))))))))) (.cons (.ret (.bl false)) (.nil)) (.nil)) (.cons (.ite (.or (.not (.isi (.ix (.var 2) (.int 1)) [.tuple])) (.cmp .ne (.comp (.var 4) (.one (.mk (.nm 4) (.seq (.ix (.var 2) (.int 1))) (.cons false (.or (.isi (.var 4) [.bool]) (.not (.isi (.var 4) [.int]))) (.nil)))) [("_law_k", 4)]) (.lst (.nil)))) (.cons (.ret (.bl false)) (.nil)) (.nil)) (.cons (.ite (.cmp .ne (.bi .sorted (.cons false (.ix (.var 2) (.int 1)) (.nil))) (.rng (.int 0) (.bi .len (.cons false (.ix (.var 3) (.int 0)) (.nil))) 1)) (.cons (.ret (.bl false)) (.nil)) (.nil)) (.nil))))) (.cons (.ret (.bl true)) (.nil)))
theorem locs_beq : ∀ {es : List DV}, (∀ e ∈ es, ∃ n, e = .loc n) → beqs es es = true
  | [], _ => rfl
  | e :: es, h => by
    obtain ⟨n, rfl⟩ := h e List.mem_cons_self
    simp only [beqs, Bool.and_eq_true]
    exact ⟨by simp [beq], locs_beq fun e he => h e (List.mem_cons_of_mem _ he)⟩
theorem Ents.locs {lo : Nat} {S : Sto} : ∀ {as : List Nat} {es : List DV}, Ents lo S as es → ∀ e ∈ es, ∃ n, e = .loc n
  | [], [], _, e, h => by cases h
  | [], _ :: _, h, _, _ => h.elim
  | _ :: _, [], h, _, _ => h.elim
  | a :: as, d :: ds, ⟨⟨k, m, ms, x, y, h, _⟩, r⟩, e, he => by
    rcases List.mem_cons.mp he with rfl | he
    · exact ⟨k, h⟩
    · exact Ents.locs r e he
theorem rsv_Pls {S : Sto} {n : Nat} {ws : List DV} (hn : n < 59) (h : ∀ w ∈ ws, Pl n w) : rsv S FU (.lst ws) = some (.lst ws) := by
  show (mapO (rsv S 59) ws).map DV.lst = _
  rw [mapO_id fun w hw => rsv_Pl (h w hw) hn]
  rfl
theorem wp_filc {K : Cl} {elt : CE} {cs : CEs} {i : Nat} {w : Wk} {xs : List DV} {ρ : Env} {S : Sto} {Q : List DV → Sto → Prop} (f : DV → Bool) (hw : w.src = []) (hi : Nat.ble (i + 1) ρ.length = true) (hl : xs.length ≤ 10000)
    (hc : ∀ x ∈ xs, ∀ Q' : Bool → Sto → Prop, Q' (f x) S → wp (evC K cs (ρ.set i (.val x))) S Q') (h : ∀ x ∈ xs, ∀ Q' : DV → Sto → Prop, Q' x S → wp (evE K elt (ρ.set i (.val x))) S Q') (hQ : Q (xs.filter f) S) :
    wp (lcLoop (.nm i) w (fun ρ' a => evC K cs ρ' >>= fun k => if k then FLs K elt ρ' a else pure a) xs ρ []) S Q := by
  refine wp_lc (fun rem acc S' => ∃ dn, xs = dn ++ rem ∧ acc = dn.filter f ∧ S' = S) ?_ ?_ _ _ _ ?_
  · rintro x r acc S' ⟨dn, hx, rfl, rfl⟩
    refine ⟨stays_nil hw _, _, asg_nm hi, ?_⟩
    have hxl := congrArg List.length hx
    simp only [List.length_append, List.length_cons] at hxl
    refine Eq.mpr wp_bind ?_
    refine hc x (by rw [hx]; simp) _ ?_
    cases hf : f x
    · repeat (first | tm_at "go")
      exact ⟨dn ++ [x], by rw [hx]; simp, by simp [hf], rfl⟩
    · repeat (first | tm_at "go")
      refine h x (by rw [hx]; simp) _ ?_
      have := List.length_filter_le f dn
      refine r_and (by unfold LIM; omega) ?_
      exact ⟨dn ++ [x], by rw [hx]; simp, by simp [hf], rfl⟩
  · rintro acc S' ⟨dn, hx, rfl, rfl⟩
    rw [List.append_nil] at hx
    subst hx
    exact ⟨stays_nil hw _, hQ⟩
  · exact ⟨[], rfl, rfl, rfl⟩
theorem isso_ok {K : Cl} {lo g n : Nat} {es : List DV} {as : List Nat} {d : DV} {S : Sto} {Q : DV → Sto → Prop} (hS : S[g]? = some (.lst es)) (hE : Ents lo S as es) (h : Pl n d) (hn : n ≤ 40) (ha : ∀ a ∈ as, a ≤ 100)
    (hQ : Q (.bl (rulsD isInt as d)) S) : wp (runD K ⟨5, bIsSo⟩ [.loc g, d]) S Q := by
  refine wp_run (ρ := [.val (.loc g), .val d, .no, .no, .no]) (by rfl) (by rfl) ?_
  unfold bIsSo
  rcases h.cs with rfl | ⟨b, rfl⟩ | ⟨i, rfl⟩ | ⟨x, rfl⟩ | ⟨n', ds, rfl, rfl | rfl, hxl, hx⟩
  · repeat (first | tm_at "go")
    exact hQ
  · repeat (first | tm_at "go")
    exact hQ
  · repeat (first | tm_at "go")
    exact hQ
  · repeat (first | tm_at "go")
    exact hQ
  · repeat (first | tm_at "go")
    refine Eq.mpr (wp_lenl hS) ?_
    repeat (first | tm_at "go")
    have hgl := hE.len
    refine r_b (fun he => ?_) (fun he => ?_)
    · have he : (!(((ds.length : Nat) : Int) == ((es.length : Nat) : Int))) = true := he
      have hr : rulsD isInt as (.tup ds) = false := rulsB_len (by simp at he; omega)
      rw [hr] at hQ
      repeat (first | tm_at "go")
      exact hQ
    · have he : (!(((ds.length : Nat) : Int) == ((es.length : Nat) : Int))) = false := he
      have hdl : as.length = ds.length := by simp at he; omega
      have hst : beqs es es = true := locs_beq hE.locs
      repeat (first | tm_at "go")
      refine r_opt (a := ⟨es, [(g, es)]⟩) (by simp only [seqW, hS]) ?_
      repeat (first | tm_at "go")
      refine ws_loopF (fun rem ρ T => ∃ (ar : List Nat) (r er : List DV) (s2 s3 : Slot), rem = zipL r er ∧ (∀ d ∈ r, Pl n' d) ∧ Ents lo S ar er ∧ (∀ a ∈ ar, a ≤ 100) ∧ ar.length = r.length ∧ rulsB isInt as ds = rulsB isInt ar r ∧ ρ = [.val (.loc g), .val (.tup ds), s2, s3, .no] ∧ T = S) ?_ ?_ _ _ _ ?_
      · rintro it rem ρ T ⟨ar, r, er, s2, s3, hrem, hd, hgt, har2, har, hrb, rfl, rfl⟩
        rcases r with _ | ⟨d, r⟩
        · cases hrem
        · rcases er with _ | ⟨e, er⟩
          · cases hrem
          · have hrem : it :: rem = .tup [d, e] :: zipL r er := hrem
            cases hrem
            rcases ar with _ | ⟨a, ar⟩
            · cases har
            · obtain ⟨⟨k, m, ms, x, y, rfl, m1, m2, m3, m4, m5, m6⟩, hgt⟩ := hgt
              refine ⟨by simp only [Wk.stays, List.nil_append, List.all_cons, List.all_nil, hS, hst, Bool.and_self], _, by rfl, ?_⟩
              simp only [List.set_cons_succ, List.set_cons_zero]
              repeat (first | tm_at "go")
              have kf : rulB isInt a d = false → Q (.bl false) T := fun e => by
                have hr : rulsD isInt as (.tup ds) = false := by
                  show rulsB isInt as ds = false
                  rw [hrb]; simp [rulsB, e]
                rw [hr] at hQ
                exact hQ
              have kt : rulB isInt a d = true → rulsB isInt as ds = rulsB isInt ar r := fun e => by
                rw [hrb]; simp [rulsB, e]
              have hd2 : ∀ d ∈ r, Pl n' d := fun z hz => hd z (List.mem_cons_of_mem _ hz)
              have har3 : ∀ a ∈ ar, a ≤ 100 := fun z hz => har2 z (List.mem_cons_of_mem _ hz)
              have hal := har2 a List.mem_cons_self
              have har4 : ar.length = r.length := by simpa using har
              have hdp := hd d List.mem_cons_self
              clear hrem hQ hrb hd har2 har
              rcases hdp.cs with rfl | ⟨b, rfl⟩ | ⟨i, rfl⟩ | ⟨x, rfl⟩ | ⟨n2, xs, rfl, rfl | rfl, hxl2, hx2⟩
              · repeat (first | tm_at "go")
                exact kf rfl
              · repeat (first | tm_at "go")
                exact kf rfl
              · repeat (first | tm_at "go")
                exact kf rfl
              · repeat (first | tm_at "go")
                exact kf rfl
              · repeat (first | tm_at "go")
                refine r_b (fun hl => ?_) (fun hl => ?_)
                · have hl2 : xs.length ≠ 2 := by
                    intro e; rw [e] at hl; exact absurd hl (by decide)
                  repeat (first | tm_at "go")
                  refine r_ifp hl ?_
                  repeat (first | tm_at "go")
                  refine kf ?_
                  rcases xs with _ | ⟨x, _ | ⟨y, _ | ⟨z, r⟩⟩⟩
                  · rfl
                  · rfl
                  · exact absurd rfl hl2
                  · simp [rulB]
                · have hl2 : xs.length = 2 := by
                    have hl : (!(((xs.length : Nat) : Int) == 2)) = false := hl
                    simp at hl; omega
                  obtain ⟨q, v, rfl⟩ : ∃ k v, xs = [k, v] := by
                    rcases xs with _ | ⟨x, _ | ⟨y, _ | ⟨z, r⟩⟩⟩ <;> simp at hl2
                    exact ⟨_, _, rfl⟩
                  have hk := hx2 q (by simp)
                  have hv := hx2 v (by simp)
                  repeat (first | tm_at "go")
                  refine Eq.mpr wp_inL ?_
                  refine r_opt (rsv_Pl hk (show n2 < 60 by omega)) ?_
                  refine r_opt (show mapO (rsv T 59) kindsL = some kindsL by rfl) ?_
                  repeat (first | tm_at "go")
                  refine r_b (fun hb => ?_) (fun hb => ?_)
                  · repeat (first | tm_at "go")
                    refine kf ?_
                    have hkb : kindB q = false := by simpa [kindB] using hb
                    cases v <;> simp [rulB, hkb]
                  · have hkb : kindB q = true := by simpa [kindB] using hb
                    repeat (first | tm_at "go")
                    rcases hv.cs with rfl | ⟨b, rfl⟩ | ⟨i, rfl⟩ | ⟨x, rfl⟩ | ⟨n'', ws, rfl, rfl | rfl, hwl, hw⟩
                    · repeat (first | tm_at "go")
                      exact kf rfl
                    · repeat (first | tm_at "go")
                      exact kf rfl
                    · repeat (first | tm_at "go")
                      exact kf rfl
                    · repeat (first | tm_at "go")
                      exact kf rfl
                    · repeat (first | tm_at "go")
                      refine wp_filc (fun x => !isInt x) rfl (by rfl) (by simp; omega) (fun x hx Q' hq => ?_) (fun x hx Q' hq => ?_) ?_
                      · simp only [wipeE, List.map_cons, List.map_nil, List.set_cons_succ, List.set_cons_zero]
                        rcases (hw x hx).cs with rfl | ⟨b, rfl⟩ | ⟨i, rfl⟩ | ⟨x, rfl⟩ | ⟨n'', ws, rfl, rfl | rfl, hwl, hw⟩ <;> (repeat (first | tm_at "go")) <;> exact hq
                      · simp only [wipeE, List.map_cons, List.map_nil, List.set_cons_succ, List.set_cons_zero]
                        repeat (first | tm_at "go")
                        exact hq
                      · repeat (first | tm_at "go")
                        refine Eq.mpr wp_eqD ?_
                        refine r_opt (rsv_Pls (n := n'') (by omega) fun w hw2 => hw w (List.mem_filter.mp hw2).1) ?_
                        repeat (first | tm_at "go")
                        have hff : eqv (.lst (ws.filter fun x => !isInt x)) (.lst []) = ws.all isInt := by
                          cases hf : ws.filter fun x => !isInt x with
                          | nil =>
                            have : ws.all isInt = true := List.all_eq_true.mpr fun z hz => by
                              have := List.filter_eq_nil_iff.mp hf z hz
                              simpa using this
                            rw [this]; rfl
                          | cons z zs =>
                            have hz : z ∈ ws.filter fun x => !isInt x := by rw [hf]; simp
                            have hz2 := List.mem_filter.mp hz
                            have : ws.all isInt = false := by
                              rw [List.all_eq_false]
                              exact ⟨z, hz2.1, by simpa using hz2.2⟩
                            rw [this]; rfl
                        refine r_b (fun ha => ?_) (fun ha => ?_)
                        · have ha2 : ws.all isInt = false := by rw [← hff]; simpa using ha
                          repeat (first | tm_at "go")
                          exact kf (by simp [rulB, ha2])
                        · have ha2 : ws.all isInt = true := by rw [← hff]; simpa using ha
                          have hn2 : ∀ w ∈ ws, ∃ i, w = .int i := fun w hw => by
                            have := List.all_eq_true.mp ha2 w hw
                            cases w <;> first | exact ⟨_, rfl⟩ | cases this
                          have hr : rulB isInt a (.tup [q, .tup ws]) = eqv (.lst (sortD ws)) (.lst (rngL 0 a 1)) := by simp [rulB, ha2, hkb]
                          rw [hr] at kf kt
                          repeat (first | tm_at "go")
                          refine Eq.mpr (wp_sortedT (sortOk_nums hn2)) ?_
                          repeat (first | tm_at "go")
                          refine Eq.mpr (wp_ixl m4) ?_
                          repeat (first | tm_at "go")
                          refine Eq.mpr (wp_lenl m5) ?_
                          repeat (first | tm_at "go")
                          rw [m6]
                          refine r_and (rngOk_nat (by unfold LIM; omega)) ?_
                          refine Eq.mpr wp_ne ?_
                          refine r_opt (rsv_nums fun w hw => hn2 w (mem_sortL hw)) ?_
                          refine r_opt (rsv_nums (rngL_int a)) ?_
                          repeat (first | tm_at "go")
                          refine r_b (fun hb => ?_) (fun hb => ?_)
                          · repeat (first | tm_at "go")
                            exact kf (by simpa using hb)
                          · repeat (first | tm_at "go")
                            exact ⟨ar, r, er, _, _, rfl, hd2, hgt, har3, har4, kt (by simpa using hb), rfl, rfl⟩
                    · repeat (first | tm_at "go")
                      exact kf rfl
              · repeat (first | tm_at "go")
                exact kf rfl
      · rintro ρ T ⟨ar, r, er, s2, s3, hrem, hd, hgt, har2, har, hrb, rfl, rfl⟩
        refine ⟨by simp only [Wk.stays, List.nil_append, List.all_cons, List.all_nil, hS, hst, Bool.and_self], ?_⟩
        have hg2 := hgt.len
        rcases r with _ | ⟨d, r⟩
        · rcases ar with _ | ⟨a, ar⟩
          · repeat (first | tm_at "go")
            have hr : rulsD isInt as (.tup ds) = true := hrb
            rw [hr] at hQ
            exact hQ
          · cases har
        · rcases er with _ | ⟨e, er⟩
          · rw [har] at hg2; cases hg2
          · cases hrem
      · exact ⟨as, ds, es, _, _, rfl, hx, hE, ha, hdl, rfl, rfl, rfl⟩
  · repeat (first | tm_at "go")
    exact hQ
end GL
end
section
set_option Elab.async false
set_option linter.all false
set_option maxRecDepth 100000
set_option maxHeartbeats 4000000
/-! The law of rules, plain. -/
namespace GL
open PySem (Str)
theorem eqvs_nn : ∀ {xs ys : List DV}, eqvs xs ys = true → (∀ x ∈ xs, ∃ i, x = .int i) → (∀ y ∈ ys, ∃ j : Nat, y = .int j) → ∀ x ∈ xs, isNum x = true
  | [], _, _, _, _, x, h => by cases h
  | x :: xs, [], h, _, _, _, _ => by simp [eqvs] at h
  | x :: xs, y :: ys, h, h1, h2, z, hz => by
    simp only [eqvs, Bool.and_eq_true] at h
    rcases List.mem_cons.mp hz with rfl | hz
    · obtain ⟨i, rfl⟩ := h1 z List.mem_cons_self
      obtain ⟨j, rfl⟩ := h2 y List.mem_cons_self
      have : i = (j : Int) := by simpa [eqv] using h.1
      subst this
      simp [isNum]
    · exact eqvs_nn h.2 (fun w hw => h1 w (List.mem_cons_of_mem _ hw)) (fun w hw => h2 w (List.mem_cons_of_mem _ hw)) z hz
theorem isNum_int {d : DV} (h : isNum d = true) : isInt d = true := by
  cases d <;> first | rfl | cases h
theorem all_int {ws : List DV} (h : ws.all isInt = true) : ∀ w ∈ ws, ∃ i, w = .int i := fun w hw => by
  have := List.all_eq_true.mp h w hw
  cases w <;> first | exact ⟨_, rfl⟩ | cases this
theorem rngL_nn (n : Nat) : ∀ w ∈ rngL 0 n 1, ∃ j : Nat, w = .int j := by
  rw [rngL_nat]
  intro w hw
  obtain ⟨i, _, rfl⟩ := List.mem_map.mp hw
  exact ⟨_, rfl⟩
theorem rul_ws (n : Nat) (ws : List DV) : (ws.all isNum && eqv (.lst (sortD ws)) (.lst (rngL 0 n 1))) = (ws.all isInt && eqv (.lst (sortD ws)) (.lst (rngL 0 n 1))) := by
  cases h : ws.all isInt with
  | false =>
    have : ws.all isNum = false := by
      rw [List.all_eq_false] at h ⊢
      obtain ⟨x, hx, h2⟩ := h
      exact ⟨x, hx, fun e => h2 (isNum_int e)⟩
    rw [this]
  | true =>
    cases e : eqv (.lst (sortD ws)) (.lst (rngL 0 n 1)) with
    | false => simp
    | true =>
      have hi := all_int h
      have e : eqvs (sortD ws) (rngL 0 n 1) = true := by simpa only [eqv] using e
      have := eqvs_nn e (fun x hx => hi x (mem_sortL hx)) (rngL_nn n)
      have : ws.all isNum = true := List.all_eq_true.mpr fun w hw => this w ((sortL_perm (lt := ltD) ws).mem_iff.mpr hw)
      rw [this]
theorem rul_same (n : Nat) (d : DV) : rulB isNum n d = rulB isInt n d := by
  unfold rulB
  split
  · rw [rul_ws]
  · rfl
theorem ruls_same : ∀ (as : List Nat) (ds : List DV), rulsB isNum as ds = rulsB isInt as ds
  | [], [] => rfl
  | [], _ :: _ => rfl
  | _ :: _, [] => rfl
  | a :: as, d :: ds => by simp only [rulsB, rul_same, ruls_same as ds]
theorem rulsD_same (as : List Nat) (d : DV) : rulsD isNum as d = rulsD isInt as d := by
  cases d <;> first | rfl | exact ruls_same _ _
def keyI : DV → Int
  | .int i => i
  | _ => 0
theorem sortD_rng {n : Nat} {ws : List DV} (h : ws.Perm (rngL 0 n 1)) : sortD ws = rngL 0 n 1 := by
  have hi : ∀ w ∈ ws, ∃ i, w = .int i := fun w hw => rngL_int n w (h.mem_iff.mp hw)
  have e : sortD ws = sortL (fun a b => decide (keyI a < keyI b)) ws := sortL_congr fun x hx y hy => by
    obtain ⟨i, rfl⟩ := hi x hx
    obtain ⟨j, rfl⟩ := hi y hy
    rfl
  have T : PySem.W.TotalLe (fun a b => !(fun a b => decide (keyI a < keyI b)) b a) := ⟨fun a b c => by simp; omega, fun a b => by simp; omega⟩
  have hs := sortL_sorted T ws
  have hp := sortL_perm (lt := fun a b => decide (keyI a < keyI b)) ws
  rw [e]
  refine List.Perm.eq_of_pairwise (le := fun a b => keyI a ≤ keyI b) ?_ (hs.imp fun h => by simpa using h) ?_ (hp.trans h)
  · intro a b ha hb h1 h2
    obtain ⟨i, rfl⟩ := hi a (hp.mem_iff.mp ha)
    obtain ⟨j, rfl⟩ := rngL_int n b hb
    have : i = j := by simp only [keyI] at h1 h2; omega
    rw [this]
  · rw [rngL_nat]
    exact List.Pairwise.map _ (fun a b h => by simp only [keyI]; omega) List.pairwise_lt_range
theorem eqvs_ints : ∀ {xs : List DV}, (∀ x ∈ xs, ∃ i, x = .int i) → eqvs xs xs = true
  | [], _ => rfl
  | x :: xs, h => by
    obtain ⟨i, rfl⟩ := h x List.mem_cons_self
    simp only [eqvs, Bool.and_eq_true]
    exact ⟨by simp [eqv], eqvs_ints fun y hy => h y (List.mem_cons_of_mem _ hy)⟩
/-- a drawn rule -/
def Rul (a : Nat) (d : DV) : Prop := ∃ k ws, d = .tup [k, .tup ws] ∧ k ∈ kindsL ∧ ws.Perm (rngL 0 a 1)
def Ruls : List Nat → List DV → Prop
  | [], [] => True
  | a :: as, d :: ds => Rul a d ∧ Ruls as ds
  | _, _ => False
theorem kindB_mem {k : DV} (h : k ∈ kindsL) : kindB k = true := by
  simp only [kindsL, List.mem_cons, List.not_mem_nil, or_false] at h
  rcases h with rfl | rfl | rfl | rfl | rfl <;> decide
theorem Rul.b {a : Nat} {d : DV} (h : Rul a d) : rulB isNum a d = true := by
  obtain ⟨k, ws, rfl, hk, hw⟩ := h
  rw [rul_same]
  have e : eqv (.lst (sortD ws)) (.lst (rngL 0 a 1)) = true := by
    rw [sortD_rng hw]; simpa only [eqv] using eqvs_ints (rngL_int a)
  have i : ws.all isInt = true := List.all_eq_true.mpr fun w hw2 => by
    obtain ⟨i, rfl⟩ := rngL_int a w (hw.mem_iff.mp hw2); rfl
  simp [rulB, kindB_mem hk, e, i]
theorem Ruls.b : ∀ {as : List Nat} {ds : List DV}, Ruls as ds → rulsB isNum as ds = true
  | [], [], _ => rfl
  | [], _ :: _, h => h.elim
  | _ :: _, [], h => h.elim
  | a :: as, d :: ds, ⟨h, r⟩ => by simp [rulsB, h.b, Ruls.b r]
theorem Ruls.len : ∀ {as : List Nat} {ds : List DV}, Ruls as ds → as.length = ds.length
  | [], [], _ => rfl
  | [], _ :: _, h => h.elim
  | _ :: _, [], h => h.elim
  | a :: as, d :: ds, ⟨h, r⟩ => by simp [Ruls.len r]
theorem Ruls.mem : ∀ {as : List Nat} {ds : List DV}, Ruls as ds → ∀ d ∈ ds, ∃ a ∈ as, Rul a d
  | [], [], _, d, h => by cases h
  | [], _ :: _, h, _, _ => h.elim
  | _ :: _, [], h, _, _ => h.elim
  | a :: as, d :: ds, ⟨h, r⟩, e, he => by
    rcases List.mem_cons.mp he with rfl | he
    · exact ⟨a, List.mem_cons_self, h⟩
    · obtain ⟨b, hb, h2⟩ := Ruls.mem r e he
      exact ⟨b, List.mem_cons_of_mem _ hb, h2⟩
theorem Ruls.app : ∀ {as bs : List Nat} {ds es : List DV}, Ruls as ds → Ruls bs es → Ruls (as ++ bs) (ds ++ es)
  | [], _, [], _, _, h => h
  | [], _, _ :: _, _, h, _ => h.elim
  | _ :: _, _, [], _, h, _ => h.elim
  | a :: as, _, d :: ds, _, ⟨h, r⟩, g => ⟨h, Ruls.app r g⟩
/-! ### lists in place of tuples -/
mutual
def tl : DV → DV
  | .tup xs => .lst (tls xs)
  | .lst xs => .lst (tls xs)
  | d => d
def tls : List DV → List DV
  | [] => []
  | x :: xs => tl x :: tls xs
end
theorem tls_map : ∀ xs : List DV, tls xs = xs.map tl
  | [] => rfl
  | x :: xs => by simp [tls, tls_map xs]
end GL
end
section
set_option Elab.async false
set_option linter.all false
set_option maxRecDepth 100000
set_option maxHeartbeats 4000000
/-! The program: lists of it, rules drawn. -/
namespace GL
open PySem (Str)
local macro_rules | `(tactic| tm_at "go") => `(tactic| first
  | ((with_reducible refine r_set (ρ' := ?_) ?_ ?_); rotate_left; (simp only [List.set_cons_succ, List.set_cons_zero]; rfl))
  | ((with_reducible refine r_par (ρ' := ?_) ?_ ?_); rotate_left; (simp only [parE, List.set_cons_succ, List.set_cons_zero]; rfl))
  | with_reducible refine nx_mk ?_
  | with_reducible refine rt_mk ?_
  | with_reducible refine bk_mk ?_
  | with_reducible refine ct_mk ?_
  | with_reducible refine r_t ?_
  | with_reducible refine r_f ?_
  | ((with_reducible refine r_opt (a := ?_) ?_ ?_); rotate_left; rfl)
  | ((with_reducible refine gE ?_); first
    | with_reducible refine Eq.mpr ev_var ?_
    | with_reducible refine Eq.mpr ev_int ?_
    | with_reducible refine Eq.mpr ev_bl ?_
    | with_reducible refine Eq.mpr ev_non ?_
    | with_reducible refine Eq.mpr ev_str ?_
    | with_reducible refine Eq.mpr ev_gl ?_
    | with_reducible refine Eq.mpr ev_bin ?_
    | with_reducible refine Eq.mpr ev_cmp ?_
    | with_reducible refine Eq.mpr ev_ix ?_
    | with_reducible refine Eq.mpr ev_call ?_
    | with_reducible refine Eq.mpr ev_bi ?_
    | with_reducible refine Eq.mpr ev_and ?_
    | with_reducible refine Eq.mpr ev_or ?_
    | with_reducible refine Eq.mpr ev_not ?_
    | with_reducible refine Eq.mpr ev_ite ?_
    | with_reducible refine Eq.mpr ev_tup ?_
    | with_reducible refine Eq.mpr ev_lst ?_
    | with_reducible refine Eq.mpr ev_sl ?_
    | with_reducible refine Eq.mpr ev_fld ?_
    | with_reducible refine Eq.mpr ev_prop ?_
    | with_reducible refine Eq.mpr ev_meth ?_
    | with_reducible refine Eq.mpr ev_new ?_
    | with_reducible refine Eq.mpr ev_is ?_
    | with_reducible refine Eq.mpr ev_neg ?_
    | with_reducible refine Eq.mpr ev_cmp2 ?_
    | with_reducible refine Eq.mpr ev_rng ?_
    | with_reducible refine Eq.mpr ev_shr ?_
    | with_reducible refine Eq.mpr ev_comp ?_
    | with_reducible refine Eq.mpr ev_dcomp ?_
    | with_reducible refine Eq.mpr ev_rev ?_
    | with_reducible refine Eq.mpr ev_bm ?_)
  | ((with_reducible refine gs ?_); first
    | with_reducible refine Eq.mpr evs_nil ?_
    | with_reducible refine Eq.mpr evs_f ?_
    | with_reducible refine Eq.mpr evs_t ?_)
  | ((with_reducible refine gB ?_); first
    | with_reducible refine Eq.mpr wp_add ?_
    | with_reducible refine Eq.mpr wp_sub ?_
    | with_reducible refine Eq.mpr wp_mul ?_
    | with_reducible refine Eq.mpr wp_fdiv ?_
    | with_reducible refine Eq.mpr wp_mod ?_
    | with_reducible refine Eq.mpr wp_addS ?_
    | with_reducible refine Eq.mpr wp_addT ?_
    | with_reducible refine Eq.mpr wp_addL ?_)
  | ((with_reducible refine gC ?_); first
    | with_reducible refine Eq.mpr wp_eqI ?_
    | with_reducible refine Eq.mpr wp_neI ?_
    | with_reducible refine Eq.mpr wp_eqB ?_
    | with_reducible refine Eq.mpr wp_neB ?_
    | with_reducible refine Eq.mpr wp_lt ?_
    | with_reducible refine Eq.mpr wp_le ?_
    | with_reducible refine Eq.mpr wp_gt ?_
    | with_reducible refine Eq.mpr wp_ge ?_
    | with_reducible refine Eq.mpr wp_isin ?_
    | with_reducible refine Eq.mpr wp_notin ?_
    | with_reducible refine Eq.mpr wp_is ?_)
  | ((with_reducible refine gX ?_); first
    | with_reducible refine Eq.mpr wp_ixT ?_
    | with_reducible refine Eq.mpr wp_ixL ?_
    | with_reducible refine Eq.mpr wp_ixS ?_
    | with_reducible refine Eq.mpr wp_ixX ?_)
  | ((with_reducible refine gV ?_); first
    | with_reducible refine Eq.mpr wp_lenX ?_
    | with_reducible refine Eq.mpr wp_lenT ?_
    | with_reducible refine Eq.mpr wp_lenL ?_
    | with_reducible refine Eq.mpr wp_lenS ?_
    | with_reducible refine Eq.mpr wp_abs ?_
    | with_reducible refine Eq.mpr wp_int ?_
    | with_reducible refine Eq.mpr wp_intB ?_
    | with_reducible refine Eq.mpr wp_listT ?_
    | with_reducible refine Eq.mpr wp_listL ?_
    | with_reducible refine Eq.mpr wp_tupleT ?_
    | with_reducible refine Eq.mpr wp_tupleL ?_)
  | ((with_reducible refine gF ?_); first
    | with_reducible refine Eq.mpr ef_lst ?_
    | with_reducible refine Eq.mpr ef_list ?_
    | with_reducible refine Eq.mpr ef_add ?_
    | with_reducible refine Eq.mpr ef_sl ?_
    | with_reducible refine Eq.mpr ef_rng ?_
    | with_reducible refine Eq.mpr ef_or ?_
    | with_reducible refine Eq.mpr ef_comp ?_)
  | ((with_reducible refine gI ?_); first
    | with_reducible refine Eq.mpr ei_seq ?_
    | with_reducible refine Eq.mpr ei_rng ?_
    | with_reducible refine Eq.mpr ei_enum ?_
    | with_reducible refine Eq.mpr ei_zip ?_)
  | ((with_reducible refine gS ?_); first
    | with_reducible refine Eq.mpr ws_set ?_
    | with_reducible refine Eq.mpr ws_ret ?_
    | with_reducible refine Eq.mpr ws_ite ?_
    | with_reducible refine Eq.mpr ws_own ?_
    | with_reducible refine Eq.mpr ws_retn ?_
    | with_reducible refine Eq.mpr ws_par ?_
    | with_reducible refine Eq.mpr ws_ex ?_
    | with_reducible refine Eq.mpr ws_for ?_
    | with_reducible refine Eq.mpr ws_whl ?_
    | with_reducible refine Eq.mpr ws_sput ?_
    | with_reducible refine Eq.mpr ws_sapp ?_
    | with_reducible refine Eq.mpr ws_brk ?_
    | with_reducible refine Eq.mpr ws_cnt ?_
    | with_reducible refine Eq.mpr ws_pass ?_)
  | with_reducible refine Eq.mpr ws_cons ?_
  | with_reducible refine Eq.mpr ws_nil ?_
  | with_reducible refine Eq.mpr wp_tst ?_
  | with_reducible refine Eq.mpr wp_pure ?_
  | with_reducible refine Eq.mpr wp_it ?_
  | with_reducible refine Eq.mpr wp_iff ?_
  | with_reducible refine Eq.mpr wp_FLs ?_
  | with_reducible refine Eq.mpr wp_FDs ?_
  | with_reducible refine Eq.mpr wp_bind ?_
  | with_reducible refine Eq.mpr evo_no ?_
  | with_reducible refine Eq.mpr evo_so ?_
  | with_reducible refine Eq.mpr wp_slX ?_
  | with_reducible refine Eq.mpr wp_slT ?_
  | with_reducible refine Eq.mpr wp_slL ?_
  | with_reducible refine Eq.mpr wp_slS ?_
  | with_reducible refine Eq.mpr epv_nil ?_
  | with_reducible refine Eq.mpr epv_v ?_
  | with_reducible refine Eq.mpr epv_o ?_
  | with_reducible refine Eq.mpr ec_nil ?_
  | with_reducible refine Eq.mpr ec_cons ?_
  | with_reducible refine Eq.mpr eg_one ?_
  | with_reducible refine Eq.mpr eg_two ?_
  | with_reducible refine Eq.mpr wp_fldD ?_
  | with_reducible refine Eq.mpr wp_augI ?_
  | with_reducible refine Eq.mpr wp_augS ?_
  | ((with_reducible refine r_lt ?_ ?_); rfl)
  | ((with_reducible refine r_lim ?_ ?_); rfl)
  | ((with_reducible refine r_all ?_ ?_); rfl)
  | ((with_reducible refine r_ifp ?_ ?_); decide)
  | ((with_reducible refine r_ifnb ?_ ?_); decide))
def bLists (t : Nat) : CSs := .cons (.ret (.ite (.isi (.var 0) [.list, .tuple]) (.comp (.call t (.cons false (.var 1) (.nil))) (.one (.mk (.nm 1) (.seq (.var 0)) (.nil))) [("_law_bit", 1)]) (.var 0))) (.nil)
def ListsOk (K : Cl) (t n : Nat) : Prop := ∀ {d : DV} {S : Sto} {Q : DV → Sto → Prop}, Pl n d → Q (tl d) S → wp (callF K t [d]) S Q
theorem lists_ok {K : Cl} {t n : Nat} {d : DV} {S : Sto} {Q : DV → Sto → Prop} (hL : ∀ n', n = n' + 1 → ListsOk K t n') (h : Pl n d) (hQ : Q (tl d) S) : wp (runD K ⟨2, bLists t⟩ [d]) S Q := by
  refine wp_run (ρ := [.val d, .no]) (by rfl) (by rfl) ?_
  unfold bLists
  rcases h.cs with rfl | ⟨b, rfl⟩ | ⟨i, rfl⟩ | ⟨x, rfl⟩ | ⟨n', xs, hn, rfl | rfl, hxl, hx⟩
  · repeat (first | tm_at "go")
    exact hQ
  · repeat (first | tm_at "go")
    exact hQ
  · repeat (first | tm_at "go")
    exact hQ
  · repeat (first | tm_at "go")
    exact hQ
  · repeat (first | tm_at "go")
    refine wp_mapc tl rfl (by rfl) (by simp; omega) (fun x hx2 Q' hq => ?_) ?_
    · simp only [wipeE, List.map_cons, List.map_nil, List.set_cons_succ, List.set_cons_zero]
      repeat (first | tm_at "go")
      exact hL n' hn (hx x hx2) hq
    · repeat (first | tm_at "go")
      simp only [tl, tls_map] at hQ
      exact hQ
  · repeat (first | tm_at "go")
    refine wp_mapc tl rfl (by rfl) (by simp; omega) (fun x hx2 Q' hq => ?_) ?_
    · simp only [wipeE, List.map_cons, List.map_nil, List.set_cons_succ, List.set_cons_zero]
      repeat (first | tm_at "go")
      exact hL n' hn (hx x hx2) hq
    · repeat (first | tm_at "go")
      simp only [tl, tls_map] at hQ
      exact hQ
theorem tl_Pl : ∀ {n : Nat} {d : DV}, Pl n d → Pl n (tl d)
  | n, d, h => by
    rcases h.cs with rfl | ⟨b, rfl⟩ | ⟨i, rfl⟩ | ⟨x, rfl⟩ | ⟨n', xs, rfl, rfl | rfl, hxl, hx⟩
    · exact h
    · exact h
    · exact h
    · exact h
    · refine .inr ⟨xs.map tl, .inr (by simp [tl, tls_map]), by simpa using hxl, fun y hy => ?_⟩
      obtain ⟨x, hx2, rfl⟩ := List.mem_map.mp hy
      exact tl_Pl (hx x hx2)
    · refine .inr ⟨xs.map tl, .inr (by simp [tl, tls_map]), by simpa using hxl, fun y hy => ?_⟩
      obtain ⟨x, hx2, rfl⟩ := List.mem_map.mp hy
      exact tl_Pl (hx x hx2)
def bRules (o m r : Nat) : CSs := .cons (.own 2 (.lst (.nil))) (.cons (.for (.tp [(.nm 3), (.nm 4), (.nm 5)]) (.seq (.call r (.cons false (.var 1) (.cons false (.neg (.int 1)) (.cons false (.neg (.int 1)) (.cons false (.shr (.lst (.nil))) (.nil))))))) (.cons (.set (.nm 6) (.call o (.cons false (.var 0) (.cons false (.lst (.cons false (.str [102, 105, 114, 115, 116]) (.cons false (.str [116, 117, 114, 110, 115]) (.cons false (.str [108, 97, 115, 116]) (.cons false (.str [108, 111, 110, 103]) (.cons false (.str [111, 108, 100]) (.nil))))))) (.nil))))) (.cons (.app 2 (.tup (.cons false (.var 6) (.cons false (.bi .tuple (.cons false (.call m (.cons false (.var 0) (.cons false (.rng (.int 0) (.bi .len (.cons false (.var 3) (.nil))) 1) (.nil)))) (.nil))) (.nil))))) (.nil)))) (.cons (.frz 2) (.cons (.ret (.bi .tuple (.cons false (.var 2) (.nil)))) (.nil))))
theorem Bx.lt {S : Sto} {b c : Nat} (h : Bx S b c) : b < S.length := by
  obtain ⟨x, y, z, h, _⟩ := h
  exact (List.getElem?_eq_some_iff.mp h).1
theorem rules_ok {K : Cl} {o m r b c : Nat} {xs : List DV} {S : Sto} {Q : DV → Sto → Prop} (hO : OfOk K o) (hM : MixedOk K m) (hR : ReadOk K r 2) (hB : Bx S b c) (hc : c + 2000 < 2 ^ 62) (hne : xs ≠ []) (hxl : xs.length ≤ 10) (hm : ∀ x ∈ xs, Mem 2 x)
    (hA : ∀ a ∈ ars (.tup xs), a ≤ 10) (hQ : ∀ ds S', Ruls (ars (.tup xs)) ds → Bx S' b (c + 2000) → Fr b S S' → Q (.tup ds) S') : wp (runD K ⟨7, bRules o m r⟩ [.loc b, .tup xs]) S Q := by
  have ha := arss_mem hxl hm
  have ha1 : (ars (.tup xs)).length ≤ 111 := by simp only [ars, List.length_cons]; omega
  refine wp_run (ρ := [.val (.loc b), .val (.tup xs), .no, .no, .no, .no, .no]) (by rfl) (by rfl) ?_
  unfold bRules
  repeat (first | tm_at "go")
  refine hR get_new hne hxl hm (by simp only [List.length_nil]; omega) (fun es S1 hf hE hFr => ?_)
  rw [List.nil_append] at hf
  generalize ars (.tup xs) = as at *
  have hb := hB.lt
  have hFr0 : Fr b S S1 := by
    refine ⟨by have := hFr.1; simp only [List.length_append, List.length_cons] at this; omega, fun i hi hb2 => ?_⟩
    rw [hFr.2 i (by simp only [List.length_append, List.length_cons]; omega) (by omega), List.getElem?_append_left hi]
  have hB1 : Bx S1 b c := by
    obtain ⟨x, y, z, h, h2⟩ := hB
    exact ⟨x, y, z, hFr.get (get_app h) (by omega), h2⟩
  have hst : beqs es es = true := locs_beq hE.locs
  repeat (first | tm_at "go")
  refine r_opt (a := ⟨es, [(S.length, es)]⟩) (by simp only [walkOf, seqW, hf]) ?_
  repeat (first | tm_at "go")
  refine ws_loopF (fun rem ρ T => ∃ (an ar : List Nat) (rs : List DV) (s3 s4 s5 s6 : Slot), as = an ++ ar ∧ Ruls an rs ∧ Ents (S.length + 1) T ar rem ∧ T[S.length]? = some (.lst es) ∧ Bx T b (c + 11 * an.length) ∧ Fr b S T ∧ ρ = [.val (.loc b), .val (.tup xs), .own (.lst rs), s3, s4, s5, s6]) ?_ ?_ _ _ _ ?_
  · rintro it rem ρ T ⟨an, ar, rs, s3, s4, s5, s6, has, hrs, hEn, hfT, hBT, hFT, rfl⟩
    rcases ar with _ | ⟨a, ar⟩
    · exact hEn.elim
    · obtain ⟨⟨k, m', ms, x, y, rfl, m1, m2, m3, m4, m5, m6⟩, hEn⟩ := hEn
      have hal := congrArg List.length has
      simp only [List.length_append, List.length_cons] at hal
      have haa : a ≤ 10 := hA a (by rw [has]; simp)
      refine ⟨by simp only [Wk.stays, List.all_cons, List.all_nil, hfT, hst, Bool.and_self], [.val (.loc b), .val (.tup xs), .own (.lst rs), .val (.loc m'), .val x, .val y, s6], ?_, ?_⟩
      · simp only [asg, seqOf, m4]
        rfl
      repeat (first | tm_at "go")
      refine hO hBT (by omega) (by simp) (by decide) (fun x1 T1 hx1 hB1 hF1 => ?_)
      repeat (first | tm_at "go")
      refine Eq.mpr (ws_app (by rfl)) ?_
      repeat (first | tm_at "go")
      have hb' : ∀ i, S.length + 1 ≤ i → i ≠ b := fun i hi => by omega
      have m4 := hF1.get m4 (hb' k m1)
      have m5 := hF1.get m5 (hb' m' m2)
      refine Eq.mpr (wp_lenl m5) ?_
      repeat (first | tm_at "go")
      rw [m6]
      refine r_and (rngOk_nat (by unfold LIM; omega)) ?_
      repeat (first | tm_at "go")
      refine hM hB1 (by rw [rngL_len]; omega) (by rw [rngL_len]; omega) (fun ys T2 hp hB2 hF2 => ?_)
      repeat (first | tm_at "go")
      have hrl := hrs.len
      refine r_and (by unfold LIM; omega) ?_
      repeat (first | tm_at "go")
      have hF := hF1.trans hF2
      refine ⟨an ++ [a], ar, rs ++ [.tup [x1, .tup ys]], _, _, _, _, by rw [has]; simp, Ruls.app hrs ⟨⟨x1, ys, rfl, hx1, hp⟩, trivial⟩, Ents.keep (fun i o hi h => hF.get h (hb' i hi)) hEn, hF.get hfT (by omega), ?_, hFT.trans hF, rfl⟩
      refine hB2.mono ?_
      rw [rngL_len]
      simp only [List.length_append, List.length_cons, List.length_nil]
      omega
  · rintro ρ T ⟨an, ar, rs, s3, s4, s5, s6, has, hrs, hEn, hfT, hBT, hFT, rfl⟩
    rcases ar with _ | ⟨a, ar⟩
    · refine ⟨by simp only [Wk.stays, List.all_cons, List.all_nil, hfT, hst, Bool.and_self], ?_⟩
      rw [List.append_nil] at has
      subst has
      repeat (first | tm_at "go")
      refine Eq.mpr (ws_frz (o := .lst rs) (by rfl)) ?_
      repeat (first | tm_at "go")
      exact hQ rs T hrs (hBT.mono (by omega)) hFT
    · exact hEn.elim
  · refine ⟨[], as, [], _, _, _, _, rfl, trivial, ?_, hf, by simpa using hB1, hFr0, rfl⟩
    simpa using hE
end GL
end
section
set_option Elab.async false
set_option linter.all false
set_option maxRecDepth 100000
set_option maxHeartbeats 4000000
/-! The program: rules bent. -/
namespace GL
open PySem (Str)
local macro_rules | `(tactic| tm_at "go") => `(tactic| first
  | ((with_reducible refine r_set (ρ' := ?_) ?_ ?_); rotate_left; (simp only [List.set_cons_succ, List.set_cons_zero]; rfl))
  | ((with_reducible refine r_par (ρ' := ?_) ?_ ?_); rotate_left; (simp only [parE, List.set_cons_succ, List.set_cons_zero]; rfl))
  | with_reducible refine nx_mk ?_
  | with_reducible refine rt_mk ?_
  | with_reducible refine bk_mk ?_
  | with_reducible refine ct_mk ?_
  | with_reducible refine r_t ?_
  | with_reducible refine r_f ?_
  | ((with_reducible refine r_opt (a := ?_) ?_ ?_); rotate_left; rfl)
  | ((with_reducible refine gE ?_); first
    | with_reducible refine Eq.mpr ev_var ?_
    | with_reducible refine Eq.mpr ev_int ?_
    | with_reducible refine Eq.mpr ev_bl ?_
    | with_reducible refine Eq.mpr ev_non ?_
    | with_reducible refine Eq.mpr ev_str ?_
    | with_reducible refine Eq.mpr ev_gl ?_
    | with_reducible refine Eq.mpr ev_bin ?_
    | with_reducible refine Eq.mpr ev_cmp ?_
    | with_reducible refine Eq.mpr ev_ix ?_
    | with_reducible refine Eq.mpr ev_call ?_
    | with_reducible refine Eq.mpr ev_bi ?_
    | with_reducible refine Eq.mpr ev_and ?_
    | with_reducible refine Eq.mpr ev_or ?_
    | with_reducible refine Eq.mpr ev_not ?_
    | with_reducible refine Eq.mpr ev_ite ?_
    | with_reducible refine Eq.mpr ev_tup ?_
    | with_reducible refine Eq.mpr ev_lst ?_
    | with_reducible refine Eq.mpr ev_sl ?_
    | with_reducible refine Eq.mpr ev_fld ?_
    | with_reducible refine Eq.mpr ev_prop ?_
    | with_reducible refine Eq.mpr ev_meth ?_
    | with_reducible refine Eq.mpr ev_new ?_
    | with_reducible refine Eq.mpr ev_is ?_
    | with_reducible refine Eq.mpr ev_neg ?_
    | with_reducible refine Eq.mpr ev_cmp2 ?_
    | with_reducible refine Eq.mpr ev_rng ?_
    | with_reducible refine Eq.mpr ev_shr ?_
    | with_reducible refine Eq.mpr ev_comp ?_
    | with_reducible refine Eq.mpr ev_dcomp ?_
    | with_reducible refine Eq.mpr ev_rev ?_
    | with_reducible refine Eq.mpr ev_bm ?_)
  | ((with_reducible refine gs ?_); first
    | with_reducible refine Eq.mpr evs_nil ?_
    | with_reducible refine Eq.mpr evs_f ?_
    | with_reducible refine Eq.mpr evs_t ?_)
  | ((with_reducible refine gB ?_); first
    | with_reducible refine Eq.mpr wp_add ?_
    | with_reducible refine Eq.mpr wp_sub ?_
    | with_reducible refine Eq.mpr wp_mul ?_
    | with_reducible refine Eq.mpr wp_fdiv ?_
    | with_reducible refine Eq.mpr wp_mod ?_
    | with_reducible refine Eq.mpr wp_addS ?_
    | with_reducible refine Eq.mpr wp_addT ?_
    | with_reducible refine Eq.mpr wp_addL ?_)
  | ((with_reducible refine gC ?_); first
    | with_reducible refine Eq.mpr wp_eqI ?_
    | with_reducible refine Eq.mpr wp_neI ?_
    | with_reducible refine Eq.mpr wp_eqB ?_
    | with_reducible refine Eq.mpr wp_neB ?_
    | with_reducible refine Eq.mpr wp_lt ?_
    | with_reducible refine Eq.mpr wp_le ?_
    | with_reducible refine Eq.mpr wp_gt ?_
    | with_reducible refine Eq.mpr wp_ge ?_
    | with_reducible refine Eq.mpr wp_isin ?_
    | with_reducible refine Eq.mpr wp_notin ?_
    | with_reducible refine Eq.mpr wp_is ?_)
  | ((with_reducible refine gX ?_); first
    | with_reducible refine Eq.mpr wp_ixT ?_
    | with_reducible refine Eq.mpr wp_ixL ?_
    | with_reducible refine Eq.mpr wp_ixS ?_
    | with_reducible refine Eq.mpr wp_ixX ?_)
  | ((with_reducible refine gV ?_); first
    | with_reducible refine Eq.mpr wp_lenX ?_
    | with_reducible refine Eq.mpr wp_lenT ?_
    | with_reducible refine Eq.mpr wp_lenL ?_
    | with_reducible refine Eq.mpr wp_lenS ?_
    | with_reducible refine Eq.mpr wp_abs ?_
    | with_reducible refine Eq.mpr wp_int ?_
    | with_reducible refine Eq.mpr wp_intB ?_
    | with_reducible refine Eq.mpr wp_listT ?_
    | with_reducible refine Eq.mpr wp_listL ?_
    | with_reducible refine Eq.mpr wp_tupleT ?_
    | with_reducible refine Eq.mpr wp_tupleL ?_)
  | ((with_reducible refine gF ?_); first
    | with_reducible refine Eq.mpr ef_lst ?_
    | with_reducible refine Eq.mpr ef_list ?_
    | with_reducible refine Eq.mpr ef_add ?_
    | with_reducible refine Eq.mpr ef_sl ?_
    | with_reducible refine Eq.mpr ef_rng ?_
    | with_reducible refine Eq.mpr ef_or ?_
    | with_reducible refine Eq.mpr ef_comp ?_)
  | ((with_reducible refine gI ?_); first
    | with_reducible refine Eq.mpr ei_seq ?_
    | with_reducible refine Eq.mpr ei_rng ?_
    | with_reducible refine Eq.mpr ei_enum ?_
    | with_reducible refine Eq.mpr ei_zip ?_)
  | ((with_reducible refine gS ?_); first
    | with_reducible refine Eq.mpr ws_set ?_
    | with_reducible refine Eq.mpr ws_ret ?_
    | with_reducible refine Eq.mpr ws_ite ?_
    | with_reducible refine Eq.mpr ws_own ?_
    | with_reducible refine Eq.mpr ws_retn ?_
    | with_reducible refine Eq.mpr ws_par ?_
    | with_reducible refine Eq.mpr ws_ex ?_
    | with_reducible refine Eq.mpr ws_for ?_
    | with_reducible refine Eq.mpr ws_whl ?_
    | with_reducible refine Eq.mpr ws_sput ?_
    | with_reducible refine Eq.mpr ws_sapp ?_
    | with_reducible refine Eq.mpr ws_brk ?_
    | with_reducible refine Eq.mpr ws_cnt ?_
    | with_reducible refine Eq.mpr ws_pass ?_)
  | with_reducible refine Eq.mpr ws_cons ?_
  | with_reducible refine Eq.mpr ws_nil ?_
  | with_reducible refine Eq.mpr wp_tst ?_
  | with_reducible refine Eq.mpr wp_pure ?_
  | with_reducible refine Eq.mpr wp_it ?_
  | with_reducible refine Eq.mpr wp_iff ?_
  | with_reducible refine Eq.mpr wp_FLs ?_
  | with_reducible refine Eq.mpr wp_FDs ?_
  | with_reducible refine Eq.mpr wp_bind ?_
  | with_reducible refine Eq.mpr evo_no ?_
  | with_reducible refine Eq.mpr evo_so ?_
  | with_reducible refine Eq.mpr wp_slX ?_
  | with_reducible refine Eq.mpr wp_slT ?_
  | with_reducible refine Eq.mpr wp_slL ?_
  | with_reducible refine Eq.mpr wp_slS ?_
  | with_reducible refine Eq.mpr epv_nil ?_
  | with_reducible refine Eq.mpr epv_v ?_
  | with_reducible refine Eq.mpr epv_o ?_
  | with_reducible refine Eq.mpr ec_nil ?_
  | with_reducible refine Eq.mpr ec_cons ?_
  | with_reducible refine Eq.mpr eg_one ?_
  | with_reducible refine Eq.mpr eg_two ?_
  | with_reducible refine Eq.mpr wp_fldD ?_
  | with_reducible refine Eq.mpr wp_augI ?_
  | with_reducible refine Eq.mpr wp_augS ?_
  | ((with_reducible refine r_lt ?_ ?_); rfl)
  | ((with_reducible refine r_lim ?_ ?_); rfl)
  | ((with_reducible refine r_all ?_ ?_); rfl)
  | ((with_reducible refine r_ifp ?_ ?_); decide)
  | ((with_reducible refine r_ifnb ?_ ?_); decide))
def bBent (t o : Nat) : CSs := .cons (.set (.nm 2) (.call t (.cons false (.var 0) (.cons false (.bi .len (.cons false (.var 1) (.nil))) (.nil))))) (.cons (.set (.tp [(.nm 3), (.nm 4)]) (.ix (.var 1) (.var 2))) (.cons (.par [.v 5 (.call t (.cons false (.var 0) (.cons false (.bi .len (.cons false (.var 4) (.nil))) (.nil)))), .v 6 (.call o (.cons false (.var 0) (.cons false (.lst (.cons false (.int 0) (.cons false (.int 1) (.cons false (.int 2) (.cons false (.int 9) (.cons false (.neg (.int 1)) (.cons false (.bl true) (.cons false (.non) (.cons false (.str [48]) (.cons false (.tup (.cons false (.int 0) (.nil))) (.nil))))))))))) (.nil))))]) (.cons (.set (.nm 7) (.lst (.cons false (.tup (.cons false (.var 3) (.cons false (.bin .add (.bin .add (.sl (.var 4) (.no) (.so (.var 5))) (.tup (.cons false (.var 6) (.nil)))) (.sl (.var 4) (.so (.bin .add (.var 5) (.int 1))) (.no))) (.nil)))) (.cons false (.tup (.cons false (.var 3) (.cons false (.bin .add (.var 4) (.tup (.cons false (.var 6) (.nil)))) (.nil)))) (.nil))))) (.cons (.set (.nm 7) (.bin .add (.var 7) (.lst (.cons false (.tup (.cons false (.var 3) (.cons false (.sl (.var 4) (.no) (.so (.neg (.int 1)))) (.nil)))) (.cons false (.tup (.cons false (.var 3) (.cons false (.bi .list (.cons false (.var 4) (.nil))) (.nil)))) (.cons false (.lst (.cons false (.var 3) (.cons false (.var 4) (.nil)))) (.cons false (.tup (.cons false (.var 3) (.cons false (.rev (.var 4)) (.nil)))) (.nil)))))))) (.cons (.set (.nm 7) (.bin .add (.var 7) (.lst (.cons false (.tup (.cons false (.call o (.cons false (.var 0) (.cons false (.lst (.cons false (.str [102, 105, 114, 115, 116, 115]) (.cons false (.str []) (.cons false (.str [111, 108, 100]) (.cons false (.str [116, 117, 114, 110]) (.cons false (.non) (.cons false (.int 1) (.cons false (.str [76, 111, 110, 103]) (.nil))))))))) (.nil)))) (.cons false (.var 4) (.nil)))) (.cons false (.tup (.cons false (.var 4) (.cons false (.var 3) (.nil)))) (.nil)))))) (.cons (.set (.nm 8) (.bin .add (.bin .add (.sl (.var 1) (.no) (.so (.var 2))) (.tup (.cons false (.call o (.cons false (.var 0) (.cons false (.var 7) (.nil)))) (.nil)))) (.sl (.var 1) (.so (.bin .add (.var 2) (.int 1))) (.no)))) (.cons (.ret (.call o (.cons false (.var 0) (.cons false (.lst (.cons false (.var 8) (.cons false (.var 8) (.cons false (.var 8) (.cons false (.bin .add (.var 8) (.sl (.var 1) (.no) (.so (.int 1)))) (.cons false (.sl (.var 1) (.so (.int 1)) (.no)) (.cons false (.bi .list (.cons false (.var 1) (.nil))) (.nil)))))))) (.nil))))) (.nil))))))))
theorem cut_sub {α : Type} {xs : List α} {a b : Option Int} : (cut xs a b).length ≤ xs.length ∧ ∀ x ∈ cut xs a b, x ∈ xs := by
  unfold cut
  refine ⟨by simp only [List.length_take, List.length_drop]; omega, fun x hx => List.mem_of_mem_drop (List.mem_of_mem_take hx)⟩
theorem Pl.tup {n : Nat} {xs : List DV} (hl : xs.length < 10000) (h : ∀ x ∈ xs, Pl n x) : Pl (n + 1) (.tup xs) := .inr ⟨xs, .inl rfl, hl, h⟩
theorem Pl.lst {n : Nat} {xs : List DV} (hl : xs.length < 10000) (h : ∀ x ∈ xs, Pl n x) : Pl (n + 1) (.lst xs) := .inr ⟨xs, .inr rfl, hl, h⟩
theorem Rul.pl {a : Nat} {d : DV} (ha : a ≤ 100) (h : Rul a d) : Pl 2 d := by
  obtain ⟨k, ws, rfl, hk, hw⟩ := h
  have hwl := hw.length_eq
  rw [rngL_len] at hwl
  refine Pl.tup (by simp) fun x hx => ?_
  simp only [List.mem_cons, List.not_mem_nil, or_false] at hx
  rcases hx with rfl | rfl
  · simp only [kindsL, List.mem_cons, List.not_mem_nil, or_false] at hk
    rcases hk with rfl | rfl | rfl | rfl | rfl <;> exact .inl trivial
  · refine Pl.tup (by omega) fun x hx => ?_
    obtain ⟨i, rfl⟩ := rngL_int a x (hw.mem_iff.mp hx)
    exact trivial
theorem bent_ok {K : Cl} {t o b c : Nat} {as : List Nat} {ds : List DV} {S : Sto} {Q : DV → Sto → Prop} (hT : TakeOk K t) (hO : OfOk K o) (hB : Bx S b c) (hc : c + 10 < 2 ^ 62) (hR : Ruls as ds) (hne : as ≠ []) (hal : as.length ≤ 200) (hA : ∀ a ∈ as, 0 < a ∧ a ≤ 10)
    (hQ : ∀ d S', Pl 4 d → Bx S' b (c + 10) → Fr b S S' → Q d S') : wp (runD K ⟨9, bBent t o⟩ [.loc b, .tup ds]) S Q := by
  have hlen := hR.len
  have hpos : 0 < ds.length := by
    rw [← hlen]; exact List.length_pos_iff.mpr hne
  refine wp_run (ρ := [.val (.loc b), .val (.tup ds), .no, .no, .no, .no, .no, .no, .no]) (by rfl) (by rfl) ?_
  unfold bBent
  repeat (first | tm_at "go")
  refine hT hB (by omega) (by omega) (by omega) (fun i S1 i0 i1 hB1 hF1 => ?_)
  repeat (first | tm_at "go")
  obtain ⟨d, d1, d2, d3⟩ := atO_lt (xs := ds) i0 i1
  refine Eq.mpr ws_setT ?_
  repeat (first | tm_at "go")
  refine r_opt d1 ?_
  obtain ⟨a, ha, k, ws, rfl, hk, hw⟩ := hR.mem d d3
  have hwl := hw.length_eq
  rw [rngL_len] at hwl
  have haa := hA a ha
  repeat (first | tm_at "go")
  refine hT hB1 (by omega) (by omega) (by omega) (fun j S2 j0 j1 hB2 hF2 => ?_)
  repeat (first | tm_at "go")
  refine hO hB2 (by omega) (by simp) (by decide) (fun x S3 hx hB3 hF3 => ?_)
  have hxP : Pl 1 x := by
    simp only [List.mem_cons, List.not_mem_nil, or_false] at hx
    rcases hx with rfl | rfl | rfl | rfl | rfl | rfl | rfl | rfl | rfl
    · exact .inl trivial
    · exact .inl trivial
    · exact .inl trivial
    · exact .inl trivial
    · exact .inl trivial
    · exact .inl trivial
    · exact .inl trivial
    · exact .inl trivial
    · exact Pl.tup (by decide) fun y hy => by
        simp only [List.mem_cons, List.not_mem_nil, or_false] at hy
        rw [hy]; exact trivial
  clear hx
  have c1 := (cut_sub (xs := ws) (a := none) (b := some j)).1
  have c2 := (cut_sub (xs := ws) (a := some (j + 1)) (b := none)).1
  have c3 := (cut_sub (xs := ws) (a := none) (b := some (-1))).1
  have c4 := (cut_sub (xs := ds) (a := none) (b := some i)).1
  have c5 := (cut_sub (xs := ds) (a := some (i + 1)) (b := none)).1
  repeat (first | tm_at "go" | refine r_and (by simp only [List.length_append, List.length_cons, List.length_nil]; unfold LIM; omega) ?_)
  refine hO hB3 (by omega) (by simp) (by decide) (fun k2 S4 hk2 hB4 hF4 => ?_)
  have hk2P : Atom k2 := by
    simp only [List.mem_cons, List.not_mem_nil, or_false] at hk2
    rcases hk2 with rfl | rfl | rfl | rfl | rfl | rfl | rfl <;> exact trivial
  clear hk2
  repeat (first | tm_at "go" | refine r_and (by simp only [List.length_append, List.length_cons, List.length_nil]; unfold LIM; omega) ?_)
  refine hO hB4 (by omega) (by simp) (by simp) (fun y S5 hy hB5 hF5 => ?_)
  have hkP : Atom k := by
    simp only [kindsL, List.mem_cons, List.not_mem_nil, or_false] at hk
    rcases hk with rfl | rfl | rfl | rfl | rfl <;> exact trivial
  have a1 : ∀ {n : Nat} {d : DV}, Atom d → Pl n d := fun {n d} h => Pl.le (n := 0) h (by omega)
  have hwA : ∀ w ∈ ws, Atom w := fun w hw2 => by
    obtain ⟨i, rfl⟩ := rngL_int a w (hw.mem_iff.mp hw2)
    exact trivial
  have hws : Pl 2 (.tup ws) := Pl.tup (by omega) fun w hw2 => a1 (hwA w hw2)
  have pr : ∀ {p q : DV}, Pl 2 p → Pl 2 q → Pl 3 (.tup [p, q]) := fun {p q} hp hq => Pl.tup (by simp) fun z hz => by
    simp only [List.mem_cons, List.not_mem_nil, or_false] at hz
    rcases hz with rfl | rfl
    · exact hp
    · exact hq
  have hyP : Pl 3 y := by
    simp only [List.mem_cons, List.mem_append, List.not_mem_nil, or_false] at hy
    rcases hy with ((rfl | rfl) | rfl | rfl | rfl | rfl) | rfl | rfl
    · refine pr (a1 hkP) (Pl.tup (by simp only [List.length_append, List.length_cons, List.length_nil]; omega) fun z hz => ?_)
      simp only [List.mem_cons, List.mem_append, List.not_mem_nil, or_false] at hz
      rcases hz with (hz | rfl) | hz
      · exact a1 (hwA z (cut_sub.2 z hz))
      · exact hxP
      · exact a1 (hwA z (cut_sub.2 z hz))
    · refine pr (a1 hkP) (Pl.tup (by simp only [List.length_append, List.length_cons, List.length_nil]; omega) fun z hz => ?_)
      simp only [List.mem_cons, List.mem_append, List.not_mem_nil, or_false] at hz
      rcases hz with hz | rfl
      · exact a1 (hwA z hz)
      · exact hxP
    · exact pr (a1 hkP) (Pl.tup (by omega) fun z hz => a1 (hwA z (cut_sub.2 z hz)))
    · exact pr (a1 hkP) (Pl.lst (by omega) fun z hz => a1 (hwA z hz))
    · refine Pl.lst (by simp) fun z hz => ?_
      simp only [List.mem_cons, List.not_mem_nil, or_false] at hz
      rcases hz with rfl | rfl
      · exact a1 hkP
      · exact hws
    · exact pr (a1 hkP) (Pl.tup (by simp; omega) fun z hz => a1 (hwA z (List.mem_reverse.mp hz)))
    · exact pr (a1 hk2P) hws
    · exact pr hws (a1 hkP)
  clear hy
  have c6 := (cut_sub (xs := ds) (a := none) (b := some 1)).1
  have c7 := (cut_sub (xs := ds) (a := some 1) (b := none)).1
  repeat (first | tm_at "go" | refine r_and (by simp only [List.length_append, List.length_cons, List.length_nil]; unfold LIM; omega) ?_)
  refine hO hB5 (by omega) (by simp) (by simp) (fun d S6 hd hB6 hF6 => ?_)
  have hds : ∀ d ∈ ds, Pl 3 d := fun d hd => by
    obtain ⟨a, ha, h⟩ := hR.mem d hd
    have := hA a ha
    exact (h.pl (by omega)).succ
  have h8 : ∀ z ∈ cut ds none (some i) ++ [y] ++ cut ds (some (i + 1)) none, Pl 3 z := fun z hz => by
    simp only [List.mem_cons, List.mem_append, List.not_mem_nil, or_false] at hz
    rcases hz with (hz | rfl) | hz
    · exact hds z (cut_sub.2 z hz)
    · exact hyP
    · exact hds z (cut_sub.2 z hz)
  have l8 : (cut ds none (some i) ++ [y] ++ cut ds (some (i + 1)) none).length < 1000 := by
    simp only [List.length_append, List.length_cons, List.length_nil]; omega
  have hdP : Pl 4 d := by
    generalize cut ds none (some i) ++ [y] ++ cut ds (some (i + 1)) none = e8 at *
    simp only [List.mem_cons, List.not_mem_nil, or_false] at hd
    rcases hd with rfl | rfl | rfl | rfl | rfl | rfl
    · exact Pl.tup (by omega) h8
    · exact Pl.tup (by omega) h8
    · exact Pl.tup (by omega) h8
    · refine Pl.tup (by simp only [List.length_append]; omega) fun z hz => ?_
      rcases List.mem_append.mp hz with hz | hz
      · exact h8 z hz
      · exact hds z (cut_sub.2 z hz)
    · exact Pl.tup (by omega) fun z hz => hds z (cut_sub.2 z hz)
    · exact Pl.lst (by omega) hds
  repeat (first | tm_at "go")
  exact hQ d S6 hdP (hB6.mono (by omega)) (((((hF1.trans hF2).trans hF3).trans hF4).trans hF5).trans hF6)
end GL
end
section
set_option Elab.async false
set_option linter.all false
set_option maxRecDepth 100000
set_option maxHeartbeats 4000000
/-! The law of rules, turn by turn. -/
namespace GL
open PySem (Str)
local macro_rules | `(tactic| tm_at "go") => `(tactic| first
  | ((with_reducible refine r_set (ρ' := ?_) ?_ ?_); rotate_left; (simp only [List.set_cons_succ, List.set_cons_zero]; rfl))
  | ((with_reducible refine r_par (ρ' := ?_) ?_ ?_); rotate_left; (simp only [parE, List.set_cons_succ, List.set_cons_zero]; rfl))
  | with_reducible refine nx_mk ?_
  | with_reducible refine rt_mk ?_
  | with_reducible refine bk_mk ?_
  | with_reducible refine ct_mk ?_
  | with_reducible refine r_t ?_
  | with_reducible refine r_f ?_
  | ((with_reducible refine r_opt (a := ?_) ?_ ?_); rotate_left; rfl)
  | ((with_reducible refine gE ?_); first
    | with_reducible refine Eq.mpr ev_var ?_
    | with_reducible refine Eq.mpr ev_int ?_
    | with_reducible refine Eq.mpr ev_bl ?_
    | with_reducible refine Eq.mpr ev_non ?_
    | with_reducible refine Eq.mpr ev_str ?_
    | with_reducible refine Eq.mpr ev_gl ?_
    | with_reducible refine Eq.mpr ev_bin ?_
    | with_reducible refine Eq.mpr ev_cmp ?_
    | with_reducible refine Eq.mpr ev_ix ?_
    | with_reducible refine Eq.mpr ev_call ?_
    | with_reducible refine Eq.mpr ev_bi ?_
    | with_reducible refine Eq.mpr ev_and ?_
    | with_reducible refine Eq.mpr ev_or ?_
    | with_reducible refine Eq.mpr ev_not ?_
    | with_reducible refine Eq.mpr ev_ite ?_
    | with_reducible refine Eq.mpr ev_tup ?_
    | with_reducible refine Eq.mpr ev_lst ?_
    | with_reducible refine Eq.mpr ev_sl ?_
    | with_reducible refine Eq.mpr ev_fld ?_
    | with_reducible refine Eq.mpr ev_prop ?_
    | with_reducible refine Eq.mpr ev_meth ?_
    | with_reducible refine Eq.mpr ev_new ?_
    | with_reducible refine Eq.mpr ev_is ?_
    | with_reducible refine Eq.mpr ev_neg ?_
    | with_reducible refine Eq.mpr ev_cmp2 ?_
    | with_reducible refine Eq.mpr ev_rng ?_
    | with_reducible refine Eq.mpr ev_shr ?_
    | with_reducible refine Eq.mpr ev_comp ?_
    | with_reducible refine Eq.mpr ev_dcomp ?_
    | with_reducible refine Eq.mpr ev_rev ?_
    | with_reducible refine Eq.mpr ev_bm ?_)
  | ((with_reducible refine gs ?_); first
    | with_reducible refine Eq.mpr evs_nil ?_
    | with_reducible refine Eq.mpr evs_f ?_
    | with_reducible refine Eq.mpr evs_t ?_)
  | ((with_reducible refine gB ?_); first
    | with_reducible refine Eq.mpr wp_add ?_
    | with_reducible refine Eq.mpr wp_sub ?_
    | with_reducible refine Eq.mpr wp_mul ?_
    | with_reducible refine Eq.mpr wp_fdiv ?_
    | with_reducible refine Eq.mpr wp_mod ?_
    | with_reducible refine Eq.mpr wp_addS ?_
    | with_reducible refine Eq.mpr wp_addT ?_
    | with_reducible refine Eq.mpr wp_addL ?_)
  | ((with_reducible refine gC ?_); first
    | with_reducible refine Eq.mpr wp_eqI ?_
    | with_reducible refine Eq.mpr wp_neI ?_
    | with_reducible refine Eq.mpr wp_eqB ?_
    | with_reducible refine Eq.mpr wp_neB ?_
    | with_reducible refine Eq.mpr wp_lt ?_
    | with_reducible refine Eq.mpr wp_le ?_
    | with_reducible refine Eq.mpr wp_gt ?_
    | with_reducible refine Eq.mpr wp_ge ?_
    | with_reducible refine Eq.mpr wp_isin ?_
    | with_reducible refine Eq.mpr wp_notin ?_
    | with_reducible refine Eq.mpr wp_is ?_)
  | ((with_reducible refine gX ?_); first
    | with_reducible refine Eq.mpr wp_ixT ?_
    | with_reducible refine Eq.mpr wp_ixL ?_
    | with_reducible refine Eq.mpr wp_ixS ?_
    | with_reducible refine Eq.mpr wp_ixX ?_)
  | ((with_reducible refine gV ?_); first
    | with_reducible refine Eq.mpr wp_lenX ?_
    | with_reducible refine Eq.mpr wp_lenT ?_
    | with_reducible refine Eq.mpr wp_lenL ?_
    | with_reducible refine Eq.mpr wp_lenS ?_
    | with_reducible refine Eq.mpr wp_abs ?_
    | with_reducible refine Eq.mpr wp_int ?_
    | with_reducible refine Eq.mpr wp_intB ?_
    | with_reducible refine Eq.mpr wp_listT ?_
    | with_reducible refine Eq.mpr wp_listL ?_
    | with_reducible refine Eq.mpr wp_tupleT ?_
    | with_reducible refine Eq.mpr wp_tupleL ?_)
  | ((with_reducible refine gF ?_); first
    | with_reducible refine Eq.mpr ef_lst ?_
    | with_reducible refine Eq.mpr ef_list ?_
    | with_reducible refine Eq.mpr ef_add ?_
    | with_reducible refine Eq.mpr ef_sl ?_
    | with_reducible refine Eq.mpr ef_rng ?_
    | with_reducible refine Eq.mpr ef_or ?_
    | with_reducible refine Eq.mpr ef_comp ?_)
  | ((with_reducible refine gI ?_); first
    | with_reducible refine Eq.mpr ei_seq ?_
    | with_reducible refine Eq.mpr ei_rng ?_
    | with_reducible refine Eq.mpr ei_enum ?_
    | with_reducible refine Eq.mpr ei_zip ?_)
  | ((with_reducible refine gS ?_); first
    | with_reducible refine Eq.mpr ws_set ?_
    | with_reducible refine Eq.mpr ws_ret ?_
    | with_reducible refine Eq.mpr ws_ite ?_
    | with_reducible refine Eq.mpr ws_own ?_
    | with_reducible refine Eq.mpr ws_retn ?_
    | with_reducible refine Eq.mpr ws_par ?_
    | with_reducible refine Eq.mpr ws_ex ?_
    | with_reducible refine Eq.mpr ws_for ?_
    | with_reducible refine Eq.mpr ws_whl ?_
    | with_reducible refine Eq.mpr ws_sput ?_
    | with_reducible refine Eq.mpr ws_sapp ?_
    | with_reducible refine Eq.mpr ws_brk ?_
    | with_reducible refine Eq.mpr ws_cnt ?_
    | with_reducible refine Eq.mpr ws_pass ?_)
  | with_reducible refine Eq.mpr ws_cons ?_
  | with_reducible refine Eq.mpr ws_nil ?_
  | with_reducible refine Eq.mpr wp_tst ?_
  | with_reducible refine Eq.mpr wp_pure ?_
  | with_reducible refine Eq.mpr wp_it ?_
  | with_reducible refine Eq.mpr wp_iff ?_
  | with_reducible refine Eq.mpr wp_FLs ?_
  | with_reducible refine Eq.mpr wp_FDs ?_
  | with_reducible refine Eq.mpr wp_bind ?_
  | with_reducible refine Eq.mpr evo_no ?_
  | with_reducible refine Eq.mpr evo_so ?_
  | with_reducible refine Eq.mpr wp_slX ?_
  | with_reducible refine Eq.mpr wp_slT ?_
  | with_reducible refine Eq.mpr wp_slL ?_
  | with_reducible refine Eq.mpr wp_slS ?_
  | with_reducible refine Eq.mpr epv_nil ?_
  | with_reducible refine Eq.mpr epv_v ?_
  | with_reducible refine Eq.mpr epv_o ?_
  | with_reducible refine Eq.mpr ec_nil ?_
  | with_reducible refine Eq.mpr ec_cons ?_
  | with_reducible refine Eq.mpr eg_one ?_
  | with_reducible refine Eq.mpr eg_two ?_
  | with_reducible refine Eq.mpr wp_fldD ?_
  | with_reducible refine Eq.mpr wp_augI ?_
  | with_reducible refine Eq.mpr wp_augS ?_
  | ((with_reducible refine r_lt ?_ ?_); rfl)
  | ((with_reducible refine r_lim ?_ ?_); rfl)
  | ((with_reducible refine r_all ?_ ?_); rfl)
  | ((with_reducible refine r_ifp ?_ ?_); decide)
  | ((with_reducible refine r_ifnb ?_ ?_); decide))
def HostOk (K : Cl) (h c0 : Nat) : Prop := ∀ {xs : List DV} {k : Nat} {S : Sto} {Q : DV → Sto → Prop}, Plan k xs → k ≤ 100 → (∀ d, PObj c0 xs d → Q d S) → wp (callF K h [.tup xs]) S Q
def bHost : CSs := .cons (.ret (.new 0 (.cons false (.var 0) (.nil)))) (.nil)
theorem host_ok {K : Cl} {c0 : Nat} (h1 : K.T.iar 0 = 2) (hI : ∀ {xs : List DV} {k : Nat} {S : Sto} {Q : DV → Sto → Prop}, Plan k xs → k ≤ 100 → (∀ d, PObj c0 xs d → Q d S) → wp (K.init 0 [.tup xs]) S Q)
    {xs : List DV} {k : Nat} {S : Sto} {Q : DV → Sto → Prop} (hP : Plan k xs) (hk : k ≤ 100) (hQ : ∀ d, PObj c0 xs d → Q d S) : wp (runD K ⟨1, bHost⟩ [.tup xs]) S Q := by
  refine wp_run (ρ := [.val (.tup xs)]) (by rfl) (by rfl) ?_
  unfold bHost
  repeat (first | tm_at "go")
  refine r_and (by rw [h1]; rfl) ?_
  refine hI hP hk fun d hd => ?_
  repeat (first | tm_at "go")
  exact hQ d hd
def RulesOk (K : Cl) (t : Nat) : Prop := ∀ {b c : Nat} {xs : List DV} {S : Sto} {Q : DV → Sto → Prop}, Bx S b c → c + 2000 < 2 ^ 62 → xs ≠ [] → xs.length ≤ 10 → (∀ x ∈ xs, Mem 2 x) →
  (∀ a ∈ ars (.tup xs), a ≤ 10) → (∀ ds S', Ruls (ars (.tup xs)) ds → Bx S' b (c + 2000) → Fr b S S' → Q (.tup ds) S') → wp (callF K t [.loc b, .tup xs]) S Q
def BentOk (K : Cl) (t : Nat) : Prop := ∀ {b c : Nat} {as : List Nat} {ds : List DV} {S : Sto} {Q : DV → Sto → Prop}, Bx S b c → c + 10 < 2 ^ 62 → Ruls as ds → as ≠ [] → as.length ≤ 200 → (∀ a ∈ as, 0 < a ∧ a ≤ 10) →
  (∀ d S', Pl 4 d → Bx S' b (c + 10) → Fr b S S' → Q d S') → wp (callF K t [.loc b, .tup ds]) S Q
def IsSoOk (K : Cl) (t : Nat) : Prop := ∀ {lo g n : Nat} {es : List DV} {as : List Nat} {d : DV} {S : Sto} {Q : DV → Sto → Prop}, S[g]? = some (.lst es) → Ents lo S as es → Pl n d → n ≤ 40 → (∀ a ∈ as, a ≤ 100) →
  Q (.bl (rulsD isInt as d)) S → wp (callF K t [.loc g, d]) S Q
def IsRulesOk (K : Cl) (c0 t : Nat) : Prop := ∀ {n : Nat} {xs gs ls vs : List DV} {ks : List DK} {as : List Nat} {d : DV} {S : Sto} {Q : DV → Sto → Prop}, GTs as gs → Pl n d → n ≤ 40 → gs.length ≤ 1000 →
  Q (.bl (rulsD isNum as d)) S → wp (callF K t [pob c0 xs gs ls ks vs, d]) S Q
theorem GTs.mem2 : ∀ {as : List Nat} {ds : List DV}, GTs as ds → ∀ a ∈ as, 0 < a ∧ a ≤ 10
  | [], [], _, a, h => by cases h
  | [], _ :: _, h', _, _ => h'.elim
  | _ :: _, [], h', _, _ => h'.elim
  | a :: as, d :: ds, ⟨⟨ms, h1, h2, h3, h4, h5⟩, r⟩, e, he => by
    rcases List.mem_cons.mp he with rfl | he
    · exact ⟨h3, h4⟩
    · exact GTs.mem2 r e he
def bRight (p r h u s i l q z : Nat) : CSs := .cons (.for (.nm 1) (.rng (.int 0) (.int 8) 1) (.cons (.set (.nm 2) (.call p (.cons false (.var 0) (.cons false (.int 5) (.nil))))) (.cons (.par [.v 3 (.call r (.cons false (.var 2) (.cons false (.neg (.int 1)) (.cons false (.neg (.int 1)) (.cons false (.shr (.lst (.nil))) (.nil)))))), .v 4 (.call h (.cons false (.var 2) (.nil))), .v 5 (.call u (.cons false (.var 0) (.cons false (.var 2) (.nil))))]) (.cons (.ite (.not (.call s (.cons false (.lst (.cons false (.call i (.cons false (.var 4) (.cons false (.var 5) (.nil)))) (.cons false (.call i (.cons false (.var 4) (.cons false (.call l (.cons false (.var 5) (.nil))) (.nil)))) (.nil)))) (.cons false (.lst (.cons false (.bl true) (.cons false (.bl false) (.nil)))) (.nil))))) (.cons (.ret (.bl false)) (.nil)) (.nil)) (.cons (.for (.nm 6) (.rng (.int 0) (.int 6) 1) (.cons (.set (.nm 7) (.call q (.cons false (.var 0) (.cons false (.var 5) (.nil))))) (.cons (.ite (.not (.call s (.cons false (.call i (.cons false (.var 4) (.cons false (.var 7) (.nil)))) (.cons false (.call z (.cons false (.var 3) (.cons false (.var 7) (.nil)))) (.nil))))) (.cons (.ret (.bl false)) (.nil)) (.nil)) (.nil)))) (.nil)))))) (.cons (.ret (.bl true)) (.nil))
theorem right_ok {K : Cl} {c0 p r h u s i l q z b : Nat} {S : Sto} {Q : DV → Sto → Prop} (hP : PlanOk K p) (hR : ReadOk K r 2) (hH : HostOk K h c0) (hU : RulesOk K u) (hS : SameOk K s 1) (hI : IsRulesOk K c0 i) (hL : ListsOk K l 3) (hq : BentOk K q) (hz : IsSoOk K z)
    (hB : Bx S b 0) (hQ : ∀ S', Q (.bl true) S') : wp (runD K ⟨8, bRight p r h u s i l q z⟩ [.loc b]) S Q := by
  refine wp_run (ρ := [.val (.loc b), .no, .no, .no, .no, .no, .no, .no]) (by rfl) (by rfl) ?_
  unfold bRight
  repeat (first | tm_at "go")
  refine r_and (by decide) ?_
  refine ws_loopF (fun rem ρ T => ∃ (s1 s2 s3 s4 s5 s6 s7 : Slot), rem.length ≤ 8 ∧ Bx T b (5000 * (8 - rem.length)) ∧ ρ = [.val (.loc b), s1, s2, s3, s4, s5, s6, s7]) ?_ ?_ _ _ _ ?_
  · rintro it rem ρ T ⟨s1, s2, s3, s4, s5, s6, s7, hr, hBT, rfl⟩
    simp only [List.length_cons] at hr hBT
    refine ⟨by rfl, _, by rfl, ?_⟩
    simp only [List.set_cons_succ, List.set_cons_zero]
    repeat (first | tm_at "go")
    refine hP (k := 5) hBT (by omega) (by omega) (by omega) (fun xs T1 hx hB1 hF1 => ?_)
    repeat (first | tm_at "go")
    have ha := arss_mem hx.len hx.mem
    have ha1 : (ars (.tup xs)).length ≤ 111 := by simp only [ars, List.length_cons]; omega
    have hne : ars (.tup xs) ≠ [] := by simp [ars]
    refine hR get_new hx.ne hx.len hx.mem (by simp only [List.length_nil]; omega) (fun es T2 hf hE hFr => ?_)
    rw [List.nil_append] at hf
    have hb := hB1.lt
    have hB2 : Bx T2 b (5000 * (8 - (rem.length + 1)) + 1000) := by
      obtain ⟨x, y, z, h, h2⟩ := hB1
      exact ⟨x, y, z, hFr.get (get_app h) (by omega), h2⟩
    repeat (first | tm_at "go")
    refine hH hx (by omega) fun d hd => ?_
    obtain ⟨gs, ks, vs, rfl, hg⟩ := hd
    repeat (first | tm_at "go")
    have hA := hg.mem2
    have hgl := hg.len
    refine hU hB2 (by omega) hx.ne hx.len hx.mem (fun a ha => (hA a ha).2) (fun ds T3 hds hB3 hF3 => ?_)
    repeat (first | tm_at "go")
    have hdl := hds.len
    have hd2 : ∀ d ∈ ds, Pl 2 d := fun d hd => by
      obtain ⟨a, ha, h⟩ := hds.mem d hd
      have := hA a ha
      exact h.pl (by omega)
    have hdP : Pl 3 (.tup ds) := Pl.tup (by omega) hd2
    refine hI hg hdP (by omega) (by omega) ?_
    rw [show rulsD isNum (ars (.tup xs)) (.tup ds) = true from hds.b]
    repeat (first | tm_at "go")
    refine hL hdP ?_
    repeat (first | tm_at "go")
    refine hI hg (tl_Pl hdP) (by omega) (by omega) ?_
    rw [show rulsD isNum (ars (.tup xs)) (tl (.tup ds)) = false from rfl]
    repeat (first | tm_at "go")
    refine hS (Pl.lst (by simp) fun x hx => ?_) ?_
    · simp only [List.mem_cons, List.not_mem_nil, or_false] at hx
      rcases hx with rfl | rfl <;> exact trivial
    repeat (first | tm_at "go")
    refine r_and (by decide) ?_
    refine ws_loopF (fun rem2 ρ T => ∃ (s6 s7 : Slot), rem2.length ≤ 6 ∧ Bx T b (5000 * (8 - (rem.length + 1)) + 3000 + 10 * (6 - rem2.length)) ∧ T[T1.length]? = some (.lst es) ∧ Ents (T1.length + 1) T (ars (.tup xs)) es ∧ ρ = [.val (.loc b), .val it, .val (.tup xs), .val (.loc T1.length), .val (pob c0 xs gs (sortD ((lvss xs).map .str)) ks vs), .val (.tup ds), s6, s7]) ?_ ?_ _ _ _ ?_
    · rintro it2 rem2 ρ T4 ⟨s6, s7, hr2, hB4, hf4, hE4, rfl⟩
      simp only [List.length_cons] at hr2 hB4
      refine ⟨by rfl, _, by rfl, ?_⟩
      simp only [List.set_cons_succ, List.set_cons_zero]
      repeat (first | tm_at "go")
      refine hq hB4 (by omega) hds hne (by omega) hA (fun d T5 hdd hB5 hF5 => ?_)
      repeat (first | tm_at "go")
      refine hI hg hdd (by omega) (by omega) ?_
      repeat (first | tm_at "go")
      have hE5 := Ents.keep (fun i o hi h => hF5.get h (by omega)) hE4
      have hf5 := hF5.get hf4 (by omega)
      refine hz hf5 hE5 hdd (by omega) (fun a ha => by have := hA a ha; omega) ?_
      rw [rulsD_same]
      repeat (first | tm_at "go")
      refine hS (.inl trivial) ?_
      repeat (first | tm_at "go")
      exact ⟨_, _, by omega, hB5.mono (by omega), hf5, hE5, rfl⟩
    · rintro ρ T4 ⟨s6, s7, hr2, hB4, hf4, hE4, rfl⟩
      refine ⟨by rfl, ?_⟩
      repeat (first | tm_at "go")
      exact ⟨_, _, _, _, _, _, _, by omega, hB4.mono (by simp only [List.length_nil]; omega), rfl⟩
    · refine ⟨_, _, by decide, hB3.mono (by omega), hF3.get hf (by omega), ?_, rfl⟩
      rw [List.length_append] at hE
      exact Ents.keep (fun i o hi h => hF3.get h (by omega)) hE
  · rintro ρ T ⟨s1, s2, s3, s4, s5, s6, s7, hr, hBT, rfl⟩
    refine ⟨by rfl, ?_⟩
    repeat (first | tm_at "go")
    exact hQ T
  · exact ⟨_, _, _, _, _, _, _, by decide, by rw [show (rngL 0 8 1).length = 8 by decide]; exact hB, rfl⟩
theorem same0_ok {K : Cl} {s : Nat} {d : DV} {S : Sto} {Q : DV → Sto → Prop} (hd : Atom d) (hQ : Q (.bl true) S) : wp (runD K ⟨4, bSame s⟩ [d, d]) S Q := by
  refine wp_run (ρ := [.val d, .val d, .no, .no]) (by rfl) (by rfl) ?_
  unfold bSame
  cases d with
  | non =>
    repeat (first | tm_at "go")
    exact hQ
  | bl b =>
    repeat (first | tm_at "go")
    refine r_ifp (by cases b <;> rfl) ?_
    repeat (first | tm_at "go")
    exact hQ
  | int i =>
    repeat (first | tm_at "go")
    simpa using hQ
  | str x =>
    repeat (first | tm_at "go")
    refine r_ifp (by simp [eqv]) ?_
    repeat (first | tm_at "go")
    exact hQ
  | _ => exact hd.elim
def RightOk (K : Cl) (r : Nat) : Prop := ∀ {b : Nat} {S : Sto} {Q : DV → Sto → Prop}, Bx S b 0 → (∀ S', Q (.bl true) S') → wp (callF K r [.loc b]) S Q
def BoxOk (K : Cl) (x : Nat) : Prop := ∀ {k : Nat} {ms : List Int} {S : Sto} {Q : DV → Sto → Prop}, k < ms.length → ms.length ≤ 1000 → (∀ w, Bx (S ++ [w]) S.length 0 → Q (.loc S.length) (S ++ [w])) → wp (callF K x [.lst (ms.map .int), .int k]) S Q
def CellsOk (K : Cl) (c : Nat) : Prop := ∀ {ns : List Int} {S : Sto} {Q : DV → Sto → Prop} {m : Int}, ns.length ≤ 63 → 0 < m → m ≤ 63 → (∀ ms : List Int, 0 < ms.length → ms.length ≤ m → Q (.lst (ms.map .int)) S) → wp (callF K c [.scr (ns.map .int), .int m]) S Q
def bLaw (h c r x : Nat) : CSs := .cons (.ite (.not (.call h (.nil))) (.cons (.ret (.bl false)) (.nil)) (.nil)) (.cons (.set (.nm 1) (.call c (.cons false (.var 0) (.cons false (.int 3) (.nil))))) (.cons (.ret (.bi .all (.cons false (.comp (.call r (.cons false (.call x (.cons false (.var 1) (.cons false (.var 2) (.nil)))) (.nil))) (.one (.mk (.nm 2) (.rng (.int 0) (.bi .len (.cons false (.var 1) (.nil))) 1) (.nil))) [("_law_k", 2)]) (.nil)))) (.nil)))
theorem wp_okk {α : Type} {m : M α} {S S1 : Sto} {a : α} {Q : α → Sto → Prop} (h : m S = .ok a S1) (g : Q a S1) : wp m S Q := by
  unfold wp; rw [h]; exact g
theorem law_ok {K : Cl} {h c r x : Nat} {ns : List Int} {Q : DV → Sto → Prop} (hH : ∃ S1, callF K h [] [] = .ok (.bl true) S1) (hC : CellsOk K c) (hR : RightOk K r) (hX : BoxOk K x) (hn : ns.length ≤ 63) (hQ : ∀ S', Q (.bl true) S') : wp (runD K ⟨3, bLaw h c r x⟩ [.scr (ns.map .int)]) [] Q := by
  obtain ⟨S1, hH⟩ := hH
  refine wp_run (ρ := [.val (.scr (ns.map .int)), .no, .no]) (by rfl) (by rfl) ?_
  unfold bLaw
  repeat (first | tm_at "go")
  refine wp_okk hH ?_
  repeat (first | tm_at "go")
  refine hC (m := 3) hn (by decide) (by decide) (fun ms m0 m1 => ?_)
  repeat (first | tm_at "go")
  have e := rngOk_nat (n := ms.length) (by unfold LIM; omega)
  simp only [List.length_map]
  refine r_and e ?_
  refine wp_lc (fun rem acc T => (∀ x ∈ rem, ∃ k, k < ms.length ∧ x = .int k) ∧ ∃ n, acc = List.replicate n (.bl true) ∧ n + rem.length = ms.length) ?_ ?_ _ _ _ ?_
  · rintro it rem acc T ⟨hm, n, rfl, hl⟩
    obtain ⟨k, hk, rfl⟩ := hm it List.mem_cons_self
    simp only [List.length_cons] at hl
    refine ⟨by rfl, _, by rfl, ?_⟩
    simp only [wipeE, List.map_cons, List.map_nil, List.set_cons_succ, List.set_cons_zero]
    repeat (first | tm_at "go")
    refine hX hk (by omega) (fun w hw => ?_)
    repeat (first | tm_at "go")
    refine hR hw (fun T2 => ?_)
    refine r_and (by rw [List.length_replicate]; unfold LIM; omega) ?_
    exact ⟨fun x hx => hm x (List.mem_cons_of_mem _ hx), n + 1, by rw [List.replicate_succ'], by omega⟩
  · rintro acc T ⟨hm, n, rfl, hl⟩
    refine ⟨by rfl, ?_⟩
    rw [rep_true]
    repeat (first | tm_at "go")
    refine Eq.mpr wp_all ?_
    rw [all_true]
    exact hQ T
  · refine ⟨fun x hx => ?_, 0, rfl, by rw [rngL_len]; simp⟩
    rw [rngL_nat] at hx
    obtain ⟨i, hi, rfl⟩ := List.mem_map.mp hx
    exact ⟨i, List.mem_range.mp hi, rfl⟩
end GL
end
section
namespace K10
open PySem L2 GL
set_option maxRecDepth 100000
set_option maxHeartbeats 1000000
set_option linter.all false
def depth : Nat := 14
theorem hc0 : D.c0 ∈ D.clss ∨ (D.c0.meths = [] ∧ D.c0.props = [] ∧ D.c0.flds = []) := .inl (by simp [D])
theorem e0 (n : Nat) (x : DV) : callF (clv D.pg (n + 1)) 0 [x] = runD (clv D.pg n) ⟨1, bIsNum⟩ [x] := by rfl
theorem e1 (n : Nat) (x : DV) : callF (clv D.pg (n + 1)) 1 [x] = runD (clv D.pg n) ⟨2, bAs 1⟩ [x] := by rfl
theorem e2 (n : Nat) (x : DV) : callF (clv D.pg (n + 1)) 2 [x] = runD (clv D.pg n) ⟨7, bGates 2⟩ [x, .int 0] := by rfl
theorem e2' (n : Nat) (x y : DV) : callF (clv D.pg (n + 1)) 2 [x, y] = runD (clv D.pg n) ⟨7, bGates 2⟩ [x, y] := by rfl
theorem e3 (n : Nat) (x : DV) : callF (clv D.pg (n + 1)) 3 [x] = runD (clv D.pg n) ⟨3, bLanes 3⟩ [x] := by rfl
theorem e4 (n : Nat) (x : DV) : callF (clv D.pg (n + 1)) 4 [x] = runD (clv D.pg n) ⟨1, bGatesP⟩ [x] := by rfl
theorem e5 (n : Nat) (x y : DV) : callF (clv D.pg (n + 1)) 5 [x, y] = runD (clv D.pg n) ⟨2, bCheck⟩ [x, y] := by rfl
theorem e6 (n : Nat) (x y : DV) : callF (clv D.pg (n + 1)) 6 [x, y] = runD (clv D.pg n) ⟨2, bMembers⟩ [x, y] := by rfl
theorem e7 (n : Nat) (x y : DV) : callF (clv D.pg (n + 1)) 7 [x, y] = runD (clv D.pg n) ⟨3, bIsRule 0⟩ [x, y] := by rfl
theorem e8 (n : Nat) (x y : DV) : callF (clv D.pg (n + 1)) 8 [x, y] = runD (clv D.pg n) ⟨4, bIsRules 7⟩ [x, y] := by rfl
theorem e9 (n : Nat) (x y : DV) : callF (clv D.pg (n + 1)) 9 [x, y] = runD (clv D.pg n) ⟨3, bBox 10716⟩ [x, y] := by rfl
theorem e10 (n : Nat) (x y : DV) : callF (clv D.pg (n + 1)) 10 [x, y] = runD (clv D.pg n) ⟨6, bTake⟩ [x, y] := by rfl
theorem e11 (n : Nat) (x y : DV) : callF (clv D.pg (n + 1)) 11 [x, y] = runD (clv D.pg n) ⟨6, bCells⟩ [x, y] := by rfl
theorem e12 (n : Nat) (x y : DV) : callF (clv D.pg (n + 1)) 12 [x, y] = runD (clv D.pg n) ⟨2, bOf 10⟩ [x, y] := by rfl
theorem e13 (n : Nat) (x : DV) : callF (clv D.pg (n + 1)) 13 [x] = runD (clv D.pg n) ⟨2, bLists 13⟩ [x] := by rfl
theorem e14 (n : Nat) (x y : DV) : callF (clv D.pg (n + 1)) 14 [x, y] = runD (clv D.pg n) ⟨4, bSame 14⟩ [x, y] := by rfl
theorem e15 (n : Nat) (x y : DV) : callF (clv D.pg (n + 1)) 15 [x, y] = runD (clv D.pg n) ⟨6, bMixed 10⟩ [x, y] := by rfl
theorem e16 (n : Nat) (x y : DV) : callF (clv D.pg (n + 1)) 16 [x, y] = runD (clv D.pg n) ⟨16, bNames 10 12⟩ [x, y] := by rfl
theorem e17 (n : Nat) (x y z w : DV) : callF (clv D.pg (n + 1)) 17 [x, y, z, w] = runD (clv D.pg n) ⟨7, bRead 17⟩ [x, y, z, w] := by rfl
theorem e18 (n : Nat) (x y z : DV) : callF (clv D.pg (n + 1)) 18 [x, y, z] = runD (clv D.pg n) ⟨7, bTree 10 18⟩ [x, y, z] := by rfl
theorem e19 (n : Nat) (x y : DV) : callF (clv D.pg (n + 1)) 19 [x, y] = runD (clv D.pg n) ⟨3, bPlan 10 16 15 18⟩ [x, y] := by rfl
theorem e20 (n : Nat) (x : DV) : callF (clv D.pg (n + 1)) 20 [x] = runD (clv D.pg n) ⟨1, bHost⟩ [x] := by rfl
theorem e21 (n : Nat) (x y : DV) : callF (clv D.pg (n + 1)) 21 [x, y] = runD (clv D.pg n) ⟨7, bRules 12 15 17⟩ [x, y] := by rfl
theorem e22 (n : Nat) (x y : DV) : callF (clv D.pg (n + 1)) 22 [x, y] = runD (clv D.pg n) ⟨5, bIsSo⟩ [x, y] := by rfl
theorem e24 (n : Nat) (x y : DV) : callF (clv D.pg (n + 1)) 24 [x, y] = runD (clv D.pg n) ⟨9, bBent 10 12⟩ [x, y] := by rfl
theorem e25 (n : Nat) (x : DV) : callF (clv D.pg (n + 1)) 25 [x] = runD (clv D.pg n) ⟨8, bRight 19 17 20 21 14 8 13 24 22⟩ [x] := by rfl
theorem eI (n : Nat) (x : DV) : (clv D.pg (n + 1)).init 0 [x] = runI (clv D.pg n) ⟨8, bInit 1 2 3⟩ 0 [x] := by rfl
theorem eL (n : Nat) (x : DV) : (lev D.pg (n + 1)).1 iLaw [x] = runD (clv D.pg n) ⟨3, bLaw 23 11 25 9⟩ [x] := by rfl
theorem kF (n : Nat) : (clv D.pg n).T.flds 0 = pflds := by rfl
theorem kM (n : Nat) : (clv D.pg n).T.meth 0 "members" = some 6 := by rfl
theorem kC (n : Nat) : (clv D.pg n).T.meth 0 "check_gate" = some 5 := by rfl
theorem kG (n : Nat) : (clv D.pg n).T.prop 0 "gates" = some 4 := by rfl
theorem kg0 (n : Nat) : (clv D.pg n).T.glob 0 = .int 2 := by rfl
theorem kg1 (n : Nat) : (clv D.pg n).T.glob 1 = .tup kindsL := by rfl
theorem kA (n : Nat) : (clv D.pg n).T.iar 0 = 2 := by rfl
theorem kW (n : Nat) : 100 < (clv D.pg n).W := by show 100 < 1000; decide
theorem kTake (n : Nat) : TakeOk (clv D.pg (n + 1)) 10 := fun a b c d h => by rw [e10]; exact take_ok a b c d h
theorem kOf (n : Nat) : OfOk (clv D.pg (n + 2)) 12 := fun a b c d h => by rw [e12]; exact of_ok (kTake n) a b c d h
theorem kMixed (n : Nat) : MixedOk (clv D.pg (n + 2)) 15 := fun a b c h => by rw [e15]; exact mixed_ok (kTake n) a b c h
theorem kNames (n : Nat) : NamesOk (clv D.pg (n + 3)) 16 := fun a b c h => by rw [e16]; exact names_ok (kTake (n + 1)) (kOf n) a b c h
theorem kTree1 (n : Nat) : TreeOk (clv D.pg (n + 1)) 18 1 0 := fun a _ c _ h => by rw [e18]; exact tree1_ok (C := 0) a c h
theorem kTree2 (n : Nat) : TreeOk (clv D.pg (n + 2)) 18 2 20 := fun a b c d h => by rw [e18]; exact tree_ok (kTake n) (kTree1 n) (by decide) (kW _) a b c d h
theorem kTree3 (n : Nat) : TreeOk (clv D.pg (n + 3)) 18 3 220 := fun a b c d h => by rw [e18]; exact tree_ok (kTake (n + 1)) (kTree2 n) (by decide) (kW _) a b c d h
theorem kPlan (n : Nat) : PlanOk (clv D.pg (n + 4)) 19 := fun a b c d h => by rw [e19]; exact plan_ok (kTake (n + 2)) (kNames n) (kMixed (n + 1)) (kTree1 (n + 2)) (kTree2 (n + 1)) (kTree3 n) a b c d h
theorem kRead0 (n : Nat) : ReadOk (clv D.pg (n + 1)) 17 0 := fun a b c d f h => by rw [e17]; exact read_ok (n := 0) (fun _ e => by omega) a b c d f h
theorem kRead1 (n : Nat) : ReadOk (clv D.pg (n + 2)) 17 1 := fun a b c d f h => by rw [e17]; exact read_ok (n := 1) (fun k e => by cases e; exact kRead0 n) a b c d f h
theorem kRead2 (n : Nat) : ReadOk (clv D.pg (n + 3)) 17 2 := fun a b c d f h => by rw [e17]; exact read_ok (n := 2) (fun k e => by cases e; exact kRead1 n) a b c d f h
theorem kAs0 (n : Nat) : AsOk (clv D.pg (n + 1)) 1 0 := fun a b h => by rw [e1]; exact as_ok (n := 0) (fun _ e => by omega) a b h
theorem kAs1 (n : Nat) : AsOk (clv D.pg (n + 2)) 1 1 := fun a b h => by rw [e1]; exact as_ok (n := 1) (fun k e => by cases e; exact kAs0 n) a b h
theorem kAs2 (n : Nat) : AsOk (clv D.pg (n + 3)) 1 2 := fun a b h => by rw [e1]; exact as_ok (n := 2) (fun k e => by cases e; exact kAs1 n) a b h
theorem kGates0 (n : Nat) : GatesOk (clv D.pg (n + 1)) 2 0 := fun a b c d h => by rw [e2']; exact gates_ok (n := 0) (fun _ e => by omega) a b c d h
theorem kGates1 (n : Nat) : GatesOk (clv D.pg (n + 2)) 2 1 := fun a b c d h => by rw [e2']; exact gates_ok (n := 1) (fun k e => by cases e; exact kGates0 n) a b c d h
theorem kLanes0 (n : Nat) : LanesOk (clv D.pg (n + 1)) 3 0 := fun a b c h => by rw [e3]; exact lanes_ok (n := 0) (fun _ e => by omega) a b c h
theorem kLanes1 (n : Nat) : LanesOk (clv D.pg (n + 2)) 3 1 := fun a b c h => by rw [e3]; exact lanes_ok (n := 1) (fun k e => by cases e; exact kLanes0 n) a b c h
theorem kLanes2 (n : Nat) : LanesOk (clv D.pg (n + 3)) 3 2 := fun a b c h => by rw [e3]; exact lanes_ok (n := 2) (fun k e => by cases e; exact kLanes1 n) a b c h
theorem kHost (n : Nat) : HostOk (clv D.pg (n + 5)) 20 0 := fun hP hk h => by
  rw [e20]
  refine host_ok (kA _) (fun hP hk h => ?_) hP hk h
  rw [eI]
  refine init_ok (kF _) (kAs2 n) (fun a b c d h => ?_) (kLanes2 n) hP hk h
  rw [e2]
  exact gates_ok (n := 2) (fun k e => by cases e; exact kGates1 n) a b c d h
theorem kNum (n : Nat) : IsNumOk (clv D.pg (n + 1)) 0 := fun a h => by rw [e0]; exact isnum_ok a h
theorem kRule (n : Nat) : IsRuleOk (clv D.pg (n + 2)) 7 := fun a b c h => by rw [e7]; exact isrule_ok (kg0 _) (kg1 _) (kNum n) a b c h
theorem kCheck (n : Nat) : CheckOk (clv D.pg (n + 1)) 0 5 := fun a h => by rw [e5]; exact check_ok (kF _) a h
theorem kMem (n : Nat) : MembersOk (clv D.pg (n + 2)) 0 6 := fun a h => by rw [e6]; exact members_ok (kF _) (kC _) (kCheck n) a h
theorem kRules (n : Nat) : IsRulesOk (clv D.pg (n + 3)) 0 8 := fun hg hd hn hl h => by
  rw [e8]
  exact isrules_ok (kG _) (kM _) (fun q => by rw [e4]; exact gatesP_ok (kF _) q) (kMem n) (kRule n) hg hd hn hl h
theorem kSame0 (n : Nat) : SameOk (clv D.pg (n + 1)) 14 0 := fun a h => by rw [e14]; exact same0_ok a h
theorem kSame1 (n : Nat) : SameOk (clv D.pg (n + 2)) 14 1 := fun a h => by rw [e14]; exact same_ok (kSame0 n) a h
theorem kLists0 (n : Nat) : ListsOk (clv D.pg (n + 1)) 13 0 := fun a h => by rw [e13]; exact lists_ok (n := 0) (fun _ e => by omega) a h
theorem kLists1 (n : Nat) : ListsOk (clv D.pg (n + 2)) 13 1 := fun a h => by rw [e13]; exact lists_ok (n := 1) (fun k e => by cases e; exact kLists0 n) a h
theorem kLists2 (n : Nat) : ListsOk (clv D.pg (n + 3)) 13 2 := fun a h => by rw [e13]; exact lists_ok (n := 2) (fun k e => by cases e; exact kLists1 n) a h
theorem kLists3 (n : Nat) : ListsOk (clv D.pg (n + 4)) 13 3 := fun a h => by rw [e13]; exact lists_ok (n := 3) (fun k e => by cases e; exact kLists2 n) a h
theorem kDraw (n : Nat) : RulesOk (clv D.pg (n + 4)) 21 := fun a b c d f g h => by rw [e21]; exact rules_ok (kOf (n + 1)) (kMixed (n + 1)) (kRead2 n) a b c d f g h
theorem kBent (n : Nat) : BentOk (clv D.pg (n + 3)) 24 := fun a b c d f g h => by rw [e24]; exact bent_ok (kTake (n + 1)) (kOf n) a b c d f g h
theorem kSo (n : Nat) : IsSoOk (clv D.pg (n + 1)) 22 := fun a b c d f h => by rw [e22]; exact isso_ok a b c d f h
theorem kRight (n : Nat) : RightOk (clv D.pg (n + 6)) 25 := fun a h => by
  rw [e25]
  exact right_ok (kPlan (n + 1)) (kRead2 (n + 2)) (kHost n) (kDraw (n + 1)) (kSame1 (n + 3)) (kRules (n + 2)) (kLists3 (n + 1)) (kBent (n + 2)) (kSo (n + 4)) a h
theorem kBox (n : Nat) : BoxOk (clv D.pg (n + 1)) 9 := fun a b h => by rw [e9]; exact box_ok a b h
theorem kCells (n : Nat) : CellsOk (clv D.pg (n + 1)) 11 := fun a b c h => by rw [e11]; exact cells_ok a b c h
def isTrue (r : Rs DV) : Bool := match r with | .ok (.bl true) _ => true | _ => false
theorem hand0 : isTrue (callF (clv D.pg 13) 23 [] []) = true := by decide +kernel
theorem hand : ∃ S1, callF (clv D.pg 13) 23 [] [] = .ok (.bl true) S1 := by
  have h := hand0
  generalize callF (clv D.pg 13) 23 [] [] = r at h
  unfold isTrue at h
  split at h
  · exact ⟨_, rfl⟩
  · cases h
theorem pure_law : ∀ ns : List Int, ns.length ≤ 63 → ∃ S, (lev D.pg depth).1 iLaw [.scr (ns.map DV.int)] [] = .ok (.bl true) S := by
  intro ns hn
  have h : wp ((lev D.pg 14).1 iLaw [.scr (ns.map DV.int)]) [] (fun d _ => d = .bl true) := by
    rw [eL]
    exact law_ok hand (kCells 12) (kRight 7) (kBox 12) hn (fun _ => rfl)
  unfold wp at h
  show ∃ S, (lev D.pg 14).1 iLaw [.scr (ns.map DV.int)] [] = _
  split at h
  · next a S' e => rw [e, h]; exact ⟨S', rfl⟩
  · exact h.elim
end K10
end
section
set_option Elab.async false
set_option linter.all false
set_option maxRecDepth 100000
set_option maxHeartbeats 0
open PySem PySem.W PySem.Calls PyProof.Rows
theorem PySem.Challenge.cw_gatedlanes_k10_things_that_are_rules_holds : PySem.Challenge.rw_gatedlanes_k10_things_that_are_rules.Holds := by
  w_on; o_law
  refine HandSHeadRun.head_any (r := OpenLaw.row PySem.Challenge.rw_gatedlanes_k10_things_that_are_rules) (q := view (OpenLaw.row PySem.Challenge.rw_gatedlanes_k10_things_that_are_rules).prog [40]) (H := K10.hk) (ob := K10.ob) (M := 4000) (loose := K10.loose) (d := HandSHeadRun.topDef (OpenLaw.row PySem.Challenge.rw_gatedlanes_k10_things_that_are_rules).prog 40) (kwd := []) K10.ob_eq
    (by kernel_rfl) (fun s => by kernel_rfl) K10.run (by kernel_rfl) (by kernel_rfl) (by kernel_rfl) (by rfl) (by first | assumption | decide +kernel) (by decide +kernel) ⟨rfl, rfl, rfl, rfl, rfl, by decide +kernel⟩ ?hw ?hc
  case hw => w_witness2
  case hc =>
    refine GL.walkW (l := PySem.Challenge.rw_gatedlanes_k10_things_that_are_rules) (n := 63) (k := 2 * K10.depth) (x := "_law_script") rfl (by decide) (by kernel_rfl) ⟨rfl, by decide, by decide⟩ ?F
    case F =>
      intro w mg fa h Y G hmg0
      obtain ⟨K, KX, c⟩ := Y
      have hmg : mg ("law" : PySem.Str) = some (.ref fa) := by
        have e : (HandSHeadRun.topDef (OpenLaw.row PySem.Challenge.rw_gatedlanes_k10_things_that_are_rules).prog 40).name = ("law" : PySem.Str) := by kernel_rfl
        rw [← e]
        exact hmg0
      obtain ⟨fd, sp, h1, h2, h3⟩ := GL.law_facts (P := (PySem.Challenge.rw_gatedlanes_k10_things_that_are_rules).prog) (w := w) (n := K10.depth) (i := K10.iLaw) KX G hmg c K10.pb K10.hc0 K10.md (by decide +kernel) (by decide +kernel) (by rfl) K10.pure_law
      exact ⟨K, fd, sp, KX, h1, h2, h3⟩
end
