import PyProof.Rows.All
import Wide.All
import OpenK.AllK
import Wide.FinOn
import PySem.Challenge.RW_on0374_01
set_option Elab.async false
set_option tactic.hygienic false
set_option linter.all false
set_option maxRecDepth 100000
set_option maxHeartbeats 8000000
open PySem PySem.W PyProof.Rows PySem.Spec PySem.Calls
namespace Internal
theorem byG {P : Prop} (h : ∀ G : Prop, (P → G) → G) : P := h P id

theorem u8 {P : UInt8 → Prop} (h : ∀ n : Fin 256, P (UInt8.ofNat n.val)) (c : UInt8) : P c := by have := h ⟨c.toNat, c.toNat_lt⟩; rwa [UInt8.ofNat_toNat] at this
theorem fdivN {k : Nat} {r : Int} (h : 0 ≤ r) : (r.fdiv (k : Int)).toNat = r.toNat / k := by rw [Int.fdiv_eq_ediv_of_nonneg _ (Int.natCast_nonneg k)]; obtain ⟨n, rfl⟩ := Int.eq_ofNat_of_zero_le h; rfl
theorem fdiv0 {k : Nat} {r : Int} (h : 0 ≤ r) : 0 ≤ r.fdiv (k : Int) := by rw [Int.fdiv_eq_ediv_of_nonneg _ (Int.natCast_nonneg k)]; exact Int.ediv_nonneg h (Int.natCast_nonneg k)
theorem lenL {n k m : Nat} (h : n ≤ k) (e : Nat.ble k m = true) : n ≤ m := Nat.le_trans h (Nat.le_of_ble_eq_true e)
theorem lenS {a b k l m : Nat} (h : a ≤ k) (g : b ≤ l) (e : Nat.ble (k + l) m = true) : a + b ≤ m := Nat.le_trans (Nat.add_le_add h g) (Nat.le_of_ble_eq_true e)
theorem posN {r : Int} {n : Nat} (p1 : 0 ≤ r) (m : 0 < r ∨ (n : Int) < 4) : 0 < r.toNat ∨ n < 4 := by obtain ⟨k, rfl⟩ := Int.eq_ofNat_of_zero_le p1; exact m.imp Int.ofNat_lt.mp Int.ofNat_lt.mp
theorem posN' {r : Int} {n : Nat} (p1 : 0 ≤ r) (m : ¬ 0 < r) (m' : ¬ (n : Int) < 4) : ¬ (0 < r.toNat ∨ n < 4) := by obtain ⟨k, rfl⟩ := Int.eq_ofNat_of_zero_le p1; exact fun q => q.elim (fun y => m (Int.ofNat_lt.mpr y)) (fun y => m' (Int.ofNat_lt.mpr y))
theorem flow_cases {P : Flow → Prop} (f : Flow) (hr : ∀ v, P (.ret v)) (hb : P .brk) (hn : P .next) (hc : P .next → P .cont) : P f := match f with
  | .ret v => hr v
  | .brk => hb
  | .next => hn
  | .cont => hc hn
/-! A logic over clean contexts: no built-in that may hold a bytearray is under way. -/
noncomputable def badIds : List String := ["bytearray.__contains__", "bytearray.__mod__", "bytearray.__rmod__", "_struct.pack_into.held", "bytearray.find.held"] ++ Builtin.Bytes.decodersThatHold
noncomputable def Okc (c : Code) : Prop := ∀ id args, c = .builtin id args → badIds.contains id = false
theorem okc_builtin {id : String} {args : Args} (h : badIds.contains id = false) : Okc (.builtin id args) := fun _ _ e => by cases e; exact h
noncomputable def Free (l : List (Code × Pos)) : Prop := ∀ x ∈ l, Okc x.1
theorem Free.cons {c : Code} {p : Pos} {l : List (Code × Pos)} (hc : Okc c) (h : Free l) : Free ((c, p) :: l) := fun x hx => by
  rcases List.mem_cons.mp hx with rfl | hx
  · exact hc
  · exact h x hx
theorem Free.nil : Free [] := fun _ h => nomatch h

theorem not_in {id x : String} {l : List String} (h : l.contains id = false) (hx : l.contains x = true) : ¬ id = x := fun e => by cases e; exact absurd (hx.symm.trans h) (fun h => nomatch h)
theorem dec_no {id : String} (h : badIds.contains id = false) (v self : Value) : (Builtin.Bytes.sameRef v self && Builtin.Bytes.decodersThatHold.contains id) = false := by
  have : Builtin.Bytes.decodersThatHold.contains id = false := Bool.eq_false_iff.mpr fun t => by
    refine absurd ((List.contains_iff_mem.mpr (List.mem_append_right _ (List.contains_iff_mem.mp t))).symm.trans h) (fun h => nomatch h)
  exact (congrArg _ this).trans (Bool.and_false _)
theorem exp_no (self : Value) : ∀ (x : Code × Pos), Okc x.1 → 
  Builtin.Bytes.exported.match_1 (fun _ => Bool) x (fun v _ _ _ => Builtin.Bytes.sameRef v self) (fun v _ _ _ => Builtin.Bytes.sameRef v self) (fun _ v _ _ _ => Builtin.Bytes.sameRef v self) (fun v _ _ _ => Builtin.Bytes.sameRef v self) (fun _ _ held _ _ => held.any (Builtin.Bytes.sameRef self))
    (fun id v _ _ _ => Builtin.Bytes.sameRef v self && Builtin.Bytes.decodersThatHold.contains id) (fun _ => false) = false
  | (.builtin id args, q), h => by
    have hb := h id args rfl
    delta Builtin.Bytes.exported.match_1
    refine (dif_neg (not_in (x := "bytearray.__contains__") hb (by decide +kernel))).trans ?_
    refine (dif_neg (not_in (x := "bytearray.__mod__") hb (by decide +kernel))).trans ?_
    refine (dif_neg (not_in (x := "bytearray.__rmod__") hb (by decide +kernel))).trans ?_
    refine (dif_neg (not_in (x := "_struct.pack_into.held") hb (by decide +kernel))).trans ?_
    refine (dif_neg (not_in (x := "bytearray.find.held") hb (by decide +kernel))).trans ?_
    exact match args with
      | ⟨[], kw⟩ => rfl
      | ⟨v :: r, kw⟩ => dec_no hb v self
  | (.call .., _), _ | (.body .., _), _ | (.block .., _), _ | (.handlers .., _), _ | (.starHandlers .., _), _ | (.func .., _), _ | (.expr .., _), _ | (.whileLoop .., _), _ | (.forLoop .., _), _ | (.asyncForLoop .., _), _ | (.compStart .., _), _ | (.compLoop .., _), _ => rfl

noncomputable def wpG {α : Type} (M : Model) (A : Around) (t : Sem α) (Q : α → Shared → Prop) (s : Shared) : Prop :=
  ∀ Γ p, Γ.In A → Okc Γ.code → Free Γ.below → Sem.wp M Γ t (fun a _ s' => Q a s') (fun _ _ _ => False) p s
noncomputable def flowR (R : Flow → Shared → Prop) (r : Result) (s : Shared) : Prop := match r with | .ok f => R f s | .error _ => False
noncomputable def codeG (M : Model) (A : Around) (c : Code) (R : Flow → Shared → Prop) (s : Shared) : Prop :=
  ∀ Γ p, Γ.code = c → Γ.Below A → Free Γ.below → wpCode M Γ (flowR R) p s

section
variable {α β : Type} {M : Model} {A : Around} {s : Shared}
theorem wpG_of {t : Sem α} {Q : α → Shared → Prop} (h : wpAny M A t Q (fun _ _ => False) s) : wpG M A t Q s := fun Γ p hi _ _ => h Γ p hi
theorem wpG_mono {t : Sem α} {Q Q' : α → Shared → Prop} (h : wpG M A t Q s) (hQ : ∀ a s, Q a s → Q' a s) : wpG M A t Q' s :=
  fun Γ p hi ho hf => Sem.wp_mono M Γ t (fun a _ s => hQ a s) (fun _ _ _ x => x) p s (h Γ p hi ho hf)
theorem wpG_bind {m : Sem α} {f : α → Sem β} {Q : β → Shared → Prop} (h : wpG M A m (fun a s' => wpG M A (f a) Q s') s) : wpG M A (m >>= f) Q s := fun Γ p hi ho hf => by
  rw [Sem.wp_bind']
  exact Sem.wp_mono M Γ m (fun a p' s' h' => h' Γ p' hi ho hf) (fun _ _ _ h' => h') p s (h Γ p hi ho hf)
theorem wpG_pure {a : α} {Q : α → Shared → Prop} (h : Q a s) : wpG M A (pure a) Q s := fun _ _ _ _ _ => h
theorem wpG_onRaise {m : Sem α} {k : Value → Sem Unit} {Q : α → Shared → Prop} (h : wpG M A m Q s) : wpG M A (m.onRaise k) Q s := fun Γ p hi ho hf => by
  rw [Sem.wp_onRaise]
  exact Sem.wp_mono M Γ m (fun _ _ _ h' => h') (fun e p' s' h' => h'.elim) p s (h Γ p hi ho hf)
theorem wpG_holding {vs : List Value} {m : Sem α} {Q : α → Shared → Prop} (h : wpG M A m Q s) : wpG M A (holding vs m) Q s :=
  fun Γ p hi ho hf => by rw [Sem.wp_holding]; exact h Γ p hi ho hf
theorem wpG_standAt {pos : Pos} {Q : Unit → Shared → Prop} (h : Q () s) : wpG M A (standAt pos) Q s := fun _ _ _ _ _ => h
theorem wpG_point {Q : Unit → Shared → Prop} (h : Q () s) : wpG M A point Q s := wpG_of (wpAny_point h)
theorem wpG_run {c : Code} {Q : Flow → Shared → Prop} (hc : codeG M A c Q s) : wpG M A (run c none) Q s := fun Γ p hi ho hf => by
  rw [Sem.wp_run]
  refine wpCode_mono (fun r s' h' => ?_) (hc _ p rfl (by have := hi.enter c none p (by intro x; cases x); exact this) (Free.cons ho hf))
  cases r with
  | ok f => exact h'
  | error e => exact h'
theorem wpG_call {f : Value} {pos : List Value} {kw : List (Str × Value)} {Q : Value → Shared → Prop}
    (hc : codeG M A (.call f ⟨pos, kw⟩) (fun r s' => match r with | .ret v => Q v s' | _ => False) s) : wpG M A (call f pos kw) Q s := fun Γ p hi ho hf => by
  show Sem.wp M Γ (runValue (.call f ⟨pos, kw⟩)) _ _ p s
  rw [Sem.wp_runValue]
  refine wpCode_mono (fun r s' h' => ?_) (hc _ p rfl (by have := hi.enter (.call f ⟨pos, kw⟩) none p (by intro x; cases x); exact this) (Free.cons ho hf))
  cases r with
  | ok f => cases f <;> exact h'
  | error e => exact h'
theorem codeG_mono {c : Code} {R R' : Flow → Shared → Prop} (h : codeG M A c R s) (hR : ∀ f s, R f s → R' f s) : codeG M A c R' s := fun Γ p hc hb hf =>
  wpCode_mono (fun r s' h' => by cases r with | ok f => exact hR _ _ h' | error e => exact h') (h Γ p hc hb hf)
theorem codeG_of_tree {c : Code} {R : Flow → Shared → Prop} (hk : Okc c)
    (h : wpG M (A.under c) (M.den c) (fun fin s' => match fin with | .done f => R f s' | .again c' => c'.quiet = true ∧ codeG M A c' R s') s) : codeG M A c R s := fun Γ p hc hb hf => by
  rw [wpCode_iff_wp, hc]
  refine Sem.wp_mono M Γ _ (fun fin p' s' h' => ?_) (fun _ _ _ h' => h'.elim) p s (h Γ p (hc ▸ hb.in) (hc ▸ hk) hf)
  cases fin with
  | done f => exact h'
  | again c' => exact ⟨h'.1, h'.2 (Γ.goto c') p' rfl (hb.goto c') hf⟩
theorem codeG_loop {c : Code} {R : Flow → Shared → Prop} (hk : Okc c) (hq : c.quiet = true) (I : Nat → Shared → Prop)
    (turn : ∀ n s, I n s → wpG M (A.under c) (M.den c) (fun fin s' => match fin with | .done f => R f s' | .again c' => (c' = c ∧ ∃ m, m < n ∧ I m s') ∨ (c'.quiet = true ∧ codeG M A c' R s')) s)
    (n : Nat) (h : I n s) : codeG M A c R s := by
  induction n using Nat.strongRecOn generalizing s with
  | ind n ih =>
    refine codeG_of_tree hk (wpG_mono (turn n s h) fun fin s' hf => ?_)
    cases fin with
    | done f => exact hf
    | again c' =>
      rcases hf with ⟨rfl, m, hm, hI⟩ | hf
      · exact ⟨hq, ih m hm hI⟩
      · exact hf
theorem okc_of {c : Code} (h : ∀ id args, c ≠ .builtin id args) : Okc c := fun id args e => absurd e (h id args)
theorem under_flat {c : Code} (h : c.weight = 0) (hu : c.cUnits = 0) : A.under c = A := Around.under_of_weight h hu

theorem wpG_rule {tag : String} {Q : Unit → Shared → Prop} (h : Q () s) : wpG M A (rule tag) Q s := wpG_of (wpAny_rule h)
theorem wpG_keep {vs : List Value} {m : Sem α} {Q : α → Shared → Prop} (h : wpG M A m Q s) : wpG M A (m.keep vs) Q s := fun Γ p hi ho hf => by
  rw [Sem.wp_keep]; exact h Γ p hi ho hf
theorem wpG_operate {vs : List Value} {m : Sem Value} {Q : Value → Shared → Prop} (h : wpG M A m Q s) : wpG M A (operate vs m) Q s := fun Γ p hi ho hf => by
  rw [Sem.wp_operate]; exact h Γ p hi ho hf
theorem wpG_ite {c : Prop} [Decidable c] {a b : Sem α} {Q : α → Shared → Prop} (h : if c then wpG M A a Q s else wpG M A b Q s) : wpG M A (if c then a else b) Q s := by
  split <;> simp_all
theorem wpG_exported {a : Addr} {Q : Bool → Shared → Prop} (h : Q false s) : wpG M A (Builtin.Bytes.exported (.ref a)) Q s := fun Γ p hi ho hf => by
  unfold Builtin.Bytes.exported
  rw [Sem.wp_bind']
  show Sem.wp M Γ (.stack .pure) _ _ p s
  rw [Sem.wp_stack]
  show Q _ s
  have key : ∀ x ∈ ((Γ.code, p) :: Γ.below), Okc x.1 := Free.cons ho hf
  have e := List.any_eq_false.mpr fun x hm => (Bool.eq_false_iff.mp (exp_no (.ref a) x (key x hm)))
  exact (congrArg (fun b => Q b s) e).mpr h

theorem execs_nilG {env : Env} {Q : Flow → Shared → Prop} (h : Q .next s) : wpG M A (execs [] env) Q s := wpG_pure h
theorem execs_consG {st : Stmt} {rest : List Stmt} {env : Env} {Q : Flow → Shared → Prop}
    (h : wpG M A (exec st env) (fun f s' => match f with | .next => wpG M A (execs rest env) Q s' | f => Q f s') s) : wpG M A (execs (st :: rest) env) Q s := by
  show wpG M A (do match ← exec st env with | .next => execs rest env | f => pure f) Q s
  refine wpG_bind (wpG_mono h fun f s' h' => ?_)
  cases f <;> first | exact h' | exact wpG_pure h'
theorem if_G {test : Expr} {body orelse : List Stmt} {pos : Pos} {env : Env} {Q : Flow → Shared → Prop}
    (h : wpG M A (isTrue test env (eval test env)) (fun b s' => if b = true then wpG M A (execs body env) Q s' else wpG M A (execs orelse env) Q s') s) : wpG M A (exec (.If test body orelse pos) env) Q s := by
  show wpG M A (do standAt pos; if ← isTrue test env (eval test env) then execs body env else execs orelse env) Q s
  refine wpG_bind (wpG_standAt (wpG_bind (wpG_mono h fun b s' h' => ?_)))
  cases b with
  | true => simpa using h'
  | false => simpa using h'
noncomputable def loopR (Q : Flow → Shared → Prop) (P : Shared → Prop) (f : Flow) (s : Shared) : Prop := match f with | .ret v => Q (.ret v) s | .brk => Q .next s | _ => P s
theorem while_G {test : Expr} {body : List Stmt} {pos : Pos} {env : Env} {Q : Flow → Shared → Prop} (I : Nat → Shared → Prop) (n : Nat) (h : I n s)
    (turn : ∀ n s, I n s → wpG M A (isTrue test env (eval test env)) (fun b s' => if b = true then wpG M A (execs body env) (loopR Q fun s₂ => ∃ m, m < n ∧ I m s₂) s' else Q .next s') s)
    (hM : M.den (.whileLoop test body [] env) = denote table (.whileLoop test body [] env)) : wpG M A (exec (.While test body [] pos) env) Q s := by
  show wpG M A (do standAt pos; runOwn (.whileLoop test body [] env) env) Q s
  refine wpG_bind (wpG_standAt ?_)
  refine wpG_onRaise (wpG_run (codeG_loop (okc_of (by intro _ _ e; cases e)) rfl I (fun n s hI => ?_) n h))
  rw [under_flat rfl rfl, hM]
  show wpG M A ((whileTurn test body [] env).onRaise _) _ s
  refine wpG_onRaise ?_
  unfold whileTurn
  refine wpG_bind (wpG_mono (turn n s hI) fun b s' h' => ?_)
  cases b with
  | true =>
    simp only [if_true] at h' ⊢
    refine wpG_bind (wpG_mono h' fun f s₂ h₂ => ?_)
    cases f with
    | next => exact wpG_pure (.inl ⟨rfl, h₂⟩)
    | cont => exact wpG_pure (.inl ⟨rfl, h₂⟩)
    | brk => exact wpG_pure h₂
    | ret v => exact wpG_pure h₂
  | false =>
    simp only [Bool.false_eq_true, if_false] at h' ⊢
    exact wpG_bind (execs_nilG (wpG_pure h'))
theorem forLoop_G {target : Expr} {it : Value} {body : List Stmt} {env : Env} {Q : Flow → Shared → Prop} (I : Nat → Shared → Prop) (n : Nat) (h : I n s)
    (turn : ∀ n s, I n s → wpG M A (pyNext it) (fun o s₁ => match o with
      | none => Q .next s₁
      | some v => wpG M A (letOwnedTupleGo target it v) (fun _ s₂ => wpG M A (assign target env v) (fun _ s₃ => wpG M A (execs body env) (loopR Q fun s₄ => ∃ m, m < n ∧ I m s₄) s₃) s₂) s₁) s)
    (hM : ∀ c, M.den c = denote table c) : wpG M A (runOwn (.forLoop target it body [] env) env) Q s := by
  refine wpG_onRaise (wpG_run (codeG_loop (okc_of (by intro _ _ e; cases e)) rfl I (fun n s hI => ?_) n h))
  rw [under_flat rfl rfl, hM]
  show wpG M A ((forTurn target it body [] env).onRaise _) _ s
  refine wpG_onRaise ?_
  unfold forTurn
  refine wpG_bind (wpG_standAt (wpG_bind (wpG_onRaise (wpG_mono (turn n s hI) fun o s₁ h₁ => ?_))))
  cases o with
  | none =>
    refine wpG_pure (.inr ⟨rfl, codeG_of_tree (okc_of (by intro _ _ e; cases e)) ?_⟩)
    rw [under_flat rfl rfl, hM]
    show wpG M A (do return Fin.done (← (execs [] env).onRaise _)) _ s₁
    exact wpG_bind (wpG_onRaise (execs_nilG (wpG_pure h₁)))
  | some v =>
    refine wpG_bind (wpG_mono h₁ fun _ s₂ h₂ => wpG_bind (wpG_mono h₂ fun _ s₃ h₃ => wpG_bind (wpG_mono h₃ fun f s₄ h₄ => ?_)))
    cases f with
    | next => exact wpG_pure (.inl ⟨rfl, h₄⟩)
    | cont => exact wpG_pure (.inl ⟨rfl, h₄⟩)
    | brk => exact wpG_pure h₄
    | ret v => exact wpG_pure h₄
end
end Internal
namespace Internal
open Builtin Builtin.Bytes
theorem slot_ba_append : Slot "bytearray" "append" "bytearray.append" :=
  .of (owner := "bytearray") (n := "append") (by rw [typeLookup_type, builtinLookup_eq_fast]; kernel_rfl) (by decide +kernel) (by decide +kernel) (by decide +kernel)
    (by first | exact .inl (by decide +kernel) | exact .inr (by decide +kernel)) (by rw [isSubtype_type]; kernel_rfl)
theorem entry_ba_append : entryFor table "bytearray.append" = some Builtin.«bytearray.append» := entryFor_of_tree (by kernel_rfl)
theorem args_ba_append (a b : Value) : argsOk "bytearray.append" ⟨[a, b], []⟩ := by unfold argsOk; kernel_rfl

noncomputable abbrev baObj (b : Array UInt8) : Obj := { cls := .type "bytearray", data := .bytearray b 0 }
section
variable {prog : Program} {w : World} {A : Around} {s : Shared}
theorem den_of {id : String} {args : Args} {b : Builtin} (hb : entryFor table id = some b) : (model prog w).den (.builtin id args) = b args := by
  show (match entryFor table id with | some b => b args | none => unsupported ((withoutEnding? id "#data").getD id)) = _
  rw [hb]
theorem byteValue_int {i : Int} {t : Tok} (h0 : 0 ≤ i) (h1 : i < 256) : byteValue (.int i t) = pure i.toNat.toUInt8 := by
  have e : asIndex (.int i t) = pure i := rfl
  unfold byteValue
  rw [e]
  show (if i < 0 || i ≥ 256 then _ else _) = _
  have : (decide (i < 0) || decide (i ≥ 256)) = false := by rw [decide_eq_false (Int.not_lt.mpr h0), decide_eq_false (Int.not_le.mpr h1)]; rfl
  rw [this]
  rfl
theorem append_G {a : Addr} {b : Array UInt8} {i : Int} {t : Tok} {Q : Value → Shared → Prop} (ho : s.heap.get? a = some (baObj b)) (h0 : 0 ≤ i) (h1 : i < 256) (hz : b.size + 1 ≤ sizeLine)
    (h : Q .none { s with heap := s.heap.update a (Obj.mapBytearray (·.push i.toNat.toUInt8)) }) : wpG (model prog w) A (call (.builtin "bytearray.append") [.ref a, .int i t]) Q s := by
  have hT : s.TypeIs (.ref a) "bytearray" := ⟨_, ho, rfl⟩
  refine wpG_call (codeG_of_tree (okc_of (by intro _ _ e; cases e)) ?_)
  show wpG _ A.in1 (do checkBuiltinCall "bytearray.append" ⟨[.ref a, .int i t], []⟩; again (.builtin "bytearray.append" ⟨[.ref a, .int i t], []⟩)) _ s
  refine wpG_bind (wpG_of (slot_ba_append.check _ _ _ _ _ _ _ _ hT (args_ba_append _ _) ?_))
  refine wpG_pure ⟨plainId_quiet slot_ba_append.plain _, codeG_of_tree (okc_builtin (by decide)) ?_⟩
  rw [Around.under_plainId slot_ba_append.plain]
  rw [den_of entry_ba_append]
  unfold Builtin.«bytearray.append»
  refine wpG_bind (m := selfAndOne "bytearray.append" _) (wpG_pure ?_)
  show wpG _ _ (byteValue (.int i t) >>= _) _ _
  rw [byteValue_int h0 h1]
  refine wpG_bind (wpG_pure ?_)
  refine wpG_bind ?_
  unfold checkResize
  refine wpG_bind (wpG_bind (wpG_exported ?_))
  show wpG _ _ (exportsOf (Value.ref a) >>= fun n => pure (decide (n > 0))) _ _
  unfold exportsOf
  refine wpG_bind (wpG_bind (wpG_of (wpAny_load ho (wpG_pure (wpG_pure ?_)))))
  show wpG _ _ (if decide ((0 : Nat) > 0) = true then _ else _) _ _
  rw [if_neg (by decide)]
  refine wpG_pure ?_
  refine wpG_bind ?_
  show wpG _ _ (updateBytearray a _) _ _
  unfold updateBytearray
  refine wpG_bind (wpG_of (wpAny_load ho ?_))
  dsimp only
  refine wpG_bind (wpG_of (wpAny_update ho ?_))
  have hu : (s.heap.update a (Obj.mapBytearray fun x => x.push i.toNat.toUInt8)).get? a = some (baObj (b.push i.toNat.toUInt8)) := Heap.get?_update_self _ ho rfl
  refine wpG_of (wpAny_lookBehind (o := baObj (b.push i.toNat.toUInt8)) hu ?_ ?_)
  · show (if (b.push i.toNat.toUInt8).size > sizeLine then _ else none) = none
    rw [if_neg]
    rw [Array.size_push]
    omega
  exact wpG_pure h
end
end Internal
namespace Internal
open Builtin Builtin.Bytes
theorem mro_bytearray : mroOf (.type "bytearray") = pure [.type "bytearray", .type "object"] := by rw [mroOf_type]; kernel_rfl
theorem lookup_ba_new : typeLookup (.type "bytearray") "__new__" = pure (some (.builtin "bytearray.__new__")) := by rw [typeLookup_type, builtinLookup_eq_fast]; kernel_rfl
theorem slot_ba_init : Slot "bytearray" "__init__" "bytearray.__init__" :=
  .of (owner := "bytearray") (n := "__init__") (by rw [typeLookup_type, builtinLookup_eq_fast]; kernel_rfl) (by decide +kernel) (by decide +kernel) (by decide +kernel)
    (by first | exact .inl (by decide +kernel) | exact .inr (by decide +kernel)) (by rw [isSubtype_type]; kernel_rfl)
theorem called_ba : TypeCalled "bytearray" "bytearray.__new__" "bytearray.__init__" :=
  ⟨by decide +kernel, by decide +kernel, ⟨_, _, mro_bytearray⟩, madeBy_type mro_bytearray lookup_ba_new (by decide +kernel), by decide +kernel, by rw [isSubtype_type]; kernel_rfl, slot_ba_init⟩
theorem typeCall_ba : checkTypeCall "bytearray" ⟨[], []⟩ = pure () := by kernel_rfl
theorem newCall_ba : checkBuiltinCall "bytearray.__new__" ⟨[.type "bytearray"], []⟩ = pure () := by kernel_rfl
theorem entry_ba_new : entryFor table "bytearray.__new__" = some Builtin.«list.__new__» := entryFor_alias (id' := "list.__new__") (by kernel_rfl) rfl (by decide +kernel) (by kernel_rfl)
theorem entry_ba_init : entryFor table "bytearray.__init__" = some Builtin.«bytearray.__init__» := entryFor_of_tree (by kernel_rfl)
theorem args_ba_init (a : Value) : argsOk "bytearray.__init__" ⟨[a], []⟩ := by unfold argsOk; kernel_rfl
set_option maxRecDepth 1000000 in
set_option maxHeartbeats 4000000 in
theorem owner_ba_new : ("bytearray.__new__".splitOn ".__new__").headD "" = "bytearray" := by simp +decide [String.splitOn, String.splitOnAux]
theorem rel_ba : typeLookup (.type "bytearray") "__release_buffer__" = pure (some (.builtin "bytearray.__release_buffer__")) := by rw [typeLookup_type, builtinLookup_eq_fast]; kernel_rfl
theorem sub_ba : isSubtype (.type "bytearray") (.type "bytearray") = pure true := by rw [isSubtype_type]; kernel_rfl
theorem opt_ba : Builtin.Bytes.bindOptional "bytearray.__init__" "bytearray" ["source", "encoding", "errors"] [] [] = pure [none, none, none] := by kernel_rfl
section
variable {prog : Program} {w : World} {A : Around} {s : Shared}
theorem callSpecial_G {self : Value} {T : String} {name : Str} {id : String} {args : List Value} {kw : List (Str × Value)} {M : Model}
    {Q : Option Value → Shared → Prop} (hT : s.TypeIs self T) (h : Slot T name id)
    (hc : wpG M A (call (.builtin id) (self :: args) kw) (fun v => Q (some v)) s) : wpG M A (callSpecial? self name args kw) Q s := by
  simp only [callSpecial?]
  refine wpG_bind (wpG_of (wpAny_specialOf hT h.lookup ?_))
  simp only [h.bind]
  exact wpG_holding (wpG_bind (wpG_pure (wpG_bind (wpG_mono hc (fun v s' h' => wpG_pure h')))))
theorem new_ba {E : Value → Shared → Prop} {Q : Value → Shared → Prop} (h : Q (.ref s.heap.objs.size) { s with heap := s.heap.push (baObj #[]) }) :
    wpAny (model prog w) A (call (.builtin "bytearray.__new__") [.type "bytearray"]) Q E s := by
  refine wpAny_call (codeAny_of_tree ?_)
  show wpAny _ A.in1 (do checkBuiltinCall "bytearray.__new__" ⟨[.type "bytearray"], []⟩; again (.builtin "bytearray.__new__" ⟨[.type "bytearray"], []⟩)) _ _ s
  have pl : plainId "bytearray.__new__" = true := called_ba.plain
  refine wpAny_bind (wpAny_of_eq newCall_ba (wpAny_pure ⟨plainId_quiet pl _, codeAny_builtin_stack entry_ba_new rfl fun p st => ?_⟩))
  rw [Around.under_plainId pl _]
  have hsub := sub_ba
  have hown := owner_ba_new
  obtain ⟨hp, g, d, tk, os⟩ := s
  simp only [hown]
  wp_walk
  exact h
theorem init_ba {a : Addr} {Q : Value → Shared → Prop} (ho : s.heap.get? a = some (baObj #[])) (h : Q .none { s with heap := s.heap.update a (Obj.mapBytearray fun _ => #[]) }) :
    wpG (model prog w) A (call (.builtin "bytearray.__init__") [.ref a]) Q s := by
  have hT : s.TypeIs (.ref a) "bytearray" := ⟨_, ho, rfl⟩
  refine wpG_call (codeG_of_tree (okc_of (by intro _ _ e; cases e)) ?_)
  show wpG _ A.in1 (do checkBuiltinCall "bytearray.__init__" ⟨[.ref a], []⟩; again (.builtin "bytearray.__init__" ⟨[.ref a], []⟩)) _ s
  refine wpG_bind (wpG_of (slot_ba_init.check _ _ _ _ _ _ _ _ hT (args_ba_init _) ?_))
  refine wpG_pure ⟨plainId_quiet slot_ba_init.plain _, codeG_of_tree (okc_builtin (by decide)) ?_⟩
  rw [Around.under_plainId slot_ba_init.plain, den_of entry_ba_init]
  unfold Builtin.«bytearray.__init__»
  dsimp only
  unfold ownRelease slotIsOwn
  refine wpG_bind (wpG_bind (wpG_bind (wpG_of (wpAny_specialOf hT rel_ba ?_))))
  dsimp only
  rw [if_neg (by decide +kernel)]
  rw [show ("bytearray.__release_buffer__".dropRight ("__release_buffer__".length + 1)) = "bytearray" from by decide +kernel]
  refine wpG_of (wpAny_isInstance (U := "bytearray") hT sub_ba ?_)
  refine wpG_pure ?_
  rw [if_neg (by decide)]
  rw [opt_ba]
  refine wpG_bind (wpG_pure ?_)
  dsimp only
  refine wpG_bind (m := checkCodecArg _ _ _ none) (wpG_pure ?_)
  refine wpG_bind (m := checkCodecArg _ _ _ none) (wpG_pure ?_)
  refine wpG_bind (wpG_bind (wpG_exported ?_))
  show wpG _ _ (exportsOf (Value.ref a) >>= fun n => pure (decide (n > 0))) _ _
  unfold exportsOf
  refine wpG_bind (wpG_bind (wpG_of (wpAny_load ho (wpG_pure (wpG_pure ?_)))))
  show wpG _ _ (if decide ((0 : Nat) > 0) = true then _ else _) _ _
  rw [if_neg (by decide)]
  refine wpG_bind ?_
  show wpG _ _ (updateBytearray a _) _ _
  unfold updateBytearray
  refine wpG_bind (wpG_of (wpAny_load ho ?_))
  dsimp only
  refine wpG_bind (wpG_of (wpAny_update ho ?_))
  have hu : (s.heap.update a (Obj.mapBytearray fun _ => #[])).get? a = some (baObj #[]) := Heap.get?_update_self _ ho rfl
  refine wpG_of (wpAny_lookBehind (o := baObj #[]) hu (by decide) ?_)
  refine wpG_bind (m := (pure () : Sem Unit)) (wpG_pure ?_)
  exact wpG_pure h
theorem new_tree {Q : Value → Shared → Prop} (h : ∀ h', (∀ b o, s.heap.get? b = some o → h'.get? b = some o) → h'.get? s.heap.objs.size = some (baObj #[]) → Q (.ref s.heap.objs.size) { s with heap := h' }) :
    wpG (model prog w) A (call (.type "bytearray") []) Q s := by
  have ft := called_ba
  obtain ⟨c, tl, hmro⟩ := ft.mro
  have hmade := ft.made
  have hsub := ft.sub
  have h1 := ft.notType
  have h2 := ft.canCreate
  refine wpG_call (codeG_of_tree (okc_of (by intro _ _ e; cases e)) ?_)
  show wpG _ _ (again (.builtin "type.__call__" ⟨[.type "bytearray"], []⟩)) _ _
  refine wpG_pure ⟨Code.quiet_builtin _ (by decide +kernel), codeG_of_tree (okc_builtin (by decide)) ?_⟩
  rw [den_of F.entry_type_call, Around.under_plain (weight_type_call_type "bytearray" [] []) rfl]
  unfold Builtin.«type.__call__»
  dsimp only
  rw [if_neg (by rw [h1]; exact Bool.false_ne_true)]
  rw [if_neg (by rw [h2]; exact Bool.false_ne_true)]
  rw [typeCall_ba]
  refine wpG_bind (wpG_pure ?_)
  rw [hmro]
  refine wpG_bind (wpG_pure ?_)
  rw [if_neg (by exact Bool.false_ne_true)]
  rw [hmade]
  refine wpG_bind (wpG_pure ?_)
  dsimp only
  refine wpG_bind (wpG_pure ?_)
  refine wpG_bind (wpG_holding (wpG_of (new_ba ?_)))
  have hT : ({ s with heap := s.heap.push (baObj #[]) } : Shared).TypeIs (.ref s.heap.objs.size) "bytearray" := ⟨_, Heap.get?_push_size _ rfl, rfl⟩
  refine wpG_bind (wpG_of (wpAny_isInstance hT hsub ?_))
  rw [if_neg (by decide)]
  refine wpG_bind (wpG_holding (callSpecial_G hT slot_ba_init ?_))
  refine init_ba (Heap.get?_push_size _ rfl) ?_
  dsimp only
  rw [if_neg (by decide)]
  refine wpG_pure ?_
  refine h _ ?_ ?_
  · intro b o e
    have hb : s.heap.objs.size ≠ b := fun q => by subst q; exact absurd (Heap.lt_size e) (Nat.lt_irrefl _)
    exact (Heap.get?_update_other _ _ hb).trans (Heap.get?_push_of_some _ e)
  · exact Heap.get?_update_self _ (Heap.get?_push_size _ rfl) rfl
end
end Internal
namespace Internal
theorem okc_caller : Okc (.builtin "claim.caller" {}) := okc_builtin (by decide)
theorem thread_G {prog : Program} {w : World} {t : Sem Fin} {s : Shared} {P : Value → Shared → Prop} (hz : s.asleep)
    (h : wpG (model prog w) callerA t (fun fin s' => ∃ v, fin = .done (.ret v) ∧ P v s' ∧ AllBare s'.gens) s) :
    ∃ n v s' s'', runN (denote table) prog w n s ⟨t, .builtin "claim.caller" {}, default, []⟩ = .halted (.done (.ret v)) s' ∧
      schedN (denote table) prog w n (.single s ⟨t, .builtin "claim.caller" {}, default, []⟩) = .halted (.done (.ret v)) s' ∧ s'.forget = s''.forget ∧ P v s'' := by
  have h0 := h _ default caller_in okc_caller Free.nil
  obtain ⟨n, r, s'', s', hs, hn, hfo, v, rfl, hP⟩ := wp_halts_full (M := model prog w) (R := fun r s' => ∃ v, r = .ok (.ret v) ∧ P v s') hz
    (Sem.wp_mono _ _ t (fun fin p' s' h' => by
      obtain ⟨v, rfl, hp, hb⟩ := h'
      exact ⟨⟨v, rfl, hp⟩, leftWithCleanup_false_of_bare hb⟩) (fun _ _ _ x => x.elim) default s h0)
  exact ⟨n, v, s', s'', hn, hs, hfo, hP⟩

noncomputable abbrev WalkG (q : Program) (loose : List Str) (XP : (Str → Option Value) → Heap → Prop) (YP : World → Heap → Prop) (r : RowW) (d : DefRec) : Prop :=
  ∀ (w : World) (s₀ s₁ : Shared) (mg mb : Str → Option Value), Ground q loose r.records XP w s₀ mg mb s₁.heap → YP w s₁.heap → ∀ (a : Addr) (o : Obj) (pm cd doc dV kV : Value), s₁.heap.get? a = some o →
    o.data = .func { docDef d.name d.params d.body d.scope pm cd doc with defaults := dV, kwdefaults := kV } → s₁.heap.CodeRec cd d.name → mg d.name = some (.ref a) → s₁.gens = #[] →
    ∀ (args : List WData) (vals : List Value) (as : List Addr), r.claim.pre args = true → WData.layableAll args = true → ReadsAllW r.records (classAt s₀.heap) s₁.heap vals args as → WellAll w.params s₁.heap vals args → (∀ a ∈ as, (a == sysModules) = false) →
      wpG (model r.prog w) callerA (call (.ref a) vals) (fun v s' => GoodWG r.claim (classAt s₀.heap) (ExcName.means s₀.heap) args s₁ (.ok (.ret v)) s') s₁

theorem PySem.W.holds_open {r : OpenRow} {q : Program} {loose : List Str} {Xt : Shared → Bool} {XP : (Str → Option Value) → Heap → Prop} {α : Type} {Yf : Shared → α} {Ya : World → α} {YP : World → Heap → Prop} {d : DefRec} {kwd : List (Str × Expr)} {N : Nat}
    (left : Unit) (hY : ∀ w s, Yf s = Ya w → YP w s.heap) (hYk : ∀ w h h', YP w h → (∀ b o, h.get? b = some o → h'.get? b = some o) → YP w h')
    (hX : ∀ s, Xt s = true → XP (s.heap.nsMap mainGlobals) s.heap) (hXk : ∀ mg h h', XP mg h → (∀ b o, h.get? b = some o → h'.get? b = some o) → XP mg h')
    (hdef' : (defOf q r.name, left) = (some (d, kwd), ())) (hp : r.prog.theDef r.name = some (d.params, d.body, d.scope)) (hk : kwWritten? d.params.kwonlyargs d.params.kw_defaults = some kwd) (hRf : ∀ s, Xt s = true → RecFacts r.records s.heap) (hwr : (!r.writes || r.records.isEmpty) = true)
    (k1 : r.wellSaid = true) (ok : (chainsOk q && opensWell r.prog && (frees r.toRowW && r.within.isEmpty)) = true) (hb : r.prog.bare) (hw : r.toRowW.promised)
    (walk0 : LeftO r.prog q loose Xt Yf Ya N ∧ WalkG q loose XP YP r.toRowW d) : r.Holds := by
  obtain ⟨left, walk⟩ := walk0
  have hdef : defOf q r.name = some (d, kwd) := (Prod.mk.inj hdef').1
  simp only [Bool.and_eq_true] at ok
  obtain ⟨⟨hch, hop⟩, hfr, hwi⟩ := ok
  obtain ⟨hsame, hu, ha, hap, hmk⟩ := frees_parts hfr
  have hwi' : r.toRowW.claim.within = [] := List.isEmpty_iff.mp hwi
  refine ⟨k1, hw, ⟨hb, hop, by show r.makers.map _ = []; rw [hmk]; rfl⟩, hw.witness, fun w => ?_⟩
  have beh := left.behind (XP := fun mg h => XP mg h ∧ RecFacts r.records h) (fun s hs => ⟨hX s hs, hRf s hs⟩) hch w
  refine ⟨(left.behind hX hch w).1, fun s' hs' => ?_⟩
  refine byG ?_
  intro GG hGG
  obtain ⟨s₀, hfence, hg0, s, hT, hz, hgens, hns, GX, y⟩ := beh.2 s' hs'
  have G0 : Ground q loose [] XP w s (s.heap.nsMap mainGlobals) (s.heap.nsMap builtinsNs) s.heap := { GX with X := GX.X.1 }
  have hgens : s.gens = #[] := Array.eq_empty_of_size_eq_zero (beq_iff_eq.mp hgens)
  refine hGG ⟨s₀, hfence, hg0, s, hT, fun n hn => ?_, GX.X.2.1, GX.X.2.2.1, fun args hpre hlay ord hord => ?_⟩
  · have en : n = r.name := by split at hn <;> simp_all
    subst en
    exact pinned_of_view hns G0 hdef hp hk
  have G1 : Ground q loose r.records XP w s _ _ s.heap := GX.X.2.ground G0
  refine byG ?_
  intro G3 hG3
  obtain ⟨⟨vs, s₁⟩, hl⟩ := Option.isSome_iff_exists.mp (layAllW_isSome (P := w.params) (ord := ord) G1.has args r.args s (pre_splitW (r := r.toRowW) hpre).1)
  have kp := layAllW_keeps _ _ _ hl
  have al := layAllW_rest _ _ _ hl
  obtain ⟨as, hrd, hin, hold⟩ := reads_layAllW hord _ _ _ hl hlay s₁.heap (fun _ _ e => e)
  have L : Laid r.records w s s₁ args vs as := ⟨⟨ord, hord, hl⟩, hrd, hin, hold, kp, al.1.trans hgens, al.2.2.1⟩
  have G2 := G1.keeps hXk kp
  obtain ⟨a, o, pm, cd, doc, dV, kV, e1, e2, e3, e4, e5⟩ := G2.fn hdef
  have hwalk := walk w s s₁ _ _ G2 (hYk _ _ _ (hY w s y) kp) a o pm cd doc dV kV e2 e3 e4 (defOf_name hdef ▸ e1) L.gens args vs as hpre hlay L.reads L.well (L.low G1.low)
  have hthread : wpG (model r.prog w) callerA (callStub r.name vs).cur (fun fin s' => ∃ v, fin = .done (.ret v) ∧
      (r.toRowW.claim.Ends s args vs s₁ (.ok (.ret v)) s' ∧ s'.os = s.os ∧ (r.writes = true → namesKept r.prog r.keeps s.heap s'.heap ∧ ∀ x ∈ r.records, ∀ a, classAt s.heap x.1 = some a → recordClass s'.heap a x.1 (x.2.map (·.1)) = true)) ∧ AllBare s'.gens) s₁ := by
    refine wpG_bind (wpG_of (wpAny_nsGet G2.T.g ?_))
    rw [e1]
    refine wpG_bind (wpG_mono hwalk fun v s' g => wpG_pure ?_)
    have z := GoodWG.laid (c := r.toRowW.claim) hsame hwi' (ident_freeW hu ha hap) L g
    exact ⟨v, rfl, ⟨z.1, z.2.1, fun q => ⟨namesKept_of hT hns r.keeps kp g.2.1.old, noTable hwr q⟩⟩, z.2.2⟩
  obtain ⟨n, v, s', s'', hrun, hsch, hfo, hends, hos, hkept⟩ := thread_G (Shared.asleep_of_life al.2.2.2 hz) hthread
  obtain ⟨eh, _, _, eo, _⟩ := Shared.forget_eq hfo
  have hends := hends.congr eh
  rw [← eo] at hos
  rw [← eh] at hkept
  have hlife : s'.heap.life = s.heap.life := (runN_life _ _ _ hrun).trans al.2.2.2
  refine hG3 ⟨vs, s₁, hl, n, .done (.ret v), s', hsch, ?_, (fun _ i x hx => by rw [hgens] at hx; simp at hx), hkept, by rw [hlife], Shared.rest_eq hos⟩
  rcases hends with ⟨v', ev, rest⟩ | ⟨e, ob, cls, ev, _⟩
  · cases ev
    obtain ⟨d1, d2, d3, d4, d5⟩ := rest
    exact .inl ⟨v, rfl, d1, d2, d3, fun b o y _ => d4 b o y, d5⟩
  · cases ev
end Internal
namespace Internal
noncomputable def topG (ok : Thread → Bool) (f : SharedT → Thread → Option (SharedT × Thread)) (n : Nat) : SharedT → Thread → Option SharedT :=
  @Nat.rec (fun _ => SharedT → Thread → Option SharedT) (fun _ _ => none) (fun _ ih s t => match through t with
    | true => some s
    | false => match ok t with
      | false => none
      | true => match f s t with
        | some (s', t') => ih s' t'
        | none => none) n
theorem topG_of {tb : String → Option Builtin} {p : Program} {w : World} {n₀ : Nat} {ann : Option Value} : ∀ {n : Nat} {s s' : SharedT} {t : Thread}, topG (stepOk n₀ ann) (stepT (denote tb) p w) n s t = some s' → topRun tb p w n₀ ann n s.abs t = some s'.abs
  | 0, _, _, _, h => by cases h
  | n + 1, s, s', t, h => by
    replace h : (match through t with
      | true => some s
      | false => match stepOk n₀ ann t with
        | false => none
        | true => match stepT (denote tb) p w s t with
          | some (s', t') => topG (stepOk n₀ ann) (stepT (denote tb) p w) n s' t'
          | none => none) = some s' := h
    unfold topRun
    cases he : through t with
    | true => rw [he] at h; cases h; rfl
    | false =>
      rw [he] at h
      cases hk : stepOk n₀ ann t with
      | false => rw [hk] at h; cases h
      | true =>
        rw [hk] at h
        cases hs : stepT (denote tb) p w s t with
        | none => rw [hs] at h; cases h
        | some r => obtain ⟨s₂, t₂⟩ := r; rw [hs] at h; rw [stepT_spec hs]; exact topG_of h
noncomputable def bootT (P : Params) : BT :=
  .node (boot_o_0 P) (.node (boot_o_1 P) (.node (boot_o_3 P) (.node (boot_o_7 P) .nil .nil) .nil) (.node (boot_o_5 P) (.node (boot_o_9 P) .nil .nil) .nil))
    (.node (boot_o_2 P) (.node (boot_o_4 P) (.node (boot_o_8 P) .nil .nil) .nil) (.node (boot_o_6 P) (.node (boot_o_10 P) .nil .nil) .nil))
noncomputable def bootS (P : Params) (os : OsState) : SharedT := ⟨bootT P, 11, {}, #[], boot_drawn, boot_toks, os⟩
theorem bootS_abs (P : Params) (os : OsState) : (bootS P os).abs = ⟨boot_heap P, #[], boot_drawn, boot_toks, os⟩ := by kernel_rfl
theorem bootS_sz : ∀ P, ((boot_heap P).isNs mainGlobals && (Array.mk [] : Array GenState).size == 0, (boot_heap P).objs.size, (boot_heap P).nsMap mainGlobals "__annotations__") = (true, 11, some (.ref 6)) := fun P => by kernel_rfl
theorem quick_steps (p : Program) (w : World) : topG (stepOk 11 (some (.ref 6))) (stepT (denote treeTable) p w) =
    topG (Fast.tw6613529449190102663 11 (some (.ref 6))) (Fast.tw10156331382660048174 (Fast.tw11892475500146522536 Fast.tw14364793385576792824) p w) := by
  rw [← Fast.te10156331382660048174, ← Fast.te11892475500146522536, ← Fast.te14364793385576792824, ← Fast.te6613529449190102663]
theorem leftO_tree {p q : Program} {loose : List Str} {Xt : Shared → Bool} {α : Type} {Yf : Shared → α} {Ya : World → α} {N : Nat} (e : opening p = plainProg p.main.scope.names) (hN : Nat.ble 600 N = true) (f : ∀ s, fenceModules? p s = some s)
    (run : ∀ (w : World) (os : OsState), (topG (Fast.tw6613529449190102663 11 (some (.ref 6))) (Fast.tw10156331382660048174 (Fast.tw11892475500146522536 Fast.tw14364793385576792824) p w) N (bootS w.params os) (topStub p)).map (fun s =>
      ((staticsOk (importedModules p.main.body) (boot_heap w.params) s.abs.heap && namesBound p s.abs.heap && gensDone s.abs && laidKept (boot_heap w.params) s.abs.heap),
        Fast.tw4187177175401517315 q loose (importedModules p.main.body) Xt true s.abs, Yf s.abs)) = some (true, openGood q loose, Ya w)) : LeftO p q loose Xt Yf Ya N := fun w => by
  obtain ⟨⟨h, gs, d, k, os⟩, e0, e'⟩ := Option.map_eq_some_iff.mp (boot_open e hN f w)
  obtain ⟨rfl, rfl, rfl, rfl⟩ : h = boot_heap w.params ∧ gs = Array.mk [] ∧ d = boot_drawn ∧ k = boot_toks := by simpa using e'
  have run := run w os
  rw [← quick_steps, ← Fast.te4187177175401517315] at run
  obtain ⟨s, r, l⟩ := Option.map_eq_some_iff.mp run
  have r := topG_of r
  rw [bootS_abs] at r
  obtain ⟨z1, z2, z3⟩ : _ ∧ _ ∧ _ := by simpa only [Prod.mk.injEq] using bootS_sz w.params
  obtain ⟨l1, l2⟩ := Prod.mk.inj l
  have t : topFrom treeTable p w N ⟨boot_heap w.params, Array.mk [], boot_drawn, boot_toks, os⟩ = some s.abs := by
    unfold topFrom
    dsimp only
    rw [z1, z2, z3]
    rw [r]
    show (match staticsOk (importedModules p.main.body) (boot_heap w.params) s.abs.heap && namesBound p s.abs.heap && gensDone s.abs && laidKept (boot_heap w.params) s.abs.heap with | true => _ | false => _) = _
    rw [l1]
  unfold openEnds
  rw [e0]
  show (topFrom treeTable p w N _).map _ = _
  rw [t]
  exact congrArg some l2
end Internal
namespace Internal
set_option maxHeartbeats 0
open_top hd0 for PySem.Challenge.rw_on0374_01.row
end Internal
namespace Internal
section
variable {prog : Program} {w : World} {A₀ A : Around} {s : Shared} {K : Frag} {L : Addr} {h₀ base : Heap} {m mg mb : Str → Option Value} {news : List (Addr × Obj)} {p : Program} {loose : List Str} {mean : ExcName → Option Value}
theorem func_G {body : List Stmt} {env : Env} {R : Flow → Shared → Prop}
    (h : wpG (model prog w) (A.deeper env) (execs body env) (fun f s' => R (.ret (match f with | .ret v => v | _ => .none)) s') s) : codeG (model prog w) A (.func body env) R s := by
  refine codeG_of_tree (okc_of (by intro _ _ e; cases e)) ?_
  show wpG _ (A.deeper env) (do point; match ← (execs body env).onRaise (leaving env) with | .ret v => ret v | _ => ret .none) _ s
  refine wpG_bind (wpG_point (wpG_bind (wpG_onRaise (wpG_mono h fun f s' h' => ?_))))
  cases f <;> exact wpG_pure h'
theorem call_G {env : Env} {outer : List Env} {R : Flow → Shared → Prop} {name qual : Str} {params : Arguments} {body : List Stmt} {scope : Scope} {dV kV doc pm cdv ct oc : Value} {an od : Option Addr} {osl : Array (Option Value)} {f : Addr} {args : Args} {binds : List (Str × Value)}
    (B : Below A₀ base outer h₀) (F : Fr h₀ L s.heap m) (X₀ : K.In h₀) (N : News h₀ L s.heap news) (T : Top p loose mean mg mb h₀) (hA : A.frames = some (env :: outer)) (hf : env.frame = some L) (hke : env.scope.kind = .function)
    (ho : K.lookup f = some ⟨oc, od, .func (fnOf name qual params body scope dV kV doc pm an cdv ct), osl⟩) (hcd : codeIn K cdv qual = true) (hroom : A.depth < recursionLimit)
    (hbind : BindsTo s (fnOf name qual params body scope dV kV doc pm an cdv ct) args binds) (hloc : ∀ y ∈ binds, scope.names.lookup y.1 = some .local)
    (h : ∀ g L' h₁, Fr h₀ L g m → Fr g L' h₁ (fun y => binds.reverse.lookup y) → News g L' h₁ news → Below A base (env :: outer) g → K.In g → Top p loose mean mg mb g →
      wpG (model prog w) (A.deeper (envOf qual scope L' f cdv)) (execs body (envOf qual scope L' f cdv))
        (fun fl s' => LeaveK h₀ L m g (flowR R) (match fl with | .ret v => v | _ => .none) s') { s with heap := h₁, toks := s.toks + binds.length })
    (hco : scope.isCoroutine = false) (hgen : scope.isGenerator = false) (hk : scope.kind = .function) (hcell : ∀ x ∈ scope.names, x.2 ≠ .cell) : codeG (model prog w) A (.call (.ref f) args) R s := by
  obtain ⟨FG, BG, st, lv⟩ := groundX (R := flowR R) B F N hA hf hke
  have KS := X₀.keeps F.keep
  obtain ⟨c, oc', vs, tq, hc, hoc, hdc, hq⟩ := codeRec_of KS hcd
  refine codeG_of_tree (okc_of (by intro _ _ e; cases e)) (wpG_of ?_)
  show wpAny _ A.in1 (callAny (.ref f) args) _ _ s
  simp only [callAny]
  refine wpAny_bind (wpAny_load (KS _ _ ho) ?_)
  simp only [callFunction, hco, hgen, hc]
  rw [hc] at hbind
  refine wpAny_bind (m := field (.ref c) 1) (wpAny_field hoc hdc hq (wpAny_bind (wpAny_pure ?_)))
  refine wpAny_bind (hbind _ _ _ _ (wpAny_bind (wpAny_newFunctionEnv hcell hloc (fun h₁ hns hsb => ?_) hk)))
  have hk₁ : ∀ b o, s.heap.get? b = some o → h₁.get? b = some o := fun b o e => hsb.extBut b o (Nat.ne_of_lt (Heap.lt_size e)) (Heap.get?_push_of_some _ e)
  refine wpAny_bind (wpAny_enterFrame ((T.nolimit.keeps F.keep).fresh _ hsb) hroom (wpAny_pure ⟨rfl, func_G ?_⟩))
  subst hc
  refine wpG_mono (h _ s.heap.objs.size h₁ FG ⟨hns, fun b o e => hk₁ b o (of_hideAll _ e), Nat.le_of_eq (hideAll_size _ _)⟩
    (fun q hq => ⟨hk₁ _ _ (N q hq).1, Nat.ne_of_lt (Heap.lt_size (N q hq).1), hideAll_none _ (List.mem_map_of_mem hq)⟩) BG (X₀.keeps st) (T.keeps st)) fun fl s' hl => ?_
  exact lv _ _ hl

theorem callWith_G {pos : Pos} {f : Value} {first : List Value} {args : List (Bool × Sem Value)} {M : Model} {Q : Value → Shared → Prop} (hplain : args.any (·.1) = false)
    (h : wpAny M A (evalArgs f true args []) (fun a s₁ => (∃ k, Looks M s₁.heap (keeperOf f) k) ∧ wpG M A (call f (first ++ a.pos) a.kw) Q s₁) (fun _ _ => False) s) : wpG M A (callWith pos f first args []) Q s := by
  unfold callWith
  refine wpG_bind (wpG_holding (wpG_of (wpAny_mono h (fun a s₁ h₁ => ?_) fun _ _ x => x)))
  obtain ⟨⟨k, hk⟩, h₁⟩ := h₁
  refine wpG_bind (wpG_standAt (wpG_bind (wpG_of (hk.here ?_))))
  have tail : ∀ {t : Sem Value}, wpG M A t Q s₁ → wpG M A (t >>= fun r => holding [r] point >>= fun _ => pure r) Q s₁ :=
    fun ht => wpG_bind (wpG_mono ht (fun r s₂ hr => wpG_bind (wpG_holding (wpG_point (wpG_pure hr)))))
  have hno : (args.any (·.1) || ([] : List (Option Str × Sem Value)).any (·.1.isNone)) = false := by rw [hplain]; rfl
  have mk (v : Value) : wpG M A (callMarked v f (first ++ a.pos) a.kw) Q s₁ := wpG_keep h₁
  rw [hno]
  cases k <;> dsimp only <;> first
    | exact tail (wpG_operate h₁)
    | exact tail h₁
    | (split <;> first | exact tail h₁ | exact tail (mk _))
end
end Internal
namespace Internal
noncomputable abbrev Nev (_ : Value) (_ : Shared) : Prop := False
section
variable {M : Model} {A : Around} {s : Shared} {env : Env}
theorem return_G {e : Expr} {pos : Pos} {Q : Flow → Shared → Prop} (h : wpG M A (eval e env) (fun v s' => Q (.ret v) s') s) : wpG M A (exec (.Return (some e) pos) env) Q s := by
  rw [exec_Return_some]
  exact wpG_bind (wpG_standAt (wpG_bind (wpG_mono h fun v s' h' => wpG_pure h')))
theorem assign_G {x : Str} {px pos : Pos} {e : Expr} {Q : Flow → Shared → Prop} (h : wpG M A (eval e env) (fun v s₁ => wpAny M A (storeName env x v) (fun _ s₂ => Q .next s₂) (fun _ _ => False) s₁) s)
    (hs : swapsWithSole [.Name x px] e pos.line env = pure false) (hw : swappedStores [.Name x px] e env = pure none) : wpG M A (exec (.Assign [.Name x px] e pos) env) Q s := by
  show wpG M A (do
    standAt pos
    if ← swapsWithSole [.Name x px] e pos.line env then do
      evalThenUse e env fun v => assignAll v ((assignEach [.Name x px] env).map (·.2))
      pure .next
    else do
      let v ← eval e env
      assignStores env v (← swappedStores [.Name x px] e env) ((assignEach [.Name x px] env).map (·.2))) Q s
  refine wpG_bind (wpG_standAt ?_)
  rw [hs]
  refine wpG_bind (wpG_pure ?_)
  rw [if_neg (by decide)]
  refine wpG_bind (wpG_mono h fun v s₁ h₁ => ?_)
  rw [hw]
  refine wpG_bind (wpG_pure ?_)
  show wpG M A (do assignAll v ((assignEach [.Name x px] env).map (·.2)); pure .next) Q s₁
  refine wpG_bind ?_
  show wpG M A (do standAt px; bindName env x v) _ s₁
  refine wpG_bind (wpG_standAt ?_)
  unfold bindName
  refine wpG_bind (wpG_holding (wpG_point (wpG_bind (wpG_mono (wpG_of h₁) fun _ s₂ h₂ => wpG_point (wpG_pure h₂)))))
theorem ifExp_G {test body orelse : Expr} {pos : Pos} {Q : Value → Shared → Prop}
    (h : wpG M A (isTrue test env (eval test env)) (fun b s' => if b = true then wpG M A (eval body env) Q s' else wpG M A (eval orelse env) Q s') s) : wpG M A (eval (.IfExp test body orelse pos) env) Q s := by
  show wpG M A (do if ← isTrue test env (eval test env) then eval body env else eval orelse env) Q s
  refine wpG_bind (wpG_mono h fun b s' h' => ?_)
  cases b with
  | true => simpa using h'
  | false => simpa using h'
theorem allTrue_nil_G {op : BoolOp} {Q : Bool → Shared → Prop} (h : Q (op == .And) s) : wpG M A (allTrue op [] env) Q s := wpG_pure h
theorem and_cons_G {x : Expr} {rest : List Expr} {Q : Bool → Shared → Prop}
    (h : wpG M A (isTrue x env (eval x env)) (fun b s' => if b = true then wpG M A (allTrue .And rest env) Q s' else Q false s') s) : wpG M A (allTrue .And (x :: rest) env) Q s := by
  rw [PySem.arm_allTrue_cons]
  refine wpG_bind (wpG_mono h fun b s' h' => ?_)
  cases b with
  | true => simpa using h'
  | false => exact wpG_pure (by simpa using h')
theorem or_cons_G {x : Expr} {rest : List Expr} {Q : Bool → Shared → Prop}
    (h : wpG M A (isTrue x env (eval x env)) (fun b s' => if b = true then Q true s' else wpG M A (allTrue .Or rest env) Q s') s) : wpG M A (allTrue .Or (x :: rest) env) Q s := by
  rw [PySem.arm_allTrue_cons]
  refine wpG_bind (wpG_mono h fun b s' h' => ?_)
  cases b with
  | true => exact wpG_pure (by simpa using h')
  | false => simpa using h'
theorem isTrueBool_G {op : BoolOp} {values : List Expr} {pos : Pos} {x : Sem Value} {Q : Bool → Shared → Prop} (h : wpG M A (allTrue op values env) Q s) : wpG M A (isTrue (.BoolOp op values pos) env x) Q s := h
theorem compare_G {l r : Expr} {op : CmpOp} {pos : Pos} {Q : Value → Shared → Prop}
    (h : wpG M A (eval l env) (fun a s₁ => wpAny M A (eval r env) (fun b s₂ => wpAny M A (compareOp op a b) Q (fun _ _ => False) s₂) (fun _ _ => False) s₁) s)
    (hm : behindInMarks op r = false := by with_unfolding_all rfl) : wpG M A (eval (.Compare l [op] [r] pos) env) Q s := by
  rw [PySem.eval_Compare1, markedBehindIn_of_false hm]
  refine wpG_bind (wpG_mono h fun a s₁ h₁ => wpG_of (wpAny_bind (wpAny_holding (wpAny_mono h₁ (fun b s₂ h₂ => wpAny_bind (wpAny_standAt ?_)) fun _ _ x => x))))
  exact fun Γ p hΓ => by rw [Sem.wp_operate]; exact h₂ Γ p hΓ
theorem isTrueCompare_G {l r : Expr} {op : CmpOp} {pos : Pos} {whole : Sem Value} {Q : Bool → Shared → Prop}
    (h : wpG M A (eval l env) (fun a s₁ => wpAny M A (eval r env) (fun b s₂ => wpAny M A (compareOp op a b) (fun c s₃ => wpAny M A (truthy c) Q (fun _ _ => False) s₃) (fun _ _ => False) s₂) (fun _ _ => False) s₁) s)
    (hm : behindInMarks op r = false := by with_unfolding_all rfl) : wpG M A (isTrue (.Compare l [op] [r] pos) env whole) Q s := by
  rw [PySem.isTrue_Compare1, markedBehindIn_of_false hm]
  refine wpG_bind (wpG_mono h fun a s₁ h₁ => wpG_of (wpAny_bind (wpAny_holding (wpAny_mono h₁ (fun b s₂ h₂ => wpAny_bind (wpAny_standAt (wpAny_bind ?_))) fun _ _ x => x))))
  exact fun Γ p hΓ => by
    rw [Sem.wp_operate]
    exact Sem.wp_mono _ _ _ (fun c p' s₃ h₃ => wpAny_holding (vs := [c]) h₃) (fun _ _ _ x => x) _ _ (h₂ Γ p hΓ)
theorem boolLast_G {op : BoolOp} {pos : Pos} {x : Sem Value} {Q : Value → Shared → Prop} (h : wpG M A x Q s) : wpG M A (boolOp pos op [x]) Q s := h
theorem boolAnd_G {pos : Pos} {x y : Sem Value} {rest : List (Sem Value)} {Q : Value → Shared → Prop}
    (h : wpG M A x (fun v s₁ => wpAny M A (truthy v) (fun t s₂ => if t = true then wpG M A (boolOp pos .And (y :: rest)) Q s₂ else Q v s₂) (fun _ _ => False) s₁) s) : wpG M A (boolOp pos .And (x :: y :: rest)) Q s := by
  show wpG M A (do
    let v ← x
    standAt pos
    let t ← holding [v] (truthy v)
    match BoolOp.And, t with
    | .And, false | .Or, true => pure v
    | _, _ => boolOp pos .And (y :: rest)) Q s
  refine wpG_bind (wpG_mono h fun v s₁ h₁ => wpG_bind (wpG_standAt (wpG_bind (wpG_holding (wpG_mono (wpG_of h₁) fun t s₂ h₂ => ?_)))))
  cases t with
  | true => simpa using h₂
  | false => exact wpG_pure (by simpa using h₂)
theorem evalBool_G {op : BoolOp} {values : List Expr} {pos : Pos} {Q : Value → Shared → Prop} (h : wpG M A (boolOp pos op (evalEach values env)) Q s) : wpG M A (eval (.BoolOp op values pos) env) Q s := h
end
section
variable {prog : Program} {w : World} {A : Around} {s : Shared} {K : Frag} {L a : Addr} {h₀ : Heap} {m mg mb : Str → Option Value} {p : Program} {loose : List Str} {cn : Str} {cs : Scope} {ccd : Value} {cl : List (Str × Addr)}
theorem callName_G {x : Str} {px pos : Pos} {f : Addr} {e : Expr} {rest : List Expr} {Q : Value → Shared → Prop}
    (F : Fr h₀ L s.heap m) (X : K.In h₀) (T : TopRead p loose mg mb h₀) (en : nsIn K mainGlobals x = some (some (.ref f))) (hkp : keepIn K (.ref f) = true)
    (h : wpAny (model prog w) A (spliced (backTo pos (starEach (e :: rest) (envX cn cs L a ccd cl)))) (fun vs s₁ => K.In s₁.heap ∧ wpG (model prog w) A (call (.ref f) vs) Q s₁) (fun _ _ => False) s)
    (he : starEach (e :: rest) (envX cn cs L a ccd cl) = (false, eval e (envX cn cs L a ccd cl)) :: starEach rest (envX cn cs L a ccd cl)) (hplain : (backTo pos (starEach rest (envX cn cs L a ccd cl))).any (·.1) = false)
    (hk : cs.kind = .function) (hx : (envX cn cs L a ccd cl).kindOf x = some .globalImplicit) (hd : (x == ("__debug__" : Str)) = false) :
    wpG (model prog w) A (eval (.Call (.Name x px) (e :: rest) [] pos) (envX cn cs L a ccd cl)) Q s := by
  show wpG (model prog w) A (do callWith pos (← eval (.Name x px) (envX cn cs L a ccd cl)) [] (backTo pos (starEach (e :: rest) (envX cn cs L a ccd cl))) []) Q s
  refine wpG_bind (wpG_of (nameX_K F X T en ?_ hk hx hd))
  have hp : (backTo pos (starEach (e :: rest) (envX cn cs L a ccd cl))).any (·.1) = false := by
    rw [he]
    show (false || (backTo pos (starEach rest (envX cn cs L a ccd cl))).any (·.1)) = false
    rw [hplain]; rfl
  refine callWith_G hp ?_
  rw [he] at h ⊢
  refine evalArgs_plain (wpAny_mono h (fun vs s' h' => ?_) fun _ _ x => x)
  obtain ⟨k, _, hl⟩ := keeps_K (M := model prog w) hkp s'.heap h'.1
  exact ⟨⟨k, hl⟩, h'.2⟩
end
end Internal
namespace Internal
noncomputable abbrev PG : Program := PySem.Challenge.pw_on0374_01
noncomputable abbrev LS : List Str := [Str.ofString "UniError", Str.ofString "SYLLABLES", Str.ofString "HEX_DIGITS", Str.ofString "ANGLE", Str.ofString "SYLLABLE", Str.ofString "JUNGSEONG", Str.ofString "JUNGSEONG_APART"]
theorem looseLS : looseW hd0.view_1 [Str.ofString "UniError", Str.ofString "SYLLABLES"] = LS := by decide +kernel
noncomputable def Fn (D : Nat) (f : Addr) (vs : List Value) (news : List (Addr × Obj)) (R : Value → List (Addr × Obj) → Prop) : Prop :=
  ∀ (w : World) (mean : ExcName → Option Value) (mg mb : Str → Option Value) (dp un : Nat) (gd : Option (List Code)) (cn : Str) (cs : Scope) (a : Addr) (ccd : Value) (cl : List (Str × Addr)) (outer : List Env) (A₀ : Around) (base h₀ : Heap) (L : Addr) (m : Str → Option Value) (s : Shared) (Q E : Value → Shared → Prop),
    Below A₀ base outer h₀ → Fr h₀ L s.heap m → (hd0.heap_1 w.params).In h₀ → News h₀ L s.heap news → Top hd0.view_1 LS mean mg mb h₀ → cs.kind = .function → dp + D < recursionLimit → un + 8 * D < cLine →
    (∀ r news' h' tk', R r news' → Fr h₀ L h' m → News h₀ L h' news' → Q r { s with heap := h', toks := tk' }) →
    wpAny (model PG w) (ktrTop dp un gd cn cs L a ccd cl outer) (call (.ref f) vs) Q E s
theorem Fn.use {D : Nat} {f : Addr} {vs : List Value} {news : List (Addr × Obj)} {R : Value → List (Addr × Obj) → Prop} (c : Fn D f vs news R)
    {w : World} {mean : ExcName → Option Value} {mg mb : Str → Option Value} {dp un : Nat} {gd : Option (List Code)} {cn : Str} {cs : Scope} {a : Addr} {ccd : Value} {cl : List (Str × Addr)} {outer : List Env} {A₀ : Around} {base h₀ : Heap} {L : Addr} {m : Str → Option Value} {s : Shared} {Q E : Value → Shared → Prop}
    (B : Below A₀ base outer h₀) (F : Fr h₀ L s.heap m) (X : (hd0.heap_1 w.params).In h₀) (N : News h₀ L s.heap news) (T : Top hd0.view_1 LS mean mg mb h₀) (hk : cs.kind = .function) (hd : dp + D < recursionLimit) (hu : un + 8 * D < cLine)
    (ret : ∀ r news' h' tk', R r news' → Fr h₀ L h' m → News h₀ L h' news' → Q r { s with heap := h', toks := tk' }) :
    wpAny (model PG w) (ktrTop dp un gd cn cs L a ccd cl outer) (call (.ref f) vs) Q E s := c _ _ _ _ _ _ _ _ _ _ _ _ _ _ _ _ _ _ _ _ _ B F X N T hk hd hu ret
noncomputable def FnG (D : Nat) (f : Addr) (vs : List Value) (news : List (Addr × Obj)) (R : Value → List (Addr × Obj) → Prop) : Prop :=
  ∀ (w : World) (mean : ExcName → Option Value) (mg mb : Str → Option Value) (dp un : Nat) (gd : Option (List Code)) (cn : Str) (cs : Scope) (a : Addr) (ccd : Value) (cl : List (Str × Addr)) (outer : List Env) (A₀ : Around) (base h₀ : Heap) (L : Addr) (m : Str → Option Value) (s : Shared) (Q : Value → Shared → Prop),
    Below A₀ base outer h₀ → Fr h₀ L s.heap m → (hd0.heap_1 w.params).In h₀ → News h₀ L s.heap news → Top hd0.view_1 LS mean mg mb h₀ → cs.kind = .function → dp + D < recursionLimit → un + 8 * D < cLine →
    (∀ r news' h' tk', R r news' → Fr h₀ L h' m → News h₀ L h' news' → Q r { s with heap := h', toks := tk' }) →
    wpG (model PG w) (ktrTop dp un gd cn cs L a ccd cl outer) (call (.ref f) vs) Q s
theorem FnG.use {D : Nat} {f : Addr} {vs : List Value} {news : List (Addr × Obj)} {R : Value → List (Addr × Obj) → Prop} (c : FnG D f vs news R)
    {w : World} {mean : ExcName → Option Value} {mg mb : Str → Option Value} {dp un : Nat} {gd : Option (List Code)} {cn : Str} {cs : Scope} {a : Addr} {ccd : Value} {cl : List (Str × Addr)} {outer : List Env} {A₀ : Around} {base h₀ : Heap} {L : Addr} {m : Str → Option Value} {s : Shared} {Q : Value → Shared → Prop}
    (B : Below A₀ base outer h₀) (F : Fr h₀ L s.heap m) (X : (hd0.heap_1 w.params).In h₀) (N : News h₀ L s.heap news) (T : Top hd0.view_1 LS mean mg mb h₀) (hk : cs.kind = .function) (hd : dp + D < recursionLimit) (hu : un + 8 * D < cLine)
    (ret : ∀ r news' h' tk', R r news' → Fr h₀ L h' m → News h₀ L h' news' → Q r { s with heap := h', toks := tk' }) :
    wpG (model PG w) (ktrTop dp un gd cn cs L a ccd cl outer) (call (.ref f) vs) Q s := c _ _ _ _ _ _ _ _ _ _ _ _ _ _ _ _ _ _ _ _ B F X N T hk hd hu ret
noncomputable abbrev Pure (news : List (Addr × Obj)) (P : Value → Prop) (r : Value) (news' : List (Addr × Obj)) : Prop := P r ∧ news' = news
noncomputable abbrev IsInt (x : Int) (r : Value) : Prop := ∃ t, r = .int x t
noncomputable abbrev IsBool (x : Bool) (r : Value) : Prop := r = .bool x
noncomputable abbrev IsBytes (l : List UInt8) (r : Value) : Prop := ∃ t, r = .bytes l.toArray t
noncomputable def optInt : Option Int → Value → Prop
  | none, r => r = .none
  | some x, r => IsInt x r
theorem U0 {a D R : Nat} (h : a + D < R) : a < R := Nat.lt_of_le_of_lt (Nat.le_add_right a D) h
theorem U1 {a D R k : Nat} (h : a + D < R) (e : Nat.ble k D = true) : a + k < R := Nat.lt_of_le_of_lt (Nat.add_le_add_left (Nat.le_of_ble_eq_true e) a) h
theorem U2 {a D R k l : Nat} (h : a + D < R) (e : Nat.ble (k + l) D = true) : a + k + l < R := Nat.add_assoc a k l ▸ U1 h e
theorem U3 {a D R k l m : Nat} (h : a + D < R) (e : Nat.ble (k + l + m) D = true) : a + k + l + m < R := Nat.add_assoc a k l ▸ U2 h e
theorem U4 {a D R k l m n : Nat} (h : a + D < R) (e : Nat.ble (k + l + m + n) D = true) : a + k + l + m + n < R := Nat.add_assoc a k l ▸ U3 h e
theorem U5 {a D R k l m n o : Nat} (h : a + D < R) (e : Nat.ble (k + l + m + n + o) D = true) : a + k + l + m + n + o < R := Nat.add_assoc a k l ▸ U4 h e
theorem FnG.use0 {D : Nat} {f : Addr} {vs : List Value} {news : List (Addr × Obj)}
    {w : World} {mean : ExcName → Option Value} {mg mb : Str → Option Value} {dp un : Nat} {gd : Option (List Code)} {cn : Str} {cs : Scope} {a : Addr} {ccd : Value} {cl : List (Str × Addr)} {outer : List Env} {A₀ : Around} {base h₀ : Heap} {L : Addr} {m : Str → Option Value} {s : Shared} {Q : Value → Shared → Prop} {v : Value} (c : FnG D f vs news (Pure news fun r => r = v)) (B : Below A₀ base outer h₀) (F : Fr h₀ L s.heap m) (X : (hd0.heap_1 w.params).In h₀) (N : News h₀ L s.heap news) (T : Top hd0.view_1 LS mean mg mb h₀) (hk : cs.kind = .function) (hd : dp + D < recursionLimit) (hu : un + 8 * D < cLine)
    (ret : ∀ h' tk', Fr h₀ L h' m → News h₀ L h' news → Q v ⟨h', s.gens, s.drawn, tk', s.os⟩) : wpG (model PG w) (ktrTop dp un gd cn cs L a ccd cl outer) (call (.ref f) vs) Q s :=
  FnG.use c B F X N T hk hd hu fun _ _ h t ⟨e, n⟩ F' N' => by subst n; subst e; exact ret h t F' N'
theorem FnG.useE {D : Nat} {f : Addr} {vs : List Value} {news : List (Addr × Obj)}
    {w : World} {mean : ExcName → Option Value} {mg mb : Str → Option Value} {dp un : Nat} {gd : Option (List Code)} {cn : Str} {cs : Scope} {a : Addr} {ccd : Value} {cl : List (Str × Addr)} {outer : List Env} {A₀ : Around} {base h₀ : Heap} {L : Addr} {m : Str → Option Value} {s : Shared} {Q : Value → Shared → Prop} {v : Tok → Value} (c : FnG D f vs news (Pure news fun r => ∃ t, r = v t)) (B : Below A₀ base outer h₀) (F : Fr h₀ L s.heap m) (X : (hd0.heap_1 w.params).In h₀) (N : News h₀ L s.heap news) (T : Top hd0.view_1 LS mean mg mb h₀) (hk : cs.kind = .function) (hd : dp + D < recursionLimit) (hu : un + 8 * D < cLine)
    (ret : ∀ t h' tk', Fr h₀ L h' m → News h₀ L h' news → Q (v t) ⟨h', s.gens, s.drawn, tk', s.os⟩) : wpG (model PG w) (ktrTop dp un gd cn cs L a ccd cl outer) (call (.ref f) vs) Q s :=
  FnG.use c B F X N T hk hd hu fun _ _ h t ⟨⟨u, e⟩, n⟩ F' N' => by subst n; subst e; exact ret u h t F' N'
end Internal
namespace Internal
open Builtin Builtin.Bytes
theorem buf_lookup : typeLookup (.type "bytes") "__buffer__" = pure (some (.builtin "bytes.__buffer__")) := by rw [typeLookup_type, builtinLookup_eq_fast]; kernel_rfl
theorem rel_lookup : typeLookup (.type "bytes") "__release_buffer__" = pure none := by rw [typeLookup_type, builtinLookup_eq_fast]; kernel_rfl
theorem sub_bytes2 : isSubtype (.type "bytes") (.type "bytes") = pure true := by rw [isSubtype_type]; kernel_rfl
theorem special_buf {b : Array UInt8} {t : Tok} : specialOf (.bytes b t) "__buffer__" = pure (some (.builtin "bytes.__buffer__")) := buf_lookup
theorem special_rel {b : Array UInt8} {t : Tok} : specialOf (.bytes b t) "__release_buffer__" = pure none := rel_lookup
theorem own_slot {b : Array UInt8} {t : Tok} : slotIsOwn (.bytes b t) "__buffer__" = pure true := by
  unfold slotIsOwn
  rw [special_buf]
  show (if (!"bytes.__buffer__".endsWith ("." ++ "__buffer__")) = true then pure false else isInstance (.bytes b t) (.type ("bytes.__buffer__".dropRight ("__buffer__".length + 1)))) = pure true
  rw [show "bytes.__buffer__".endsWith ("." ++ "__buffer__") = true from by decide +kernel, show "bytes.__buffer__".dropRight ("__buffer__".length + 1) = "bytes" from by decide +kernel]
  exact sub_bytes2
theorem own_rel {b : Array UInt8} {t : Tok} : ownRelease (.bytes b t) = pure false := by
  unfold ownRelease slotIsOwn
  rw [special_rel]
  rfl
theorem buffer_eq (id : String) (b : Array UInt8) (t : Tok) (full : Bool) : buffer? id (.bytes b t) full = pure (some b) := by
  unfold buffer?
  rw [special_buf, own_slot, own_rel]
  kernel_rfl
theorem bytesLike_eq (id : String) (b : Array UInt8) (t : Tok) : bytesLike id (.bytes b t) = pure b := by
  unfold bytesLike
  rw [buffer_eq]
  rfl
theorem slot_split : Slot "bytes" "split" "bytes.split" :=
  .of (owner := "bytes") (n := "split") (by rw [typeLookup_type, builtinLookup_eq_fast]; kernel_rfl) (by decide +kernel) (by decide +kernel) (by decide +kernel)
    (by first | exact .inl (by decide +kernel) | exact .inr (by decide +kernel)) (by rw [isSubtype_type]; kernel_rfl)
theorem entry_split : entryFor table "bytes.split" = some Builtin.«bytes.split» := entryFor_of_tree (by kernel_rfl)
theorem args_split (a b : Value) : argsOk "bytes.split" ⟨[a, b], []⟩ := by unfold argsOk; kernel_rfl
section
variable {prog : Program} {w : World} {A : Around} {E : Value → Shared → Prop} {s : Shared}
noncomputable def bytesVals (l : List (List UInt8 × Tok)) : List Value := l.map fun p => .bytes p.1.toArray p.2
noncomputable def tokked : Nat → List (List UInt8) → List (List UInt8 × Tok)
  | _, [] => []
  | t, x :: r => (x, t) :: tokked (t + 1) r
theorem tokked_fst : ∀ (t : Nat) (l : List (List UInt8)), (tokked t l).map (·.1) = l
  | _, [] => rfl
  | t, x :: r => by rw [tokked, List.map_cons, tokked_fst (t + 1) r]
theorem mkBytes_any {M : Model} {b : Array UInt8} {Q : Value → Shared → Prop} (hz : b.size ≤ sizeLine) (h : Q (.bytes b s.toks) { s with toks := s.toks + 1 }) : wpAny M A (mkBytes b) Q E s := by
  unfold mkBytes
  rw [if_neg (by omega)]
  exact wpAny_bind (wpAny_fresh (wpAny_pure h))
theorem mapM_bytes {M : Model} : ∀ (l : List (List UInt8)) (s : Shared) (Q : List Value → Shared → Prop), (∀ x ∈ l, x.length ≤ sizeLine) → Q (bytesVals (tokked s.toks l)) { s with toks := s.toks + l.length } →
    wpAny M A ((l.map List.toArray).mapM Kind.bytes.new) Q E s
  | [], s, Q, _, h => by simpa [bytesVals, tokked] using wpAny_pure h
  | x :: r, s, Q, hz, h => by
    rw [List.map_cons, List.mapM_cons]
    refine wpAny_bind (mkBytes_any (by simpa using hz x (.head _)) ?_)
    refine wpAny_bind (mapM_bytes r _ _ (fun y hy => hz y (.tail _ hy)) (wpAny_pure ?_))
    have e : s.toks + (r.length + 1) = s.toks + 1 + r.length := by omega
    rw [List.length_cons, e] at h
    exact h
variable {h₀ : Heap} {L : Addr} {m : Str → Option Value} {news : List (Addr × Obj)}
theorem call_split {b sep : List UInt8} {t u : Tok} {parts : List (List UInt8)} {Q : Value → Shared → Prop} (F : Fr h₀ L s.heap m) (N : News h₀ L s.heap news) (hs : sep.toArray.isEmpty = false)
    (hp : ((occurrences b.toArray sep.toArray 0 b.toArray.size).take (b.toArray.size + 1)).isEmpty = false)
    (he : between b.toArray sep.toArray.size ((occurrences b.toArray sep.toArray 0 b.toArray.size).take (b.toArray.size + 1)) = parts.map List.toArray) (hz : (parts.all fun x => decide (x.length ≤ 1000)) = true) (hn : parts.length ≤ 1000)
    (h : ∀ D l h' k, l.map (·.1) = parts → Fr h₀ L h' m → News h₀ L h' ((D, listOf (bytesVals l).toArray 0) :: news) → (∀ p ∈ news, p.1 < D) → Q (.ref D) { s with heap := h', toks := k }) :
    wpAny (model prog w) A (call (.builtin "bytes.split") [.bytes b.toArray t, .bytes sep.toArray u]) Q E s := by
  refine wpAny_call_entry slot_split rfl entry_split ?_ (args_split _ _)
  unfold Builtin.«bytes.split» splitM
  refine wpAny_bind (m := bindOptional _ _ _ _ _) (wpAny_of_eq (show _ = pure [some (Value.bytes sep.toArray u), none] from by kernel_rfl) ?_)
  dsimp only
  refine wpAny_bind (wpAny_pure ?_)
  refine wpAny_bind (m := payload _) (wpAny_pure ?_)
  rw [bytesLike_eq]
  refine wpAny_bind (wpAny_pure ?_)
  rw [if_neg (by rw [hs]; exact Bool.false_ne_true)]
  simp only [Bool.false_eq_true, if_false, show ((-1 : Int) < 0) from by decide, if_true]
  rw [hp]
  simp only [Bool.false_eq_true, if_false]
  rw [he]
  refine wpAny_bind (mapM_bytes parts s _ (fun x hx => ?_) ?_)
  · have := of_decide_eq_true (List.all_eq_true.mp hz x hx)
    rw [sizeLine_eq]; omega
  refine wpAny_bind (newList_N F N (fun h' F' N' => wpAny_pure ⟨_, rfl, ?_⟩) ?_)
  · exact h _ _ _ _ (tokked_fst _ _) F' N' fun p hp => Heap.lt_size (N p hp).1
  · have : (bytesVals (tokked s.toks parts)).length = parts.length := by
      rw [← congrArg List.length (tokked_fst s.toks parts)]; simp [bytesVals]
    rw [this, sizeLine_eq]; omega
theorem method_bytes {M : Model} {b : Array UInt8} {t : Tok} {pl : Sem Bool} {name : Str} {id : String} {Q : Value × List Value → Shared → Prop} (slot : Slot "bytes" name id) (ty : typeOf (.builtin id) = pure (.type "method_descriptor"))
    (h : Q (.builtin id, [.bytes b t]) s) : wpAny M A (getMethod (.bytes b t) name pl) Q E s :=
  KBd.method_of (.bytes b t) (typeIs_bytes _ _ _) slot ty KBd.noRef h
theorem type_split : typeOf (.builtin "bytes.split") = pure (.type "method_descriptor") := by show builtinType _ = _; rw [builtinType_eq_fast]; kernel_rfl
theorem contains_int {b : List UInt8} {i : Int} {t u : Tok} (h0 : 0 ≤ i) (h1 : i < 256) : Gives («bytes.__contains__» ⟨[.bytes b.toArray t, .int i u], []⟩) (.val (.bool (b.contains i.toNat.toUInt8))) := by
  refine .of_wp fun M A E s Q hq => ?_
  unfold Builtin.«bytes.__contains__»
  refine wpAny_bind (m := slotArgs _ _ _) (wpAny_of_eq (show _ = pure (Value.bytes b.toArray t, [Value.int i u]) from by kernel_rfl) ?_)
  dsimp only
  unfold containsIn
  refine wpAny_bind (wpAny_bind (wpAny_attempt (wpAny_of_eq (rfl : asIndex (.int i u) = pure i) ?_)))
  rw [buffer_eq]
  refine wpAny_bind (wpAny_pure ?_)
  dsimp only
  have : (decide (i < 0) || decide (i ≥ 256)) = false := by simp; omega
  rw [this]
  refine wpAny_pure (wpAny_pure ⟨_, rfl, ?_⟩)
  have e : b.toArray.contains i.toNat.toUInt8 = b.contains i.toNat.toUInt8 := by simp
  rw [e]
  exact hq
theorem in_bytes {b : List UInt8} {i : Int} {t u : Tok} {Q : Value → Shared → Prop} (h0 : 0 ≤ i) (h1 : i < 256) (h : Q (.bool (b.contains i.toNat.toUInt8)) s) : wpAny (model prog w) A (compareOp .In (.int i u) (.bytes b.toArray t)) Q E s :=
  in_gives (typeIs_bytes s _ t) FB.slot_bytes_contains FB.entry_bytes_contains (FB.args_bytes_contains_2 _ _) (contains_int h0 h1) h
theorem notIn_bytes {b : List UInt8} {i : Int} {t u : Tok} {Q : Value → Shared → Prop} (h0 : 0 ≤ i) (h1 : i < 256) (h : Q (.bool (!(b.contains i.toNat.toUInt8))) s) : wpAny (model prog w) A (compareOp .NotIn (.int i u) (.bytes b.toArray t)) Q E s :=
  notIn_gives (typeIs_bytes s _ t) FB.slot_bytes_contains FB.entry_bytes_contains (FB.args_bytes_contains_2 _ _) (contains_int h0 h1) h
theorem window_none (n : Nat) : window n none none = (0, (n : Int)) := by
  unfold window
  simp only [Option.getD_none]
  rw [if_neg (by decide), if_neg (by omega), Int.min_self]
theorem fits_front (b p : List UInt8) : (if (window b.toArray.size none none).2 - (window b.toArray.size none none).1 < (p.toArray.size : Nat) then false
    else if false = true then b.toArray.extract ((window b.toArray.size none none).2.toNat - p.toArray.size) (window b.toArray.size none none).2.toNat == p.toArray
    else b.toArray.extract (window b.toArray.size none none).1.toNat ((window b.toArray.size none none).1.toNat + p.toArray.size) == p.toArray) = (b.take p.length == p) := by
  rw [window_none]
  simp only [List.size_toArray, Int.sub_zero, Int.toNat_zero, Nat.zero_add, Bool.false_eq_true, if_false]
  by_cases h : b.length < p.length
  · rw [if_pos (by omega)]
    symm
    rw [beq_eq_false_iff_ne]
    intro e
    have := congrArg List.length e
    rw [List.length_take] at this
    omega
  · rw [if_neg (by omega)]
    have : b.toArray.extract 0 p.length = (b.take p.length).toArray := by simp
    rw [this]
    simp
theorem fits_back (b p : List UInt8) : (if (window b.toArray.size none none).2 - (window b.toArray.size none none).1 < (p.toArray.size : Nat) then false
    else if true = true then b.toArray.extract ((window b.toArray.size none none).2.toNat - p.toArray.size) (window b.toArray.size none none).2.toNat == p.toArray
    else b.toArray.extract (window b.toArray.size none none).1.toNat ((window b.toArray.size none none).1.toNat + p.toArray.size) == p.toArray) = (decide (p.length ≤ b.length) && b.drop (b.length - p.length) == p) := by
  rw [window_none]
  simp only [List.size_toArray, Int.sub_zero, if_true, Int.toNat_natCast]
  by_cases h : b.length < p.length
  · rw [if_pos (by omega), decide_eq_false (by omega)]
    rfl
  · rw [if_neg (by omega), decide_eq_true (by omega)]
    have : b.toArray.extract (b.length - p.length) b.length = (b.drop (b.length - p.length)).toArray := by
      simp only [List.extract_toArray, List.extract_eq_take_drop]
      rw [List.take_of_length_le]
      rw [List.length_drop]; omega
    rw [this]
    simp
theorem starts_bytes {b p : List UInt8} {t u : Tok} {Q : Value → Shared → Prop} (h : Q (.bool (b.take p.length == p)) s) : wpAny (model prog w) A (call (.builtin "bytes.startswith") [.bytes b.toArray t, .bytes p.toArray u]) Q E s := by
  refine wpAny_call_entry FB.slot_bytes_startswith rfl FB.entry_bytes_startswith ?_ (FB.args_bytes_startswith_2 _ _)
  unfold Builtin.«bytes.startswith» tailMatchM
  refine wpAny_bind (m := selfAndSome _ _ _ _ _) (wpAny_of_eq (show _ = pure (Value.bytes b.toArray t, [Value.bytes p.toArray u]) from by kernel_rfl) ?_)
  dsimp only
  refine wpAny_bind (m := bound? _) (wpAny_pure (wpAny_bind (m := bound? _) (wpAny_pure (wpAny_bind (m := payload _) (wpAny_pure ?_)))))
  refine wpAny_bind (wpAny_isInstance (typeIs_bytes _ _ _) F.sub_bytes_tuple ?_)
  rw [if_neg Bool.false_ne_true]
  refine wpAny_bind (wpAny_of_eq (buffer_eq _ p.toArray u _) ?_)
  dsimp only
  rw [fits_front]
  exact wpAny_pure ⟨_, rfl, h⟩
theorem ends_bytes {b p : List UInt8} {t u : Tok} {Q : Value → Shared → Prop} (h : Q (.bool (decide (p.length ≤ b.length) && b.drop (b.length - p.length) == p)) s) : wpAny (model prog w) A (call (.builtin "bytes.endswith") [.bytes b.toArray t, .bytes p.toArray u]) Q E s := by
  refine wpAny_call_entry FB.slot_bytes_endswith rfl FB.entry_bytes_endswith ?_ (FB.args_bytes_endswith_2 _ _)
  unfold Builtin.«bytes.endswith» tailMatchM
  refine wpAny_bind (m := selfAndSome _ _ _ _ _) (wpAny_of_eq (show _ = pure (Value.bytes b.toArray t, [Value.bytes p.toArray u]) from by kernel_rfl) ?_)
  dsimp only
  refine wpAny_bind (m := bound? _) (wpAny_pure (wpAny_bind (m := bound? _) (wpAny_pure (wpAny_bind (m := payload _) (wpAny_pure ?_)))))
  refine wpAny_bind (wpAny_isInstance (typeIs_bytes _ _ _) F.sub_bytes_tuple ?_)
  rw [if_neg Bool.false_ne_true]
  refine wpAny_bind (wpAny_of_eq (buffer_eq _ p.toArray u _) ?_)
  dsimp only
  rw [fits_back]
  exact wpAny_pure ⟨_, rfl, h⟩
end
end Internal
namespace Internal
open Builtin Builtin.Bytes
noncomputable def subst (c : UInt8) (new : List UInt8) (l : List UInt8) : List UInt8 := l.flatMap fun x => if x = c then new else [x]
noncomputable def placesOf (c : UInt8) (l : List UInt8) : List Nat := (List.range l.length).filter fun i => decide (l[i]? = some c)
theorem extract_one (l : List UInt8) (c : UInt8) (i : Nat) : (l.toArray.extract i (i + 1) == #[c]) = decide (l[i]? = some c) := by
  have e : l.toArray.extract i (i + 1) = ((l.drop i).take 1).toArray := by
    simp only [List.extract_toArray, List.extract_eq_take_drop]
    rw [Nat.add_sub_cancel_left]
  rw [e]
  cases h : l[i]? with
  | none =>
    have : l.drop i = [] := List.drop_eq_nil_of_le (List.getElem?_eq_none_iff.mp h)
    rw [this]
    rfl
  | some y =>
    obtain ⟨hi, hy⟩ := List.getElem?_eq_some_iff.mp h
    have : l.drop i = y :: l.drop (i + 1) := by rw [← hy]; exact List.drop_eq_getElem_cons hi
    rw [this]
    show ((#[y] : Array UInt8) == #[c]) = decide (some y = some c)
    by_cases hyc : y = c
    · simp [hyc]
    · simp [hyc]
theorem occ_fold (l : List UInt8) (c : UInt8) : ∀ k, ∃ e, e ≤ k ∧ ((List.range k).map (· + 0)).foldl (fun (acc : List Nat × Nat) i => if i ≥ acc.2 && l.toArray.extract i (i + (#[c] : Array UInt8).size) == #[c] then (i :: acc.1, i + (#[c] : Array UInt8).size) else acc) ([], 0) =
    (((List.range k).filter fun i => decide (l[i]? = some c)).reverse, e) := by
  intro k
  induction k with
  | zero => exact ⟨0, Nat.le_refl _, rfl⟩
  | succ k ih =>
    obtain ⟨e, he, ih⟩ := ih
    rw [List.range_succ, List.map_append, List.foldl_append, ih, List.filter_append]
    show ∃ e', e' ≤ k + 1 ∧ (if decide (k + 0 ≥ e) && l.toArray.extract (k + 0) (k + 0 + 1) == #[c] then ((k + 0) :: _, k + 0 + 1) else _) = _
    simp only [Nat.add_zero]
    rw [extract_one, decide_eq_true (show k ≥ e from he), Bool.true_and]
    by_cases h : l[k]? = some c
    · refine ⟨k + 1, Nat.le_refl _, ?_⟩
      rw [if_pos (by simpa using h)]
      simp [h]
    · refine ⟨e, Nat.le_succ_of_le he, ?_⟩
      rw [if_neg (by simpa using h)]
      simp [h]
theorem occ_eq (l : List UInt8) (c : UInt8) : occurrences l.toArray #[c] 0 l.toArray.size = placesOf c l := by
  unfold occurrences
  obtain ⟨e, _, h⟩ := occ_fold l c l.length
  have hs : l.toArray.size + 1 - (0 + (#[c] : Array UInt8).size) = l.length := by simp
  rw [hs]
  show (List.foldl _ ([], 0) _).1.reverse = _
  rw [h]
  simp [placesOf]
theorem joined_snoc (sep : Array UInt8) (ps : List (Array UInt8)) (q : Array UInt8) : joined sep (ps ++ [q]) = (if ps = [] then q else joined sep ps ++ sep ++ q) := by
  unfold joined
  rw [List.zipIdx_append, List.foldl_append]
  cases ps with
  | nil => simp
  | cons a r => simp
noncomputable def betw (l : List UInt8) (places : List Nat) : Array (Array UInt8) × Nat := places.foldl (fun (parts, last) p => (parts.push (l.toArray.extract last p), p + 1)) ((#[] : Array (Array UInt8)), 0)
theorem between_eq (l : List UInt8) (places : List Nat) : between l.toArray 1 places = (betw l places).1.toList ++ [l.toArray.extract (betw l places).2 l.toArray.size] := by
  unfold between betw
  simp
theorem places_snoc (c x : UInt8) (l : List UInt8) : placesOf c (l ++ [x]) = placesOf c l ++ (if x = c then [l.length] else []) := by
  unfold placesOf
  rw [List.length_append, List.length_singleton, List.range_succ, List.filter_append]
  congr 1
  · apply List.filter_congr
    intro i hi
    rw [List.getElem?_append_left (List.mem_range.mp hi)]
  · by_cases h : x = c
    · simp [h]
    · simp [h]
theorem places_lt (c : UInt8) (l : List UInt8) : ∀ i ∈ placesOf c l, i < l.length := fun i hi => List.mem_range.mp (List.mem_filter.mp hi).1
theorem betw_last (l : List UInt8) : ∀ (places : List Nat) (a : Array (Array UInt8) × Nat), a.2 ≤ l.length → (∀ i ∈ places, i < l.length) → (places.foldl (fun (q : Array (Array UInt8) × Nat) p => (q.1.push (l.toArray.extract q.2 p), p + 1)) a).2 ≤ l.length
  | [], _, h, _ => h
  | p :: r, a, _, hp => betw_last l r _ (hp p (.head _)) fun i hi => hp i (.tail _ hi)
theorem betw_app (l : List UInt8) (x : UInt8) : ∀ (places : List Nat) (a : Array (Array UInt8) × Nat), (∀ i ∈ places, i < l.length) →
    places.foldl (fun (q : Array (Array UInt8) × Nat) p => (q.1.push ((l ++ [x]).toArray.extract q.2 p), p + 1)) a = places.foldl (fun (q : Array (Array UInt8) × Nat) p => (q.1.push (l.toArray.extract q.2 p), p + 1)) a
  | [], _, _ => rfl
  | p :: r, a, hp => by
    have e : (l ++ [x]).toArray.extract a.2 p = l.toArray.extract a.2 p := by
      have hpl := hp p (.head _)
      simp only [List.extract_toArray, List.extract_eq_take_drop]
      congr 1
      by_cases h : a.2 ≤ l.length
      · rw [List.drop_append_of_le_length h, List.take_append_of_le_length (by rw [List.length_drop]; exact Nat.sub_le_sub_right (Nat.le_of_lt ‹_›) _)]
      · rw [List.drop_eq_nil_of_le (by simp; exact Nat.lt_of_not_le h), List.drop_eq_nil_of_le (Nat.le_of_lt (Nat.lt_of_not_le h))]
    rw [List.foldl_cons, List.foldl_cons, e]
    exact betw_app l x r _ fun i hi => hp i (.tail _ hi)
theorem betw_nil_iff (l : List UInt8) : ∀ (places : List Nat) (a : Array (Array UInt8) × Nat), (places.foldl (fun (q : Array (Array UInt8) × Nat) p => (q.1.push (l.toArray.extract q.2 p), p + 1)) a).1 = #[] → places = []
  | [], _, _ => rfl
  | p :: r, a, h => by
    exfalso
    have grow : ∀ (places : List Nat) (a : Array (Array UInt8) × Nat), a.1.size ≤ (places.foldl (fun (q : Array (Array UInt8) × Nat) p => (q.1.push (l.toArray.extract q.2 p), p + 1)) a).1.size := by
      intro places
      induction places with
      | nil => intro a; exact Nat.le_refl _
      | cons p r ih => intro a; rw [List.foldl_cons]; exact Nat.le_trans (by simp) (ih _)
    rw [List.foldl_cons] at h
    have := grow r (a.1.push (l.toArray.extract a.2 p), p + 1)
    rw [h] at this
    simp at this
theorem replaced_eq (c : UInt8) (new : List UInt8) (l : List UInt8) : joined new.toArray (between l.toArray 1 (placesOf c l)) = (subst c new l).toArray := by
  have rev : ∀ r : List UInt8, joined new.toArray (between r.reverse.toArray 1 (placesOf c r.reverse)) = (subst c new r.reverse).toArray := by
    intro r
    induction r with
    | nil => rfl
    | cons x r ih =>
      rw [List.reverse_cons]
      generalize r.reverse = l at ih ⊢
      rw [between_eq] at ih ⊢
      rw [joined_snoc] at ih ⊢
      have hlt := places_lt c l
      have hb : betw (l ++ [x]) (placesOf c l) = betw l (placesOf c l) := betw_app l x _ _ hlt
      have hlast : (betw l (placesOf c l)).2 ≤ l.length := betw_last l _ _ (Nat.zero_le _) hlt
      have hsub : subst c new (l ++ [x]) = subst c new l ++ (if x = c then new else [x]) := by simp [subst]
      rw [hsub, places_snoc]
      by_cases h : x = c
      · rw [if_pos h, if_pos h]
        have hstep : betw (l ++ [x]) (placesOf c l ++ [l.length]) = ((betw l (placesOf c l)).1.push (l.toArray.extract (betw l (placesOf c l)).2 l.length), l.length + 1) := by
          show List.foldl _ _ _ = _
          rw [List.foldl_append]
          show ((betw (l ++ [x]) (placesOf c l)).1.push ((l ++ [x]).toArray.extract (betw (l ++ [x]) (placesOf c l)).2 l.length), l.length + 1) = _
          rw [hb]
          congr 2
          simp only [List.extract_toArray, List.extract_eq_take_drop]
          congr 1
          rw [List.drop_append_of_le_length hlast, List.take_append_of_le_length (by rw [List.length_drop]; exact Nat.le_refl _)]
        rw [hstep]
        have hne : ((betw l (placesOf c l)).1.push (l.toArray.extract (betw l (placesOf c l)).2 l.length)).toList ≠ [] := by simp
        rw [if_neg hne]
        have htl : ((betw l (placesOf c l)).1.push (l.toArray.extract (betw l (placesOf c l)).2 l.length)).toList = (betw l (placesOf c l)).1.toList ++ [l.toArray.extract (betw l (placesOf c l)).2 l.length] := by simp
        rw [htl, joined_snoc]
        have hz : (l ++ [x]).toArray.extract (l.length + 1) (l ++ [x]).toArray.size = #[] := by simp
        rw [hz]
        rw [List.size_toArray] at ih
        rw [ih]
        simp
      · rw [if_neg h, if_neg h, List.append_nil]
        rw [hb]
        have hz : (l ++ [x]).toArray.extract (betw l (placesOf c l)).2 (l ++ [x]).toArray.size = l.toArray.extract (betw l (placesOf c l)).2 l.toArray.size ++ #[x] := by
          simp only [List.extract_toArray, List.extract_eq_take_drop, List.size_toArray, List.length_append, List.length_singleton]
          rw [List.drop_append_of_le_length hlast]
          rw [List.take_of_length_le (by simp; exact Nat.le_of_eq (Nat.sub_add_comm hlast).symm), List.take_of_length_le (by simp)]
          simp
        rw [hz]
        split
        · rename_i hn
          rw [if_pos hn] at ih
          rw [ih]; simp
        · rename_i hn
          rw [if_neg hn] at ih
          rw [← Array.append_assoc, ih]; simp
  have := rev l.reverse
  rwa [List.reverse_reverse] at this
theorem subst_none (c : UInt8) (new : List UInt8) (l : List UInt8) (h : placesOf c l = []) : subst c new l = l := by
  have hc : ∀ x ∈ l, x ≠ c := by
    intro x hx e
    obtain ⟨i, hi, hxi⟩ := List.getElem_of_mem hx
    have : i ∈ placesOf c l := List.mem_filter.mpr ⟨List.mem_range.mpr hi, by simp [hi, hxi, e]⟩
    rw [h] at this
    cases this
  unfold subst
  clear h
  induction l with
  | nil => rfl
  | cons y r ih => rw [List.flatMap_cons, if_neg (hc y (.head _)), ih fun x hx => hc x (.tail _ hx)]; rfl
theorem places_le (c : UInt8) (l : List UInt8) : (placesOf c l).length ≤ l.length := by
  have := List.length_filter_le (fun i => decide (l[i]? = some c)) (List.range l.length)
  rw [List.length_range] at this
  exact this
theorem slot_replace : Slot "bytes" "replace" "bytes.replace" :=
  .of (owner := "bytes") (n := "replace") (by rw [typeLookup_type, builtinLookup_eq_fast]; kernel_rfl) (by decide +kernel) (by decide +kernel) (by decide +kernel)
    (by first | exact .inl (by decide +kernel) | exact .inr (by decide +kernel)) (by rw [isSubtype_type]; kernel_rfl)
theorem entry_replace : entryFor table "bytes.replace" = some Builtin.«bytes.replace» := entryFor_of_tree (by kernel_rfl)
theorem args_replace (a b c : Value) : argsOk "bytes.replace" ⟨[a, b, c], []⟩ := by unfold argsOk; kernel_rfl
theorem type_replace : typeOf (.builtin "bytes.replace") = pure (.type "method_descriptor") := by show builtinType _ = _; rw [builtinType_eq_fast]; kernel_rfl
section
variable {prog : Program} {w : World} {A : Around} {E : Value → Shared → Prop} {s : Shared}
theorem call_replace {c : UInt8} {b new : List UInt8} {t u v : Tok} {Q : Value → Shared → Prop} (hb : b.length ≤ 1000) (hn : new.length ≤ 1000)
    (h : ∀ t' k, Q (.bytes (subst c new b).toArray t') { s with toks := k }) : wpAny (model prog w) A (call (.builtin "bytes.replace") [.bytes b.toArray t, .bytes #[c] u, .bytes new.toArray v]) Q E s := by
  refine wpAny_call_entry slot_replace rfl entry_replace ?_ (args_replace _ _ _)
  unfold Builtin.«bytes.replace» replaceM
  refine wpAny_bind (m := selfAndSome _ _ _ _ _) (wpAny_of_eq (show _ = pure (Value.bytes b.toArray t, [Value.bytes #[c] u, Value.bytes new.toArray v]) from by kernel_rfl) ?_)
  dsimp only
  refine wpAny_bind (wpAny_of_eq (bytesLike_eq _ #[c] u) (wpAny_bind (wpAny_of_eq (bytesLike_eq _ new.toArray v) ?_)))
  refine wpAny_bind (wpAny_pure ?_)
  refine wpAny_bind (wpAny_of_eq (bytesLike_eq _ #[c] u) (wpAny_bind (wpAny_of_eq (bytesLike_eq _ new.toArray v) ?_)))
  refine wpAny_bind (m := payload _) (wpAny_pure ?_)
  have e1 : (#[c] : Array UInt8).isEmpty = false := rfl
  rw [e1]
  simp only [Bool.false_eq_true, if_false, show ((-1 : Int) < 0) from by decide, if_true, Bool.false_and, Bool.or_false]
  rw [occ_eq]
  cases hp : placesOf c b with
  | nil =>
    rw [if_pos (show ([] : List Nat).isEmpty = true from rfl)]
    refine wpAny_bind (wpAny_rule ?_)
    refine wpAny_bind (m := Kind.same _ _) (wpAny_pure ?_)
    refine wpAny_pure ⟨_, rfl, ?_⟩
    have := h t s.toks
    rw [subst_none c new b hp] at this
    exact this
  | cons p r =>
    rw [if_neg (by simp)]
    have hle := places_le c b
    rw [hp] at hle
    have hmul : (p :: r).length * new.length ≤ 1000 * 1000 := Nat.mul_le_mul (Nat.le_trans hle hb) hn
    rw [if_neg (by
      unfold tooLong
      rw [decide_eq_true_eq, sizeLine_eq, List.size_toArray, List.size_toArray]
      exact Nat.not_lt.mpr (Nat.le_trans (Nat.add_le_add hb hmul) (by decide)))]
    have e2 : (#[c] : Array UInt8).size = 1 := rfl
    rw [e2, ← hp, replaced_eq]
    refine wpAny_bind (mkBytes_any ?_ (wpAny_pure ⟨_, rfl, h _ _⟩))
    have hlen : ∀ l : List UInt8, (subst c new l).length ≤ l.length * (new.length + 1) := by
      intro l
      induction l with
      | nil => simp [subst]
      | cons x r ih =>
        have : subst c new (x :: r) = (if x = c then new else [x]) ++ subst c new r := by simp [subst]
        rw [this, List.length_append, List.length_cons, Nat.succ_mul]
        split
        · exact Nat.le_trans (Nat.add_le_add (Nat.le_succ_of_le (Nat.le_refl _)) ih) (Nat.le_of_eq (Nat.add_comm _ _))
        · rw [List.length_singleton]; exact Nat.le_trans (Nat.add_le_add (Nat.le_add_left 1 _) ih) (Nat.le_of_eq (Nat.add_comm _ _))
    have h1 := hlen b
    have h2 : b.length * (new.length + 1) ≤ 1000 * 1001 := Nat.mul_le_mul hb (Nat.succ_le_succ hn)
    rw [List.size_toArray, sizeLine_eq]
    exact Nat.le_trans h1 (Nat.le_trans h2 (by decide))
end
end Internal
namespace Internal
open Builtin Builtin.Bytes
theorem slot_join : Slot "bytes" "join" "bytes.join" :=
  .of (owner := "bytes") (n := "join") (by rw [typeLookup_type, builtinLookup_eq_fast]; kernel_rfl) (by decide +kernel) (by decide +kernel) (by decide +kernel)
    (by first | exact .inl (by decide +kernel) | exact .inr (by decide +kernel)) (by rw [isSubtype_type]; kernel_rfl)
theorem entry_join : entryFor table "bytes.join" = some Builtin.«bytes.join» := entryFor_of_tree (by kernel_rfl)
theorem args_join (a b : Value) : argsOk "bytes.join" ⟨[a, b], []⟩ := by unfold argsOk; kernel_rfl
theorem type_join : typeOf (.builtin "bytes.join") = pure (.type "method_descriptor") := by show builtinType _ = _; rw [builtinType_eq_fast]; kernel_rfl
theorem take_eq (id : String) (b : Array UInt8) (t : Tok) (f : Int) : takeBufferQuiet? id (.bytes b t) f = pure (some (b, none)) := by
  unfold takeBufferQuiet? takeBuffer?
  rw [special_buf, own_slot, buffer_eq]
  kernel_rfl
theorem wpAny_eq {α : Type} {M : Model} {A : Around} {t t' : Sem α} {Q : α → Shared → Prop} {E : Value → Shared → Prop} {s : Shared} (e : t = t') (h : wpAny M A t' Q E s) : wpAny M A t Q E s := e ▸ h
section
variable {prog : Program} {w : World} {A : Around} {E : Value → Shared → Prop} {s : Shared}
theorem joinLetGo_any {M : Model} {keep : List Value} {Q : Unit → Shared → Prop} : ∀ (l : List Value), Q () s → wpAny M A (joinLetGo (l.map fun v => (v, none)) keep) Q E s
  | [], h => wpAny_pure h
  | v :: r, h => by
    rw [List.map_cons]
    unfold joinLetGo
    refine wpAny_bind ?_
    show wpAny M A (letGo [v] _) _ E s
    unfold letGo
    refine wpAny_bind (wpAny_holding (wpAny_point ?_))
    unfold letGo
    refine wpAny_pure ?_
    exact joinLetGo_any r h
theorem match1 {α : Sort _} {x : Value} (f : Value → α) (g : Array Value → α) : Builtin.Bytes.joinM.match_1 (fun _ => α) #[x] f g = f x := rfl
theorem call_join1 {x : List UInt8} {t u : Tok} {l : Addr} {n : Nat} {Q : Value → Shared → Prop} (ho : s.heap.get? l = some (listOf #[.bytes x.toArray u] n)) (hx : x.length ≤ 1000)
    (h : ∀ t' k, Q (.bytes (x).toArray t') { s with toks := k }) : wpAny (model prog w) A (call (.builtin "bytes.join") [.bytes #[] t, .ref l]) Q E s := by
  refine wpAny_call_entry slot_join rfl entry_join ?_ (args_join _ _)
  unfold Builtin.«bytes.join» joinM
  refine wpAny_bind (m := selfAndOne _ _) (wpAny_pure ?_)
  dsimp only
  have hT : s.TypeIs (.ref l) "list" := ⟨_, ho, rfl⟩
  rw [if_pos (by decide)]
  unfold joinItems
  refine wpAny_bind (wpAny_bind (wpAny_typeOf hT ?_))
  rw [if_pos (by decide)]
  refine wpAny_pure ?_
  have sq : ∀ {M : Model} {A : Around} {E : Value → Shared → Prop} {Q : Option (Array Value) → Shared → Prop}, Q (some #[.bytes x.toArray u]) s → wpAny M A (seqItems? (.ref l)) Q E s := fun hq => by
    unfold seqItems?
    exact wpAny_bind (wpAny_load ho (wpAny_pure hq))
  refine wpAny_bind (sq ?_)
  dsimp only
  rw [if_pos (by decide), match1]
  refine wpAny_bind (wpAny_typeOf (T := "bytes") rfl ?_)
  rw [if_pos (by decide)]
  refine wpAny_bind (wpAny_rule ?_)
  exact wpAny_pure ⟨_, rfl, h u s.toks⟩
end
noncomputable abbrev JP := List (List UInt8 × Tok)
noncomputable def itsJ (ps : JP) : Array Value := (ps.map fun p => Value.bytes p.1.toArray p.2).toArray
noncomputable def accJ (ps : JP) (k : Nat) : Array (Array UInt8) := ((ps.take k).map fun p => p.1.toArray).toArray
noncomputable def heldJ (ps : JP) (k : Nat) : List (Value × Option Value) := ((ps.take k).map fun p => Value.bytes p.1.toArray p.2).map fun v => (v, none)
theorem acc_next {ps : JP} {k : Nat} {p : List UInt8 × Tok} (h : ps[k]? = some p) : (accJ ps k).push p.1.toArray = accJ ps (k + 1) := by
  simp [accJ, List.take_add_one, h]
theorem held_next {ps : JP} {k : Nat} {p : List UInt8 × Tok} (h : ps[k]? = some p) : heldJ ps k ++ [(.bytes p.1.toArray p.2, none)] = heldJ ps (k + 1) := by
  simp [heldJ, List.take_add_one, h]
theorem held_off (ps : JP) (k : Nat) : (heldJ ps k).any (fun x => x.1.onHeap) = false := by
  rw [List.any_eq_false]
  intro x hx
  unfold heldJ at hx
  obtain ⟨v, hv, rfl⟩ := List.mem_map.mp hx
  obtain ⟨p, _, rfl⟩ := List.mem_map.mp hv
  exact Bool.false_ne_true
theorem its_at {ps : JP} {k : Nat} {p : List UInt8 × Tok} (h : ps[k]? = some p) : (itsJ ps).getD k .none = .bytes p.1.toArray p.2 := by
  simp [itsJ, h]
theorem joined_go (ps : JP) : ∀ (n : Nat) (a : List UInt8), ((ps.map fun p => p.1.toArray).zipIdx n).foldl (fun out (x : Array UInt8 × Nat) => (if x.2 > 0 then out ++ #[] else out) ++ x.1) a.toArray = (a ++ (ps.map (·.1)).flatten).toArray := by
  induction ps with
  | nil => intro n a; simp
  | cons p r ih =>
    intro n a
    rw [List.map_cons, List.zipIdx_cons, List.foldl_cons]
    have e : (if (p.1.toArray, n).2 > 0 then a.toArray ++ #[] else a.toArray) ++ (p.1.toArray, n).1 = (a ++ p.1).toArray := by split <;> simp
    rw [e, ih]
    simp
theorem joined_acc (ps : JP) : joined #[] (accJ ps ps.length).toList = (ps.map (·.1)).flatten.toArray := by
  unfold accJ
  rw [List.take_length]
  exact joined_go ps 0 []
theorem size_go (l : List (Array UInt8)) : ∀ a : Nat, l.foldl (fun n x => n + x.size) a = a + (l.map (·.size)).sum := by
  induction l with
  | nil => intro a; simp
  | cons x r ih => intro a; rw [List.foldl_cons, ih, List.map_cons, List.sum_cons, Nat.add_assoc]
theorem size_acc (ps : JP) : (accJ ps ps.length).foldl (· + ·.size) ((#[] : Array UInt8).size * ((accJ ps ps.length).size - 1)) = ((ps.map (·.1)).flatten).length := by
  rw [show (#[] : Array UInt8).size = 0 from rfl, Nat.zero_mul, ← Array.foldl_toList]
  unfold accJ
  rw [List.take_length]
  show List.foldl _ 0 (ps.map fun p => p.1.toArray) = _
  rw [size_go, Nat.zero_add, List.length_flatten, List.map_map, List.map_map]
  congr 1
theorem loopJ {M : Model} {A : Around} {E : Value → Shared → Prop} {s : Shared} {ps : JP} {body : Nat → Array (Array UInt8) × List (Value × Option Value) → Sem (ForInStep (Array (Array UInt8) × List (Value × Option Value)))}
    (hb : ∀ k p, ps[k]? = some p → ∀ R : ForInStep (Array (Array UInt8) × List (Value × Option Value)) → Shared → Prop, R (.yield (accJ ps (k + 1), heldJ ps (k + 1))) s → wpAny M A (body k (accJ ps k, heldJ ps k)) R E s) :
    ∀ (m k : Nat), k + m = ps.length → ∀ R : Array (Array UInt8) × List (Value × Option Value) → Shared → Prop, R (accJ ps ps.length, heldJ ps ps.length) s → wpAny M A (forIn (List.range' k m 1) (accJ ps k, heldJ ps k) body) R E s
  | 0, k, e, R, h => by
    rw [← e, Nat.add_zero] at h
    exact wpAny_eq (List.forIn_nil ..) (wpAny_pure h)
  | m + 1, k, e, R, h => by
    have hk : k < ps.length := Nat.lt_of_lt_of_le (Nat.lt_add_of_pos_right (Nat.succ_pos m)) (Nat.le_of_eq e)
    refine wpAny_eq (List.forIn_cons _ _ _ _) (wpAny_bind (hb k _ (List.getElem?_eq_getElem hk) _ ?_))
    exact loopJ hb m (k + 1) (by rw [Nat.succ_add]; exact e) R h
section
variable {prog : Program} {w : World} {A : Around} {E : Value → Shared → Prop} {s : Shared}
theorem call_joinN {ps : JP} {p q : List UInt8 × Tok} {r : JP} {t : Tok} {l : Addr} {n : Nat} {Q : Value → Shared → Prop} (he : ps = p :: q :: r) (ho : s.heap.get? l = some (listOf (itsJ ps) n)) (hz : ((ps.map (·.1)).flatten).length ≤ 16777216)
    (h : ∀ t' k, Q (.bytes (ps.map (·.1)).flatten.toArray t') { s with toks := k }) : wpAny (model prog w) A (call (.builtin "bytes.join") [.bytes #[] t, .ref l]) Q E s := by
  refine wpAny_call_entry slot_join rfl entry_join ?_ (args_join _ _)
  unfold Builtin.«bytes.join» joinM
  refine wpAny_bind (m := selfAndOne _ _) (wpAny_pure ?_)
  dsimp only
  have hT : s.TypeIs (.ref l) "list" := ⟨_, ho, rfl⟩
  refine wpAny_eq (if_pos (by decide)) ?_
  unfold joinItems
  refine wpAny_bind (wpAny_bind (wpAny_typeOf hT ?_))
  refine wpAny_eq (if_pos (by decide)) ?_
  refine wpAny_pure ?_
  have sq : ∀ {M : Model} {A : Around} {E : Value → Shared → Prop} {Q : Option (Array Value) → Shared → Prop}, Q (some (itsJ ps)) s → wpAny M A (seqItems? (.ref l)) Q E s := fun hq => by
    unfold seqItems?
    exact wpAny_bind (wpAny_load ho (wpAny_pure hq))
  refine wpAny_bind (sq ?_)
  dsimp only
  refine wpAny_eq (if_pos (by decide)) ?_
  have hm : ∀ {α : Type} (f : Value → α) (g : Array Value → α), Builtin.Bytes.joinM.match_1 (fun _ => α) (itsJ ps) f g = g (itsJ ps) := fun f g => by subst he; rfl
  rw [hm]
  simp only [Std.Legacy.Range.forIn_eq_forIn_range', Std.Legacy.Range.size]
  have hr : ((itsJ ps).size - 0 + 1 - 1) / 1 = ps.length := by simp [itsJ]
  rw [hr]
  refine wpAny_bind (loopJ (ps := ps) (fun k p hp R hR => ?_) ps.length 0 (Nat.zero_add _) _ ?_)
  · refine wpAny_bind (sq ?_)
    dsimp only
    rw [held_off]
    refine wpAny_eq (if_neg (by decide)) ?_
    refine wpAny_bind (wpAny_holding ?_)
    rw [its_at hp]
    refine wpAny_eq (take_eq _ _ _ _) ?_
    refine wpAny_pure ?_
    dsimp only
    refine wpAny_bind (sq ?_)
    dsimp only
    refine wpAny_eq (if_neg (by simp)) ?_
    refine wpAny_pure ?_
    rw [acc_next hp, held_next hp]
    exact hR
  dsimp only
  refine wpAny_bind (m := payload _) (wpAny_pure ?_)
  rw [size_acc, if_neg (by unfold tooLong; rw [decide_eq_true_eq, sizeLine_eq]; exact Nat.not_lt.mpr hz)]
  rw [joined_acc]
  refine wpAny_bind (mkBytes_any (by rw [sizeLine_eq]; exact hz) ?_)
  refine wpAny_bind (wpAny_holding (wpAny_point ?_))
  refine wpAny_bind (joinLetGo_any _ ?_)
  exact wpAny_pure ⟨_, rfl, h _ _⟩
end
end Internal
namespace Internal
open LCg LCt
section
variable {prog : Program} {w : World} {A : Around} {E : Value → Shared → Prop} {s : Shared} {h₀ : Heap} {L : Addr} {m : Str → Option Value} {env : Env}
noncomputable def Src {α : Type} (prog : Program) (w : World) (A : Around) (h₀ : Heap) (L : Addr) (news : List (Addr × Obj)) (xv : Value) (as : List α) (K : α → Value → Prop) (s₁ : Shared) : Prop :=
  ∀ (Q : Value → Shared → Prop) (E : Value → Shared → Prop), (∀ (fp : List Addr) (St : Nat → Heap → Prop) (h' : Heap),
    Walks prog w A s₁.heap.objs.size fp [s₁.heap.objs.size] as.length (fun i v => ∃ a, as[i]? = some a ∧ K a v) St →
    (∀ i h, St i h → ∃ o, h.get? s₁.heap.objs.size = some o) →
    (∀ i h h' o, St i h → h.get? s₁.heap.objs.size = some o → h'.get? s₁.heap.objs.size = some o → (∀ b o, h₀.get? b = some o → h'.get? b = some o) → News h₀ L h' news → St i h') →
    St 0 h' → (∀ b ∈ fp, b < h'.objs.size) → (∀ b o, s₁.heap.get? b = some o → h'.get? b = some o) → Q (.ref s₁.heap.objs.size) { s₁ with heap := h' }) → wpAny (model prog w) A (pyIter xv) Q E s₁
theorem walks_as {I : Addr} {fp wr : List Addr} {n : Nat} {P P' : Nat → Value → Prop} {St : Nat → Heap → Prop} (W : Walks prog w A I fp wr n P St) (h : ∀ i v, i < n → P i v → P' i v) : Walks prog w A I fp wr n P' St where
  sub := W.sub
  frame := W.frame
  item := fun i s Q E hi st hQ => W.item i s Q E hi st fun v h' tk hP => hQ v h' tk (h i v hi hP)
  done := W.done
  self := W.self
noncomputable abbrev ByteIs (c : UInt8) (v : Value) : Prop := ∃ u, v = .int (c.toNat : Int) u
theorem Src.bytes {news : List (Addr × Obj)} {l : List UInt8} {t : Tok} {s₁ : Shared} (hh : A.handled = none) : Src prog w A h₀ L news (.bytes l.toArray t) l ByteIs s₁ := by
  intro Q E h
  refine KBw.pyIter_bytes ?_
  refine h [s₁.heap.objs.size] (fun i h => KBw.IsBytesIter h s₁.heap.objs.size l.toArray t i) _ (walks_as (P := fun i v => ∃ c u, l.toArray[i]? = some c ∧ v = .int (c.toNat : Int) u) (P' := fun i v => ∃ a, l[i]? = some a ∧ ByteIs a v) (n := l.length) (KBw.walks (prog := prog) (w := w) hh s₁.heap.objs.size l.toArray t) ?_) ?_ ?_ ?_ ?_ ?_
  · intro i v hi rr3
    refine byG ?_
    intro GG hGG
    obtain ⟨c, u, hc, rfl⟩ := rr3
    refine hGG ?_
    clear hGG GG
    exact ⟨c, by simpa using hc, u, rfl⟩
  · rintro i h ⟨o, ho, r⟩
    exact ⟨o, ho⟩
  · rintro i h h' o ⟨o', ho', r⟩ e e' _ _
    rw [e] at ho'; cases ho'
    exact ⟨o, e', r⟩
  · exact ⟨_, Heap.get?_push_size _ rfl, rfl, rfl⟩
  · intro b hb
    rw [List.mem_singleton.mp hb, Heap.size_push]
    exact Nat.lt_succ_self _
  · exact fun b o e => Heap.get?_push_of_some _ e
theorem Src.list {α : Type} {news : List (Addr × Obj)} {as : List α} {K : α → Value → Prop} {ax : Addr} {its : Array Value} {k : Nat} {s₁ : Shared} (hh : A.handled = none) (N : News h₀ L s₁.heap news)
    (hm : (ax, ({ cls := .type "list", data := .seq its k } : Obj)) ∈ news) (hn : its.size = as.length) (hK : ∀ (i : Nat) (v : Value), its[i]? = some v → ∃ a, as[i]? = some a ∧ K a v) : Src prog w A h₀ L news (.ref ax) as K s₁ := by
  intro Q E h
  have hl : s₁.heap.IsList ax its := ⟨_, (N _ hm).1, rfl, _, rfl⟩
  have hlt : ax < s₁.heap.objs.size := Heap.lt_size (N _ hm).1
  refine wpAny_pyIter_list hl ?_
  refine h [s₁.heap.objs.size, ax] (fun i h => h.IsListIter s₁.heap.objs.size ax i ∧ h.IsList ax its) _ (walks_as (P' := fun i v => ∃ a, as[i]? = some a ∧ K a v) (n := as.length) (by rw [← hn]; exact Walks.list hh s₁.heap.objs.size ax (Nat.ne_of_lt hlt) its) fun i v _ hv => hK i v hv) ?_ ?_ ?_ ?_ ?_
  · intro i h rr2
    refine byG ?_
    intro GG hGG
    obtain ⟨⟨o, e, _⟩, _⟩ := rr2
    refine hGG ?_
    clear hGG GG
    exact ⟨o, e⟩
  · intro i h h' o rr4 e e' _ N'
    refine byG ?_
    intro GG hGG
    obtain ⟨⟨o', q, r⟩, _⟩ := rr4
    refine hGG ?_
    clear hGG GG
    rw [e] at q; cases q
    exact ⟨⟨o, e', r⟩, _, (N' _ hm).1, rfl, _, rfl⟩
  · exact ⟨⟨_, Heap.get?_push_size _ rfl, rfl, rfl⟩, hl.push _⟩
  · intro b hb
    rw [Heap.size_push]
    rcases List.mem_cons.mp hb with rfl | hb
    · exact Nat.lt_succ_self _
    · rw [List.mem_singleton.mp hb]; exact Nat.lt_succ_of_lt hlt
  · exact fun b o e => Heap.get?_push_of_some _ e
theorem Src.tuple {α : Type} {news : List (Addr × Obj)} {as : List α} {K : α → Value → Prop} {ax : Addr} {its : Array Value} {k : Nat} {s₁ : Shared} (hh : A.handled = none) (N : News h₀ L s₁.heap news)
    (hm : (ax, ({ cls := .type "tuple", data := .seq its k } : Obj)) ∈ news) (hn : its.size = as.length) (hK : ∀ (i : Nat) (v : Value), its[i]? = some v → ∃ a, as[i]? = some a ∧ K a v) : Src prog w A h₀ L news (.ref ax) as K s₁ := by
  intro Q E h
  have hl : s₁.heap.IsTuple ax its := ⟨_, (N _ hm).1, rfl, _, rfl⟩
  have hlt : ax < s₁.heap.objs.size := Heap.lt_size (N _ hm).1
  refine wpAny_pyIter_tuple hl ?_
  refine h [s₁.heap.objs.size, ax] (fun i h => h.IsTupleIter s₁.heap.objs.size ax i ∧ h.IsTuple ax its) _ (walks_as (P' := fun i v => ∃ a, as[i]? = some a ∧ K a v) (n := as.length) (by rw [← hn]; exact Walks.tuple hh s₁.heap.objs.size ax (Nat.ne_of_lt hlt) its) fun i v _ hv => hK i v hv) ?_ ?_ ?_ ?_ ?_
  · intro i h rr2
    refine byG ?_
    intro GG hGG
    obtain ⟨⟨o, e, _⟩, _⟩ := rr2
    refine hGG ?_
    clear hGG GG
    exact ⟨o, e⟩
  · intro i h h' o rr4 e e' _ N'
    refine byG ?_
    intro GG hGG
    obtain ⟨⟨o', q, r⟩, _⟩ := rr4
    refine hGG ?_
    clear hGG GG
    rw [e] at q; cases q
    exact ⟨⟨o, e', r⟩, _, (N' _ hm).1, rfl, _, rfl⟩
  · exact ⟨⟨_, Heap.get?_push_size _ rfl, rfl, rfl⟩, _, Heap.get?_push_of_some _ (N _ hm).1, rfl, _, rfl⟩
  · intro b hb
    rw [Heap.size_push]
    rcases List.mem_cons.mp hb with rfl | hb
    · exact Nat.lt_succ_self _
    · rw [List.mem_singleton.mp hb]; exact Nat.lt_succ_of_lt hlt
  · exact fun b o e => Heap.get?_push_of_some _ e

noncomputable def Kept (h₀ : Heap) (L : Addr) (m : Str → Option Value) (all : List (Addr × Obj)) (R : Value → Prop) (s₁ : Shared) (y : Value) (s' : Shared) : Prop :=
  ∃ h' tk', s' = { s₁ with heap := h', toks := tk' } ∧ Fr h₀ L h' m ∧ News h₀ L h' all ∧ R y
theorem Kept.mk {h₀ : Heap} {L : Addr} {m : Str → Option Value} {all : List (Addr × Obj)} {R : Value → Prop} {s₁ : Shared} {y : Value} {h' : Heap} {tk' : Nat} (F : Fr h₀ L h' m) (N : News h₀ L h' all) (g : R y) : Kept h₀ L m all R s₁ y { s₁ with heap := h', toks := tk' } := ⟨h', tk', rfl, F, N, g⟩
noncomputable def Step0 {α : Type} (prog : Program) (w : World) (A : Around) (h₀ : Heap) (L : Addr) (m : Str → Option Value) (env : Env) (elt : Expr) (x : Str) (scope : Scope) (cl : List (Str × Addr)) (s₁ : Shared) (news : List (Addr × Obj)) (as : List α) (K : α → Value → Prop) (G : α → Value → Prop) : Prop :=
  ∀ a v I oI C oC D ys m₂ h tk (E' : Value → Shared → Prop), a ∈ as → K a v → NsObj oC m₂ → m₂ x = some v → Fr h₀ L h m → News h₀ L h ((I, oI) :: (C, oC) :: (D, lst ys) :: news) → Off3 I C D news → ((@Ne Nat I C) ∧ (@Ne Nat I D) ∧ (@Ne Nat C D)) →
    wpAny (model prog w) A (eval elt (compEnvC scope cl C env)) (Kept h₀ L m ((I, oI) :: (C, oC) :: (D, lst ys) :: news) (G a) { s₁ with heap := h, toks := tk }) E' { s₁ with heap := h, toks := tk }
noncomputable def Step1 {α : Type} (prog : Program) (w : World) (A : Around) (h₀ : Heap) (L : Addr) (m : Str → Option Value) (env : Env) (ct elt : Expr) (x : Str) (scope : Scope) (cl : List (Str × Addr)) (s₁ : Shared) (news : List (Addr × Obj)) (as : List α) (K : α → Value → Prop) (G : α → Option Value → Prop) : Prop :=
  ∀ a v I oI C oC D ys m₂ h tk (E' : Value → Shared → Prop), a ∈ as → K a v → NsObj oC m₂ → m₂ x = some v → Fr h₀ L h m → News h₀ L h ((I, oI) :: (C, oC) :: (D, lst ys) :: news) → Off3 I C D news → ((@Ne Nat I C) ∧ (@Ne Nat I D) ∧ (@Ne Nat C D)) →
    wpAny (model prog w) A (isTrue ct (compEnvC scope cl C env) (eval ct (compEnvC scope cl C env))) (fun ok s' => if ok = true then
      wpAny (model prog w) A (eval elt (compEnvC scope cl C env)) (Kept h₀ L m ((I, oI) :: (C, oC) :: (D, lst ys) :: news) (fun y => G a (some y)) { s₁ with heap := h, toks := tk }) E' s'
      else Kept h₀ L m ((I, oI) :: (C, oC) :: (D, lst ys) :: news) (fun _ => G a none) { s₁ with heap := h, toks := tk } Value.none s') E' { s₁ with heap := h, toks := tk }
theorem Paired.take {α β : Type} {G : α → β → Prop} {as : List α} {ys : List β} {i : Nat} {a : α} {y : β} (p : Paired G (as.take i) ys) (ha : as[i]? = some a) (g : G a y) : Paired G (as.take (i + 1)) (ys ++ [y]) := by
  rw [List.take_add_one, ha]; exact p.snoc g
theorem rest0 {α : Type} {elt : Expr} {x : Str} {scope : Scope} {cl : List (Str × Addr)} {s₂ : Shared} {news : List (Addr × Obj)} {as : List α} {K G : α → Value → Prop} {Fin : List Value → List (Addr × Obj) → Prop}
    (st : Step0 prog w A h₀ L m env elt x scope cl s₂ news as K G) (fin : ∀ ys, Paired G as ys → Fin ys news) :
    ∀ (k i : Nat) (ys : List Value), i + k = as.length → Paired G (as.take i) ys → CompRest prog w A h₀ L m env elt x scope cl s₂ (fun nw => nw = news) (fun i v => ∃ a, as[i]? = some a ∧ K a v) Fin k i ys news := by
  intro k
  induction k with
  | zero => exact fun i ys hi p => CompRest.zero (fin ys (by rw [List.take_of_length_le (show as.length ≤ i from Nat.le_of_eq hi.symm)] at p; exact p))
  | succ k ih =>
    intro i ys hi p
    refine CompRest.succ ?_
    rintro v I oI C oC D m₂ h tk E' ⟨a, ha, hK⟩ hoC hx F N off ne
    refine wpAny_mono (st a v I oI C oC D ys m₂ h tk E' (List.mem_of_getElem? ha) hK hoC hx F N off ne) (fun y s' hs' => ?_) fun _ _ e => e
    refine byG ?_
    intro GG hGG
    obtain ⟨h', tk', rfl, F', N', g⟩ := hs'
    refine hGG ?_
    clear hGG GG
    exact ⟨h', tk', news, rfl, F', N', off, rfl, ih (i + 1) _ ((Nat.add_right_comm i 1 k).trans hi) (Paired.take p ha g)⟩
theorem rest1 {α : Type} {ct elt : Expr} {x : Str} {scope : Scope} {cl : List (Str × Addr)} {s₂ : Shared} {news : List (Addr × Obj)} {as : List α} {K : α → Value → Prop} {G : α → Option Value → Prop} {Fin : List Value → List (Addr × Obj) → Prop}
    (st : Step1 prog w A h₀ L m env ct elt x scope cl s₂ news as K G) (fin : ∀ zs, Paired G as zs → Fin (zs.filterMap id) news) :
    ∀ (k i : Nat) (zs : List (Option Value)), i + k = as.length → Paired G (as.take i) zs → CompRestT prog w A h₀ L m env ct elt x scope cl s₂ (fun nw => nw = news) (fun i v => ∃ a, as[i]? = some a ∧ K a v) Fin k i (zs.filterMap id) news := by
  intro k
  induction k with
  | zero => exact fun i ys hi p => CompRestT.zero (fin ys (by rw [List.take_of_length_le (show as.length ≤ i from Nat.le_of_eq hi.symm)] at p; exact p))
  | succ k ih =>
    intro i zs hi p
    refine CompRestT.succ ?_
    rintro v I oI C oC D m₂ h tk E' ⟨a, ha, hK⟩ hoC hx F N off ne
    refine wpAny_mono (st a v I oI C oC D _ m₂ h tk E' (List.mem_of_getElem? ha) hK hoC hx F N off ne) (fun ok s' hs' => ?_) fun _ _ e => e
    split at hs'
    · rename_i hok
      rw [if_pos hok]
      refine wpAny_mono hs' (fun y s'' hs'' => ?_) fun _ _ e => e
      refine byG ?_
      intro GG hGG
      obtain ⟨h', tk', rfl, F', N', g⟩ := hs''
      refine hGG ?_
      clear hGG GG
      refine ⟨h', tk', news, rfl, F', N', off, rfl, ?_⟩
      have := ih (i + 1) _ ((Nat.add_right_comm i 1 k).trans hi) (Paired.take p ha g)
      rwa [List.filterMap_append] at this
    · rename_i hok
      rw [if_neg hok]
      refine byG ?_
      intro GG hGG
      obtain ⟨h', tk', rfl, F', N', g⟩ := hs'
      refine hGG ?_
      clear hGG GG
      refine ⟨h', tk', news, rfl, F', N', off, rfl, ?_⟩
      have := ih (i + 1) _ ((Nat.add_right_comm i 1 k).trans hi) (Paired.take p ha g)
      rw [List.filterMap_append] at this
      simpa using this
noncomputable def From0 (prog : Program) (w : World) (A : Around) (h₀ : Heap) (L : Addr) (m : Str → Option Value) (env : Env) (elt : Expr) (x : Str) (scope : Scope) (cl : List (Str × Addr)) (Q : Value → Shared → Prop) (xv : Value) (s₁ : Shared) : Prop :=
  ∃ (α : Type) (news : List (Addr × Obj)) (as : List α) (K G : α → Value → Prop), Fr h₀ L s₁.heap m ∧ News h₀ L s₁.heap news ∧ as.length ≤ sizeLine ∧ Src prog w A h₀ L news xv as K s₁ ∧ (∀ g, Step0 prog w A h₀ L m env elt x scope cl { s₁ with heap := g } news as K G) ∧
    ∀ D ys h tk, Fr h₀ L h m → News h₀ L h ((D, lst ys) :: news) → Off1 D news → Paired G as ys → Q (.ref D) { s₁ with heap := h, toks := tk }
noncomputable def From1 (prog : Program) (w : World) (A : Around) (h₀ : Heap) (L : Addr) (m : Str → Option Value) (env : Env) (ct elt : Expr) (x : Str) (scope : Scope) (cl : List (Str × Addr)) (Q : Value → Shared → Prop) (xv : Value) (s₁ : Shared) : Prop :=
  ∃ (α : Type) (news : List (Addr × Obj)) (as : List α) (K : α → Value → Prop) (G : α → Option Value → Prop), Fr h₀ L s₁.heap m ∧ News h₀ L s₁.heap news ∧ as.length ≤ sizeLine ∧ Src prog w A h₀ L news xv as K s₁ ∧ (∀ g, Step1 prog w A h₀ L m env ct elt x scope cl { s₁ with heap := g } news as K G) ∧
    ∀ D zs h tk, Fr h₀ L h m → News h₀ L h ((D, lst (zs.filterMap id)) :: news) → Off1 D news → Paired G as zs → Q (.ref D) { s₁ with heap := h, toks := tk }
theorem comp0 {elt iter : Expr} {x : Str} {px : Pos} {scope : Scope} {cl : List (Str × Addr)} {pos : Pos} {Q : Value → Shared → Prop} (_F₀ : Fr h₀ L s.heap m)
    (hclos : closureFor scope env = pure cl) (hcell : ∀ y ∈ scope.names, y.2 ≠ .cell) (hkind : scope.kind = .function)
    (hnames : ∀ y ∈ scope.names, y.2 = .local → scope.names.lookup y.1 = some .local) (hx : scope.names.lookup x = some .local)
    (h : wpAny (model prog w) A (eval iter env) (From0 prog w A h₀ L m env elt x scope cl Q) E s)
    (hs : ∀ x, foldedSetIterable iter env x = pure x := by intro _; rfl) :
    wpAny (model prog w) A (eval (.ListComp elt [⟨.Name x px, iter, [], 0⟩] scope pos) env) Q E s := by
  rw [eval_ListComp]
  refine wpAny_comprehension_free (use := none) rfl hs hclos hkind hnames (wpAny_mono h (fun xv s₁ h₁ => ?_) fun _ _ e => e)
  refine byG ?_
  intro GG hGG
  obtain ⟨α, news, as, K, G, F, N, hsz, hsrc, st, fin⟩ := h₁
  refine hGG ?_
  clear hGG GG
  refine hsrc _ _ fun fp St h' W hIo hSt hst hfp up => ?_
  refine block_U (Fin := fun ys nw => nw = news ∧ Paired G as ys) (S := fun nw => nw = news) W hsz hIo (fun i h h' o nw a b c d e f => hSt i h h' o a b c d (f ▸ e)) hcell hkind hx hst hfp (F.keeps up) (N.grown up) (Nat.ne_of_lt F.ns.lt) (next_is_new F)
    (fun p hp => Nat.ne_of_lt (Heap.lt_size (N p hp).1)) rfl (rest0 (st h') (fun ys p => ⟨rfl, p⟩) _ 0 [] (Nat.zero_add _) .nil) ?_
  rintro D C h tk m' ys news' F' N' o1 hn hC₀ hD₀ hCL hDL hCD offC ⟨rfl, p⟩
  refine ⟨m', hn, fun h'' hs'' => fin D ys h'' tk (F'.change hs'' hCL hC₀) (fun q hq => ?_) o1 p⟩
  refine ⟨hs''.extBut _ _ ?_ (N' q hq).1, (N' q hq).2⟩
  rcases List.mem_cons.mp hq with rfl | hq
  · exact Ne.symm hCD
  · exact offC q hq
theorem comp1 {ct elt iter : Expr} {x : Str} {px : Pos} {scope : Scope} {cl : List (Str × Addr)} {pos : Pos} {Q : Value → Shared → Prop} (_F₀ : Fr h₀ L s.heap m)
    (hclos : closureFor scope env = pure cl) (hcell : ∀ y ∈ scope.names, y.2 ≠ .cell) (hkind : scope.kind = .function)
    (hnames : ∀ y ∈ scope.names, y.2 = .local → scope.names.lookup y.1 = some .local) (hx : scope.names.lookup x = some .local)
    (h : wpAny (model prog w) A (eval iter env) (From1 prog w A h₀ L m env ct elt x scope cl Q) E s)
    (hs : ∀ x, foldedSetIterable iter env x = pure x := by intro _; rfl) :
    wpAny (model prog w) A (eval (.ListComp elt [⟨.Name x px, iter, [ct], 0⟩] scope pos) env) Q E s := by
  rw [eval_ListComp]
  refine wpAny_comprehension_free (use := none) rfl hs hclos hkind hnames (wpAny_mono h (fun xv s₁ h₁ => ?_) fun _ _ e => e)
  refine byG ?_
  intro GG hGG
  obtain ⟨α, news, as, K, G, F, N, hsz, hsrc, st, fin⟩ := h₁
  refine hGG ?_
  clear hGG GG
  refine hsrc _ _ fun fp St h' W hIo hSt hst hfp up => ?_
  refine block_T (Fin := fun ys nw => nw = news ∧ ∃ zs, ys = zs.filterMap id ∧ Paired G as zs) (S := fun nw => nw = news) W hsz hIo (fun i h h' o nw a b c d e f => hSt i h h' o a b c d (f ▸ e)) hcell hkind hx hst hfp (F.keeps up) (N.grown up) (Nat.ne_of_lt F.ns.lt) (next_is_new F)
    (fun p hp => Nat.ne_of_lt (Heap.lt_size (N p hp).1)) rfl (rest1 (st h') (fun zs p => ⟨rfl, zs, rfl, p⟩) _ 0 [] (Nat.zero_add _) .nil) ?_
  intro D C h tk m' ys news' F' N' o1 hn hC₀ hD₀ hCL hDL hCD offC rr17
  refine byG ?_
  intro GG hGG
  obtain ⟨rfl, zs, rfl, p⟩ := rr17
  refine hGG ?_
  clear hGG GG
  refine ⟨m', hn, fun h'' hs'' => fin D zs h'' tk (F'.change hs'' hCL hC₀) (fun q hq => ?_) o1 p⟩
  refine ⟨hs''.extBut _ _ ?_ (N' q hq).1, (N' q hq).2⟩
  rcases List.mem_cons.mp hq with rfl | hq
  · exact Ne.symm hCD
  · exact offC q hq
end
end Internal
namespace Internal
theorem EqGives_bytes (x y : Array UInt8) (t u : Tok) : MeetsSeq.EqGives (.bytes x t) (.bytes y u) (x.toList == y.toList) := by
  intro prog w A E s Q h
  unfold eqBool
  refine wpAny_holding ?_
  refine wpAny_ite_split (fun hab => ?_) (fun hab => ?_)
  · have e : x = y := by have := eq_of_beq hab; injection this
    subst e
    exact wpAny_bind (wpAny_rule (wpAny_pure (by simpa using h)))
  · exact wpAny_bind (richCompare_gives (typeIs_bytes s x t) (typeIs_bytes s y u) FB.slot_bytes_eq FB.entry_bytes_eq (FB.args_bytes_eq_2 _ _) (gives_bytes_eq x y t u) (by simp [Made.takes]) (wpAny_truthy_bool h))
noncomputable def isBs (l : List UInt8) : Value → Bool
  | .bytes b _ => b.toList == l
  | _ => false
theorem isBs_bytes (l x : List UInt8) (t : Tok) : isBs l (.bytes x.toArray t) = (x == l) := rfl
theorem bs_eq {l : List UInt8} {u : Tok} {ls : List (List UInt8)} {vs : List Value} (p : Paired IsBytes ls vs) : ∀ y, y ∈ vs → MeetsSeq.EqGives y (.bytes l.toArray u) (isBs l y) := by
  induction p with
  | nil => exact fun _ h => nomatch h
  | cons h r ih =>
    intro y hy
    rcases List.mem_cons.mp hy with e | hy
    · obtain ⟨t, e2⟩ := h
      subst e
      subst e2
      exact EqGives_bytes _ _ _ _
    · exact ih y hy
theorem bs_any {l : List UInt8} {ls : List (List UInt8)} {vs : List Value} (p : Paired IsBytes ls vs) : vs.any (isBs l) = ls.contains l := by
  induction p with
  | nil => rfl
  | cons h r ih =>
    obtain ⟨t, e⟩ := h
    subst e
    rw [List.any_cons, ih, List.contains_cons, isBs_bytes, Bool.beq_comm]
theorem bs_get {ls : List (List UInt8)} {vs : List Value} (p : Paired IsBytes ls vs) : ∀ {i : Nat} {l : List UInt8}, ls[i]? = some l → ∃ t, vs[i]? = some (.bytes l.toArray t) := by
  induction p with
  | nil => intro i l h; simp at h
  | cons e r ih =>
    intro i l h
    cases i with
    | zero => obtain ⟨t, rfl⟩ := e; exact ⟨t, by simp at h ⊢; exact h⟩
    | succ i => exact ih (i := i) (by simpa using h)
section
variable {prog : Program} {w : World} {A : Around} {E : Value → Shared → Prop} {s : Shared} {h₀ : Heap} {L D : Addr} {m : Str → Option Value} {news : List (Addr × Obj)} {its : Array Value} {n : Nat} {ls : List (List UInt8)} {l : List UInt8} {u : Tok}
theorem bl_in {Q : Value → Shared → Prop} (N : News h₀ L s.heap news) (hm : (D, listOf its n) ∈ news) (p : Paired IsBytes ls its.toList) (h : Q (.bool (ls.contains l)) s) : wpAny (model prog w) A (compareOp .In (.bytes l.toArray u) (.ref D)) Q E s :=
  SeqInW.in_listW (isBs l) (fun y hy => bs_eq p y (by simpa using hy)) (PySem.IsL.isList (n := n) (N _ hm).1) (by rw [← Array.any_toList, bs_any p]; exact h)
theorem bl_notin {Q : Value → Shared → Prop} (N : News h₀ L s.heap news) (hm : (D, listOf its n) ∈ news) (p : Paired IsBytes ls its.toList) (h : Q (.bool (!ls.contains l)) s) : wpAny (model prog w) A (compareOp .NotIn (.bytes l.toArray u) (.ref D)) Q E s :=
  SeqInW.notIn_listW (isBs l) (fun y hy => bs_eq p y (by simpa using hy)) (PySem.IsL.isList (n := n) (N _ hm).1) (by rw [← Array.any_toList, bs_any p]; exact h)
theorem bl_index {Q : Value → Shared → Prop} (N : News h₀ L s.heap news) (hm : (D, listOf its n) ∈ news) (p : Paired IsBytes ls its.toList) (hin : l ∈ ls) (hz : ls.length ≤ 1000) (h : ∀ t k, Q (.int (ls.idxOf l : Nat) t) { s with toks := k }) :
    wpAny (model prog w) A (call (.builtin "list.index") [.ref D, .bytes l.toArray u]) Q E s := by
  have hlen : its.size = ls.length := by rw [← Array.length_toList, p.length]
  have hj : ls.idxOf l < ls.length := List.idxOf_lt_length_of_mem hin
  have at_ : ∀ i (hi : i < its.size), ∃ hi' : i < ls.length, isBs l its[i] = (ls[i] == l) := fun i hi => by
    have hi' : i < ls.length := by omega
    obtain ⟨t, e⟩ := bs_get p (List.getElem?_eq_getElem hi')
    rw [Array.getElem?_toList, Array.getElem?_eq_getElem hi] at e
    cases e' : its[i]
    all_goals rw [e'] at e
    all_goals first | (injection e with e; injection e with e1 e2; exact ⟨hi', by rw [e1]; rfl⟩) | (injection e with e; cases e)
  refine call_meets PySem.F.slot_list_index ⟨_, (N _ hm).1, rfl⟩ PySem.F.entry_list_index (PySem.F.args_list_index_2 _ _)
    (MeetsSeq.list_index D its n (.bytes l.toArray u) (isBs l) (fun y hy => bs_eq p y (by simpa using hy)) (ls.idxOf l) (by omega) (by omega) ?_ ?_) ⟨(N _ hm).1, h _ _⟩
  · obtain ⟨a, b⟩ := at_ (ls.idxOf l) (by omega)
    rw [b]
    simp
  · intro i hi hlt
    obtain ⟨a, b⟩ := at_ i hi
    rw [b]
    have := List.not_of_lt_findIdx (p := (· == l)) (xs := ls) hlt
    simpa using this
theorem bl_item {value slice : Expr} {k : Int} {Q : Value → Shared → Prop} (N : News h₀ L s.heap news) (hm : (D, listOf its n) ∈ news) (p : Paired IsBytes ls its.toList) (h0 : 0 ≤ k) (hfit : k < 2 ^ 63) (hx : ls[k.toNat]? = some l) (h : ∀ t, Q (.bytes l.toArray t) s)
    (hs : subscripted slice false (.ref D) (.int k u) = operate [.ref D, .int k u] (getItem (.ref D) (.int k u)) := by with_unfolding_all rfl) (hg : ∀ r, letTemporaryGo value (.ref D) r = pure () := by intro _; with_unfolding_all rfl) :
    wpAny (model prog w) A (subscriptTail value slice (.ref D) (.int k u)) Q E s := by
  obtain ⟨t, e⟩ := bs_get p hx
  exact item_listL (l := its.toList) ⟨_, (N _ hm).1, rfl, n, by rw [Array.toArray_toList]⟩ h0 hfit e (h t) hs hg
theorem bl_itemD {value slice : Expr} {k : Int} {Q : Value → Shared → Prop} (N : News h₀ L s.heap news) (hm : (D, listOf its n) ∈ news) (p : Paired IsBytes ls its.toList) (h0 : 0 ≤ k) (hz : ls.length ≤ 1000) (hlt : k < ls.length) (h : ∀ t, Q (.bytes (ls.getD k.toNat []).toArray t) s)
    (hs : subscripted slice false (.ref D) (.int k u) = operate [.ref D, .int k u] (getItem (.ref D) (.int k u)) := by with_unfolding_all rfl) (hg : ∀ r, letTemporaryGo value (.ref D) r = pure () := by intro _; with_unfolding_all rfl) :
    wpAny (model prog w) A (subscriptTail value slice (.ref D) (.int k u)) Q E s :=
  bl_item N hm p h0 (by omega) (List.getElem?_eq_getElem (by omega)) (fun t => by have := h t; rwa [List.getD_eq_getElem?_getD, List.getElem?_eq_getElem (by omega), Option.getD_some] at this) hs hg
end
end Internal
namespace Internal
open Builtin.Bytes
noncomputable def SplitsTo (b : List UInt8) (parts : List (List UInt8)) : Prop :=
  ((occurrences b.toArray [32].toArray 0 b.toArray.size).take (b.toArray.size + 1)).isEmpty = false ∧
  between b.toArray ([32] : List UInt8).toArray.size ((occurrences b.toArray [32].toArray 0 b.toArray.size).take (b.toArray.size + 1)) = parts.map List.toArray ∧
  (parts.all fun x => decide (x.length ≤ 1000)) = true ∧ parts.length ≤ 1000
noncomputable def leads0 : List (List UInt8) := [[71], [71, 71], [78], [68], [68, 68], [82], [77], [66], [66, 66], [83], [83, 83], [45], [74], [74, 74], [67], [75], [84], [80], [72]]
noncomputable def leads0Text : List UInt8 := [71, 32, 71, 71, 32, 78, 32, 68, 32, 68, 68, 32, 82, 32, 77, 32, 66, 32, 66, 66, 32, 83, 32, 83, 83, 32, 45, 32, 74, 32, 74, 74, 32, 67, 32, 75, 32, 84, 32, 80, 32, 72]
theorem leads0_p : ((occurrences leads0Text.toArray [32].toArray 0 leads0Text.toArray.size).take (leads0Text.toArray.size + 1)).isEmpty = false := by decide +kernel
theorem leads0_e : between leads0Text.toArray ([32] : List UInt8).toArray.size ((occurrences leads0Text.toArray [32].toArray 0 leads0Text.toArray.size).take (leads0Text.toArray.size + 1)) = leads0.map List.toArray := by decide +kernel
theorem leads0_z : (leads0.all fun x => decide (x.length ≤ 1000)) = true := by decide +kernel
theorem leads0_n : leads0.length ≤ 1000 := by decide +kernel
noncomputable def vowels0 : List (List UInt8) := [[65], [65, 69], [89, 65], [89, 65, 69], [69, 79], [69], [89, 69, 79], [89, 69], [79], [87, 65], [87, 65, 69], [79, 69], [89, 79], [85], [87, 69, 79], [87, 69], [87, 73], [89, 85], [69, 85], [89, 73], [73]]
noncomputable def vowels0Text : List UInt8 := [65, 32, 65, 69, 32, 89, 65, 32, 89, 65, 69, 32, 69, 79, 32, 69, 32, 89, 69, 79, 32, 89, 69, 32, 79, 32, 87, 65, 32, 87, 65, 69, 32, 79, 69, 32, 89, 79, 32, 85, 32, 87, 69, 79, 32, 87, 69, 32, 87, 73, 32, 89, 85, 32, 69, 85, 32, 89, 73, 32, 73]
theorem vowels0_p : ((occurrences vowels0Text.toArray [32].toArray 0 vowels0Text.toArray.size).take (vowels0Text.toArray.size + 1)).isEmpty = false := by decide +kernel
theorem vowels0_e : between vowels0Text.toArray ([32] : List UInt8).toArray.size ((occurrences vowels0Text.toArray [32].toArray 0 vowels0Text.toArray.size).take (vowels0Text.toArray.size + 1)) = vowels0.map List.toArray := by decide +kernel
theorem vowels0_z : (vowels0.all fun x => decide (x.length ≤ 1000)) = true := by decide +kernel
theorem vowels0_n : vowels0.length ≤ 1000 := by decide +kernel
noncomputable def tails0 : List (List UInt8) := [[45], [71], [71, 71], [71, 83], [78], [78, 74], [78, 72], [68], [76], [76, 71], [76, 77], [76, 66], [76, 83], [76, 84], [76, 80], [76, 72], [77], [66], [66, 83], [83], [83, 83], [78, 71], [74], [67], [75], [84], [80], [72]]
noncomputable def tails0Text : List UInt8 := [45, 32, 71, 32, 71, 71, 32, 71, 83, 32, 78, 32, 78, 74, 32, 78, 72, 32, 68, 32, 76, 32, 76, 71, 32, 76, 77, 32, 76, 66, 32, 76, 83, 32, 76, 84, 32, 76, 80, 32, 76, 72, 32, 77, 32, 66, 32, 66, 83, 32, 83, 32, 83, 83, 32, 78, 71, 32, 74, 32, 67, 32, 75, 32, 84, 32, 80, 32, 72]
theorem tails0_p : ((occurrences tails0Text.toArray [32].toArray 0 tails0Text.toArray.size).take (tails0Text.toArray.size + 1)).isEmpty = false := by decide +kernel
theorem tails0_e : between tails0Text.toArray ([32] : List UInt8).toArray.size ((occurrences tails0Text.toArray [32].toArray 0 tails0Text.toArray.size).take (tails0Text.toArray.size + 1)) = tails0.map List.toArray := by decide +kernel
theorem tails0_z : (tails0.all fun x => decide (x.length ≤ 1000)) = true := by decide +kernel
theorem tails0_n : tails0.length ≤ 1000 := by decide +kernel
theorem paired_of {ls : List (List UInt8)} : ∀ {l : List (List UInt8 × Tok)}, l.map (·.1) = ls → Paired IsBytes ls (bytesVals l) := by
  rintro l rfl
  induction l with
  | nil => exact .nil
  | cons x r ih => exact .cons ⟨x.2, rfl⟩ ih
section
variable {prog : Program} {w : World} {A : Around} {E : Value → Shared → Prop} {s : Shared} {h₀ : Heap} {L : Addr} {m : Str → Option Value} {news : List (Addr × Obj)}
theorem split_to {b : List UInt8} {parts : List (List UInt8)} {t u : Tok} {Q : Value → Shared → Prop} (F : Fr h₀ L s.heap m) (N : News h₀ L s.heap news) (c : SplitsTo b parts)
    (h : ∀ D its h' k, Paired IsBytes parts its → Fr h₀ L h' m → News h₀ L h' ((D, listOf its.toArray 0) :: news) → (∀ p ∈ news, p.1 < D) → Q (.ref D) { s with heap := h', toks := k }) :
    wpAny (model prog w) A (call (.builtin "bytes.split") [.bytes b.toArray t, .bytes ([32] : List UInt8).toArray u]) Q E s :=
  call_split (parts := parts) F N (by decide) c.1 c.2.1 c.2.2.1 c.2.2.2 fun D l h' k hl F' N' off => h D (bytesVals l) h' k (paired_of hl) F' N' off
end
theorem leads0_s : SplitsTo leads0Text leads0 := ⟨leads0_p, leads0_e, leads0_z, leads0_n⟩
theorem vowels0_s : SplitsTo vowels0Text vowels0 := ⟨vowels0_p, vowels0_e, vowels0_z, vowels0_n⟩
theorem tails0_s : SplitsTo tails0Text tails0 := ⟨tails0_p, tails0_e, tails0_z, tails0_n⟩
theorem bs_back {ls : List (List UInt8)} {vs : List Value} (p : Paired IsBytes ls vs) : ∀ {i : Nat} {v : Value}, vs[i]? = some v → ∃ l, ls[i]? = some l ∧ IsBytes l v := by
  induction p with
  | nil => intro i l h; simp at h
  | cons e r ih =>
    intro i v h
    cases i with
    | zero => simp at h; subst h; exact ⟨_, by simp, e⟩
    | succ i => simpa using ih (i := i) (by simpa using h)
theorem Src.bsList {prog : Program} {w : World} {A : Around} {h₀ : Heap} {L : Addr} {news : List (Addr × Obj)} {ls : List (List UInt8)} {ax : Addr} {its : List Value} {k : Nat} {s₁ : Shared} (hh : A.handled = none) (N : News h₀ L s₁.heap news)
    (hm : (ax, listOf its.toArray k) ∈ news) (p : Paired IsBytes ls its) : Src prog w A h₀ L news (.ref ax) ls IsBytes s₁ :=
  Src.list hh N hm (by rw [List.size_toArray, p.length]) fun i v e => bs_back p (by simpa using e)
end Internal
namespace Internal
noncomputable def isV (c : UInt8) : Bool := ([65, 69, 73, 79, 85, 87, 89] : List UInt8).contains c
theorem tw_stop {p : UInt8 → Bool} {l : List UInt8} {k : Nat} (hk : k ≤ (l.takeWhile p).length) (h : ¬ k < l.length ∨ p (l.getD k 0) = false) : k = (l.takeWhile p).length := by
  induction l generalizing k with
  | nil => simp at hk ⊢; exact hk
  | cons x r ih =>
    cases hx : p x with
    | false => simp [List.takeWhile_cons, hx] at hk ⊢; exact hk
    | true =>
      simp only [List.takeWhile_cons, hx, if_true, List.length_cons] at hk ⊢
      cases k with
      | zero =>
        rcases h with h | h
        · simp at h
        · simp [hx] at h
      | succ k =>
        have := ih (k := k) (by omega) (by
          rcases h with h | h
          · left; simpa using h
          · right; simpa using h)
        omega
theorem tw_more {p : UInt8 → Bool} {l : List UInt8} {k : Nat} (hk : k ≤ (l.takeWhile p).length) (hlt : k < l.length) (h : p (l.getD k 0) = true) : k + 1 ≤ (l.takeWhile p).length := by
  induction l generalizing k with
  | nil => simp at hlt
  | cons x r ih =>
    cases hx : p x with
    | false =>
      simp [List.takeWhile_cons, hx] at hk
      subst hk
      simp [hx] at h
    | true =>
      simp only [List.takeWhile_cons, hx, if_true, List.length_cons] at hk ⊢
      cases k with
      | zero => omega
      | succ k =>
        have := ih (k := k) (by omega) (by simpa using hlt) (by simpa using h)
        omega
theorem tw_le (p : UInt8 → Bool) (l : List UInt8) : (l.takeWhile p).length ≤ l.length := by
  induction l with
  | nil => simp
  | cons x r ih => rw [List.takeWhile_cons]; split <;> simp <;> omega
noncomputable def cut (l : List UInt8) (lo hi : Option Int) : List UInt8 := (l.drop (lo.elim 0 (clipAt l.length))).take (hi.elim l.length (clipAt l.length) - lo.elim 0 (clipAt l.length))
theorem cut_from (l : List UInt8) (k : Nat) : cut l (some (k : Int)) none = l.drop k := by
  simp only [cut, Option.elim, clipAt_nat]
  by_cases h : k ≤ l.length
  · rw [Nat.min_eq_left h, List.take_of_length_le (by simp)]
  · rw [Nat.min_eq_right (by omega), List.drop_of_length_le (by omega), List.drop_of_length_le (by omega)]; simp
theorem cut_to (l : List UInt8) (k : Nat) : cut l none (some (k : Int)) = l.take k := by
  simp only [cut, Option.elim, clipAt_nat, List.drop_zero, Nat.sub_zero]
  by_cases h : k ≤ l.length
  · rw [Nat.min_eq_left h]
  · rw [Nat.min_eq_right (by omega), List.take_of_length_le (by omega), List.take_of_length_le (by omega)]
theorem cut_mid (l : List UInt8) (j k : Nat) (hj : j ≤ l.length) (hk : k ≤ l.length) : cut l (some (j : Int)) (some (k : Int)) = (l.drop j).take (k - j) := by
  simp only [cut, Option.elim, clipAt_nat, Nat.min_eq_left hj, Nat.min_eq_left hk]
theorem cut_length (l : List UInt8) (lo hi : Option Int) : (cut l lo hi).length ≤ l.length := by
  simp only [cut, List.length_take, List.length_drop]; exact Nat.le_trans (Nat.min_le_right _ _) (Nat.sub_le _ _)
section
variable {prog : Program} {w : World} {A : Around} {E : Value → Shared → Prop} {s : Shared} {h₀ : Heap} {L : Addr} {m : Str → Option Value} {news : List (Addr × Obj)} {env : Env}
theorem slice_B {value slice : Expr} {b : List UInt8} {t : Tok} {l u : Value} {lo hi : Option Int} {Q : Value → Shared → Prop} (hF : Fr h₀ L s.heap m) (hN : News h₀ L s.heap news) (hl : IsPart l lo) (hu : IsPart u hi) (hz : b.length ≤ 16777216)
    (h : ∀ h' t' k, Fr h₀ L h' m → News h₀ L h' news → Q (.bytes (cut b lo hi).toArray t') { s with heap := h', toks := k })
    (hs : subscripted slice false (.bytes b.toArray t) (.ref s.heap.objs.size) = operate [.ref s.heap.objs.size, .bytes b.toArray t] (getItem (.bytes b.toArray t) (.ref s.heap.objs.size)) := by with_unfolding_all rfl)
    (ht : ∀ r, letTemporaryGo value (.bytes b.toArray t) r = pure () := by intro _; with_unfolding_all rfl) :
    wpAny (model prog w) A (subscriptTail value slice (.bytes b.toArray t) (.ref s.heap.objs.size)) Q E { s with heap := s.heap.push { cls := .type "slice", data := .fields #[l, u, .none] } } :=
  KBc.slice_K hF hN (ks := KBw.bInts b.toArray) rfl hl hu (by rw [KBw.ints_length, List.size_toArray]; exact hz)
    (fun h' t' k F' N' _ => by
      have := h h' t' k F' N'
      rw [KBc.picked_eq]
      rw [List.size_toArray]
      exact this) hs ht
theorem item_B {value slice : Expr} {x : List UInt8} {i : Int} {t ui : Tok} {Q : Value → Shared → Prop} (h0 : 0 ≤ i) (h1 : i < (x.length : Int)) (hfit : x.length ≤ 16777216) (h : ∀ t' k, Q (.int ((x.getD i.toNat 0).toNat : Nat) t') { s with toks := k })
    (hs : subscripted slice false (.bytes x.toArray t) (.int i ui) = operate [.bytes x.toArray t, .int i ui] (getItem (.bytes x.toArray t) (.int i ui)) := by with_unfolding_all rfl)
    (ht : ∀ r, letTemporaryGo value (.bytes x.toArray t) r = pure () := by intro _; with_unfolding_all rfl) :
    wpAny (model prog w) A (subscriptTail value slice (.bytes x.toArray t) (.int i ui)) Q E s :=
  KBy.item_N (by omega) h0 h1 (h _ _) hs ht
theorem len_B {x : List UInt8} {t : Tok} {Q : Value → Shared → Prop} (hz : x.length ≤ 16777216) (h : ∀ t' k, Q (.int (x.length : Nat) t') { s with toks := k }) : wpAny (model prog w) A (call (.builtin "len") [.bytes x.toArray t]) Q E s :=
  len_bytes (by simpa using Nat.le_trans hz (by decide)) (by simpa using h (s.toks + 1) (s.toks + 1 + 1))
theorem contains_of {ls : List (List UInt8)} {l : List UInt8} (h : (!ls.contains l) = false) : l ∈ ls := by simpa using h
theorem byte_round (c : UInt8) : ((c.toNat : Int)).toNat.toUInt8 = c := by simp
theorem in_B {b : List UInt8} {c : UInt8} {t u : Tok} {Q : Value → Shared → Prop} (h : Q (.bool (b.contains c)) s) : wpAny (model prog w) A (compareOp .In (.int (c.toNat : Nat) u) (.bytes b.toArray t)) Q E s := by
  have hc : c.toNat < 256 := c.toNat_lt
  refine in_bytes (by omega) (by omega) ?_
  rw [byte_round]; exact h
theorem notIn_B {b : List UInt8} {c : UInt8} {t u : Tok} {Q : Value → Shared → Prop} (h : Q (.bool (!b.contains c)) s) : wpAny (model prog w) A (compareOp .NotIn (.int (c.toNat : Nat) u) (.bytes b.toArray t)) Q E s := by
  have hc : c.toNat < 256 := c.toNat_lt
  refine notIn_bytes (by omega) (by omega) ?_
  rw [byte_round]; exact h
noncomputable def WEnd (h₀ : Heap) (L : Addr) (news : List (Addr × Obj)) (y : Str) (m₀ : Str → Option Value) (P : Int → Prop) (μ : Int → Nat) (Q : Flow → Shared → Prop) (s : Shared) (c : Int) (fl : Flow) (s₂ : Shared) : Prop :=
  match fl with
  | .brk => Q .next s₂
  | .ret v => Q (.ret v) s₂
  | _ => ∃ h' tk' m' c' t', s₂ = { s with heap := h', toks := tk' } ∧ Fr h₀ L h' m' ∧ News h₀ L h' news ∧ m' y = some (.int c' t') ∧ (∀ z, z ≠ y → m' z = m₀ z) ∧ P c' ∧ μ c' < μ c
theorem WEnd.mk {h₀ : Heap} {L : Addr} {s : Shared} {news : List (Addr × Obj)} {Q : Flow → Shared → Prop} {m₀ : Str → Option Value} {y : Str} {P : Int → Prop} {μ : Int → Nat} {c : Int} {h' : Heap} {tk' : Nat} {m' : Str → Option Value} {c' : Int} {t' : Tok} (F : Fr h₀ L h' m') (N : News h₀ L h' news) (a : m' y = some (.int c' t')) (b : ∀ z, z ≠ y → m' z = m₀ z) (p : P c' ∧ μ c' < μ c) : WEnd h₀ L news y m₀ P μ Q s c .next { s with heap := h', toks := tk' } := ⟨h', tk', m', c', t', rfl, F, N, a, b, p⟩
theorem while_one {test : Expr} {body : List Stmt} {pos : Pos} {Q : Flow → Shared → Prop} {m₀ : Str → Option Value} {c₀ : Int} {t₀ : Tok} (y : Str) (P : Int → Prop) (μ : Int → Nat) (F : Fr h₀ L s.heap m₀) (N : News h₀ L s.heap news) (hy : m₀ y = some (.int c₀ t₀)) (hp : P c₀)
    (turn : ∀ c t h tk, P c → Fr h₀ L h (fun z => if z = y then some (.int c t) else m₀ z) → News h₀ L h news →
      wpAny (model prog w) A (isTrue test env (eval test env)) (fun b s₂ => if b = true then wpAny (model prog w) A (execs body env) (WEnd h₀ L news y m₀ P μ Q s c) E s₂ else Q .next s₂) E { s with heap := h, toks := tk })
    (hE : PassesOwn (model prog w) A env E := by passes_own) :
    wpAny (model prog w) A (exec (.While test body [] pos) env) Q E s := by
  refine While_inv2 (fun n m nx => nx = news ∧ ∃ c t, m y = some (.int c t) ∧ (∀ z, z ≠ y → m z = m₀ z) ∧ P c ∧ μ c = n) F N ⟨rfl, c₀, t₀, hy, fun _ _ => rfl, hp, rfl⟩ ?_ hE
  intro n m₁ nx h tk F₁ N₁ rr7
  refine byG ?_
  intro GG hGG
  obtain ⟨rfl, c, t, h1, h2, hp', rfl⟩ := rr7
  refine hGG ?_
  clear hGG GG
  have e : m₁ = fun z => if z = y then some (.int c t) else m₀ z := by
    funext z
    by_cases hz : z = y
    · rw [if_pos hz, hz, h1]
    · rw [if_neg hz, h2 z hz]
  rw [e] at F₁
  refine wpAny_mono (turn c t h tk hp' F₁ N₁) (fun b s₂ p => ?_) fun _ _ x => x
  cases b with
  | false => simpa using p
  | true =>
    simp only [if_true] at p ⊢
    refine wpAny_mono p (fun f s₃ q => ?_) fun _ _ x => x
    revert q
    apply flow_cases f
    rotate_left 3
    · exact fun k => k
    · exact fun _ q => q
    · exact fun q => q
    intro rr0
    refine byG ?_
    intro GG hGG
    obtain ⟨h', tk', m', c', t', rfl, F', N', a1, a2, a3, a4⟩ := rr0
    refine hGG ?_
    clear hGG GG
    exact ⟨h', tk', m', nx, μ c', rfl, F', N', a4, rfl, c', t', a1, a2, a3, rfl⟩
noncomputable def WDone (h₀ : Heap) (L : Addr) (news : List (Addr × Obj)) (y : Str) (m₀ : Str → Option Value) (B : Int) (s : Shared) (c : Int) (t : Tok) (s₂ : Shared) : Prop :=
  c = B ∧ ∃ h' tk', s₂ = { s with heap := h', toks := tk' } ∧ Fr h₀ L h' (fun z => if z = y then some (.int c t) else m₀ z) ∧ News h₀ L h' news
theorem WDone.mk {h₀ : Heap} {L : Addr} {s : Shared} {news : List (Addr × Obj)} {m₀ : Str → Option Value} {y : Str} {B c : Int} {t : Tok} {h' : Heap} {tk' : Nat}  (e : c = B) (F : Fr h₀ L h' (fun z => if z = y then some (.int c t) else m₀ z)) (N : News h₀ L h' news) : WDone h₀ L news y m₀ B s c t { s with heap := h', toks := tk' } := ⟨e, h', tk', rfl, F, N⟩
theorem while_to {test : Expr} {body : List Stmt} {pos : Pos} {Q : Flow → Shared → Prop} {m₀ : Str → Option Value} {c₀ : Int} {t₀ : Tok} (y : Str) (P : Int → Prop) (μ : Int → Nat) (B : Int) (F : Fr h₀ L s.heap m₀) (N : News h₀ L s.heap news) (hy : m₀ y = some (.int c₀ t₀)) (hp : P c₀)
    (turn : ∀ c t h tk, P c → Fr h₀ L h (fun z => if z = y then some (.int c t) else m₀ z) → News h₀ L h news →
      wpAny (model prog w) A (isTrue test env (eval test env)) (fun b s₂ => if b = true then wpAny (model prog w) A (execs body env) (WEnd h₀ L news y m₀ P μ Q s c) E s₂ else WDone h₀ L news y m₀ B s c t s₂) E { s with heap := h, toks := tk })
    (done : ∀ t h tk, Fr h₀ L h (fun z => if z = y then some (.int B t) else m₀ z) → News h₀ L h news → Q .next { s with heap := h, toks := tk })
    (hE : PassesOwn (model prog w) A env E := by passes_own) :
    wpAny (model prog w) A (exec (.While test body [] pos) env) Q E s := by
  refine while_one y P μ F N hy hp (fun c t h tk hp' F' N' => ?_) hE
  refine wpAny_mono (turn c t h tk hp' F' N') (fun b s₂ p => ?_) fun _ _ x => x
  cases b with
  | true => exact p
  | false =>
    simp only [Bool.false_eq_true, if_false] at p ⊢
    refine byG ?_
    intro GG hGG
    obtain ⟨rfl, h', tk', rfl, F₂, N₂⟩ := p
    refine hGG ?_
    clear hGG GG
    exact done t h' tk' F₂ N₂
end
end Internal
namespace Internal
theorem Mem1 {α : Type} {a0 x : α} {l : List α} : x ∈ a0 :: x :: l := .tail _ (.head _)
theorem TL1 {α : Type} {a0 x : α} {l : List α} (h : x ∈ l) : x ∈ a0 :: l := .tail _ h
theorem Mem2 {α : Type} {a0 a1 x : α} {l : List α} : x ∈ a0 :: a1 :: x :: l := .tail _ Mem1
theorem TL2 {α : Type} {a0 a1 x : α} {l : List α} (h : x ∈ l) : x ∈ a0 :: a1 :: l := .tail _ (TL1 h)
theorem Mem3 {α : Type} {a0 a1 a2 x : α} {l : List α} : x ∈ a0 :: a1 :: a2 :: x :: l := .tail _ Mem2
theorem TL3 {α : Type} {a0 a1 a2 x : α} {l : List α} (h : x ∈ l) : x ∈ a0 :: a1 :: a2 :: l := .tail _ (TL2 h)
theorem Mem4 {α : Type} {a0 a1 a2 a3 x : α} {l : List α} : x ∈ a0 :: a1 :: a2 :: a3 :: x :: l := .tail _ Mem3
theorem TL4 {α : Type} {a0 a1 a2 a3 x : α} {l : List α} (h : x ∈ l) : x ∈ a0 :: a1 :: a2 :: a3 :: l := .tail _ (TL3 h)
theorem Mem5 {α : Type} {a0 a1 a2 a3 a4 x : α} {l : List α} : x ∈ a0 :: a1 :: a2 :: a3 :: a4 :: x :: l := .tail _ Mem4
theorem TL5 {α : Type} {a0 a1 a2 a3 a4 x : α} {l : List α} (h : x ∈ l) : x ∈ a0 :: a1 :: a2 :: a3 :: a4 :: l := .tail _ (TL4 h)
theorem Mem6 {α : Type} {a0 a1 a2 a3 a4 a5 x : α} {l : List α} : x ∈ a0 :: a1 :: a2 :: a3 :: a4 :: a5 :: x :: l := .tail _ Mem5
theorem TL6 {α : Type} {a0 a1 a2 a3 a4 a5 x : α} {l : List α} (h : x ∈ l) : x ∈ a0 :: a1 :: a2 :: a3 :: a4 :: a5 :: l := .tail _ (TL5 h)
theorem Mem7 {α : Type} {a0 a1 a2 a3 a4 a5 a6 x : α} {l : List α} : x ∈ a0 :: a1 :: a2 :: a3 :: a4 :: a5 :: a6 :: x :: l := .tail _ Mem6
theorem TL7 {α : Type} {a0 a1 a2 a3 a4 a5 a6 x : α} {l : List α} (h : x ∈ l) : x ∈ a0 :: a1 :: a2 :: a3 :: a4 :: a5 :: a6 :: l := .tail _ (TL6 h)
theorem Mem8 {α : Type} {a0 a1 a2 a3 a4 a5 a6 a7 x : α} {l : List α} : x ∈ a0 :: a1 :: a2 :: a3 :: a4 :: a5 :: a6 :: a7 :: x :: l := .tail _ Mem7
theorem TL8 {α : Type} {a0 a1 a2 a3 a4 a5 a6 a7 x : α} {l : List α} (h : x ∈ l) : x ∈ a0 :: a1 :: a2 :: a3 :: a4 :: a5 :: a6 :: a7 :: l := .tail _ (TL7 h)
theorem Mem9 {α : Type} {a0 a1 a2 a3 a4 a5 a6 a7 a8 x : α} {l : List α} : x ∈ a0 :: a1 :: a2 :: a3 :: a4 :: a5 :: a6 :: a7 :: a8 :: x :: l := .tail _ Mem8
theorem TL9 {α : Type} {a0 a1 a2 a3 a4 a5 a6 a7 a8 x : α} {l : List α} (h : x ∈ l) : x ∈ a0 :: a1 :: a2 :: a3 :: a4 :: a5 :: a6 :: a7 :: a8 :: l := .tail _ (TL8 h)
theorem Mem10 {α : Type} {a0 a1 a2 a3 a4 a5 a6 a7 a8 a9 x : α} {l : List α} : x ∈ a0 :: a1 :: a2 :: a3 :: a4 :: a5 :: a6 :: a7 :: a8 :: a9 :: x :: l := .tail _ Mem9
theorem TL10 {α : Type} {a0 a1 a2 a3 a4 a5 a6 a7 a8 a9 x : α} {l : List α} (h : x ∈ l) : x ∈ a0 :: a1 :: a2 :: a3 :: a4 :: a5 :: a6 :: a7 :: a8 :: a9 :: l := .tail _ (TL9 h)
theorem Mem11 {α : Type} {a0 a1 a2 a3 a4 a5 a6 a7 a8 a9 a10 x : α} {l : List α} : x ∈ a0 :: a1 :: a2 :: a3 :: a4 :: a5 :: a6 :: a7 :: a8 :: a9 :: a10 :: x :: l := .tail _ Mem10
theorem TL11 {α : Type} {a0 a1 a2 a3 a4 a5 a6 a7 a8 a9 a10 x : α} {l : List α} (h : x ∈ l) : x ∈ a0 :: a1 :: a2 :: a3 :: a4 :: a5 :: a6 :: a7 :: a8 :: a9 :: a10 :: l := .tail _ (TL10 h)
theorem Mem12 {α : Type} {a0 a1 a2 a3 a4 a5 a6 a7 a8 a9 a10 a11 x : α} {l : List α} : x ∈ a0 :: a1 :: a2 :: a3 :: a4 :: a5 :: a6 :: a7 :: a8 :: a9 :: a10 :: a11 :: x :: l := .tail _ Mem11
theorem TL12 {α : Type} {a0 a1 a2 a3 a4 a5 a6 a7 a8 a9 a10 a11 x : α} {l : List α} (h : x ∈ l) : x ∈ a0 :: a1 :: a2 :: a3 :: a4 :: a5 :: a6 :: a7 :: a8 :: a9 :: a10 :: a11 :: l := .tail _ (TL11 h)
theorem Mem13 {α : Type} {a0 a1 a2 a3 a4 a5 a6 a7 a8 a9 a10 a11 a12 x : α} {l : List α} : x ∈ a0 :: a1 :: a2 :: a3 :: a4 :: a5 :: a6 :: a7 :: a8 :: a9 :: a10 :: a11 :: a12 :: x :: l := .tail _ Mem12
theorem TL13 {α : Type} {a0 a1 a2 a3 a4 a5 a6 a7 a8 a9 a10 a11 a12 x : α} {l : List α} (h : x ∈ l) : x ∈ a0 :: a1 :: a2 :: a3 :: a4 :: a5 :: a6 :: a7 :: a8 :: a9 :: a10 :: a11 :: a12 :: l := .tail _ (TL12 h)
theorem Mem14 {α : Type} {a0 a1 a2 a3 a4 a5 a6 a7 a8 a9 a10 a11 a12 a13 x : α} {l : List α} : x ∈ a0 :: a1 :: a2 :: a3 :: a4 :: a5 :: a6 :: a7 :: a8 :: a9 :: a10 :: a11 :: a12 :: a13 :: x :: l := .tail _ Mem13
theorem TL14 {α : Type} {a0 a1 a2 a3 a4 a5 a6 a7 a8 a9 a10 a11 a12 a13 x : α} {l : List α} (h : x ∈ l) : x ∈ a0 :: a1 :: a2 :: a3 :: a4 :: a5 :: a6 :: a7 :: a8 :: a9 :: a10 :: a11 :: a12 :: a13 :: l := .tail _ (TL13 h)
theorem Mem15 {α : Type} {a0 a1 a2 a3 a4 a5 a6 a7 a8 a9 a10 a11 a12 a13 a14 x : α} {l : List α} : x ∈ a0 :: a1 :: a2 :: a3 :: a4 :: a5 :: a6 :: a7 :: a8 :: a9 :: a10 :: a11 :: a12 :: a13 :: a14 :: x :: l := .tail _ Mem14
theorem TL15 {α : Type} {a0 a1 a2 a3 a4 a5 a6 a7 a8 a9 a10 a11 a12 a13 a14 x : α} {l : List α} (h : x ∈ l) : x ∈ a0 :: a1 :: a2 :: a3 :: a4 :: a5 :: a6 :: a7 :: a8 :: a9 :: a10 :: a11 :: a12 :: a13 :: a14 :: l := .tail _ (TL14 h)
theorem Mem16 {α : Type} {a0 a1 a2 a3 a4 a5 a6 a7 a8 a9 a10 a11 a12 a13 a14 a15 x : α} {l : List α} : x ∈ a0 :: a1 :: a2 :: a3 :: a4 :: a5 :: a6 :: a7 :: a8 :: a9 :: a10 :: a11 :: a12 :: a13 :: a14 :: a15 :: x :: l := .tail _ Mem15
theorem TL16 {α : Type} {a0 a1 a2 a3 a4 a5 a6 a7 a8 a9 a10 a11 a12 a13 a14 a15 x : α} {l : List α} (h : x ∈ l) : x ∈ a0 :: a1 :: a2 :: a3 :: a4 :: a5 :: a6 :: a7 :: a8 :: a9 :: a10 :: a11 :: a12 :: a13 :: a14 :: a15 :: l := .tail _ (TL15 h)
theorem Mem17 {α : Type} {a0 a1 a2 a3 a4 a5 a6 a7 a8 a9 a10 a11 a12 a13 a14 a15 a16 x : α} {l : List α} : x ∈ a0 :: a1 :: a2 :: a3 :: a4 :: a5 :: a6 :: a7 :: a8 :: a9 :: a10 :: a11 :: a12 :: a13 :: a14 :: a15 :: a16 :: x :: l := .tail _ Mem16
theorem TL17 {α : Type} {a0 a1 a2 a3 a4 a5 a6 a7 a8 a9 a10 a11 a12 a13 a14 a15 a16 x : α} {l : List α} (h : x ∈ l) : x ∈ a0 :: a1 :: a2 :: a3 :: a4 :: a5 :: a6 :: a7 :: a8 :: a9 :: a10 :: a11 :: a12 :: a13 :: a14 :: a15 :: a16 :: l := .tail _ (TL16 h)
theorem Mem18 {α : Type} {a0 a1 a2 a3 a4 a5 a6 a7 a8 a9 a10 a11 a12 a13 a14 a15 a16 a17 x : α} {l : List α} : x ∈ a0 :: a1 :: a2 :: a3 :: a4 :: a5 :: a6 :: a7 :: a8 :: a9 :: a10 :: a11 :: a12 :: a13 :: a14 :: a15 :: a16 :: a17 :: x :: l := .tail _ Mem17
theorem TL18 {α : Type} {a0 a1 a2 a3 a4 a5 a6 a7 a8 a9 a10 a11 a12 a13 a14 a15 a16 a17 x : α} {l : List α} (h : x ∈ l) : x ∈ a0 :: a1 :: a2 :: a3 :: a4 :: a5 :: a6 :: a7 :: a8 :: a9 :: a10 :: a11 :: a12 :: a13 :: a14 :: a15 :: a16 :: a17 :: l := .tail _ (TL17 h)
theorem Mem19 {α : Type} {a0 a1 a2 a3 a4 a5 a6 a7 a8 a9 a10 a11 a12 a13 a14 a15 a16 a17 a18 x : α} {l : List α} : x ∈ a0 :: a1 :: a2 :: a3 :: a4 :: a5 :: a6 :: a7 :: a8 :: a9 :: a10 :: a11 :: a12 :: a13 :: a14 :: a15 :: a16 :: a17 :: a18 :: x :: l := .tail _ Mem18
theorem TL19 {α : Type} {a0 a1 a2 a3 a4 a5 a6 a7 a8 a9 a10 a11 a12 a13 a14 a15 a16 a17 a18 x : α} {l : List α} (h : x ∈ l) : x ∈ a0 :: a1 :: a2 :: a3 :: a4 :: a5 :: a6 :: a7 :: a8 :: a9 :: a10 :: a11 :: a12 :: a13 :: a14 :: a15 :: a16 :: a17 :: a18 :: l := .tail _ (TL18 h)
theorem Mem20 {α : Type} {a0 a1 a2 a3 a4 a5 a6 a7 a8 a9 a10 a11 a12 a13 a14 a15 a16 a17 a18 a19 x : α} {l : List α} : x ∈ a0 :: a1 :: a2 :: a3 :: a4 :: a5 :: a6 :: a7 :: a8 :: a9 :: a10 :: a11 :: a12 :: a13 :: a14 :: a15 :: a16 :: a17 :: a18 :: a19 :: x :: l := .tail _ Mem19
theorem TL20 {α : Type} {a0 a1 a2 a3 a4 a5 a6 a7 a8 a9 a10 a11 a12 a13 a14 a15 a16 a17 a18 a19 x : α} {l : List α} (h : x ∈ l) : x ∈ a0 :: a1 :: a2 :: a3 :: a4 :: a5 :: a6 :: a7 :: a8 :: a9 :: a10 :: a11 :: a12 :: a13 :: a14 :: a15 :: a16 :: a17 :: a18 :: a19 :: l := .tail _ (TL19 h)
theorem Mem21 {α : Type} {a0 a1 a2 a3 a4 a5 a6 a7 a8 a9 a10 a11 a12 a13 a14 a15 a16 a17 a18 a19 a20 x : α} {l : List α} : x ∈ a0 :: a1 :: a2 :: a3 :: a4 :: a5 :: a6 :: a7 :: a8 :: a9 :: a10 :: a11 :: a12 :: a13 :: a14 :: a15 :: a16 :: a17 :: a18 :: a19 :: a20 :: x :: l := .tail _ Mem20
theorem TL21 {α : Type} {a0 a1 a2 a3 a4 a5 a6 a7 a8 a9 a10 a11 a12 a13 a14 a15 a16 a17 a18 a19 a20 x : α} {l : List α} (h : x ∈ l) : x ∈ a0 :: a1 :: a2 :: a3 :: a4 :: a5 :: a6 :: a7 :: a8 :: a9 :: a10 :: a11 :: a12 :: a13 :: a14 :: a15 :: a16 :: a17 :: a18 :: a19 :: a20 :: l := .tail _ (TL20 h)
theorem Mem22 {α : Type} {a0 a1 a2 a3 a4 a5 a6 a7 a8 a9 a10 a11 a12 a13 a14 a15 a16 a17 a18 a19 a20 a21 x : α} {l : List α} : x ∈ a0 :: a1 :: a2 :: a3 :: a4 :: a5 :: a6 :: a7 :: a8 :: a9 :: a10 :: a11 :: a12 :: a13 :: a14 :: a15 :: a16 :: a17 :: a18 :: a19 :: a20 :: a21 :: x :: l := .tail _ Mem21
theorem TL22 {α : Type} {a0 a1 a2 a3 a4 a5 a6 a7 a8 a9 a10 a11 a12 a13 a14 a15 a16 a17 a18 a19 a20 a21 x : α} {l : List α} (h : x ∈ l) : x ∈ a0 :: a1 :: a2 :: a3 :: a4 :: a5 :: a6 :: a7 :: a8 :: a9 :: a10 :: a11 :: a12 :: a13 :: a14 :: a15 :: a16 :: a17 :: a18 :: a19 :: a20 :: a21 :: l := .tail _ (TL21 h)
theorem Mem23 {α : Type} {a0 a1 a2 a3 a4 a5 a6 a7 a8 a9 a10 a11 a12 a13 a14 a15 a16 a17 a18 a19 a20 a21 a22 x : α} {l : List α} : x ∈ a0 :: a1 :: a2 :: a3 :: a4 :: a5 :: a6 :: a7 :: a8 :: a9 :: a10 :: a11 :: a12 :: a13 :: a14 :: a15 :: a16 :: a17 :: a18 :: a19 :: a20 :: a21 :: a22 :: x :: l := .tail _ Mem22
theorem TL23 {α : Type} {a0 a1 a2 a3 a4 a5 a6 a7 a8 a9 a10 a11 a12 a13 a14 a15 a16 a17 a18 a19 a20 a21 a22 x : α} {l : List α} (h : x ∈ l) : x ∈ a0 :: a1 :: a2 :: a3 :: a4 :: a5 :: a6 :: a7 :: a8 :: a9 :: a10 :: a11 :: a12 :: a13 :: a14 :: a15 :: a16 :: a17 :: a18 :: a19 :: a20 :: a21 :: a22 :: l := .tail _ (TL22 h)
theorem Mem24 {α : Type} {a0 a1 a2 a3 a4 a5 a6 a7 a8 a9 a10 a11 a12 a13 a14 a15 a16 a17 a18 a19 a20 a21 a22 a23 x : α} {l : List α} : x ∈ a0 :: a1 :: a2 :: a3 :: a4 :: a5 :: a6 :: a7 :: a8 :: a9 :: a10 :: a11 :: a12 :: a13 :: a14 :: a15 :: a16 :: a17 :: a18 :: a19 :: a20 :: a21 :: a22 :: a23 :: x :: l := .tail _ Mem23
theorem TL24 {α : Type} {a0 a1 a2 a3 a4 a5 a6 a7 a8 a9 a10 a11 a12 a13 a14 a15 a16 a17 a18 a19 a20 a21 a22 a23 x : α} {l : List α} (h : x ∈ l) : x ∈ a0 :: a1 :: a2 :: a3 :: a4 :: a5 :: a6 :: a7 :: a8 :: a9 :: a10 :: a11 :: a12 :: a13 :: a14 :: a15 :: a16 :: a17 :: a18 :: a19 :: a20 :: a21 :: a22 :: a23 :: l := .tail _ (TL23 h)
theorem kle0 {K M N : Nat} (h : K ≤ M) (e : M ≤ N) : K ≤ N := Nat.le_trans h e
theorem kadd {K M N c : Nat} (h : K ≤ M) (e : M + c ≤ N) : K + c ≤ N := Nat.le_trans (Nat.add_le_add_right h c) e
theorem kadd2 {K M N c d : Nat} (h : K ≤ M) (e : M + c + d ≤ N) : K + c + d ≤ N := Nat.le_trans (Nat.add_le_add_right (Nat.add_le_add_right h c) d) e
theorem wLo {a b c o : Int} (h : ¬ a ≤ o) (e : a ≤ b) : ¬ (b ≤ o ∧ o ≤ c) := fun q => h (Int.le_trans e q.1)
theorem wHi {a b c o : Int} (h : ¬ o ≤ a) (e : c ≤ a) : ¬ (b ≤ o ∧ o ≤ c) := fun q => h (Int.le_trans q.2 e)
theorem wGt {a b c o : Int} (h : a ≤ o) (e : c < a) : ¬ (b ≤ o ∧ o ≤ c) := fun q => absurd (Int.le_trans h q.2) (Int.not_le.mpr e)
theorem genTok {M : Model} {A : Around} {st : Stmt} {e : Env} {Q : Flow → Shared → Prop} {E : Value → Shared → Prop} {h : Heap} {g : Array GenState} {d : Drawn} {os : OsState} {n j : Nat} (H : ∀ k, wpAny M A (exec st e) Q E ⟨h, g, d, k, os⟩) : wpAny M A (exec st e) Q E ⟨h, g, d, n + j, os⟩ := H _
theorem genTokS {M : Model} {A : Around} {st : List Stmt} {e : Env} {Q : Flow → Shared → Prop} {E : Value → Shared → Prop} {h : Heap} {g : Array GenState} {d : Drawn} {os : OsState} {n j : Nat} (H : ∀ k, wpAny M A (execs st e) Q E ⟨h, g, d, k, os⟩) : wpAny M A (execs st e) Q E ⟨h, g, d, n + j, os⟩ := H _
theorem sub_cons {a : Addr × Obj} {l l' : List (Addr × Obj)} (h : a ∈ l) (r : ∀ p ∈ l', p ∈ l) : ∀ p ∈ a :: l', p ∈ l := fun _ hp => (List.mem_cons.mp hp).elim (fun e => e ▸ h) (r _)
theorem news_rot {h₀ h : Heap} {L : Addr} (xs : List (Addr × Obj)) {a b : Addr × Obj} {r : List (Addr × Obj)} (N : News h₀ L h (xs ++ a :: b :: r)) : News h₀ L h (a :: b :: (xs ++ r)) := fun p hp => N p (by
  simp only [List.mem_cons, List.mem_append] at hp ⊢
  rcases hp with h | h | h | h
  · exact .inr (.inl h)
  · exact .inr (.inr (.inl h))
  · exact .inl h
  · exact .inr (.inr (.inr h)))
theorem of_allLt {d : Addr} : ∀ {l : List (Addr × Obj)}, AllLt d l → ∀ p ∈ l, @LT.lt Nat _ p.1 d
  | [], _, _, h => nomatch h
  | q :: l, h, p, hp => by
    rcases List.mem_cons.mp hp with rfl | hp
    · exact h.1
    · exact of_allLt h.2 p hp
theorem AR1 {d : Addr} {a0 : Addr × Obj} {l : List (Addr × Obj)} (h : AllLt d (a0 :: l)) : AllLt d l := h.2
theorem AR2 {d : Addr} {a0 a1 : Addr × Obj} {l : List (Addr × Obj)} (h : AllLt d (a0 :: a1 :: l)) : AllLt d l := AR1 h.2
theorem AR3 {d : Addr} {a0 a1 a2 : Addr × Obj} {l : List (Addr × Obj)} (h : AllLt d (a0 :: a1 :: a2 :: l)) : AllLt d l := AR2 h.2
theorem AR4 {d : Addr} {a0 a1 a2 a3 : Addr × Obj} {l : List (Addr × Obj)} (h : AllLt d (a0 :: a1 :: a2 :: a3 :: l)) : AllLt d l := AR3 h.2
theorem AR5 {d : Addr} {a0 a1 a2 a3 a4 : Addr × Obj} {l : List (Addr × Obj)} (h : AllLt d (a0 :: a1 :: a2 :: a3 :: a4 :: l)) : AllLt d l := AR4 h.2
theorem AR6 {d : Addr} {a0 a1 a2 a3 a4 a5 : Addr × Obj} {l : List (Addr × Obj)} (h : AllLt d (a0 :: a1 :: a2 :: a3 :: a4 :: a5 :: l)) : AllLt d l := AR5 h.2
theorem AR7 {d : Addr} {a0 a1 a2 a3 a4 a5 a6 : Addr × Obj} {l : List (Addr × Obj)} (h : AllLt d (a0 :: a1 :: a2 :: a3 :: a4 :: a5 :: a6 :: l)) : AllLt d l := AR6 h.2
theorem AR8 {d : Addr} {a0 a1 a2 a3 a4 a5 a6 a7 : Addr × Obj} {l : List (Addr × Obj)} (h : AllLt d (a0 :: a1 :: a2 :: a3 :: a4 :: a5 :: a6 :: a7 :: l)) : AllLt d l := AR7 h.2
theorem AR9 {d : Addr} {a0 a1 a2 a3 a4 a5 a6 a7 a8 : Addr × Obj} {l : List (Addr × Obj)} (h : AllLt d (a0 :: a1 :: a2 :: a3 :: a4 :: a5 :: a6 :: a7 :: a8 :: l)) : AllLt d l := AR8 h.2
theorem AR10 {d : Addr} {a0 a1 a2 a3 a4 a5 a6 a7 a8 a9 : Addr × Obj} {l : List (Addr × Obj)} (h : AllLt d (a0 :: a1 :: a2 :: a3 :: a4 :: a5 :: a6 :: a7 :: a8 :: a9 :: l)) : AllLt d l := AR9 h.2
theorem AR11 {d : Addr} {a0 a1 a2 a3 a4 a5 a6 a7 a8 a9 a10 : Addr × Obj} {l : List (Addr × Obj)} (h : AllLt d (a0 :: a1 :: a2 :: a3 :: a4 :: a5 :: a6 :: a7 :: a8 :: a9 :: a10 :: l)) : AllLt d l := AR10 h.2
theorem AR12 {d : Addr} {a0 a1 a2 a3 a4 a5 a6 a7 a8 a9 a10 a11 : Addr × Obj} {l : List (Addr × Obj)} (h : AllLt d (a0 :: a1 :: a2 :: a3 :: a4 :: a5 :: a6 :: a7 :: a8 :: a9 :: a10 :: a11 :: l)) : AllLt d l := AR11 h.2
theorem AR13 {d : Addr} {a0 a1 a2 a3 a4 a5 a6 a7 a8 a9 a10 a11 a12 : Addr × Obj} {l : List (Addr × Obj)} (h : AllLt d (a0 :: a1 :: a2 :: a3 :: a4 :: a5 :: a6 :: a7 :: a8 :: a9 :: a10 :: a11 :: a12 :: l)) : AllLt d l := AR12 h.2
theorem AR14 {d : Addr} {a0 a1 a2 a3 a4 a5 a6 a7 a8 a9 a10 a11 a12 a13 : Addr × Obj} {l : List (Addr × Obj)} (h : AllLt d (a0 :: a1 :: a2 :: a3 :: a4 :: a5 :: a6 :: a7 :: a8 :: a9 :: a10 :: a11 :: a12 :: a13 :: l)) : AllLt d l := AR13 h.2
theorem AR15 {d : Addr} {a0 a1 a2 a3 a4 a5 a6 a7 a8 a9 a10 a11 a12 a13 a14 : Addr × Obj} {l : List (Addr × Obj)} (h : AllLt d (a0 :: a1 :: a2 :: a3 :: a4 :: a5 :: a6 :: a7 :: a8 :: a9 :: a10 :: a11 :: a12 :: a13 :: a14 :: l)) : AllLt d l := AR14 h.2
theorem AR16 {d : Addr} {a0 a1 a2 a3 a4 a5 a6 a7 a8 a9 a10 a11 a12 a13 a14 a15 : Addr × Obj} {l : List (Addr × Obj)} (h : AllLt d (a0 :: a1 :: a2 :: a3 :: a4 :: a5 :: a6 :: a7 :: a8 :: a9 :: a10 :: a11 :: a12 :: a13 :: a14 :: a15 :: l)) : AllLt d l := AR15 h.2
theorem AR17 {d : Addr} {a0 a1 a2 a3 a4 a5 a6 a7 a8 a9 a10 a11 a12 a13 a14 a15 a16 : Addr × Obj} {l : List (Addr × Obj)} (h : AllLt d (a0 :: a1 :: a2 :: a3 :: a4 :: a5 :: a6 :: a7 :: a8 :: a9 :: a10 :: a11 :: a12 :: a13 :: a14 :: a15 :: a16 :: l)) : AllLt d l := AR16 h.2
theorem AR18 {d : Addr} {a0 a1 a2 a3 a4 a5 a6 a7 a8 a9 a10 a11 a12 a13 a14 a15 a16 a17 : Addr × Obj} {l : List (Addr × Obj)} (h : AllLt d (a0 :: a1 :: a2 :: a3 :: a4 :: a5 :: a6 :: a7 :: a8 :: a9 :: a10 :: a11 :: a12 :: a13 :: a14 :: a15 :: a16 :: a17 :: l)) : AllLt d l := AR17 h.2
theorem ne_of_allLt {d : Addr} {l : List (Addr × Obj)} (h : AllLt d l) : ∀ p ∈ l, p.1 ≠ d := fun p hp => Nat.ne_of_lt (of_allLt h p hp)
theorem ltM {D a : Addr} {o : Obj} {l : List (Addr × Obj)} (h : AllLt D l) (m : (a, o) ∈ l) : @LT.lt Nat _ a D := of_allLt h _ m
section
variable {D : Nat} {f : Addr} {vs : List Value} {news : List (Addr × Obj)}
    {w : World} {mean : ExcName → Option Value} {mg mb : Str → Option Value} {dp un : Nat} {gd : Option (List Code)} {cn : Str} {cs : Scope} {a : Addr} {ccd : Value} {cl : List (Str × Addr)} {outer : List Env} {A₀ : Around} {base h₀ : Heap} {L : Addr} {m : Str → Option Value} {s : Shared} {Q E : Value → Shared → Prop}
theorem Fn.use0 {v : Value} (c : Fn D f vs news (Pure news fun r => r = v))
    (B : Below A₀ base outer h₀) (F : Fr h₀ L s.heap m) (X : (hd0.heap_1 w.params).In h₀) (N : News h₀ L s.heap news) (T : Top hd0.view_1 LS mean mg mb h₀) (hk : cs.kind = .function) (hd : dp + D < recursionLimit) (hu : un + 8 * D < cLine)
    (ret : ∀ h' tk', Fr h₀ L h' m → News h₀ L h' news → Q v ⟨h', s.gens, s.drawn, tk', s.os⟩) :
    wpAny (model PG w) (ktrTop dp un gd cn cs L a ccd cl outer) (call (.ref f) vs) Q E s :=
  Fn.use c B F X N T hk hd hu fun _ _ h t ⟨e, n⟩ F' N' => by subst n; subst e; exact ret h t F' N'
theorem Fn.useE {v : Tok → Value} (c : Fn D f vs news (Pure news fun r => ∃ t, r = v t))
    (B : Below A₀ base outer h₀) (F : Fr h₀ L s.heap m) (X : (hd0.heap_1 w.params).In h₀) (N : News h₀ L s.heap news) (T : Top hd0.view_1 LS mean mg mb h₀) (hk : cs.kind = .function) (hd : dp + D < recursionLimit) (hu : un + 8 * D < cLine)
    (ret : ∀ t h' tk', Fr h₀ L h' m → News h₀ L h' news → Q (v t) ⟨h', s.gens, s.drawn, tk', s.os⟩) :
    wpAny (model PG w) (ktrTop dp un gd cn cs L a ccd cl outer) (call (.ref f) vs) Q E s :=
  Fn.use c B F X N T hk hd hu fun _ _ h t ⟨⟨u, e⟩, n⟩ F' N' => by subst n; subst e; exact ret u h t F' N'
theorem Fn.useK {R : Value → List (Addr × Obj) → Prop} {K : (Value → List (Addr × Obj) → Prop) → Prop} (c : Fn D f vs news R) (hK : ∀ P, K P → ∀ r nw, R r nw → P r nw)
    (B : Below A₀ base outer h₀) (F : Fr h₀ L s.heap m) (X : (hd0.heap_1 w.params).In h₀) (N : News h₀ L s.heap news) (T : Top hd0.view_1 LS mean mg mb h₀) (hk : cs.kind = .function) (hd : dp + D < recursionLimit) (hu : un + 8 * D < cLine)
    (ret : K fun r nw => ∀ h' tk', Fr h₀ L h' m → News h₀ L h' nw → Q r ⟨h', s.gens, s.drawn, tk', s.os⟩) :
    wpAny (model PG w) (ktrTop dp un gd cn cs L a ccd cl outer) (call (.ref f) vs) Q E s :=
  Fn.use c B F X N T hk hd hu fun r nw h t hr F' N' => hK _ ret r nw hr h t F' N'
end
end Internal
namespace Internal
noncomputable def argNames (params : Arguments) : List Str := (params.posonlyargs ++ params.args).map (·.arg)
noncomputable def lkZ (ns : List Str) (vs : List Value) : Str → Option Value := fun y => (ns.zip vs).reverse.lookup y
theorem code_defN {p : Program} {loose : List Str} {K : Frag} {mean : ExcName → Option Value} {mg mb : Str → Option Value} {A : Around} {A₀ : Around} {base h₀ : Heap} {L : Addr} {m : Str → Option Value} {news : List (Addr × Obj)} {prog : Program} {w : World} {s : Shared} {env : Env} {outer : List Env} {R : Result → Shared → Prop} {name qual : Str} {params : Arguments} {body : List Stmt} {scope : Scope} {dV kV doc pm cdv ct oc : Value} {an od : Option Addr} {osl : Array (Option Value)} {f : Addr} {vs : List Value}
    (B : Below A₀ base outer h₀) (F : Fr h₀ L s.heap m) (X₀ : K.In h₀) (N : News h₀ L s.heap news) (T : Top p loose mean mg mb h₀) (hA : A.frames = some (env :: outer)) (hf : env.frame = some L) (hke : env.scope.kind = .function)
    (ho : K.lookup f = some ⟨oc, od, .func (fnOf name qual params body scope dV kV doc pm an cdv ct), osl⟩) (hcd : codeIn K cdv qual = true) (hroom : A.depth < recursionLimit)
    (hbind : BindsTo s (fnOf name qual params body scope dV kV doc pm an cdv ct) ⟨vs, []⟩ ((argNames params).zip vs)) (hloc : ∀ y ∈ (argNames params).zip vs, scope.names.lookup y.1 = some .local)
    (h : ∀ g L' h₁ tk, Fr h₀ L g m → Fr g L' h₁ (lkZ (argNames params) vs) → News g L' h₁ news → Below A base (env :: outer) g → K.In g → Top p loose mean mg mb g →
      wpAny (model prog w) (A.deeper (envOf qual scope L' f cdv)) (execs body (envOf qual scope L' f cdv))
        (fun fl s' => LeaveK h₀ L m g R (match fl with | .ret v => v | _ => .none) s')
        (fun e s' => wpAny (model prog w) (A.deeper (envOf qual scope L' f cdv)) (leaving (envOf qual scope L' f cdv) e) (fun _ s'' => R (.error e) s'') (fun e' s'' => R (.error e') s'') s')
        ⟨h₁, s.gens, s.drawn, tk, s.os⟩)
    (hco : scope.isCoroutine = false) (hgen : scope.isGenerator = false) (hk : scope.kind = .function)
    (hcell : ∀ x ∈ scope.names, x.2 ≠ .cell) : codeAny (model prog w) A (.call (.ref f) ⟨vs, []⟩) R s :=
  code_def B F X₀ N T hA hf hke ho hcd hroom hbind hloc (fun g L' h₁ a1 a2 a3 a4 a5 a6 => h g L' h₁ _ a1 a2 a3 a4 a5 a6) hco hgen hk hcell
end Internal
namespace Internal
section
variable {prog : Program} {w : World} {A : Around} {E : Value → Shared → Prop} {s : Shared} {h₀ : Heap} {L : Addr} {news : List (Addr × Obj)} {env : Env}
noncomputable def WEnd1 {σ : Type} (h₀ : Heap) (L : Addr) (news : List (Addr × Obj)) (y : Str) (X : σ → Value) (Led : σ → List (Addr × Obj) → List (Addr × Obj)) (m₀ : Str → Option Value) (P : σ → Prop) (μ : σ → Nat) (Q : Flow → Shared → Prop) (s : Shared) (c : σ) (fl : Flow) (s₂ : Shared) : Prop :=
  match fl with
  | .brk => Q .next s₂
  | .ret v => Q (.ret v) s₂
  | _ => ∃ h' tk' m' c', s₂ = { s with heap := h', toks := tk' } ∧ Fr h₀ L h' m' ∧ News h₀ L h' (Led c' news) ∧ m' y = some (X c') ∧ (∀ z, z ≠ y → m' z = m₀ z) ∧ P c' ∧ μ c' < μ c
theorem WEnd1.mk {σ : Type} {h₀ : Heap} {L : Addr} {s : Shared} {news : List (Addr × Obj)} {Q : Flow → Shared → Prop} {m₀ : Str → Option Value} {y : Str} {X : σ → Value} {Led : σ → List (Addr × Obj) → List (Addr × Obj)} {P : σ → Prop} {μ : σ → Nat} {c : σ} {h' : Heap} {tk' : Nat} {m' : Str → Option Value} {c' : σ} (F : Fr h₀ L h' m') (N : News h₀ L h' (Led c' news)) (a : m' y = some (X c')) (b : ∀ z, z ≠ y → m' z = m₀ z) (p : P c' ∧ μ c' < μ c) : WEnd1 h₀ L news y X Led m₀ P μ Q s c .next { s with heap := h', toks := tk' } := ⟨h', tk', m', c', rfl, F, N, a, b, p⟩
noncomputable def WDone1 {σ : Type} (h₀ : Heap) (L : Addr) (news : List (Addr × Obj)) (y : Str) (X : σ → Value) (Led : σ → List (Addr × Obj) → List (Addr × Obj)) (m₀ : Str → Option Value) (Bd : σ → Prop) (s : Shared) (c : σ) (s₂ : Shared) : Prop :=
  Bd c ∧ ∃ h' tk', s₂ = { s with heap := h', toks := tk' } ∧ Fr h₀ L h' (fun z => if z = y then some (X c) else m₀ z) ∧ News h₀ L h' (Led c news)
theorem WDone1.mk {σ : Type} {h₀ : Heap} {L : Addr} {s : Shared} {news : List (Addr × Obj)} {m₀ : Str → Option Value} {y : Str} {X : σ → Value} {Led : σ → List (Addr × Obj) → List (Addr × Obj)} {Bd : σ → Prop} {c : σ} {h' : Heap} {tk' : Nat}  (e : Bd c) (F : Fr h₀ L h' (fun z => if z = y then some (X c) else m₀ z)) (N : News h₀ L h' (Led c news)) : WDone1 h₀ L news y X Led m₀ Bd s c { s with heap := h', toks := tk' } := ⟨e, h', tk', rfl, F, N⟩
theorem while_s1 {σ : Type} {test : Expr} {body : List Stmt} {pos : Pos} {Q : Flow → Shared → Prop} {m₀ : Str → Option Value} (y : Str) (c₀ : σ) (X : σ → Value) (Led : σ → List (Addr × Obj) → List (Addr × Obj)) (P : σ → Prop) (μ : σ → Nat) (Bd : σ → Prop) (F : Fr h₀ L s.heap m₀) (N : News h₀ L s.heap news)
    (hl : Led c₀ news = news) (hy : m₀ y = some (X c₀)) (hp : P c₀)
    (turn : ∀ c h tk, P c → Fr h₀ L h (fun z => if z = y then some (X c) else m₀ z) → News h₀ L h (Led c news) →
      wpAny (model prog w) A (isTrue test env (eval test env)) (fun b s₂ => if b = true then wpAny (model prog w) A (execs body env) (WEnd1 h₀ L news y X Led m₀ P μ Q s c) E s₂ else WDone1 h₀ L news y X Led m₀ Bd s c s₂) E { s with heap := h, toks := tk })
    (done : ∀ c h tk, Bd c → Fr h₀ L h (fun z => if z = y then some (X c) else m₀ z) → News h₀ L h (Led c news) → Q .next { s with heap := h, toks := tk })
    (hE : PassesOwn (model prog w) A env E := by passes_own) :
    wpAny (model prog w) A (exec (.While test body [] pos) env) Q E s := by
  refine While_inv2 (fun n m nx => ∃ c, nx = Led c news ∧ m y = some (X c) ∧ (∀ z, z ≠ y → m z = m₀ z) ∧ P c ∧ μ c = n) F N ⟨c₀, hl.symm, hy, fun _ _ => rfl, hp, rfl⟩ ?_ hE
  intro n m₁ nx h tk F₁ N₁ rr7
  refine byG ?_
  intro GG hGG
  obtain ⟨c, rfl, h1, h2, hp', rfl⟩ := rr7
  refine hGG ?_
  clear hGG GG
  have e : m₁ = fun z => if z = y then some (X c) else m₀ z := by
    funext z
    by_cases hz : z = y
    · rw [if_pos hz, hz, h1]
    · rw [if_neg hz, h2 z hz]
  rw [e] at F₁
  refine wpAny_mono (turn c h tk hp' F₁ N₁) (fun b s₂ p => ?_) fun _ _ x => x
  cases b with
  | false =>
    simp only [Bool.false_eq_true, if_false] at p ⊢
    refine byG ?_
    intro GG hGG
    obtain ⟨hB, h', tk', rfl, F₂, N₂⟩ := p
    refine hGG ?_
    clear hGG GG
    exact done c h' tk' hB F₂ N₂
  | true =>
    simp only [if_true] at p ⊢
    refine wpAny_mono p (fun f s₃ q => ?_) fun _ _ x => x
    revert q
    apply flow_cases f
    rotate_left 3
    · exact fun k => k
    · exact fun _ q => q
    · exact fun q => q
    intro rr0
    refine byG ?_
    intro GG hGG
    obtain ⟨h', tk', m', c', rfl, F', N', a1, a2, a3, a4⟩ := rr0
    refine hGG ?_
    clear hGG GG
    exact ⟨h', tk', m', _, μ c', rfl, F', N', a4, c', rfl, a1, a2, a3, rfl⟩
noncomputable def WEnd2 {σ : Type} (h₀ : Heap) (L : Addr) (news : List (Addr × Obj)) (y y' : Str) (X X' : σ → Value) (m₀ : Str → Option Value) (P : σ → Prop) (μ : σ → Nat) (Q : Flow → Shared → Prop) (s : Shared) (c : σ) (fl : Flow) (s₂ : Shared) : Prop :=
  match fl with
  | .brk => Q .next s₂
  | .ret v => Q (.ret v) s₂
  | _ => ∃ h' tk' m' c', s₂ = { s with heap := h', toks := tk' } ∧ Fr h₀ L h' m' ∧ News h₀ L h' news ∧ m' y = some (X c') ∧ m' y' = some (X' c') ∧ (∀ z, z ≠ y → z ≠ y' → m' z = m₀ z) ∧ P c' ∧ μ c' < μ c
theorem WEnd2.mk {σ : Type} {h₀ : Heap} {L : Addr} {s : Shared} {news : List (Addr × Obj)} {Q : Flow → Shared → Prop} {m₀ : Str → Option Value} {y y' : Str} {X X' : σ → Value} {P : σ → Prop} {μ : σ → Nat} {c : σ} {h' : Heap} {tk' : Nat} {m' : Str → Option Value} {c' : σ} (F : Fr h₀ L h' m') (N : News h₀ L h' news) (a : m' y = some (X c')) (a' : m' y' = some (X' c')) (b : ∀ z, z ≠ y → z ≠ y' → m' z = m₀ z) (p : P c' ∧ μ c' < μ c) : WEnd2 h₀ L news y y' X X' m₀ P μ Q s c .next { s with heap := h', toks := tk' } := ⟨h', tk', m', c', rfl, F, N, a, a', b, p⟩
noncomputable def WDone2 {σ : Type} (h₀ : Heap) (L : Addr) (news : List (Addr × Obj)) (y y' : Str) (X X' : σ → Value) (m₀ : Str → Option Value) (Bd : σ → Prop) (s : Shared) (c : σ) (s₂ : Shared) : Prop :=
  Bd c ∧ ∃ h' tk', s₂ = { s with heap := h', toks := tk' } ∧ Fr h₀ L h' (fun z => if z = y then some (X c) else if z = y' then some (X' c) else m₀ z) ∧ News h₀ L h' news
theorem WDone2.mk {σ : Type} {h₀ : Heap} {L : Addr} {s : Shared} {news : List (Addr × Obj)} {m₀ : Str → Option Value} {y y' : Str} {X X' : σ → Value} {Bd : σ → Prop} {c : σ} {h' : Heap} {tk' : Nat}  (e : Bd c) (F : Fr h₀ L h' (fun z => if z = y then some (X c) else if z = y' then some (X' c) else m₀ z)) (N : News h₀ L h' news) : WDone2 h₀ L news y y' X X' m₀ Bd s c { s with heap := h', toks := tk' } := ⟨e, h', tk', rfl, F, N⟩
theorem while_s2 {σ : Type} {test : Expr} {body : List Stmt} {pos : Pos} {Q : Flow → Shared → Prop} {m₀ : Str → Option Value} (y y' : Str) (c₀ : σ) (X X' : σ → Value) (P : σ → Prop) (μ : σ → Nat) (Bd : σ → Prop) (F : Fr h₀ L s.heap m₀) (N : News h₀ L s.heap news)
    (hy : m₀ y = some (X c₀)) (hy' : m₀ y' = some (X' c₀)) (hp : P c₀)
    (turn : ∀ c h tk, P c → Fr h₀ L h (fun z => if z = y then some (X c) else if z = y' then some (X' c) else m₀ z) → News h₀ L h news →
      wpAny (model prog w) A (isTrue test env (eval test env)) (fun b s₂ => if b = true then wpAny (model prog w) A (execs body env) (WEnd2 h₀ L news y y' X X' m₀ P μ Q s c) E s₂ else WDone2 h₀ L news y y' X X' m₀ Bd s c s₂) E { s with heap := h, toks := tk })
    (done : ∀ c h tk, Bd c → Fr h₀ L h (fun z => if z = y then some (X c) else if z = y' then some (X' c) else m₀ z) → News h₀ L h news → Q .next { s with heap := h, toks := tk })
    (hE : PassesOwn (model prog w) A env E := by passes_own) :
    wpAny (model prog w) A (exec (.While test body [] pos) env) Q E s := by
  refine While_inv2 (fun n m nx => nx = news ∧ ∃ c, m y = some (X c) ∧ m y' = some (X' c) ∧ (∀ z, z ≠ y → z ≠ y' → m z = m₀ z) ∧ P c ∧ μ c = n) F N ⟨rfl, c₀, hy, hy', fun _ _ _ => rfl, hp, rfl⟩ ?_ hE
  intro n m₁ nx h tk F₁ N₁ rr7
  refine byG ?_
  intro GG hGG
  obtain ⟨rfl, c, h1, h1', h2, hp', rfl⟩ := rr7
  refine hGG ?_
  clear hGG GG
  have e : m₁ = fun z => if z = y then some (X c) else if z = y' then some (X' c) else m₀ z := by
    funext z
    by_cases hz : z = y
    · rw [if_pos hz, hz, h1]
    · by_cases hz' : z = y'
      · rw [if_neg hz, if_pos hz', hz', h1']
      · rw [if_neg hz, if_neg hz', h2 z hz hz']
  rw [e] at F₁
  refine wpAny_mono (turn c h tk hp' F₁ N₁) (fun b s₂ p => ?_) fun _ _ x => x
  cases b with
  | false =>
    simp only [Bool.false_eq_true, if_false] at p ⊢
    refine byG ?_
    intro GG hGG
    obtain ⟨hB, h', tk', rfl, F₂, N₂⟩ := p
    refine hGG ?_
    clear hGG GG
    exact done c h' tk' hB F₂ N₂
  | true =>
    simp only [if_true] at p ⊢
    refine wpAny_mono p (fun f s₃ q => ?_) fun _ _ x => x
    revert q
    apply flow_cases f
    rotate_left 3
    · exact fun k => k
    · exact fun _ q => q
    · exact fun q => q
    intro rr0
    refine byG ?_
    intro GG hGG
    obtain ⟨h', tk', m', c', rfl, F', N', a1, a1', a2, a3, a4⟩ := rr0
    refine hGG ?_
    clear hGG GG
    exact ⟨h', tk', m', nx, μ c', rfl, F', N', a4, rfl, c', a1, a1', a2, a3, rfl⟩
theorem ints_of {l : List UInt8} {vs : List Value} (p : Paired ByteIs l vs) : IntsAre vs (l.map fun c => (c.toNat : Int)) := by
  induction p with
  | nil => exact .nil
  | cons h r ih => obtain ⟨_, e⟩ := h; subst e; exact .cons _ _ ih
theorem byteArr_of (l : List UInt8) : byteArr (l.map fun c => (c.toNat : Int)) = l.toArray := by
  unfold byteArr
  rw [List.map_map]
  congr 1
  exact (List.map_congr_left (g := _root_.id) fun c _ => byte_round c).trans (List.map_id _)
theorem len_L {m : Str → Option Value} {its : Array Value} {n : Nat} {D : Addr} {Q : Value → Shared → Prop} (_ : Fr h₀ L s.heap m) (N : News h₀ L s.heap news) (hm : (D, listOf its n) ∈ news) (hz : its.size ≤ 16777216)
    (h : ∀ t' k, Q (.int (its.size : Nat) t') { s with toks := k }) : wpAny (model prog w) A (call (.builtin "len") [.ref D]) Q E s :=
  len_list ⟨_, (N _ hm).1, rfl, _, rfl⟩ (by omega) (h _ _)
theorem bytes_list {m : Str → Option Value} {l : List UInt8} {its : Array Value} {n : Nat} {D : Addr} {Q : Value → Shared → Prop} (F : Fr h₀ L s.heap m) (N : News h₀ L s.heap news) (hh : A.handled = none) (hm : (D, listOf its n) ∈ news) (hp : Paired ByteIs l its.toList) (hz : l.length ≤ 16777216)
    (h : ∀ h' t' k, Fr h₀ L h' m → News h₀ L h' news → Q (.bytes l.toArray t') { s with heap := h', toks := k }) : wpAny (model prog w) A (call (.type "bytes") [.ref D]) Q E s := by
  have hl : s.heap.IsList D its.toList.toArray := ⟨_, (N _ hm).1, rfl, _, by rw [Array.toArray_toList]⟩
  refine KBa.make_K F N hh hl (ints_of hp) ?_ (by simpa using hz) fun h' t' k F' N' _ => ?_
  · intro n hn
    refine byG ?_
    intro GG hGG
    obtain ⟨c, _, rfl⟩ := List.mem_map.mp hn
    refine hGG ?_
    clear hGG GG
    have hc : c.toNat < 256 := c.toNat_lt
    omega
  · rw [byteArr_of]
    exact h h' t' k F' N'
theorem bytes_lst {m : Str → Option Value} {l : List UInt8} {ys : List Value} {D : Addr} {Q : Value → Shared → Prop} (F : Fr h₀ L s.heap m) (N : News h₀ L s.heap news) (hh : A.handled = none) (hm : (D, LCg.lst ys) ∈ news) (hp : Paired ByteIs l ys) (hz : l.length ≤ 16777216)
    (h : ∀ h' t' k, Fr h₀ L h' m → News h₀ L h' news → Q (.bytes l.toArray t') { s with heap := h', toks := k }) : wpAny (model prog w) A (call (.type "bytes") [.ref D]) Q E s :=
  bytes_list (its := ys.toArray) (n := ys.length) F N hh hm (by simpa using hp) hz h
end
end Internal
namespace Internal
section
variable {prog : Program} {w : World} {A : Around} {E : Value → Shared → Prop} {s : Shared} {h₀ : Heap} {news : List (Addr × Obj)} {env : Env}
noncomputable def FEnd {σ : Type} (h₀ : Heap) (L : Addr) (nw : List (Addr × Obj)) (x y : Str) (X : σ → Value) (m₀ : Str → Option Value) (P : σ → Prop) (Q : Flow → Shared → Prop) (s : Shared) (fl : Flow) (s₂ : Shared) : Prop :=
  match fl with
  | .brk => Q .next s₂
  | .ret v => Q (.ret v) s₂
  | _ => ∃ h' tk' m' c', s₂ = { s with heap := h', toks := tk' } ∧ Fr h₀ L h' m' ∧ News h₀ L h' nw ∧ m' y = some (X c') ∧ (∀ z, z ≠ x → z ≠ y → m' z = m₀ z) ∧ P c'
theorem loopAtV_mk {x : Str} {body : List Stmt} {Q : Flow → Shared → Prop} {it : Value} {s₂ : Shared} {I : Addr} {fp wr : List Addr} {n : Nat} {P : Nat → Value → Prop} {St : Nat → Heap → Prop} {m : Str → Option Value} (J : Nat → (Str → Option Value) → List (Addr × Obj) → Prop)
    (e1 : it = .ref I) (e2 : Walks prog w A I fp wr n P St) (e3 : env.locals ∉ fp) (e4 : ∀ b ∈ wr, h₀.get? b = none) (e5 : ∀ p ∈ news, p.1 ∉ wr) (e6 : St 0 s₂.heap) (e7 : Fr h₀ env.locals s₂.heap m) (e8 : News h₀ env.locals s₂.heap news) (e9 : J 0 m news)
    (e10 : ∀ i v m₁ news₁ s₁ own, (∃ h tk, s₁ = { s₂ with heap := h, toks := tk }) → i < n → P i v → J i m₁ news₁ → (∀ p ∈ news₁, p.1 ∉ wr) → (∀ p ∈ own, p.1 ∈ fp) → (∀ p ∈ own, s₁.heap.get? p.1 = some p.2) → (∀ b ∈ fp, h₀.get? b = none → ∀ o, s₁.heap.get? b = some o → (b, o) ∈ own) → St (i + 1) s₁.heap →
      Fr h₀ env.locals s₁.heap (fun y => if y = x then some v else m₁ y) → News h₀ env.locals s₁.heap (own ++ news₁) → wpAny (model prog w) A (execs body env) (LoopStepV h₀ env.locals wr own (J (i + 1)) s₁ (fun v s' => Q (.ret v) s') fun s' => Q .next s') E s₁)
    (e11 : ∀ h' tk m' news', Fr h₀ env.locals h' m' → News h₀ env.locals h' news' → (∀ p ∈ news', p.1 ∉ wr) → J n m' news' → Q .next { s₂ with heap := h', toks := tk }) : LoopAtV prog w A h₀ env x body Q E it s₂ :=
  ⟨I, fp, wr, n, P, St, m, news, J, e1, e2, e3, e4, e5, e6, e7, e8, e9, e10, e11⟩
theorem FEnd.mk {σ : Type} {L : Addr} {nw : List (Addr × Obj)} {x y : Str} {X : σ → Value} {m₀ : Str → Option Value} {P : σ → Prop} {Q : Flow → Shared → Prop} {h' : Heap} {tk' : Nat} {m' : Str → Option Value} {c' : σ} (F : Fr h₀ L h' m') (N : News h₀ L h' nw) (a : m' y = some (X c')) (b : ∀ z, z ≠ x → z ≠ y → m' z = m₀ z) (p : P c') :
    FEnd h₀ L nw x y X m₀ P Q s .next { s with heap := h', toks := tk' } := ⟨h', tk', m', c', rfl, F, N, a, b, p⟩
theorem FEnd_ret {σ : Type} {L : Addr} {nw : List (Addr × Obj)} {x y : Str} {X : σ → Value} {m₀ : Str → Option Value} {P : σ → Prop} {Q : Flow → Shared → Prop} {s₂ : Shared} {v : Value} : FEnd h₀ L nw x y X m₀ P Q s (.ret v) s₂ = Q (.ret v) s₂ := rfl
theorem loop_B {σ : Type} {x : Str} {body : List Stmt} {Q : Flow → Shared → Prop} {m₀ : Str → Option Value} {l : List UInt8} {tb : Tok} (y : Str) (c₀ : σ) (X : σ → Value) (P : Nat → σ → Prop) (hh : A.handled = none) (F : Fr h₀ env.locals s.heap m₀) (N : News h₀ env.locals s.heap news)
    (hy : m₀ y = some (X c₀)) (hp : P 0 c₀)
    (turn : ∀ i c t a h tk own, l[i]? = some c → OwnOff own (news.map (·.1)) → P i a → Fr h₀ env.locals h (fun z => if z = x then some (.int (c.toNat : Int) t) else if z = y then some (X a) else m₀ z) → News h₀ env.locals h (news ++ own) →
      wpAny (model prog w) A (execs body env) (FEnd h₀ env.locals (news ++ own) x y X m₀ (P (i + 1)) Q s) E { s with heap := h, toks := tk })
    (done : ∀ a u h tk, P l.length a → Fr h₀ env.locals h (fun z => if z = x then u else if z = y then some (X a) else m₀ z) → News h₀ env.locals h news → Q .next { s with heap := h, toks := tk }) :
    wpAny (model prog w) A (pyIter (.bytes l.toArray tb)) (fun it s₂ => LoopAtV prog w A h₀ env x body Q E it s₂) E s := by
  refine KBw.pyIter_bytes ?_
  refine loop_invN (n := l.toArray.size) (fun i m nx => nx = news ∧ ∃ a, m y = some (X a) ∧ (∀ z, z ≠ x → z ≠ y → m z = m₀ z) ∧ P i a) (KBw.walks (prog := prog) (w := w) hh s.heap.objs.size l.toArray tb) ?_ ?_ ?_ ?_ ⟨_, Heap.get?_push_size _ rfl, rfl, rfl⟩ (F.push _) (fun p hp => ⟨Heap.get?_push_of_some _ (N p hp).1, (N p hp).2⟩) ⟨rfl, c₀, hy, fun _ _ _ => rfl, hp⟩ ?_ ?_
  · intro hm
    exact absurd F.ns.lt ((List.mem_singleton.mp hm) ▸ Nat.lt_irrefl _)
  · intro b' hb
    rw [List.mem_singleton.mp hb]
    exact next_is_new F
  · intro p hp hm
    exact absurd (Heap.lt_size (N p hp).1) ((List.mem_singleton.mp hm) ▸ Nat.lt_irrefl _)
  · intro p hp hm
    exact absurd (Heap.lt_size (N p hp).1) ((List.mem_singleton.mp hm) ▸ Nat.lt_irrefl _)
  · intro i v m₁ nx h tk own hi rr8 _ hoff rr11 F₁ N₁
    refine byG ?_
    intro GG hGG
    obtain ⟨c, u, hc, rfl⟩ := rr8
    obtain ⟨rfl, a, ha, hm, hPa⟩ := rr11
    refine hGG ?_
    clear hGG GG
    have e : (fun z => if z = x then some (Value.int (c.toNat : Int) u) else m₁ z) = fun z => if z = x then some (Value.int (c.toNat : Int) u) else if z = y then some (X a) else m₀ z := by
      funext z
      by_cases hz : z = x
      · rw [if_pos hz, if_pos hz]
      · rw [if_neg hz, if_neg hz]
        by_cases hz' : z = y
        · rw [if_pos hz', hz', ha]
        · rw [if_neg hz', hm z hz hz']
    rw [e] at F₁
    refine wpAny_mono (turn i c u a h tk own (by simpa using hc) hoff hPa F₁ N₁) (fun f s₂ q => ?_) fun _ _ x => x
    revert q
    apply flow_cases f
    rotate_left 3
    · exact fun k => k
    · exact fun _ q => q
    · exact fun q => q
    intro rr0
    refine byG ?_
    intro GG hGG
    obtain ⟨h', tk', m', c', rfl, F', N', a1, a2, a3⟩ := rr0
    refine hGG ?_
    clear hGG GG
    exact ⟨h', tk', m', nx ++ own, nx, rfl, F', N', fun p hp => List.mem_append_left _ hp, fun p hp => List.mem_append_right _ hp, rfl, rfl, c', a1, a2, a3⟩
  · intro m₁ nx h tk rr4 F₁ N₁
    refine byG ?_
    intro GG hGG
    obtain ⟨rfl, a, ha, hm, hPa⟩ := rr4
    refine hGG ?_
    clear hGG GG
    refine done a (m₁ x) h tk (by simpa using hPa) ?_ N₁
    have e : m₁ = fun z => if z = x then m₁ x else if z = y then some (X a) else m₀ z := by
      funext z
      by_cases hz : z = x
      · rw [if_pos hz, hz]
      · rw [if_neg hz]
        by_cases hz' : z = y
        · rw [if_pos hz', hz', ha]
        · rw [if_neg hz', hm z hz hz']
    rw [← e]; exact F₁
theorem loop_A {α σ : Type} {x : Str} {body : List Stmt} {Q : Flow → Shared → Prop} {m₀ : Str → Option Value} {as : List α} {K : α → Value → Prop} {ax : Addr} {its : Array Value} {k : Nat} (y : Str) (c₀ : σ) (X : σ → Value) (P : Nat → σ → Prop) (hh : A.handled = none) (F : Fr h₀ env.locals s.heap m₀) (N : News h₀ env.locals s.heap news)
    (hm : (ax, ({ cls := .type "list", data := .seq its k } : Obj)) ∈ news) (hn : its.size = as.length) (hK : ∀ (i : Nat) (v : Value), its[i]? = some v → ∃ a, as[i]? = some a ∧ K a v)
    (hy : m₀ y = some (X c₀)) (hp : P 0 c₀)
    (turn : ∀ i c v a h tk own, as[i]? = some c → K c v → P i a → Fr h₀ env.locals h (fun z => if z = x then some v else if z = y then some (X a) else m₀ z) → News h₀ env.locals h (news ++ own) →
      wpAny (model prog w) A (execs body env) (FEnd h₀ env.locals (news ++ own) x y X m₀ (P (i + 1)) Q s) E { s with heap := h, toks := tk })
    (done : ∀ a u h tk, P as.length a → Fr h₀ env.locals h (fun z => if z = x then u else if z = y then some (X a) else m₀ z) → News h₀ env.locals h news → Q .next { s with heap := h, toks := tk }) :
    wpAny (model prog w) A (pyIter (.ref ax)) (fun it s₂ => LoopAtV prog w A h₀ env x body Q E it s₂) E s := by
  have hl : s.heap.IsList ax its := ⟨_, (N _ hm).1, rfl, _, rfl⟩
  have hlt : ax < s.heap.objs.size := Heap.lt_size (N _ hm).1
  have hL : env.locals < s.heap.objs.size := F.ns.lt
  refine wpAny_pyIter_list hl ?_
  refine loopAtV_mk (s₂ := ⟨_, _, _, _, _⟩) (wr := [s.heap.objs.size]) (fun i m nx => nx = news ∧ ∃ a, m y = some (X a) ∧ (∀ z, z ≠ x → z ≠ y → m z = m₀ z) ∧ P i a) rfl (Walks.list hh s.heap.objs.size ax (Nat.ne_of_lt hlt) its) ?_ ?_ ?_ ⟨⟨_, Heap.get?_push_size _ rfl, rfl, rfl⟩, hl.push _⟩ (F.push _) (fun p hp => ⟨Heap.get?_push_of_some _ (N p hp).1, (N p hp).2⟩) ⟨rfl, c₀, hy, fun _ _ _ => rfl, hp⟩ ?_ ?_
  · intro hm'
    rcases List.mem_cons.mp hm' with h | h
    · exact absurd hL (h ▸ Nat.lt_irrefl _)
    · exact (N _ hm).2.1 (List.mem_singleton.mp h).symm
  · intro b' hb
    rw [List.mem_singleton.mp hb]
    exact next_is_new F
  · intro p hp hm'
    exact absurd (Heap.lt_size (N p hp).1) ((List.mem_singleton.mp hm') ▸ Nat.lt_irrefl _)
  · intro i v m₁ nx s₁ own rr6 hin hP rr9 hoff hown _ _ _ F₁ N₁
    refine byG ?_
    intro GG hGG
    obtain ⟨hh', tk', rfl⟩ := rr6
    obtain ⟨rfl, a, ha, hm', hPa⟩ := rr9
    refine hGG ?_
    clear hGG GG
    refine byG ?_
    intro GG hGG
    obtain ⟨c, hc, hKc⟩ := hK i v hP
    refine hGG ?_
    clear hGG GG
    have e : (fun z => if z = x then some v else m₁ z) = fun z => if z = x then some v else if z = y then some (X a) else m₀ z := by
      funext z
      by_cases hz : z = x
      · rw [if_pos hz, if_pos hz]
      · rw [if_neg hz, if_neg hz]
        by_cases hz' : z = y
        · rw [if_pos hz', hz', ha]
        · rw [if_neg hz', hm' z hz hz']
    rw [e] at F₁
    have N₂ : News h₀ env.locals hh' (nx ++ own) := fun p hp => N₁ p ((List.mem_append.mp hp).elim (fun h => List.mem_append.mpr (.inr h)) fun h => List.mem_append.mpr (.inl h))
    have back : ∀ {h'}, News h₀ env.locals h' (nx ++ own) → News h₀ env.locals h' (own ++ nx) := fun N' p hp => N' p ((List.mem_append.mp hp).elim (fun h => List.mem_append.mpr (.inr h)) fun h => List.mem_append.mpr (.inl h))
    refine wpAny_mono (turn i c v a hh' tk' own hc hKc hPa F₁ N₂) (fun f s₂ q => ?_) fun _ _ x => x
    revert q
    apply flow_cases f
    rotate_left 3
    · exact fun k => k
    · exact fun _ q => q
    · exact fun q => q
    intro rr0
    refine byG ?_
    intro GG hGG
    obtain ⟨h', tk', m', c', rfl, F', N', a1, a2, a3⟩ := rr0
    refine hGG ?_
    clear hGG GG
    exact ⟨rfl, h', tk', m', nx, rfl, F', back N', hoff, rfl, c', a1, a2, a3⟩
  · intro h tk m₁ nx F₁ N₁ _ rr7
    refine byG ?_
    intro GG hGG
    obtain ⟨rfl, a, ha, hm', hPa⟩ := rr7
    refine hGG ?_
    clear hGG GG
    refine done a (m₁ x) h tk (by rw [← hn]; exact hPa) ?_ N₁
    have e : m₁ = fun z => if z = x then m₁ x else if z = y then some (X a) else m₀ z := by
      funext z
      by_cases hz : z = x
      · rw [if_pos hz, hz]
      · rw [if_neg hz]
        by_cases hz' : z = y
        · rw [if_pos hz', hz', ha]
        · rw [if_neg hz', hm' z hz hz']
    rw [← e]; exact F₁
end
end Internal
namespace Internal
open LCg LCt
section
variable {prog : Program} {w : World} {A : Around} {E : Value → Shared → Prop} {s : Shared} {h₀ : Heap} {L : Addr} {m : Str → Option Value} {env : Env}
noncomputable def From1A (prog : Program) (w : World) (A : Around) (h₀ : Heap) (L : Addr) (m : Str → Option Value) (env : Env) (y : Str) (ct elt : Expr) (x : Str) (scope : Scope) (cl : List (Str × Addr)) (Q : Flow → Shared → Prop) (xv : Value) (s₁ : Shared) : Prop :=
  ∃ (α : Type) (news : List (Addr × Obj)) (as : List α) (K : α → Value → Prop) (G : α → Option Value → Prop), Fr h₀ L s₁.heap m ∧ News h₀ L s₁.heap news ∧ as.length ≤ sizeLine ∧ Src prog w A h₀ L news xv as K s₁ ∧ (∀ g, Step1 prog w A h₀ L m env ct elt x scope cl { s₁ with heap := g } news as K G) ∧
    ∀ D zs h tk, Fr h₀ L h (fun z => if z = y then some (.ref D) else m z) → News h₀ L h ((D, lst (zs.filterMap id)) :: news) → Off1 D news → Paired G as zs → Q .next { s₁ with heap := h, toks := tk }
theorem assign1 {ct elt iter : Expr} {x y : Str} {px py : Pos} {scope : Scope} {cl : List (Str × Addr)} {pos spos : Pos} {Q : Flow → Shared → Prop} (_F₀ : Fr h₀ env.locals s.heap m)
    (hsw : swapsWith (.ListComp elt [⟨.Name x px, iter, [ct], 0⟩] scope pos) (some (.Name y py)) spos.line env = pure true)
    (hclos : closureFor scope env = pure cl) (hcell : ∀ y ∈ scope.names, y.2 ≠ .cell) (hkind : scope.kind = .function)
    (hnames : ∀ y ∈ scope.names, y.2 = .local → scope.names.lookup y.1 = some .local) (hx : scope.names.lookup x = some .local)
    (hy : env.kindOf y = some .local) (hp : (env.scope.kind == .class || (env.scope.kind == .module && env.locals != env.globals)) = false)
    (h : wpAny (model prog w) A (eval iter env) (From1A prog w A h₀ env.locals m env y ct elt x scope cl Q) E s)
    (hs : ∀ x, foldedSetIterable iter env x = pure x := by intro _; rfl) :
    wpAny (model prog w) A (exec (.Assign [.Name y py] (.ListComp elt [⟨.Name x px, iter, [ct], 0⟩] scope pos) spos) env) Q E s := by
  rw [exec_Assign_Name_used _ _ _ _ hsw]
  refine wpAny_bind (wpAny_standAt (wpAny_bind ?_))
  show wpAny _ A (do let _ ← comprehension (.ListComp elt [⟨.Name x px, iter, [ct], 0⟩] scope pos) scope env _ (newList []) false (eval iter env) (some (assign (.Name y py) env))) _ _ s
  refine wpAny_bind (wpAny_mono (wpAny_comprehension_free (use := some (assign (.Name y py) env)) (Q := fun _ s' => Q .next s') rfl hs hclos hkind hnames
    (wpAny_mono h (fun xv s₁ h₁ => ?_) fun _ _ e => e)) (fun _ s' hq => wpAny_pure (wpAny_pure hq)) fun _ _ e => e)
  obtain ⟨α, news, as, K, G, F, N, hsz, hsrc, st, fin⟩ := h₁
  refine hsrc _ _ fun fp St h' W hIo hSt hst hfp up => ?_
  refine block_T (Fin := fun ys nw => nw = news ∧ ∃ zs, ys = zs.filterMap id ∧ Paired G as zs) (S := fun nw => nw = news) W hsz hIo (fun i h h' o nw a b c d e f => hSt i h h' o a b c d (f ▸ e)) hcell hkind hx hst hfp (F.keeps up) (N.grown up) (Nat.ne_of_lt F.ns.lt) (next_is_new F)
    (fun p hp => Nat.ne_of_lt (Heap.lt_size (N p hp).1)) rfl (rest1 (st h') (fun zs p => ⟨rfl, zs, rfl, p⟩) _ 0 [] (Nat.zero_add _) .nil) ?_
  intro D C h tk m' ys news' F' N' o1 hn hC₀ hD₀ hCL hDL hCD offC rr17
  refine byG ?_
  intro GG hGG
  obtain ⟨rfl, zs, rfl, p⟩ := rr17
  refine hGG ?_
  clear hGG GG
  show wpAny _ A (assign (.Name y py) env (.ref D)) _ _ _
  refine wpAny_assign_Name (wpAny_storeName_local hy F'.ns (fun h₂ hn₂ hs₂ => ?_) hp)
  have hL₀ : h₀.get? env.locals = none := Heap.get?_none_of_le F'.above
  have F₂ : Fr h₀ env.locals h₂ (fun z => if z = y then some (.ref D) else m z) := ⟨hn₂, fun b o e => hs₂.extBut b o (fun q => by rw [q, hL₀] at e; cases e) (F'.keep b o e), F'.above⟩
  refine ⟨m', hn.sameBut hs₂ hCL, fun h'' hs'' => fin D zs h'' _ (F₂.change hs'' hCL hC₀) (fun q hq => ?_) o1 p⟩
  have z : h₂.get? q.1 = some q.2 := hs₂.extBut _ _ (N' q hq).2.1 (N' q hq).1
  refine ⟨hs''.extBut _ _ ?_ z, (N' q hq).2⟩
  rcases List.mem_cons.mp hq with rfl | hq
  · exact Ne.symm hCD
  · exact offC q hq
end
end Internal
namespace Internal
section
variable {prog : Program} {w : World} {A : Around} {E : Value → Shared → Prop} {s : Shared} {h₀ : Heap} {env : Env}
noncomputable def DEnd (prog : Program) (w : World) (h₀ : Heap) (L dd : Addr) (nw : List (Addr × Obj)) (x : Str) (m₀ : Str → Option Value) (P : List (Str × Value) → Prop) (Q : Flow → Shared → Prop) (s : Shared) (fl : Flow) (s₂ : Shared) : Prop :=
  match fl with
  | .brk => Q .next s₂
  | .ret v => Q (.ret v) s₂
  | _ => ∃ h' tk' m' o' kvs', s₂ = { s with heap := h', toks := tk' } ∧ Fr h₀ L h' m' ∧ News h₀ L h' ((dd, o') :: nw) ∧ (∀ z, z ≠ x → m' z = m₀ z) ∧ o'.IsDictOf (PySem.strKind prog w) kvs' ∧ P kvs'
theorem DEnd.mk {h₀ : Heap} {L : Addr} {s : Shared} {news : List (Addr × Obj)} {Q : Flow → Shared → Prop} {m₀ : Str → Option Value} {prog : Program} {w : World} {dd : Addr} {x : Str} {P : List (Str × Value) → Prop} {h' : Heap} {tk' : Nat} {m' : Str → Option Value} {o' : Obj} {kvs' : List (Str × Value)} (F : Fr h₀ L h' m') (N : News h₀ L h' ((dd, o') :: news)) (b : ∀ z, z ≠ x → m' z = m₀ z) (d : o'.IsDictOf (PySem.strKind prog w) kvs') (p : P kvs') : DEnd prog w h₀ L dd news x m₀ P Q s .next { s with heap := h', toks := tk' } := ⟨h', tk', m', o', kvs', rfl, F, N, b, d, p⟩
theorem loop_D {x : Str} {body : List Stmt} {Q : Flow → Shared → Prop} {m₀ : Str → Option Value} {names : List Str} {T dd : Addr} {its : Array Value} {k : Nat} {o₀ : Obj} {rest : List (Addr × Obj)} {kvs₀ : List (Str × Value)} (P : Nat → List (Str × Value) → Prop) (hh : A.handled = none) (F : Fr h₀ env.locals s.heap m₀)
    (N : News h₀ env.locals s.heap ((T, ({ cls := .type "tuple", data := .seq its k } : Obj)) :: (dd, o₀) :: rest)) (hTd : @LT.lt Nat _ dd T) (hTr : ∀ p ∈ rest, @LT.lt Nat _ p.1 T) (hdr : ∀ p ∈ rest, p.1 ≠ dd) (hn : its.size = names.length) (hK : ∀ (i : Nat) (v : Value), its[i]? = some v → ∃ a, names[i]? = some a ∧ ∃ t, v = .str a t)
    (hd : o₀.IsDictOf (PySem.strKind prog w) kvs₀) (hp : P 0 kvs₀)
    (turn : ∀ i a t o kvs h tk own, names[i]? = some a → P i kvs → o.IsDictOf (PySem.strKind prog w) kvs → (∀ p ∈ rest ++ own, p.1 ≠ dd) → Fr h₀ env.locals h (fun z => if z = x then some (.str a t) else m₀ z) → News h₀ env.locals h ((dd, o) :: (rest ++ own)) →
      wpAny (model prog w) A (execs body env) (DEnd prog w h₀ env.locals dd (rest ++ own) x m₀ (P (i + 1)) Q s) E { s with heap := h, toks := tk })
    (done : ∀ o kvs u h tk, P names.length kvs → o.IsDictOf (PySem.strKind prog w) kvs → Fr h₀ env.locals h (fun z => if z = x then u else m₀ z) → News h₀ env.locals h ((dd, o) :: rest) → Q .next { s with heap := h, toks := tk }) :
    wpAny (model prog w) A (pyIter (.ref T)) (fun it s₂ => LoopAtV prog w A h₀ env x body Q E it s₂) E s := by
  have NT := N _ (List.Mem.head _)
  have hl : s.heap.IsTuple T its := ⟨_, NT.1, rfl, _, rfl⟩
  have hlt : T < s.heap.objs.size := Heap.lt_size NT.1
  have hL : env.locals < s.heap.objs.size := F.ns.lt
  have N0 : News h₀ env.locals s.heap ((dd, o₀) :: rest) := fun p hp => N p (List.Mem.tail _ hp)
  refine wpAny_pyIter_tuple hl ?_
  refine loopAtV_mk (s₂ := ⟨_, _, _, _, _⟩) (wr := [s.heap.objs.size]) (fun i m nx => ∃ o kvs, nx = (dd, o) :: rest ∧ (∀ z, z ≠ x → m z = m₀ z) ∧ o.IsDictOf (PySem.strKind prog w) kvs ∧ P i kvs) rfl (Walks.tuple hh s.heap.objs.size T (Nat.ne_of_lt hlt) its) ?_ ?_ ?_ ⟨⟨_, Heap.get?_push_size _ rfl, rfl, rfl⟩, _, Heap.get?_push_of_some _ NT.1, rfl, _, rfl⟩ (F.push _) (fun p hp => ⟨Heap.get?_push_of_some _ (N0 p hp).1, (N0 p hp).2⟩) ⟨o₀, kvs₀, rfl, fun _ _ => rfl, hd, hp⟩ ?_ ?_
  · intro hm'
    rcases List.mem_cons.mp hm' with h | h
    · exact absurd hL (h ▸ Nat.lt_irrefl _)
    · exact NT.2.1 (List.mem_singleton.mp h).symm
  · intro b' hb
    rw [List.mem_singleton.mp hb]
    exact next_is_new F
  · intro p hp hm'
    exact absurd (Heap.lt_size (N0 p hp).1) ((List.mem_singleton.mp hm') ▸ Nat.lt_irrefl _)
  · intro i v m₁ nx s₁ own rr6 hin hP rr9 hoff hown hget _ _ F₁ N₁
    refine byG ?_
    intro GG hGG
    obtain ⟨hh', tk', rfl⟩ := rr6
    obtain ⟨o, kvs, rfl, hm', hdk, hPa⟩ := rr9
    refine hGG ?_
    clear hGG GG
    refine byG ?_
    intro GG hGG
    obtain ⟨a, ha, t, rfl⟩ := hK i v hP
    refine hGG ?_
    clear hGG GG
    have e : (fun z => if z = x then some (Value.str a t) else m₁ z) = fun z => if z = x then some (Value.str a t) else m₀ z := by
      funext z
      by_cases hz : z = x
      · rw [if_pos hz, if_pos hz]
      · rw [if_neg hz, if_neg hz, hm' z hz]
    rw [e] at F₁
    have hne : ∀ p ∈ rest ++ own, p.1 ≠ dd := by
      intro p hp
      rcases List.mem_append.mp hp with hp | hp
      · exact hdr p hp
      · intro q
        have := hown p hp
        rw [q] at this
        rcases List.mem_cons.mp this with h | h
        · exact absurd (Heap.lt_size (N0 _ (List.Mem.head _)).1) (h ▸ Nat.lt_irrefl _)
        · exact absurd hTd ((List.mem_singleton.mp h) ▸ Nat.lt_irrefl _)
    have sw : ∀ {h' : Heap} {o : Obj}, News h₀ env.locals h' ((dd, o) :: (rest ++ own)) → News h₀ env.locals h' (own ++ (dd, o) :: rest) := fun N' p hp => N' p (by
      rcases List.mem_append.mp hp with h | h
      · exact List.Mem.tail _ (List.mem_append_right _ h)
      · rcases List.mem_cons.mp h with rfl | h
        · exact List.Mem.head _
        · exact List.Mem.tail _ (List.mem_append_left _ h))
    have N₂ : News h₀ env.locals hh' ((dd, o) :: (rest ++ own)) := fun p hp => N₁ p (by
      rcases List.mem_cons.mp hp with rfl | h
      · exact List.mem_append_right _ (List.Mem.head _)
      · rcases List.mem_append.mp h with h | h
        · exact List.mem_append_right _ (List.Mem.tail _ h)
        · exact List.mem_append_left _ h)
    have off' : ∀ (o' : Obj), ∀ p ∈ (dd, o') :: rest, p.1 ∉ [s.heap.objs.size] := by
      intro o' p hp hm
      rcases List.mem_cons.mp hp with rfl | hp
      · exact hoff (dd, o) (List.Mem.head _) hm
      · exact hoff p (List.Mem.tail _ hp) hm
    refine wpAny_mono (turn i a t o kvs hh' tk' own ha hPa hdk hne F₁ N₂) (fun f s₂ q => ?_) fun _ _ x => x
    revert q
    apply flow_cases f
    rotate_left 3
    · exact fun k => k
    · exact fun _ q => q
    · exact fun q => q
    intro rr0
    refine byG ?_
    intro GG hGG
    obtain ⟨h', tk', m', o', kvs', rfl, F', N', a1, a2, a3⟩ := rr0
    refine hGG ?_
    clear hGG GG
    exact ⟨rfl, h', tk', m', (dd, o') :: rest, rfl, F', sw N', off' o', o', kvs', rfl, a1, a2, a3⟩
  · intro h tk m₁ nx F₁ N₁ _ rr7
    refine byG ?_
    intro GG hGG
    obtain ⟨o, kvs, rfl, hm', hdk, hPa⟩ := rr7
    refine hGG ?_
    clear hGG GG
    refine done o kvs (m₁ x) h tk (by rw [← hn]; exact hPa) hdk ?_ N₁
    have e : m₁ = fun z => if z = x then m₁ x else m₀ z := by
      funext z
      by_cases hz : z = x
      · rw [if_pos hz, hz]
      · rw [if_neg hz, hm' z hz]
    rw [← e]; exact F₁
theorem dset {L d : Addr} {m : Str → Option Value} {o : Obj} {rest : List (Addr × Obj)} {kvs : List (Str × Value)} {key v : Value} {k : Str} {Q : Unit → Shared → Prop} (F : Fr h₀ L s.heap m) (N : News h₀ L s.heap ((d, o) :: rest)) (hr : ∀ p ∈ rest, p.1 ≠ d) (hd : o.IsDictOf (PySem.strKind prog w) kvs) (hkey : (PySem.strKind prog w).is k key = true) (hsz : kvs.length ≤ 1000)
    (h : ∀ h' o' tk', Fr h₀ L h' m → News h₀ L h' ((d, o') :: rest) → o'.IsDictOf (PySem.strKind prog w) (stored kvs k v) → Q () { s with heap := h', toks := tk' }) : wpAny (model prog w) A (setItem (.ref d) key v) Q E s :=
  kda_set F N (UpdF.head hr) hd hkey (by rw [sizeLine_eq]; first | exact Nat.lt_of_le_of_lt hsz (by decide) | exact Nat.le_trans hsz (by decide) | exact Nat.le_trans (Nat.succ_le_succ hsz) (by decide)) fun h' o' F' N' hd' => h h' o' _ F' N' hd'
end
theorem va_set (kvs : List (Str × Value)) (k j : Str) (v : Value) : valueAt (stored kvs k v) j = if j = k then some v else valueAt kvs j := by
  by_cases h : kvs.any (fun kv => kv.1 = k)
  · rw [stored, if_pos h]
    by_cases hj : j = k
    · rw [if_pos hj]
      subst hj
      induction kvs with
      | nil => simp at h
      | cons p r ih =>
        by_cases hp : p.1 = j
        · simp [valueAt, hp]
        · simp only [List.any_cons, hp, decide_false, Bool.false_or] at h
          have := ih h
          simp only [valueAt, List.map_cons, hp, if_false] at this ⊢
          rw [List.find?_cons_of_neg (by simpa using hp)]
          exact this
    · rw [if_neg hj]
      clear h
      induction kvs with
      | nil => rfl
      | cons p r ih =>
        simp only [valueAt, List.map_cons] at ih ⊢
        by_cases hp : p.1 = k
        · rw [if_pos hp, List.find?_cons_of_neg (by simpa [hp] using fun q => hj q.symm), List.find?_cons_of_neg (by simpa [hp] using fun q => hj q.symm)]
          exact ih
        · rw [if_neg hp]
          by_cases hq : p.1 = j
          · rw [List.find?_cons_of_pos (by simpa using hq), List.find?_cons_of_pos (by simpa using hq)]
          · rw [List.find?_cons_of_neg (by simpa using hq), List.find?_cons_of_neg (by simpa using hq)]
            exact ih
  · rw [stored, if_neg h]
    have hn : kvs.find? (fun kv => kv.1 = k) = none := by
      rw [List.find?_eq_none]
      intro x hx hk
      exact h (List.any_eq_true.mpr ⟨x, hx, hk⟩)
    by_cases hj : j = k
    · rw [if_pos hj]; subst hj
      simp [valueAt, List.find?_append, hn]
    · rw [if_neg hj]
      have : ¬ k = j := fun q => hj q.symm
      simp [valueAt, List.find?_append, this]
noncomputable abbrev kGc : Str := Str.ofString "gc"
noncomputable abbrev kNm : Str := Str.ofString "name"
noncomputable def DI (t : Tok) (n : Nat) (b : Prop) (kvs : List (Str × Value)) : Prop := valueAt kvs kGc = some (.str (Str.ofString "Cn") t) ∧ kvs.length ≤ n ∧ (b → valueAt kvs kNm = some .none)
theorem DI.set {t : Tok} {n : Nat} {b b' : Prop} {kvs : List (Str × Value)} {a : Str} {v : Value} (h : DI t n b kvs) (hg : a ≠ kGc) (hb : b' → (a = kNm ∧ v = .none) ∨ (a ≠ kNm ∧ b)) : DI t (n + 1) b' (stored kvs a v) := by
  refine ⟨?_, Nat.le_trans (stored_length_le kvs a v) (Nat.succ_le_succ h.2.1), fun q => ?_⟩
  · rw [va_set, if_neg (fun e => hg e.symm)]; exact h.1
  · rw [va_set]
    rcases hb q with ⟨e, hv⟩ | ⟨e, hb'⟩
    · rw [if_pos e.symm, hv]
    · rw [if_neg (fun z => e z.symm)]; exact h.2.2 hb'
theorem DI.mono {t : Tok} {n n' : Nat} {b b' : Prop} {kvs : List (Str × Value)} (h : DI t n b kvs) (hn : n ≤ n') (hb : b' → b) : DI t n' b' kvs := ⟨h.1, Nat.le_trans h.2.1 hn, fun q => h.2.2 (hb q)⟩
section
variable {prog : Program} {w : World} {A : Around} {E : Value → Shared → Prop} {s : Shared} {h₀ : Heap} {env : Env}
theorem paired_get {names : List Str} {vs : List Value} (h : Paired (fun a v => ∃ t, v = Value.str a t) names vs) : ∀ {i : Nat} {v : Value}, vs[i]? = some v → ∃ a, names[i]? = some a ∧ ∃ t, v = .str a t := by
  induction h with
  | nil => intro i v h; simp at h
  | cons e r ih =>
    intro i v h
    cases i with
    | zero => exact ⟨_, rfl, by simp at h; subst h; exact e⟩
    | succ i => exact ih (i := i) (by simpa using h)
theorem loop_DI {x : Str} {body : List Stmt} {Q : Flow → Shared → Prop} {m₀ : Str → Option Value} {names : List Str} {T dd : Addr} {its : Array Value} {k : Nat} {o₀ : Obj} {rest : List (Addr × Obj)} {kvs₀ : List (Str × Value)} {t : Tok} {n : Nat} {b : Prop} (none? : Bool) (hh : A.handled = none) (F : Fr h₀ env.locals s.heap m₀)
    (N : News h₀ env.locals s.heap ((T, ({ cls := .type "tuple", data := .seq its k } : Obj)) :: (dd, o₀) :: rest)) (hTd : @LT.lt Nat _ dd T) (hTr : ∀ p ∈ rest, @LT.lt Nat _ p.1 T) (hdr : ∀ p ∈ rest, p.1 ≠ dd) (hK : Paired (fun a v => ∃ t, v = Value.str a t) names its.toList)
    (hd : o₀.IsDictOf (PySem.strKind prog w) kvs₀) (hp : DI t n b kvs₀) (hl : names.length ≤ 20) (hn : n ≤ 500) (hg : ∀ a ∈ names, a ≠ kGc) (hnm : none? = false → ∀ a ∈ names, a ≠ kNm)
    (turn : ∀ a u o kvs h tk own, (none? = false → a ≠ kNm) → kvs.length ≤ 1000 → o.IsDictOf (PySem.strKind prog w) kvs → (∀ p ∈ rest ++ own, p.1 ≠ dd) → Fr h₀ env.locals h (fun z => if z = x then some (.str a u) else m₀ z) → News h₀ env.locals h ((dd, o) :: (rest ++ own)) →
      wpAny (model prog w) A (execs body env) (DEnd prog w h₀ env.locals dd (rest ++ own) x m₀ (fun kvs' => ∃ v, kvs' = stored kvs a v ∧ (none? = true → v = .none)) Q s) E { s with heap := h, toks := tk })
    (done : ∀ o kvs u h tk, DI t (n + 20) (if none? = true then kNm ∈ names else b) kvs → o.IsDictOf (PySem.strKind prog w) kvs → Fr h₀ env.locals h (fun z => if z = x then u else m₀ z) → News h₀ env.locals h ((dd, o) :: rest) → Q .next { s with heap := h, toks := tk }) :
    wpAny (model prog w) A (pyIter (.ref T)) (fun it s₂ => LoopAtV prog w A h₀ env x body Q E it s₂) E s := by
  refine loop_D (names := names) (fun i kvs => i ≤ names.length ∧ DI t (n + i) (if none? = true then kNm ∈ names.take i else b) kvs) hh F N hTd hTr hdr (by have := Paired.length hK; simpa using this.symm) (fun i v hv => paired_get hK (by simpa using hv)) hd ⟨Nat.zero_le _, DI.mono hp (Nat.le_refl _) (fun q => ?_)⟩ ?_ ?_
  · cases hb : none? with
    | true => rw [hb] at q; simp at q
    | false => rw [hb] at q; simpa using q
  · rintro i a u o kvs h tk own ha ⟨hi, hD⟩ hdk hne F₁ N₁
    have hi' : i < names.length := by
      rcases Nat.lt_or_ge i names.length with z | z
      · exact z
      · rw [List.getElem?_eq_none z] at ha; cases ha
    have hm : a ∈ names := List.mem_of_getElem? ha
    refine wpAny_mono (turn a u o kvs h tk own (fun z => hnm z a hm) (Nat.le_trans hD.2.1 (by omega)) hdk hne F₁ N₁) (fun f s₂ q => ?_) fun _ _ x => x
    have step : ∀ {kvs' : List (Str × Value)}, (∃ v, kvs' = stored kvs a v ∧ (none? = true → v = .none)) → i + 1 ≤ names.length ∧ DI t (n + (i + 1)) (if none? = true then kNm ∈ names.take (i + 1) else b) kvs' := by
      rintro _ ⟨v, rfl, hv⟩
      refine ⟨hi', DI.set hD (hg a hm) fun z => ?_⟩
      cases hb : none? with
      | true =>
        rw [hb] at z hv
        simp only [if_true] at z ⊢
        rw [List.take_add_one, ha] at z
        by_cases e : a = kNm
        · exact .inl ⟨e, hv rfl⟩
        · refine .inr ⟨e, ?_⟩
          rcases List.mem_append.mp z with z | z
          · exact z
          · exact absurd (by simpa using z) (fun q : kNm = a => e q.symm)
      | false =>
        rw [hb] at z
        exact .inr ⟨hnm hb a hm, by simpa using z⟩
    revert q
    apply flow_cases f
    rotate_left 3
    · exact fun k => k
    · exact fun _ q => q
    · exact fun q => q
    intro rr0
    refine byG ?_
    intro GG hGG
    obtain ⟨h', tk', m', o', kvs', rfl, F', N', a1, a2, a3⟩ := rr0
    refine hGG ?_
    clear hGG GG
    exact ⟨h', tk', m', o', kvs', rfl, F', N', a1, a2, step a3⟩
  · rintro o kvs u h tk ⟨_, hD⟩ hdk F₁ N₁
    exact done o kvs u h tk (DI.mono hD (by omega) (fun q => by rw [List.take_length]; exact q)) hdk F₁ N₁
theorem loop_DA {x : Str} {body : List Stmt} {Q : Flow → Shared → Prop} {m₀ : Str → Option Value} {names : List Str} {T dd : Addr} {its : Array Value} {k : Nat} {o₀ : Obj} {rest : List (Addr × Obj)} {kvs₀ : List (Str × Value)} {t : Tok} {n : Nat} {b : Prop} (hh : A.handled = none) {L : Addr} (F : Fr h₀ L s.heap m₀) (hLe : env.locals = L)
    (N : News h₀ L s.heap ((T, ({ cls := .type "tuple", data := .seq its k } : Obj)) :: (dd, o₀) :: rest)) (hTd : @LT.lt Nat _ dd T) (hTr : ∀ p ∈ rest, @LT.lt Nat _ p.1 T) (hdr : ∀ p ∈ rest, p.1 ≠ dd) (hK : Paired (fun a v => ∃ t, v = Value.str a t) names its.toList)
    (hd : o₀.IsDictOf (PySem.strKind prog w) kvs₀) (hp : DI t n b kvs₀) (hl : names.length ≤ 20) (hn : n ≤ 500) (hg : ∀ a ∈ names, a ≠ kGc) (hnm : ∀ a ∈ names, a ≠ kNm)
    (turn : ∀ a u o kvs h tk own, kvs.length ≤ 1000 → o.IsDictOf (PySem.strKind prog w) kvs → (∀ p ∈ rest ++ own, p.1 ≠ dd) → Fr h₀ L h (fun z => if z = x then some (.str a u) else m₀ z) → News h₀ L h ((dd, o) :: (rest ++ own)) →
      wpAny (model prog w) A (execs body env) (DEnd prog w h₀ L dd (rest ++ own) x m₀ (fun kvs' => ∃ v, kvs' = stored kvs a v) Q s) E { s with heap := h, toks := tk })
    (done : ∀ o kvs u h tk, DI t (n + 20) b kvs → o.IsDictOf (PySem.strKind prog w) kvs → Fr h₀ L h (fun z => if z = x then u else m₀ z) → News h₀ L h ((dd, o) :: rest) → Q .next { s with heap := h, toks := tk }) :
    wpAny (model prog w) A (pyIter (.ref T)) (fun it s₂ => LoopAtV prog w A h₀ env x body Q E it s₂) E s := by
  subst hLe
  refine loop_DI false hh F N hTd hTr hdr hK hd hp hl hn hg (fun _ => hnm) (fun a u o kvs h tk own _ hz hdk hne F₁ N₁ => ?_) fun o kvs u h tk hD => done o kvs u h tk (DI.mono hD (Nat.le_refl _) fun q => by simpa using q)
  refine wpAny_mono (turn a u o kvs h tk own hz hdk hne F₁ N₁) (fun f s₂ q => ?_) fun _ _ x => x
  revert q
  apply flow_cases f
  rotate_left 3
  · exact fun k => k
  · exact fun _ q => q
  · exact fun q => q
  intro rr0
  refine byG ?_
  intro GG hGG
  obtain ⟨h', tk', m', o', kvs', rfl, F', N', a1, a2, v, a3⟩ := rr0
  refine hGG ?_
  clear hGG GG
  exact ⟨h', tk', m', o', kvs', rfl, F', N', a1, a2, v, a3, fun z => by cases z⟩
theorem loop_DN {x : Str} {body : List Stmt} {Q : Flow → Shared → Prop} {m₀ : Str → Option Value} {names : List Str} {T dd : Addr} {its : Array Value} {k : Nat} {o₀ : Obj} {rest : List (Addr × Obj)} {kvs₀ : List (Str × Value)} {t : Tok} {n : Nat} {b : Prop} (hh : A.handled = none) {L : Addr} (F : Fr h₀ L s.heap m₀) (hLe : env.locals = L)
    (N : News h₀ L s.heap ((T, ({ cls := .type "tuple", data := .seq its k } : Obj)) :: (dd, o₀) :: rest)) (hTd : @LT.lt Nat _ dd T) (hTr : ∀ p ∈ rest, @LT.lt Nat _ p.1 T) (hdr : ∀ p ∈ rest, p.1 ≠ dd) (hK : Paired (fun a v => ∃ t, v = Value.str a t) names its.toList)
    (hd : o₀.IsDictOf (PySem.strKind prog w) kvs₀) (hp : DI t n b kvs₀) (hl : names.length ≤ 20) (hn : n ≤ 500) (hg : ∀ a ∈ names, a ≠ kGc) (hnm : kNm ∈ names)
    (turn : ∀ a u o kvs h tk own, kvs.length ≤ 1000 → o.IsDictOf (PySem.strKind prog w) kvs → (∀ p ∈ rest ++ own, p.1 ≠ dd) → Fr h₀ L h (fun z => if z = x then some (.str a u) else m₀ z) → News h₀ L h ((dd, o) :: (rest ++ own)) →
      wpAny (model prog w) A (execs body env) (DEnd prog w h₀ L dd (rest ++ own) x m₀ (fun kvs' => kvs' = stored kvs a .none) Q s) E { s with heap := h, toks := tk })
    (done : ∀ o kvs u h tk, DI t (n + 20) True kvs → o.IsDictOf (PySem.strKind prog w) kvs → Fr h₀ L h (fun z => if z = x then u else m₀ z) → News h₀ L h ((dd, o) :: rest) → Q .next { s with heap := h, toks := tk }) :
    wpAny (model prog w) A (pyIter (.ref T)) (fun it s₂ => LoopAtV prog w A h₀ env x body Q E it s₂) E s := by
  subst hLe
  refine loop_DI true hh F N hTd hTr hdr hK hd hp hl hn hg (fun z => by cases z) (fun a u o kvs h tk own _ hz hdk hne F₁ N₁ => ?_) fun o kvs u h tk hD => done o kvs u h tk (DI.mono hD (Nat.le_refl _) fun _ => by simpa using hnm)
  refine wpAny_mono (turn a u o kvs h tk own hz hdk hne F₁ N₁) (fun f s₂ q => ?_) fun _ _ x => x
  revert q
  apply flow_cases f
  rotate_left 3
  · exact fun k => k
  · exact fun _ q => q
  · exact fun q => q
  intro rr0
  refine byG ?_
  intro GG hGG
  obtain ⟨h', tk', m', o', kvs', rfl, F', N', a1, a2, a3⟩ := rr0
  refine hGG ?_
  clear hGG GG
  exact ⟨h', tk', m', o', kvs', rfl, F', N', a1, a2, .none, a3, fun _ => rfl⟩
end
end Internal
namespace Internal
section
variable {prog : Program} {w : World} {A : Around} {E : Value → Shared → Prop} {s : Shared} {h₀ : Heap} {L : Addr} {news : List (Addr × Obj)} {env : Env}
noncomputable def WEnd3 {σ : Type} (h₀ : Heap) (L : Addr) (news : List (Addr × Obj)) (y y' y'' : Str) (X X' : σ → Value) (m₀ : Str → Option Value) (P : σ → Prop) (μ : σ → Nat) (Q : Flow → Shared → Prop) (s : Shared) (c : σ) (fl : Flow) (s₂ : Shared) : Prop :=
  match fl with
  | .brk => Q .next s₂
  | .ret v => Q (.ret v) s₂
  | _ => ∃ h' tk' m' c', s₂ = { s with heap := h', toks := tk' } ∧ Fr h₀ L h' m' ∧ News h₀ L h' news ∧ m' y = some (X c') ∧ m' y' = some (X' c') ∧ (∀ z, z ≠ y → z ≠ y' → z ≠ y'' → m' z = m₀ z) ∧ P c' ∧ μ c' < μ c
theorem WEnd3.mk {σ : Type} {h₀ : Heap} {L : Addr} {s : Shared} {news : List (Addr × Obj)} {Q : Flow → Shared → Prop} {m₀ : Str → Option Value} {y y' y'' : Str} {X X' : σ → Value} {P : σ → Prop} {μ : σ → Nat} {c : σ} {h' : Heap} {tk' : Nat} {m' : Str → Option Value} {c' : σ} (F : Fr h₀ L h' m') (N : News h₀ L h' news) (a : m' y = some (X c')) (a' : m' y' = some (X' c')) (b : ∀ z, z ≠ y → z ≠ y' → z ≠ y'' → m' z = m₀ z) (p : P c' ∧ μ c' < μ c) : WEnd3 h₀ L news y y' y'' X X' m₀ P μ Q s c .next { s with heap := h', toks := tk' } := ⟨h', tk', m', c', rfl, F, N, a, a', b, p⟩
noncomputable def WDone3 {σ : Type} (h₀ : Heap) (L : Addr) (news : List (Addr × Obj)) (y y' y'' : Str) (X X' : σ → Value) (u : Option Value) (m₀ : Str → Option Value) (Bd : σ → Prop) (s : Shared) (c : σ) (s₂ : Shared) : Prop :=
  Bd c ∧ ∃ h' tk', s₂ = { s with heap := h', toks := tk' } ∧ Fr h₀ L h' (fun z => if z = y then some (X c) else if z = y' then some (X' c) else if z = y'' then u else m₀ z) ∧ News h₀ L h' news
theorem WDone3.mk {σ : Type} {h₀ : Heap} {L : Addr} {s : Shared} {news : List (Addr × Obj)} {m₀ : Str → Option Value} {y y' y'' : Str} {X X' : σ → Value} {u : Option Value} {Bd : σ → Prop} {c : σ} {h' : Heap} {tk' : Nat}  (e : Bd c) (F : Fr h₀ L h' (fun z => if z = y then some (X c) else if z = y' then some (X' c) else if z = y'' then u else m₀ z)) (N : News h₀ L h' news) : WDone3 h₀ L news y y' y'' X X' u m₀ Bd s c { s with heap := h', toks := tk' } := ⟨e, h', tk', rfl, F, N⟩
theorem while_s3 {σ : Type} {test : Expr} {body : List Stmt} {pos : Pos} {Q : Flow → Shared → Prop} {m₀ : Str → Option Value} (y y' y'' : Str) (c₀ : σ) (X X' : σ → Value) (P : σ → Prop) (μ : σ → Nat) (Bd : σ → Prop) (F : Fr h₀ L s.heap m₀) (N : News h₀ L s.heap news)
    (hy : m₀ y = some (X c₀)) (hy' : m₀ y' = some (X' c₀)) (hp : P c₀)
    (turn : ∀ c u h tk, P c → Fr h₀ L h (fun z => if z = y then some (X c) else if z = y' then some (X' c) else if z = y'' then u else m₀ z) → News h₀ L h news →
      wpAny (model prog w) A (isTrue test env (eval test env)) (fun b s₂ => if b = true then wpAny (model prog w) A (execs body env) (WEnd3 h₀ L news y y' y'' X X' m₀ P μ Q s c) E s₂ else WDone3 h₀ L news y y' y'' X X' u m₀ Bd s c s₂) E { s with heap := h, toks := tk })
    (done : ∀ c u h tk, Bd c → Fr h₀ L h (fun z => if z = y then some (X c) else if z = y' then some (X' c) else if z = y'' then u else m₀ z) → News h₀ L h news → Q .next { s with heap := h, toks := tk })
    (hE : PassesOwn (model prog w) A env E := by passes_own) :
    wpAny (model prog w) A (exec (.While test body [] pos) env) Q E s := by
  refine While_inv2 (fun n m nx => nx = news ∧ ∃ c, m y = some (X c) ∧ m y' = some (X' c) ∧ (∀ z, z ≠ y → z ≠ y' → z ≠ y'' → m z = m₀ z) ∧ P c ∧ μ c = n) F N ⟨rfl, c₀, hy, hy', fun _ _ _ _ => rfl, hp, rfl⟩ ?_ hE
  intro n m₁ nx h tk F₁ N₁ rr7
  refine byG ?_
  intro GG hGG
  obtain ⟨rfl, c, h1, h1', h2, hp', rfl⟩ := rr7
  refine hGG ?_
  clear hGG GG
  have e : m₁ = fun z => if z = y then some (X c) else if z = y' then some (X' c) else if z = y'' then m₁ y'' else m₀ z := by
    funext z
    by_cases hz : z = y
    · rw [if_pos hz, hz, h1]
    · by_cases hz' : z = y'
      · rw [if_neg hz, if_pos hz', hz', h1']
      · by_cases hz'' : z = y''
        · rw [if_neg hz, if_neg hz', if_pos hz'', hz'']
        · rw [if_neg hz, if_neg hz', if_neg hz'', h2 z hz hz' hz'']
  generalize m₁ y'' = u at e
  rw [e] at F₁
  refine wpAny_mono (turn c u h tk hp' F₁ N₁) (fun b s₂ p => ?_) fun _ _ x => x
  cases b with
  | false =>
    simp only [Bool.false_eq_true, if_false] at p ⊢
    obtain ⟨hB, h', tk', rfl, F₂, N₂⟩ := p
    exact done c u h' tk' hB F₂ N₂
  | true =>
    simp only [if_true] at p ⊢
    refine wpAny_mono p (fun f s₃ q => ?_) fun _ _ x => x
    revert q
    apply flow_cases f
    rotate_left 3
    · exact fun k => k
    · exact fun _ q => q
    · exact fun q => q
    intro rr0
    refine byG ?_
    intro GG hGG
    obtain ⟨h', tk', m', c', rfl, F', N', a1, a1', a2, a3, a4⟩ := rr0
    refine hGG ?_
    clear hGG GG
    exact ⟨h', tk', m', nx, μ c', rfl, F', N', a4, rfl, c', a1, a1', a2, a3, rfl⟩
end
end Internal
open PySem PySem.W PyProof.Rows PySem.Spec PySem.Calls PySem.Builtin
namespace Internal
open EqNone
theorem none_eq_bytes (b : Array UInt8) (t : Tok) : Gives (Builtin.«NoneType.__eq__» ⟨[.none, .bytes b t], []⟩) (.val (Value.notImplemented)) :=
  .of_wp fun M A E s Q h => by obtain ⟨hp, g, d, tk, os⟩ := s; wp_walk; exact ⟨_, rfl, h⟩
theorem bytes_eq_none (b : Array UInt8) (t : Tok) : Gives (Builtin.«bytes.__eq__» ⟨[.bytes b t, .none], []⟩) (.val (Value.notImplemented)) :=
  .of_wp fun M A E s Q h => by obtain ⟨hp, g, d, tk, os⟩ := s; wp_walk; refine wpAny_of_eq F.sub_NoneType_bytes ?_; wp_walk; exact ⟨_, rfl, h⟩
theorem none_ne_bytes (b : Array UInt8) (t : Tok) : Gives (Builtin.«NoneType.__ne__» ⟨[.none, .bytes b t], []⟩) (.val (Value.notImplemented)) :=
  .of_wp fun M A E s Q h => by obtain ⟨hp, g, d, tk, os⟩ := s; wp_walk; exact ⟨_, rfl, h⟩
theorem bytes_ne_none (b : Array UInt8) (t : Tok) : Gives (Builtin.«bytes.__ne__» ⟨[.bytes b t, .none], []⟩) (.val (Value.notImplemented)) :=
  .of_wp fun M A E s Q h => by obtain ⟨hp, g, d, tk, os⟩ := s; wp_walk; refine wpAny_of_eq F.sub_NoneType_bytes ?_; wp_walk; exact ⟨_, rfl, h⟩
section
variable {prog : Program} {w : World} {A : Around} {E : Value → Shared → Prop} {s : Shared} {Q : Value → Shared → Prop} {b : Array UInt8} {t : Tok}
theorem eq_none_B (h : Q (.bool false) s) : wpAny (model prog w) A (compareOp .Eq .none (.bytes b t)) Q E s := by
  show wpAny _ A (richCompare .Eq _ _) Q E s
  exact wpAny_richCompare_eq_decline (k := false) (fun _ => rfl) (fun s' => typeIs_bytes s' b t) (by decide) F.sub_bytes_NoneType F.slot_NoneType_eq FB.slot_bytes_eq rfl
    (call_gives F.slot_NoneType_eq rfl F.entry_NoneType_eq (F.args_NoneType_eq_2 _ _) (none_eq_bytes b t)
      ⟨rfl, call_gives FB.slot_bytes_eq (typeIs_bytes s b t) FB.entry_bytes_eq (FB.args_bytes_eq_2 _ _) (bytes_eq_none b t) ⟨rfl, h⟩⟩)
theorem eq_B_none (h : Q (.bool false) s) : wpAny (model prog w) A (compareOp .Eq (.bytes b t) .none) Q E s := by
  show wpAny _ A (richCompare .Eq _ _) Q E s
  exact wpAny_richCompare_eq_decline (k := false) (fun s' => typeIs_bytes s' b t) (fun _ => rfl) (by decide) F.sub_NoneType_bytes FB.slot_bytes_eq F.slot_NoneType_eq_refl rfl
    (call_gives FB.slot_bytes_eq (typeIs_bytes s b t) FB.entry_bytes_eq (FB.args_bytes_eq_2 _ _) (bytes_eq_none b t)
      ⟨rfl, call_gives F.slot_NoneType_eq_refl rfl F.entry_NoneType_eq (F.args_NoneType_eq_2 _ _) (none_eq_bytes b t) ⟨rfl, h⟩⟩)
theorem ne_none_B (h : Q (.bool true) s) : wpAny (model prog w) A (compareOp .NotEq .none (.bytes b t)) Q E s := by
  show wpAny _ A (richCompare .NotEq _ _) Q E s
  exact wpAny_richCompare_ne_decline (k := false) (fun _ => rfl) (fun s' => typeIs_bytes s' b t) (by decide) F.sub_bytes_NoneType F.slot_NoneType_ne FB.slot_bytes_ne rfl
    (call_gives F.slot_NoneType_ne rfl F.entry_NoneType_ne (F.args_NoneType_ne_2 _ _) (none_ne_bytes b t)
      ⟨rfl, call_gives FB.slot_bytes_ne (typeIs_bytes s b t) FB.entry_bytes_ne (FB.args_bytes_ne_2 _ _) (bytes_ne_none b t) ⟨rfl, h⟩⟩)
theorem ne_B_none (h : Q (.bool true) s) : wpAny (model prog w) A (compareOp .NotEq (.bytes b t) .none) Q E s := by
  show wpAny _ A (richCompare .NotEq _ _) Q E s
  exact wpAny_richCompare_ne_decline (k := false) (fun s' => typeIs_bytes s' b t) (fun _ => rfl) (by decide) F.sub_NoneType_bytes FB.slot_bytes_ne F.slot_NoneType_ne_refl rfl
    (call_gives FB.slot_bytes_ne (typeIs_bytes s b t) FB.entry_bytes_ne (FB.args_bytes_ne_2 _ _) (bytes_ne_none b t)
      ⟨rfl, call_gives F.slot_NoneType_ne_refl rfl F.entry_NoneType_ne (F.args_NoneType_ne_2 _ _) (none_ne_bytes b t) ⟨rfl, h⟩⟩)
end
end Internal
namespace Internal
section
variable {prog : Program} {w : World} {A : Around} {E : Value → Shared → Prop} {s : Shared} {h₀ : Heap} {L : Addr} {news : List (Addr × Obj)} {m : Str → Option Value}
theorem slice_to {value slice : Expr} {us : List Value} {n k : Nat} {l : Addr} {j : Int} {vu : Value} {ops : List Value} {Q : Value → Shared → Prop} (F : Fr h₀ L s.heap m) (N : News h₀ L s.heap news) (hm : (l, listOf us.toArray n) ∈ news) (pu : IsPart vu (some j)) (hj : j = (k : Nat)) (hz : us.length ≤ 1000)
    (h : ∀ D h', Fr h₀ L h' m → News h₀ L h' ((D, listOf (us.take k).toArray 0) :: news) → (∀ p ∈ news, p.1 < D) → Q (.ref D) { s with heap := h' })
    (hs : subscripted slice false (.ref l) (.ref s.heap.objs.size) = operate ops (getItem (.ref l) (.ref s.heap.objs.size)) := by with_unfolding_all rfl) (ht : ∀ r, letTemporaryGo value (.ref l) r = pure () := by intro _; with_unfolding_all rfl) :
    wpAny (model prog w) A (subscriptTail value slice (.ref l) (.ref s.heap.objs.size)) Q E { s with heap := s.heap.push { cls := .type "slice", data := .fields #[.none, vu, .none] } } := by
  subst hj
  refine slice_list3 F N ⟨_, (N _ hm).1, rfl, _, rfl⟩ .none pu .none (by decide) (fun h' F' N' => h _ h' F' ?_ fun p hp => Nat.lt_succ_of_lt (Heap.lt_size (N p hp).1)) hs ht (by rw [sizeLine_eq, List.size_toArray]; omega)
  rw [slicePick_upto'] at N'
  exact N'
theorem slice_fro {value slice : Expr} {us : List Value} {n k : Nat} {l : Addr} {j : Int} {vu : Value} {ops : List Value} {Q : Value → Shared → Prop} (F : Fr h₀ L s.heap m) (N : News h₀ L s.heap news) (hm : (l, listOf us.toArray n) ∈ news) (pu : IsPart vu (some j)) (hj : j = (k : Nat)) (hz : us.length ≤ 1000)
    (h : ∀ D h', Fr h₀ L h' m → News h₀ L h' ((D, listOf (us.drop k).toArray 0) :: news) → (∀ p ∈ news, p.1 < D) → Q (.ref D) { s with heap := h' })
    (hs : subscripted slice false (.ref l) (.ref s.heap.objs.size) = operate ops (getItem (.ref l) (.ref s.heap.objs.size)) := by with_unfolding_all rfl) (ht : ∀ r, letTemporaryGo value (.ref l) r = pure () := by intro _; with_unfolding_all rfl) :
    wpAny (model prog w) A (subscriptTail value slice (.ref l) (.ref s.heap.objs.size)) Q E { s with heap := s.heap.push { cls := .type "slice", data := .fields #[vu, .none, .none] } } := by
  subst hj
  refine slice_list3 F N ⟨_, (N _ hm).1, rfl, _, rfl⟩ pu .none .none (by decide) (fun h' F' N' => h _ h' F' ?_ fun p hp => Nat.lt_succ_of_lt (Heap.lt_size (N p hp).1)) hs ht (by rw [sizeLine_eq, List.size_toArray]; omega)
  rw [slicePick_from'] at N'
  exact N'
theorem add_U {us ws : List Value} {n n2 : Nat} {l b : Addr} {Q : Value → Shared → Prop} (F : Fr h₀ L s.heap m) (N : News h₀ L s.heap news) (hm : (l, listOf us.toArray n) ∈ news) (hb : (b, listOf ws.toArray n2) ∈ news) (hz : us.length + ws.length ≤ 16777216)
    (h : ∀ D h', Fr h₀ L h' m → News h₀ L h' ((D, listOf (us ++ ws).toArray 0) :: news) → (∀ p ∈ news, p.1 < D) → Q (.ref D) { s with heap := h' }) : wpAny (model prog w) A (binaryOp .Add (.ref l) (.ref b)) Q E s :=
  add_lists F N ⟨_, (N _ hm).1, rfl, _, rfl⟩ ⟨_, (N _ hb).1, rfl, _, rfl⟩ (fun h' F' N' => h _ h' F' N' fun p hp => Heap.lt_size (N p hp).1) (by rw [sizeLine_eq]; exact hz)
theorem item_us {value slice : Expr} {us : List Value} {n k : Nat} {D : Addr} {j : Int} {u : Tok} {v : Value} {Q : Value → Shared → Prop} (N : News h₀ L s.heap news) (hm : (D, listOf us.toArray n) ∈ news) (hj : j = (k : Nat)) (hz : k ≤ 1000) (hv : us[k]? = some v) (h : Q v s)
    (hs : subscripted slice false (.ref D) (.int j u) = operate [.ref D, .int j u] (getItem (.ref D) (.int j u)) := by with_unfolding_all rfl) (hg : ∀ r, letTemporaryGo value (.ref D) r = pure () := by intro _; with_unfolding_all rfl) :
    wpAny (model prog w) A (subscriptTail value slice (.ref D) (.int j u)) Q E s := by
  subst hj
  refine item_list (items := us.toArray) (x := v) ⟨_, (N _ hm).1, rfl, n, rfl⟩ (by omega) (by omega) (by simpa using hv) h hs hg
end
end Internal
namespace Internal
open Builtin
section
variable {prog : Program} {w : World} {A : Around} {E : Value → Shared → Prop} {s : Shared} {b : Array UInt8} {t : Tok}
theorem nextOf_b {it : Addr} {i : Nat} {c : UInt8} {Q : Value → Shared → Prop} (hit : KBw.IsBytesIter s.heap it b t i) (hx : b[i]? = some c)
    (hQ : ∀ h', KBw.IsBytesIter h' it b t (i + 1) → Heap.SameBut it s.heap h' → Q (.int (c.toNat : Int) s.toks) { s with heap := h', toks := s.toks + 1 }) :
    wpAny (model prog w) A (Builtin.SmallTypes.nextOf (.ref it)) Q E s := by
  obtain ⟨o, ho, hc, hd⟩ := id hit
  unfold Builtin.SmallTypes.nextOf
  refine wpAny_bind (wpAny_callSpecial?_slot (name := PySem.Str.ofString "__next__") (KBw.iter_typeIs hit) KBw.slot_next
    (wpAny_call_entry KBw.slot_next (KBw.iter_typeIs hit) KBw.entry_next ?_ (KBw.args_next _)))
  show wpAny _ _ (field (.ref it) 0 >>= _) _ _ s
  refine wpAny_bind (wpAny_field ho hd (x := .bytes b t) rfl ?_)
  show wpAny _ _ (if (Value.bytes b t == Value.none) = true then _ else _) _ _ s
  rw [if_neg (show ¬ ((Value.bytes b t == Value.none) = true) from Bool.false_ne_true)]
  show wpAny _ _ (field (.ref it) 1 >>= _) _ _ s
  refine wpAny_bind (wpAny_field ho hd (x := .int i 0) rfl ?_)
  refine wpAny_bind (wpAny_of_eq (a := b) rfl ?_)
  simp only [Int.toNat_natCast, hx]
  refine wpAny_bind (wpAny_setField ho hd (by simp) (wpAny_bind (wpAny_mkInt (wpAny_pure ⟨_, rfl, wpAny_pure (hQ _ ?_ (Heap.SameBut.update ..))⟩))))
  exact ⟨_, Heap.get?_update_self _ ho (Obj.isFreed_of_fields (Obj.data_mapFields hd _)), (Obj.cls_mapFields ..).trans hc, by
    rw [Obj.data_mapFields hd]; simp [rawInt]⟩
theorem nextOf_e {it : Addr} {i : Nat} {Q : Value → Shared → Prop} (hh : A.handled = none) (hit : KBw.IsBytesIter s.heap it b t i) (hx : b[i]? = none)
    (hE : ∀ h' e, Heap.ExtBut it s.heap h' → (∃ o, h'.get? e = some o ∧ o.cls = .type "StopIteration") → E (.ref e) { s with heap := h' }) :
    wpAny (model prog w) A (Builtin.SmallTypes.nextOf (.ref it)) Q E s := by
  obtain ⟨o, ho, hc, hd⟩ := id hit
  unfold Builtin.SmallTypes.nextOf
  refine wpAny_bind (wpAny_callSpecial?_slot (name := PySem.Str.ofString "__next__") (KBw.iter_typeIs hit) KBw.slot_next
    (wpAny_call_entry KBw.slot_next (KBw.iter_typeIs hit) KBw.entry_next ?_ (KBw.args_next _)))
  show wpAny _ _ (field (.ref it) 0 >>= _) _ _ s
  refine wpAny_bind (wpAny_field ho hd (x := .bytes b t) rfl ?_)
  show wpAny _ _ (if (Value.bytes b t == Value.none) = true then _ else _) _ _ s
  rw [if_neg (show ¬ ((Value.bytes b t == Value.none) = true) from Bool.false_ne_true)]
  show wpAny _ _ (field (.ref it) 1 >>= _) _ _ s
  refine wpAny_bind (wpAny_field ho hd (x := .int i 0) rfl ?_)
  refine wpAny_bind (wpAny_of_eq (a := b) rfl ?_)
  simp only [Int.toNat_natCast, hx]
  refine wpAny_bind (wpAny_rule (wpAny_bind (wpAny_setField ho hd (by simp) ?_)))
  show wpAny _ _ (newExc (.type "StopIteration") [] >>= _) _ _ _
  refine wpAny_bind ?_
  simp only [newExc, newTuple]
  refine wpAny_bind (wpAny_newObj_type ?_ (by size_fits))
  refine wpAny_bind (m := firstArgMember _ _) (wpAny_of_eq (a := Value.none) (by first | rfl | (simp only [firstArgMember]; rfl)) ?_)
  refine wpAny_newObj_type ?_ (by size_fits)
  simp only [raiseNew]
  refine wpAny_bind (wpAny_handled ?_)
  first | rw [show A.in1.handled = none from hh] | rw [hh]
  refine wpAny_bind (wpAny_pure (wpAny_throw ?_))
  exact hE _ _ (((Heap.SameBut.update ..).extBut.push _).push _) ⟨_, Heap.get?_push_size _ rfl, rfl⟩
end
theorem drawsB {prog : Program} {w : World} {A : Around} (hh : A.handled = none) (it : Addr) (b : Array UInt8) (t : Tok) :
    Draws prog w A it [it] b.size (fun i v => ∃ c u, b[i]? = some c ∧ v = .int (c.toNat : Int) u) (fun i h => KBw.IsBytesIter h it b t i) where
  live := fun _ _ st => let ⟨o, ho, _⟩ := st; ⟨o, ho⟩
  frame := fun _ _ _ st hk => let ⟨o, ho, r⟩ := st; ⟨o, hk it (by simp) o ho, r⟩
  item := fun i s Q E hi st hQ => by
    refine nextOf_b st (c := b[i]) (by simp [hi]) fun h' hit' hs' => ?_
    exact hQ _ h' (s.toks + 1) ⟨_, _, by simp [hi], rfl⟩ hit' hs'
  done := fun s Q E st hE => nextOf_e hh st (by simp) hE
set_option maxHeartbeats 1000000 in
set_option tactic.hygienic true in
theorem meets_enumB (b : Array UInt8) (t : Tok) :
    Meets (Builtin.«enumerate.__new__» ⟨[.type "enumerate", .bytes b t], []⟩) (fun _ R s =>
      R (.ok (.ret (.ref (s.heap.push { cls := .type "bytes_iterator", data := .fields #[.bytes b t, .int 0 0] }).objs.size)))
        { s with heap := (s.heap.push { cls := .type "bytes_iterator", data := .fields #[.bytes b t, .int 0 0] }).push { cls := .type "enumerate", data := .fields #[.none, .bool false, .ref s.heap.objs.size, rawInt 0, .none, .none] } }) :=
  .of_wp fun prog w A R s h => by
    obtain ⟨hp, g, d, tk, os⟩ := s
    have hsub := sub_enumerate
    wp_walk
    refine wpAny_stack_any fun st => wpAny_pure ?_
    split
    · rename_i c _ _ _ _ _
      cases (c == Value.type "enumerate")
      · wp_walk using KBw.pyIter_bytes
        exact ⟨_, rfl, h⟩
      · wp_walk using KBw.pyIter_bytes
        exact ⟨_, rfl, h⟩
    · wp_walk using KBw.pyIter_bytes
      exact ⟨_, rfl, h⟩
section
variable {prog : Program} {w : World} {A : Around} {E : Value → Shared → Prop} {s : Shared}
theorem call_enumB {b : Array UInt8} {t : Tok} {Q : Value → Shared → Prop}
    (h : ∀ h', IsEnum h' (s.heap.objs.size + 1) s.heap.objs.size 0 .none → KBw.IsBytesIter h' s.heap.objs.size b t 0 →
      (∀ b o, s.heap.get? b = some o → h'.get? b = some o) → Q (.ref (s.heap.objs.size + 1)) { s with heap := h' }) :
    wpAny (model prog w) A (call (.type "enumerate") [.bytes b t]) Q E s := by
  refine callType_new F.called_enumerate (by decide) (F.typeCall_enumerate_1 _) (F.newCall_enumerate_1 _) (fun obj => F.args_object_init_2 obj _) F.entry_enumerate_new
    (meets_enumB b t) ?_
  have hz : (s.heap.push { cls := .type "bytes_iterator", data := .fields #[.bytes b t, .int 0 0] }).objs.size = s.heap.objs.size + 1 := Heap.size_push ..
  show _ ∧ _
  rw [hz]
  have he : IsEnum ((s.heap.push { cls := .type "bytes_iterator", data := .fields #[.bytes b t, .int 0 0] }).push
      { cls := .type "enumerate", data := .fields #[.none, .bool false, .ref s.heap.objs.size, rawInt 0, .none, .none] }) (s.heap.objs.size + 1) s.heap.objs.size 0 .none := by
    have := Heap.get?_push_size (s.heap.push { cls := .type "bytes_iterator", data := .fields #[.bytes b t, .int 0 0] })
      (o := { cls := .type "enumerate", data := .fields #[.none, .bool false, .ref s.heap.objs.size, rawInt 0, .none, .none] }) rfl
    rw [hz] at this; exact this
  refine ⟨⟨_, he, rfl⟩, h _ he ⟨_, Heap.get?_push_of_some _ (Heap.get?_push_size _ rfl), rfl, rfl⟩ fun b o y => Heap.get?_push_of_some _ (Heap.get?_push_of_some _ y)⟩
end
section
variable {prog : Program} {w : World} {A : Around} {s : Shared} {env : Env} {h₀ : Heap}
noncomputable def TEnd (h₀ : Heap) (L : Addr) (own : List (Addr × Obj)) (news : List (Addr × Obj)) (J : (Str → Option Value) → List (Addr × Obj) → Prop) (Q : Flow → Shared → Prop) (s : Shared) (f : Flow) (s₂ : Shared) : Prop :=
  match f with
  | .ret v => Q (.ret v) s₂
  | .brk => Q .next s₂
  | _ => ∃ h' tk' m' news', s₂ = { s with heap := h', toks := tk' } ∧ Fr h₀ L h' m' ∧ News h₀ L h' (own ++ news') ∧ news'.map (·.1) = news.map (·.1) ∧ J m' news'
theorem for_G {M : Model} {target iter : PySem.Expr} {body : List Stmt} {pos : Pos} {Q : Flow → Shared → Prop}
    (h : wpAny M A (eval iter env) (fun xv s₁ => wpAny M A (pyIter xv) (fun it s₂ => wpG M A (runOwn (.forLoop target it body [] env) env) Q s₂) Nev s₁) Nev s)
    (hs : ∀ x, foldedSetIterable iter env x = pure x) : wpG M A (exec (.For target iter body [] pos) env) Q s := by
  show wpG M A (do
    standAt pos
    let x ← foldedSetIterable iter env (← eval iter env)
    standAt iter.pos
    runOwn (.forLoop target (← holding [x] (pyIter x)) body [] env) env) Q s
  refine wpG_bind (wpG_standAt (wpG_bind (wpG_mono (wpG_of h) fun xv s₁ h₁ => ?_)))
  rw [hs]
  exact wpG_bind (wpG_pure (wpG_bind (wpG_standAt (wpG_bind (wpG_holding (wpG_mono (wpG_of h₁) fun it s₂ h₂ => h₂))))))
theorem loopU_G {Q : Flow → Shared → Prop} {xi xc : Str} {pk pv pt : Pos} {x1 : Nat} {body : List Stmt} {I : Addr} {fp wr : List Addr} {n : Nat} {Pt : Nat → Array Value → Prop} {St : Nat → Heap → Prop} {Mid : Nat → Addr → Heap → Prop}
    {P2 : Nat → Value → Value → Prop} {m : Str → Option Value} {news : List (Addr × Obj)} (hh : A.handled = none) (W : WalksU prog w A I fp wr n Pt St Mid) (h2 : ∀ i vals, i < n → Pt i vals → ∃ v0 v1, vals = #[v0, v1] ∧ P2 i v0 v1)
    (hxi : env.kindOf xi = some .local) (hxc : env.kindOf xc = some .local)
    (hp : (env.scope.kind == .class || (env.scope.kind == .module && env.locals != env.globals)) = false)
    (hLf : env.locals ∉ fp) (hwr : ∀ b ∈ wr, h₀.get? b = none) (hnw : ∀ p ∈ news, p.1 ∉ wr)
    (hst : St 0 s.heap) (F : Fr h₀ env.locals s.heap m) (N : News h₀ env.locals s.heap news)
    (J : Nat → (Str → Option Value) → List (Addr × Obj) → Prop) (h0 : J 0 m news)
    (turn : ∀ i v0 v1 m₁ news₁ h tk own, i < n → P2 i v0 v1 → J i m₁ news₁ → news₁.map (·.1) = news.map (·.1) → (∀ p ∈ own, p.1 ∈ fp) →
      Fr h₀ env.locals h (fun y => if y = xc then some v1 else if y = xi then some v0 else m₁ y) → News h₀ env.locals h (own ++ news₁) →
      wpG (model prog w) A (execs body env) (TEnd h₀ env.locals own news₁ (J (i + 1)) Q s) { s with heap := h, toks := tk })
    (done : ∀ h' tk m' news', Fr h₀ env.locals h' m' → News h₀ env.locals h' news' → news'.map (·.1) = news.map (·.1) → J n m' news' → Q .next { s with heap := h', toks := tk }) :
    wpG (model prog w) A (runOwn (.forLoop (.Tuple [.Name xi pk, .Name xc pv] x1 pt) (.ref I) body [] env) env) Q s := by
  have hLw : env.locals ∉ wr := fun h => hLf (W.sub _ h)
  have old : ∀ b o, h₀.get? b = some o → b ∉ wr := fun b o e hb => by rw [hwr b hb] at e; cases e
  have hnw' : ∀ news' : List (Addr × Obj), news'.map (·.1) = news.map (·.1) → ∀ p ∈ news', p.1 ∉ wr := fun news' ha p hp => by
    have : p.1 ∈ news.map (·.1) := ha ▸ List.mem_map.mpr ⟨p, hp, rfl⟩
    obtain ⟨q, hq, e⟩ := List.mem_map.mp this
    exact e ▸ hnw q hq
  refine forLoop_G (fun k s' => ∃ h' tk m' news' i, s' = { s with heap := h', toks := tk } ∧ St i h' ∧ Fr h₀ env.locals h' m' ∧ News h₀ env.locals h' news' ∧ news'.map (·.1) = news.map (·.1) ∧ J i m' news' ∧ i ≤ n ∧ k = n - i) n
    ⟨s.heap, s.toks, m, news, 0, rfl, hst, F, N, rfl, h0, Nat.zero_le _, rfl⟩ ?_ (fun _ => rfl)
  intro k s' rr2
  refine byG ?_
  intro GG hGG
  obtain ⟨H, tk, m', news', i, rfl, hst', F', N', ha', hJ, hi, rfl⟩ := rr2
  refine hGG ?_
  clear hGG GG
  have next : ∀ h₁ : Heap, (∀ b o, b ∉ wr → H.get? b = some o → h₁.get? b = some o) → Fr h₀ env.locals h₁ m' ∧ News h₀ env.locals h₁ news' := fun h₁ hk₁ =>
    ⟨⟨F'.ns.at' fun o e => hk₁ _ o hLw e, fun b o e => hk₁ b o (old b o e) (F'.keep b o e), F'.above⟩, fun p hp => ⟨hk₁ _ _ (hnw' news' ha' p hp) (N' p hp).1, (N' p hp).2⟩⟩
  by_cases hlt : i < n
  · refine wpG_of (W.item i _ _ _ hlt hst' fun T vals h₁ tk₁ hPt hT hMid hk₁ => ?_)
    obtain ⟨v0, v1, rfl, hP2⟩ := h2 i vals hlt hPt
    refine wpG_of (W.go _ x1 pt i T _ _ _ hMid fun h₂ hst₂ hk₂ => ?_)
    have ht₂ : h₂.IsTuple T #[v0, v1] := hT.at fun o e => hk₂ T o (W.apart i T h₁ hMid) e
    refine wpG_of (wpAny_assign_Tuple hh ht₂ rfl rfl fun h₃ hx₃ => ?_)
    have up₃ : ∀ b o, h₂.get? b = some o → h₃.get? b = some o := fun b o x => hx₃ b o (Nat.ne_of_lt (Heap.lt_size x)) x
    obtain ⟨F₃, N₃⟩ := next h₃ fun b o hb x => up₃ b o (hk₂ b o hb (hk₁ b o hb x))
    show wpAny _ A (do holding [v1] (assign (.Name xi pk) env v0); do holding [] (assign (.Name xc pv) env v1); pure ()) _ _ _
    refine wpAny_bind (wpAny_holding (wpAny_assign_Name (wpAny_storeName_local hxi F₃.ns (fun h₄ hn₄ hs₄ => ?_) hp)))
    have F₄ := F₃.set hn₄ hs₄
    refine wpAny_bind (wpAny_holding (wpAny_assign_Name (wpAny_storeName_local hxc F₄.ns (fun h₅ hn₅ hs₅ => wpAny_pure ?_) hp)))
    have F₅ := F₄.set hn₅ hs₅
    have N₅ : News h₀ env.locals h₅ news' := (N₃.set hs₄).set hs₅
    have hst₅ : St (i + 1) h₅ := W.frame _ _ _ hst₂ fun b hb o e => hs₅.extBut b o (fun q => hLf (q ▸ hb)) (hs₄.extBut b o (fun q => hLf (q ▸ hb)) (up₃ b o e))
    refine wpG_mono (turn i v0 v1 m' news' _ _ (ownOf h₀ fp h₅) hlt hP2 hJ ha' ownOf_sub F₅ ((news_ownOf hLf).append N₅)) (fun f s₃ h₆ => ?_)
    have key : (∃ h' tk' m₂ news₂, s₃ = { s with heap := h', toks := tk' } ∧ Fr h₀ env.locals h' m₂ ∧ News h₀ env.locals h' (ownOf h₀ fp h₅ ++ news₂) ∧ news₂.map (·.1) = news'.map (·.1) ∧ J (i + 1) m₂ news₂) →
        ∃ m, m < n - i ∧ ∃ h' tk m' news' i, s₃ = { s with heap := h', toks := tk } ∧ St i h' ∧ Fr h₀ env.locals h' m' ∧ News h₀ env.locals h' news' ∧ news'.map (·.1) = news.map (·.1) ∧ J i m' news' ∧ i ≤ n ∧ m = n - i := by
      intro rr0
      refine byG ?_
      intro GG hGG
      obtain ⟨h₆', tk₆, m₂, news₂, rfl, F₆, N₆, ha₆, hJ₆⟩ := rr0
      refine hGG ?_
      clear hGG GG
      refine ⟨n - (i + 1), Nat.sub_lt_sub_left hlt (Nat.lt_succ_self i), h₆', tk₆, m₂, news₂, i + 1, rfl, ?_, F₆, N₆.right, ha₆.trans ha', hJ₆, hlt, rfl⟩
      refine W.frame _ _ _ hst₅ fun b hb o e => ?_
      cases hn : h₀.get? b with
      | some o₀ =>
        have : o₀ = o := by have q := F₅.keep b o₀ hn; rw [e] at q; exact (Option.some.inj q).symm
        exact this ▸ F₆.keep b o₀ hn
      | none => exact (N₆ _ (List.mem_append_left _ (mem_ownOf hb hn e))).1
    cases f with
    | ret v => exact h₆
    | brk => exact h₆
    | cont => exact key h₆
    | next => exact key h₆
  · have hin : i = n := by omega
    subst hin
    refine wpG_of (W.done _ _ _ hst' fun h₁ tk₁ hk₁ => ?_)
    obtain ⟨F₁, N₁⟩ := next h₁ hk₁
    exact done h₁ tk₁ m' news' F₁ N₁ ha' hJ
end
end Internal
namespace Internal
open Builtin Builtin.Bytes
theorem ba_no_bytes : typeLookup (.type "bytearray") "__bytes__" = pure none := by rw [typeLookup_type, builtinLookup_eq_fast]; kernel_rfl
theorem ba_no_index : typeLookup (.type "bytearray") "__index__" = pure none := by rw [typeLookup_type, builtinLookup_eq_fast]; kernel_rfl
theorem ba_buffer : typeLookup (.type "bytearray") "__buffer__" = pure (some (.builtin "bytearray.__buffer__")) := by rw [typeLookup_type, builtinLookup_eq_fast]; kernel_rfl
theorem type_ba_append : typeOf (.builtin "bytearray.append") = pure (.type "method_descriptor") := by show builtinType _ = _; rw [builtinType_eq_fast]; kernel_rfl
section
variable {prog : Program} {w : World} {A : Around} {E : Value → Shared → Prop} {s : Shared}
theorem ba_bufs {a : Addr} {b : Array UInt8} {Q : Option (Array UInt8) → Shared → Prop} (ho : s.heap.get? a = some (baObj b)) (h : Q (some b) s) :
    wpAny (model prog w) A (buffer? "bytes.__new__" (.ref a) true) Q E s := by
  have hT : s.TypeIs (.ref a) "bytearray" := ⟨_, ho, rfl⟩
  unfold buffer?
  refine wpAny_bind (wpAny_specialOf hT ba_buffer ?_)
  dsimp only
  refine wpAny_bind ?_
  unfold slotIsOwn
  refine wpAny_bind (wpAny_specialOf hT ba_buffer ?_)
  dsimp only
  rw [if_neg (by decide +kernel)]
  rw [show ("bytearray.__buffer__".dropRight ("__buffer__".length + 1)) = "bytearray" from by decide +kernel]
  refine wpAny_isInstance (U := "bytearray") hT sub_ba ?_
  rw [if_neg (by decide)]
  refine wpAny_bind (wpAny_specialOf hT ba_buffer ?_)
  show wpAny _ _ (ownRelease (.ref a) >>= _) _ _ _
  unfold ownRelease slotIsOwn
  refine wpAny_bind (wpAny_bind (wpAny_bind (wpAny_specialOf hT rel_ba ?_)))
  dsimp only
  rw [if_neg (by decide +kernel)]
  rw [show ("bytearray.__release_buffer__".dropRight ("__release_buffer__".length + 1)) = "bytearray" from by decide +kernel]
  refine wpAny_isInstance (U := "bytearray") hT sub_ba ?_
  refine wpAny_pure ?_
  rw [if_neg (by decide)]
  unfold payload payload?
  refine wpAny_bind (wpAny_bind (wpAny_bind (wpAny_load ho ?_)))
  exact wpAny_pure (wpAny_pure (wpAny_pure h))
theorem ba_new {a : Addr} {b : Array UInt8} {Q : Value → Shared → Prop} (ho : s.heap.get? a = some (baObj b)) (hz : b.size ≤ sizeLine)
    (hQ : ∀ t k, Q (.bytes b t) { s with toks := k }) :
    codeAny (model prog w) A (.call (.builtin "bytes.__new__") ⟨[.type "bytes", .ref a], []⟩) (wants Q E) s := by
  refine codeAny_of_tree ?_
  show wpAny _ A.in1 (do checkBuiltinCall "bytes.__new__" ⟨[.type "bytes", .ref a], []⟩; again (.builtin "bytes.__new__" ⟨[.type "bytes", .ref a], []⟩)) _ _ s
  refine wpAny_bind (wpAny_of_eq (F.bm_newCall _) (wpAny_pure ⟨plainId_quiet F.bm_plain _, codeAny_builtin F.bm_entry ?_⟩))
  rw [Around.under_plainId F.bm_plain _]
  have hT : s.TypeIs (.ref a) "bytearray" := ⟨_, ho, rfl⟩
  unfold Builtin.«bytes.__new__»
  refine wpAny_bind (wpAny_of_eq (a := true) rfl ?_)
  refine bm_if_false rfl ?_
  refine wpAny_bind (wpAny_of_eq F.bm_sub ?_)
  refine bm_if_false rfl ?_
  refine wpAny_bind (wpAny_of_eq (F.bm_bind _) ?_)
  refine wpAny_bind (wpAny_of_eq (a := ()) rfl ?_)
  refine wpAny_bind (wpAny_of_eq (a := ()) rfl ?_)
  refine bm_if_false rfl ?_
  refine wpAny_bind (wpAny_specialOf hT ba_no_bytes ?_)
  refine wpAny_bind (wpAny_bind ?_)
  show wpAny _ _ (load a >>= _) _ _ _
  refine wpAny_bind (wpAny_load ho ?_)
  refine wpAny_pure (wpAny_pure ?_)
  refine bm_if_false rfl ?_
  refine wpAny_bind (wpAny_specialOf hT ba_no_index ?_)
  refine bm_if_true rfl ?_
  first
    | show wpAny _ _ (Builtin.Bytes.buffer? "bytes.__new__" (.ref a) true >>= _) _ _ _
    | (refine wpAny_bind ?_; show wpAny _ _ (Builtin.Bytes.buffer? "bytes.__new__" (.ref a) true >>= _) _ _ _)
  refine wpAny_bind (ba_bufs ho ?_)
  dsimp only
  refine wpAny_bind (wpAny_rule ?_)
  refine wpAny_bind (wpAny_mkBytes ?_ hz)
  show wpAny _ _ (if (Value.type "bytes" == Value.type "bytes") = true then _ else _) _ _ _
  refine bm_if_true (by decide) ?_
  first
    | exact wpAny_pure (hQ _ _)
    | exact wpAny_bind (wpAny_pure (wpAny_pure (hQ _ _)))
    | exact wpAny_pure (wpAny_pure (hQ _ _))
theorem call_ba {a : Addr} {b : Array UInt8} {Q : Value → Shared → Prop} (ho : s.heap.get? a = some (baObj b)) (hz : b.size ≤ sizeLine)
    (hQ : ∀ t k, Q (.bytes b t) { s with toks := k }) : wpAny (model prog w) A (call (.type "bytes") [.ref a]) Q E s := by
  refine callType_codes (Q₁ := fun obj s₁ => s₁.TypeIs obj "bytes" ∧ Q obj s₁) F.bm_called (F.bm_typeCall _) F.entry_object_init
    (ba_new ho hz fun t k => ⟨PySem.W.typeIs_bytes _ _ _, hQ t k⟩) fun obj s₁ h₁ => ?_
  exact ⟨h₁.1, F.args_object_init_2 obj _, object_init_meets F.bm_called.init.lookup F.bm_called.made (by decide) prog w A.in1 _ s₁ ⟨h₁.1, rfl, h₁.2⟩⟩
theorem plainAttrs_ba : PlainAttrs "bytearray" :=
  ⟨⟨"bytearray.__getattribute__", by rw [typeLookup_type, builtinLookup_eq_fast]; kernel_rfl, by decide +kernel⟩, by rw [typeLookup_type, builtinLookup_eq_fast]; kernel_rfl⟩
theorem method_ba {h₀ : Heap} {L D : Addr} {news : List (Addr × Obj)} {b : Array UInt8} {pl : Sem Bool} {Q : Value × List Value → Shared → Prop} (N : News h₀ L s.heap news) (hm : (D, baObj b) ∈ news)
    (h : Q (.builtin "bytearray.append", [.ref D]) s) : wpAny (model prog w) A (getMethod (.ref D) (PySem.Str.ofString "append") pl) Q E s :=
  getMethod_builtin ⟨_, (N _ hm).1, rfl⟩ plainAttrs_ba slot_ba_append type_ba_append (fun a e => by cases e; exact ⟨_, (N _ hm).1, rfl⟩) h
end
end Internal
namespace Internal
section
variable {prog : Program} {w : World} {A : Around} {s : Shared} {env : Env} {K : Frag}
theorem expr_G {e : PySem.Expr} {pos : Pos} {Q : Flow → Shared → Prop} (h : wpG (model prog w) A (eval e env) (fun _ s' => Q .next s') s)
    (hi : interactive env = false := by rfl) (hs : swapsWith e none pos.line env = pure false := by rfl) : wpG (model prog w) A (exec (.Expr e pos) env) Q s := by
  rw [exec_Expr env e pos hi hs]
  exact wpG_bind (wpG_standAt (wpG_bind (wpG_mono h fun v s' h' => wpG_of (wpAny_dropValue h'))))
noncomputable def keepG (K : Frag) (f : Value) : Bool := match f with
  | .ref a => keepIn K (.ref a)
  | _ => true
theorem keepG_looks {M : Model} {f : Value} (hk : keepG K f = true) (h : Heap) (X : K.In h) : ∃ k, Looks M h (keeperOf f) k := by
  cases f with
  | ref a =>
    obtain ⟨k, _, hl⟩ := keeps_K (M := M) (K := K) (f := .ref a) hk h X
    exact ⟨k, hl⟩
  | _ => exact ⟨.machine, Looks.of_pure rfl⟩
theorem callMeth_G {o : PySem.Expr} {name : Str} {apos pos : Pos} {e : PySem.Expr} {rest : List PySem.Expr} {pl : Sem Bool} {Q : Value → Shared → Prop}
    (h : wpAny (model prog w) A (eval o env) (fun ov s₁ => wpAny (model prog w) A (getMethod ov name pl) (fun fx s₂ => keepG K fx.1 = true ∧
      wpAny (model prog w) A (spliced (backTo pos (starEach (e :: rest) env))) (fun vs s₃ => K.In s₃.heap ∧ wpG (model prog w) A (call fx.1 (fx.2 ++ vs)) Q s₃) Nev s₂) Nev s₁) Nev s)
    (hplain : (backTo pos (starEach (e :: rest) env)).any (·.1) = false) (he' : starEach (e :: rest) env = (false, eval e env) :: starEach rest env)
    (he : eval (.Call (.Attribute o name apos) (e :: rest) [] pos) env = (do
      let ov ← eval o env
      standAt apos.atName
      let (f, first) ← holding [ov] (getMethod ov name pl)
      callWith pos f first (backTo pos (starEach (e :: rest) env)) [])) :
    wpG (model prog w) A (eval (.Call (.Attribute o name apos) (e :: rest) [] pos) env) Q s := by
  rw [he]
  refine wpG_bind (wpG_mono (wpG_of h) fun ov s₁ h₁ => wpG_bind (wpG_standAt (wpG_bind (wpG_holding (wpG_mono (wpG_of h₁) fun fx s₂ h₂ => ?_)))))
  obtain ⟨hk, h₂⟩ := h₂
  show wpG _ _ (callWith pos fx.1 fx.2 (backTo pos (starEach (e :: rest) env)) []) _ _
  refine callWith_G hplain ?_
  rw [he'] at h₂ ⊢
  refine evalArgs_plain (wpAny_mono h₂ (fun vs s' h' => ?_) fun _ _ x => x)
  exact ⟨keepG_looks hk s'.heap h'.1, h'.2⟩
end
end Internal
namespace Internal
section
variable {prog : Program} {w : World} {A : Around} {s : Shared} {env : Env} {K : Frag} {h₀ : Heap} {L : Addr} {m : Str → Option Value} {news own : List (Addr × Obj)}
theorem callF0_G {func : PySem.Expr} {pos : Pos} {Q : Value → Shared → Prop}
    (h : wpAny (model prog w) A (eval func env) (fun f s₁ => keepG K f = true ∧ K.In s₁.heap ∧ wpG (model prog w) A (call f []) Q s₁) Nev s)
    (he : eval (.Call func [] [] pos) env = (do callWith pos (← eval func env) [] [] [])) : wpG (model prog w) A (eval (.Call func [] [] pos) env) Q s := by
  rw [he]
  refine wpG_bind (wpG_mono (wpG_of h) fun f s₁ h₁ => ?_)
  obtain ⟨hk, hi, h₁⟩ := h₁
  refine callWith_G rfl ?_
  refine evalArgs_empty ?_
  exact ⟨keepG_looks hk s₁.heap hi, h₁⟩
theorem callF_G {func e : PySem.Expr} {rest : List PySem.Expr} {pos : Pos} {Q : Value → Shared → Prop}
    (h : wpAny (model prog w) A (eval func env) (fun f s₁ => keepG K f = true ∧ wpAny (model prog w) A (spliced (backTo pos (starEach (e :: rest) env))) (fun vs s₂ => K.In s₂.heap ∧ wpG (model prog w) A (call f vs) Q s₂) Nev s₁) Nev s)
    (he : eval (.Call func (e :: rest) [] pos) env = (do callWith pos (← eval func env) [] (backTo pos (starEach (e :: rest) env)) []))
    (hs : starEach (e :: rest) env = (false, eval e env) :: starEach rest env) (hplain : (backTo pos (starEach (e :: rest) env)).any (·.1) = false) : wpG (model prog w) A (eval (.Call func (e :: rest) [] pos) env) Q s := by
  rw [he]
  refine wpG_bind (wpG_mono (wpG_of h) fun f s₁ h₁ => ?_)
  obtain ⟨hk, h₁⟩ := h₁
  refine callWith_G hplain ?_
  rw [hs] at h₁ ⊢
  refine evalArgs_plain (wpAny_mono h₁ (fun vs s' h' => ?_) fun _ _ x => x)
  exact ⟨keepG_looks hk s'.heap h'.1, h'.2⟩
theorem new_baK {Q : Value → Shared → Prop} (F : Fr h₀ L s.heap m) (N : News h₀ L s.heap news)
    (h : ∀ f h', Fr h₀ L h' m → News h₀ L h' ((f, baObj #[]) :: news) → (∀ p ∈ news, @LT.lt Nat _ p.1 f) → Q (.ref f) { s with heap := h' }) : wpG (model prog w) A (call (.type "bytearray") []) Q s := by
  refine new_tree fun h' hk hg => ?_
  exact h _ h' (F.keeps hk) (News.more (F.keeps hk) (N.grown hk) hg (fun es n q => by cases q) (next_is_new F)) fun p hp => Heap.lt_size (N p hp).1
theorem append_baK {f : Addr} {b : Array UInt8} {i : Int} {t : Tok} {Q : Value → Shared → Prop} (F : Fr h₀ L s.heap m) (N : News h₀ L s.heap (own ++ (f, baObj b) :: news)) (h1 : ∀ p ∈ own, p.1 ≠ f) (h2 : ∀ p ∈ news, p.1 ≠ f)
    (hi0 : 0 ≤ i) (hi1 : i < 256) (hz : b.size ≤ 1000)
    (h : ∀ h', Fr h₀ L h' m → News h₀ L h' (own ++ (f, baObj (b.push i.toNat.toUInt8)) :: news) → Q .none { s with heap := h' }) : wpG (model prog w) A (call (.builtin "bytearray.append") [.ref f, .int i t]) Q s := by
  have hm := N (f, baObj b) (List.mem_append_right _ (.head _))
  refine append_G hm.1 hi0 hi1 (by rw [sizeLine_eq]; omega) ?_
  have hs : Heap.SameBut f s.heap (s.heap.update f (Obj.mapBytearray fun x => x.push i.toNat.toUInt8)) := Heap.SameBut.update ..
  exact h _ (F.change hs hm.2.1 hm.2.2) (N.setIn h1 h2 hs (Heap.get?_update_self _ hm.1 rfl))
theorem bytes_baK {f : Addr} {b : Array UInt8} {E : Value → Shared → Prop} {Q : Value → Shared → Prop} (N : News h₀ L s.heap news) (hm : (f, baObj b) ∈ news) (hz : b.size ≤ 1000)
    (h : ∀ t k, Q (.bytes b t) { s with toks := k }) : wpAny (model prog w) A (call (.type "bytes") [.ref f]) Q E s :=
  call_ba (N _ hm).1 (by rw [sizeLine_eq]; omega) h
theorem enumB_G {Q : Flow → Shared → Prop} {xi xc : Str} {pk pv pt : Pos} {x1 : Nat} {body : List Stmt} {l : List UInt8} {t : Tok} {hp h3 : Heap} (hh : A.handled = none)
    (hxi : env.kindOf xi = some .local) (hxc : env.kindOf xc = some .local) (hpl : (env.scope.kind == .class || (env.scope.kind == .module && env.locals != env.globals)) = false)
    (F : Fr h₀ env.locals hp m) (N : News h₀ env.locals hp news) (he : IsEnum h3 (hp.objs.size + 1) hp.objs.size 0 .none) (hit : KBw.IsBytesIter h3 hp.objs.size l.toArray t 0) (hk : ∀ b o, hp.get? b = some o → h3.get? b = some o)
    (J : Nat → (Str → Option Value) → List (Addr × Obj) → Prop) (h0 : J 0 m news)
    (turn : ∀ i c ti tc m₁ news₁ h tk own, l[i]? = some c → J i m₁ news₁ → news₁.map (·.1) = news.map (·.1) → (∀ p ∈ own, @LE.le Nat _ hp.objs.size p.1) →
      Fr h₀ env.locals h (fun y => if y = xc then some (.int (c.toNat : Int) tc) else if y = xi then some (.int (i : Int) ti) else m₁ y) → News h₀ env.locals h (own ++ news₁) →
      wpG (model prog w) A (execs body env) (TEnd h₀ env.locals own news₁ (J (i + 1)) Q s) { s with heap := h, toks := tk })
    (done : ∀ h' tk m' news', Fr h₀ env.locals h' m' → News h₀ env.locals h' news' → news'.map (·.1) = news.map (·.1) → J l.length m' news' → Q .next { s with heap := h', toks := tk }) :
    wpG (model prog w) A (runOwn (.forLoop (.Tuple [.Name xi pk, .Name xc pv] x1 pt) (.ref (hp.objs.size + 1)) body [] env) env) Q { s with heap := h3 } := by
  have hL : env.locals < hp.objs.size := F.ns.lt
  have hsz : l.toArray.size = l.length := by simp
  refine loopU_G (s := { s with heap := h3 }) (P2 := fun i v0 v1 => ∃ c ti tc, l[i]? = some c ∧ v0 = .int (i : Int) ti ∧ v1 = .int (c.toNat : Int) tc) hh
    (WalksT.toU (WalksT.enumerateD (drawsB (prog := prog) (w := w) (A := A.in1) hh hp.objs.size l.toArray t) (hp.objs.size + 1) (Nat.succ_ne_self _) (fun hm => Nat.succ_ne_self _ (List.mem_singleton.mp hm)) (List.mem_singleton.mpr rfl)))
    ?_ hxi hxc hpl ?_ ?_ ?_ ⟨⟨.none, by simpa using he⟩, hit⟩ (F.keeps hk) (N.grown hk) J h0 ?_ (by rw [hsz]; exact done)
  · intro i vals _ rr3
    refine byG ?_
    intro GG hGG
    obtain ⟨ti, x, ⟨c, tc, hc, rfl⟩, rfl⟩ := rr3
    refine hGG ?_
    clear hGG GG
    exact ⟨_, _, rfl, c, ti, tc, by simpa using hc, rfl, rfl⟩
  · intro hm
    rcases List.mem_cons.mp hm with e1 | hm
    · exact Nat.ne_of_lt (Nat.lt_succ_of_lt hL) e1
    · exact Nat.ne_of_lt hL (List.mem_singleton.mp hm)
  · intro b hb
    rcases List.mem_cons.mp hb with rfl | hb
    · exact Heap.get?_none_of_le (Nat.le_succ_of_le (Nat.le_of_lt (Nat.lt_of_le_of_lt F.above hL)))
    · rw [List.mem_singleton.mp hb]; exact Heap.get?_none_of_le (Nat.le_of_lt (Nat.lt_of_le_of_lt F.above hL))
  · intro p hp' hm
    have hlt := Heap.lt_size (N p hp').1
    rcases List.mem_cons.mp hm with e1 | hm
    · exact Nat.ne_of_lt (Nat.lt_succ_of_lt hlt) e1
    · exact Nat.ne_of_lt hlt (List.mem_singleton.mp hm)
  · intro i v0 v1 m₁ news₁ h tk own hi rr9 hJ ha hown F₁ N₁
    refine byG ?_
    intro GG hGG
    obtain ⟨c, ti, tc, hc, rfl, rfl⟩ := rr9
    refine hGG ?_
    clear hGG GG
    refine turn i c ti tc m₁ news₁ h tk own hc hJ ha (fun p hp' => ?_) F₁ N₁
    rcases List.mem_cons.mp (hown p hp') with e1 | hm
    · rw [e1]; exact Nat.le_succ _
    · rw [List.mem_singleton.mp hm]; exact Nat.le_refl _
noncomputable def GEnd {σ : Type} (h₀ : Heap) (L : Addr) (own : List (Addr × Obj)) (W : σ → List (Addr × Obj)) (xi xc y : Str) (X : σ → Value) (m₀ : Str → Option Value) (P : σ → Prop) (Q : Flow → Shared → Prop) (s : Shared) (fl : Flow) (s₂ : Shared) : Prop :=
  match fl with
  | .brk => Q .next s₂
  | .ret v => Q (.ret v) s₂
  | _ => ∃ h' tk' m' a', s₂ = { s with heap := h', toks := tk' } ∧ Fr h₀ L h' m' ∧ News h₀ L h' (own ++ W a') ∧ m' y = some (X a') ∧ (∀ z, z ≠ xc → z ≠ xi → z ≠ y → m' z = m₀ z) ∧ P a'
theorem GEnd.mk {σ : Type} {h₀ : Heap} {L : Addr} {s : Shared} {own : List (Addr × Obj)} {Q : Flow → Shared → Prop} {m₀ : Str → Option Value} {W : σ → List (Addr × Obj)} {xi xc y : Str} {X : σ → Value} {P : σ → Prop} {h' : Heap} {tk' : Nat} {m' : Str → Option Value} {a' : σ} (F : Fr h₀ L h' m') (N : News h₀ L h' (own ++ W a')) (a : m' y = some (X a')) (b : ∀ z, z ≠ xc → z ≠ xi → z ≠ y → m' z = m₀ z) (p : P a') : GEnd h₀ L own W xi xc y X m₀ P Q s .next { s with heap := h', toks := tk' } := ⟨h', tk', m', a', rfl, F, N, a, b, p⟩
set_option tactic.hygienic true in
theorem enumS_G {σ : Type} {Q : Flow → Shared → Prop} {xi xc : Str} {pk pv pt : Pos} {x1 : Nat} {body : List Stmt} {l : List UInt8} {t : Tok} {hp h3 : Heap} (y : Str) (c₀ : σ) (X : σ → Value) (W : σ → List (Addr × Obj)) (P : Nat → σ → Prop) (hh : A.handled = none)
    (hxi : env.kindOf xi = some .local) (hxc : env.kindOf xc = some .local) (hpl : (env.scope.kind == .class || (env.scope.kind == .module && env.locals != env.globals)) = false)
    (F : Fr h₀ env.locals hp m) (N : News h₀ env.locals hp (W c₀)) (he : IsEnum h3 (hp.objs.size + 1) hp.objs.size 0 .none) (hit : KBw.IsBytesIter h3 hp.objs.size l.toArray t 0) (hk : ∀ b o, hp.get? b = some o → h3.get? b = some o)
    (hy : m y = some (X c₀)) (hP : P 0 c₀) (hW : ∀ a, (W a).map (·.1) = (W c₀).map (·.1))
    (turn : ∀ i c ti tc a h tk own, l[i]? = some c → P i a → (∀ p ∈ own, @LE.le Nat _ hp.objs.size p.1) →
      Fr h₀ env.locals h (fun z => if z = xc then some (.int (c.toNat : Int) tc) else if z = xi then some (.int (i : Int) ti) else if z = y then some (X a) else m z) → News h₀ env.locals h (own ++ W a) →
      wpG (model prog w) A (execs body env) (GEnd h₀ env.locals own W xi xc y X m (P (i + 1)) Q s) { s with heap := h, toks := tk })
    (done : ∀ a u1 u2 h tk, P l.length a → Fr h₀ env.locals h (fun z => if z = xc then u2 else if z = xi then u1 else if z = y then some (X a) else m z) → News h₀ env.locals h (W a) → Q .next { s with heap := h, toks := tk }) :
    wpG (model prog w) A (runOwn (.forLoop (.Tuple [.Name xi pk, .Name xc pv] x1 pt) (.ref (hp.objs.size + 1)) body [] env) env) Q { s with heap := h3 } := by
  have key : ∀ (m₁ : Str → Option Value) (a : σ), m₁ y = some (X a) → (∀ z, z ≠ xc → z ≠ xi → z ≠ y → m₁ z = m z) → ∀ u1 u2, (fun z => if z = xc then u2 else if z = xi then u1 else m₁ z) = fun z => if z = xc then u2 else if z = xi then u1 else if z = y then some (X a) else m z := by
    intro m₁ a h1 h2 u1 u2
    funext z
    by_cases e1 : z = xc
    · rw [if_pos e1, if_pos e1]
    · rw [if_neg e1, if_neg e1]
      by_cases e2 : z = xi
      · rw [if_pos e2, if_pos e2]
      · rw [if_neg e2, if_neg e2]
        by_cases e3 : z = y
        · rw [if_pos e3, e3, h1]
        · rw [if_neg e3, h2 z e1 e2 e3]
  refine enumB_G hh hxi hxc hpl F N he hit hk (fun i m' nx => ∃ a, nx = W a ∧ m' y = some (X a) ∧ (∀ z, z ≠ xc → z ≠ xi → z ≠ y → m' z = m z) ∧ P i a) ⟨c₀, rfl, hy, fun _ _ _ _ => rfl, hP⟩ ?_ ?_
  · intro i c ti tc m₁ nx h tk own hc rr10 _ hown F₁ N₁
    refine byG ?_
    intro GG hGG
    obtain ⟨a, rfl, h1, h2, hPa⟩ := rr10
    refine hGG ?_
    clear hGG GG
    rw [key m₁ a h1 h2] at F₁
    refine wpG_mono (turn i c ti tc a h tk own hc hPa hown F₁ N₁) fun f s₂ q => ?_
    revert q
    apply flow_cases f
    rotate_left 3
    · exact fun k => k
    · exact fun _ q => q
    · exact fun q => q
    intro rr0
    refine byG ?_
    intro GG hGG
    obtain ⟨h', tk', m', a', rfl, F', N', a1, a2, a3⟩ := rr0
    refine hGG ?_
    clear hGG GG
    exact ⟨h', tk', m', W a', rfl, F', N', (hW a').trans (hW a).symm, a', rfl, a1, a2, a3⟩
  · intro h tk m₁ nx F₁ N₁ _ rr7
    refine byG ?_
    intro GG hGG
    obtain ⟨a, rfl, h1, h2, hPa⟩ := rr7
    refine hGG ?_
    clear hGG GG
    refine done a (m₁ xi) (m₁ xc) h tk hPa ?_ N₁
    rw [← key m₁ a h1 h2]
    have e : (fun z => if z = xc then m₁ xc else if z = xi then m₁ xi else m₁ z) = m₁ := by
      funext z
      by_cases e1 : z = xc
      · rw [if_pos e1, e1]
      · rw [if_neg e1]
        by_cases e2 : z = xi
        · rw [if_pos e2, e2]
        · rw [if_neg e2]
    rw [e]; exact F₁
end
end Internal
namespace Internal
open Builtin Builtin.ObjectAttr
noncomputable abbrev bcBm : List Value := [.ref 39, .type "Exception", .type "BaseException", .type "object"]
noncomputable abbrev bcObj : Obj := excClassObj (Str.ofString "BadCode") (Str.ofString "BadCode") 52 51 [.ref 39] bcBm true [] [] false none none (some (.ref 43)) none (some (.str (Str.ofString "BadCode") 237)) (some (.str (Str.ofString "BadCode") 245)) (some (.bool true)) "Exception.__new__"
theorem bc_look (p : Params) : (Internal.hd0.heap_1 p).lookup 52 = some bcObj := by rfl
theorem bc_init (p : Params) : findIn (Internal.hd0.heap_1 p) (.ref 52) "__init__" = some (some (.ref 36)) := by rfl
theorem bc_fn (p : Params) : typeIn (Internal.hd0.heap_1 p) (.ref 36) = some (.type "function") := by rfl
theorem bc_seta (p : Params) : findIn (Internal.hd0.heap_1 p) (.ref 52) "__setattr__" = some (some (.builtin "object.__setattr__")) := by rfl
theorem bc_taker (p : Params) : takerIn (Internal.hd0.heap_1 p) 52 (Str.ofString "told") = some none := by rfl
noncomputable abbrev bcExc (t : Addr) (dd : Option Addr) : Obj := { cls := .ref 52, dict := dd, data := .fields #[.ref t, .none, .none, .none, .bool false, .none] }
noncomputable abbrev tupO (vs : List Value) : Obj := { cls := .type "tuple", data := .seq vs.toArray }
theorem bc_has {T : String} (h : bcBm.contains (.type T) = true) : (Value.ref 52 :: bcBm).contains (.type T) = true := by rw [List.contains_cons, h, Bool.or_true]
section
variable {M : Model} {A : Around} {E : Value → Shared → Prop} {h : Heap} {g : Array GenState} {d : Drawn} {t : Nat} {os : OsState}
theorem bc_check_new {rest : List Value} {Q : Unit → Shared → Prop} (hC : h.get? 52 = some bcObj)
    (hq : Q () ⟨h, g, d, t, os⟩) : wpAny M A (checkBuiltinCall "Exception.__new__" ⟨.ref 52 :: rest, []⟩) Q E ⟨h, g, d, t, os⟩ := by
  have F := PySem.F.excBase_Exception
  have hcont : (Value.ref 52 :: bcBm).contains (.type "Exception") = true := by decide
  have hstar := F.noStar
  simp only [checkBuiltinCall, F.newKind, F.newSplit, F.newRow]
  repeat (first | refine wpAny_loadPart_at hC ?_ | (refine wpAny_isSubtype_exc hC ?_; rw [hcont]) | refine wpAny_staticBase_exc hC ?_ | refine wpAny_madeBy_exc hC ?_ | simp only [bne_self_eq_false, Bool.false_eq_true, if_false] | wp_step)
  exact hq
end
section
variable {prog : Program} {w : World} {A : Around} {R : Result → Shared → Prop} {h : Heap} {g : Array GenState} {d : Drawn} {t : Nat} {os : OsState}
theorem bc_new {rest : List Value} (hC : h.get? 52 = some bcObj)
    (hq : R (.ok (.ret (.ref (h.objs.size + 1)))) ⟨(h.push { cls := .type "tuple", data := .seq rest.toArray }).push
      { cls := .ref 52, data := .fields #[.ref h.objs.size, .none, .none, .none, .bool false, .none] }, g, d, t, os⟩) (hrest : rest.length ≤ sizeLine) :
    codeAny (model prog w) A (.builtin "Exception.__new__" ⟨.ref 52 :: rest, []⟩) R ⟨h, g, d, t, os⟩ := by
  have F := PySem.F.excBase_Exception
  have hends := F.ends
  have hcB : (Value.ref 52 :: bcBm).contains (.type "Exception") = true := by decide
  have hcA : (Value.ref 52 :: bcBm).contains (.type "AttributeError") = false := by decide
  have hcN : (Value.ref 52 :: bcBm).contains (.type "NameError") = false := by decide
  refine codeAny_builtinAt F.entry ?_
  unfold Builtin.«BaseException.__new__»
  refine PySem.wpAt_bind ?_
  show PySem.wpAt _ _ _ (stack >>= _) _ _ _
  refine PySem.wpAt_bind (PySem.wpAt_stack fun p below => PySem.wpAt_of_wpAny ?_)
  wp_walk
  refine PySem.wpAt_of_wpAny ?_
  rw [F.owner]
  repeat (first | with_reducible refine wpAny_madeHere_exc F.canon hC ?_ | with_reducible refine wpAny_loadPart_at hC ?_ | (with_reducible refine wpAny_isSubtype_exc hC ?_; first | rw [hcB] | rw [hcA] | rw [hcN]) | wp_step)
  show R _ _
  rw [Heap.size_push]
  exact hq
end
section
variable {prog : Program} {w : World} {A : Around} {E : Value → Shared → Prop} {h : Heap} {g : Array GenState} {d : Drawn} {t : Nat} {os : OsState}
theorem bc_tcall {K : Frag} {v : Value} {Q : Fin → Shared → Prop} (X : K.In h) (hl : K.lookup 52 = some bcObj) (hi : findIn K (.ref 52) "__init__" = some (some (.ref 36))) (hf : typeIn K (.ref 36) = some (.type "function"))
    (hq : wpAny (model prog w) A (call (.ref 36) [.ref (h.objs.size + 1), v]) (fun r s' => r = .none ∧ Q (.done (.ret (.ref (h.objs.size + 1)))) s') E ⟨(h.push { cls := .type "tuple", data := .seq [v].toArray }).push
      { cls := .ref 52, data := .fields #[.ref h.objs.size, .none, .none, .none, .bool false, .none] }, g, d, t, os⟩) :
    wpAny (model prog w) A (Builtin.«type.__call__» ⟨.ref 52 :: [v], []⟩) Q E ⟨h, g, d, t, os⟩ := by
  have hC := X _ _ hl
  have F := PySem.F.excBase_Exception
  repeat (first | with_reducible refine wpAny_loadPart_at hC ?_ | with_reducible refine wpAny_madeBy_exc hC ?_ | wp_step)
  refine codeAny_call_builtin_code (Code.quiet_builtin _ F.quiet) (bc_check_new hC ?_)
  refine bc_new hC ?_ (by size_fits)
  show wpAny _ _ _ _ _ _
  have hC₁ := Heap.get?_push_of_some { cls := .ref 52, data := .fields #[.ref h.objs.size, .none, .none, .none, .bool false, .none] }
    (Heap.get?_push_of_some { cls := .type "tuple", data := .seq [v].toArray } hC)
  have hget : ((h.push { cls := .type "tuple", data := .seq [v].toArray }).push
      { cls := .ref 52, data := .fields #[.ref h.objs.size, .none, .none, .none, .bool false, .none] }).get? (h.objs.size + 1) = some
      { cls := .ref 52, data := .fields #[.ref h.objs.size, .none, .none, .none, .bool false, .none] } := by heap_get
  have hcC : (Value.ref 52 :: bcBm).contains (.ref 52) = true := by decide
  have X₁ : K.In ((h.push { cls := .type "tuple", data := .seq [v].toArray }).push { cls := .ref 52, data := .fields #[.ref h.objs.size, .none, .none, .none, .bool false, .none] }) := X.keeps fun b o e => Heap.get?_push_of_some _ (Heap.get?_push_of_some _ e)
  unfold isInstance
  repeat (first | with_reducible refine wpAny_loadPart_at hget ?_ | (with_reducible refine wpAny_isSubtype_exc hC₁ ?_; rw [hcC]) | wp_step)
  show wpAny _ _ (typeLookup (.ref 52) _) _ _ _
  refine (looks_findIn (M := model prog w) X₁ hi).here ?_
  refine wpAny_holding (wpAny_bind ((bind_fn (M := model prog w) X₁ _ hf).here ?_))
  refine wpAny_bind (wpAny_mono hq (fun r s' hr => ?_) fun _ _ x => x)
  obtain ⟨rfl, hr⟩ := hr
  wp_walk
  exact hr
theorem bc_call {K : Frag} {v : Value} {Q : Value → Shared → Prop} (X : K.In h) (hl : K.lookup 52 = some bcObj) (hi : findIn K (.ref 52) "__init__" = some (some (.ref 36))) (hf : typeIn K (.ref 36) = some (.type "function"))
    (hq : wpAny (model prog w) (A.under (.builtin "type.__call__" ⟨[.ref 52, v], []⟩)) (call (.ref 36) [.ref (h.objs.size + 1), v]) (fun r s' => r = .none ∧ Q (.ref (h.objs.size + 1)) s') E ⟨(h.push { cls := .type "tuple", data := .seq [v].toArray }).push
      { cls := .ref 52, data := .fields #[.ref h.objs.size, .none, .none, .none, .bool false, .none] }, g, d, t, os⟩) :
    wpAny (model prog w) A (call (.ref 52) [v]) Q E ⟨h, g, d, t, os⟩ := by
  have hC := X _ _ hl
  have f1 := tc_lookup
  have f2 := tc_bind (.ref 52)
  have hT : (⟨h, g, d, t, os⟩ : Shared).TypeIs (.ref 52) "type" := ⟨_, hC, rfl⟩
  refine wpAny_call (codeAny_of_tree ?_)
  show wpAny _ _ (callAny (.ref 52) _) _ _ _
  repeat (any_goals (first | assumption | with_reducible refine wpAny_loadPart_at hC ?_ | wp_step))
  refine ⟨rfl, ?_⟩
  refine codeAny_call_builtin_at (Code.quiet_builtin _ (by decide +kernel)) entry_typeCall (wpAny_check_type_call_sub hC (bc_tcall X hl hi hf ?_))
  exact wpAny_mono hq (fun r s' hr => ⟨hr.1, hr.2⟩) fun _ _ x => x
end
section
variable {prog : Program} {w : World} {A : Around} {E : Value → Shared → Prop} {s : Shared} {h₀ : Heap} {L : Addr} {m : Str → Option Value} {news : List (Addr × Obj)}
theorem bc_refuse (self : Value) : refuseLoop self "__setattr__" (.ref 52 :: bcBm) = pure () := by
  rw [refuseLoop_ref, refuseLoop_ref]
  exact PySem.F.store_Exception.passes self
theorem bc_open {K : Frag} {R : Result → Shared → Prop} {x tt : Addr} {name : Str} {tk : Tok} {v : Value} (X : K.In s.heap) (hl : K.lookup 52 = some bcObj) (I : s.heap.get? x = some (bcExc tt none)) (ht : takerIn K 52 name = some none)
    (h : ∀ b, wpAny (model prog w) A.in1 (storeInOwnDict (.ref x) (.ref 52) (.str name tk) name v b)
      (fun fin s' => match fin with | .done f => R (.ok f) s' | .again c' => c'.quiet = true ∧ codeAny (model prog w) A c' R s') (fun e s' => R (.error e) s') s) :
    codeAny (model prog w) A (.call (.builtin "object.__setattr__") ⟨[.ref x, .str name tk, v], []⟩) R s := by
  have SF := PySem.F.store_object
  have hC := X _ _ hl
  have type : Looks (model prog w) s.heap (typeOf (.ref x)) (.ref 52) := (Looks.ld I).andThen .now
  have hc : clsIn K 52 = some { name := Str.ofString "BadCode", bases := [.ref 39], mro := .ref 52 :: bcBm, ns := 51, qualname := Str.ofString "BadCode", hasDict := true, slotNames := [], subclasses := [], abstract := false, collection := none, hasDel := false } := by
    unfold clsIn; rw [hl]
  have sub : Looks (model prog w) s.heap (isInstance (.ref x) (.type "object")) true := type.andThen (looks_mroIn X (by unfold mroIn; rw [hc]; rfl))
  refine codeAny_call_builtin SF.slot.plain SF.entry (@check_slot (model prog w) _ _ s "object.__setattr__" "object" "__setattr__" (.ref x) [.str name tk, v] [] _ SF.kind SF.split sub (SF.args (.ref x) (.str name tk) v) ?_)
  refine byG ?_
  intro GG hGG
  obtain ⟨attr, ha, hr⟩ := Option.bind_eq_some_iff.mp ht
  refine hGG ?_
  clear hGG GG
  have hm : Looks (model prog w) s.heap (mroOf (.ref 52)) (.ref 52 :: bcBm) := (looks_clsIn X hc).andThen .now
  have L3 : Looks (model prog w) s.heap (storeTaker? attr) none := by
    cases attr with
    | none => cases hr; exact .now
    | some a =>
      refine byG ?_
      intro GG hGG
      obtain ⟨b, hb, e⟩ := Option.map_eq_some_iff.mp hr
      refine hGG ?_
      clear hGG GG
      refine (looks_takesIn X hb).andThen ?_
      cases b <;> first | exact .now | cases e
  rw [osa_eq, refuse_eq]
  refine wpAny_bind (wpAny_bind (type.here (wpAny_bind (hm.here ?_))))
  rw [bc_refuse]
  refine wpAny_pure (wpAny_bind (type.here (wpAny_bind ((looks_findIn X ha).here (wpAny_bind (L3.here ?_))))))
  exact h _
theorem bc_set {K : Frag} {x tt : Addr} {v : Value} {name : Str} {Q : Unit → Shared → Prop} (F : Fr h₀ L s.heap m) (X₀ : K.In h₀) (N : News h₀ L s.heap ((x, bcExc tt none) :: news)) (hx : ∀ p ∈ news, p.1 ≠ x) (hl : K.lookup 52 = some bcObj)
    (hs : findIn K (.ref 52) "__setattr__" = some (some (.builtin "object.__setattr__"))) (ht : takerIn K 52 name = some none)
    (h : ∀ h' dd tk', Fr h₀ L h' m → News h₀ L h' ((x, bcExc tt (some dd)) :: news) → Q () { s with heap := h', toks := tk' }) : wpAny (model prog w) A (setAttr (.ref x) name v) Q E s := by
  have X := X₀.keeps F.keep
  have I := N _ (.head _)
  have hxh : s.heap.get? x = some (bcExc tt none) := I.1
  refine set_plain X (od := none) (ox := bcExc tt none) ⟨hxh, rfl, rfl, trivial⟩ hs ?_
  refine bc_open (s := { s with toks := s.toks + 1 }) X hl hxh ht fun b => ?_
  have hC := X _ _ hl
  have hxs : x ≠ s.heap.objs.size := Nat.ne_of_lt (Heap.lt_size hxh)
  have hx₁ : (s.heap.push { cls := .type "dict", data := .dict #[] }).get? x = some (bcExc tt none) := Heap.get?_push_of_some _ hxh
  have hc : clsIn K 52 = some { name := Str.ofString "BadCode", bases := [.ref 39], mro := .ref 52 :: bcBm, ns := 51, qualname := Str.ofString "BadCode", hasDict := true, slotNames := [], subclasses := [], abstract := false, collection := none, hasDel := false } := by
    unfold clsIn; rw [hl]
  have hgd : ((s.heap.push { cls := .type "dict", data := .dict #[] }).update x fun o => { o with dict := some s.heap.objs.size }).get? s.heap.objs.size
      = some { cls := .type "dict", data := .dict #[] } := (Heap.get?_update_ne _ _ _ _ hxs.symm).trans (Heap.get?_push_at rfl rfl)
  have hnd : ((s.heap.push { cls := .type "dict", data := .dict #[] }).update x fun o => { o with dict := some s.heap.objs.size }).Ns s.heap.objs.size (fun _ => none) :=
    ⟨_, #[], _, hgd, rfl, fun e he => absurd he (by simp), fun _ => rfl⟩
  have hx₂ : ((s.heap.push { cls := .type "dict", data := .dict #[] }).update x fun o => { o with dict := some s.heap.objs.size }).get? x = some (bcExc tt (some s.heap.objs.size)) := Heap.get?_update_self _ hx₁ rfl
  show wpAny _ _ (do ownStreamTells (.ref x) (.ref 52); if (Value.ref 52 == .type "module") = true then _ else _) _ _ _
  refine wpAny_bind (wpAny_pure ?_)
  rw [if_neg (by decide)]
  show wpAny _ _ (instanceDict x true >>= _) _ _ _
  refine wpAny_bind ?_
  unfold instanceDict
  refine wpAny_bind (wpAny_loadPart hxh ?_)
  dsimp only
  refine wpAny_bind (Looks.here (s := { s with toks := s.toks + 1 }) (looks_clsIn (M := model prog w) X hc) ?_)
  dsimp only
  rw [if_neg (by decide), if_neg (by decide)]
  refine wpAny_bind (wpAny_alloc' ?_)
  refine wpAny_bind (wpAny_update' hx₁ ?_)
  refine wpAny_pure ?_
  show wpAny _ _ (storeInDict s.heap.objs.size (.str name s.toks) name v) _ _ _
  unfold storeInDict newKeyGuard
  refine wpAny_bind (wpAny_pure (wpAny_bind (wpAny_nsSet1 (Heap.Ns1.of_empty hnd) fun h' hn' hs => ?_)))
  refine byG ?_
  intro GG hGG
  obtain ⟨oD, esD, epD, hoD, hdD, hcD⟩ := hn'.count (Within.cons name v Within.nil)
  refine hGG ?_
  clear hGG GG
  refine wpAny_bind (wpAny_lookBehind hoD (by rw [hdD]; exact pastItsLine_dict (Nat.le_trans hcD (by rw [List.length_cons, List.length_nil, sizeLine_eq]; omega))) ?_)
  have hx' : h'.get? x = some (bcExc tt (some s.heap.objs.size)) := (hs.2 x hxs).trans hx₂
  have hL : L < s.heap.objs.size := F.ns.lt
  have hLx : x ≠ L := I.2.1
  have up : ∀ b o, b ≠ x → s.heap.get? b = some o → h'.get? b = some o := fun b o hbx hb =>
    (hs.2 b (Nat.ne_of_lt (Heap.lt_size hb))).trans ((Heap.get?_update_ne _ _ _ _ hbx).trans (Heap.get?_push_of_some _ hb))
  have F' : Fr h₀ L h' m := by
    refine byG ?_
    intro GG hGG
    obtain ⟨oL, a1, a2, hoL, a3⟩ := F.ns
    refine hGG ?_
    clear hGG GG
    refine ⟨⟨oL, a1, a2, up L _ (fun e => hLx e.symm) hoL, a3⟩, fun b o e => up b o (fun q => ?_) (F.keep b o e), F.above⟩
    rw [q, I.2.2] at e; cases e
  have N' : News h₀ L h' ((x, bcExc tt (some s.heap.objs.size)) :: news) := fun p hp => by
    rcases List.mem_cons.mp hp with rfl | hp
    · exact ⟨hx', I.2⟩
    · exact ⟨up _ _ (hx p hp) (N p (.tail _ hp)).1, (N p (.tail _ hp)).2⟩
  exact wpAny_pure (h _ _ _ F' N')
theorem bc_callK {K : Frag} {v : Value} {Q : Value → Shared → Prop} (F : Fr h₀ L s.heap m) (X₀ : K.In h₀) (N : News h₀ L s.heap news) (hl : K.lookup 52 = some bcObj) (hi : findIn K (.ref 52) "__init__" = some (some (.ref 36))) (hf : typeIn K (.ref 36) = some (.type "function"))
    (h : ∀ x tt h', Fr h₀ L h' m → News h₀ L h' ((x, bcExc tt none) :: (tt, tupO [v]) :: news) → (∀ p ∈ news, p.1 < tt) → tt < x →
      wpAny (model prog w) (A.under (.builtin "type.__call__" ⟨[.ref 52, v], []⟩)) (call (.ref 36) [.ref x, v]) (fun r s' => r = .none ∧ Q (.ref x) s') E { s with heap := h' }) :
    wpAny (model prog w) A (call (.ref 52) [v]) Q E s := by
  refine byG ?_
  intro GG hGG
  obtain ⟨hh, g, d, t, os⟩ := s
  refine hGG ?_
  clear hGG GG
  refine bc_call (X₀.keeps F.keep) hl hi hf ?_
  have N' := (N.push F (tupO [v])).push (F.push _) (bcExc hh.objs.size none)
  rw [Heap.size_push] at N'
  exact h (hh.objs.size + 1) hh.objs.size _ ((F.push _).push _) N' (fun p hp => Heap.lt_size (N p hp).1) (Nat.lt_succ_self _)
theorem bc_raise {env : Env} {x : Sem Value} {Q : Flow → Shared → Prop} {M : Model} (hh : A.handled = none)
    (h : wpAny M A x (fun v s₁ => ∃ e t dd, v = .ref e ∧ s₁.heap.get? 52 = some bcObj ∧ s₁.heap.get? e = some (bcExc t dd) ∧ E (.ref e) s₁) E s) :
    wpAny M A (raiseStmt env (some x) none) Q E s := by
  have hcB : (Value.ref 52 :: bcBm).contains (.type "BaseException") = true := by decide
  unfold raiseStmt
  refine wpAny_bind (wpAny_mono h (fun v s₁ h₁ => ?_) fun _ _ x => x)
  refine byG ?_
  intro GG hGG
  obtain ⟨e, t, dd, rfl, hC, he, hE⟩ := h₁
  refine hGG ?_
  clear hGG GG
  refine byG ?_
  intro GG hGG
  obtain ⟨hp, g, d, tk, os⟩ := s₁
  refine hGG ?_
  clear hGG GG
  repeat (first | with_reducible refine wpAny_loadPart_at he ?_ | with_reducible refine wpAny_loadPart_at hC ?_ | (with_reducible refine wpAny_isSubtype_exc hC ?_; rw [hcB]) | wp_step)
  exact wpAny_raiseNew_none hh hE
theorem raise_bc {env : Env} {np cpos pos : Pos} {x : Str} {args : List PySem.Expr} {Q : Flow → Shared → Prop} {M : Model} (hh : A.handled = none)
    (h : wpAny M A (eval (.Call (.Name x np) args [] cpos) env) (fun v s₁ => ∃ e t dd, v = .ref e ∧ s₁.heap.get? 52 = some bcObj ∧ s₁.heap.get? e = some (bcExc t dd) ∧ E (.ref e) s₁) E s) :
    wpAny M A (exec (.Raise (some (.Call (.Name x np) args [] cpos)) none pos) env) Q E s := by
  rw [arm_exec_Raise]
  first
    | exact wpAny_bind (wpAny_standAt (bc_raise hh (wpAny_bind (wpAny_mono h (fun v s₃ h₃ => wpAny_bind (wpAny_standAt (wpAny_pure h₃))) fun _ _ x => x))))
    | (simp only [evalOpt, Option.map]; exact wpAny_bind (wpAny_standAt (bc_raise hh (wpAny_bind (wpAny_mono h (fun v s₃ h₃ => wpAny_bind (wpAny_standAt (wpAny_pure h₃))) fun _ _ x => x)))))
    | (refine wpAny_bind (wpAny_standAt (bc_raise hh ?_)); exact wpAny_bind (wpAny_mono h (fun v s₃ h₃ => wpAny_bind (wpAny_standAt (wpAny_pure h₃))) fun _ _ x => x))
end
section
variable {M : Model} {A : Around} {E : Value → Shared → Prop} {s' : Shared} {base g : Heap} {outer : List Env} {L a e t : Addr} {m : Str → Option Value} {name : Str} {scope : Scope} {cd : Value} {Q : Unit → Shared → Prop} {news : List (Addr × Obj)}
theorem leave_bc {vs : List Value} {dd : Option Addr} (K : Below A base outer g) (F : Fr g L s'.heap m) (N : News g L s'.heap ((e, bcExc t dd) :: (t, tupO vs) :: news)) (hne : ∀ q ∈ news, q.1 ≠ e ∧ q.1 ≠ t)
    (hQ : ∀ h', RaisedS base g outer e (.ref 52) t vs news h' → g.UpToSlots h' → Q () { s' with heap := h' }) (hk : scope.kind = .function := by rfl) :
    wpAny M (A.deeper (envOf name scope L a cd)) (leaving (envOf name scope L a cd) (.ref e)) Q E s' := by
  have K' := K.push (name := name) (a := a) (cd := cd) F hk
  have He := N _ (.head _)
  have Ht := N _ (.tail _ (.head _))
  have be : base.get? e = none := fresh_of_stays K.stays He.2.2
  have bt : base.get? t = none := fresh_of_stays K.stays Ht.2.2
  have hin : ∀ env ∈ (envOf name scope L a cd :: outer), ∀ b, env.frame = some b → b ∈ (envOf name scope L a cd :: outer).filterMap (·.frame) ++ [e, t] := fun env he b hb => List.mem_append_left _ (List.mem_filterMap.mpr ⟨env, he, hb⟩)
  have st : base.StaysIn (hideAll s'.heap ((envOf name scope L a cd :: outer).filterMap (·.frame) ++ [e, t])) := fun b o q => hideAll_get _ (K'.stays b o q) fun hm => by
    rcases List.mem_append.mp hm with hm | hm
    · rw [(K'.frames.mem hm).1] at q; cases q
    · rcases List.mem_cons.mp hm with rfl | hm
      · rw [be] at q; cases q
      · rw [List.mem_singleton.mp hm, bt] at q; cases q
  have sg : ∀ b o, g.get? b = some o → b ∉ outer.filterMap (·.frame) → (hideAll s'.heap ((envOf name scope L a cd :: outer).filterMap (·.frame) ++ [e, t])).get? b = some o := fun b o q nm => hideAll_get _ (F.keep b o q) fun hm => by
    rcases List.mem_append.mp hm with hm | hm
    · rcases kts_mem hm with z | z
      · rw [z, kts_self F] at q; cases q
      · exact nm z
    · rcases List.mem_cons.mp hm with rfl | hm
      · rw [He.2.2] at q; cases q
      · rw [List.mem_singleton.mp hm, Ht.2.2] at q; cases q
  have hl : ∀ q ∈ news, (hideAll s'.heap ((envOf name scope L a cd :: outer).filterMap (·.frame) ++ [e, t])).get? q.1 = some q.2 ∧ g.get? q.1 = none ∧ base.get? q.1 = none := fun q hq => by
    have Nq := N q (.tail _ (.tail _ hq))
    refine ⟨hideAll_get _ Nq.1 fun hm => ?_, Nq.2.2, fresh_of_stays K.stays Nq.2.2⟩
    rcases List.mem_append.mp hm with hm | hm
    · refine byG ?_
      intro GG hGG
      obtain ⟨env, he, hf⟩ := List.mem_filterMap.mp hm
      refine hGG ?_
      clear hGG GG
      rcases List.mem_cons.mp he with rfl | he
      · exact Nq.2.1 (Option.some.inj hf).symm
      · refine byG ?_
        intro GG hGG
        obtain ⟨o, ho, _⟩ := (K.frames.mem (List.mem_filterMap.mpr ⟨env, he, hf⟩)).2
        refine hGG ?_
        clear hGG GG
        rw [Nq.2.2] at ho; cases ho
    · rcases List.mem_cons.mp hm with h1 | hm
      · exact (hne q hq).1 h1
      · exact (hne q hq).2 (List.mem_singleton.mp hm)
  have Be : (hideAll s'.heap ((envOf name scope L a cd :: outer).filterMap (·.frame) ++ [e, t])).get? e = none := hideAll_none _ (by simp)
  have Bt : (hideAll s'.heap ((envOf name scope L a cd :: outer).filterMap (·.frame) ++ [e, t])).get? t = none := hideAll_none _ (by simp)
  refine wpAny_leaving_firstW (a0 := .ref t) K'.stack (funFrames_hide K'.frames hin) rfl He.1 (fun b o q => of_hideAll _ q) Be rfl rfl rfl fun h' hL => ?_
  refine byG ?_
  intro GG hGG
  obtain ⟨k1, ⟨_, _, k2⟩, k3, k4⟩ := hL
  refine hGG ?_
  clear hGG GG
  refine hQ h' ⟨⟨_, st, sg, hl, ⟨k1, Be, k2, k3⟩, Bt⟩, Heap.TupAt.of_slots ⟨_, _, Ht.1, rfl, rfl⟩ k4⟩ ((Heap.UpToSlots.of_keeps F.keep).trans k4)
end
end Internal
namespace Internal
section
variable {prog : Program} {w : World} {A : Around} {E : Value → Shared → Prop} {s : Shared} {h₀ : Heap} {news : List (Addr × Obj)} {env : Env}
noncomputable def FEndF {σ : Type} (h₀ : Heap) (L : Addr) (nw : List (Addr × Obj)) (x y f : Str) (X : σ → Value) (m₀ : Str → Option Value) (P : σ → Prop) (Q : Flow → Shared → Prop) (s : Shared) (fl : Flow) (s₂ : Shared) : Prop :=
  match fl with
  | .brk => Q .next s₂
  | .ret v => Q (.ret v) s₂
  | _ => ∃ h' tk' m' c', s₂ = { s with heap := h', toks := tk' } ∧ Fr h₀ L h' m' ∧ News h₀ L h' nw ∧ m' y = some (X c') ∧ (∀ z, z ≠ x → z ≠ y → z ≠ f → m' z = m₀ z) ∧ P c'
theorem FEndF.mk {σ : Type} {h₀ : Heap} {L : Addr} {s : Shared} {news : List (Addr × Obj)} {Q : Flow → Shared → Prop} {m₀ : Str → Option Value} {x y f : Str} {X : σ → Value} {P : σ → Prop} {h' : Heap} {tk' : Nat} {m' : Str → Option Value} {c' : σ} (F : Fr h₀ L h' m') (N : News h₀ L h' news) (a : m' y = some (X c')) (b : ∀ z, z ≠ x → z ≠ y → z ≠ f → m' z = m₀ z) (p : P c') : FEndF h₀ L news x y f X m₀ P Q s .next { s with heap := h', toks := tk' } := ⟨h', tk', m', c', rfl, F, N, a, b, p⟩
theorem FEndFF_ret {σ : Type} {L : Addr} {nw : List (Addr × Obj)} {x y f : Str} {X : σ → Value} {m₀ : Str → Option Value} {P : σ → Prop} {Q : Flow → Shared → Prop} {s₂ : Shared} {v : Value} : FEndF h₀ L nw x y f X m₀ P Q s (.ret v) s₂ = Q (.ret v) s₂ := rfl
theorem loop_BF {σ : Type} {x : Str} {body : List Stmt} {Q : Flow → Shared → Prop} {m₀ : Str → Option Value} {l : List UInt8} {tb : Tok} (y f : Str) (c₀ : σ) (X : σ → Value) (P : Nat → σ → Prop) (hh : A.handled = none) (F : Fr h₀ env.locals s.heap m₀) (N : News h₀ env.locals s.heap news)
    (hy : m₀ y = some (X c₀)) (hp : P 0 c₀)
    (turn : ∀ i c t a v h tk own, l[i]? = some c → OwnOff own (news.map (·.1)) → P i a → Fr h₀ env.locals h (fun z => if z = x then some (.int (c.toNat : Int) t) else if z = y then some (X a) else if z = f then v else m₀ z) → News h₀ env.locals h (news ++ own) →
      wpAny (model prog w) A (execs body env) (FEndF h₀ env.locals (news ++ own) x y f X m₀ (P (i + 1)) Q s) E { s with heap := h, toks := tk })
    (done : ∀ a u v h tk, P l.length a → Fr h₀ env.locals h (fun z => if z = x then u else if z = y then some (X a) else if z = f then v else m₀ z) → News h₀ env.locals h news → Q .next { s with heap := h, toks := tk }) :
    wpAny (model prog w) A (pyIter (.bytes l.toArray tb)) (fun it s₂ => LoopAtV prog w A h₀ env x body Q E it s₂) E s := by
  refine KBw.pyIter_bytes ?_
  refine loop_invN (n := l.toArray.size) (fun i m nx => nx = news ∧ ∃ a, m y = some (X a) ∧ (∀ z, z ≠ x → z ≠ y → z ≠ f → m z = m₀ z) ∧ P i a) (KBw.walks (prog := prog) (w := w) hh s.heap.objs.size l.toArray tb) ?_ ?_ ?_ ?_ ⟨_, Heap.get?_push_size _ rfl, rfl, rfl⟩ (F.push _) (fun p hp => ⟨Heap.get?_push_of_some _ (N p hp).1, (N p hp).2⟩) ⟨rfl, c₀, hy, fun _ _ _ _ => rfl, hp⟩ ?_ ?_
  · intro hm
    exact absurd F.ns.lt ((List.mem_singleton.mp hm) ▸ Nat.lt_irrefl _)
  · intro b' hb
    rw [List.mem_singleton.mp hb]
    exact next_is_new F
  · intro p hp hm
    exact absurd (Heap.lt_size (N p hp).1) ((List.mem_singleton.mp hm) ▸ Nat.lt_irrefl _)
  · intro p hp hm
    exact absurd (Heap.lt_size (N p hp).1) ((List.mem_singleton.mp hm) ▸ Nat.lt_irrefl _)
  · intro i v m₁ nx h tk own hi rr8 _ hoff rr11 F₁ N₁
    refine byG ?_
    intro GG hGG
    obtain ⟨c, u, hc, rfl⟩ := rr8
    obtain ⟨rfl, a, ha, hm, hPa⟩ := rr11
    refine hGG ?_
    clear hGG GG
    have e : (fun z => if z = x then some (Value.int (c.toNat : Int) u) else m₁ z) = fun z => if z = x then some (Value.int (c.toNat : Int) u) else if z = y then some (X a) else if z = f then m₁ f else m₀ z := by
      funext z
      by_cases hz : z = x
      · rw [if_pos hz, if_pos hz]
      · rw [if_neg hz, if_neg hz]
        by_cases hz' : z = y
        · rw [if_pos hz', hz', ha]
        · rw [if_neg hz']
          by_cases hf : z = f
          · rw [if_pos hf, hf]
          · rw [if_neg hf, hm z hz hz' hf]
    rw [e] at F₁
    refine wpAny_mono (turn i c u a (m₁ f) h tk own (by simpa using hc) hoff hPa F₁ N₁) (fun fl s₂ q => ?_) fun _ _ x => x
    cases fl with
    | ret v => exact q
    | brk => exact q
    | next =>
      obtain ⟨h', tk', m', c', rfl, F', N', a1, a2, a3⟩ := q
      exact ⟨h', tk', m', nx ++ own, nx, rfl, F', N', fun p hp => List.mem_append_left _ hp, fun p hp => List.mem_append_right _ hp, rfl, rfl, c', a1, a2, a3⟩
    | cont =>
      obtain ⟨h', tk', m', c', rfl, F', N', a1, a2, a3⟩ := q
      exact ⟨h', tk', m', nx ++ own, nx, rfl, F', N', fun p hp => List.mem_append_left _ hp, fun p hp => List.mem_append_right _ hp, rfl, rfl, c', a1, a2, a3⟩
  · intro m₁ nx h tk rr4 F₁ N₁
    refine byG ?_
    intro GG hGG
    obtain ⟨rfl, a, ha, hm, hPa⟩ := rr4
    refine hGG ?_
    clear hGG GG
    refine done a (m₁ x) (m₁ f) h tk (by simpa using hPa) ?_ N₁
    have e : m₁ = fun z => if z = x then m₁ x else if z = y then some (X a) else if z = f then m₁ f else m₀ z := by
      funext z
      by_cases hz : z = x
      · rw [if_pos hz, hz]
      · rw [if_neg hz]
        by_cases hz' : z = y
        · rw [if_pos hz', hz', ha]
        · rw [if_neg hz']
          by_cases hf : z = f
          · rw [if_pos hf, hf]
          · rw [if_neg hf, hm z hz hz' hf]
    rw [← e]; exact F₁
end
end Internal
namespace Internal
section
variable {prog : Program} {w : World} {A : Around} {s : Shared} {env : Env} {h₀ : Heap} {m : Str → Option Value} {news : List (Addr × Obj)}
noncomputable def PEnd (h₀ : Heap) (L : Addr) (nw : List (Addr × Obj)) (xi xc f1 f2 : Str) (m₀ : Str → Option Value) (P : Prop) (Q : Flow → Shared → Prop) (s : Shared) (fl : Flow) (s₂ : Shared) : Prop :=
  match fl with
  | .brk => Q .next s₂
  | .ret v => Q (.ret v) s₂
  | _ => ∃ h' tk' m', s₂ = { s with heap := h', toks := tk' } ∧ Fr h₀ L h' m' ∧ News h₀ L h' nw ∧ (∀ z, z ≠ xc → z ≠ xi → z ≠ f1 → z ≠ f2 → m' z = m₀ z) ∧ P
theorem PEnd.mk {h₀ : Heap} {L : Addr} {s : Shared} {news : List (Addr × Obj)} {Q : Flow → Shared → Prop} {m₀ : Str → Option Value} {xi xc f1 f2 : Str} {P : Prop} {h' : Heap} {tk' : Nat} {m' : Str → Option Value}  (F : Fr h₀ L h' m') (N : News h₀ L h' news) (b : ∀ z, z ≠ xc → z ≠ xi → z ≠ f1 → z ≠ f2 → m' z = m₀ z) (p : P) : PEnd h₀ L news xi xc f1 f2 m₀ P Q s .next { s with heap := h', toks := tk' } := ⟨h', tk', m', rfl, F, N, b, p⟩
theorem pairs_G {Q : Flow → Shared → Prop} {xi xc : Str} {pk pv pt : Pos} {x1 : Nat} {body : List Stmt} {ps : List (List UInt8 × List UInt8)} {Ts : List Addr} {l : Addr} {n : Nat} (f1 f2 : Str) (P : Nat → Prop) (hh : A.handled = none)
    (hxi : env.kindOf xi = some .local) (hxc : env.kindOf xc = some .local) (hpl : (env.scope.kind == .class || (env.scope.kind == .module && env.locals != env.globals)) = false)
    (F : Fr h₀ env.locals s.heap m) (N : News h₀ env.locals s.heap news) (hm : (l, listOf (Ts.map Value.ref).toArray n) ∈ news) (hlen : Ts.length = ps.length)
    (hT : ∀ j, j < ps.length → ∃ t u, (Ts.getD j 0, ({ cls := .type "tuple", data := .seq #[.bytes (ps.getD j ([], [])).1.toArray t, .bytes (ps.getD j ([], [])).2.toArray u] } : Obj)) ∈ news) (hP : P 0)
    (turn : ∀ i wd nm t u v1 v2 h tk own, ps[i]? = some (wd, nm) → P i → Fr h₀ env.locals h (fun z => if z = xc then some (.bytes (List.toArray nm) u) else if z = xi then some (.bytes (List.toArray wd) t) else if z = f1 then v1 else if z = f2 then v2 else m z) → News h₀ env.locals h (own ++ news) →
      wpG (model prog w) A (execs body env) (PEnd h₀ env.locals (own ++ news) xi xc f1 f2 m (P (i + 1)) Q s) { s with heap := h, toks := tk })
    (done : ∀ u1 u2 v1 v2 h tk, P ps.length → Fr h₀ env.locals h (fun z => if z = xc then u2 else if z = xi then u1 else if z = f1 then v1 else if z = f2 then v2 else m z) → News h₀ env.locals h news → Q .next { s with heap := h, toks := tk }) :
    wpAny (model prog w) A (pyIter (.ref l)) (fun it s₂ => wpG (model prog w) A (runOwn (.forLoop (.Tuple [.Name xi pk, .Name xc pv] x1 pt) it body [] env) env) Q s₂) Nev s := by
  have hl : s.heap.IsList l (Ts.map Value.ref).toArray := ⟨_, (N _ hm).1, rfl, _, rfl⟩
  have hlt : l < s.heap.objs.size := Heap.lt_size (N _ hm).1
  have hL : env.locals < s.heap.objs.size := F.ns.lt
  have hsz : (Ts.map Value.ref).toArray.size = ps.length := by simp [hlen]
  refine wpAny_pyIter_list hl ?_
  let tok1 : Nat → Tok := fun j => if h : j < ps.length then (hT j h).choose else (0 : Nat)
  let tok2 : Nat → Tok := fun j => if h : j < ps.length then (hT j h).choose_spec.choose else (0 : Nat)
  have hT' : ∀ j, j < ps.length → (Ts.getD j 0, ({ cls := .type "tuple", data := .seq #[.bytes (ps.getD j ([], [])).1.toArray (tok1 j), .bytes (ps.getD j ([], [])).2.toArray (tok2 j)] } : Obj)) ∈ news := fun j hj => by
    show (Ts.getD j 0, ({ cls := .type "tuple", data := .seq #[.bytes (ps.getD j ([], [])).1.toArray (if h : j < ps.length then (hT j h).choose else (0 : Nat)), .bytes (ps.getD j ([], [])).2.toArray (if h : j < ps.length then (hT j h).choose_spec.choose else (0 : Nat))] } : Obj)) ∈ news
    rw [dif_pos hj, dif_pos hj]
    exact (hT j hj).choose_spec.choose_spec
  have key : ∀ (m₁ : Str → Option Value), (∀ z, z ≠ xc → z ≠ xi → z ≠ f1 → z ≠ f2 → m₁ z = m z) → ∀ u1 u2, (fun z => if z = xc then u2 else if z = xi then u1 else m₁ z) = fun z => if z = xc then u2 else if z = xi then u1 else if z = f1 then m₁ f1 else if z = f2 then m₁ f2 else m z := by
    intro m₁ h2 u1 u2
    funext z
    by_cases e1 : z = xc
    · rw [if_pos e1, if_pos e1]
    · rw [if_neg e1, if_neg e1]
      by_cases e2 : z = xi
      · rw [if_pos e2, if_pos e2]
      · rw [if_neg e2, if_neg e2]
        by_cases e3 : z = f1
        · rw [if_pos e3, e3]
        · rw [if_neg e3]
          by_cases e4 : z = f2
          · rw [if_pos e4, e4]
          · rw [if_neg e4, h2 z e1 e2 e3 e4]
  refine loopU_G (P2 := fun i v0 v1 => ∃ wd nm t u, ps[i]? = some (wd, nm) ∧ v0 = .bytes (List.toArray wd) t ∧ v1 = .bytes (List.toArray nm) u) hh
    (WalksU.listOfTuples (prog := prog) (w := w) hh s.heap.objs.size l (Nat.ne_of_lt hlt) (Ts.map Value.ref).toArray (fun j => Ts.getD j 0) (fun j => #[.bytes (ps.getD j ([], [])).1.toArray (tok1 j), .bytes (ps.getD j ([], [])).2.toArray (tok2 j)])
      (fun j hj => by
        have hj' : j < Ts.length := by rw [hsz] at hj; omega
        rw [List.getElem?_toArray, List.getElem?_map, List.getElem?_eq_getElem hj', List.getD_eq_getElem?_getD, List.getElem?_eq_getElem hj']; rfl)
      (fun j hj => Nat.ne_of_lt (Heap.lt_size (N _ (hT' j (by rw [hsz] at hj; exact hj))).1)))
    ?_ hxi hxc hpl ?_ ?_ ?_ ⟨⟨_, Heap.get?_push_size _ rfl, rfl, rfl⟩, hl.push _, fun k hk => ?_⟩ (F.push _) (fun p hp => ⟨Heap.get?_push_of_some _ (N p hp).1, (N p hp).2⟩)
    (fun i m' nx => nx = news ∧ (∀ z, z ≠ xc → z ≠ xi → z ≠ f1 → z ≠ f2 → m' z = m z) ∧ P i) ⟨rfl, fun _ _ _ _ _ => rfl, hP⟩ ?_ ?_
  · intro i vals hi hv
    rw [hsz] at hi
    subst hv
    refine ⟨_, _, rfl, (ps.getD i ([], [])).1, (ps.getD i ([], [])).2, _, _, ?_, rfl, rfl⟩
    rw [List.getElem?_eq_getElem hi, List.getD_eq_getElem?_getD, List.getElem?_eq_getElem hi]; rfl
  · intro hm'
    rcases List.mem_cons.mp hm' with e1 | hm'
    · exact Nat.ne_of_lt hL e1
    · rcases List.mem_cons.mp hm' with e1 | hm'
      · exact (N _ hm).2.1 e1.symm
      · refine byG ?_
        intro GG hGG
        obtain ⟨j, hj, e⟩ := List.mem_map.mp hm'
        refine hGG ?_
        clear hGG GG
        have hj' : j < ps.length := by have := List.mem_range.mp hj; rw [hsz] at this; exact this
        exact (N _ (hT' j hj')).2.1 e
  · intro b hb
    rw [List.mem_singleton.mp hb]
    exact next_is_new F
  · intro p hp hm'
    exact Nat.ne_of_lt (Heap.lt_size (N p hp).1) (List.mem_singleton.mp hm')
  · have hk' : k < ps.length := by rw [hsz] at hk; exact hk
    exact ⟨_, Heap.get?_push_of_some _ (N _ (hT' k hk')).1, rfl, _, rfl⟩
  · intro i v0 v1 m₁ nx h tk own hi rr9 rr10 _ _ F₁ N₁
    refine byG ?_
    intro GG hGG
    obtain ⟨wd, nm, t, u, hps, rfl, rfl⟩ := rr9
    obtain ⟨rfl, h2, hPa⟩ := rr10
    refine hGG ?_
    clear hGG GG
    rw [key m₁ h2] at F₁
    refine wpG_mono (turn i wd nm t u _ _ h tk own hps hPa F₁ N₁) fun f s₂ q => ?_
    revert q
    apply flow_cases f
    rotate_left 3
    · exact fun k => k
    · exact fun _ q => q
    · exact fun q => q
    intro rr0
    refine byG ?_
    intro GG hGG
    obtain ⟨h', tk', m', rfl, F', N', a2, a3⟩ := rr0
    refine hGG ?_
    clear hGG GG
    exact ⟨h', tk', m', nx, rfl, F', N', rfl, rfl, a2, a3⟩
  · rintro h tk m₁ nx F₁ N₁ _ ⟨rfl, h2, hPa⟩
    refine done (m₁ xi) (m₁ xc) (m₁ f1) (m₁ f2) h tk (by rw [← hsz]; exact hPa) ?_ N₁
    rw [← key m₁ h2]
    have e : (fun z => if z = xc then m₁ xc else if z = xi then m₁ xi else m₁ z) = m₁ := by
      funext z
      by_cases e1 : z = xc
      · rw [if_pos e1, e1]
      · rw [if_neg e1]
        by_cases e2 : z = xi
        · rw [if_pos e2, e2]
        · rw [if_neg e2]
    rw [e]; exact F₁
end
end Internal
namespace Internal
section
variable {prog : Program} {w : World} {A₀ A : Around} {s s' : Shared} {base h₀ : Heap} {outer : List Env} {L a : Addr} {m : Str → Option Value} {cn : Str} {cs : Scope} {ccd : Value} {news : List (Addr × Obj)} {K : Frag} {p : Program} {loose : List Str} {mean : ExcName → Option Value} {mg mb : Str → Option Value}
theorem kts_exit {RR : Result → Shared → Prop} {v : Value} (B : Below A₀ base outer h₀) (F : Fr h₀ L s.heap m) (N : News h₀ L s.heap news) (XB : K.In base) (TB : Top p loose mean mg mb base) (D : KtsDicts (outer.filterMap (·.frame)) h₀) (hA : A.frames = some (envOf cn cs L a ccd :: outer)) (hck : cs.kind = .function)
    (hl : LeaveS ((envOf cn cs L a ccd :: outer).filterMap (·.frame)) A₀ base outer K p loose mean mg mb h₀ h₀ L m (hideAll s.heap (news.map (·.1))) RR v s') : RR (.ok (.ret v)) s' := by
  refine byG ?_
  intro GG hGG
  obtain ⟨oL, es, ep, hLg, hLd, hN, hNs, st, B₂⟩ := kts_enter B F N hA hck
  refine hGG ?_
  clear hGG GG
  have nL₀ : h₀.get? L = none := kts_self F
  have nF : ∀ b o, h₀.get? b = some o → b ∈ (envOf cn cs L a ccd :: outer).filterMap (·.frame) → b ∈ outer.filterMap (·.frame) := fun b o e q => by
    rcases kts_mem q with z | z
    · rw [z, nL₀] at e; cases e
    · exact z
  rcases hl with ⟨L', m', news', F', N', k⟩ | ⟨g', L', m', news', T', F', N', k⟩
  · refine k ⟨hN _ (F'.keep _ _ hLg), fun b o e => F'.keep b o (st b o e), F.above⟩ fun q hq => ⟨(N' q hq).1, fun z => ?_, kts_none st (N' q hq).2.2⟩
    have := (N' q hq).2.2
    rw [z, hLg] at this; cases this
  · obtain ⟨sl, hs⟩ := T'.up hLg
    obtain ⟨T₁, S₁⟩ := kts_turn_at (h := s'.heap) (fs := outer.filterMap (·.frame)) (g := h₀)
      (fun b hb => by obtain ⟨_, o, ho', _⟩ := B.frames.mem hb; exact ⟨o, ho'⟩)
      (fun b o e nm => F'.keep b o (T'.other b o (st b o e) fun q => nm (nF b o e q)))
      (fun b o e _ => by obtain ⟨sl', hs'⟩ := T'.up (st b o e); exact ⟨sl', F'.keep _ _ hs'⟩)
    have B₃ : Below A₀ base outer (ktsHeap s'.heap (outer.filterMap (·.frame)) h₀) := ⟨B.stack, fun b o e => T₁.other b o (B.stays b o e) (fun hm => by
      rw [(B.frames.mem hm).1] at e; cases e), B.frames.of_keeps fun b o e _ => by
      obtain ⟨sl', hs'⟩ := T₁.up e
      exact ⟨_, hs', rfl⟩⟩
    refine k _ T₁ ⟨hNs sl _ (F'.keep _ _ hs), S₁, by rw [T₁.size]; exact F.above⟩ (fun q hq => ⟨(N' q hq).1, fun z => ?_, T₁.none_ _ ?_⟩) B₃ (XB.keeps B₃.stays) (TB.keeps B₃.stays) (D.turn T₁)
    · have := (N' q hq).2.2
      rw [z, hs] at this; cases this
    · cases z : h₀.get? q.1 with
      | none => rfl
      | some o =>
        obtain ⟨sl', hs'⟩ := T'.up (st _ _ z)
        have := (N' q hq).2.2
        rw [hs'] at this; cases this
theorem call_GT {R : Flow → Shared → Prop} {name qual : Str} {params : Arguments} {body : List Stmt} {scope : Scope} {dV kV doc pm cdv ct oc : Value} {an od : Option Addr} {osl : Array (Option Value)} {f : Addr} {args : Args} {binds : List (Str × Value)}
    (B : Below A₀ base outer h₀) (F : Fr h₀ L s.heap m) (X₀ : K.In h₀) (N : News h₀ L s.heap news) (T : Top p loose mean mg mb h₀) (XB : K.In base) (TB : Top p loose mean mg mb base) (D : KtsDicts (outer.filterMap (·.frame)) h₀) (hA : A.frames = some (envOf cn cs L a ccd :: outer)) (hck : cs.kind = .function)
    (ho : K.lookup f = some ⟨oc, od, .func (fnOf name qual params body scope dV kV doc pm an cdv ct), osl⟩) (hcd : codeIn K cdv qual = true) (hroom : A.depth < recursionLimit)
    (hbind : BindsTo s (fnOf name qual params body scope dV kV doc pm an cdv ct) args binds) (hloc : ∀ y ∈ binds, scope.names.lookup y.1 = some .local)
    (h : ∀ g L' h₁, Fr h₀ L g m → Fr g L' h₁ (fun y => binds.reverse.lookup y) → News g L' h₁ news → Below A base (envOf cn cs L a ccd :: outer) g → K.In g → Top p loose mean mg mb g → KtsDicts ((envOf cn cs L a ccd :: outer).filterMap (·.frame)) g →
      wpG (model prog w) (A.deeper (envOf qual scope L' f cdv)) (execs body (envOf qual scope L' f cdv))
        (fun fl s' => LeaveS ((envOf cn cs L a ccd :: outer).filterMap (·.frame)) A₀ base outer K p loose mean mg mb h₀ h₀ L m g (flowR R) (match fl with | .ret v => v | _ => .none) s') { s with heap := h₁, toks := s.toks + binds.length })
    (hco : scope.isCoroutine = false) (hgen : scope.isGenerator = false) (hk : scope.kind = .function) (hcell : ∀ x ∈ scope.names, x.2 ≠ .cell) : codeG (model prog w) A (.call (.ref f) args) R s := by
  refine byG ?_
  intro GG hGG
  obtain ⟨oL, es, ep, hLg, hLd, hN, hNs, st, B₂⟩ := kts_enter B F N hA hck
  refine hGG ?_
  clear hGG GG
  have KS := X₀.keeps F.keep
  refine byG ?_
  intro GG hGG
  obtain ⟨c, oc', vs, tq, hc, hoc, hdc, hq⟩ := codeRec_of KS hcd
  refine hGG ?_
  clear hGG GG
  refine codeG_of_tree (okc_of (by intro _ _ e; cases e)) (wpG_of ?_)
  show wpAny _ A.in1 (callAny (.ref f) args) _ _ s
  simp only [callAny]
  refine wpAny_bind (wpAny_load (KS _ _ ho) ?_)
  simp only [callFunction, hco, hgen, hc]
  rw [hc] at hbind
  refine wpAny_bind (m := field (.ref c) 1) (wpAny_field hoc hdc hq (wpAny_bind (wpAny_pure ?_)))
  refine wpAny_bind (hbind _ _ _ _ (wpAny_bind (wpAny_newFunctionEnv hcell hloc (fun h₁ hns hsb => ?_) hk)))
  have hk₁ : ∀ b o, s.heap.get? b = some o → h₁.get? b = some o := fun b o e => hsb.extBut b o (Nat.ne_of_lt (Heap.lt_size e)) (Heap.get?_push_of_some _ e)
  refine wpAny_bind (wpAny_enterFrame ((T.nolimit.keeps F.keep).fresh _ hsb) hroom (wpAny_pure ⟨rfl, func_G ?_⟩))
  subst hc
  refine wpG_mono (h _ s.heap.objs.size h₁ ⟨hN _ hLg, st, F.above⟩ ⟨hns, fun b o e => hk₁ b o (of_hideAll _ e), Nat.le_of_eq (hideAll_size _ _)⟩
    (fun q hq => ⟨hk₁ _ _ (N q hq).1, Nat.ne_of_lt (Heap.lt_size (N q hq).1), hideAll_none _ (List.mem_map_of_mem hq)⟩) B₂ (X₀.keeps st) (T.keeps st) (fun b hb => by
      rcases kts_mem hb with rfl | hb
      · exact ⟨oL, es, ep, hLg, hLd⟩
      · refine byG ?_
        intro GG hGG
        obtain ⟨o, es', n', ho', hd'⟩ := D b hb
        refine hGG ?_
        clear hGG GG
        exact ⟨o, es', n', st b o ho', hd'⟩)) fun fl s' hl => ?_
  have z := kts_exit (RR := flowR R) B F N XB TB D hA hck hl
  exact z
noncomputable def CutP {α : Type} (h₀ : Heap) (L : Addr) (m : Str → Option Value) (news : List (Addr × Obj)) (P : α → Prop) (s : Shared) (v : α) (s₁ : Shared) : Prop := ∃ h1 tk1, s₁ = { s with heap := h1, toks := tk1 } ∧ P v ∧ Fr h₀ L h1 m ∧ News h₀ L h1 news
theorem CutP.mk {α : Type} {P : α → Prop} {v : α} {h1 : Heap} {tk1 : Nat} (p : P v) (F : Fr h₀ L h1 m) (N : News h₀ L h1 news) : CutP h₀ L m news P s v { s with heap := h1, toks := tk1 } := ⟨_, _, rfl, p, F, N⟩
theorem evalCut_G {M : Model} {α : Type} {t : Sem α} {Q : α → Shared → Prop} (P : α → Prop) (_F : Fr h₀ L s.heap m) (_N : News h₀ L s.heap news) (h : wpG M A t (CutP h₀ L m news P s) s)
    (k : ∀ v h1 tk1, P v → Fr h₀ L h1 m → News h₀ L h1 news → Q v { s with heap := h1, toks := tk1 }) : wpG M A t Q s :=
  wpG_mono h fun v s₁ ⟨h1, tk1, e, p, F, N⟩ => by subst e; exact k v h1 tk1 p F N
noncomputable def CutT {α : Type} (fs : List Addr) (A₁ : Around) (base : Heap) (outer : List Env) (K : Frag) (p : Program) (loose : List Str) (mean : ExcName → Option Value) (mg mb : Str → Option Value) (g₀ : Heap) (L : Addr) (m : Str → Option Value) (news : List (Addr × Obj)) (P : α → Prop) (s : Shared) (v : α) (s₁ : Shared) : Prop :=
  ∃ g1 h1 tk1, s₁ = { s with heap := h1, toks := tk1 } ∧ P v ∧ KtsTurn fs g₀ g1 ∧ Fr g1 L h1 m ∧ News g1 L h1 news ∧ Below A₁ base outer g1 ∧ K.In g1 ∧ Top p loose mean mg mb g1 ∧ KtsDicts fs g1
theorem CutT.mk {α : Type} {fs : List Addr} {A₁ : Around} {g₀ g1 : Heap} {P : α → Prop} {v : α} {h1 : Heap} {tk1 : Nat} (c : P v) (t : KtsTurn fs g₀ g1) (F : Fr g1 L h1 m) (N : News g1 L h1 news) (B : Below A₁ base outer g1) (X : K.In g1) (T : Top p loose mean mg mb g1) (D : KtsDicts fs g1) : CutT fs A₁ base outer K p loose mean mg mb g₀ L m news P s v { s with heap := h1, toks := tk1 } := ⟨_, _, _, rfl, c, t, F, N, B, X, T, D⟩
theorem cutT_G {M : Model} {α : Type} {fs : List Addr} {A₁ : Around} {g₀ : Heap} {t : Sem α} {Q : α → Shared → Prop} (P : α → Prop) (_F : Fr g₀ L s.heap m) (_N : News g₀ L s.heap news) (_B : Below A₁ base outer g₀) (_X : K.In g₀) (_T : Top p loose mean mg mb g₀) (_D : KtsDicts fs g₀) (h : wpG M A t (CutT fs A₁ base outer K p loose mean mg mb g₀ L m news P s) s)
    (k : ∀ v g1 h1 tk1, P v → KtsTurn fs g₀ g1 → Fr g1 L h1 m → News g1 L h1 news → Below A₁ base outer g1 → K.In g1 → Top p loose mean mg mb g1 → KtsDicts fs g1 → Q v { s with heap := h1, toks := tk1 }) : wpG M A t Q s :=
  wpG_mono h fun v s₁ ⟨g1, h1, tk1, e, c, T, F, N, B, X, TT, D⟩ => by subst e; exact k v g1 h1 tk1 c T F N B X TT D
noncomputable def WT (fs : List Addr) (A₁ : Around) (base : Heap) (outer : List Env) (K : Frag) (p : Program) (loose : List Str) (mean : ExcName → Option Value) (mg mb : Str → Option Value) (g₀ : Heap) (L : Addr) (news : List (Addr × Obj)) (y f : Str) (m₀ : Str → Option Value) (P : Nat → Prop) (s : Shared) (k : Nat) (s₂ : Shared) : Prop :=
  ∃ t g2 h2 tk2 m2, s₂ = { s with heap := h2, toks := tk2 } ∧ KtsTurn fs g₀ g2 ∧ Fr g2 L h2 m2 ∧ News g2 L h2 news ∧ Below A₁ base outer g2 ∧ K.In g2 ∧ Top p loose mean mg mb g2 ∧ KtsDicts fs g2 ∧ m2 y = some (.int (k : Int) t) ∧ (∀ z, z ≠ y → z ≠ f → m2 z = m₀ z) ∧ P k
theorem WT.mk {fs : List Addr} {A₁ : Around} {g₀ g2 h2 : Heap} {y f : Str} {m₀ m2 : Str → Option Value} {P : Nat → Prop} {tk2 : Nat} {t : Tok} {j k : Nat} (hj : j < k) (T : KtsTurn fs g₀ g2) (F : Fr g2 L h2 m2) (N : News g2 L h2 news) (B : Below A₁ base outer g2) (X : K.In g2) (TT : Top p loose mean mg mb g2) (D : KtsDicts fs g2) (hy : m2 y = some (.int (j : Int) t)) (hz : ∀ z, z ≠ y → z ≠ f → m2 z = m₀ z) (hP : P j) :
    ∃ j : Nat, j < k ∧ WT fs A₁ base outer K p loose mean mg mb g₀ L news y f m₀ P s j { s with heap := h2, toks := tk2 } := ⟨j, hj, t, g2, h2, tk2, m2, rfl, T, F, N, B, X, TT, D, hy, hz, hP⟩
theorem while_T {M : Model} {fs : List Addr} {A₁ : Around} {env : Env} {test : PySem.Expr} {body : List Stmt} {pos : Pos} {Q : Flow → Shared → Prop} {g₀ : Heap} {y f : Str} {m₀ : Str → Option Value} {P : Nat → Prop} {k₀ : Nat}
    (h : WT fs A₁ base outer K p loose mean mg mb g₀ L news y f m₀ P s k₀ s)
    (turn : ∀ (k : Nat) t v g2 h2 tk2, KtsTurn fs g₀ g2 → Fr g2 L h2 (fun z => if z = y then some (.int (k : Int) t) else if z = f then v else m₀ z) → News g2 L h2 news → Below A₁ base outer g2 → K.In g2 → Top p loose mean mg mb g2 → KtsDicts fs g2 → P k →
      wpG M A (isTrue test env (eval test env)) (fun b s' => if b = true then wpG M A (execs body env) (loopR Q fun s₂ => ∃ j : Nat, j < k ∧ WT fs A₁ base outer K p loose mean mg mb g₀ L news y f m₀ P s j s₂) s' else Q .next s') { s with heap := h2, toks := tk2 })
    (hM : M.den (.whileLoop test body [] env) = denote table (.whileLoop test body [] env)) : wpG M A (exec (.While test body [] pos) env) Q s := by
  refine while_G (fun n s₂ => WT fs A₁ base outer K p loose mean mg mb g₀ L news y f m₀ P s n s₂) k₀ h ?_ hM
  intro n s₁ rr2
  refine byG ?_
  intro GG hGG
  obtain ⟨t, g2, h2, tk2, m2, rfl, T, F, N, B, X, TT, D, a1, a2, hP⟩ := rr2
  refine hGG ?_
  clear hGG GG
  have e : m2 = fun z => if z = y then some (.int (n : Int) t) else if z = f then m2 f else m₀ z := by
    funext z
    by_cases h1 : z = y
    · rw [if_pos h1, h1, a1]
    · rw [if_neg h1]
      by_cases h2 : z = f
      · rw [if_pos h2, h2]
      · rw [if_neg h2, a2 z h1 h2]
  rw [e] at F
  exact turn n t (m2 f) g2 h2 tk2 T F N B X TT D hP
end
end Internal
namespace Internal
section
variable {prog : Program} {w : World} {A : Around} {s : Shared} {K : Frag} {p : Program} {loose : List Str} {mean : ExcName → Option Value} {mg mb : Str → Option Value}
theorem call_top {R : Flow → Shared → Prop} {name qual : Str} {params : Arguments} {body : List Stmt} {scope : Scope} {dV kV doc pm cdv ct : Value} {an : Option Addr} {o : Obj} {f : Addr} {args : Args} {binds : List (Str × Value)}
    (T : Top p loose mean mg mb s.heap)
    (ho : s.heap.get? f = some o) (hd : o.data = .func (fnOf name qual params body scope dV kV doc pm an cdv ct)) (hcd : s.heap.CodeRec cdv qual) (hroom : A.depth < recursionLimit)
    (hbind : BindsTo s (fnOf name qual params body scope dV kV doc pm an cdv ct) args binds) (hloc : ∀ y ∈ binds, scope.names.lookup y.1 = some .local)
    (h : ∀ L' h₁, Fr s.heap L' h₁ (fun y => binds.reverse.lookup y) →
      wpG (model prog w) (A.deeper (envOf qual scope L' f cdv)) (execs body (envOf qual scope L' f cdv)) (fun fl s' => R (.ret (match fl with | .ret v => v | _ => .none)) s') { s with heap := h₁, toks := s.toks + binds.length })
    (hco : scope.isCoroutine = false) (hgen : scope.isGenerator = false) (hk : scope.kind = .function) (hcell : ∀ x ∈ scope.names, x.2 ≠ .cell) : codeG (model prog w) A (.call (.ref f) args) R s := by
  obtain ⟨c, oc', vs, tq, hc, hoc, hdc, hq⟩ := hcd
  obtain ⟨oc, osl, od, dd⟩ := o
  dsimp only at hd
  subst hd
  refine codeG_of_tree (okc_of (by intro _ _ e; cases e)) (wpG_of ?_)
  show wpAny _ A.in1 (callAny (.ref f) args) _ _ s
  simp only [callAny]
  refine wpAny_bind (wpAny_load ho ?_)
  simp only [callFunction, hco, hgen, hc]
  rw [hc] at hbind
  refine wpAny_bind (m := field (.ref c) 1) (wpAny_field hoc hdc hq (wpAny_bind (wpAny_pure ?_)))
  refine wpAny_bind (hbind _ _ _ _ (wpAny_bind (wpAny_newFunctionEnv hcell hloc (fun h₁ hns hsb => ?_) hk)))
  have hk₁ : ∀ b o, s.heap.get? b = some o → h₁.get? b = some o := fun b o e => hsb.extBut b o (Nat.ne_of_lt (Heap.lt_size e)) (Heap.get?_push_of_some _ e)
  refine wpAny_bind (wpAny_enterFrame (T.nolimit.fresh _ hsb) hroom (wpAny_pure ⟨rfl, func_G ?_⟩))
  subst hc
  exact h _ h₁ ⟨hns, fun b o e => hk₁ b o e, Nat.le_refl _⟩
end
end Internal
namespace Internal
set_option maxHeartbeats 0
theorem top_run : ∀ (w : World) (os : OsState), (topG (Fast.tw6613529449190102663 11 (some (.ref 6))) (Fast.tw10156331382660048174 (Fast.tw11892475500146522536 Fast.tw14364793385576792824) PySem.Challenge.rw_on0374_01.row.prog w) 5404 (bootS w.params os) (topStub PySem.Challenge.rw_on0374_01.row.prog)).map (fun s =>
    ((staticsOk (importedModules PySem.Challenge.rw_on0374_01.row.prog.main.body) (boot_heap w.params) s.abs.heap && namesBound PySem.Challenge.rw_on0374_01.row.prog s.abs.heap && gensDone s.abs && laidKept (boot_heap w.params) s.abs.heap),
      Fast.tw4187177175401517315 hd0.view_1 [Str.ofString "UniError", Str.ofString "SYLLABLES"] (importedModules PySem.Challenge.rw_on0374_01.row.prog.main.body)
        (fun s => xlAt hd0.view_1 [(Str.ofString "SYLLABLES", WData.int 11172)] s && recOk PySem.Challenge.rw_on0374_01.row.records s) true s.abs, List.map s.abs.heap.get? [2, 3, 15, 17, 18, 20, 21, 22, 29, 30, 32, 33, 35, 36, 37, 38, 39, 40, 43, 50, 51, 52, 55, 57, 58, 60, 61, 62, 64, 65, 67, 68, 69, 71, 72, 74, 75, 76, 78, 79, 81, 82, 83, 85, 86, 88, 89, 90, 92, 93, 95, 96, 97, 99, 100, 102, 103, 104, 106, 107, 109, 110, 111, 114, 115, 116, 118, 119, 121, 122, 123, 125, 126, 128, 129, 130, 132, 133, 135, 136, 137, 139, 140, 142, 143, 144, 146, 147, 149, 150, 151, 153, 154, 156, 157, 158, 160, 161, 163, 164, 165, 167, 168, 170, 171, 172, 174, 175, 177, 178, 179, 181, 182, 184, 185, 186, 189, 190, 191, 193, 194, 196, 197, 198, 201, 202, 203, 205, 206, 208, 209, 210, 212, 213, 215, 216, 224, 226, 227, 229, 230, 231, 233, 234, 236, 237, 238, 240, 241, 243, 244, 245, 248, 249, 250, 252, 253, 255, 256, 257, 258, 259, 260, 261, 264, 266, 267, 269, 270, 271, 273, 274, 276, 277, 285, 287, 288, 290, 291, 292, 294, 295, 297, 298, 299, 301, 302, 304, 305, 306, 308, 309, 311, 312, 313, 314, 315, 316, 317, 320, 323, 324, 325, 327, 328, 330, 331, 332, 334, 335, 337, 338, 339, 341, 342, 344, 345, 346, 348, 349, 351, 352, 353, 356, 357, 358, 360, 361, 363, 364, 365, 367, 368, 370, 371, 372, 375, 376, 377, 380, 381, 382, 384, 385, 387, 388, 389, 391, 392, 394, 395, 396, 398, 399, 401, 402, 403, 405, 406, 408, 409, 410, 412, 413, 415, 416])) =
    some (true, openGood hd0.view_1 [Str.ofString "UniError", Str.ofString "SYLLABLES"], List.map (fun p => some p.2) (hd0.heap_1 w.params)) := fun w os => by kernel_rfl
theorem law_said : PySem.Challenge.rw_on0374_01.wellSaid = true := by
  unfold OpenLaw.wellSaid
  iterate 18 refine look_both ?_ (by decide +kernel)
  unfold OpenRow.wellSaid
  iterate 2 refine look_both ?_ (by decide +kernel)
  unfold OpenRow.partSaid
  iterate 12 refine look_both ?_ (by decide +kernel)
  unfold looksOpen
  (repeat with_reducible refine look_both ?_ (by decide +kernel))
  decide +kernel
theorem law_of {A W : Prop} (h : A ∧ W → PySem.Challenge.rw_on0374_01.row.Holds) (a : A) (w : W) : PySem.Challenge.rw_on0374_01.Holds := holds_law law_said fun _ => h ⟨a, w⟩
end Internal
namespace Internal
theorem dummyX (h : PySem.Challenge.rw_on0374_01 = PySem.Challenge.rw_on0374_01) (k : hd0.heap_1 = hd0.heap_1) : PySem.Challenge.rw_on0374_01 = PySem.Challenge.rw_on0374_01 ∧ hd0.heap_1 = hd0.heap_1 := by
  w_top off
  k_fill
  exact ⟨h, k⟩
end Internal
local macro_rules | `(tactic| walk_at $s:str) => `(tactic| k_extra $s)
local macro_rules | `(tactic| k_all) => `(tactic| walk_at "ALL")
local macro_rules | `(tactic| ktr_room) => `(tactic| walk_at "ROOM")
local macro_rules | `(tactic| ktr_units) => `(tactic| walk_at "UNITS")
local macro_rules | `(tactic| k_ne) => `(tactic| walk_at "NE")
local macro_rules | `(tactic| cell_enter) => `(tactic| walk_at "ENTER")
local macro_rules | `(tactic| k_lt $h:ident) => `(tactic| replace $h := allLt_of $h)
local macro_rules | `(tactic| k_mem) => `(tactic| walk_at "MEM")
namespace Internal
noncomputable def capI (o : Int) : Int := if 97 ≤ o ∧ o ≤ 122 then o - 32 else o
noncomputable def signI (o : Int) : Bool := decide (48 ≤ o ∧ o ≤ 57 ∨ 65 ≤ o ∧ o ≤ 90 ∨ 97 ≤ o ∧ o ≤ 122)
noncomputable def hexI (o : Int) : Option Int := if 48 ≤ o ∧ o ≤ 57 then some (o - 48) else if 65 ≤ o ∧ o ≤ 70 then some (o - 55) else if 97 ≤ o ∧ o ≤ 102 then some (o - 87) else none
noncomputable def shortB (l : List UInt8) : List UInt8 := if l = [45] then [] else l
noncomputable def isSylI (c : Int) : Bool := decide (0 ≤ c - 44032 ∧ c - 44032 < 11172)
theorem sgA {o : Int} (a : 48 ≤ o) (b : o ≤ 57) : (o ≤ 57 ↔ 48 ≤ o ∧ o ≤ 57 ∨ 65 ≤ o ∧ o ≤ 90 ∨ 97 ≤ o ∧ o ≤ 122) := iff_of_true b (.inl ⟨a, b⟩)
theorem sgB {o : Int} (a : 65 ≤ o) (b : o ≤ 90) : (o ≤ 90 ↔ 48 ≤ o ∧ o ≤ 57 ∨ 65 ≤ o ∧ o ≤ 90 ∨ 97 ≤ o ∧ o ≤ 122) := iff_of_true b (.inr (.inl ⟨a, b⟩))
theorem sgC {o : Int} (a : 97 ≤ o) : (o ≤ 122 ↔ 48 ≤ o ∧ o ≤ 57 ∨ 65 ≤ o ∧ o ≤ 90 ∨ 97 ≤ o ∧ o ≤ 122) := ⟨fun b => .inr (.inr ⟨a, b⟩), fun q => q.elim (fun z => Int.le_trans z.2 (by decide)) fun q => q.elim (fun z => Int.le_trans z.2 (by decide)) fun z => z.2⟩
theorem sgD {o : Int} (a : ¬ o ≤ 90) (b : ¬ 97 ≤ o) : (97 ≤ o ↔ 48 ≤ o ∧ o ≤ 57 ∨ 65 ≤ o ∧ o ≤ 90 ∨ 97 ≤ o ∧ o ≤ 122) := iff_of_false b fun q => q.elim (fun z => a (Int.le_trans z.2 (by decide))) fun q => q.elim (fun z => a z.2) fun z => b z.1
theorem sgE {o : Int} (a : ¬ o ≤ 57) (b : ¬ 65 ≤ o) : (97 ≤ o ↔ 48 ≤ o ∧ o ≤ 57 ∨ 65 ≤ o ∧ o ≤ 90 ∨ 97 ≤ o ∧ o ≤ 122) := iff_of_false (fun z => b (Int.le_trans (by decide) z)) fun q => q.elim (fun z => a z.2) fun q => b (q.elim (fun z => z.1) fun z => Int.le_trans (by decide) z.1)
theorem sgF {o : Int} (a : ¬ 48 ≤ o) : (97 ≤ o ↔ 48 ≤ o ∧ o ≤ 57 ∨ 65 ≤ o ∧ o ≤ 90 ∨ 97 ≤ o ∧ o ≤ 122) := iff_of_false (fun z => a (Int.le_trans (by decide) z)) fun q => a (q.elim (fun z => z.1) fun q => q.elim (fun z => Int.le_trans (by decide) z.1) fun z => Int.le_trans (by decide) z.1)
theorem name_capital_ok (news : List (Addr × Obj)) (o : Int) (t : Tok) : Fn 1 171 [.int o t] news (Pure news (IsInt (capI o))) := by
  k_with_none
  k_with "FOLD" => ((fail_if_success (fail_if_success k_fold)); (try ((with_reducible rename Fr _ _ _ _ => Fz); (fail_if_success (with_reducible have : Fr _ _ _ mk := Fz)); (with_reducible refine let mk := _; have Fy : Fr _ _ _ mk := Fz; ?_); clear Fz)); (try ((with_reducible rename News _ _ _ _ => Nz); (fail_if_success (with_reducible have : News _ _ _ lk := Nz)); (with_reducible refine let lk := _; have Ny : News _ _ _ lk := Nz; ?_); clear Nz)); with_reducible refine let qk := _; let ek := _; (?_ : wpAny _ _ _ qk ek _))
  k_with "STEPS" => ((try walk_at "FOLD"); repeat' (first | (k_unfold; (try dsimp only)) | (k_end; wrow_close) | (walk1; all_goals (try ((fail_if_success (with_reducible show wpAny _ _ (subscriptTail _ _ _ _) _ _ _)); dsimp only)); all_goals (try ((with_reducible first | show wpAny _ _ (exec _ _) _ _ _ | show wpAny _ _ (execs _ _) _ _ _); (try ((with_reducible first | refine genTok ?_ | refine genTokS ?_); intro tkG)); (try walk_at "FOLD")))) | (dsimp only; walk1)))
  k_with "ROOM" => (first | exact U0 ‹_› | exact U1 ‹_› (by exact rfl) | exact U2 ‹_› (by exact rfl) | exact U3 ‹_› (by exact rfl) | ((simp +zetaDelta only [depth_under_make, depth_under_kw, depth_in1, depth_deeper, depth_caller]); (try dsimp only [ktrTop]); first | omega | decide +kernel))
  k_with "UNITS" => (first | exact U1 ‹_› (by exact rfl) | exact U2 ‹_› (by exact rfl) | exact U3 ‹_› (by exact rfl) | exact U4 ‹_› (by exact rfl) | exact U5 ‹_› (by exact rfl) | (have hcL9 := cLine_is; (simp +zetaDelta only [units_under_make, units_in1, units_deeper, Around.mark_units, units_caller]); (try dsimp only [ktrTop]); first | (rw [hcL9]; decide) | omega | decide +kernel))
  k_with "NE" => (first | with_reducible assumption | (refine neN (Nat.ne_of_lt ?_); walk_at "LTS") | (refine neN (Nat.ne_of_gt ?_); walk_at "LTS") | (refine neN ?_; (try dsimp only); omega))
  k_with "ENTER" => (refine' Internal.code_defN ?k1 ?k2 ?k3 ?k4 ?k5 ?kA ?kF ?kK ?k6 ?k7 ?k8 ?k9 ?kB ?_ ?c2 ?c3 ?c4 ?c5; (case kA | kF => exact rfl); (case kK => first | exact rfl | assumption); (case k1 | k2 | k3 | k4 | k5 => k_asm); (case k6 | k7 => k_is); (case k8 => ktr_room); (case k9 => exact BindsTo.of_eq (by kernel_rfl)); (case c5 => decide); (case kB => exact locs rfl); (case c2 | c3 | c4 => exact rfl); k_whole; intro g' L' h' tk' FG' F' N' B' X' T'; (try dsimp only); (try k_lift B'); (try walk_at "FOLD"); (refine let Ak : Around := _; (?_ : wpAny _ Ak _ _ _ _)))
  k_with "LTS" => (first | with_reducible assumption | exact ltM (by with_reducible assumption) (by k_mem) | exact And.left (by with_reducible assumption) | exact And.left (And.right (by with_reducible assumption)) | exact And.right (And.right (by with_reducible assumption)) | exact And.left (And.right (And.right (by with_reducible assumption))) | exact And.right (And.right (And.right (by with_reducible assumption))))
  k_with "ALL" => (first | with_reducible assumption | exact ne_of_allLt ‹_›)
  k_with "MEM" => (first | exact List.Mem.head _ | exact Mem1 | exact Mem2 | exact Mem3 | exact Mem4 | exact Mem5 | (refine TL6 ?_; walk_at "MEM"))
  k_with "WN" => (first | exact wLo ‹_› (by decide) | exact wHi ‹_› (by decide) | exact wGt ‹_› (by decide) | omega)
  k_with "WP" => (first | exact ⟨by assumption, by assumption⟩ | omega)
  intro w mean mg mb dp un gd cn cs a ccd cl outer A₀ base h₀ L m s Q E B F X N T hk hd hu hret
  refine wpAny_call ?_
  k_dflt cell_enter
  walk_at "STEPS"
  all_goals first
    | exact hret _ _ _ _ ⟨⟨_, by simp only [capI]; rw [if_pos (by walk_at "WP")]⟩, rfl⟩ ‹_› ‹_›
    | exact hret _ _ _ _ ⟨⟨_, by simp only [capI]; rw [if_neg (by walk_at "WN")]⟩, rfl⟩ ‹_› ‹_›
theorem name_is_sign_ok (news : List (Addr × Obj)) (o : Int) (t : Tok) : Fn 1 164 [.int o t] news (Pure news (IsBool (signI o))) := by
  k_with_none
  k_with "FOLD" => ((fail_if_success (fail_if_success k_fold)); (try ((with_reducible rename Fr _ _ _ _ => Fz); (fail_if_success (with_reducible have : Fr _ _ _ mk := Fz)); (with_reducible refine let mk := _; have Fy : Fr _ _ _ mk := Fz; ?_); clear Fz)); (try ((with_reducible rename News _ _ _ _ => Nz); (fail_if_success (with_reducible have : News _ _ _ lk := Nz)); (with_reducible refine let lk := _; have Ny : News _ _ _ lk := Nz; ?_); clear Nz)); with_reducible refine let qk := _; let ek := _; (?_ : wpAny _ _ _ qk ek _))
  k_with "STEPS" => ((try walk_at "FOLD"); repeat' (first | (k_unfold; (try dsimp only)) | (k_end; wrow_close) | (walk1; all_goals (try ((fail_if_success (with_reducible show wpAny _ _ (subscriptTail _ _ _ _) _ _ _)); dsimp only)); all_goals (try ((with_reducible first | show wpAny _ _ (exec _ _) _ _ _ | show wpAny _ _ (execs _ _) _ _ _); (try ((with_reducible first | refine genTok ?_ | refine genTokS ?_); intro tkG)); (try walk_at "FOLD")))) | (dsimp only; walk1)))
  k_with "ROOM" => (first | exact U0 ‹_› | exact U1 ‹_› (by exact rfl) | exact U2 ‹_› (by exact rfl) | exact U3 ‹_› (by exact rfl) | ((simp +zetaDelta only [depth_under_make, depth_under_kw, depth_in1, depth_deeper, depth_caller]); (try dsimp only [ktrTop]); first | omega | decide +kernel))
  k_with "UNITS" => (first | exact U1 ‹_› (by exact rfl) | exact U2 ‹_› (by exact rfl) | exact U3 ‹_› (by exact rfl) | exact U4 ‹_› (by exact rfl) | exact U5 ‹_› (by exact rfl) | (have hcL9 := cLine_is; (simp +zetaDelta only [units_under_make, units_in1, units_deeper, Around.mark_units, units_caller]); (try dsimp only [ktrTop]); first | (rw [hcL9]; decide) | omega | decide +kernel))
  k_with "NE" => (first | with_reducible assumption | (refine neN (Nat.ne_of_lt ?_); walk_at "LTS") | (refine neN (Nat.ne_of_gt ?_); walk_at "LTS") | (refine neN ?_; (try dsimp only); omega))
  k_with "ENTER" => (refine' Internal.code_defN ?k1 ?k2 ?k3 ?k4 ?k5 ?kA ?kF ?kK ?k6 ?k7 ?k8 ?k9 ?kB ?_ ?c2 ?c3 ?c4 ?c5; (case kA | kF => exact rfl); (case kK => first | exact rfl | assumption); (case k1 | k2 | k3 | k4 | k5 => k_asm); (case k6 | k7 => k_is); (case k8 => ktr_room); (case k9 => exact BindsTo.of_eq (by kernel_rfl)); (case c5 => decide); (case kB => exact locs rfl); (case c2 | c3 | c4 => exact rfl); k_whole; intro g' L' h' tk' FG' F' N' B' X' T'; (try dsimp only); (try k_lift B'); (try walk_at "FOLD"); (refine let Ak : Around := _; (?_ : wpAny _ Ak _ _ _ _)))
  k_with "LTS" => (first | with_reducible assumption | exact ltM (by with_reducible assumption) (by k_mem) | exact And.left (by with_reducible assumption) | exact And.left (And.right (by with_reducible assumption)) | exact And.right (And.right (by with_reducible assumption)) | exact And.left (And.right (And.right (by with_reducible assumption))) | exact And.right (And.right (And.right (by with_reducible assumption))))
  k_with "ALL" => (first | with_reducible assumption | exact ne_of_allLt ‹_›)
  k_with "MEM" => (first | exact List.Mem.head _ | exact Mem1 | exact Mem2 | exact Mem3 | exact Mem4 | exact Mem5 | (refine TL6 ?_; walk_at "MEM"))
  intro w mean mg mb dp un gd cn cs a ccd cl outer A₀ base h₀ L m s Q E B F X N T hk hd hu hret
  refine wpAny_call ?_
  k_dflt cell_enter
  walk_at "STEPS"
  all_goals first
    | exact hret _ _ _ _ ⟨by (show _ = Value.bool _); congr 1; simp only [signI]; first | (apply Eq.symm; apply decide_eq_true; omega) | (apply decide_eq_decide.mpr; first | exact sgA ‹_› ‹_› | exact sgB ‹_› ‹_› | exact sgC ‹_› | exact sgD ‹_› ‹_› | exact sgE ‹_› ‹_› | exact sgF ‹_› | omega) | (apply Eq.symm; apply decide_eq_false; omega), rfl⟩ ‹_› ‹_›
theorem hex_value_ok (news : List (Addr × Obj)) (o : Int) (t : Tok) : Fn 1 82 [.int o t] news (Pure news (optInt (hexI o))) := by
  k_with_none
  k_with "FOLD" => ((fail_if_success (fail_if_success k_fold)); (try ((with_reducible rename Fr _ _ _ _ => Fz); (fail_if_success (with_reducible have : Fr _ _ _ mk := Fz)); (with_reducible refine let mk := _; have Fy : Fr _ _ _ mk := Fz; ?_); clear Fz)); (try ((with_reducible rename News _ _ _ _ => Nz); (fail_if_success (with_reducible have : News _ _ _ lk := Nz)); (with_reducible refine let lk := _; have Ny : News _ _ _ lk := Nz; ?_); clear Nz)); with_reducible refine let qk := _; let ek := _; (?_ : wpAny _ _ _ qk ek _))
  k_with "STEPS" => ((try walk_at "FOLD"); repeat' (first | (k_unfold; (try dsimp only)) | (k_end; wrow_close) | (walk1; all_goals (try ((fail_if_success (with_reducible show wpAny _ _ (subscriptTail _ _ _ _) _ _ _)); dsimp only)); all_goals (try ((with_reducible first | show wpAny _ _ (exec _ _) _ _ _ | show wpAny _ _ (execs _ _) _ _ _); (try ((with_reducible first | refine genTok ?_ | refine genTokS ?_); intro tkG)); (try walk_at "FOLD")))) | (dsimp only; walk1)))
  k_with "ROOM" => (first | exact U0 ‹_› | exact U1 ‹_› (by exact rfl) | exact U2 ‹_› (by exact rfl) | exact U3 ‹_› (by exact rfl) | ((simp +zetaDelta only [depth_under_make, depth_under_kw, depth_in1, depth_deeper, depth_caller]); (try dsimp only [ktrTop]); first | omega | decide +kernel))
  k_with "UNITS" => (first | exact U1 ‹_› (by exact rfl) | exact U2 ‹_› (by exact rfl) | exact U3 ‹_› (by exact rfl) | exact U4 ‹_› (by exact rfl) | exact U5 ‹_› (by exact rfl) | (have hcL9 := cLine_is; (simp +zetaDelta only [units_under_make, units_in1, units_deeper, Around.mark_units, units_caller]); (try dsimp only [ktrTop]); first | (rw [hcL9]; decide) | omega | decide +kernel))
  k_with "NE" => (first | with_reducible assumption | (refine neN (Nat.ne_of_lt ?_); walk_at "LTS") | (refine neN (Nat.ne_of_gt ?_); walk_at "LTS") | (refine neN ?_; (try dsimp only); omega))
  k_with "ENTER" => (refine' Internal.code_defN ?k1 ?k2 ?k3 ?k4 ?k5 ?kA ?kF ?kK ?k6 ?k7 ?k8 ?k9 ?kB ?_ ?c2 ?c3 ?c4 ?c5; (case kA | kF => exact rfl); (case kK => first | exact rfl | assumption); (case k1 | k2 | k3 | k4 | k5 => k_asm); (case k6 | k7 => k_is); (case k8 => ktr_room); (case k9 => exact BindsTo.of_eq (by kernel_rfl)); (case c5 => decide); (case kB => exact locs rfl); (case c2 | c3 | c4 => exact rfl); k_whole; intro g' L' h' tk' FG' F' N' B' X' T'; (try dsimp only); (try k_lift B'); (try walk_at "FOLD"); (refine let Ak : Around := _; (?_ : wpAny _ Ak _ _ _ _)))
  k_with "LTS" => (first | with_reducible assumption | exact ltM (by with_reducible assumption) (by k_mem) | exact And.left (by with_reducible assumption) | exact And.left (And.right (by with_reducible assumption)) | exact And.right (And.right (by with_reducible assumption)) | exact And.left (And.right (And.right (by with_reducible assumption))) | exact And.right (And.right (And.right (by with_reducible assumption))))
  k_with "ALL" => (first | with_reducible assumption | exact ne_of_allLt ‹_›)
  k_with "MEM" => (first | exact List.Mem.head _ | exact Mem1 | exact Mem2 | exact Mem3 | exact Mem4 | exact Mem5 | (refine TL6 ?_; walk_at "MEM"))
  k_with "WN" => (first | exact wLo ‹_› (by decide) | exact wHi ‹_› (by decide) | exact wGt ‹_› (by decide) | omega)
  k_with "WP" => (first | exact ⟨by assumption, by assumption⟩ | omega)
  intro w mean mg mb dp un gd cn cs a ccd cl outer A₀ base h₀ L m s Q E B F X N T hk hd hu hret
  refine wpAny_call ?_
  k_dflt cell_enter
  walk_at "STEPS"
  all_goals first
    | exact hret _ _ _ _ ⟨by simp only [hexI]; rw [if_pos (by walk_at "WP")]; exact ⟨_, rfl⟩, rfl⟩ ‹_› ‹_›
    | exact hret _ _ _ _ ⟨by simp only [hexI]; rw [if_neg (by walk_at "WN"), if_pos (by walk_at "WP")]; exact ⟨_, rfl⟩, rfl⟩ ‹_› ‹_›
    | exact hret _ _ _ _ ⟨by simp only [hexI]; rw [if_neg (by walk_at "WN"), if_neg (by walk_at "WN"), if_pos (by walk_at "WP")]; exact ⟨_, rfl⟩, rfl⟩ ‹_› ‹_›
    | exact hret _ _ _ _ ⟨by simp only [hexI]; rw [if_neg (by walk_at "WN"), if_neg (by walk_at "WN"), if_neg (by walk_at "WN")]; exact rfl, rfl⟩ ‹_› ‹_›
theorem hangul_short_ok (news : List (Addr × Obj)) (l : List UInt8) (t : Tok) : Fn 1 122 [.bytes l.toArray t] news (Pure news (IsBytes (shortB l))) := by
  k_with_none
  k_with "FOLD" => ((fail_if_success (fail_if_success k_fold)); (try ((with_reducible rename Fr _ _ _ _ => Fz); (fail_if_success (with_reducible have : Fr _ _ _ mk := Fz)); (with_reducible refine let mk := _; have Fy : Fr _ _ _ mk := Fz; ?_); clear Fz)); (try ((with_reducible rename News _ _ _ _ => Nz); (fail_if_success (with_reducible have : News _ _ _ lk := Nz)); (with_reducible refine let lk := _; have Ny : News _ _ _ lk := Nz; ?_); clear Nz)); with_reducible refine let qk := _; let ek := _; (?_ : wpAny _ _ _ qk ek _))
  k_with "STEPS" => ((try walk_at "FOLD"); repeat' (first | (k_unfold; (try dsimp only)) | (k_end; wrow_close) | (walk1; all_goals (try ((fail_if_success (with_reducible show wpAny _ _ (subscriptTail _ _ _ _) _ _ _)); dsimp only)); all_goals (try ((with_reducible first | show wpAny _ _ (exec _ _) _ _ _ | show wpAny _ _ (execs _ _) _ _ _); (try ((with_reducible first | refine genTok ?_ | refine genTokS ?_); intro tkG)); (try walk_at "FOLD")))) | (dsimp only; walk1)))
  k_with "ROOM" => (first | exact U0 ‹_› | exact U1 ‹_› (by exact rfl) | exact U2 ‹_› (by exact rfl) | exact U3 ‹_› (by exact rfl) | ((simp +zetaDelta only [depth_under_make, depth_under_kw, depth_in1, depth_deeper, depth_caller]); (try dsimp only [ktrTop]); first | omega | decide +kernel))
  k_with "UNITS" => (first | exact U1 ‹_› (by exact rfl) | exact U2 ‹_› (by exact rfl) | exact U3 ‹_› (by exact rfl) | exact U4 ‹_› (by exact rfl) | exact U5 ‹_› (by exact rfl) | (have hcL9 := cLine_is; (simp +zetaDelta only [units_under_make, units_in1, units_deeper, Around.mark_units, units_caller]); (try dsimp only [ktrTop]); first | (rw [hcL9]; decide) | omega | decide +kernel))
  k_with "NE" => (first | with_reducible assumption | (refine neN (Nat.ne_of_lt ?_); walk_at "LTS") | (refine neN (Nat.ne_of_gt ?_); walk_at "LTS") | (refine neN ?_; (try dsimp only); omega))
  k_with "ENTER" => (refine' Internal.code_defN ?k1 ?k2 ?k3 ?k4 ?k5 ?kA ?kF ?kK ?k6 ?k7 ?k8 ?k9 ?kB ?_ ?c2 ?c3 ?c4 ?c5; (case kA | kF => exact rfl); (case kK => first | exact rfl | assumption); (case k1 | k2 | k3 | k4 | k5 => k_asm); (case k6 | k7 => k_is); (case k8 => ktr_room); (case k9 => exact BindsTo.of_eq (by kernel_rfl)); (case c5 => decide); (case kB => exact locs rfl); (case c2 | c3 | c4 => exact rfl); k_whole; intro g' L' h' tk' FG' F' N' B' X' T'; (try dsimp only); (try k_lift B'); (try walk_at "FOLD"); (refine let Ak : Around := _; (?_ : wpAny _ Ak _ _ _ _)))
  k_with "LTS" => (first | with_reducible assumption | exact ltM (by with_reducible assumption) (by k_mem) | exact And.left (by with_reducible assumption) | exact And.left (And.right (by with_reducible assumption)) | exact And.right (And.right (by with_reducible assumption)) | exact And.left (And.right (And.right (by with_reducible assumption))) | exact And.right (And.right (And.right (by with_reducible assumption))))
  k_with "ALL" => (first | with_reducible assumption | exact ne_of_allLt ‹_›)
  k_with "MEM" => (first | exact List.Mem.head _ | exact Mem1 | exact Mem2 | exact Mem3 | exact Mem4 | exact Mem5 | (refine TL6 ?_; walk_at "MEM"))
  intro w mean mg mb dp un gd cn cs a ccd cl outer A₀ base h₀ L m s Q E B F X N T hk hd hu hret
  refine wpAny_call ?_
  k_dflt cell_enter
  walk_at "STEPS"
  all_goals first
    | exact hret _ _ _ _ ⟨⟨_, by rw [show shortB l = [] from if_pos (by have h45 := ‹(_ == _) = true›; simpa using h45)]⟩, rfl⟩ ‹_› ‹_›
    | exact hret _ _ _ _ ⟨⟨_, by rw [show shortB l = l from if_neg (by have h45 := ‹(_ == _) = false›; simpa using h45)]⟩, rfl⟩ ‹_› ‹_›
    | exact hret _ _ _ _ ⟨⟨_, by rw [show shortB l = l from if_neg (by have h45 := ‹¬((_ == _) = true)›; simpa using h45)]⟩, rfl⟩ ‹_› ‹_›
theorem is_syl_ok (news : List (Addr × Obj)) (c : Int) (t : Tok) : Fn 1 103 [.int c t] news (Pure news (IsBool (isSylI c))) := by
  k_with_none
  k_with "FOLD" => ((fail_if_success (fail_if_success k_fold)); (try ((with_reducible rename Fr _ _ _ _ => Fz); (fail_if_success (with_reducible have : Fr _ _ _ mk := Fz)); (with_reducible refine let mk := _; have Fy : Fr _ _ _ mk := Fz; ?_); clear Fz)); (try ((with_reducible rename News _ _ _ _ => Nz); (fail_if_success (with_reducible have : News _ _ _ lk := Nz)); (with_reducible refine let lk := _; have Ny : News _ _ _ lk := Nz; ?_); clear Nz)); with_reducible refine let qk := _; let ek := _; (?_ : wpAny _ _ _ qk ek _))
  k_with "STEPS" => ((try walk_at "FOLD"); repeat' (first | (k_unfold; (try dsimp only)) | (k_end; wrow_close) | (walk1; all_goals (try ((fail_if_success (with_reducible show wpAny _ _ (subscriptTail _ _ _ _) _ _ _)); dsimp only)); all_goals (try ((with_reducible first | show wpAny _ _ (exec _ _) _ _ _ | show wpAny _ _ (execs _ _) _ _ _); (try ((with_reducible first | refine genTok ?_ | refine genTokS ?_); intro tkG)); (try walk_at "FOLD")))) | (dsimp only; walk1)))
  k_with "ROOM" => (first | exact U0 ‹_› | exact U1 ‹_› (by exact rfl) | exact U2 ‹_› (by exact rfl) | exact U3 ‹_› (by exact rfl) | ((simp +zetaDelta only [depth_under_make, depth_under_kw, depth_in1, depth_deeper, depth_caller]); (try dsimp only [ktrTop]); first | omega | decide +kernel))
  k_with "UNITS" => (first | exact U1 ‹_› (by exact rfl) | exact U2 ‹_› (by exact rfl) | exact U3 ‹_› (by exact rfl) | exact U4 ‹_› (by exact rfl) | exact U5 ‹_› (by exact rfl) | (have hcL9 := cLine_is; (simp +zetaDelta only [units_under_make, units_in1, units_deeper, Around.mark_units, units_caller]); (try dsimp only [ktrTop]); first | (rw [hcL9]; decide) | omega | decide +kernel))
  k_with "NE" => (first | with_reducible assumption | (refine neN (Nat.ne_of_lt ?_); walk_at "LTS") | (refine neN (Nat.ne_of_gt ?_); walk_at "LTS") | (refine neN ?_; (try dsimp only); omega))
  k_with "ENTER" => (refine' Internal.code_defN ?k1 ?k2 ?k3 ?k4 ?k5 ?kA ?kF ?kK ?k6 ?k7 ?k8 ?k9 ?kB ?_ ?c2 ?c3 ?c4 ?c5; (case kA | kF => exact rfl); (case kK => first | exact rfl | assumption); (case k1 | k2 | k3 | k4 | k5 => k_asm); (case k6 | k7 => k_is); (case k8 => ktr_room); (case k9 => exact BindsTo.of_eq (by kernel_rfl)); (case c5 => decide); (case kB => exact locs rfl); (case c2 | c3 | c4 => exact rfl); k_whole; intro g' L' h' tk' FG' F' N' B' X' T'; (try dsimp only); (try k_lift B'); (try walk_at "FOLD"); (refine let Ak : Around := _; (?_ : wpAny _ Ak _ _ _ _)))
  k_with "LTS" => (first | with_reducible assumption | exact ltM (by with_reducible assumption) (by k_mem) | exact And.left (by with_reducible assumption) | exact And.left (And.right (by with_reducible assumption)) | exact And.right (And.right (by with_reducible assumption)) | exact And.left (And.right (And.right (by with_reducible assumption))) | exact And.right (And.right (And.right (by with_reducible assumption))))
  k_with "ALL" => (first | with_reducible assumption | exact ne_of_allLt ‹_›)
  k_with "MEM" => (first | exact List.Mem.head _ | exact Mem1 | exact Mem2 | exact Mem3 | exact Mem4 | exact Mem5 | (refine TL6 ?_; walk_at "MEM"))
  intro w mean mg mb dp un gd cn cs a ccd cl outer A₀ base h₀ L m s Q E B F X N T hk hd hu hret
  refine wpAny_call ?_
  k_dflt cell_enter
  walk_at "STEPS"
  all_goals first
    | exact hret _ _ _ _ ⟨by (show _ = Value.bool _); congr 1; simp only [isSylI]; first | (apply Eq.symm; apply decide_eq_true; omega) | (apply decide_eq_decide.mpr; first | exact (and_iff_right ‹_›).symm | exact iff_of_false ‹_› (fun q => absurd q.1 ‹_›) | omega) | (apply Eq.symm; apply decide_eq_false; omega), rfl⟩ ‹_› ‹_›
end Internal
namespace Internal
noncomputable abbrev leadsB : List (List UInt8) := leads0.map shortB
noncomputable abbrev tailsB : List (List UInt8) := tails0.map shortB
theorem paired_map {α : Type} {f : α → List UInt8} {as : List α} {ys : List Value} (p : Paired (fun l v => IsBytes (f l) v) as ys) : Paired IsBytes (as.map f) ys := by
  induction p with
  | nil => exact .nil
  | cons h r ih => exact .cons h ih
noncomputable abbrev tup3 (a b c : Value) : Obj := { cls := .type "tuple", data := .seq #[a, b, c] }
noncomputable def NamesR (news : List (Addr × Obj)) (r : Value) (news' : List (Addr × Obj)) : Prop :=
  ∃ T A1 B1 U V L0 ys1 ys2 i1 i2 i3, r = .ref T ∧ news' = (T, tup3 (.ref B1) (.ref V) (.ref A1)) :: (A1, LCg.lst ys1) :: (B1, LCg.lst ys2) :: (U, listOf i1 0) :: (V, listOf i2 0) :: (L0, listOf i3 0) :: news ∧ Paired IsBytes tailsB ys1 ∧ Paired IsBytes leadsB ys2 ∧ Paired IsBytes vowels0 i2.toList
noncomputable abbrev NamesK (news : List (Addr × Obj)) (P : Value → List (Addr × Obj) → Prop) : Prop := ∀ T A1 B1 U V L0 ys1 ys2 i1 i2 i3, Paired IsBytes tailsB ys1 → Paired IsBytes leadsB ys2 → Paired IsBytes vowels0 i2.toList → P (.ref T) ((T, tup3 (.ref B1) (.ref V) (.ref A1)) :: (A1, LCg.lst ys1) :: (B1, LCg.lst ys2) :: (U, listOf i1 0) :: (V, listOf i2 0) :: (L0, listOf i3 0) :: news)
theorem NamesR.k {news : List (Addr × Obj)} : ∀ P, NamesK news P → ∀ r nw, NamesR news r nw → P r nw := by rintro P h r nw ⟨T, A1, B1, U, V, L0, ys1, ys2, i1, i2, i3, rfl, rfl, a, b, e⟩; exact h T A1 B1 U V L0 ys1 ys2 i1 i2 i3 a b e
theorem NamesR.mk {news : List (Addr × Obj)} {T A1 B1 U V L0 : Addr} {ys1 ys2 : List Value} {i1 i2 i3 : Array Value} (a : Paired IsBytes tailsB ys1) (b : Paired IsBytes leadsB ys2) (e : Paired IsBytes vowels0 i2.toList) : NamesR news (.ref T) ((T, tup3 (.ref B1) (.ref V) (.ref A1)) :: (A1, LCg.lst ys1) :: (B1, LCg.lst ys2) :: (U, listOf i1 0) :: (V, listOf i2 0) :: (L0, listOf i3 0) :: news) := ⟨T, A1, B1, U, V, L0, ys1, ys2, i1, i2, i3, rfl, rfl, a, b, e⟩
noncomputable def optB : Option (List UInt8) → Value → Prop
  | none, r => r = .none
  | some l, r => IsBytes l r
section
theorem short_names_ok (news : List (Addr × Obj)) : Fn 3 115 [] news (NamesR news) := by
  k_with_none
  k_with "FOLD" => ((fail_if_success (fail_if_success k_fold)); (try ((with_reducible rename Fr _ _ _ _ => Fz); (fail_if_success (with_reducible have : Fr _ _ _ mk := Fz)); (with_reducible refine let mk := _; have Fy : Fr _ _ _ mk := Fz; ?_); clear Fz)); (try ((with_reducible rename News _ _ _ _ => Nz); (fail_if_success (with_reducible have : News _ _ _ lk := Nz)); (with_reducible refine let lk := _; have Ny : News _ _ _ lk := Nz; ?_); clear Nz)); with_reducible refine let qk := _; let ek := _; (?_ : wpAny _ _ _ qk ek _))
  k_with "STEPS" => ((try walk_at "FOLD"); repeat' (first | (k_unfold; (try dsimp only)) | (k_end; wrow_close) | (walk1; all_goals (try ((fail_if_success (with_reducible show wpAny _ _ (subscriptTail _ _ _ _) _ _ _)); dsimp only)); all_goals (try ((with_reducible first | show wpAny _ _ (exec _ _) _ _ _ | show wpAny _ _ (execs _ _) _ _ _); (try ((with_reducible first | refine genTok ?_ | refine genTokS ?_); intro tkG)); (try walk_at "FOLD")))) | (dsimp only; walk1)))
  k_with "ROOM" => (first | exact U0 ‹_› | exact U1 ‹_› (by exact rfl) | exact U2 ‹_› (by exact rfl) | exact U3 ‹_› (by exact rfl) | ((simp +zetaDelta only [depth_under_make, depth_under_kw, depth_in1, depth_deeper, depth_caller]); (try dsimp only [ktrTop]); first | omega | decide +kernel))
  k_with "UNITS" => (first | exact U1 ‹_› (by exact rfl) | exact U2 ‹_› (by exact rfl) | exact U3 ‹_› (by exact rfl) | exact U4 ‹_› (by exact rfl) | exact U5 ‹_› (by exact rfl) | (have hcL9 := cLine_is; (simp +zetaDelta only [units_under_make, units_in1, units_deeper, Around.mark_units, units_caller]); (try dsimp only [ktrTop]); first | (rw [hcL9]; decide) | omega | decide +kernel))
  k_with "NE" => (first | with_reducible assumption | (refine neN (Nat.ne_of_lt ?_); walk_at "LTS") | (refine neN (Nat.ne_of_gt ?_); walk_at "LTS") | (refine neN ?_; (try dsimp only); omega))
  k_with "ENTER" => (refine' Internal.code_defN ?k1 ?k2 ?k3 ?k4 ?k5 ?kA ?kF ?kK ?k6 ?k7 ?k8 ?k9 ?kB ?_ ?c2 ?c3 ?c4 ?c5; (case kA | kF => exact rfl); (case kK => first | exact rfl | assumption); (case k1 | k2 | k3 | k4 | k5 => k_asm); (case k6 | k7 => k_is); (case k8 => ktr_room); (case k9 => exact BindsTo.of_eq (by kernel_rfl)); (case c5 => decide); (case kB => exact locs rfl); (case c2 | c3 | c4 => exact rfl); k_whole; intro g' L' h' tk' FG' F' N' B' X' T'; (try dsimp only); (try k_lift B'); (try walk_at "FOLD"); (refine let Ak : Around := _; (?_ : wpAny _ Ak _ _ _ _)))
  k_with "LTS" => (first | with_reducible assumption | exact ltM (by with_reducible assumption) (by k_mem) | exact And.left (by with_reducible assumption) | exact And.left (And.right (by with_reducible assumption)) | exact And.right (And.right (by with_reducible assumption)) | exact And.left (And.right (And.right (by with_reducible assumption))) | exact And.right (And.right (And.right (by with_reducible assumption))))
  k_with "ALL" => (first | with_reducible assumption | exact ne_of_allLt ‹_›)
  k_with "MEM" => (first | exact List.Mem.head _ | exact Mem1 | exact Mem2 | exact Mem3 | exact Mem4 | exact Mem5 | (refine TL6 ?_; walk_at "MEM"))
  k_with "getMethod bytes" => (k_here; first | ((with_reducible show wpAny _ _ (getMethod (Value.bytes _ _) (PySem.Str.ofString "split") _) _ _ _); with_reducible refine method_bytes slot_split type_split ?_) | ((with_reducible show wpAny _ _ (getMethod (Value.bytes _ _) (PySem.Str.ofString "startswith") _) _ _ _); with_reducible refine method_bytes FB.slot_bytes_startswith FB.type_bytes_startswith ?_) | ((with_reducible show wpAny _ _ (getMethod (Value.bytes _ _) (PySem.Str.ofString "endswith") _) _ _ _); with_reducible refine method_bytes FB.slot_bytes_endswith FB.type_bytes_endswith ?_) | ((with_reducible show wpAny _ _ (getMethod (Value.bytes _ _) (PySem.Str.ofString "replace") _) _ _ _); with_reducible refine method_bytes slot_replace type_replace ?_) | ((with_reducible show wpAny _ _ (getMethod (Value.bytes _ _) (PySem.Str.ofString "join") _) _ _ _); with_reducible refine method_bytes slot_join type_join ?_))
  k_with "call builtin:bytes.split" => (k_here; (with_reducible show wpAny _ _ (call (Value.builtin "bytes.split") [Value.bytes _ _, Value.bytes _ _]) _ _ _); k_dflt (refine split_to (by k_asm) (by k_asm) (by first | exact leads0_s | exact vowels0_s | exact tails0_s) ?_; intro D' its' h' k' hp' F' N' off'))
  k_with "eval ListComp" => (k_here; (with_reducible show wpAny _ _ (eval (PySem.Expr.ListComp _ [⟨_, _, [], _⟩] _ _) _) _ _ _); k_dflt (refine Internal.comp0 (by k_asm) (by with_unfolding_all rfl) (by decide) (by rfl) (by decide) (by rfl) ?_))
  k_with "call ref" => (k_here; (with_reducible show wpAny _ _ (call (Value.ref 122) _ _) _ _ _); k_dflt (refine' Fn.useE (hangul_short_ok _ _ _) ?kB ?kF ?kX ?kN ?kT ?kK ?kd ?ku ?_; (case kB | kF | kX | kN | kT => k_asm); (case kK => first | exact rfl | assumption); (case kd => ktr_room); (case ku => ktr_units)); (intro t9 h9 tk9 F9 N9); (try dsimp only))
  intro w mean mg mb dp un gd cn cs a ccd cl outer A₀ base h₀ L m s Q E B F X N T hk hd hu hret
  refine wpAny_call ?_
  k_dflt cell_enter
  walk_at "STEPS"
  refine ⟨_, _, leads0, _, (fun l v => IsBytes (shortB l) v), by k_asm, by k_asm, by decide +kernel, Src.bsList rfl (by k_asm) (by k_mem) ‹_›, fun g9 => ?_, fun D9 ys9 h9 tk9 F9 N9 off9 p9 => ?_⟩
  · intro a9 v9 I9 oI9 C9 oC9 D9 ys9 m9 h9 tk9 E9 ha9 hK9 hoC9 hx9 F9 N9 off9 ne9
    obtain ⟨t9, rfl⟩ := hK9
    walk_at "STEPS"
    all_goals exact Kept.mk ‹_› ‹_› ⟨_, rfl⟩
  walk_at "STEPS"
  refine ⟨_, _, tails0, _, (fun l v => IsBytes (shortB l) v), by k_asm, by k_asm, by decide +kernel, Src.bsList rfl (by k_asm) (by k_mem) ‹_›, fun g9 => ?_, fun D9 ys9 h9 tk9 F9 N9 off9 p9 => ?_⟩
  · intro a9 v9 I9 oI9 C9 oC9 D9 ys9 m9 h9 tk9 E9 ha9 hK9 hoC9 hx9 F9 N9 off9 ne9
    obtain ⟨t9, rfl⟩ := hK9
    walk_at "STEPS"
    all_goals exact Kept.mk ‹_› ‹_› ⟨_, rfl⟩
  walk_at "STEPS"
  exact hret _ _ _ _ (NamesR.mk (paired_map ‹_›) (paired_map ‹_›) ‹_›) ‹_› ‹_›
end
end Internal
namespace Internal
theorem getD_len {ls : List (List UInt8)} {n : Nat} (h : ∀ l ∈ ls, l.length ≤ n) (i : Nat) : (ls.getD i []).length ≤ n := by
  rw [List.getD_eq_getElem?_getD]
  cases e : ls[i]? with
  | none => exact Nat.zero_le _
  | some l => exact h l (List.mem_of_getElem? e)
theorem leads_len (i : Nat) : (leadsB.getD i []).length ≤ 4 := getD_len (by decide +kernel) i
theorem vowels_len (i : Nat) : (vowels0.getD i []).length ≤ 4 := getD_len (by decide +kernel) i
theorem tails_len (i : Nat) : (tailsB.getD i []).length ≤ 4 := getD_len (by decide +kernel) i
theorem syl_lead {c : Int} (h : isSylI c = true) : 0 ≤ (c - 44032).fdiv (21 * 28) ∧ (c - 44032).fdiv (21 * 28) < (leadsB.length : Nat) := by
  have h := of_decide_eq_true h
  have e : leadsB.length = 19 := by decide +kernel
  rw [e, show ((21 : Int) * 28) = 588 from rfl, Int.fdiv_eq_ediv_of_nonneg _ (by decide)]
  exact ⟨Int.ediv_nonneg h.1 (by decide), Int.ediv_lt_of_lt_mul (by decide) h.2⟩
theorem syl_vowel {c : Int} (h : isSylI c = true) : 0 ≤ ((c - 44032).fdiv 28).fmod 21 ∧ ((c - 44032).fdiv 28).fmod 21 < (vowels0.length : Nat) := by
  have e : vowels0.length = 21 := by decide +kernel
  rw [e, Int.fmod_eq_emod_of_nonneg _ (by decide)]
  exact ⟨Int.emod_nonneg _ (by decide), Int.emod_lt_of_pos _ (by decide)⟩
theorem syl_tail {c : Int} (h : isSylI c = true) : 0 ≤ (c - 44032).fmod 28 ∧ (c - 44032).fmod 28 < (tailsB.length : Nat) := by
  have e : tailsB.length = 28 := by decide +kernel
  rw [e, Int.fmod_eq_emod_of_nonneg _ (by decide)]
  exact ⟨Int.emod_nonneg _ (by decide), Int.emod_lt_of_pos _ (by decide)⟩
theorem add_B {prog : Program} {w : World} {A : Around} {E : Value → Shared → Prop} {s : Shared} {x y : List UInt8} {t u : Tok} {Q : Value → Shared → Prop} (hz : x.length + y.length ≤ 16777216) (h : ∀ t' k, Q (.bytes (x ++ y).toArray t') { s with toks := k }) :
    wpAny (model prog w) A (binaryOp .Add (.bytes x.toArray t) (.bytes y.toArray u)) Q E s :=
  KBy.add_bytes (by simpa using hz) fun t' k => by
    have e : x.toArray ++ y.toArray = (x ++ y).toArray := by simp
    rw [e]
    exact h t' k
theorem newsWeak {h₀ h : Heap} {L : Addr} {all small : List (Addr × Obj)} (N : News h₀ L h all) (sub : ∀ p ∈ small, p ∈ all) : News h₀ L h small := fun p hp => N p (sub p hp)
noncomputable def tailI (c : Int) : Option (List UInt8) :=
  if isSylI c then some (leadsB.getD ((c - 44032).fdiv (21 * 28)).toNat [] ++ vowels0.getD (((c - 44032).fdiv 28).fmod 21).toNat [] ++ tailsB.getD ((c - 44032).fmod 28).toNat []) else none
section
theorem name_tail_ok (news : List (Addr × Obj)) (c : Int) (t : Tok) : Fn 6 129 [.int c t] news (Pure news (optB (tailI c))) := by
  k_with_none
  k_with "FOLD" => ((fail_if_success (fail_if_success k_fold)); (try ((with_reducible rename Fr _ _ _ _ => Fz); (fail_if_success (with_reducible have : Fr _ _ _ mk := Fz)); (with_reducible refine let mk := _; have Fy : Fr _ _ _ mk := Fz; ?_); clear Fz)); (try ((with_reducible rename News _ _ _ _ => Nz); (fail_if_success (with_reducible have : News _ _ _ lk := Nz)); (with_reducible refine let lk := _; have Ny : News _ _ _ lk := Nz; ?_); clear Nz)); with_reducible refine let qk := _; let ek := _; (?_ : wpAny _ _ _ qk ek _))
  k_with "STEPS" => ((try walk_at "FOLD"); repeat' (first | (k_unfold; (try dsimp only)) | (k_end; wrow_close) | (walk1; all_goals (try ((fail_if_success (with_reducible show wpAny _ _ (subscriptTail _ _ _ _) _ _ _)); dsimp only)); all_goals (try ((with_reducible first | show wpAny _ _ (exec _ _) _ _ _ | show wpAny _ _ (execs _ _) _ _ _); (try ((with_reducible first | refine genTok ?_ | refine genTokS ?_); intro tkG)); (try walk_at "FOLD")))) | (dsimp only; walk1)))
  k_with "ROOM" => (first | exact U0 ‹_› | exact U1 ‹_› (by exact rfl) | exact U2 ‹_› (by exact rfl) | exact U3 ‹_› (by exact rfl) | ((simp +zetaDelta only [depth_under_make, depth_under_kw, depth_in1, depth_deeper, depth_caller]); (try dsimp only [ktrTop]); first | omega | decide +kernel))
  k_with "UNITS" => (first | exact U1 ‹_› (by exact rfl) | exact U2 ‹_› (by exact rfl) | exact U3 ‹_› (by exact rfl) | exact U4 ‹_› (by exact rfl) | exact U5 ‹_› (by exact rfl) | (have hcL9 := cLine_is; (simp +zetaDelta only [units_under_make, units_in1, units_deeper, Around.mark_units, units_caller]); (try dsimp only [ktrTop]); first | (rw [hcL9]; decide) | omega | decide +kernel))
  k_with "NE" => (first | with_reducible assumption | (refine neN (Nat.ne_of_lt ?_); walk_at "LTS") | (refine neN (Nat.ne_of_gt ?_); walk_at "LTS") | (refine neN ?_; (try dsimp only); omega))
  k_with "ENTER" => (refine' Internal.code_defN ?k1 ?k2 ?k3 ?k4 ?k5 ?kA ?kF ?kK ?k6 ?k7 ?k8 ?k9 ?kB ?_ ?c2 ?c3 ?c4 ?c5; (case kA | kF => exact rfl); (case kK => first | exact rfl | assumption); (case k1 | k2 | k3 | k4 | k5 => k_asm); (case k6 | k7 => k_is); (case k8 => ktr_room); (case k9 => exact BindsTo.of_eq (by kernel_rfl)); (case c5 => decide); (case kB => exact locs rfl); (case c2 | c3 | c4 => exact rfl); k_whole; intro g' L' h' tk' FG' F' N' B' X' T'; (try dsimp only); (try k_lift B'); (try walk_at "FOLD"); (refine let Ak : Around := _; (?_ : wpAny _ Ak _ _ _ _)))
  k_with "LTS" => (first | with_reducible assumption | exact ltM (by with_reducible assumption) (by k_mem) | exact And.left (by with_reducible assumption) | exact And.left (And.right (by with_reducible assumption)) | exact And.right (And.right (by with_reducible assumption)) | exact And.left (And.right (And.right (by with_reducible assumption))) | exact And.right (And.right (And.right (by with_reducible assumption))))
  k_with "ALL" => (first | with_reducible assumption | exact ne_of_allLt ‹_›)
  k_with "MEM" => (first | exact List.Mem.head _ | exact Mem1 | exact Mem2 | exact Mem3 | exact Mem4 | exact Mem5 | (refine TL6 ?_; walk_at "MEM"))
  k_with "call ref" => (k_here; (with_reducible show wpAny _ _ (call (Value.ref _) _ _) _ _ _); k_dflt (refine wpAny_call ?_; cell_enter))
  k_with "item_bound" => first | exact (syl_lead ‹_›).1 | exact (syl_lead ‹_›).2 | exact (syl_vowel ‹_›).1 | exact (syl_vowel ‹_›).2 | exact (syl_tail ‹_›).1 | exact (syl_tail ‹_›).2
  k_with "b_size" => first | exact Nat.le_trans (Nat.add_le_add (leads_len _) (vowels_len _)) (by decide) | (rw [List.length_append]; exact Nat.le_trans (Nat.add_le_add (Nat.add_le_add (leads_len _) (vowels_len _)) (tails_len _)) (by decide)) | ((try simp only [List.length_append, List.length_cons, List.length_nil, List.length_take, List.length_drop]); omega)
  k_with "call ref" => (k_here; (with_reducible show wpAny _ _ (call (Value.ref 103) _ _) _ _ _); k_dflt (refine' Fn.use0 (is_syl_ok _ _ _) ?kB ?kF ?kX ?kN ?kT ?kK ?kd ?ku ?_; (case kB | kF | kX | kN | kT => k_asm); (case kK => first | exact rfl | assumption); (case kd => ktr_room); (case ku => ktr_units); (intro h9 tk9 F9 N9)); (try dsimp only))
  k_with "call ref" => (k_here; (with_reducible show wpAny _ _ (call (Value.ref 115) _ _) _ _ _); k_dflt (refine' Fn.useK (short_names_ok _) NamesR.k ?kB ?kF ?kX ?kN ?kT ?kK ?kd ?ku ?_; (case kB | kF | kX | kN | kT => k_asm); (case kK => first | exact rfl | assumption); (case kd => ktr_room); (case ku => ktr_units); (intro T9 A9 B9 U9 V9 L9 ya9 yb9 i19 i29 i39 pa9 pb9 pc9 h9 tk9 F9 N9)); (try dsimp only))
  k_with "subscriptTail" => (k_here; (with_reducible show wpAny _ _ (subscriptTail _ _ (Value.ref _) (Value.int _ _)) _ _ _); k_dflt (refine bl_itemD (by k_asm) (by k_mem) ‹_› (by (walk_at "item_bound")) (by decide +kernel) (by (walk_at "item_bound")) ?_); intro ti9)
  k_with "binaryOp Add bytes bytes" => (k_here; (with_reducible show wpAny _ _ (binaryOp Operator.Add (Value.bytes _ _) (Value.bytes _ _)) _ _ _); k_dflt (refine add_B (by (walk_at "b_size")) ?_; intro tb9 kb9))
  intro w mean mg mb dp un gd cn cs a ccd cl outer A₀ base h₀ L m s Q E B F X N T hk hd hu hret
  refine wpAny_call ?_
  k_dflt cell_enter
  walk_at "STEPS"
  all_goals first
    | exact hret _ _ _ _ ⟨by rw [tailI, if_pos ‹_›]; exact ⟨_, rfl⟩, rfl⟩ ‹_› (by first | assumption | (refine newsWeak ‹_› ?_; intro p9 hp9; (repeat refine List.Mem.tail _ ?_); assumption))
    | exact hret _ _ _ _ ⟨by rw [tailI, if_neg (by rw [show isSylI c = false by assumption]; decide)]; exact rfl, rfl⟩ ‹_› (by first | assumption | (refine newsWeak ‹_› ?_; intro p9 hp9; (repeat refine List.Mem.tail _ ?_); assumption))
end
end Internal
namespace Internal
noncomputable abbrev headN (l : List UInt8) : Nat := (l.takeWhile (fun c => !isV c)).length
noncomputable abbrev bodyN (l : List UInt8) : Nat := headN l + ((l.drop (headN l)).takeWhile isV).length
noncomputable def codeT (l : List UInt8) : Option Int :=
  if leadsB.contains (l.take (headN l)) && vowels0.contains ((l.drop (headN l)).takeWhile isV) && tailsB.contains (l.drop (bodyN l)) then
    some (44032 + ((leadsB.idxOf (l.take (headN l)) : Nat) * 21 + (vowels0.idxOf ((l.drop (headN l)).takeWhile isV) : Nat)) * 28 + (tailsB.idxOf (l.drop (bodyN l)) : Nat)) else none
theorem contains_yes {ls : List (List UInt8)} {l : List UInt8} (h : ls.contains l = true) : l ∈ ls := by simpa using h
theorem head_more {l : List UInt8} {c : Int} (h : 0 ≤ c ∧ c ≤ ((headN l : Nat) : Int)) (hlt : c < ((l.length : Nat) : Int)) (hv : isV (l.getD c.toNat 0) = false) : (0 ≤ c + 1 ∧ c + 1 ≤ ((headN l : Nat) : Int)) ∧ headN l - (c + 1).toNat < headN l - c.toNat := by
  obtain ⟨n, rfl⟩ := Int.eq_ofNat_of_zero_le h.1
  have z : n + 1 ≤ headN l := tw_more (p := fun c => !isV c) (l := l) (k := n) (Int.ofNat_le.mp h.2) (Int.ofNat_lt.mp hlt) (congrArg (! ·) hv)
  exact ⟨⟨Int.natCast_nonneg (n + 1), Int.ofNat_le.mpr z⟩, Nat.sub_lt_sub_left z (Nat.lt_succ_self n)⟩
theorem head_done {l : List UInt8} {c : Int} (h : 0 ≤ c ∧ c ≤ ((headN l : Nat) : Int)) (hs : ¬ c < ((l.length : Nat) : Int) ∨ isV (l.getD c.toNat 0) = true) : c = ((headN l : Nat) : Int) := by
  obtain ⟨n, rfl⟩ := Int.eq_ofNat_of_zero_le h.1
  exact congrArg Int.ofNat (tw_stop (p := fun c => !isV c) (l := l) (k := n) (Int.ofNat_le.mp h.2) (hs.imp (fun q y => q (Int.ofNat_lt.mpr y)) (congrArg (! ·))))
theorem drop_getD (l : List UInt8) (a b : Nat) : (l.drop a).getD b 0 = l.getD (a + b) 0 := by
  rw [List.getD_eq_getElem?_getD, List.getD_eq_getElem?_getD, List.getElem?_drop]
theorem body_more {l : List UInt8} {c : Int} (h : ((headN l : Nat) : Int) ≤ c ∧ c ≤ ((bodyN l : Nat) : Int)) (hlt : c < ((l.length : Nat) : Int)) (hv : isV (l.getD c.toNat 0) = true) : (((headN l : Nat) : Int) ≤ c + 1 ∧ c + 1 ≤ ((bodyN l : Nat) : Int)) ∧ bodyN l - (c + 1).toNat < bodyN l - c.toNat := by
  obtain ⟨n, rfl⟩ := Int.eq_ofNat_of_zero_le (Int.le_trans (Int.natCast_nonneg _) h.1)
  obtain ⟨i, e⟩ := Nat.exists_eq_add_of_le (Int.ofNat_le.mp h.1)
  subst e
  have z : i + 1 ≤ ((l.drop (headN l)).takeWhile isV).length := tw_more (p := isV) (l := l.drop (headN l)) (k := i) (Nat.le_of_add_le_add_left (Int.ofNat_le.mp h.2)) (by rw [List.length_drop]; exact Nat.lt_sub_iff_add_lt'.mpr (Int.ofNat_lt.mp hlt)) (by rw [drop_getD]; exact hv)
  have y : headN l + i + 1 ≤ bodyN l := Nat.add_le_add_left z (headN l)
  exact ⟨⟨Int.ofNat_le.mpr (Nat.le_trans (Nat.le_add_right _ i) (Nat.le_succ _)), Int.ofNat_le.mpr y⟩, Nat.sub_lt_sub_left y (Nat.lt_succ_self _)⟩
theorem body_done {l : List UInt8} {c : Int} (h : ((headN l : Nat) : Int) ≤ c ∧ c ≤ ((bodyN l : Nat) : Int)) (hs : ¬ c < ((l.length : Nat) : Int) ∨ isV (l.getD c.toNat 0) = false) : c = ((bodyN l : Nat) : Int) := by
  obtain ⟨n, rfl⟩ := Int.eq_ofNat_of_zero_le (Int.le_trans (Int.natCast_nonneg _) h.1)
  obtain ⟨i, e⟩ := Nat.exists_eq_add_of_le (Int.ofNat_le.mp h.1)
  subst e
  have z : i = ((l.drop (headN l)).takeWhile isV).length := tw_stop (p := isV) (l := l.drop (headN l)) (k := i) (Nat.le_of_add_le_add_left (Int.ofNat_le.mp h.2)) (by
    rcases hs with hs | hs
    · left; rw [List.length_drop]; exact fun y => hs (Int.ofNat_lt.mpr (Nat.lt_sub_iff_add_lt'.mp y))
    · right; rw [drop_getD]; exact hs)
  exact congrArg (fun x => Int.ofNat (headN l + x)) z
theorem headN_le (l : List UInt8) : headN l ≤ l.length := tw_le _ l
theorem bodyN_le (l : List UInt8) : bodyN l ≤ l.length := by
  have a := tw_le isV (l.drop (headN l))
  rw [List.length_drop] at a
  exact Nat.le_trans (Nat.add_le_add_left a _) (Nat.le_of_eq (Nat.add_sub_cancel' (headN_le l)))
theorem tw_take {α : Type} (p : α → Bool) (l : List α) : l.take (l.takeWhile p).length = l.takeWhile p := by
  induction l with
  | nil => rfl
  | cons x r ih => rw [List.takeWhile_cons]; split <;> simp [ih]
theorem cut_h (l : List UInt8) : cut l none (some ((headN l : Nat) : Int)) = l.take (headN l) := cut_to l _
theorem cut_b (l : List UInt8) : cut l (some ((headN l : Nat) : Int)) (some ((bodyN l : Nat) : Int)) = (l.drop (headN l)).takeWhile isV := by
  rw [cut_mid l _ _ (headN_le l) (bodyN_le l)]
  have e : bodyN l - headN l = ((l.drop (headN l)).takeWhile isV).length := Nat.add_sub_cancel_left ..
  rw [e]
  exact tw_take isV _
theorem cut_t (l : List UInt8) : cut l (some ((bodyN l : Nat) : Int)) none = l.drop (bodyN l) := cut_from l _
theorem codeT_some {l : List UInt8} (h1 : leadsB.contains (cut l none (some ((headN l : Nat) : Int))) = true) (h2 : vowels0.contains (cut l (some ((headN l : Nat) : Int)) (some ((bodyN l : Nat) : Int))) = true) (h3 : tailsB.contains (cut l (some ((bodyN l : Nat) : Int)) none) = true) :
    codeT l = some (44032 + (((leadsB.idxOf (cut l none (some ((headN l : Nat) : Int))) : Nat) : Int) * 21 + ((vowels0.idxOf (cut l (some ((headN l : Nat) : Int)) (some ((bodyN l : Nat) : Int))) : Nat) : Int)) * 28 + ((tailsB.idxOf (cut l (some ((bodyN l : Nat) : Int)) none) : Nat) : Int)) := by
  rw [cut_h] at *; rw [cut_b] at *; rw [cut_t] at *
  rw [codeT, if_pos (by rw [h1, h2, h3]; rfl)]
theorem codeT_none {l : List UInt8} (h : leadsB.contains (cut l none (some ((headN l : Nat) : Int))) = false ∨ vowels0.contains (cut l (some ((headN l : Nat) : Int)) (some ((bodyN l : Nat) : Int))) = false ∨ tailsB.contains (cut l (some ((bodyN l : Nat) : Int)) none) = false) : codeT l = none := by
  rw [cut_h, cut_b, cut_t] at h
  rw [codeT, if_neg]
  intro q
  rw [Bool.and_eq_true, Bool.and_eq_true] at q
  rcases h with h | h | h
  · rw [h] at q; cases q.1.1
  · rw [h] at q; cases q.1.2
  · rw [h] at q; cases q.2
section
variable (l : List UInt8)
theorem code_tail_ok (news : List (Addr × Obj)) (t : Tok) (h0 : l.length ≤ 100) : Fn 6 136 [.bytes l.toArray t] news (Pure news (optInt (codeT l))) := by
  k_with_none
  k_with "FOLD" => ((fail_if_success (fail_if_success k_fold)); (try ((with_reducible rename Fr _ _ _ _ => Fz); (fail_if_success (with_reducible have : Fr _ _ _ mk := Fz)); (with_reducible refine let mk := _; have Fy : Fr _ _ _ mk := Fz; ?_); clear Fz)); (try ((with_reducible rename News _ _ _ _ => Nz); (fail_if_success (with_reducible have : News _ _ _ lk := Nz)); (with_reducible refine let lk := _; have Ny : News _ _ _ lk := Nz; ?_); clear Nz)); with_reducible refine let qk := _; let ek := _; (?_ : wpAny _ _ _ qk ek _))
  k_with "STEPS" => ((try walk_at "FOLD"); repeat' (first | (k_unfold; (try dsimp only)) | (k_end; wrow_close) | (walk1; all_goals (try ((fail_if_success (with_reducible show wpAny _ _ (subscriptTail _ _ _ _) _ _ _)); dsimp only)); all_goals (try ((with_reducible first | show wpAny _ _ (exec _ _) _ _ _ | show wpAny _ _ (execs _ _) _ _ _); (try ((with_reducible first | refine genTok ?_ | refine genTokS ?_); intro tkG)); (try walk_at "FOLD")))) | (dsimp only; walk1)))
  k_with "ROOM" => (first | exact U0 ‹_› | exact U1 ‹_› (by exact rfl) | exact U2 ‹_› (by exact rfl) | exact U3 ‹_› (by exact rfl) | ((simp +zetaDelta only [depth_under_make, depth_under_kw, depth_in1, depth_deeper, depth_caller]); (try dsimp only [ktrTop]); first | omega | decide +kernel))
  k_with "UNITS" => (first | exact U1 ‹_› (by exact rfl) | exact U2 ‹_› (by exact rfl) | exact U3 ‹_› (by exact rfl) | exact U4 ‹_› (by exact rfl) | exact U5 ‹_› (by exact rfl) | (have hcL9 := cLine_is; (simp +zetaDelta only [units_under_make, units_in1, units_deeper, Around.mark_units, units_caller]); (try dsimp only [ktrTop]); first | (rw [hcL9]; decide) | omega | decide +kernel))
  k_with "NE" => (first | with_reducible assumption | (refine neN (Nat.ne_of_lt ?_); walk_at "LTS") | (refine neN (Nat.ne_of_gt ?_); walk_at "LTS") | (refine neN ?_; (try dsimp only); omega))
  k_with "ENTER" => (refine' Internal.code_defN ?k1 ?k2 ?k3 ?k4 ?k5 ?kA ?kF ?kK ?k6 ?k7 ?k8 ?k9 ?kB ?_ ?c2 ?c3 ?c4 ?c5; (case kA | kF => exact rfl); (case kK => first | exact rfl | assumption); (case k1 | k2 | k3 | k4 | k5 => k_asm); (case k6 | k7 => k_is); (case k8 => ktr_room); (case k9 => exact BindsTo.of_eq (by kernel_rfl)); (case c5 => decide); (case kB => exact locs rfl); (case c2 | c3 | c4 => exact rfl); k_whole; intro g' L' h' tk' FG' F' N' B' X' T'; (try dsimp only); (try k_lift B'); (try walk_at "FOLD"); (refine let Ak : Around := _; (?_ : wpAny _ Ak _ _ _ _)))
  k_with "LTS" => (first | with_reducible assumption | exact ltM (by with_reducible assumption) (by k_mem) | exact And.left (by with_reducible assumption) | exact And.left (And.right (by with_reducible assumption)) | exact And.right (And.right (by with_reducible assumption)) | exact And.left (And.right (And.right (by with_reducible assumption))) | exact And.right (And.right (And.right (by with_reducible assumption))))
  k_with "ALL" => (first | with_reducible assumption | exact ne_of_allLt ‹_›)
  k_with "MEM" => (first | exact List.Mem.head _ | exact Mem1 | exact Mem2 | exact Mem3 | exact Mem4 | exact Mem5 | (refine TL6 ?_; walk_at "MEM"))
  k_with "call ref" => (k_here; (with_reducible show wpAny _ _ (call (Value.ref 115) _ _) _ _ _); k_dflt (refine' Fn.useK (short_names_ok _) NamesR.k ?kB ?kF ?kX ?kN ?kT ?kK ?kd ?ku ?_; (case kB | kF | kX | kN | kT => k_asm); (case kK => first | exact rfl | assumption); (case kd => ktr_room); (case ku => ktr_units); (intro T9 A9 B9 U9 V9 L9 ya9 yb9 i19 i29 i39 pa9 pb9 pc9 h9 tk9 F9 N9)); (try dsimp only))
  k_with "subscriptTail" => (k_here; (with_reducible show wpAny _ _ (subscriptTail _ _ (Value.bytes _ _) (Value.int _ _)) _ _ _); k_dflt (refine item_B (by first | omega | (simp only [List.length_append, List.length_cons, List.length_nil] at *; omega)) (by first | omega | (simp only [List.length_append, List.length_cons, List.length_nil] at *; omega)) (by first | assumption | decide | exact kle0 ‹_› (by decide) | omega | ((try simp only [List.length_append, List.length_cons, List.length_nil, List.length_take, List.length_drop]); omega)) ?_; intro ti9 ki9))
  k_with "subscriptTail" => (k_here; (with_reducible show wpAny _ _ (subscriptTail _ (Expr.Slice _ _ none _) (Value.bytes _ _) (Value.ref _)) _ _ _); (with_reducible rename Fr _ _ _ _ => F'); (with_reducible rename News _ _ _ _ => N'); k_dflt (refine slice_B (s := ⟨_, _, _, _, _⟩) F' N' (by constructor) (by constructor) (by first | assumption | decide | exact kle0 ‹_› (by decide) | omega | ((try simp only [List.length_append, List.length_cons, List.length_nil, List.length_take, List.length_drop]); omega)) ?_; intro hs9 ts9 ks9 Fs9 Ns9))
  k_with "call builtin:len" => (k_here; (with_reducible show wpAny _ _ (call (Value.builtin "len") [Value.bytes _ _]) _ _ _); k_dflt (refine len_B (by first | assumption | decide | exact kle0 ‹_› (by decide) | omega | ((try simp only [List.length_append, List.length_cons, List.length_nil, List.length_take, List.length_drop]); omega)) ?_; intro tl9 kl9))
  k_with "compareOp In int bytes" => (k_here; k_dflt (refine in_B ?_))
  k_with "compareOp NotIn int bytes" => (k_here; k_dflt (refine notIn_B ?_))
  k_with "compareOp NotIn bytes ref" => (k_here; k_dflt (refine bl_notin (by k_asm) (by k_mem) ‹_› ?_))
  k_with "call builtin:list.index" => (k_here; (with_reducible show wpAny _ _ (call (Value.builtin _) [Value.ref _, Value.bytes _ _]) _ _ _); k_dflt (refine bl_index (by k_asm) (by k_mem) ‹_› (by first | exact contains_of ‹_› | exact contains_yes ‹_›) (by decide +kernel) ?_; intro tx9 kx9))
  k_with "exec While BoolOp cons nil" => (k_here; k_dflt (first | refine while_to (Str.ofString "ended") (fun c => ((headN l : Nat) : Int) ≤ c ∧ c ≤ ((bodyN l : Nat) : Int)) (fun c => (bodyN l - c.toNat)) (((bodyN l : Nat) : Int)) (by k_asm) (by k_asm) (by exact rfl) (⟨Int.le_refl _, Int.ofNat_le.mpr (Nat.le_add_right _ _)⟩) (fun c9 t9 h9 tk9 hP9 F9 N9 => ?_) (fun t9 h9 tk9 F9 N9 => ?_) | refine while_to (Str.ofString "begun") (fun c => (0 : Int) ≤ c ∧ c ≤ ((headN l : Nat) : Int)) (fun c => (headN l - c.toNat)) (((headN l : Nat) : Int)) (by k_asm) (by k_asm) (by exact rfl) (⟨Int.le_refl _, by omega⟩) (fun c9 t9 h9 tk9 hP9 F9 N9 => ?_) (fun t9 h9 tk9 F9 N9 => ?_)))
  intro w mean mg mb dp un gd cn cs a ccd cl outer A₀ base h₀ L m s Q E B F X N T hk hd hu hret
  refine wpAny_call ?_
  k_dflt cell_enter
  walk_at "STEPS"
  all_goals first
    | exact hret _ _ _ _ ⟨by rw [codeT_some ‹_› ‹_› ‹_›]; exact ⟨_, rfl⟩, rfl⟩ ‹_› (by first | assumption | (refine newsWeak ‹_› ?_; intro p9 hp9; (repeat refine List.Mem.tail _ ?_); assumption))
    | exact hret _ _ _ _ ⟨by rw [codeT_none (Or.inl ‹_›)]; exact rfl, rfl⟩ ‹_› (by first | assumption | (refine newsWeak ‹_› ?_; intro p9 hp9; (repeat refine List.Mem.tail _ ?_); assumption))
    | exact hret _ _ _ _ ⟨by rw [codeT_none (Or.inr (Or.inl ‹_›))]; exact rfl, rfl⟩ ‹_› (by first | assumption | (refine newsWeak ‹_› ?_; intro p9 hp9; (repeat refine List.Mem.tail _ ?_); assumption))
    | exact hret _ _ _ _ ⟨by rw [codeT_none (Or.inr (Or.inr ‹_›))]; exact rfl, rfl⟩ ‹_› (by first | assumption | (refine newsWeak ‹_› ?_; intro p9 hp9; (repeat refine List.Mem.tail _ ?_); assumption))
    | exact WDone.mk (head_done ‹_› (Or.inl ‹_›)) ‹_› ‹_›
    | exact WDone.mk (head_done ‹_› (Or.inr ‹_›)) ‹_› ‹_›
    | exact WDone.mk (body_done ‹_› (Or.inl ‹_›)) ‹_› ‹_›
    | exact WDone.mk (body_done ‹_› (Or.inr ‹_›)) ‹_› ‹_›
    | exact WEnd.mk ‹_› ‹_› (if_pos rfl) (fun z hz => (if_neg hz).trans (if_neg hz)) (head_more ‹_› ‹_› ‹_›)
    | exact WEnd.mk ‹_› ‹_› (if_pos rfl) (fun z hz => (if_neg hz).trans (if_neg hz)) (body_more ‹_› ‹_› ‹_›)
end
end Internal
namespace Internal
noncomputable def HEX : List UInt8 := [48, 49, 50, 51, 52, 53, 54, 55, 56, 57, 65, 66, 67, 68, 69, 70]
noncomputable def hexLoop : Nat → Nat → List UInt8 → List UInt8
  | 0, _, f => f
  | k + 1, r, f => if 0 < r ∨ f.length < 4 then hexLoop k (r / 16) (HEX.getD (r % 16) 0 :: f) else f
noncomputable def hexB (n : Int) : List UInt8 := hexLoop 12 n.toNat []
noncomputable def HexP (n : Int) (k r : Nat) (f : List UInt8) : Prop := hexLoop k r f = hexB n ∧ r < 16 ^ k ∧ 4 ≤ k + f.length ∧ k + f.length ≤ 12
theorem HexP.start {n : Int} (h : n < 1099511627776) : HexP n 12 n.toNat [] := by
  refine ⟨rfl, ?_, by simp, by simp⟩
  cases n with
  | ofNat n => exact Nat.lt_trans (Int.ofNat_lt.mp h) (by decide)
  | negSucc n => exact Nat.pow_pos (by decide)
theorem HexP.more {n : Int} {k r : Nat} {f : List UInt8} (h : HexP n k r f) (m : 0 < r ∨ f.length < 4) : k - 1 < k ∧ HexP n (k - 1) (r / 16) (HEX.getD (r % 16) 0 :: f) := by
  obtain ⟨a, b, c, d⟩ := h
  cases k with
  | zero =>
    have r0 : r = 0 := Nat.lt_one_iff.mp b
    subst r0
    exact absurd m (fun q => q.elim (Nat.lt_irrefl 0) (fun y => absurd (Nat.zero_add f.length ▸ c) (Nat.not_le_of_lt y)))
  | succ k =>
    have e : k + (f.length + 1) = k + 1 + f.length := (Nat.add_assoc k f.length 1).symm.trans (Nat.add_right_comm k f.length 1)
    refine ⟨Nat.lt_succ_self k, ?_, ?_, e ▸ c, e ▸ d⟩
    · rw [← a, hexLoop, if_pos m]; rfl
    · rw [Nat.pow_succ] at b
      exact Nat.div_lt_of_lt_mul (by rw [Nat.mul_comm]; exact b)
theorem HexP.stop {n : Int} {k r : Nat} {f : List UInt8} (h : HexP n k r f) (m : ¬ (0 < r ∨ f.length < 4)) : f = hexB n ∧ f.length ≤ 12 := by
  obtain ⟨a, b, c, d⟩ := h
  refine ⟨?_, Nat.le_trans (Nat.le_add_left _ k) d⟩
  rw [← a]
  cases k with
  | zero => rfl
  | succ k => rw [hexLoop, if_neg m]
theorem hexGo_len : ∀ (k r : Nat) (f : List UInt8), (hexLoop k r f).length ≤ k + f.length
  | 0, _, f => by simp [hexLoop]
  | k + 1, r, f => by
    rw [hexLoop]
    split
    · exact Nat.le_trans (hexGo_len k _ _) (Nat.le_of_eq ((Nat.add_assoc k f.length 1).symm.trans (Nat.add_right_comm k f.length 1)))
    · exact Nat.le_add_left _ _
theorem hexB_len (n : Int) : (hexB n).length ≤ 12 := hexGo_len 12 _ []
theorem Paired.rev {α β : Type} {G : α → β → Prop} {xs : List α} {ys : List β} (p : Paired G xs ys) : Paired G xs.reverse ys.reverse := by
  induction p with
  | nil => exact .nil
  | cons h r ih => rw [List.reverse_cons, List.reverse_cons]; exact Paired.snoc ih h
section
variable {prog : Program} {w : World} {A : Around} {E : Value → Shared → Prop} {s : Shared} {h₀ : Heap} {L : Addr} {m : Str → Option Value} {news : List (Addr × Obj)}
theorem rev_B {value slice : Expr} {l : List UInt8} {its : Array Value} {n : Nat} {D : Addr} {vk : Value} {ops : List Value} {Q : Value → Shared → Prop} (F : Fr h₀ L s.heap m) (N : News h₀ L s.heap news) (hm : (D, listOf its n) ∈ news) (hp : Paired ByteIs l.reverse its.toList) (hz : l.length ≤ 16777216) (pk : IsPart vk (some (-1)))
    (h : ∀ D' its' h', Fr h₀ L h' m → News h₀ L h' ((D', listOf its' 0) :: news) → (∀ p ∈ news, p.1 < D') → Paired ByteIs l its'.toList → Q (.ref D') { s with heap := h' })
    (hs : subscripted slice false (.ref D) (.ref s.heap.objs.size) = operate ops (getItem (.ref D) (.ref s.heap.objs.size)) := by with_unfolding_all rfl) (ht : ∀ r, letTemporaryGo value (.ref D) r = pure () := by intro _; with_unfolding_all rfl) :
    wpAny (model prog w) A (subscriptTail value slice (.ref D) (.ref s.heap.objs.size)) Q E { s with heap := s.heap.push { cls := .type "slice", data := .fields #[.none, .none, vk] } } := by
  refine krv_lit (its := its) (zs := its.toList.reverse) F N ⟨_, (N _ hm).1, rfl, _, rfl⟩ pk rfl (fun D' h' F' N' l1 => h D' _ h' F' N' l1 ?_) hs ht ?_
  · have := Paired.rev hp
    rw [List.reverse_reverse] at this
    simpa using this
  · have := Paired.length hp
    rw [List.length_reverse] at this
    rw [sizeLine_eq, ← Array.length_toList, ← this]
    exact hz
theorem item_and {value slice : Expr} {x : List UInt8} {i : Int} {t ui : Tok} {Q : Value → Shared → Prop} (h0 : 0 ≤ i) (hx : x.length = 16) (h : ∀ t' k, Q (.int ((x.getD (i.toNat % 16) 0).toNat : Nat) t') { s with toks := k })
    (hs : subscripted slice false (.bytes x.toArray t) (.int (Builtin.bitAnd i 15) ui) = operate [.bytes x.toArray t, .int (Builtin.bitAnd i 15) ui] (getItem (.bytes x.toArray t) (.int (Builtin.bitAnd i 15) ui)) := by with_unfolding_all rfl)
    (ht : ∀ r, letTemporaryGo value (.bytes x.toArray t) r = pure () := by intro _; with_unfolding_all rfl) :
    wpAny (model prog w) A (subscriptTail value slice (.bytes x.toArray t) (.int (Builtin.bitAnd i 15) ui)) Q E s := by
  have e : (Builtin.bitAnd i 15).toNat = i.toNat % 16 := by rw [bitAnd_m4]; exact Int.toNat_emod h0 (by decide)
  refine item_B (by rw [bitAnd_m4]; exact Int.emod_nonneg _ (by decide)) (by rw [bitAnd_m4, hx]; exact Int.emod_lt_of_pos _ (by decide)) (lenL (Nat.le_of_eq hx) rfl) (fun t' k => ?_) hs ht
  rw [e]
  exact h t' k
end
theorem hex_turn {code r : Int} {f : List UInt8} {its : Array Value} {k : Nat} {u : Tok} (p1 : 0 ≤ r) (p2 : Paired ByteIs f.reverse its.toList) (p3 : HexP code k r.toNat f) (m : 0 < r ∨ (its.size : Int) < 4) : (0 ≤ r.fdiv 16 ∧ Paired ByteIs (HEX.getD (r.toNat % 16) 0 :: f).reverse (its.push (.int ((HEX.getD (r.toNat % 16) 0).toNat : Nat) u)).toList ∧ HexP code (k - 1) (r.fdiv 16).toNat (HEX.getD (r.toNat % 16) 0 :: f)) ∧ k - 1 < k := by
  have e : f.length = its.size := by have := Paired.length p2; simpa using this
  have q := HexP.more p3 (e ▸ posN p1 m)
  refine ⟨⟨fdiv0 (k := 16) p1, ?_, (show (r.fdiv 16).toNat = _ from fdivN (k := 16) p1) ▸ q.2⟩, q.1⟩
  rw [List.reverse_cons, Array.toList_push]
  exact Paired.snoc p2 ⟨u, rfl⟩
theorem hex_sz {code : Int} {f : List UInt8} {its : Array Value} {k r : Nat} (p2 : Paired ByteIs f.reverse its.toList) (p3 : HexP code k r f) : its.size ≤ 16777216 := by
  have e : f.length = its.size := by have := Paired.length p2; simpa using this
  exact lenL (Nat.le_trans (e ▸ Nat.le_add_left _ k) p3.2.2.2) rfl
theorem hex_end {code r : Int} {f : List UInt8} {its : Array Value} {k : Nat} (p1 : 0 ≤ r) (p2 : Paired ByteIs f.reverse its.toList) (p3 : HexP code k r.toNat f) (m : ¬ 0 < r) (m' : ¬ (its.size : Int) < 4) : f = hexB code ∧ Paired ByteIs f.reverse its.toList ∧ f.length ≤ 12 := by
  have e : f.length = its.size := by have := Paired.length p2; simpa using this
  have q := HexP.stop p3 (e ▸ posN' p1 m m')
  exact ⟨q.1, p2, q.2⟩
section
variable (code : Int)
theorem hex_code_ok (news : List (Addr × Obj)) (t : Tok) (h1 : 0 ≤ code) (h2 : code < 1099511627776) : Fn 6 75 [.int code t] news (Pure news (IsBytes (hexB code))) := by
  k_with_none
  k_with "FOLD" => ((fail_if_success (fail_if_success k_fold)); (try ((with_reducible rename Fr _ _ _ _ => Fz); (fail_if_success (with_reducible have : Fr _ _ _ mk := Fz)); (with_reducible refine let mk := _; have Fy : Fr _ _ _ mk := Fz; ?_); clear Fz)); (try ((with_reducible rename News _ _ _ _ => Nz); (fail_if_success (with_reducible have : News _ _ _ lk := Nz)); (with_reducible refine let lk := _; have Ny : News _ _ _ lk := Nz; ?_); clear Nz)); with_reducible refine let qk := _; let ek := _; (?_ : wpAny _ _ _ qk ek _))
  k_with "STEPS" => ((try walk_at "FOLD"); repeat' (first | (k_unfold; (try dsimp only)) | (k_end; wrow_close) | (walk1; all_goals (try ((fail_if_success (with_reducible show wpAny _ _ (subscriptTail _ _ _ _) _ _ _)); dsimp only)); all_goals (try ((with_reducible first | show wpAny _ _ (exec _ _) _ _ _ | show wpAny _ _ (execs _ _) _ _ _); (try ((with_reducible first | refine genTok ?_ | refine genTokS ?_); intro tkG)); (try walk_at "FOLD")))) | (dsimp only; walk1)))
  k_with "ROOM" => (first | exact U0 ‹_› | exact U1 ‹_› (by exact rfl) | exact U2 ‹_› (by exact rfl) | exact U3 ‹_› (by exact rfl) | ((simp +zetaDelta only [depth_under_make, depth_under_kw, depth_in1, depth_deeper, depth_caller]); (try dsimp only [ktrTop]); first | omega | decide +kernel))
  k_with "UNITS" => (first | exact U1 ‹_› (by exact rfl) | exact U2 ‹_› (by exact rfl) | exact U3 ‹_› (by exact rfl) | exact U4 ‹_› (by exact rfl) | exact U5 ‹_› (by exact rfl) | (have hcL9 := cLine_is; (simp +zetaDelta only [units_under_make, units_in1, units_deeper, Around.mark_units, units_caller]); (try dsimp only [ktrTop]); first | (rw [hcL9]; decide) | omega | decide +kernel))
  k_with "NE" => (first | with_reducible assumption | (refine neN (Nat.ne_of_lt ?_); walk_at "LTS") | (refine neN (Nat.ne_of_gt ?_); walk_at "LTS") | (refine neN ?_; (try dsimp only); omega))
  k_with "ENTER" => (refine' Internal.code_defN ?k1 ?k2 ?k3 ?k4 ?k5 ?kA ?kF ?kK ?k6 ?k7 ?k8 ?k9 ?kB ?_ ?c2 ?c3 ?c4 ?c5; (case kA | kF => exact rfl); (case kK => first | exact rfl | assumption); (case k1 | k2 | k3 | k4 | k5 => k_asm); (case k6 | k7 => k_is); (case k8 => ktr_room); (case k9 => exact BindsTo.of_eq (by kernel_rfl)); (case c5 => decide); (case kB => exact locs rfl); (case c2 | c3 | c4 => exact rfl); k_whole; intro g' L' h' tk' FG' F' N' B' X' T'; (try dsimp only); (try k_lift B'); (try walk_at "FOLD"); (refine let Ak : Around := _; (?_ : wpAny _ Ak _ _ _ _)))
  k_with "LTS" => (first | with_reducible assumption | exact ltM (by with_reducible assumption) (by k_mem) | exact And.left (by with_reducible assumption) | exact And.left (And.right (by with_reducible assumption)) | exact And.right (And.right (by with_reducible assumption)) | exact And.left (And.right (And.right (by with_reducible assumption))) | exact And.right (And.right (And.right (by with_reducible assumption))))
  k_with "ALL" => (first | with_reducible assumption | exact ne_of_allLt ‹_›)
  k_with "MEM" => (first | exact List.Mem.head _ | exact Mem1 | exact Mem2 | exact Mem3 | exact Mem4 | exact Mem5 | (refine TL6 ?_; walk_at "MEM"))
  k_with "call builtin:len" => (k_here; (with_reducible show wpAny _ _ (call (Value.builtin "len") [Value.ref _]) _ _ _); k_dflt (refine len_L (by k_asm) (by k_asm) (by k_mem) (by exact hex_sz ‹_› ‹_›) ?_; intro tl9 kl9))
  k_with "call builtin:list.append" => (k_here; (with_reducible show wpAny _ _ (call (Value.builtin _) [Value.ref _, _]) _ _ _); k_dflt (refine' append_K ?k1 ?k2 ?k3 ?_ ?z; (case k1 | k2 => k_asm); (case k3 => k_upd); (case z => rw [sizeLine_eq]; exact hex_sz ‹_› ‹_›); k_whole); intro ha9 Fa9 Na9; (try k_sweep))
  k_with "subscriptTail" => (k_here; (with_reducible show wpAny _ _ (subscriptTail _ _ (Value.bytes _ _) (Value.int (Builtin.bitAnd _ 15) _)) _ _ _); k_dflt (refine item_and ‹_› (by decide) ?_; intro ti9 ki9))
  k_with "subscriptTail Name Slice ref ref" => (k_here; (with_reducible show wpAny _ _ (subscriptTail _ (Expr.Slice none none (some _) _) (Value.ref _) (Value.ref _)) _ _ _); (with_reducible rename Fr _ _ _ _ => F'); (with_reducible rename News _ _ _ _ => N'); k_dflt (refine rev_B (s := ⟨_, _, _, _, _⟩) F' N' (by k_mem) ‹_› (by omega) (by constructor) ?_; intro D9 is9 hs9 Fs9 Ns9 ls9 ps9); (try k_lt ls9); (try k_sweep))
  k_with "call type:bytes" => (k_here; (with_reducible show wpAny _ _ (call (Value.type "bytes") [Value.ref _]) _ _ _); k_dflt (refine bytes_list (by k_asm) (by k_asm) (by exact rfl) (by k_mem) ‹_› (by omega) ?_; intro hb9 tb9 kb9 Fb9 Nb9))
  k_with "exec While BoolOp cons nil" => (k_here; k_dflt (refine while_s1 (σ := (Int × Tok) × List UInt8 × (Array Value × Nat) × Nat) (Str.ofString "rest") ((_,_),[],(#[],0),12) (fun c => .int c.1.1 c.1.2) (fun c nw => match nw with | (D, _) :: r => (D, listOf c.2.2.1.1 c.2.2.1.2) :: r | [] => []) (fun c => 0 ≤ c.1.1 ∧ Paired ByteIs c.2.1.reverse c.2.2.1.1.toList ∧ HexP code c.2.2.2 c.1.1.toNat c.2.1) (fun c => c.2.2.2) (fun c => c.2.1 = hexB code ∧ Paired ByteIs c.2.1.reverse c.2.2.1.1.toList ∧ c.2.1.length ≤ 12) (by k_asm) (by k_asm) (by exact rfl) (by exact rfl) (⟨by assumption, .nil, HexP.start ‹_›⟩) ?_ ?_); rotate_left; (k_dflt (rintro ⟨⟨r9,rt9⟩,f9,⟨i9,n9⟩,k9⟩ h9 tk9 ⟨b1,b2,b3⟩ F9 N9; (try dsimp only at b1 b2 b3 F9 N9))); (try dsimp only); rotate_left; (k_dflt (rintro ⟨⟨r9,rt9⟩,f9,⟨i9,n9⟩,k9⟩ h9 tk9 ⟨p1,p2,p3⟩ F9 N9; (try dsimp only at p1 p2 p3 F9 N9))); (try dsimp only))
  intro w mean mg mb dp un gd cn cs a ccd cl outer A₀ base h₀ L m s Q E B F X N T hk hd hu hret
  refine wpAny_call ?_
  k_dflt cell_enter
  walk_at "STEPS"
  all_goals first
    | exact hret _ _ _ _ ⟨⟨_, congrArg (fun l => Value.bytes (List.toArray l) _) (by assumption : _ = hexB code)⟩, rfl⟩ ‹_› (by first | assumption | (refine newsWeak ‹_› ?_; intro p9 hp9; (repeat refine List.Mem.tail _ ?_); assumption))
    | exact WDone1.mk (hex_end ‹_› ‹_› ‹_› ‹_› ‹_›) ‹_› ‹_›
    | exact WEnd1.mk (c' := ((_, _), _ :: _, (_, _), _ - 1)) ‹_› ‹_› (if_pos rfl) (fun z hz => (if_neg hz).trans (if_neg hz)) (hex_turn ‹_› ‹_› ‹_› (by first | exact Or.inl ‹_› | exact Or.inr ‹_›))
end
end Internal
namespace Internal
theorem cut_hex {r : Int} (h : 0 ≤ r) : cut HEX (some (r.fmod 16)) (some (r.fmod 16 + 1)) = [HEX.getD (r.toNat % 16) 0] := by
  rw [Int.fmod_eq_emod_of_nonneg _ (by decide)]
  have e : r % 16 = ((r.toNat % 16 : Nat) : Int) := by obtain ⟨n, rfl⟩ := Int.eq_ofNat_of_zero_le h; rfl
  have b : r.toNat % 16 < 16 := Nat.mod_lt _ (by decide)
  rw [e]
  generalize r.toNat % 16 = q at b
  have key : ∀ q : Fin 16, cut HEX (some ((q.val : Nat) : Int)) (some ((q.val : Nat) : Int) |>.map (· + 1)) = [HEX.getD q.val 0] := by decide +kernel
  exact key ⟨q, b⟩
theorem hexP_sz {n : Int} {k r : Nat} {f : List UInt8} (h : HexP n k r f) : f.length ≤ 16777216 := lenL (Nat.le_trans (Nat.le_add_left _ k) h.2.2.2) rfl
theorem hexP_sz2 {n : Int} {k r : Nat} {f : List UInt8} {lo hi : Option Int} (h : HexP n k r f) : (cut HEX lo hi).length + f.length ≤ 16777216 := lenS (cut_length HEX lo hi) (Nat.le_trans (Nat.le_add_left _ k) h.2.2.2) rfl
theorem lhex_turn {n r : Int} {f : List UInt8} {k : Nat} (p1 : 0 ≤ r) (p3 : HexP n k r.toNat f) (m : 0 < r ∨ (f.length : Int) < 4) : (0 ≤ r.fdiv 16 ∧ HexP n (k - 1) (r.fdiv 16).toNat (cut HEX (some (r.fmod 16)) (some (r.fmod 16 + 1)) ++ f)) ∧ k - 1 < k := by
  have q := HexP.more p3 (posN p1 m)
  refine ⟨⟨fdiv0 (k := 16) p1, ?_⟩, q.1⟩
  rw [show (r.fdiv 16).toNat = _ from fdivN (k := 16) p1, cut_hex p1]
  exact q.2
theorem lhex_end {n r : Int} {f : List UInt8} {k : Nat} (p1 : 0 ≤ r) (p3 : HexP n k r.toNat f) (m : ¬ 0 < r) (m' : ¬ (f.length : Int) < 4) : f = hexB n := (HexP.stop p3 (posN' p1 m m')).1
section
variable (number : Int)
theorem law_hex_ok (news : List (Addr × Obj)) (t : Tok) (h1 : 0 ≤ number) (h2 : number < 1099511627776) : Fn 6 352 [.int number t] news (Pure news (IsBytes (hexB number))) := by
  k_with_none
  k_with "FOLD" => ((fail_if_success (fail_if_success k_fold)); (try ((with_reducible rename Fr _ _ _ _ => Fz); (fail_if_success (with_reducible have : Fr _ _ _ mk := Fz)); (with_reducible refine let mk := _; have Fy : Fr _ _ _ mk := Fz; ?_); clear Fz)); (try ((with_reducible rename News _ _ _ _ => Nz); (fail_if_success (with_reducible have : News _ _ _ lk := Nz)); (with_reducible refine let lk := _; have Ny : News _ _ _ lk := Nz; ?_); clear Nz)); with_reducible refine let qk := _; let ek := _; (?_ : wpAny _ _ _ qk ek _))
  k_with "STEPS" => ((try walk_at "FOLD"); repeat' (first | (k_unfold; (try dsimp only)) | (k_end; wrow_close) | (walk1; all_goals (try ((fail_if_success (with_reducible show wpAny _ _ (subscriptTail _ _ _ _) _ _ _)); dsimp only)); all_goals (try ((with_reducible first | show wpAny _ _ (exec _ _) _ _ _ | show wpAny _ _ (execs _ _) _ _ _); (try ((with_reducible first | refine genTok ?_ | refine genTokS ?_); intro tkG)); (try walk_at "FOLD")))) | (dsimp only; walk1)))
  k_with "ROOM" => (first | exact U0 ‹_› | exact U1 ‹_› (by exact rfl) | exact U2 ‹_› (by exact rfl) | exact U3 ‹_› (by exact rfl) | ((simp +zetaDelta only [depth_under_make, depth_under_kw, depth_in1, depth_deeper, depth_caller]); (try dsimp only [ktrTop]); first | omega | decide +kernel))
  k_with "UNITS" => (first | exact U1 ‹_› (by exact rfl) | exact U2 ‹_› (by exact rfl) | exact U3 ‹_› (by exact rfl) | exact U4 ‹_› (by exact rfl) | exact U5 ‹_› (by exact rfl) | (have hcL9 := cLine_is; (simp +zetaDelta only [units_under_make, units_in1, units_deeper, Around.mark_units, units_caller]); (try dsimp only [ktrTop]); first | (rw [hcL9]; decide) | omega | decide +kernel))
  k_with "NE" => (first | with_reducible assumption | (refine neN (Nat.ne_of_lt ?_); walk_at "LTS") | (refine neN (Nat.ne_of_gt ?_); walk_at "LTS") | (refine neN ?_; (try dsimp only); omega))
  k_with "ENTER" => (refine' Internal.code_defN ?k1 ?k2 ?k3 ?k4 ?k5 ?kA ?kF ?kK ?k6 ?k7 ?k8 ?k9 ?kB ?_ ?c2 ?c3 ?c4 ?c5; (case kA | kF => exact rfl); (case kK => first | exact rfl | assumption); (case k1 | k2 | k3 | k4 | k5 => k_asm); (case k6 | k7 => k_is); (case k8 => ktr_room); (case k9 => exact BindsTo.of_eq (by kernel_rfl)); (case c5 => decide); (case kB => exact locs rfl); (case c2 | c3 | c4 => exact rfl); k_whole; intro g' L' h' tk' FG' F' N' B' X' T'; (try dsimp only); (try k_lift B'); (try walk_at "FOLD"); (refine let Ak : Around := _; (?_ : wpAny _ Ak _ _ _ _)))
  k_with "LTS" => (first | with_reducible assumption | exact ltM (by with_reducible assumption) (by k_mem) | exact And.left (by with_reducible assumption) | exact And.left (And.right (by with_reducible assumption)) | exact And.right (And.right (by with_reducible assumption)) | exact And.left (And.right (And.right (by with_reducible assumption))) | exact And.right (And.right (And.right (by with_reducible assumption))))
  k_with "ALL" => (first | with_reducible assumption | exact ne_of_allLt ‹_›)
  k_with "MEM" => (first | exact List.Mem.head _ | exact Mem1 | exact Mem2 | exact Mem3 | exact Mem4 | exact Mem5 | (refine TL6 ?_; walk_at "MEM"))
  k_with "subscriptTail" => (k_here; (with_reducible show wpAny _ _ (subscriptTail _ (Expr.Slice _ _ none _) (Value.bytes _ _) (Value.ref _)) _ _ _); (with_reducible rename Fr _ _ _ _ => F'); (with_reducible rename News _ _ _ _ => N'); k_dflt (refine slice_B (s := ⟨_, _, _, _, _⟩) F' N' (by constructor) (by constructor) (by first | exact hexP_sz ‹_› | exact hexP_sz2 ‹_› | decide) ?_; intro hs9 ts9 ks9 Fs9 Ns9))
  k_with "call builtin:len" => (k_here; (with_reducible show wpAny _ _ (call (Value.builtin "len") [Value.bytes _ _]) _ _ _); k_dflt (refine len_B (by first | exact hexP_sz ‹_› | exact hexP_sz2 ‹_› | decide) ?_; intro tl9 kl9))
  k_with "binaryOp Add bytes bytes" => (k_here; (with_reducible show wpAny _ _ (binaryOp Operator.Add (Value.bytes _ _) (Value.bytes _ _)) _ _ _); k_dflt (refine add_B (by first | exact hexP_sz ‹_› | exact hexP_sz2 ‹_› | decide) ?_; intro tb9 kb9))
  k_with "exec While BoolOp cons nil" => (k_here; k_dflt (refine while_s2 (σ := (Int × Tok) × (List UInt8 × Tok) × Nat) (Str.ofString "number") (Str.ofString "found") ((_,_),([],_),12) (fun c => .int c.1.1 c.1.2) (fun c => .bytes c.2.1.1.toArray c.2.1.2) (fun c => 0 ≤ c.1.1 ∧ HexP number c.2.2 c.1.1.toNat c.2.1.1) (fun c => c.2.2) (fun c => c.2.1.1 = hexB number) (by k_asm) (by k_asm) (by exact rfl) (by exact rfl) (⟨by assumption, HexP.start ‹_›⟩) ?_ ?_); rotate_left; (k_dflt (rintro ⟨⟨r9,rt9⟩,⟨f9,ft9⟩,k9⟩ h9 tk9 b1 F9 N9; (try dsimp only at b1 F9))); (try dsimp only); rotate_left; (k_dflt (rintro ⟨⟨r9,rt9⟩,⟨f9,ft9⟩,k9⟩ h9 tk9 ⟨p1,p2⟩ F9 N9; (try dsimp only at p1 p2 F9))); (try dsimp only))
  intro w mean mg mb dp un gd cn cs a ccd cl outer A₀ base h₀ L m s Q E B F X N T hk hd hu hret
  refine wpAny_call ?_
  k_dflt cell_enter
  walk_at "STEPS"
  all_goals first
    | exact hret _ _ _ _ ⟨⟨_, congrArg (fun l => Value.bytes (List.toArray l) _) (by assumption : _ = hexB number)⟩, rfl⟩ ‹_› (by first | assumption | (refine newsWeak ‹_› ?_; intro p9 hp9; (repeat refine List.Mem.tail _ ?_); assumption))
    | exact WDone2.mk (lhex_end ‹_› ‹_› ‹_› ‹_›) ‹_› ‹_›
    | exact WEnd2.mk (c' := ((_, _), (_, _), _ - 1)) ‹_› ‹_› (if_pos rfl) (by exact rfl) (fun z hz hz' => (if_neg hz).trans ((if_neg hz').trans ((if_neg hz).trans (if_neg hz')))) (lhex_turn ‹_› ‹_› (by first | exact Or.inl ‹_› | exact Or.inr ‹_›))
end
end Internal
namespace Internal
noncomputable def digitI (o : Int) : Option Int := if 48 ≤ o ∧ o ≤ 57 then some (o - 48) else if 65 ≤ o ∧ o ≤ 70 then some (o - 55) else none
noncomputable def digL : List UInt8 → Int → Option Int
  | [], a => some a
  | c :: r, a => match digitI (c.toNat : Int) with
    | some v => digL r (a * 16 + v)
    | none => none
noncomputable def numF (l : List UInt8) : Option Int :=
  if 4 ≤ l.length ∧ l.length ≤ 6 ∧ ¬ (4 < l.length ∧ l.take 1 = [48]) then
    match digL l 0 with
    | some n => if n ≤ 1114111 then some n else none
    | none => none
  else none
theorem drop_some {l : List UInt8} {i : Nat} {c : UInt8} (h : l[i]? = some c) : l.drop i = c :: l.drop (i + 1) := by
  have hi : i < l.length := by
    rcases Nat.lt_or_ge i l.length with h' | h'
    · exact h'
    · rw [List.getElem?_eq_none h'] at h; cases h
  rw [List.drop_eq_getElem_cons hi]
  rw [List.getElem?_eq_getElem hi] at h
  rw [Option.some.inj h]
noncomputable abbrev DigP (l : List UInt8) (i : Nat) (a : Int) : Prop := digL (l.drop i) a = digL l 0
theorem dig_bad {l : List UInt8} {i : Nat} {c : UInt8} {a : Int} (hP : DigP l i a) (hi : l[i]? = some c) (h : digitI (c.toNat : Int) = none) : numF l = none := by
  have : digL l 0 = none := by
    rw [← hP, drop_some hi, digL, h]
  rw [numF, this]
  split <;> rfl
theorem dig_more {l : List UInt8} {i : Nat} {c : UInt8} {a v : Int} (hP : DigP l i a) (hi : l[i]? = some c) (h : digitI (c.toNat : Int) = some v) : DigP l (i + 1) (a * 16 + v) := by
  show digL (l.drop (i + 1)) (a * 16 + v) = digL l 0
  rw [← hP, drop_some hi, digL, h]
theorem num_len {l : List UInt8} (h : ¬ (4 ≤ (l.length : Int) ∧ (l.length : Int) ≤ 6)) : numF l = none := by
  rw [numF, if_neg]; intro q; exact h ⟨Int.ofNat_le.mpr q.1, Int.ofNat_le.mpr q.2.1⟩
theorem num_head {l : List UInt8} (h : 4 < (l.length : Int)) (e : l.take 1 = [48]) : numF l = none := by
  rw [numF, if_neg]; intro q; exact q.2.2 ⟨Int.ofNat_lt.mp h, e⟩
theorem cut_to1 {l : List UInt8} : cut l none (some 1) = l.take 1 := cut_to l 1
theorem num_some {l : List UInt8} {a : Int} (h1 : 4 ≤ (l.length : Int)) (h2 : (l.length : Int) ≤ 6) (h3 : ¬ 4 < (l.length : Int) ∨ l.take 1 ≠ [48]) (hP : DigP l l.length a) (h4 : a ≤ 1114111) : numF l = some a := by
  have e : digL l 0 = some a := by rw [← hP, List.drop_length, digL]
  rw [numF, if_pos ⟨Int.ofNat_le.mp h1, Int.ofNat_le.mp h2, fun ⟨q, z⟩ => h3.elim (fun y => y (Int.ofNat_lt.mpr q)) (fun y => y z)⟩, e]
  exact if_pos h4
theorem num_big {l : List UInt8} {a : Int} (hP : DigP l l.length a) (h4 : ¬ a ≤ 1114111) : numF l = none := by
  have e : digL l 0 = some a := by rw [← hP, List.drop_length, digL]
  rw [numF, e]
  split
  · exact if_neg h4
  · rfl
section
variable (l : List UInt8)
theorem law_number_ok (news : List (Addr × Obj)) (t : Tok) (h0 : l.length ≤ 100) : Fn 2 388 [.bytes l.toArray t] news (Pure news (optInt (numF l))) := by
  k_with_none
  k_with "FOLD" => ((fail_if_success (fail_if_success k_fold)); (try ((with_reducible rename Fr _ _ _ _ => Fz); (fail_if_success (with_reducible have : Fr _ _ _ mk := Fz)); (with_reducible refine let mk := _; have Fy : Fr _ _ _ mk := Fz; ?_); clear Fz)); (try ((with_reducible rename News _ _ _ _ => Nz); (fail_if_success (with_reducible have : News _ _ _ lk := Nz)); (with_reducible refine let lk := _; have Ny : News _ _ _ lk := Nz; ?_); clear Nz)); with_reducible refine let qk := _; let ek := _; (?_ : wpAny _ _ _ qk ek _))
  k_with "STEPS" => ((try walk_at "FOLD"); repeat' (first | (k_unfold; (try dsimp only)) | (k_end; wrow_close) | (walk1; all_goals (try ((fail_if_success (with_reducible show wpAny _ _ (subscriptTail _ _ _ _) _ _ _)); dsimp only)); all_goals (try ((with_reducible first | show wpAny _ _ (exec _ _) _ _ _ | show wpAny _ _ (execs _ _) _ _ _); (try ((with_reducible first | refine genTok ?_ | refine genTokS ?_); intro tkG)); (try walk_at "FOLD")))) | (dsimp only; walk1)))
  k_with "ROOM" => (first | exact U0 ‹_› | exact U1 ‹_› (by exact rfl) | exact U2 ‹_› (by exact rfl) | exact U3 ‹_› (by exact rfl) | ((simp +zetaDelta only [depth_under_make, depth_under_kw, depth_in1, depth_deeper, depth_caller]); (try dsimp only [ktrTop]); first | omega | decide +kernel))
  k_with "UNITS" => (first | exact U1 ‹_› (by exact rfl) | exact U2 ‹_› (by exact rfl) | exact U3 ‹_› (by exact rfl) | exact U4 ‹_› (by exact rfl) | exact U5 ‹_› (by exact rfl) | (have hcL9 := cLine_is; (simp +zetaDelta only [units_under_make, units_in1, units_deeper, Around.mark_units, units_caller]); (try dsimp only [ktrTop]); first | (rw [hcL9]; decide) | omega | decide +kernel))
  k_with "NE" => (first | with_reducible assumption | (refine neN (Nat.ne_of_lt ?_); walk_at "LTS") | (refine neN (Nat.ne_of_gt ?_); walk_at "LTS") | (refine neN ?_; (try dsimp only); omega))
  k_with "ENTER" => (refine' Internal.code_defN ?k1 ?k2 ?k3 ?k4 ?k5 ?kA ?kF ?kK ?k6 ?k7 ?k8 ?k9 ?kB ?_ ?c2 ?c3 ?c4 ?c5; (case kA | kF => exact rfl); (case kK => first | exact rfl | assumption); (case k1 | k2 | k3 | k4 | k5 => k_asm); (case k6 | k7 => k_is); (case k8 => ktr_room); (case k9 => exact BindsTo.of_eq (by kernel_rfl)); (case c5 => decide); (case kB => exact locs rfl); (case c2 | c3 | c4 => exact rfl); k_whole; intro g' L' h' tk' FG' F' N' B' X' T'; (try dsimp only); (try k_lift B'); (try walk_at "FOLD"); (refine let Ak : Around := _; (?_ : wpAny _ Ak _ _ _ _)))
  k_with "LTS" => (first | with_reducible assumption | exact ltM (by with_reducible assumption) (by k_mem) | exact And.left (by with_reducible assumption) | exact And.left (And.right (by with_reducible assumption)) | exact And.right (And.right (by with_reducible assumption)) | exact And.left (And.right (And.right (by with_reducible assumption))) | exact And.right (And.right (And.right (by with_reducible assumption))))
  k_with "ALL" => (first | with_reducible assumption | exact ne_of_allLt ‹_›)
  k_with "MEM" => (first | exact List.Mem.head _ | exact Mem1 | exact Mem2 | exact Mem3 | exact Mem4 | exact Mem5 | (refine TL6 ?_; walk_at "MEM"))
  k_with "WN" => (first | exact wLo ‹_› (by decide) | exact wHi ‹_› (by decide) | exact wGt ‹_› (by decide) | omega)
  k_with "WP" => (first | exact ⟨by assumption, by assumption⟩ | omega)
  k_with "subscriptTail" => (k_here; (with_reducible show wpAny _ _ (subscriptTail _ (Expr.Slice _ _ none _) (Value.bytes _ _) (Value.ref _)) _ _ _); (with_reducible rename Fr _ _ _ _ => F'); (with_reducible rename News _ _ _ _ => N'); k_dflt (refine slice_B (s := ⟨_, _, _, _, _⟩) F' N' (by constructor) (by constructor) (by first | assumption | decide | exact kle0 ‹_› (by decide) | omega | ((try simp only [List.length_append, List.length_cons, List.length_nil, List.length_take, List.length_drop]); omega)) ?_; intro hs9 ts9 ks9 Fs9 Ns9))
  k_with "call builtin:len" => (k_here; (with_reducible show wpAny _ _ (call (Value.builtin "len") [Value.bytes _ _]) _ _ _); k_dflt (refine len_B (by first | assumption | decide | exact kle0 ‹_› (by decide) | omega | ((try simp only [List.length_append, List.length_cons, List.length_nil, List.length_take, List.length_drop]); omega)) ?_; intro tl9 kl9))
  k_with "exec For Name Name cons nil" => (k_here; (rename Fr _ _ _ _ => lF'); (with_unfolding_all refine' For_invVF lF' ?k1 ?k2 ?_; (case k1 | k2 => exact rfl); k_whole))
  k_with "pyIter bytes" => (k_here; k_dflt (refine loop_B (σ := Int × Tok) (Str.ofString "found") (0,_) (fun c => .int c.1 c.2) (fun i c => DigP l i c.1) (by exact rfl) (by k_asm) (by k_asm) (by exact rfl) (rfl) ?_ ?_); (k_dflt (intro i9 c9 t9 a9 h9 tk9 own9 e9 of9 p9 F9 N9; (try dsimp only at p9 F9))); (try dsimp only); rotate_left; (k_dflt (intro a9 u9 h9 tk9 p9 F9 N9; (try dsimp only at p9 F9))); (try dsimp only); rotate_left)
  intro w mean mg mb dp un gd cn cs a ccd cl outer A₀ base h₀ L m s Q E B F X N T hk hd hu hret
  refine wpAny_call ?_
  k_dflt cell_enter
  walk_at "STEPS"
  all_goals try ((try dsimp only); rw [FEnd_ret]; (try dsimp only); walk_at "STEPS")
  all_goals (try have hb45 := ‹(_ == _) = true›)
  all_goals (try have hb46 := ‹(_ == _) = false›)
  all_goals (try simp only [beq_iff_eq, beq_eq_false_iff_ne, cut_to1] at hb45)
  all_goals (try simp only [beq_iff_eq, beq_eq_false_iff_ne, cut_to1] at hb46)
  all_goals first
    | exact hret _ _ _ _ ⟨by rw [num_len (by omega)]; exact rfl, rfl⟩ ‹_› (by first | assumption | (refine newsWeak ‹_› ?_; intro p9 hp9; (repeat refine List.Mem.tail _ ?_); first | assumption | exact List.mem_append_left _ hp9))
    | exact hret _ _ _ _ ⟨by rw [num_head ‹_› ‹_›]; exact rfl, rfl⟩ ‹_› (by first | assumption | (refine newsWeak ‹_› ?_; intro p9 hp9; (repeat refine List.Mem.tail _ ?_); first | assumption | exact List.mem_append_left _ hp9))
    | exact hret _ _ _ _ ⟨by rw [dig_bad ‹_› ‹_› (by unfold digitI; rw [if_neg (by walk_at "WN"), if_neg (by walk_at "WN")])]; exact rfl, rfl⟩ ‹_› (by first | assumption | (refine newsWeak ‹_› ?_; intro p9 hp9; (repeat refine List.Mem.tail _ ?_); first | assumption | exact List.mem_append_left _ hp9))
    | exact hret _ _ _ _ ⟨by rw [num_some ‹_› ‹_› (by first | exact Or.inl ‹_› | exact Or.inr ‹_›) ‹_› ‹_›]; exact ⟨_, rfl⟩, rfl⟩ ‹_› (by first | assumption | (refine newsWeak ‹_› ?_; intro p9 hp9; (repeat refine List.Mem.tail _ ?_); first | assumption | exact List.mem_append_left _ hp9))
    | exact hret _ _ _ _ ⟨by rw [num_big ‹_› ‹_›]; exact rfl, rfl⟩ ‹_› (by first | assumption | (refine newsWeak ‹_› ?_; intro p9 hp9; (repeat refine List.Mem.tail _ ?_); first | assumption | exact List.mem_append_left _ hp9))
    | exact FEnd.mk (c' := (_, _)) ‹_› ‹_› (if_pos rfl) (fun z hz hz' => (if_neg hz').trans ((if_neg hz).trans (if_neg hz'))) (dig_more ‹_› ‹_› (by unfold digitI; rw [if_pos (by walk_at "WP")]))
    | exact FEnd.mk (c' := (_, _)) ‹_› ‹_› (if_pos rfl) (fun z hz hz' => (if_neg hz').trans ((if_neg hz).trans (if_neg hz'))) (dig_more ‹_› ‹_› (by unfold digitI; rw [if_neg (by walk_at "WN"), if_pos (by walk_at "WP")]))
end
end Internal
namespace Internal
noncomputable def plainC (c : UInt8) : Option UInt8 := if c = 32 ∨ c = 45 ∨ c = 95 then none else some (if 97 ≤ c ∧ c ≤ 122 then c - 32 else c)
noncomputable def plainB (l : List UInt8) : List UInt8 := l.filterMap plainC
noncomputable def PlainG (c : UInt8) (ov : Option Value) : Prop := match plainC c with
  | none => ov = none
  | some d => ∃ u, ov = some (.int (d.toNat : Int) u)
theorem plainG_none {c : UInt8} (h : (c.toNat : Int) = 32 ∨ (c.toNat : Int) = 45 ∨ (c.toNat : Int) = 95) : PlainG c none := by
  have e : plainC c = none := (u8 (P := fun c => (c.toNat : Int) = 32 ∨ (c.toNat : Int) = 45 ∨ (c.toNat : Int) = 95 → plainC c = none) (by decide +kernel)) c h
  rw [PlainG, e]
theorem plainG_some {c : UInt8} {n : Int} {u : Tok} (h : ¬ ((c.toNat : Int) = 32 ∨ (c.toNat : Int) = 45 ∨ (c.toNat : Int) = 95)) (e : n = if 97 ≤ (c.toNat : Int) ∧ (c.toNat : Int) ≤ 122 then (c.toNat : Int) - 32 else c.toNat) : PlainG c (some (.int n u)) := by
  obtain ⟨e1, e2⟩ := (u8 (P := fun c => ¬ ((c.toNat : Int) = 32 ∨ (c.toNat : Int) = 45 ∨ (c.toNat : Int) = 95) → plainC c = some (if 97 ≤ c ∧ c ≤ 122 then c - 32 else c) ∧ (if 97 ≤ (c.toNat : Int) ∧ (c.toNat : Int) ≤ 122 then (c.toNat : Int) - 32 else c.toNat) = ((if 97 ≤ c ∧ c ≤ 122 then c - 32 else c).toNat : Int)) (by decide +kernel)) c h
  rw [PlainG, e1]
  exact ⟨u, congrArg (fun n => some (Value.int n u)) (e.trans e2)⟩
theorem plainT_none {c : UInt8} (h : ([32, 45, 95].any fun x => x == (c.toNat : Int)) = true) : PlainG c none := by
  exact plainG_none ((u8 (P := fun c => ([32, 45, 95].any fun x => x == (c.toNat : Int)) = true → (c.toNat : Int) = 32 ∨ (c.toNat : Int) = 45 ∨ (c.toNat : Int) = 95) (by decide +kernel)) c h)
theorem plainT_some {c : UInt8} {n : Int} {u : Tok} (h : ([32, 45, 95].any fun x => x == (c.toNat : Int)) = false) (e : n = if 97 ≤ (c.toNat : Int) ∧ (c.toNat : Int) ≤ 122 then (c.toNat : Int) - 32 else c.toNat) : PlainG c (some (.int n u)) := by
  exact plainG_some ((u8 (P := fun c => ([32, 45, 95].any fun x => x == (c.toNat : Int)) = false → ¬ ((c.toNat : Int) = 32 ∨ (c.toNat : Int) = 45 ∨ (c.toNat : Int) = 95)) (by decide +kernel)) c h) e
theorem plain_paired {l : List UInt8} {zs : List (Option Value)} (p : Paired PlainG l zs) : Paired ByteIs (plainB l) (zs.filterMap id) := by
  induction p with
  | nil => exact .nil
  | @cons c z l zs h r ih =>
    rw [plainB] at ih ⊢
    rw [List.filterMap_cons, List.filterMap_cons]
    unfold PlainG at h
    cases e : plainC c with
    | none => rw [e] at h; subst h; exact ih
    | some d =>
      rw [e] at h
      obtain ⟨u, rfl⟩ := h
      exact .cons ⟨u, rfl⟩ ih
theorem plain_len (l : List UInt8) : (plainB l).length ≤ l.length := List.length_filterMap_le _ _
section
variable (l : List UInt8)
theorem law_plain_ok (news : List (Addr × Obj)) (t : Tok) (h0 : l.length ≤ 100) : Fn 3 376 [.bytes l.toArray t] news (Pure news (IsBytes (plainB l))) := by
  k_with_none
  k_with "FOLD" => ((fail_if_success (fail_if_success k_fold)); (try ((with_reducible rename Fr _ _ _ _ => Fz); (fail_if_success (with_reducible have : Fr _ _ _ mk := Fz)); (with_reducible refine let mk := _; have Fy : Fr _ _ _ mk := Fz; ?_); clear Fz)); (try ((with_reducible rename News _ _ _ _ => Nz); (fail_if_success (with_reducible have : News _ _ _ lk := Nz)); (with_reducible refine let lk := _; have Ny : News _ _ _ lk := Nz; ?_); clear Nz)); with_reducible refine let qk := _; let ek := _; (?_ : wpAny _ _ _ qk ek _))
  k_with "STEPS" => ((try walk_at "FOLD"); repeat' (first | (k_unfold; (try dsimp only)) | (k_end; wrow_close) | (walk1; all_goals (try ((fail_if_success (with_reducible show wpAny _ _ (subscriptTail _ _ _ _) _ _ _)); dsimp only)); all_goals (try ((with_reducible first | show wpAny _ _ (exec _ _) _ _ _ | show wpAny _ _ (execs _ _) _ _ _); (try ((with_reducible first | refine genTok ?_ | refine genTokS ?_); intro tkG)); (try walk_at "FOLD")))) | (dsimp only; walk1)))
  k_with "ROOM" => (first | exact U0 ‹_› | exact U1 ‹_› (by exact rfl) | exact U2 ‹_› (by exact rfl) | exact U3 ‹_› (by exact rfl) | ((simp +zetaDelta only [depth_under_make, depth_under_kw, depth_in1, depth_deeper, depth_caller]); (try dsimp only [ktrTop]); first | omega | decide +kernel))
  k_with "UNITS" => (first | exact U1 ‹_› (by exact rfl) | exact U2 ‹_› (by exact rfl) | exact U3 ‹_› (by exact rfl) | exact U4 ‹_› (by exact rfl) | exact U5 ‹_› (by exact rfl) | (have hcL9 := cLine_is; (simp +zetaDelta only [units_under_make, units_in1, units_deeper, Around.mark_units, units_caller]); (try dsimp only [ktrTop]); first | (rw [hcL9]; decide) | omega | decide +kernel))
  k_with "NE" => (first | with_reducible assumption | (refine neN (Nat.ne_of_lt ?_); walk_at "LTS") | (refine neN (Nat.ne_of_gt ?_); walk_at "LTS") | (refine neN ?_; (try dsimp only); omega))
  k_with "ENTER" => (refine' Internal.code_defN ?k1 ?k2 ?k3 ?k4 ?k5 ?kA ?kF ?kK ?k6 ?k7 ?k8 ?k9 ?kB ?_ ?c2 ?c3 ?c4 ?c5; (case kA | kF => exact rfl); (case kK => first | exact rfl | assumption); (case k1 | k2 | k3 | k4 | k5 => k_asm); (case k6 | k7 => k_is); (case k8 => ktr_room); (case k9 => exact BindsTo.of_eq (by kernel_rfl)); (case c5 => decide); (case kB => exact locs rfl); (case c2 | c3 | c4 => exact rfl); k_whole; intro g' L' h' tk' FG' F' N' B' X' T'; (try dsimp only); (try k_lift B'); (try walk_at "FOLD"); (refine let Ak : Around := _; (?_ : wpAny _ Ak _ _ _ _)))
  k_with "LTS" => (first | with_reducible assumption | exact ltM (by with_reducible assumption) (by k_mem) | exact And.left (by with_reducible assumption) | exact And.left (And.right (by with_reducible assumption)) | exact And.right (And.right (by with_reducible assumption)) | exact And.left (And.right (And.right (by with_reducible assumption))) | exact And.right (And.right (And.right (by with_reducible assumption))))
  k_with "ALL" => (first | with_reducible assumption | exact ne_of_allLt ‹_›)
  k_with "MEM" => (first | exact List.Mem.head _ | exact Mem1 | exact Mem2 | exact Mem3 | exact Mem4 | exact Mem5 | (refine TL6 ?_; walk_at "MEM"))
  k_with "SUB" => (first | assumption | exact TL1 ‹_› | exact TL2 ‹_› | exact TL3 ‹_› | exact TL4 ‹_› | exact TL5 ‹_› | (refine TL6 ?_; walk_at "SUB"))
  k_with "WN" => (first | exact wLo ‹_› (by decide) | exact wHi ‹_› (by decide) | exact wGt ‹_› (by decide) | omega)
  k_with "WP" => (first | exact ⟨by assumption, by assumption⟩ | omega)
  k_with "eval ListComp" => (k_here; (with_reducible show wpAny _ _ (eval (PySem.Expr.ListComp _ [⟨_, _, [_], _⟩] _ _) _) _ _ _); k_dflt (refine Internal.comp1 (by k_asm) (by with_unfolding_all rfl) (by decide) (by rfl) (by decide) (by rfl) ?_))
  k_with "call type:bytes" => (k_here; (with_reducible show wpAny _ _ (call (Value.type "bytes") [Value.ref _]) _ _ _); k_dflt (refine bytes_lst (by k_asm) (by k_asm) (by exact rfl) (by k_mem) (plain_paired ‹_›) (Nat.le_trans (plain_len _) (by omega)) ?_; intro hb9 tb9 kb9 Fb9 Nb9))
  intro w mean mg mb dp un gd cn cs a ccd cl outer A₀ base h₀ L m s Q E B F X N T hk hd hu hret
  refine wpAny_call ?_
  k_dflt cell_enter
  walk_at "STEPS"
  refine ⟨_, _, l, _, (PlainG), by k_asm, by k_asm, by rw [sizeLine_eq]; omega, Src.bytes (by exact rfl), fun g9 => ?_, fun D9 zs9 h9 tk9 F9 N9 off9 p9 => ?_⟩
  · intro a9 v9 I9 oI9 C9 oC9 D9 ys9 m9 h9 tk9 E9 ha9 hK9 hoC9 hx9 F9 N9 off9 ne9
    obtain ⟨t9, rfl⟩ := hK9
    walk_at "STEPS"
    all_goals first
      | exact Kept.mk ‹_› (by first | assumption | (refine newsWeak ‹_› ?_; intro p9 hp9; first | walk_at "SUB" | exact List.mem_append_left _ hp9)) (plainT_none ‹_›)
      | exact Kept.mk ‹_› (by first | assumption | (refine newsWeak ‹_› ?_; intro p9 hp9; first | walk_at "SUB" | exact List.mem_append_left _ hp9)) (plainT_some ‹_› (by rw [if_pos (by walk_at "WP")]))
      | exact Kept.mk ‹_› (by first | assumption | (refine newsWeak ‹_› ?_; intro p9 hp9; first | walk_at "SUB" | exact List.mem_append_left _ hp9)) (plainT_some ‹_› (by rw [if_neg (by walk_at "WN")]))
  walk_at "STEPS"
  all_goals first
    | exact hret _ _ _ _ ⟨⟨_, rfl⟩, rfl⟩ ‹_› (by first | assumption | (refine newsWeak ‹_› ?_; intro p9 hp9; (repeat refine List.Mem.tail _ ?_); first | assumption | exact List.mem_append_left _ hp9))
end
end Internal
namespace Internal
theorem IsList_up {h₀ g : Heap} {L S : Addr} {m : Str → Option Value} {xs : Array Value} (F : Fr h₀ L g m) (h : h₀.IsList S xs) : g.IsList S xs := by
  obtain ⟨o, e, r⟩ := h
  exact ⟨o, F.keep _ _ e, r⟩
theorem ints_get {vs : List Value} {ns : List Int} (h : IntsAre vs ns) : ∀ {i : Nat} {v : Value}, vs[i]? = some v → ∃ n, ns[i]? = some n ∧ ∃ t, v = .int n t := by
  induction h with
  | nil => intro i v h; simp at h
  | cons n t r ih =>
    intro i v h
    cases i with
    | zero => exact ⟨n, by simp, t, by simpa using h.symm⟩
    | succ i => simpa using ih (i := i) (by simpa using h)
theorem ints_len {vs : List Value} {ns : List Int} (h : IntsAre vs ns) : vs.length = ns.length := by
  induction h with
  | nil => rfl
  | cons n t r ih => simp [ih]
theorem Src.ints {prog : Program} {w : World} {A : Around} {h₀ : Heap} {L : Addr} {news : List (Addr × Obj)} {vs : List Value} {ns : List Int} {ax : Addr} {k : Nat} {s₁ : Shared} (hh : A.handled = none) (N : News h₀ L s₁.heap news)
    (hm : (ax, listOf vs.toArray k) ∈ news) (hi : IntsAre vs ns) : Src prog w A h₀ L news (.ref ax) ns (fun n v => ∃ t, v = .int n t) s₁ :=
  Src.list hh N hm (by simp [ints_len hi]) fun i v hv => ints_get hi (by simpa using hv)
theorem ints_some {vs : List Value} {ns : List Int} (h : Paired (fun (_ : Int) v => ∃ n t, v = Value.int n t) ns vs) : ∃ ms, IntsAre vs ms ∧ ms.length = ns.length := by
  induction h with
  | nil => exact ⟨[], .nil, rfl⟩
  | cons e r ih =>
    obtain ⟨n, t, rfl⟩ := e
    obtain ⟨ms, a, b⟩ := ih
    exact ⟨n :: ms, .cons n t a, by simp [b]⟩
section
variable {prog : Program} {w : World} {A : Around} {E : Value → Shared → Prop} {s : Shared} {h₀ : Heap} {news : List (Addr × Obj)} {env : Env}
theorem loop_I {σ : Type} {x : Str} {body : List Stmt} {Q : Flow → Shared → Prop} {m₀ : Str → Option Value} {ns : List Int} {vs : List Value} {ax : Addr} (y : Str) (c₀ : σ) (X : σ → Value) (P : Nat → σ → Prop) (hh : A.handled = none) (F : Fr h₀ env.locals s.heap m₀) (N : News h₀ env.locals s.heap news)
    (hm : (ax, LCg.lst vs) ∈ news) (hi : IntsAre vs ns) (hy : m₀ y = some (X c₀)) (hp : P 0 c₀)
    (turn : ∀ i n t a h tk own, ns[i]? = some n → P i a → Fr h₀ env.locals h (fun z => if z = x then some (.int n t) else if z = y then some (X a) else m₀ z) → News h₀ env.locals h (news ++ own) →
      wpAny (model prog w) A (execs body env) (FEnd h₀ env.locals (news ++ own) x y X m₀ (P (i + 1)) Q s) E { s with heap := h, toks := tk })
    (done : ∀ a u h tk, P ns.length a → Fr h₀ env.locals h (fun z => if z = x then u else if z = y then some (X a) else m₀ z) → News h₀ env.locals h news → Q .next { s with heap := h, toks := tk }) :
    wpAny (model prog w) A (pyIter (.ref ax)) (fun it s₂ => LoopAtV prog w A h₀ env x body Q E it s₂) E s := by
  refine loop_A (as := ns) (K := fun n v => ∃ t, v = .int n t) (its := vs.toArray) (k := vs.length) y c₀ X P hh F N hm (by simp [ints_len hi]) (fun i v hv => ints_get hi (by simpa using hv)) hy hp ?_ done
  rintro i n v a h tk own hn ⟨t, rfl⟩ hP F₁ N₁
  exact turn i n t a h tk own hn hP F₁ N₁
end
noncomputable abbrev rmD (w : World) (t1 t2 t3 : Tok) (dv : Value) (S V : Addr) : Obj := dictOf [{ hash := PyData.keyHash w.params (Str.ofString "default"), key := .str (Str.ofString "default") t1, val := dv }, { hash := PyData.keyHash w.params (Str.ofString "starts"), key := .str (Str.ofString "starts") t2, val := .ref S }, { hash := PyData.keyHash w.params (Str.ofString "values"), key := .str (Str.ofString "values") t3, val := .ref V }] 3
noncomputable abbrev dataD (w : World) (ta tb tc td : Tok) (dd mm : Addr) (pr wo : Value) : Obj := dictOf [{ hash := PyData.keyHash w.params (Str.ofString "defaults"), key := .str (Str.ofString "defaults") ta, val := .ref dd }, { hash := PyData.keyHash w.params (Str.ofString "maps"), key := .str (Str.ofString "maps") tb, val := .ref mm }, { hash := PyData.keyHash w.params (Str.ofString "properties"), key := .str (Str.ofString "properties") tc, val := pr }, { hash := PyData.keyHash w.params (Str.ofString "words"), key := .str (Str.ofString "words") td, val := wo }] 4
noncomputable def DeckIs (w : World) (K : Nat) (d c : Addr) (o lo : Obj) : Prop := @LT.lt Nat _ d c ∧ ∃ (vs : List Value) (ns : List Int) (k : Nat) (m t : Int) (t1 t2 t3 t4 t5 : Tok), (0 ≤ t ∧ t ≤ K) ∧ lo = listOf vs.toArray k ∧ IntsAre vs ns ∧ ns.length ≤ 20 ∧
  o.IsDictOf (PySem.strKind PG w) (strPairs [(.str (Str.ofString "cells") t1, .ref c), (.str (Str.ofString "mixed") t2, .int m t3), (.str (Str.ofString "turn") t4, .int t t5)]) ∧ (d == sysModules) = false
noncomputable def DeckAt (w : World) (news : List (Addr × Obj)) (r : Value) (nw : List (Addr × Obj)) : Prop := ∃ d c o lo, r = .ref d ∧ nw = (d, o) :: (c, lo) :: news ∧ DeckIs w 0 d c o lo ∧ (∀ p ∈ news, @LT.lt Nat _ p.1 d) ∧ (∀ p ∈ news, @LT.lt Nat _ p.1 c)
theorem DeckIs.mk {w : World} {K : Nat} {d c : Addr} {o : Obj} {vs : List Value} {ns : List Int} {k : Nat} {m t : Int} {t1 t2 t3 t4 t5 : Tok} (h : @LT.lt Nat _ d c) (ht : 0 ≤ t ∧ t ≤ K) (hi : IntsAre vs ns) (hn : ns.length ≤ 20)
    (hd : o.IsDictOf (PySem.strKind PG w) (strPairs [(.str (Str.ofString "cells") t1, .ref c), (.str (Str.ofString "mixed") t2, .int m t3), (.str (Str.ofString "turn") t4, .int t t5)])) (hs : (d == sysModules) = false) : DeckIs w K d c o (listOf vs.toArray k) := ⟨h, vs, ns, k, m, t, t1, t2, t3, t4, t5, ht, rfl, hi, hn, hd, hs⟩
theorem DeckAt.mk {w : World} {news : List (Addr × Obj)} {d c : Addr} {o lo : Obj} (D : DeckIs w 0 d c o lo) (a : ∀ p ∈ news, @LT.lt Nat _ p.1 d) (b : ∀ p ∈ news, @LT.lt Nat _ p.1 c) : DeckAt w news (.ref d) ((d, o) :: (c, lo) :: news) := ⟨d, c, o, lo, rfl, rfl, D, a, b⟩
noncomputable def FnW (w : World) (D : Nat) (f : Addr) (vs : List Value) (news : List (Addr × Obj)) (R : Value → List (Addr × Obj) → Prop) : Prop :=
  ∀ (mean : ExcName → Option Value) (mg mb : Str → Option Value) (dp un : Nat) (gd : Option (List Code)) (cn : Str) (cs : Scope) (a : Addr) (ccd : Value) (cl : List (Str × Addr)) (outer : List Env) (A₀ : Around) (base h₀ : Heap) (L : Addr) (m : Str → Option Value) (s : Shared) (Q E : Value → Shared → Prop),
    Below A₀ base outer h₀ → Fr h₀ L s.heap m → (hd0.heap_1 w.params).In h₀ → News h₀ L s.heap news → Top hd0.view_1 LS mean mg mb h₀ → cs.kind = .function → dp + D < recursionLimit → un + 8 * D < cLine →
    (∀ r news' h' tk', R r news' → Fr h₀ L h' m → News h₀ L h' news' → Q r { s with heap := h', toks := tk' }) →
    wpAny (model PG w) (ktrTop dp un gd cn cs L a ccd cl outer) (call (.ref f) vs) Q E s
theorem FnW.use {w : World} {D : Nat} {f : Addr} {vs : List Value} {news : List (Addr × Obj)} {R : Value → List (Addr × Obj) → Prop} (c : FnW w D f vs news R)
    {mean : ExcName → Option Value} {mg mb : Str → Option Value} {dp un : Nat} {gd : Option (List Code)} {cn : Str} {cs : Scope} {a : Addr} {ccd : Value} {cl : List (Str × Addr)} {outer : List Env} {A₀ : Around} {base h₀ : Heap} {L : Addr} {m : Str → Option Value} {s : Shared} {Q E : Value → Shared → Prop}
    (B : Below A₀ base outer h₀) (F : Fr h₀ L s.heap m) (X : (hd0.heap_1 w.params).In h₀) (N : News h₀ L s.heap news) (T : Top hd0.view_1 LS mean mg mb h₀) (hk : cs.kind = .function) (hd : dp + D < recursionLimit) (hu : un + 8 * D < cLine)
    (ret : ∀ r news' h' tk', R r news' → Fr h₀ L h' m → News h₀ L h' news' → Q r { s with heap := h', toks := tk' }) :
    wpAny (model PG w) (ktrTop dp un gd cn cs L a ccd cl outer) (call (.ref f) vs) Q E s := c _ _ _ _ _ _ _ _ _ _ _ _ _ _ _ _ _ _ _ _ B F X N T hk hd hu ret
section
variable {D : Nat} {f : Addr} {vs : List Value} {news : List (Addr × Obj)}
    {w : World} {mean : ExcName → Option Value} {mg mb : Str → Option Value} {dp un : Nat} {gd : Option (List Code)} {cn : Str} {cs : Scope} {a : Addr} {ccd : Value} {cl : List (Str × Addr)} {outer : List Env} {A₀ : Around} {base h₀ : Heap} {L : Addr} {m : Str → Option Value} {s : Shared} {Q E : Value → Shared → Prop}
theorem FnW.use0 {v : Value} (c : FnW w D f vs news (Pure news fun r => r = v))
    (B : Below A₀ base outer h₀) (F : Fr h₀ L s.heap m) (X : (hd0.heap_1 w.params).In h₀) (N : News h₀ L s.heap news) (T : Top hd0.view_1 LS mean mg mb h₀) (hk : cs.kind = .function) (hd : dp + D < recursionLimit) (hu : un + 8 * D < cLine)
    (ret : ∀ h' tk', Fr h₀ L h' m → News h₀ L h' news → Q v ⟨h', s.gens, s.drawn, tk', s.os⟩) :
    wpAny (model PG w) (ktrTop dp un gd cn cs L a ccd cl outer) (call (.ref f) vs) Q E s :=
  FnW.use c B F X N T hk hd hu fun _ _ h t ⟨e, n⟩ F' N' => by subst n; subst e; exact ret h t F' N'
theorem FnW.useE {v : Tok → Value} (c : FnW w D f vs news (Pure news fun r => ∃ t, r = v t))
    (B : Below A₀ base outer h₀) (F : Fr h₀ L s.heap m) (X : (hd0.heap_1 w.params).In h₀) (N : News h₀ L s.heap news) (T : Top hd0.view_1 LS mean mg mb h₀) (hk : cs.kind = .function) (hd : dp + D < recursionLimit) (hu : un + 8 * D < cLine)
    (ret : ∀ t h' tk', Fr h₀ L h' m → News h₀ L h' news → Q (v t) ⟨h', s.gens, s.drawn, tk', s.os⟩) :
    wpAny (model PG w) (ktrTop dp un gd cn cs L a ccd cl outer) (call (.ref f) vs) Q E s :=
  FnW.use c B F X N T hk hd hu fun _ _ h t ⟨⟨u, e⟩, n⟩ F' N' => by subst n; subst e; exact ret u h t F' N'
theorem FnW.useK {R : Value → List (Addr × Obj) → Prop} {K : (Value → List (Addr × Obj) → Prop) → Prop} (c : FnW w D f vs news R) (hK : ∀ P, K P → ∀ r nw, R r nw → P r nw)
    (B : Below A₀ base outer h₀) (F : Fr h₀ L s.heap m) (X : (hd0.heap_1 w.params).In h₀) (N : News h₀ L s.heap news) (T : Top hd0.view_1 LS mean mg mb h₀) (hk : cs.kind = .function) (hd : dp + D < recursionLimit) (hu : un + 8 * D < cLine)
    (ret : K fun r nw => ∀ h' tk', Fr h₀ L h' m → News h₀ L h' nw → Q r ⟨h', s.gens, s.drawn, tk', s.os⟩) :
    wpAny (model PG w) (ktrTop dp un gd cn cs L a ccd cl outer) (call (.ref f) vs) Q E s :=
  FnW.use c B F X N T hk hd hu fun r nw h t hr F' N' => hK _ ret r nw hr h t F' N'
theorem FnW.useW {R : Value → List (Addr × Obj) → Prop} {K : (Value → List (Addr × Obj) → Prop) → Prop} (c : FnW w D f vs news R) (hK : ∀ P, K P → ∀ r nw, R r nw → ∃ nw', (∀ p ∈ nw', p ∈ nw) ∧ P r nw')
    (B : Below A₀ base outer h₀) (F : Fr h₀ L s.heap m) (X : (hd0.heap_1 w.params).In h₀) (N : News h₀ L s.heap news) (T : Top hd0.view_1 LS mean mg mb h₀) (hk : cs.kind = .function) (hd : dp + D < recursionLimit) (hu : un + 8 * D < cLine)
    (ret : K fun r nw => ∀ h' tk', Fr h₀ L h' m → News h₀ L h' nw → Q r ⟨h', s.gens, s.drawn, tk', s.os⟩) :
    wpAny (model PG w) (ktrTop dp un gd cn cs L a ccd cl outer) (call (.ref f) vs) Q E s :=
  FnW.use c B F X N T hk hd hu fun r nw h t hr F' N' => (hK _ ret r nw hr).elim fun _ z => z.2 h t F' fun p hp => N' p (z.1 p hp)
end
end Internal
namespace Internal
noncomputable def FnS (w : World) (D : Nat) (f : Addr) (S : Addr) (vs : List Value) (ns : List Int) (news : List (Addr × Obj)) (R : Value → List (Addr × Obj) → Prop) : Prop :=
  ∀ (mean : ExcName → Option Value) (mg mb : Str → Option Value) (dp un : Nat) (gd : Option (List Code)) (cn : Str) (cs : Scope) (a : Addr) (ccd : Value) (cl : List (Str × Addr)) (outer : List Env) (A₀ : Around) (base h₀ : Heap) (L : Addr) (m : Str → Option Value) (s : Shared) (Q E : Value → Shared → Prop),
    h₀.IsList S vs.toArray → IntsAre vs ns → ns.length ≤ 63 → Below A₀ base outer h₀ → Fr h₀ L s.heap m → (hd0.heap_1 w.params).In h₀ → News h₀ L s.heap news → Top hd0.view_1 LS mean mg mb h₀ → cs.kind = .function → dp + D < recursionLimit → un + 8 * D < cLine →
    (∀ r news' h' tk', R r news' → Fr h₀ L h' m → News h₀ L h' news' → Q r { s with heap := h', toks := tk' }) →
    wpAny (model PG w) (ktrTop dp un gd cn cs L a ccd cl outer) (call (.ref f) [.ref S]) Q E s
section
theorem deck_ok (w : World) (news : List (Addr × Obj)) (S : Addr) (vs : List Value) (ns : List Int) : FnS w 3 324 S vs ns news (DeckAt w news) := by
  k_with_none
  k_with "FOLD" => ((fail_if_success (fail_if_success k_fold)); (try ((with_reducible rename Fr _ _ _ _ => Fz); (fail_if_success (with_reducible have : Fr _ _ _ mk := Fz)); (with_reducible refine let mk := _; have Fy : Fr _ _ _ mk := Fz; ?_); clear Fz)); (try ((with_reducible rename News _ _ _ _ => Nz); (fail_if_success (with_reducible have : News _ _ _ lk := Nz)); (with_reducible refine let lk := _; have Ny : News _ _ _ lk := Nz; ?_); clear Nz)); with_reducible refine let qk := _; let ek := _; (?_ : wpAny _ _ _ qk ek _))
  k_with "STEPS" => ((try walk_at "FOLD"); repeat' (first | (k_unfold; (try dsimp only)) | (k_end; wrow_close) | (walk1; all_goals (try ((fail_if_success (with_reducible show wpAny _ _ (subscriptTail _ _ _ _) _ _ _)); dsimp only)); all_goals (try ((with_reducible first | show wpAny _ _ (exec _ _) _ _ _ | show wpAny _ _ (execs _ _) _ _ _); (try ((with_reducible first | refine genTok ?_ | refine genTokS ?_); intro tkG)); (try walk_at "FOLD")))) | (dsimp only; walk1)))
  k_with "ROOM" => (first | exact U0 ‹_› | exact U1 ‹_› (by exact rfl) | exact U2 ‹_› (by exact rfl) | exact U3 ‹_› (by exact rfl) | ((simp +zetaDelta only [depth_under_make, depth_under_kw, depth_in1, depth_deeper, depth_caller]); (try dsimp only [ktrTop]); first | omega | decide +kernel))
  k_with "UNITS" => (first | exact U1 ‹_› (by exact rfl) | exact U2 ‹_› (by exact rfl) | exact U3 ‹_› (by exact rfl) | exact U4 ‹_› (by exact rfl) | exact U5 ‹_› (by exact rfl) | (have hcL9 := cLine_is; (simp +zetaDelta only [units_under_make, units_in1, units_deeper, Around.mark_units, units_caller]); (try dsimp only [ktrTop]); first | (rw [hcL9]; decide) | omega | decide +kernel))
  k_with "NE" => (first | with_reducible assumption | (refine neN (Nat.ne_of_lt ?_); walk_at "LTS") | (refine neN (Nat.ne_of_gt ?_); walk_at "LTS") | (refine neN ?_; (try dsimp only); omega))
  k_with "ENTER" => (refine' Internal.code_defN ?k1 ?k2 ?k3 ?k4 ?k5 ?kA ?kF ?kK ?k6 ?k7 ?k8 ?k9 ?kB ?_ ?c2 ?c3 ?c4 ?c5; (case kA | kF => exact rfl); (case kK => first | exact rfl | assumption); (case k1 | k2 | k3 | k4 | k5 => k_asm); (case k6 | k7 => k_is); (case k8 => ktr_room); (case k9 => exact BindsTo.of_eq (by kernel_rfl)); (case c5 => decide); (case kB => exact locs rfl); (case c2 | c3 | c4 => exact rfl); k_whole; intro g' L' h' tk' FG' F' N' B' X' T'; (try dsimp only); (try k_lift B'); (try walk_at "FOLD"); (refine let Ak : Around := _; (?_ : wpAny _ Ak _ _ _ _)))
  k_with "LTS" => (first | with_reducible assumption | exact ltM (by with_reducible assumption) (by k_mem) | exact And.left (by with_reducible assumption) | exact And.left (And.right (by with_reducible assumption)) | exact And.right (And.right (by with_reducible assumption)) | exact And.left (And.right (And.right (by with_reducible assumption))) | exact And.right (And.right (And.right (by with_reducible assumption))))
  k_with "ALL" => (first | with_reducible assumption | exact ne_of_allLt ‹_›)
  k_with "MEM" => (first | exact List.Mem.head _ | exact Mem1 | exact Mem2 | exact Mem3 | exact Mem4 | exact Mem5 | (refine TL6 ?_; walk_at "MEM"))
  k_with "SUB" => (first | assumption | exact TL1 ‹_› | exact TL2 ‹_› | exact TL3 ‹_› | exact TL4 ‹_› | exact TL5 ‹_› | (refine TL6 ?_; walk_at "SUB"))
  k_with "eval ListComp" => (k_here; (with_reducible show wpAny _ _ (eval (PySem.Expr.ListComp _ [⟨_, _, [], _⟩] _ _) _) _ _ _); k_dflt (refine Internal.comp0 (by k_asm) (by with_unfolding_all rfl) (by decide) (by rfl) (by decide) (by rfl) ?_))
  k_with "exec For Name Name cons nil" => (k_here; (rename Fr _ _ _ _ => lF'); (with_unfolding_all refine' For_invVF lF' ?k1 ?k2 ?_; (case k1 | k2 => exact rfl); k_whole))
  k_with "pyIter ref" => (k_here; k_dflt (refine loop_I (σ := Int × Tok) (Str.ofString "mixed") (_,_) (fun c => .int c.1 c.2) (fun i c => True) (by exact rfl) (by k_asm) (by k_asm) (by k_mem) ‹_› (by exact rfl) (trivial) ?_ ?_); (k_dflt (intro i9 c9 t9 a9 h9 tk9 own9 e9 p9 F9 N9; (try dsimp only at F9))); (try dsimp only); rotate_left; (k_dflt (intro a9 u9 h9 tk9 p9 F9 N9; (try dsimp only at F9))); (try dsimp only); rotate_left)
  intro mean mg mb dp un gd cn cs a ccd cl outer A₀ base h₀ L m s Q E hS hI hN B F X N T hk hd hu hret
  refine wpAny_call ?_
  k_dflt cell_enter
  have hS1 := IsList_up ‹Fr h₀ L _ m› hS
  clear hS
  walk_at "STEPS"
  refine ⟨_, _, ns.take 20, _, (fun n v => ∃ n t, v = Value.int n t), by k_asm, by k_asm, by rw [sizeLine_eq, List.length_take]; omega, Src.ints (by exact rfl) (by k_asm) (by k_mem) ‹_›, fun g9 => ?_, fun D9 ys9 h9 tk9 F9 N9 off9 p9 => ?_⟩
  · intro a9 v9 I9 oI9 C9 oC9 D9 ys9 m9 h9 tk9 E9 ha9 hK9 hoC9 hx9 F9 N9 off9 ne9
    obtain ⟨t9, rfl⟩ := hK9
    walk_at "STEPS"
    exact ⟨_, _, rfl, by assumption, by assumption, _, _, rfl⟩
  obtain ⟨ms9, is9, ml9⟩ := ints_some p9
  have ml8 : ms9.length ≤ 20 := by rw [ml9, List.length_take]; omega
  walk_at "STEPS"
  all_goals first
    | exact FEnd.mk (c' := (_, _)) ‹_› ‹_› (if_pos rfl) (fun z hz hz' => (if_neg hz').trans ((if_neg hz).trans (if_neg hz'))) trivial
    | (refine' hret _ _ _ _ (DeckAt.mk (DeckIs.mk ?ylt ⟨Int.le_refl _, Int.le_refl _⟩ ?yii ?ylen ?ydict ?ysys) ?yp ?yq) ‹_› (newsWeak ‹_› ?ysub)
       case ydict => assumption
       case yii => assumption
       case ylen => simpa using ml8
       case ysys => assumption
       case ysub =>
         iterate 2 (refine sub_cons (by k_mem) ?_)
         exact fun p9 hp9 => by walk_at "SUB"
       case ylt => first | walk_at "LTS" | omega
       all_goals (refine of_allLt ?_; first | exact And.right ‹_› | exact And.right (And.right ‹_›) | exact And.right (And.right (And.right ‹_›)) | exact And.right (And.right (And.right (And.right ‹_›))) | exact And.right (And.right (And.right (And.right (And.right ‹_›))))))
end
end Internal
namespace Internal
noncomputable def DrawR (w : World) (K : Nat) (d c : Addr) (n : Int) (rest : List (Addr × Obj)) (r : Value) (nw : List (Addr × Obj)) : Prop :=
  ∃ x t o lo, r = .int x t ∧ (0 ≤ x ∧ x < n) ∧ nw = (d, o) :: (c, lo) :: rest ∧ DeckIs w K d c o lo
noncomputable abbrev DrawK (w : World) (K : Nat) (d c : Addr) (n : Int) (rest : List (Addr × Obj)) (P : Value → List (Addr × Obj) → Prop) : Prop := ∀ x t o lo, 0 ≤ x → x < n → DeckIs w K d c o lo → P (.int x t) ((d, o) :: (c, lo) :: rest)
theorem DrawR.k {w : World} {K : Nat} {d c : Addr} {n : Int} {rest : List (Addr × Obj)} : ∀ P, DrawK w K d c n rest P → ∀ r nw, DrawR w K d c n rest r nw → P r nw := by rintro P h r nw ⟨x, t, o, lo, rfl, ⟨a, b⟩, rfl, D⟩; exact h x t o lo a b D
theorem DrawR.mk {w : World} {K : Nat} {d c : Addr} {n : Int} {rest : List (Addr × Obj)} {x : Int} {t : Tok} {o lo : Obj} (a : 0 ≤ x) (b : x < n) (D : DeckIs w K d c o lo) : DrawR w K d c n rest (.int x t) ((d, o) :: (c, lo) :: rest) := ⟨x, t, o, lo, rfl, ⟨a, b⟩, rfl, D⟩
theorem news_tl {h₀ h : Heap} {L : Addr} {x : Addr × Obj} {r : List (Addr × Obj)} (N : News h₀ L h (x :: r)) : News h₀ L h r := fun p hp => N p (List.Mem.tail _ hp)
theorem pos_of {vs : List Value} {ns : List Int} (hi : IntsAre vs ns) (h : decide (ns = []) = false) : 0 < vs.length := by
  rw [ints_len hi]
  cases ns with
  | nil => simp at h
  | cons a r => simp
theorem room_of {vs : List Value} {ns : List Int} (hi : IntsAre vs ns) (h : ns.length ≤ 20) : vs.length ≤ sizeLine := by
  rw [ints_len hi, sizeLine_eq]; omega
theorem ints_snoc {vs : List Value} {ns : List Int} {x : Int} {t : Tok} (h : IntsAre vs ns) : IntsAre (vs ++ [.int x t]) (ns ++ [x]) := by
  induction h with
  | nil => exact .cons x t .nil
  | cons n u r ih => exact .cons n u ih
theorem append_U {prog : Program} {w : World} {A : Around} {E : Value → Shared → Prop} {s : Shared} {h₀ : Heap} {L D : Addr} {m : Str → Option Value} {news news' : List (Addr × Obj)} {us : List Value} {n : Nat} {x : Value} {Q : Value → Shared → Prop} (F : Fr h₀ L s.heap m) (N : News h₀ L s.heap news) (U : Upd D (listOf us.toArray n) (listOf (us ++ [x]).toArray (n + 1)) news news')
    (hz : us.length ≤ sizeLine) (h : ∀ h', Fr h₀ L h' m → News h₀ L h' news' → Q .none { s with heap := h' }) : wpAny (model prog w) A (call (.builtin "list.append") [.ref D, x]) Q E s :=
  append_K (its := us.toArray) F N (by rw [List.push_toArray]; exact U) h (by rw [List.size_toArray]; exact hz)
theorem room_drop {vs : List Value} {ns : List Int} (hi : IntsAre vs ns) (h : ns.length ≤ 20) : vs.dropLast.length ≤ sizeLine := by
  have := room_of hi h
  rw [List.length_dropLast]; exact Nat.le_trans (Nat.sub_le _ _) this
section
theorem draw_ok (w : World) (K : Nat) (rest : List (Addr × Obj)) (d c : Addr) (o lo : Obj) (n : Int) (tn : Tok) (h0 : 0 < n) (h1 : n < 1073741824) (hK : K ≤ 1000) (hD : DeckIs w K d c o lo) (hd1 : ∀ p ∈ rest, p.1 ≠ d) (hc1 : ∀ p ∈ rest, p.1 ≠ c) : FnW w 12 331 [.ref d, .int n tn] ((d, o) :: (c, lo) :: rest) (DrawR w (K + 1) d c n rest) := by
  k_with_none
  k_with "FOLD" => ((fail_if_success (fail_if_success k_fold)); (try ((with_reducible rename Fr _ _ _ _ => Fz); (fail_if_success (with_reducible have : Fr _ _ _ mk := Fz)); (with_reducible refine let mk := _; have Fy : Fr _ _ _ mk := Fz; ?_); clear Fz)); (try ((with_reducible rename News _ _ _ _ => Nz); (fail_if_success (with_reducible have : News _ _ _ lk := Nz)); (with_reducible refine let lk := _; have Ny : News _ _ _ lk := Nz; ?_); clear Nz)); with_reducible refine let qk := _; let ek := _; (?_ : wpAny _ _ _ qk ek _))
  k_with "STEPS" => ((try walk_at "FOLD"); repeat' (first | (k_unfold; (try dsimp only)) | (k_end; wrow_close) | (walk1; all_goals (try ((fail_if_success (with_reducible show wpAny _ _ (subscriptTail _ _ _ _) _ _ _)); dsimp only)); all_goals (try ((with_reducible first | show wpAny _ _ (exec _ _) _ _ _ | show wpAny _ _ (execs _ _) _ _ _); (try ((with_reducible first | refine genTok ?_ | refine genTokS ?_); intro tkG)); (try walk_at "FOLD")))) | (dsimp only; walk1)))
  k_with "ROOM" => (first | exact U0 ‹_› | exact U1 ‹_› (by exact rfl) | exact U2 ‹_› (by exact rfl) | exact U3 ‹_› (by exact rfl) | ((simp +zetaDelta only [depth_under_make, depth_under_kw, depth_in1, depth_deeper, depth_caller]); (try dsimp only [ktrTop]); first | omega | decide +kernel))
  k_with "UNITS" => (first | exact U1 ‹_› (by exact rfl) | exact U2 ‹_› (by exact rfl) | exact U3 ‹_› (by exact rfl) | exact U4 ‹_› (by exact rfl) | exact U5 ‹_› (by exact rfl) | (have hcL9 := cLine_is; (simp +zetaDelta only [units_under_make, units_in1, units_deeper, Around.mark_units, units_caller]); (try dsimp only [ktrTop]); first | (rw [hcL9]; decide) | omega | decide +kernel))
  k_with "NE" => (first | with_reducible assumption | (refine neN (Nat.ne_of_lt ?_); walk_at "LTS") | (refine neN (Nat.ne_of_gt ?_); walk_at "LTS") | (refine neN ?_; (try dsimp only); omega))
  k_with "ENTER" => (refine' Internal.code_defN ?k1 ?k2 ?k3 ?k4 ?k5 ?kA ?kF ?kK ?k6 ?k7 ?k8 ?k9 ?kB ?_ ?c2 ?c3 ?c4 ?c5; (case kA | kF => exact rfl); (case kK => first | exact rfl | assumption); (case k1 | k2 | k3 | k4 | k5 => k_asm); (case k6 | k7 => k_is); (case k8 => ktr_room); (case k9 => exact BindsTo.of_eq (by kernel_rfl)); (case c5 => decide); (case kB => exact locs rfl); (case c2 | c3 | c4 => exact rfl); k_whole; intro g' L' h' tk' FG' F' N' B' X' T'; (try dsimp only); (try k_lift B'); (try walk_at "FOLD"); (refine let Ak : Around := _; (?_ : wpAny _ Ak _ _ _ _)))
  k_with "LTS" => (first | with_reducible assumption | exact ltM (by with_reducible assumption) (by k_mem) | exact And.left (by with_reducible assumption) | exact And.left (And.right (by with_reducible assumption)) | exact And.right (And.right (by with_reducible assumption)) | exact And.left (And.right (And.right (by with_reducible assumption))) | exact And.right (And.right (And.right (by with_reducible assumption))))
  k_with "ALL" => (first | with_reducible assumption | exact ne_of_allLt ‹_›)
  k_with "MEM" => (first | exact List.Mem.head _ | exact Mem1 | exact Mem2 | exact Mem3 | exact Mem4 | exact Mem5 | (refine TL6 ?_; walk_at "MEM"))
  k_with "binaryOp FloorDiv int int" => (k_here; (with_reducible refine floordiv_int ?kbe ?_ (Or.inl (PyProof.noPylong_small ?kbp))); (case kbe | kbp => omega))
  k_with "compareOp NotEq ref ref" => (k_here; (with_reducible show wpAny _ _ (compareOp CmpOp.NotEq (Value.ref _) (Value.ref _)) _ _ _); k_dflt (refine' ne_intsK (News.isList ?kN ?kM) ?kI (us := []) (News.isList ?kN2 ?kM2) .nil ?kU ?_; (case kN => k_asm); (case kM => k_mem); (case kI => assumption); (case kN2 => k_asm); (case kM2 => k_mem); (case kU => (first | units_room | ktr_units))))
  k_with "call builtin:list.pop" => (k_here; (with_reducible show wpAny _ _ (call (Value.builtin _) [Value.ref _]) _ _ _); (k_dflt (refine' kpa_pop ?F ?N ?U ?i ?l ?z ?_; (case F | N => k_asm); (case U => k_upd); (case i => assumption); (case l => exact pos_of ‹_› ‹_›); (case z => exact room_of ‹_› ‹_›))); (intro h' t' F' N' hI'; (try dsimp only [List.nil_append, List.cons_append] at N')))
  k_with "call builtin:list.append" => (k_here; (with_reducible show wpAny _ _ (call (Value.builtin _) [Value.ref _, _]) _ _ _); k_dflt (refine' append_U ?F ?N ?U ?z ?_; (case F | N => k_asm); (case U => k_upd); (case z => exact room_drop ‹_› ‹_›)); (intro h' F' N'; (try dsimp only [List.nil_append, List.cons_append] at N')))
  obtain ⟨hlt, vs, ns, k, m, tu, t1, t2, t3, t4, t5, ⟨ht1, ht2⟩, rfl, hI, hN, hdk, hsys⟩ := hD
  intro mean mg mb dp un gd cn cs a ccd cl outer A₀ base h₀ L m s Q E B F X N T hk hd hu hret
  refine wpAny_call ?_
  k_dflt cell_enter
  walk_at "STEPS"
  all_goals first
    | (refine' hret _ _ _ _ (DrawR.mk ?yb ?yc (DeckIs.mk ‹_› ?yt ?yii ?ylen ?ydict ?ysys)) ‹_› ?yN
       case ydict => assumption
       case yN => first | assumption | exact news_tl ‹_›
       case yb => exact fmod_lo _ (by omega)
       case yc => exact fmod_hi _ (by omega)
       case yt => exact ⟨by omega, by omega⟩
       case ysys => assumption
       case yii => first | assumption | exact ints_snoc ‹_›
       case ylen => first | assumption | (rw [List.length_dropLast]; omega) | (rw [List.length_append, List.length_dropLast, List.length_singleton]; omega)
       all_goals exact (0 : Nat))
end
end Internal
namespace Internal
theorem news_r1 {h₀ h : Heap} {L : Addr} {x a b : Addr × Obj} {r : List (Addr × Obj)} (N : News h₀ L h (x :: a :: b :: r)) : News h₀ L h (a :: b :: x :: r) := news_rot [x] N
theorem news_r2 {h₀ h : Heap} {L : Addr} {x y a b : Addr × Obj} {r : List (Addr × Obj)} (N : News h₀ L h (x :: y :: a :: b :: r)) : News h₀ L h (a :: b :: x :: y :: r) := news_rot [x, y] N
theorem news_r3 {h₀ h : Heap} {L : Addr} {x y z a b : Addr × Obj} {r : List (Addr × Obj)} (N : News h₀ L h (x :: y :: z :: a :: b :: r)) : News h₀ L h (a :: b :: x :: y :: z :: r) := news_rot [x, y, z] N
noncomputable def lowC (c : UInt8) : UInt8 := if 65 ≤ c ∧ c ≤ 90 then c + 32 else c
theorem lowT {c : UInt8} {n : Int} {u : Tok} (e : n = if 65 ≤ (c.toNat : Int) ∧ (c.toNat : Int) ≤ 90 then (c.toNat : Int) + 32 else c.toNat) : ByteIs (lowC c) (.int n u) := by
  exact ⟨u, congrArg (fun n => Value.int n u) (e.trans ((u8 (P := fun c => (if 65 ≤ (c.toNat : Int) ∧ (c.toNat : Int) ≤ 90 then (c.toNat : Int) + 32 else c.toNat) = ((lowC c).toNat : Int)) (by decide +kernel)) c))⟩
theorem paired_mapG {α β : Type} {f : α → β} {G : β → Value → Prop} {as : List α} {ys : List Value} (p : Paired (fun a v => G (f a) v) as ys) : Paired G (as.map f) ys := by
  induction p with
  | nil => exact .nil
  | cons h r ih => exact .cons h ih
noncomputable def LooseOf (l l' : List UInt8) : Prop := l' = l.map lowC ∨ l' = subst 32 [95] l ∨ l' = subst 32 [32, 32] l ∨ l' = subst 32 [32] l
noncomputable def LooseR (w : World) (K : Nat) (d c : Addr) (l : List UInt8) (rest : List (Addr × Obj)) (r : Value) (nw : List (Addr × Obj)) : Prop :=
  ∃ l' t o lo, r = .bytes (List.toArray l') t ∧ LooseOf l l' ∧ nw = (d, o) :: (c, lo) :: rest ∧ DeckIs w K d c o lo
noncomputable abbrev LooseK (w : World) (K : Nat) (d c : Addr) (l : List UInt8) (rest : List (Addr × Obj)) (P : Value → List (Addr × Obj) → Prop) : Prop := ∀ l' t o lo, LooseOf l l' → DeckIs w K d c o lo → P (.bytes (List.toArray l') t) ((d, o) :: (c, lo) :: rest)
theorem LooseR.k {w : World} {K : Nat} {d c : Addr} {l : List UInt8} {rest : List (Addr × Obj)} : ∀ P, LooseK w K d c l rest P → ∀ r nw, LooseR w K d c l rest r nw → P r nw := by rintro P h r nw ⟨x, t, o, lo, rfl, a, rfl, D⟩; exact h x t o lo a D
theorem LooseR.mk {w : World} {K : Nat} {d c : Addr} {l l' : List UInt8} {rest : List (Addr × Obj)} {t : Tok} {o lo : Obj} (a : LooseOf l l') (D : DeckIs w K d c o lo) : LooseR w K d c l rest (.bytes (List.toArray l') t) ((d, o) :: (c, lo) :: rest) := ⟨l', t, o, lo, rfl, a, rfl, D⟩
theorem four {x : Int} (h0 : 0 ≤ x) (h1 : x < 4) : x = 0 ∨ x = 1 ∨ x = 2 ∨ x = 3 := by
  obtain ⟨n, rfl⟩ := Int.eq_ofNat_of_zero_le h0
  exact (by decide : ∀ n : Fin 4, ((n.val : Nat) : Int) = 0 ∨ ((n.val : Nat) : Int) = 1 ∨ ((n.val : Nat) : Int) = 2 ∨ ((n.val : Nat) : Int) = 3) ⟨n, Int.ofNat_lt.mp h1⟩
section
variable (l : List UInt8)
theorem loose_ok (w : World) (K : Nat) (rest : List (Addr × Obj)) (d c : Addr) (o lo : Obj) (t : Tok) (h0 : l.length ≤ 100) (hK : K ≤ 900) (hD : DeckIs w K d c o lo) (hd1 : ∀ p ∈ rest, p.1 ≠ d) (hc1 : ∀ p ∈ rest, p.1 ≠ c) : FnW w 16 381 [.ref d, .bytes l.toArray t] ((d, o) :: (c, lo) :: rest) (LooseR w (K + 1) d c l rest) := by
  k_with_none
  k_with "FOLD" => ((fail_if_success (fail_if_success k_fold)); (try ((with_reducible rename Fr _ _ _ _ => Fz); (fail_if_success (with_reducible have : Fr _ _ _ mk := Fz)); (with_reducible refine let mk := _; have Fy : Fr _ _ _ mk := Fz; ?_); clear Fz)); (try ((with_reducible rename News _ _ _ _ => Nz); (fail_if_success (with_reducible have : News _ _ _ lk := Nz)); (with_reducible refine let lk := _; have Ny : News _ _ _ lk := Nz; ?_); clear Nz)); with_reducible refine let qk := _; let ek := _; (?_ : wpAny _ _ _ qk ek _))
  k_with "STEPS" => ((try walk_at "FOLD"); repeat' (first | (k_unfold; (try dsimp only)) | (k_end; wrow_close) | (walk1; all_goals (try ((fail_if_success (with_reducible show wpAny _ _ (subscriptTail _ _ _ _) _ _ _)); dsimp only)); all_goals (try ((with_reducible first | show wpAny _ _ (exec _ _) _ _ _ | show wpAny _ _ (execs _ _) _ _ _); (try ((with_reducible first | refine genTok ?_ | refine genTokS ?_); intro tkG)); (try walk_at "FOLD")))) | (dsimp only; walk1)))
  k_with "ROOM" => (first | exact U0 ‹_› | exact U1 ‹_› (by exact rfl) | exact U2 ‹_› (by exact rfl) | exact U3 ‹_› (by exact rfl) | ((simp +zetaDelta only [depth_under_make, depth_under_kw, depth_in1, depth_deeper, depth_caller]); (try dsimp only [ktrTop]); first | omega | decide +kernel))
  k_with "UNITS" => (first | exact U1 ‹_› (by exact rfl) | exact U2 ‹_› (by exact rfl) | exact U3 ‹_› (by exact rfl) | exact U4 ‹_› (by exact rfl) | exact U5 ‹_› (by exact rfl) | (have hcL9 := cLine_is; (simp +zetaDelta only [units_under_make, units_in1, units_deeper, Around.mark_units, units_caller]); (try dsimp only [ktrTop]); first | (rw [hcL9]; decide) | omega | decide +kernel))
  k_with "NE" => (first | with_reducible assumption | (refine neN (Nat.ne_of_lt ?_); walk_at "LTS") | (refine neN (Nat.ne_of_gt ?_); walk_at "LTS") | (refine neN ?_; (try dsimp only); omega))
  k_with "ENTER" => (refine' Internal.code_defN ?k1 ?k2 ?k3 ?k4 ?k5 ?kA ?kF ?kK ?k6 ?k7 ?k8 ?k9 ?kB ?_ ?c2 ?c3 ?c4 ?c5; (case kA | kF => exact rfl); (case kK => first | exact rfl | assumption); (case k1 | k2 | k3 | k4 | k5 => k_asm); (case k6 | k7 => k_is); (case k8 => ktr_room); (case k9 => exact BindsTo.of_eq (by kernel_rfl)); (case c5 => decide); (case kB => exact locs rfl); (case c2 | c3 | c4 => exact rfl); k_whole; intro g' L' h' tk' FG' F' N' B' X' T'; (try dsimp only); (try k_lift B'); (try walk_at "FOLD"); (refine let Ak : Around := _; (?_ : wpAny _ Ak _ _ _ _)))
  k_with "LTS" => (first | with_reducible assumption | exact ltM (by with_reducible assumption) (by k_mem) | exact And.left (by with_reducible assumption) | exact And.left (And.right (by with_reducible assumption)) | exact And.right (And.right (by with_reducible assumption)) | exact And.left (And.right (And.right (by with_reducible assumption))) | exact And.right (And.right (And.right (by with_reducible assumption))))
  k_with "ALL" => (first | with_reducible assumption | exact ne_of_allLt ‹_›)
  k_with "MEM" => (first | exact List.Mem.head _ | exact Mem1 | exact Mem2 | exact Mem3 | exact Mem4 | exact Mem5 | (refine TL6 ?_; walk_at "MEM"))
  k_with "SUB" => (first | assumption | exact TL1 ‹_› | exact TL2 ‹_› | exact TL3 ‹_› | exact TL4 ‹_› | exact TL5 ‹_› | (refine TL6 ?_; walk_at "SUB"))
  k_with "WN" => (first | exact wLo ‹_› (by decide) | exact wHi ‹_› (by decide) | exact wGt ‹_› (by decide) | omega)
  k_with "WP" => (first | exact ⟨by assumption, by assumption⟩ | omega)
  k_with "getMethod bytes" => (k_here; first | ((with_reducible show wpAny _ _ (getMethod (Value.bytes _ _) (PySem.Str.ofString "split") _) _ _ _); with_reducible refine method_bytes slot_split type_split ?_) | ((with_reducible show wpAny _ _ (getMethod (Value.bytes _ _) (PySem.Str.ofString "startswith") _) _ _ _); with_reducible refine method_bytes FB.slot_bytes_startswith FB.type_bytes_startswith ?_) | ((with_reducible show wpAny _ _ (getMethod (Value.bytes _ _) (PySem.Str.ofString "endswith") _) _ _ _); with_reducible refine method_bytes FB.slot_bytes_endswith FB.type_bytes_endswith ?_) | ((with_reducible show wpAny _ _ (getMethod (Value.bytes _ _) (PySem.Str.ofString "replace") _) _ _ _); with_reducible refine method_bytes slot_replace type_replace ?_) | ((with_reducible show wpAny _ _ (getMethod (Value.bytes _ _) (PySem.Str.ofString "join") _) _ _ _); with_reducible refine method_bytes slot_join type_join ?_))
  k_with "eval ListComp" => (k_here; (with_reducible show wpAny _ _ (eval (PySem.Expr.ListComp _ [⟨_, _, [], _⟩] _ _) _) _ _ _); k_dflt (refine Internal.comp0 (by k_asm) (by with_unfolding_all rfl) (by decide) (by rfl) (by decide) (by rfl) ?_))
  k_with "call ref" => (k_here; (with_reducible show wpAny _ _ (call (Value.ref 331) [Value.ref _, Value.int _ _] _) _ _ _); k_dflt (refine' FnW.useK (draw_ok _ _ _ _ _ _ _ _ _ ?hh0 ?hh1 ?hhK ?hD ?hd1 ?hc1) DrawR.k ?kB ?kF ?kX ?kN ?kT ?kK ?kd ?ku ?_; (case kN => first | k_asm | exact news_r1 (by k_asm) | exact news_r2 (by k_asm) | exact news_r3 (by k_asm)); (case hD => assumption); (case hd1 | hc1 => k_all); (case hh0 | hh1 => first | omega | decide); (case hhK => first | exact kle0 ‹_› (by decide) | exact kadd ‹_› (by decide) | exact kadd2 ‹_› (by decide) | omega); (case kB | kF | kX | kT => k_asm); (case kK => first | exact rfl | assumption); (case kd => ktr_room); (case ku => ktr_units); (intro x9 t9 o9 lo9 xl9 xh9 D9 h9 tk9 F9 N9; (rcases four xl9 xh9 with ex9 | ex9 | ex9 | ex9 <;> subst ex9 <;> (try dsimp only)))))
  k_with "call builtin:bytes.replace" => (k_here; (with_reducible show wpAny _ _ (call (Value.builtin "bytes.replace") [Value.bytes _ _, Value.bytes _ _, Value.bytes _ _]) _ _ _); k_dflt (refine call_replace (by omega) (by decide) ?_; intro tr9 kr9))
  k_with "call type:bytes" => (k_here; (with_reducible show wpAny _ _ (call (Value.type "bytes") [Value.ref _]) _ _ _); k_dflt (refine bytes_lst (by k_asm) (by k_asm) (by exact rfl) (by k_mem) (paired_mapG ‹_›) (by rw [List.length_map]; omega) ?_; intro hb9 tb9 kb9 Fb9 Nb9))
  intro mean mg mb dp un gd cn cs a ccd cl outer A₀ base h₀ L m s Q E B F X N T hk hd hu hret
  refine wpAny_call ?_
  k_dflt cell_enter
  walk_at "STEPS"
  refine ⟨_, _, l, _, (fun c v => ByteIs (lowC c) v), by k_asm, by k_asm, by rw [sizeLine_eq]; omega, Src.bytes (by exact rfl), fun g9 => ?_, fun D9 ys9 h9 tk9 F9 N9 off9 p9 => ?_⟩
  · intro a9 v9 I9 oI9 C9 oC9 D9 ys9 m9 h9 tk9 E9 ha9 hK9 hoC9 hx9 F9 N9 off9 ne9
    obtain ⟨t9, rfl⟩ := hK9
    walk_at "STEPS"
    all_goals first
      | exact Kept.mk ‹_› (by first | assumption | (refine newsWeak ‹_› ?_; intro p9 hp9; first | walk_at "SUB" | exact List.mem_append_left _ hp9)) (lowT (by rw [if_pos (by walk_at "WP")]))
      | exact Kept.mk ‹_› (by first | assumption | (refine newsWeak ‹_› ?_; intro p9 hp9; first | walk_at "SUB" | exact List.mem_append_left _ hp9)) (lowT (by rw [if_neg (by walk_at "WN")]))
  walk_at "STEPS"
  all_goals exact hret _ _ _ _ (LooseR.mk (by first | exact Or.inl (by with_reducible rfl) | exact Or.inr (Or.inl (by with_reducible rfl)) | exact Or.inr (Or.inr (Or.inl (by with_reducible rfl))) | exact Or.inr (Or.inr (Or.inr (by with_reducible rfl)))) ‹_›) ‹_› (by first | assumption | exact news_tl ‹_› | exact news_tl (news_tl ‹_›))
end
end Internal
namespace Internal
noncomputable abbrev tup2 (a b : Value) : Obj := { cls := .type "tuple", data := .seq #[a, b] }
noncomputable def SYL : List UInt8 := [72, 65, 78, 71, 85, 76, 32, 83, 89, 76, 76, 65, 66, 76, 69, 32]
noncomputable def sylB (l v t : Nat) : List UInt8 := leadsB.getD l [] ++ vowels0.getD v [] ++ tailsB.getD t []
noncomputable abbrev noDash (ls : List (List UInt8)) : List (List UInt8) := ls.filter fun x => decide (x ≠ [45])
theorem vowel_ne (v : Nat) : vowels0.getD v [] ≠ [45] := by
  rw [List.getD_eq_getElem?_getD]
  cases e : vowels0[v]? with
  | none => decide
  | some l =>
    have h : ∀ l ∈ vowels0, l ≠ [45] := by decide +kernel
    exact h l (List.mem_of_getElem? e)
theorem map_getD (ls : List (List UInt8)) (i : Nat) : (ls.map shortB).getD i [] = shortB (ls.getD i []) := by
  rw [List.getD_eq_getElem?_getD, List.getD_eq_getElem?_getD, List.getElem?_map]
  cases ls[i]? with
  | none => rfl
  | some l => rfl
theorem dash_flat (a : List UInt8) (r : List (List UInt8)) : (noDash (a :: r)).flatten = shortB a ++ (noDash r).flatten := by
  by_cases h : a = [45]
  · rw [noDash, List.filter_cons_of_neg (by simp [h]), shortB, if_pos h]; rfl
  · rw [noDash, List.filter_cons_of_pos (by simp [h]), shortB, if_neg h, List.flatten_cons]
theorem syl_join (l v t : Nat) : (noDash [leads0.getD l [], vowels0.getD v [], tails0.getD t []]).flatten = sylB l v t := by
  rw [dash_flat, dash_flat, dash_flat, sylB, map_getD, map_getD, shortB, shortB, if_neg (vowel_ne v)]
  simp [noDash, shortB]
noncomputable def PartG (a : List UInt8) (ov : Option Value) : Prop := (a = [45] ∧ ov = none) ∨ (a ≠ [45] ∧ ∃ t, ov = some (.bytes a.toArray t))
theorem part_paired {ls : List (List UInt8)} {zs : List (Option Value)} (p : Paired PartG ls zs) : Paired IsBytes (noDash ls) (zs.filterMap id) := by
  induction p with
  | nil => exact .nil
  | @cons a z ls zs h r ih =>
    rcases h with ⟨h, rfl⟩ | ⟨h, t, rfl⟩
    · rw [noDash, List.filter_cons_of_neg (by simp [h])]; exact ih
    · rw [noDash, List.filter_cons_of_pos (by simp [h])]; exact .cons ⟨t, rfl⟩ ih
theorem dash_len (a c : List UInt8) (v : Nat) : 1 ≤ (noDash [a, vowels0.getD v [], c]).length ∧ (noDash [a, vowels0.getD v [], c]).length ≤ 3 := by
  refine ⟨?_, List.length_filter_le _ _⟩
  have : vowels0.getD v [] ∈ noDash [a, vowels0.getD v [], c] := List.mem_filter.mpr ⟨by simp, decide_eq_true (vowel_ne v)⟩
  exact List.length_pos_of_mem this
theorem leads0_len (i : Nat) : (leads0.getD i []).length ≤ 4 := getD_len (by decide +kernel) i
theorem tails0_len (i : Nat) : (tails0.getD i []).length ≤ 4 := getD_len (by decide +kernel) i
theorem dash_small (l v t : Nat) : ∀ x ∈ noDash [leads0.getD l [], vowels0.getD v [], tails0.getD t []], x.length ≤ 1000 := by
  intro x hx
  have := (List.mem_filter.mp hx).1
  have h1 := leads0_len l
  have h2 := vowels_len v
  have h3 := tails0_len t
  simp only [List.mem_cons, List.not_mem_nil, or_false] at this
  rcases this with rfl | rfl | rfl <;> omega
section
variable {prog : Program} {w : World} {A : Around} {E : Value → Shared → Prop} {s : Shared} {h₀ : Heap} {L : Addr} {news : List (Addr × Obj)} {m : Str → Option Value}
theorem Src.tup3 {a b c : List UInt8} {t1 t2 t3 : Tok} {ax : Addr} {k : Nat} {s₁ : Shared} (hh : A.handled = none) (N : News h₀ L s₁.heap news)
    (hm : (ax, ({ cls := .type "tuple", data := .seq #[.bytes a.toArray t1, .bytes b.toArray t2, .bytes c.toArray t3] k } : Obj)) ∈ news) : Src prog w A h₀ L news (.ref ax) [a, b, c] IsBytes s₁ := by
  refine Src.tuple hh N hm rfl fun i v hv => ?_
  rcases i with _ | _ | _ | i
  · exact ⟨a, rfl, t1, by simpa using hv.symm⟩
  · exact ⟨b, rfl, t2, by simpa using hv.symm⟩
  · exact ⟨c, rfl, t3, by simpa using hv.symm⟩
  · simp at hv
theorem paired_jp {ls : List (List UInt8)} {ys : List Value} (h : Paired IsBytes ls ys) : ∃ ps : JP, ls = ps.map (·.1) ∧ ys = ps.map fun p => Value.bytes p.1.toArray p.2 := by
  induction h with
  | nil => exact ⟨[], rfl, rfl⟩
  | @cons a v ls ys e r ih =>
    obtain ⟨t, rfl⟩ := e
    obtain ⟨ps, rfl, rfl⟩ := ih
    exact ⟨(a, t) :: ps, rfl, rfl⟩
theorem flat_len : ∀ ls : List (List UInt8), (∀ x ∈ ls, x.length ≤ 1000) → ls.flatten.length ≤ 1000 * ls.length
  | [], _ => Nat.zero_le _
  | x :: r, h => by
    rw [List.flatten_cons, List.length_append, List.length_cons, Nat.mul_succ, Nat.add_comm]
    exact Nat.add_le_add (flat_len r fun y hy => h y (.tail _ hy)) (h x (.head _))
theorem join_lst {ls : List (List UInt8)} {ys : List Value} {D : Addr} {t : Tok} {Q : Value → Shared → Prop} (N : News h₀ L s.heap news) (hm : (D, LCg.lst ys) ∈ news) (hp : Paired IsBytes ls ys) (hl : 1 ≤ ls.length ∧ ls.length ≤ 3) (hz : ∀ x ∈ ls, x.length ≤ 1000)
    (h : ∀ t' k, Q (.bytes ls.flatten.toArray t') { s with toks := k }) : wpAny (model prog w) A (call (.builtin "bytes.join") [.bytes #[] t, .ref D]) Q E s := by
  have ho := (N _ hm).1
  obtain ⟨ps, rfl, rfl⟩ := paired_jp hp
  rcases ps with _ | ⟨p, _ | ⟨q, r⟩⟩
  · exact absurd hl.1 (by decide)
  · exact call_join1 ho (hz _ (.head _)) (by simpa using h)
  · exact call_joinN rfl ho (Nat.le_trans (flat_len _ hz) (Nat.le_trans (Nat.mul_le_mul_left _ hl.2) (by decide))) h
end
theorem ltL {k : Int} (h : k < 19) : k < ((leads0.length : Nat) : Int) := h
theorem ltV {k : Int} (h : k < 21) : k < ((vowels0.length : Nat) : Int) := h
theorem ltT {k : Int} (h : k < 28) : k < ((tails0.length : Nat) : Int) := h
theorem partT_no {a : List UInt8} (h : (a.toArray.toList != [45]) = false) : PartG a none := by
  left; exact ⟨by simpa using h, rfl⟩
theorem partT_yes {a : List UInt8} {t : Tok} (h : (a.toArray.toList != [45]) = true) : PartG a (some (.bytes a.toArray t)) := by
  right; exact ⟨by simpa using h, t, rfl⟩
theorem sylB_len (l v t : Nat) : (sylB l v t).length ≤ 12 := by
  have h1 := leads_len l
  have h2 := vowels_len v
  have h3 := tails_len t
  rw [sylB, List.length_append, List.length_append]
  exact Nat.add_le_add (Nat.add_le_add h1 h2) h3
noncomputable def SylR (w : World) (K : Nat) (d c : Addr) (rest : List (Addr × Obj)) (r : Value) (nw : List (Addr × Obj)) : Prop :=
  ∃ T x y z o lo t1 t2, r = .ref T ∧ (0 ≤ x ∧ x < 19 ∧ 0 ≤ y ∧ y < 21 ∧ 0 ≤ z ∧ z < 28) ∧ nw = (T, tup2 (.int (44032 + (x * 21 + y) * 28 + z) t1) (.bytes (SYL ++ sylB (Int.toNat x) (Int.toNat y) (Int.toNat z)).toArray t2)) :: (d, o) :: (c, lo) :: rest ∧ DeckIs w K d c o lo ∧ AllLt T ((d, o) :: (c, lo) :: rest)
noncomputable abbrev SylK (w : World) (K : Nat) (d c : Addr) (rest : List (Addr × Obj)) (P : Value → List (Addr × Obj) → Prop) : Prop := ∀ T x y z o lo t1 t2, (0 ≤ x ∧ x < 19 ∧ 0 ≤ y ∧ y < 21 ∧ 0 ≤ z ∧ z < 28) → DeckIs w K d c o lo → AllLt T ((d, o) :: (c, lo) :: rest) → P (.ref T) ((T, tup2 (.int (44032 + (x * 21 + y) * 28 + z) t1) (.bytes (SYL ++ sylB (Int.toNat x) (Int.toNat y) (Int.toNat z)).toArray t2)) :: (d, o) :: (c, lo) :: rest)
theorem SylR.k {w : World} {K : Nat} {d c : Addr} {rest : List (Addr × Obj)} : ∀ P, SylK w K d c rest P → ∀ r nw, SylR w K d c rest r nw → P r nw := by rintro P h r nw ⟨T, x, y, z, o, lo, t1, t2, rfl, a, rfl, D, b⟩; exact h T x y z o lo t1 t2 a D b
theorem SylR.mk {w : World} {K : Nat} {d c : Addr} {rest : List (Addr × Obj)} {T : Addr} {x y z : Int} {o lo : Obj} {t1 t2 : Tok} (a : 0 ≤ x ∧ x < 19 ∧ 0 ≤ y ∧ y < 21 ∧ 0 ≤ z ∧ z < 28) (D : DeckIs w K d c o lo) (b : AllLt T ((d, o) :: (c, lo) :: rest)) : SylR w K d c rest (.ref T) ((T, tup2 (.int (44032 + (x * 21 + y) * 28 + z) t1) (.bytes (SYL ++ sylB (Int.toNat x) (Int.toNat y) (Int.toNat z)).toArray t2)) :: (d, o) :: (c, lo) :: rest) := ⟨T, x, y, z, o, lo, t1, t2, rfl, a, rfl, D, b⟩
theorem join_syl {prog : Program} {w : World} {A : Around} {E : Value → Shared → Prop} {s : Shared} {h₀ : Heap} {L : Addr} {news : List (Addr × Obj)} {l v t : Nat} {zs : List (Option Value)} {D : Addr} {u : Tok} {Q : Value → Shared → Prop} (N : News h₀ L s.heap news) (hm : (D, LCg.lst (zs.filterMap id)) ∈ news) (hp : Paired PartG [leads0.getD l [], vowels0.getD v [], tails0.getD t []] zs)
    (h : ∀ t' k, Q (.bytes (sylB l v t).toArray t') { s with toks := k }) : wpAny (model prog w) A (call (.builtin "bytes.join") [.bytes #[] u, .ref D]) Q E s :=
  join_lst N hm (part_paired hp) (dash_len _ _ _) (dash_small _ _ _) (by rw [syl_join]; exact h)
theorem syl_room (l v t : Nat) : SYL.length + (sylB l v t).length ≤ 16777216 := Nat.le_trans (Nat.add_le_add_left (sylB_len _ _ _) _) (by decide)
section
theorem syllable_ok (w : World) (K : Nat) (rest : List (Addr × Obj)) (d c : Addr) (o lo : Obj) (hK : K ≤ 900) (hD : DeckIs w K d c o lo) (hd1 : ∀ p ∈ rest, p.1 ≠ d) (hc1 : ∀ p ∈ rest, p.1 ≠ c) : FnW w 16 357 [.ref d] ((d, o) :: (c, lo) :: rest) (SylR w (K + 3) d c rest) := by
  k_with_none
  k_with "FOLD" => ((fail_if_success (fail_if_success k_fold)); (try ((with_reducible rename Fr _ _ _ _ => Fz); (fail_if_success (with_reducible have : Fr _ _ _ mk := Fz)); (with_reducible refine let mk := _; have Fy : Fr _ _ _ mk := Fz; ?_); clear Fz)); (try ((with_reducible rename News _ _ _ _ => Nz); (fail_if_success (with_reducible have : News _ _ _ lk := Nz)); (with_reducible refine let lk := _; have Ny : News _ _ _ lk := Nz; ?_); clear Nz)); with_reducible refine let qk := _; let ek := _; (?_ : wpAny _ _ _ qk ek _))
  k_with "STEPS" => ((try walk_at "FOLD"); repeat' (first | (k_unfold; (try dsimp only)) | (k_end; wrow_close) | (walk1; all_goals (try ((fail_if_success (with_reducible show wpAny _ _ (subscriptTail _ _ _ _) _ _ _)); dsimp only)); all_goals (try ((with_reducible first | show wpAny _ _ (exec _ _) _ _ _ | show wpAny _ _ (execs _ _) _ _ _); (try ((with_reducible first | refine genTok ?_ | refine genTokS ?_); intro tkG)); (try walk_at "FOLD")))) | (dsimp only; walk1)))
  k_with "ROOM" => (first | exact U0 ‹_› | exact U1 ‹_› (by exact rfl) | exact U2 ‹_› (by exact rfl) | exact U3 ‹_› (by exact rfl) | ((simp +zetaDelta only [depth_under_make, depth_under_kw, depth_in1, depth_deeper, depth_caller]); (try dsimp only [ktrTop]); first | omega | decide +kernel))
  k_with "UNITS" => (first | exact U1 ‹_› (by exact rfl) | exact U2 ‹_› (by exact rfl) | exact U3 ‹_› (by exact rfl) | exact U4 ‹_› (by exact rfl) | exact U5 ‹_› (by exact rfl) | (have hcL9 := cLine_is; (simp +zetaDelta only [units_under_make, units_in1, units_deeper, Around.mark_units, units_caller]); (try dsimp only [ktrTop]); first | (rw [hcL9]; decide) | omega | decide +kernel))
  k_with "NE" => (first | with_reducible assumption | (refine neN (Nat.ne_of_lt ?_); walk_at "LTS") | (refine neN (Nat.ne_of_gt ?_); walk_at "LTS") | (refine neN ?_; (try dsimp only); omega))
  k_with "ENTER" => (refine' Internal.code_defN ?k1 ?k2 ?k3 ?k4 ?k5 ?kA ?kF ?kK ?k6 ?k7 ?k8 ?k9 ?kB ?_ ?c2 ?c3 ?c4 ?c5; (case kA | kF => exact rfl); (case kK => first | exact rfl | assumption); (case k1 | k2 | k3 | k4 | k5 => k_asm); (case k6 | k7 => k_is); (case k8 => ktr_room); (case k9 => exact BindsTo.of_eq (by kernel_rfl)); (case c5 => decide); (case kB => exact locs rfl); (case c2 | c3 | c4 => exact rfl); k_whole; intro g' L' h' tk' FG' F' N' B' X' T'; (try dsimp only); (try k_lift B'); (try walk_at "FOLD"); (refine let Ak : Around := _; (?_ : wpAny _ Ak _ _ _ _)))
  k_with "LTS" => (first | with_reducible assumption | exact ltM (by with_reducible assumption) (by k_mem) | exact And.left (by with_reducible assumption) | exact And.left (And.right (by with_reducible assumption)) | exact And.right (And.right (by with_reducible assumption)) | exact And.left (And.right (And.right (by with_reducible assumption))) | exact And.right (And.right (And.right (by with_reducible assumption))))
  k_with "ALL" => (first | with_reducible assumption | exact ne_of_allLt ‹_›)
  k_with "MEM" => (first | exact List.Mem.head _ | exact Mem1 | exact Mem2 | exact Mem3 | exact Mem4 | exact Mem5 | (refine TL6 ?_; walk_at "MEM"))
  k_with "SUB" => (first | assumption | exact TL1 ‹_› | exact TL2 ‹_› | exact TL3 ‹_› | exact TL4 ‹_› | exact TL5 ‹_› | (refine TL6 ?_; walk_at "SUB"))
  k_with "RIGHT" => (first | assumption | exact AR1 ‹_› | exact AR2 ‹_› | exact AR3 ‹_› | exact AR4 ‹_› | exact AR5 ‹_› | exact AR6 ‹_› | exact AR7 ‹_› | exact AR8 ‹_› | exact AR9 ‹_› | exact AR10 ‹_› | exact AR11 ‹_› | exact AR12 ‹_› | exact AR13 ‹_› | exact AR14 ‹_› | exact AR15 ‹_› | exact AR16 ‹_›)
  k_with "getMethod bytes" => (k_here; first | ((with_reducible show wpAny _ _ (getMethod (Value.bytes _ _) (PySem.Str.ofString "split") _) _ _ _); with_reducible refine method_bytes slot_split type_split ?_) | ((with_reducible show wpAny _ _ (getMethod (Value.bytes _ _) (PySem.Str.ofString "startswith") _) _ _ _); with_reducible refine method_bytes FB.slot_bytes_startswith FB.type_bytes_startswith ?_) | ((with_reducible show wpAny _ _ (getMethod (Value.bytes _ _) (PySem.Str.ofString "endswith") _) _ _ _); with_reducible refine method_bytes FB.slot_bytes_endswith FB.type_bytes_endswith ?_) | ((with_reducible show wpAny _ _ (getMethod (Value.bytes _ _) (PySem.Str.ofString "replace") _) _ _ _); with_reducible refine method_bytes slot_replace type_replace ?_) | ((with_reducible show wpAny _ _ (getMethod (Value.bytes _ _) (PySem.Str.ofString "join") _) _ _ _); with_reducible refine method_bytes slot_join type_join ?_))
  k_with "call ref" => (k_here; (with_reducible show wpAny _ _ (call (Value.ref 331) [Value.ref _, Value.int _ _] _) _ _ _); k_dflt (refine' FnW.useK (draw_ok _ _ _ _ _ _ _ _ _ ?hh0 ?hh1 ?hhK ?hD ?hd1 ?hc1) DrawR.k ?kB ?kF ?kX ?kN ?kT ?kK ?kd ?ku ?_; (case kN => first | k_asm | exact news_r1 (by k_asm) | exact news_r2 (by k_asm) | exact news_r3 (by k_asm)); (case hD => assumption); (case hd1 | hc1 => k_all); (case hh0 | hh1 => first | omega | decide); (case hhK => first | exact kle0 ‹_› (by decide) | exact kadd ‹_› (by decide) | exact kadd2 ‹_› (by decide) | omega); (case kB | kF | kX | kT => k_asm); (case kK => first | exact rfl | assumption); (case kd => ktr_room); (case ku => ktr_units); (intro x9 t9 o9 lo9 xl9 xh9 D9 h9 tk9 F9 N9; (try dsimp only))))
  k_with "exec Assign cons ListComp" => (k_here; (with_reducible show wpAny _ _ (exec (Stmt.Assign _ (PySem.Expr.ListComp _ [⟨_, _, [_], _⟩] _ _) _) _) _ _ _); k_dflt (refine Internal.assign1 (by k_asm) (by with_unfolding_all rfl) (by with_unfolding_all rfl) (by decide) (by rfl) (by decide) (by rfl) (by rfl) (by rfl) ?_))
  k_with "call builtin:bytes.split" => (k_here; (with_reducible show wpAny _ _ (call (Value.builtin "bytes.split") [Value.bytes _ _, Value.bytes _ _]) _ _ _); k_dflt (refine split_to (by k_asm) (by k_asm) (by first | exact leads0_s | exact vowels0_s | exact tails0_s) ?_; intro D' its' h' k' hp' F' N' off'); (try k_lt off'))
  k_with "subscriptTail" => (k_here; (with_reducible show wpAny _ _ (subscriptTail _ _ (Value.ref _) (Value.int _ _)) _ _ _); k_dflt (refine bl_itemD (by k_asm) (by k_mem) ‹_› ‹_› (by decide +kernel) (by with_reducible first | exact ltL ‹_› | exact ltV ‹_› | exact ltT ‹_›) ?_); intro ti9)
  k_with "call builtin:bytes.join" => (k_here; (with_reducible show wpAny _ _ (call (Value.builtin "bytes.join") [Value.bytes _ _, Value.ref _]) _ _ _); k_dflt (refine join_syl (by k_asm) (by k_mem) ‹_› ?_; intro tj9 kj9))
  k_with "binaryOp Add bytes bytes" => (k_here; (with_reducible show wpAny _ _ (binaryOp Operator.Add (Value.bytes _ _) (Value.bytes _ _)) _ _ _); k_dflt (refine add_B (by exact syl_room _ _ _) ?_; intro tb9 kb9))
  intro mean mg mb dp un gd cn cs a ccd cl outer A₀ base h₀ L m s Q E B F X N T hk hd hu hret
  refine wpAny_call ?_
  k_dflt cell_enter
  walk_at "STEPS"
  refine ⟨_, _, [leads0.getD _ [], vowels0.getD _ [], tails0.getD _ []], _, (PartG), by k_asm, by k_asm, by rw [sizeLine_eq]; show 3 ≤ 16777216; decide, Src.tup3 (by exact rfl) (by k_asm) (by k_mem), fun g9 => ?_, fun D9 zs9 h9 tk9 F9 N9 off9 p9 => ?_⟩
  · intro a9 v9 I9 oI9 C9 oC9 D9 ys9 m9 h9 tk9 E9 ha9 hK9 hoC9 hx9 F9 N9 off9 ne9
    obtain ⟨t9, rfl⟩ := hK9
    walk_at "STEPS"
    all_goals first
      | exact Kept.mk ‹_› (by first | assumption | (refine newsWeak ‹_› ?_; intro p9 hp9; first | walk_at "SUB" | exact List.mem_append_left _ hp9)) (partT_no ‹_›)
      | exact Kept.mk ‹_› (by first | assumption | (refine newsWeak ‹_› ?_; intro p9 hp9; first | walk_at "SUB" | exact List.mem_append_left _ hp9)) (partT_yes ‹_›)
  walk_at "STEPS"
  refine' hret _ _ _ _ (SylR.mk ?yB ?yD ?yA) ‹_› (newsWeak ‹_› ?ysub)
  case yD => assumption
  case ysub =>
    iterate 3 (refine sub_cons (by k_mem) ?_)
    exact fun p9 hp9 => by walk_at "SUB"
  case yA => exact ⟨by first | walk_at "LTS" | omega, by first | walk_at "LTS" | omega, (by walk_at "RIGHT")⟩
  case yB => exact ⟨by assumption, by assumption, by assumption, by assumption, by assumption, by assumption⟩
end
end Internal
namespace Internal
noncomputable def PickR (w : World) (K : Nat) (d c : Addr) (its : Array Value) (rest : List (Addr × Obj)) (r : Value) (nw : List (Addr × Obj)) : Prop :=
  ∃ o lo, r ∈ its.toList ∧ nw = (d, o) :: (c, lo) :: rest ∧ DeckIs w K d c o lo
noncomputable abbrev PickK (w : World) (K : Nat) (d c : Addr) (its : Array Value) (rest : List (Addr × Obj)) (P : Value → List (Addr × Obj) → Prop) : Prop := ∀ r o lo, r ∈ its.toList → DeckIs w K d c o lo → P r ((d, o) :: (c, lo) :: rest)
theorem PickR.k {w : World} {K : Nat} {d c : Addr} {its : Array Value} {rest : List (Addr × Obj)} : ∀ P, PickK w K d c its rest P → ∀ r nw, PickR w K d c its rest r nw → P r nw := by rintro P h r nw ⟨o, lo, a, rfl, D⟩; exact h _ o lo a D
theorem PickR.mk {w : World} {K : Nat} {d c : Addr} {rest : List (Addr × Obj)} {its : Array Value} {r : Value} {o lo : Obj} (a : r ∈ its.toList) (D : DeckIs w K d c o lo) : PickR w K d c its rest r ((d, o) :: (c, lo) :: rest) := ⟨o, lo, a, rfl, D⟩
section
variable {prog : Program} {w : World} {A : Around} {E : Value → Shared → Prop} {s : Shared} {h₀ : Heap} {L : Addr} {news : List (Addr × Obj)} {m : Str → Option Value}
theorem item_any {value slice : Expr} {its : Array Value} {n : Nat} {D : Addr} {k : Int} {u : Tok} {Q : Value → Shared → Prop} (N : News h₀ L s.heap news) (hm : (D, listOf its n) ∈ news) (hz : its.size ≤ 1000) (h0 : 0 ≤ k) (hlt : k < (its.size : Nat)) (h : ∀ v, v ∈ its.toList → Q v s)
    (hs : subscripted slice false (.ref D) (.int k u) = operate [.ref D, .int k u] (getItem (.ref D) (.int k u)) := by with_unfolding_all rfl) (hg : ∀ r, letTemporaryGo value (.ref D) r = pure () := by intro _; with_unfolding_all rfl) :
    wpAny (model prog w) A (subscriptTail value slice (.ref D) (.int k u)) Q E s := by
  have hi : k.toNat < its.size := (Int.toNat_lt h0).mpr hlt
  exact item_list (items := its) ⟨_, (N _ hm).1, rfl, n, rfl⟩ h0 (by omega) (Array.getElem?_eq_getElem hi) (h _ (by simp)) hs hg
end
theorem mem2t {α : Type} {x a b : α} {r : List α} (h : x ∈ r) : x ∈ a :: b :: r := List.Mem.tail _ (List.Mem.tail _ h)
section
theorem pick_ok (w : World) (K : Nat) (rest : List (Addr × Obj)) (d c S : Addr) (o lo : Obj) (its : Array Value) (k : Nat) (hS : (S, listOf its k) ∈ rest) (hz0 : 0 < its.size) (hz : its.size ≤ 1000) (hK : K ≤ 900) (hD : DeckIs w K d c o lo) (hd1 : ∀ p ∈ rest, p.1 ≠ d) (hc1 : ∀ p ∈ rest, p.1 ≠ c) : FnW w 16 338 [.ref d, .ref S] ((d, o) :: (c, lo) :: rest) (PickR w (K + 1) d c its rest) := by
  k_with_none
  k_with "FOLD" => ((fail_if_success (fail_if_success k_fold)); (try ((with_reducible rename Fr _ _ _ _ => Fz); (fail_if_success (with_reducible have : Fr _ _ _ mk := Fz)); (with_reducible refine let mk := _; have Fy : Fr _ _ _ mk := Fz; ?_); clear Fz)); (try ((with_reducible rename News _ _ _ _ => Nz); (fail_if_success (with_reducible have : News _ _ _ lk := Nz)); (with_reducible refine let lk := _; have Ny : News _ _ _ lk := Nz; ?_); clear Nz)); with_reducible refine let qk := _; let ek := _; (?_ : wpAny _ _ _ qk ek _))
  k_with "STEPS" => ((try walk_at "FOLD"); repeat' (first | (k_unfold; (try dsimp only)) | (k_end; wrow_close) | (walk1; all_goals (try ((fail_if_success (with_reducible show wpAny _ _ (subscriptTail _ _ _ _) _ _ _)); dsimp only)); all_goals (try ((with_reducible first | show wpAny _ _ (exec _ _) _ _ _ | show wpAny _ _ (execs _ _) _ _ _); (try ((with_reducible first | refine genTok ?_ | refine genTokS ?_); intro tkG)); (try walk_at "FOLD")))) | (dsimp only; walk1)))
  k_with "ROOM" => (first | exact U0 ‹_› | exact U1 ‹_› (by exact rfl) | exact U2 ‹_› (by exact rfl) | exact U3 ‹_› (by exact rfl) | ((simp +zetaDelta only [depth_under_make, depth_under_kw, depth_in1, depth_deeper, depth_caller]); (try dsimp only [ktrTop]); first | omega | decide +kernel))
  k_with "UNITS" => (first | exact U1 ‹_› (by exact rfl) | exact U2 ‹_› (by exact rfl) | exact U3 ‹_› (by exact rfl) | exact U4 ‹_› (by exact rfl) | exact U5 ‹_› (by exact rfl) | (have hcL9 := cLine_is; (simp +zetaDelta only [units_under_make, units_in1, units_deeper, Around.mark_units, units_caller]); (try dsimp only [ktrTop]); first | (rw [hcL9]; decide) | omega | decide +kernel))
  k_with "NE" => (first | with_reducible assumption | (refine neN (Nat.ne_of_lt ?_); walk_at "LTS") | (refine neN (Nat.ne_of_gt ?_); walk_at "LTS") | (refine neN ?_; (try dsimp only); omega))
  k_with "ENTER" => (refine' Internal.code_defN ?k1 ?k2 ?k3 ?k4 ?k5 ?kA ?kF ?kK ?k6 ?k7 ?k8 ?k9 ?kB ?_ ?c2 ?c3 ?c4 ?c5; (case kA | kF => exact rfl); (case kK => first | exact rfl | assumption); (case k1 | k2 | k3 | k4 | k5 => k_asm); (case k6 | k7 => k_is); (case k8 => ktr_room); (case k9 => exact BindsTo.of_eq (by kernel_rfl)); (case c5 => decide); (case kB => exact locs rfl); (case c2 | c3 | c4 => exact rfl); k_whole; intro g' L' h' tk' FG' F' N' B' X' T'; (try dsimp only); (try k_lift B'); (try walk_at "FOLD"); (refine let Ak : Around := _; (?_ : wpAny _ Ak _ _ _ _)))
  k_with "LTS" => (first | with_reducible assumption | exact ltM (by with_reducible assumption) (by k_mem) | exact And.left (by with_reducible assumption) | exact And.left (And.right (by with_reducible assumption)) | exact And.right (And.right (by with_reducible assumption)) | exact And.left (And.right (And.right (by with_reducible assumption))) | exact And.right (And.right (And.right (by with_reducible assumption))))
  k_with "ALL" => (first | with_reducible assumption | exact ne_of_allLt ‹_›)
  k_with "MEM" => (first | exact List.Mem.head _ | exact Mem1 | exact Mem2 | exact Mem3 | exact Mem4 | exact Mem5 | (refine TL6 ?_; walk_at "MEM"))
  k_with "call ref" => (k_here; (with_reducible show wpAny _ _ (call (Value.ref 331) [Value.ref _, Value.int _ _] _) _ _ _); k_dflt (refine' FnW.useK (draw_ok _ _ _ _ _ _ _ _ _ ?hh0 ?hh1 ?hhK ?hD ?hd1 ?hc1) DrawR.k ?kB ?kF ?kX ?kN ?kT ?kK ?kd ?ku ?_; (case kN => first | k_asm | exact news_r1 (by k_asm) | exact news_r2 (by k_asm) | exact news_r3 (by k_asm)); (case hD => assumption); (case hd1 | hc1 => k_all); (case hh0 | hh1 => first | omega | decide); (case hhK => first | exact kle0 ‹_› (by decide) | exact kadd ‹_› (by decide) | exact kadd2 ‹_› (by decide) | omega); (case kB | kF | kX | kT => k_asm); (case kK => first | exact rfl | assumption); (case kd => ktr_room); (case ku => ktr_units); (intro x9 t9 o9 lo9 xl9 xh9 D9 h9 tk9 F9 N9; (try dsimp only))))
  k_with "subscriptTail" => (k_here; (with_reducible show wpAny _ _ (subscriptTail _ _ (Value.ref _) (Value.int _ _)) _ _ _); k_dflt (refine item_any (by k_asm) (mem2t ‹_›) ‹_› ‹_› ‹_› ?_); intro v9 hv9)
  k_with "call builtin:len" => (k_here; (with_reducible show wpAny _ _ (call (Value.builtin "len") [Value.ref _]) _ _ _); k_dflt (refine len_L (by k_asm) (by k_asm) (mem2t ‹_›) (by omega) ?_; intro tl9 kl9))
  intro mean mg mb dp un gd cn cs a ccd cl outer A₀ base h₀ L m s Q E B F X N T hk hd hu hret
  refine wpAny_call ?_
  k_dflt cell_enter
  walk_at "STEPS"
  all_goals exact hret _ _ _ _ (PickR.mk ‹_› ‹_›) ‹_› ‹_›
end
end Internal
namespace Internal
theorem news_r4 {h₀ h : Heap} {L : Addr} {x0 x1 x2 x3 a b : Addr × Obj} {r : List (Addr × Obj)} (N : News h₀ L h (x0 :: x1 :: x2 :: x3 :: a :: b :: r)) : News h₀ L h (a :: b :: x0 :: x1 :: x2 :: x3 :: r) := news_rot [x0, x1, x2, x3] N
theorem news_r5 {h₀ h : Heap} {L : Addr} {x0 x1 x2 x3 x4 a b : Addr × Obj} {r : List (Addr × Obj)} (N : News h₀ L h (x0 :: x1 :: x2 :: x3 :: x4 :: a :: b :: r)) : News h₀ L h (a :: b :: x0 :: x1 :: x2 :: x3 :: x4 :: r) := news_rot [x0, x1, x2, x3, x4] N
theorem news_r6 {h₀ h : Heap} {L : Addr} {x0 x1 x2 x3 x4 x5 a b : Addr × Obj} {r : List (Addr × Obj)} (N : News h₀ L h (x0 :: x1 :: x2 :: x3 :: x4 :: x5 :: a :: b :: r)) : News h₀ L h (a :: b :: x0 :: x1 :: x2 :: x3 :: x4 :: x5 :: r) := news_rot [x0, x1, x2, x3, x4, x5] N
theorem news_r7 {h₀ h : Heap} {L : Addr} {x0 x1 x2 x3 x4 x5 x6 a b : Addr × Obj} {r : List (Addr × Obj)} (N : News h₀ L h (x0 :: x1 :: x2 :: x3 :: x4 :: x5 :: x6 :: a :: b :: r)) : News h₀ L h (a :: b :: x0 :: x1 :: x2 :: x3 :: x4 :: x5 :: x6 :: r) := news_rot [x0, x1, x2, x3, x4, x5, x6] N
theorem news_r8 {h₀ h : Heap} {L : Addr} {x0 x1 x2 x3 x4 x5 x6 x7 a b : Addr × Obj} {r : List (Addr × Obj)} (N : News h₀ L h (x0 :: x1 :: x2 :: x3 :: x4 :: x5 :: x6 :: x7 :: a :: b :: r)) : News h₀ L h (a :: b :: x0 :: x1 :: x2 :: x3 :: x4 :: x5 :: x6 :: x7 :: r) := news_rot [x0, x1, x2, x3, x4, x5, x6, x7] N
theorem news_r9 {h₀ h : Heap} {L : Addr} {x0 x1 x2 x3 x4 x5 x6 x7 x8 a b : Addr × Obj} {r : List (Addr × Obj)} (N : News h₀ L h (x0 :: x1 :: x2 :: x3 :: x4 :: x5 :: x6 :: x7 :: x8 :: a :: b :: r)) : News h₀ L h (a :: b :: x0 :: x1 :: x2 :: x3 :: x4 :: x5 :: x6 :: x7 :: x8 :: r) := news_rot [x0, x1, x2, x3, x4, x5, x6, x7, x8] N
theorem news_r10 {h₀ h : Heap} {L : Addr} {x0 x1 x2 x3 x4 x5 x6 x7 x8 x9 a b : Addr × Obj} {r : List (Addr × Obj)} (N : News h₀ L h (x0 :: x1 :: x2 :: x3 :: x4 :: x5 :: x6 :: x7 :: x8 :: x9 :: a :: b :: r)) : News h₀ L h (a :: b :: x0 :: x1 :: x2 :: x3 :: x4 :: x5 :: x6 :: x7 :: x8 :: x9 :: r) := news_rot [x0, x1, x2, x3, x4, x5, x6, x7, x8, x9] N
theorem news_r11 {h₀ h : Heap} {L : Addr} {x0 x1 x2 x3 x4 x5 x6 x7 x8 x9 x10 a b : Addr × Obj} {r : List (Addr × Obj)} (N : News h₀ L h (x0 :: x1 :: x2 :: x3 :: x4 :: x5 :: x6 :: x7 :: x8 :: x9 :: x10 :: a :: b :: r)) : News h₀ L h (a :: b :: x0 :: x1 :: x2 :: x3 :: x4 :: x5 :: x6 :: x7 :: x8 :: x9 :: x10 :: r) := news_rot [x0, x1, x2, x3, x4, x5, x6, x7, x8, x9, x10] N
theorem news_r12 {h₀ h : Heap} {L : Addr} {x0 x1 x2 x3 x4 x5 x6 x7 x8 x9 x10 x11 a b : Addr × Obj} {r : List (Addr × Obj)} (N : News h₀ L h (x0 :: x1 :: x2 :: x3 :: x4 :: x5 :: x6 :: x7 :: x8 :: x9 :: x10 :: x11 :: a :: b :: r)) : News h₀ L h (a :: b :: x0 :: x1 :: x2 :: x3 :: x4 :: x5 :: x6 :: x7 :: x8 :: x9 :: x10 :: x11 :: r) := news_rot [x0, x1, x2, x3, x4, x5, x6, x7, x8, x9, x10, x11] N
theorem news_r13 {h₀ h : Heap} {L : Addr} {x0 x1 x2 x3 x4 x5 x6 x7 x8 x9 x10 x11 x12 a b : Addr × Obj} {r : List (Addr × Obj)} (N : News h₀ L h (x0 :: x1 :: x2 :: x3 :: x4 :: x5 :: x6 :: x7 :: x8 :: x9 :: x10 :: x11 :: x12 :: a :: b :: r)) : News h₀ L h (a :: b :: x0 :: x1 :: x2 :: x3 :: x4 :: x5 :: x6 :: x7 :: x8 :: x9 :: x10 :: x11 :: x12 :: r) := news_rot [x0, x1, x2, x3, x4, x5, x6, x7, x8, x9, x10, x11, x12] N
theorem mem_2 {α : Type} {x a0 a1 : α} (h : x ∈ [a0, a1]) : x = a0 ∨ x = a1 := by simpa using h
theorem mem_3 {α : Type} {x a0 a1 a2 : α} (h : x ∈ [a0, a1, a2]) : x = a0 ∨ x = a1 ∨ x = a2 := by simpa using h
theorem mem_5 {α : Type} {x a0 a1 a2 a3 a4 : α} (h : x ∈ [a0, a1, a2, a3, a4]) : x = a0 ∨ x = a1 ∨ x = a2 ∨ x = a3 ∨ x = a4 := by simpa using h
theorem mem_11 {α : Type} {x a0 a1 a2 a3 a4 a5 a6 a7 a8 a9 a10 : α} (h : x ∈ [a0, a1, a2, a3, a4, a5, a6, a7, a8, a9, a10]) : x = a0 ∨ x = a1 ∨ x = a2 ∨ x = a3 ∨ x = a4 ∨ x = a5 ∨ x = a6 ∨ x = a7 ∨ x = a8 ∨ x = a9 ∨ x = a10 := by simpa using h
theorem mem_13 {α : Type} {x a0 a1 a2 a3 a4 a5 a6 a7 a8 a9 a10 a11 a12 : α} (h : x ∈ [a0, a1, a2, a3, a4, a5, a6, a7, a8, a9, a10, a11, a12]) : x = a0 ∨ x = a1 ∨ x = a2 ∨ x = a3 ∨ x = a4 ∨ x = a5 ∨ x = a6 ∨ x = a7 ∨ x = a8 ∨ x = a9 ∨ x = a10 ∨ x = a11 ∨ x = a12 := by simpa using h
theorem room_hex {a : List UInt8} {n : Int} (h : a.length ≤ 1000) : a.length + (hexB n).length ≤ 16777216 := by
  have := hexB_len n
  omega
theorem room_hex2 {a b : List UInt8} {n : Int} (h : a.length + b.length ≤ 1000) : (a ++ hexB n).length + b.length ≤ 16777216 := by
  have := hexB_len n
  rw [List.length_append]
  omega
noncomputable def loneL : List (List UInt8 × Int) := [([99, 111, 110, 116, 114, 111, 108], 9), ([112, 114, 105, 118, 97, 116, 101, 45, 117, 115, 101], 57344), ([115, 117, 114, 114, 111, 103, 97, 116, 101], 55296), ([115, 117, 114, 114, 111, 103, 97, 116, 101], 57343),
  ([110, 111, 110, 99, 104, 97, 114, 97, 99, 116, 101, 114], 65534), ([110, 111, 110, 99, 104, 97, 114, 97, 99, 116, 101, 114], 131071), ([110, 111, 110, 99, 104, 97, 114, 97, 99, 116, 101, 114], 64976), ([114, 101, 115, 101, 114, 118, 101, 100], 888), ([114, 101, 115, 101, 114, 118, 101, 100], 66), ([114, 101, 115, 101, 114, 118, 101, 100], 327680), ([114, 101, 115, 101, 114, 118, 101, 100], 65)]
noncomputable def labelB (wd : List UInt8) (cd : Int) : List UInt8 := [60] ++ wd ++ [45] ++ hexB cd ++ [62]
noncomputable def LoneR (w : World) (K : Nat) (d c : Addr) (rest : List (Addr × Obj)) (r : Value) (nw : List (Addr × Obj)) : Prop :=
  ∃ T wd cd o lo t1 t2, r = .ref T ∧ (wd, cd) ∈ loneL ∧ nw = (T, tup3 (.int cd t1) (.bytes (labelB wd cd).toArray t2) (.bool (decide (cd ≠ 65)))) :: (d, o) :: (c, lo) :: rest ∧ DeckIs w K d c o lo ∧ AllLt T ((d, o) :: (c, lo) :: rest)
noncomputable abbrev LoneK (w : World) (K : Nat) (d c : Addr) (rest : List (Addr × Obj)) (P : Value → List (Addr × Obj) → Prop) : Prop := ∀ T wd cd o lo t1 t2, (wd, cd) ∈ loneL → DeckIs w K d c o lo → AllLt T ((d, o) :: (c, lo) :: rest) → P (.ref T) ((T, tup3 (.int cd t1) (.bytes (labelB wd cd).toArray t2) (.bool (decide (cd ≠ 65)))) :: (d, o) :: (c, lo) :: rest)
theorem LoneR.k {w : World} {K : Nat} {d c : Addr} {rest : List (Addr × Obj)} : ∀ P, LoneK w K d c rest P → ∀ r nw, LoneR w K d c rest r nw → P r nw := by rintro P h r nw ⟨T, wd, cd, o, lo, t1, t2, rfl, a, rfl, D, b⟩; exact h T wd cd o lo t1 t2 a D b
theorem LoneR.mk {w : World} {K : Nat} {d c : Addr} {rest : List (Addr × Obj)} {T : Addr} {wd : List UInt8} {cd : Int} {o lo : Obj} {t1 t2 : Tok} (a : (wd, cd) ∈ loneL) (D : DeckIs w K d c o lo) (b : AllLt T ((d, o) :: (c, lo) :: rest)) : LoneR w K d c rest (.ref T) ((T, tup3 (.int cd t1) (.bytes (labelB wd cd).toArray t2) (.bool (decide (cd ≠ 65)))) :: (d, o) :: (c, lo) :: rest) := ⟨T, wd, cd, o, lo, t1, t2, rfl, a, rfl, D, b⟩
theorem bne_dec (x y : Int) : (x != y) = decide (x ≠ y) := by
  by_cases h : x = y <;> simp [h]
theorem loneL_ok : ∀ p ∈ loneL, p.1.length ≤ 16 ∧ 0 ≤ p.2 ∧ p.2 < 1099511627776 := by decide
noncomputable def LoneIs (led : List (Addr × Obj)) (v : Value) : Prop := ∃ T wd cd t1 t2, v = .ref T ∧ (T, tup2 (.bytes (List.toArray wd) t1) (.int cd t2)) ∈ led ∧ (wd, cd) ∈ loneL
theorem LoneIs.mk {led : List (Addr × Obj)} {T : Addr} {wd : List UInt8} {cd : Int} {t1 t2 : Tok} (h : (T, tup2 (.bytes (List.toArray wd) t1) (.int cd t2)) ∈ led) (g : (wd, cd) ∈ loneL) : LoneIs led (.ref T) := ⟨T, wd, cd, t1, t2, rfl, h, g⟩
noncomputable abbrev LonePK (w : World) (K : Nat) (d c : Addr) (rest : List (Addr × Obj)) (P : Value → List (Addr × Obj) → Prop) : Prop := ∀ T wd cd t1 t2 o lo, (wd, cd) ∈ loneL → wd.length ≤ 16 → (hexB cd).length ≤ 12 → 0 ≤ cd → cd < 1099511627776 → DeckIs w K d c o lo → P (.ref T) ((T, tup2 (.bytes (List.toArray wd) t1) (.int cd t2)) :: (d, o) :: (c, lo) :: rest)
theorem LonePK.of {w : World} {K : Nat} {d c : Addr} {rest : List (Addr × Obj)} {its : Array Value} (all : ∀ u ∈ its.toList, LoneIs rest u) : ∀ P, LonePK w K d c rest P → ∀ r nw, PickR w K d c its rest r nw → ∃ nw', (∀ p ∈ nw', p ∈ nw) ∧ P r nw' := by
  rintro P h r nw ⟨o, lo, hm, rfl, D⟩
  obtain ⟨T, wd, cd, t1, t2, rfl, hT, hw⟩ := all r hm
  exact ⟨_, sub_cons (.tail _ (.tail _ hT)) fun _ h => h, h T wd cd t1 t2 o lo hw (loneL_ok _ hw).1 (hexB_len _) (loneL_ok _ hw).2.1 (loneL_ok _ hw).2.2 D⟩
section
theorem lone_ok (w : World) (K : Nat) (rest : List (Addr × Obj)) (d c : Addr) (o lo : Obj) (hK : K ≤ 900) (hD : DeckIs w K d c o lo) (hd1 : ∀ p ∈ rest, p.1 ≠ d) (hc1 : ∀ p ∈ rest, p.1 ≠ c) : FnW w 18 371 [.ref d] ((d, o) :: (c, lo) :: rest) (LoneR w (K + 1) d c rest) := by
  k_with_none
  k_with "FOLD" => ((fail_if_success (fail_if_success k_fold)); (try ((with_reducible rename Fr _ _ _ _ => Fz); (fail_if_success (with_reducible have : Fr _ _ _ mk := Fz)); (with_reducible refine let mk := _; have Fy : Fr _ _ _ mk := Fz; ?_); clear Fz)); (try ((with_reducible rename News _ _ _ _ => Nz); (fail_if_success (with_reducible have : News _ _ _ lk := Nz)); (with_reducible refine let lk := _; have Ny : News _ _ _ lk := Nz; ?_); clear Nz)); with_reducible refine let qk := _; let ek := _; (?_ : wpAny _ _ _ qk ek _))
  k_with "STEPS" => ((try walk_at "FOLD"); repeat' (first | (k_unfold; (try dsimp only)) | (k_end; wrow_close) | (walk1; all_goals (try ((fail_if_success (with_reducible show wpAny _ _ (subscriptTail _ _ _ _) _ _ _)); dsimp only)); all_goals (try ((with_reducible first | show wpAny _ _ (exec _ _) _ _ _ | show wpAny _ _ (execs _ _) _ _ _); (try ((with_reducible first | refine genTok ?_ | refine genTokS ?_); intro tkG)); (try walk_at "FOLD")))) | (dsimp only; walk1)))
  k_with "ROOM" => (first | exact U0 ‹_› | exact U1 ‹_› (by exact rfl) | exact U2 ‹_› (by exact rfl) | exact U3 ‹_› (by exact rfl) | ((simp +zetaDelta only [depth_under_make, depth_under_kw, depth_in1, depth_deeper, depth_caller]); (try dsimp only [ktrTop]); first | omega | decide +kernel))
  k_with "UNITS" => (first | exact U1 ‹_› (by exact rfl) | exact U2 ‹_› (by exact rfl) | exact U3 ‹_› (by exact rfl) | exact U4 ‹_› (by exact rfl) | exact U5 ‹_› (by exact rfl) | (have hcL9 := cLine_is; (simp +zetaDelta only [units_under_make, units_in1, units_deeper, Around.mark_units, units_caller]); (try dsimp only [ktrTop]); first | (rw [hcL9]; decide) | omega | decide +kernel))
  k_with "NE" => (first | with_reducible assumption | (refine neN (Nat.ne_of_lt ?_); walk_at "LTS") | (refine neN (Nat.ne_of_gt ?_); walk_at "LTS") | (refine neN ?_; (try dsimp only); omega))
  k_with "ENTER" => (refine' Internal.code_defN ?k1 ?k2 ?k3 ?k4 ?k5 ?kA ?kF ?kK ?k6 ?k7 ?k8 ?k9 ?kB ?_ ?c2 ?c3 ?c4 ?c5; (case kA | kF => exact rfl); (case kK => first | exact rfl | assumption); (case k1 | k2 | k3 | k4 | k5 => k_asm); (case k6 | k7 => k_is); (case k8 => ktr_room); (case k9 => exact BindsTo.of_eq (by kernel_rfl)); (case c5 => decide); (case kB => exact locs rfl); (case c2 | c3 | c4 => exact rfl); k_whole; intro g' L' h' tk' FG' F' N' B' X' T'; (try dsimp only); (try k_lift B'); (try walk_at "FOLD"); (refine let Ak : Around := _; (?_ : wpAny _ Ak _ _ _ _)))
  k_with "LTS" => (first | with_reducible assumption | exact ltM (by with_reducible assumption) (by k_mem) | exact And.left (by with_reducible assumption) | exact And.left (And.right (by with_reducible assumption)) | exact And.right (And.right (by with_reducible assumption)) | exact And.left (And.right (And.right (by with_reducible assumption))) | exact And.right (And.right (And.right (by with_reducible assumption))))
  k_with "ALL" => (first | with_reducible assumption | exact ne_of_allLt ‹_›)
  k_with "MEM" => (first | exact List.Mem.head _ | exact Mem1 | exact Mem2 | exact Mem3 | exact Mem4 | exact Mem5 | (refine TL6 ?_; walk_at "MEM"))
  k_with "SUB" => (first | assumption | exact TL1 ‹_› | exact TL2 ‹_› | exact TL3 ‹_› | exact TL4 ‹_› | exact TL5 ‹_› | (refine TL6 ?_; walk_at "SUB"))
  k_with "RIGHT" => (first | assumption | exact AR1 ‹_› | exact AR2 ‹_› | exact AR3 ‹_› | exact AR4 ‹_› | exact AR5 ‹_› | exact AR6 ‹_› | exact AR7 ‹_› | exact AR8 ‹_› | exact AR9 ‹_› | exact AR10 ‹_› | exact AR11 ‹_› | exact AR12 ‹_› | exact AR13 ‹_› | exact AR14 ‹_› | exact AR15 ‹_› | exact AR16 ‹_›)
  k_with "call ref" => (k_here; (with_reducible show wpAny _ _ (call (Value.ref 338) [Value.ref _, Value.ref _] _) _ _ _); k_dflt (refine' FnW.useW (pick_ok _ _ _ _ _ _ _ _ _ _ ?hS ?hz0 ?hz ?hhK ?hD ?hd1 ?hc1) (LonePK.of ?all) ?kB ?kF ?kX ?kN ?kT ?kK ?kd ?ku ?_; (case kN => first | k_asm | exact news_r1 (by k_asm) | exact news_r2 (by k_asm) | exact news_r3 (by k_asm) | exact news_r4 (by k_asm) | exact news_r5 (by k_asm) | exact news_r6 (by k_asm) | exact news_r7 (by k_asm) | exact news_r8 (by k_asm) | exact news_r9 (by k_asm) | exact news_r10 (by k_asm) | exact news_r11 (by k_asm) | exact news_r12 (by k_asm) | exact news_r13 (by k_asm)); (case hS => k_mem); (case hz0 | hz => simp; done); (case hD => assumption); (case hd1 | hc1 => k_all); (case hhK => first | exact kle0 ‹_› (by decide) | exact kadd ‹_› (by decide) | exact kadd2 ‹_› (by decide) | omega); (case kB | kF | kX | kT => k_asm); (case kK => first | exact rfl | assumption); (case kd => ktr_room); (case ku => ktr_units); (case all => (repeat (first | exact List.forall_mem_nil _ | refine List.forall_mem_cons.mpr ⟨LoneIs.mk (by k_mem) (by decide), ?_⟩))); (intro T9 wd9 cd9 t19 t29 o9 lo9 hl9 hw9 hx9 hc9 hc8 D9 h9 tk9 F9 N9); (try dsimp only)))
  k_with "call ref" => (k_here; (with_reducible show wpAny _ _ (call (Value.ref 352) _ _) _ _ _); k_dflt (refine' Fn.useE (law_hex_ok _ _ _ (by first | decide | assumption) (by first | decide | assumption)) ?kB ?kF ?kX ?kN ?kT ?kK ?kd ?ku ?_; (case kB | kF | kX | kN | kT => k_asm); (case kK => first | exact rfl | assumption); (case kd => ktr_room); (case ku => ktr_units); (intro t9 h9 tk9 F9 N9)); (try dsimp only))
  k_with "binaryOp Add bytes bytes" => (k_here; (with_reducible show wpAny _ _ (binaryOp Operator.Add (Value.bytes _ _) (Value.bytes _ _)) _ _ _); k_dflt (refine add_B (by (simp only [List.length_append, List.length_cons, List.length_nil]; omega)) ?_; intro tb9 kb9))
  intro mean mg mb dp un gd cn cs a ccd cl outer A₀ base h₀ L m s Q E B F X N T hk hd hu hret
  refine wpAny_call ?_
  k_dflt cell_enter
  walk_at "STEPS"
  (with_reducible rename News _ _ _ _ => N1)
  rw [bne_dec] at N1
  refine' hret _ _ _ _ (LoneR.mk ‹_› ?yD ?yA) ‹_› (newsWeak N1 ?ysub)
  case yD => assumption
  case ysub =>
    iterate 3 (refine sub_cons (by k_mem) ?_)
    exact fun p9 hp9 => by walk_at "SUB"
  case yA => exact ⟨by first | walk_at "LTS" | omega, by first | walk_at "LTS" | omega, (by walk_at "RIGHT")⟩
end
end Internal
namespace Internal
noncomputable def ideoL : List (List UInt8 × Int × Bool) := [([67, 74, 75, 32, 85, 78, 73, 70, 73, 69, 68, 32, 73, 68, 69, 79, 71, 82, 65, 80, 72, 45], 19968, true),
  ([67, 74, 75, 32, 85, 78, 73, 70, 73, 69, 68, 32, 73, 68, 69, 79, 71, 82, 65, 80, 72, 45], 19983, true),
  ([67, 74, 75, 32, 85, 78, 73, 70, 73, 69, 68, 32, 73, 68, 69, 79, 71, 82, 65, 80, 72, 45], 19971, true),
  ([67, 74, 75, 32, 85, 78, 73, 70, 73, 69, 68, 32, 73, 68, 69, 79, 71, 82, 65, 80, 72, 45], 19967, false),
  ([67, 74, 75, 32, 85, 78, 73, 70, 73, 69, 68, 32, 73, 68, 69, 79, 71, 82, 65, 80, 72, 45], 19984, false),
  ([84, 65, 78, 71, 85, 84, 32, 73, 68, 69, 79, 71, 82, 65, 80, 72, 45], 94208, true),
  ([84, 65, 78, 71, 85, 84, 32, 73, 68, 69, 79, 71, 82, 65, 80, 72, 45], 94213, true),
  ([84, 65, 78, 71, 85, 84, 32, 73, 68, 69, 79, 71, 82, 65, 80, 72, 45], 94211, true),
  ([84, 65, 78, 71, 85, 84, 32, 73, 68, 69, 79, 71, 82, 65, 80, 72, 45], 94207, false),
  ([84, 65, 78, 71, 85, 84, 32, 73, 68, 69, 79, 71, 82, 65, 80, 72, 45], 94214, false)]
noncomputable def IdeoR (w : World) (K : Nat) (d c : Addr) (rest : List (Addr × Obj)) (r : Value) (nw : List (Addr × Obj)) : Prop :=
  ∃ T hd cd tl o lo t1 t2, r = .ref T ∧ (hd, cd, tl) ∈ ideoL ∧ nw = (T, tup3 (.int cd t1) (.bytes (hd ++ hexB cd).toArray t2) (.bool tl)) :: (d, o) :: (c, lo) :: rest ∧ DeckIs w K d c o lo ∧ AllLt T ((d, o) :: (c, lo) :: rest)
noncomputable abbrev IdeoK (w : World) (K : Nat) (d c : Addr) (rest : List (Addr × Obj)) (P : Value → List (Addr × Obj) → Prop) : Prop := ∀ T hd cd tl o lo t1 t2, (hd, cd, tl) ∈ ideoL → DeckIs w K d c o lo → AllLt T ((d, o) :: (c, lo) :: rest) → P (.ref T) ((T, tup3 (.int cd t1) (.bytes (hd ++ hexB cd).toArray t2) (.bool tl)) :: (d, o) :: (c, lo) :: rest)
theorem IdeoR.k {w : World} {K : Nat} {d c : Addr} {rest : List (Addr × Obj)} : ∀ P, IdeoK w K d c rest P → ∀ r nw, IdeoR w K d c rest r nw → P r nw := by rintro P h r nw ⟨T, hd, cd, tl, o, lo, t1, t2, rfl, a, rfl, D, b⟩; exact h T hd cd tl o lo t1 t2 a D b
noncomputable def ideo2L : List (Int × Int × List UInt8) := [(19968, 19983, [67, 74, 75, 32, 85, 78, 73, 70, 73, 69, 68, 32, 73, 68, 69, 79, 71, 82, 65, 80, 72, 45]), (94208, 94213, [84, 65, 78, 71, 85, 84, 32, 73, 68, 69, 79, 71, 82, 65, 80, 72, 45])]
theorem ideo2_ok : ∀ p ∈ ideo2L, ∀ cd ∈ [p.1, p.2.1, p.1 + 3, p.1 - 1, p.2.1 + 1], ((p.1 ≤ cd → (p.2.2, cd, decide (cd ≤ p.2.1)) ∈ ideoL) ∧ (¬ p.1 ≤ cd → (p.2.2, cd, decide (p.1 ≤ cd)) ∈ ideoL)) ∧ 0 ≤ cd ∧ cd < 1099511627776 ∧ p.2.2.length ≤ 30 := by decide
theorem ideo_code {f l cd : Int} {h : List UInt8} (hm : (f, l, h) ∈ ideo2L) (hc : cd ∈ [f, l, f + 3, f - 1, l + 1]) : 0 ≤ cd ∧ cd < 1099511627776 ∧ h.length ≤ 30 := (ideo2_ok _ hm _ hc).2
theorem ideo_in1 {f l cd : Int} {h : List UInt8} (hm : (f, l, h) ∈ ideo2L) (hc : cd ∈ [f, l, f + 3, f - 1, l + 1]) (q : f ≤ cd) : (h, cd, decide (cd ≤ l)) ∈ ideoL := (ideo2_ok _ hm _ hc).1.1 q
theorem ideo_in2 {f l cd : Int} {h : List UInt8} (hm : (f, l, h) ∈ ideo2L) (hc : cd ∈ [f, l, f + 3, f - 1, l + 1]) (q : ¬ f ≤ cd) : (h, cd, decide (f ≤ cd)) ∈ ideoL := (ideo2_ok _ hm _ hc).1.2 q
noncomputable def IdeoIs (led : List (Addr × Obj)) (v : Value) : Prop := ∃ T f l h t1 t2 t3, v = .ref T ∧ (T, tup3 (.int f t1) (.int l t2) (.bytes (List.toArray h) t3)) ∈ led ∧ (f, l, h) ∈ ideo2L
theorem IdeoIs.mk {led : List (Addr × Obj)} {T : Addr} {f l : Int} {h : List UInt8} {t1 t2 t3 : Tok} (a : (T, tup3 (.int f t1) (.int l t2) (.bytes (List.toArray h) t3)) ∈ led) (b : (f, l, h) ∈ ideo2L) : IdeoIs led (.ref T) := ⟨T, f, l, h, t1, t2, t3, rfl, a, b⟩
noncomputable abbrev IdeoPK (w : World) (K : Nat) (d c : Addr) (rest : List (Addr × Obj)) (P : Value → List (Addr × Obj) → Prop) : Prop := ∀ T f l h t1 t2 t3 o lo, (f, l, h) ∈ ideo2L → (@Ne Nat T d) → (@Ne Nat T c) → DeckIs w K d c o lo → P (.ref T) ((T, tup3 (.int f t1) (.int l t2) (.bytes (List.toArray h) t3)) :: (d, o) :: (c, lo) :: rest)
theorem IdeoPK.of {w : World} {K : Nat} {d c : Addr} {rest : List (Addr × Obj)} {its : Array Value} (all : ∀ u ∈ its.toList, IdeoIs rest u) (hd : ∀ p ∈ rest, p.1 ≠ d) (hc : ∀ p ∈ rest, p.1 ≠ c) : ∀ P, IdeoPK w K d c rest P → ∀ r nw, PickR w K d c its rest r nw → ∃ nw', (∀ p ∈ nw', p ∈ nw) ∧ P r nw' := by
  rintro P k r nw ⟨o, lo, hm, rfl, D⟩
  obtain ⟨T, f, l, h, t1, t2, t3, rfl, hT, hw⟩ := all r hm
  exact ⟨_, sub_cons (.tail _ (.tail _ hT)) fun _ h => h, k T f l h t1 t2 t3 o lo hw (hd _ hT) (hc _ hT) D⟩
noncomputable abbrev CodePK (w : World) (K : Nat) (d c : Addr) (rest : List (Addr × Obj)) (a b f g e : Int) (P : Value → List (Addr × Obj) → Prop) : Prop := ∀ cd t o lo, cd ∈ [a, b, f, g, e] → DeckIs w K d c o lo → P (.int cd t) ((d, o) :: (c, lo) :: rest)
theorem CodePK.of {w : World} {K : Nat} {d c : Addr} {rest : List (Addr × Obj)} {a b f g e : Int} {t1 t2 t3 t4 t5 : Tok} : ∀ P, CodePK w K d c rest a b f g e P → ∀ r nw, PickR w K d c #[.int a t1, .int b t2, .int f t3, .int g t4, .int e t5] rest r nw → P r nw := by
  rintro P k r nw ⟨o, lo, hm, rfl, D⟩
  have hm : r ∈ [Value.int a t1, .int b t2, .int f t3, .int g t4, .int e t5] := hm
  rcases mem_5 hm with rfl | rfl | rfl | rfl | rfl
  · exact k _ _ o lo (.head _) D
  · exact k _ _ o lo (.tail _ (.head _)) D
  · exact k _ _ o lo (.tail _ (.tail _ (.head _))) D
  · exact k _ _ o lo (.tail _ (.tail _ (.tail _ (.head _)))) D
  · exact k _ _ o lo (.tail _ (.tail _ (.tail _ (.tail _ (.head _))))) D
theorem IdeoR.mk {w : World} {K : Nat} {d c : Addr} {rest : List (Addr × Obj)} {T : Addr} {hd : List UInt8} {cd : Int} {tl : Bool} {o lo : Obj} {t1 t2 : Tok} (a : (hd, cd, tl) ∈ ideoL) (D : DeckIs w K d c o lo) (b : AllLt T ((d, o) :: (c, lo) :: rest)) : IdeoR w K d c rest (.ref T) ((T, tup3 (.int cd t1) (.bytes (hd ++ hexB cd).toArray t2) (.bool tl)) :: (d, o) :: (c, lo) :: rest) := ⟨T, hd, cd, tl, o, lo, t1, t2, rfl, a, rfl, D, b⟩
section
theorem ideo_ok (w : World) (K : Nat) (rest : List (Addr × Obj)) (d c : Addr) (o lo : Obj) (hK : K ≤ 800) (hD : DeckIs w K d c o lo) (hd1 : ∀ p ∈ rest, p.1 ≠ d) (hc1 : ∀ p ∈ rest, p.1 ≠ c) : FnW w 18 364 [.ref d] ((d, o) :: (c, lo) :: rest) (IdeoR w (K + 2) d c rest) := by
  k_with_none
  k_with "FOLD" => ((fail_if_success (fail_if_success k_fold)); (try ((with_reducible rename Fr _ _ _ _ => Fz); (fail_if_success (with_reducible have : Fr _ _ _ mk := Fz)); (with_reducible refine let mk := _; have Fy : Fr _ _ _ mk := Fz; ?_); clear Fz)); (try ((with_reducible rename News _ _ _ _ => Nz); (fail_if_success (with_reducible have : News _ _ _ lk := Nz)); (with_reducible refine let lk := _; have Ny : News _ _ _ lk := Nz; ?_); clear Nz)); with_reducible refine let qk := _; let ek := _; (?_ : wpAny _ _ _ qk ek _))
  k_with "STEPS" => ((try walk_at "FOLD"); repeat' (first | (k_unfold; (try dsimp only)) | (k_end; wrow_close) | (walk1; all_goals (try ((fail_if_success (with_reducible show wpAny _ _ (subscriptTail _ _ _ _) _ _ _)); dsimp only)); all_goals (try ((with_reducible first | show wpAny _ _ (exec _ _) _ _ _ | show wpAny _ _ (execs _ _) _ _ _); (try ((with_reducible first | refine genTok ?_ | refine genTokS ?_); intro tkG)); (try walk_at "FOLD")))) | (dsimp only; walk1)))
  k_with "ROOM" => (first | exact U0 ‹_› | exact U1 ‹_› (by exact rfl) | exact U2 ‹_› (by exact rfl) | exact U3 ‹_› (by exact rfl) | ((simp +zetaDelta only [depth_under_make, depth_under_kw, depth_in1, depth_deeper, depth_caller]); (try dsimp only [ktrTop]); first | omega | decide +kernel))
  k_with "UNITS" => (first | exact U1 ‹_› (by exact rfl) | exact U2 ‹_› (by exact rfl) | exact U3 ‹_› (by exact rfl) | exact U4 ‹_› (by exact rfl) | exact U5 ‹_› (by exact rfl) | (have hcL9 := cLine_is; (simp +zetaDelta only [units_under_make, units_in1, units_deeper, Around.mark_units, units_caller]); (try dsimp only [ktrTop]); first | (rw [hcL9]; decide) | omega | decide +kernel))
  k_with "NE" => (first | with_reducible assumption | (refine neN (Nat.ne_of_lt ?_); walk_at "LTS") | (refine neN (Nat.ne_of_gt ?_); walk_at "LTS") | (refine neN ?_; (try dsimp only); omega))
  k_with "ENTER" => (refine' Internal.code_defN ?k1 ?k2 ?k3 ?k4 ?k5 ?kA ?kF ?kK ?k6 ?k7 ?k8 ?k9 ?kB ?_ ?c2 ?c3 ?c4 ?c5; (case kA | kF => exact rfl); (case kK => first | exact rfl | assumption); (case k1 | k2 | k3 | k4 | k5 => k_asm); (case k6 | k7 => k_is); (case k8 => ktr_room); (case k9 => exact BindsTo.of_eq (by kernel_rfl)); (case c5 => decide); (case kB => exact locs rfl); (case c2 | c3 | c4 => exact rfl); k_whole; intro g' L' h' tk' FG' F' N' B' X' T'; (try dsimp only); (try k_lift B'); (try walk_at "FOLD"); (refine let Ak : Around := _; (?_ : wpAny _ Ak _ _ _ _)))
  k_with "LTS" => (first | with_reducible assumption | exact ltM (by with_reducible assumption) (by k_mem) | exact And.left (by with_reducible assumption) | exact And.left (And.right (by with_reducible assumption)) | exact And.right (And.right (by with_reducible assumption)) | exact And.left (And.right (And.right (by with_reducible assumption))) | exact And.right (And.right (And.right (by with_reducible assumption))))
  k_with "ALL" => (first | with_reducible assumption | exact ne_of_allLt ‹_›)
  k_with "MEM" => (first | exact List.Mem.head _ | exact Mem1 | exact Mem2 | exact Mem3 | exact Mem4 | exact Mem5 | (refine TL6 ?_; walk_at "MEM"))
  k_with "SUB" => (first | assumption | exact TL1 ‹_› | exact TL2 ‹_› | exact TL3 ‹_› | exact TL4 ‹_› | exact TL5 ‹_› | (refine TL6 ?_; walk_at "SUB"))
  k_with "call ref" => (k_here; (with_reducible show wpAny _ _ (call (Value.ref 338) [Value.ref _, Value.ref _] _) _ _ _); k_dflt (refine' FnW.useW (pick_ok _ _ _ _ _ _ _ _ _ _ ?hS ?hz0 ?hz ?hhK ?hD ?hd1 ?hc1) (IdeoPK.of ?all ?hd1 ?hc1) ?kB ?kF ?kX ?kN ?kT ?kK ?kd ?ku ?_; (case kN => first | k_asm | exact news_r1 (by k_asm) | exact news_r2 (by k_asm) | exact news_r3 (by k_asm) | exact news_r4 (by k_asm) | exact news_r5 (by k_asm) | exact news_r6 (by k_asm) | exact news_r7 (by k_asm) | exact news_r8 (by k_asm) | exact news_r9 (by k_asm) | exact news_r10 (by k_asm) | exact news_r11 (by k_asm) | exact news_r12 (by k_asm) | exact news_r13 (by k_asm)); (case hS => k_mem); (case hz0 | hz => simp; done); (case hD => assumption); (case hd1 | hc1 => k_all); (case hhK => first | exact kle0 ‹_› (by decide) | exact kadd ‹_› (by decide) | exact kadd2 ‹_› (by decide) | omega); (case kB | kF | kX | kT => k_asm); (case kK => first | exact rfl | assumption); (case kd => ktr_room); (case ku => ktr_units); (case all => (repeat (first | exact List.forall_mem_nil _ | refine List.forall_mem_cons.mpr ⟨IdeoIs.mk (by k_mem) (by decide), ?_⟩))); (intro T9 f9 l9 hd9 t19 t29 t39 o9 lo9 hi9 hTd9 hTc9 D9 h9 tk9 F9 N9); (try dsimp only)))
  k_with "call ref" => (k_here; (with_reducible show wpAny _ _ (call (Value.ref 338) [Value.ref _, Value.ref _] _) _ _ _); k_dflt (refine' FnW.useK (pick_ok _ _ _ _ _ _ _ _ _ _ ?hS ?hz0 ?hz ?hhK ?hD ?hd1 ?hc1) (CodePK.of (a := _) (b := _) (f := _) (g := _) (e := _)) ?kB ?kF ?kX ?kN ?kT ?kK ?kd ?ku ?_; (case kN => first | k_asm | exact news_r1 (by k_asm) | exact news_r2 (by k_asm) | exact news_r3 (by k_asm) | exact news_r4 (by k_asm) | exact news_r5 (by k_asm) | exact news_r6 (by k_asm) | exact news_r7 (by k_asm) | exact news_r8 (by k_asm) | exact news_r9 (by k_asm) | exact news_r10 (by k_asm) | exact news_r11 (by k_asm) | exact news_r12 (by k_asm) | exact news_r13 (by k_asm)); (case hS => k_mem); (case hz0 | hz => simp; done); (case hD => assumption); (case hd1 | hc1 => k_all); (case hhK => first | exact kle0 ‹_› (by decide) | exact kadd ‹_› (by decide) | exact kadd2 ‹_› (by decide) | omega); (case kB | kF | kX | kT => k_asm); (case kK => first | exact rfl | assumption); (case kd => ktr_room); (case ku => ktr_units); (intro cd9 t9 o9 lo9 hc9 D9 h9 tk9 F9 N9; have hl9 := (ideo_code ‹_› hc9).1; have hg9 := (ideo_code ‹_› hc9).2.1; have hh9 := (ideo_code ‹_› hc9).2.2); (try dsimp only)))
  k_with "call ref" => (k_here; (with_reducible show wpAny _ _ (call (Value.ref 352) _ _) _ _ _); k_dflt (refine' Fn.useE (law_hex_ok _ _ _ ‹_› ‹_›) ?kB ?kF ?kX ?kN ?kT ?kK ?kd ?ku ?_; (case kB | kF | kX | kN | kT => k_asm); (case kK => first | exact rfl | assumption); (case kd => ktr_room); (case ku => ktr_units); (intro t9 h9 tk9 F9 N9)); (try dsimp only))
  k_with "binaryOp Add bytes bytes" => (k_here; (with_reducible show wpAny _ _ (binaryOp Operator.Add (Value.bytes _ _) (Value.bytes _ _)) _ _ _); k_dflt (refine add_B (lenS ‹_› (hexB_len _) (by exact rfl)) ?_; intro tb9 kb9))
  intro mean mg mb dp un gd cn cs a ccd cl outer A₀ base h₀ L m s Q E B F X N T hk hd hu hret
  refine wpAny_call ?_
  k_dflt cell_enter
  walk_at "STEPS"
  all_goals
    refine' hret _ _ _ _ (IdeoR.mk (by first | exact ideo_in1 ‹_› ‹_› ‹_› | exact ideo_in2 ‹_› ‹_› ‹_›) ?yD ?yA) ‹_› (newsWeak ‹_› ?ysub)
    case yD => assumption
    case ysub =>
      iterate 3 (refine sub_cons (by k_mem) ?_)
      exact fun p9 hp9 => by walk_at "SUB"
    case yA => exact ⟨by walk_at "LTS", by walk_at "LTS", allLt_of (fun p hp => of_allLt ‹_› p (by walk_at "SUB"))⟩
end
end Internal
namespace Internal
theorem strs_cons {a : Str} {t : Tok} {as : List Str} {vs : List Value} (h : Paired (fun a v => ∃ t, v = Value.str a t) as vs) : Paired (fun a v => ∃ t, v = Value.str a t) (a :: as) (Value.str a t :: vs) := .cons ⟨t, rfl⟩ h
theorem strs_nil : Paired (fun a v => ∃ t, v = Value.str a t) [] [] := .nil
noncomputable def DefsR (w : World) (news : List (Addr × Obj)) (r : Value) (nw : List (Addr × Obj)) : Prop :=
  ∃ dd o kvs t, r = .ref dd ∧ nw = (dd, o) :: news ∧ (∀ p ∈ news, @LT.lt Nat _ p.1 dd) ∧ o.IsDictOf (PySem.strKind PG w) kvs ∧ DI t 200 True kvs ∧ (dd == sysModules) = false
noncomputable abbrev DefsK (w : World) (news : List (Addr × Obj)) (P : Value → List (Addr × Obj) → Prop) : Prop := ∀ dd o kvs t, (∀ p ∈ news, @LT.lt Nat _ p.1 dd) → o.IsDictOf (PySem.strKind PG w) kvs → DI t 200 True kvs → (dd == sysModules) = false → P (.ref dd) ((dd, o) :: news)
theorem DefsR.k {w : World} {news : List (Addr × Obj)} : ∀ P, DefsK w news P → ∀ r nw, DefsR w news r nw → P r nw := by rintro P h r nw ⟨dd, o, kvs, t, rfl, rfl, a, D, b, e⟩; exact h dd o kvs t a D b e
theorem DefsR.mk {w : World} {news : List (Addr × Obj)} {dd : Addr} {o : Obj} {kvs : List (Str × Value)} {t : Tok} (a : ∀ p ∈ news, @LT.lt Nat _ p.1 dd) (D : o.IsDictOf (PySem.strKind PG w) kvs) (b : DI t 200 True kvs) (e : (dd == sysModules) = false) : DefsR w news (.ref dd) ((dd, o) :: news) := ⟨dd, o, kvs, t, rfl, rfl, a, D, b, e⟩
theorem DI.start {kvs : List (Str × Value)} {t : Tok} (h : valueAt kvs kGc = some (.str (Str.ofString "Cn") t)) (h2 : kvs.length ≤ 8) : DI t 8 False kvs := ⟨h, h2, fun q => q.elim⟩
theorem DI.room {t : Tok} {n : Nat} {b : Prop} {kvs : List (Str × Value)} (h : DI t n b kvs) (hn : n ≤ 1000) : kvs.length ≤ 1000 := Nat.le_trans h.2.1 hn
theorem lt_of_all {d : Addr} {l : List (Addr × Obj)} (h : AllLt d l) : ∀ p ∈ l, @LT.lt Nat _ p.1 d := of_allLt h
section
theorem defaults_ok (w : World) (news : List (Addr × Obj)) : FnW w 6 277 [] news (DefsR w news) := by
  k_with_none
  k_with "FOLD" => ((fail_if_success (fail_if_success k_fold)); (try ((with_reducible rename Fr _ _ _ _ => Fz); (fail_if_success (with_reducible have : Fr _ _ _ mk := Fz)); (with_reducible refine let mk := _; have Fy : Fr _ _ _ mk := Fz; ?_); clear Fz)); (try ((with_reducible rename News _ _ _ _ => Nz); (fail_if_success (with_reducible have : News _ _ _ lk := Nz)); (with_reducible refine let lk := _; have Ny : News _ _ _ lk := Nz; ?_); clear Nz)); with_reducible refine let qk := _; let ek := _; (?_ : wpAny _ _ _ qk ek _))
  k_with "STEPS" => ((try walk_at "FOLD"); repeat' (first | (k_unfold; (try dsimp only)) | (k_end; wrow_close) | (walk1; all_goals (try ((fail_if_success (with_reducible show wpAny _ _ (subscriptTail _ _ _ _) _ _ _)); dsimp only)); all_goals (try ((with_reducible first | show wpAny _ _ (exec _ _) _ _ _ | show wpAny _ _ (execs _ _) _ _ _); (try ((with_reducible first | refine genTok ?_ | refine genTokS ?_); intro tkG)); (try walk_at "FOLD")))) | (dsimp only; walk1)))
  k_with "ROOM" => (first | exact U0 ‹_› | exact U1 ‹_› (by exact rfl) | exact U2 ‹_› (by exact rfl) | exact U3 ‹_› (by exact rfl) | ((simp +zetaDelta only [depth_under_make, depth_under_kw, depth_in1, depth_deeper, depth_caller]); (try dsimp only [ktrTop]); first | omega | decide +kernel))
  k_with "UNITS" => (first | exact U1 ‹_› (by exact rfl) | exact U2 ‹_› (by exact rfl) | exact U3 ‹_› (by exact rfl) | exact U4 ‹_› (by exact rfl) | exact U5 ‹_› (by exact rfl) | (have hcL9 := cLine_is; (simp +zetaDelta only [units_under_make, units_in1, units_deeper, Around.mark_units, units_caller]); (try dsimp only [ktrTop]); first | (rw [hcL9]; decide) | omega | decide +kernel))
  k_with "NE" => (first | with_reducible assumption | (refine neN (Nat.ne_of_lt ?_); walk_at "LTS") | (refine neN (Nat.ne_of_gt ?_); walk_at "LTS") | (refine neN ?_; (try dsimp only); omega))
  k_with "ENTER" => (refine' Internal.code_defN ?k1 ?k2 ?k3 ?k4 ?k5 ?kA ?kF ?kK ?k6 ?k7 ?k8 ?k9 ?kB ?_ ?c2 ?c3 ?c4 ?c5; (case kA | kF => exact rfl); (case kK => first | exact rfl | assumption); (case k1 | k2 | k3 | k4 | k5 => k_asm); (case k6 | k7 => k_is); (case k8 => ktr_room); (case k9 => exact BindsTo.of_eq (by kernel_rfl)); (case c5 => decide); (case kB => exact locs rfl); (case c2 | c3 | c4 => exact rfl); k_whole; intro g' L' h' tk' FG' F' N' B' X' T'; (try dsimp only); (try k_lift B'); (try walk_at "FOLD"); (refine let Ak : Around := _; (?_ : wpAny _ Ak _ _ _ _)))
  k_with "LTS" => (first | with_reducible assumption | exact ltM (by with_reducible assumption) (by k_mem) | exact And.left (by with_reducible assumption) | exact And.left (And.right (by with_reducible assumption)) | exact And.right (And.right (by with_reducible assumption)) | exact And.left (And.right (And.right (by with_reducible assumption))) | exact And.right (And.right (And.right (by with_reducible assumption))))
  k_with "ALL" => (first | with_reducible assumption | exact ne_of_allLt ‹_›)
  k_with "MEM" => (first | exact List.Mem.head _ | exact Mem1 | exact Mem2 | exact Mem3 | exact Mem4 | exact Mem5 | (refine TL6 ?_; walk_at "MEM"))
  k_with "newTuple" => (k_here; k_dflt (refine' kup_newTuple ?F ?N ?_ ?z; (case F | N => k_asm); (case z => kmk_size)); intro D' h' F' N' l1; (try k_lt l1); (try k_sweep))
  k_with "exec For Name Tuple cons nil" => (k_here; k_dflt (refine' For_invVF ?kF ?k1 ?k2 ?_; (case kF => k_asm); (case k1 | k2 => with_unfolding_all exact rfl)))
  k_with "setItem ref str" => (k_here; (with_reducible show wpAny _ _ (setItem (Value.ref _) (Value.str _ _) _) _ _ _); k_dflt (refine dset (by k_asm) (by first | k_asm | exact news_tl (by k_asm) | exact news_tl (news_tl (by k_asm))) ‹_› ‹_› (strKind_is _ _ _ _) (by first | assumption | exact DI.room ‹_› (Nat.le_of_ble_eq_true rfl)) ?_; intro h9 o9 tk9 F9 N9 d9))
  k_with "pyIter ref" => (k_here; (k_dflt (refine loop_DN (by exact rfl) (by k_asm) (by exact rfl) (by k_asm) (by first | walk_at "LTS" | omega) (lt_of_all (by first | exact by assumption | exact And.right ‹_› | exact And.right (And.right ‹_›))) ‹_› (by first | exact strs_cons (strs_cons (strs_cons (strs_cons (strs_cons (strs_cons (strs_cons (strs_cons (strs_cons (strs_cons (strs_cons (strs_cons (strs_cons (strs_nil))))))))))))) | exact strs_cons (strs_cons (strs_cons (strs_nil))) | exact strs_cons (strs_cons (strs_cons (strs_cons (strs_nil))))) ‹_› (by first | assumption | exact DI.start (by rfl) (Nat.le_of_ble_eq_true rfl)) (by exact Nat.le_of_ble_eq_true rfl) (by exact Nat.le_of_ble_eq_true rfl) (by decide +kernel) (by decide +kernel) ?_ ?_)); (k_dflt (intro a9 u9 o9 kv9 h9 tk9 own9 l9 d9 ne9 F9 N9; (try dsimp only at F9))); (try dsimp only); rotate_left; (k_dflt (intro o9 kv9 u9 h9 tk9 di9 d9 F9 N9; (try dsimp only at F9))); (try dsimp only); rotate_left)
  k_with "pyIter ref" => (k_here; (k_dflt (refine loop_DA (by exact rfl) (by k_asm) (by exact rfl) (by k_asm) (by first | walk_at "LTS" | omega) (lt_of_all (by first | exact by assumption | exact And.right ‹_› | exact And.right (And.right ‹_›))) ‹_› (by first | exact strs_cons (strs_cons (strs_cons (strs_cons (strs_cons (strs_cons (strs_cons (strs_cons (strs_cons (strs_cons (strs_cons (strs_cons (strs_cons (strs_nil))))))))))))) | exact strs_cons (strs_cons (strs_cons (strs_nil))) | exact strs_cons (strs_cons (strs_cons (strs_cons (strs_nil))))) ‹_› (by first | assumption | exact DI.start (by rfl) (Nat.le_of_ble_eq_true rfl)) (by exact Nat.le_of_ble_eq_true rfl) (by exact Nat.le_of_ble_eq_true rfl) (by decide +kernel) (by decide +kernel) ?_ ?_)); (k_dflt (intro a9 u9 o9 kv9 h9 tk9 own9 l9 d9 ne9 F9 N9; (try dsimp only at F9))); (try dsimp only); rotate_left; (k_dflt (intro o9 kv9 u9 h9 tk9 di9 d9 F9 N9; (try dsimp only at F9))); (try dsimp only); rotate_left)
  intro mean mg mb dp un gd cn cs a ccd cl outer A₀ base h₀ L m s Q E B F X N T hk hd hu hret
  refine wpAny_call ?_
  k_dflt cell_enter
  walk_at "STEPS"
  all_goals first
    | exact DEnd.mk ‹_› ‹_› (fun z hz => if_neg hz) ‹_› ⟨_, rfl⟩
    | exact DEnd.mk ‹_› ‹_› (fun z hz => if_neg hz) ‹_› rfl
    | exact hret _ _ _ _ (DefsR.mk (by first | assumption | exact of_allLt ‹_›) ‹_› (DI.mono (DI.set ‹_› (by decide) (fun _ => Or.inr ⟨by decide, trivial⟩)) (Nat.le_of_ble_eq_true rfl) id) ‹_›) ‹_› ‹_›
end
end Internal
namespace Internal
noncomputable abbrev upto (ns : List Int) (x : Int) : Nat := (ns.takeWhile (fun n => decide (n ≤ x))).length
noncomputable def placeI (ns : List Int) (x : Int) : Int := ((upto ns x : Nat) : Int) - 1
theorem upto_le (ns : List Int) (x : Int) : upto ns x ≤ ns.length := by
  unfold upto
  induction ns with
  | nil => simp
  | cons a r ih => rw [List.takeWhile_cons]; split <;> simp <;> omega
theorem upto_iff {ns : List Int} (hs : ns.Pairwise (· < ·)) (x : Int) : ∀ {k : Nat} {n : Int}, ns[k]? = some n → (n ≤ x ↔ k < upto ns x) := by
  induction ns with
  | nil => intro k n h; simp at h
  | cons a r ih =>
    intro k n h
    have hs' := List.pairwise_cons.mp hs
    unfold upto
    by_cases ha : a ≤ x
    · rw [List.takeWhile_cons_of_pos (by simpa using ha), List.length_cons]
      cases k with
      | zero => simp at h; subst h; simp [ha]
      | succ k =>
        have := ih hs'.2 (k := k) (n := n) (by simpa using h)
        exact this.trans Nat.succ_lt_succ_iff.symm
    · rw [List.takeWhile_cons_of_neg (by simpa using ha)]
      cases k with
      | zero => simp at h; subst h; simp [ha]
      | succ k =>
        have hm : n ∈ r := List.mem_of_getElem? (by simpa using h)
        have := hs'.1 n hm
        exact ⟨fun q => absurd (Int.le_trans (Int.le_of_lt this) q) ha, fun q => absurd q (Nat.not_lt_zero _)⟩
noncomputable def PlaP (ns : List Int) (x low high : Int) : Prop := 0 ≤ low ∧ low ≤ ((upto ns x : Nat) : Int) ∧ ((upto ns x : Nat) : Int) ≤ high ∧ high ≤ (ns.length : Nat)
theorem mid_lo {low high : Int} (h : low < high) (h0 : 0 ≤ low) : low ≤ (low + high).fdiv 2 ∧ (low + high).fdiv 2 < high := by
  rw [Int.fdiv_eq_ediv_of_nonneg _ (by decide)]
  exact ⟨Int.le_ediv_of_mul_le (by decide) (by rw [Int.mul_comm, Int.two_mul]; exact Int.add_le_add_left (Int.le_of_lt h) low), Int.ediv_lt_of_lt_mul (by decide) (by rw [Int.mul_comm, Int.two_mul]; exact Int.add_lt_add_right h high)⟩
theorem pla_mid {ns : List Int} {x low high : Int} (h : PlaP ns x low high) (hlt : low < high) : 0 ≤ (low + high).fdiv 2 ∧ (low + high).fdiv 2 < (ns.length : Nat) := by
  exact ⟨Int.le_trans h.1 (mid_lo hlt h.1).1, Int.lt_of_lt_of_le (mid_lo hlt h.1).2 h.2.2.2⟩
theorem pla_up {ns : List Int} (hs : ns.Pairwise (· < ·)) {x low high : Int} (h : PlaP ns x low high) (hlt : low < high) (q : ns.getD ((low + high).fdiv 2).toNat 0 ≤ x) : PlaP ns x ((low + high).fdiv 2 + 1) high ∧ (high - ((low + high).fdiv 2 + 1)).toNat < (high - low).toNat := by
  have a := mid_lo hlt h.1
  have b := pla_mid h hlt
  have e : ns[((low + high).fdiv 2).toNat]? = some (ns.getD ((low + high).fdiv 2).toNat 0) := by
    rw [List.getD_eq_getElem?_getD, List.getElem?_eq_getElem ((Int.toNat_lt b.1).mpr b.2), Option.getD_some]
  have z := (upto_iff hs x e).mp q
  exact ⟨⟨Int.le_add_one b.1, Int.add_one_le_of_lt ((Int.toNat_lt b.1).mp z), h.2.2.1, h.2.2.2⟩, (Int.toNat_lt_toNat (Int.sub_pos.mpr hlt)).mpr (Int.sub_lt_sub_left (Int.lt_add_one_of_le a.1) high)⟩
theorem pla_down {ns : List Int} (hs : ns.Pairwise (· < ·)) {x low high : Int} (h : PlaP ns x low high) (hlt : low < high) (q : ¬ ns.getD ((low + high).fdiv 2).toNat 0 ≤ x) : PlaP ns x low ((low + high).fdiv 2) ∧ ((low + high).fdiv 2 - low).toNat < (high - low).toNat := by
  have a := mid_lo hlt h.1
  have b := pla_mid h hlt
  have e : ns[((low + high).fdiv 2).toNat]? = some (ns.getD ((low + high).fdiv 2).toNat 0) := by
    rw [List.getD_eq_getElem?_getD, List.getElem?_eq_getElem ((Int.toNat_lt b.1).mpr b.2), Option.getD_some]
  have z : ¬ ((low + high).fdiv 2).toNat < upto ns x := fun y => q ((upto_iff hs x e).mpr y)
  exact ⟨⟨h.1, h.2.1, Int.not_lt.mp (fun y => z ((Int.toNat_lt b.1).mpr y)), Int.le_trans (Int.le_of_lt a.2) h.2.2.2⟩, (Int.toNat_lt_toNat (Int.sub_pos.mpr hlt)).mpr (Int.sub_lt_sub_right a.2 low)⟩
theorem pla_end {ns : List Int} {x low high : Int} (h : PlaP ns x low high) (hlt : ¬ low < high) : low - 1 = placeI ns x := by
  exact congrArg (· - 1) (Int.le_antisymm h.2.1 (Int.le_trans h.2.2.1 (Int.not_lt.mp hlt)))
theorem pla_start {ns : List Int} {x : Int} {vs : List Value} (hi : IntsAre vs ns) : PlaP ns x 0 (vs.toArray.size : Nat) := by
  refine ⟨Int.le_refl _, Int.natCast_nonneg _, ?_, by simp [ints_len hi]⟩
  exact Int.ofNat_le.mpr (by rw [List.size_toArray, ints_len hi]; exact upto_le ns x)
theorem int_item {prog : Program} {w : World} {A : Around} {E : Value → Shared → Prop} {s : Shared} {h₀ : Heap} {L : Addr} {news : List (Addr × Obj)} {value slice : Expr} {vs : List Value} {ns : List Int} {n : Nat} {D : Addr} {k : Int} {u : Tok} {Q : Value → Shared → Prop} (N : News h₀ L s.heap news) (hm : (D, listOf vs.toArray n) ∈ news) (hi : IntsAre vs ns) (hz : ns.length ≤ 1000) (h : 0 ≤ k ∧ k < (ns.length : Nat)) (hQ : ∀ t, Q (.int (ns.getD k.toNat 0) t) s)
    (hs : subscripted slice false (.ref D) (.int k u) = operate [.ref D, .int k u] (getItem (.ref D) (.int k u)) := by with_unfolding_all rfl) (hg : ∀ r, letTemporaryGo value (.ref D) r = pure () := by intro _; with_unfolding_all rfl) :
    wpAny (model prog w) A (subscriptTail value slice (.ref D) (.int k u)) Q E s := by
  have hl := ints_len hi
  have hk : k.toNat < vs.length := by rw [hl]; exact (Int.toNat_lt h.1).mpr h.2
  obtain ⟨m, hm1, t, hm2⟩ := ints_get hi (i := k.toNat) (v := vs[k.toNat]) (List.getElem?_eq_getElem hk)
  have e : ns.getD k.toNat 0 = m := by rw [List.getD_eq_getElem?_getD, hm1, Option.getD_some]
  refine item_list (items := vs.toArray) (x := .int m t) ⟨_, (N _ hm).1, rfl, n, rfl⟩ h.1 (by omega) ?_ (e ▸ hQ t) hs hg
  rw [List.getElem?_toArray, List.getElem?_eq_getElem hk, hm2]
section
variable (ns : List Int) (x : Int)
theorem place_ok (news : List (Addr × Obj)) (S : Addr) (vs : List Value) (k : Nat) (t : Tok) (hS : (S, listOf vs.toArray k) ∈ news) (hi : IntsAre vs ns) (hs : ns.Pairwise (· < ·)) (hz : ns.length ≤ 1000) : Fn 3 96 [.ref S, .int x t] news (Pure news (IsInt (placeI ns x))) := by
  k_with_none
  k_with "FOLD" => ((fail_if_success (fail_if_success k_fold)); (try ((with_reducible rename Fr _ _ _ _ => Fz); (fail_if_success (with_reducible have : Fr _ _ _ mk := Fz)); (with_reducible refine let mk := _; have Fy : Fr _ _ _ mk := Fz; ?_); clear Fz)); (try ((with_reducible rename News _ _ _ _ => Nz); (fail_if_success (with_reducible have : News _ _ _ lk := Nz)); (with_reducible refine let lk := _; have Ny : News _ _ _ lk := Nz; ?_); clear Nz)); with_reducible refine let qk := _; let ek := _; (?_ : wpAny _ _ _ qk ek _))
  k_with "STEPS" => ((try walk_at "FOLD"); repeat' (first | (k_unfold; (try dsimp only)) | (k_end; wrow_close) | (walk1; all_goals (try ((fail_if_success (with_reducible show wpAny _ _ (subscriptTail _ _ _ _) _ _ _)); dsimp only)); all_goals (try ((with_reducible first | show wpAny _ _ (exec _ _) _ _ _ | show wpAny _ _ (execs _ _) _ _ _); (try ((with_reducible first | refine genTok ?_ | refine genTokS ?_); intro tkG)); (try walk_at "FOLD")))) | (dsimp only; walk1)))
  k_with "ROOM" => (first | exact U0 ‹_› | exact U1 ‹_› (by exact rfl) | exact U2 ‹_› (by exact rfl) | exact U3 ‹_› (by exact rfl) | ((simp +zetaDelta only [depth_under_make, depth_under_kw, depth_in1, depth_deeper, depth_caller]); (try dsimp only [ktrTop]); first | omega | decide +kernel))
  k_with "UNITS" => (first | exact U1 ‹_› (by exact rfl) | exact U2 ‹_› (by exact rfl) | exact U3 ‹_› (by exact rfl) | exact U4 ‹_› (by exact rfl) | exact U5 ‹_› (by exact rfl) | (have hcL9 := cLine_is; (simp +zetaDelta only [units_under_make, units_in1, units_deeper, Around.mark_units, units_caller]); (try dsimp only [ktrTop]); first | (rw [hcL9]; decide) | omega | decide +kernel))
  k_with "NE" => (first | with_reducible assumption | (refine neN (Nat.ne_of_lt ?_); walk_at "LTS") | (refine neN (Nat.ne_of_gt ?_); walk_at "LTS") | (refine neN ?_; (try dsimp only); omega))
  k_with "ENTER" => (refine' Internal.code_defN ?k1 ?k2 ?k3 ?k4 ?k5 ?kA ?kF ?kK ?k6 ?k7 ?k8 ?k9 ?kB ?_ ?c2 ?c3 ?c4 ?c5; (case kA | kF => exact rfl); (case kK => first | exact rfl | assumption); (case k1 | k2 | k3 | k4 | k5 => k_asm); (case k6 | k7 => k_is); (case k8 => ktr_room); (case k9 => exact BindsTo.of_eq (by kernel_rfl)); (case c5 => decide); (case kB => exact locs rfl); (case c2 | c3 | c4 => exact rfl); k_whole; intro g' L' h' tk' FG' F' N' B' X' T'; (try dsimp only); (try k_lift B'); (try walk_at "FOLD"); (refine let Ak : Around := _; (?_ : wpAny _ Ak _ _ _ _)))
  k_with "LTS" => (first | with_reducible assumption | exact ltM (by with_reducible assumption) (by k_mem) | exact And.left (by with_reducible assumption) | exact And.left (And.right (by with_reducible assumption)) | exact And.right (And.right (by with_reducible assumption)) | exact And.left (And.right (And.right (by with_reducible assumption))) | exact And.right (And.right (And.right (by with_reducible assumption))))
  k_with "ALL" => (first | with_reducible assumption | exact ne_of_allLt ‹_›)
  k_with "MEM" => (first | exact List.Mem.head _ | exact Mem1 | exact Mem2 | exact Mem3 | exact Mem4 | exact Mem5 | (refine TL6 ?_; walk_at "MEM"))
  k_with "subscriptTail" => (k_here; (with_reducible show wpAny _ _ (subscriptTail _ _ (Value.ref _) (Value.int _ _)) _ _ _); k_dflt (refine int_item (by k_asm) ‹_› ‹_› ‹_› (pla_mid ‹_› ‹_›) ?_); intro ti9)
  k_with "call builtin:len" => (k_here; (with_reducible show wpAny _ _ (call (Value.builtin "len") [Value.ref _]) _ _ _); k_dflt (refine len_L (by k_asm) (by k_asm) ‹_› (by simp only [List.size_toArray, ints_len ‹_›]; omega) ?_; intro tl9 kl9))
  k_with "exec While Compare cons nil" => (k_here; k_dflt (refine while_s3 (σ := (Int × Tok) × (Int × Tok)) (Str.ofString "low") (Str.ofString "high") (Str.ofString "middle") ((_,_),(_,_)) (fun c => .int c.1.1 c.1.2) (fun c => .int c.2.1 c.2.2) (fun c => PlaP ns x c.1.1 c.2.1) (fun c => (c.2.1 - c.1.1).toNat) (fun c => c.1.1 - 1 = placeI ns x) (by k_asm) (by k_asm) (by exact rfl) (by exact rfl) (pla_start ‹_›) ?_ ?_); rotate_left; (k_dflt (rintro ⟨⟨lo9,lt9⟩,⟨hi9,ht9⟩⟩ v9 h9 tk9 b1 F9 N9; (try dsimp only at b1 F9))); (try dsimp only); rotate_left; (k_dflt (rintro ⟨⟨lo9,lt9⟩,⟨hi9,ht9⟩⟩ v9 h9 tk9 p1 F9 N9; (try dsimp only at p1 F9))); (try dsimp only))
  intro w mean mg mb dp un gd cn cs a ccd cl outer A₀ base h₀ L m s Q E B F X N T hk hd hu hret
  refine wpAny_call ?_
  k_dflt cell_enter
  walk_at "STEPS"
  all_goals first
    | exact WDone3.mk (pla_end ‹_› ‹_›) ‹_› ‹_›
    | exact WEnd3.mk (c' := ((_, _), (_, _))) ‹_› ‹_› (by exact rfl) (by exact rfl) (fun z h1 h2 h3 => by simp +zetaDelta only [if_neg h1, if_neg h2, if_neg h3]) (pla_up hs ‹_› ‹_› ‹_›)
    | exact WEnd3.mk (c' := ((_, _), (_, _))) ‹_› ‹_› (by exact rfl) (by exact rfl) (fun z h1 h2 h3 => by simp +zetaDelta only [if_neg h1, if_neg h2, if_neg h3]) (pla_down hs ‹_› ‹_› ‹_›)
    | exact hret _ _ _ _ ⟨⟨_, congrArg (fun i => Value.int i _) ‹_›⟩, rfl⟩ ‹_› ‹_›
end
end Internal
namespace Internal
theorem DI.gc {t : Tok} {n : Nat} {b : Prop} {kvs : List (Str × Value)} (h : DI t n b kvs) : valueAt kvs (Str.ofString "gc") = some (.str (Str.ofString "Cn") t) := h.1
theorem DI.nm {t : Tok} {n : Nat} {kvs : List (Str × Value)} (h : DI t n True kvs) : valueAt kvs (Str.ofString "name") = some .none := h.2.2 trivial
theorem place_lit {v : Int} (ns : List Int) (x : Int) (news : List (Addr × Obj)) (S : Addr) (vs : List Value) (k : Nat) (t : Tok) (hS : (S, listOf vs.toArray k) ∈ news) (hi : IntsAre vs ns) (hs : ns.Pairwise (· < ·)) (hz : ns.length ≤ 1000) (hv : placeI ns x = v) : Fn 3 96 [.ref S, .int x t] news (Pure news (IsInt v)) := hv ▸ place_ok ns x news S vs k t hS hi hs hz
noncomputable abbrev insL (vs : List Value) (k : Nat) (a b : Value) : List Value := vs.take (k + 1) ++ [a, b] ++ vs.drop (k + 1)
theorem take_room {us : List Value} {k : Nat} {a b : Value} (h : us.length ≤ 100) : (us.take k).length + [a, b].length ≤ 16777216 := by
  rw [List.length_take]; exact Nat.le_trans (Nat.add_le_add_right (Nat.le_trans (Nat.min_le_right _ _) h) _) (show 100 + 2 ≤ 16777216 by decide)
theorem ins_room {us : List Value} {k : Nat} {a b : Value} (h : us.length ≤ 100) : (us.take k ++ [a, b]).length + (us.drop k).length ≤ 16777216 := by
  rw [List.length_append, List.length_take, List.length_drop]; exact Nat.le_trans (Nat.add_le_add (Nat.add_le_add_right (Nat.le_trans (Nat.min_le_right _ _) h) _) (Nat.le_trans (Nat.sub_le _ _) h)) (show 100 + 2 + 100 ≤ 16777216 by decide)
noncomputable def PutR (w : World) (x dx : Addr) (dv : Value) (t1 t2 t3 : Tok) (ss us : Tok → List Value) (rest : List (Addr × Obj)) (r : Value) (nw : List (Addr × Obj)) : Prop :=
  ∃ S V t k1 k2, r = .none ∧ nw = (x, instObj 259 dx) :: (dx, rmD w t1 t2 t3 dv S V) :: (S, listOf (ss t).toArray k1) :: (V, listOf (us t).toArray k2) :: rest ∧ (@LT.lt Nat _ x S ∧ @LT.lt Nat _ S V ∧ @LT.lt Nat _ dx S) ∧ AllLt S rest ∧ AllLt V rest
noncomputable abbrev PutK (w : World) (x dx : Addr) (dv : Value) (t1 t2 t3 : Tok) (ss us : Tok → List Value) (rest : List (Addr × Obj)) (P : Value → List (Addr × Obj) → Prop) : Prop := ∀ S V t k1 k2, (@LT.lt Nat _ x S ∧ @LT.lt Nat _ S V ∧ @LT.lt Nat _ dx S) → AllLt S rest → AllLt V rest → P .none ((x, instObj 259 dx) :: (dx, rmD w t1 t2 t3 dv S V) :: (S, listOf (ss t).toArray k1) :: (V, listOf (us t).toArray k2) :: rest)
theorem PutR.k {w : World} {x dx : Addr} {dv : Value} {t1 t2 t3 : Tok} {ss us : Tok → List Value} {rest : List (Addr × Obj)} : ∀ P, PutK w x dx dv t1 t2 t3 ss us rest P → ∀ r nw, PutR w x dx dv t1 t2 t3 ss us rest r nw → P r nw := by rintro P h r nw ⟨S, V, t, k1, k2, rfl, rfl, a, b, e⟩; exact h S V t k1 k2 a b e
theorem PutR.mk {w : World} {x dx : Addr} {dv : Value} {t1 t2 t3 : Tok} {ss us : Tok → List Value} {rest : List (Addr × Obj)} {S V : Addr} {t : Tok} {k1 k2 : Nat} (a : @LT.lt Nat _ x S ∧ @LT.lt Nat _ S V ∧ @LT.lt Nat _ dx S) (b : AllLt S rest) (e : AllLt V rest) : PutR w x dx dv t1 t2 t3 ss us rest .none ((x, instObj 259 dx) :: (dx, rmD w t1 t2 t3 dv S V) :: (S, listOf (ss t).toArray k1) :: (V, listOf (us t).toArray k2) :: rest) := ⟨S, V, t, k1, k2, rfl, rfl, a, b, e⟩
section
variable (k : Nat)
set_option maxHeartbeats 4000000 in
theorem put_ins (w : World) (rest : List (Addr × Obj)) (x dx S V : Addr) (dv value bv : Value) (t1 t2 t3 u1 u2 : Tok) (k1 k2 : Nat) (vs us : List Value) (ns : List Int) (first last : Int) (hne : @LT.lt Nat _ dx x ∧ @LT.lt Nat _ x S ∧ @LT.lt Nat _ S V) (hx : ∀ p ∈ rest, p.1 ≠ x) (hdx : ∀ p ∈ rest, p.1 ≠ dx) (hS : ∀ p ∈ rest, p.1 ≠ S) (hV : ∀ p ∈ rest, p.1 ≠ V) (hi : IntsAre vs ns) (hs : ns.Pairwise (· < ·)) (hvl : vs.length = ns.length) (hul : us.length = ns.length) (hz : ns.length ≤ 100) (h1 : placeI ns (first - 1) = (k : Int)) (h2 : placeI ns (last + 1) = (k : Int)) (hk : k ≤ 100) (hb : us[k]? = some bv) (hfl : first ≤ last) (hlm : last < 1114111) (hlike : ∀ nw, Fn 2 216 [bv, value] nw (Pure nw (IsBool false))) : FnW w 9 244 [.ref x, .int first u1, .int last u2, value] ((x, instObj 259 dx) :: (dx, rmD w t1 t2 t3 dv S V) :: (S, listOf vs.toArray k1) :: (V, listOf us.toArray k2) :: rest) (PutR w x dx dv t1 t2 t3 (fun t => insL vs k (.int first u1) (.int (last + 1) t)) (fun _ => insL us k value bv) rest) := by
  k_with_none
  k_with "FOLD" => ((fail_if_success (fail_if_success k_fold)); (try ((with_reducible rename Fr _ _ _ _ => Fz); (fail_if_success (with_reducible have : Fr _ _ _ mk := Fz)); (with_reducible refine let mk := _; have Fy : Fr _ _ _ mk := Fz; ?_); clear Fz)); (try ((with_reducible rename News _ _ _ _ => Nz); (fail_if_success (with_reducible have : News _ _ _ lk := Nz)); (with_reducible refine let lk := _; have Ny : News _ _ _ lk := Nz; ?_); clear Nz)); with_reducible refine let qk := _; let ek := _; (?_ : wpAny _ _ _ qk ek _))
  k_with "STEPS" => ((try walk_at "FOLD"); repeat' (first | (k_unfold; (try dsimp only)) | (k_end; wrow_close) | (walk1; all_goals (try ((fail_if_success (with_reducible show wpAny _ _ (subscriptTail _ _ _ _) _ _ _)); dsimp only)); all_goals (try ((with_reducible first | show wpAny _ _ (exec _ _) _ _ _ | show wpAny _ _ (execs _ _) _ _ _); (try ((with_reducible first | refine genTok ?_ | refine genTokS ?_); intro tkG)); (try walk_at "FOLD")))) | (dsimp only; walk1)))
  k_with "ROOM" => (first | exact U0 ‹_› | exact U1 ‹_› (by exact rfl) | exact U2 ‹_› (by exact rfl) | exact U3 ‹_› (by exact rfl) | ((simp +zetaDelta only [depth_under_make, depth_under_kw, depth_in1, depth_deeper, depth_caller]); (try dsimp only [ktrTop]); first | omega | decide +kernel))
  k_with "UNITS" => (first | exact U1 ‹_› (by exact rfl) | exact U2 ‹_› (by exact rfl) | exact U3 ‹_› (by exact rfl) | exact U4 ‹_› (by exact rfl) | exact U5 ‹_› (by exact rfl) | (have hcL9 := cLine_is; (simp +zetaDelta only [units_under_make, units_in1, units_deeper, Around.mark_units, units_caller]); (try dsimp only [ktrTop]); first | (rw [hcL9]; decide) | omega | decide +kernel))
  k_with "NE" => (first | with_reducible assumption | (refine neN (Nat.ne_of_lt ?_); walk_at "LTS") | (refine neN (Nat.ne_of_gt ?_); walk_at "LTS") | (refine neN ?_; (try dsimp only); omega))
  k_with "ENTER" => (refine' Internal.code_defN ?k1 ?k2 ?k3 ?k4 ?k5 ?kA ?kF ?kK ?k6 ?k7 ?k8 ?k9 ?kB ?_ ?c2 ?c3 ?c4 ?c5; (case kA | kF => exact rfl); (case kK => first | exact rfl | assumption); (case k1 | k2 | k3 | k4 | k5 => k_asm); (case k6 | k7 => k_is); (case k8 => ktr_room); (case k9 => exact BindsTo.of_eq (by kernel_rfl)); (case c5 => decide); (case kB => exact locs rfl); (case c2 | c3 | c4 => exact rfl); k_whole; intro g' L' h' tk' FG' F' N' B' X' T'; (try dsimp only); (try k_lift B'); (try walk_at "FOLD"); (refine let Ak : Around := _; (?_ : wpAny _ Ak _ _ _ _)))
  k_with "LTS" => (first | with_reducible assumption | exact ltM (by with_reducible assumption) (by k_mem) | exact And.left (by with_reducible assumption) | exact And.left (And.right (by with_reducible assumption)) | exact And.right (And.right (by with_reducible assumption)) | exact And.left (And.right (And.right (by with_reducible assumption))) | exact And.right (And.right (And.right (by with_reducible assumption))))
  k_with "ALL" => (first | with_reducible assumption | exact ne_of_allLt ‹_›)
  k_with "MEM" => (first | exact List.Mem.head _ | exact Mem1 | exact Mem2 | exact Mem3 | exact Mem4 | exact Mem5 | (refine TL6 ?_; walk_at "MEM"))
  k_with "SUB" => (first | assumption | exact TL1 ‹_› | exact TL2 ‹_› | exact TL3 ‹_› | exact TL4 ‹_› | exact TL5 ‹_› | (refine TL6 ?_; walk_at "SUB"))
  k_with "RIGHT" => (first | assumption | exact AR1 ‹_› | exact AR2 ‹_› | exact AR3 ‹_› | exact AR4 ‹_› | exact AR5 ‹_› | exact AR6 ‹_› | exact AR7 ‹_› | exact AR8 ‹_› | exact AR9 ‹_› | exact AR10 ‹_› | exact AR11 ‹_› | exact AR12 ‹_› | exact AR13 ‹_› | exact AR14 ‹_› | exact AR15 ‹_› | exact AR16 ‹_›)
  k_with "subscriptTail Name Slice ref ref" => (k_here; (with_reducible show wpAny _ _ (subscriptTail _ (Expr.Slice none (some _) none _) (Value.ref _) (Value.ref _)) _ _ _); k_dflt (refine slice_to (s := ⟨_, _, _, _, _⟩) (k := k + 1) (by k_asm) (by k_asm) (by k_mem) (by constructor) (by omega) (by omega) ?_; intro D' h' F' N' l1); (try k_lt l1))
  k_with "subscriptTail Name Slice ref ref" => (k_here; (with_reducible show wpAny _ _ (subscriptTail _ (Expr.Slice (some _) none none _) (Value.ref _) (Value.ref _)) _ _ _); k_dflt (refine slice_fro (s := ⟨_, _, _, _, _⟩) (k := k + 1) (by k_asm) (by k_asm) (by k_mem) (by constructor) (by omega) (by omega) ?_; intro D' h' F' N' l1); (try k_lt l1))
  k_with "subscriptTail" => (k_here; (with_reducible show wpAny _ _ (subscriptTail _ _ (Value.ref _) (Value.int _ _)) _ _ _); k_dflt (refine item_us (k := k) (by k_asm) (by k_mem) (by omega) (by omega) ‹_› ?_))
  k_with "binaryOp Add ref ref" => (k_here; (with_reducible show wpAny _ _ (binaryOp Operator.Add (Value.ref _) (Value.ref _)) _ _ _); k_dflt (refine add_U (by k_asm) (by k_asm) (by k_mem) (by k_mem) (by first | exact take_room (by omega) | exact ins_room (by omega)) ?_; intro D' h' F' N' l1); (try k_lt l1))
  k_with "call ref" => (k_here; (with_reducible show wpAny _ _ (call (Value.ref 216) [_, _] _) _ _ _); k_dflt (refine' Fn.use0 (show Fn 2 216 [_, _] _ (Pure _ (IsBool false)) from ?hL) ?kB ?kF ?kX ?kN ?kT ?kK ?kd ?ku ?_; (case kN => k_asm); (case hL => exact (show ∀ nw, Fn 2 216 _ nw (Pure nw (IsBool false)) from by assumption) _); (case kB | kF | kX | kT => k_asm); (case kK => first | exact rfl | assumption); (case kd => ktr_room); (case ku => ktr_units); (intro h9 tk9 F9 N9)); (try dsimp only))
  k_with "call ref" => (k_here; (with_reducible show wpAny _ _ (call (Value.ref 96) [Value.ref _, Value.int _ _] _) _ _ _); (k_dflt (refine' Fn.useE (place_lit _ _ _ _ _ _ _ ?hS ?hi ?hs ?hz ?hv) ?kB ?kF ?kX ?kN ?kT ?kK ?kd ?ku ?_; (case kN => k_asm); (case hS => k_mem); (case hi | hs => assumption); (case hz => omega); (case hv => assumption); (case kB | kF | kX | kT => k_asm); (case kK => first | exact rfl | assumption); (case kd => ktr_room); (case ku => ktr_units); (intro t9 h9 tk9 F9 N9))); (try dsimp only))
  intro mean mg mb dp un gd cn cs a ccd cl outer A₀ base h₀ L m s Q E B F X N T hk hd hu hret
  refine wpAny_call ?_
  k_dflt cell_enter
  walk_at "STEPS"
  refine' hret _ _ _ _ (PutR.mk ⟨?y1, ?y2, ?y3⟩ ?yA ?yB) ‹_› (newsWeak ‹_› ?ysub)
  case ysub =>
    iterate 4 (refine sub_cons (by k_mem) ?_)
    exact fun p9 hp9 => by walk_at "SUB"
  case yA => exact (by walk_at "RIGHT")
  case yB => exact (by walk_at "RIGHT")
  all_goals first | walk_at "LTS" | omega
end
end Internal
namespace Internal
noncomputable def RmR (w : World) (dv : Value) (news : List (Addr × Obj)) (r : Value) (nw : List (Addr × Obj)) : Prop :=
  ∃ x dx S V t1 t2 t3 t4, r = .ref x ∧ nw = (x, instObj 259 dx) :: (dx, rmD w t1 t2 t3 dv S V) :: (S, listOf #[.int 0 t4] 0) :: (V, listOf #[dv] 0) :: news ∧ (@LT.lt Nat _ dx x ∧ @LT.lt Nat _ x S ∧ @LT.lt Nat _ S V) ∧ AllLt dx news ∧ AllLt x news ∧ AllLt S news ∧ AllLt V news
noncomputable abbrev RmK (w : World) (dv : Value) (news : List (Addr × Obj)) (P : Value → List (Addr × Obj) → Prop) : Prop := ∀ x dx S V t1 t2 t3 t4, (@LT.lt Nat _ dx x ∧ @LT.lt Nat _ x S ∧ @LT.lt Nat _ S V) → AllLt dx news → AllLt x news → AllLt S news → AllLt V news → P (.ref x) ((x, instObj 259 dx) :: (dx, rmD w t1 t2 t3 dv S V) :: (S, listOf #[.int 0 t4] 0) :: (V, listOf #[dv] 0) :: news)
theorem RmR.k {w : World} {dv : Value} {news : List (Addr × Obj)} : ∀ P, RmK w dv news P → ∀ r nw, RmR w dv news r nw → P r nw := by rintro P h r nw ⟨x, dx, S, V, t1, t2, t3, t4, rfl, rfl, a, b1, b2, b3, b4⟩; exact h x dx S V t1 t2 t3 t4 a b1 b2 b3 b4
theorem RmR.mk {w : World} {dv : Value} {news : List (Addr × Obj)} {x dx S V : Addr} {t1 t2 t3 t4 : Tok} (a : @LT.lt Nat _ dx x ∧ @LT.lt Nat _ x S ∧ @LT.lt Nat _ S V) (b1 : AllLt dx news) (b2 : AllLt x news) (b3 : AllLt S news) (b4 : AllLt V news) : RmR w dv news (.ref x) ((x, instObj 259 dx) :: (dx, rmD w t1 t2 t3 dv S V) :: (S, listOf #[.int 0 t4] 0) :: (V, listOf #[dv] 0) :: news) := ⟨x, dx, S, V, t1, t2, t3, t4, rfl, rfl, a, b1, b2, b3, b4⟩
theorem allLt_up {d e : Addr} (hde : @LT.lt Nat _ d e) : ∀ {l : List (Addr × Obj)}, AllLt d l → AllLt e l
  | [], _ => trivial
  | _ :: _, h => ⟨Nat.lt_trans h.1 hde, allLt_up hde h.2⟩
theorem news_blk {h₀ h : Heap} {L : Addr} {l : List (Addr × Obj)} (i n : Nat) (N : News h₀ L h l) : News h₀ L h ((l.drop i).take n ++ (l.take i ++ l.drop (i + n))) := fun p hp => N p (by
  rcases List.mem_append.mp hp with hp | hp
  · exact List.mem_of_mem_drop (List.mem_of_mem_take hp)
  · rcases List.mem_append.mp hp with hp | hp
    · exact List.mem_of_mem_take hp
    · exact List.mem_of_mem_drop hp)
section
theorem like_str (a1 b1 : Str) (hab : a1 ≠ b1) (t u : Tok) (nw : List (Addr × Obj)) : Fn 2 216 [.str a1 t, .str b1 u] nw (Pure nw (IsBool false)) := by
  k_with_none
  k_with "FOLD" => ((fail_if_success (fail_if_success k_fold)); (try ((with_reducible rename Fr _ _ _ _ => Fz); (fail_if_success (with_reducible have : Fr _ _ _ mk := Fz)); (with_reducible refine let mk := _; have Fy : Fr _ _ _ mk := Fz; ?_); clear Fz)); (try ((with_reducible rename News _ _ _ _ => Nz); (fail_if_success (with_reducible have : News _ _ _ lk := Nz)); (with_reducible refine let lk := _; have Ny : News _ _ _ lk := Nz; ?_); clear Nz)); with_reducible refine let qk := _; let ek := _; (?_ : wpAny _ _ _ qk ek _))
  k_with "STEPS" => ((try walk_at "FOLD"); repeat' (first | (k_unfold; (try dsimp only)) | (k_end; wrow_close) | (walk1; all_goals (try ((fail_if_success (with_reducible show wpAny _ _ (subscriptTail _ _ _ _) _ _ _)); dsimp only)); all_goals (try ((with_reducible first | show wpAny _ _ (exec _ _) _ _ _ | show wpAny _ _ (execs _ _) _ _ _); (try ((with_reducible first | refine genTok ?_ | refine genTokS ?_); intro tkG)); (try walk_at "FOLD")))) | (dsimp only; walk1)))
  k_with "ROOM" => (first | exact U0 ‹_› | exact U1 ‹_› (by exact rfl) | exact U2 ‹_› (by exact rfl) | exact U3 ‹_› (by exact rfl) | ((simp +zetaDelta only [depth_under_make, depth_under_kw, depth_in1, depth_deeper, depth_caller]); (try dsimp only [ktrTop]); first | omega | decide +kernel))
  k_with "UNITS" => (first | exact U1 ‹_› (by exact rfl) | exact U2 ‹_› (by exact rfl) | exact U3 ‹_› (by exact rfl) | exact U4 ‹_› (by exact rfl) | exact U5 ‹_› (by exact rfl) | (have hcL9 := cLine_is; (simp +zetaDelta only [units_under_make, units_in1, units_deeper, Around.mark_units, units_caller]); (try dsimp only [ktrTop]); first | (rw [hcL9]; decide) | omega | decide +kernel))
  k_with "NE" => (first | with_reducible assumption | (refine neN (Nat.ne_of_lt ?_); walk_at "LTS") | (refine neN (Nat.ne_of_gt ?_); walk_at "LTS") | (refine neN ?_; (try dsimp only); omega))
  k_with "ENTER" => (refine' Internal.code_defN ?k1 ?k2 ?k3 ?k4 ?k5 ?kA ?kF ?kK ?k6 ?k7 ?k8 ?k9 ?kB ?_ ?c2 ?c3 ?c4 ?c5; (case kA | kF => exact rfl); (case kK => first | exact rfl | assumption); (case k1 | k2 | k3 | k4 | k5 => k_asm); (case k6 | k7 => k_is); (case k8 => ktr_room); (case k9 => exact BindsTo.of_eq (by kernel_rfl)); (case c5 => decide); (case kB => exact locs rfl); (case c2 | c3 | c4 => exact rfl); k_whole; intro g' L' h' tk' FG' F' N' B' X' T'; (try dsimp only); (try k_lift B'); (try walk_at "FOLD"); (refine let Ak : Around := _; (?_ : wpAny _ Ak _ _ _ _)))
  k_with "LTS" => (first | with_reducible assumption | exact ltM (by with_reducible assumption) (by k_mem) | exact And.left (by with_reducible assumption) | exact And.left (And.right (by with_reducible assumption)) | exact And.right (And.right (by with_reducible assumption)) | exact And.left (And.right (And.right (by with_reducible assumption))) | exact And.right (And.right (And.right (by with_reducible assumption))))
  k_with "ALL" => (first | with_reducible assumption | exact ne_of_allLt ‹_›)
  k_with "MEM" => (first | exact List.Mem.head _ | exact Mem1 | exact Mem2 | exact Mem3 | exact Mem4 | exact Mem5 | (refine TL6 ?_; walk_at "MEM"))
  intro w mean mg mb dp un gd cn cs a ccd cl outer A₀ base h₀ L m s Q E B F X N T hk hd hu hret
  refine wpAny_call ?_
  k_dflt cell_enter
  walk_at "STEPS"
  all_goals first
    | exact absurd (eq_of_beq ‹_›) hab
    | exact hret _ _ _ _ ⟨congrArg Value.bool (by assumption : (a1 == b1) = false), rfl⟩ ‹_› ‹_›
theorem like_nb (b : Array UInt8) (u : Tok) (nw : List (Addr × Obj)) : Fn 2 216 [.none, .bytes b u] nw (Pure nw (IsBool false)) := by
  k_with_none
  k_with "FOLD" => ((fail_if_success (fail_if_success k_fold)); (try ((with_reducible rename Fr _ _ _ _ => Fz); (fail_if_success (with_reducible have : Fr _ _ _ mk := Fz)); (with_reducible refine let mk := _; have Fy : Fr _ _ _ mk := Fz; ?_); clear Fz)); (try ((with_reducible rename News _ _ _ _ => Nz); (fail_if_success (with_reducible have : News _ _ _ lk := Nz)); (with_reducible refine let lk := _; have Ny : News _ _ _ lk := Nz; ?_); clear Nz)); with_reducible refine let qk := _; let ek := _; (?_ : wpAny _ _ _ qk ek _))
  k_with "STEPS" => ((try walk_at "FOLD"); repeat' (first | (k_unfold; (try dsimp only)) | (k_end; wrow_close) | (walk1; all_goals (try ((fail_if_success (with_reducible show wpAny _ _ (subscriptTail _ _ _ _) _ _ _)); dsimp only)); all_goals (try ((with_reducible first | show wpAny _ _ (exec _ _) _ _ _ | show wpAny _ _ (execs _ _) _ _ _); (try ((with_reducible first | refine genTok ?_ | refine genTokS ?_); intro tkG)); (try walk_at "FOLD")))) | (dsimp only; walk1)))
  k_with "ROOM" => (first | exact U0 ‹_› | exact U1 ‹_› (by exact rfl) | exact U2 ‹_› (by exact rfl) | exact U3 ‹_› (by exact rfl) | ((simp +zetaDelta only [depth_under_make, depth_under_kw, depth_in1, depth_deeper, depth_caller]); (try dsimp only [ktrTop]); first | omega | decide +kernel))
  k_with "UNITS" => (first | exact U1 ‹_› (by exact rfl) | exact U2 ‹_› (by exact rfl) | exact U3 ‹_› (by exact rfl) | exact U4 ‹_› (by exact rfl) | exact U5 ‹_› (by exact rfl) | (have hcL9 := cLine_is; (simp +zetaDelta only [units_under_make, units_in1, units_deeper, Around.mark_units, units_caller]); (try dsimp only [ktrTop]); first | (rw [hcL9]; decide) | omega | decide +kernel))
  k_with "NE" => (first | with_reducible assumption | (refine neN (Nat.ne_of_lt ?_); walk_at "LTS") | (refine neN (Nat.ne_of_gt ?_); walk_at "LTS") | (refine neN ?_; (try dsimp only); omega))
  k_with "ENTER" => (refine' Internal.code_defN ?k1 ?k2 ?k3 ?k4 ?k5 ?kA ?kF ?kK ?k6 ?k7 ?k8 ?k9 ?kB ?_ ?c2 ?c3 ?c4 ?c5; (case kA | kF => exact rfl); (case kK => first | exact rfl | assumption); (case k1 | k2 | k3 | k4 | k5 => k_asm); (case k6 | k7 => k_is); (case k8 => ktr_room); (case k9 => exact BindsTo.of_eq (by kernel_rfl)); (case c5 => decide); (case kB => exact locs rfl); (case c2 | c3 | c4 => exact rfl); k_whole; intro g' L' h' tk' FG' F' N' B' X' T'; (try dsimp only); (try k_lift B'); (try walk_at "FOLD"); (refine let Ak : Around := _; (?_ : wpAny _ Ak _ _ _ _)))
  k_with "LTS" => (first | with_reducible assumption | exact ltM (by with_reducible assumption) (by k_mem) | exact And.left (by with_reducible assumption) | exact And.left (And.right (by with_reducible assumption)) | exact And.right (And.right (by with_reducible assumption)) | exact And.left (And.right (And.right (by with_reducible assumption))) | exact And.right (And.right (And.right (by with_reducible assumption))))
  k_with "ALL" => (first | with_reducible assumption | exact ne_of_allLt ‹_›)
  k_with "MEM" => (first | exact List.Mem.head _ | exact Mem1 | exact Mem2 | exact Mem3 | exact Mem4 | exact Mem5 | (refine TL6 ?_; walk_at "MEM"))
  k_with "compareOp Eq none bytes" => (k_here; with_reducible refine eq_none_B ?_)
  intro w mean mg mb dp un gd cn cs a ccd cl outer A₀ base h₀ L m s Q E B F X N T hk hd hu hret
  refine wpAny_call ?_
  k_dflt cell_enter
  walk_at "STEPS"
  all_goals exact hret _ _ _ _ ⟨rfl, rfl⟩ ‹_› ‹_›
end
section
theorem rm_ok (w : World) (news : List (Addr × Obj)) (dv : Value) : FnW w 12 259 [dv] news (RmR w dv news) := by
  k_with_none
  k_with "FOLD" => ((fail_if_success (fail_if_success k_fold)); (try ((with_reducible rename Fr _ _ _ _ => Fz); (fail_if_success (with_reducible have : Fr _ _ _ mk := Fz)); (with_reducible refine let mk := _; have Fy : Fr _ _ _ mk := Fz; ?_); clear Fz)); (try ((with_reducible rename News _ _ _ _ => Nz); (fail_if_success (with_reducible have : News _ _ _ lk := Nz)); (with_reducible refine let lk := _; have Ny : News _ _ _ lk := Nz; ?_); clear Nz)); with_reducible refine let qk := _; let ek := _; (?_ : wpAny _ _ _ qk ek _))
  k_with "STEPS" => ((try walk_at "FOLD"); repeat' (first | (k_unfold; (try dsimp only)) | (k_end; wrow_close) | (walk1; all_goals (try ((fail_if_success (with_reducible show wpAny _ _ (subscriptTail _ _ _ _) _ _ _)); dsimp only)); all_goals (try ((with_reducible first | show wpAny _ _ (exec _ _) _ _ _ | show wpAny _ _ (execs _ _) _ _ _); (try ((with_reducible first | refine genTok ?_ | refine genTokS ?_); intro tkG)); (try walk_at "FOLD")))) | (dsimp only; walk1)))
  k_with "ROOM" => (first | exact U0 ‹_› | exact U1 ‹_› (by exact rfl) | exact U2 ‹_› (by exact rfl) | exact U3 ‹_› (by exact rfl) | ((simp +zetaDelta only [depth_under_make, depth_under_kw, depth_in1, depth_deeper, depth_caller]); (try dsimp only [ktrTop]); first | omega | decide +kernel))
  k_with "UNITS" => (first | exact U1 ‹_› (by exact rfl) | exact U2 ‹_› (by exact rfl) | exact U3 ‹_› (by exact rfl) | exact U4 ‹_› (by exact rfl) | exact U5 ‹_› (by exact rfl) | (have hcL9 := cLine_is; (simp +zetaDelta only [units_under_make, units_in1, units_deeper, Around.mark_units, units_caller]); (try dsimp only [ktrTop]); first | (rw [hcL9]; decide) | omega | decide +kernel))
  k_with "NE" => (first | with_reducible assumption | (refine neN (Nat.ne_of_lt ?_); walk_at "LTS") | (refine neN (Nat.ne_of_gt ?_); walk_at "LTS") | (refine neN ?_; (try dsimp only); omega))
  k_with "ENTER" => (refine' Internal.code_defN ?k1 ?k2 ?k3 ?k4 ?k5 ?kA ?kF ?kK ?k6 ?k7 ?k8 ?k9 ?kB ?_ ?c2 ?c3 ?c4 ?c5; (case kA | kF => exact rfl); (case kK => first | exact rfl | assumption); (case k1 | k2 | k3 | k4 | k5 => k_asm); (case k6 | k7 => k_is); (case k8 => ktr_room); (case k9 => exact BindsTo.of_eq (by kernel_rfl)); (case c5 => decide); (case kB => exact locs rfl); (case c2 | c3 | c4 => exact rfl); k_whole; intro g' L' h' tk' FG' F' N' B' X' T'; (try dsimp only); (try k_lift B'); (try walk_at "FOLD"); (refine let Ak : Around := _; (?_ : wpAny _ Ak _ _ _ _)))
  k_with "LTS" => (first | with_reducible assumption | exact ltM (by with_reducible assumption) (by k_mem) | exact And.left (by with_reducible assumption) | exact And.left (And.right (by with_reducible assumption)) | exact And.right (And.right (by with_reducible assumption)) | exact And.left (And.right (And.right (by with_reducible assumption))) | exact And.right (And.right (And.right (by with_reducible assumption))))
  k_with "ALL" => (first | with_reducible assumption | exact ne_of_allLt ‹_›)
  k_with "MEM" => (first | exact List.Mem.head _ | exact Mem1 | exact Mem2 | exact Mem3 | exact Mem4 | exact Mem5 | (refine TL6 ?_; walk_at "MEM"))
  k_with "SUB" => (first | assumption | exact TL1 ‹_› | exact TL2 ‹_› | exact TL3 ‹_› | exact TL4 ‹_› | exact TL5 ‹_› | (refine TL6 ?_; walk_at "SUB"))
  k_with "RIGHT" => (first | assumption | exact AR1 ‹_› | exact AR2 ‹_› | exact AR3 ‹_› | exact AR4 ‹_› | exact AR5 ‹_› | exact AR6 ‹_› | exact AR7 ‹_› | exact AR8 ‹_› | exact AR9 ‹_› | exact AR10 ‹_› | exact AR11 ‹_› | exact AR12 ‹_› | exact AR13 ‹_› | exact AR14 ‹_› | exact AR15 ‹_› | exact AR16 ‹_›)
  k_with "call ref" => (k_here; (with_reducible show wpAny _ _ (call (Value.ref 259) _ _) _ _ _);  (k_dflt (refine' call_cls ?k1 ?k2 ?k3 ?k4 ?k5 ?k6 ?_; (case k1 | k2 | k3 => k_asm); (case k4 | k5 | k6 => k_is); k_whole; intro x' d' h' F' N' l1 l2; (try k_lt l1); (try k_lt2 l2); cell_enter)))
  intro mean mg mb dp un gd cn cs a ccd cl outer A₀ base h₀ L m s Q E B F X N T hk hd hu hret
  walk_at "STEPS"
  refine' hret _ _ _ _ (RmR.mk ⟨?y1, ?y2, ?y3⟩ ?yA ?yB ?yC ?yE) ‹_› (newsWeak ‹_› ?ysub)
  case ysub =>
    iterate 4 (refine sub_cons (by k_mem) ?_)
    exact fun p9 hp9 => by walk_at "SUB"
  case yA => assumption
  case yB => exact allLt_up ‹_› ‹_›
  case yC => exact (by walk_at "RIGHT")
  case yE => exact (by walk_at "RIGHT")
  all_goals first | walk_at "LTS" | omega
end
end Internal
namespace Internal
section
theorem put_66 (w : World) (rest : List (Addr × Obj)) (x dx S V : Addr) (dv : Value) (t1 t2 t3 u1 u2 u3 v1 v2 v3 a1 a2 a3 : Tok) (k1 k2 : Nat) (hne : @LT.lt Nat _ dx x ∧ @LT.lt Nat _ x S ∧ @LT.lt Nat _ S V) (hx : ∀ p ∈ rest, p.1 ≠ x) (hdx : ∀ p ∈ rest, p.1 ≠ dx) (hS : ∀ p ∈ rest, p.1 ≠ S) (hV : ∀ p ∈ rest, p.1 ≠ V) : FnW w 9 244 [.ref x, .int 66 u1, .int 66 u2, .str (Str.ofString "Lu") u3] ((x, instObj 259 dx) :: (dx, rmD w t1 t2 t3 dv S V) :: (S, listOf #[.int 0 v1, .int 65 v2, .int (65 + 1) v3] k1) :: (V, listOf #[.str (Str.ofString "Cn") a1, .str (Str.ofString "Lu") a2, .str (Str.ofString "Cn") a3] k2) :: rest) (PutR w x dx dv t1 t2 t3 (fun t => [.int 0 v1, .int 65 v2, .int (66 + 1) t]) (fun _ => [.str (Str.ofString "Cn") a1, .str (Str.ofString "Lu") a2, .str (Str.ofString "Cn") a3]) rest) := by
  k_with_none
  k_with "FOLD" => ((fail_if_success (fail_if_success k_fold)); (try ((with_reducible rename Fr _ _ _ _ => Fz); (fail_if_success (with_reducible have : Fr _ _ _ mk := Fz)); (with_reducible refine let mk := _; have Fy : Fr _ _ _ mk := Fz; ?_); clear Fz)); (try ((with_reducible rename News _ _ _ _ => Nz); (fail_if_success (with_reducible have : News _ _ _ lk := Nz)); (with_reducible refine let lk := _; have Ny : News _ _ _ lk := Nz; ?_); clear Nz)); with_reducible refine let qk := _; let ek := _; (?_ : wpAny _ _ _ qk ek _))
  k_with "STEPS" => ((try walk_at "FOLD"); repeat' (first | (k_unfold; (try dsimp only)) | (k_end; wrow_close) | (walk1; all_goals (try ((fail_if_success (with_reducible show wpAny _ _ (subscriptTail _ _ _ _) _ _ _)); dsimp only)); all_goals (try ((with_reducible first | show wpAny _ _ (exec _ _) _ _ _ | show wpAny _ _ (execs _ _) _ _ _); (try ((with_reducible first | refine genTok ?_ | refine genTokS ?_); intro tkG)); (try walk_at "FOLD")))) | (dsimp only; walk1)))
  k_with "ROOM" => (first | exact U0 ‹_› | exact U1 ‹_› (by exact rfl) | exact U2 ‹_› (by exact rfl) | exact U3 ‹_› (by exact rfl) | ((simp +zetaDelta only [depth_under_make, depth_under_kw, depth_in1, depth_deeper, depth_caller]); (try dsimp only [ktrTop]); first | omega | decide +kernel))
  k_with "UNITS" => (first | exact U1 ‹_› (by exact rfl) | exact U2 ‹_› (by exact rfl) | exact U3 ‹_› (by exact rfl) | exact U4 ‹_› (by exact rfl) | exact U5 ‹_› (by exact rfl) | (have hcL9 := cLine_is; (simp +zetaDelta only [units_under_make, units_in1, units_deeper, Around.mark_units, units_caller]); (try dsimp only [ktrTop]); first | (rw [hcL9]; decide) | omega | decide +kernel))
  k_with "NE" => (first | with_reducible assumption | (refine neN (Nat.ne_of_lt ?_); walk_at "LTS") | (refine neN (Nat.ne_of_gt ?_); walk_at "LTS") | (refine neN ?_; (try dsimp only); omega))
  k_with "ENTER" => (refine' Internal.code_defN ?k1 ?k2 ?k3 ?k4 ?k5 ?kA ?kF ?kK ?k6 ?k7 ?k8 ?k9 ?kB ?_ ?c2 ?c3 ?c4 ?c5; (case kA | kF => exact rfl); (case kK => first | exact rfl | assumption); (case k1 | k2 | k3 | k4 | k5 => k_asm); (case k6 | k7 => k_is); (case k8 => ktr_room); (case k9 => exact BindsTo.of_eq (by kernel_rfl)); (case c5 => decide); (case kB => exact locs rfl); (case c2 | c3 | c4 => exact rfl); k_whole; intro g' L' h' tk' FG' F' N' B' X' T'; (try dsimp only); (try k_lift B'); (try walk_at "FOLD"); (refine let Ak : Around := _; (?_ : wpAny _ Ak _ _ _ _)))
  k_with "LTS" => (first | with_reducible assumption | exact ltM (by with_reducible assumption) (by k_mem) | exact And.left (by with_reducible assumption) | exact And.left (And.right (by with_reducible assumption)) | exact And.right (And.right (by with_reducible assumption)) | exact And.left (And.right (And.right (by with_reducible assumption))) | exact And.right (And.right (And.right (by with_reducible assumption))))
  k_with "ALL" => (first | with_reducible assumption | exact ne_of_allLt ‹_›)
  k_with "MEM" => (first | exact List.Mem.head _ | exact Mem1 | exact Mem2 | exact Mem3 | exact Mem4 | exact Mem5 | (refine TL6 ?_; walk_at "MEM"))
  k_with "SUB" => (first | assumption | exact TL1 ‹_› | exact TL2 ‹_› | exact TL3 ‹_› | exact TL4 ‹_› | exact TL5 ‹_› | (refine TL6 ?_; walk_at "SUB"))
  k_with "FOLD" => ((with_reducible first | show wpAny _ _ (exec _ _) _ _ _ | show wpAny _ _ (execs _ _) _ _ _); (fail_if_success (fail_if_success k_fold)); with_reducible refine let qk := _; let ek := _; (?_ : wpAny _ _ _ qk ek _))
  k_with "RIGHT" => (first | assumption | exact AR1 ‹_› | exact AR2 ‹_› | exact AR3 ‹_› | exact AR4 ‹_› | exact AR5 ‹_› | exact AR6 ‹_› | exact AR7 ‹_› | exact AR8 ‹_› | exact AR9 ‹_› | exact AR10 ‹_› | exact AR11 ‹_› | exact AR12 ‹_› | exact AR13 ‹_› | exact AR14 ‹_› | exact AR15 ‹_› | exact AR16 ‹_› | exact AR17 ‹_› | exact AR18 ‹_›)
  k_with "call ref" => (k_here; (with_reducible show wpAny _ _ (call (Value.ref _) _ _) _ _ _); k_dflt (refine wpAny_call ?_; cell_enter))
  k_with "call ref" => (k_here; (with_reducible show wpAny _ _ (call (Value.ref 96) [Value.ref _, Value.int _ _] _) _ _ _); (k_dflt (((refine' Fn.useE (place_lit _ _ _ _ _ _ _ ?hS ?hi ?hs ?hz ?hv) ?kB ?kF ?kX ?kN ?kT ?kK ?kd ?ku ?_)); (case kN => (k_asm)); (case hS => (k_mem)); (case hi => (first | exact .cons _ _ (.nil) | exact .cons _ _ (.cons _ _ (.nil)) | exact .cons _ _ (.cons _ _ (.cons _ _ (.nil))) | exact .cons _ _ (.cons _ _ (.cons _ _ (.cons _ _ (.nil)))) | exact .cons _ _ (.cons _ _ (.cons _ _ (.cons _ _ (.cons _ _ (.nil))))) | exact .cons _ _ (.cons _ _ (.cons _ _ (.cons _ _ (.cons _ _ (.cons _ _ (.nil)))))) | exact .cons _ _ (.cons _ _ (.cons _ _ (.cons _ _ (.cons _ _ (.cons _ _ (.cons _ _ (.nil))))))) | exact .cons _ _ (.cons _ _ (.cons _ _ (.cons _ _ (.cons _ _ (.cons _ _ (.cons _ _ (.cons _ _ (.nil)))))))) | exact .cons _ _ (.cons _ _ (.cons _ _ (.cons _ _ (.cons _ _ (.cons _ _ (.cons _ _ (.cons _ _ (.cons _ _ (.nil))))))))) | exact .cons _ _ (.cons _ _ (.cons _ _ (.cons _ _ (.cons _ _ (.cons _ _ (.cons _ _ (.cons _ _ (.cons _ _ (.cons _ _ (.nil)))))))))) | exact .cons _ _ (.cons _ _ (.cons _ _ (.cons _ _ (.cons _ _ (.cons _ _ (.cons _ _ (.cons _ _ (.cons _ _ (.cons _ _ (.cons _ _ (.nil))))))))))) | exact .cons _ _ (.cons _ _ (.cons _ _ (.cons _ _ (.cons _ _ (.cons _ _ (.cons _ _ (.cons _ _ (.cons _ _ (.cons _ _ (.cons _ _ (.cons _ _ (.nil)))))))))))) | assumption | l_ints)); (case hs | hz => (simp; done)); (case hv => (simp [placeI, upto, List.takeWhile_cons]; try rfl)); (case kB | kF | kX | kT => (k_asm)); (case kK => first | exact rfl | assumption); (case kd => (ktr_room)); (case ku => (ktr_units)); (intro t9 h9 tk9 F9 N9))); (try dsimp only))
  intro mean mg mb dp un gd cn cs a ccd cl outer A₀ base h₀ L m s Q E B F X N T hk hd hu hret
  refine wpAny_call ?_
  k_dflt cell_enter
  walk_at "STEPS"
  refine' hret _ _ _ _ (PutR.mk ⟨?y1, ?y2, ?y3⟩ ?yA ?yB) ‹_› (newsWeak ‹_› ?ysub)
  case ysub =>
    iterate 4 (refine sub_cons (by k_mem) ?_)
    exact fun p9 hp9 => by walk_at "SUB"
  case yA => exact (by walk_at "RIGHT")
  case yB => exact (by walk_at "RIGHT")
  all_goals first | walk_at "LTS" | omega
end
end Internal
namespace Internal
noncomputable def GCS : List Int := [0, 9, 10, 65, 67, 19968, 19984, 57344, 57345, 94208, 94214]
noncomputable def GCV : List Str := ["Cn", "Cc", "Cn", "Lu", "Cn", "Lo", "Cn", "Co", "Cn", "Lo", "Cn"].map Str.ofString
noncomputable def NMS : List Int := [0, 65, 66, 19968, 19984, 94208, 94214]
noncomputable def NMV : List (Option (List UInt8)) := [none, some [76, 65, 84, 73, 78, 32, 67, 65, 80, 73, 84, 65, 76, 32, 76, 69, 84, 84, 69, 82, 32, 65], none, some [60, 67, 74, 75, 32, 73, 100, 101, 111, 103, 114, 97, 112, 104, 44, 32, 70, 105, 114, 115, 116, 62], none, some [60, 84, 97, 110, 103, 117, 116, 32, 73, 100, 101, 111, 103, 114, 97, 112, 104, 62], none]
noncomputable abbrev OptV (o : Option (List UInt8)) (v : Value) : Prop := (o = none ∧ v = .none) ∨ ∃ l t, o = some l ∧ v = .bytes (List.toArray l) t
section
variable {prog : Program} {w : World} {K : Type} [DecidableEq K] {knd : KeyKind prog w K} {A : Around} {E : Value → Shared → Prop} {s : Shared} {h₀ : Heap} {L d : Addr} {m : Str → Option Value} {news : List (Addr × Obj)} {o : Obj} {kvs : List (K × Value)} {k : K} {key v : Value}
theorem kda_notIn {Q : Value → Shared → Prop} (N : News h₀ L s.heap news) (hp : (d, o) ∈ news) (hd : o.IsDictOf knd kvs) (lo : (d == sysModules) = false) (hkey : knd.is k key = true) (b : Bool) (hb : (valueAt kvs k).isSome = b) (h : Q (.bool (!b)) { s with toks := s.toks + 1 }) :
    wpAny (model prog w) A (compareOp .NotIn key (.ref d)) Q E s := wpAny_notIn_of hkey lo (kda_dict N hp hd).mapOf (by rw [hb]; exact h)
end
section
theorem dput_ok (w : World) (led : List (Addr × Obj)) (X dX dd mm x dx Sa Va : Addr) (dv pr wo value : Value) (ta tb tc td t1 t2 t3 tn u1 u2 : Tok) (first last : Int) (nm : Str) (om : Obj) (kv2 : List (Str × Value)) (R : Value → List (Addr × Obj) → Prop)
    (hX : ∀ p ∈ [(X, instObj 315 dX), (dX, dataD w ta tb tc td dd mm pr wo), (mm, om), (x, instObj 259 dx), (dx, rmD w t1 t2 t3 dv Sa Va)], p ∈ led) (hom : om.IsDictOf (PySem.strKind PG w) kv2) (hmm : (mm == sysModules) = false) (hv : valueAt kv2 nm = some (.ref x))
    (hp : FnW w 9 244 [.ref x, .int first u1, .int last u2, value] led R) : FnW w 14 298 [.ref X, .str nm tn, .int first u1, .int last u2, value] led (fun r nw => r = .none ∧ ∃ r', R r' nw) := by
  k_with_none
  k_with "FOLD" => ((fail_if_success (fail_if_success k_fold)); (try ((with_reducible rename Fr _ _ _ _ => Fz); (fail_if_success (with_reducible have : Fr _ _ _ mk := Fz)); (with_reducible refine let mk := _; have Fy : Fr _ _ _ mk := Fz; ?_); clear Fz)); (try ((with_reducible rename News _ _ _ _ => Nz); (fail_if_success (with_reducible have : News _ _ _ lk := Nz)); (with_reducible refine let lk := _; have Ny : News _ _ _ lk := Nz; ?_); clear Nz)); with_reducible refine let qk := _; let ek := _; (?_ : wpAny _ _ _ qk ek _))
  k_with "STEPS" => ((try walk_at "FOLD"); repeat' (first | (k_unfold; (try dsimp only)) | (k_end; wrow_close) | (walk1; all_goals (try ((fail_if_success (with_reducible show wpAny _ _ (subscriptTail _ _ _ _) _ _ _)); dsimp only)); all_goals (try ((with_reducible first | show wpAny _ _ (exec _ _) _ _ _ | show wpAny _ _ (execs _ _) _ _ _); (try ((with_reducible first | refine genTok ?_ | refine genTokS ?_); intro tkG)); (try walk_at "FOLD")))) | (dsimp only; walk1)))
  k_with "ROOM" => (first | exact U0 ‹_› | exact U1 ‹_› (by exact rfl) | exact U2 ‹_› (by exact rfl) | exact U3 ‹_› (by exact rfl) | ((simp +zetaDelta only [depth_under_make, depth_under_kw, depth_in1, depth_deeper, depth_caller]); (try dsimp only [ktrTop]); first | omega | decide +kernel))
  k_with "UNITS" => (first | exact U1 ‹_› (by exact rfl) | exact U2 ‹_› (by exact rfl) | exact U3 ‹_› (by exact rfl) | exact U4 ‹_› (by exact rfl) | exact U5 ‹_› (by exact rfl) | (have hcL9 := cLine_is; (simp +zetaDelta only [units_under_make, units_in1, units_deeper, Around.mark_units, units_caller]); (try dsimp only [ktrTop]); first | (rw [hcL9]; decide) | omega | decide +kernel))
  k_with "NE" => (first | with_reducible assumption | (refine neN (Nat.ne_of_lt ?_); walk_at "LTS") | (refine neN (Nat.ne_of_gt ?_); walk_at "LTS") | (refine neN ?_; (try dsimp only); omega))
  k_with "ENTER" => (refine' Internal.code_defN ?k1 ?k2 ?k3 ?k4 ?k5 ?kA ?kF ?kK ?k6 ?k7 ?k8 ?k9 ?kB ?_ ?c2 ?c3 ?c4 ?c5; (case kA | kF => exact rfl); (case kK => first | exact rfl | assumption); (case k1 | k2 | k3 | k4 | k5 => k_asm); (case k6 | k7 => k_is); (case k8 => ktr_room); (case k9 => exact BindsTo.of_eq (by kernel_rfl)); (case c5 => decide); (case kB => exact locs rfl); (case c2 | c3 | c4 => exact rfl); k_whole; intro g' L' h' tk' FG' F' N' B' X' T'; (try dsimp only); (try k_lift B'); (try walk_at "FOLD"); (refine let Ak : Around := _; (?_ : wpAny _ Ak _ _ _ _)))
  k_with "LTS" => (first | with_reducible assumption | exact ltM (by with_reducible assumption) (by k_mem) | exact And.left (by with_reducible assumption) | exact And.left (And.right (by with_reducible assumption)) | exact And.right (And.right (by with_reducible assumption)) | exact And.left (And.right (And.right (by with_reducible assumption))) | exact And.right (And.right (And.right (by with_reducible assumption))))
  k_with "ALL" => (first | with_reducible assumption | exact ne_of_allLt ‹_›)
  k_with "MEM" => (first | exact List.Mem.head _ | exact Mem1 | exact Mem2 | exact Mem3 | exact Mem4 | exact Mem5 | (refine TL6 ?_; walk_at "MEM"))
  k_with "SUB" => (first | assumption | exact TL1 ‹_› | exact TL2 ‹_› | exact TL3 ‹_› | exact TL4 ‹_› | exact TL5 ‹_› | (refine TL6 ?_; walk_at "SUB"))
  k_with "call ref" => (k_here; (with_reducible show wpAny _ _ (call (Value.ref _) _ _) _ _ _); k_dflt (refine wpAny_call ?_; cell_enter))
  k_with "compareOp NotIn str ref" => (k_here; (with_reducible show wpAny _ _ (compareOp CmpOp.NotIn (Value.str _ _) (Value.ref _)) _ _ _); k_dflt (refine kda_notIn (knd := PySem.strKind _ _) (by k_asm) (by k_mem) ‹_› ‹_› (strKind_is _ _ _ _) true (by rw [show valueAt _ _ = some _ from by assumption]; exact rfl) ?_))
  k_with "getItem ref str" => (k_here; (k_dflt (refine kdt_getItem (knd := PySem.strKind _ _) (by k_asm) (by k_mem) ‹_› (strKind_is _ _ _ _) ‹_› ?_)))
  k_with "call ref" => (k_here; (with_reducible show wpAny _ _ (call (Value.ref 244) _ _) _ _ _); k_dflt (refine' FnW.use hp ?kB ?kF ?kX ?kN ?kT ?kK ?kd ?ku ?_; (case kN => exact newsWeak (by k_asm) (fun p hp => by walk_at "SUB")); (case kB | kF | kX | kT => k_asm); (case kK => first | exact rfl | assumption); (case kd => ktr_room); (case ku => ktr_units); (intro r9 nw9 h9 tk9 R9 F9 N9); (try dsimp only)))
  intro mean mg mb dp un gd cn cs a ccd cl outer A₀ base h₀ L m s Q E B F XX N T hk hd hu hret
  replace N := newsWeak N (small := (X, instObj 315 dX) :: (dX, dataD w ta tb tc td dd mm pr wo) :: (mm, om) :: (x, instObj 259 dx) :: (dx, rmD w t1 t2 t3 dv Sa Va) :: led) (fun p hp => (List.mem_append.mp (show p ∈ [(X, instObj 315 dX), (dX, dataD w ta tb tc td dd mm pr wo), (mm, om), (x, instObj 259 dx), (dx, rmD w t1 t2 t3 dv Sa Va)] ++ led from hp)).elim (hX p) id)
  refine wpAny_call ?_
  k_dflt cell_enter
  walk_at "STEPS"
  exact hret _ _ _ _ ⟨rfl, _, by assumption⟩ ‹_› ‹_›
end
end Internal
namespace Internal
noncomputable def RMst {α : Type} (w : World) (x c : Addr) (blk : List (Addr × Obj)) (gs : List Int) (Rv : α → Value → Prop) (gv : List α) : Prop :=
  ∃ (dx S V : Addr) (dv : Value) (t1 t2 t3 : Tok) (vs us : List Value) (k1 k2 : Nat), blk = [(x, instObj 259 dx), (dx, rmD w t1 t2 t3 dv S V), (S, listOf vs.toArray k1), (V, listOf us.toArray k2)] ∧
    IntsAre vs gs ∧ Paired Rv gv us ∧ (@LT.lt Nat _ dx x ∧ @LT.lt Nat _ x S ∧ @LT.lt Nat _ S V) ∧ @LT.lt Nat _ c dx
noncomputable def Sep (a b : List (Addr × Obj)) : Prop := ∀ p ∈ a, ∀ q ∈ b, q.1 ≠ p.1
theorem FnW.weak {w : World} {D : Nat} {f : Addr} {vs : List Value} {l : List (Addr × Obj)} {R R' : Value → List (Addr × Obj) → Prop} (c : FnW w D f vs l R) (h : ∀ r nw, R r nw → R' r nw) : FnW w D f vs l R' :=
  fun _ _ _ _ _ _ _ _ _ _ _ _ _ _ _ _ _ _ _ _ B F X N T hk hd hu ret => c _ _ _ _ _ _ _ _ _ _ _ _ _ _ _ _ _ _ _ _ B F X N T hk hd hu fun r nw h' t hr F' N' => ret r nw h' t (h r nw hr) F' N'
theorem FnW.re {w : World} {D : Nat} {f : Addr} {vs : List Value} {l l' : List (Addr × Obj)} {R R' : Value → List (Addr × Obj) → Prop} (c : FnW w D f vs l R) (h1 : ∀ p ∈ l, p ∈ l') (h2 : ∀ r nw, R r nw → ∃ nw', R' r nw' ∧ ∀ p ∈ nw', p ∈ nw) : FnW w D f vs l' R' :=
  fun _ _ _ _ _ _ _ _ _ _ _ _ _ _ _ _ _ _ _ _ B F X N T hk hd hu ret => c _ _ _ _ _ _ _ _ _ _ _ _ _ _ _ _ _ _ _ _ B F X (newsWeak N h1) T hk hd hu fun r nw h' t hr F' N' => by
    obtain ⟨nw', hr', hs⟩ := h2 r nw hr
    exact ret r nw' h' t hr' F' (newsWeak N' hs)
theorem paired_at {α β : Type} {G : α → β → Prop} {as : List α} {us : List β} (p : Paired G as us) : ∀ {k : Nat} {a : α}, as[k]? = some a → ∃ v, us[k]? = some v ∧ G a v := by
  induction p with
  | nil => intro k a h; simp at h
  | cons e r ih =>
    intro k a h
    cases k with
    | zero => simp at h; subst h; exact ⟨_, rfl, e⟩
    | succ k => exact ih (k := k) (by simpa using h)
theorem paired_ins {α β : Type} {G : α → β → Prop} {as : List α} {us : List β} (p : Paired G as us) : ∀ {k : Nat} {a b : α} {x y : β}, G a x → G b y → Paired G (as.take k ++ [a, b] ++ as.drop k) (us.take k ++ [x, y] ++ us.drop k) := by
  induction p with
  | nil => intro k a b x y h1 h2; simp only [List.take_nil, List.drop_nil, List.nil_append, List.append_nil]; exact .cons h1 (.cons h2 .nil)
  | cons e r ih =>
    intro k a b x y h1 h2
    cases k with
    | zero => exact .cons h1 (.cons h2 (.cons e r))
    | succ k => exact .cons e (ih h1 h2)
theorem ints_len' {vs : List Value} {ns : List Int} (h : IntsAre vs ns) : vs.length = ns.length := by
  induction h with
  | nil => rfl
  | cons _ _ _ ih => simp [ih]
theorem sep_of {x dx S V : Addr} {ox od oS oV : Obj} {rest : List (Addr × Obj)} (h : Sep [(x, ox), (dx, od), (S, oS), (V, oV)] rest) : (∀ p ∈ rest, p.1 ≠ x) ∧ (∀ p ∈ rest, p.1 ≠ dx) ∧ (∀ p ∈ rest, p.1 ≠ S) ∧ (∀ p ∈ rest, p.1 ≠ V) :=
  ⟨fun p hp => h (x, ox) (.head _) p hp, fun p hp => h (dx, od) (.tail _ (.head _)) p hp, fun p hp => h (S, oS) (.tail _ (.tail _ (.head _))) p hp, fun p hp => h (V, oV) (.tail _ (.tail _ (.tail _ (.head _)))) p hp⟩
theorem sep_mk {x dx S V : Addr} {ox od oS oV : Obj} {rest : List (Addr × Obj)} (h1 : ∀ p ∈ rest, p.1 ≠ x) (h2 : ∀ p ∈ rest, p.1 ≠ dx) (h3 : ∀ p ∈ rest, p.1 ≠ S) (h4 : ∀ p ∈ rest, p.1 ≠ V) : Sep [(x, ox), (dx, od), (S, oS), (V, oV)] rest := by
  intro p hp q hq
  simp only [List.mem_cons, List.not_mem_nil, or_false] at hp
  rcases hp with rfl | rfl | rfl | rfl
  · exact h1 q hq
  · exact h2 q hq
  · exact h3 q hq
  · exact h4 q hq
theorem rm_put {α : Type} {Rv : α → Value → Prop} {w : World} {rest blk : List (Addr × Obj)} {x c : Addr} {gs : List Int} {gv : List α} (h : RMst w x c blk gs Rv gv) (sep : Sep blk rest) (k : Nat) (first last : Int) (u1 u2 : Tok) (value : Value) (old new : α)
    (hs : gs.Pairwise (· < ·)) (hl : gv.length = gs.length) (hz : gs.length ≤ 100) (h1 : placeI gs (first - 1) = (k : Int)) (h2 : placeI gs (last + 1) = (k : Int)) (hk : k ≤ 100) (ho : gv[k]? = some old) (hfl : first ≤ last) (hlm : last < 1114111)
    (hnew : Rv new value) (hlike : ∀ bv, Rv old bv → ∀ nw, Fn 2 216 [bv, value] nw (Pure nw (IsBool false))) :
    FnW w 9 244 [.ref x, .int first u1, .int last u2, value] (blk ++ rest) (fun _ nw => ∃ blk', nw = blk' ++ rest ∧ RMst w x c blk' (gs.take (k + 1) ++ [first, last + 1] ++ gs.drop (k + 1)) Rv (gv.take (k + 1) ++ [new, old] ++ gv.drop (k + 1)) ∧ Sep blk' rest) := by
  (refine byG ?_; intro G9 hG9; obtain ⟨dx, S, V, dv, t1, t2, t3, vs, us, k1, k2, rfl, hi, hp, hne, hc⟩ := h; refine hG9 ?_; clear hG9 G9)
  (refine byG ?_; intro G9 hG9; obtain ⟨q1, q2, q3, q4⟩ := sep_of sep; refine hG9 ?_; clear hG9 G9)
  (refine byG ?_; intro G9 hG9; obtain ⟨bv, hb, hR⟩ := paired_at hp ho; refine hG9 ?_; clear hG9 G9)
  refine FnW.weak (put_ins k w rest x dx S V dv value bv t1 t2 t3 u1 u2 k1 k2 vs us gs first last hne q1 q2 q3 q4 hi hs (ints_len' hi) (by rw [← hl]; exact (Paired.length hp).symm) hz h1 h2 hk hb hfl hlm (hlike bv hR)) ?_
  intro r nw R9
  (refine byG ?_; intro G9 hG9; obtain ⟨S', V', t, k1', k2', rfl, rfl, ⟨l1, l2, l3⟩, a1, a2⟩ := R9; refine hG9 ?_; clear hG9 G9)
  refine ⟨_, rfl, ⟨dx, S', V', dv, t1, t2, t3, _, _, k1', k2', rfl, ?_, ?_, ⟨hne.1, l1, l2⟩, hc⟩, sep_mk q1 q2 (ne_of_allLt a1) (ne_of_allLt a2)⟩
  · exact ((hi.take (k + 1)).append (.cons _ _ (.cons _ _ .nil))).append (hi.drop (k + 1))
  · exact paired_ins hp hnew hR
end Internal
namespace Internal
noncomputable abbrev StrV (s : Str) (v : Value) : Prop := ∃ t, v = Value.str s t
noncomputable def HDm (w : World) (X c : Addr) (kv2 : List (Str × Value)) (H : List (Addr × Obj)) : Prop :=
  ∃ (dX dd mm : Addr) (ta tb tc td t : Tok) (pr wo : Value) (od om : Obj) (kvs : List (Str × Value)), H = [(X, instObj 315 dX), (dX, dataD w ta tb tc td dd mm pr wo), (dd, od), (mm, om)] ∧
    (od.IsDictOf (PySem.strKind PG w) kvs ∧ DI t 200 True kvs ∧ (dd == sysModules) = false) ∧ (om.IsDictOf (PySem.strKind PG w) kv2 ∧ (mm == sysModules) = false ∧ kv2.length ≤ 2) ∧
    (@LT.lt Nat _ c X ∧ @LT.lt Nat _ c dX ∧ @LT.lt Nat _ c dd ∧ @LT.lt Nat _ c mm) ∧ (X ≠ mm ∧ dX ≠ mm ∧ dd ≠ mm)
noncomputable def DQ (w : World) (X c : Addr) (rest : List (Addr × Obj)) (gP nP : List (Addr × Obj) → List (Str × Value) → Prop) (led : List (Addr × Obj)) : Prop :=
  ∃ bG bN H kv2, led = bG ++ (bN ++ (H ++ rest)) ∧ gP bG kv2 ∧ nP bN kv2 ∧ HDm w X c kv2 H ∧ Sep bG (bN ++ (H ++ rest)) ∧ Sep bN (bG ++ (H ++ rest)) ∧ Sep H rest
noncomputable def IsM {α : Type} (w : World) (c : Addr) (nm : Str) (gs : List Int) (Rv : α → Value → Prop) (gv : List α) (b : List (Addr × Obj)) (kv : List (Str × Value)) : Prop := ∃ x, RMst w x c b gs Rv gv ∧ valueAt kv nm = some (.ref x)
noncomputable def NoG (b : List (Addr × Obj)) (kv : List (Str × Value)) : Prop := b = [] ∧ kv = []
noncomputable def NoN (b : List (Addr × Obj)) (kv : List (Str × Value)) : Prop := b = [] ∧ valueAt kv kNm = none ∧ kv.length ≤ 1
noncomputable abbrev DSt (w : World) (X c : Addr) (rest : List (Addr × Obj)) (gs : List Int) (gv : List Str) (ns : List Int) (nv : List (Option (List UInt8))) (led : List (Addr × Obj)) : Prop := DQ w X c rest (IsM w c kGc gs StrV gv) (IsM w c kNm ns OptV nv) led
theorem mem_swap {α : Type} {a b r : List α} : ∀ p ∈ a ++ (b ++ r), p ∈ b ++ (a ++ r) := fun p hp => by
  simp only [List.mem_append] at hp ⊢
  rcases hp with h | h | h
  · exact .inr (.inl h)
  · exact .inl h
  · exact .inr (.inr h)
theorem sep_nil {R : List (Addr × Obj)} : Sep [] R := fun _ h => nomatch h
theorem sep_mono {a b b' : List (Addr × Obj)} (h : Sep a b) (s : ∀ p ∈ b', p ∈ b) : Sep a b' := fun p hp q hq => h p hp q (s q hq)
theorem sep_symm {a b : List (Addr × Obj)} (h : Sep a b) : Sep b a := fun p hp q hq => (h q hq p hp).symm
theorem sep_app {a b d : List (Addr × Obj)} (h : Sep a b) (g : Sep a d) : Sep a (b ++ d) := fun p hp q hq => (List.mem_append.mp hq).elim (h p hp q) (g p hp q)
theorem dput_any {w : World} {X c x : Addr} {led : List (Addr × Obj)} {R : Value → List (Addr × Obj) → Prop} {α : Type} {Rv : α → Value → Prop} {gs : List Int} {gv : List α} {blk H : List (Addr × Obj)} {kv2 : List (Str × Value)} (nm : Str) (first last : Int) (tn u1 u2 : Tok) (value : Value)
    (hb : RMst w x c blk gs Rv gv) (hH : HDm w X c kv2 H) (m1 : ∀ p ∈ blk, p ∈ led) (m2 : ∀ p ∈ H, p ∈ led) (hv : valueAt kv2 nm = some (.ref x))
    (hp : FnW w 9 244 [.ref x, .int first u1, .int last u2, value] led R) : FnW w 14 298 [.ref X, .str nm tn, .int first u1, .int last u2, value] led (fun r nw => r = .none ∧ ∃ r', R r' nw) := by
  (refine byG ?_; intro G9 hG9; obtain ⟨dx, S, V, dv, t1, t2, t3, vs, us, k1, k2, rfl, _, _, _, _⟩ := hb; refine hG9 ?_; clear hG9 G9)
  (refine byG ?_; intro G9 hG9; obtain ⟨dX, dd, mm, ta, tb, tc, td, t, pr, wo, od, om, kvs, rfl, ⟨_, _, _⟩, ⟨hom, hmm, _⟩, _⟩ := hH; refine hG9 ?_; clear hG9 G9)
  refine dput_ok w led X dX dd mm x dx S V dv pr wo value ta tb tc td t1 t2 t3 tn u1 u2 first last nm om kv2 R (fun p hq => ?_) hom hmm hv hp
  · simp only [List.mem_cons, List.not_mem_nil, or_false] at hq
    rcases hq with rfl | rfl | rfl | rfl | rfl
    · exact m2 _ (.head _)
    · exact m2 _ (.tail _ (.head _))
    · exact m2 _ (.tail _ (.tail _ (.tail _ (.head _))))
    · exact m1 _ (.head _)
    · exact m1 _ (.tail _ (.head _))
theorem dput_g {w : World} {X c : Addr} {rest led : List (Addr × Obj)} {gs ns : List Int} {gv : List Str} {nv : List (Option (List UInt8))} (h : DSt w X c rest gs gv ns nv led) (k : Nat) (first last : Int) (tn u1 u2 tv : Tok) (old new : Str)
    (hs : gs.Pairwise (· < ·)) (hl : gv.length = gs.length) (hz : gs.length ≤ 100) (h1 : placeI gs (first - 1) = (k : Int)) (h2 : placeI gs (last + 1) = (k : Int)) (hk : k ≤ 100) (ho : gv[k]? = some old) (hfl : first ≤ last) (hlm : last < 1114111) (hne : old ≠ new) :
    FnW w 14 298 [.ref X, .str kGc tn, .int first u1, .int last u2, .str new tv] led (fun r nw => r = .none ∧ DSt w X c rest (gs.take (k + 1) ++ [first, last + 1] ++ gs.drop (k + 1)) (gv.take (k + 1) ++ [new, old] ++ gv.drop (k + 1)) ns nv nw) := by
  (refine byG ?_; intro G9 hG9; obtain ⟨bG, bN, H, kv2, rfl, hG, hN, hH, sG, sN, sH⟩ := h; refine hG9 ?_; clear hG9 G9)
  (refine byG ?_; intro G9 hG9; obtain ⟨xg, hG, ev⟩ := hG; refine hG9 ?_; clear hG9 G9)
  refine FnW.weak (dput_any kGc first last tn u1 u2 _ hG hH (fun p hp => List.mem_append_left _ hp) (fun p hp => List.mem_append_right _ (List.mem_append_right _ (List.mem_append_left _ hp))) ev
    (rm_put hG sG k first last u1 u2 (.str new tv) old new hs hl hz h1 h2 hk ho hfl hlm ⟨_, rfl⟩ (fun bv ⟨t, e⟩ nw => e ▸ like_str old new hne t tv nw))) ?_
  intro r nw R9
  (refine byG ?_; intro G9 hG9; obtain ⟨rfl, _, bG', rfl, hG', sG'⟩ := R9; refine hG9 ?_; clear hG9 G9)
  exact ⟨rfl, bG', bN, H, kv2, rfl, ⟨xg, hG', ev⟩, hN, hH, sG', sep_app (sep_symm (sep_mono sG' (fun p hp => List.mem_append_left _ hp))) (sep_mono sN (fun p hp => List.mem_append_right _ hp)), sH⟩
theorem dput_n {w : World} {X c : Addr} {rest led : List (Addr × Obj)} {gs ns : List Int} {gv : List Str} {nv : List (Option (List UInt8))} (h : DSt w X c rest gs gv ns nv led) (k : Nat) (first last : Int) (tn u1 u2 tv : Tok) (new : List UInt8)
    (hs : ns.Pairwise (· < ·)) (hl : nv.length = ns.length) (hz : ns.length ≤ 100) (h1 : placeI ns (first - 1) = (k : Int)) (h2 : placeI ns (last + 1) = (k : Int)) (hk : k ≤ 100) (ho : nv[k]? = some none) (hfl : first ≤ last) (hlm : last < 1114111) :
    FnW w 14 298 [.ref X, .str kNm tn, .int first u1, .int last u2, .bytes (List.toArray new) tv] led (fun r nw => r = .none ∧ DSt w X c rest gs gv (ns.take (k + 1) ++ [first, last + 1] ++ ns.drop (k + 1)) (nv.take (k + 1) ++ [some new, none] ++ nv.drop (k + 1)) nw) := by
  (refine byG ?_; intro G9 hG9; obtain ⟨bG, bN, H, kv2, rfl, hG, hN, hH, sG, sN, sH⟩ := h; refine hG9 ?_; clear hG9 G9)
  (refine byG ?_; intro G9 hG9; obtain ⟨xn, hN, ev⟩ := hN; refine hG9 ?_; clear hG9 G9)
  refine FnW.re (dput_any (led := bN ++ (bG ++ (H ++ rest))) kNm first last tn u1 u2 _ hN hH (fun p hp => List.mem_append_left _ hp) (fun p hp => List.mem_append_right _ (List.mem_append_right _ (List.mem_append_left _ hp))) ev
    (rm_put hN sN k first last u1 u2 (.bytes (List.toArray new) tv) none (some new) hs hl hz h1 h2 hk ho hfl hlm (.inr ⟨_, _, rfl, rfl⟩) (fun bv hb nw => ?_))) mem_swap ?_
  · rcases hb with ⟨_, rfl⟩ | ⟨_, _, e, _⟩
    · exact like_nb _ _ _
    · cases e
  intro r nw R9
  (refine byG ?_; intro G9 hG9; obtain ⟨rfl, _, bN', rfl, hN', sN'⟩ := R9; refine hG9 ?_; clear hG9 G9)
  exact ⟨_, ⟨rfl, bG, bN', H, kv2, rfl, hG, ⟨xn, hN', ev⟩, hH, sep_app (sep_symm (sep_mono sN' (fun p hp => List.mem_append_left _ hp))) (sep_mono sG (fun p hp => List.mem_append_right _ hp)), sN', sH⟩, mem_swap⟩
theorem str_pair {s : Str} {ss : List Str} {us : List Value} (h : Paired StrV (s :: ss) us) : ∃ t us', us = .str s t :: us' ∧ Paired StrV ss us' := by
  cases h with
  | cons e r => obtain ⟨t, rfl⟩ := e; exact ⟨t, _, rfl, r⟩
theorem dput_66 {w : World} {X c : Addr} {rest led : List (Addr × Obj)} {ns : List Int} {nv : List (Option (List UInt8))} (h : DSt w X c rest [0, 65, 66] [Str.ofString "Cn", Str.ofString "Lu", Str.ofString "Cn"] ns nv led) (tn u1 u2 tv : Tok) :
    FnW w 14 298 [.ref X, .str kGc tn, .int 66 u1, .int 66 u2, .str (Str.ofString "Lu") tv] led (fun r nw => r = .none ∧ DSt w X c rest [0, 65, 67] [Str.ofString "Cn", Str.ofString "Lu", Str.ofString "Cn"] ns nv nw) := by
  (refine byG ?_; intro G9 hG9; obtain ⟨bG, bN, H, kv2, rfl, hG, hN, hH, sG, sN, sH⟩ := h; refine hG9 ?_; clear hG9 G9)
  (refine byG ?_; intro G9 hG9; obtain ⟨xg, hG, ev⟩ := hG; refine hG9 ?_; clear hG9 G9)
  have hG0 := hG
  (refine byG ?_; intro G9 hG9; obtain ⟨dx, S, V, dv, t1, t2, t3, vs, us, k1, k2, rfl, hi, hp, hne, hc⟩ := hG; refine hG9 ?_; clear hG9 G9)
  (refine byG ?_; intro G9 hG9; obtain ⟨q1, q2, q3, q4⟩ := sep_of sG; refine hG9 ?_; clear hG9 G9)
  (refine byG ?_; intro G9 hG9; obtain ⟨v1, vs1, e1, hi1⟩ := hi.cons_inv; refine hG9 ?_; clear hG9 G9)
  (refine byG ?_; intro G9 hG9; obtain ⟨v2, vs2, e2, hi2⟩ := hi1.cons_inv; refine hG9 ?_; clear hG9 G9)
  (refine byG ?_; intro G9 hG9; obtain ⟨v3, vs3, e3, hi3⟩ := hi2.cons_inv; refine hG9 ?_; clear hG9 G9)
  have e4 := hi3.nil_inv
  subst e1 e2 e3 e4
  (refine byG ?_; intro G9 hG9; obtain ⟨a1, us1, f1, hp1⟩ := str_pair hp; refine hG9 ?_; clear hG9 G9)
  (refine byG ?_; intro G9 hG9; obtain ⟨a2, us2, f2, hp2⟩ := str_pair hp1; refine hG9 ?_; clear hG9 G9)
  (refine byG ?_; intro G9 hG9; obtain ⟨a3, us3, f3, hp3⟩ := str_pair hp2; refine hG9 ?_; clear hG9 G9)
  subst f1 f2 f3
  cases hp3
  refine FnW.weak (dput_any kGc 66 66 tn u1 u2 _ hG0 hH (fun p hp => List.mem_append_left _ hp) (fun p hp => List.mem_append_right _ (List.mem_append_right _ (List.mem_append_left _ hp))) ev
    (put_66 w (bN ++ (H ++ rest)) xg dx S V dv t1 t2 t3 u1 u2 tv v1 v2 v3 a1 a2 a3 k1 k2 hne q1 q2 q3 q4)) ?_
  intro r nw R9
  (refine byG ?_; intro G9 hG9; obtain ⟨rfl, _, S', V', t, k1', k2', _, rfl, ⟨l1, l2, l3⟩, b1, b2⟩ := R9; refine hG9 ?_; clear hG9 G9)
  have sG' : Sep [(xg, instObj 259 dx), (dx, rmD w t1 t2 t3 dv S' V'), (S', listOf [.int 0 v1, .int 65 v2, .int (66 + 1) t].toArray k1'), (V', listOf [.str (Str.ofString "Cn") a1, .str (Str.ofString "Lu") a2, .str (Str.ofString "Cn") a3].toArray k2')] (bN ++ (H ++ rest)) := sep_mk q1 q2 (ne_of_allLt b1) (ne_of_allLt b2)
  exact ⟨rfl, _, bN, H, kv2, rfl, ⟨xg, ⟨dx, S', V', dv, t1, t2, t3, _, _, k1', k2', rfl, .cons _ _ (.cons _ _ (.cons _ _ .nil)), .cons ⟨_, rfl⟩ (.cons ⟨_, rfl⟩ (.cons ⟨_, rfl⟩ .nil)), ⟨hne.1, l1, l2⟩, hc⟩, ev⟩, hN, hH, sG',
    sep_app (sep_symm (sep_mono sG' (fun p hp => List.mem_append_left _ hp))) (sep_mono sN (fun p hp => List.mem_append_right _ hp)), sH⟩
theorem DQ.addT {w : World} {X c : Addr} {T R led : List (Addr × Obj)} {gP nP : List (Addr × Obj) → List (Str × Value) → Prop} (h : DQ w X c R gP nP led) (hT : ∀ q ∈ T, ∀ p ∈ led, p.1 ≠ q.1) :
    ∃ led2, DQ w X c (T ++ R) gP nP led2 ∧ ∀ p ∈ led2, p ∈ T ∨ p ∈ led := by
  obtain ⟨bG, bN, H, kv2, rfl, hG, hN, hH, sG, sN, sH⟩ := h
  have tG : Sep bG T := fun p hp q hq e => hT q hq p (List.mem_append_left _ hp) e.symm
  have tN : Sep bN T := fun p hp q hq e => hT q hq p (List.mem_append_right _ (List.mem_append_left _ hp)) e.symm
  have tH : Sep H T := fun p hp q hq e => hT q hq p (List.mem_append_right _ (List.mem_append_right _ (List.mem_append_left _ hp))) e.symm
  have mv : ∀ {a : List (Addr × Obj)}, ∀ p ∈ a ++ (H ++ (T ++ R)), p ∈ T ++ (a ++ (H ++ R)) := fun p hp => by
    simp only [List.mem_append] at hp ⊢
    rcases hp with h | h | h | h
    · exact .inr (.inl h)
    · exact .inr (.inr (.inl h))
    · exact .inl h
    · exact .inr (.inr (.inr h))
  refine ⟨_, ⟨bG, bN, H, kv2, rfl, hG, hN, hH, sep_mono (sep_app tG sG) mv, sep_mono (sep_app tN sN) mv, sep_app tH sH⟩, fun p hp => ?_⟩
  simp only [List.mem_append] at hp ⊢
  rcases hp with h | h | h | h | h
  · exact .inr (.inl h)
  · exact .inr (.inr (.inl h))
  · exact .inr (.inr (.inr (.inl h)))
  · exact .inl h
  · exact .inr (.inr (.inr (.inr h)))
theorem DQ.cut {w : World} {X c : Addr} {T R led : List (Addr × Obj)} {gP nP : List (Addr × Obj) → List (Str × Value) → Prop} (h : DQ w X c (T ++ R) gP nP led) :
    ∃ led2, DQ w X c R gP nP led2 ∧ (∀ p ∈ led2, p ∈ led) ∧ (∀ p ∈ T ++ R, p ∈ led) ∧ ∀ q ∈ T, (∀ p ∈ R, p.1 ≠ q.1) → ∀ p ∈ led2, p.1 ≠ q.1 := by
  obtain ⟨bG, bN, H, kv2, rfl, hG, hN, hH, sG, sN, sH⟩ := h
  have m1 : ∀ {a : List (Addr × Obj)}, ∀ p ∈ a ++ (H ++ R), p ∈ a ++ (H ++ (T ++ R)) := fun p hp => by
    simp only [List.mem_append] at hp ⊢
    rcases hp with h | h | h
    · exact .inl h
    · exact .inr (.inl h)
    · exact .inr (.inr (.inr h))
  refine ⟨bG ++ (bN ++ (H ++ R)), ⟨bG, bN, H, kv2, rfl, hG, hN, hH, sep_mono sG m1, sep_mono sN m1, sep_mono sH (fun p hp => List.mem_append_right _ hp)⟩, fun p hp => ?_, fun p hp => ?_, fun q hq hR p hp => ?_⟩
  · rcases List.mem_append.mp hp with h | h
    · exact List.mem_append_left _ h
    · exact List.mem_append_right _ (m1 p h)
  · exact List.mem_append_right _ (List.mem_append_right _ (List.mem_append_right _ hp))
  · rcases List.mem_append.mp hp with h | h
    · exact fun e => sG p h q (List.mem_append_right _ (List.mem_append_right _ (List.mem_append_left _ hq))) e.symm
    rcases List.mem_append.mp h with h | h
    · exact fun e => sN p h q (List.mem_append_right _ (List.mem_append_right _ (List.mem_append_left _ hq))) e.symm
    rcases List.mem_append.mp h with h | h
    · exact fun e => sH p h q (List.mem_append_left _ hq) e.symm
    · exact hR p h
theorem DQ.head {w : World} {X c : Addr} {R led : List (Addr × Obj)} {gP nP : List (Addr × Obj) → List (Str × Value) → Prop} (h : DQ w X c R gP nP led) :
    ∃ (dX dd mm : Addr) (ta tb tc td : Tok) (pr wo : Value), (X, instObj 315 dX) ∈ led ∧ (dX, dataD w ta tb tc td dd mm pr wo) ∈ led := by
  (refine byG ?_; intro G9 hG9; obtain ⟨bG, bN, H, kv2, rfl, hG, hN, ⟨dX, dd, mm, ta, tb, tc, td, t, pr, wo, od, om, kvs, rfl, _, _, _⟩, sG, sN, sH⟩ := h; refine hG9 ?_; clear hG9 G9)
  exact ⟨dX, dd, mm, ta, tb, tc, td, pr, wo, List.mem_append_right _ (List.mem_append_right _ (.head _)), List.mem_append_right _ (List.mem_append_right _ (.tail _ (.head _)))⟩
theorem dput_i {w : World} {X c I : Addr} {oI : Obj} {R led l : List (Addr × Obj)} {gP nP gP' nP' : List (Addr × Obj) → List (Str × Value) → Prop} {vs : List Value} (h : DQ w X c R gP nP led) (off : ∀ p ∈ led, p.1 ≠ I) (hR : ∀ p ∈ R, p.1 ≠ I) (hI : (I, oI) ∈ l) (hs : ∀ p ∈ led, p ∈ l) (hc : ∃ o, (c, o) ∈ R)
    (hD : ∀ rest led, (∃ o, (c, o) ∈ rest) → DQ w X c rest gP nP led → FnW w 14 298 vs led (fun r nw => r = .none ∧ DQ w X c rest gP' nP' nw)) :
    FnW w 14 298 vs l (fun r nw => r = .none ∧ ∃ (led' : List (Addr × Obj)) (dX dd mm : Addr) (ta tb tc td : Tok) (pr wo : Value), nw = (I, oI) :: (R ++ ((X, instObj 315 dX) :: (dX, dataD w ta tb tc td dd mm pr wo) :: led')) ∧ DQ w X c R gP' nP' led' ∧ (∀ p ∈ led', p.1 ≠ I) ∧ ∀ p ∈ R ++ ((X, instObj 315 dX) :: (dX, dataD w ta tb tc td dd mm pr wo) :: led'), p.1 ≠ I) := by
  obtain ⟨led2, h2, hm⟩ := h.addT (T := [(I, oI)]) (fun q hq p hp => by rw [List.mem_singleton.mp hq]; exact off p hp)
  refine FnW.re (hD _ _ (hc.elim fun o h => ⟨o, .tail _ h⟩) h2) (fun p hp => (hm p hp).elim (fun e => (List.mem_singleton.mp e) ▸ hI) (hs p)) ?_
  intro r nw R9
  (refine byG ?_; intro G9 hG9; obtain ⟨rfl, h3⟩ := R9; refine hG9 ?_; clear hG9 G9)
  (refine byG ?_; intro G9 hG9; obtain ⟨led', h4, m1, m2, m3⟩ := DQ.cut (T := [(I, oI)]) (R := R) h3; refine hG9 ?_; clear hG9 G9)
  (refine byG ?_; intro G9 hG9; obtain ⟨dX, dd, mm, ta, tb, tc, td, pr, wo, e1, e2⟩ := h4.head; refine hG9 ?_; clear hG9 G9)
  have o4 := m3 _ (.head _) hR
  have o5 : ∀ p ∈ R ++ ((X, instObj 315 dX) :: (dX, dataD w ta tb tc td dd mm pr wo) :: led'), p.1 ≠ I := fun p hp => by
    rcases List.mem_append.mp hp with h | h
    · exact hR p h
    rcases List.mem_cons.mp h with rfl | h
    · exact o4 _ e1
    rcases List.mem_cons.mp h with rfl | h
    · exact o4 _ e2
    · exact o4 _ h
  refine ⟨_, ⟨rfl, led', dX, dd, mm, ta, tb, tc, td, pr, wo, rfl, h4, o4, o5⟩, fun p hp => ?_⟩
  rcases List.mem_cons.mp hp with rfl | hp
  · exact m2 _ (.head _)
  rcases List.mem_append.mp hp with h | h
  · exact m2 _ (.tail _ h)
  rcases List.mem_cons.mp h with rfl | h
  · exact m1 _ e1
  rcases List.mem_cons.mp h with rfl | h
  · exact m1 _ e2
  · exact m1 _ h
theorem DQ.rest_mem {w : World} {X c : Addr} {R led : List (Addr × Obj)} {gP nP : List (Addr × Obj) → List (Str × Value) → Prop} (h : DQ w X c R gP nP led) : ∀ p ∈ R, p ∈ led := by
  obtain ⟨bG, bN, H, kv2, rfl, _⟩ := h
  exact fun p hp => List.mem_append_right _ (List.mem_append_right _ (List.mem_append_right _ hp))
theorem dput_f {w : World} {X c I a0 a1 a2 a3 a4 : Addr} {oI o0 o1 o2 o3 o4 : Obj} {e1 e2 : Addr × Obj} {R led : List (Addr × Obj)} {gP nP gP' nP' : List (Addr × Obj) → List (Str × Value) → Prop} {vs : List Value} (h : DQ w X c R gP nP led)
    (f0 : AllLt a0 ((a1, o1) :: (a2, o2) :: (a3, o3) :: (a4, o4) :: e1 :: e2 :: led)) (f1 : AllLt a1 ((a2, o2) :: (a3, o3) :: (a4, o4) :: e1 :: e2 :: led)) (f2 : AllLt a2 ((a3, o3) :: (a4, o4) :: e1 :: e2 :: led)) (f3 : AllLt a3 ((a4, o4) :: e1 :: e2 :: led)) (f4 : AllLt a4 (e1 :: e2 :: led)) (fI : AllLt I ((a0, o0) :: (a1, o1) :: (a2, o2) :: (a3, o3) :: (a4, o4) :: e1 :: e2 :: led)) (hc : ∃ o, (c, o) ∈ R)
    (hD : ∀ rest led, (∃ o, (c, o) ∈ rest) → DQ w X c rest gP nP led → FnW w 14 298 vs led (fun r nw => r = .none ∧ DQ w X c rest gP' nP' nw)) :
    FnW w 14 298 vs ((I, oI) :: (a0, o0) :: (a1, o1) :: (a2, o2) :: (a3, o3) :: (a4, o4) :: e1 :: e2 :: led) (fun r nw => r = .none ∧ ∃ (led' : List (Addr × Obj)) (dX dd mm : Addr) (ta tb tc td : Tok) (pr wo : Value), nw = (I, oI) :: (([(a0, o0), (a1, o1), (a2, o2), (a3, o3), (a4, o4)] ++ R) ++ ((X, instObj 315 dX) :: (dX, dataD w ta tb tc td dd mm pr wo) :: led')) ∧ DQ w X c ([(a0, o0), (a1, o1), (a2, o2), (a3, o3), (a4, o4)] ++ R) gP' nP' led' ∧ (∀ p ∈ led', p.1 ≠ I) ∧ ∀ p ∈ ([(a0, o0), (a1, o1), (a2, o2), (a3, o3), (a4, o4)] ++ R) ++ ((X, instObj 315 dX) :: (dX, dataD w ta tb tc td dd mm pr wo) :: led'), p.1 ≠ I) := by
  have nI := ne_of_allLt fI
  have hT : ∀ q ∈ [(a0, o0), (a1, o1), (a2, o2), (a3, o3), (a4, o4)], ∀ p ∈ led, p.1 ≠ q.1 := by
    refine List.forall_mem_cons.mpr ⟨fun p hp => ne_of_allLt f0 p ?_, List.forall_mem_cons.mpr ⟨fun p hp => ne_of_allLt f1 p ?_, List.forall_mem_cons.mpr ⟨fun p hp => ne_of_allLt f2 p ?_, List.forall_mem_cons.mpr ⟨fun p hp => ne_of_allLt f3 p ?_, List.forall_mem_cons.mpr ⟨fun p hp => ne_of_allLt f4 p ?_, List.forall_mem_nil _⟩⟩⟩⟩⟩
    · exact TL6 hp
    · exact TL5 hp
    · exact TL4 hp
    · exact TL3 hp
    · exact TL2 hp
  have hr : ∀ p ∈ R, p.1 ≠ I := fun p hp => nI p (TL7 (h.rest_mem p hp))
  have hTI : ∀ p ∈ [(a0, o0), (a1, o1), (a2, o2), (a3, o3), (a4, o4)], p.1 ≠ I := fun p hp => nI p (List.mem_append_left (bs := e1 :: e2 :: led) hp)
  obtain ⟨led2, h2, hm⟩ := h.addT hT
  exact dput_i h2 (fun p hp => (hm p hp).elim (hTI p) (fun e => nI p (TL7 e))) (fun p hp => (List.mem_append.mp hp).elim (hTI p) (hr p)) (.head _) (fun p hp => (hm p hp).elim (fun e => .tail _ (List.mem_append_left (bs := e1 :: e2 :: led) e)) (fun e => TL8 e)) (hc.elim fun o h => ⟨o, List.mem_append_right _ h⟩) hD
theorem dput_o {w : World} {X c : Addr} {R led l : List (Addr × Obj)} {gP nP gP' nP' : List (Addr × Obj) → List (Str × Value) → Prop} {vs : List Value} (h : DQ w X c R gP nP led) (hs : ∀ p ∈ led, p ∈ l)
    (hD : ∀ rest led, DQ w X c rest gP nP led → FnW w 14 298 vs led (fun r nw => r = .none ∧ DQ w X c rest gP' nP' nw)) :
    FnW w 14 298 vs l (fun r nw => r = .none ∧ ∃ (led' : List (Addr × Obj)) (dX dd mm : Addr) (ta tb tc td : Tok) (pr wo : Value), nw = (X, instObj 315 dX) :: (dX, dataD w ta tb tc td dd mm pr wo) :: led' ∧ DQ w X c R gP' nP' led') := by
  refine FnW.re (hD _ _ h) hs ?_
  rintro r nw ⟨rfl, h4⟩
  obtain ⟨dX, dd, mm, ta, tb, tc, td, pr, wo, e1, e2⟩ := h4.head
  refine ⟨_, ⟨rfl, nw, dX, dd, mm, ta, tb, tc, td, pr, wo, rfl, h4⟩, fun p hp => ?_⟩
  rcases List.mem_cons.mp hp with rfl | h
  · exact e1
  rcases List.mem_cons.mp h with rfl | h
  · exact e2
  · exact h
theorem PutI.k {w : World} {X c I : Addr} {oI : Obj} {R : List (Addr × Obj)} {gP nP : List (Addr × Obj) → List (Str × Value) → Prop} : ∀ P : Value → List (Addr × Obj) → Prop, (∀ (led' : List (Addr × Obj)) (dX dd mm : Addr) (ta tb tc td : Tok) (pr wo : Value), DQ w X c R gP nP led' → (∀ p ∈ led', p.1 ≠ I) → (∀ p ∈ R ++ ((X, instObj 315 dX) :: (dX, dataD w ta tb tc td dd mm pr wo) :: led'), p.1 ≠ I) → P .none ((I, oI) :: (R ++ ((X, instObj 315 dX) :: (dX, dataD w ta tb tc td dd mm pr wo) :: led')))) →
    ∀ r nw, (r = .none ∧ ∃ (led' : List (Addr × Obj)) (dX dd mm : Addr) (ta tb tc td : Tok) (pr wo : Value), nw = (I, oI) :: (R ++ ((X, instObj 315 dX) :: (dX, dataD w ta tb tc td dd mm pr wo) :: led')) ∧ DQ w X c R gP nP led' ∧ (∀ p ∈ led', p.1 ≠ I) ∧ ∀ p ∈ R ++ ((X, instObj 315 dX) :: (dX, dataD w ta tb tc td dd mm pr wo) :: led'), p.1 ≠ I) → P r nw := by rintro P h r nw ⟨rfl, led', dX, dd, mm, ta, tb, tc, td, pr, wo, rfl, D, a, b⟩; exact h led' dX dd mm ta tb tc td pr wo D a b
theorem PutO.k {w : World} {X c : Addr} {R : List (Addr × Obj)} {gP nP : List (Addr × Obj) → List (Str × Value) → Prop} : ∀ P : Value → List (Addr × Obj) → Prop, (∀ (led' : List (Addr × Obj)) (dX dd mm : Addr) (ta tb tc td : Tok) (pr wo : Value), DQ w X c R gP nP led' → P .none ((X, instObj 315 dX) :: (dX, dataD w ta tb tc td dd mm pr wo) :: led')) →
    ∀ r nw, (r = .none ∧ ∃ (led' : List (Addr × Obj)) (dX dd mm : Addr) (ta tb tc td : Tok) (pr wo : Value), nw = (X, instObj 315 dX) :: (dX, dataD w ta tb tc td dd mm pr wo) :: led' ∧ DQ w X c R gP nP led') → P r nw := by rintro P h r nw ⟨rfl, led', dX, dd, mm, ta, tb, tc, td, pr, wo, rfl, D⟩; exact h led' dX dd mm ta tb tc td pr wo D
end Internal
namespace Internal
noncomputable abbrev rmB (w : World) (x dx S V : Addr) (dv : Value) (t1 t2 t3 : Tok) (ss us : List Value) (k1 k2 : Nat) : List (Addr × Obj) := [(x, instObj 259 dx), (dx, rmD w t1 t2 t3 dv S V), (S, listOf ss.toArray k1), (V, listOf us.toArray k2)]
noncomputable def FreshR (w : World) (X dX dd mm : Addr) (ta tb tc td : Tok) (pr wo value dv : Value) (od : Obj) (nm : Str) (first last : Int) (u1 : Tok) (kv2 : List (Str × Value)) (rest : List (Addr × Obj)) (r : Value) (nw : List (Addr × Obj)) : Prop :=
  ∃ x dx S V t1 t2 t3 v0 t k1 k2 om', r = .none ∧ nw = rmB w x dx S V dv t1 t2 t3 [.int 0 v0, .int first u1, .int (last + 1) t] [dv, value, dv] k1 k2 ++ ([(X, instObj 315 dX), (dX, dataD w ta tb tc td dd mm pr wo), (dd, od), (mm, om')] ++ rest) ∧
    om'.IsDictOf (PySem.strKind PG w) (stored kv2 nm (.ref x)) ∧ (@LT.lt Nat _ dx x ∧ @LT.lt Nat _ x S ∧ @LT.lt Nat _ S V) ∧ AllLt dx ((mm, om') :: (X, instObj 315 dX) :: (dX, dataD w ta tb tc td dd mm pr wo) :: (dd, od) :: rest)
theorem FreshR.mk {w : World} {X dX dd mm : Addr} {ta tb tc td : Tok} {pr wo value dv : Value} {od : Obj} {nm : Str} {first last : Int} {u1 : Tok} {kv2 : List (Str × Value)} {rest : List (Addr × Obj)} {x dx S V : Addr} {t1 t2 t3 v0 t : Tok} {k1 k2 : Nat} {om' : Obj}
    (a : om'.IsDictOf (PySem.strKind PG w) (stored kv2 nm (.ref x))) (b : @LT.lt Nat _ dx x ∧ @LT.lt Nat _ x S ∧ @LT.lt Nat _ S V) (e : AllLt dx ((mm, om') :: (X, instObj 315 dX) :: (dX, dataD w ta tb tc td dd mm pr wo) :: (dd, od) :: rest)) :
    FreshR w X dX dd mm ta tb tc td pr wo value dv od nm first last u1 kv2 rest .none (rmB w x dx S V dv t1 t2 t3 [.int 0 v0, .int first u1, .int (last + 1) t] [dv, value, dv] k1 k2 ++ ([(X, instObj 315 dX), (dX, dataD w ta tb tc td dd mm pr wo), (dd, od), (mm, om')] ++ rest)) := ⟨x, dx, S, V, t1, t2, t3, v0, t, k1, k2, om', rfl, rfl, a, b, e⟩
theorem valueAt_st {kvs : List (Str × Value)} {k : Str} {v : Value} : valueAt (stored kvs k v) k = some v := (va_set kvs k k v).trans (if_pos rfl)
theorem News.fr5 {h₀ h : Heap} {L : Addr} {a b c d e : Addr × Obj} {r : List (Addr × Obj)} (N : News h₀ L h (a :: b :: c :: d :: e :: r)) : News h₀ L h (e :: a :: b :: c :: d :: r) := fun p hp => N p (by
  simp only [List.mem_cons] at hp ⊢
  rcases hp with h | h | h | h | h | h <;> simp only [h, true_or, or_true])
theorem News.fr1 {h₀ h : Heap} {L : Addr} {a b c d e : Addr × Obj} {r : List (Addr × Obj)} (N : News h₀ L h (e :: a :: b :: c :: d :: r)) : News h₀ L h (a :: b :: c :: d :: e :: r) := fun p hp => N p (by
  simp only [List.mem_cons] at hp ⊢
  rcases hp with h | h | h | h | h | h <;> simp only [h, true_or, or_true])
theorem off5 {x dx S V X dX dd mm : Addr} {ox odx oS oV oX odX od om : Obj} {rest l : List (Addr × Obj)} (a1 : AllLt dx ((mm, om) :: l)) (a2 : AllLt x ((mm, om) :: l)) (a3 : AllLt S ((mm, om) :: l)) (a4 : AllLt V ((mm, om) :: l)) (hne : X ≠ mm ∧ dX ≠ mm ∧ dd ≠ mm) (hr : ∀ p ∈ rest, p.1 ≠ mm) :
    ∀ p ∈ (x, ox) :: (dx, odx) :: (S, oS) :: (V, oV) :: (X, oX) :: (dX, odX) :: (dd, od) :: rest, p.1 ≠ mm :=
  List.forall_mem_cons.mpr ⟨Nat.ne_of_gt a2.1, List.forall_mem_cons.mpr ⟨Nat.ne_of_gt a1.1, List.forall_mem_cons.mpr ⟨Nat.ne_of_gt a3.1, List.forall_mem_cons.mpr ⟨Nat.ne_of_gt a4.1, List.forall_mem_cons.mpr ⟨hne.1, List.forall_mem_cons.mpr ⟨hne.2.1, List.forall_mem_cons.mpr ⟨hne.2.2, hr⟩⟩⟩⟩⟩⟩⟩
section
theorem dput_new (w : World) (rest : List (Addr × Obj)) (X dX dd mm : Addr) (ta tb tc td tn u1 u2 : Tok) (pr wo value dv : Value) (od om : Obj) (nm : Str) (first last : Int) (kvs kv2 : List (Str × Value))
    (hod : od.IsDictOf (PySem.strKind PG w) kvs) (hdd : (dd == sysModules) = false) (hdv : valueAt kvs nm = some dv) (hom : om.IsDictOf (PySem.strKind PG w) kv2) (hmm : (mm == sysModules) = false) (hz : kv2.length ≤ 10) (hv : valueAt kv2 nm = none) (hne : X ≠ mm ∧ dX ≠ mm ∧ dd ≠ mm) (hr : ∀ p ∈ rest, p.1 ≠ mm)
    (h1 : placeI [0] (first - 1) = ((0 : Nat) : Int)) (h2 : placeI [0] (last + 1) = ((0 : Nat) : Int)) (hfl : first ≤ last) (hlm : last < 1114111) (hlike : ∀ nw, Fn 2 216 [dv, value] nw (Pure nw (IsBool false))) :
    FnW w 14 298 [.ref X, .str nm tn, .int first u1, .int last u2, value] ((mm, om) :: (X, instObj 315 dX) :: (dX, dataD w ta tb tc td dd mm pr wo) :: (dd, od) :: rest) (FreshR w X dX dd mm ta tb tc td pr wo value dv od nm first last u1 kv2 rest) := by
  k_with_none
  k_with "FOLD" => ((fail_if_success (fail_if_success k_fold)); (try ((with_reducible rename Fr _ _ _ _ => Fz); (fail_if_success (with_reducible have : Fr _ _ _ mk := Fz)); (with_reducible refine let mk := _; have Fy : Fr _ _ _ mk := Fz; ?_); clear Fz)); (try ((with_reducible rename News _ _ _ _ => Nz); (fail_if_success (with_reducible have : News _ _ _ lk := Nz)); (with_reducible refine let lk := _; have Ny : News _ _ _ lk := Nz; ?_); clear Nz)); with_reducible refine let qk := _; let ek := _; (?_ : wpAny _ _ _ qk ek _))
  k_with "STEPS" => ((try walk_at "FOLD"); repeat' (first | (k_unfold; (try dsimp only)) | (k_end; wrow_close) | (walk1; all_goals (try ((fail_if_success (with_reducible show wpAny _ _ (subscriptTail _ _ _ _) _ _ _)); dsimp only)); all_goals (try ((with_reducible first | show wpAny _ _ (exec _ _) _ _ _ | show wpAny _ _ (execs _ _) _ _ _); (try ((with_reducible first | refine genTok ?_ | refine genTokS ?_); intro tkG)); (try walk_at "FOLD")))) | (dsimp only; walk1)))
  k_with "ROOM" => (first | exact U0 ‹_› | exact U1 ‹_› (by exact rfl) | exact U2 ‹_› (by exact rfl) | exact U3 ‹_› (by exact rfl) | ((simp +zetaDelta only [depth_under_make, depth_under_kw, depth_in1, depth_deeper, depth_caller]); (try dsimp only [ktrTop]); first | omega | decide +kernel))
  k_with "UNITS" => (first | exact U1 ‹_› (by exact rfl) | exact U2 ‹_› (by exact rfl) | exact U3 ‹_› (by exact rfl) | exact U4 ‹_› (by exact rfl) | exact U5 ‹_› (by exact rfl) | (have hcL9 := cLine_is; (simp +zetaDelta only [units_under_make, units_in1, units_deeper, Around.mark_units, units_caller]); (try dsimp only [ktrTop]); first | (rw [hcL9]; decide) | omega | decide +kernel))
  k_with "NE" => (first | with_reducible assumption | (refine neN (Nat.ne_of_lt ?_); walk_at "LTS") | (refine neN (Nat.ne_of_gt ?_); walk_at "LTS") | (refine neN ?_; (try dsimp only); omega))
  k_with "ENTER" => (refine' Internal.code_defN ?k1 ?k2 ?k3 ?k4 ?k5 ?kA ?kF ?kK ?k6 ?k7 ?k8 ?k9 ?kB ?_ ?c2 ?c3 ?c4 ?c5; (case kA | kF => exact rfl); (case kK => first | exact rfl | assumption); (case k1 | k2 | k3 | k4 | k5 => k_asm); (case k6 | k7 => k_is); (case k8 => ktr_room); (case k9 => exact BindsTo.of_eq (by kernel_rfl)); (case c5 => decide); (case kB => exact locs rfl); (case c2 | c3 | c4 => exact rfl); k_whole; intro g' L' h' tk' FG' F' N' B' X' T'; (try dsimp only); (try k_lift B'); (try walk_at "FOLD"); (refine let Ak : Around := _; (?_ : wpAny _ Ak _ _ _ _)))
  k_with "LTS" => (first | with_reducible assumption | exact ltM (by with_reducible assumption) (by k_mem) | exact And.left (by with_reducible assumption) | exact And.left (And.right (by with_reducible assumption)) | exact And.right (And.right (by with_reducible assumption)) | exact And.left (And.right (And.right (by with_reducible assumption))) | exact And.right (And.right (And.right (by with_reducible assumption))))
  k_with "ALL" => (first | with_reducible assumption | exact ne_of_allLt ‹_›)
  k_with "MEM" => (first | exact List.Mem.head _ | exact Mem1 | exact Mem2 | exact Mem3 | exact Mem4 | exact Mem5 | (refine TL6 ?_; walk_at "MEM"))
  k_with "SUB" => (first | assumption | exact TL1 ‹_› | exact TL2 ‹_› | exact TL3 ‹_› | exact TL4 ‹_› | exact TL5 ‹_› | (refine TL6 ?_; walk_at "SUB"))
  k_with "call ref" => (k_here; (with_reducible show wpAny _ _ (call (Value.ref _) _ _) _ _ _); k_dflt (refine wpAny_call ?_; cell_enter))
  k_with "compareOp NotIn str ref" => (k_here; (with_reducible show wpAny _ _ (compareOp CmpOp.NotIn (Value.str _ _) (Value.ref _)) _ _ _); k_dflt (refine kda_notIn (knd := PySem.strKind _ _) (by k_asm) (by k_mem) ‹_› ‹_› (strKind_is _ _ _ _) false (by rw [show valueAt _ _ = none from by assumption]; exact rfl) ?_))
  k_with "call builtin:dict.get" => (k_here; (with_reducible show wpAny _ _ (call (Value.builtin "dict.get") [Value.ref _, Value.str _ _]) _ _ _); k_dflt (refine kdg_get1 (knd := PySem.strKind _ _) (by k_asm) (by k_mem) ‹_› ‹_› (strKind_is _ _ _ _) (some _) ‹_› ?_; (try dsimp only [Option.getD_some])))
  k_with "call ref" => (k_here; (with_reducible show wpAny _ _ (call (Value.ref 259) [_] _) _ _ _); k_dflt (refine' FnW.useK (rm_ok _ _ _) RmR.k ?kB ?kF ?kX ?kN ?kT ?kK ?kd ?ku ?_; (case kN | kB | kF | kX | kT => k_asm); (case kK => first | exact rfl | assumption); (case kd => ktr_room); (case ku => ktr_units); (intro x9 dx9 S9 V9 q1 q2 q3 q4 lll9 a19 a29 a39 a49 h9 tk9 F9 N9)); (try dsimp only))
  k_with "setItem ref str" => (k_here; (with_reducible show wpAny _ _ (setItem (Value.ref _) (Value.str _ _) _) _ _ _); (with_reducible rename News _ _ _ _ => N8); k_dflt (refine dset (by k_asm) (News.fr5 N8) (off5 ‹_› ‹_› ‹_› ‹_› ‹_› ‹_›) ‹_› (strKind_is _ _ _ _) (lenL ‹_› (by exact rfl)) ?_; intro h9 o9 tk9 F9 N9 d9))
  k_with "getItem ref str" => (k_here; (k_dflt (refine kdt_getItem (knd := PySem.strKind _ _) (by k_asm) (by k_mem) ‹_› (strKind_is _ _ _ _) valueAt_st ?_)))
  k_with "call ref" => (k_here; (with_reducible show wpAny _ _ (call (Value.ref 244) [Value.ref _, Value.int _ _, Value.int _ _, _] _) _ _ _); (with_reducible rename News _ _ _ _ => N8); (k_dflt (refine' FnW.useK (put_ins 0 _ _ _ _ _ _ _ _ dv _ _ _ _ _ _ _ _ _ [0] _ _ ?hne (ne_of_allLt ?hx) (ne_of_allLt ?hdx) (ne_of_allLt ?hS) (ne_of_allLt ?hV) (.cons _ _ .nil) (by decide) rfl rfl (by decide) h1 h2 (by decide) rfl hfl hlm hlike) PutR.k ?kB ?kF ?kX (News.fr1 N8) ?kT ?kK ?kd ?ku ?_; (case hne | hx | hdx | hS | hV => assumption); (case kB | kF | kX | kT => k_asm); (case kK => first | exact rfl | assumption); (case kd => ktr_room); (case ku => ktr_units); (intro S9 V9 t9 k19 k29 lll9 a19 a29 h9 tk9 F9 N9))); (try dsimp only))
  intro mean mg mb dp un gd cn cs a ccd cl outer A₀ base h₀ L m s Q E B F XX N T hk hd hu hret
  refine wpAny_call ?_
  k_dflt cell_enter
  walk_at "STEPS"
  refine' hret _ _ _ _ (FreshR.mk ‹_› ⟨?y1, ?y2, ?y3⟩ ?yA) ‹_› (newsWeak ‹_› ?ysub)
  case ysub =>
    iterate 8 (refine sub_cons (by k_mem) ?_)
    exact fun p9 hp9 => by walk_at "SUB"
  case yA => assumption
  all_goals walk_at "LTS"
end
end Internal
namespace Internal
noncomputable abbrev latinA : List UInt8 := [76, 65, 84, 73, 78, 32, 67, 65, 80, 73, 84, 65, 76, 32, 76, 69, 84, 84, 69, 82, 32, 65]
theorem fresh_core {α : Type} {Rv : α → Value → Prop} {w : World} {X c : Addr} {kv2 : List (Str × Value)} {H R : List (Addr × Obj)} (nm : Str) (first last : Int) (tn u1 u2 : Tok) (value : Value) (old new : α)
    (hH : HDm w X c kv2 H) (hz : kv2.length ≤ 1) (hv : valueAt kv2 nm = none) (sH : Sep H R) (hc : ∃ o, (c, o) ∈ R) (hd : ∀ kvs t, DI t 200 True kvs → ∃ dv, valueAt kvs nm = some dv ∧ Rv old dv) (hnew : Rv new value) (hlike : ∀ bv, Rv old bv → ∀ nw, Fn 2 216 [bv, value] nw (Pure nw (IsBool false)))
    (h1 : placeI [0] (first - 1) = ((0 : Nat) : Int)) (h2 : placeI [0] (last + 1) = ((0 : Nat) : Int)) (hfl : first ≤ last) (hlm : last < 1114111) :
    FnW w 14 298 [.ref X, .str nm tn, .int first u1, .int last u2, value] (H ++ R) (fun r nw => r = .none ∧ ∃ x blk H', nw = blk ++ (H' ++ R) ∧ RMst w x c blk [0, first, last + 1] Rv [old, new, old] ∧ HDm w X c (stored kv2 nm (.ref x)) H' ∧ Sep blk (H' ++ R) ∧ ∀ p ∈ H', ∃ q ∈ H, q.1 = p.1) := by
  refine byG ?_
  intro GG hGG
  (refine byG ?_; intro G9 hG9; obtain ⟨dX, dd, mm, ta, tb, tc, td, t, pr, wo, od, om, kvs, rfl, ⟨hod, hdi, hdd⟩, ⟨hom, hmm, _⟩, hlt, hne⟩ := hH; refine hG9 ?_; clear hG9 G9)
  (refine byG ?_; intro G9 hG9; obtain ⟨dv, hdv, hRo⟩ := hd kvs t hdi; refine hG9 ?_; clear hG9 G9)
  refine hGG ?_
  clear hGG GG
  refine FnW.re (dput_new w R X dX dd mm ta tb tc td tn u1 u2 pr wo value dv od om nm first last kvs kv2 hod hdd hdv hom hmm (Nat.le_trans hz (by decide)) hv hne (fun p hp => sH _ (.tail _ (.tail _ (.tail _ (.head _)))) p hp) h1 h2 hfl hlm (hlike dv hRo)) ?_ ?_
  · refine sub_cons (.tail _ (.tail _ (.tail _ (.head _)))) (sub_cons (.head _) (sub_cons (.tail _ (.head _)) (sub_cons (.tail _ (.tail _ (.head _))) fun p hp => ?_)))
    exact .tail _ (.tail _ (.tail _ (.tail _ hp)))
  · intro r nw R9
    (refine byG ?_; intro G9 hG9; obtain ⟨x, dx, S, V, t1, t2, t3, v0, u, k1, k2, om', rfl, rfl, hom', hl, ha⟩ := R9; refine hG9 ?_; clear hG9 G9)
    have lt : ∀ p ∈ [(X, instObj 315 dX), (dX, dataD w ta tb tc td dd mm pr wo), (dd, od), (mm, om')] ++ R, @LT.lt Nat _ p.1 dx := fun p hp => of_allLt ha p (by
      simp only [List.cons_append, List.nil_append, List.mem_cons] at hp ⊢
      rcases hp with h | h | h | h | h <;> simp only [h, true_or, or_true])
    (refine byG ?_; intro G9 hG9; obtain ⟨oc, hoc⟩ := hc; refine hG9 ?_; clear hG9 G9)
    refine ⟨_, ⟨rfl, x, _, _, rfl, ⟨dx, S, V, dv, t1, t2, t3, _, _, k1, k2, rfl, .cons _ _ (.cons _ _ (.cons _ _ .nil)), .cons hRo (.cons hnew (.cons hRo .nil)), hl, of_allLt ha _ (.tail _ (.tail _ (.tail _ (.tail _ hoc))))⟩,
      ⟨dX, dd, mm, ta, tb, tc, td, t, pr, wo, od, om', kvs, rfl, ⟨hod, hdi, hdd⟩, ⟨hom', hmm, Nat.le_trans (stored_length_le _ _ _) (Nat.succ_le_succ hz)⟩, hlt, hne⟩,
      sep_mk (fun p hp => Nat.ne_of_lt (Nat.lt_trans (lt p hp) hl.1)) (fun p hp => Nat.ne_of_lt (lt p hp)) (fun p hp => Nat.ne_of_lt (Nat.lt_trans (Nat.lt_trans (lt p hp) hl.1) hl.2.1)) (fun p hp => Nat.ne_of_lt (Nat.lt_trans (Nat.lt_trans (Nat.lt_trans (lt p hp) hl.1) hl.2.1) hl.2.2)), fun p hp => ?_⟩, fun _ h => h⟩
    simp only [List.mem_cons, List.not_mem_nil, or_false] at hp
    rcases hp with rfl | rfl | rfl | rfl
    · exact ⟨_, .head _, rfl⟩
    · exact ⟨_, .tail _ (.head _), rfl⟩
    · exact ⟨_, .tail _ (.tail _ (.head _)), rfl⟩
    · exact ⟨_, .tail _ (.tail _ (.tail _ (.head _))), rfl⟩
theorem sep_same {H H' R : List (Addr × Obj)} (h : Sep H R) (s : ∀ p ∈ H', ∃ q ∈ H, q.1 = p.1) : Sep H' R := fun p hp q hq => by
  obtain ⟨z, hz, e⟩ := s p hp
  exact e ▸ h z hz q hq
theorem dpG0 {w : World} {X c : Addr} {tn u1 u2 tv : Tok} (rest led : List (Addr × Obj)) (hc : ∃ o, (c, o) ∈ rest) (h : DQ w X c rest NoG NoN led) :
    FnW w 14 298 [.ref X, .str (Str.ofString "gc") tn, .int 65 u1, .int 65 u2, .str (Str.ofString "Lu") tv] led (fun r nw => r = .none ∧ DQ w X c rest (IsM w c kGc [0, 65, 65 + 1] StrV [Str.ofString "Cn", Str.ofString "Lu", Str.ofString "Cn"]) NoN nw) := by
  (refine byG ?_; intro G9 hG9; obtain ⟨bG, bN, H, kv2, rfl, ⟨rfl, rfl⟩, ⟨rfl, _⟩, hH, sG, sN, sH⟩ := h; refine hG9 ?_; clear hG9 G9)
  show FnW w 14 298 _ (H ++ rest) _
  refine FnW.weak (fresh_core (Rv := StrV) kGc 65 65 tn u1 u2 _ (Str.ofString "Cn") (Str.ofString "Lu") hH (by decide) rfl sH hc (fun kvs t d => ⟨_, d.1, t, rfl⟩) ⟨_, rfl⟩ (fun bv ⟨t, e⟩ nw => e ▸ like_str _ _ (by decide) t tv nw) (by decide) (by decide) (by decide) (by decide)) ?_
  intro r nw R9
  (refine byG ?_; intro G9 hG9; obtain ⟨rfl, x, blk, H', rfl, hG', hH', sG', sm⟩ := R9; refine hG9 ?_; clear hG9 G9)
  exact ⟨rfl, blk, [], H', stored [] kGc (.ref x), rfl, ⟨x, hG', rfl⟩, ⟨rfl, rfl, Nat.le_refl 1⟩, hH', sG', sep_nil, sep_same sH sm⟩
theorem dpN0 {w : World} {X c : Addr} {tn u1 u2 tv : Tok} (rest led : List (Addr × Obj)) (hc : ∃ o, (c, o) ∈ rest) (h : DQ w X c rest (IsM w c kGc [0, 65, 65 + 1] StrV [Str.ofString "Cn", Str.ofString "Lu", Str.ofString "Cn"]) NoN led) :
    FnW w 14 298 [.ref X, .str (Str.ofString "name") tn, .int 65 u1, .int 65 u2, .bytes #[76, 65, 84, 73, 78, 32, 67, 65, 80, 73, 84, 65, 76, 32, 76, 69, 84, 84, 69, 82, 32, 65] tv] led (fun r nw => r = .none ∧ DSt w X c rest [0, 65, 66] [Str.ofString "Cn", Str.ofString "Lu", Str.ofString "Cn"] [0, 65, 66] [none, some latinA, none] nw) := by
  (refine byG ?_; intro G9 hG9; obtain ⟨bG, bN, H, kv2, rfl, ⟨xg, hG, eg⟩, ⟨rfl, en, hz⟩, hH, sG, sN, sH⟩ := h; refine hG9 ?_; clear hG9 G9)
  (refine byG ?_; intro G9 hG9; obtain ⟨oc, hoc⟩ := hc; refine hG9 ?_; clear hG9 G9)
  have sG : Sep bG (H ++ rest) := sG
  have sB : Sep H (bG ++ rest) := sep_app (sep_symm (sep_mono sG (fun p hp => List.mem_append_left _ hp))) sH
  refine FnW.re (fresh_core (Rv := OptV) (R := bG ++ rest) kNm 65 65 tn u1 u2 _ none (some latinA) hH hz en sB ⟨oc, List.mem_append_right _ hoc⟩ (fun kvs t d => ⟨_, d.2.2 trivial, .inl ⟨rfl, rfl⟩⟩) (.inr ⟨_, _, rfl, rfl⟩) (fun bv hb nw => ?_) (by decide) (by decide) (by decide) (by decide)) ?_ ?_
  · rcases hb with ⟨_, rfl⟩ | ⟨_, _, e, _⟩
    · exact like_nb _ _ _
    · cases e
  · intro p hp
    simp only [List.nil_append, List.mem_append] at hp ⊢
    rcases hp with h | h | h
    · exact .inr (.inl h)
    · exact .inl h
    · exact .inr (.inr h)
  intro r nw R9
  (refine byG ?_; intro G9 hG9; obtain ⟨rfl, x, blk, H', rfl, hN', hH', sN', sm⟩ := R9; refine hG9 ?_; clear hG9 G9)
  have sH' := sep_same sB sm
  refine ⟨_, ⟨rfl, bG, blk, H', _, rfl, ⟨xg, hG, (va_set _ _ _ _).trans ((if_neg (by decide)).trans eg)⟩, ⟨x, hN', valueAt_st⟩, hH', sep_app (sep_symm (sep_mono sN' (fun p hp => List.mem_append_right _ (List.mem_append_left _ hp)))) (sep_app (sep_symm (sep_mono sH' (fun p hp => List.mem_append_left _ hp))) (sep_mono sG (fun p hp => List.mem_append_right _ hp))),
    sep_app (sep_mono sN' (fun p hp => List.mem_append_right _ (List.mem_append_left _ hp))) (sep_app (sep_mono sN' (fun p hp => List.mem_append_left _ hp)) (sep_mono sN' (fun p hp => List.mem_append_right _ (List.mem_append_right _ hp)))), sep_mono sH' (fun p hp => List.mem_append_right _ hp)⟩, fun p hp => ?_⟩
  simp only [List.mem_append] at hp ⊢
  rcases hp with h | h | h | h
  · exact .inr (.inr (.inl h))
  · exact .inl h
  · exact .inr (.inl h)
  · exact .inr (.inr (.inr h))
theorem dp66 {w : World} {X c : Addr} {tn u1 u2 tv : Tok} (rest led : List (Addr × Obj)) (h : DSt w X c rest [0, 65, 66] [Str.ofString "Cn", Str.ofString "Lu", Str.ofString "Cn"] [0, 65, 66] [none, some latinA, none] led) : FnW w 14 298 [.ref X, .str (Str.ofString "gc") tn, .int 66 u1, .int 66 u2, .str (Str.ofString "Lu") tv] led (fun r nw => r = .none ∧ DSt w X c rest [0, 65, 67] [Str.ofString "Cn", Str.ofString "Lu", Str.ofString "Cn"] [0, 65, 66] [none, some latinA, none] nw) := dput_66 h tn u1 u2 tv
theorem dp9 {w : World} {X c : Addr} {tn u1 u2 tv : Tok} (rest led : List (Addr × Obj)) (h : DSt w X c rest [0, 65, 67] [Str.ofString "Cn", Str.ofString "Lu", Str.ofString "Cn"] [0, 65, 66] [none, some latinA, none] led) : FnW w 14 298 [.ref X, .str (Str.ofString "gc") tn, .int 9 u1, .int 9 u2, .str (Str.ofString "Cc") tv] led (fun r nw => r = .none ∧ DSt w X c rest [0, 9, 10, 65, 67] [Str.ofString "Cn", Str.ofString "Cc", Str.ofString "Cn", Str.ofString "Lu", Str.ofString "Cn"] [0, 65, 66] [none, some latinA, none] nw) :=
  dput_g h 0 9 9 tn u1 u2 tv (Str.ofString "Cn") (Str.ofString "Cc") (by decide) rfl (by decide) (by decide) (by decide) (by decide) rfl (by decide) (by decide) (by decide)
theorem dpCo {w : World} {X c : Addr} {tn u1 u2 tv : Tok} (rest led : List (Addr × Obj)) (h : DSt w X c rest [0, 9, 10, 65, 67] [Str.ofString "Cn", Str.ofString "Cc", Str.ofString "Cn", Str.ofString "Lu", Str.ofString "Cn"] [0, 65, 66] [none, some latinA, none] led) : FnW w 14 298 [.ref X, .str (Str.ofString "gc") tn, .int 57344 u1, .int 57344 u2, .str (Str.ofString "Co") tv] led (fun r nw => r = .none ∧ DSt w X c rest [0, 9, 10, 65, 67, 57344, 57345] [Str.ofString "Cn", Str.ofString "Cc", Str.ofString "Cn", Str.ofString "Lu", Str.ofString "Cn", Str.ofString "Co", Str.ofString "Cn"] [0, 65, 66] [none, some latinA, none] nw) :=
  dput_g h 4 57344 57344 tn u1 u2 tv (Str.ofString "Cn") (Str.ofString "Co") (by decide) rfl (by decide) (by decide) (by decide) (by decide) rfl (by decide) (by decide) (by decide)
noncomputable abbrev cjkA : List UInt8 := [60, 67, 74, 75, 32, 73, 100, 101, 111, 103, 114, 97, 112, 104, 44, 32, 70, 105, 114, 115, 116, 62]
theorem dnC {w : World} {X c : Addr} {tn u1 u2 tv : Tok} (rest led : List (Addr × Obj)) (h : DSt w X c rest [0, 9, 10, 65, 67, 57344, 57345] [Str.ofString "Cn", Str.ofString "Cc", Str.ofString "Cn", Str.ofString "Lu", Str.ofString "Cn", Str.ofString "Co", Str.ofString "Cn"] [0, 65, 66] [none, some latinA, none] led) : FnW w 14 298 [.ref X, .str (Str.ofString "name") tn, .int 19968 u1, .int 19983 u2, .bytes #[60, 67, 74, 75, 32, 73, 100, 101, 111, 103, 114, 97, 112, 104, 44, 32, 70, 105, 114, 115, 116, 62] tv] led (fun r nw => r = .none ∧ DSt w X c rest [0, 9, 10, 65, 67, 57344, 57345] [Str.ofString "Cn", Str.ofString "Cc", Str.ofString "Cn", Str.ofString "Lu", Str.ofString "Cn", Str.ofString "Co", Str.ofString "Cn"] [0, 65, 66, 19968, 19984] [none, some latinA, none, some cjkA, none] nw) :=
  dput_n h 2 19968 19983 tn u1 u2 tv cjkA (by decide) rfl (by decide) (by decide) (by decide) (by decide) rfl (by decide) (by decide)
noncomputable abbrev tanA : List UInt8 := [60, 84, 97, 110, 103, 117, 116, 32, 73, 100, 101, 111, 103, 114, 97, 112, 104, 62]
theorem dnT {w : World} {X c : Addr} {tn u1 u2 tv : Tok} (rest led : List (Addr × Obj)) (h : DSt w X c rest [0, 9, 10, 65, 67, 57344, 57345] [Str.ofString "Cn", Str.ofString "Cc", Str.ofString "Cn", Str.ofString "Lu", Str.ofString "Cn", Str.ofString "Co", Str.ofString "Cn"] [0, 65, 66, 19968, 19984] [none, some latinA, none, some cjkA, none] led) : FnW w 14 298 [.ref X, .str (Str.ofString "name") tn, .int 94208 u1, .int 94213 u2, .bytes #[60, 84, 97, 110, 103, 117, 116, 32, 73, 100, 101, 111, 103, 114, 97, 112, 104, 62] tv] led (fun r nw => r = .none ∧ DSt w X c rest [0, 9, 10, 65, 67, 57344, 57345] [Str.ofString "Cn", Str.ofString "Cc", Str.ofString "Cn", Str.ofString "Lu", Str.ofString "Cn", Str.ofString "Co", Str.ofString "Cn"] [0, 65, 66, 19968, 19984, 94208, 94214] [none, some latinA, none, some cjkA, none, some tanA, none] nw) :=
  dput_n h 4 94208 94213 tn u1 u2 tv tanA (by decide) rfl (by decide) (by decide) (by decide) (by decide) rfl (by decide) (by decide)
theorem dpC {w : World} {X c : Addr} {tn u1 u2 tv : Tok} (rest led : List (Addr × Obj)) (h : DSt w X c rest [0, 9, 10, 65, 67, 57344, 57345] [Str.ofString "Cn", Str.ofString "Cc", Str.ofString "Cn", Str.ofString "Lu", Str.ofString "Cn", Str.ofString "Co", Str.ofString "Cn"] [0, 65, 66, 19968, 19984, 94208, 94214] [none, some latinA, none, some cjkA, none, some tanA, none] led) : FnW w 14 298 [.ref X, .str (Str.ofString "gc") tn, .int 19968 u1, .int 19983 u2, .str (Str.ofString "Lo") tv] led (fun r nw => r = .none ∧ DSt w X c rest [0, 9, 10, 65, 67, 19968, 19984, 57344, 57345] [Str.ofString "Cn", Str.ofString "Cc", Str.ofString "Cn", Str.ofString "Lu", Str.ofString "Cn", Str.ofString "Lo", Str.ofString "Cn", Str.ofString "Co", Str.ofString "Cn"] [0, 65, 66, 19968, 19984, 94208, 94214] [none, some latinA, none, some cjkA, none, some tanA, none] nw) :=
  dput_g h 4 19968 19983 tn u1 u2 tv (Str.ofString "Cn") (Str.ofString "Lo") (by decide) rfl (by decide) (by decide) (by decide) (by decide) rfl (by decide) (by decide) (by decide)
theorem dpT {w : World} {X c : Addr} {tn u1 u2 tv : Tok} (rest led : List (Addr × Obj)) (h : DSt w X c rest [0, 9, 10, 65, 67, 19968, 19984, 57344, 57345] [Str.ofString "Cn", Str.ofString "Cc", Str.ofString "Cn", Str.ofString "Lu", Str.ofString "Cn", Str.ofString "Lo", Str.ofString "Cn", Str.ofString "Co", Str.ofString "Cn"] [0, 65, 66, 19968, 19984, 94208, 94214] [none, some latinA, none, some cjkA, none, some tanA, none] led) : FnW w 14 298 [.ref X, .str (Str.ofString "gc") tn, .int 94208 u1, .int 94213 u2, .str (Str.ofString "Lo") tv] led (fun r nw => r = .none ∧ DSt w X c rest [0, 9, 10, 65, 67, 19968, 19984, 57344, 57345, 94208, 94214] [Str.ofString "Cn", Str.ofString "Cc", Str.ofString "Cn", Str.ofString "Lu", Str.ofString "Cn", Str.ofString "Lo", Str.ofString "Cn", Str.ofString "Co", Str.ofString "Cn", Str.ofString "Lo", Str.ofString "Cn"] [0, 65, 66, 19968, 19984, 94208, 94214] [none, some latinA, none, some cjkA, none, some tanA, none] nw) :=
  dput_g h 8 94208 94213 tn u1 u2 tv (Str.ofString "Cn") (Str.ofString "Lo") (by decide) rfl (by decide) (by decide) (by decide) (by decide) rfl (by decide) (by decide) (by decide)
end Internal
namespace Internal
noncomputable def NewR (w : World) (c : Addr) (rest : List (Addr × Obj)) (r : Value) (nw : List (Addr × Obj)) : Prop :=
  ∃ (X : Addr) (led' : List (Addr × Obj)) (dX dd mm : Addr) (ta tb tc td : Tok) (pr wo : Value), r = .ref X ∧ nw = (X, instObj 315 dX) :: (dX, dataD w ta tb tc td dd mm pr wo) :: led' ∧ DQ w X c rest NoG NoN led'
theorem NewR.k {w : World} {c : Addr} {rest : List (Addr × Obj)} : ∀ P : Value → List (Addr × Obj) → Prop, (∀ (X : Addr) (led' : List (Addr × Obj)) (dX dd mm : Addr) (ta tb tc td : Tok) (pr wo : Value), DQ w X c rest NoG NoN led' → P (.ref X) ((X, instObj 315 dX) :: (dX, dataD w ta tb tc td dd mm pr wo) :: led')) → ∀ r nw, NewR w c rest r nw → P r nw := by
  rintro P h r nw ⟨X, led', dX, dd, mm, ta, tb, tc, td, pr, wo, rfl, rfl, D⟩; exact h X led' dX dd mm ta tb tc td pr wo D
theorem NewR.mk {w : World} {c : Addr} {oc : Obj} {rest : List (Addr × Obj)} {X dX dd mm : Addr} {ta tb tc td t : Tok} {pr wo : Value} {od om o1 o2 o3 o4 o5 : Obj} {kvs : List (Str × Value)} (hc : (c, oc) ∈ rest) (hod : od.IsDictOf (PySem.strKind PG w) kvs) (hdi : DI t 200 True kvs) (hdd : (dd == sysModules) = false)
    (hom : om.IsDictOf (PySem.strKind PG w) ([] : List (Str × Value))) (hmm : (mm == sysModules) = false) (a1 : AllLt dX rest) (l2 : @LT.lt Nat _ dX X) (a3 : AllLt dd ((X, o1) :: (dX, o2) :: rest)) (a4 : AllLt mm ((dd, o3) :: (X, o4) :: (dX, o5) :: rest)) :
    NewR w c rest (.ref X) ((X, instObj 315 dX) :: (dX, dataD w ta tb tc td dd mm pr wo) :: ([(X, instObj 315 dX), (dX, dataD w ta tb tc td dd mm pr wo), (dd, od), (mm, om)] ++ rest)) := by
  have b1 := of_allLt a1
  have b3 := of_allLt a3
  have b4 := of_allLt a4
  refine ⟨X, _, dX, dd, mm, ta, tb, tc, td, pr, wo, rfl, rfl, [], [], [(X, instObj 315 dX), (dX, dataD w ta tb tc td dd mm pr wo), (dd, od), (mm, om)], [], rfl, ⟨rfl, rfl⟩, ⟨rfl, rfl, Nat.zero_le 1⟩, ⟨dX, dd, mm, ta, tb, tc, td, t, pr, wo, od, om, kvs, rfl, ⟨hod, hdi, hdd⟩, ⟨hom, hmm, Nat.zero_le 2⟩, ⟨Nat.lt_trans (b1 _ hc) l2, b1 _ hc, b3 _ (.tail _ (.tail _ hc)), b4 _ (.tail _ (.tail _ (.tail _ hc)))⟩, Nat.ne_of_lt (b4 _ (.tail _ (.head _))), Nat.ne_of_lt (b4 _ (.tail _ (.tail _ (.head _)))), Nat.ne_of_lt (b4 _ (.head _))⟩, sep_nil, sep_nil, ?_⟩
  exact sep_mk (fun p hp => Nat.ne_of_lt (Nat.lt_trans (b1 p hp) l2)) (fun p hp => Nat.ne_of_lt (b1 p hp)) (fun p hp => Nat.ne_of_lt (b3 p (.tail _ (.tail _ hp)))) (fun p hp => Nat.ne_of_lt (b4 p (.tail _ (.tail _ (.tail _ hp)))))
section
theorem newdata_ok (w : World) (c : Addr) (oc : Obj) (rest : List (Addr × Obj)) (hc : (c, oc) ∈ rest) : FnW w 12 315 [] rest (NewR w c rest) := by
  k_with_none
  k_with "FOLD" => ((fail_if_success (fail_if_success k_fold)); (try ((with_reducible rename Fr _ _ _ _ => Fz); (fail_if_success (with_reducible have : Fr _ _ _ mk := Fz)); (with_reducible refine let mk := _; have Fy : Fr _ _ _ mk := Fz; ?_); clear Fz)); (try ((with_reducible rename News _ _ _ _ => Nz); (fail_if_success (with_reducible have : News _ _ _ lk := Nz)); (with_reducible refine let lk := _; have Ny : News _ _ _ lk := Nz; ?_); clear Nz)); with_reducible refine let qk := _; let ek := _; (?_ : wpAny _ _ _ qk ek _))
  k_with "STEPS" => ((try walk_at "FOLD"); repeat' (first | (k_unfold; (try dsimp only)) | (k_end; wrow_close) | (walk1; all_goals (try ((fail_if_success (with_reducible show wpAny _ _ (subscriptTail _ _ _ _) _ _ _)); dsimp only)); all_goals (try ((with_reducible first | show wpAny _ _ (exec _ _) _ _ _ | show wpAny _ _ (execs _ _) _ _ _); (try ((with_reducible first | refine genTok ?_ | refine genTokS ?_); intro tkG)); (try walk_at "FOLD")))) | (dsimp only; walk1)))
  k_with "ROOM" => (first | exact U0 ‹_› | exact U1 ‹_› (by exact rfl) | exact U2 ‹_› (by exact rfl) | exact U3 ‹_› (by exact rfl) | ((simp +zetaDelta only [depth_under_make, depth_under_kw, depth_in1, depth_deeper, depth_caller]); (try dsimp only [ktrTop]); first | omega | decide +kernel))
  k_with "UNITS" => (first | exact U1 ‹_› (by exact rfl) | exact U2 ‹_› (by exact rfl) | exact U3 ‹_› (by exact rfl) | exact U4 ‹_› (by exact rfl) | exact U5 ‹_› (by exact rfl) | (have hcL9 := cLine_is; (simp +zetaDelta only [units_under_make, units_in1, units_deeper, Around.mark_units, units_caller]); (try dsimp only [ktrTop]); first | (rw [hcL9]; decide) | omega | decide +kernel))
  k_with "NE" => (first | with_reducible assumption | (refine neN (Nat.ne_of_lt ?_); walk_at "LTS") | (refine neN (Nat.ne_of_gt ?_); walk_at "LTS") | (refine neN ?_; (try dsimp only); omega))
  k_with "ENTER" => (refine' Internal.code_defN ?k1 ?k2 ?k3 ?k4 ?k5 ?kA ?kF ?kK ?k6 ?k7 ?k8 ?k9 ?kB ?_ ?c2 ?c3 ?c4 ?c5; (case kA | kF => exact rfl); (case kK => first | exact rfl | assumption); (case k1 | k2 | k3 | k4 | k5 => k_asm); (case k6 | k7 => k_is); (case k8 => ktr_room); (case k9 => exact BindsTo.of_eq (by kernel_rfl)); (case c5 => decide); (case kB => exact locs rfl); (case c2 | c3 | c4 => exact rfl); k_whole; intro g' L' h' tk' FG' F' N' B' X' T'; (try dsimp only); (try k_lift B'); (try walk_at "FOLD"); (refine let Ak : Around := _; (?_ : wpAny _ Ak _ _ _ _)))
  k_with "LTS" => (first | with_reducible assumption | exact ltM (by with_reducible assumption) (by k_mem) | exact And.left (by with_reducible assumption) | exact And.left (And.right (by with_reducible assumption)) | exact And.right (And.right (by with_reducible assumption)) | exact And.left (And.right (And.right (by with_reducible assumption))) | exact And.right (And.right (And.right (by with_reducible assumption))))
  k_with "ALL" => (first | with_reducible assumption | exact ne_of_allLt ‹_›)
  k_with "MEM" => (first | exact List.Mem.head _ | exact Mem1 | exact Mem2 | exact Mem3 | exact Mem4 | exact Mem5 | (refine TL6 ?_; walk_at "MEM"))
  k_with "SUB" => (first | assumption | exact TL1 ‹_› | exact TL2 ‹_› | exact TL3 ‹_› | exact TL4 ‹_› | exact TL5 ‹_› | (refine TL6 ?_; walk_at "SUB"))
  k_with "call ref" => (k_here; (with_reducible show wpAny _ _ (call (Value.ref _) _ _) _ _ _); k_dflt (refine wpAny_call ?_; cell_enter))
  k_with "call ref" => (k_here; (with_reducible show wpAny _ _ (call (Value.ref 277) _ _) _ _ _); (k_dflt (refine' FnW.useK (defaults_ok _ _) DefsR.k ?kB ?kF ?kX ?kN ?kT ?kK ?kd ?ku ?_; (case kB | kF | kX | kN | kT => k_asm); (case kK => first | exact rfl | assumption); (case kd => ktr_room); (case ku => ktr_units); (intro dd9 o9 kv9 t9 lt9 d9 di9 sy9 h9 tk9 F9 N9))); (try k_lt lt9); (try dsimp only))
  k_with "call ref" => (k_here; (with_reducible show wpAny _ _ (call (Value.ref 315) _ _) _ _ _);  (k_dflt (refine' call_cls ?k1 ?k2 ?k3 ?k4 ?k5 ?k6 ?_; (case k1 | k2 | k3 => k_asm); (case k4 | k5 | k6 => k_is); k_whole; intro x' d' h' F' N' l1 l2; (try k_lt l1); (try k_lt2 l2); cell_enter)))
  intro mean mg mb dp un gd cn cs a ccd cl outer A₀ base h₀ L m s Q E B F X N T hk hd hu hret
  walk_at "STEPS"
  refine' hret _ _ _ _ (NewR.mk hc ?a1 ?a2 ?a3 ?a4 ?a5 ?a6 ?a7 ?a8 ?a9) ‹_› (newsWeak ‹_› ?ysub)
  case ysub =>
    refine sub_cons (by k_mem) (sub_cons (by k_mem) ?_)
    show ∀ p ∈ _ :: _ :: _ :: _ :: rest, p ∈ _
    iterate 4 (refine sub_cons (by k_mem) ?_)
    exact fun p9 hp9 => by walk_at "SUB"
  case a2 => assumption
  case a1 => assumption
  case a3 => assumption
  case a4 => assumption
  case a5 => assumption
  case a6 => assumption
  case a7 => assumption
  case a8 => assumption
  case a9 => assumption
end
end Internal
namespace Internal
noncomputable abbrev DataR (w : World) (d c : Addr) (o lo : Obj) (r : Value) (nw : List (Addr × Obj)) : Prop := ∃ X, r = .ref X ∧ DSt w X c [(d, o), (c, lo)] GCS GCV NMS NMV nw
theorem unr_ne {h₀ h' : Heap} {L I : Addr} {oI : Obj} {all : List (Addr × Obj)} {rest : (Str → Option Value) → List (Addr × Obj) → Prop} {s₁ : Shared} {tk : Nat} {m' : Str → Option Value} (F : Fr h₀ L h' m') (N : News h₀ L h' ((I, oI) :: all)) (hoff : ∀ p ∈ all, p.1 ≠ I) (r : rest m' all) : UnrEndW h₀ L s₁ [(I, oI)] rest { s₁ with heap := h', toks := tk } :=
  ⟨h', tk, m', all, rfl, F, N, fun p hp q hq => by rw [List.mem_singleton.mp hq]; exact hoff p hp, r⟩
section
set_option maxHeartbeats 8000000 in
theorem data_ok (w : World) (d c : Addr) (o lo : Obj) (hdc : @LT.lt Nat _ d c) : FnW w 20 345 [] [(d, o), (c, lo)] (DataR w d c o lo) := by
  k_with_none
  k_with "FOLD" => ((fail_if_success (fail_if_success k_fold)); (try ((with_reducible rename Fr _ _ _ _ => Fz); (fail_if_success (with_reducible have : Fr _ _ _ mk := Fz)); (with_reducible refine let mk := _; have Fy : Fr _ _ _ mk := Fz; ?_); clear Fz)); (try ((with_reducible rename News _ _ _ _ => Nz); (fail_if_success (with_reducible have : News _ _ _ lk := Nz)); (with_reducible refine let lk := _; have Ny : News _ _ _ lk := Nz; ?_); clear Nz)); with_reducible refine let qk := _; let ek := _; (?_ : wpAny _ _ _ qk ek _))
  k_with "STEPS" => ((try walk_at "FOLD"); repeat' (first | (k_unfold; (try dsimp only)) | (k_end; wrow_close) | (walk1; all_goals (try ((fail_if_success (with_reducible show wpAny _ _ (subscriptTail _ _ _ _) _ _ _)); dsimp only)); all_goals (try ((with_reducible first | show wpAny _ _ (exec _ _) _ _ _ | show wpAny _ _ (execs _ _) _ _ _); (try ((with_reducible first | refine genTok ?_ | refine genTokS ?_); intro tkG)); (try walk_at "FOLD")))) | (dsimp only; walk1)))
  k_with "ROOM" => (first | exact U0 ‹_› | exact U1 ‹_› (by exact rfl) | exact U2 ‹_› (by exact rfl) | exact U3 ‹_› (by exact rfl) | ((simp +zetaDelta only [depth_under_make, depth_under_kw, depth_in1, depth_deeper, depth_caller]); (try dsimp only [ktrTop]); first | omega | decide +kernel))
  k_with "UNITS" => (first | exact U1 ‹_› (by exact rfl) | exact U2 ‹_› (by exact rfl) | exact U3 ‹_› (by exact rfl) | exact U4 ‹_› (by exact rfl) | exact U5 ‹_› (by exact rfl) | (have hcL9 := cLine_is; (simp +zetaDelta only [units_under_make, units_in1, units_deeper, Around.mark_units, units_caller]); (try dsimp only [ktrTop]); first | (rw [hcL9]; decide) | omega | decide +kernel))
  k_with "NE" => (first | with_reducible assumption | (refine neN (Nat.ne_of_lt ?_); walk_at "LTS") | (refine neN (Nat.ne_of_gt ?_); walk_at "LTS") | (refine neN ?_; (try dsimp only); omega))
  k_with "ENTER" => (refine' Internal.code_defN ?k1 ?k2 ?k3 ?k4 ?k5 ?kA ?kF ?kK ?k6 ?k7 ?k8 ?k9 ?kB ?_ ?c2 ?c3 ?c4 ?c5; (case kA | kF => exact rfl); (case kK => first | exact rfl | assumption); (case k1 | k2 | k3 | k4 | k5 => k_asm); (case k6 | k7 => k_is); (case k8 => ktr_room); (case k9 => exact BindsTo.of_eq (by kernel_rfl)); (case c5 => decide); (case kB => exact locs rfl); (case c2 | c3 | c4 => exact rfl); k_whole; intro g' L' h' tk' FG' F' N' B' X' T'; (try dsimp only); (try k_lift B'); (try walk_at "FOLD"); (refine let Ak : Around := _; (?_ : wpAny _ Ak _ _ _ _)))
  k_with "LTS" => (first | with_reducible assumption | exact ltM (by with_reducible assumption) (by k_mem) | exact And.left (by with_reducible assumption) | exact And.left (And.right (by with_reducible assumption)) | exact And.right (And.right (by with_reducible assumption)) | exact And.left (And.right (And.right (by with_reducible assumption))) | exact And.right (And.right (And.right (by with_reducible assumption))))
  k_with "ALL" => (first | with_reducible assumption | exact ne_of_allLt ‹_›)
  k_with "MEM" => (first | exact List.Mem.head _ | exact Mem1 | exact Mem2 | exact Mem3 | exact Mem4 | exact Mem5 | (refine TL6 ?_; walk_at "MEM"))
  k_with "SUB" => (first | assumption | exact TL1 ‹_› | exact TL2 ‹_› | exact TL3 ‹_› | exact TL4 ‹_› | exact TL5 ‹_› | (refine TL6 ?_; walk_at "SUB"))
  k_with "exec For Tuple Tuple cons nil" => (k_here; k_dflt (refine' For_turns ?kF ?_; (case kF => k_asm)))
  k_with "pyIter ref" => (k_here; (with_reducible show wpAny _ _ (pyIter (Value.ref _)) (fun it s₂ => TurnsAt _ _ _ _ _ _ _ _ _ it s₂) _ _); (with_reducible rename Fr _ _ _ _ => lF'); (with_reducible rename News _ _ _ _ => lN'); (with_unfolding_all refine iter_tupTurns (vs := [_, _, _, _]) (by rfl) lF' lN' (List.Mem.head _) (by rfl) (by rfl) ?_); clear lF'; intro i' l1; (try k_lt l1))
  k_with "UnrEndW" => ((rename Fr _ _ _ _ => lF'); (rename News _ _ _ _ => lN'); (k_dflt (refine unr_ne lF' lN' ?off ⟨by k_subL, ?_⟩; (case off => with_reducible assumption))))
  k_with "call ref" => (k_here; (with_reducible show wpAny _ _ (call (Value.ref 315) _ _) _ _ _); (k_dflt (refine' FnW.useK (newdata_ok w c lo [(d, o), (c, lo)] (.tail _ (.head _))) NewR.k ?kB ?kF ?kX ?kN ?kT ?kK ?kd ?ku ?_; (case kB | kF | kX | kN | kT => k_asm); (case kK => first | exact rfl | assumption); (case kd => ktr_room); (case ku => ktr_units); (intro X9 led9 dX9 dd9 mm9 ta9 tb9 tc9 td9 pr9 wo9 D9 h9 tk9 F9 N9))); (try dsimp only))
  k_with "call ref" => (k_here; (with_reducible show wpAny _ _ (call (Value.ref 298) [Value.ref _, Value.str _ _, Value.int 9 _, Value.int 9 _, _] _) _ _ _); (k_dflt (refine' FnW.useK (dput_i ?hD ?off ?hR ?hI ?hs ?hc (fun r l _ h => dp9 r l h)) PutI.k ?kB ?kF ?kX ?kN ?kT ?kK ?kd ?ku ?_; (case kN => k_asm); (case hD | off | hR => with_reducible assumption); (case hI => exact .head _); (case hc => exact ⟨_, by k_mem⟩); (case hs => exact (fun p hp => by walk_at "SUB")); (case kB | kF | kX | kT => k_asm); (case kK => first | exact rfl | assumption); (case kd => ktr_room); (case ku => ktr_units); (intro led9 dX9 dd9 mm9 ta9 tb9 tc9 td9 pr9 wo9 D9 o9a o9 h9 tk9 F9 N9); (have oR9 := fun p hp => o9 p (List.mem_append_left _ hp)); (dsimp only [dataD, List.cons_append, List.nil_append] at N9 o9))); (try dsimp only))
  k_with "call ref" => (k_here; (with_reducible show wpAny _ _ (call (Value.ref 298) [Value.ref _, Value.str _ _, Value.int 57344 _, Value.int 57344 _, _] _) _ _ _); (k_dflt (refine' FnW.useK (dput_i ?hD ?off ?hR ?hI ?hs ?hc (fun r l _ h => dpCo r l h)) PutI.k ?kB ?kF ?kX ?kN ?kT ?kK ?kd ?ku ?_; (case kN => k_asm); (case hD | off | hR => with_reducible assumption); (case hI => exact .head _); (case hc => exact ⟨_, by k_mem⟩); (case hs => exact (fun p hp => by walk_at "SUB")); (case kB | kF | kX | kT => k_asm); (case kK => first | exact rfl | assumption); (case kd => ktr_room); (case ku => ktr_units); (intro led9 dX9 dd9 mm9 ta9 tb9 tc9 td9 pr9 wo9 D9 o9a o9 h9 tk9 F9 N9); (have oR9 := fun p hp => o9 p (List.mem_append_left _ hp)); (dsimp only [dataD, List.cons_append, List.nil_append] at N9 o9))); (try dsimp only))
  k_with "call ref" => (k_here; (with_reducible show wpAny _ _ (call (Value.ref 298) [Value.ref _, Value.str _ _, Value.int 66 _, Value.int 66 _, _] _) _ _ _); (k_dflt (refine' FnW.useK (dput_i ?hD ?off ?hR ?hI ?hs ?hc (fun r l _ h => dp66 r l h)) PutI.k ?kB ?kF ?kX ?kN ?kT ?kK ?kd ?ku ?_; (case kN => k_asm); (case hD | off | hR => with_reducible assumption); (case hI => exact .head _); (case hc => exact ⟨_, by k_mem⟩); (case hs => exact (fun p hp => by walk_at "SUB")); (case kB | kF | kX | kT => k_asm); (case kK => first | exact rfl | assumption); (case kd => ktr_room); (case ku => ktr_units); (intro led9 dX9 dd9 mm9 ta9 tb9 tc9 td9 pr9 wo9 D9 o9a o9 h9 tk9 F9 N9); (have oR9 := fun p hp => o9 p (List.mem_append_left _ hp)); (dsimp only [dataD, List.cons_append, List.nil_append] at N9 o9))); (try dsimp only))
  k_with "call ref" => (k_here; (with_reducible show wpAny _ _ (call (Value.ref 298) [Value.ref _, Value.str _ _, Value.int 65 _, Value.int 65 _, Value.bytes _ _] _) _ _ _); (k_dflt (refine' FnW.useK (dput_i ?hD ?off ?hR ?hI ?hs ?hc (fun r l hc h => dpN0 r l hc h)) PutI.k ?kB ?kF ?kX ?kN ?kT ?kK ?kd ?ku ?_; (case kN => k_asm); (case hD | off | hR => with_reducible assumption); (case hI => exact .head _); (case hc => exact ⟨_, by k_mem⟩); (case hs => exact (fun p hp => by walk_at "SUB")); (case kB | kF | kX | kT => k_asm); (case kK => first | exact rfl | assumption); (case kd => ktr_room); (case ku => ktr_units); (intro led9 dX9 dd9 mm9 ta9 tb9 tc9 td9 pr9 wo9 D9 o9a o9 h9 tk9 F9 N9); (have oR9 := fun p hp => o9 p (List.mem_append_left _ hp)); (dsimp only [dataD, List.cons_append, List.nil_append] at N9 o9))); (try dsimp only))
  k_with "call ref" => (k_here; (with_reducible show wpAny _ _ (call (Value.ref 298) [Value.ref _, Value.str _ _, Value.int 65 _, Value.int 65 _, Value.str _ _] _) _ _ _); (k_dflt (refine' FnW.useK (dput_f ?hD ?f0 ?f1 ?f2 ?f3 ?f4 ?fI ?hc (fun r l hc h => dpG0 r l hc h)) PutI.k ?kB ?kF ?kX ?kN ?kT ?kK ?kd ?ku ?_; (case kN => k_asm); (case hD => with_reducible assumption); (case f0 | f1 | f2 | f3 | f4 | fI => k_asm); (case hc => exact ⟨_, by k_mem⟩); (case kB | kF | kX | kT => k_asm); (case kK => first | exact rfl | assumption); (case kd => ktr_room); (case ku => ktr_units); (intro led9 dX9 dd9 mm9 ta9 tb9 tc9 td9 pr9 wo9 D9 o9a o9 h9 tk9 F9 N9); (have oR9 := fun p hp => o9 p (List.mem_append_left _ hp)); (dsimp only [dataD, List.cons_append, List.nil_append] at N9 o9))); (try dsimp only))
  k_with "call ref" => (k_here; (with_reducible show wpAny _ _ (call (Value.ref 298) [Value.ref _, Value.str _ _, Value.int 19968 _, Value.int _ _, Value.bytes _ _] _) _ _ _); (k_dflt (refine' FnW.useK (dput_o ?hD ?hs dnC) PutO.k ?kB ?kF ?kX ?kN ?kT ?kK ?kd ?ku ?_; (case kN => k_asm); (case hD => with_reducible assumption); (case hs => exact (fun p hp => by walk_at "SUB")); (case kB | kF | kX | kT => k_asm); (case kK => first | exact rfl | assumption); (case kd => ktr_room); (case ku => ktr_units); (intro led9 dX9 dd9 mm9 ta9 tb9 tc9 td9 pr9 wo9 D9 h9 tk9 F9 N9); (dsimp only [dataD] at N9))); (try dsimp only))
  k_with "call ref" => (k_here; (with_reducible show wpAny _ _ (call (Value.ref 298) [Value.ref _, Value.str _ _, Value.int 94208 _, Value.int _ _, Value.bytes _ _] _) _ _ _); (k_dflt (refine' FnW.useK (dput_o ?hD ?hs dnT) PutO.k ?kB ?kF ?kX ?kN ?kT ?kK ?kd ?ku ?_; (case kN => k_asm); (case hD => with_reducible assumption); (case hs => exact (fun p hp => by walk_at "SUB")); (case kB | kF | kX | kT => k_asm); (case kK => first | exact rfl | assumption); (case kd => ktr_room); (case ku => ktr_units); (intro led9 dX9 dd9 mm9 ta9 tb9 tc9 td9 pr9 wo9 D9 h9 tk9 F9 N9); (dsimp only [dataD] at N9))); (try dsimp only))
  k_with "call ref" => (k_here; (with_reducible show wpAny _ _ (call (Value.ref 298) [Value.ref _, Value.str _ _, Value.int 19968 _, Value.int _ _, Value.str _ _] _) _ _ _); (k_dflt (refine' FnW.useK (dput_o ?hD ?hs dpC) PutO.k ?kB ?kF ?kX ?kN ?kT ?kK ?kd ?ku ?_; (case kN => k_asm); (case hD => with_reducible assumption); (case hs => exact (fun p hp => by walk_at "SUB")); (case kB | kF | kX | kT => k_asm); (case kK => first | exact rfl | assumption); (case kd => ktr_room); (case ku => ktr_units); (intro led9 dX9 dd9 mm9 ta9 tb9 tc9 td9 pr9 wo9 D9 h9 tk9 F9 N9); (dsimp only [dataD] at N9))); (try dsimp only))
  k_with "call ref" => (k_here; (with_reducible show wpAny _ _ (call (Value.ref 298) [Value.ref _, Value.str _ _, Value.int 94208 _, Value.int _ _, Value.str _ _] _) _ _ _); (k_dflt (refine' FnW.useK (dput_o ?hD ?hs dpT) PutO.k ?kB ?kF ?kX ?kN ?kT ?kK ?kd ?ku ?_; (case kN => k_asm); (case hD => with_reducible assumption); (case hs => exact (fun p hp => by walk_at "SUB")); (case kB | kF | kX | kT => k_asm); (case kK => first | exact rfl | assumption); (case kd => ktr_room); (case ku => ktr_units); (intro led9 dX9 dd9 mm9 ta9 tb9 tc9 td9 pr9 wo9 D9 h9 tk9 F9 N9); (dsimp only [dataD] at N9))); (try dsimp only))
  intro mean mg mb dp un gd cn cs a ccd cl outer A₀ base h₀ L m s Q E B F X N T hk hd hu hret
  refine wpAny_call ?_
  k_dflt cell_enter
  walk_at "STEPS"
  (with_reducible rename DSt _ _ _ _ _ _ _ _ _ => D0)
  obtain ⟨ledZ, DZ, mZ, _, _⟩ := DQ.cut (T := [_, _, _, _, _]) (R := [(d, o), (c, lo)]) D0
  exact hret _ _ _ _ ⟨_, rfl, DZ⟩ ‹_› (newsWeak ‹_› (fun p hp => List.mem_cons_of_mem _ (List.mem_cons_of_mem _ (mZ p hp))))
end
end Internal
namespace Internal
noncomputable def DataIn (w : World) (X : Addr) (nw : List (Addr × Obj)) : Prop :=
  ∃ c bG bN H kv2, (∀ p ∈ bG, p ∈ nw) ∧ (∀ p ∈ bN, p ∈ nw) ∧ (∀ p ∈ H, p ∈ nw) ∧ IsM w c kGc GCS StrV GCV bG kv2 ∧ IsM w c kNm NMS OptV NMV bN kv2 ∧ HDm w X c kv2 H
theorem DataIn.mono {w : World} {X : Addr} {nw nw' : List (Addr × Obj)} (h : DataIn w X nw) (s : ∀ p ∈ nw, p ∈ nw') : DataIn w X nw' := by
  obtain ⟨c, bG, bN, H, kv2, a, b, d, r⟩ := h
  exact ⟨c, bG, bN, H, kv2, fun p hp => s p (a p hp), fun p hp => s p (b p hp), fun p hp => s p (d p hp), r⟩
theorem mem_app {l nw : List (Addr × Obj)} (h : ∀ p ∈ l, p ∈ nw) : ∀ p ∈ l ++ nw, p ∈ nw := fun p hp => by
  rcases List.mem_append.mp hp with hp | hp
  · exact h p hp
  · exact hp
theorem RMst.low {α : Type} {w : World} {x c : Addr} {blk : List (Addr × Obj)} {gs : List Int} {Rv : α → Value → Prop} {gv : List α} (h : RMst w x c blk gs Rv gv) : ∀ p ∈ blk, @LT.lt Nat _ c p.1 := by
  obtain ⟨dx, S, V, dv, t1, t2, t3, vs, us, k1, k2, rfl, _, _, ⟨l1, l2, l3⟩, l4⟩ := h
  intro p hp
  simp only [List.mem_cons, List.not_mem_nil, or_false] at hp
  rcases hp with rfl | rfl | rfl | rfl
  · exact Nat.lt_trans l4 l1
  · exact l4
  · exact Nat.lt_trans (Nat.lt_trans l4 l1) l2
  · exact Nat.lt_trans (Nat.lt_trans (Nat.lt_trans l4 l1) l2) l3
theorem HDm.low {w : World} {X c : Addr} {kv2 : List (Str × Value)} {H : List (Addr × Obj)} (h : HDm w X c kv2 H) : ∀ p ∈ H, @LT.lt Nat _ c p.1 := by
  obtain ⟨dX, dd, mm, ta, tb, tc, td, t, pr, wo, od, om, kvs, rfl, _, _, ⟨l1, l2, l3, l4⟩, _⟩ := h
  intro p hp
  simp only [List.mem_cons, List.not_mem_nil, or_false] at hp
  rcases hp with rfl | rfl | rfl | rfl <;> assumption
theorem DataR.blk {w : World} {d c : Addr} {o lo : Obj} {r : Value} {nw : List (Addr × Obj)} (h : DataR w d c o lo r nw) : ∃ X blk, r = .ref X ∧ nw = blk ++ [(d, o), (c, lo)] ∧ DataIn w X blk ∧ ∀ p ∈ blk, @LT.lt Nat _ c p.1 := by
  obtain ⟨X, rfl, bG, bN, H, kv2, rfl, hG, hN, hH, _⟩ := h
  refine ⟨X, bG ++ (bN ++ H), rfl, by simp only [List.append_assoc], ⟨c, bG, bN, H, kv2, fun p hp => List.mem_append_left _ hp, fun p hp => List.mem_append_right _ (List.mem_append_left _ hp), fun p hp => List.mem_append_right _ (List.mem_append_right _ hp), hG, hN, hH⟩, fun p hp => ?_⟩
  rcases List.mem_append.mp hp with h | h
  · exact hG.elim fun _ z => z.1.low p h
  rcases List.mem_append.mp h with h | h
  · exact hN.elim fun _ z => z.1.low p h
  · exact hH.low p h
noncomputable def nameI (c : Int) : Option (List UInt8) := NMV.getD (placeI NMS c).toNat none
noncomputable def gcI (c : Int) : Str := GCV.getD (placeI GCS c).toNat (Str.ofString "")
theorem pair_at {α : Type} {R : α → Value → Prop} {as : List α} {us : List Value} (p : Paired R as us) (d : α) : ∀ {k : Nat}, k < as.length → ∃ v, us[k]? = some v ∧ R (as.getD k d) v := by
  induction p with
  | nil => intro k h; simp at h
  | cons e r ih =>
    intro k h
    cases k with
    | zero => exact ⟨_, rfl, e⟩
    | succ k => simpa using ih (k := k) (by simpa using h)
theorem place_in {a : Int} {ns : List Int} {x : Int} (h : a ≤ x) : 0 ≤ placeI (a :: ns) x ∧ placeI (a :: ns) x < ((a :: ns).length : Nat) := by
  have h1 := upto_le (a :: ns) x
  have h2 : 1 ≤ upto (a :: ns) x := by
    unfold upto
    rw [List.takeWhile_cons_of_pos (by simpa using h)]
    simp
  unfold placeI
  exact ⟨Int.sub_nonneg_of_le (Int.ofNat_le.mpr h2), Int.lt_of_lt_of_le (Int.sub_lt_self _ (by decide)) (Int.ofNat_le.mpr h1)⟩
theorem place_nm {x : Int} (h : 0 ≤ x) : 0 ≤ placeI NMS x ∧ placeI NMS x < (NMV.length : Nat) := place_in h
theorem place_gc {x : Int} (h : 0 ≤ x) : 0 ≤ placeI GCS x ∧ placeI GCS x < (GCV.length : Nat) := place_in h
theorem item_P {prog : Program} {w : World} {A : Around} {E : Value → Shared → Prop} {s : Shared} {h₀ : Heap} {L : Addr} {news : List (Addr × Obj)} {value slice : Expr} {α : Type} {R : α → Value → Prop} {as : List α} {us : List Value} {n : Nat} {D : Addr} {k : Int} {u : Tok} (d : α) {Q : Value → Shared → Prop} (N : News h₀ L s.heap news) (hm : (D, listOf us.toArray n) ∈ news) (hp : Paired R as us) (hz : as.length ≤ 1000) (h : 0 ≤ k ∧ k < (as.length : Nat)) (hQ : ∀ v, R (as.getD k.toNat d) v → Q v s)
    (hs : subscripted slice false (.ref D) (.int k u) = operate [.ref D, .int k u] (getItem (.ref D) (.int k u)) := by with_unfolding_all rfl) (hg : ∀ r, letTemporaryGo value (.ref D) r = pure () := by intro _; with_unfolding_all rfl) :
    wpAny (model prog w) A (subscriptTail value slice (.ref D) (.int k u)) Q E s := by
  obtain ⟨v, e, hv⟩ := pair_at hp d (k := k.toNat) ((Int.toNat_lt h.1).mpr h.2)
  exact item_list (items := us.toArray) (x := v) ⟨_, (N _ hm).1, rfl, n, rfl⟩ h.1 (by omega) (by simpa using e) (hQ v hv) hs hg
section
set_option maxHeartbeats 4000000 in
theorem get_any (w : World) (news : List (Addr × Obj)) (X dX dd mm x dx Sa Va : Addr) (dv pr wo : Value) (ta tb tc td t1 t2 t3 u9 u8 : Tok) (om : Obj) (kv2 : List (Str × Value)) (nm : Str) (vs us : List Value) (k1 k2 : Nat) {α : Type} (d0 : α) (Rv : α → Value → Prop) (gs : List Int) (gv : List α) (cc : Int)
    (hall : ∀ p ∈ [(X, instObj 315 dX), (dX, dataD w ta tb tc td dd mm pr wo), (mm, om), (x, instObj 259 dx), (dx, rmD w t1 t2 t3 dv Sa Va), (Sa, listOf vs.toArray k1), (Va, listOf us.toArray k2)], p ∈ news) (hom : om.IsDictOf (PySem.strKind PG w) kv2) (hmm : (mm == sysModules) = false) (hv : valueAt kv2 nm = some (.ref x)) (hi : IntsAre vs gs) (hp : Paired Rv gv us) (hs : gs.Pairwise (· < ·)) (hz : gs.length ≤ 1000) (hz2 : gv.length ≤ 1000) (hpl : 0 ≤ placeI gs cc ∧ placeI gs cc < (gv.length : Nat)) :
    FnW w 12 305 [.ref X, .str nm u9, .int cc u8] news (Pure news (Rv (gv.getD (placeI gs cc).toNat d0))) := by
  k_with_none
  k_with "FOLD" => ((fail_if_success (fail_if_success k_fold)); (try ((with_reducible rename Fr _ _ _ _ => Fz); (fail_if_success (with_reducible have : Fr _ _ _ mk := Fz)); (with_reducible refine let mk := _; have Fy : Fr _ _ _ mk := Fz; ?_); clear Fz)); (try ((with_reducible rename News _ _ _ _ => Nz); (fail_if_success (with_reducible have : News _ _ _ lk := Nz)); (with_reducible refine let lk := _; have Ny : News _ _ _ lk := Nz; ?_); clear Nz)); with_reducible refine let qk := _; let ek := _; (?_ : wpAny _ _ _ qk ek _))
  k_with "STEPS" => ((try walk_at "FOLD"); repeat' (first | (k_unfold; (try dsimp only)) | (k_end; wrow_close) | (walk1; all_goals (try ((fail_if_success (with_reducible show wpAny _ _ (subscriptTail _ _ _ _) _ _ _)); dsimp only)); all_goals (try ((with_reducible first | show wpAny _ _ (exec _ _) _ _ _ | show wpAny _ _ (execs _ _) _ _ _); (try ((with_reducible first | refine genTok ?_ | refine genTokS ?_); intro tkG)); (try walk_at "FOLD")))) | (dsimp only; walk1)))
  k_with "ROOM" => (first | exact U0 ‹_› | exact U1 ‹_› (by exact rfl) | exact U2 ‹_› (by exact rfl) | exact U3 ‹_› (by exact rfl) | ((simp +zetaDelta only [depth_under_make, depth_under_kw, depth_in1, depth_deeper, depth_caller]); (try dsimp only [ktrTop]); first | omega | decide +kernel))
  k_with "UNITS" => (first | exact U1 ‹_› (by exact rfl) | exact U2 ‹_› (by exact rfl) | exact U3 ‹_› (by exact rfl) | exact U4 ‹_› (by exact rfl) | exact U5 ‹_› (by exact rfl) | (have hcL9 := cLine_is; (simp +zetaDelta only [units_under_make, units_in1, units_deeper, Around.mark_units, units_caller]); (try dsimp only [ktrTop]); first | (rw [hcL9]; decide) | omega | decide +kernel))
  k_with "NE" => (first | with_reducible assumption | (refine neN (Nat.ne_of_lt ?_); walk_at "LTS") | (refine neN (Nat.ne_of_gt ?_); walk_at "LTS") | (refine neN ?_; (try dsimp only); omega))
  k_with "ENTER" => (refine' Internal.code_defN ?k1 ?k2 ?k3 ?k4 ?k5 ?kA ?kF ?kK ?k6 ?k7 ?k8 ?k9 ?kB ?_ ?c2 ?c3 ?c4 ?c5; (case kA | kF => exact rfl); (case kK => first | exact rfl | assumption); (case k1 | k2 | k3 | k4 | k5 => k_asm); (case k6 | k7 => k_is); (case k8 => ktr_room); (case k9 => exact BindsTo.of_eq (by kernel_rfl)); (case c5 => decide); (case kB => exact locs rfl); (case c2 | c3 | c4 => exact rfl); k_whole; intro g' L' h' tk' FG' F' N' B' X' T'; (try dsimp only); (try k_lift B'); (try walk_at "FOLD"); (refine let Ak : Around := _; (?_ : wpAny _ Ak _ _ _ _)))
  k_with "LTS" => (first | with_reducible assumption | exact ltM (by with_reducible assumption) (by k_mem) | exact And.left (by with_reducible assumption) | exact And.left (And.right (by with_reducible assumption)) | exact And.right (And.right (by with_reducible assumption)) | exact And.left (And.right (And.right (by with_reducible assumption))) | exact And.right (And.right (And.right (by with_reducible assumption))))
  k_with "ALL" => (first | with_reducible assumption | exact ne_of_allLt ‹_›)
  k_with "MEM" => (first | exact List.Mem.head _ | exact Mem1 | exact Mem2 | exact Mem3 | exact Mem4 | exact Mem5 | (refine TL6 ?_; walk_at "MEM"))
  k_with "SUB" => (first | assumption | exact TL1 ‹_› | exact TL2 ‹_› | exact TL3 ‹_› | exact TL4 ‹_› | exact TL5 ‹_› | (refine TL6 ?_; walk_at "SUB"))
  k_with "call ref" => (k_here; (with_reducible show wpAny _ _ (call (Value.ref _) _ _) _ _ _); k_dflt (refine wpAny_call ?_; cell_enter))
  k_with "compareOp In str ref" => (k_here; (with_reducible show wpAny _ _ (compareOp CmpOp.In (Value.str _ _) (Value.ref _)) _ _ _); k_dflt (refine kda_in (knd := PySem.strKind _ _) (by k_asm) (by k_mem) ‹_› ‹_› (strKind_is _ _ _ _) true (by rw [show valueAt _ _ = some _ from by assumption]; exact rfl) ?_))
  k_with "getItem ref str" => (k_here; (k_dflt (refine kdt_getItem (knd := PySem.strKind _ _) (by k_asm) (by k_mem) ‹_› (strKind_is _ _ _ _) ‹_› ?_)))
  k_with "call ref" => (k_here; (with_reducible show wpAny _ _ (call (Value.ref 96) [Value.ref _, Value.int _ _] _) _ _ _); (k_dflt (refine' Fn.useE (place_ok _ _ _ _ _ _ _ ?hS ?hi ?hs ?hz) ?kB ?kF ?kX ?kN ?kT ?kK ?kd ?ku ?_; (case kN => k_asm); (case hS => k_mem); (case hi | hs | hz => assumption); (case kB | kF | kX | kT => k_asm); (case kK => first | exact rfl | assumption); (case kd => ktr_room); (case ku => ktr_units); (intro t9 h9 tk9 F9 N9))); (try dsimp only))
  k_with "subscriptTail" => (k_here; (with_reducible show wpAny _ _ (subscriptTail _ _ (Value.ref _) (Value.int _ _)) _ _ _); k_dflt (refine item_P d0 (by k_asm) (by k_mem) ‹_› ‹_› ‹_› ?_; intro v9 hv9))
  intro mean mg mb dp un gd cn cs a ccd cl outer A₀ base h₀ L m s Q E B F XX N T hk hd hu hret
  replace N : News h₀ L s.heap ((X, instObj 315 dX) :: (dX, dataD w ta tb tc td dd mm pr wo) :: (mm, om) :: (x, instObj 259 dx) :: (dx, rmD w t1 t2 t3 dv Sa Va) :: (Sa, listOf vs.toArray k1) :: (Va, listOf us.toArray k2) :: news) := newsWeak N (mem_app hall)
  clear hall
  refine wpAny_call ?_
  k_dflt cell_enter
  walk_at "STEPS"
  all_goals exact hret _ _ _ _ ⟨by assumption, rfl⟩ ‹_› (newsWeak ‹_› (fun p hp => by walk_at "SUB"))
theorem get_in {α : Type} {w : World} {news blk H : List (Addr × Obj)} {kv2 : List (Str × Value)} {X x c : Addr} {gs : List Int} {gv : List α} {Rv : α → Value → Prop} (nm : Str) (u9 u8 : Tok) (d0 : α) (cc : Int) (hb : RMst w x c blk gs Rv gv) (hH : HDm w X c kv2 H) (m1 : ∀ p ∈ blk, p ∈ news) (m2 : ∀ p ∈ H, p ∈ news) (hv : valueAt kv2 nm = some (.ref x))
    (hs : gs.Pairwise (· < ·)) (hz : gs.length ≤ 1000) (hz2 : gv.length ≤ 1000) (hpl : 0 ≤ placeI gs cc ∧ placeI gs cc < (gv.length : Nat)) :
    FnW w 12 305 [.ref X, .str nm u9, .int cc u8] news (Pure news (Rv (gv.getD (placeI gs cc).toNat d0))) := by
  (refine byG ?_; intro G9 hG9; obtain ⟨dx, S, V, dv, t1, t2, t3, vs, us, k1, k2, rfl, hi, hp, _, _⟩ := hb; refine hG9 ?_; clear hG9 G9)
  (refine byG ?_; intro G9 hG9; obtain ⟨dX, dd, mm, ta, tb, tc, td, t, pr, wo, od, om, kvs, rfl, _, ⟨hom, hmm, _⟩, _⟩ := hH; refine hG9 ?_; clear hG9 G9)
  refine get_any w news X dX dd mm x dx S V dv pr wo ta tb tc td t1 t2 t3 u9 u8 om kv2 nm vs us k1 k2 d0 Rv gs gv cc (fun p hq => ?_) hom hmm hv hi hp hs hz hz2 hpl
  · simp only [List.mem_cons, List.not_mem_nil, or_false] at hq
    rcases hq with rfl | rfl | rfl | rfl | rfl | rfl | rfl
    · exact m2 _ (.head _)
    · exact m2 _ (.tail _ (.head _))
    · exact m2 _ (.tail _ (.tail _ (.tail _ (.head _))))
    · exact m1 _ (.head _)
    · exact m1 _ (.tail _ (.head _))
    · exact m1 _ (.tail _ (.tail _ (.head _)))
    · exact m1 _ (.tail _ (.tail _ (.tail _ (.head _))))
theorem get_nm_ok (w : World) (news : List (Addr × Obj)) (xD : Addr) (cc : Int) (u9 u8 : Tok) (hD : DataIn w xD news) (hc : 0 ≤ cc) : FnW w 12 305 [.ref xD, .str (Str.ofString "name") u9, .int cc u8] news (Pure news (OptV (nameI cc))) := by
  obtain ⟨c, bG, bN, H, kv2, a, b, d, _, ⟨x, hN, ev⟩, hH⟩ := hD
  exact get_in kNm u9 u8 none cc hN hH b d ev (by decide) (by decide) (by decide) (place_nm hc)
theorem get_gc_ok (w : World) (news : List (Addr × Obj)) (xD : Addr) (cc : Int) (u9 u8 : Tok) (hD : DataIn w xD news) (hc : 0 ≤ cc) : FnW w 12 305 [.ref xD, .str (Str.ofString "gc") u9, .int cc u8] news (Pure news (fun r => ∃ t, r = .str (gcI cc) t)) := by
  obtain ⟨c, bG, bN, H, kv2, a, b, d, ⟨x, hG, ev⟩, _, hH⟩ := hD
  exact get_in kGc u9 u8 (Str.ofString "") cc hG hH a d ev (by decide) (by decide) (by decide) (place_gc hc)
end
end Internal
namespace Internal
noncomputable def capC (c : UInt8) : UInt8 := if 97 ≤ c ∧ c ≤ 122 then c - 32 else c
theorem capC_int (c : UInt8) : capI (c.toNat : Int) = ((capC c).toNat : Int) := by
  exact u8 (P := fun c => capI (c.toNat : Int) = ((capC c).toNat : Int)) (by decide +kernel) c
noncomputable def signC (c : UInt8) : Bool := signI (c.toNat : Int)
noncomputable def medialB (l : List UInt8) (i : Nat) : Bool := i != 0 && i + 1 != l.length && signC (l.getD (i - 1) 0) && signC (l.getD (i + 1) 0)
noncomputable def behC (c : UInt8) : Option UInt8 := if signC c then some (capC c) else none
noncomputable def behindB (l : List UInt8) (i : Nat) : List UInt8 := (l.drop (i + 1)).filterMap behC
noncomputable def FG (f : UInt8 → Option UInt8) (c : UInt8) (ov : Option Value) : Prop := match f c with
  | none => ov = none
  | some d => ∃ u, ov = some (.int (d.toNat : Int) u)
theorem fg_paired {f : UInt8 → Option UInt8} {l : List UInt8} {zs : List (Option Value)} (p : Paired (fun c ov => FG f c ov) l zs) : Paired ByteIs (l.filterMap f) (zs.filterMap id) := by
  induction p with
  | nil => exact .nil
  | @cons c z l zs h r ih =>
    rw [List.filterMap_cons, List.filterMap_cons]
    unfold FG at h
    cases e : f c with
    | none => rw [e] at h; subst h; exact ih
    | some d =>
      rw [e] at h
      obtain ⟨u, rfl⟩ := h
      exact .cons ⟨u, rfl⟩ ih
theorem fg_len {f : UInt8 → Option UInt8} {l : List UInt8} {n : Nat} (h : l.length ≤ n) : (l.filterMap f).length ≤ n := Nat.le_trans (List.length_filterMap_le _ _) h
theorem beh_none {c : UInt8} (h : signI (c.toNat : Int) = false) : FG behC c none := by
  have e : behC c = none := by unfold behC signC; rw [h]; rfl
  unfold FG; rw [e]
theorem beh_some {c : UInt8} {u : Tok} (h : signI (c.toNat : Int) = true) : FG behC c (some (.int (capI (c.toNat : Int)) u)) := by
  have e : behC c = some (capC c) := by unfold behC signC; rw [h]; rfl
  unfold FG; rw [e]
  exact ⟨u, by rw [capC_int]⟩
theorem cut_behind {l : List UInt8} {x : Int} (h : 0 ≤ x) : cut l (some (x + 1)) none = l.drop (x.toNat + 1) := by
  have e : x + 1 = ((x.toNat + 1 : Nat) : Int) := by obtain ⟨n, rfl⟩ := Int.eq_ofNat_of_zero_le h; rfl
  rw [e, cut_from]
theorem med_false {l : List UInt8} {i : Nat} (h : ((i : Nat) : Int) = 0 ∨ ((i : Nat) : Int) + 1 = ((l.length : Nat) : Int) ∨ signI ((l.getD (((i : Nat) : Int) - 1).toNat 0).toNat : Int) = false ∨ signI ((l.getD (((i : Nat) : Int) + 1).toNat 0).toNat : Int) = false) : medialB l i = false := by
  unfold medialB signC
  have e1 : (((i : Nat) : Int) - 1).toNat = i - 1 := Int.pred_toNat _
  have e2 : (((i : Nat) : Int) + 1).toNat = i + 1 := rfl
  rw [e1, e2] at h
  rcases h with h | h | h | h
  · have : i = 0 := Int.ofNat.inj h
    subst this; rfl
  · have : i + 1 = l.length := Int.ofNat.inj h
    rw [this]; simp
  · rw [h]; simp
  · rw [h]; simp
theorem med_second {l : List UInt8} {i : Nat} (h0 : ¬ ((i : Nat) : Int) = 0) (h1 : ¬ ((i : Nat) : Int) + 1 = ((l.length : Nat) : Int)) (h2 : signI ((l.getD (((i : Nat) : Int) - 1).toNat 0).toNat : Int) = true) : signI ((l.getD (((i : Nat) : Int) + 1).toNat 0).toNat : Int) = medialB l i := by
  unfold medialB signC
  have e1 : (((i : Nat) : Int) - 1).toNat = i - 1 := Int.pred_toNat _
  have e2 : (((i : Nat) : Int) + 1).toNat = i + 1 := rfl
  rw [e1] at h2
  rw [e2, h2]
  have a : i ≠ 0 := fun y => h0 (congrArg Int.ofNat y)
  have b : i + 1 ≠ l.length := fun y => h1 (congrArg Int.ofNat y)
  simp [a, b]
theorem med_first {l : List UInt8} {i : Nat} (h2 : signI ((l.getD (((i : Nat) : Int) - 1).toNat 0).toNat : Int) = false) : signI ((l.getD (((i : Nat) : Int) - 1).toNat 0).toNat : Int) = medialB l i := by
  rw [h2, med_false (Or.inr (Or.inr (Or.inl h2)))]
theorem md9 {i : Nat} (h : (i : Int) ≠ 0) : 0 ≤ (i : Int) - 1 := Int.le_sub_one_of_lt (Int.lt_iff_le_and_ne.mpr ⟨Int.natCast_nonneg _, h.symm⟩)
theorem md10 {i n : Nat} (h : i < n) : (i : Int) - 1 < (n : Int) := Int.lt_of_le_of_lt (Int.sub_le_self _ (by decide)) (Int.ofNat_lt.mpr h)
theorem md14 (i : Nat) : 0 ≤ (i : Int) + 1 := Int.natCast_nonneg (i + 1)
theorem md15 {i n : Nat} (h : i < n) (e : (i : Int) + 1 ≠ (n : Int)) : (i : Int) + 1 < (n : Int) := Int.lt_iff_le_and_ne.mpr ⟨Int.add_one_le_of_lt (Int.ofNat_lt.mpr h), e⟩
section
variable (l : List UInt8)
theorem medial_ok (news : List (Addr × Obj)) (t u : Tok) (i : Nat) (hi : i < l.length) (h0 : l.length ≤ 100) : Fn 3 178 [.bytes l.toArray t, .int ((i : Nat) : Int) u] news (Pure news (IsBool (medialB l i))) := by
  k_with_none
  k_with "FOLD" => ((fail_if_success (fail_if_success k_fold)); (try ((with_reducible rename Fr _ _ _ _ => Fz); (fail_if_success (with_reducible have : Fr _ _ _ mk := Fz)); (with_reducible refine let mk := _; have Fy : Fr _ _ _ mk := Fz; ?_); clear Fz)); (try ((with_reducible rename News _ _ _ _ => Nz); (fail_if_success (with_reducible have : News _ _ _ lk := Nz)); (with_reducible refine let lk := _; have Ny : News _ _ _ lk := Nz; ?_); clear Nz)); with_reducible refine let qk := _; let ek := _; (?_ : wpAny _ _ _ qk ek _))
  k_with "STEPS" => ((try walk_at "FOLD"); repeat' (first | (k_unfold; (try dsimp only)) | (k_end; wrow_close) | (walk1; all_goals (try ((fail_if_success (with_reducible show wpAny _ _ (subscriptTail _ _ _ _) _ _ _)); dsimp only)); all_goals (try ((with_reducible first | show wpAny _ _ (exec _ _) _ _ _ | show wpAny _ _ (execs _ _) _ _ _); (try ((with_reducible first | refine genTok ?_ | refine genTokS ?_); intro tkG)); (try walk_at "FOLD")))) | (dsimp only; walk1)))
  k_with "ROOM" => (first | exact U0 ‹_› | exact U1 ‹_› (by exact rfl) | exact U2 ‹_› (by exact rfl) | exact U3 ‹_› (by exact rfl) | ((simp +zetaDelta only [depth_under_make, depth_under_kw, depth_in1, depth_deeper, depth_caller]); (try dsimp only [ktrTop]); first | omega | decide +kernel))
  k_with "UNITS" => (first | exact U1 ‹_› (by exact rfl) | exact U2 ‹_› (by exact rfl) | exact U3 ‹_› (by exact rfl) | exact U4 ‹_› (by exact rfl) | exact U5 ‹_› (by exact rfl) | (have hcL9 := cLine_is; (simp +zetaDelta only [units_under_make, units_in1, units_deeper, Around.mark_units, units_caller]); (try dsimp only [ktrTop]); first | (rw [hcL9]; decide) | omega | decide +kernel))
  k_with "NE" => (first | with_reducible assumption | (refine neN (Nat.ne_of_lt ?_); walk_at "LTS") | (refine neN (Nat.ne_of_gt ?_); walk_at "LTS") | (refine neN ?_; (try dsimp only); omega))
  k_with "ENTER" => (refine' Internal.code_defN ?k1 ?k2 ?k3 ?k4 ?k5 ?kA ?kF ?kK ?k6 ?k7 ?k8 ?k9 ?kB ?_ ?c2 ?c3 ?c4 ?c5; (case kA | kF => exact rfl); (case kK => first | exact rfl | assumption); (case k1 | k2 | k3 | k4 | k5 => k_asm); (case k6 | k7 => k_is); (case k8 => ktr_room); (case k9 => exact BindsTo.of_eq (by kernel_rfl)); (case c5 => decide); (case kB => exact locs rfl); (case c2 | c3 | c4 => exact rfl); k_whole; intro g' L' h' tk' FG' F' N' B' X' T'; (try dsimp only); (try k_lift B'); (try walk_at "FOLD"); (refine let Ak : Around := _; (?_ : wpAny _ Ak _ _ _ _)))
  k_with "LTS" => (first | with_reducible assumption | exact ltM (by with_reducible assumption) (by k_mem) | exact And.left (by with_reducible assumption) | exact And.left (And.right (by with_reducible assumption)) | exact And.right (And.right (by with_reducible assumption)) | exact And.left (And.right (And.right (by with_reducible assumption))) | exact And.right (And.right (And.right (by with_reducible assumption))))
  k_with "ALL" => (first | with_reducible assumption | exact ne_of_allLt ‹_›)
  k_with "MEM" => (first | exact List.Mem.head _ | exact Mem1 | exact Mem2 | exact Mem3 | exact Mem4 | exact Mem5 | (refine TL6 ?_; walk_at "MEM"))
  k_with "eval Call" => (k_here; k_dflt (refine Call_ ?_))
  k_with "subscriptTail" => (k_here; (with_reducible show wpAny _ _ (subscriptTail _ _ (Value.bytes _ _) (Value.int _ _)) _ _ _); k_dflt (refine item_B (by first | exact md9 ‹_› | exact md14 _ | omega | (simp only [List.length_append, List.length_cons, List.length_nil] at *; omega)) (by first | exact md10 ‹_› | exact md15 ‹_› ‹_› | omega | (simp only [List.length_append, List.length_cons, List.length_nil] at *; omega)) (by first | assumption | decide | exact kle0 ‹_› (by decide) | omega | ((try simp only [List.length_append, List.length_cons, List.length_nil, List.length_take, List.length_drop]); omega)) ?_; intro ti9 ki9))
  k_with "call builtin:len" => (k_here; (with_reducible show wpAny _ _ (call (Value.builtin "len") [Value.bytes _ _]) _ _ _); k_dflt (refine len_B (by first | assumption | decide | exact kle0 ‹_› (by decide) | omega | ((try simp only [List.length_append, List.length_cons, List.length_nil, List.length_take, List.length_drop]); omega)) ?_; intro tl9 kl9))
  k_with "call ref" => (k_here; (with_reducible show wpAny _ _ (call (Value.ref 164) _ _) _ _ _); k_dflt (refine' Fn.use0 (name_is_sign_ok _ _ _) ?kB ?kF ?kX ?kN ?kT ?kK ?kd ?ku ?_; (case kB | kF | kX | kN | kT => k_asm); (case kK => first | exact rfl | assumption); (case kd => ktr_room); (case ku => ktr_units); (intro h9 tk9 F9 N9)); (try dsimp only))
  intro w mean mg mb dp un gd cn cs a ccd cl outer A₀ base h₀ L m s Q E B F X N T hk hd hu hret
  refine wpAny_call ?_
  k_dflt cell_enter
  walk_at "STEPS"
  all_goals first
    | exact hret _ _ _ _ ⟨by rw [med_false (Or.inl (by omega))], rfl⟩ ‹_› (by first | assumption | (refine newsWeak ‹_› ?_; intro p9 hp9; (repeat refine List.Mem.tail _ ?_); first | assumption | exact List.mem_append_left _ hp9))
    | exact hret _ _ _ _ ⟨by rw [med_false (Or.inr (Or.inl (by omega)))], rfl⟩ ‹_› (by first | assumption | (refine newsWeak ‹_› ?_; intro p9 hp9; (repeat refine List.Mem.tail _ ?_); first | assumption | exact List.mem_append_left _ hp9))
    | exact hret _ _ _ _ ⟨by rw [← med_second (l := l) (i := i) (by omega) (by omega) ‹_›], rfl⟩ ‹_› (by first | assumption | (refine newsWeak ‹_› ?_; intro p9 hp9; (repeat refine List.Mem.tail _ ?_); first | assumption | exact List.mem_append_left _ hp9))
    | exact hret _ _ _ _ ⟨by rw [← med_first (l := l) (i := i) ‹_›], rfl⟩ ‹_› (by first | assumption | (refine newsWeak ‹_› ?_; intro p9 hp9; (repeat refine List.Mem.tail _ ?_); first | assumption | exact List.mem_append_left _ hp9))
theorem behind_ok (news : List (Addr × Obj)) (x : Int) (t u : Tok) (hx : 0 ≤ x) (h0 : l.length ≤ 100) : Fn 4 190 [.bytes l.toArray t, .int x u] news (Pure news (IsBytes (behindB l x.toNat))) := by
  k_with_none
  k_with "FOLD" => ((fail_if_success (fail_if_success k_fold)); (try ((with_reducible rename Fr _ _ _ _ => Fz); (fail_if_success (with_reducible have : Fr _ _ _ mk := Fz)); (with_reducible refine let mk := _; have Fy : Fr _ _ _ mk := Fz; ?_); clear Fz)); (try ((with_reducible rename News _ _ _ _ => Nz); (fail_if_success (with_reducible have : News _ _ _ lk := Nz)); (with_reducible refine let lk := _; have Ny : News _ _ _ lk := Nz; ?_); clear Nz)); with_reducible refine let qk := _; let ek := _; (?_ : wpAny _ _ _ qk ek _))
  k_with "STEPS" => ((try walk_at "FOLD"); repeat' (first | (k_unfold; (try dsimp only)) | (k_end; wrow_close) | (walk1; all_goals (try ((fail_if_success (with_reducible show wpAny _ _ (subscriptTail _ _ _ _) _ _ _)); dsimp only)); all_goals (try ((with_reducible first | show wpAny _ _ (exec _ _) _ _ _ | show wpAny _ _ (execs _ _) _ _ _); (try ((with_reducible first | refine genTok ?_ | refine genTokS ?_); intro tkG)); (try walk_at "FOLD")))) | (dsimp only; walk1)))
  k_with "ROOM" => (first | exact U0 ‹_› | exact U1 ‹_› (by exact rfl) | exact U2 ‹_› (by exact rfl) | exact U3 ‹_› (by exact rfl) | ((simp +zetaDelta only [depth_under_make, depth_under_kw, depth_in1, depth_deeper, depth_caller]); (try dsimp only [ktrTop]); first | omega | decide +kernel))
  k_with "UNITS" => (first | exact U1 ‹_› (by exact rfl) | exact U2 ‹_› (by exact rfl) | exact U3 ‹_› (by exact rfl) | exact U4 ‹_› (by exact rfl) | exact U5 ‹_› (by exact rfl) | (have hcL9 := cLine_is; (simp +zetaDelta only [units_under_make, units_in1, units_deeper, Around.mark_units, units_caller]); (try dsimp only [ktrTop]); first | (rw [hcL9]; decide) | omega | decide +kernel))
  k_with "NE" => (first | with_reducible assumption | (refine neN (Nat.ne_of_lt ?_); walk_at "LTS") | (refine neN (Nat.ne_of_gt ?_); walk_at "LTS") | (refine neN ?_; (try dsimp only); omega))
  k_with "ENTER" => (refine' Internal.code_defN ?k1 ?k2 ?k3 ?k4 ?k5 ?kA ?kF ?kK ?k6 ?k7 ?k8 ?k9 ?kB ?_ ?c2 ?c3 ?c4 ?c5; (case kA | kF => exact rfl); (case kK => first | exact rfl | assumption); (case k1 | k2 | k3 | k4 | k5 => k_asm); (case k6 | k7 => k_is); (case k8 => ktr_room); (case k9 => exact BindsTo.of_eq (by kernel_rfl)); (case c5 => decide); (case kB => exact locs rfl); (case c2 | c3 | c4 => exact rfl); k_whole; intro g' L' h' tk' FG' F' N' B' X' T'; (try dsimp only); (try k_lift B'); (try walk_at "FOLD"); (refine let Ak : Around := _; (?_ : wpAny _ Ak _ _ _ _)))
  k_with "LTS" => (first | with_reducible assumption | exact ltM (by with_reducible assumption) (by k_mem) | exact And.left (by with_reducible assumption) | exact And.left (And.right (by with_reducible assumption)) | exact And.right (And.right (by with_reducible assumption)) | exact And.left (And.right (And.right (by with_reducible assumption))) | exact And.right (And.right (And.right (by with_reducible assumption))))
  k_with "ALL" => (first | with_reducible assumption | exact ne_of_allLt ‹_›)
  k_with "MEM" => (first | exact List.Mem.head _ | exact Mem1 | exact Mem2 | exact Mem3 | exact Mem4 | exact Mem5 | (refine TL6 ?_; walk_at "MEM"))
  k_with "SUB" => (first | assumption | exact TL1 ‹_› | exact TL2 ‹_› | exact TL3 ‹_› | exact TL4 ‹_› | exact TL5 ‹_› | (refine TL6 ?_; walk_at "SUB"))
  k_with "eval ListComp" => (k_here; (with_reducible show wpAny _ _ (eval (PySem.Expr.ListComp _ [⟨_, _, [_], _⟩] _ _) _) _ _ _); k_dflt (refine Internal.comp1 (by k_asm) (by with_unfolding_all rfl) (by decide) (by rfl) (by decide) (by rfl) ?_))
  k_with "eval Call" => (k_here; k_dflt (refine Call_ ?_))
  k_with "subscriptTail" => (k_here; (with_reducible show wpAny _ _ (subscriptTail _ (Expr.Slice _ _ none _) (Value.bytes _ _) (Value.ref _)) _ _ _); (with_reducible rename Fr _ _ _ _ => F'); (with_reducible rename News _ _ _ _ => N'); k_dflt (refine slice_B (s := ⟨_, _, _, _, _⟩) F' N' (by constructor) (by constructor) (by first | assumption | decide | exact kle0 ‹_› (by decide) | omega | ((try simp only [List.length_append, List.length_cons, List.length_nil, List.length_take, List.length_drop]); omega)) ?_; intro hs9 ts9 ks9 Fs9 Ns9))
  k_with "call ref" => (k_here; (with_reducible show wpAny _ _ (call (Value.ref 164) _ _) _ _ _); k_dflt (refine' Fn.use0 (name_is_sign_ok _ _ _) ?kB ?kF ?kX ?kN ?kT ?kK ?kd ?ku ?_; (case kB | kF | kX | kN | kT => k_asm); (case kK => first | exact rfl | assumption); (case kd => ktr_room); (case ku => ktr_units); (intro h9 tk9 F9 N9)); (try dsimp only))
  k_with "call ref" => (k_here; (with_reducible show wpAny _ _ (call (Value.ref 171) _ _) _ _ _); k_dflt (refine' Fn.useE (name_capital_ok _ _ _) ?kB ?kF ?kX ?kN ?kT ?kK ?kd ?ku ?_; (case kB | kF | kX | kN | kT => k_asm); (case kK => first | exact rfl | assumption); (case kd => ktr_room); (case ku => ktr_units); (intro t9 h9 tk9 F9 N9)); (try dsimp only))
  k_with "call type:bytes" => (k_here; (with_reducible show wpAny _ _ (call (Value.type "bytes") [Value.ref _]) _ _ _); k_dflt (refine bytes_lst (by k_asm) (by k_asm) (by exact rfl) (by k_mem) (fg_paired ‹_›) (fg_len (Nat.le_trans (cut_length _ _ _) (by omega))) ?_; intro hb9 tb9 kb9 Fb9 Nb9))
  intro w mean mg mb dp un gd cn cs a ccd cl outer A₀ base h₀ L m s Q E B F X N T hk hd hu hret
  refine wpAny_call ?_
  k_dflt cell_enter
  walk_at "STEPS"
  refine ⟨_, _, cut l (some (x + 1)) none, _, (FG behC), by k_asm, by k_asm, by rw [sizeLine_eq]; exact Nat.le_trans (cut_length _ _ _) (by omega), Src.bytes (by exact rfl), fun g9 => ?_, fun D9 zs9 h9 tk9 F9 N9 off9 p9 => ?_⟩
  · intro a9 v9 I9 oI9 C9 oC9 D9 ys9 m9 h9 tk9 E9 ha9 hK9 hoC9 hx9 F9 N9 off9 ne9
    obtain ⟨t9, rfl⟩ := hK9
    walk_at "STEPS"
    all_goals first
      | exact Kept.mk ‹_› (by first | assumption | (refine newsWeak ‹_› ?_; intro p9 hp9; first | walk_at "SUB" | exact List.mem_append_left _ hp9)) (beh_none ‹_›)
      | exact Kept.mk ‹_› (by first | assumption | (refine newsWeak ‹_› ?_; intro p9 hp9; first | walk_at "SUB" | exact List.mem_append_left _ hp9)) (beh_some ‹_›)
  walk_at "STEPS"
  all_goals first
    | exact hret _ _ _ _ ⟨⟨_, by rw [behindB, ← cut_behind hx]⟩, rfl⟩ ‹_› (by first | assumption | (refine newsWeak ‹_› ?_; intro p9 hp9; (repeat refine List.Mem.tail _ ?_); first | assumption | exact List.mem_append_left _ hp9))
end
end Internal
namespace Internal
theorem FnW.mono {w : World} {D : Nat} {f : Addr} {vs : List Value} {news : List (Addr × Obj)} {R R' : Value → List (Addr × Obj) → Prop} (c : FnW w D f vs news R) (hR : ∀ r nw, R r nw → R' r nw) : FnW w D f vs news R' :=
  fun _ _ _ _ _ _ _ _ _ _ _ _ _ _ _ _ _ _ _ _ B F X N T hk hd hu ret => c _ _ _ _ _ _ _ _ _ _ _ _ _ _ _ _ _ _ _ _ B F X N T hk hd hu (fun r n h t hr => ret r n h t (hR r n hr))
theorem Fn.mono {D : Nat} {f : Addr} {vs : List Value} {news : List (Addr × Obj)} {R R' : Value → List (Addr × Obj) → Prop} (c : Fn D f vs news R) (hR : ∀ r nw, R r nw → R' r nw) : Fn D f vs news R' :=
  fun _ _ _ _ _ _ _ _ _ _ _ _ _ _ _ _ _ _ _ _ _ B F X N T hk hd hu ret => c _ _ _ _ _ _ _ _ _ _ _ _ _ _ _ _ _ _ _ _ _ B F X N T hk hd hu (fun r n h t hr => ret r n h t (hR r n hr))
theorem starts_lit {prog : Program} {w : World} {A : Around} {E : Value → Shared → Prop} {s : Shared} {b p : List UInt8} {t u : Tok} {r : Bool} {Q : Value → Shared → Prop} (e : (b.take p.length == p) = r) (h : Q (.bool r) s) : wpAny (model prog w) A (call (.builtin "bytes.startswith") [.bytes b.toArray t, .bytes p.toArray u]) Q E s := starts_bytes (by rw [e]; exact h)
theorem unr_one {h₀ h' : Heap} {L I : Addr} {oI : Obj} {all : List (Addr × Obj)} {rest : (Str → Option Value) → List (Addr × Obj) → Prop} {s₁ : Shared} {tk : Nat} {m' : Str → Option Value} (F : Fr h₀ L h' m') (N : News h₀ L h' ((I, oI) :: all)) (hoff : AllLt I all) (r : rest m' all) : UnrEndW h₀ L s₁ [(I, oI)] rest { s₁ with heap := h', toks := tk } :=
  ⟨h', tk, m', all, rfl, F, N, fun p hp q hq => by rw [List.mem_singleton.mp hq]; exact Nat.ne_of_lt (of_allLt hoff p hp), r⟩
noncomputable def latB : List UInt8 := [76, 65, 84, 73, 78, 32, 67, 65, 80, 73, 84, 65, 76, 32, 76, 69, 84, 84, 69, 82, 32, 65]
noncomputable def cjkF : List UInt8 := [60, 67, 74, 75, 32, 73, 100, 101, 111, 103, 114, 97, 112, 104, 44, 32, 70, 105, 114, 115, 116, 62]
noncomputable def tanF : List UInt8 := [60, 84, 97, 110, 103, 117, 116, 32, 73, 100, 101, 111, 103, 114, 97, 112, 104, 62]
noncomputable def cjkB : List UInt8 := [67, 74, 75, 32, 85, 78, 73, 70, 73, 69, 68, 32, 73, 68, 69, 79, 71, 82, 65, 80, 72, 45]
noncomputable def tanB : List UInt8 := [84, 65, 78, 71, 85, 84, 32, 73, 68, 69, 79, 71, 82, 65, 80, 72, 45]
noncomputable def rangesL : List (List UInt8 × List UInt8) := [([60, 67, 74, 75, 32, 73, 100, 101, 111, 103, 114, 97, 112, 104], [67, 74, 75, 32, 85, 78, 73, 70, 73, 69, 68, 32, 73, 68, 69, 79, 71, 82, 65, 80, 72, 45]), ([60, 84, 97, 110, 103, 117, 116, 32, 73, 100, 101, 111, 103, 114, 97, 112, 104], [84, 65, 78, 71, 85, 84, 32, 73, 68, 69, 79, 71, 82, 65, 80, 72, 45]), ([60, 75, 104, 105, 116, 97, 110, 32, 83, 109, 97, 108, 108, 32, 83, 99, 114, 105, 112, 116, 32, 67, 104, 97, 114, 97, 99, 116, 101, 114], [75, 72, 73, 84, 65, 78, 32, 83, 77, 65, 76, 76, 32, 83, 67, 82, 73, 80, 84, 32, 67, 72, 65, 82, 65, 67, 84, 69, 82, 45]), ([60, 78, 117, 115, 104, 117, 32, 67, 104, 97, 114, 97, 99, 116, 101, 114], [78, 85, 83, 72, 85, 32, 67, 72, 65, 82, 65, 67, 84, 69, 82, 45]), ([60, 67, 74, 75, 32, 67, 111, 109, 112, 97, 116, 105, 98, 105, 108, 105, 116, 121, 32, 73, 100, 101, 111, 103, 114, 97, 112, 104], [67, 74, 75, 32, 67, 79, 77, 80, 65, 84, 73, 66, 73, 76, 73, 84, 89, 32, 73, 68, 69, 79, 71, 82, 65, 80, 72, 45])]
noncomputable def ownI (c : Int) : Option (List UInt8) :=
  match tailI c with
  | some t => some (SYL ++ t)
  | none => match nameI c with
    | none => none
    | some told => if told = [] then none else if (told.take 1 == [60]) = false then some told else (rangesL.find? fun p => told.take p.1.length == p.1).map fun p => p.2 ++ hexB c
theorem own_syl {c : Int} {t : List UInt8} (h : tailI c = some t) : ownI c = some (SYL ++ t) := by unfold ownI; rw [h]
theorem own_no {c : Int} (h : tailI c = none) (g : nameI c = none) : ownI c = none := by unfold ownI; rw [h, g]
theorem own_lat {c : Int} (h : tailI c = none) (g : nameI c = some latB) : ownI c = some latB := by unfold ownI; rw [h, g]; rfl
theorem own_cjk {c : Int} (h : tailI c = none) (g : nameI c = some cjkF) : ownI c = some (cjkB ++ hexB c) := by unfold ownI; rw [h, g]; rfl
theorem own_tan {c : Int} (h : tailI c = none) (g : nameI c = some tanF) : ownI c = some (tanB ++ hexB c) := by unfold ownI; rw [h, g]; rfl
theorem name_cases (c : Int) : nameI c = none ∨ nameI c = some latB ∨ nameI c = some cjkF ∨ nameI c = some tanF := by
  unfold nameI
  generalize (placeI NMS c).toNat = k
  match k with
  | 0 => exact .inl rfl
  | 1 => exact .inr (.inl rfl)
  | 2 => exact .inl rfl
  | 3 => exact .inr (.inr (.inl rfl))
  | 4 => exact .inl rfl
  | 5 => exact .inr (.inr (.inr rfl))
  | 6 => exact .inl rfl
  | n + 7 => exact .inl rfl
theorem get_nm_none (w : World) (news : List (Addr × Obj)) (X : Addr) (cc : Int) (u9 u8 : Tok) (hD : DataIn w X news) (hc : 0 ≤ cc) (g : nameI cc = none) : FnW w 12 305 [.ref X, .str (Str.ofString "name") u9, .int cc u8] news (Pure news (fun r => r = .none)) :=
  FnW.mono (get_nm_ok w news X cc u9 u8 hD hc) fun r nw h => ⟨(by
    rcases h.1 with ⟨_, e⟩ | ⟨l, t, e, _⟩
    · exact e
    · rw [g] at e; cases e), h.2⟩
theorem get_nm_some (l : List UInt8) (w : World) (news : List (Addr × Obj)) (X : Addr) (cc : Int) (u9 u8 : Tok) (hD : DataIn w X news) (hc : 0 ≤ cc) (g : nameI cc = some l) : FnW w 12 305 [.ref X, .str (Str.ofString "name") u9, .int cc u8] news (Pure news (IsBytes l)) :=
  FnW.mono (get_nm_ok w news X cc u9 u8 hD hc) fun r nw h => ⟨(by
    rcases h.1 with ⟨e, _⟩ | ⟨l', t, e, e'⟩
    · rw [g] at e; cases e
    · rw [g] at e; cases e; exact ⟨t, e'⟩), h.2⟩
theorem name_tail_none (news : List (Addr × Obj)) (c : Int) (t : Tok) (g : tailI c = none) : Fn 6 129 [.int c t] news (Pure news (fun r => r = .none)) :=
  Fn.mono (name_tail_ok news c t) fun r nw h => ⟨by have := h.1; rw [g] at this; exact this, h.2⟩
theorem name_tail_some (l : List UInt8) (news : List (Addr × Obj)) (c : Int) (t : Tok) (g : tailI c = some l) : Fn 6 129 [.int c t] news (Pure news (IsBytes l)) :=
  Fn.mono (name_tail_ok news c t) fun r nw h => ⟨by have := h.1; rw [g] at this; exact this, h.2⟩
theorem DataIn.head {w : World} {X : Addr} {nw : List (Addr × Obj)} (h : DataIn w X nw) : ∃ (dX dd mm : Addr) (ta tb tc td : Tok) (pr wo : Value), (X, instObj 315 dX) ∈ nw ∧ (dX, dataD w ta tb tc td dd mm pr wo) ∈ nw := by
  obtain ⟨c, bG, bN, H, kv2, _, _, m, _, _, ⟨dX, dd, mm, ta, tb, tc, td, t, pr, wo, od, om, kvs, rfl, _⟩⟩ := h
  exact ⟨dX, dd, mm, ta, tb, tc, td, pr, wo, m _ (.head _), m _ (.tail _ (.head _))⟩
theorem news_two {h₀ h : Heap} {L : Addr} {a b : Addr × Obj} {r : List (Addr × Obj)} (N : News h₀ L h r) (ha : a ∈ r) (hb : b ∈ r) : News h₀ L h (a :: b :: r) := fun p hp => by
  rcases List.mem_cons.mp hp with rfl | hp
  · exact N _ ha
  · rcases List.mem_cons.mp hp with rfl | hp
    · exact N _ hb
    · exact N _ hp
section
theorem own_1 (w : World) (news : List (Addr × Obj)) (xD : Addr) (cc : Int) (u9 : Tok) (tl : List UInt8) (htl : tl.length ≤ 100) (hD : DataIn w xD news) (hc : 0 ≤ cc) (hc2 : cc < 1099511627776) (hT : tailI cc = some tl) : FnW w 20 150 [.int cc u9, .ref xD] news (Pure news (optB (ownI cc))) := by
  k_with_none
  k_with "FOLD" => ((fail_if_success (fail_if_success k_fold)); (try ((with_reducible rename Fr _ _ _ _ => Fz); (fail_if_success (with_reducible have : Fr _ _ _ mk := Fz)); (with_reducible refine let mk := _; have Fy : Fr _ _ _ mk := Fz; ?_); clear Fz)); (try ((with_reducible rename News _ _ _ _ => Nz); (fail_if_success (with_reducible have : News _ _ _ lk := Nz)); (with_reducible refine let lk := _; have Ny : News _ _ _ lk := Nz; ?_); clear Nz)); with_reducible refine let qk := _; let ek := _; (?_ : wpAny _ _ _ qk ek _))
  k_with "STEPS" => ((try walk_at "FOLD"); repeat' (first | (k_unfold; (try dsimp only)) | (k_end; wrow_close) | (walk1; all_goals (try ((fail_if_success (with_reducible show wpAny _ _ (subscriptTail _ _ _ _) _ _ _)); dsimp only)); all_goals (try ((with_reducible first | show wpAny _ _ (exec _ _) _ _ _ | show wpAny _ _ (execs _ _) _ _ _); (try ((with_reducible first | refine genTok ?_ | refine genTokS ?_); intro tkG)); (try walk_at "FOLD")))) | (dsimp only; walk1)))
  k_with "ROOM" => (first | exact U0 ‹_› | exact U1 ‹_› (by exact rfl) | exact U2 ‹_› (by exact rfl) | exact U3 ‹_› (by exact rfl) | ((simp +zetaDelta only [depth_under_make, depth_under_kw, depth_in1, depth_deeper, depth_caller]); (try dsimp only [ktrTop]); first | omega | decide +kernel))
  k_with "UNITS" => (first | exact U1 ‹_› (by exact rfl) | exact U2 ‹_› (by exact rfl) | exact U3 ‹_› (by exact rfl) | exact U4 ‹_› (by exact rfl) | exact U5 ‹_› (by exact rfl) | (have hcL9 := cLine_is; (simp +zetaDelta only [units_under_make, units_in1, units_deeper, Around.mark_units, units_caller]); (try dsimp only [ktrTop]); first | (rw [hcL9]; decide) | omega | decide +kernel))
  k_with "NE" => (first | with_reducible assumption | (refine neN (Nat.ne_of_lt ?_); walk_at "LTS") | (refine neN (Nat.ne_of_gt ?_); walk_at "LTS") | (refine neN ?_; (try dsimp only); omega))
  k_with "ENTER" => (refine' Internal.code_defN ?k1 ?k2 ?k3 ?k4 ?k5 ?kA ?kF ?kK ?k6 ?k7 ?k8 ?k9 ?kB ?_ ?c2 ?c3 ?c4 ?c5; (case kA | kF => exact rfl); (case kK => first | exact rfl | assumption); (case k1 | k2 | k3 | k4 | k5 => k_asm); (case k6 | k7 => k_is); (case k8 => ktr_room); (case k9 => exact BindsTo.of_eq (by kernel_rfl)); (case c5 => decide); (case kB => exact locs rfl); (case c2 | c3 | c4 => exact rfl); k_whole; intro g' L' h' tk' FG' F' N' B' X' T'; (try dsimp only); (try k_lift B'); (try walk_at "FOLD"); (refine let Ak : Around := _; (?_ : wpAny _ Ak _ _ _ _)))
  k_with "LTS" => (first | with_reducible assumption | exact ltM (by with_reducible assumption) (by k_mem) | exact And.left (by with_reducible assumption) | exact And.left (And.right (by with_reducible assumption)) | exact And.right (And.right (by with_reducible assumption)) | exact And.left (And.right (And.right (by with_reducible assumption))) | exact And.right (And.right (And.right (by with_reducible assumption))))
  k_with "ALL" => (first | with_reducible assumption | exact ne_of_allLt ‹_›)
  k_with "MEM" => (first | exact List.Mem.head _ | exact Mem1 | exact Mem2 | exact Mem3 | exact Mem4 | exact Mem5 | (refine TL6 ?_; walk_at "MEM"))
  k_with "SUB" => (first | assumption | exact TL1 ‹_› | exact TL2 ‹_› | exact TL3 ‹_› | exact TL4 ‹_› | exact TL5 ‹_› | (refine TL6 ?_; walk_at "SUB"))
  k_with "eval Call" => (k_here; k_dflt (refine Call_ ?_))
  k_with "call ref" => (k_here; (with_reducible show wpAny _ _ (call (Value.ref 129) _ _) _ _ _); k_dflt (refine' Fn.useE (name_tail_some _ _ _ _ ‹_›) ?kB ?kF ?kX ?kN ?kT ?kK ?kd ?ku ?_; (case kB | kF | kX | kN | kT => k_asm); (case kK => first | exact rfl | assumption); (case kd => ktr_room); (case ku => ktr_units); (intro t9 h9 tk9 F9 N9)); (try dsimp only))
  k_with "UnrEndW" => ((rename Fr _ _ _ _ => lF'); (rename News _ _ _ _ => lN'); (k_dflt (refine unr_one lF' lN' ?off ⟨by k_subL, ?_⟩; (case off => exact ((by first | exact by assumption | exact And.right ‹_› | exact And.right (And.right ‹_›)))))))
  k_with "binaryOp Add bytes bytes" => (k_here; (with_reducible show wpAny _ _ (binaryOp Operator.Add (Value.bytes _ _) (Value.bytes _ _)) _ _ _); k_dflt (refine add_B (by first | decide | exact room_hex (by decide) | exact room_hex2 (by decide) | (simp only [List.length_append, List.length_cons, List.length_nil]; omega)) ?_; intro tb9 kb9))
  obtain ⟨dX, dd, mm, ta, tb, tc, td, pr, wo, hX1, hX2⟩ := DataIn.head hD
  intro mean mg mb dp un gd cn cs a ccd cl outer A₀ base h₀ L m s Q E B F X N T hk hd hu hret
  replace N := news_two N hX1 hX2
  clear hX1 hX2
  refine wpAny_call ?_
  k_dflt cell_enter
  walk_at "STEPS"
  all_goals exact hret _ _ _ _ ⟨by rw [own_syl ‹_›]; exact ⟨_, rfl⟩, rfl⟩ ‹_› (newsWeak ‹_› (fun p hp => by walk_at "SUB"))
theorem own_2 (w : World) (news : List (Addr × Obj)) (xD : Addr) (cc : Int) (u9 : Tok)  (hD : DataIn w xD news) (hc : 0 ≤ cc) (hc2 : cc < 1099511627776) (hT : tailI cc = none) (hN : nameI cc = none) : FnW w 20 150 [.int cc u9, .ref xD] news (Pure news (optB (ownI cc))) := by
  k_with_none
  k_with "FOLD" => ((fail_if_success (fail_if_success k_fold)); (try ((with_reducible rename Fr _ _ _ _ => Fz); (fail_if_success (with_reducible have : Fr _ _ _ mk := Fz)); (with_reducible refine let mk := _; have Fy : Fr _ _ _ mk := Fz; ?_); clear Fz)); (try ((with_reducible rename News _ _ _ _ => Nz); (fail_if_success (with_reducible have : News _ _ _ lk := Nz)); (with_reducible refine let lk := _; have Ny : News _ _ _ lk := Nz; ?_); clear Nz)); with_reducible refine let qk := _; let ek := _; (?_ : wpAny _ _ _ qk ek _))
  k_with "STEPS" => ((try walk_at "FOLD"); repeat' (first | (k_unfold; (try dsimp only)) | (k_end; wrow_close) | (walk1; all_goals (try ((fail_if_success (with_reducible show wpAny _ _ (subscriptTail _ _ _ _) _ _ _)); dsimp only)); all_goals (try ((with_reducible first | show wpAny _ _ (exec _ _) _ _ _ | show wpAny _ _ (execs _ _) _ _ _); (try ((with_reducible first | refine genTok ?_ | refine genTokS ?_); intro tkG)); (try walk_at "FOLD")))) | (dsimp only; walk1)))
  k_with "ROOM" => (first | exact U0 ‹_› | exact U1 ‹_› (by exact rfl) | exact U2 ‹_› (by exact rfl) | exact U3 ‹_› (by exact rfl) | ((simp +zetaDelta only [depth_under_make, depth_under_kw, depth_in1, depth_deeper, depth_caller]); (try dsimp only [ktrTop]); first | omega | decide +kernel))
  k_with "UNITS" => (first | exact U1 ‹_› (by exact rfl) | exact U2 ‹_› (by exact rfl) | exact U3 ‹_› (by exact rfl) | exact U4 ‹_› (by exact rfl) | exact U5 ‹_› (by exact rfl) | (have hcL9 := cLine_is; (simp +zetaDelta only [units_under_make, units_in1, units_deeper, Around.mark_units, units_caller]); (try dsimp only [ktrTop]); first | (rw [hcL9]; decide) | omega | decide +kernel))
  k_with "NE" => (first | with_reducible assumption | (refine neN (Nat.ne_of_lt ?_); walk_at "LTS") | (refine neN (Nat.ne_of_gt ?_); walk_at "LTS") | (refine neN ?_; (try dsimp only); omega))
  k_with "ENTER" => (refine' Internal.code_defN ?k1 ?k2 ?k3 ?k4 ?k5 ?kA ?kF ?kK ?k6 ?k7 ?k8 ?k9 ?kB ?_ ?c2 ?c3 ?c4 ?c5; (case kA | kF => exact rfl); (case kK => first | exact rfl | assumption); (case k1 | k2 | k3 | k4 | k5 => k_asm); (case k6 | k7 => k_is); (case k8 => ktr_room); (case k9 => exact BindsTo.of_eq (by kernel_rfl)); (case c5 => decide); (case kB => exact locs rfl); (case c2 | c3 | c4 => exact rfl); k_whole; intro g' L' h' tk' FG' F' N' B' X' T'; (try dsimp only); (try k_lift B'); (try walk_at "FOLD"); (refine let Ak : Around := _; (?_ : wpAny _ Ak _ _ _ _)))
  k_with "LTS" => (first | with_reducible assumption | exact ltM (by with_reducible assumption) (by k_mem) | exact And.left (by with_reducible assumption) | exact And.left (And.right (by with_reducible assumption)) | exact And.right (And.right (by with_reducible assumption)) | exact And.left (And.right (And.right (by with_reducible assumption))) | exact And.right (And.right (And.right (by with_reducible assumption))))
  k_with "ALL" => (first | with_reducible assumption | exact ne_of_allLt ‹_›)
  k_with "MEM" => (first | exact List.Mem.head _ | exact Mem1 | exact Mem2 | exact Mem3 | exact Mem4 | exact Mem5 | (refine TL6 ?_; walk_at "MEM"))
  k_with "SUB" => (first | assumption | exact TL1 ‹_› | exact TL2 ‹_› | exact TL3 ‹_› | exact TL4 ‹_› | exact TL5 ‹_› | (refine TL6 ?_; walk_at "SUB"))
  k_with "eval Call" => (k_here; k_dflt (refine Call_ ?_))
  k_with "call ref" => (k_here; (with_reducible show wpAny _ _ (call (Value.ref 305) [Value.ref _, Value.str (Str.ofString "name") _, Value.int _ _] _) _ _ _); k_dflt (refine' FnW.use0 (get_nm_none _ _ _ _ _ _ ?hD ?hc ‹_›) ?kB ?kF ?kX ?kN ?kT ?kK ?kd ?ku ?_; (case kN => k_asm); (case hD => exact DataIn.mono ‹_› (by intro p hp; walk_at "SUB")); (case hc => assumption); (case kB | kF | kX | kT => k_asm); (case kK => first | exact rfl | assumption); (case kd => ktr_room); (case ku => ktr_units); (intro h9 tk9 F9 N9)); (try dsimp only))
  k_with "call ref" => (k_here; (with_reducible show wpAny _ _ (call (Value.ref 129) _ _) _ _ _); k_dflt (refine' Fn.use0 (name_tail_none _ _ _ ‹_›) ?kB ?kF ?kX ?kN ?kT ?kK ?kd ?ku ?_; (case kB | kF | kX | kN | kT => k_asm); (case kK => first | exact rfl | assumption); (case kd => ktr_room); (case ku => ktr_units); (intro h9 tk9 F9 N9)); (try dsimp only))
  k_with "UnrEndW" => ((rename Fr _ _ _ _ => lF'); (rename News _ _ _ _ => lN'); (k_dflt (refine unr_one lF' lN' ?off ⟨by k_subL, ?_⟩; (case off => exact ((by first | exact by assumption | exact And.right ‹_› | exact And.right (And.right ‹_›)))))))
  obtain ⟨dX, dd, mm, ta, tb, tc, td, pr, wo, hX1, hX2⟩ := DataIn.head hD
  intro mean mg mb dp un gd cn cs a ccd cl outer A₀ base h₀ L m s Q E B F X N T hk hd hu hret
  replace N := news_two N hX1 hX2
  clear hX1 hX2
  refine wpAny_call ?_
  k_dflt cell_enter
  walk_at "STEPS"
  all_goals exact hret _ _ _ _ ⟨by rw [own_no ‹_› ‹_›]; exact rfl, rfl⟩ ‹_› (newsWeak ‹_› (fun p hp => by walk_at "SUB"))
theorem own_3 (w : World) (news : List (Addr × Obj)) (xD : Addr) (cc : Int) (u9 : Tok)  (hD : DataIn w xD news) (hc : 0 ≤ cc) (hc2 : cc < 1099511627776) (hT : tailI cc = none) (hN : nameI cc = some [76, 65, 84, 73, 78, 32, 67, 65, 80, 73, 84, 65, 76, 32, 76, 69, 84, 84, 69, 82, 32, 65]) : FnW w 20 150 [.int cc u9, .ref xD] news (Pure news (optB (ownI cc))) := by
  k_with_none
  k_with "FOLD" => ((fail_if_success (fail_if_success k_fold)); (try ((with_reducible rename Fr _ _ _ _ => Fz); (fail_if_success (with_reducible have : Fr _ _ _ mk := Fz)); (with_reducible refine let mk := _; have Fy : Fr _ _ _ mk := Fz; ?_); clear Fz)); (try ((with_reducible rename News _ _ _ _ => Nz); (fail_if_success (with_reducible have : News _ _ _ lk := Nz)); (with_reducible refine let lk := _; have Ny : News _ _ _ lk := Nz; ?_); clear Nz)); with_reducible refine let qk := _; let ek := _; (?_ : wpAny _ _ _ qk ek _))
  k_with "STEPS" => ((try walk_at "FOLD"); repeat' (first | (k_unfold; (try dsimp only)) | (k_end; wrow_close) | (walk1; all_goals (try ((fail_if_success (with_reducible show wpAny _ _ (subscriptTail _ _ _ _) _ _ _)); dsimp only)); all_goals (try ((with_reducible first | show wpAny _ _ (exec _ _) _ _ _ | show wpAny _ _ (execs _ _) _ _ _); (try ((with_reducible first | refine genTok ?_ | refine genTokS ?_); intro tkG)); (try walk_at "FOLD")))) | (dsimp only; walk1)))
  k_with "ROOM" => (first | exact U0 ‹_› | exact U1 ‹_› (by exact rfl) | exact U2 ‹_› (by exact rfl) | exact U3 ‹_› (by exact rfl) | ((simp +zetaDelta only [depth_under_make, depth_under_kw, depth_in1, depth_deeper, depth_caller]); (try dsimp only [ktrTop]); first | omega | decide +kernel))
  k_with "UNITS" => (first | exact U1 ‹_› (by exact rfl) | exact U2 ‹_› (by exact rfl) | exact U3 ‹_› (by exact rfl) | exact U4 ‹_› (by exact rfl) | exact U5 ‹_› (by exact rfl) | (have hcL9 := cLine_is; (simp +zetaDelta only [units_under_make, units_in1, units_deeper, Around.mark_units, units_caller]); (try dsimp only [ktrTop]); first | (rw [hcL9]; decide) | omega | decide +kernel))
  k_with "NE" => (first | with_reducible assumption | (refine neN (Nat.ne_of_lt ?_); walk_at "LTS") | (refine neN (Nat.ne_of_gt ?_); walk_at "LTS") | (refine neN ?_; (try dsimp only); omega))
  k_with "ENTER" => (refine' Internal.code_defN ?k1 ?k2 ?k3 ?k4 ?k5 ?kA ?kF ?kK ?k6 ?k7 ?k8 ?k9 ?kB ?_ ?c2 ?c3 ?c4 ?c5; (case kA | kF => exact rfl); (case kK => first | exact rfl | assumption); (case k1 | k2 | k3 | k4 | k5 => k_asm); (case k6 | k7 => k_is); (case k8 => ktr_room); (case k9 => exact BindsTo.of_eq (by kernel_rfl)); (case c5 => decide); (case kB => exact locs rfl); (case c2 | c3 | c4 => exact rfl); k_whole; intro g' L' h' tk' FG' F' N' B' X' T'; (try dsimp only); (try k_lift B'); (try walk_at "FOLD"); (refine let Ak : Around := _; (?_ : wpAny _ Ak _ _ _ _)))
  k_with "LTS" => (first | with_reducible assumption | exact ltM (by with_reducible assumption) (by k_mem) | exact And.left (by with_reducible assumption) | exact And.left (And.right (by with_reducible assumption)) | exact And.right (And.right (by with_reducible assumption)) | exact And.left (And.right (And.right (by with_reducible assumption))) | exact And.right (And.right (And.right (by with_reducible assumption))))
  k_with "ALL" => (first | with_reducible assumption | exact ne_of_allLt ‹_›)
  k_with "MEM" => (first | exact List.Mem.head _ | exact Mem1 | exact Mem2 | exact Mem3 | exact Mem4 | exact Mem5 | (refine TL6 ?_; walk_at "MEM"))
  k_with "SUB" => (first | assumption | exact TL1 ‹_› | exact TL2 ‹_› | exact TL3 ‹_› | exact TL4 ‹_› | exact TL5 ‹_› | (refine TL6 ?_; walk_at "SUB"))
  k_with "getMethod bytes" => (k_here; first | ((with_reducible show wpAny _ _ (getMethod (Value.bytes _ _) (PySem.Str.ofString "split") _) _ _ _); with_reducible refine method_bytes slot_split type_split ?_) | ((with_reducible show wpAny _ _ (getMethod (Value.bytes _ _) (PySem.Str.ofString "startswith") _) _ _ _); with_reducible refine method_bytes FB.slot_bytes_startswith FB.type_bytes_startswith ?_) | ((with_reducible show wpAny _ _ (getMethod (Value.bytes _ _) (PySem.Str.ofString "endswith") _) _ _ _); with_reducible refine method_bytes FB.slot_bytes_endswith FB.type_bytes_endswith ?_) | ((with_reducible show wpAny _ _ (getMethod (Value.bytes _ _) (PySem.Str.ofString "replace") _) _ _ _); with_reducible refine method_bytes slot_replace type_replace ?_) | ((with_reducible show wpAny _ _ (getMethod (Value.bytes _ _) (PySem.Str.ofString "join") _) _ _ _); with_reducible refine method_bytes slot_join type_join ?_))
  k_with "eval Call" => (k_here; k_dflt (refine Call_ ?_))
  k_with "call ref" => (k_here; (with_reducible show wpAny _ _ (call (Value.ref 305) [Value.ref _, Value.str (Str.ofString "name") _, Value.int _ _] _) _ _ _); k_dflt (refine' FnW.useE (get_nm_some _ _ _ _ _ _ _ ?hD ?hc ‹_›) ?kB ?kF ?kX ?kN ?kT ?kK ?kd ?ku ?_; (case kN => k_asm); (case hD => exact DataIn.mono ‹_› (by intro p hp; walk_at "SUB")); (case hc => assumption); (case kB | kF | kX | kT => k_asm); (case kK => first | exact rfl | assumption); (case kd => ktr_room); (case ku => ktr_units); (intro t9 h9 tk9 F9 N9)); (try dsimp only))
  k_with "call ref" => (k_here; (with_reducible show wpAny _ _ (call (Value.ref 129) _ _) _ _ _); k_dflt (refine' Fn.use0 (name_tail_none _ _ _ ‹_›) ?kB ?kF ?kX ?kN ?kT ?kK ?kd ?ku ?_; (case kB | kF | kX | kN | kT => k_asm); (case kK => first | exact rfl | assumption); (case kd => ktr_room); (case ku => ktr_units); (intro h9 tk9 F9 N9)); (try dsimp only))
  k_with "UnrEndW" => ((rename Fr _ _ _ _ => lF'); (rename News _ _ _ _ => lN'); (k_dflt (refine unr_one lF' lN' ?off ⟨by k_subL, ?_⟩; (case off => exact ((by first | exact by assumption | exact And.right ‹_› | exact And.right (And.right ‹_›)))))))
  k_with "call builtin:bytes.startswith" => (k_here; (with_reducible show wpAny _ _ (call (Value.builtin "bytes.startswith") [Value.bytes _ _, Value.bytes _ _]) _ _ _); k_dflt (first | refine starts_lit (r := true) (by decide) ?_ | refine starts_lit (r := false) (by decide) ?_ | refine starts_bytes ?_))
  obtain ⟨dX, dd, mm, ta, tb, tc, td, pr, wo, hX1, hX2⟩ := DataIn.head hD
  intro mean mg mb dp un gd cn cs a ccd cl outer A₀ base h₀ L m s Q E B F X N T hk hd hu hret
  replace N := news_two N hX1 hX2
  clear hX1 hX2
  refine wpAny_call ?_
  k_dflt cell_enter
  walk_at "STEPS"
  all_goals exact hret _ _ _ _ ⟨by rw [own_lat ‹_› ‹_›]; exact ⟨_, rfl⟩, rfl⟩ ‹_› (newsWeak ‹_› (fun p hp => by walk_at "SUB"))
theorem own_4 (w : World) (news : List (Addr × Obj)) (xD : Addr) (cc : Int) (u9 : Tok)  (hD : DataIn w xD news) (hc : 0 ≤ cc) (hc2 : cc < 1099511627776) (hT : tailI cc = none) (hN : nameI cc = some [60, 67, 74, 75, 32, 73, 100, 101, 111, 103, 114, 97, 112, 104, 44, 32, 70, 105, 114, 115, 116, 62]) : FnW w 20 150 [.int cc u9, .ref xD] news (Pure news (optB (ownI cc))) := by
  k_with_none
  k_with "FOLD" => ((fail_if_success (fail_if_success k_fold)); (try ((with_reducible rename Fr _ _ _ _ => Fz); (fail_if_success (with_reducible have : Fr _ _ _ mk := Fz)); (with_reducible refine let mk := _; have Fy : Fr _ _ _ mk := Fz; ?_); clear Fz)); (try ((with_reducible rename News _ _ _ _ => Nz); (fail_if_success (with_reducible have : News _ _ _ lk := Nz)); (with_reducible refine let lk := _; have Ny : News _ _ _ lk := Nz; ?_); clear Nz)); with_reducible refine let qk := _; let ek := _; (?_ : wpAny _ _ _ qk ek _))
  k_with "STEPS" => ((try walk_at "FOLD"); repeat' (first | (k_unfold; (try dsimp only)) | (k_end; wrow_close) | (walk1; all_goals (try ((fail_if_success (with_reducible show wpAny _ _ (subscriptTail _ _ _ _) _ _ _)); dsimp only)); all_goals (try ((with_reducible first | show wpAny _ _ (exec _ _) _ _ _ | show wpAny _ _ (execs _ _) _ _ _); (try ((with_reducible first | refine genTok ?_ | refine genTokS ?_); intro tkG)); (try walk_at "FOLD")))) | (dsimp only; walk1)))
  k_with "ROOM" => (first | exact U0 ‹_› | exact U1 ‹_› (by exact rfl) | exact U2 ‹_› (by exact rfl) | exact U3 ‹_› (by exact rfl) | ((simp +zetaDelta only [depth_under_make, depth_under_kw, depth_in1, depth_deeper, depth_caller]); (try dsimp only [ktrTop]); first | omega | decide +kernel))
  k_with "UNITS" => (first | exact U1 ‹_› (by exact rfl) | exact U2 ‹_› (by exact rfl) | exact U3 ‹_› (by exact rfl) | exact U4 ‹_› (by exact rfl) | exact U5 ‹_› (by exact rfl) | (have hcL9 := cLine_is; (simp +zetaDelta only [units_under_make, units_in1, units_deeper, Around.mark_units, units_caller]); (try dsimp only [ktrTop]); first | (rw [hcL9]; decide) | omega | decide +kernel))
  k_with "NE" => (first | with_reducible assumption | (refine neN (Nat.ne_of_lt ?_); walk_at "LTS") | (refine neN (Nat.ne_of_gt ?_); walk_at "LTS") | (refine neN ?_; (try dsimp only); omega))
  k_with "ENTER" => (refine' Internal.code_defN ?k1 ?k2 ?k3 ?k4 ?k5 ?kA ?kF ?kK ?k6 ?k7 ?k8 ?k9 ?kB ?_ ?c2 ?c3 ?c4 ?c5; (case kA | kF => exact rfl); (case kK => first | exact rfl | assumption); (case k1 | k2 | k3 | k4 | k5 => k_asm); (case k6 | k7 => k_is); (case k8 => ktr_room); (case k9 => exact BindsTo.of_eq (by kernel_rfl)); (case c5 => decide); (case kB => exact locs rfl); (case c2 | c3 | c4 => exact rfl); k_whole; intro g' L' h' tk' FG' F' N' B' X' T'; (try dsimp only); (try k_lift B'); (try walk_at "FOLD"); (refine let Ak : Around := _; (?_ : wpAny _ Ak _ _ _ _)))
  k_with "LTS" => (first | with_reducible assumption | exact ltM (by with_reducible assumption) (by k_mem) | exact And.left (by with_reducible assumption) | exact And.left (And.right (by with_reducible assumption)) | exact And.right (And.right (by with_reducible assumption)) | exact And.left (And.right (And.right (by with_reducible assumption))) | exact And.right (And.right (And.right (by with_reducible assumption))))
  k_with "ALL" => (first | with_reducible assumption | exact ne_of_allLt ‹_›)
  k_with "MEM" => (first | exact List.Mem.head _ | exact Mem1 | exact Mem2 | exact Mem3 | exact Mem4 | exact Mem5 | (refine TL6 ?_; walk_at "MEM"))
  k_with "SUB" => (first | assumption | exact TL1 ‹_› | exact TL2 ‹_› | exact TL3 ‹_› | exact TL4 ‹_› | exact TL5 ‹_› | (refine TL6 ?_; walk_at "SUB"))
  k_with "call ref" => (k_here; (with_reducible show wpAny _ _ (call (Value.ref _) _ _) _ _ _); k_dflt (refine wpAny_call ?_; cell_enter))
  k_with "getMethod bytes" => (k_here; first | ((with_reducible show wpAny _ _ (getMethod (Value.bytes _ _) (PySem.Str.ofString "split") _) _ _ _); with_reducible refine method_bytes slot_split type_split ?_) | ((with_reducible show wpAny _ _ (getMethod (Value.bytes _ _) (PySem.Str.ofString "startswith") _) _ _ _); with_reducible refine method_bytes FB.slot_bytes_startswith FB.type_bytes_startswith ?_) | ((with_reducible show wpAny _ _ (getMethod (Value.bytes _ _) (PySem.Str.ofString "endswith") _) _ _ _); with_reducible refine method_bytes FB.slot_bytes_endswith FB.type_bytes_endswith ?_) | ((with_reducible show wpAny _ _ (getMethod (Value.bytes _ _) (PySem.Str.ofString "replace") _) _ _ _); with_reducible refine method_bytes slot_replace type_replace ?_) | ((with_reducible show wpAny _ _ (getMethod (Value.bytes _ _) (PySem.Str.ofString "join") _) _ _ _); with_reducible refine method_bytes slot_join type_join ?_))
  k_with "eval Call" => (k_here; k_dflt (refine Call_ ?_))
  k_with "call ref" => (k_here; (with_reducible show wpAny _ _ (call (Value.ref 305) [Value.ref _, Value.str (Str.ofString "name") _, Value.int _ _] _) _ _ _); k_dflt (refine' FnW.useE (get_nm_some _ _ _ _ _ _ _ ?hD ?hc ‹_›) ?kB ?kF ?kX ?kN ?kT ?kK ?kd ?ku ?_; (case kN => k_asm); (case hD => exact DataIn.mono ‹_› (by intro p hp; walk_at "SUB")); (case hc => assumption); (case kB | kF | kX | kT => k_asm); (case kK => first | exact rfl | assumption); (case kd => ktr_room); (case ku => ktr_units); (intro t9 h9 tk9 F9 N9)); (try dsimp only))
  k_with "call ref" => (k_here; (with_reducible show wpAny _ _ (call (Value.ref 129) _ _) _ _ _); k_dflt (refine' Fn.use0 (name_tail_none _ _ _ ‹_›) ?kB ?kF ?kX ?kN ?kT ?kK ?kd ?ku ?_; (case kB | kF | kX | kN | kT => k_asm); (case kK => first | exact rfl | assumption); (case kd => ktr_room); (case ku => ktr_units); (intro h9 tk9 F9 N9)); (try dsimp only))
  k_with "call ref" => (k_here; (with_reducible show wpAny _ _ (call (Value.ref 75) _ _) _ _ _); k_dflt (refine' Fn.useE (hex_code_ok _ _ _ ‹_› ‹_›) ?kB ?kF ?kX ?kN ?kT ?kK ?kd ?ku ?_; (case kB | kF | kX | kN | kT => k_asm); (case kK => first | exact rfl | assumption); (case kd => ktr_room); (case ku => ktr_units); (intro t9 h9 tk9 F9 N9)); (try dsimp only))
  k_with "UnrEndW" => ((rename Fr _ _ _ _ => lF'); (rename News _ _ _ _ => lN'); (k_dflt (refine unr_one lF' lN' ?off ⟨by k_subL, ?_⟩; (case off => exact ((by first | exact by assumption | exact And.right ‹_› | exact And.right (And.right ‹_›)))))))
  k_with "pyIter ref" => (k_here; (with_reducible show wpAny _ _ (pyIter (Value.ref _)) (fun it s₂ => TurnsAt _ _ _ _ _ _ _ _ _ it s₂) _ _); (k_dflt ((rename Fr _ _ _ _ => lF'); (with_unfolding_all refine' iter_listTurns ?hh lF' ?hN ?hm ?hc ?hd ?_; (case hh => rfl); (case hN => k_asm); (case hm => k_mem); (case hc | hd => rfl)); clear lF'; intro i' l1; (try k_lt l1))))
  k_with "exec For Tuple" => (k_here; k_dflt (refine' For_turns ?kF ?_; (case kF => k_asm)))
  k_with "call builtin:bytes.startswith" => (k_here; (with_reducible show wpAny _ _ (call (Value.builtin "bytes.startswith") [Value.bytes _ _, Value.bytes _ _]) _ _ _); k_dflt (first | refine starts_lit (r := true) (by decide) ?_ | refine starts_lit (r := false) (by decide) ?_ | refine starts_bytes ?_))
  k_with "binaryOp Add bytes bytes" => (k_here; (with_reducible show wpAny _ _ (binaryOp Operator.Add (Value.bytes _ _) (Value.bytes _ _)) _ _ _); k_dflt (refine add_B (by first | decide | exact room_hex (by decide) | exact room_hex2 (by decide) | (simp only [List.length_append, List.length_cons, List.length_nil]; omega)) ?_; intro tb9 kb9))
  obtain ⟨dX, dd, mm, ta, tb, tc, td, pr, wo, hX1, hX2⟩ := DataIn.head hD
  intro mean mg mb dp un gd cn cs a ccd cl outer A₀ base h₀ L m s Q E B F X N T hk hd hu hret
  replace N := news_two N hX1 hX2
  clear hX1 hX2
  refine wpAny_call ?_
  k_dflt cell_enter
  walk_at "STEPS"
  all_goals exact hret _ _ _ _ ⟨by rw [own_cjk ‹_› ‹_›]; exact ⟨_, rfl⟩, rfl⟩ ‹_› (newsWeak ‹_› (fun p hp => by walk_at "SUB"))
theorem own_5 (w : World) (news : List (Addr × Obj)) (xD : Addr) (cc : Int) (u9 : Tok)  (hD : DataIn w xD news) (hc : 0 ≤ cc) (hc2 : cc < 1099511627776) (hT : tailI cc = none) (hN : nameI cc = some [60, 84, 97, 110, 103, 117, 116, 32, 73, 100, 101, 111, 103, 114, 97, 112, 104, 62]) : FnW w 20 150 [.int cc u9, .ref xD] news (Pure news (optB (ownI cc))) := by
  k_with_none
  k_with "FOLD" => ((fail_if_success (fail_if_success k_fold)); (try ((with_reducible rename Fr _ _ _ _ => Fz); (fail_if_success (with_reducible have : Fr _ _ _ mk := Fz)); (with_reducible refine let mk := _; have Fy : Fr _ _ _ mk := Fz; ?_); clear Fz)); (try ((with_reducible rename News _ _ _ _ => Nz); (fail_if_success (with_reducible have : News _ _ _ lk := Nz)); (with_reducible refine let lk := _; have Ny : News _ _ _ lk := Nz; ?_); clear Nz)); with_reducible refine let qk := _; let ek := _; (?_ : wpAny _ _ _ qk ek _))
  k_with "STEPS" => ((try walk_at "FOLD"); repeat' (first | (k_unfold; (try dsimp only)) | (k_end; wrow_close) | (walk1; all_goals (try ((fail_if_success (with_reducible show wpAny _ _ (subscriptTail _ _ _ _) _ _ _)); dsimp only)); all_goals (try ((with_reducible first | show wpAny _ _ (exec _ _) _ _ _ | show wpAny _ _ (execs _ _) _ _ _); (try ((with_reducible first | refine genTok ?_ | refine genTokS ?_); intro tkG)); (try walk_at "FOLD")))) | (dsimp only; walk1)))
  k_with "ROOM" => (first | exact U0 ‹_› | exact U1 ‹_› (by exact rfl) | exact U2 ‹_› (by exact rfl) | exact U3 ‹_› (by exact rfl) | ((simp +zetaDelta only [depth_under_make, depth_under_kw, depth_in1, depth_deeper, depth_caller]); (try dsimp only [ktrTop]); first | omega | decide +kernel))
  k_with "UNITS" => (first | exact U1 ‹_› (by exact rfl) | exact U2 ‹_› (by exact rfl) | exact U3 ‹_› (by exact rfl) | exact U4 ‹_› (by exact rfl) | exact U5 ‹_› (by exact rfl) | (have hcL9 := cLine_is; (simp +zetaDelta only [units_under_make, units_in1, units_deeper, Around.mark_units, units_caller]); (try dsimp only [ktrTop]); first | (rw [hcL9]; decide) | omega | decide +kernel))
  k_with "NE" => (first | with_reducible assumption | (refine neN (Nat.ne_of_lt ?_); walk_at "LTS") | (refine neN (Nat.ne_of_gt ?_); walk_at "LTS") | (refine neN ?_; (try dsimp only); omega))
  k_with "ENTER" => (refine' Internal.code_defN ?k1 ?k2 ?k3 ?k4 ?k5 ?kA ?kF ?kK ?k6 ?k7 ?k8 ?k9 ?kB ?_ ?c2 ?c3 ?c4 ?c5; (case kA | kF => exact rfl); (case kK => first | exact rfl | assumption); (case k1 | k2 | k3 | k4 | k5 => k_asm); (case k6 | k7 => k_is); (case k8 => ktr_room); (case k9 => exact BindsTo.of_eq (by kernel_rfl)); (case c5 => decide); (case kB => exact locs rfl); (case c2 | c3 | c4 => exact rfl); k_whole; intro g' L' h' tk' FG' F' N' B' X' T'; (try dsimp only); (try k_lift B'); (try walk_at "FOLD"); (refine let Ak : Around := _; (?_ : wpAny _ Ak _ _ _ _)))
  k_with "LTS" => (first | with_reducible assumption | exact ltM (by with_reducible assumption) (by k_mem) | exact And.left (by with_reducible assumption) | exact And.left (And.right (by with_reducible assumption)) | exact And.right (And.right (by with_reducible assumption)) | exact And.left (And.right (And.right (by with_reducible assumption))) | exact And.right (And.right (And.right (by with_reducible assumption))))
  k_with "ALL" => (first | with_reducible assumption | exact ne_of_allLt ‹_›)
  k_with "MEM" => (first | exact List.Mem.head _ | exact Mem1 | exact Mem2 | exact Mem3 | exact Mem4 | exact Mem5 | (refine TL6 ?_; walk_at "MEM"))
  k_with "SUB" => (first | assumption | exact TL1 ‹_› | exact TL2 ‹_› | exact TL3 ‹_› | exact TL4 ‹_› | exact TL5 ‹_› | (refine TL6 ?_; walk_at "SUB"))
  k_with "call ref" => (k_here; (with_reducible show wpAny _ _ (call (Value.ref _) _ _) _ _ _); k_dflt (refine wpAny_call ?_; cell_enter))
  k_with "getMethod bytes" => (k_here; first | ((with_reducible show wpAny _ _ (getMethod (Value.bytes _ _) (PySem.Str.ofString "split") _) _ _ _); with_reducible refine method_bytes slot_split type_split ?_) | ((with_reducible show wpAny _ _ (getMethod (Value.bytes _ _) (PySem.Str.ofString "startswith") _) _ _ _); with_reducible refine method_bytes FB.slot_bytes_startswith FB.type_bytes_startswith ?_) | ((with_reducible show wpAny _ _ (getMethod (Value.bytes _ _) (PySem.Str.ofString "endswith") _) _ _ _); with_reducible refine method_bytes FB.slot_bytes_endswith FB.type_bytes_endswith ?_) | ((with_reducible show wpAny _ _ (getMethod (Value.bytes _ _) (PySem.Str.ofString "replace") _) _ _ _); with_reducible refine method_bytes slot_replace type_replace ?_) | ((with_reducible show wpAny _ _ (getMethod (Value.bytes _ _) (PySem.Str.ofString "join") _) _ _ _); with_reducible refine method_bytes slot_join type_join ?_))
  k_with "eval Call" => (k_here; k_dflt (refine Call_ ?_))
  k_with "call ref" => (k_here; (with_reducible show wpAny _ _ (call (Value.ref 305) [Value.ref _, Value.str (Str.ofString "name") _, Value.int _ _] _) _ _ _); k_dflt (refine' FnW.useE (get_nm_some _ _ _ _ _ _ _ ?hD ?hc ‹_›) ?kB ?kF ?kX ?kN ?kT ?kK ?kd ?ku ?_; (case kN => k_asm); (case hD => exact DataIn.mono ‹_› (by intro p hp; walk_at "SUB")); (case hc => assumption); (case kB | kF | kX | kT => k_asm); (case kK => first | exact rfl | assumption); (case kd => ktr_room); (case ku => ktr_units); (intro t9 h9 tk9 F9 N9)); (try dsimp only))
  k_with "call ref" => (k_here; (with_reducible show wpAny _ _ (call (Value.ref 129) _ _) _ _ _); k_dflt (refine' Fn.use0 (name_tail_none _ _ _ ‹_›) ?kB ?kF ?kX ?kN ?kT ?kK ?kd ?ku ?_; (case kB | kF | kX | kN | kT => k_asm); (case kK => first | exact rfl | assumption); (case kd => ktr_room); (case ku => ktr_units); (intro h9 tk9 F9 N9)); (try dsimp only))
  k_with "call ref" => (k_here; (with_reducible show wpAny _ _ (call (Value.ref 75) _ _) _ _ _); k_dflt (refine' Fn.useE (hex_code_ok _ _ _ ‹_› ‹_›) ?kB ?kF ?kX ?kN ?kT ?kK ?kd ?ku ?_; (case kB | kF | kX | kN | kT => k_asm); (case kK => first | exact rfl | assumption); (case kd => ktr_room); (case ku => ktr_units); (intro t9 h9 tk9 F9 N9)); (try dsimp only))
  k_with "UnrEndW" => ((rename Fr _ _ _ _ => lF'); (rename News _ _ _ _ => lN'); (k_dflt (refine unr_one lF' lN' ?off ⟨by k_subL, ?_⟩; (case off => exact ((by first | exact by assumption | exact And.right ‹_› | exact And.right (And.right ‹_›)))))))
  k_with "pyIter ref" => (k_here; (with_reducible show wpAny _ _ (pyIter (Value.ref _)) (fun it s₂ => TurnsAt _ _ _ _ _ _ _ _ _ it s₂) _ _); (k_dflt ((rename Fr _ _ _ _ => lF'); (with_unfolding_all refine' iter_listTurns ?hh lF' ?hN ?hm ?hc ?hd ?_; (case hh => rfl); (case hN => k_asm); (case hm => k_mem); (case hc | hd => rfl)); clear lF'; intro i' l1; (try k_lt l1))))
  k_with "exec For Tuple" => (k_here; k_dflt (refine' For_turns ?kF ?_; (case kF => k_asm)))
  k_with "call builtin:bytes.startswith" => (k_here; (with_reducible show wpAny _ _ (call (Value.builtin "bytes.startswith") [Value.bytes _ _, Value.bytes _ _]) _ _ _); k_dflt (first | refine starts_lit (r := true) (by decide) ?_ | refine starts_lit (r := false) (by decide) ?_ | refine starts_bytes ?_))
  k_with "binaryOp Add bytes bytes" => (k_here; (with_reducible show wpAny _ _ (binaryOp Operator.Add (Value.bytes _ _) (Value.bytes _ _)) _ _ _); k_dflt (refine add_B (by first | decide | exact room_hex (by decide) | exact room_hex2 (by decide) | (simp only [List.length_append, List.length_cons, List.length_nil]; omega)) ?_; intro tb9 kb9))
  obtain ⟨dX, dd, mm, ta, tb, tc, td, pr, wo, hX1, hX2⟩ := DataIn.head hD
  intro mean mg mb dp un gd cn cs a ccd cl outer A₀ base h₀ L m s Q E B F X N T hk hd hu hret
  replace N := news_two N hX1 hX2
  clear hX1 hX2
  refine wpAny_call ?_
  k_dflt cell_enter
  walk_at "STEPS"
  all_goals exact hret _ _ _ _ ⟨by rw [own_tan ‹_› ‹_›]; exact ⟨_, rfl⟩, rfl⟩ ‹_› (newsWeak ‹_› (fun p hp => by walk_at "SUB"))
end
end Internal
namespace Internal
theorem tail_len {c : Int} {t : List UInt8} (h : tailI c = some t) : t.length ≤ 100 := by
  unfold tailI at h
  split at h
  · cases h
    have a := leads_len ((c - 44032).fdiv (21 * 28)).toNat
    have b := vowels_len (((c - 44032).fdiv 28).fmod 21).toNat
    have d := tails_len ((c - 44032).fmod 28).toNat
    rw [List.length_append, List.length_append]
    exact Nat.le_trans (Nat.add_le_add (Nat.add_le_add a b) d) (by decide)
  · cases h
theorem own_ok (w : World) (news : List (Addr × Obj)) (xD : Addr) (cc : Int) (u9 : Tok) (hD : DataIn w xD news) (hc : 0 ≤ cc) (hc2 : cc < 1099511627776) : FnW w 20 150 [.int cc u9, .ref xD] news (Pure news (optB (ownI cc))) := by
  cases hT : tailI cc with
  | some tl => exact own_1 w news xD cc u9 tl (tail_len hT) hD hc hc2 hT
  | none =>
    rcases name_cases cc with g | g | g | g
    · exact own_2 w news xD cc u9 hD hc hc2 hT g
    · exact own_3 w news xD cc u9 hD hc hc2 hT g
    · exact own_4 w news xD cc u9 hD hc hc2 hT g
    · exact own_5 w news xD cc u9 hD hc hc2 hT g
noncomputable def nonchI (c : Int) : Bool := decide (64976 ≤ c ∧ c ≤ 65007) || (Builtin.bitAnd c 65534 == 65534)
theorem nonch_1 {c : Int} (h1 : 64976 ≤ c) (h2 : c ≤ 65007) : decide (c ≤ 65007) = nonchI c := by
  unfold nonchI; rw [decide_eq_true h2, decide_eq_true (show 64976 ≤ c ∧ c ≤ 65007 from ⟨h1, h2⟩)]; rfl
theorem nonch_2 {c : Int} (h : ¬ (64976 ≤ c ∧ c ≤ 65007)) : (Builtin.bitAnd c 65534 == 65534) = nonchI c := by
  unfold nonchI; rw [decide_eq_false h]; rfl
noncomputable def surrI (c : Int) : Bool := decide (55296 ≤ c ∧ c ≤ 57343)
noncomputable def wordI (c : Int) : List UInt8 :=
  if nonchI c then [110, 111, 110, 99, 104, 97, 114, 97, 99, 116, 101, 114] else if surrI c then [115, 117, 114, 114, 111, 103, 97, 116, 101] else if (gcI c == Str.ofString "Cc") then [99, 111, 110, 116, 114, 111, 108] else if (gcI c == Str.ofString "Co") then [112, 114, 105, 118, 97, 116, 101, 45, 117, 115, 101] else [114, 101, 115, 101, 114, 118, 101, 100]
noncomputable def labelI (c : Int) : List UInt8 := labelB (wordI c) c
theorem lab_n {c : Int} (h : nonchI c = true) : labelI c = [60, 110, 111, 110, 99, 104, 97, 114, 97, 99, 116, 101, 114, 45] ++ hexB c ++ [62] := by
  unfold labelI wordI labelB; rw [h]; rfl
theorem lab_s {c : Int} (h : nonchI c = false) (g : surrI c = true) : labelI c = [60, 115, 117, 114, 114, 111, 103, 97, 116, 101, 45] ++ hexB c ++ [62] := by
  unfold labelI wordI labelB; rw [h, g]; rfl
theorem lab_c {c : Int} (h : nonchI c = false) (g : surrI c = false) (e : (gcI c == Str.ofString "Cc") = true) : labelI c = [60, 99, 111, 110, 116, 114, 111, 108, 45] ++ hexB c ++ [62] := by
  unfold labelI wordI labelB; rw [h, g, e]; rfl
theorem lab_p {c : Int} (h : nonchI c = false) (g : surrI c = false) (e : (gcI c == Str.ofString "Cc") = false) (f : (gcI c == Str.ofString "Co") = true) : labelI c = [60, 112, 114, 105, 118, 97, 116, 101, 45, 117, 115, 101, 45] ++ hexB c ++ [62] := by
  unfold labelI wordI labelB; rw [h, g, e, f]; rfl
theorem lab_r {c : Int} (h : nonchI c = false) (g : surrI c = false) (e : (gcI c == Str.ofString "Cc") = false) (f : (gcI c == Str.ofString "Co") = false) : labelI c = [60, 114, 101, 115, 101, 114, 118, 101, 100, 45] ++ hexB c ++ [62] := by
  unfold labelI wordI labelB; rw [h, g, e, f]; rfl
section
theorem nonch_ok (news : List (Addr × Obj)) (c : Int) (t : Tok) (h0 : 0 ≤ c) : Fn 2 68 [.int c t] news (Pure news (IsBool (nonchI c))) := by
  k_with_none
  k_with "FOLD" => ((fail_if_success (fail_if_success k_fold)); (try ((with_reducible rename Fr _ _ _ _ => Fz); (fail_if_success (with_reducible have : Fr _ _ _ mk := Fz)); (with_reducible refine let mk := _; have Fy : Fr _ _ _ mk := Fz; ?_); clear Fz)); (try ((with_reducible rename News _ _ _ _ => Nz); (fail_if_success (with_reducible have : News _ _ _ lk := Nz)); (with_reducible refine let lk := _; have Ny : News _ _ _ lk := Nz; ?_); clear Nz)); with_reducible refine let qk := _; let ek := _; (?_ : wpAny _ _ _ qk ek _))
  k_with "STEPS" => ((try walk_at "FOLD"); repeat' (first | (k_unfold; (try dsimp only)) | (k_end; wrow_close) | (walk1; all_goals (try ((fail_if_success (with_reducible show wpAny _ _ (subscriptTail _ _ _ _) _ _ _)); dsimp only)); all_goals (try ((with_reducible first | show wpAny _ _ (exec _ _) _ _ _ | show wpAny _ _ (execs _ _) _ _ _); (try ((with_reducible first | refine genTok ?_ | refine genTokS ?_); intro tkG)); (try walk_at "FOLD")))) | (dsimp only; walk1)))
  k_with "ROOM" => (first | exact U0 ‹_› | exact U1 ‹_› (by exact rfl) | exact U2 ‹_› (by exact rfl) | exact U3 ‹_› (by exact rfl) | ((simp +zetaDelta only [depth_under_make, depth_under_kw, depth_in1, depth_deeper, depth_caller]); (try dsimp only [ktrTop]); first | omega | decide +kernel))
  k_with "UNITS" => (first | exact U1 ‹_› (by exact rfl) | exact U2 ‹_› (by exact rfl) | exact U3 ‹_› (by exact rfl) | exact U4 ‹_› (by exact rfl) | exact U5 ‹_› (by exact rfl) | (have hcL9 := cLine_is; (simp +zetaDelta only [units_under_make, units_in1, units_deeper, Around.mark_units, units_caller]); (try dsimp only [ktrTop]); first | (rw [hcL9]; decide) | omega | decide +kernel))
  k_with "NE" => (first | with_reducible assumption | (refine neN (Nat.ne_of_lt ?_); walk_at "LTS") | (refine neN (Nat.ne_of_gt ?_); walk_at "LTS") | (refine neN ?_; (try dsimp only); omega))
  k_with "ENTER" => (refine' Internal.code_defN ?k1 ?k2 ?k3 ?k4 ?k5 ?kA ?kF ?kK ?k6 ?k7 ?k8 ?k9 ?kB ?_ ?c2 ?c3 ?c4 ?c5; (case kA | kF => exact rfl); (case kK => first | exact rfl | assumption); (case k1 | k2 | k3 | k4 | k5 => k_asm); (case k6 | k7 => k_is); (case k8 => ktr_room); (case k9 => exact BindsTo.of_eq (by kernel_rfl)); (case c5 => decide); (case kB => exact locs rfl); (case c2 | c3 | c4 => exact rfl); k_whole; intro g' L' h' tk' FG' F' N' B' X' T'; (try dsimp only); (try k_lift B'); (try walk_at "FOLD"); (refine let Ak : Around := _; (?_ : wpAny _ Ak _ _ _ _)))
  k_with "LTS" => (first | with_reducible assumption | exact ltM (by with_reducible assumption) (by k_mem) | exact And.left (by with_reducible assumption) | exact And.left (And.right (by with_reducible assumption)) | exact And.right (And.right (by with_reducible assumption)) | exact And.left (And.right (And.right (by with_reducible assumption))) | exact And.right (And.right (And.right (by with_reducible assumption))))
  k_with "ALL" => (first | with_reducible assumption | exact ne_of_allLt ‹_›)
  k_with "MEM" => (first | exact List.Mem.head _ | exact Mem1 | exact Mem2 | exact Mem3 | exact Mem4 | exact Mem5 | (refine TL6 ?_; walk_at "MEM"))
  k_with "eval Call" => (k_here; k_dflt (refine Call_ ?_))
  intro w mean mg mb dp un gd cn cs a ccd cl outer A₀ base h₀ L m s Q E B F X N T hk hd hu hret
  refine wpAny_call ?_
  k_dflt cell_enter
  walk_at "STEPS"
  all_goals first
    | exact hret _ _ _ _ ⟨by rw [nonch_1 ‹_› ‹_›], rfl⟩ ‹_› (by first | assumption | (refine newsWeak ‹_› ?_; intro p9 hp9; (repeat refine List.Mem.tail _ ?_); first | assumption | exact List.mem_append_left _ hp9))
    | exact hret _ _ _ _ ⟨by rw [nonch_2 (by omega)], rfl⟩ ‹_› (by first | assumption | (refine newsWeak ‹_› ?_; intro p9 hp9; (repeat refine List.Mem.tail _ ?_); first | assumption | exact List.mem_append_left _ hp9))
theorem surr_ok (news : List (Addr × Obj)) (c : Int) (t : Tok) : Fn 2 61 [.int c t] news (Pure news (IsBool (surrI c))) := by
  k_with_none
  k_with "FOLD" => ((fail_if_success (fail_if_success k_fold)); (try ((with_reducible rename Fr _ _ _ _ => Fz); (fail_if_success (with_reducible have : Fr _ _ _ mk := Fz)); (with_reducible refine let mk := _; have Fy : Fr _ _ _ mk := Fz; ?_); clear Fz)); (try ((with_reducible rename News _ _ _ _ => Nz); (fail_if_success (with_reducible have : News _ _ _ lk := Nz)); (with_reducible refine let lk := _; have Ny : News _ _ _ lk := Nz; ?_); clear Nz)); with_reducible refine let qk := _; let ek := _; (?_ : wpAny _ _ _ qk ek _))
  k_with "STEPS" => ((try walk_at "FOLD"); repeat' (first | (k_unfold; (try dsimp only)) | (k_end; wrow_close) | (walk1; all_goals (try ((fail_if_success (with_reducible show wpAny _ _ (subscriptTail _ _ _ _) _ _ _)); dsimp only)); all_goals (try ((with_reducible first | show wpAny _ _ (exec _ _) _ _ _ | show wpAny _ _ (execs _ _) _ _ _); (try ((with_reducible first | refine genTok ?_ | refine genTokS ?_); intro tkG)); (try walk_at "FOLD")))) | (dsimp only; walk1)))
  k_with "ROOM" => (first | exact U0 ‹_› | exact U1 ‹_› (by exact rfl) | exact U2 ‹_› (by exact rfl) | exact U3 ‹_› (by exact rfl) | ((simp +zetaDelta only [depth_under_make, depth_under_kw, depth_in1, depth_deeper, depth_caller]); (try dsimp only [ktrTop]); first | omega | decide +kernel))
  k_with "UNITS" => (first | exact U1 ‹_› (by exact rfl) | exact U2 ‹_› (by exact rfl) | exact U3 ‹_› (by exact rfl) | exact U4 ‹_› (by exact rfl) | exact U5 ‹_› (by exact rfl) | (have hcL9 := cLine_is; (simp +zetaDelta only [units_under_make, units_in1, units_deeper, Around.mark_units, units_caller]); (try dsimp only [ktrTop]); first | (rw [hcL9]; decide) | omega | decide +kernel))
  k_with "NE" => (first | with_reducible assumption | (refine neN (Nat.ne_of_lt ?_); walk_at "LTS") | (refine neN (Nat.ne_of_gt ?_); walk_at "LTS") | (refine neN ?_; (try dsimp only); omega))
  k_with "ENTER" => (refine' Internal.code_defN ?k1 ?k2 ?k3 ?k4 ?k5 ?kA ?kF ?kK ?k6 ?k7 ?k8 ?k9 ?kB ?_ ?c2 ?c3 ?c4 ?c5; (case kA | kF => exact rfl); (case kK => first | exact rfl | assumption); (case k1 | k2 | k3 | k4 | k5 => k_asm); (case k6 | k7 => k_is); (case k8 => ktr_room); (case k9 => exact BindsTo.of_eq (by kernel_rfl)); (case c5 => decide); (case kB => exact locs rfl); (case c2 | c3 | c4 => exact rfl); k_whole; intro g' L' h' tk' FG' F' N' B' X' T'; (try dsimp only); (try k_lift B'); (try walk_at "FOLD"); (refine let Ak : Around := _; (?_ : wpAny _ Ak _ _ _ _)))
  k_with "LTS" => (first | with_reducible assumption | exact ltM (by with_reducible assumption) (by k_mem) | exact And.left (by with_reducible assumption) | exact And.left (And.right (by with_reducible assumption)) | exact And.right (And.right (by with_reducible assumption)) | exact And.left (And.right (And.right (by with_reducible assumption))) | exact And.right (And.right (And.right (by with_reducible assumption))))
  k_with "ALL" => (first | with_reducible assumption | exact ne_of_allLt ‹_›)
  k_with "MEM" => (first | exact List.Mem.head _ | exact Mem1 | exact Mem2 | exact Mem3 | exact Mem4 | exact Mem5 | (refine TL6 ?_; walk_at "MEM"))
  k_with "eval Call" => (k_here; k_dflt (refine Call_ ?_))
  intro w mean mg mb dp un gd cn cs a ccd cl outer A₀ base h₀ L m s Q E B F X N T hk hd hu hret
  refine wpAny_call ?_
  k_dflt cell_enter
  walk_at "STEPS"
  all_goals first
    | exact hret _ _ _ _ ⟨by (show _ = Value.bool _); congr 1; simp only [surrI]; first | (apply Eq.symm; apply decide_eq_true; omega) | (apply decide_eq_decide.mpr; first | exact (and_iff_right ‹_›).symm | exact iff_of_false ‹_› (fun q => absurd q.1 ‹_›) | omega) | (apply Eq.symm; apply decide_eq_false; omega) | (symm; simp only [Bool.or_eq_true, Bool.or_eq_false_iff, decide_eq_true_eq, decide_eq_false_iff_not]; omega), rfl⟩ ‹_› (by first | assumption | (refine newsWeak ‹_› ?_; intro p9 hp9; (repeat refine List.Mem.tail _ ?_); first | assumption | exact List.mem_append_left _ hp9))
theorem label_ok (w : World) (news : List (Addr × Obj)) (xD : Addr) (cc : Int) (u9 : Tok)  (hD : DataIn w xD news) (hc : 0 ≤ cc) (hc2 : cc < 1099511627776)  : FnW w 20 157 [.int cc u9, .ref xD] news (Pure news (IsBytes (labelI cc))) := by
  k_with_none
  k_with "FOLD" => ((fail_if_success (fail_if_success k_fold)); (try ((with_reducible rename Fr _ _ _ _ => Fz); (fail_if_success (with_reducible have : Fr _ _ _ mk := Fz)); (with_reducible refine let mk := _; have Fy : Fr _ _ _ mk := Fz; ?_); clear Fz)); (try ((with_reducible rename News _ _ _ _ => Nz); (fail_if_success (with_reducible have : News _ _ _ lk := Nz)); (with_reducible refine let lk := _; have Ny : News _ _ _ lk := Nz; ?_); clear Nz)); with_reducible refine let qk := _; let ek := _; (?_ : wpAny _ _ _ qk ek _))
  k_with "STEPS" => ((try walk_at "FOLD"); repeat' (first | (k_unfold; (try dsimp only)) | (k_end; wrow_close) | (walk1; all_goals (try ((fail_if_success (with_reducible show wpAny _ _ (subscriptTail _ _ _ _) _ _ _)); dsimp only)); all_goals (try ((with_reducible first | show wpAny _ _ (exec _ _) _ _ _ | show wpAny _ _ (execs _ _) _ _ _); (try ((with_reducible first | refine genTok ?_ | refine genTokS ?_); intro tkG)); (try walk_at "FOLD")))) | (dsimp only; walk1)))
  k_with "ROOM" => (first | exact U0 ‹_› | exact U1 ‹_› (by exact rfl) | exact U2 ‹_› (by exact rfl) | exact U3 ‹_› (by exact rfl) | ((simp +zetaDelta only [depth_under_make, depth_under_kw, depth_in1, depth_deeper, depth_caller]); (try dsimp only [ktrTop]); first | omega | decide +kernel))
  k_with "UNITS" => (first | exact U1 ‹_› (by exact rfl) | exact U2 ‹_› (by exact rfl) | exact U3 ‹_› (by exact rfl) | exact U4 ‹_› (by exact rfl) | exact U5 ‹_› (by exact rfl) | (have hcL9 := cLine_is; (simp +zetaDelta only [units_under_make, units_in1, units_deeper, Around.mark_units, units_caller]); (try dsimp only [ktrTop]); first | (rw [hcL9]; decide) | omega | decide +kernel))
  k_with "NE" => (first | with_reducible assumption | (refine neN (Nat.ne_of_lt ?_); walk_at "LTS") | (refine neN (Nat.ne_of_gt ?_); walk_at "LTS") | (refine neN ?_; (try dsimp only); omega))
  k_with "ENTER" => (refine' Internal.code_defN ?k1 ?k2 ?k3 ?k4 ?k5 ?kA ?kF ?kK ?k6 ?k7 ?k8 ?k9 ?kB ?_ ?c2 ?c3 ?c4 ?c5; (case kA | kF => exact rfl); (case kK => first | exact rfl | assumption); (case k1 | k2 | k3 | k4 | k5 => k_asm); (case k6 | k7 => k_is); (case k8 => ktr_room); (case k9 => exact BindsTo.of_eq (by kernel_rfl)); (case c5 => decide); (case kB => exact locs rfl); (case c2 | c3 | c4 => exact rfl); k_whole; intro g' L' h' tk' FG' F' N' B' X' T'; (try dsimp only); (try k_lift B'); (try walk_at "FOLD"); (refine let Ak : Around := _; (?_ : wpAny _ Ak _ _ _ _)))
  k_with "LTS" => (first | with_reducible assumption | exact ltM (by with_reducible assumption) (by k_mem) | exact And.left (by with_reducible assumption) | exact And.left (And.right (by with_reducible assumption)) | exact And.right (And.right (by with_reducible assumption)) | exact And.left (And.right (And.right (by with_reducible assumption))) | exact And.right (And.right (And.right (by with_reducible assumption))))
  k_with "ALL" => (first | with_reducible assumption | exact ne_of_allLt ‹_›)
  k_with "MEM" => (first | exact List.Mem.head _ | exact Mem1 | exact Mem2 | exact Mem3 | exact Mem4 | exact Mem5 | (refine TL6 ?_; walk_at "MEM"))
  k_with "SUB" => (first | assumption | exact TL1 ‹_› | exact TL2 ‹_› | exact TL3 ‹_› | exact TL4 ‹_› | exact TL5 ‹_› | (refine TL6 ?_; walk_at "SUB"))
  k_with "eval Call" => (k_here; k_dflt (refine Call_ ?_))
  k_with "call ref" => (k_here; (with_reducible show wpAny _ _ (call (Value.ref 68) _ _) _ _ _); k_dflt (refine' Fn.use0 (nonch_ok _ _ _ ‹_›) ?kB ?kF ?kX ?kN ?kT ?kK ?kd ?ku ?_; (case kB | kF | kX | kN | kT => k_asm); (case kK => first | exact rfl | assumption); (case kd => ktr_room); (case ku => ktr_units); (intro h9 tk9 F9 N9)); (try dsimp only))
  k_with "call ref" => (k_here; (with_reducible show wpAny _ _ (call (Value.ref 61) _ _) _ _ _); k_dflt (refine' Fn.use0 (surr_ok _ _ _) ?kB ?kF ?kX ?kN ?kT ?kK ?kd ?ku ?_; (case kB | kF | kX | kN | kT => k_asm); (case kK => first | exact rfl | assumption); (case kd => ktr_room); (case ku => ktr_units); (intro h9 tk9 F9 N9)); (try dsimp only))
  k_with "call ref" => (k_here; (with_reducible show wpAny _ _ (call (Value.ref 305) [Value.ref _, Value.str (Str.ofString "gc") _, Value.int _ _] _) _ _ _); k_dflt (refine' FnW.useE (get_gc_ok _ _ _ _ _ _ ?hD ?hc) ?kB ?kF ?kX ?kN ?kT ?kK ?kd ?ku ?_; (case kN => k_asm); (case hD => exact DataIn.mono ‹_› (by intro p hp; walk_at "SUB")); (case hc => assumption); (case kB | kF | kX | kT => k_asm); (case kK => first | exact rfl | assumption); (case kd => ktr_room); (case ku => ktr_units); (intro t9 h9 tk9 F9 N9)); (try dsimp only))
  k_with "call ref" => (k_here; (with_reducible show wpAny _ _ (call (Value.ref 75) _ _) _ _ _); k_dflt (refine' Fn.useE (hex_code_ok _ _ _ ‹_› ‹_›) ?kB ?kF ?kX ?kN ?kT ?kK ?kd ?ku ?_; (case kB | kF | kX | kN | kT => k_asm); (case kK => first | exact rfl | assumption); (case kd => ktr_room); (case ku => ktr_units); (intro t9 h9 tk9 F9 N9)); (try dsimp only))
  k_with "binaryOp Add bytes bytes" => (k_here; (with_reducible show wpAny _ _ (binaryOp Operator.Add (Value.bytes _ _) (Value.bytes _ _)) _ _ _); k_dflt (refine add_B (by first | decide | exact room_hex (by decide) | exact room_hex2 (by decide)) ?_; intro tb9 kb9))
  obtain ⟨dX, dd, mm, ta, tb, tc, td, pr, wo, hX1, hX2⟩ := DataIn.head hD
  intro mean mg mb dp un gd cn cs a ccd cl outer A₀ base h₀ L m s Q E B F X N T hk hd hu hret
  replace N := news_two N hX1 hX2
  clear hX1 hX2
  refine wpAny_call ?_
  k_dflt cell_enter
  walk_at "STEPS"
  all_goals first
    | exact hret _ _ _ _ ⟨by rw [lab_n ‹_›]; exact ⟨_, rfl⟩, rfl⟩ ‹_› (by first | assumption | (refine newsWeak ‹_› ?_; intro p9 hp9; (repeat refine List.Mem.tail _ ?_); first | assumption | exact List.mem_append_left _ hp9))
    | exact hret _ _ _ _ ⟨by rw [lab_s ‹_› ‹_›]; exact ⟨_, rfl⟩, rfl⟩ ‹_› (by first | assumption | (refine newsWeak ‹_› ?_; intro p9 hp9; (repeat refine List.Mem.tail _ ?_); first | assumption | exact List.mem_append_left _ hp9))
    | exact hret _ _ _ _ ⟨by rw [lab_c ‹_› ‹_› ‹_›]; exact ⟨_, rfl⟩, rfl⟩ ‹_› (by first | assumption | (refine newsWeak ‹_› ?_; intro p9 hp9; (repeat refine List.Mem.tail _ ?_); first | assumption | exact List.mem_append_left _ hp9))
    | exact hret _ _ _ _ ⟨by rw [lab_p ‹_› ‹_› ‹_› ‹_›]; exact ⟨_, rfl⟩, rfl⟩ ‹_› (by first | assumption | (refine newsWeak ‹_› ?_; intro p9 hp9; (repeat refine List.Mem.tail _ ?_); first | assumption | exact List.mem_append_left _ hp9))
    | exact hret _ _ _ _ ⟨by rw [lab_r ‹_› ‹_› ‹_› ‹_›]; exact ⟨_, rfl⟩, rfl⟩ ‹_› (by first | assumption | (refine newsWeak ‹_› ?_; intro p9 hp9; (repeat refine List.Mem.tail _ ?_); first | assumption | exact List.mem_append_left _ hp9))
end
end Internal
namespace Internal
noncomputable def medial3 (l : List UInt8) (i : Nat) (c : UInt8) : Bool := c == 32 || c == 95 || (c == 45 && medialB l i)
noncomputable def keyStep (l : List UInt8) (p : List UInt8 × Int) (i : Nat) : List UInt8 × Int :=
  let c := l.getD i 0
  if medial3 l i c then (p.1, if c = 45 then (i : Int) else p.2) else (p.1 ++ [capC c], p.2)
noncomputable def keyFold (l : List UInt8) (n : Nat) : List UInt8 × Int := (List.range n).foldl (keyStep l) ([], -1)
noncomputable def JUNG : List UInt8 := [72, 65, 78, 71, 85, 76, 74, 85, 78, 71, 83, 69, 79, 78, 71, 79, 69]
noncomputable def JUNGA : List UInt8 := [72, 65, 78, 71, 85, 76, 74, 85, 78, 71, 83, 69, 79, 78, 71, 79, 45, 69]
noncomputable def keyB (l : List UInt8) : List UInt8 :=
  let r := keyFold l l.length
  if r.1 = JUNG ∧ 0 ≤ r.2 ∧ behindB l r.2.toNat = [69] then JUNGA else r.1
theorem key_succ (l : List UInt8) (n : Nat) : keyFold l (n + 1) = keyStep l (keyFold l n) n := by
  unfold keyFold; rw [List.range_succ, List.foldl_append]; rfl
theorem key_in {l : List UInt8} {i : Nat} {c : UInt8} {fo : List UInt8} {la v : Int} (hP : (fo, la) = keyFold l i) (hc : l[i]? = some c) (hm : medial3 l i c = true) (hv : v = if (c.toNat : Int) = 45 then (i : Int) else la) : (fo, v) = keyFold l (i + 1) := by
  have e : l.getD i 0 = c := by rw [List.getD_eq_getElem?_getD, hc]; rfl
  rw [key_succ, ← hP]
  unfold keyStep
  rw [e]
  (try dsimp only)
  rw [if_pos hm, hv]
  have q : ((c.toNat : Int) = 45) ↔ c = 45 := ⟨fun h => UInt8.toNat_inj.mp (Int.ofNat.inj h), fun h => by rw [h]; rfl⟩
  by_cases z : c = 45
  · rw [if_pos z, if_pos (q.mpr z)]
  · rw [if_neg z, if_neg (fun y => z (q.mp y))]
theorem key_out {l : List UInt8} {i : Nat} {c : UInt8} {fo : List UInt8} {la : Int} (hP : (fo, la) = keyFold l i) (hc : l[i]? = some c) (hm : medial3 l i c = false) : (fo ++ [capC c], la) = keyFold l (i + 1) := by
  have e : l.getD i 0 = c := by rw [List.getD_eq_getElem?_getD, hc]; rfl
  rw [key_succ, ← hP]
  unfold keyStep
  rw [e]
  (try dsimp only)
  rw [hm, if_neg (by decide)]
theorem any_iff {c : UInt8} : ([32, 95].any fun x => x == (c.toNat : Int)) = (c == 32 || c == 95) := by
  have h1 : ((32 : Int) == (c.toNat : Int)) = (c == 32) := by
    rw [Bool.eq_iff_iff, beq_iff_eq, beq_iff_eq]
    exact ⟨fun h => UInt8.toNat_inj.mp (Int.ofNat.inj h).symm, fun h => by rw [h]; rfl⟩
  have h2 : ((95 : Int) == (c.toNat : Int)) = (c == 95) := by
    rw [Bool.eq_iff_iff, beq_iff_eq, beq_iff_eq]
    exact ⟨fun h => UInt8.toNat_inj.mp (Int.ofNat.inj h).symm, fun h => by rw [h]; rfl⟩
  simp only [List.any_cons, List.any_nil, Bool.or_false, h1, h2]
theorem c45 {c : UInt8} : (c == 45) = decide ((c.toNat : Int) = 45) := by
  rw [Bool.eq_iff_iff, beq_iff_eq, decide_eq_true_eq]
  exact ⟨fun h => by rw [h]; rfl, fun h => UInt8.toNat_inj.mp (Int.ofNat.inj h)⟩
theorem m3_a {l : List UInt8} {i : Nat} {c : UInt8} (h : ([32, 95].any fun x => x == (c.toNat : Int)) = true) : medial3 l i c = true := by
  rw [any_iff] at h; unfold medial3; rw [h]; rfl
theorem m3_b {l : List UInt8} {i : Nat} {c : UInt8} (h : (c.toNat : Int) = 45) (g : medialB l i = true) : medial3 l i c = true := by
  unfold medial3; rw [c45, decide_eq_true h, g]; simp
theorem m3_c {l : List UInt8} {i : Nat} {c : UInt8} (h : ([32, 95].any fun x => x == (c.toNat : Int)) = false) (g : medialB l i = false) : medial3 l i c = false := by
  rw [any_iff] at h; unfold medial3; rw [h, g]; simp
theorem m3_d {l : List UInt8} {i : Nat} {c : UInt8} (h : ([32, 95].any fun x => x == (c.toNat : Int)) = false) (g : (c.toNat : Int) ≠ 45) : medial3 l i c = false := by
  rw [any_iff] at h; unfold medial3; rw [h, c45, decide_eq_false g]; rfl
theorem m3_not45 {c : UInt8} (h : ([32, 95].any fun x => x == (c.toNat : Int)) = true) (g : (c.toNat : Int) = 45) : False := by
  rw [any_iff, Bool.or_eq_true, beq_iff_eq, beq_iff_eq] at h
  rcases h with rfl | rfl
  · exact absurd g (by decide)
  · exact absurd g (by decide)
theorem cap_range (c : UInt8) : 0 ≤ capI (c.toNat : Int) ∧ capI (c.toNat : Int) < 256 := by
  rw [capC_int]
  exact ⟨Int.natCast_nonneg _, Int.ofNat_lt.mpr (capC c).toNat_lt⟩
theorem push_cap (fo : List UInt8) (c : UInt8) : fo.toArray.push (capI (c.toNat : Int)).toNat.toUInt8 = (fo ++ [capC c]).toArray := by
  rw [capC_int, byte_round]; simp
theorem keyFold_len (l : List UInt8) : ∀ n, (keyFold l n).1.length ≤ n
  | 0 => Nat.le_refl _
  | n + 1 => by
    rw [key_succ]
    have := keyFold_len l n
    unfold keyStep
    (try dsimp only)
    split
    · exact Nat.le_succ_of_le this
    · (try dsimp only); rw [List.length_append, List.length_singleton]; exact Nat.succ_le_succ this
theorem keyFold_last (l : List UInt8) : ∀ n, -1 ≤ (keyFold l n).2 ∧ (keyFold l n).2 < (n : Int)
  | 0 => ⟨Int.le_refl _, (by decide : (-1 : Int) < 0)⟩
  | n + 1 => by
    rw [key_succ]
    have := keyFold_last l n
    unfold keyStep
    (try dsimp only)
    split
    · (try dsimp only); split
      · exact ⟨Int.le_trans (by decide) (Int.natCast_nonneg n), Int.ofNat_lt.mpr (Nat.lt_succ_self n)⟩
      · exact ⟨this.1, Int.lt_trans this.2 (Int.ofNat_lt.mpr (Nat.lt_succ_self n))⟩
    · exact ⟨this.1, Int.lt_trans this.2 (Int.ofNat_lt.mpr (Nat.lt_succ_self n))⟩
theorem key_apart {l fo : List UInt8} {la : Int} (hP : (fo, la) = keyFold l l.length) (h1 : (fo.toArray.toList == (List.toArray JUNG).toList) = true) (h2 : 0 ≤ la) (h3 : ((behindB l la.toNat).toArray.toList == (List.toArray [69]).toList) = true) : keyB l = JUNGA := by
  unfold keyB
  rw [← hP]
  (try dsimp only)
  rw [if_pos ⟨by simpa using h1, h2, by simpa using h3⟩]
theorem key_same {l fo : List UInt8} {la : Int} (hP : (fo, la) = keyFold l l.length) (h : (fo.toArray.toList == (List.toArray JUNG).toList) = false ∨ ¬ 0 ≤ la ∨ ((behindB l la.toNat).toArray.toList == (List.toArray [69]).toList) = false) : keyB l = fo := by
  unfold keyB
  rw [← hP]
  (try dsimp only)
  rw [if_neg]
  rintro ⟨a, b, c⟩
  rcases h with h | h | h
  · rw [a] at h; simp at h
  · exact h b
  · rw [c] at h; simp at h
section
variable (l : List UInt8)
theorem key_ok (l : List UInt8) (news : List (Addr × Obj)) (t : Tok) (h0 : l.length ≤ 100) : FnG 8 185 [.bytes l.toArray t] news (Pure news (IsBytes (keyB l))) := by
  k_with_none
  k_with "FOLD" => ((fail_if_success (fail_if_success k_fold)); (try ((with_reducible rename Fr _ _ _ _ => Fz); (fail_if_success (with_reducible have : Fr _ _ _ mk := Fz)); (with_reducible refine let mk := _; have Fy : Fr _ _ _ mk := Fz; ?_); clear Fz)); (try ((with_reducible rename News _ _ _ _ => Nz); (fail_if_success (with_reducible have : News _ _ _ lk := Nz)); (with_reducible refine let lk := _; have Ny : News _ _ _ lk := Nz; ?_); clear Nz)); with_reducible refine let qk := _; let ek := _; (?_ : wpAny _ _ _ qk ek _))
  k_with "STEPS" => ((try walk_at "FOLD"); repeat' (first | (k_unfold; (try dsimp only)) | (k_end; wrow_close) | (walk1; all_goals (try ((fail_if_success (with_reducible show wpAny _ _ (subscriptTail _ _ _ _) _ _ _)); dsimp only)); all_goals (try ((with_reducible first | show wpAny _ _ (exec _ _) _ _ _ | show wpAny _ _ (execs _ _) _ _ _); (try ((with_reducible first | refine genTok ?_ | refine genTokS ?_); intro tkG)); (try walk_at "FOLD")))) | (dsimp only; walk1)))
  k_with "ROOM" => (first | exact U0 ‹_› | exact U1 ‹_› (by exact rfl) | exact U2 ‹_› (by exact rfl) | exact U3 ‹_› (by exact rfl) | ((simp +zetaDelta only [depth_under_make, depth_under_kw, depth_in1, depth_deeper, depth_caller]); (try dsimp only [ktrTop]); first | omega | decide +kernel))
  k_with "UNITS" => (first | exact U1 ‹_› (by exact rfl) | exact U2 ‹_› (by exact rfl) | exact U3 ‹_› (by exact rfl) | exact U4 ‹_› (by exact rfl) | exact U5 ‹_› (by exact rfl) | (have hcL9 := cLine_is; (simp +zetaDelta only [units_under_make, units_in1, units_deeper, Around.mark_units, units_caller]); (try dsimp only [ktrTop]); first | (rw [hcL9]; decide) | omega | decide +kernel))
  k_with "NE" => (first | with_reducible assumption | (refine neN (Nat.ne_of_lt ?_); walk_at "LTS") | (refine neN (Nat.ne_of_gt ?_); walk_at "LTS") | (refine neN ?_; (try dsimp only); omega))
  k_with "ENTER" => (refine' Internal.code_defN ?k1 ?k2 ?k3 ?k4 ?k5 ?kA ?kF ?kK ?k6 ?k7 ?k8 ?k9 ?kB ?_ ?c2 ?c3 ?c4 ?c5; (case kA | kF => exact rfl); (case kK => first | exact rfl | assumption); (case k1 | k2 | k3 | k4 | k5 => k_asm); (case k6 | k7 => k_is); (case k8 => ktr_room); (case k9 => exact BindsTo.of_eq (by kernel_rfl)); (case c5 => decide); (case kB => exact locs rfl); (case c2 | c3 | c4 => exact rfl); k_whole; intro g' L' h' tk' FG' F' N' B' X' T'; (try dsimp only); (try k_lift B'); (try walk_at "FOLD"); (refine let Ak : Around := _; (?_ : wpAny _ Ak _ _ _ _)))
  k_with "LTS" => (first | with_reducible assumption | exact ltM (by with_reducible assumption) (by k_mem) | exact And.left (by with_reducible assumption) | exact And.left (And.right (by with_reducible assumption)) | exact And.right (And.right (by with_reducible assumption)) | exact And.left (And.right (And.right (by with_reducible assumption))) | exact And.right (And.right (And.right (by with_reducible assumption))))
  k_with "ALL" => (first | with_reducible assumption | exact ne_of_allLt ‹_›)
  k_with "MEM" => (first | exact List.Mem.head _ | exact Mem1 | exact Mem2 | exact Mem3 | exact Mem4 | exact Mem5 | (refine TL6 ?_; walk_at "MEM"))
  k_with "eval Call" => (k_here; k_dflt (refine Call_ ?_))
  k_with "call ref" => (k_here; (with_reducible show wpAny _ _ (call (Value.ref 178) _ _) _ _ _); k_dflt (refine' Fn.use0 (medial_ok _ _ _ _ _ ‹_› ‹_›) ?kB ?kF ?kX ?kN ?kT ?kK ?kd ?ku ?_; (case kB | kF | kX | kN | kT => k_asm); (case kK => first | exact rfl | assumption); (case kd => ktr_room); (case ku => ktr_units); (intro h9 tk9 F9 N9)); (try dsimp only))
  k_with "call ref" => (k_here; (with_reducible show wpAny _ _ (call (Value.ref 171) _ _) _ _ _); k_dflt (refine' Fn.useE (name_capital_ok _ _ _) ?kB ?kF ?kX ?kN ?kT ?kK ?kd ?ku ?_; (case kB | kF | kX | kN | kT => k_asm); (case kK => first | exact rfl | assumption); (case kd => ktr_room); (case ku => ktr_units); (intro t9 h9 tk9 F9 N9)); (try dsimp only))
  k_with "getMethod ref" => (k_here; (with_reducible show wpAny _ _ (getMethod (Value.ref _) (PySem.Str.ofString "append") _) _ _ _); k_dflt (refine method_ba (by k_asm) (by first | k_mem | exact List.mem_append_right _ (.head _) | exact List.Mem.tail _ (List.mem_append_right _ (.head _))) ?_))
  k_with "call type:bytes" => (k_here; (with_reducible show wpAny _ _ (call (Value.type "bytes") [Value.ref _]) _ _ _); k_dflt (refine bytes_baK (by k_asm) (by k_mem) ‹_› ?_; intro tb9 kb9))
  k_with "call ref" => (k_here; (with_reducible show wpAny _ _ (call (Value.ref 190) _ _) _ _ _); k_dflt (refine' Fn.useE (behind_ok _ _ _ _ _ (by omega) ‹_›) ?kB ?kF ?kX ?kN ?kT ?kK ?kd ?ku ?_; (case kB | kF | kX | kN | kT => k_asm); (case kK => first | exact rfl | assumption); (case kd => ktr_room); (case ku => ktr_units); (intro t9 h9 tk9 F9 N9)); (try dsimp only))
  intro w mean mg mb dp un gd cn cs a ccd cl outer A₀ base h₀ L m s Q B F X N T hk hd hu hret
  refine wpG_call ?_
  k_dflt (refine' call_G ?k1 ?k2 ?k3 ?k4 ?k5 ?kA ?kF ?kK ?k6 ?k7 ?k8 ?k9 ?kB ?_ ?c2 ?c3 ?c4 ?c5; (case kA | kF => exact rfl); (case kK => assumption); (case k1 | k2 | k3 | k4 | k5 => k_asm); (case k6 | k7 => k_is); (case k8 => ktr_room); (case k9 => exact BindsTo.of_eq rfl); (case c5 => decide); (case kB => exact locs rfl); (case c2 | c3 | c4 => exact rfl); k_whole; intro g' L' h' FG' F' N' B' X' T'; (try dsimp only); (try k_lift B'))
  with_reducible refine let Ag := _; let qg := _; (?_ : wpG _ Ag _ qg _)
  refine execs_consG (assign_G (callF0_G (K := Internal.hd0.heap_1 w.params) ?_ rfl) rfl rfl)
  walk_at "STEPS"
  (with_reducible rename Fr _ _ _ _ => F1); (with_reducible rename News _ _ _ _ => N1)
  refine new_baK F1 N1 ?_
  intro f h1 F2 N2 lf2
  walk_at "STEPS"
  (try dsimp only)
  refine execs_consG (wpG_of ?_)
  walk_at "STEPS"
  (try dsimp only)
  refine execs_consG (for_G ?_ (fun _ => rfl))
  walk_at "STEPS"
  (with_reducible rename Fr _ _ _ _ => F3); (with_reducible rename News _ _ _ _ => N3)
  refine call_enumB ?_
  intro h3 he3 hit3 hk3
  refine wpAny_pyIter_enum he3 ?_
  refine enumS_G (σ := (List UInt8 × Int) × Tok) (Str.ofString "last") (([], -1), _) (fun a => .int a.1.2 a.2) (fun a => (f, baObj a.1.1.toArray) :: news) (fun i a => a.1 = keyFold l i) rfl rfl rfl rfl F3 N3 he3 hit3 hk3 (by exact rfl) rfl (fun _ => rfl) ?_ ?_
  · rintro i c ti tc ⟨⟨fo, la⟩, tl⟩ h4 tk4 own hc hP hown F4 N4
    (try dsimp only at hP F4 N4)
    have hil : i < l.length := (List.getElem?_eq_some_iff.mp hc).1
    have hfl : fo.length ≤ 1000 := by
      have h9 := keyFold_len l i
      rw [← hP] at h9
      (try dsimp only at h9)
      omega
    have hfs := Heap.lt_size (N3 _ (List.Mem.head _)).1
    have hof : ∀ p ∈ own, p.1 ≠ f := fun p hp e => by
      have h9 := hown p hp
      rw [e] at h9
      exact absurd hfs (Nat.not_lt.mpr h9)
    clear F3 N3 he3 hit3 hk3 hfs hown
    refine execs_consG (if_G (wpG_of ?_))
    walk_at "STEPS"
    all_goals first
      | ((with_reducible show wpG _ _ (execs [Stmt.Assign _ _ _] _) _ _)
         refine execs_consG (wpG_of ?_)
         walk_at "STEPS"
         all_goals (try dsimp only)
         all_goals refine execs_nilG ?_
         all_goals (try dsimp only)
         all_goals refine execs_nilG ?_)
      | ((with_reducible show wpG _ _ (execs [Stmt.Expr _ _] _) _ _)
         refine execs_consG (expr_G ?_)
         refine callMeth_G (K := Internal.hd0.heap_1 w.params) ?_ (by exact rfl) (by exact rfl) (by exact rfl)
         walk_at "STEPS")
    all_goals first
      | ((with_reducible show wpG _ _ (call _ _) _ _)
         refine append_baK (own := own) (by k_asm) (by first | assumption | exact news_tl ‹_›) hof (fun p hp => Nat.ne_of_lt (lf2 p hp)) (cap_range c).1 (cap_range c).2 (by simpa using hfl) ?_
         intro h5 F5 N5
         rw [push_cap] at N5
         (try dsimp only)
         refine execs_nilG ?_
         (try dsimp only)
         refine execs_nilG ?_
         refine GEnd.mk (a' := ((fo ++ [capC c], la), tl)) F5 N5 (by exact rfl) (fun z h1 h2 h3 => by simp +zetaDelta only [if_neg h1, if_neg h2, if_neg h3]) (key_out hP hc ?_)
         first | exact m3_c ‹_› ‹_› | exact m3_d ‹_› ‹_›)
      | exact GEnd.mk (a' := ((fo, _), _)) ‹_› (by first | assumption | exact news_tl ‹_› | exact news_tl (news_tl ‹_›)) (by exact rfl) (fun z h1 h2 h3 => by simp +zetaDelta only [if_neg h1, if_neg h2, if_neg h3]) (key_in hP hc (m3_a ‹_›) (by first | (rw [if_pos ‹_›]; done) | (rw [if_neg ‹_›]; done) | exact absurd ‹(c.toNat : Int) = 45› ‹(c.toNat : Int) ≠ 45›))
      | exact GEnd.mk (a' := ((fo, _), _)) ‹_› (by first | assumption | exact news_tl ‹_› | exact news_tl (news_tl ‹_›)) (by exact rfl) (fun z h1 h2 h3 => by simp +zetaDelta only [if_neg h1, if_neg h2, if_neg h3]) (key_in hP hc (m3_b ‹_› ‹_›) (by first | (rw [if_pos ‹_›]; done) | (rw [if_neg ‹_›]; done) | exact absurd ‹(c.toNat : Int) = 45› ‹(c.toNat : Int) ≠ 45›))
  · rintro ⟨⟨fo, la⟩, tl⟩ u1 u2 h4 tk4 hP F4 N4
    clear F3 N3 he3 hit3 hk3
    have hfz : fo.toArray.size ≤ 1000 := by
      have h9 := keyFold_len l l.length
      rw [← hP] at h9
      (try dsimp only at h9)
      simp; omega
    have hla : -1 ≤ la ∧ la < (l.length : Int) := by
      have h9 := keyFold_last l l.length
      rw [← hP] at h9
      exact h9
    obtain ⟨hl1, hl2⟩ := hla
    (try dsimp only at N4 F4 ⊢)
    refine wpG_of ?_
    walk_at "STEPS"
    all_goals first
      | exact hret _ _ _ _ ⟨⟨_, congrArg (fun x => Value.bytes (List.toArray x) _) (key_apart hP ‹_› ‹_› ‹_›).symm⟩, rfl⟩ ‹_› (news_tl ‹_›)
      | exact hret _ _ _ _ ⟨⟨_, congrArg (fun x => Value.bytes (List.toArray x) _) (key_same hP (.inl ‹_›)).symm⟩, rfl⟩ ‹_› (news_tl ‹_›)
      | exact hret _ _ _ _ ⟨⟨_, congrArg (fun x => Value.bytes (List.toArray x) _) (key_same hP (.inr (.inl ‹_›))).symm⟩, rfl⟩ ‹_› (news_tl ‹_›)
      | exact hret _ _ _ _ ⟨⟨_, congrArg (fun x => Value.bytes (List.toArray x) _) (key_same hP (.inr (.inr ‹_›))).symm⟩, rfl⟩ ‹_› (news_tl ‹_›)
end
theorem key_is {l k : List UInt8} (e : keyB l = k) (news : List (Addr × Obj)) (t : Tok) (h0 : l.length ≤ 100) : FnG 8 185 [.bytes l.toArray t] news (Pure news (IsBytes k)) := e ▸ key_ok l news t h0
end Internal
namespace Internal
noncomputable def FnX (D : Nat) (f : Addr) (vs : List Value) (news : List (Addr × Obj)) (R : Value → List (Addr × Obj) → Prop) (RE : Prop) : Prop :=
  ∀ (w : World) (mean : ExcName → Option Value) (mg mb : Str → Option Value) (dp un : Nat) (gd : Option (List Code)) (cn : Str) (cs : Scope) (a : Addr) (ccd : Value) (cl : List (Str × Addr)) (outer : List Env) (A₀ : Around) (base h₀ : Heap) (L : Addr) (m : Str → Option Value) (s : Shared) (Q E : Value → Shared → Prop),
    Below A₀ base outer h₀ → Fr h₀ L s.heap m → (hd0.heap_1 w.params).In h₀ → News h₀ L s.heap news → Top hd0.view_1 LS mean mg mb h₀ → cs.kind = .function → dp + D < recursionLimit → un + 8 * D < cLine →
    (∀ r news' h' tk', R r news' → Fr h₀ L h' m → News h₀ L h' news' → Q r { s with heap := h', toks := tk' }) →
    (RE → ∀ e t ws g h' tk', RaisedS base g (envX cn cs L a ccd cl :: outer) e (.ref 52) t ws news h' → Fr h₀ L g m → g.UpToSlots h' → E (.ref e) { s with heap := h', toks := tk' }) →
    wpAny (model PG w) (ktrTop dp un gd cn cs L a ccd cl outer) (call (.ref f) vs) Q E s
theorem FnX.use {D : Nat} {f : Addr} {vs : List Value} {news : List (Addr × Obj)} {R : Value → List (Addr × Obj) → Prop} {RE : Prop} (c : FnX D f vs news R RE)
    {w : World} {mean : ExcName → Option Value} {mg mb : Str → Option Value} {dp un : Nat} {gd : Option (List Code)} {cn : Str} {cs : Scope} {a : Addr} {ccd : Value} {cl : List (Str × Addr)} {outer : List Env} {A₀ : Around} {base h₀ : Heap} {L : Addr} {m : Str → Option Value} {s : Shared} {Q E : Value → Shared → Prop}
    (B : Below A₀ base outer h₀) (F : Fr h₀ L s.heap m) (X : (hd0.heap_1 w.params).In h₀) (N : News h₀ L s.heap news) (T : Top hd0.view_1 LS mean mg mb h₀) (hk : cs.kind = .function) (hd : dp + D < recursionLimit) (hu : un + 8 * D < cLine)
    (ret : ∀ r news' h' tk', R r news' → Fr h₀ L h' m → News h₀ L h' news' → Q r { s with heap := h', toks := tk' })
    (exc : RE → ∀ e t ws g h' tk', RaisedS base g (envX cn cs L a ccd cl :: outer) e (.ref 52) t ws news h' → Fr h₀ L g m → g.UpToSlots h' → E (.ref e) { s with heap := h', toks := tk' }) :
    wpAny (model PG w) (ktrTop dp un gd cn cs L a ccd cl outer) (call (.ref f) vs) Q E s := c _ _ _ _ _ _ _ _ _ _ _ _ _ _ _ _ _ _ _ _ _ B F X N T hk hd hu ret exc
theorem lt_two {t x : Addr} {o : Obj} {news : List (Addr × Obj)} (l1 : ∀ p ∈ news, @LT.lt Nat _ p.1 t) (l2 : @LT.lt Nat _ t x) : ∀ p ∈ (t, o) :: news, @LT.lt Nat _ p.1 x := fun p hp => by
  rcases List.mem_cons.mp hp with rfl | hp
  · exact l2
  · exact Nat.lt_trans (l1 p hp) l2
theorem ne_two {t x : Addr} {news : List (Addr × Obj)} (l1 : ∀ p ∈ news, @LT.lt Nat _ p.1 t) (l2 : @LT.lt Nat _ t x) : ∀ p ∈ news, p.1 ≠ x ∧ p.1 ≠ t := fun p hp => ⟨Nat.ne_of_lt (Nat.lt_trans (l1 p hp) l2), Nat.ne_of_lt (l1 p hp)⟩
theorem hex_dig {c : UInt8} (h : HEX.contains c = true) : ∃ d, digitI (c.toNat : Int) = some d ∧ hexI (c.toNat : Int) = some d := by
  have h : c ∈ HEX := by simpa using h
  unfold HEX at h
  simp only [List.mem_cons, List.not_mem_nil, or_false] at h
  rcases h with rfl | rfl | rfl | rfl | rfl | rfl | rfl | rfl | rfl | rfl | rfl | rfl | rfl | rfl | rfl | rfl <;> exact ⟨_, rfl, rfl⟩
theorem hex_value_dig {l : List UInt8} {i : Nat} {c : UInt8} (news : List (Addr × Obj)) (t : Tok) (hH : ∀ c ∈ l, HEX.contains c = true) (hc : l[i]? = some c) : Fn 1 82 [.int (c.toNat : Int) t] news (Pure news (fun r => ∃ d, digitI (c.toNat : Int) = some d ∧ IsInt d r)) :=
  Fn.mono (hex_value_ok news _ t) fun r nw h => by
    obtain ⟨d, h1, h2⟩ := hex_dig (hH c (List.mem_of_getElem? hc))
    refine ⟨⟨d, h1, ?_⟩, h.2⟩
    have := h.1
    rw [h2] at this
    exact this
theorem dig_more' {l : List UInt8} {i : Nat} {c : UInt8} {a v : Int} (hP : DigP l i a) (hi : l[i]? = some c) (h : digitI (c.toNat : Int) = some v) : DigP l (i + 1) (16 * a + v) := by
  rw [Int.mul_comm]; exact dig_more hP hi h
theorem dig_end {l : List UInt8} {a : Int} (hP : DigP l l.length a) : digL l 0 = some a := by rw [← hP, List.drop_length, digL]
section
variable (l : List UInt8)
theorem code_hex_ok (news : List (Addr × Obj)) (t : Tok) (hl1 : 4 ≤ l.length) (hl2 : l.length ≤ 6) (hH : ∀ c ∈ l, HEX.contains c = true) : FnX 12 89 [.bytes l.toArray t] news (fun r nw => (∃ v, digL l 0 = some v ∧ v ≤ 1114111 ∧ IsInt v r) ∧ nw = news) (∃ v, digL l 0 = some v ∧ ¬ v ≤ 1114111) := by
  k_with_none
  k_with "FOLD" => ((fail_if_success (fail_if_success k_fold)); (try ((with_reducible rename Fr _ _ _ _ => Fz); (fail_if_success (with_reducible have : Fr _ _ _ mk := Fz)); (with_reducible refine let mk := _; have Fy : Fr _ _ _ mk := Fz; ?_); clear Fz)); (try ((with_reducible rename News _ _ _ _ => Nz); (fail_if_success (with_reducible have : News _ _ _ lk := Nz)); (with_reducible refine let lk := _; have Ny : News _ _ _ lk := Nz; ?_); clear Nz)); with_reducible refine let qk := _; let ek := _; (?_ : wpAny _ _ _ qk ek _))
  k_with "STEPS" => ((try walk_at "FOLD"); repeat' (first | (k_unfold; (try dsimp only)) | (k_end; wrow_close) | (walk1; all_goals (try ((fail_if_success (with_reducible show wpAny _ _ (subscriptTail _ _ _ _) _ _ _)); dsimp only)); all_goals (try ((with_reducible first | show wpAny _ _ (exec _ _) _ _ _ | show wpAny _ _ (execs _ _) _ _ _); (try ((with_reducible first | refine genTok ?_ | refine genTokS ?_); intro tkG)); (try walk_at "FOLD")))) | (dsimp only; walk1)))
  k_with "ROOM" => (first | exact U0 ‹_› | exact U1 ‹_› (by exact rfl) | exact U2 ‹_› (by exact rfl) | exact U3 ‹_› (by exact rfl) | ((simp +zetaDelta only [depth_under_make, depth_under_kw, depth_in1, depth_deeper, depth_caller]); (try dsimp only [ktrTop]); first | omega | decide +kernel))
  k_with "UNITS" => (first | exact U1 ‹_› (by exact rfl) | exact U2 ‹_› (by exact rfl) | exact U3 ‹_› (by exact rfl) | exact U4 ‹_› (by exact rfl) | exact U5 ‹_› (by exact rfl) | (have hcL9 := cLine_is; (simp +zetaDelta only [units_under_make, units_in1, units_deeper, Around.mark_units, units_caller]); (try dsimp only [ktrTop]); first | (rw [hcL9]; decide) | omega | decide +kernel))
  k_with "NE" => (first | with_reducible assumption | (refine neN (Nat.ne_of_lt ?_); walk_at "LTS") | (refine neN (Nat.ne_of_gt ?_); walk_at "LTS") | (refine neN ?_; (try dsimp only); omega))
  k_with "ENTER" => (refine' Internal.code_defN ?k1 ?k2 ?k3 ?k4 ?k5 ?kA ?kF ?kK ?k6 ?k7 ?k8 ?k9 ?kB ?_ ?c2 ?c3 ?c4 ?c5; (case kA | kF => exact rfl); (case kK => first | exact rfl | assumption); (case k1 | k2 | k3 | k4 | k5 => k_asm); (case k6 | k7 => k_is); (case k8 => ktr_room); (case k9 => exact BindsTo.of_eq (by kernel_rfl)); (case c5 => decide); (case kB => exact locs rfl); (case c2 | c3 | c4 => exact rfl); k_whole; intro g' L' h' tk' FG' F' N' B' X' T'; (try dsimp only); (try k_lift B'); (try walk_at "FOLD"); (refine let Ak : Around := _; (?_ : wpAny _ Ak _ _ _ _)))
  k_with "LTS" => (first | with_reducible assumption | exact ltM (by with_reducible assumption) (by k_mem) | exact And.left (by with_reducible assumption) | exact And.left (And.right (by with_reducible assumption)) | exact And.right (And.right (by with_reducible assumption)) | exact And.left (And.right (And.right (by with_reducible assumption))) | exact And.right (And.right (And.right (by with_reducible assumption))))
  k_with "ALL" => (first | with_reducible assumption | exact ne_of_allLt ‹_›)
  k_with "MEM" => (first | exact List.Mem.head _ | exact Mem1 | exact Mem2 | exact Mem3 | exact Mem4 | exact Mem5 | (refine TL6 ?_; walk_at "MEM"))
  k_with "call ref" => (k_here; (with_reducible show wpAny _ _ (call (Value.ref _) _ _) _ _ _); k_dflt (refine wpAny_call ?_; (refine' code_def ?k1 ?k2 ?k3 ?k4 ?k5 ?kA ?kF ?kK ?k6 ?k7 ?k8 ?k9 ?kB ?_ ?c2 ?c3 ?c4 ?c5; (case kA | kF => exact rfl); (case kK => first | exact rfl | assumption); (case k1 | k2 | k3 | k4 | k5 => k_asm); (case k6 | k7 => k_is); (case k8 => ktr_room); (case k9 => first | exact BindsTo.of_eq rfl | exact binds_K (by k_in) rfl (by k_is) rfl rfl rfl); (case c5 => decide); (case kB => exact locs rfl); (case c2 | c3 | c4 => exact rfl); k_whole; intro g' L' h' FG' F' N' B' X' T'; (try dsimp only); (try k_lift B'); (try k_fold); (refine let Ak : Around := _; (?_ : wpAny _ Ak _ _ _ _)))))
  k_with "eval Call" => (k_here; k_dflt (refine Call_ ?_))
  k_with "call builtin:len" => (k_here; (with_reducible show wpAny _ _ (call (Value.builtin "len") [Value.bytes _ _]) _ _ _); k_dflt (refine len_B (by first | assumption | decide | exact kle0 ‹_› (by decide) | omega | ((try simp only [List.length_append, List.length_cons, List.length_nil, List.length_take, List.length_drop]); omega)) ?_; intro tl9 kl9))
  k_with "exec For Name Name cons nil" => (k_here; (rename Fr _ _ _ _ => lF'); (with_unfolding_all refine' For_invVF lF' ?k1 ?k2 ?_; (case k1 | k2 => exact rfl); k_whole))
  k_with "pyIter bytes" => (k_here; k_dflt (refine loop_BF (σ := Int × Tok) (Str.ofString "number") (Str.ofString "digit") (0,_) (fun c => .int c.1 c.2) (fun i c => DigP l i c.1) (by exact rfl) (by k_asm) (by k_asm) (by exact rfl) (rfl) ?_ ?_); (k_dflt (intro i9 c9 t9 a9 v9 h9 tk9 own9 e9 of9 p9 F9 N9; (try dsimp only at p9 F9))); (try dsimp only); rotate_left; (k_dflt (intro a9 u9 v9 h9 tk9 p9 F9 N9; (try dsimp only at p9 F9))); (try dsimp only); rotate_left)
  k_with "call ref" => (k_here; (with_reducible show wpAny _ _ (call (Value.ref 82) _ _) _ _ _); k_dflt (refine' Fn.use (hex_value_dig _ _ ‹_› ‹_›) ?kB ?kF ?kX ?kN ?kT ?kK ?kd ?ku ?_; (case kB | kF | kX | kN | kT => k_asm); (case kK => first | exact rfl | assumption); (case kd => ktr_room); (case ku => ktr_units); (rintro r9 nw9 h9 tk9 R9 F9 N9); (refine byG ?_; intro G9 hG9); (rcases R9 with ⟨⟨d9, hd9, t9, e9⟩, z9⟩); (subst z9; subst e9; refine hG9 ?_; clear hG9 G9)); (try dsimp only))
  k_with "exec Raise some none" => (k_here; (with_reducible show wpAny _ _ (exec (Stmt.Raise (some (PySem.Expr.Call (PySem.Expr.Name _ _) _ [] _)) none _) _) _ _ _); k_dflt (refine raise_bc (by first | rfl | assumption) ?_))
  k_with "call ref" => (k_here; (with_reducible show wpAny _ _ (call (Value.ref 52) [_] _) _ _ _); k_dflt (refine' bc_callK ?k1 ?k2 ?k3 (bc_look _) (bc_init _) (bc_fn _) ?_; (case k1 | k2 | k3 => k_asm); k_whole; intro x' t' h' F' N' l1 l2; (try k_lt l1); (try k_lt2 l2)))
  k_with "setAttr ref" => (k_here; (with_reducible show wpAny _ _ (setAttr (Value.ref _) _ _) _ _ _); (k_dflt (refine' bc_set ?k1 ?k2 ?k3 ?k4 (bc_look _) (bc_seta _) (bc_taker _) ?_; (case k1 | k2 | k3 => k_asm); (case k4 => exact fun p hp => Nat.ne_of_lt (lt_two (by first | assumption | exact of_allLt ‹_›) ‹_› p hp)); intro h' d' tk' F' N')))
  intro w mean mg mb dp un gd cn cs a ccd cl outer A₀ base h₀ L m s Q E B F X N T hk hd hu hret hexc
  refine wpAny_call ?_
  k_dflt cell_enter
  walk_at "STEPS"
  all_goals try ((try dsimp only); rw [FEndF_ret]; (try dsimp only); walk_at "STEPS")
  all_goals first
    | exact FEndF.mk (c' := (_, _)) ‹_› ‹_› (by exact rfl) (fun z hz hz' hz2 => by simp +zetaDelta only [if_neg hz, if_neg hz', if_neg hz2]) (dig_more' ‹_› ‹_› ‹_›)
    | exact (Frag.In.keeps ‹_› (Fr.keep ‹_›)) _ _ (bc_look _)
    | exact News.get ‹_› (.head _)
    | (refine' leave_bc ?lK ?lF ?lN ?lne ?lQ
       case lK => assumption
       case lF => assumption
       case lN => assumption
       case lne => exact ne_two (by first | assumption | exact of_allLt ‹_›) ‹_›
       case lQ => exact (fun h' R U => hexc ⟨_, dig_end ‹_›, by omega⟩ _ _ _ _ _ _ R ‹_› U))
    | exact hret _ _ _ _ ⟨⟨_, dig_end ‹_›, by omega, _, rfl⟩, rfl⟩ ‹_› ‹_›
end
end Internal
namespace Internal
theorem bools_of {l : List UInt8} {ys : List Value} (h : Paired (fun c v => v = Value.bool (HEX.contains c)) l ys) : LSm.BoolsAre ys (l.map fun c => HEX.contains c) := by
  induction h with
  | nil => exact .nil
  | cons e r ih => subst e; exact .cons _ ih
theorem all_hexB {l : List UInt8} (h : (l.map fun c => HEX.contains c).all id = true) : ∀ c ∈ l, HEX.contains c = true := by
  intro c hc
  rw [List.all_eq_true] at h
  exact h _ (List.mem_map.mpr ⟨c, hc, rfl⟩)
noncomputable def overB (l : List UInt8) : Bool :=
  decide (4 ≤ l.length ∧ l.length ≤ 6) && (l.map fun c => HEX.contains c).all id && !(decide (4 < l.length) && l.getD 0 0 == 48) && (match digL l 0 with | some v => decide (1114111 < v) | none => false)
theorem byte48 {c : UInt8} : (c == 48) = decide ((c.toNat : Int) = 48) := by
  rw [Bool.eq_iff_iff, beq_iff_eq, decide_eq_true_eq]
  exact ⟨fun h => by rw [h]; rfl, fun h => UInt8.toNat_inj.mp (Int.ofNat.inj h)⟩
theorem over_yes {l : List UInt8} {v : Int} (h1 : 4 ≤ (l.length : Int)) (h2 : (l.length : Int) ≤ 6) (h3 : (l.map fun c => HEX.contains c).all id = true) (h4 : ¬ 4 < (l.length : Int) ∨ ((l.getD (Int.toNat 0) 0).toNat : Int) ≠ 48) (h5 : digL l 0 = some v) (h6 : ¬ v ≤ 1114111) : overB l = true := by
  unfold overB
  rw [h3, h5, decide_eq_true (show 4 ≤ l.length ∧ l.length ≤ 6 from ⟨Int.ofNat_le.mp h1, Int.ofNat_le.mp h2⟩), byte48]
  have h7 : decide (1114111 < v) = true := decide_eq_true (Int.not_le.mp h6)
  rcases h4 with h4 | h4
  · rw [decide_eq_false (fun y => h4 (Int.ofNat_lt.mpr y) : ¬ 4 < l.length)]
    exact h7
  · rw [decide_eq_false (show ¬ ((l.getD 0 0).toNat : Int) = 48 from h4), Bool.and_false]
    exact h7
theorem take_one {l : List UInt8} (h : 0 < l.length) : (l.take 1 = [48]) ↔ ((l.getD (Int.toNat 0) 0).toNat : Int) = 48 := by
  cases l with
  | nil => simp at h
  | cons c r =>
    simp only [List.take_succ_cons, List.take_zero]
    constructor
    · intro q; cases q; rfl
    · intro q
      have : c = 48 := UInt8.toNat_inj.mp (Int.ofNat.inj q)
      rw [this]
theorem nf_head {l : List UInt8} (h : 4 < (l.length : Int)) (e : ((l.getD (Int.toNat 0) 0).toNat : Int) = 48) : numF l = none := num_head h ((take_one (Nat.lt_trans (by decide) (Int.ofNat_lt.mp h))).mpr e)
theorem nf_some {l : List UInt8} {v : Int} (h1 : 4 ≤ (l.length : Int)) (h2 : (l.length : Int) ≤ 6) (h3 : ¬ 4 < (l.length : Int) ∨ ((l.getD (Int.toNat 0) 0).toNat : Int) ≠ 48) (h4 : digL l 0 = some v) (h5 : v ≤ 1114111) : numF l = some v := by
  rw [numF, if_pos ⟨Int.ofNat_le.mp h1, Int.ofNat_le.mp h2, fun ⟨q, z⟩ => h3.elim (fun y => y (Int.ofNat_lt.mpr q)) (fun y => y ((take_one (Nat.lt_trans (by decide) q)).mp z))⟩, h4]
  exact if_pos h5
theorem dig_nonhex : ∀ {l : List UInt8} {a : Int}, (l.map fun c => HEX.contains c).all id = false → digL l a = none
  | [], a, h => by simp at h
  | c :: r, a, h => by
    rw [digL]
    by_cases q : HEX.contains c = true
    · have h' : (r.map fun c => HEX.contains c).all id = false := by
        rw [List.map_cons, List.all_cons] at h
        have q' : id (HEX.contains c) = true := q
        rw [q', Bool.true_and] at h
        exact h
      cases digitI (c.toNat : Int) with
      | none => rfl
      | some v => exact dig_nonhex h'
    · have e : digitI (c.toNat : Int) = none := u8 (P := fun c => HEX.contains c = false → digitI (c.toNat : Int) = none) (by decide +kernel) c (eq_false_of_ne_true q)
      rw [e]
theorem nf_nonhex {l : List UInt8} (h : (l.map fun c => HEX.contains c).all id = false) : numF l = none := by
  rw [numF, dig_nonhex h]
  split <;> rfl
theorem nf_over {l : List UInt8} (h : overB l = true) : numF l = none ∧ 4 ≤ (l.length : Int) ∧ (l.length : Int) ≤ 6 ∧ (l.map fun c => HEX.contains c).all id = true ∧ (4 < (l.length : Int) → ((l.getD (Int.toNat 0) 0).toNat : Int) ≠ 48) ∧ ∃ v, digL l 0 = some v ∧ ¬ v ≤ 1114111 := by
  unfold overB at h
  rw [Bool.and_eq_true, Bool.and_eq_true, Bool.and_eq_true] at h
  obtain ⟨⟨⟨h1, h2⟩, h3⟩, h4⟩ := h
  have h1 := of_decide_eq_true h1
  cases e : digL l 0 with
  | none => rw [e] at h4; cases h4
  | some v =>
    rw [e] at h4
    have h4 : 1114111 < v := of_decide_eq_true h4
    refine ⟨?_, Int.ofNat_le.mpr h1.1, Int.ofNat_le.mpr h1.2, h2, fun q z => ?_, v, rfl, Int.not_le.mpr h4⟩
    · rw [numF, e]
      split
      · exact if_neg (Int.not_le.mpr h4)
      · rfl
    · rw [byte48, decide_eq_true (show 4 < l.length from Int.ofNat_lt.mp q)] at h3
      have : decide (((l.getD 0 0).toNat : Int) = 48) = true := decide_eq_true z
      rw [this] at h3
      cases h3
section
variable (l : List UInt8)
theorem num_ok (news : List (Addr × Obj)) (t : Tok) (h0 : l.length ≤ 100) (hov : overB l = false) : Fn 16 202 [.bytes l.toArray t] news (Pure news (optInt (numF l))) := by
  k_with_none
  k_with "FOLD" => ((fail_if_success (fail_if_success k_fold)); (try ((with_reducible rename Fr _ _ _ _ => Fz); (fail_if_success (with_reducible have : Fr _ _ _ mk := Fz)); (with_reducible refine let mk := _; have Fy : Fr _ _ _ mk := Fz; ?_); clear Fz)); (try ((with_reducible rename News _ _ _ _ => Nz); (fail_if_success (with_reducible have : News _ _ _ lk := Nz)); (with_reducible refine let lk := _; have Ny : News _ _ _ lk := Nz; ?_); clear Nz)); with_reducible refine let qk := _; let ek := _; (?_ : wpAny _ _ _ qk ek _))
  k_with "STEPS" => ((try walk_at "FOLD"); repeat' (first | (k_unfold; (try dsimp only)) | (k_end; wrow_close) | (walk1; all_goals (try ((fail_if_success (with_reducible show wpAny _ _ (subscriptTail _ _ _ _) _ _ _)); dsimp only)); all_goals (try ((with_reducible first | show wpAny _ _ (exec _ _) _ _ _ | show wpAny _ _ (execs _ _) _ _ _); (try ((with_reducible first | refine genTok ?_ | refine genTokS ?_); intro tkG)); (try walk_at "FOLD")))) | (dsimp only; walk1)))
  k_with "ROOM" => (first | exact U0 ‹_› | exact U1 ‹_› (by exact rfl) | exact U2 ‹_› (by exact rfl) | exact U3 ‹_› (by exact rfl) | ((simp +zetaDelta only [depth_under_make, depth_under_kw, depth_in1, depth_deeper, depth_caller]); (try dsimp only [ktrTop]); first | omega | decide +kernel))
  k_with "UNITS" => (first | exact U1 ‹_› (by exact rfl) | exact U2 ‹_› (by exact rfl) | exact U3 ‹_› (by exact rfl) | exact U4 ‹_› (by exact rfl) | exact U5 ‹_› (by exact rfl) | (have hcL9 := cLine_is; (simp +zetaDelta only [units_under_make, units_in1, units_deeper, Around.mark_units, units_caller]); (try dsimp only [ktrTop]); first | (rw [hcL9]; decide) | omega | decide +kernel))
  k_with "NE" => (first | with_reducible assumption | (refine neN (Nat.ne_of_lt ?_); walk_at "LTS") | (refine neN (Nat.ne_of_gt ?_); walk_at "LTS") | (refine neN ?_; (try dsimp only); omega))
  k_with "ENTER" => (refine' Internal.code_defN ?k1 ?k2 ?k3 ?k4 ?k5 ?kA ?kF ?kK ?k6 ?k7 ?k8 ?k9 ?kB ?_ ?c2 ?c3 ?c4 ?c5; (case kA | kF => exact rfl); (case kK => first | exact rfl | assumption); (case k1 | k2 | k3 | k4 | k5 => k_asm); (case k6 | k7 => k_is); (case k8 => ktr_room); (case k9 => exact BindsTo.of_eq (by kernel_rfl)); (case c5 => decide); (case kB => exact locs rfl); (case c2 | c3 | c4 => exact rfl); k_whole; intro g' L' h' tk' FG' F' N' B' X' T'; (try dsimp only); (try k_lift B'); (try walk_at "FOLD"); (refine let Ak : Around := _; (?_ : wpAny _ Ak _ _ _ _)))
  k_with "LTS" => (first | with_reducible assumption | exact ltM (by with_reducible assumption) (by k_mem) | exact And.left (by with_reducible assumption) | exact And.left (And.right (by with_reducible assumption)) | exact And.right (And.right (by with_reducible assumption)) | exact And.left (And.right (And.right (by with_reducible assumption))) | exact And.right (And.right (And.right (by with_reducible assumption))))
  k_with "ALL" => (first | with_reducible assumption | exact ne_of_allLt ‹_›)
  k_with "MEM" => (first | exact List.Mem.head _ | exact Mem1 | exact Mem2 | exact Mem3 | exact Mem4 | exact Mem5 | (refine TL6 ?_; walk_at "MEM"))
  k_with "eval Call" => (k_here; k_dflt (refine Call_ ?_))
  k_with "subscriptTail" => (k_here; (with_reducible show wpAny _ _ (subscriptTail _ _ (Value.bytes _ _) (Value.int _ _)) _ _ _); k_dflt (refine item_B (by first | omega | (simp only [List.length_append, List.length_cons, List.length_nil] at *; omega)) (by first | omega | (simp only [List.length_append, List.length_cons, List.length_nil] at *; omega)) (by first | assumption | decide | exact kle0 ‹_› (by decide) | omega | ((try simp only [List.length_append, List.length_cons, List.length_nil, List.length_take, List.length_drop]); omega)) ?_; intro ti9 ki9))
  k_with "call builtin:len" => (k_here; (with_reducible show wpAny _ _ (call (Value.builtin "len") [Value.bytes _ _]) _ _ _); k_dflt (refine len_B (by first | assumption | decide | exact kle0 ‹_› (by decide) | omega | ((try simp only [List.length_append, List.length_cons, List.length_nil, List.length_take, List.length_drop]); omega)) ?_; intro tl9 kl9))
  k_with "compareOp In int bytes" => (k_here; k_dflt (refine in_B ?_))
  k_with "eval ListComp" => (k_here; (with_reducible show wpAny _ _ (eval (PySem.Expr.ListComp _ [⟨_, _, [], _⟩] _ _) _) _ _ _); k_dflt (refine Internal.comp0 (by k_asm) (by with_unfolding_all rfl) (by decide) (by rfl) (by decide) (by rfl) ?_))
  k_with "call builtin:all" => (k_here; (with_reducible show wpAny _ _ (call (Value.builtin "all") [Value.ref _]) _ _ _); k_dflt (refine LSm.all_bools (by k_asm) (by k_asm) (by rfl) (News.isList (by k_asm) (by k_mem)) (bools_of ‹_›) ?_; intro h' tk' F' N'))
  k_with "call ref" => (k_here; (with_reducible show wpAny _ _ (call (Value.ref 89) [Value.bytes _ _] _) _ _ _); (k_dflt (refine' FnX.use (code_hex_ok _ _ _ (by omega) (by omega) (all_hexB ‹_›)) ?kB ?kF ?kX ?kN ?kT ?kK ?kd ?ku ?_ ?_; (case kN | kB | kF | kX | kT => k_asm); (case kK => first | exact rfl | assumption); (case kd => ktr_room); (case ku => ktr_units); rotate_left; (rintro ⟨v9, d9, b9⟩; exact absurd (over_yes ‹_› ‹_› ‹_› (by first | exact Or.inl ‹_› | exact Or.inr ‹_›) d9 b9) (by rw [show overB l = false by assumption]; decide)); (rintro r9 nw9 h9 tk9 ⟨⟨v9, d9, b9, ⟨t9, e9⟩⟩, z9⟩ F9 N9; subst z9; subst e9))); (try dsimp only))
  intro w mean mg mb dp un gd cn cs a ccd cl outer A₀ base h₀ L m s Q E B F X N T hk hd hu hret
  refine wpAny_call ?_
  k_dflt cell_enter
  walk_at "STEPS"
  refine ⟨_, _, l, _, (fun c v => v = Value.bool (HEX.contains c)), by k_asm, by k_asm, by rw [sizeLine_eq]; omega, Src.bytes (by exact rfl), fun g9 => ?_, fun D9 ys9 h9 tk9 F9 N9 off9 p9 => ?_⟩
  · intro a9 v9 I9 oI9 C9 oC9 D9 ys9 m9 h9 tk9 E9 ha9 hK9 hoC9 hx9 F9 N9 off9 ne9
    obtain ⟨t9, rfl⟩ := hK9
    walk_at "STEPS"
    all_goals exact Kept.mk ‹_› ‹_› rfl
  walk_at "STEPS"
  all_goals first
    | exact hret _ _ _ _ ⟨by rw [nf_head ‹_› ‹_›]; exact rfl, rfl⟩ ‹_› (by first | assumption | (refine newsWeak ‹_› ?_; intro p9 hp9; (repeat refine List.Mem.tail _ ?_); first | assumption | exact List.mem_append_left _ hp9))
    | exact hret _ _ _ _ ⟨by rw [nf_some ‹_› ‹_› (by first | exact Or.inl ‹_› | exact Or.inr ‹_›) ‹_› ‹_›]; exact ⟨_, rfl⟩, rfl⟩ ‹_› (by first | assumption | (refine newsWeak ‹_› ?_; intro p9 hp9; (repeat refine List.Mem.tail _ ?_); first | assumption | exact List.mem_append_left _ hp9))
    | exact hret _ _ _ _ ⟨by rw [nf_nonhex ‹_›]; exact rfl, rfl⟩ ‹_› (by first | assumption | (refine newsWeak ‹_› ?_; intro p9 hp9; (repeat refine List.Mem.tail _ ?_); first | assumption | exact List.mem_append_left _ hp9))
    | exact hret _ _ _ _ ⟨by rw [num_len (by omega)]; exact rfl, rfl⟩ ‹_› (by first | assumption | (refine newsWeak ‹_› ?_; intro p9 hp9; (repeat refine List.Mem.tail _ ?_); first | assumption | exact List.mem_append_left _ hp9))
end
end Internal
namespace Internal
noncomputable def FnT (D : Nat) (f : Addr) (vs : List Value) (news : List (Addr × Obj)) (R : Value → List (Addr × Obj) → Prop) : Prop :=
  ∀ (w : World) (mean : ExcName → Option Value) (mg mb : Str → Option Value) (dp un : Nat) (gd : Option (List Code)) (cn : Str) (cs : Scope) (a : Addr) (ccd : Value) (outer : List Env) (A₀ : Around) (base h₀ : Heap) (L : Addr) (m : Str → Option Value) (s : Shared) (Q E : Value → Shared → Prop),
    Below A₀ base outer h₀ → Fr h₀ L s.heap m → (hd0.heap_1 w.params).In h₀ → News h₀ L s.heap news → Top hd0.view_1 LS mean mg mb h₀ → (hd0.heap_1 w.params).In base → Top hd0.view_1 LS mean mg mb base → KtsDicts (outer.filterMap (·.frame)) h₀ → cs.kind = .function → dp + D < recursionLimit → un + 8 * D < cLine →
    (∀ r news' h' tk' h₁, R r news' → KtsTurn (outer.filterMap (·.frame)) h₀ h₁ → Fr h₁ L h' m → News h₁ L h' news' → Below A₀ base outer h₁ → (hd0.heap_1 w.params).In h₁ → Top hd0.view_1 LS mean mg mb h₁ → KtsDicts (outer.filterMap (·.frame)) h₁ → Q r { s with heap := h', toks := tk' }) →
    wpAny (model PG w) (ktrTop dp un gd cn cs L a ccd [] outer) (call (.ref f) vs) Q E s
theorem FnT.use {D : Nat} {f : Addr} {vs : List Value} {news : List (Addr × Obj)} {R : Value → List (Addr × Obj) → Prop} (c : FnT D f vs news R)
    {w : World} {mean : ExcName → Option Value} {mg mb : Str → Option Value} {dp un : Nat} {gd : Option (List Code)} {cn : Str} {cs : Scope} {a : Addr} {ccd : Value} {outer : List Env} {A₀ : Around} {base h₀ : Heap} {L : Addr} {m : Str → Option Value} {s : Shared} {Q E : Value → Shared → Prop}
    (B : Below A₀ base outer h₀) (F : Fr h₀ L s.heap m) (X : (hd0.heap_1 w.params).In h₀) (N : News h₀ L s.heap news) (T : Top hd0.view_1 LS mean mg mb h₀) (XB : (hd0.heap_1 w.params).In base) (TB : Top hd0.view_1 LS mean mg mb base) (Dk : KtsDicts (outer.filterMap (·.frame)) h₀) (hk : cs.kind = .function) (hd : dp + D < recursionLimit) (hu : un + 8 * D < cLine)
    (ret : ∀ r news' h' tk' h₁, R r news' → KtsTurn (outer.filterMap (·.frame)) h₀ h₁ → Fr h₁ L h' m → News h₁ L h' news' → Below A₀ base outer h₁ → (Internal.hd0.heap_1 w.params).In h₁ → Top Internal.hd0.view_1 LS mean mg mb h₁ → KtsDicts (outer.filterMap (·.frame)) h₁ → Q r { s with heap := h', toks := tk' }) :
    wpAny (model PG w) (ktrTop dp un gd cn cs L a ccd [] outer) (call (.ref f) vs) Q E s := c _ _ _ _ _ _ _ _ _ _ _ _ _ _ _ _ _ _ _ _ B F X N T XB TB Dk hk hd hu ret
theorem not_le_of_over {l : List UInt8} {v v' : Int} (h : digL l 0 = some v ∧ ¬ v ≤ 1114111) (d : digL l 0 = some v') : ¬ v' ≤ 1114111 := by
  rw [h.1] at d; cases d; exact h.2
section
variable (l : List UInt8)
theorem num_over (news : List (Addr × Obj)) (t : Tok) (hov : overB l = true) : FnT 16 202 [.bytes l.toArray t] news (Pure news (fun r => r = .none)) := by
  k_with_none
  k_with "FOLD" => ((fail_if_success (fail_if_success k_fold)); (try ((with_reducible rename Fr _ _ _ _ => Fz); (fail_if_success (with_reducible have : Fr _ _ _ mk := Fz)); (with_reducible refine let mk := _; have Fy : Fr _ _ _ mk := Fz; ?_); clear Fz)); (try ((with_reducible rename News _ _ _ _ => Nz); (fail_if_success (with_reducible have : News _ _ _ lk := Nz)); (with_reducible refine let lk := _; have Ny : News _ _ _ lk := Nz; ?_); clear Nz)); with_reducible refine let qk := _; let ek := _; (?_ : wpAny _ _ _ qk ek _))
  k_with "STEPS" => ((try walk_at "FOLD"); repeat' (first | (k_unfold; (try dsimp only)) | (k_end; wrow_close) | (walk1; all_goals (try ((fail_if_success (with_reducible show wpAny _ _ (subscriptTail _ _ _ _) _ _ _)); dsimp only)); all_goals (try ((with_reducible first | show wpAny _ _ (exec _ _) _ _ _ | show wpAny _ _ (execs _ _) _ _ _); (try ((with_reducible first | refine genTok ?_ | refine genTokS ?_); intro tkG)); (try walk_at "FOLD")))) | (dsimp only; walk1)))
  k_with "ROOM" => (first | exact U0 ‹_› | exact U1 ‹_› (by exact rfl) | exact U2 ‹_› (by exact rfl) | exact U3 ‹_› (by exact rfl) | ((simp +zetaDelta only [depth_under_make, depth_under_kw, depth_in1, depth_deeper, depth_caller]); (try dsimp only [ktrTop]); first | omega | decide +kernel))
  k_with "UNITS" => (first | exact U1 ‹_› (by exact rfl) | exact U2 ‹_› (by exact rfl) | exact U3 ‹_› (by exact rfl) | exact U4 ‹_› (by exact rfl) | exact U5 ‹_› (by exact rfl) | (have hcL9 := cLine_is; (simp +zetaDelta only [units_under_make, units_in1, units_deeper, Around.mark_units, units_caller]); (try dsimp only [ktrTop]); first | (rw [hcL9]; decide) | omega | decide +kernel))
  k_with "NE" => (first | with_reducible assumption | (refine neN (Nat.ne_of_lt ?_); walk_at "LTS") | (refine neN (Nat.ne_of_gt ?_); walk_at "LTS") | (refine neN ?_; (try dsimp only); omega))
  k_with "ENTER" => (refine' Internal.code_defN ?k1 ?k2 ?k3 ?k4 ?k5 ?kA ?kF ?kK ?k6 ?k7 ?k8 ?k9 ?kB ?_ ?c2 ?c3 ?c4 ?c5; (case kA | kF => exact rfl); (case kK => first | exact rfl | assumption); (case k1 | k2 | k3 | k4 | k5 => k_asm); (case k6 | k7 => k_is); (case k8 => ktr_room); (case k9 => exact BindsTo.of_eq (by kernel_rfl)); (case c5 => decide); (case kB => exact locs rfl); (case c2 | c3 | c4 => exact rfl); k_whole; intro g' L' h' tk' FG' F' N' B' X' T'; (try dsimp only); (try k_lift B'); (try walk_at "FOLD"); (refine let Ak : Around := _; (?_ : wpAny _ Ak _ _ _ _)))
  k_with "LTS" => (first | with_reducible assumption | exact ltM (by with_reducible assumption) (by k_mem) | exact And.left (by with_reducible assumption) | exact And.left (And.right (by with_reducible assumption)) | exact And.right (And.right (by with_reducible assumption)) | exact And.left (And.right (And.right (by with_reducible assumption))) | exact And.right (And.right (And.right (by with_reducible assumption))))
  k_with "ALL" => (first | with_reducible assumption | exact ne_of_allLt ‹_›)
  k_with "MEM" => (first | exact List.Mem.head _ | exact Mem1 | exact Mem2 | exact Mem3 | exact Mem4 | exact Mem5 | (refine TL6 ?_; walk_at "MEM"))
  k_with "SUB" => (first | assumption | exact TL1 ‹_› | exact TL2 ‹_› | exact TL3 ‹_› | exact TL4 ‹_› | exact TL5 ‹_› | (refine TL6 ?_; walk_at "SUB"))
  k_with "eval Call" => (k_here; k_dflt (refine Call_ ?_))
  k_with "subscriptTail" => (k_here; (with_reducible show wpAny _ _ (subscriptTail _ _ (Value.bytes _ _) (Value.int _ _)) _ _ _); k_dflt (refine item_B (by first | omega | (simp only [List.length_append, List.length_cons, List.length_nil] at *; omega)) (by first | omega | (simp only [List.length_append, List.length_cons, List.length_nil] at *; omega)) (by first | assumption | decide | exact kle0 ‹_› (by decide) | omega | ((try simp only [List.length_append, List.length_cons, List.length_nil, List.length_take, List.length_drop]); omega)) ?_; intro ti9 ki9))
  k_with "call builtin:len" => (k_here; (with_reducible show wpAny _ _ (call (Value.builtin "len") [Value.bytes _ _]) _ _ _); k_dflt (refine len_B (by first | assumption | decide | exact kle0 ‹_› (by decide) | omega | ((try simp only [List.length_append, List.length_cons, List.length_nil, List.length_take, List.length_drop]); omega)) ?_; intro tl9 kl9))
  k_with "compareOp In int bytes" => (k_here; k_dflt (refine in_B ?_))
  k_with "eval ListComp" => (k_here; (with_reducible show wpAny _ _ (eval (PySem.Expr.ListComp _ [⟨_, _, [], _⟩] _ _) _) _ _ _); k_dflt (refine Internal.comp0 (by k_asm) (by with_unfolding_all rfl) (by decide) (by rfl) (by decide) (by rfl) ?_))
  k_with "call builtin:all" => (k_here; (with_reducible show wpAny _ _ (call (Value.builtin "all") [Value.ref _]) _ _ _); k_dflt (refine LSm.all_bools (by k_asm) (by k_asm) (by rfl) (News.isList (by k_asm) (by k_mem)) (bools_of ‹_›) ?_; intro h' tk' F' N'))
  k_with "call ref" => (k_here; (with_reducible show wpAny _ _ (call (Value.ref 89) [Value.bytes _ _] _) _ _ _); (k_dflt (refine' FnX.use (code_hex_ok _ _ _ (by omega) (by omega) (all_hexB ‹_›)) ?kB ?kF ?kX ?kN ?kT ?kK ?kd ?ku ?_ ?_; (case kN | kB | kF | kX | kT => k_asm); (case kK => first | exact rfl | assumption); (case kd => ktr_room); (case ku => ktr_units); rotate_left; (rintro - x9 t9 ws9 g9 h9 tk9 R9 Fg9 U9); rotate_left; (rintro r9 nw9 h9 tk9 ⟨⟨v9, d9, b9, ⟨t9, e9⟩⟩, z9⟩ F9 N9; subst z9; subst e9); (exact absurd b9 (not_le_of_over ‹_› d9)))); (try dsimp only))
  obtain ⟨-, ho1, ho2, ho3, ho4, ho5, ho6, ho7⟩ := nf_over hov
  have ho8 := And.intro ho6 ho7
  intro w mean mg mb dp un gd cn cs a ccd outer A₀ base h₀ L m s Q E B F X N T XB TB Dk hk hd hu hret
  refine wpAny_call ?_
  k_dflt (refine' code_defS (g₀ := h₀) ?k1 ?k2 ?k3 ?k4 ?k5 ?XB ?TB ?D ?T0 ?kA ?k6 ?k7 ?k8 ?k9 ?kB ?_ ?cK ?c2 ?c3 ?c4 ?c5; (case kA => exact rfl); (case k2 | k1 => k_asm); (case XB | TB | D => assumption); (case T0 => exact KtsTurn.refl); (case k3 | k4 | k5 => k_asm); (case k6 | k7 => k_is); (case k8 => ktr_room); (case k9 => exact BindsTo.of_eq rfl); (case kB => exact locs rfl); (case cK => assumption); (case c2 | c3 | c4 => exact rfl); (case c5 => decide); k_whole; intro g' L' h' FG' F' N' B' X' T' D'; (try dsimp only); (try k_lift B'); (try k_fold); (refine let Ak : Around := _; (?_ : wpAny _ Ak _ _ _ _)))
  walk_at "STEPS"
  refine ⟨_, _, l, _, (fun c v => v = Value.bool (HEX.contains c)), by k_asm, by k_asm, by rw [sizeLine_eq]; omega, Src.bytes (by exact rfl), fun g9 => ?_, fun D9 ys9 h9 tk9 F9 N9 off9 p9 => ?_⟩
  · intro a9 v9 I9 oI9 C9 oC9 D9 ys9 m9 h9 tk9 E9 ha9 hK9 hoC9 hx9 F9 N9 off9 ne9
    obtain ⟨t9, rfl⟩ := hK9
    walk_at "STEPS"
    all_goals exact Kept.mk ‹_› ‹_› rfl
  walk_at "STEPS"
  all_goals first
    | exact absurd ‹_› (ho4 ‹_›)
    | exact hret _ _ _ _ _ ⟨rfl, rfl⟩ ‹_› ‹_› (by first | assumption | exact newsWeak ‹_› (fun p hp => by walk_at "SUB")) ‹_› ‹_› ‹_› ‹_›
end
end Internal
namespace Internal
noncomputable def headOf (nm : List UInt8) : List UInt8 := keyB (cut nm none (some (-1)))
noncomputable def rangeGo (key : List UInt8) : List (List UInt8 × List UInt8) → Option Int
  | [] => none
  | p :: r => if key.take (headOf p.2).length == headOf p.2 then (match numF (key.drop (headOf p.2).length) with | some c => some c | none => rangeGo key r) else rangeGo key r
noncomputable def rangeI (key : List UInt8) : Option Int := rangeGo key rangesL
noncomputable def noOver (key : List UInt8) : Bool := rangesL.all fun p => !(key.take (headOf p.2).length == headOf p.2) || !(overB (key.drop (headOf p.2).length))
noncomputable abbrev RngP (key : List UInt8) (i : Nat) : Prop := rangeGo key (rangesL.drop i) = rangeI key
theorem drop_at {α : Type} {l : List α} {i : Nat} {c : α} (h : l[i]? = some c) : l.drop i = c :: l.drop (i + 1) := by
  have hi : i < l.length := by
    rcases Nat.lt_or_ge i l.length with h' | h'
    · exact h'
    · rw [List.getElem?_eq_none h'] at h; cases h
  rw [List.drop_eq_getElem_cons hi]
  rw [List.getElem?_eq_getElem hi] at h
  rw [Option.some.inj h]
theorem rng_end {key : List UInt8} (h : RngP key rangesL.length) : rangeI key = none := by
  rw [← h, List.drop_length]; rfl
theorem rng_skip {key wd nm : List UInt8} {i : Nat} (h : RngP key i) (hi : rangesL[i]? = some (wd, nm)) (hs : (key.take (headOf nm).length == headOf nm) = false) : RngP key (i + 1) := by
  show _ = rangeI key
  rw [← h, drop_at hi]
  conv => rhs; rw [rangeGo]
  rw [hs]; rfl
theorem rng_none {key wd nm : List UInt8} {i : Nat} (h : RngP key i) (hi : rangesL[i]? = some (wd, nm)) (hn : numF (key.drop (headOf nm).length) = none) : RngP key (i + 1) := by
  show _ = rangeI key
  rw [← h, drop_at hi]
  conv => rhs; rw [rangeGo]
  rw [hn]
  split <;> rfl
theorem rng_some {key wd nm : List UInt8} {i : Nat} {c : Int} (h : RngP key i) (hi : rangesL[i]? = some (wd, nm)) (hs : (key.take (headOf nm).length == headOf nm) = true) (hn : numF (key.drop (headOf nm).length) = some c) : rangeI key = some c := by
  rw [← h, drop_at hi, rangeGo, hs, hn]; rfl
theorem rng_over {key wd nm : List UInt8} {i : Nat} (hi : rangesL[i]? = some (wd, nm)) (hs : (key.take (headOf nm).length == headOf nm) = true) (hno : noOver key = true) : overB (cut key (some (((headOf nm).length : Nat) : Int)) none) = false := by
  rw [cut_from]
  have := List.all_eq_true.mp hno _ (List.mem_of_getElem? hi)
  (try dsimp only at this)
  rw [hs] at this
  simpa using this
theorem rng_len {wd nm : List UInt8} {i : Nat} (hi : rangesL[i]? = some (wd, nm)) : nm.length ≤ 100 ∧ wd.length ≤ 100 := by
  have h : ∀ p ∈ rangesL, p.2.length ≤ 100 ∧ p.1.length ≤ 100 := by decide +kernel
  exact h _ (List.mem_of_getElem? hi)
theorem key_len (l : List UInt8) : (keyB l).length ≤ l.length + 20 := by
  unfold keyB
  (try dsimp only)
  split
  · show 18 ≤ _; omega
  · have := keyFold_len l l.length; omega
theorem num_optn {l : List UInt8} (news : List (Addr × Obj)) (t : Tok) (h0 : l.length ≤ 100) (hov : overB l = false) (hn : numF l = none) : Fn 16 202 [.bytes l.toArray t] news (Pure news (fun r => r = .none)) :=
  Fn.mono (num_ok l news t h0 hov) fun r nw h => ⟨by have := h.1; rw [hn] at this; exact this, h.2⟩
theorem num_opts {l : List UInt8} {c : Int} (news : List (Addr × Obj)) (t : Tok) (h0 : l.length ≤ 100) (hov : overB l = false) (hn : numF l = some c) : Fn 16 202 [.bytes l.toArray t] news (Pure news (IsInt c)) :=
  Fn.mono (num_ok l news t h0 hov) fun r nw h => ⟨by have := h.1; rw [hn] at this; exact this, h.2⟩
section
variable (key : List UInt8)
theorem range_ok (news : List (Addr × Obj)) (t : Tok) (h0 : key.length ≤ 100) (hno : noOver key = true) : FnG 30 197 [.bytes key.toArray t] news (Pure news (optInt (rangeI key))) := by
  k_with_none
  k_with "FOLD" => ((fail_if_success (fail_if_success k_fold)); (try ((with_reducible rename Fr _ _ _ _ => Fz); (fail_if_success (with_reducible have : Fr _ _ _ mk := Fz)); (with_reducible refine let mk := _; have Fy : Fr _ _ _ mk := Fz; ?_); clear Fz)); (try ((with_reducible rename News _ _ _ _ => Nz); (fail_if_success (with_reducible have : News _ _ _ lk := Nz)); (with_reducible refine let lk := _; have Ny : News _ _ _ lk := Nz; ?_); clear Nz)); with_reducible refine let qk := _; let ek := _; (?_ : wpAny _ _ _ qk ek _))
  k_with "STEPS" => ((try walk_at "FOLD"); repeat' (first | (k_unfold; (try dsimp only)) | (k_end; wrow_close) | (walk1; all_goals (try ((fail_if_success (with_reducible show wpAny _ _ (subscriptTail _ _ _ _) _ _ _)); dsimp only)); all_goals (try ((with_reducible first | show wpAny _ _ (exec _ _) _ _ _ | show wpAny _ _ (execs _ _) _ _ _); (try ((with_reducible first | refine genTok ?_ | refine genTokS ?_); intro tkG)); (try walk_at "FOLD")))) | (dsimp only; walk1)))
  k_with "ROOM" => (first | exact U0 ‹_› | exact U1 ‹_› (by exact rfl) | exact U2 ‹_› (by exact rfl) | exact U3 ‹_› (by exact rfl) | ((simp +zetaDelta only [depth_under_make, depth_under_kw, depth_in1, depth_deeper, depth_caller]); (try dsimp only [ktrTop]); first | omega | decide +kernel))
  k_with "UNITS" => (first | exact U1 ‹_› (by exact rfl) | exact U2 ‹_› (by exact rfl) | exact U3 ‹_› (by exact rfl) | exact U4 ‹_› (by exact rfl) | exact U5 ‹_› (by exact rfl) | (have hcL9 := cLine_is; (simp +zetaDelta only [units_under_make, units_in1, units_deeper, Around.mark_units, units_caller]); (try dsimp only [ktrTop]); first | (rw [hcL9]; decide) | omega | decide +kernel))
  k_with "NE" => (first | with_reducible assumption | (refine neN (Nat.ne_of_lt ?_); walk_at "LTS") | (refine neN (Nat.ne_of_gt ?_); walk_at "LTS") | (refine neN ?_; (try dsimp only); omega))
  k_with "ENTER" => (refine' Internal.code_defN ?k1 ?k2 ?k3 ?k4 ?k5 ?kA ?kF ?kK ?k6 ?k7 ?k8 ?k9 ?kB ?_ ?c2 ?c3 ?c4 ?c5; (case kA | kF => exact rfl); (case kK => first | exact rfl | assumption); (case k1 | k2 | k3 | k4 | k5 => k_asm); (case k6 | k7 => k_is); (case k8 => ktr_room); (case k9 => exact BindsTo.of_eq (by kernel_rfl)); (case c5 => decide); (case kB => exact locs rfl); (case c2 | c3 | c4 => exact rfl); k_whole; intro g' L' h' tk' FG' F' N' B' X' T'; (try dsimp only); (try k_lift B'); (try walk_at "FOLD"); (refine let Ak : Around := _; (?_ : wpAny _ Ak _ _ _ _)))
  k_with "LTS" => (first | with_reducible assumption | exact ltM (by with_reducible assumption) (by k_mem) | exact And.left (by with_reducible assumption) | exact And.left (And.right (by with_reducible assumption)) | exact And.right (And.right (by with_reducible assumption)) | exact And.left (And.right (And.right (by with_reducible assumption))) | exact And.right (And.right (And.right (by with_reducible assumption))))
  k_with "ALL" => (first | with_reducible assumption | exact ne_of_allLt ‹_›)
  k_with "MEM" => (first | exact List.Mem.head _ | exact Mem1 | exact Mem2 | exact Mem3 | exact Mem4 | exact Mem5 | (refine TL6 ?_; walk_at "MEM"))
  k_with "call ref" => (k_here; (with_reducible show wpAny _ _ (call (Value.ref _) _ _) _ _ _); k_dflt (refine wpAny_call ?_; (refine' code_def ?k1 ?k2 ?k3 ?k4 ?k5 ?kA ?kF ?kK ?k6 ?k7 ?k8 ?k9 ?kB ?_ ?c2 ?c3 ?c4 ?c5; (case kA | kF => exact rfl); (case kK => first | exact rfl | assumption); (case k1 | k2 | k3 | k4 | k5 => k_asm); (case k6 | k7 => k_is); (case k8 => ktr_room); (case k9 => first | exact BindsTo.of_eq rfl | exact binds_K (by k_in) rfl (by k_is) rfl rfl rfl); (case c5 => decide); (case kB => exact locs rfl); (case c2 | c3 | c4 => exact rfl); k_whole; intro g' L' h' FG' F' N' B' X' T'; (try dsimp only); (try k_lift B'); (try k_fold); (refine let Ak : Around := _; (?_ : wpAny _ Ak _ _ _ _)))))
  k_with "getMethod bytes" => (k_here; first | ((with_reducible show wpAny _ _ (getMethod (Value.bytes _ _) (PySem.Str.ofString "split") _) _ _ _); with_reducible refine method_bytes slot_split type_split ?_) | ((with_reducible show wpAny _ _ (getMethod (Value.bytes _ _) (PySem.Str.ofString "startswith") _) _ _ _); with_reducible refine method_bytes FB.slot_bytes_startswith FB.type_bytes_startswith ?_) | ((with_reducible show wpAny _ _ (getMethod (Value.bytes _ _) (PySem.Str.ofString "endswith") _) _ _ _); with_reducible refine method_bytes FB.slot_bytes_endswith FB.type_bytes_endswith ?_) | ((with_reducible show wpAny _ _ (getMethod (Value.bytes _ _) (PySem.Str.ofString "replace") _) _ _ _); with_reducible refine method_bytes slot_replace type_replace ?_) | ((with_reducible show wpAny _ _ (getMethod (Value.bytes _ _) (PySem.Str.ofString "join") _) _ _ _); with_reducible refine method_bytes slot_join type_join ?_))
  k_with "eval Call" => (k_here; k_dflt (refine Call_ ?_))
  k_with "subscriptTail" => (k_here; (with_reducible show wpAny _ _ (subscriptTail _ (Expr.Slice _ _ none _) (Value.bytes _ _) (Value.ref _)) _ _ _); (with_reducible rename Fr _ _ _ _ => F'); (with_reducible rename News _ _ _ _ => N'); k_dflt (refine slice_B (s := ⟨_, _, _, _, _⟩) F' N' (by constructor) (by constructor) (by first | assumption | decide | exact kle0 ‹_› (by decide) | omega | ((try simp only [List.length_append, List.length_cons, List.length_nil, List.length_take, List.length_drop]); omega)) ?_; intro hs9 ts9 ks9 Fs9 Ns9))
  k_with "call builtin:len" => (k_here; (with_reducible show wpAny _ _ (call (Value.builtin "len") [Value.bytes _ _]) _ _ _); k_dflt (refine len_B (by first | assumption | decide | exact kle0 ‹_› (by decide) | omega | ((try simp only [List.length_append, List.length_cons, List.length_nil, List.length_take, List.length_drop]); omega)) ?_; intro tl9 kl9))
  k_with "call builtin:bytes.startswith" => (k_here; (with_reducible show wpAny _ _ (call (Value.builtin "bytes.startswith") [Value.bytes _ _, Value.bytes _ _]) _ _ _); k_dflt (refine starts_bytes ?_))
  k_with "call ref" => (k_here; (with_reducible show wpAny _ _ (call (Value.ref 202) _ _) _ _ _); k_dflt (refine' Fn.use0 (num_optn _ _ (Nat.le_trans (cut_length _ _ _) ‹_›) ‹_› ‹_›) ?kB ?kF ?kX ?kN ?kT ?kK ?kd ?ku ?_; (case kB | kF | kX | kN | kT => k_asm); (case kK => first | exact rfl | assumption); (case kd => ktr_room); (case ku => ktr_units); (intro h9 tk9 F9 N9)); (try dsimp only))
  k_with "call ref" => (k_here; (with_reducible show wpAny _ _ (call (Value.ref 202) _ _) _ _ _); k_dflt (refine' Fn.useE (num_opts _ _ (Nat.le_trans (cut_length _ _ _) ‹_›) ‹_› ‹_›) ?kB ?kF ?kX ?kN ?kT ?kK ?kd ?ku ?_; (case kB | kF | kX | kN | kT => k_asm); (case kK => first | exact rfl | assumption); (case kd => ktr_room); (case ku => ktr_units); (intro t9 h9 tk9 F9 N9)); (try dsimp only))
  intro w mean mg mb dp un gd cn cs a ccd cl outer A₀ base h₀ L m s Q B F X N T hk hd hu hret
  refine wpG_call ?_
  k_dflt (refine' call_G ?k1 ?k2 ?k3 ?k4 ?k5 ?kA ?kF ?kK ?k6 ?k7 ?k8 ?k9 ?kB ?_ ?c2 ?c3 ?c4 ?c5; (case kA | kF => exact rfl); (case kK => assumption); (case k1 | k2 | k3 | k4 | k5 => k_asm); (case k6 | k7 => k_is); (case k8 => ktr_room); (case k9 => exact BindsTo.of_eq rfl); (case c5 => decide); (case kB => exact locs rfl); (case c2 | c3 | c4 => exact rfl); k_whole; intro g' L' h' FG' F' N' B' X' T'; (try dsimp only); (try k_lift B'))
  with_reducible refine let Ag := _; let qg := _; (?_ : wpG _ Ag _ qg _)
  refine execs_consG (for_G ?_ (fun _ => rfl))
  walk_at "STEPS"
  refine pairs_G (ps := rangesL) (Ts := [_, _, _, _, _]) (Str.ofString "head") (Str.ofString "code") (RngP key) rfl rfl rfl rfl (by k_asm) (by k_asm) (List.Mem.head _) rfl ?_ rfl ?_ ?_
  · intro j hj
    match j, hj with
    | 0, _ => exact ⟨_, _, by first | exact .tail _ (.head _) | exact .tail _ (.tail _ (.head _)) | exact .tail _ (.tail _ (.tail _ (.head _))) | exact .tail _ (.tail _ (.tail _ (.tail _ (.head _)))) | exact .tail _ (.tail _ (.tail _ (.tail _ (.tail _ (.head _)))))⟩
    | 1, _ => exact ⟨_, _, by first | exact .tail _ (.head _) | exact .tail _ (.tail _ (.head _)) | exact .tail _ (.tail _ (.tail _ (.head _))) | exact .tail _ (.tail _ (.tail _ (.tail _ (.head _)))) | exact .tail _ (.tail _ (.tail _ (.tail _ (.tail _ (.head _)))))⟩
    | 2, _ => exact ⟨_, _, by first | exact .tail _ (.head _) | exact .tail _ (.tail _ (.head _)) | exact .tail _ (.tail _ (.tail _ (.head _))) | exact .tail _ (.tail _ (.tail _ (.tail _ (.head _)))) | exact .tail _ (.tail _ (.tail _ (.tail _ (.tail _ (.head _)))))⟩
    | 3, _ => exact ⟨_, _, by first | exact .tail _ (.head _) | exact .tail _ (.tail _ (.head _)) | exact .tail _ (.tail _ (.tail _ (.head _))) | exact .tail _ (.tail _ (.tail _ (.tail _ (.head _)))) | exact .tail _ (.tail _ (.tail _ (.tail _ (.tail _ (.head _)))))⟩
    | 4, _ => exact ⟨_, _, by first | exact .tail _ (.head _) | exact .tail _ (.tail _ (.head _)) | exact .tail _ (.tail _ (.tail _ (.head _))) | exact .tail _ (.tail _ (.tail _ (.tail _ (.head _)))) | exact .tail _ (.tail _ (.tail _ (.tail _ (.tail _ (.head _)))))⟩
    | n + 5, h => exact absurd h (by show ¬ n + 5 < 5; omega)
  · rintro i wd nm t1 u1 v1 v2 h4 tk4 own hps hP F4 N4
    obtain ⟨hn1, hn2⟩ := rng_len hps
    have hcl : (cut nm none (some (-1))).length ≤ 100 := Nat.le_trans (cut_length _ _ _) hn1
    have hkl : (keyB (cut nm none (some (-1)))).length ≤ 16777216 := Nat.le_trans (key_len _) (by omega)
    refine execs_consG (assign_G (callF_G (K := Internal.hd0.heap_1 w.params) ?_ (by exact rfl) (by exact rfl) (by exact rfl)) rfl rfl)
    walk_at "STEPS"
    refine FnG.useE (key_ok _ _ _ hcl) (by k_asm) (by k_asm) (by k_asm) (by k_asm) (by k_asm) (by first | exact rfl | assumption) (by ktr_room) (by ktr_units) ?_
    intro t9 h9 tk9 F9 N9
    walk_at "STEPS"
    (try dsimp only)
    refine execs_consG (if_G (wpG_of ?_))
    walk_at "STEPS"
    · have hsw : (key.take (headOf nm).length == headOf nm) = true := by assumption
      have hov : overB (cut key (some (((keyB (cut nm none (some (-1)))).length : Nat) : Int)) none) = false := rng_over hps hsw hno
      have hcf : cut key (some (((keyB (cut nm none (some (-1)))).length : Nat) : Int)) none = key.drop (headOf nm).length := cut_from key _
      cases hn : numF (cut key (some (((keyB (cut nm none (some (-1)))).length : Nat) : Int)) none) with
      | none =>
        have hn' := hn
        rw [hcf] at hn'
        refine wpG_of ?_
        walk_at "STEPS"
        all_goals (try dsimp only)
        all_goals refine execs_nilG ?_
        all_goals exact PEnd.mk ‹_› ‹_› (fun z h1 h2 h3 h4 => by simp +zetaDelta only [if_neg h1, if_neg h2, if_neg h3, if_neg h4]) (rng_none hP hps hn')
      | some c =>
        have hn' := hn
        rw [hcf] at hn'
        refine wpG_of ?_
        walk_at "STEPS"
        all_goals dsimp only [PEnd]
        walk_at "STEPS"
        all_goals exact hret _ _ _ _ ⟨by rw [rng_some hP hps hsw hn']; exact ⟨_, rfl⟩, rfl⟩ ‹_› (newsWeak ‹_› (fun p hp => by first | exact hp | ((refine List.mem_append_right _ ?_); repeat (first | exact hp | refine List.Mem.tail _ ?_)) | (repeat (first | exact hp | refine List.Mem.tail _ ?_))))
    · (try dsimp only)
      refine execs_nilG ?_
      (try dsimp only)
      refine execs_nilG ?_
      exact ⟨_, _, _, rfl, by assumption, by assumption, (fun z h1 h2 h3 h4 => by simp +zetaDelta only [if_neg h1, if_neg h2, if_neg h3, if_neg h4]), rng_skip hP hps ‹_›⟩
  · intro u1 u2 v1 v2 h4 tk4 hP F4 N4
    (try dsimp only)
    refine wpG_of ?_
    walk_at "STEPS"
    all_goals exact hret _ _ _ _ ⟨by rw [rng_end hP]; exact rfl, rfl⟩ ‹_› (newsWeak ‹_› (fun p hp => by first | exact hp | ((refine List.mem_append_right _ ?_); repeat (first | exact hp | refine List.Mem.tail _ ?_)) | (repeat (first | exact hp | refine List.Mem.tail _ ?_))))
end
theorem range_s {key : List UInt8} {c : Int} (e : rangeI key = some c) (news : List (Addr × Obj)) (t : Tok) (h0 : key.length ≤ 100) (hno : noOver key = true) : FnG 30 197 [.bytes key.toArray t] news (Pure news (IsInt c)) := by have h := range_ok key news t h0 hno; rw [e] at h; exact h
theorem range_n {key : List UInt8} (e : rangeI key = none) (news : List (Addr × Obj)) (t : Tok) (h0 : key.length ≤ 100) (hno : noOver key = true) : FnG 30 197 [.bytes key.toArray t] news (Pure news (fun r => r = .none)) := by have h := range_ok key news t h0 hno; rw [e] at h; exact h
end Internal
namespace Internal
noncomputable def FnGT (w : World) (D : Nat) (f : Addr) (vs : List Value) (news : List (Addr × Obj)) (R : Value → List (Addr × Obj) → Prop) : Prop :=
  ∀ (mean : ExcName → Option Value) (mg mb : Str → Option Value) (dp un : Nat) (gd : Option (List Code)) (cn : Str) (cs : Scope) (a : Addr) (ccd : Value) (outer : List Env) (A₀ : Around) (base h₀ : Heap) (L : Addr) (m : Str → Option Value) (s : Shared) (Q : Value → Shared → Prop),
    Below A₀ base outer h₀ → Fr h₀ L s.heap m → (hd0.heap_1 w.params).In h₀ → News h₀ L s.heap news → Top hd0.view_1 LS mean mg mb h₀ → (hd0.heap_1 w.params).In base → Top hd0.view_1 LS mean mg mb base → KtsDicts (outer.filterMap (·.frame)) h₀ → cs.kind = .function → dp + D < recursionLimit → un + 8 * D < cLine →
    (∀ r news' h' tk' h₁, R r news' → KtsTurn (outer.filterMap (·.frame)) h₀ h₁ → Fr h₁ L h' m → News h₁ L h' news' → Below A₀ base outer h₁ → (hd0.heap_1 w.params).In h₁ → Top hd0.view_1 LS mean mg mb h₁ → KtsDicts (outer.filterMap (·.frame)) h₁ → Q r { s with heap := h', toks := tk' }) →
    wpG (model PG w) (ktrTop dp un gd cn cs L a ccd [] outer) (call (.ref f) vs) Q s
theorem FnGT.use {w : World} {D : Nat} {f : Addr} {vs : List Value} {news : List (Addr × Obj)} {R : Value → List (Addr × Obj) → Prop} (c : FnGT w D f vs news R)
    {mean : ExcName → Option Value} {mg mb : Str → Option Value} {dp un : Nat} {gd : Option (List Code)} {cn : Str} {cs : Scope} {a : Addr} {ccd : Value} {outer : List Env} {A₀ : Around} {base h₀ : Heap} {L : Addr} {m : Str → Option Value} {s : Shared} {Q : Value → Shared → Prop}
    (B : Below A₀ base outer h₀) (F : Fr h₀ L s.heap m) (X : (hd0.heap_1 w.params).In h₀) (N : News h₀ L s.heap news) (T : Top hd0.view_1 LS mean mg mb h₀) (XB : (hd0.heap_1 w.params).In base) (TB : Top hd0.view_1 LS mean mg mb base) (Dk : KtsDicts (outer.filterMap (·.frame)) h₀) (hk : cs.kind = .function) (hd : dp + D < recursionLimit) (hu : un + 8 * D < cLine)
    (ret : ∀ r news' h' tk' h₁, R r news' → KtsTurn (outer.filterMap (·.frame)) h₀ h₁ → Fr h₁ L h' m → News h₁ L h' news' → Below A₀ base outer h₁ → (Internal.hd0.heap_1 w.params).In h₁ → Top Internal.hd0.view_1 LS mean mg mb h₁ → KtsDicts (outer.filterMap (·.frame)) h₁ → Q r { s with heap := h', toks := tk' }) :
    wpG (model PG w) (ktrTop dp un gd cn cs L a ccd [] outer) (call (.ref f) vs) Q s := c _ _ _ _ _ _ _ _ _ _ _ _ _ _ _ _ _ _ B F X N T XB TB Dk hk hd hu ret
theorem FnGT.use0 {w : World} {D : Nat} {f : Addr} {vs : List Value} {news : List (Addr × Obj)} {mean : ExcName → Option Value} {mg mb : Str → Option Value} {dp un : Nat} {gd : Option (List Code)} {cn : Str} {cs : Scope} {a : Addr} {ccd : Value} {outer : List Env} {A₀ : Around} {base h₀ : Heap} {L : Addr} {m : Str → Option Value} {s : Shared} {Q : Value → Shared → Prop} {v : Value} (c : FnGT w D f vs news (Pure news fun r => r = v)) (B : Below A₀ base outer h₀) (F : Fr h₀ L s.heap m) (X : (hd0.heap_1 w.params).In h₀) (N : News h₀ L s.heap news) (T : Top hd0.view_1 LS mean mg mb h₀) (XB : (hd0.heap_1 w.params).In base) (TB : Top hd0.view_1 LS mean mg mb base) (Dk : KtsDicts (outer.filterMap (·.frame)) h₀) (hk : cs.kind = .function) (hd : dp + D < recursionLimit) (hu : un + 8 * D < cLine)
    (ret : ∀ h' tk' h₁, KtsTurn (outer.filterMap (·.frame)) h₀ h₁ → Fr h₁ L h' m → News h₁ L h' news → Below A₀ base outer h₁ → (Internal.hd0.heap_1 w.params).In h₁ → Top Internal.hd0.view_1 LS mean mg mb h₁ → KtsDicts (outer.filterMap (·.frame)) h₁ → Q v ⟨h', s.gens, s.drawn, tk', s.os⟩) : wpG (model PG w) (ktrTop dp un gd cn cs L a ccd [] outer) (call (.ref f) vs) Q s :=
  FnGT.use c B F X N T XB TB Dk hk hd hu fun _ _ h t h₁ ⟨e, n⟩ a1 a2 a3 a4 a5 a6 a7 => by subst n; subst e; exact ret h t h₁ a1 a2 a3 a4 a5 a6 a7
theorem FnGT.useE {w : World} {D : Nat} {f : Addr} {vs : List Value} {news : List (Addr × Obj)} {mean : ExcName → Option Value} {mg mb : Str → Option Value} {dp un : Nat} {gd : Option (List Code)} {cn : Str} {cs : Scope} {a : Addr} {ccd : Value} {outer : List Env} {A₀ : Around} {base h₀ : Heap} {L : Addr} {m : Str → Option Value} {s : Shared} {Q : Value → Shared → Prop} {v : Tok → Value} (c : FnGT w D f vs news (Pure news fun r => ∃ t, r = v t)) (B : Below A₀ base outer h₀) (F : Fr h₀ L s.heap m) (X : (hd0.heap_1 w.params).In h₀) (N : News h₀ L s.heap news) (T : Top hd0.view_1 LS mean mg mb h₀) (XB : (hd0.heap_1 w.params).In base) (TB : Top hd0.view_1 LS mean mg mb base) (Dk : KtsDicts (outer.filterMap (·.frame)) h₀) (hk : cs.kind = .function) (hd : dp + D < recursionLimit) (hu : un + 8 * D < cLine)
    (ret : ∀ t h' tk' h₁, KtsTurn (outer.filterMap (·.frame)) h₀ h₁ → Fr h₁ L h' m → News h₁ L h' news → Below A₀ base outer h₁ → (Internal.hd0.heap_1 w.params).In h₁ → Top Internal.hd0.view_1 LS mean mg mb h₁ → KtsDicts (outer.filterMap (·.frame)) h₁ → Q (v t) ⟨h', s.gens, s.drawn, tk', s.os⟩) : wpG (model PG w) (ktrTop dp un gd cn cs L a ccd [] outer) (call (.ref f) vs) Q s :=
  FnGT.use c B F X N T XB TB Dk hk hd hu fun _ _ h t h₁ ⟨⟨u, e⟩, n⟩ a1 a2 a3 a4 a5 a6 a7 => by subst n; subst e; exact ret u h t h₁ a1 a2 a3 a4 a5 a6 a7
noncomputable def HSB : List UInt8 := [72, 65, 78, 71, 85, 76, 83, 89, 76, 76, 65, 66, 76, 69]
noncomputable def labGo (D key : List UInt8) : Nat → Option Int
  | 0 => none
  | n + 1 => if HEX.contains (D.getD n 0) then (match numF (D.drop n) with | some c => if (ownI c).isNone && (keyB (labelI c) == key) then some c else labGo D key n | none => labGo D key n) else none
noncomputable def labI (key : List UInt8) : Option Int := labGo (cut key (some 1) (some (-1))) key (cut key (some 1) (some (-1))).length
noncomputable def foundI (key : List UInt8) : Option Int := if key.take HSB.length == HSB then codeT (cut key (some ((HSB.length : Nat) : Int)) none) else rangeI key
noncomputable def endsB (key : List UInt8) : Bool := decide (1 ≤ key.length) && key.drop (key.length - 1) == [62]
noncomputable def reckI (key : List UInt8) : Option Int := match foundI key with
  | some f => match ownI f with | some n => if keyB n = key then some f else none | none => none
  | none => if (key.take 1 == [60]) && endsB key then labI key else none
theorem key_syl (news : List (Addr × Obj)) (t : Tok) : FnG 8 185 [.bytes (List.toArray [72, 65, 78, 71, 85, 76, 32, 83, 89, 76, 76, 65, 66, 76, 69, 32]) t] news (Pure news (IsBytes [72, 65, 78, 71, 85, 76, 83, 89, 76, 76, 65, 66, 76, 69])) := by
  have h := key_ok [72, 65, 78, 71, 85, 76, 32, 83, 89, 76, 76, 65, 66, 76, 69, 32] news t (by decide)
  rw [show keyB [72, 65, 78, 71, 85, 76, 32, 83, 89, 76, 76, 65, 66, 76, 69, 32] = [72, 65, 78, 71, 85, 76, 83, 89, 76, 76, 65, 66, 76, 69] from by decide +kernel] at h
  exact h
theorem found_syl {key : List UInt8} (h : (key.take HSB.length == HSB) = true) : foundI key = codeT (cut key (some ((HSB.length : Nat) : Int)) none) := by unfold foundI; rw [if_pos h]
theorem found_rng {key : List UInt8} (h : (key.take HSB.length == HSB) = false) : foundI key = rangeI key := by unfold foundI; rw [if_neg (by rw [h]; decide)]
theorem digL_nn : ∀ {l : List UInt8} {a c : Int}, 0 ≤ a → digL l a = some c → 0 ≤ c := by
  intro l
  induction l with
  | nil => intro a c h e; rw [digL] at e; cases e; exact h
  | cons x r ih =>
    intro a c h e
    rw [digL] at e
    cases q : digitI (x.toNat : Int) with
    | none => rw [q] at e; cases e
    | some v =>
      rw [q] at e
      have hv : 0 ≤ v := by
        unfold digitI at q
        split at q
        · cases q; omega
        · split at q
          · cases q; omega
          · cases q
      exact ih (by omega) e
theorem num_range {l : List UInt8} {c : Int} (h : numF l = some c) : 0 ≤ c ∧ c < 1099511627776 := by
  unfold numF at h
  split at h
  · cases e : digL l 0 with
    | none => rw [e] at h; cases h
    | some n =>
      rw [e] at h
      (try dsimp only at h)
      split at h
      · cases h
        exact ⟨digL_nn (Int.le_refl _) e, by omega⟩
      · cases h
  · cases h
theorem rangeGo_range {key : List UInt8} {c : Int} : ∀ {l : List (List UInt8 × List UInt8)}, rangeGo key l = some c → 0 ≤ c ∧ c < 1099511627776 := by
  intro l
  induction l with
  | nil => intro h; cases h
  | cons p r ih =>
    intro h
    rw [rangeGo] at h
    split at h
    · cases e : numF (key.drop (headOf p.2).length) with
      | none => rw [e] at h; exact ih h
      | some n => rw [e] at h; cases h; exact num_range e
    · exact ih h
theorem code_rgI {x y z : Int} (h : 0 ≤ x ∧ x < 19 ∧ 0 ≤ y ∧ y < 21 ∧ 0 ≤ z ∧ z < 28) : 0 ≤ 44032 + (x * 21 + y) * 28 + z ∧ 44032 + (x * 21 + y) * 28 + z < 1099511627776 := by omega
theorem code_rg {x y z : Nat} (a : x < 19) (b : y < 21) (d : z < 28) : 0 ≤ 44032 + ((x : Int) * 21 + (y : Int)) * 28 + (z : Int) ∧ 44032 + ((x : Int) * 21 + (y : Int)) * 28 + (z : Int) < 1099511627776 := code_rgI ⟨Int.natCast_nonneg _, Int.ofNat_lt.mpr a, Int.natCast_nonneg _, Int.ofNat_lt.mpr b, Int.natCast_nonneg _, Int.ofNat_lt.mpr d⟩
theorem codeT_range {l : List UInt8} {c : Int} (h : codeT l = some c) : 0 ≤ c ∧ c < 1099511627776 := by
  unfold codeT at h
  split at h
  · rename_i q
    rw [Bool.and_eq_true, Bool.and_eq_true] at q
    have a := List.idxOf_lt_length_of_mem (contains_yes q.1.1)
    have b := List.idxOf_lt_length_of_mem (contains_yes q.1.2)
    have d := List.idxOf_lt_length_of_mem (contains_yes q.2)
    have e1 : leadsB.length = 19 := by decide +kernel
    have e2 : vowels0.length = 21 := by decide +kernel
    have e3 : tailsB.length = 28 := by decide +kernel
    cases h
    rw [e1] at a
    rw [e2] at b
    rw [e3] at d
    exact code_rg a b d
  · cases h
theorem found_range {key : List UInt8} {c : Int} (h : foundI key = some c) : 0 ≤ c ∧ c < 1099511627776 := by
  unfold foundI at h
  split at h
  · exact codeT_range h
  · exact rangeGo_range h
theorem tail_len12 {c : Int} {t : List UInt8} (h : tailI c = some t) : t.length ≤ 12 := by
  unfold tailI at h
  split at h
  · cases h
    have a := leads_len ((c - 44032).fdiv (21 * 28)).toNat
    have b := vowels_len (((c - 44032).fdiv 28).fmod 21).toNat
    have d := tails_len ((c - 44032).fmod 28).toNat
    rw [List.length_append, List.length_append]
    omega
  · cases h
theorem own_len {c : Int} {n : List UInt8} (h : ownI c = some n) : n.length ≤ 100 := by
  cases hT : tailI c with
  | some t =>
    rw [own_syl hT] at h; cases h
    have := tail_len12 hT
    rw [List.length_append]
    have : SYL.length = 16 := rfl
    omega
  | none =>
    have hh := hexB_len c
    rcases name_cases c with g | g | g | g
    · rw [own_no hT g] at h; cases h
    · rw [own_lat hT g] at h; cases h; decide
    · rw [own_cjk hT g] at h; cases h
      rw [List.length_append]
      have : cjkB.length = 22 := rfl
      omega
    · rw [own_tan hT g] at h; cases h
      rw [List.length_append]
      have : tanB.length = 17 := rfl
      omega
theorem label_len (c : Int) : (labelI c).length ≤ 100 := by
  have hh := hexB_len c
  have hw : (wordI c).length ≤ 12 := by
    unfold wordI
    split
    · decide
    · split
      · decide
      · split
        · decide
        · split <;> decide
  unfold labelI labelB
  rw [List.length_append, List.length_append, List.length_append, List.length_append]
  simp only [List.length_cons, List.length_nil]
  exact Nat.le_trans (Nat.add_le_add_right (Nat.add_le_add (Nat.add_le_add_right (Nat.add_le_add_left hw _) _) hh) _) (by decide)
theorem own_n {c : Int} (w : World) (news : List (Addr × Obj)) (xD : Addr) (u9 : Tok) (hD : DataIn w xD news) (hc : 0 ≤ c ∧ c < 1099511627776) (hn : ownI c = none) : FnW w 20 150 [.int c u9, .ref xD] news (Pure news (fun r => r = .none)) :=
  FnW.mono (own_ok w news xD c u9 hD hc.1 hc.2) fun r nw h => ⟨by have := h.1; rw [hn] at this; exact this, h.2⟩
theorem own_s {c : Int} {n : List UInt8} (w : World) (news : List (Addr × Obj)) (xD : Addr) (u9 : Tok) (hD : DataIn w xD news) (hc : 0 ≤ c ∧ c < 1099511627776) (hn : ownI c = some n) : FnW w 20 150 [.int c u9, .ref xD] news (Pure news (IsBytes n)) :=
  FnW.mono (own_ok w news xD c u9 hD hc.1 hc.2) fun r nw h => ⟨by have := h.1; rw [hn] at this; exact this, h.2⟩
theorem lab_ok {c : Int} (w : World) (news : List (Addr × Obj)) (xD : Addr) (u9 : Tok) (hD : DataIn w xD news) (hc : 0 ≤ c ∧ c < 1099511627776) : FnW w 20 157 [.int c u9, .ref xD] news (Pure news (IsBytes (labelI c))) :=
  label_ok w news xD c u9 hD hc.1 hc.2
theorem lab_stop {D key : List UInt8} {k : Nat} (hk : 0 < (k : Int)) (h : [48, 49, 50, 51, 52, 53, 54, 55, 56, 57, 65, 66, 67, 68, 69, 70].contains (D.getD ((k : Int) - 1).toNat 0) = false) : labGo D key k = none := by
  obtain ⟨j, rfl⟩ : ∃ j, k = j + 1 := ⟨k - 1, (Nat.sub_add_cancel (Int.ofNat_lt.mp hk)).symm⟩
  rw [show (((j + 1 : Nat) : Int) - 1).toNat = j from by rw [Int.natCast_succ, Int.add_sub_cancel]; exact Int.toNat_natCast j] at h
  rw [labGo]; rw [if_neg]; rw [show HEX.contains (D.getD j 0) = false from h]; decide
theorem lab_next {D key : List UInt8} {j : Nat} (h : [48, 49, 50, 51, 52, 53, 54, 55, 56, 57, 65, 66, 67, 68, 69, 70].contains (D.getD (j : Int).toNat 0) = true) (hn : numF (cut D (some (j : Int)) none) = none) : labGo D key (j + 1) = labGo D key j := by
  rw [cut_from] at hn
  rw [labGo, if_pos (show HEX.contains (D.getD j 0) = true from h), hn]
theorem lab_else {D key : List UInt8} {j : Nat} {c : Int} (h : [48, 49, 50, 51, 52, 53, 54, 55, 56, 57, 65, 66, 67, 68, 69, 70].contains (D.getD (j : Int).toNat 0) = true) (hn : numF (cut D (some (j : Int)) none) = some c) (e : ((ownI c).isNone && (keyB (labelI c) == key)) = false) : labGo D key (j + 1) = labGo D key j := by
  rw [cut_from] at hn
  rw [labGo, if_pos (show HEX.contains (D.getD j 0) = true from h), hn]; (try dsimp only); rw [if_neg (by rw [e]; decide)]
theorem lab_yes {D key : List UInt8} {j : Nat} {c : Int} (h : [48, 49, 50, 51, 52, 53, 54, 55, 56, 57, 65, 66, 67, 68, 69, 70].contains (D.getD (j : Int).toNat 0) = true) (hn : numF (cut D (some (j : Int)) none) = some c) (e : ((ownI c).isNone && (keyB (labelI c) == key)) = true) : labGo D key (j + 1) = some c := by
  rw [cut_from] at hn
  rw [labGo, if_pos (show HEX.contains (D.getD j 0) = true from h), hn]; (try dsimp only); rw [if_pos e]
theorem rk_none {key : List UInt8} (h : foundI key = none) (e : ((key.take 1 == [60]) && endsB key) = false) : reckI key = none := by
  unfold reckI; rw [h]; (try dsimp only); rw [e]; rfl
theorem rk_lab {key : List UInt8} (h : foundI key = none) (e : (key.take 1 == [60]) = true) (f : endsB key = true) : reckI key = labI key := by
  unfold reckI; rw [h]; (try dsimp only); rw [e, f]; rfl
theorem rk_no {key : List UInt8} {f : Int} (h : foundI key = some f) (e : ownI f = none) : reckI key = none := by
  unfold reckI; rw [h]; (try dsimp only); rw [e]
theorem rk_yes {key n : List UInt8} {f : Int} (h : foundI key = some f) (e : ownI f = some n) (q : (keyB n == key) = true) : reckI key = some f := by
  unfold reckI; rw [h]; (try dsimp only); rw [e]; exact if_pos (by simpa using q)
theorem rk_else {key n : List UInt8} {f : Int} (h : foundI key = some f) (e : ownI f = some n) (q : (keyB n == key) = false) : reckI key = none := by
  unfold reckI; rw [h]; (try dsimp only); rw [e]; exact if_neg (by simpa using q)
section
variable (key : List UInt8)
theorem reck_ok (w : World) (news : List (Addr × Obj)) (xD : Addr) (t : Tok) (h0 : key.length ≤ 100) (hD : DataIn w xD news) (hno : noOver key = true) : FnGT w 40 209 [.bytes key.toArray t, .ref xD] news (Pure news (optInt (reckI key))) := by
  k_with_none
  k_with "FOLD" => ((fail_if_success (fail_if_success k_fold)); (try ((with_reducible rename Fr _ _ _ _ => Fz); (fail_if_success (with_reducible have : Fr _ _ _ mk := Fz)); (with_reducible refine let mk := _; have Fy : Fr _ _ _ mk := Fz; ?_); clear Fz)); (try ((with_reducible rename News _ _ _ _ => Nz); (fail_if_success (with_reducible have : News _ _ _ lk := Nz)); (with_reducible refine let lk := _; have Ny : News _ _ _ lk := Nz; ?_); clear Nz)); with_reducible refine let qk := _; let ek := _; (?_ : wpAny _ _ _ qk ek _))
  k_with "STEPS" => ((try walk_at "FOLD"); repeat' (first | (k_unfold; (try dsimp only)) | (k_end; wrow_close) | (walk1; all_goals (try ((fail_if_success (with_reducible show wpAny _ _ (subscriptTail _ _ _ _) _ _ _)); dsimp only)); all_goals (try ((with_reducible first | show wpAny _ _ (exec _ _) _ _ _ | show wpAny _ _ (execs _ _) _ _ _); (try ((with_reducible first | refine genTok ?_ | refine genTokS ?_); intro tkG)); (try walk_at "FOLD")))) | (dsimp only; walk1)))
  k_with "ROOM" => (first | exact U0 ‹_› | exact U1 ‹_› (by exact rfl) | exact U2 ‹_› (by exact rfl) | exact U3 ‹_› (by exact rfl) | ((simp +zetaDelta only [depth_under_make, depth_under_kw, depth_in1, depth_deeper, depth_caller]); (try dsimp only [ktrTop]); first | omega | decide +kernel))
  k_with "UNITS" => (first | exact U1 ‹_› (by exact rfl) | exact U2 ‹_› (by exact rfl) | exact U3 ‹_› (by exact rfl) | exact U4 ‹_› (by exact rfl) | exact U5 ‹_› (by exact rfl) | (have hcL9 := cLine_is; (simp +zetaDelta only [units_under_make, units_in1, units_deeper, Around.mark_units, units_caller]); (try dsimp only [ktrTop]); first | (rw [hcL9]; decide) | omega | decide +kernel))
  k_with "NE" => (first | with_reducible assumption | (refine neN (Nat.ne_of_lt ?_); walk_at "LTS") | (refine neN (Nat.ne_of_gt ?_); walk_at "LTS") | (refine neN ?_; (try dsimp only); omega))
  k_with "ENTER" => (refine' Internal.code_defN ?k1 ?k2 ?k3 ?k4 ?k5 ?kA ?kF ?kK ?k6 ?k7 ?k8 ?k9 ?kB ?_ ?c2 ?c3 ?c4 ?c5; (case kA | kF => exact rfl); (case kK => first | exact rfl | assumption); (case k1 | k2 | k3 | k4 | k5 => k_asm); (case k6 | k7 => k_is); (case k8 => ktr_room); (case k9 => exact BindsTo.of_eq (by kernel_rfl)); (case c5 => decide); (case kB => exact locs rfl); (case c2 | c3 | c4 => exact rfl); k_whole; intro g' L' h' tk' FG' F' N' B' X' T'; (try dsimp only); (try k_lift B'); (try walk_at "FOLD"); (refine let Ak : Around := _; (?_ : wpAny _ Ak _ _ _ _)))
  k_with "LTS" => (first | with_reducible assumption | exact ltM (by with_reducible assumption) (by k_mem) | exact And.left (by with_reducible assumption) | exact And.left (And.right (by with_reducible assumption)) | exact And.right (And.right (by with_reducible assumption)) | exact And.left (And.right (And.right (by with_reducible assumption))) | exact And.right (And.right (And.right (by with_reducible assumption))))
  k_with "ALL" => (first | with_reducible assumption | exact ne_of_allLt ‹_›)
  k_with "MEM" => (first | exact List.Mem.head _ | exact Mem1 | exact Mem2 | exact Mem3 | exact Mem4 | exact Mem5 | (refine TL6 ?_; walk_at "MEM"))
  k_with "SUB" => (first | assumption | exact TL1 ‹_› | exact TL2 ‹_› | exact TL3 ‹_› | exact TL4 ‹_› | exact TL5 ‹_› | (refine TL6 ?_; walk_at "SUB"))
  k_with "getMethod bytes" => (k_here; first | ((with_reducible show wpAny _ _ (getMethod (Value.bytes _ _) (PySem.Str.ofString "split") _) _ _ _); with_reducible refine method_bytes slot_split type_split ?_) | ((with_reducible show wpAny _ _ (getMethod (Value.bytes _ _) (PySem.Str.ofString "startswith") _) _ _ _); with_reducible refine method_bytes FB.slot_bytes_startswith FB.type_bytes_startswith ?_) | ((with_reducible show wpAny _ _ (getMethod (Value.bytes _ _) (PySem.Str.ofString "endswith") _) _ _ _); with_reducible refine method_bytes FB.slot_bytes_endswith FB.type_bytes_endswith ?_) | ((with_reducible show wpAny _ _ (getMethod (Value.bytes _ _) (PySem.Str.ofString "replace") _) _ _ _); with_reducible refine method_bytes slot_replace type_replace ?_) | ((with_reducible show wpAny _ _ (getMethod (Value.bytes _ _) (PySem.Str.ofString "join") _) _ _ _); with_reducible refine method_bytes slot_join type_join ?_))
  k_with "eval Call" => (k_here; k_dflt (refine Call_ ?_))
  k_with "subscriptTail" => (k_here; (with_reducible show wpAny _ _ (subscriptTail _ _ (Value.bytes _ _) (Value.int _ _)) _ _ _); k_dflt (refine item_B (by first | omega | (simp only [List.length_append, List.length_cons, List.length_nil] at *; omega)) (by first | omega | (simp only [List.length_append, List.length_cons, List.length_nil] at *; omega)) (by first | assumption | decide | exact kle0 ‹_› (by decide) | omega | ((try simp only [List.length_append, List.length_cons, List.length_nil, List.length_take, List.length_drop]); omega)) ?_; intro ti9 ki9))
  k_with "subscriptTail" => (k_here; (with_reducible show wpAny _ _ (subscriptTail _ (Expr.Slice _ _ none _) (Value.bytes _ _) (Value.ref _)) _ _ _); (with_reducible rename Fr _ _ _ _ => F'); (with_reducible rename News _ _ _ _ => N'); k_dflt (refine slice_B (s := ⟨_, _, _, _, _⟩) F' N' (by constructor) (by constructor) (by first | assumption | decide | exact kle0 ‹_› (by decide) | omega | ((try simp only [List.length_append, List.length_cons, List.length_nil, List.length_take, List.length_drop]); omega)) ?_; intro hs9 ts9 ks9 Fs9 Ns9))
  k_with "call builtin:len" => (k_here; (with_reducible show wpAny _ _ (call (Value.builtin "len") [Value.bytes _ _]) _ _ _); k_dflt (refine len_B (by first | assumption | decide | exact kle0 ‹_› (by decide) | omega | ((try simp only [List.length_append, List.length_cons, List.length_nil, List.length_take, List.length_drop]); omega)) ?_; intro tl9 kl9))
  k_with "compareOp In int bytes" => (k_here; k_dflt (refine in_B ?_))
  k_with "call builtin:bytes.startswith" => (k_here; (with_reducible show wpAny _ _ (call (Value.builtin "bytes.startswith") [Value.bytes _ _, Value.bytes _ _]) _ _ _); k_dflt (refine starts_bytes ?_))
  k_with "call builtin:bytes.endswith" => (k_here; (with_reducible show wpAny _ _ (call (Value.builtin "bytes.endswith") [Value.bytes _ _, Value.bytes _ _]) _ _ _); k_dflt (refine ends_bytes ?_))
  k_with "call ref" => (k_here; (with_reducible show wpAny _ _ (call (Value.ref 136) _ _) _ _ _); k_dflt (refine' Fn.use (code_tail_ok _ _ _ (Nat.le_trans (cut_length _ _ _) ‹_›)) ?kB ?kF ?kX ?kN ?kT ?kK ?kd ?ku ?_; (case kB | kF | kX | kN | kT => k_asm); (case kK => first | exact rfl | assumption); (case kd => ktr_room); (case ku => ktr_units); (rintro r9 nw9 h9 tk9 R9 F9 N9); (refine byG ?_; intro G9 hG9); (rcases R9 with ⟨e9, z9⟩); (subst z9; refine hG9 ?_; clear hG9 G9)); (try dsimp only))
  k_with "call ref" => (k_here; (with_reducible show wpAny _ _ (call (Value.ref 150) [Value.int _ _, Value.ref _] _) _ _ _); k_dflt (refine' FnW.use0 (own_n _ _ _ _ ?hD ‹_› ‹_›) ?kB ?kF ?kX ?kN ?kT ?kK ?kd ?ku ?_; (case kN => k_asm); (case hD => exact DataIn.mono ‹_› (by intro p hp; walk_at "SUB")); (case kB | kF | kX | kT => k_asm); (case kK => first | exact rfl | assumption); (case kd => ktr_room); (case ku => ktr_units); (intro h9 tk9 F9 N9)); (try dsimp only))
  k_with "call ref" => (k_here; (with_reducible show wpAny _ _ (call (Value.ref 150) [Value.int _ _, Value.ref _] _) _ _ _); k_dflt (refine' FnW.useE (own_s _ _ _ _ ?hD ‹_› ‹_›) ?kB ?kF ?kX ?kN ?kT ?kK ?kd ?ku ?_; (case kN => k_asm); (case hD => exact DataIn.mono ‹_› (by intro p hp; walk_at "SUB")); (case kB | kF | kX | kT => k_asm); (case kK => first | exact rfl | assumption); (case kd => ktr_room); (case ku => ktr_units); (intro t9 h9 tk9 F9 N9)); (try dsimp only))
  k_with "call ref" => (k_here; (with_reducible show wpAny _ _ (call (Value.ref 202) _ _) _ _ _); k_dflt (refine' Fn.use0 (num_optn _ _ ‹_› ‹_› ‹_›) ?kB ?kF ?kX ?kN ?kT ?kK ?kd ?ku ?_; (case kB | kF | kX | kN | kT => k_asm); (case kK => first | exact rfl | assumption); (case kd => ktr_room); (case ku => ktr_units); (intro h9 tk9 F9 N9)); (try dsimp only))
  k_with "call ref" => (k_here; (with_reducible show wpAny _ _ (call (Value.ref 202) _ _) _ _ _); k_dflt (refine' Fn.useE (num_opts _ _ ‹_› ‹_› ‹_›) ?kB ?kF ?kX ?kN ?kT ?kK ?kd ?ku ?_; (case kB | kF | kX | kN | kT => k_asm); (case kK => first | exact rfl | assumption); (case kd => ktr_room); (case ku => ktr_units); (intro t9 h9 tk9 F9 N9)); (try dsimp only))
  k_with "call ref" => (k_here; (with_reducible show wpAny _ _ (call (Value.ref 202) _ _) _ _ _); k_dflt (refine' FnT.use (num_over _ _ _ ‹_›) ?kB ?kF ?kX ?kN ?kT ?kXB ?kTB ?kDk ?kK ?kd ?ku ?_; (case kB | kF | kX | kN | kT => k_asm); (case kK => first | exact rfl | assumption); (case kd => ktr_room); (case ku => ktr_units); (case kXB | kTB | kDk => assumption); (rintro r9 nw9 h9 tk9 g9 ⟨e9, z9⟩ T9 F9 N9 B9 X9 P9 D9); (subst z9; subst e9)); (try dsimp only))
  k_with "call ref" => (k_here; (with_reducible show wpAny _ _ (call (Value.ref 157) [Value.int _ _, Value.ref _] _) _ _ _); k_dflt (refine' FnW.useE (lab_ok _ _ _ _ ?hD ‹_›) ?kB ?kF ?kX ?kN ?kT ?kK ?kd ?ku ?_; (case kN => k_asm); (case hD => exact DataIn.mono ‹_› (by intro p hp; walk_at "SUB")); (case kB | kF | kX | kT => k_asm); (case kK => first | exact rfl | assumption); (case kd => ktr_room); (case ku => ktr_units); (intro t9 h9 tk9 F9 N9)); (try dsimp only))
  obtain ⟨dX, dd, mm, ta, tb, tc, td, pr, wo, hX1, hX2⟩ := DataIn.head hD
  intro mean mg mb dp un gd cn cs a ccd outer A₀ base h₀ L m s Q B F X N T XB TB Dk hk hd hu hret
  refine wpG_call ?_
  k_dflt (refine' call_GT ?k1 ?k2 ?k3 ?k4 ?k5 ?XB ?TB ?D ?kA ?cK ?k6 ?k7 ?k8 ?k9 ?kB ?_ ?c2 ?c3 ?c4 ?c5; (case kA => exact rfl); (case cK => assumption); (case k1 | k2 | k3 | k4 | k5 => k_asm); (case XB | TB | D => assumption); (case k6 | k7 => k_is); (case k8 => ktr_room); (case k9 => exact BindsTo.of_eq rfl); (case c5 => decide); (case kB => exact locs rfl); (case c2 | c3 | c4 => exact rfl); k_whole; intro g' L' h' FG' F' N' B' X' T' D'; (try dsimp only); (try k_lift B'))
  with_reducible refine let Ag := _; let qg := _; (?_ : wpG _ Ag _ qg _)
  refine execs_consG (assign_G (callF_G (K := Internal.hd0.heap_1 w.params) ?_ (by exact rfl) (by exact rfl) (by exact rfl)) rfl rfl)
  walk_at "STEPS"
  refine FnG.useE (key_syl _ _) (by k_asm) (by k_asm) (by k_asm) (by k_asm) (by k_asm) (by first | exact rfl | assumption) (by ktr_room) (by ktr_units) ?_
  intro t9 h9 tk9 F9 N9
  walk_at "STEPS"
  (try dsimp only)
  (with_reducible rename Fr _ _ _ _ => F1); (with_reducible rename News _ _ _ _ => N1)
  refine execs_consG (assign_G (evalCut_G (optInt (foundI key)) F1 N1 ?_ ?_) rfl rfl)
  · refine ifExp_G (wpG_of ?_)
    walk_at "STEPS"
    · refine wpG_of ?_
      walk_at "STEPS"
      all_goals exact ⟨_, _, rfl, by rw [found_syl ‹_›]; assumption, by assumption, by assumption⟩
    · refine callF_G (K := Internal.hd0.heap_1 w.params) ?_ (by exact rfl) (by exact rfl) (by exact rfl)
      walk_at "STEPS"
      refine FnG.use (range_ok key _ _ h0 hno) (by k_asm) (by k_asm) (by k_asm) (by k_asm) (by k_asm) (by first | exact rfl | assumption) (by ktr_room) (by ktr_units) ?_
      rintro r9 nw9 h9 tk9 ⟨e9, z9⟩ F9 N9
      rw [z9] at N9
      exact ⟨_, _, rfl, by rw [found_rng ‹_›]; exact e9, F9, N9⟩
  · rintro v h2 tk2 hv F2 N2
    cases hf : foundI key with
    | none =>
      rw [hf] at hv
      have hv : v = .none := hv
      subst hv
      walk_at "STEPS"
      (try dsimp only)
      refine execs_consG (if_G (wpG_of ?_))
      walk_at "STEPS"
      · (try dsimp only)
        have hlD : (cut key (some 1) (some (-1))).length ≤ 16777216 := Nat.le_trans (cut_length _ _ _) (by omega)
        refine execs_consG (wpG_of ?_)
        walk_at "STEPS"
        (try dsimp only)
        refine execs_consG (wpG_of ?_)
        walk_at "STEPS"
        (try dsimp only)
        (with_reducible rename Fr g' _ _ _ => F7); (with_reducible rename News g' _ _ _ => N7)
        refine execs_consG (while_T (y := (Str.ofString "at")) (f := (Str.ofString "code")) (k₀ := (cut key (some 1) (some (-1))).length) (P := fun k => k ≤ (cut key (some 1) (some (-1))).length ∧ labGo (cut key (some 1) (some (-1))) key k = labI key) ⟨_, g', _, _, _, rfl, KtsTurn.refl, F7, N7, B', X', T', D', rfl, fun _ _ _ => rfl, Nat.le_refl _, rfl⟩ ?_ rfl)
        clear F7 N7
        intro k tk vk g2 h2 tk2 T2 F2 N2 B2 X2 TT2 D2 hP
        obtain ⟨hP1, hP2⟩ := hP
        refine wpG_of ?_
        walk_at "STEPS"
        rotate_left
        · (try dsimp only)
          refine wpG_of ?_
          walk_at "STEPS"
          (with_reducible rename List.contains _ _ = false => hc7)
          exact hret _ _ _ _ _ ⟨by rw [rk_lab hf ‹_› ‹_›, ← hP2]; rw [lab_stop (by omega) hc7]; exact rfl, rfl⟩ ‹_› ‹_› (newsWeak ‹_› (fun p hp => by walk_at "SUB")) ‹_› ‹_› ‹_› ‹_›
        · (try dsimp only)
          refine wpG_of ?_
          walk_at "STEPS"
          exact hret _ _ _ _ _ ⟨by rw [rk_lab hf ‹_› ‹_›, ← hP2, show k = 0 from by omega]; exact rfl, rfl⟩ ‹_› ‹_› (newsWeak ‹_› (fun p hp => by walk_at "SUB")) ‹_› ‹_› ‹_› ‹_›
        obtain ⟨j, rfl⟩ : ∃ j, k = j + 1 := ⟨k - 1, by omega⟩
        have ej : ((j + 1 : Nat) : Int) - 1 = (j : Int) := by omega
        (try dsimp only)
        refine execs_consG (wpG_of ?_)
        walk_at "STEPS"
        (try dsimp only)
        (with_reducible rename Fr g2 _ _ _ => F7)
        (with_reducible rename List.contains _ _ = true => hc7)
        rw [ej] at F7 hc7
        have hl7 : (cut (cut key (some 1) (some (-1))) (some (j : Int)) none).length ≤ 100 := Nat.le_trans (cut_length _ _ _) (Nat.le_trans (cut_length _ _ _) h0)
        cases hov : overB (cut (cut key (some 1) (some (-1))) (some (j : Int)) none) with
        | true =>
          refine execs_consG (wpG_of ?_)
          walk_at "STEPS"
          (try dsimp only)
          refine execs_consG (if_G (isTrueBool_G (and_cons_G (wpG_of ?_))))
          walk_at "STEPS"
          (try dsimp only)
          refine execs_nilG ?_
          (try dsimp only)
          refine execs_nilG ?_
          exact WT.mk (j := j) (by omega) (T2.trans ‹_›) ‹_› ‹_› ‹_› ‹_› ‹_› ‹_› rfl (fun z h1 h2 => by simp +zetaDelta only [if_neg h1, if_neg h2]) ⟨by omega, by rw [← hP2]; exact (lab_next hc7 (nf_over hov).1).symm⟩
        | false =>
          cases hnm : numF (cut (cut key (some 1) (some (-1))) (some (j : Int)) none) with
          | none =>
            refine execs_consG (wpG_of ?_)
            walk_at "STEPS"
            (try dsimp only)
            refine execs_consG (if_G (isTrueBool_G (and_cons_G (wpG_of ?_))))
            walk_at "STEPS"
            (try dsimp only)
            refine execs_nilG ?_
            (try dsimp only)
            refine execs_nilG ?_
            exact WT.mk (j := j) (by omega) (T2) ‹_› ‹_› ‹_› ‹_› ‹_› ‹_› rfl (fun z h1 h2 => by simp +zetaDelta only [if_neg h1, if_neg h2]) ⟨by omega, by rw [← hP2]; exact (lab_next hc7 hnm).symm⟩
          | some c =>
            have hfr := num_range hnm
            refine execs_consG (wpG_of ?_)
            walk_at "STEPS"
            (try dsimp only)
            refine execs_consG (if_G (isTrueBool_G (and_cons_G (wpG_of ?_))))
            walk_at "STEPS"
            (try dsimp only)
            cases ho : ownI c with
            | some n =>
              refine and_cons_G (wpG_of ?_)
              walk_at "STEPS"
              (try dsimp only)
              refine execs_nilG ?_
              (try dsimp only)
              refine execs_nilG ?_
              exact WT.mk (j := j) (by omega) (T2) ‹_› ‹_› ‹_› ‹_› ‹_› ‹_› rfl (fun z h1 h2 => by simp +zetaDelta only [if_neg h1, if_neg h2]) ⟨by omega, by rw [← hP2]; exact (lab_else hc7 hnm (by rw [ho]; rfl)).symm⟩
            | none =>
              refine and_cons_G (wpG_of ?_)
              walk_at "STEPS"
              (try dsimp only)
              refine and_cons_G (isTrueCompare_G ?_)
              refine callF_G (K := Internal.hd0.heap_1 w.params) ?_ (by exact rfl) (by exact rfl) (by exact rfl)
              walk_at "STEPS"
              refine FnG.useE (key_ok (labelI c) _ _ (label_len c)) (by k_asm) (by k_asm) (by k_asm) (by k_asm) (by k_asm) (by first | exact rfl | assumption) (by ktr_room) (by ktr_units) ?_
              intro t9 h9 tk9 F9 N9
              walk_at "STEPS"
              · refine allTrue_nil_G ?_
                rw [if_pos (by rfl)]
                refine wpG_of ?_
                walk_at "STEPS"
                dsimp only [loopR]
                walk_at "STEPS"
                exact hret _ _ _ _ _ ⟨by rw [rk_lab hf ‹_› ‹_›, ← hP2, lab_yes hc7 hnm (by rw [ho, show (keyB (labelI c) == key) = true from by assumption]; rfl)]; exact ⟨_, rfl⟩, rfl⟩ ‹_› ‹_› (newsWeak ‹_› (fun p hp => by walk_at "SUB")) ‹_› ‹_› ‹_› ‹_›
              · (try dsimp only)
                refine execs_nilG ?_
                (try dsimp only)
                refine execs_nilG ?_
                exact WT.mk (j := j) (by omega) (T2) ‹_› ‹_› ‹_› ‹_› ‹_› ‹_› rfl (fun z h1 h2 => by simp +zetaDelta only [if_neg h1, if_neg h2]) ⟨by omega, by rw [← hP2]; exact (lab_else hc7 hnm (by rw [ho, show (keyB (labelI c) == key) = false from by assumption]; rfl)).symm⟩
      all_goals ((try dsimp only); refine execs_nilG ?_; (try dsimp only); refine wpG_of ?_; walk_at "STEPS")
      · exact hret _ _ _ _ _ ⟨by rw [rk_none hf (by first | (rw [show (List.take 1 key == [60]) = false from by assumption]; rfl) | (rw [show endsB key = false from by assumption]; exact Bool.and_false _))]; exact rfl, rfl⟩ KtsTurn.refl ‹_› (newsWeak ‹_› (fun p hp => by walk_at "SUB")) B X T Dk
      · exact hret _ _ _ _ _ ⟨by rw [rk_none hf (by first | (rw [show (List.take 1 key == [60]) = false from by assumption]; rfl) | (rw [show endsB key = false from by assumption]; exact Bool.and_false _))]; exact rfl, rfl⟩ KtsTurn.refl ‹_› (newsWeak ‹_› (fun p hp => by walk_at "SUB")) B X T Dk
    | some f =>
      rw [hf] at hv
      obtain ⟨tf, rfl⟩ := hv
      have hfr := found_range hf
      walk_at "STEPS"
      (try dsimp only)
      refine execs_consG (if_G (wpG_of ?_))
      walk_at "STEPS"
      (try dsimp only)
      refine execs_nilG ?_
      (try dsimp only)
      refine execs_consG (if_G (wpG_of ?_))
      walk_at "STEPS"
      cases ho : ownI f with
      | none =>
        refine wpG_of ?_
        walk_at "STEPS"
        all_goals exact hret _ _ _ _ _ ⟨by rw [rk_no hf ho]; exact rfl, rfl⟩ KtsTurn.refl ‹_› (newsWeak ‹_› (fun p hp => by walk_at "SUB")) B X T Dk
      | some n =>
        refine execs_consG (wpG_of ?_)
        walk_at "STEPS"
        (try dsimp only)
        refine execs_consG (return_G (ifExp_G (isTrueBool_G (and_cons_G (wpG_of ?_)))))
        walk_at "STEPS"
        refine and_cons_G (isTrueCompare_G ?_)
        refine callF_G (K := Internal.hd0.heap_1 w.params) ?_ (by exact rfl) (by exact rfl) (by exact rfl)
        walk_at "STEPS"
        refine FnG.useE (key_ok n _ _ (own_len ho)) (by k_asm) (by k_asm) (by k_asm) (by k_asm) (by k_asm) (by first | exact rfl | assumption) (by ktr_room) (by ktr_units) ?_
        intro t9 h9 tk9 F9 N9
        walk_at "STEPS"
        · refine allTrue_nil_G ?_
          rw [if_pos (by rfl)]
          refine wpG_of ?_
          walk_at "STEPS"
          all_goals exact hret _ _ _ _ _ ⟨by rw [rk_yes hf ho ‹_›]; exact ⟨_, rfl⟩, rfl⟩ KtsTurn.refl ‹_› (newsWeak ‹_› (fun p hp => by walk_at "SUB")) B X T Dk
        · refine wpG_of ?_
          walk_at "STEPS"
          all_goals exact hret _ _ _ _ _ ⟨by rw [rk_else hf ho ‹_›]; exact rfl, rfl⟩ KtsTurn.refl ‹_› (newsWeak ‹_› (fun p hp => by walk_at "SUB")) B X T Dk
end
theorem reck_s {key : List UInt8} {c : Int} (e : reckI key = some c) (w : World) (news : List (Addr × Obj)) (xD : Addr) (t : Tok) (h0 : key.length ≤ 100) (hD : DataIn w xD news) (hno : noOver key = true) : FnGT w 40 209 [.bytes key.toArray t, .ref xD] news (Pure news (IsInt c)) := by have h := reck_ok key w news xD t h0 hD hno; rw [e] at h; exact h
theorem reck_n {key : List UInt8} (e : reckI key = none) (w : World) (news : List (Addr × Obj)) (xD : Addr) (t : Tok) (h0 : key.length ≤ 100) (hD : DataIn w xD news) (hno : noOver key = true) : FnGT w 40 209 [.bytes key.toArray t, .ref xD] news (Pure news (fun r => r = .none)) := by have h := reck_ok key w news xD t h0 hD hno; rw [e] at h; exact h
end Internal
namespace Internal
theorem medial3_no {l : List UInt8} {i : Nat} {c : UInt8} (h : c ≠ 45) : medial3 l i c = (c == 32 || c == 95) := by
  unfold medial3
  rw [show (c == 45) = false from by simpa using h]
  simp
theorem plain_one (c : UInt8) : plainB [c] = (plainC c).toList := by
  unfold plainB
  rw [List.filterMap_cons]
  cases plainC c <;> rfl
theorem plain_app (a b : List UInt8) : plainB (a ++ b) = plainB a ++ plainB b := List.filterMap_append
theorem keyFold_plain {l : List UInt8} (h : ∀ c ∈ l, c ≠ 45) : ∀ n, n ≤ l.length → keyFold l n = (plainB (l.take n), -1)
  | 0, _ => rfl
  | n + 1, hn => by
    have hlt : n < l.length := hn
    have e : l.getD n 0 = l[n] := by rw [List.getD_eq_getElem?_getD, List.getElem?_eq_getElem hlt]; rfl
    have hc : l[n] ≠ 45 := h _ (List.getElem_mem hlt)
    rw [key_succ, keyFold_plain h n (Nat.le_of_lt hn), List.take_add_one, plain_app, List.getElem?_eq_getElem hlt]
    show keyStep l (plainB (l.take n), -1) n = (plainB (l.take n) ++ plainB [l[n]], -1)
    rw [plain_one]
    unfold keyStep
    rw [e]
    dsimp only
    rw [medial3_no hc]
    by_cases q : (l[n] == 32 || l[n] == 95) = true
    · rw [if_pos q, if_neg hc]
      have : plainC l[n] = none := by
        unfold plainC
        rw [if_pos]
        rw [Bool.or_eq_true, beq_iff_eq, beq_iff_eq] at q
        rcases q with q | q
        · exact .inl q
        · exact .inr (.inr q)
      rw [this]; simp
    · rw [if_neg q]
      have : plainC l[n] = some (capC l[n]) := by
        unfold plainC
        rw [if_neg]
        · rfl
        · rintro (z | z | z)
          · rw [z] at q; exact q rfl
          · exact hc z
          · rw [z] at q; exact q rfl
      rw [this]; rfl
theorem keyB_plain {l : List UInt8} (h : ∀ c ∈ l, c ≠ 45) : keyB l = plainB l := by
  unfold keyB
  rw [keyFold_plain h _ (Nat.le_refl _), List.take_length]
  dsimp only
  rw [if_neg]
  rintro ⟨_, z, _⟩
  exact absurd z (by decide)
noncomputable def CAPS : List UInt8 := [32, 65, 66, 67, 68, 69, 70, 71, 72, 73, 74, 75, 76, 77, 78, 79, 80, 81, 82, 83, 84, 85, 86, 87, 88, 89, 90]
theorem caps_no {c : UInt8} (h : c ∈ CAPS) : c ≠ 45 := by
  have : ∀ c ∈ CAPS, c ≠ 45 := by decide +kernel
  exact this c h
theorem caps_low {c : UInt8} (h : c ∈ CAPS) : lowC c ≠ 45 ∧ plainC (lowC c) = plainC c := by
  have : ∀ c ∈ CAPS, lowC c ≠ 45 ∧ plainC (lowC c) = plainC c := by decide +kernel
  exact this c h
theorem plain_low : ∀ {l : List UInt8}, (∀ c ∈ l, c ∈ CAPS) → plainB (l.map lowC) = plainB l
  | [], _ => rfl
  | c :: l, h => by
    unfold plainB
    rw [List.map_cons, List.filterMap_cons, List.filterMap_cons, (caps_low (h c (List.Mem.head _))).2]
    have ih := plain_low (l := l) fun x hx => h x (List.Mem.tail _ hx)
    unfold plainB at ih
    rw [ih]
theorem plain_subst {new : List UInt8} (hn : plainB new = []) : ∀ l : List UInt8, plainB (subst 32 new l) = plainB l
  | [] => rfl
  | c :: l => by
    unfold subst
    rw [List.flatMap_cons, plain_app]
    have ih := plain_subst hn l
    unfold subst at ih
    rw [ih, show c :: l = [c] ++ l from rfl, plain_app]
    by_cases q : c = 32
    · rw [if_pos q, hn, q]; rfl
    · rw [if_neg q]
theorem subst_no {new l : List UInt8} (hn : ∀ c ∈ new, c ≠ 45) (h : ∀ c ∈ l, c ∈ CAPS) : ∀ c ∈ subst 32 new l, c ≠ 45 := by
  intro c hc
  unfold subst at hc
  obtain ⟨x, hx, hc⟩ := List.mem_flatMap.mp hc
  split at hc
  · exact hn c hc
  · rw [List.mem_singleton.mp hc]; exact caps_no (h x hx)
theorem loose_key {l l' : List UInt8} (h : ∀ c ∈ l, c ∈ CAPS) (e : LooseOf l l') : keyB l' = plainB l := by
  rcases e with rfl | rfl | rfl | rfl
  · rw [keyB_plain, plain_low h]
    intro c hc
    obtain ⟨x, hx, rfl⟩ := List.mem_map.mp hc
    exact (caps_low (h x hx)).1
  · rw [keyB_plain (subst_no (by decide) h), plain_subst (by decide)]
  · rw [keyB_plain (subst_no (by decide) h), plain_subst (by decide)]
  · rw [keyB_plain (subst_no (by decide) h), plain_subst (by decide)]
theorem loose_len {l l' : List UInt8} (e : LooseOf l l') : l'.length ≤ 2 * l.length := by
  have hs : ∀ (new : List UInt8), new.length ≤ 2 → ∀ l : List UInt8, (subst 32 new l).length ≤ 2 * l.length := by
    intro new hn l
    induction l with
    | nil => exact Nat.le_refl _
    | cons c l ih =>
      unfold subst at ih ⊢
      rw [List.flatMap_cons, List.length_append, List.length_cons]
      split
      · exact Nat.le_trans (Nat.add_le_add hn ih) (Nat.le_of_eq ((Nat.add_comm _ _).trans (Nat.mul_succ 2 _).symm))
      · exact Nat.le_trans (Nat.add_le_add (by decide : 1 ≤ 2) ih) (Nat.le_of_eq ((Nat.add_comm _ _).trans (Nat.mul_succ 2 _).symm))
  rcases e with rfl | rfl | rfl | rfl
  · rw [List.length_map]; exact Nat.le_mul_of_pos_left _ (by decide)
  · exact hs _ (by decide) _
  · exact hs _ (by decide) _
  · exact hs _ (by decide) _
theorem mem_getD {ls : List (List UInt8)} {p : List UInt8 → Prop} (h : ∀ x ∈ ls, p x) (h0 : p []) (i : Nat) : p (ls.getD i []) := by
  rw [List.getD_eq_getElem?_getD]
  cases e : ls[i]? with
  | none => exact h0
  | some x => exact h x (List.mem_of_getElem? e)
theorem syl_caps (l v t : Nat) : ∀ c ∈ SYL ++ sylB l v t, c ∈ CAPS := by
  intro c hc
  rcases List.mem_append.mp hc with hc | hc
  · exact (show ∀ c ∈ SYL, c ∈ CAPS by decide +kernel) c hc
  · unfold sylB at hc
    rcases List.mem_append.mp hc with hc | hc
    · rcases List.mem_append.mp hc with hc | hc
      · exact mem_getD (p := fun x => ∀ c ∈ x, c ∈ CAPS) (by decide +kernel) (fun _ h => nomatch h) l c hc
      · exact mem_getD (p := fun x => ∀ c ∈ x, c ∈ CAPS) (by decide +kernel) (fun _ h => nomatch h) v c hc
    · exact mem_getD (p := fun x => ∀ c ∈ x, c ∈ CAPS) (by decide +kernel) (fun _ h => nomatch h) t c hc
theorem plain_id : ∀ {l : List UInt8}, (∀ c ∈ l, plainC c = some c) → plainB l = l
  | [], _ => rfl
  | c :: l, h => by
    have ih := plain_id (l := l) fun x hx => h x (List.Mem.tail _ hx)
    unfold plainB at ih ⊢
    rw [List.filterMap_cons, h c (List.Mem.head _), ih]
theorem plain_syl (l v t : Nat) : plainB (SYL ++ sylB l v t) = HSB ++ sylB l v t := by
  rw [plain_app, show plainB SYL = HSB by decide +kernel]
  congr 1
  apply plain_id
  intro c hc
  unfold sylB at hc
  rcases List.mem_append.mp hc with hc | hc
  · rcases List.mem_append.mp hc with hc | hc
    · exact mem_getD (p := fun x => ∀ c ∈ x, plainC c = some c) (by decide +kernel) (fun _ h => nomatch h) l c hc
    · exact mem_getD (p := fun x => ∀ c ∈ x, plainC c = some c) (by decide +kernel) (fun _ h => nomatch h) v c hc
  · exact mem_getD (p := fun x => ∀ c ∈ x, plainC c = some c) (by decide +kernel) (fun _ h => nomatch h) t c hc
theorem tw_app {p : UInt8 → Bool} : ∀ {a b : List UInt8}, (∀ c ∈ a, p c = true) → (b = [] ∨ p (b.headD 0) = false) → (a ++ b).takeWhile p = a
  | [], [], _, _ => rfl
  | [], c :: r, _, h => by
    rcases h with h | h
    · cases h
    · rw [List.nil_append, List.takeWhile_cons, show p c = false from h]; rfl
  | x :: a, b, h, hb => by
    rw [List.cons_append, List.takeWhile_cons, h x (List.Mem.head _)]
    simp only [if_true]
    rw [tw_app (fun c hc => h c (List.Mem.tail _ hc)) hb]
theorem codeT_parts {a b c : List UInt8} (ha : ∀ x ∈ a, isV x = false) (hb : ∀ x ∈ b, isV x = true) (hb0 : isV (b.headD 0) = true) (hc : c = [] ∨ isV (c.headD 0) = false) :
    codeT (a ++ (b ++ c)) = if leadsB.contains a && vowels0.contains b && tailsB.contains c then some ((44032 : Int) + (((leadsB.idxOf a : Nat) : Int) * 21 + ((vowels0.idxOf b : Nat) : Int)) * 28 + ((tailsB.idxOf c : Nat) : Int)) else none := by
  have hN : headN (a ++ (b ++ c)) = a.length := by
    unfold headN
    rw [tw_app (fun x hx => by rw [ha x hx]; rfl)]
    right
    cases b with
    | nil => exact absurd hb0 (by decide)
    | cons y r => show (!isV y) = false; rw [show isV y = true from hb0]; rfl
  have hV : (b ++ c).takeWhile isV = b := tw_app hb hc
  have hB : bodyN (a ++ (b ++ c)) = a.length + b.length := by
    unfold bodyN
    rw [hN, List.drop_left, hV]
  unfold codeT
  rw [hN, hB, List.take_left, List.drop_left, hV, show (a ++ (b ++ c)).drop (a.length + b.length) = c from by
    rw [← List.append_assoc, ← List.length_append, List.drop_left]]
theorem lead_at {l : Nat} (h : l < 19) : leadsB.contains (leadsB.getD l []) = true ∧ leadsB.idxOf (leadsB.getD l []) = l := by
  have : ∀ l ∈ List.range 19, leadsB.contains (leadsB.getD l []) = true ∧ leadsB.idxOf (leadsB.getD l []) = l := by decide +kernel
  exact this l (List.mem_range.mpr h)
theorem vowel_at {l : Nat} (h : l < 21) : vowels0.contains (vowels0.getD l []) = true ∧ vowels0.idxOf (vowels0.getD l []) = l ∧ isV ((vowels0.getD l []).headD 0) = true := by
  have : ∀ l ∈ List.range 21, vowels0.contains (vowels0.getD l []) = true ∧ vowels0.idxOf (vowels0.getD l []) = l ∧ isV ((vowels0.getD l []).headD 0) = true := by decide +kernel
  exact this l (List.mem_range.mpr h)
theorem tail_at {l : Nat} (h : l < 28) : tailsB.contains (tailsB.getD l []) = true ∧ tailsB.idxOf (tailsB.getD l []) = l ∧ (tailsB.getD l [] = [] ∨ isV ((tailsB.getD l []).headD 0) = false) := by
  have : ∀ l ∈ List.range 28, tailsB.contains (tailsB.getD l []) = true ∧ tailsB.idxOf (tailsB.getD l []) = l ∧ (tailsB.getD l [] = [] ∨ isV ((tailsB.getD l []).headD 0) = false) := by decide +kernel
  exact this l (List.mem_range.mpr h)
theorem tail_more {l : Nat} (h : l < 28) {x : UInt8} (hx : x = 88 ∨ x = 81 ∨ x = 48) : tailsB.contains (tailsB.getD l [] ++ [x]) = false ∧ isV ((tailsB.getD l [] ++ [x]).headD 0) = false := by
  have : ∀ l ∈ List.range 28, ∀ x ∈ ([88, 81, 48] : List UInt8), tailsB.contains (tailsB.getD l [] ++ [x]) = false ∧ isV ((tailsB.getD l [] ++ [x]).headD 0) = false := by decide +kernel
  exact this l (List.mem_range.mpr h) x (by rcases hx with h | h | h <;> simp [h])
theorem lead_noV (l : Nat) : ∀ x ∈ leadsB.getD l [], isV x = false := mem_getD (p := fun y => ∀ x ∈ y, isV x = false) (by decide +kernel) (fun _ h => nomatch h) l
theorem vowel_V (l : Nat) : ∀ x ∈ vowels0.getD l [], isV x = true := mem_getD (p := fun y => ∀ x ∈ y, isV x = true) (by decide +kernel) (fun _ h => nomatch h) l
theorem codeT_syl {l v t : Nat} (hl : l < 19) (hv : v < 21) (ht : t < 28) : codeT (sylB l v t) = some ((44032 : Int) + ((l : Int) * 21 + (v : Int)) * 28 + (t : Int)) := by
  unfold sylB
  rw [List.append_assoc, codeT_parts (lead_noV l) (vowel_V v) (vowel_at hv).2.2 (tail_at ht).2.2, (lead_at hl).1, (lead_at hl).2, (vowel_at hv).1, (vowel_at hv).2.1, (tail_at ht).1, (tail_at ht).2.1]
  rfl
theorem codeT_more {l v t : Nat} (hv : v < 21) (ht : t < 28) {x : UInt8} (hx : x = 88 ∨ x = 81 ∨ x = 48) : codeT (sylB l v t ++ [x]) = none := by
  unfold sylB
  rw [List.append_assoc, List.append_assoc, codeT_parts (lead_noV l) (vowel_V v) (vowel_at hv).2.2 (.inr (tail_more ht hx).2), (tail_more ht hx).1]
  simp
theorem found_hsb (r : List UInt8) : foundI (HSB ++ r) = codeT r := by
  rw [found_syl (by rw [List.take_left]; decide), cut_from, List.drop_left]
theorem own_chk : ∀ (l : Fin 19) (v : Fin 21) (t : Fin 28), ((44032 : Int) + (((l.val : Nat) : Int) * 21 + ((v.val : Nat) : Int)) * 28 + ((t.val : Nat) : Int) - 44032).fdiv (21 * 28) = ((l.val : Nat) : Int) ∧ (((44032 : Int) + (((l.val : Nat) : Int) * 21 + ((v.val : Nat) : Int)) * 28 + ((t.val : Nat) : Int) - 44032).fdiv 28).fmod 21 = ((v.val : Nat) : Int) ∧
    ((44032 : Int) + (((l.val : Nat) : Int) * 21 + ((v.val : Nat) : Int)) * 28 + ((t.val : Nat) : Int) - 44032).fmod 28 = ((t.val : Nat) : Int) ∧ isSylI ((44032 : Int) + (((l.val : Nat) : Int) * 21 + ((v.val : Nat) : Int)) * 28 + ((t.val : Nat) : Int)) = true := by decide +kernel
theorem own_at {l v t : Nat} (hl : l < 19) (hv : v < 21) (ht : t < 28) : ownI ((44032 : Int) + ((l : Int) * 21 + (v : Int)) * 28 + (t : Int)) = some (SYL ++ sylB l v t) := by
  obtain ⟨k1, k2, k3, k4⟩ := own_chk ⟨l, hl⟩ ⟨v, hv⟩ ⟨t, ht⟩
  apply own_syl
  unfold tailI
  rw [if_pos k4]
  exact congrArg some (congr (congrArg HAppend.hAppend (congr (congrArg HAppend.hAppend (congrArg (fun n => leadsB.getD (Int.toNat n) []) k1)) (congrArg (fun n => vowels0.getD (Int.toNat n) []) k2))) (congrArg (fun n => tailsB.getD (Int.toNat n) []) k3))
theorem own_atI {x y z : Int} (h : 0 ≤ x ∧ x < 19 ∧ 0 ≤ y ∧ y < 21 ∧ 0 ≤ z ∧ z < 28) : ownI (44032 + (x * 21 + y) * 28 + z) = some (SYL ++ sylB x.toNat y.toNat z.toNat) := by
  have := own_at (l := x.toNat) (v := y.toNat) (t := z.toNat) ((Int.toNat_lt h.1).mpr h.2.1) ((Int.toNat_lt h.2.2.1).mpr h.2.2.2.1) ((Int.toNat_lt h.2.2.2.2.1).mpr h.2.2.2.2.2)
  rwa [Int.toNat_of_nonneg h.1, Int.toNat_of_nonneg h.2.2.1, Int.toNat_of_nonneg h.2.2.2.2.1] at this
theorem reck_syl {x y z : Int} (h : 0 ≤ x ∧ x < 19 ∧ 0 ≤ y ∧ y < 21 ∧ 0 ≤ z ∧ z < 28) : reckI (plainB (SYL ++ sylB x.toNat y.toNat z.toNat)) = some (44032 + (x * 21 + y) * 28 + z) := by
  have hf : foundI (HSB ++ sylB x.toNat y.toNat z.toNat) = some (44032 + (x * 21 + y) * 28 + z) := by
    rw [found_hsb]
    have := codeT_syl (l := x.toNat) (v := y.toNat) (t := z.toNat) ((Int.toNat_lt h.1).mpr h.2.1) ((Int.toNat_lt h.2.2.1).mpr h.2.2.2.1) ((Int.toNat_lt h.2.2.2.2.1).mpr h.2.2.2.2.2)
    rwa [Int.toNat_of_nonneg h.1, Int.toNat_of_nonneg h.2.2.1, Int.toNat_of_nonneg h.2.2.2.2.1] at this
  rw [plain_syl]
  refine rk_yes hf (own_atI h) ?_
  rw [keyB_plain (fun c hc => caps_no (syl_caps _ _ _ c hc)), plain_syl]
  exact beq_self_eq_true _
theorem reck_more {x y z : Int} (h : 0 ≤ x ∧ x < 19 ∧ 0 ≤ y ∧ y < 21 ∧ 0 ≤ z ∧ z < 28) {k : UInt8} (hk : k = 88 ∨ k = 81 ∨ k = 48) : reckI (plainB (SYL ++ sylB x.toNat y.toNat z.toNat) ++ [k]) = none := by
  rw [plain_syl, List.append_assoc]
  refine rk_none (by rw [found_hsb, codeT_more (by omega) (by omega) hk]) ?_
  rfl
theorem noOver_h {r : List UInt8} : noOver (HSB ++ r) = true := by
  unfold noOver
  rw [List.all_eq_true]
  intro p hp
  have h : ∀ p ∈ rangesL, headOf p.2 ≠ [] ∧ (headOf p.2).headD 0 ≠ 72 := by decide +kernel
  obtain ⟨h1, h2⟩ := h p hp
  cases e : headOf p.2 with
  | nil => exact absurd e h1
  | cons y q =>
    rw [e] at h2
    have : ((HSB ++ r).take (y :: q).length == y :: q) = false := by
      show (72 :: ([65, 78, 71, 85, 76, 83, 89, 76, 76, 65, 66, 76, 69] ++ r).take q.length == y :: q) = false
      have h3 : (72 == y) = false := by
        rw [beq_eq_false_iff_ne]; intro z; exact h2 z.symm
      show ((72 == y) && _) = false
      rw [h3]; rfl
    rw [this]; rfl
theorem noOver_s (l v t : Nat) : noOver (plainB (SYL ++ sylB l v t)) = true := by rw [plain_syl]; exact noOver_h
theorem noOver_sm (l v t : Nat) (k : UInt8) : noOver (plainB (SYL ++ sylB l v t) ++ [k]) = true := by rw [plain_syl, List.append_assoc]; exact noOver_h
end Internal
namespace Internal
noncomputable def loose4 (l : List UInt8) : List (List UInt8) := [l.map lowC, subst 32 [95] l, subst 32 [32, 32] l, subst 32 [32] l]
theorem loose_in {l l' : List UInt8} (h : LooseOf l l') : l' ∈ loose4 l := by
  rcases h with rfl | rfl | rfl | rfl <;> simp [loose4]
noncomputable def chk1 (p : List UInt8 × Int × Bool) : Bool :=
  let nm := p.1 ++ hexB p.2.1
  let key := plainB nm
  decide (ownI p.2.1 = if p.2.2 then some nm else none) && (loose4 nm).all (fun l => keyB l == key && decide (l.length ≤ 100)) && noOver key && decide (rangeI key = some p.2.1) && noOver (cut key (some 1) none) && decide (rangeI (cut key (some 1) none) = none) && decide (reckI key = if p.2.2 then some p.2.1 else none) && decide (key.length ≤ 100) && decide (nm.length ≤ 100) && decide (0 ≤ p.2.1 ∧ p.2.1 < 1099511627776)
theorem chk1_all : ideoL.all chk1 = true := by decide +kernel
noncomputable def otherL : List (List UInt8) := [[60, 67, 79, 78, 84, 82, 79, 76], [60, 80, 82, 73, 86, 65, 84, 69, 85, 83, 69], [60, 83, 85, 82, 82, 79, 71, 65, 84, 69], [60, 78, 79, 78, 67, 72, 65, 82, 65, 67, 84, 69, 82], [60, 82, 69, 83, 69, 82, 86, 69, 68]]
noncomputable def chk2 (p : List UInt8 × Int) : Bool :=
  let lab := labelB p.1 p.2
  let key := plainB lab
  decide (p.2 ≠ 65 → labelI p.2 = lab ∧ ownI p.2 = none) && decide (keyB lab = key) && noOver key && decide (reckI key = if p.2 ≠ 65 then some p.2 else none) && otherL.all (fun o => let k := o ++ hexB p.2 ++ [62]; noOver k && decide (k.length ≤ 100) && decide (reckI k = if k = key ∧ p.2 ≠ 65 then some p.2 else none)) && noOver (cut key (some 1) (some (-1))) && decide (reckI (cut key (some 1) (some (-1))) = none) && decide (key.length ≤ 100) && decide (lab.length ≤ 100) && decide (0 ≤ p.2 ∧ p.2 < 1099511627776)
theorem chk2_all : loneL.all chk2 = true := by decide +kernel
noncomputable def figsL : List (List UInt8) := [[48, 48, 48, 57], [52, 49], [48, 48, 48, 52, 49], [49, 70, 54, 48, 48], [49, 48, 70, 70, 70, 70], [49, 49, 48, 48, 48, 48], [52, 101, 48, 48], [68, 56, 48, 48], [71, 48, 48, 48], [48, 49, 50, 51, 52, 53], [], [70, 70, 70, 70, 70, 70, 70]]
end Internal
namespace Internal
theorem syl_facts {x y z : Int} (h : 0 ≤ x ∧ x < 19 ∧ 0 ≤ y ∧ y < 21 ∧ 0 ≤ z ∧ z < 28) : ∃ nm cd, SYL ++ sylB x.toNat y.toNat z.toNat = nm ∧ 44032 + (x * 21 + y) * 28 + z = cd ∧ ownI cd = some nm ∧ (0 ≤ cd ∧ cd < 1099511627776) ∧ nm.length ≤ 28 ∧ (∀ c ∈ nm, c ∈ CAPS) ∧ reckI (plainB nm) = some cd ∧ noOver (plainB nm) = true ∧ (∀ k : UInt8, k = 88 ∨ k = 81 ∨ k = 48 → reckI (plainB nm ++ [k]) = none) ∧ (∀ k : UInt8, noOver (plainB nm ++ [k]) = true) :=
  ⟨_, _, rfl, rfl, own_atI h, code_rgI h, by rw [List.length_append]; exact Nat.add_le_add_left (sylB_len _ _ _) 16, syl_caps _ _ _, reck_syl h, noOver_s _ _ _, fun k hk => reck_more h hk, fun k => noOver_sm _ _ _ k⟩
theorem ne_self {l : List UInt8} : ((l.toArray.toList != l.toArray.toList) = true) → False := by simp
section
theorem syl_right (w : World) (K : Nat) (rest : List (Addr × Obj)) (d c xD : Addr) (o lo : Obj) (hK : K ≤ 700) (hDk : DeckIs w K d c o lo) (hd1 : ∀ p ∈ rest, p.1 ≠ d) (hc1 : ∀ p ∈ rest, p.1 ≠ c) (hX : DataIn w xD rest) : FnGT w 60 395 [.ref d, .ref xD] ((d, o) :: (c, lo) :: rest) (fun r _ => r = .bool true) := by
  k_with_none
  k_with "FOLD" => ((fail_if_success (fail_if_success k_fold)); (try ((with_reducible rename Fr _ _ _ _ => Fz); (fail_if_success (with_reducible have : Fr _ _ _ mk := Fz)); (with_reducible refine let mk := _; have Fy : Fr _ _ _ mk := Fz; ?_); clear Fz)); (try ((with_reducible rename News _ _ _ _ => Nz); (fail_if_success (with_reducible have : News _ _ _ lk := Nz)); (with_reducible refine let lk := _; have Ny : News _ _ _ lk := Nz; ?_); clear Nz)); with_reducible refine let qk := _; let ek := _; (?_ : wpAny _ _ _ qk ek _))
  k_with "STEPS" => ((try walk_at "FOLD"); repeat' (first | (k_unfold; (try dsimp only)) | (k_end; wrow_close) | (walk1; all_goals (try ((fail_if_success (with_reducible show wpAny _ _ (subscriptTail _ _ _ _) _ _ _)); dsimp only)); all_goals (try ((with_reducible first | show wpAny _ _ (exec _ _) _ _ _ | show wpAny _ _ (execs _ _) _ _ _); (try ((with_reducible first | refine genTok ?_ | refine genTokS ?_); intro tkG)); (try walk_at "FOLD")))) | (dsimp only; walk1)))
  k_with "ROOM" => (first | exact U0 ‹_› | exact U1 ‹_› (by exact rfl) | exact U2 ‹_› (by exact rfl) | exact U3 ‹_› (by exact rfl) | ((simp +zetaDelta only [depth_under_make, depth_under_kw, depth_in1, depth_deeper, depth_caller]); (try dsimp only [ktrTop]); first | omega | decide +kernel))
  k_with "UNITS" => (first | exact U1 ‹_› (by exact rfl) | exact U2 ‹_› (by exact rfl) | exact U3 ‹_› (by exact rfl) | exact U4 ‹_› (by exact rfl) | exact U5 ‹_› (by exact rfl) | (have hcL9 := cLine_is; (simp +zetaDelta only [units_under_make, units_in1, units_deeper, Around.mark_units, units_caller]); (try dsimp only [ktrTop]); first | (rw [hcL9]; decide) | omega | decide +kernel))
  k_with "NE" => (first | with_reducible assumption | (refine neN (Nat.ne_of_lt ?_); walk_at "LTS") | (refine neN (Nat.ne_of_gt ?_); walk_at "LTS") | (refine neN ?_; (try dsimp only); omega))
  k_with "ENTER" => (refine' Internal.code_defN ?k1 ?k2 ?k3 ?k4 ?k5 ?kA ?kF ?kK ?k6 ?k7 ?k8 ?k9 ?kB ?_ ?c2 ?c3 ?c4 ?c5; (case kA | kF => exact rfl); (case kK => first | exact rfl | assumption); (case k1 | k2 | k3 | k4 | k5 => k_asm); (case k6 | k7 => k_is); (case k8 => ktr_room); (case k9 => exact BindsTo.of_eq (by kernel_rfl)); (case c5 => decide); (case kB => exact locs rfl); (case c2 | c3 | c4 => exact rfl); k_whole; intro g' L' h' tk' FG' F' N' B' X' T'; (try dsimp only); (try k_lift B'); (try walk_at "FOLD"); (refine let Ak : Around := _; (?_ : wpAny _ Ak _ _ _ _)))
  k_with "LTS" => (first | with_reducible assumption | exact ltM (by with_reducible assumption) (by k_mem) | exact And.left (by with_reducible assumption) | exact And.left (And.right (by with_reducible assumption)) | exact And.right (And.right (by with_reducible assumption)) | exact And.left (And.right (And.right (by with_reducible assumption))) | exact And.right (And.right (And.right (by with_reducible assumption))))
  k_with "ALL" => (first | with_reducible assumption | exact ne_of_allLt ‹_›)
  k_with "MEM" => (first | exact List.Mem.head _ | exact Mem1 | exact Mem2 | exact Mem3 | exact Mem4 | exact Mem5 | (refine TL6 ?_; walk_at "MEM"))
  k_with "SUB" => (first | assumption | exact TL1 ‹_› | exact TL2 ‹_› | exact TL3 ‹_› | exact TL4 ‹_› | exact TL5 ‹_› | (refine TL6 ?_; walk_at "SUB"))
  k_with "eval Call" => (k_here; k_dflt (refine Call_ ?_))
  k_with "binaryOp Add bytes bytes" => (k_here; (with_reducible show wpAny _ _ (binaryOp Operator.Add (Value.bytes _ _) (Value.bytes _ _)) _ _ _); k_dflt (refine add_B (by first | assumption | decide | exact kle0 ‹_› (by decide) | omega | ((try simp only [List.length_append, List.length_cons, List.length_nil, List.length_take, List.length_drop]); omega)) ?_; intro tb9 kb9))
  k_with "call ref" => (k_here; (with_reducible show wpAny _ _ (call (Value.ref 150) [Value.int _ _, Value.ref _] _) _ _ _); k_dflt (refine' FnW.useE (own_s _ _ _ _ ?hD ‹_› ‹_›) ?kB ?kF ?kX ?kN ?kT ?kK ?kd ?ku ?_; (case kN => k_asm); (case hD => exact DataIn.mono ‹_› (by intro p hp; walk_at "SUB")); (case kB | kF | kX | kT => k_asm); (case kK => first | exact rfl | assumption); (case kd => ktr_room); (case ku => ktr_units); (intro t9 h9 tk9 F9 N9)); (try dsimp only))
  k_with "call ref" => (k_here; (with_reducible show wpAny _ _ (call (Value.ref 357) [Value.ref _] _) _ _ _); k_dflt (refine' FnW.useK (syllable_ok _ _ _ _ _ _ _ ?hhK ?hD ?hd1 ?hc1) SylR.k ?kB ?kF ?kX ?kN ?kT ?kK ?kd ?ku ?_; (case kN => first | k_asm | exact news_r1 (by k_asm) | exact news_r2 (by k_asm) | exact news_r3 (by k_asm) | exact news_r4 (by k_asm) | exact news_r5 (by k_asm) | exact news_r6 (by k_asm) | exact news_r7 (by k_asm) | exact news_r8 (by k_asm) | exact news_r9 (by k_asm) | exact news_r10 (by k_asm) | exact news_r11 (by k_asm) | exact news_r12 (by k_asm) | exact news_r13 (by k_asm)); (case hD => assumption); (case hd1 | hc1 => k_all); (case hhK => first | exact kle0 ‹_› (by decide) | exact kadd ‹_› (by decide) | exact kadd2 ‹_› (by decide) | omega); (case kB | kF | kX | kT => k_asm); (case kK => first | exact rfl | assumption); (case kd => ktr_room); (case ku => ktr_units); (intro T9 x9 y9 z9 o9 lo9 t19 t29 hxyz9 D9 al9 h9 tk9 F9 N9; (try dsimp only))))
  k_with "call ref" => (k_here; (with_reducible show wpAny _ _ (call (Value.ref 381) [Value.ref _, Value.bytes _ _] _) _ _ _); (k_dflt (refine' FnW.useK (loose_ok _ _ _ _ _ _ _ _ _ ?hh0 ?hhK ?hD ?hd1 ?hc1) LooseR.k ?kB ?kF ?kX ?kN ?kT ?kK ?kd ?ku ?_; (case kN => first | k_asm | exact news_r1 (by k_asm) | exact news_r2 (by k_asm) | exact news_r3 (by k_asm) | exact news_r4 (by k_asm) | exact news_r5 (by k_asm) | exact news_r6 (by k_asm) | exact news_r7 (by k_asm) | exact news_r8 (by k_asm) | exact news_r9 (by k_asm) | exact news_r10 (by k_asm) | exact news_r11 (by k_asm) | exact news_r12 (by k_asm) | exact news_r13 (by k_asm)); (case hD => assumption); (case hd1 | hc1 => k_all); (case hh0 => first | assumption | omega | decide); (case hhK => first | exact kle0 ‹_› (by decide) | exact kadd ‹_› (by decide) | exact kadd2 ‹_› (by decide) | omega); (case kB | kF | kX | kT => k_asm); (case kK => first | exact rfl | assumption); (case kd => ktr_room); (case ku => ktr_units); (intro l9 t9 o9 lo9 LO9 D9 h9 tk9 F9 N9; (try dsimp only)))))
  k_with "call ref" => (k_here; (with_reducible show wpAny _ _ (call (Value.ref 376) _ _) _ _ _); k_dflt (refine' Fn.useE (law_plain_ok _ _ _ (by first | assumption | exact kle0 ‹_› (by decide) | omega)) ?kB ?kF ?kX ?kN ?kT ?kK ?kd ?ku ?_; (case kB | kF | kX | kN | kT => k_asm); (case kK => first | exact rfl | assumption); (case kd => ktr_room); (case ku => ktr_units); (intro t9 h9 tk9 F9 N9)); (try dsimp only))
  k_with "call ref" => (k_here; (with_reducible show wpAny _ _ (call (Value.ref 338) [Value.ref _, Value.ref _] _) _ _ _); k_dflt (refine' FnW.useK (pick_ok _ _ _ _ _ _ _ _ _ _ ?hS ?hz0 ?hz ?hhK ?hD ?hd1 ?hc1) PickR.k ?kB ?kF ?kX ?kN ?kT ?kK ?kd ?ku ?_; (case kN => first | k_asm | exact news_r1 (by k_asm) | exact news_r2 (by k_asm) | exact news_r3 (by k_asm) | exact news_r4 (by k_asm) | exact news_r5 (by k_asm) | exact news_r6 (by k_asm) | exact news_r7 (by k_asm) | exact news_r8 (by k_asm) | exact news_r9 (by k_asm) | exact news_r10 (by k_asm) | exact news_r11 (by k_asm) | exact news_r12 (by k_asm) | exact news_r13 (by k_asm)); (case hS => k_mem); (case hz0 | hz => simp; done); (case hD => assumption); (case hd1 | hc1 => k_all); (case hhK => first | exact kle0 ‹_› (by decide) | exact kadd ‹_› (by decide) | exact kadd2 ‹_› (by decide) | omega); (case kB | kF | kX | kT => k_asm); (case kK => first | exact rfl | assumption); (case kd => ktr_room); (case ku => ktr_units); (intro r9 o9 lo9 hm9 D9 h9 tk9 F9 N9; have hm8 := mem_3 hm9; clear hm9; (rcases hm8 with e8 | e8 | e8) <;> subst e8 <;> (try dsimp only))))
  obtain ⟨dX, dd, mm, ta, tb, tc, td, pr, wo, hX1, hX2⟩ := DataIn.head hX
  intro mean mg mb dp un gd cn cs a ccd outer A₀ base h₀ L m s Q B F X N T XB TB Dk hk hd hu hret
  refine wpG_call ?_
  k_dflt (refine' call_GT ?k1 ?k2 ?k3 ?k4 ?k5 ?XB ?TB ?D ?kA ?cK ?k6 ?k7 ?k8 ?k9 ?kB ?_ ?c2 ?c3 ?c4 ?c5; (case kA => exact rfl); (case cK => assumption); (case k1 | k2 | k3 | k4 | k5 => k_asm); (case XB | TB | D => assumption); (case k6 | k7 => k_is); (case k8 => ktr_room); (case k9 => exact BindsTo.of_eq rfl); (case c5 => decide); (case kB => exact locs rfl); (case c2 | c3 | c4 => exact rfl); k_whole; intro g' L' h' FG' F' N' B' X' T' D'; (try dsimp only); (try k_lift B'))
  with_reducible refine let Ag := _; let qg := _; (?_ : wpG _ Ag _ qg _)
  refine execs_consG (wpG_of ?_)
  walk_at "STEPS"
  (with_reducible rename (_ ∧ _ ∧ _ ∧ _ ∧ _ ∧ _) => hxyz)
  obtain ⟨nm, cd, en, ec, ho, hfr, hl, hcap, hrk, hno, hmo, hmn⟩ := syl_facts hxyz
  (with_reducible rename Fr _ _ _ _ => F7); (with_reducible rename News _ _ _ _ => N7)
  rw [en, ec] at F7 N7
  clear hxyz
  (try dsimp only)
  refine execs_consG (if_G (isTrueBool_G (or_cons_G (wpG_of ?_))))
  walk_at "STEPS"
  · exact (ne_self ‹_›).elim
  refine or_cons_G (isTrueCompare_G (callF_G (K := Internal.hd0.heap_1 w.params) ?_ (by exact rfl) (by exact rfl) (by exact rfl)))
  walk_at "STEPS"
  (with_reducible rename LooseOf _ _ => hLO)
  refine FnG.useE (key_is (loose_key hcap hLO) _ _ (Nat.le_trans (loose_len hLO) (by omega))) (by k_asm) (by k_asm) (by k_asm) (by k_asm) (by k_asm) (by first | exact rfl | assumption) (by ktr_room) (by ktr_units) ?_
  intro t9 h9 tk9 F9 N9
  walk_at "STEPS"
  · exact (ne_self ‹_›).elim
  refine allTrue_nil_G ?_
  rw [if_neg (by decide)]
  (try dsimp only)
  refine execs_nilG ?_
  (try dsimp only)
  refine execs_consG (if_G (isTrueCompare_G (callF_G (K := Internal.hd0.heap_1 w.params) ?_ (by exact rfl) (by exact rfl) (by exact rfl))))
  walk_at "STEPS"
  refine FnGT.useE (reck_s (hrk) w _ _ _ (Nat.le_trans (plain_len nm) (by omega)) ?_ hno) (by k_asm) (by k_asm) (by k_asm) (by k_asm) (by k_asm) ‹_› ‹_› ‹_› (by first | exact rfl | assumption) (by ktr_room) (by ktr_units) ?_
  · exact DataIn.mono hX (by intro p hp; walk_at "SUB")
  intro t9 h9 tk9 g9 T9 F9 N9 B9 X9 P9 D9
  have T1 := T9; clear T9
  walk_at "STEPS"
  · exact absurd rfl ‹_›
  (try dsimp only)
  refine execs_nilG ?_
  (try dsimp only)
  have hpl := Nat.le_trans (plain_len nm) hl
  refine execs_consG (return_G (compare_G (callF_G (K := Internal.hd0.heap_1 w.params) ?_ (by exact rfl) (by exact rfl) (by exact rfl))))
  walk_at "STEPS"
  · refine FnGT.use0 (reck_n (hmo _ (by decide)) w _ _ _ (by rw [List.length_append]; show _ + 1 ≤ 100; omega) ?_ (hmn _)) (by k_asm) (by k_asm) (by k_asm) (by k_asm) (by k_asm) ‹_› ‹_› ‹_› (by first | exact rfl | assumption) (by ktr_room) (by ktr_units) ?_
    · exact DataIn.mono hX (by intro p hp; walk_at "SUB")
    intro h9 tk9 g9 T9 F9 N9 B9 X9 P9 D9
    have T2 := T1.trans T9; clear T1 T9
    walk_at "STEPS"
    exact hret _ _ _ _ _ rfl ‹_› ‹_› ‹_› ‹_› ‹_› ‹_› ‹_›
  · refine FnGT.use0 (reck_n (hmo _ (by decide)) w _ _ _ (by rw [List.length_append]; show _ + 1 ≤ 100; omega) ?_ (hmn _)) (by k_asm) (by k_asm) (by k_asm) (by k_asm) (by k_asm) ‹_› ‹_› ‹_› (by first | exact rfl | assumption) (by ktr_room) (by ktr_units) ?_
    · exact DataIn.mono hX (by intro p hp; walk_at "SUB")
    intro h9 tk9 g9 T9 F9 N9 B9 X9 P9 D9
    have T2 := T1.trans T9; clear T1 T9
    walk_at "STEPS"
    exact hret _ _ _ _ _ rfl ‹_› ‹_› ‹_› ‹_› ‹_› ‹_› ‹_›
  · refine FnGT.use0 (reck_n (hmo _ (by decide)) w _ _ _ (by rw [List.length_append]; show _ + 1 ≤ 100; omega) ?_ (hmn _)) (by k_asm) (by k_asm) (by k_asm) (by k_asm) (by k_asm) ‹_› ‹_› ‹_› (by first | exact rfl | assumption) (by ktr_room) (by ktr_units) ?_
    · exact DataIn.mono hX (by intro p hp; walk_at "SUB")
    intro h9 tk9 g9 T9 F9 N9 B9 X9 P9 D9
    have T2 := T1.trans T9; clear T1 T9
    walk_at "STEPS"
    exact hret _ _ _ _ _ rfl ‹_› ‹_› ‹_› ‹_› ‹_› ‹_› ‹_›
end
end Internal
namespace Internal
theorem ideo_facts {hd : List UInt8} {cd : Int} {tl : Bool} (h : (hd, cd, tl) ∈ ideoL) : ∃ nm, hd ++ hexB cd = nm ∧ (ownI cd = if tl then some nm else none) ∧ (0 ≤ cd ∧ cd < 1099511627776) ∧ nm.length ≤ 100 ∧ (∀ l', LooseOf nm l' → keyB l' = plainB nm ∧ l'.length ≤ 100) ∧ (plainB nm).length ≤ 100 ∧ (reckI (plainB nm) = if tl then some cd else none) ∧ noOver (plainB nm) = true ∧ rangeI (plainB nm) = some cd ∧ noOver (cut (plainB nm) (some 1) none) = true ∧ rangeI (cut (plainB nm) (some 1) none) = none := by
  have g := List.all_eq_true.mp chk1_all _ h
  unfold chk1 at g
  simp only [Bool.and_eq_true, decide_eq_true_eq, List.all_eq_true, beq_iff_eq] at g
  obtain ⟨⟨⟨⟨⟨⟨⟨⟨⟨g1, g2⟩, g3⟩, g4⟩, g5⟩, g6⟩, g7⟩, g8⟩, g9⟩, g10⟩ := g
  exact ⟨_, rfl, g1, g10, g9, fun l' hl => g2 l' (loose_in hl), g8, g7, g3, g4, g5, g6⟩
section
theorem ideo_right (w : World) (K : Nat) (rest : List (Addr × Obj)) (d c xD : Addr) (o lo : Obj) (hK : K ≤ 700) (hDk : DeckIs w K d c o lo) (hd1 : ∀ p ∈ rest, p.1 ≠ d) (hc1 : ∀ p ∈ rest, p.1 ≠ c) (hX : DataIn w xD rest) : FnGT w 60 402 [.ref d, .ref xD] ((d, o) :: (c, lo) :: rest) (fun r _ => r = .bool true) := by
  k_with_none
  k_with "FOLD" => ((fail_if_success (fail_if_success k_fold)); (try ((with_reducible rename Fr _ _ _ _ => Fz); (fail_if_success (with_reducible have : Fr _ _ _ mk := Fz)); (with_reducible refine let mk := _; have Fy : Fr _ _ _ mk := Fz; ?_); clear Fz)); (try ((with_reducible rename News _ _ _ _ => Nz); (fail_if_success (with_reducible have : News _ _ _ lk := Nz)); (with_reducible refine let lk := _; have Ny : News _ _ _ lk := Nz; ?_); clear Nz)); with_reducible refine let qk := _; let ek := _; (?_ : wpAny _ _ _ qk ek _))
  k_with "STEPS" => ((try walk_at "FOLD"); repeat' (first | (k_unfold; (try dsimp only)) | (k_end; wrow_close) | (walk1; all_goals (try ((fail_if_success (with_reducible show wpAny _ _ (subscriptTail _ _ _ _) _ _ _)); dsimp only)); all_goals (try ((with_reducible first | show wpAny _ _ (exec _ _) _ _ _ | show wpAny _ _ (execs _ _) _ _ _); (try ((with_reducible first | refine genTok ?_ | refine genTokS ?_); intro tkG)); (try walk_at "FOLD")))) | (dsimp only; walk1)))
  k_with "ROOM" => (first | exact U0 ‹_› | exact U1 ‹_› (by exact rfl) | exact U2 ‹_› (by exact rfl) | exact U3 ‹_› (by exact rfl) | ((simp +zetaDelta only [depth_under_make, depth_under_kw, depth_in1, depth_deeper, depth_caller]); (try dsimp only [ktrTop]); first | omega | decide +kernel))
  k_with "UNITS" => (first | exact U1 ‹_› (by exact rfl) | exact U2 ‹_› (by exact rfl) | exact U3 ‹_› (by exact rfl) | exact U4 ‹_› (by exact rfl) | exact U5 ‹_› (by exact rfl) | (have hcL9 := cLine_is; (simp +zetaDelta only [units_under_make, units_in1, units_deeper, Around.mark_units, units_caller]); (try dsimp only [ktrTop]); first | (rw [hcL9]; decide) | omega | decide +kernel))
  k_with "NE" => (first | with_reducible assumption | (refine neN (Nat.ne_of_lt ?_); walk_at "LTS") | (refine neN (Nat.ne_of_gt ?_); walk_at "LTS") | (refine neN ?_; (try dsimp only); omega))
  k_with "ENTER" => (refine' Internal.code_defN ?k1 ?k2 ?k3 ?k4 ?k5 ?kA ?kF ?kK ?k6 ?k7 ?k8 ?k9 ?kB ?_ ?c2 ?c3 ?c4 ?c5; (case kA | kF => exact rfl); (case kK => first | exact rfl | assumption); (case k1 | k2 | k3 | k4 | k5 => k_asm); (case k6 | k7 => k_is); (case k8 => ktr_room); (case k9 => exact BindsTo.of_eq (by kernel_rfl)); (case c5 => decide); (case kB => exact locs rfl); (case c2 | c3 | c4 => exact rfl); k_whole; intro g' L' h' tk' FG' F' N' B' X' T'; (try dsimp only); (try k_lift B'); (try walk_at "FOLD"); (refine let Ak : Around := _; (?_ : wpAny _ Ak _ _ _ _)))
  k_with "LTS" => (first | with_reducible assumption | exact ltM (by with_reducible assumption) (by k_mem) | exact And.left (by with_reducible assumption) | exact And.left (And.right (by with_reducible assumption)) | exact And.right (And.right (by with_reducible assumption)) | exact And.left (And.right (And.right (by with_reducible assumption))) | exact And.right (And.right (And.right (by with_reducible assumption))))
  k_with "ALL" => (first | with_reducible assumption | exact ne_of_allLt ‹_›)
  k_with "MEM" => (first | exact List.Mem.head _ | exact Mem1 | exact Mem2 | exact Mem3 | exact Mem4 | exact Mem5 | (refine TL6 ?_; walk_at "MEM"))
  k_with "SUB" => (first | assumption | exact TL1 ‹_› | exact TL2 ‹_› | exact TL3 ‹_› | exact TL4 ‹_› | exact TL5 ‹_› | (refine TL6 ?_; walk_at "SUB"))
  k_with "eval Call" => (k_here; k_dflt (refine Call_ ?_))
  k_with "subscriptTail" => (k_here; (with_reducible show wpAny _ _ (subscriptTail _ (Expr.Slice _ _ none _) (Value.bytes _ _) (Value.ref _)) _ _ _); (with_reducible rename Fr _ _ _ _ => F'); (with_reducible rename News _ _ _ _ => N'); k_dflt (refine slice_B (s := ⟨_, _, _, _, _⟩) F' N' (by constructor) (by constructor) (by first | assumption | decide | exact kle0 ‹_› (by decide) | omega | ((try simp only [List.length_append, List.length_cons, List.length_nil, List.length_take, List.length_drop]); omega)) ?_; intro hs9 ts9 ks9 Fs9 Ns9))
  k_with "call ref" => (k_here; (with_reducible show wpAny _ _ (call (Value.ref 150) [Value.int _ _, Value.ref _] _) _ _ _); k_dflt (refine' FnW.use0 (own_n _ _ _ _ ?hD ‹_› ‹_›) ?kB ?kF ?kX ?kN ?kT ?kK ?kd ?ku ?_; (case kN => k_asm); (case hD => exact DataIn.mono ‹_› (by intro p hp; walk_at "SUB")); (case kB | kF | kX | kT => k_asm); (case kK => first | exact rfl | assumption); (case kd => ktr_room); (case ku => ktr_units); (intro h9 tk9 F9 N9)); (try dsimp only))
  k_with "call ref" => (k_here; (with_reducible show wpAny _ _ (call (Value.ref 150) [Value.int _ _, Value.ref _] _) _ _ _); k_dflt (refine' FnW.useE (own_s _ _ _ _ ?hD ‹_› ‹_›) ?kB ?kF ?kX ?kN ?kT ?kK ?kd ?ku ?_; (case kN => k_asm); (case hD => exact DataIn.mono ‹_› (by intro p hp; walk_at "SUB")); (case kB | kF | kX | kT => k_asm); (case kK => first | exact rfl | assumption); (case kd => ktr_room); (case ku => ktr_units); (intro t9 h9 tk9 F9 N9)); (try dsimp only))
  k_with "call ref" => (k_here; (with_reducible show wpAny _ _ (call (Value.ref 364) [Value.ref _] _) _ _ _); k_dflt (refine' FnW.useK (ideo_ok _ _ _ _ _ _ _ ?hhK ?hD ?hd1 ?hc1) IdeoR.k ?kB ?kF ?kX ?kN ?kT ?kK ?kd ?ku ?_; (case kN => first | k_asm | exact news_r1 (by k_asm) | exact news_r2 (by k_asm) | exact news_r3 (by k_asm) | exact news_r4 (by k_asm) | exact news_r5 (by k_asm) | exact news_r6 (by k_asm) | exact news_r7 (by k_asm) | exact news_r8 (by k_asm) | exact news_r9 (by k_asm) | exact news_r10 (by k_asm) | exact news_r11 (by k_asm) | exact news_r12 (by k_asm) | exact news_r13 (by k_asm)); (case hD => assumption); (case hd1 | hc1 => k_all); (case hhK => first | exact kle0 ‹_› (by decide) | exact kadd ‹_› (by decide) | exact kadd2 ‹_› (by decide) | omega); (case kB | kF | kX | kT => k_asm); (case kK => first | exact rfl | assumption); (case kd => ktr_room); (case ku => ktr_units); (intro T9 hd9 cd9 tl9 o9 lo9 t19 t29 hml9 D9 al9 h9 tk9 F9 N9; (try dsimp only))))
  k_with "call ref" => (k_here; (with_reducible show wpAny _ _ (call (Value.ref 381) [Value.ref _, Value.bytes _ _] _) _ _ _); (k_dflt (refine' FnW.useK (loose_ok _ _ _ _ _ _ _ _ _ ?hh0 ?hhK ?hD ?hd1 ?hc1) LooseR.k ?kB ?kF ?kX ?kN ?kT ?kK ?kd ?ku ?_; (case kN => first | k_asm | exact news_r1 (by k_asm) | exact news_r2 (by k_asm) | exact news_r3 (by k_asm) | exact news_r4 (by k_asm) | exact news_r5 (by k_asm) | exact news_r6 (by k_asm) | exact news_r7 (by k_asm) | exact news_r8 (by k_asm) | exact news_r9 (by k_asm) | exact news_r10 (by k_asm) | exact news_r11 (by k_asm) | exact news_r12 (by k_asm) | exact news_r13 (by k_asm)); (case hD => assumption); (case hd1 | hc1 => k_all); (case hh0 => first | assumption | omega | decide); (case hhK => first | exact kle0 ‹_› (by decide) | exact kadd ‹_› (by decide) | exact kadd2 ‹_› (by decide) | omega); (case kB | kF | kX | kT => k_asm); (case kK => first | exact rfl | assumption); (case kd => ktr_room); (case ku => ktr_units); (intro l9 t9 o9 lo9 LO9 D9 h9 tk9 F9 N9; (try dsimp only)))))
  k_with "call ref" => (k_here; (with_reducible show wpAny _ _ (call (Value.ref 376) _ _) _ _ _); k_dflt (refine' Fn.useE (law_plain_ok _ _ _ (by first | assumption | exact kle0 ‹_› (by decide) | omega)) ?kB ?kF ?kX ?kN ?kT ?kK ?kd ?ku ?_; (case kB | kF | kX | kN | kT => k_asm); (case kK => first | exact rfl | assumption); (case kd => ktr_room); (case ku => ktr_units); (intro t9 h9 tk9 F9 N9)); (try dsimp only))
  obtain ⟨dX, dd, mm, ta, tb, tc, td, pr, wo, hX1, hX2⟩ := DataIn.head hX
  intro mean mg mb dp un gd cn cs a ccd outer A₀ base h₀ L m s Q B F X N T XB TB Dk hk hd hu hret
  refine wpG_call ?_
  k_dflt (refine' call_GT ?k1 ?k2 ?k3 ?k4 ?k5 ?XB ?TB ?D ?kA ?cK ?k6 ?k7 ?k8 ?k9 ?kB ?_ ?c2 ?c3 ?c4 ?c5; (case kA => exact rfl); (case cK => assumption); (case k1 | k2 | k3 | k4 | k5 => k_asm); (case XB | TB | D => assumption); (case k6 | k7 => k_is); (case k8 => ktr_room); (case k9 => exact BindsTo.of_eq rfl); (case c5 => decide); (case kB => exact locs rfl); (case c2 | c3 | c4 => exact rfl); k_whole; intro g' L' h' FG' F' N' B' X' T' D'; (try dsimp only); (try k_lift B'))
  with_reducible refine let Ag := _; let qg := _; (?_ : wpG _ Ag _ qg _)
  refine execs_consG (wpG_of ?_)
  walk_at "STEPS"
  (with_reducible rename (_ ∈ _) => hml)
  obtain ⟨nm, en, ho, hfr, hl, hlo, hpl, hrk, hno, hrg, hno1, hrg1⟩ := ideo_facts hml
  (with_reducible rename Fr _ _ _ _ => F7); (with_reducible rename News _ _ _ _ => N7)
  rw [en] at F7 N7
  (try dsimp only)
  (with_reducible rename Bool => tl)
  refine execs_consG (if_G (isTrueBool_G (or_cons_G (evalCut_G (fun b => b = false) F7 N7 ?_ ?_))))
  · cases tl with
    | true =>
      (try simp only [if_true] at ho)
      refine wpG_of ?_
      walk_at "STEPS"
      exact CutP.mk (by simp) ‹_› ‹_›
    | false =>
      (try simp only [Bool.false_eq_true, if_false] at ho)
      refine wpG_of ?_
      walk_at "STEPS"
      exact CutP.mk rfl ‹_› ‹_›
  clear F7 N7
  intro b9 h9 tk9 e9 F7 N7
  subst e9
  rw [if_neg (by decide)]
  refine or_cons_G (isTrueCompare_G (callF_G (K := Internal.hd0.heap_1 w.params) ?_ (by exact rfl) (by exact rfl) (by exact rfl)))
  walk_at "STEPS"
  (with_reducible rename LooseOf _ _ => hLO)
  obtain ⟨hk1, hk2⟩ := hlo _ hLO
  refine FnG.useE (key_is (hk1) _ _ hk2) (by k_asm) (by k_asm) (by k_asm) (by k_asm) (by k_asm) (by first | exact rfl | assumption) (by ktr_room) (by ktr_units) ?_
  intro t9 h9 tk9 F9 N9
  walk_at "STEPS"
  · exact (ne_self ‹_›).elim
  refine allTrue_nil_G ?_
  rw [if_neg (by decide)]
  (try dsimp only)
  refine execs_nilG ?_
  (try dsimp only)
  refine execs_consG (if_G (isTrueBool_G (or_cons_G (isTrueCompare_G (callF_G (K := Internal.hd0.heap_1 w.params) ?_ (by exact rfl) (by exact rfl) (by exact rfl))))))
  walk_at "STEPS"
  refine FnG.useE (range_s (hrg) _ _ hpl hno) (by k_asm) (by k_asm) (by k_asm) (by k_asm) (by k_asm) (by first | exact rfl | assumption) (by ktr_room) (by ktr_units) ?_
  intro t9 h9 tk9 F9 N9
  walk_at "STEPS"
  · exact absurd rfl ‹_›
  refine or_cons_G (isTrueCompare_G (callF_G (K := Internal.hd0.heap_1 w.params) ?_ (by exact rfl) (by exact rfl) (by exact rfl)))
  walk_at "STEPS"
  refine FnG.use0 (range_n (hrg1) _ _ (Nat.le_trans (cut_length _ _ _) hpl) hno1) (by k_asm) (by k_asm) (by k_asm) (by k_asm) (by k_asm) (by first | exact rfl | assumption) (by ktr_room) (by ktr_units) ?_
  intro h9 tk9 F9 N9
  walk_at "STEPS"
  refine allTrue_nil_G ?_
  rw [if_neg (by decide)]
  (try dsimp only)
  refine execs_nilG ?_
  (try dsimp only)
  refine execs_consG (return_G (compare_G (callF_G (K := Internal.hd0.heap_1 w.params) ?_ (by exact rfl) (by exact rfl) (by exact rfl))))
  walk_at "STEPS"
  cases tl with
  | true =>
    (try simp only [if_true] at hrk)
    refine FnGT.useE (reck_s (hrk) w _ _ _ hpl ?_ hno) (by k_asm) (by k_asm) (by k_asm) (by k_asm) (by k_asm) ‹_› ‹_› ‹_› (by first | exact rfl | assumption) (by ktr_room) (by ktr_units) ?_
    · exact DataIn.mono hX (by intro p hp; walk_at "SUB")
    intro t9 h9 tk9 g9 T9 F9 N9 B9 X9 P9 D9
    walk_at "STEPS"
    exact hret _ _ _ _ _ (by simp) ‹_› ‹_› ‹_› ‹_› ‹_› ‹_› ‹_›
  | false =>
    (try simp only [Bool.false_eq_true, if_false] at hrk)
    refine FnGT.use0 (reck_n (hrk) w _ _ _ hpl ?_ hno) (by k_asm) (by k_asm) (by k_asm) (by k_asm) (by k_asm) ‹_› ‹_› ‹_› (by first | exact rfl | assumption) (by ktr_room) (by ktr_units) ?_
    · exact DataIn.mono hX (by intro p hp; walk_at "SUB")
    intro h9 tk9 g9 T9 F9 N9 B9 X9 P9 D9
    walk_at "STEPS"
    exact hret _ _ _ _ _ (by simp) ‹_› ‹_› ‹_› ‹_› ‹_› ‹_› ‹_›
end
end Internal
namespace Internal
theorem lone_facts {wd : List UInt8} {cd : Int} (h : (wd, cd) ∈ loneL) : ∃ lab tl, labelB wd cd = lab ∧ decide (cd ≠ 65) = tl ∧ (tl = true → labelI cd = lab ∧ ownI cd = none) ∧ (0 ≤ cd ∧ cd < 1099511627776) ∧ lab.length ≤ 100 ∧ keyB lab = plainB lab ∧ (plainB lab).length ≤ 100 ∧ (reckI (plainB lab) = if tl then some cd else none) ∧ noOver (plainB lab) = true ∧ (∀ o ∈ otherL, noOver (o ++ hexB cd ++ [62]) = true ∧ (o ++ hexB cd ++ [62]).length ≤ 100 ∧ reckI (o ++ hexB cd ++ [62]) = if o ++ hexB cd ++ [62] = plainB lab ∧ tl = true then some cd else none) ∧ noOver (cut (plainB lab) (some 1) (some (-1))) = true ∧ reckI (cut (plainB lab) (some 1) (some (-1))) = none := by
  have g := List.all_eq_true.mp chk2_all _ h
  unfold chk2 at g
  (try dsimp only at g)
  rw [Bool.and_eq_true, Bool.and_eq_true, Bool.and_eq_true, Bool.and_eq_true, Bool.and_eq_true, Bool.and_eq_true, Bool.and_eq_true, Bool.and_eq_true, Bool.and_eq_true] at g
  obtain ⟨⟨⟨⟨⟨⟨⟨⟨⟨g1, g2⟩, g3⟩, g4⟩, g5⟩, g6⟩, g7⟩, g8⟩, g9⟩, g10⟩ := g
  have g1 := of_decide_eq_true g1
  have g4 := of_decide_eq_true g4
  refine ⟨_, _, rfl, rfl, fun q => g1 (of_decide_eq_true q), of_decide_eq_true g10, of_decide_eq_true g9, of_decide_eq_true g2, of_decide_eq_true g8, ?_, g3, ?_, g6, of_decide_eq_true g7⟩
  · rw [g4]
    by_cases q : cd ≠ 65
    · rw [if_pos q, if_pos (decide_eq_true q)]
    · rw [if_neg q, if_neg (by simpa using q)]
  · intro o ho
    have z := List.all_eq_true.mp g5 o ho
    rw [Bool.and_eq_true, Bool.and_eq_true] at z
    refine ⟨z.1.1, of_decide_eq_true z.1.2, ?_⟩
    have z3 := of_decide_eq_true z.2
    rw [z3]
    congr 1
    simp
theorem lab_is {c : Int} {lab : List UInt8} (w : World) (news : List (Addr × Obj)) (xD : Addr) (u9 : Tok) (hD : DataIn w xD news) (hc : 0 ≤ c ∧ c < 1099511627776) (hl : labelI c = lab) : FnW w 20 157 [.int c u9, .ref xD] news (Pure news (IsBytes lab)) := by
  have := lab_ok w news xD u9 hD hc
  rwa [hl] at this
noncomputable def OthP (key : List UInt8) (cd : Int) (tl : Bool) (v : Value) : Prop := ∃ oth t, v = .bytes (List.toArray oth) t ∧ noOver oth = true ∧ oth.length ≤ 100 ∧ reckI oth = if oth = key ∧ tl = true then some cd else none
theorem eq_self {l : List UInt8} : ((l.toArray.toList == l.toArray.toList) = false) → False := by simp
theorem eq_yes {a b : List UInt8} (h : a = b) : ((a.toArray.toList == b.toArray.toList) = false) → False := by rw [h]; simp
theorem eq_not {a b : List UInt8} (h : ¬ a = b) : ((a.toArray.toList == b.toArray.toList) = true) → False := by simpa using h
section
theorem label_right (w : World) (K : Nat) (rest : List (Addr × Obj)) (d c xD : Addr) (o lo : Obj) (hK : K ≤ 700) (hDk : DeckIs w K d c o lo) (hd1 : ∀ p ∈ rest, p.1 ≠ d) (hc1 : ∀ p ∈ rest, p.1 ≠ c) (hX : DataIn w xD rest) : FnGT w 60 409 [.ref d, .ref xD] ((d, o) :: (c, lo) :: rest) (fun r _ => r = .bool true) := by
  k_with_none
  k_with "FOLD" => ((fail_if_success (fail_if_success k_fold)); (try ((with_reducible rename Fr _ _ _ _ => Fz); (fail_if_success (with_reducible have : Fr _ _ _ mk := Fz)); (with_reducible refine let mk := _; have Fy : Fr _ _ _ mk := Fz; ?_); clear Fz)); (try ((with_reducible rename News _ _ _ _ => Nz); (fail_if_success (with_reducible have : News _ _ _ lk := Nz)); (with_reducible refine let lk := _; have Ny : News _ _ _ lk := Nz; ?_); clear Nz)); with_reducible refine let qk := _; let ek := _; (?_ : wpAny _ _ _ qk ek _))
  k_with "STEPS" => ((try walk_at "FOLD"); repeat' (first | (k_unfold; (try dsimp only)) | (k_end; wrow_close) | (walk1; all_goals (try ((fail_if_success (with_reducible show wpAny _ _ (subscriptTail _ _ _ _) _ _ _)); dsimp only)); all_goals (try ((with_reducible first | show wpAny _ _ (exec _ _) _ _ _ | show wpAny _ _ (execs _ _) _ _ _); (try ((with_reducible first | refine genTok ?_ | refine genTokS ?_); intro tkG)); (try walk_at "FOLD")))) | (dsimp only; walk1)))
  k_with "ROOM" => (first | exact U0 ‹_› | exact U1 ‹_› (by exact rfl) | exact U2 ‹_› (by exact rfl) | exact U3 ‹_› (by exact rfl) | ((simp +zetaDelta only [depth_under_make, depth_under_kw, depth_in1, depth_deeper, depth_caller]); (try dsimp only [ktrTop]); first | omega | decide +kernel))
  k_with "UNITS" => (first | exact U1 ‹_› (by exact rfl) | exact U2 ‹_› (by exact rfl) | exact U3 ‹_› (by exact rfl) | exact U4 ‹_› (by exact rfl) | exact U5 ‹_› (by exact rfl) | (have hcL9 := cLine_is; (simp +zetaDelta only [units_under_make, units_in1, units_deeper, Around.mark_units, units_caller]); (try dsimp only [ktrTop]); first | (rw [hcL9]; decide) | omega | decide +kernel))
  k_with "NE" => (first | with_reducible assumption | (refine neN (Nat.ne_of_lt ?_); walk_at "LTS") | (refine neN (Nat.ne_of_gt ?_); walk_at "LTS") | (refine neN ?_; (try dsimp only); omega))
  k_with "ENTER" => (refine' Internal.code_defN ?k1 ?k2 ?k3 ?k4 ?k5 ?kA ?kF ?kK ?k6 ?k7 ?k8 ?k9 ?kB ?_ ?c2 ?c3 ?c4 ?c5; (case kA | kF => exact rfl); (case kK => first | exact rfl | assumption); (case k1 | k2 | k3 | k4 | k5 => k_asm); (case k6 | k7 => k_is); (case k8 => ktr_room); (case k9 => exact BindsTo.of_eq (by kernel_rfl)); (case c5 => decide); (case kB => exact locs rfl); (case c2 | c3 | c4 => exact rfl); k_whole; intro g' L' h' tk' FG' F' N' B' X' T'; (try dsimp only); (try k_lift B'); (try walk_at "FOLD"); (refine let Ak : Around := _; (?_ : wpAny _ Ak _ _ _ _)))
  k_with "LTS" => (first | with_reducible assumption | exact ltM (by with_reducible assumption) (by k_mem) | exact And.left (by with_reducible assumption) | exact And.left (And.right (by with_reducible assumption)) | exact And.right (And.right (by with_reducible assumption)) | exact And.left (And.right (And.right (by with_reducible assumption))) | exact And.right (And.right (And.right (by with_reducible assumption))))
  k_with "ALL" => (first | with_reducible assumption | exact ne_of_allLt ‹_›)
  k_with "MEM" => (first | exact List.Mem.head _ | exact Mem1 | exact Mem2 | exact Mem3 | exact Mem4 | exact Mem5 | (refine TL6 ?_; walk_at "MEM"))
  k_with "SUB" => (first | assumption | exact TL1 ‹_› | exact TL2 ‹_› | exact TL3 ‹_› | exact TL4 ‹_› | exact TL5 ‹_› | (refine TL6 ?_; walk_at "SUB"))
  k_with "eval Call" => (k_here; k_dflt (refine Call_ ?_))
  k_with "subscriptTail" => (k_here; (with_reducible show wpAny _ _ (subscriptTail _ (Expr.Slice _ _ none _) (Value.bytes _ _) (Value.ref _)) _ _ _); (with_reducible rename Fr _ _ _ _ => F'); (with_reducible rename News _ _ _ _ => N'); k_dflt (refine slice_B (s := ⟨_, _, _, _, _⟩) F' N' (by constructor) (by constructor) (by first | assumption | decide | exact kle0 ‹_› (by decide) | omega | ((try simp only [List.length_append, List.length_cons, List.length_nil, List.length_take, List.length_drop]); omega)) ?_; intro hs9 ts9 ks9 Fs9 Ns9))
  k_with "call ref" => (k_here; (with_reducible show wpAny _ _ (call (Value.ref 150) [Value.int _ _, Value.ref _] _) _ _ _); k_dflt (refine' FnW.use0 (own_n _ _ _ _ ?hD ‹_› ‹_›) ?kB ?kF ?kX ?kN ?kT ?kK ?kd ?ku ?_; (case kN => k_asm); (case hD => exact DataIn.mono ‹_› (by intro p hp; walk_at "SUB")); (case kB | kF | kX | kT => k_asm); (case kK => first | exact rfl | assumption); (case kd => ktr_room); (case ku => ktr_units); (intro h9 tk9 F9 N9)); (try dsimp only))
  k_with "call ref" => (k_here; (with_reducible show wpAny _ _ (call (Value.ref 157) [Value.int _ _, Value.ref _] _) _ _ _); k_dflt (refine' FnW.useE (lab_is _ _ _ _ ?hD ‹_› ‹_›) ?kB ?kF ?kX ?kN ?kT ?kK ?kd ?ku ?_; (case kN => k_asm); (case hD => exact DataIn.mono ‹_› (by intro p hp; walk_at "SUB")); (case kB | kF | kX | kT => k_asm); (case kK => first | exact rfl | assumption); (case kd => ktr_room); (case ku => ktr_units); (intro t9 h9 tk9 F9 N9)); (try dsimp only))
  k_with "call ref" => (k_here; (with_reducible show wpAny _ _ (call (Value.ref 371) [Value.ref _] _) _ _ _); k_dflt (refine' FnW.useK (lone_ok _ _ _ _ _ _ _ ?hhK ?hD ?hd1 ?hc1) LoneR.k ?kB ?kF ?kX ?kN ?kT ?kK ?kd ?ku ?_; (case kN => first | k_asm | exact news_r1 (by k_asm) | exact news_r2 (by k_asm) | exact news_r3 (by k_asm) | exact news_r4 (by k_asm) | exact news_r5 (by k_asm) | exact news_r6 (by k_asm) | exact news_r7 (by k_asm) | exact news_r8 (by k_asm) | exact news_r9 (by k_asm) | exact news_r10 (by k_asm) | exact news_r11 (by k_asm) | exact news_r12 (by k_asm) | exact news_r13 (by k_asm)); (case hD => assumption); (case hd1 | hc1 => k_all); (case hhK => first | exact kle0 ‹_› (by decide) | exact kadd ‹_› (by decide) | exact kadd2 ‹_› (by decide) | omega); (case kB | kF | kX | kT => k_asm); (case kK => first | exact rfl | assumption); (case kd => ktr_room); (case ku => ktr_units); (intro T9 wd9 cd9 o9 lo9 t19 t29 hml9 D9 al9 h9 tk9 F9 N9; (try dsimp only))))
  k_with "call ref" => (k_here; (with_reducible show wpAny _ _ (call (Value.ref 376) _ _) _ _ _); k_dflt (refine' Fn.useE (law_plain_ok _ _ _ (by first | assumption | exact kle0 ‹_› (by decide) | omega)) ?kB ?kF ?kX ?kN ?kT ?kK ?kd ?ku ?_; (case kB | kF | kX | kN | kT => k_asm); (case kK => first | exact rfl | assumption); (case kd => ktr_room); (case ku => ktr_units); (intro t9 h9 tk9 F9 N9)); (try dsimp only))
  k_with "call ref" => (k_here; (with_reducible show wpAny _ _ (call (Value.ref 352) _ _) _ _ _); k_dflt (refine' Fn.useE (law_hex_ok _ _ _ (by omega) (by omega)) ?kB ?kF ?kX ?kN ?kT ?kK ?kd ?ku ?_; (case kB | kF | kX | kN | kT => k_asm); (case kK => first | exact rfl | assumption); (case kd => ktr_room); (case ku => ktr_units); (intro t9 h9 tk9 F9 N9)); (try dsimp only))
  k_with "binaryOp Add bytes bytes" => (k_here; (with_reducible show wpAny _ _ (binaryOp Operator.Add (Value.bytes _ _) (Value.bytes _ _)) _ _ _); k_dflt (refine add_B (by first | decide | exact room_hex (by decide) | exact room_hex2 (by decide)) ?_; intro tb9 kb9))
  k_with "call ref" => (k_here; (with_reducible show wpAny _ _ (call (Value.ref 338) [Value.ref _, Value.ref _] _) _ _ _); k_dflt (refine' FnW.useK (pick_ok _ _ _ _ _ _ _ _ _ _ ?hS ?hz0 ?hz ?hhK ?hD ?hd1 ?hc1) PickR.k ?kB ?kF ?kX ?kN ?kT ?kK ?kd ?ku ?_; (case kN => first | k_asm | exact news_r1 (by k_asm) | exact news_r2 (by k_asm) | exact news_r3 (by k_asm) | exact news_r4 (by k_asm) | exact news_r5 (by k_asm) | exact news_r6 (by k_asm) | exact news_r7 (by k_asm) | exact news_r8 (by k_asm) | exact news_r9 (by k_asm) | exact news_r10 (by k_asm) | exact news_r11 (by k_asm) | exact news_r12 (by k_asm) | exact news_r13 (by k_asm)); (case hS => k_mem); (case hz0 | hz => simp; done); (case hD => assumption); (case hd1 | hc1 => k_all); (case hhK => first | exact kle0 ‹_› (by decide) | exact kadd ‹_› (by decide) | exact kadd2 ‹_› (by decide) | omega); (case kB | kF | kX | kT => k_asm); (case kK => first | exact rfl | assumption); (case kd => ktr_room); (case ku => ktr_units); (intro r9 o9 lo9 hm9 D9 h9 tk9 F9 N9; have hm8 := mem_5 hm9; clear hm9; (rcases hm8 with e8 | e8 | e8 | e8 | e8) <;> subst e8 <;> (try dsimp only))))
  obtain ⟨dX, dd, mm, ta, tb, tc, td, pr, wo, hX1, hX2⟩ := DataIn.head hX
  intro mean mg mb dp un gd cn cs a ccd outer A₀ base h₀ L m s Q B F X N T XB TB Dk hk hd hu hret
  refine wpG_call ?_
  k_dflt (refine' call_GT ?k1 ?k2 ?k3 ?k4 ?k5 ?XB ?TB ?D ?kA ?cK ?k6 ?k7 ?k8 ?k9 ?kB ?_ ?c2 ?c3 ?c4 ?c5; (case kA => exact rfl); (case cK => assumption); (case k1 | k2 | k3 | k4 | k5 => k_asm); (case XB | TB | D => assumption); (case k6 | k7 => k_is); (case k8 => ktr_room); (case k9 => exact BindsTo.of_eq rfl); (case c5 => decide); (case kB => exact locs rfl); (case c2 | c3 | c4 => exact rfl); k_whole; intro g' L' h' FG' F' N' B' X' T' D'; (try dsimp only); (try k_lift B'))
  with_reducible refine let Ag := _; let qg := _; (?_ : wpG _ Ag _ qg _)
  refine execs_consG (wpG_of ?_)
  walk_at "STEPS"
  (with_reducible rename (_ ∈ _) => hml)
  obtain ⟨lab, tl, en, et, htl, hfr, hl, hkl, hpl, hrk, hno, hoth, hno1, hrk1⟩ := lone_facts hml
  (with_reducible rename Fr _ _ _ _ => F7); (with_reducible rename News _ _ _ _ => N7)
  rw [en, et] at F7 N7
  (try dsimp only)
  refine execs_consG (evalCut_G (fun f => f = Flow.next) F7 N7 (if_G ?_) ?_)
  · cases tl with
    | true =>
      obtain ⟨hla, ho⟩ := htl rfl
      refine wpG_of ?_
      walk_at "STEPS"
      · exact (ne_self ‹_›).elim
      (try dsimp only)
      exact execs_nilG (CutP.mk rfl ‹_› ‹_›)
    | false =>
      refine wpG_of ?_
      walk_at "STEPS"
      (try dsimp only)
      exact execs_nilG (CutP.mk rfl ‹_› ‹_›)
  clear F7 N7
  intro f9 h9 tk9 e9 F7 N7
  subst e9
  (try dsimp only)
  refine execs_consG (wpG_of ?_)
  walk_at "STEPS"
  (try dsimp only)
  (with_reducible rename Int => cd)
  (with_reducible rename Fr _ _ _ _ => F7); (with_reducible rename News _ _ _ _ => N7)
  refine execs_consG (cutT_G (fun f => f = Flow.next) F7 N7 B' X' T' D' (if_G (isTrueBool_G (or_cons_G (isTrueCompare_G (callF_G (K := Internal.hd0.heap_1 w.params) ?_ (by exact rfl) (by exact rfl) (by exact rfl)))))) ?_)
  · walk_at "STEPS"
    refine FnG.useE (key_is (hkl) _ _ hl) (by k_asm) (by k_asm) (by k_asm) (by k_asm) (by k_asm) (by first | exact rfl | assumption) (by ktr_room) (by ktr_units) ?_
    intro t9 h9 tk9 F9 N9
    walk_at "STEPS"
    · exact (ne_self ‹_›).elim
    refine or_cons_G (isTrueCompare_G (callF_G (K := Internal.hd0.heap_1 w.params) ?_ (by exact rfl) (by exact rfl) (by exact rfl)))
    walk_at "STEPS"
    cases tl with
    | true =>
      refine FnGT.useE (reck_s (hrk) w _ _ _ hpl ?_ hno) (by k_asm) (by k_asm) (by k_asm) (by k_asm) (by k_asm) ‹_› ‹_› ‹_› (by first | exact rfl | assumption) (by ktr_room) (by ktr_units) ?_
      · exact DataIn.mono hX (by intro p hp; walk_at "SUB")
      intro t9 h9 tk9 g9 T9 F9 N9 B9 X9 P9 D9
      walk_at "STEPS"
      · exact absurd rfl ‹_›
      refine allTrue_nil_G ?_
      rw [if_neg (by decide)]
      (try dsimp only)
      exact execs_nilG (CutT.mk rfl T9 ‹_› ‹_› B9 X9 P9 D9)
    | false =>
      refine FnGT.use0 (reck_n (hrk) w _ _ _ hpl ?_ hno) (by k_asm) (by k_asm) (by k_asm) (by k_asm) (by k_asm) ‹_› ‹_› ‹_› (by first | exact rfl | assumption) (by ktr_room) (by ktr_units) ?_
      · exact DataIn.mono hX (by intro p hp; walk_at "SUB")
      intro h9 tk9 g9 T9 F9 N9 B9 X9 P9 D9
      walk_at "STEPS"
      refine allTrue_nil_G ?_
      rw [if_neg (by decide)]
      (try dsimp only)
      exact execs_nilG (CutT.mk rfl T9 ‹_› ‹_› B9 X9 P9 D9)
  intro f9 g9 h9 tk9 e9 T1 F9 N9 B9 X9 P9 D9
  clear F7 N7
  subst e9
  (try dsimp only)
  refine execs_consG (assign_G (evalCut_G (news := rest) (OthP (plainB lab) cd tl) F9 (newsWeak N9 (by intro p hp; walk_at "SUB")) ?_ ?_) rfl rfl)
  · refine wpG_of ?_
    walk_at "STEPS"
    all_goals exact CutP.mk ⟨_, _, rfl, hoth _ (by simp [otherL])⟩ ‹_› (newsWeak ‹_› (by intro p hp; walk_at "SUB"))
  clear F9 N9
  intro v h2 tk2 hv F2 N2
  obtain ⟨oth, to, rfl, ho1, ho2, ho3⟩ := hv
  walk_at "STEPS"
  (try dsimp only)
  (with_reducible rename Fr _ _ _ _ => F7); (with_reducible rename News _ _ _ _ => N7)
  refine execs_consG (return_G (evalBool_G (boolAnd_G (cutT_G (fun v => v = Value.bool true) F7 N7 B9 X9 P9 D9 (compare_G (callF_G (K := Internal.hd0.heap_1 w.params) ?_ (by exact rfl) (by exact rfl) (by exact rfl))) ?_))))
  · walk_at "STEPS"
    by_cases hq : oth = plainB lab
    · cases tl with
      | true =>
        rw [if_pos ⟨hq, rfl⟩] at ho3
        refine FnGT.useE (reck_s (ho3) w _ _ _ ho2 ?_ ho1) (by k_asm) (by k_asm) (by k_asm) (by k_asm) (by k_asm) ‹_› ‹_› ‹_› (by first | exact rfl | assumption) (by ktr_room) (by ktr_units) ?_
        · exact DataIn.mono hX (by intro p hp; walk_at "SUB")
        intro t8 h8 tk8 g8 T8 F8 N8 B8 X8 P8 D8
        walk_at "STEPS"
        all_goals try exact absurd rfl ‹_›
        all_goals try exact (eq_yes hq ‹_›).elim
        exact CutT.mk (by simp) T8 ‹_› ‹_› B8 X8 P8 D8
      | false =>
        rw [if_neg (by rintro ⟨_, z⟩; cases z)] at ho3
        refine FnGT.use0 (reck_n (ho3) w _ _ _ ho2 ?_ ho1) (by k_asm) (by k_asm) (by k_asm) (by k_asm) (by k_asm) ‹_› ‹_› ‹_› (by first | exact rfl | assumption) (by ktr_room) (by ktr_units) ?_
        · exact DataIn.mono hX (by intro p hp; walk_at "SUB")
        intro h8 tk8 g8 T8 F8 N8 B8 X8 P8 D8
        walk_at "STEPS"
        all_goals try exact absurd rfl ‹_›
        all_goals try exact (eq_yes hq ‹_›).elim
        exact CutT.mk (by simp) T8 ‹_› ‹_› B8 X8 P8 D8
    · rw [if_neg (by rintro ⟨z, _⟩; exact hq z)] at ho3
      refine FnGT.use0 (reck_n (ho3) w _ _ _ ho2 ?_ ho1) (by k_asm) (by k_asm) (by k_asm) (by k_asm) (by k_asm) ‹_› ‹_› ‹_› (by first | exact rfl | assumption) (by ktr_room) (by ktr_units) ?_
      · exact DataIn.mono hX (by intro p hp; walk_at "SUB")
      intro h8 tk8 g8 T8 F8 N8 B8 X8 P8 D8
      walk_at "STEPS"
      all_goals try exact absurd rfl ‹_›
      all_goals try exact (eq_not hq ‹_›).elim
      exact CutT.mk (by simp) T8 ‹_› ‹_› B8 X8 P8 D8
  intro v g8 h8 tk8 e8 T8 F8 N8 B8 X8 P8 D8
  clear F7 N7
  subst e8
  have T2 := T1.trans T8; clear T1 T8
  walk_at "STEPS"
  (try dsimp only)
  refine boolLast_G (compare_G (callF_G (K := Internal.hd0.heap_1 w.params) ?_ (by exact rfl) (by exact rfl) (by exact rfl)))
  walk_at "STEPS"
  refine FnGT.use0 (reck_n (hrk1) w _ _ _ (Nat.le_trans (cut_length _ _ _) hpl) ?_ hno1) (by k_asm) (by k_asm) (by k_asm) (by k_asm) (by k_asm) ‹_› ‹_› ‹_› (by first | exact rfl | assumption) (by ktr_room) (by ktr_units) ?_
  · exact DataIn.mono hX (by intro p hp; walk_at "SUB")
  intro h9 tk9 g9 T9 F9 N9 B9 X9 P9 D9
  have T3 := T2.trans T9; clear T2 T9
  walk_at "STEPS"
  exact hret _ _ _ _ _ rfl ‹_› ‹_› ‹_› ‹_› ‹_› ‹_› ‹_›
end
end Internal
namespace Internal
theorem FnS.use {w : World} {D : Nat} {f S : Addr} {vs : List Value} {ns : List Int} {news : List (Addr × Obj)} {R : Value → List (Addr × Obj) → Prop} (c : FnS w D f S vs ns news R)
    {mean : ExcName → Option Value} {mg mb : Str → Option Value} {dp un : Nat} {gd : Option (List Code)} {cn : Str} {cs : Scope} {a : Addr} {ccd : Value} {cl : List (Str × Addr)} {outer : List Env} {A₀ : Around} {base h₀ : Heap} {L : Addr} {m : Str → Option Value} {s : Shared} {Q E : Value → Shared → Prop}
    (hS : h₀.IsList S vs.toArray) (hI : IntsAre vs ns) (hN : ns.length ≤ 63) (B : Below A₀ base outer h₀) (F : Fr h₀ L s.heap m) (X : (hd0.heap_1 w.params).In h₀) (N : News h₀ L s.heap news) (T : Top hd0.view_1 LS mean mg mb h₀) (hk : cs.kind = .function) (hd : dp + D < recursionLimit) (hu : un + 8 * D < cLine)
    (ret : ∀ r news' h' tk', R r news' → Fr h₀ L h' m → News h₀ L h' news' → Q r { s with heap := h', toks := tk' }) :
    wpAny (model PG w) (ktrTop dp un gd cn cs L a ccd cl outer) (call (.ref f) [.ref S]) Q E s := c _ _ _ _ _ _ _ _ _ _ _ _ _ _ _ _ _ _ _ _ hS hI hN B F X N T hk hd hu ret
theorem news_rotb {h₀ h : Heap} {L : Addr} {a b : Addr × Obj} {blk : List (Addr × Obj)} (N : News h₀ L h (blk ++ [a, b])) : News h₀ L h (a :: b :: blk) := fun p hp => N p (by
  rcases List.mem_cons.mp hp with rfl | hp
  · simp
  · rcases List.mem_cons.mp hp with rfl | hp
    · simp
    · exact List.mem_append_left _ hp)
theorem blk_ne1 {d c : Addr} {blk : List (Addr × Obj)} (h : @LT.lt Nat _ d c) (l : ∀ p ∈ blk, @LT.lt Nat _ c p.1) : ∀ p ∈ blk, p.1 ≠ d := fun p hp e => by
  have := l p hp
  rw [e] at this
  exact Nat.lt_asymm h this
theorem blk_ne2 {c : Addr} {blk : List (Addr × Obj)} (l : ∀ p ∈ blk, @LT.lt Nat _ c p.1) : ∀ p ∈ blk, p.1 ≠ c := fun p hp e => by
  have := l p hp
  rw [e] at this
  exact Nat.lt_irrefl _ this
theorem news_drop3 {h₀ h : Heap} {L : Addr} {a b x : Addr × Obj} {r : List (Addr × Obj)} (N : News h₀ L h (a :: b :: x :: r)) : News h₀ L h (a :: b :: r) := fun p hp => N p (by
  simp only [List.mem_cons] at hp ⊢
  rcases hp with h | h | h <;> simp [h])
noncomputable def FigP (v : Value) : Prop := ∃ l t, v = .bytes (List.toArray l) t ∧ l.length ≤ 100
theorem lawn_n {l : List UInt8} (news : List (Addr × Obj)) (t : Tok) (h0 : l.length ≤ 100) (hn : numF l = none) : Fn 2 388 [.bytes l.toArray t] news (Pure news (fun r => r = .none)) :=
  Fn.mono (law_number_ok l news t h0) fun r nw h => ⟨by have := h.1; rw [hn] at this; exact this, h.2⟩
theorem lawn_s {l : List UInt8} {c : Int} (news : List (Addr × Obj)) (t : Tok) (h0 : l.length ≤ 100) (hn : numF l = some c) : Fn 2 388 [.bytes l.toArray t] news (Pure news (IsInt c)) :=
  Fn.mono (law_number_ok l news t h0) fun r nw h => ⟨by have := h.1; rw [hn] at this; exact this, h.2⟩
section
theorem law_walk (w : World) (s₁ : Shared) (mean : ExcName → Option Value) (mg mb : Str → Option Value) (T : Top Internal.hd0.view_1 LS mean mg mb s₁.heap) (KX : (Internal.hd0.heap_1 w.params).In s₁.heap) (S : Addr) (vs : List Value) (ns : List Int)
    (hL : s₁.heap.IsList S vs.toArray) (hI : IntsAre vs ns) (hN : ns.length ≤ 63) (fa : Addr) (hmg : mg (Str.ofString "law") = some (.ref fa)) (Q : Value → Shared → Prop)
    (hend : ∀ g L' h' m tk, KtsTurn ([] : List Addr) s₁.heap g → Fr g L' h' m → Q (.bool true) { s₁ with heap := h', toks := tk }) : wpG (model PG w) callerA (call (.ref fa) [.ref S]) Q s₁ := by
  k_with_none
  k_with "FOLD" => ((fail_if_success (fail_if_success k_fold)); (try ((with_reducible rename Fr _ _ _ _ => Fz); (fail_if_success (with_reducible have : Fr _ _ _ mk := Fz)); (with_reducible refine let mk := _; have Fy : Fr _ _ _ mk := Fz; ?_); clear Fz)); (try ((with_reducible rename News _ _ _ _ => Nz); (fail_if_success (with_reducible have : News _ _ _ lk := Nz)); (with_reducible refine let lk := _; have Ny : News _ _ _ lk := Nz; ?_); clear Nz)); with_reducible refine let qk := _; let ek := _; (?_ : wpAny _ _ _ qk ek _))
  k_with "STEPS" => ((try walk_at "FOLD"); repeat' (first | (k_unfold; (try dsimp only)) | (k_end; wrow_close) | (walk1; all_goals (try ((fail_if_success (with_reducible show wpAny _ _ (subscriptTail _ _ _ _) _ _ _)); dsimp only)); all_goals (try ((with_reducible first | show wpAny _ _ (exec _ _) _ _ _ | show wpAny _ _ (execs _ _) _ _ _); (try ((with_reducible first | refine genTok ?_ | refine genTokS ?_); intro tkG)); (try walk_at "FOLD")))) | (dsimp only; walk1)))
  k_with "ROOM" => (first | exact U0 ‹_› | exact U1 ‹_› (by exact rfl) | exact U2 ‹_› (by exact rfl) | exact U3 ‹_› (by exact rfl) | ((simp +zetaDelta only [depth_under_make, depth_under_kw, depth_in1, depth_deeper, depth_caller]); (try dsimp only [ktrTop]); first | omega | decide +kernel))
  k_with "UNITS" => (first | exact U1 ‹_› (by exact rfl) | exact U2 ‹_› (by exact rfl) | exact U3 ‹_› (by exact rfl) | exact U4 ‹_› (by exact rfl) | exact U5 ‹_› (by exact rfl) | (have hcL9 := cLine_is; (simp +zetaDelta only [units_under_make, units_in1, units_deeper, Around.mark_units, units_caller]); (try dsimp only [ktrTop]); first | (rw [hcL9]; decide) | omega | decide +kernel))
  k_with "NE" => (first | with_reducible assumption | (refine neN (Nat.ne_of_lt ?_); walk_at "LTS") | (refine neN (Nat.ne_of_gt ?_); walk_at "LTS") | (refine neN ?_; (try dsimp only); omega))
  k_with "ENTER" => (refine' Internal.code_defN ?k1 ?k2 ?k3 ?k4 ?k5 ?kA ?kF ?kK ?k6 ?k7 ?k8 ?k9 ?kB ?_ ?c2 ?c3 ?c4 ?c5; (case kA | kF => exact rfl); (case kK => first | exact rfl | assumption); (case k1 | k2 | k3 | k4 | k5 => k_asm); (case k6 | k7 => k_is); (case k8 => ktr_room); (case k9 => exact BindsTo.of_eq (by kernel_rfl)); (case c5 => decide); (case kB => exact locs rfl); (case c2 | c3 | c4 => exact rfl); k_whole; intro g' L' h' tk' FG' F' N' B' X' T'; (try dsimp only); (try k_lift B'); (try walk_at "FOLD"); (refine let Ak : Around := _; (?_ : wpAny _ Ak _ _ _ _)))
  k_with "LTS" => (first | with_reducible assumption | exact ltM (by with_reducible assumption) (by k_mem) | exact And.left (by with_reducible assumption) | exact And.left (And.right (by with_reducible assumption)) | exact And.right (And.right (by with_reducible assumption)) | exact And.left (And.right (And.right (by with_reducible assumption))) | exact And.right (And.right (And.right (by with_reducible assumption))))
  k_with "ALL" => (first | with_reducible assumption | exact ne_of_allLt ‹_›)
  k_with "MEM" => (first | exact List.Mem.head _ | exact Mem1 | exact Mem2 | exact Mem3 | exact Mem4 | exact Mem5 | (refine TL6 ?_; walk_at "MEM"))
  k_with "eval Call" => (k_here; k_dflt (refine Call_ ?_))
  k_with "call ref" => (k_here; (with_reducible show wpAny _ _ (call (Value.ref 324) [Value.ref _] _) _ _ _); (k_dflt (refine' FnS.use (deck_ok _ _ _ _ _) ?hS ?hI ?hN ?kB ?kF ?kX ?kN ?kT ?kK ?kd ?ku ?_; (case kN => k_asm); (case hS | hI => assumption); (case hN => omega); (case kB | kF | kX | kT => k_asm); (case kK => first | exact rfl | assumption); (case kd => ktr_room); (case ku => ktr_units); (rintro r9 nw9 h9 tk9 R9 F9 N9); (refine byG ?_; intro G9 hG9); (rcases R9 with ⟨d9, c9, o9, lo9, er9, en9, D9, l19, l29⟩); (subst en9; subst er9; refine hG9 ?_; clear hG9 G9; have hdc9 := D9.1))); (try dsimp only))
  k_with "call ref" => (k_here; (with_reducible show wpAny _ _ (call (Value.ref 345) _ _) _ _ _); (k_dflt (refine' FnW.use (data_ok _ _ _ _ _ ?hdc) ?kB ?kF ?kX ?kN ?kT ?kK ?kd ?ku ?_; (case kN => k_asm); (case hdc => assumption); (case kB | kF | kX | kT => k_asm); (case kK => first | exact rfl | assumption); (case kd => ktr_room); (case ku => ktr_units); (intro r9 nw9 h9 tk9 R9 F9 N9); have R19 := DataR.blk R9; clear R9; (rcases R19 with ⟨X9, blk9, er9, en9, DI9, lt9⟩); (subst en9; subst er9; have N19 := news_rotb N9; clear N9; have hd19 := blk_ne1 hdc9 lt9; have hc19 := blk_ne2 lt9))); (try dsimp only))
  k_with "call ref" => (k_here; (with_reducible show wpAny _ _ (call (Value.ref 331) [Value.ref _, Value.int _ _] _) _ _ _); k_dflt (refine' FnW.useK (draw_ok _ _ _ _ _ _ _ _ _ ?hh0 ?hh1 ?hhK ?hD ?hd1 ?hc1) DrawR.k ?kB ?kF ?kX ?kN ?kT ?kK ?kd ?ku ?_; (case kN => first | k_asm | exact news_r1 (by k_asm) | exact news_r2 (by k_asm) | exact news_r3 (by k_asm)); (case hD => assumption); (case hd1 | hc1 => k_all); (case hh0 | hh1 => first | omega | decide); (case hhK => first | exact kle0 ‹_› (by decide) | exact kadd ‹_› (by decide) | exact kadd2 ‹_› (by decide) | omega); (case kB | kF | kX | kT => k_asm); (case kK => first | exact rfl | assumption); (case kd => ktr_room); (case ku => ktr_units); (intro x9 t9 o9 lo9 xl9 xh9 D9 h9 tk9 F9 N9; (try dsimp only))))
  k_with "call ref" => (k_here; (with_reducible show wpAny _ _ (call (Value.ref 352) _ _) _ _ _); k_dflt (refine' Fn.useE (law_hex_ok _ _ _ (by omega) (by omega)) ?kB ?kF ?kX ?kN ?kT ?kK ?kd ?ku ?_; (case kB | kF | kX | kN | kT => k_asm); (case kK => first | exact rfl | assumption); (case kd => ktr_room); (case ku => ktr_units); (intro t9 h9 tk9 F9 N9)); (try dsimp only))
  k_with "binaryOp Add ref ref" => (k_here; (with_reducible show wpAny _ _ (binaryOp Operator.Add (Value.ref _) (Value.ref _)) _ _ _); (k_dflt (refine add_U (by k_asm) (by k_asm) (by k_mem) (by k_mem) (by simp; done) ?_; intro D' h' F' N' l1)); (try k_lt l1))
  k_with "call ref" => (k_here; (with_reducible show wpAny _ _ (call (Value.ref 338) [Value.ref _, Value.ref _] _) _ _ _); k_dflt (refine' FnW.useK (pick_ok _ _ _ _ _ _ _ _ _ _ ?hS ?hz0 ?hz ?hhK ?hD ?hd1 ?hc1) PickR.k ?kB ?kF ?kX ?kN ?kT ?kK ?kd ?ku ?_; (case kN => first | k_asm | exact news_r1 (by k_asm) | exact news_r2 (by k_asm) | exact news_r3 (by k_asm) | exact news_r4 (by k_asm) | exact news_r5 (by k_asm) | exact news_r6 (by k_asm) | exact news_r7 (by k_asm) | exact news_r8 (by k_asm) | exact news_r9 (by k_asm) | exact news_r10 (by k_asm) | exact news_r11 (by k_asm) | exact news_r12 (by k_asm) | exact news_r13 (by k_asm)); (case hS => k_mem); (case hz0 | hz => simp; done); (case hD => assumption); (case hd1 | hc1 => k_all); (case hhK => first | exact kle0 ‹_› (by decide) | exact kadd ‹_› (by decide) | exact kadd2 ‹_› (by decide) | omega); (case kB | kF | kX | kT => k_asm); (case kK => first | exact rfl | assumption); (case kd => ktr_room); (case ku => ktr_units); (intro r9 o9 lo9 hm9 D9 h9 tk9 F9 N9; (try dsimp only))))
  k_with "call ref" => (k_here; (with_reducible show wpAny _ _ (call (Value.ref 202) _ _) _ _ _); k_dflt (refine' Fn.use0 (num_optn _ _ ‹_› ‹_› ‹_›) ?kB ?kF ?kX ?kN ?kT ?kK ?kd ?ku ?_; (case kB | kF | kX | kN | kT => k_asm); (case kK => first | exact rfl | assumption); (case kd => ktr_room); (case ku => ktr_units); (intro h9 tk9 F9 N9)); (try dsimp only))
  k_with "call ref" => (k_here; (with_reducible show wpAny _ _ (call (Value.ref 202) _ _) _ _ _); k_dflt (refine' Fn.useE (num_opts _ _ ‹_› ‹_› ‹_›) ?kB ?kF ?kX ?kN ?kT ?kK ?kd ?ku ?_; (case kB | kF | kX | kN | kT => k_asm); (case kK => first | exact rfl | assumption); (case kd => ktr_room); (case ku => ktr_units); (intro t9 h9 tk9 F9 N9)); (try dsimp only))
  k_with "call ref" => (k_here; (with_reducible show wpAny _ _ (call (Value.ref 202) _ _) _ _ _); k_dflt (refine' FnT.use (num_over _ _ _ ‹_›) ?kB ?kF ?kX ?kN ?kT ?kXB ?kTB ?kDk ?kK ?kd ?ku ?_; (case kB | kF | kX | kN | kT => k_asm); (case kK => first | exact rfl | assumption); (case kd => ktr_room); (case ku => ktr_units); (case kXB | kTB | kDk => assumption); (rintro r9 nw9 h9 tk9 g9 ⟨e9, z9⟩ T9 F9 N9 B9 X9 P9 D9); (subst z9; subst e9)); (try dsimp only))
  k_with "call ref" => (k_here; (with_reducible show wpAny _ _ (call (Value.ref 388) _ _) _ _ _); k_dflt (refine' Fn.use0 (lawn_n _ _ ‹_› ‹_›) ?kB ?kF ?kX ?kN ?kT ?kK ?kd ?ku ?_; (case kB | kF | kX | kN | kT => k_asm); (case kK => first | exact rfl | assumption); (case kd => ktr_room); (case ku => ktr_units); (intro h9 tk9 F9 N9)); (try dsimp only))
  k_with "call ref" => (k_here; (with_reducible show wpAny _ _ (call (Value.ref 388) _ _) _ _ _); k_dflt (refine' Fn.useE (lawn_s _ _ ‹_› ‹_›) ?kB ?kF ?kX ?kN ?kT ?kK ?kd ?ku ?_; (case kB | kF | kX | kN | kT => k_asm); (case kK => first | exact rfl | assumption); (case kd => ktr_room); (case ku => ktr_units); (intro t9 h9 tk9 F9 N9)); (try dsimp only))
  have hf := List.mem_of_find?_eq_some (show (recsOf Internal.hd0.view_1).find? (fun e => e.name == Str.ofString "law") = some { name := Str.ofString "law", params := _, body := _, scope := _, pos := _ } from rfl)
  obtain ⟨fa', o', pm', cd', doc', e1, e2, e3, e4⟩ := T.fn _ hf
  clear hf
  obtain rfl : fa' = fa := by
    have e := e1.symm.trans hmg
    injection e with e
    injection e
  clear e1 hmg
  (try dsimp only [docDef] at e3 e4)
  refine wpG_call ?_
  refine' call_top T e2 e3 e4 ?k8 ?k9 ?kB ?_ rfl rfl rfl ?c5; (case k8 => decide +kernel); (case k9 => exact BindsTo.of_eq rfl); (case c5 => decide); (case kB => exact locs rfl)
  clear e2 e3 e4
  intro L' h' F'
  (try dsimp only)
  have B' := below_caller s₁.heap
  have N' : News s₁.heap L' h' [] := fun _ h => nomatch h
  have Dk : KtsDicts (([] : List Env).filterMap (·.frame)) s₁.heap := fun _ h => nomatch h
  with_reducible refine let Ag := _; let qg := _; (?_ : wpG _ Ag _ qg _)
  refine execs_consG (wpG_of ?_)
  walk_at "STEPS"
  (try dsimp only)
  refine execs_consG (wpG_of ?_)
  walk_at "STEPS"
  (try dsimp only)
  refine execs_consG (if_G (wpG_of ?_))
  walk_at "STEPS"
  · (try dsimp only)
    refine execs_consG (return_G (callF_G (K := Internal.hd0.heap_1 w.params) ?_ (by exact rfl) (by exact rfl) (by exact rfl)))
    walk_at "STEPS"
    refine FnGT.use (syl_right w 1 _ _ _ _ _ _ (by omega) ‹_› ‹_› ‹_› ‹_›) (by k_asm) (by k_asm) (by k_asm) (by exact news_drop3 ‹_›) (by k_asm) ‹_› ‹_› ‹_› (by first | exact rfl | assumption) (by ktr_room) (by ktr_units) ?_
    rintro r9 nw9 h9 tk9 g9 e9 T9 F9 N9 B9 X9 P9 D9
    rw [e9]
    exact hend _ _ _ _ _ T9 F9
  (try dsimp only)
  refine execs_nilG ?_
  (try dsimp only)
  refine execs_consG (if_G (wpG_of ?_))
  walk_at "STEPS"
  · (try dsimp only)
    refine execs_consG (return_G (callF_G (K := Internal.hd0.heap_1 w.params) ?_ (by exact rfl) (by exact rfl) (by exact rfl)))
    walk_at "STEPS"
    refine FnGT.use (ideo_right w 1 _ _ _ _ _ _ (by omega) ‹_› ‹_› ‹_› ‹_›) (by k_asm) (by k_asm) (by k_asm) (by exact news_drop3 ‹_›) (by k_asm) ‹_› ‹_› ‹_› (by first | exact rfl | assumption) (by ktr_room) (by ktr_units) ?_
    rintro r9 nw9 h9 tk9 g9 e9 T9 F9 N9 B9 X9 P9 D9
    rw [e9]
    exact hend _ _ _ _ _ T9 F9
  (try dsimp only)
  refine execs_nilG ?_
  (try dsimp only)
  refine execs_consG (if_G (wpG_of ?_))
  walk_at "STEPS"
  · (try dsimp only)
    refine execs_consG (return_G (callF_G (K := Internal.hd0.heap_1 w.params) ?_ (by exact rfl) (by exact rfl) (by exact rfl)))
    walk_at "STEPS"
    refine FnGT.use (label_right w 1 _ _ _ _ _ _ (by omega) ‹_› ‹_› ‹_› ‹_›) (by k_asm) (by k_asm) (by k_asm) (by exact news_drop3 ‹_›) (by k_asm) ‹_› ‹_› ‹_› (by first | exact rfl | assumption) (by ktr_room) (by ktr_units) ?_
    rintro r9 nw9 h9 tk9 g9 e9 T9 F9 N9 B9 X9 P9 D9
    rw [e9]
    exact hend _ _ _ _ _ T9 F9
  (try dsimp only)
  refine execs_nilG ?_
  (try dsimp only)
  refine execs_consG ?_
  refine assign_G ?_ ?_ ?_
  rotate_left
  · exact rfl
  · exact rfl
  refine wpG_of ?_
  walk_at "STEPS"
  (try dsimp only)
  (with_reducible rename Fr _ _ _ _ => F7); (with_reducible rename News _ _ _ _ => N7)
  refine execs_consG ?_
  refine assign_G ?_ ?_ ?_
  rotate_left
  · exact rfl
  · exact rfl
  refine evalCut_G (news := []) FigP F7 (newsWeak N7 (fun p hp => nomatch hp)) ?_ ?_
  · refine wpG_of ?_
    walk_at "STEPS"
    (with_reducible rename (_ ∈ _) => hm)
    refine ⟨_, _, rfl, ?_, by assumption, fun _ h => nomatch h⟩
    have hm2 := hm
    clear hm
    simp only [List.cons_append, List.nil_append, List.mem_cons, List.not_mem_nil, or_false] at hm2
    rcases hm2 with h | h | h | h | h | h | h | h | h | h | h | h | h
    all_goals rw [h]
    all_goals first
      | exact ⟨_, _, rfl, by decide⟩
      | exact ⟨_, _, rfl, Nat.le_trans (hexB_len _) (by decide)⟩
  rintro v h2 tk2 ⟨l, t, rfl, hl⟩ F2 N2
  walk_at "STEPS"
  (try dsimp only)
  cases hov : overB l with
  | true =>
    have hn := (nf_over hov).1
    refine execs_consG (wpG_of ?_)
    walk_at "STEPS"
    exact hend _ _ _ _ _ ‹_› ‹_›
  | false =>
    cases hn : numF l with
    | none =>
      refine execs_consG (wpG_of ?_)
      walk_at "STEPS"
      exact hend _ _ _ _ _ KtsTurn.refl ‹_›
    | some c =>
      refine execs_consG (wpG_of ?_)
      walk_at "STEPS"
      all_goals first
        | exact absurd rfl ‹_›
        | exact hend _ _ _ _ _ KtsTurn.refl ‹_›
        | (rw [show (c == c) = true from by simp]; exact hend _ _ _ _ _ KtsTurn.refl ‹_›)
        | (rw [show decide (c = c) = true from by simp]; exact hend _ _ _ _ _ KtsTurn.refl ‹_›)

end
end Internal
open Internal
theorem PySem.Challenge.cw_on0374_01_holds : PySem.Challenge.rw_on0374_01.Holds := by
  refine Internal.law_of Internal.hd0 (Internal.leftO_tree (by kernel_rfl) (by kernel_rfl) (fun s => by kernel_rfl) Internal.top_run) ?_
  k_fill
  intro w s₀ s₁ mg mb G Y fa o pm cd doc dV kV ho hd hcd hmg hg args vals as hpre hlay hrd hwl hlo
  have KX := kIn_of Y
  refine Ground.open G ?_
  intro T B D TE TW
  clear B D TE TW
  wrow_args hpre hlay hrd hwl hlo
  have T : Top Internal.hd0.view_1 LS (ExcName.means s₀.heap) mg mb s₁.heap := looseLS ▸ T
  refine law_walk w s₁ _ mg mb T KX _ _ _ ‹_› ‹_› (by omega) fa hmg _ ?_
  intro g L' h' m tk T9 F9
  have hk : ∀ b o, s₁.heap.get? b = some o → h'.get? b = some o := fun b o e => F9.keep b o (T9.other b o e (by simp))
  have F8 : Fr s₁.heap L' h' m := ⟨F9.1, hk, by rw [← T9.size]; exact F9.above⟩
  refine GoodW.toG (goodW_bool ‹_› ‹_› (raisesW_false ?_) ?_)
  · wrow_none_raised
  · wrow_post
