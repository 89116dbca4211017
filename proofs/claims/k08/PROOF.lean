import PyProof.Rows.All
import Wide.All
import OpenK.AllK
import Wide.FinOn
import HandS.ForMost
import HandS.Deep
import HandS.Walk
import HandS.Zip
import HandS.Flow
import HandS.ExcInit
import HandS.TryOnly
import HandS.CallSlots
import HandS.CallLocal
import HandS.TupAny
import HandS.TupLe
import HandS.IsInst
import KE.SortData
import KE.GoesEnum
import KE.DataMinMax
import KE.KTupSum
import PyProof.P3In
import HandS.Style
import HandS.List
import HandS.WordsExc
import KE.KExcLine
import HandS.ExcSuper
import HandS.TupMul
import KE.KRevSl
import KE.DataFind
import PyProof.Claim2Refuses
import PySem.Challenge.RW_coneshoisted_k08_most_boats_are_best_lam
section
set_option Elab.async false
set_option linter.all false
set_option maxRecDepth 100000
/-! G0: data instead of heaps. A def's body is read over plain data (PyData); what the heap holds is carried once, in Ev. -/
namespace G
open PySem PySem.Spec PyProof.Rows L2

/-! ### the weakest readings -/
section
variable (X : Cx)
def wE (e : Expr) : TE := fun σ H Q => ∀ pins s, Inv X pins σ H s → wpAny (model X.prog X.w) X.A (eval e X.env) (EP X pins σ Q) X.xe s
def wT (e : Expr) : TT := fun σ H Q => ∀ pins s, Inv X pins σ H s → wpAny (model X.prog X.w) X.A (isTrue e X.env (eval e X.env)) (TP X pins σ Q) X.xe s
def wW (e : Expr) : TT := fun σ H Q => ∀ whole pins s, Inv X pins σ H s → wpAny (model X.prog X.w) X.A (isTrue e X.env whole) (TP X pins σ Q) X.xe s
def wA (es : List Expr) : TA := fun σ H Q => ∀ pos pins s, Inv X pins σ H s → wpAny (model X.prog X.w) X.A (spliced (backTo pos (starEach es X.env))) (AP X pins σ Q) X.xe s
def wS (st : Stmt) : TS := fun D σ H => ∀ pins s, Inv X pins σ H s → wpAny (model X.prog X.w) X.A (exec st X.env) (SP X pins D) X.xe s
def wSs (st : List Stmt) : TS := fun D σ H => ∀ pins s, Inv X pins σ H s → wpAny (model X.prog X.w) X.A (execs st X.env) (SP X pins D) X.xe s
def wI (tg iter : Expr) : TI := fun σ H R => ∀ pins s, Inv X pins σ H s → wpAny (model X.prog X.w) X.A (eval iter X.env) (fun v s1 => wpAny (model X.prog X.w) X.A (pyIter v) (PIE X pins σ tg R) X.xe s1) X.xe s
def wG (tg : Expr) : TG := fun v σ H Q => ∀ pins s u, Inv X pins σ H s → RelV v u → wpAny (model X.prog X.w) X.A (assign tg X.env u) (fun _ s' => ∃ σ' H', Inv X pins σ' H' s' ∧ Q σ' H') X.xe s
def wGs (ts : List Expr) : TGs := fun vs σ H Q => ∀ pins s us, Inv X pins σ H s → Vals vs us → wpAny (model X.prog X.w) X.A (assignInOrder ((assignEach ts X.env).map (·.2)) us) (fun _ s' => ∃ σ' H', Inv X pins σ' H' s' ∧ Q σ' H') X.xe s
def wTs (ifs : List Expr) : TT := fun σ H Q => ∀ pins s, Inv X pins σ H s →
    wpAny (model X.prog X.w) X.A (forIn ifs true fun c r => if r = true then do let ok ← isTrue c X.env (eval c X.env); pure (ForInStep.yield ok) else pure (ForInStep.yield r)) (TP X pins σ Q) X.xe s
end
section
variable {X : Cx} {σ : L2.St} {H : Hp}
theorem pe_w {e : Expr} : PE X e (wE X e) := ⟨fun pins s _ _ _ I h => h pins s I⟩
theorem pt_w {e : Expr} : PT X e (wT X e) := ⟨fun pins s _ _ _ I h => h pins s I⟩
theorem pw_w {e : Expr} : PW X e (wW X e) := ⟨fun wh pins s _ _ _ I h => h wh pins s I⟩
theorem pa_w {es : List Expr} : PA X es (wA X es) := ⟨fun pos pins s _ _ _ I h => h pos pins s I⟩
theorem ps_w {st : Stmt} : PS X st (wS X st) := ⟨fun pins s _ _ _ I h => h pins s I⟩
theorem pss_w {st : List Stmt} : PSs X st (wSs X st) := ⟨fun pins s _ _ _ I h => h pins s I⟩
theorem pi_w {tg iter : Expr} : PI X tg iter (wI X tg iter) := ⟨fun pins s _ _ _ I h => h pins s I⟩
theorem pg_w {tg : Expr} : PG X tg (wG X tg) := ⟨fun pins s _ _ _ u _ I r h => h pins s u I r⟩
theorem pgs_w {ts : List Expr} : PGs X ts (wGs X ts) := ⟨fun pins s _ _ _ us _ I r h => h pins s us I r⟩
theorem pts_w {ifs : List Expr} : PTs X ifs (wTs X ifs) := ⟨fun pins s _ _ _ I h => h pins s I⟩
theorem _root_.L2.PE.w {e : Expr} {t : TE} {Q : VK} (p : PE X e t) (h : t σ H Q) : wE X e σ H Q := fun pins s I => p.run pins s σ H Q I h
theorem _root_.L2.PT.w {e : Expr} {t : TT} {Q : Bool → Hp → Prop} (p : PT X e t) (h : t σ H Q) : wT X e σ H Q := fun pins s I => p.run pins s σ H Q I h
theorem _root_.L2.PW.w {e : Expr} {t : TT} {Q : Bool → Hp → Prop} (p : PW X e t) (h : t σ H Q) : wW X e σ H Q := fun wh pins s I => p.run wh pins s σ H Q I h
theorem _root_.L2.PA.w {es : List Expr} {t : TA} {Q : List V → Hp → Prop} (p : PA X es t) (h : t σ H Q) : wA X es σ H Q := fun pos pins s I => p.run pos pins s σ H Q I h
theorem _root_.L2.PS.w {st : Stmt} {t : TS} {D : Ends} (p : PS X st t) (h : t D σ H) : wS X st D σ H := fun pins s I => p.run pins s σ H D I h
theorem _root_.L2.PSs.w {st : List Stmt} {t : TS} {D : Ends} (p : PSs X st t) (h : t D σ H) : wSs X st D σ H := fun pins s I => p.run pins s σ H D I h
theorem _root_.L2.PI.w {tg iter : Expr} {t : TI} {R : It → Hp → Prop} (p : PI X tg iter t) (h : t σ H R) : wI X tg iter σ H R := fun pins s I => p.run pins s σ H R I h
theorem _root_.L2.PG.w {tg : Expr} {t : TG} {v : V} {Q : L2.St → Hp → Prop} (p : PG X tg t) (h : t v σ H Q) : wG X tg v σ H Q := fun pins s u I r => p.run pins s σ H v u Q I r h
theorem _root_.L2.PGs.w {ts : List Expr} {t : TGs} {vs : List V} {Q : L2.St → Hp → Prop} (p : PGs X ts t) (h : t vs σ H Q) : wGs X ts vs σ H Q := fun pins s us I r => p.run pins s σ H vs us Q I r h
theorem _root_.L2.PTs.w {ifs : List Expr} {t : TT} {Q : Bool → Hp → Prop} (p : PTs X ifs t) (h : t σ H Q) : wTs X ifs σ H Q := fun pins s I => p.run pins s σ H Q I h
theorem wE.mono {e : Expr} {Q Q' : VK} (h : wE X e σ H Q) (m : ∀ v H', Q v H' → Q' v H') : wE X e σ H Q' := fun pins s I =>
  wpAny_mono (h pins s I) (fun _ _ ⟨v, H', I', r, q⟩ => ⟨v, H', I', r, m v H' q⟩) fun _ _ z => z
theorem wT.mono {e : Expr} {Q Q' : Bool → Hp → Prop} (h : wT X e σ H Q) (m : ∀ v H', Q v H' → Q' v H') : wT X e σ H Q' := fun pins s I =>
  wpAny_mono (h pins s I) (fun _ _ ⟨H', I', q⟩ => ⟨H', I', m _ H' q⟩) fun _ _ z => z
end

end G
namespace L2
open PySem PySem.Spec PyProof.Rows
abbrev D := PyData
/-! ### data on the heap: lists and tuples that are tracked -/
mutual
inductive Rp (H : Hp) : V → PyData → Prop
  | non : Rp H .non .none
  | bl (b : Bool) : Rp H (.bl b) (.bool b)
  | int (i : Int) : Rp H (.int i) (.int i)
  | str (x : Str) : Rp H (.str x) (.str x)
  | lst {a : Addr} {xs : List V} {ds : List PyData} : H a = some (.lst xs) → RpAll H xs ds → Rp H (.ref a) (.list ds)
  | tup {a : Addr} {xs : List V} {ds : List PyData} : H a = some (.tup xs) → RpAll H xs ds → Rp H (.ref a) (.tuple ds)
inductive RpAll (H : Hp) : List V → List PyData → Prop
  | nil : RpAll H [] []
  | cons {v : V} {vs : List V} {d : PyData} {ds : List PyData} : Rp H v d → RpAll H vs ds → RpAll H (v :: vs) (d :: ds)
end
mutual
theorem Rp.mono {H H' : Hp} (e : L2.Same H H') : ∀ {v : V} {d : D}, Rp H v d → Rp H' v d
  | _, _, .non => .non
  | _, _, .bl b => .bl b
  | _, _, .int i => .int i
  | _, _, .str x => .str x
  | _, _, .lst h r => .lst (e _ _ h) (RpAll.mono e r)
  | _, _, .tup h r => .tup (e _ _ h) (RpAll.mono e r)
theorem RpAll.mono {H H' : Hp} (e : L2.Same H H') : ∀ {vs : List V} {ds : List D}, RpAll H vs ds → RpAll H' vs ds
  | _, _, .nil => .nil
  | _, _, .cons h r => .cons (Rp.mono e h) (RpAll.mono e r)
end
mutual
theorem Rp.dp {K : PySem.W.Frag} {H : Hp} : ∀ {v : V} {d : D}, Rp H v d → Dp K H v d
  | _, _, .non => .non
  | _, _, .bl b => .bl b
  | _, _, .int i => .int i
  | _, _, .str x => .str x
  | _, _, .lst h r => .lst (.of h) (RpAll.dp r)
  | _, _, .tup h r => .tup (.of h) (RpAll.dp r)
theorem RpAll.dp {K : PySem.W.Frag} {H : Hp} : ∀ {vs : List V} {ds : List D}, RpAll H vs ds → DpAll K H vs ds
  | _, _, .nil => .nil
  | _, _, .cons h r => .cons (Rp.dp h) (RpAll.dp r)
end
theorem RpAll.length {H : Hp} : ∀ {vs : List V} {ds : List D}, RpAll H vs ds → vs.length = ds.length
  | _, _, .nil => rfl
  | _, _, .cons _ r => by rw [List.length_cons, List.length_cons, RpAll.length r]
theorem RpAll.get {H : Hp} : ∀ {vs : List V} {ds : List D} {i : Nat} {d : D}, RpAll H vs ds → ds[i]? = some d → ∃ v, vs[i]? = some v ∧ Rp H v d
  | _, _, _, _, .nil, h => by simp at h
  | _, _, 0, _, .cons h _, e => by
    simp only [List.getElem?_cons_zero, Option.some.injEq] at e
    subst e
    exact ⟨_, rfl, h⟩
  | _, _, i + 1, _, .cons _ r, e => by
    simp only [List.getElem?_cons_succ] at e ⊢
    exact RpAll.get r e
theorem RpAll.getV {H : Hp} : ∀ {vs : List V} {ds : List D} {i : Nat} {v : V}, RpAll H vs ds → vs[i]? = some v → ∃ d, ds[i]? = some d ∧ Rp H v d
  | _, _, _, _, .nil, h => by simp at h
  | _, _, 0, _, .cons h _, e => by
    simp only [List.getElem?_cons_zero, Option.some.injEq] at e
    subst e
    exact ⟨_, rfl, h⟩
  | _, _, i + 1, _, .cons _ r, e => by
    simp only [List.getElem?_cons_succ] at e ⊢
    exact RpAll.getV r e
theorem RpAll.append {H : Hp} : ∀ {vs ws : List V} {ds es : List D}, RpAll H vs ds → RpAll H ws es → RpAll H (vs ++ ws) (ds ++ es)
  | _, _, _, _, .nil, s => s
  | _, _, _, _, .cons h r, s => .cons h (RpAll.append r s)
theorem RpAll.take {H : Hp} : ∀ {vs : List V} {ds : List D} (n : Nat), RpAll H vs ds → RpAll H (vs.take n) (ds.take n)
  | _, _, 0, _ => .nil
  | _, _, _ + 1, .nil => .nil
  | _, _, n + 1, .cons h r => .cons h (RpAll.take n r)
theorem RpAll.drop {H : Hp} : ∀ {vs : List V} {ds : List D} (n : Nat), RpAll H vs ds → RpAll H (vs.drop n) (ds.drop n)
  | _, _, 0, r => r
  | _, _, _ + 1, .nil => .nil
  | _, _, n + 1, .cons _ r => RpAll.drop n r
theorem RpAll.set {H : Hp} {v : V} {d : D} (h : Rp H v d) : ∀ {vs : List V} {ds : List D} (i : Nat), RpAll H vs ds → RpAll H (vs.set i v) (ds.set i d)
  | _, _, _, .nil => .nil
  | _, _, 0, .cons _ r => .cons h r
  | _, _, i + 1, .cons q r => .cons q (RpAll.set h i r)
theorem RpAll.reverse {H : Hp} : ∀ {vs : List V} {ds : List D}, RpAll H vs ds → RpAll H vs.reverse ds.reverse
  | _, _, .nil => .nil
  | _, _, .cons h r => by
    rw [List.reverse_cons, List.reverse_cons]
    exact (RpAll.reverse r).append (.cons h .nil)
theorem RpAll.ints {H : Hp} : ∀ (ns : List Int), RpAll H (ns.map V.int) (ns.map PyData.int)
  | [] => .nil
  | n :: r => .cons (.int n) (RpAll.ints r)
theorem Rp.intOf {H : Hp} {v : V} {i : Int} (h : Rp H v (.int i)) : v = .int i := by cases h; rfl
theorem Rp.blOf {H : Hp} {v : V} {b : Bool} (h : Rp H v (.bool b)) : v = .bl b := by cases h; rfl
theorem Rp.strOf {H : Hp} {v : V} {x : Str} (h : Rp H v (.str x)) : v = .str x := by cases h; rfl
theorem Rp.nonOf {H : Hp} {v : V} (h : Rp H v .none) : v = .non := by cases h; rfl
theorem Rp.lstOf {H : Hp} {v : V} {ds : List D} (h : Rp H v (.list ds)) : ∃ a vs, v = .ref a ∧ H a = some (.lst vs) ∧ RpAll H vs ds := by
  cases h with
  | lst q r => exact ⟨_, _, rfl, q, r⟩
theorem Rp.tupOf {H : Hp} {v : V} {ds : List D} (h : Rp H v (.tuple ds)) : ∃ a vs, v = .ref a ∧ H a = some (.tup vs) ∧ RpAll H vs ds := by
  cases h with
  | tup q r => exact ⟨_, _, rfl, q, r⟩
theorem RpAll.intsOf {H : Hp} : ∀ {vs : List V} {ns : List Int}, RpAll H vs (ns.map PyData.int) → vs = ns.map V.int
  | _, [], .nil => rfl
  | _, n :: r, .cons h t => by
    rw [Rp.intOf h, RpAll.intsOf t]
    rfl
theorem RpAll.blsOf {H : Hp} : ∀ {vs : List V} {ns : List Bool}, RpAll H vs (ns.map PyData.bool) → vs = ns.map V.bl
  | _, [], .nil => rfl
  | _, n :: r, .cons h t => by
    rw [Rp.blOf h, RpAll.blsOf t]
    rfl

end L2
namespace G
open PySem PySem.Spec PyProof.Rows L2
/-! ### what a name holds -/
inductive Sl where
  | no
  | va (d : D)
  | ow (ds : List D)
  | st
  | fn (f : Addr)

/-- the law's own draws: the list that they turn, with a budget -/
def StOk (b : Nat) (H F : Hp) (a : Addr) : Prop := ∃ (a1 : Addr) (cells : List Int) (i c r s t : Int), a1 ≠ a ∧ H a = some (.lst [.ref a1, .int i, .int c, .int r, .int s, .int t]) ∧ F a1 = some (.lst (cells.map V.int)) ∧
  (∀ z ∈ cells, 0 ≤ z) ∧ 0 ≤ i ∧ i ≤ cells.length ∧ 0 ≤ c ∧ 0 ≤ r ∧ 0 ≤ s ∧ s < 2 ^ 32 ∧ 0 ≤ t ∧ t + b < 2 ^ 60

/-- what is fixed in a def's run: the heap at its entry, what was frozen there, the draws' list -/
structure Ct where
  ss : Option Addr
  H0 : Hp
  F0 : Hp

def SlOk (K : PySem.W.Frag) (c : Ct) (H F : Hp) (o : Option (Option V)) : Sl → Prop
  | .no => True
  | .va d => ∃ v, o = some (some v) ∧ Rp F v d
  | .ow ds => ∃ a vs, o = some (some (.ref a)) ∧ H a = some (.lst vs) ∧ F a = none ∧ c.H0 a = none ∧ c.ss ≠ some a ∧ RpAll F vs ds
  | .st => ∃ a, o = some (some (.ref a)) ∧ c.ss = some a
  | .fn f => o = some (some (.ref f))

structure Ev (K : PySem.W.Frag) (c : Ct) (b : Nat) (σ : L2.St) (H F : Hp) (Γ : List Sl) : Prop where
  sub : L2.Same F H
  len : Γ.length = σ.length
  sl : ∀ (i : Nat) (s : Sl), Γ[i]? = some s → SlOk K c H F σ[i]? s
  apart : ∀ (i j : Nat) (a : Addr) (ds es : List D), Γ[i]? = some (.ow ds) → Γ[j]? = some (.ow es) → σ[i]? = some (some (.ref a)) → σ[j]? = some (some (.ref a)) → i = j
  stt : ∀ a, c.ss = some a → F a = none ∧ StOk b H F a
  h0 : ∀ a o, c.H0 a = some o → c.ss ≠ some a → H a = some o
  f0 : L2.Same c.F0 F
  nw : ∀ a, c.F0 a = none → F a ≠ none → c.H0 a = none

section
variable {K : PySem.W.Frag} {c : Ct} {b : Nat} {σ : L2.St} {H F H' F' : Hp} {Γ : List Sl}
theorem L2Same.upd {H : Hp} {p : Addr} {o : HO} (h : H p = none) : L2.Same H (upd H p o) := fun b x e => by
  rw [upd_ne (ne_of_none e h)]
  exact e
/-- a new object is laid, and frozen -/
theorem Ev.alloc {p : Addr} {o : HO} (E : Ev K c b σ H F Γ) (h : H p = none) : Ev K c b σ (upd H p o) (upd F p o) Γ := by
  have fp : F p = none := E.sub.free h
  have e1 : L2.Same H (upd H p o) := L2Same.upd h
  have e2 : L2.Same F (upd F p o) := L2Same.upd fp
  have ne : ∀ a x, H a = some x → a ≠ p := fun a x e => ne_of_none e h
  refine ⟨fun a x e => ?_, E.len, fun i s hs => ?_, E.apart, fun a ha => ?_, fun a x e hss => e1 _ _ (E.h0 a x e hss), E.f0.trans e2, fun a h1 h2 => ?_⟩
  · by_cases hp : a = p
    · subst hp
      rw [upd_same] at e ⊢
      exact e
    · rw [upd_ne hp] at e ⊢
      exact E.sub a x e
  · have q := E.sl i s hs
    cases s with
    | no => trivial
    | va d => exact let ⟨v, z, r⟩ := q; ⟨v, z, Rp.mono e2 r⟩
    | ow ds =>
      obtain ⟨a, vs, z, ha, fa, h0, hs, r⟩ := q
      exact ⟨a, vs, z, e1 _ _ ha, by rw [upd_ne (ne a _ ha)]; exact fa, h0, hs, RpAll.mono e2 r⟩
    | st => exact q
    | fn f => exact q
  · obtain ⟨fa, a1, cells, i, cc, r, s, t, n, q1, q2, q3⟩ := E.stt a ha
    exact ⟨by rw [upd_ne (ne a _ q1)]; exact fa, a1, cells, i, cc, r, s, t, n, e1 _ _ q1, e2 _ _ q2, q3⟩
  · by_cases hp : a = p
    · subst hp
      cases q : c.H0 a with
      | none => rfl
      | some x =>
        exfalso
        by_cases hss : c.ss = some a
        · obtain ⟨_, _, cells, i, cc, r, s, t, n, q1, _⟩ := E.stt a hss
          rw [h] at q1; cases q1
        · rw [E.h0 a x q hss] at h; cases h
    · rw [upd_ne hp] at h2
      exact E.nw a h1 h2
/-- a new list is laid; nobody else knows it -/
theorem Ev.alloc1 {p : Addr} {o : HO} (E : Ev K c b σ H F Γ) (h : H p = none) : Ev K c b σ (upd H p o) F Γ := by
  have e1 : L2.Same H (upd H p o) := L2Same.upd h
  refine ⟨E.sub.trans e1, E.len, fun i s hs => ?_, E.apart, fun a ha => ?_, fun a x e hss => e1 _ _ (E.h0 a x e hss), E.f0, E.nw⟩
  · have q := E.sl i s hs
    cases s with
    | no => trivial
    | va d => exact q
    | ow ds => exact let ⟨a, vs, z, ha, r⟩ := q; ⟨a, vs, z, e1 _ _ ha, r⟩
    | st => exact q
    | fn f => exact q
  · obtain ⟨fa, a1, cells, i, cc, r, s, t, n, q1, q2, q3⟩ := E.stt a ha
    exact ⟨fa, a1, cells, i, cc, r, s, t, n, e1 _ _ q1, q2, q3⟩
theorem Ev.h0none (E : Ev K c b σ H F Γ) {p : Addr} (h : H p = none) : c.H0 p = none := by
  cases q : c.H0 p with
  | none => rfl
  | some x =>
    exfalso
    by_cases hss : c.ss = some p
    · obtain ⟨_, _, cells, i, cc, r, s, t, n, q1, _⟩ := E.stt p hss
      rw [h] at q1; cases q1
    · rw [E.h0 p x q hss] at h; cases h
theorem Ev.notSt (E : Ev K c b σ H F Γ) {p : Addr} (h : H p = none) : c.ss ≠ some p := fun z => by
  obtain ⟨_, _, cells, i, cc, r, s, t, n, q1, _⟩ := E.stt p z
  rw [h] at q1; cases q1
/-- an object of ours is frozen: it stands in H, not in F, not in H0 -/
theorem Ev.freezeAt {p : Addr} {o : HO} (E : Ev K c b σ H F Γ) (h : H p = some o) (hf : F p = none) (h0 : c.H0 p = none) (hs : c.ss ≠ some p) (ho : ∀ (i : Nat) (ds : List D), Γ[i]? = some (.ow ds) → σ[i]? ≠ some (some (.ref p))) : Ev K c b σ H (upd F p o) Γ := by
  have e2 : L2.Same F (upd F p o) := L2Same.upd hf
  refine ⟨fun a x e => ?_, E.len, fun i s hs' => ?_, E.apart, fun a ha => ?_, E.h0, E.f0.trans e2, fun a h1 h2 => ?_⟩
  · by_cases hp : a = p
    · subst hp
      rw [upd_same] at e
      cases e; exact h
    · rw [upd_ne hp] at e
      exact E.sub a x e
  · have q := E.sl i s hs'
    cases s with
    | no => trivial
    | va d => exact let ⟨v, z, r⟩ := q; ⟨v, z, Rp.mono e2 r⟩
    | ow ds =>
      obtain ⟨a, vs, z, ha, fa, h0', hs'', r⟩ := q
      have ne : a ≠ p := fun e => ho i ds hs' (by rw [z, e])
      exact ⟨a, vs, z, ha, by rw [upd_ne ne]; exact fa, h0', hs'', RpAll.mono e2 r⟩
    | st => exact q
    | fn f => exact q
  · obtain ⟨fa, a1, cells, i, cc, r, s, t, n, q1, q2, q3⟩ := E.stt a ha
    have ne : a ≠ p := fun e => hs (by rw [← e]; exact ha)
    exact ⟨by rw [upd_ne ne]; exact fa, a1, cells, i, cc, r, s, t, n, q1, e2 _ _ q2, q3⟩
  · by_cases hp : a = p
    · subst hp; exact h0
    · rw [upd_ne hp] at h2
      exact E.nw a h1 h2
/-- what an expression leaves: all that was frozen stays, all that stood stays but the draws' list -/
structure Xt (c : Ct) (H F H' F' : Hp) : Prop where
  f : L2.Same F F'
  h : ∀ a o, H a = some o → c.ss ≠ some a → H' a = some o
  k : ∀ a, H' a = none → H a = none
  n : ∀ a, F a = none → F' a ≠ none → H a = none
theorem Xt.refl : Xt c H F H F := ⟨L2.Same.refl F, fun _ _ e _ => e, fun _ e => e, fun a e n => absurd e n⟩
theorem Xt.trans {H2 F2 : Hp} (x : Xt c H F H' F') (y : Xt c H' F' H2 F2) : Xt c H F H2 F2 := ⟨x.f.trans y.f, fun a o e n => y.h a o (x.h a o e n) n, fun a e => x.k a (y.k a e), fun a e n => by
  cases q : F' a with
  | none => exact x.k a (y.n a q n)
  | some o => exact x.n a e (by rw [q]; exact fun z => nomatch z)⟩
theorem free_upd {p a : Addr} {o : HO} {H : Hp} (e : upd H p o a = none) : H a = none := by
  by_cases h : a = p
  · subst h; rw [upd_same] at e; cases e
  · rw [upd_ne h] at e; exact e
theorem Xt.upd {p : Addr} {o : HO} (hp : H p = none) (fp : F p = none) : Xt c H F (upd H p o) (upd F p o) := ⟨L2Same.upd fp, fun a x e _ => L2Same.upd hp a x e, fun a e => free_upd e, fun a e n => by
  by_cases h : a = p
  · subst h; exact hp
  · rw [upd_ne h] at n; exact absurd e n⟩
theorem Xt.new {p : Addr} {o : HO} (hp : H p = none) : Xt c H F (L2.upd H p o) F := ⟨L2.Same.refl F, fun a x e _ => L2Same.upd hp a x e, fun a e => free_upd e, fun a e n => absurd e n⟩
/-- the names' view may be narrowed -/
inductive Le : Sl → Sl → Prop
  | no {s : Sl} : Le s .no
  | rf {s : Sl} : Le s s
theorem Ev.weak {Γ' : List Sl} (E : Ev K c b σ H F Γ) (hl : Γ'.length = Γ.length) (h : ∀ (i : Nat) (s' : Sl), Γ'[i]? = some s' → s' = .no ∨ Γ[i]? = some s') : Ev K c b σ H F Γ' := by
  refine ⟨E.sub, hl.trans E.len, fun i s hs => ?_, fun i j a ds es h1 h2 => ?_, E.stt, E.h0, E.f0, E.nw⟩
  · rcases h i s hs with rfl | q
    · trivial
    · exact E.sl i s q
  · rcases h i _ h1 with z | q1
    · cases z
    · rcases h j _ h2 with z | q2
      · cases z
      · exact E.apart i j a ds es q1 q2
end
end G

end
section
set_option Elab.async false
set_option linter.all false
set_option maxRecDepth 100000
/-! G1: judgements over plain data, the rules for expressions. -/
namespace G
open PySem PySem.Spec PyProof.Rows L2

/-! ### what a reading is worth: R; Pt is what is wished of the end -/
class RM (R : Type) where
  Pt : Type
  tr : Pt → Nat → R → Prop
  bnd : {α : Type} → Option α → (α → R) → R
  bh : ∀ {P : Pt} {b : Nat} {α : Type} {m : Option α} {k : α → R}, tr P b (bnd m k) → ∃ a, m = some a ∧ tr P b (k a)
open RM (bnd)
instance instRMOption (α : Type) : RM (Option α) where
  Pt := α → Nat → Prop
  tr P b r := ∃ a, r = some a ∧ P a b
  bnd m k := m.bind k
  bh {P b β m k} h := by
    obtain ⟨a, e, q⟩ := h
    cases m with
    | none => cases e
    | some x => exact ⟨x, rfl, a, e, q⟩
/-- readings with draws: what holds whatever is drawn, a draw taking 1 of the budget -/
abbrev Wp (α : Type) : Type := (α → Nat → Prop) → Nat → Prop
instance instRMWp (α : Type) : RM (Wp α) where
  Pt := α → Nat → Prop
  tr P b r := r P b
  bnd m k := fun P b => ∃ a, m = some a ∧ k a P b
  bh {P b β m k} h := h
theorem bnd_opt {α β : Type} (m : Option α) (k : α → Option β) : bnd m k = m.bind k := rfl
theorem bnd_some {R : Type} [RM R] : True := trivial

/-! ### values: known in F, or an owned list -/
def Rv (K : PySem.W.Frag) (σ : L2.St) (Γ : List Sl) (F : Hp) (v : V) (d : D) : Prop := Rp F v d ∨ ∃ (i : Nat) (ds : List D), Γ[i]? = some (.ow ds) ∧ σ[i]? = some (some v) ∧ d = .list ds
def RvAll (K : PySem.W.Frag) (σ : L2.St) (Γ : List Sl) (F : Hp) : List V → List D → Prop := Paired (Rv K σ Γ F)
section
variable {K : PySem.W.Frag} {c : Ct} {b : Nat} {σ : L2.St} {H F H' F' : Hp} {Γ : List Sl} {v : V} {d : D}
theorem Rv.mono (e : L2.Same F F') (r : Rv K σ Γ F v d) : Rv K σ Γ F' v d := r.elim (fun z => .inl (Rp.mono e z)) .inr
theorem RvAll.mono (e : L2.Same F F') : ∀ {vs : List V} {ds : List D}, RvAll K σ Γ F vs ds → RvAll K σ Γ F' vs ds
  | _, _, .nil => .nil
  | _, _, .cons h t => .cons (Rv.mono e h) (RvAll.mono e t)
theorem Rv.items {ds : List D} (E : Ev K c b σ H F Γ) (r : Rv K σ Γ F v (.list ds)) : ∃ a vs, v = .ref a ∧ H a = some (.lst vs) ∧ RpAll F vs ds := by
  rcases r with r | ⟨i, es, g, s, e⟩
  · obtain ⟨a, vs, e, q, r⟩ := Rp.lstOf r
    exact ⟨a, vs, e, E.sub _ _ q, r⟩
  · obtain ⟨a, vs, z, ha, fa, h0, hs, r⟩ := E.sl i _ g
    rw [s] at z
    cases z
    cases e
    exact ⟨a, vs, rfl, ha, r⟩
theorem Rv.itemsT {ds : List D} (E : Ev K c b σ H F Γ) (r : Rv K σ Γ F v (.tuple ds)) : ∃ a vs, v = .ref a ∧ F a = some (.tup vs) ∧ RpAll F vs ds := by
  rcases r with r | ⟨i, es, g, s, e⟩
  · exact Rp.tupOf r
  · cases e
theorem Rv.full (E : Ev K c b σ H F Γ) (r : Rv K σ Γ F v d) : Rp H v d := by
  rcases r with r | ⟨i, es, g, s, e⟩
  · exact Rp.mono E.sub r
  · obtain ⟨a, vs, z, ha, fa, h0, hs, r⟩ := E.sl i _ g
    rw [s] at z
    cases z
    cases e
    exact .lst ha (RpAll.mono E.sub r)
theorem Rv.intOf {i : Int} (r : Rv K σ Γ F v (.int i)) : v = .int i := by
  rcases r with r | ⟨_, _, _, _, e⟩
  · exact Rp.intOf r
  · cases e
theorem Rv.blOf {i : Bool} (r : Rv K σ Γ F v (.bool i)) : v = .bl i := by
  rcases r with r | ⟨_, _, _, _, e⟩
  · exact Rp.blOf r
  · cases e
theorem Rv.strOf {i : Str} (r : Rv K σ Γ F v (.str i)) : v = .str i := by
  rcases r with r | ⟨_, _, _, _, e⟩
  · exact Rp.strOf r
  · cases e
theorem Rv.nonOf (r : Rv K σ Γ F v .none) : v = .non := by
  rcases r with r | ⟨_, _, _, _, e⟩
  · exact Rp.nonOf r
  · cases e
end

/-! ### judgements -/
section
variable (X : Cx) (c : Ct) {R : Type} [RM R]
/-- an expression's value, known to stand; w: what is then done with it -/
def GC (e : Expr) (Γ : List Sl) (w : (D → R) → R) : Prop :=
  ∀ (P : RM.Pt R) (b : Nat) (σ : L2.St) (H F : Hp) (Q : VK) (k : D → R), Ev X.K c b σ H F Γ → RM.tr P b (w k) →
    (∀ d v b' H' F', Xt c H F H' F' → Ev X.K c b' σ H' F' Γ → Rp F' v d → RM.tr P b' (k d) → Q v H') → wE X e σ H Q
/-- .. which may be an owned list, just looked at -/
def GB (e : Expr) (Γ : List Sl) (w : (D → R) → R) : Prop :=
  ∀ (P : RM.Pt R) (b : Nat) (σ : L2.St) (H F : Hp) (Q : VK) (k : D → R), Ev X.K c b σ H F Γ → RM.tr P b (w k) →
    (∀ d v b' H' F', Xt c H F H' F' → Ev X.K c b' σ H' F' Γ → Rv X.K σ Γ F' v d → RM.tr P b' (k d) → Q v H') → wE X e σ H Q
/-- a new list, which nobody else knows -/
def GN (e : Expr) (Γ : List Sl) (w : (List D → R) → R) : Prop :=
  ∀ (P : RM.Pt R) (b : Nat) (σ : L2.St) (H F : Hp) (Q : VK) (k : List D → R), Ev X.K c b σ H F Γ → RM.tr P b (w k) →
    (∀ ds a vs b' H' F', Xt c H F H' F' → Ev X.K c b' σ H' F' Γ → H a = none → H' a = some (.lst vs) → F' a = none → c.H0 a = none → c.ss ≠ some a → (∀ (i : Nat) es, Γ[i]? = some (.ow es) → σ[i]? ≠ some (some (.ref a))) → RpAll F' vs ds → RM.tr P b' (k ds) → Q (.ref a) H') → wE X e σ H Q
/-- a test -/
def GT (e : Expr) (Γ : List Sl) (w : (Bool → R) → R) : Prop :=
  ∀ (P : RM.Pt R) (b : Nat) (σ : L2.St) (H F : Hp) (Q : Bool → Hp → Prop) (k : Bool → R), Ev X.K c b σ H F Γ → RM.tr P b (w k) →
    (∀ t b' H' F', Xt c H F H' F' → Ev X.K c b' σ H' F' Γ → RM.tr P b' (k t) → Q t H') → wT X e σ H Q
def GW (e : Expr) (Γ : List Sl) (w : (Bool → R) → R) : Prop :=
  ∀ (P : RM.Pt R) (b : Nat) (σ : L2.St) (H F : Hp) (Q : Bool → Hp → Prop) (k : Bool → R), Ev X.K c b σ H F Γ → RM.tr P b (w k) →
    (∀ t b' H' F', Xt c H F H' F' → Ev X.K c b' σ H' F' Γ → RM.tr P b' (k t) → Q t H') → wW X e σ H Q
/-- arguments -/
def GA (es : List Expr) (Γ : List Sl) (w : (List D → R) → R) : Prop :=
  ∀ (P : RM.Pt R) (b : Nat) (σ : L2.St) (H F : Hp) (Q : List V → Hp → Prop) (k : List D → R), Ev X.K c b σ H F Γ → RM.tr P b (w k) →
    (∀ ds vs b' H' F', Xt c H F H' F' → Ev X.K c b' σ H' F' Γ → RvAll X.K σ Γ F' vs ds → RM.tr P b' (k ds) → Q vs H') → wA X es σ H Q
/-- arguments that must stand -/
def GAs (es : List Expr) (Γ : List Sl) (w : (List D → R) → R) : Prop :=
  ∀ (P : RM.Pt R) (b : Nat) (σ : L2.St) (H F : Hp) (Q : List V → Hp → Prop) (k : List D → R), Ev X.K c b σ H F Γ → RM.tr P b (w k) →
    (∀ ds vs b' H' F', Xt c H F H' F' → Ev X.K c b' σ H' F' Γ → RpAll F' vs ds → RM.tr P b' (k ds) → Q vs H') → wA X es σ H Q
end

/-! ### operations by values -/
/-- a scalar answer, of values as they stand -/
def Op2 (X : Cx) (f : Value → Value → Sem Value) (g : D → D → Option D) : Prop :=
  ∀ (c : Ct) (b : Nat) (σ : L2.St) (H F : Hp) (Γ : List Sl) (x y : V) (d e z : D) (Q : VK), Ev X.K c b σ H F Γ → Rv X.K σ Γ F x d → Rv X.K σ Γ F y e → g d e = some z →
    (∀ v H' F', Xt c H F H' F' → Ev X.K c b σ H' F' Γ → Rp F' v z → Q v H') → ∃ r, OpR X f r ∧ r x y H Q
/-- .. a comparison: a truth -/
def Cp2 (X : Cx) (f : Value → Value → Sem Value) (g : D → D → Option Bool) : Prop :=
  ∀ (c : Ct) (b : Nat) (σ : L2.St) (H F : Hp) (Γ : List Sl) (x y : V) (d e : D) (z : Bool) (Q : VK), Ev X.K c b σ H F Γ → Rv X.K σ Γ F x d → Rv X.K σ Γ F y e → g d e = some z →
    Q (.bl z) H → ∃ r, OpR X f r ∧ r x y H Q
def CallD (X : Cx) (f : Value) (g : List D → Option D) : Prop :=
  ∀ (c : Ct) (b : Nat) (σ : L2.St) (H F : Hp) (Γ : List Sl) (vs : List V) (ds : List D) (z : D) (Q : VK), Ev X.K c b σ H F Γ → RvAll X.K σ Γ F vs ds → g ds = some z →
    (∀ v H' F', Xt c H F H' F' → Ev X.K c b σ H' F' Γ → Rp F' v z → Q v H') → ∃ r, CallR X f r ∧ r vs H Q
/-- .. whose answer is a new list -/
def CallN (X : Cx) (f : Value) (g : List D → Option (List D)) : Prop :=
  ∀ (c : Ct) (b : Nat) (σ : L2.St) (H F : Hp) (Γ : List Sl) (vs : List V) (ds : List D) (z : List D) (Q : VK), Ev X.K c b σ H F Γ → RvAll X.K σ Γ F vs ds → g ds = some z →
    (∀ a us, H a = none → RpAll F us z → Q (.ref a) (upd H a (.lst us))) → ∃ r, CallR X f r ∧ r vs H Q

section
variable {X : Cx} {c : Ct} {R : Type} [RM R] {Γ : List Sl} {e e1 e2 e3 : Expr} {pos : Pos}

theorem GC.b {w : (D → R) → R} (h : GC X c e Γ w) : GB X c e Γ w := fun P b σ H F Q k E t q => h P b σ H F Q k E t fun d v b' H' F' s E' r t' => q d v b' H' F' s E' (.inl r) t'
/-- a new list, frozen -/
theorem GN.fz {w : (List D → R) → R} (h : GN X c e Γ w) : GC X c e Γ (fun k => w fun ds => k (.list ds)) := fun P b σ H F Q k E t q =>
  h P b σ H F Q _ E t fun ds a vs b' H' F' s E' ga ha fa h0 hs ho r t' => by
    have E2 := E'.freezeAt ha fa h0 hs ho
    exact q (.list ds) (.ref a) b' H' _ ⟨s.f.trans (L2Same.upd fa), s.h, s.k, fun x e n => by
      by_cases hx : x = a
      · subst hx; exact ga
      · rw [upd_ne hx] at n; exact s.n x e n⟩ E2 (.lst upd_same (RpAll.mono (L2Same.upd fa) r)) t'

/-! ### names, constants -/
theorem gc_var {i : Nat} {x : Str} {d : D} (hN : X.N[i]? = some x) (hv : Vis X.env.scope x) (g : Γ[i]? = some (.va d)) (hd : (x == ("__debug__" : Str)) = false := by decide) (hcd : (x == ("__classdict__" : Str)) = false := by decide) :
    GC X c (.Name x pos) Γ (fun (k : D → R) => k d) := fun P b σ H F Q k E t q => by
  obtain ⟨v, z, r⟩ := E.sl i _ g
  exact (pe_var hN hv hd hcd).w ⟨v, z, q d v b H F (Xt.refl) E r t⟩
theorem gb_own {i : Nat} {x : Str} {ds : List D} (hN : X.N[i]? = some x) (hv : Vis X.env.scope x) (g : Γ[i]? = some (.ow ds)) (hd : (x == ("__debug__" : Str)) = false := by decide) (hcd : (x == ("__classdict__" : Str)) = false := by decide) :
    GB X c (.Name x pos) Γ (fun (k : D → R) => k (.list ds)) := fun P b σ H F Q k E t q => by
  obtain ⟨a, vs, z, r⟩ := E.sl i _ g
  exact (pe_var hN hv hd hcd).w ⟨.ref a, z, q _ _ b H F (Xt.refl) E (.inr ⟨i, ds, g, z, rfl⟩) t⟩
theorem gc_int {i : Int} {j : Nat} : GC X c (.Constant (.int i) j pos) Γ (fun (k : D → R) => k (.int i)) := fun P b σ H F Q k E t q => pe_int.w (q (.int i) _ b H F (Xt.refl) E (.int i) t)
theorem gc_bl {i : Bool} {j : Nat} : GC X c (.Constant (.bool i) j pos) Γ (fun (k : D → R) => k (.bool i)) := fun P b σ H F Q k E t q => pe_bl.w (q (.bool i) _ b H F (Xt.refl) E (.bl i) t)
theorem gc_str {i : Str} {j : Nat} : GC X c (.Constant (.str i) j pos) Γ (fun (k : D → R) => k (.str i)) := fun P b σ H F Q k E t q => pe_str.w (q (.str i) _ b H F (Xt.refl) E (.str i) t)
theorem gc_non {j : Nat} : GC X c (.Constant .none j pos) Γ (fun (k : D → R) => k .none) := fun P b σ H F Q k E t q => pe_non.w (q .none _ b H F (Xt.refl) E .non t)
/-- a module's int -/
theorem gc_glob {x : Str} {i : Int} {u : Value} (hg : Gl X x) (hm : X.mg x = some u) (r : RelV (.int i) u) (hd : (x == ("__debug__" : Str)) = false := by decide) :
    GC X c (.Name x pos) Γ (fun (k : D → R) => k (.int i)) := fun P b σ H F Q k E t q => (pe_glob hg hm r hd).w (q (.int i) _ b H F (Xt.refl) E (.int i) t)

/-! ### operators -/
theorem gc_op {op : Operator} {g : D → D → Option D} {w1 w2 : (D → R) → R} (ho : Op2 X (binaryOp op) g) (h1 : GB X c e1 Γ w1) (h2 : GB X c e2 Γ w2) :
    GC X c (.BinOp e1 op e2 pos) Γ (fun k => w1 fun x => w2 fun y => bnd (g x y) k) := fun P b σ H F Q k E t q => by
  refine fun pins s I => wpAny_BinOp (binT pe_w pe_w (R := fun x y H2 => ∃ r, OpR X (binaryOp op) r ∧ r x y H2 Q) I ?_ fun v u s2 x y H2 I2 rx ry z => ?_)
  · refine h1 P b σ H F _ _ E t fun d v b' H' F' s1 E' r1 t1 => h2 P b' σ H' F' _ _ E' t1 fun d2 v2 b2 H2 F2 s2 E2 r2 t2 => ?_
    obtain ⟨z, hz, t3⟩ := RM.bh t2
    exact ho c b2 σ H2 F2 Γ v v2 d d2 z Q E2 (r1.mono s2.f) r2 hz fun v3 H3 F3 s3 E3 r3 => q z v3 b2 H3 F3 ((s1.trans s2).trans s3) E3 r3 t3
  · obtain ⟨r, h, z⟩ := z
    exact h pins s2 σ H2 x y v u Q I2 rx ry z
def negD : D → Option D
  | .int i => some (.int (-i))
  | _ => none
theorem gc_neg {w1 : (D → R) → R} (h1 : GB X c e1 Γ w1) : GC X c (.UnaryOp .USub e1 pos) Γ (fun k => w1 fun x => bnd (negD x) k) := fun P b σ H F Q k E t q => by
  refine (pe_un un_neg pe_w).w ?_
  refine h1 P b σ H F _ _ E t fun d v b' H' F' s1 E' r1 t1 => ?_
  obtain ⟨z, hz, t2⟩ := RM.bh t1
  cases d with
  | int i =>
    cases hz
    exact ⟨i, r1.intOf, q _ _ b' H' F' s1 E' (.int _) t2⟩
  | _ => cases hz
theorem cmp_run {op : CmpOp} {g : D → D → Option Bool} {w1 w2 : (D → R) → R} (ho : Cp2 X (compareOp op) g) (h1 : GB X c e1 Γ w1) (h2 : GB X c e2 Γ w2) {P : RM.Pt R} {b : Nat} {σ : L2.St} {H F : Hp} {Q : VK} {k : Bool → R}
    (E : Ev X.K c b σ H F Γ) (t : RM.tr P b (w1 fun x => w2 fun y => bnd (g x y) k)) (q : ∀ t b' H' F', Xt c H F H' F' → Ev X.K c b' σ H' F' Γ → RM.tr P b' (k t) → Q (.bl t) H') :
    tOp (fun x y H Q => ∃ r, OpR X (compareOp op) r ∧ r x y H Q) (wE X e1) (wE X e2) σ H Q := by
  refine h1 P b σ H F _ _ E t fun d v b' H' F' s1 E' r1 t1 => h2 P b' σ H' F' _ _ E' t1 fun d2 v2 b2 H2 F2 s2 E2 r2 t2 => ?_
  obtain ⟨z, hz, t3⟩ := RM.bh t2
  exact ho c b2 σ H2 F2 Γ v v2 d d2 z Q E2 (r1.mono s2.f) r2 hz (q z b2 H2 F2 (s1.trans s2) E2 t3)
theorem op_ex {f : Value → Value → Sem Value} : OpR X f (fun x y H Q => ∃ r, OpR X f r ∧ r x y H Q) := fun pins s σ H x y v u Q I rx ry h =>
  let ⟨r, z, q⟩ := h
  z pins s σ H x y v u Q I rx ry q
theorem gc_cmp {op : CmpOp} {g : D → D → Option Bool} {w1 w2 : (D → R) → R} (ho : Cp2 X (compareOp op) g) (h1 : GB X c e1 Γ w1) (h2 : GB X c e2 Γ w2) (hm : behindInMarks op e2 = false := by first | exact nomark _ | rfl) :
    GC X c (.Compare e1 [op] [e2] pos) Γ (fun k => w1 fun x => w2 fun y => bnd (g x y) fun t => k (.bool t)) := fun P b σ H F Q k E t q =>
  (pe_cmpR op_ex pe_w pe_w hm).w (cmp_run ho h1 h2 E t fun z b' H' F' s E' t' => q (.bool z) _ b' H' F' s E' (.bl z) t')
theorem gt_cmp {op : CmpOp} {g : D → D → Option Bool} {w1 w2 : (D → R) → R} (ho : Cp2 X (compareOp op) g) (h1 : GB X c e1 Γ w1) (h2 : GB X c e2 Γ w2) (hm : behindInMarks op e2 = false := by first | exact nomark _ | rfl) :
    GT X c (.Compare e1 [op] [e2] pos) Γ (fun k => w1 fun x => w2 fun y => bnd (g x y) k) := fun P b σ H F Q k E t q =>
  (pt_cmpR op_ex pe_w pe_w hm).w (cmp_run ho h1 h2 E t fun z b' H' F' s E' t' => ⟨z, rfl, q z b' H' F' s E' t'⟩)
/-- a < b < c -/
theorem chain_run {op op' : CmpOp} {g g' : D → D → Option Bool} {w1 w2 w3 : (D → R) → R} (ho : Cp2 X (compareOp op) g) (ho' : Cp2 X (compareOp op') g') (h1 : GB X c e1 Γ w1) (h2 : GB X c e2 Γ w2) (h3 : GB X c e3 Γ w3) {P : RM.Pt R} {b : Nat} {σ : L2.St} {H F : Hp} {Q : VK} {k : Bool → R}
    (E : Ev X.K c b σ H F Γ) (t : RM.tr P b (w1 fun x => w2 fun y => bnd (g x y) fun t => if t = true then w3 fun z => bnd (g' y z) k else k false)) (q : ∀ t b' H' F', Xt c H F H' F' → Ev X.K c b' σ H' F' Γ → RM.tr P b' (k t) → Q (.bl t) H') :
    tChain (fun x y H Q => ∃ r, OpR X (compareOp op) r ∧ r x y H Q) (fun x y H Q => ∃ r, OpR X (compareOp op') r ∧ r x y H Q) (wE X e1) (wE X e2) (wE X e3) σ H Q := by
  refine h1 P b σ H F _ _ E t fun d v b' H' F' s1 E' r1 t1 => h2 P b' σ H' F' _ _ E' t1 fun d2 v2 b2 H2 F2 s2 E2 r2 t2 => ?_
  obtain ⟨z, hz, t3⟩ := RM.bh t2
  refine ho c b2 σ H2 F2 Γ v v2 d d2 z _ E2 (r1.mono s2.f) r2 hz ⟨z, rfl, ?_⟩
  cases z with
  | false => exact q false b2 H2 F2 (s1.trans s2) E2 t3
  | true =>
    refine h3 P b2 σ H2 F2 _ _ E2 t3 fun d3 v3 b3 H3 F3 s3 E3 r3 t4 => ?_
    obtain ⟨z', hz', t5⟩ := RM.bh t4
    exact ho' c b3 σ H3 F3 Γ v2 v3 d2 d3 z' Q E3 (r2.mono s3.f) r3 hz' (q z' b3 H3 F3 ((s1.trans s2).trans s3) E3 t5)
theorem gc_chain {op op' : CmpOp} {g g' : D → D → Option Bool} {w1 w2 w3 : (D → R) → R} (ho : Cp2 X (compareOp op) g) (ho' : Cp2 X (compareOp op') g') (h1 : GB X c e1 Γ w1) (h2 : GB X c e2 Γ w2) (h3 : GB X c e3 Γ w3)
    (hm : lastMarks [op, op'] [e2, e3] = false := by with_unfolding_all rfl) :
    GC X c (.Compare e1 [op, op'] [e2, e3] pos) Γ (fun k => w1 fun x => w2 fun y => bnd (g x y) fun t => if t = true then w3 fun z => bnd (g' y z) fun t => k (.bool t) else k (.bool false)) := fun P b σ H F Q k E t q =>
  (pe_chain op_ex op_ex pe_w pe_w pe_w hm).w (chain_run (k := fun t => k (.bool t)) ho ho' h1 h2 h3 E t fun z b' H' F' s E' t' => q (.bool z) _ b' H' F' s E' (.bl z) t')
theorem gt_chain {op op' : CmpOp} {g g' : D → D → Option Bool} {w1 w2 w3 : (D → R) → R} (ho : Cp2 X (compareOp op) g) (ho' : Cp2 X (compareOp op') g') (h1 : GB X c e1 Γ w1) (h2 : GB X c e2 Γ w2) (h3 : GB X c e3 Γ w3)
    (hm : lastMarks [op, op'] [e2, e3] = false := by with_unfolding_all rfl) :
    GT X c (.Compare e1 [op, op'] [e2, e3] pos) Γ (fun k => w1 fun x => w2 fun y => bnd (g x y) fun t => if t = true then w3 fun z => bnd (g' y z) k else k false) := fun P b σ H F Q k E t q =>
  (pt_chain op_ex op_ex pe_w pe_w pe_w hm).w (chain_run ho ho' h1 h2 h3 E t fun z b' H' F' s E' t' => ⟨z, rfl, q z b' H' F' s E' t'⟩)

/-! ### truth, and, or, not -/
def truD : D → Option Bool
  | .none => some false
  | .bool b => some b
  | .int i => some (i != 0)
  | .list xs => some (!xs.isEmpty)
  | .tuple xs => some (!xs.isEmpty)
  | _ => none
theorem empty_len {vs : List V} {ds : List D} (h : vs.length = ds.length) : (!vs.isEmpty) = !ds.isEmpty := by
  cases vs <;> cases ds <;> first | rfl | (simp at h)
theorem truV_of {b : Nat} {σ : L2.St} {H F : Hp} {v : V} {d : D} {t : Bool} (E : Ev X.K c b σ H F Γ) (r : Rv X.K σ Γ F v d) (h : truD d = some t) : TruV X.K v H t := by
  cases d with
  | none => cases h; rw [r.nonOf]; rfl
  | bool b => cases h; rw [r.blOf]; rfl
  | int i => cases h; rw [r.intOf]; rfl
  | list xs =>
    cases h
    obtain ⟨a, vs, rfl, q, r⟩ := r.items E
    exact .inl ⟨vs, .of q, (empty_len (RpAll.length r)).symm⟩
  | tuple xs =>
    cases h
    obtain ⟨a, vs, rfl, q, r⟩ := r.itemsT E
    exact .inr (.inl ⟨vs, .of (E.sub _ _ q), (empty_len (RpAll.length r)).symm⟩)
  | _ => cases h
theorem gt_val {w1 : (D → R) → R} (h1 : GB X c e1 Γ w1) (he : ∀ whole, isTrue e1 X.env whole = (do let v ← whole; standAt e1.pos; holding [v] (truthy v)) := by intro _; rfl) :
    GT X c e1 Γ (fun k => w1 fun x => bnd (truD x) k) := fun P b σ H F Q k E t q => by
  refine (pt_truth pe_w he).w ?_
  refine h1 P b σ H F _ _ E t fun d v b' H' F' s1 E' r1 t1 => ?_
  obtain ⟨z, hz, t2⟩ := RM.bh t1
  exact ⟨z, truV_of E' r1 hz, q z b' H' F' s1 E' t2⟩
theorem GW.t {w : (Bool → R) → R} (h : GW X c e Γ w) : GT X c e Γ w := fun P b σ H F Q k E t q pins s I => h P b σ H F Q k E t q _ pins s I
theorem gw_and1 {w : (Bool → R) → R} (h : GT X c e1 Γ w) : GW X c (.BoolOp .And [e1] pos) Γ w := fun P b σ H F Q k E t q => (pw_and1 pt_w).w (h P b σ H F Q k E t q)
theorem gw_or1 {w : (Bool → R) → R} (h : GT X c e1 Γ w) : GW X c (.BoolOp .Or [e1] pos) Γ w := fun P b σ H F Q k E t q => (pw_or1 pt_w).w (h P b σ H F Q k E t q)
theorem gw_and {rest : List Expr} {w w' : (Bool → R) → R} (h : GT X c e1 Γ w) (h' : GW X c (.BoolOp .And (e2 :: rest) pos) Γ w') : GW X c (.BoolOp .And (e1 :: e2 :: rest) pos) Γ (fun k => w fun t => if t = true then w' k else k false) := fun P b σ H F Q k E t q => by
  refine (pw_and pt_w pw_w).w ?_
  refine h P b σ H F _ _ E t fun z b' H' F' s1 E' t1 => ?_
  cases z with
  | false => exact q false b' H' F' s1 E' t1
  | true => exact h' P b' σ H' F' Q k E' t1 fun z b2 H2 F2 s2 E2 t2 => q z b2 H2 F2 (s1.trans s2) E2 t2
theorem gw_or {rest : List Expr} {w w' : (Bool → R) → R} (h : GT X c e1 Γ w) (h' : GW X c (.BoolOp .Or (e2 :: rest) pos) Γ w') : GW X c (.BoolOp .Or (e1 :: e2 :: rest) pos) Γ (fun k => w fun t => if t = true then k true else w' k) := fun P b σ H F Q k E t q => by
  refine (pw_or pt_w pw_w).w ?_
  refine h P b σ H F _ _ E t fun z b' H' F' s1 E' t1 => ?_
  cases z with
  | true => exact q true b' H' F' s1 E' t1
  | false => exact h' P b' σ H' F' Q k E' t1 fun z b2 H2 F2 s2 E2 t2 => q z b2 H2 F2 (s1.trans s2) E2 t2
theorem gt_not {w : (Bool → R) → R} (h : GT X c e1 Γ w) : GT X c (.UnaryOp .Not e1 pos) Γ (fun k => w fun t => k (!t)) := fun P b σ H F Q k E t q =>
  (pt_not pt_w).w (h P b σ H F _ _ E t fun z b' H' F' s1 E' t1 => q (!z) b' H' F' s1 E' t1)
/-- as values -/
theorem gc_not {w1 : (D → R) → R} (h1 : GB X c e1 Γ w1) : GC X c (.UnaryOp .Not e1 pos) Γ (fun k => w1 fun x => bnd (truD x) fun t => k (.bool (!t))) := fun P b σ H F Q k E t q => by
  refine (pe_notT pe_w).w ?_
  refine h1 P b σ H F _ _ E t fun d v b' H' F' s1 E' r1 t1 => ?_
  obtain ⟨z, hz, t2⟩ := RM.bh t1
  exact ⟨z, truV_of E' r1 hz, q (.bool (!z)) _ b' H' F' s1 E' (.bl _) t2⟩
theorem gc_one {op : BoolOp} {w : (D → R) → R} (h : GC X c e1 Γ w) : GC X c (.BoolOp op [e1] pos) Γ w := fun P b σ H F Q k E t q => (pe_one pe_w).w (h P b σ H F Q k E t q)
theorem gc_and {rest : List Expr} {w w' : (D → R) → R} (h : GC X c e1 Γ w) (h' : GC X c (.BoolOp .And (e2 :: rest) pos) Γ w') : GC X c (.BoolOp .And (e1 :: e2 :: rest) pos) Γ (fun k => w fun x => bnd (truD x) fun t => if t = true then w' k else k x) := fun P b σ H F Q k E t q => by
  refine (pe_andT pe_w pe_w).w ?_
  refine h P b σ H F _ _ E t fun d v b' H' F' s1 E' r1 t1 => ?_
  obtain ⟨z, hz, t2⟩ := RM.bh t1
  refine ⟨z, truV_of E' (.inl r1) hz, ?_⟩
  cases z with
  | true => exact h' P b' σ H' F' Q k E' t2 fun d2 v2 b2 H2 F2 s2 E2 r2 t3 => q d2 v2 b2 H2 F2 (s1.trans s2) E2 r2 t3
  | false => exact q d v b' H' F' s1 E' r1 t2
theorem gc_or {rest : List Expr} {w w' : (D → R) → R} (h : GC X c e1 Γ w) (h' : GC X c (.BoolOp .Or (e2 :: rest) pos) Γ w') : GC X c (.BoolOp .Or (e1 :: e2 :: rest) pos) Γ (fun k => w fun x => bnd (truD x) fun t => if t = true then k x else w' k) := fun P b σ H F Q k E t q => by
  refine (pe_orT pe_w pe_w).w ?_
  refine h P b σ H F _ _ E t fun d v b' H' F' s1 E' r1 t1 => ?_
  obtain ⟨z, hz, t2⟩ := RM.bh t1
  refine ⟨z, truV_of E' (.inl r1) hz, ?_⟩
  cases z with
  | false => exact h' P b' σ H' F' Q k E' t2 fun d2 v2 b2 H2 F2 s2 E2 r2 t3 => q d2 v2 b2 H2 F2 (s1.trans s2) E2 r2 t3
  | true => exact q d v b' H' F' s1 E' r1 t2
theorem gc_ifx {wt : (Bool → R) → R} {w1 w2 : (D → R) → R} (ht : GT X c e3 Γ wt) (h1 : GC X c e1 Γ w1) (h2 : GC X c e2 Γ w2) : GC X c (.IfExp e3 e1 e2 pos) Γ (fun k => wt fun t => if t = true then w1 k else w2 k) := fun P b σ H F Q k E t q => by
  refine (pe_ifExp pt_w pe_w pe_w).w ?_
  refine ht P b σ H F _ _ E t fun z b' H' F' s1 E' t1 => ?_
  cases z with
  | true => exact h1 P b' σ H' F' Q k E' t1 fun d2 v2 b2 H2 F2 s2 E2 r2 t3 => q d2 v2 b2 H2 F2 (s1.trans s2) E2 r2 t3
  | false => exact h2 P b' σ H' F' Q k E' t1 fun d2 v2 b2 H2 F2 s2 E2 r2 t3 => q d2 v2 b2 H2 F2 (s1.trans s2) E2 r2 t3

/-! ### displays, arguments, calls of built-ins -/
theorem ga_nil : GA X c [] Γ (fun (k : List D → R) => k []) := fun P b σ H F Q k E t q => pa_nil.w (q [] [] b H F (Xt.refl) E .nil t)
theorem ga_cons {es : List Expr} {w : (D → R) → R} {ws : (List D → R) → R} (h : GB X c e Γ w) (hs : GA X c es Γ ws) (he : starEach (e :: es) X.env = (false, eval e X.env) :: starEach es X.env := by rfl) :
    GA X c (e :: es) Γ (fun k => w fun x => ws fun xs => k (x :: xs)) := fun P b σ H F Q k E t q =>
  (pa_cons pe_w pa_w he).w (h P b σ H F _ _ E t fun d v b' H' F' s1 E' r1 t1 => hs P b' σ H' F' _ _ E' t1 fun ds vs b2 H2 F2 s2 E2 r2 t2 =>
    q (d :: ds) (v :: vs) b2 H2 F2 (s1.trans s2) E2 (.cons (r1.mono s2.f) r2) t2)
theorem gas_nil : GAs X c [] Γ (fun (k : List D → R) => k []) := fun P b σ H F Q k E t q => pa_nil.w (q [] [] b H F (Xt.refl) E .nil t)
theorem gas_cons {es : List Expr} {w : (D → R) → R} {ws : (List D → R) → R} (h : GC X c e Γ w) (hs : GAs X c es Γ ws) (he : starEach (e :: es) X.env = (false, eval e X.env) :: starEach es X.env := by rfl) :
    GAs X c (e :: es) Γ (fun k => w fun x => ws fun xs => k (x :: xs)) := fun P b σ H F Q k E t q =>
  (pa_cons pe_w pa_w he).w (h P b σ H F _ _ E t fun d v b' H' F' s1 E' r1 t1 => hs P b' σ H' F' _ _ E' t1 fun ds vs b2 H2 F2 s2 E2 r2 t2 =>
    q (d :: ds) (v :: vs) b2 H2 F2 (s1.trans s2) E2 (.cons (Rp.mono s2.f r1) r2) t2)
def szD (ds : List D) : Option Unit := if ds.length ≤ 16777216 then some () else none
theorem szD_ok {ds : List D} {vs : List V} {u : Unit} (h : szD ds = some u) (e : vs.length = ds.length) : vs.length ≤ sizeLine := by
  unfold szD at h
  split at h
  · rename_i h'
    rw [sizeLine_eq, e]
    exact h'
  · cases h
/-- (a, b, ..): its length is written -/
theorem gc_tup {es : List Expr} {ws : (List D → R) → R} {x1 : Nat} (h : GAs X c es Γ ws) : GC X c (.Tuple es x1 pos) Γ (fun k => ws fun ds => bnd (szD ds) fun _ => k (.tuple ds)) := fun P b σ H F Q k E t q => by
  refine (pe_tup pa_w).w ?_
  refine h P b σ H F _ _ E t fun ds vs b' H' F' s1 E' r1 t1 => ?_
  obtain ⟨z, hz, t2⟩ := RM.bh t1
  refine ⟨szD_ok hz (RpAll.length r1), fun p hp => ?_⟩
  have fp : F' p = none := E'.sub.free hp
  exact q (.tuple ds) (.ref p) b' _ _ (s1.trans (Xt.upd hp fp)) (E'.alloc hp) (.tup upd_same (RpAll.mono (L2Same.upd fp) r1)) t2
theorem gn_lst {es : List Expr} {ws : (List D → R) → R} (h : GAs X c es Γ ws) : GN X c (.List es pos) Γ (fun k => ws fun ds => bnd (szD ds) fun _ => k ds) := fun P b σ H F Q k E t q => by
  refine (pe_lst pa_w).w ?_
  refine h P b σ H F _ _ E t fun ds vs b' H' F' s1 E' r1 t1 => ?_
  obtain ⟨z, hz, t2⟩ := RM.bh t1
  refine ⟨szD_ok hz (RpAll.length r1), fun p hp => ?_⟩
  exact q ds p vs b' _ F' (s1.trans (Xt.new hp)) (E'.alloc1 hp) (s1.k p hp) upd_same (E'.sub.free hp) (E'.h0none hp) (E'.notSt hp) (fun i es' g z => by
    obtain ⟨a, vs', z', ha, _⟩ := E'.sl i _ g
    rw [z'] at z
    cases z
    rw [hp] at ha; cases ha) r1 t2
theorem gc_callB {id : String} {x : Str} {p : Pos} {es : List Expr} {g : List D → Option D} {ws : (List D → R) → R} (hc : CallD X (.builtin id) g) (hg : Gl X x) (hm : X.mg x = none) (hv : bootBuiltins x = some (.builtin id)) (ha : GA X c (e :: es) Γ ws)
    (hn : x ≠ "__name__" := by decide) (hdb : (x == ("__debug__" : Str)) = false := by decide) (he : starEach (e :: es) X.env = (false, eval e X.env) :: starEach es X.env := by rfl) (hpl : (backTo pos (starEach es X.env)).any (·.1) = false := by rfl) :
    GC X c (.Call (.Name x p) (e :: es) [] pos) Γ (fun k => ws fun ds => bnd (g ds) k) := fun P b σ H F Q k E t q => by
  refine (pe_callB (r := fun vs H Q => ∃ r, CallR X (.builtin id) r ∧ r vs H Q) (fun pins s σ H vs us Q I rv h => let ⟨r, z, q⟩ := h; z pins s σ H vs us Q I rv q) hg hm hv pa_w hn hdb he hpl).w ?_
  refine ha P b σ H F _ _ E t fun ds vs b' H' F' s1 E' r1 t1 => ?_
  obtain ⟨z, hz, t2⟩ := RM.bh t1
  exact hc c b' σ H' F' Γ vs ds z Q E' r1 hz fun v H2 F2 s2 E2 r2 => q z v b' H2 F2 (s1.trans s2) E2 r2 t2
theorem gc_callTy {T : String} {x : Str} {p : Pos} {es : List Expr} {g : List D → Option D} {ws : (List D → R) → R} (hc : CallD X (.type T) g) (hg : Gl X x) (hm : X.mg x = none) (hv : bootBuiltins x = some (.type T)) (ha : GA X c (e :: es) Γ ws)
    (hn : x ≠ "__name__" := by decide) (hdb : (x == ("__debug__" : Str)) = false := by decide) (he : starEach (e :: es) X.env = (false, eval e X.env) :: starEach es X.env := by rfl) (hpl : (backTo pos (starEach es X.env)).any (·.1) = false := by rfl) :
    GC X c (.Call (.Name x p) (e :: es) [] pos) Γ (fun k => ws fun ds => bnd (g ds) k) := fun P b σ H F Q k E t q => by
  refine (pe_callTy (r := fun vs H Q => ∃ r, CallR X (.type T) r ∧ r vs H Q) (fun pins s σ H vs us Q I rv h => let ⟨r, z, q⟩ := h; z pins s σ H vs us Q I rv q) hg hm hv pa_w hn hdb he hpl).w ?_
  refine ha P b σ H F _ _ E t fun ds vs b' H' F' s1 E' r1 t1 => ?_
  obtain ⟨z, hz, t2⟩ := RM.bh t1
  exact hc c b' σ H' F' Γ vs ds z Q E' r1 hz fun v H2 F2 s2 E2 r2 => q z v b' H2 F2 (s1.trans s2) E2 r2 t2
theorem newl {b : Nat} {σ : L2.St} {H F : Hp} {p : Addr} {us : List V} {z : List D} (E : Ev X.K c b σ H F Γ) (hp : H p = none) (r : RpAll F us z) {Q : VK}
    (q : ∀ a vs H', Xt c H F H' F → Ev X.K c b σ H' F Γ → H a = none → H' a = some (.lst vs) → F a = none → c.H0 a = none → c.ss ≠ some a → (∀ (i : Nat) es, Γ[i]? = some (.ow es) → σ[i]? ≠ some (some (.ref a))) → RpAll F vs z → Q (.ref a) H') : Q (.ref p) (upd H p (.lst us)) :=
  q p us _ (Xt.new hp) (E.alloc1 hp) hp upd_same (E.sub.free hp) (E.h0none hp) (E.notSt hp) (fun i es' g z => by
    obtain ⟨a, vs', z', ha, _⟩ := E.sl i _ g
    rw [z'] at z
    cases z
    rw [hp] at ha; cases ha) r
theorem gn_callB {id : String} {x : Str} {p : Pos} {es : List Expr} {g : List D → Option (List D)} {ws : (List D → R) → R} (hc : CallN X (.builtin id) g) (hg : Gl X x) (hm : X.mg x = none) (hv : bootBuiltins x = some (.builtin id)) (ha : GA X c (e :: es) Γ ws)
    (hn : x ≠ "__name__" := by decide) (hdb : (x == ("__debug__" : Str)) = false := by decide) (he : starEach (e :: es) X.env = (false, eval e X.env) :: starEach es X.env := by rfl) (hpl : (backTo pos (starEach es X.env)).any (·.1) = false := by rfl) :
    GN X c (.Call (.Name x p) (e :: es) [] pos) Γ (fun k => ws fun ds => bnd (g ds) k) := fun P b σ H F Q k E t q => by
  refine (pe_callB (r := fun vs H Q => ∃ r, CallR X (.builtin id) r ∧ r vs H Q) (fun pins s σ H vs us Q I rv h => let ⟨r, z, q⟩ := h; z pins s σ H vs us Q I rv q) hg hm hv pa_w hn hdb he hpl).w ?_
  refine ha P b σ H F _ _ E t fun ds vs b' H' F' s1 E' r1 t1 => ?_
  obtain ⟨z, hz, t2⟩ := RM.bh t1
  exact hc c b' σ H' F' Γ vs ds z Q E' r1 hz fun a us ha hr => newl E' ha hr fun a vs H2 x2 E2 g h1 h2 h3 h4 h5 h6 => q z a vs b' H2 F' (s1.trans x2) E2 (s1.k a g) h1 h2 h3 h4 h5 h6 t2
theorem gn_callTy {T : String} {x : Str} {p : Pos} {es : List Expr} {g : List D → Option (List D)} {ws : (List D → R) → R} (hc : CallN X (.type T) g) (hg : Gl X x) (hm : X.mg x = none) (hv : bootBuiltins x = some (.type T)) (ha : GA X c (e :: es) Γ ws)
    (hn : x ≠ "__name__" := by decide) (hdb : (x == ("__debug__" : Str)) = false := by decide) (he : starEach (e :: es) X.env = (false, eval e X.env) :: starEach es X.env := by rfl) (hpl : (backTo pos (starEach es X.env)).any (·.1) = false := by rfl) :
    GN X c (.Call (.Name x p) (e :: es) [] pos) Γ (fun k => ws fun ds => bnd (g ds) k) := fun P b σ H F Q k E t q => by
  refine (pe_callTy (r := fun vs H Q => ∃ r, CallR X (.type T) r ∧ r vs H Q) (fun pins s σ H vs us Q I rv h => let ⟨r, z, q⟩ := h; z pins s σ H vs us Q I rv q) hg hm hv pa_w hn hdb he hpl).w ?_
  refine ha P b σ H F _ _ E t fun ds vs b' H' F' s1 E' r1 t1 => ?_
  obtain ⟨z, hz, t2⟩ := RM.bh t1
  exact hc c b' σ H' F' Γ vs ds z Q E' r1 hz fun a us ha hr => newl E' ha hr fun a vs H2 x2 E2 g h1 h2 h3 h4 h5 h6 => q z a vs b' H2 F' (s1.trans x2) E2 (s1.k a g) h1 h2 h3 h4 h5 h6 t2
end
end G

end
section
set_option Elab.async false
set_option linter.all false
set_option maxRecDepth 100000
/-! G2: operators and built-ins over plain data. -/
namespace G
open RM (bnd)
open PySem PySem.Spec PyProof.Rows L2

def isSmall (i : Int) : Bool := decide (-(2 ^ 64) < i ∧ i < 2 ^ 64)
def addD : D → D → Option D
  | .int i, .int j => some (.int (i + j))
  | .tuple xs, .tuple ys => if xs.length + ys.length ≤ 16777216 then some (.tuple (xs ++ ys)) else none
  | _, _ => none
def subD : D → D → Option D
  | .int i, .int j => some (.int (i - j))
  | _, _ => none
def mulD : D → D → Option D
  | .int i, .int j => if isSmall i || isSmall j then some (.int (i * j)) else none
  | _, _ => none
def fdivD : D → D → Option D
  | .int i, .int j => if j ≠ 0 ∧ j.natAbs < 1073741824 then some (.int (i.fdiv j)) else none
  | _, _ => none
def modD : D → D → Option D
  | .int i, .int j => if j ≠ 0 then some (.int (i.fmod j)) else none
  | _, _ => none
def powD : D → D → Option D
  | .int i, .int j => if 0 ≤ j ∧ j ≤ 1000000 ∧ i.natAbs < 2 ^ 64 then some (.int (i ^ j.toNat)) else none
  | _, _ => none
def eqD (d e : D) : Option Bool := if SeqAt.shaped d = true ∧ SeqAt.shaped e = true then some (PyData.eqv d e) else none
def neD (d e : D) : Option Bool := if SeqAt.shaped d = true ∧ SeqAt.shaped e = true then some (!PyData.eqv d e) else none
def ltD : D → D → Option Bool
  | .int i, .int j => some (decide (i < j))
  | _, _ => none
def leD : D → D → Option Bool
  | .int i, .int j => some (decide (i ≤ j))
  | _, _ => none
def gtD : D → D → Option Bool
  | .int i, .int j => some (decide (j < i))
  | _, _ => none
def geD : D → D → Option Bool
  | .int i, .int j => some (decide (j ≤ i))
  | _, _ => none
def isD : D → D → Option Bool
  | .none, .none => some true
  | .bool _, .none => some false
  | .int _, .none => some false
  | .str _, .none => some false
  | .list _, .none => some false
  | .tuple _, .none => some false
  | _, _ => none
def isnotD (d e : D) : Option Bool := (isD d e).map (!·)
def inD (d : D) : D → Option Bool
  | .list ds => if SeqAt.shaped d = true ∧ SeqAt.shaped (.list ds) = true then some (ds.any fun z => PyData.eqv z d) else none
  | .tuple ds => if SeqAt.shaped d = true ∧ SeqAt.shaped (.tuple ds) = true then some (ds.any fun z => PyData.eqv z d) else none
  | _ => none
def notInD (d e : D) : Option Bool := (inD d e).map (!·)

section
variable {X : Cx}
theorem o2_add : Op2 X (binaryOp .Add) addD := fun c b σ H F Γ x y d e z Q E r1 r2 h q => by
  cases d <;> cases e <;> try cases h
  case int.int i j =>
    exact ⟨_, op_add, i, j, r1.intOf, r2.intOf, q _ H F (Xt.refl) E (.int _)⟩
  case tuple.tuple xs ys =>
    change (if xs.length + ys.length ≤ 16777216 then some (PyData.tuple (xs ++ ys)) else none) = some z at h
    split at h
    · rename_i hz
      cases h
      obtain ⟨a, vs, rfl, h1, q1⟩ := r1.itemsT E
      obtain ⟨a2, vs2, rfl, h2, q2⟩ := r2.itemsT E
      have l1 := RpAll.length q1
      have l2 := RpAll.length q2
      refine ⟨_, op_catA, a, a2, vs, vs2, rfl, rfl, .of (E.sub _ _ h1), .of (E.sub _ _ h2), by rw [sizeLine_eq, l1, l2]; exact hz, fun e0 => ?_, fun _ e0 => ?_, fun _ _ p hp => ?_⟩
      · subst e0
        cases q1
        exact q _ H F (Xt.refl) E (.tup h2 q2)
      · subst e0
        cases q2
        rw [List.append_nil] at q
        exact q _ H F (Xt.refl) E (.tup h1 q1)
      · have s := Xt.upd (c := c) (o := .tup (vs ++ vs2)) hp (E.sub.free hp)
        exact q _ _ _ s (E.alloc hp) (.tup upd_same (RpAll.mono s.f (q1.append q2)))
    · cases h
theorem o2_sub : Op2 X (binaryOp .Sub) subD := fun c b σ H F Γ x y d e z Q E r1 r2 h q => by
  cases d <;> cases e <;> cases h
  rename_i i j
  exact ⟨_, op_sub, i, j, r1.intOf, r2.intOf, q _ H F (Xt.refl) E (.int _)⟩
theorem o2_mul : Op2 X (binaryOp .Mult) mulD := fun c b σ H F Γ x y d e z Q E r1 r2 h q => by
  cases d <;> cases e <;> try cases h
  case int.int i j =>
    change (if (isSmall i || isSmall j) = true then some (PyData.int (i * j)) else none) = some z at h
    split at h
    · rename_i hz
      cases h
      refine ⟨_, op_mul, i, j, r1.intOf, r2.intOf, ?_, q _ H F (Xt.refl) E (.int _)⟩
      rw [Bool.or_eq_true] at hz
      rcases hz with hz | hz
      · exact .inl (of_decide_eq_true hz)
      · exact .inr (of_decide_eq_true hz)
    · cases h
theorem o2_fdiv : Op2 X (binaryOp .FloorDiv) fdivD := fun c b σ H F Γ x y d e z Q E r1 r2 h q => by
  cases d <;> cases e <;> try cases h
  case int.int i j =>
    change (if j ≠ 0 ∧ j.natAbs < 1073741824 then some (PyData.int (i.fdiv j)) else none) = some z at h
    split at h
    · rename_i hz
      cases h
      exact ⟨_, op_fdivN, i, j, r1.intOf, r2.intOf, hz, q _ H F (Xt.refl) E (.int _)⟩
    · cases h
theorem o2_mod : Op2 X (binaryOp .Mod) modD := fun c b σ H F Γ x y d e z Q E r1 r2 h q => by
  cases d <;> cases e <;> try cases h
  case int.int i j =>
    change (if j ≠ 0 then some (PyData.int (i.fmod j)) else none) = some z at h
    split at h
    · rename_i hz
      cases h
      exact ⟨_, op_modN, i, j, r1.intOf, r2.intOf, hz, q _ H F (Xt.refl) E (.int _)⟩
    · cases h
theorem o2_pow : Op2 X (binaryOp .Pow) powD := fun c b σ H F Γ x y d e z Q E r1 r2 h q => by
  cases d <;> cases e <;> try cases h
  case int.int i j =>
    change (if 0 ≤ j ∧ j ≤ 1000000 ∧ i.natAbs < 2 ^ 64 then some (PyData.int (i ^ j.toNat)) else none) = some z at h
    split at h
    · rename_i hz
      cases h
      exact ⟨_, op_pow, i, j, r1.intOf, r2.intOf, hz, q _ H F (Xt.refl) E (.int _)⟩
    · cases h
theorem c2_eq (hu : X.A.units + 64 < cLine) : Cp2 X (compareOp .Eq) eqD := fun c b σ H F Γ x y d e z Q E r1 r2 h q => by
  unfold eqD at h
  split at h
  · rename_i hz
    cases h
    exact ⟨_, op_eqD hu, d, e, (r1.full E).dp, (r2.full E).dp, hz.1, hz.2, q⟩
  · cases h
theorem c2_ne (hu : X.A.units + 64 < cLine) : Cp2 X (compareOp .NotEq) neD := fun c b σ H F Γ x y d e z Q E r1 r2 h q => by
  unfold neD at h
  split at h
  · rename_i hz
    cases h
    exact ⟨_, op_neD hu, d, e, (r1.full E).dp, (r2.full E).dp, hz.1, hz.2, q⟩
  · cases h
theorem c2_lt : Cp2 X (compareOp .Lt) ltD := fun c b σ H F Γ x y d e z Q E r1 r2 h q => by
  cases d <;> cases e <;> cases h
  rename_i i j
  exact ⟨_, op_lt, i, j, r1.intOf, r2.intOf, q⟩
theorem c2_le : Cp2 X (compareOp .LtE) leD := fun c b σ H F Γ x y d e z Q E r1 r2 h q => by
  cases d <;> cases e <;> cases h
  rename_i i j
  exact ⟨_, op_le, i, j, r1.intOf, r2.intOf, q⟩
theorem c2_gt : Cp2 X (compareOp .Gt) gtD := fun c b σ H F Γ x y d e z Q E r1 r2 h q => by
  cases d <;> cases e <;> cases h
  rename_i i j
  exact ⟨_, op_gt, i, j, r1.intOf, r2.intOf, q⟩
theorem c2_ge : Cp2 X (compareOp .GtE) geD := fun c b σ H F Γ x y d e z Q E r1 r2 h q => by
  cases d <;> cases e <;> cases h
  rename_i i j
  exact ⟨_, op_ge, i, j, r1.intOf, r2.intOf, q⟩
theorem isD_of {K : PySem.W.Frag} {c : Ct} {b : Nat} {σ : L2.St} {H F : Hp} {Γ : List Sl} {x y : V} {d e : D} {z : Bool} (E : Ev K c b σ H F Γ) (r1 : Rv K σ Γ F x d) (r2 : Rv K σ Γ F y e) (h : isD d e = some z) : y = .non ∧ decide (x = .non) = z := by
  cases d <;> cases e <;> cases h
  · exact ⟨r2.nonOf, by rw [r1.nonOf]; rfl⟩
  · exact ⟨r2.nonOf, by rw [r1.blOf]; rfl⟩
  · exact ⟨r2.nonOf, by rw [r1.intOf]; rfl⟩
  · exact ⟨r2.nonOf, by rw [r1.strOf]; rfl⟩
  · obtain ⟨a, vs, rfl, _⟩ := r1.items E
    exact ⟨r2.nonOf, rfl⟩
  · obtain ⟨a, vs, rfl, _⟩ := r1.itemsT E
    exact ⟨r2.nonOf, rfl⟩
theorem c2_is : Cp2 X (compareOp .Is) isD := fun c b σ H F Γ x y d e z Q E r1 r2 h q => by
  obtain ⟨e1, e2⟩ := isD_of E r1 r2 h
  exact ⟨_, op_isN, e1, by rw [e2]; exact q⟩
theorem c2_isnot : Cp2 X (compareOp .IsNot) isnotD := fun c b σ H F Γ x y d e z Q E r1 r2 h q => by
  unfold isnotD at h
  obtain ⟨z', h1, rfl⟩ := Option.map_eq_some_iff.mp h
  obtain ⟨e1, e2⟩ := isD_of E r1 r2 h1
  exact ⟨_, op_notN, e1, by rw [e2]; exact q⟩
/-- x in t, t a tuple of data -/
def rInT (K : PySem.W.Frag) (neg : Bool) : R2 := fun x y H Q => ∃ d ds, Dp K H x d ∧ Dp K H y (.tuple ds) ∧ SeqAt.shaped d = true ∧ SeqAt.shaped (.tuple ds) = true ∧ Q (.bl (if neg then !ds.any fun z => PyData.eqv z d else ds.any fun z => PyData.eqv z d)) H
theorem in_T {neg : Bool} (hu : X.A.units + 65 < cLine) : OpR X (compareOp (if neg then .NotIn else .In)) (rInT X.K neg) := by
  intro pins s σ H x y v u Q I rx ry h
  obtain ⟨d, ds, hd, he, sd, se, q⟩ := h
  obtain ⟨as, r1⟩ := Dp.reads I d x v hd rx
  obtain ⟨bs, r2⟩ := Dp.reads I (.tuple ds) y u he ry
  cases neg with
  | false => exact SeqAt.in_tuple_reads r2 r1 (SeqAt.canLay_of_shaped se) (SeqAt.canLay_of_shaped sd) (room_in_shaped sd hu) ⟨.bl _, H, I, rfl, q⟩
  | true => exact SeqAt.notIn_tuple_reads r2 r1 (SeqAt.canLay_of_shaped se) (SeqAt.canLay_of_shaped sd) (room_in_shaped sd hu) ⟨.bl _, H, I, rfl, q⟩
theorem c2_in (hu : X.A.units + 65 < cLine) : Cp2 X (compareOp .In) inD := fun c b σ H F Γ x y d e z Q E r1 r2 h q => by
  cases e <;> try cases h
  case list ds =>
    change (if SeqAt.shaped d = true ∧ SeqAt.shaped (.list ds) = true then some (ds.any fun z => PyData.eqv z d) else none) = some z at h
    split at h
    · rename_i hz
      cases h
      exact ⟨_, op_inD hu, d, ds, (r1.full E).dp, (r2.full E).dp, hz.1, hz.2, q⟩
    · cases h
  case tuple ds =>
    change (if SeqAt.shaped d = true ∧ SeqAt.shaped (.tuple ds) = true then some (ds.any fun z => PyData.eqv z d) else none) = some z at h
    split at h
    · rename_i hz
      cases h
      exact ⟨_, in_T (neg := false) hu, d, ds, (r1.full E).dp, (r2.full E).dp, hz.1, hz.2, q⟩
    · cases h
theorem c2_notIn (hu : X.A.units + 65 < cLine) : Cp2 X (compareOp .NotIn) notInD := fun c b σ H F Γ x y d e z Q E r1 r2 h q => by
  unfold notInD at h
  obtain ⟨z', h1, rfl⟩ := Option.map_eq_some_iff.mp h
  cases e <;> try cases h1
  case list ds =>
    change (if SeqAt.shaped d = true ∧ SeqAt.shaped (.list ds) = true then some (ds.any fun z => PyData.eqv z d) else none) = some z' at h1
    split at h1
    · rename_i hz
      cases h1
      exact ⟨_, op_notInD hu, d, ds, (r1.full E).dp, (r2.full E).dp, hz.1, hz.2, q⟩
    · cases h1
  case tuple ds =>
    change (if SeqAt.shaped d = true ∧ SeqAt.shaped (.tuple ds) = true then some (ds.any fun z => PyData.eqv z d) else none) = some z' at h1
    split at h1
    · rename_i hz
      cases h1
      exact ⟨_, in_T (neg := true) hu, d, ds, (r1.full E).dp, (r2.full E).dp, hz.1, hz.2, q⟩
    · cases h1

/-! ### subscripts, slices -/
def ixD : D → D → Option D
  | .list ds, .int i => atI ds i
  | .tuple ds, .int i => atI ds i
  | _, _ => none
theorem RpAll.atI {H : Hp} {vs : List V} {ds : List D} {i : Int} {d : D} (r : RpAll H vs ds) (h : L2.atI ds i = some d) : ∃ v, L2.atI vs i = some v ∧ Rp H v d := by
  unfold L2.atI at h ⊢
  rw [RpAll.length r]
  cases q : ixN ds.length i with
  | none => rw [q] at h; cases h
  | some j =>
    rw [q] at h
    exact RpAll.get r h
variable {c : Ct} {R : Type} [RM R] {Γ : List Sl} {e e1 e2 e3 : Expr} {pos : Pos}
theorem gc_ix {w1 w2 : (D → R) → R} (h1 : GB X c e1 Γ w1) (h2 : GB X c e2 Γ w2) (hs : PlainIx e2 := by exact fun _ _ => rfl) : GC X c (.Subscript e1 e2 pos) Γ (fun k => w1 fun x => w2 fun y => bnd (ixD x y) k) := fun P b σ H F Q k E t q => by
  refine (pe_ix ix_seq pe_w pe_w hs).w ?_
  refine h1 P b σ H F _ _ E t fun d v b' H' F' s1 E' r1 t1 => h2 P b' σ H' F' _ _ E' t1 fun d2 v2 b2 H2 F2 s2 E2 r2 t2 => ?_
  obtain ⟨z, hz, t3⟩ := RM.bh t2
  cases d2 <;> cases d <;> try cases hz
  case int.list i ds =>
    obtain ⟨a, vs, rfl, ha, ra⟩ := (r1.mono s2.f).items E2
    obtain ⟨w, hw, rw'⟩ := RpAll.atI ra hz
    exact .inl ⟨a, vs, i, w, rfl, r2.intOf, .of ha, hw, q z w b2 H2 F2 (s1.trans s2) E2 rw' t3⟩
  case int.tuple i ds =>
    obtain ⟨a, vs, rfl, ha, ra⟩ := (r1.mono s2.f).itemsT E2
    obtain ⟨w, hw, rw'⟩ := RpAll.atI ra hz
    exact .inr (.inl ⟨a, vs, i, w, rfl, r2.intOf, .of (E2.sub _ _ ha), hw, q z w b2 H2 F2 (s1.trans s2) E2 rw' t3⟩)
/-- a slice's end, or none -/
def GO (X : Cx) (c : Ct) (e : Option Expr) (Γ : List Sl) (w : (Option Int → R) → R) : Prop :=
  ∀ (P : RM.Pt R) (b : Nat) (σ : L2.St) (H F : Hp) (Q : Option Int → Hp → Prop) (k : Option Int → R), Ev X.K c b σ H F Γ → RM.tr P b (w k) →
    (∀ i b' H' F', Xt c H F H' F' → Ev X.K c b' σ H' F' Γ → RM.tr P b' (k i) → Q i H') → ∃ t : TO, PO X e t ∧ t σ H Q
theorem go_none : GO X c none Γ (fun (k : Option Int → R) => k none) := fun P b σ H F Q k E t q => ⟨_, po_none, q none b H F (Xt.refl) E t⟩
def intD : D → Option Int
  | .int i => some i
  | _ => none
theorem go_some {w : (D → R) → R} (h : GB X c e Γ w) : GO X c (some e) Γ (fun k => w fun x => bnd (intD x) fun i => k (some i)) := fun P b σ H F Q k E t q => by
  refine ⟨_, po_some pe_w, ?_⟩
  refine h P b σ H F _ _ E t fun d v b' H' F' s1 E' r1 t1 => ?_
  obtain ⟨z, hz, t3⟩ := RM.bh t1
  cases d <;> cases hz
  exact ⟨z, r1.intOf, q _ b' H' F' s1 E' t3⟩
def cutL {α : Type} (xs : List α) (lo hi : Option Int) : List α := (xs.drop (HT.sIx xs.length 0 lo)).take (HT.sIx xs.length xs.length hi - HT.sIx xs.length 0 lo)
def cutD (d : D) (lo hi : Option Int) : Option D := match d with
  | .list ds => some (.list (cutL ds lo hi))
  | .tuple ds => some (.tuple (cutL ds lo hi))
  | _ => none
theorem RpAll.cut {H : Hp} {vs : List V} {ds : List D} {lo hi : Option Int} (r : RpAll H vs ds) : RpAll H (cutV vs lo hi) (cutL ds lo hi) := by
  unfold cutV cutL
  rw [RpAll.length r]
  exact (r.drop _).take _
theorem po_w {oe : Option Expr} : PO X oe (fun σ H Q => ∃ t, PO X oe t ∧ t σ H Q) := ⟨fun pins s σ H Q I q => by
  obtain ⟨t, p, q'⟩ := q
  exact p.run pins s σ H Q I q'⟩
theorem gc_slice {lo hi : Option Expr} {p2 : Pos} {w : (D → R) → R} {wl wh : (Option Int → R) → R} (h1 : GB X c e1 Γ w) (hl : GO X c lo Γ wl) (hh : GO X c hi Γ wh) :
    GC X c (.Subscript e1 (.Slice lo hi none p2) pos) Γ (fun k => w fun x => wl fun i => wh fun j => bnd (cutD x i j) k) := fun P b σ H F Q k E t q => by
  have key : ∀ (x : V) (i j : Option Int) (d : D) (b2 : Nat) (H2 F2 : Hp), Xt c H F H2 F2 → Ev X.K c b2 σ H2 F2 Γ → Rv X.K σ Γ F2 x d → RM.tr P b2 (bnd (cutD d i j) k) → ∃ r, SlR X r ∧ r x i j H2 Q := fun x i j d b2 H2 F2 s2 E2 r1 t2 => by
    obtain ⟨z, hz, t3⟩ := RM.bh t2
    cases d <;> try cases hz
    case list ds =>
      obtain ⟨a, vs, rfl, ha, ra⟩ := r1.items E2
      refine ⟨_, sl_list, a, vs, rfl, .of ha, fun p hp => ?_⟩
      have s3 := Xt.upd (c := c) (o := .lst (cutV vs i j)) hp (E2.sub.free hp)
      exact q _ _ b2 _ _ (s2.trans s3) (E2.alloc hp) (.lst upd_same (RpAll.mono s3.f (RpAll.cut ra))) t3
    case tuple ds =>
      obtain ⟨a, vs, rfl, ha, ra⟩ := r1.itemsT E2
      refine ⟨_, sl_tupA, a, vs, rfl, .of (E2.sub _ _ ha), fun hw => ?_, fun hw p hp => ?_⟩
      · have e0 : cutL ds i j = ds := by
          unfold cutL
          rw [← RpAll.length ra, hw.1, hw.2, RpAll.length ra]
          simp
        rw [e0] at t3
        exact q _ _ b2 H2 F2 s2 E2 (.tup ha ra) t3
      · have s3 := Xt.upd (c := c) (o := .tup (cutV vs i j)) hp (E2.sub.free hp)
        exact q _ _ b2 _ _ (s2.trans s3) (E2.alloc hp) (.tup upd_same (RpAll.mono s3.f (RpAll.cut ra))) t3
  refine (pe_slice (r := fun x i j H Q => ∃ r, SlR X r ∧ r x i j H Q) (fun pins s σ H x v vl vu lo hi sl Q I rx hs pl pu h => let ⟨r, p, q⟩ := h; p pins s σ H x v vl vu lo hi sl Q I rx hs pl pu q) pe_w po_w po_w).w ?_
  refine h1 P b σ H F _ _ E t fun d v b' H' F' s1 E' r1 t1 => ?_
  refine hl P b' σ H' F' _ _ E' t1 fun i b2 H2 F2 s2 E2 t2 => ?_
  refine hh P b2 σ H2 F2 _ _ E2 t2 fun j b3 H3 F3 s3 E3 t3 => ?_
  exact key v i j d b3 H3 F3 ((s1.trans s2).trans s3) E3 ((r1.mono s2.f).mono s3.f) t3

/-! ### built-ins -/
def lenD : List D → Option D
  | [.list ds] => some (.int ds.length)
  | [.tuple ds] => some (.int ds.length)
  | _ => none
def one {α : Type} : List α → Option α
  | [x] => some x
  | _ => none
theorem RvAll.one {K : PySem.W.Frag} {σ : L2.St} {Γ : List Sl} {F : Hp} {vs : List V} {d : D} (r : RvAll K σ Γ F vs [d]) : ∃ v, vs = [v] ∧ Rv K σ Γ F v d := by
  cases r with
  | cons h t => cases t; exact ⟨_, rfl, h⟩
theorem RvAll.two {K : PySem.W.Frag} {σ : L2.St} {Γ : List Sl} {F : Hp} {vs : List V} {d e : D} (r : RvAll K σ Γ F vs [d, e]) : ∃ v w, vs = [v, w] ∧ Rv K σ Γ F v d ∧ Rv K σ Γ F w e := by
  cases r with
  | cons h t =>
    cases t with
    | cons h2 t => cases t; exact ⟨_, _, rfl, h, h2⟩
theorem cd_len : CallD X (.builtin "len") lenD := fun c b σ H F Γ vs ds z Q E r h q => by
  unfold lenD at h
  split at h
  · cases h
    obtain ⟨v, rfl, rr⟩ := r.one
    obtain ⟨a, us, rfl, ha, ra⟩ := rr.items E
    refine ⟨_, call_len_seq, a, us, rfl, .inl (.of ha), ?_⟩
    rw [RpAll.length ra]
    exact q _ H F (Xt.refl) E (.int _)
  · cases h
    obtain ⟨v, rfl, rr⟩ := r.one
    obtain ⟨a, us, rfl, ha, ra⟩ := rr.itemsT E
    refine ⟨_, call_len_seq, a, us, rfl, .inr (.of (E.sub _ _ ha)), ?_⟩
    rw [RpAll.length ra]
    exact q _ H F (Xt.refl) E (.int _)
  · cases h
def absD : List D → Option D
  | [.int i] => some (.int (if i < 0 then -i else i))
  | _ => none
theorem cd_abs : CallD X (.builtin "abs") absD := fun c b σ H F Γ vs ds z Q E r h q => by
  unfold absD at h
  split at h
  · cases h
    obtain ⟨v, rfl, rr⟩ := r.one
    exact ⟨_, call_abs, _, by rw [rr.intOf], q _ H F (Xt.refl) E (.int _)⟩
  · cases h
def int1D : List D → Option D
  | [.int i] => some (.int i)
  | [.bool b] => some (.int (if b then 1 else 0))
  | _ => none
theorem cd_int : CallD X (.type "int") int1D := fun c b σ H F Γ vs ds z Q E r h q => by
  unfold int1D at h
  split at h
  · cases h
    obtain ⟨v, rfl, rr⟩ := r.one
    exact ⟨_, call_int1, .inl ⟨_, by rw [rr.intOf], q _ H F (Xt.refl) E (.int _)⟩⟩
  · cases h
    obtain ⟨v, rfl, rr⟩ := r.one
    exact ⟨_, call_int1, .inr ⟨_, by rw [rr.blOf], q _ H F (Xt.refl) E (.int _)⟩⟩
  · cases h
def max2D : List D → Option D
  | [.int i, .int j] => some (.int (if j > i then j else i))
  | _ => none
def min2D : List D → Option D
  | [.int i, .int j] => some (.int (if j < i then j else i))
  | _ => none
theorem cd_max2 (hc : X.calm = true) : CallD X (.builtin "max") max2D := fun c b σ H F Γ vs ds z Q E r h q => by
  unfold max2D at h
  split at h
  · cases h
    obtain ⟨v, w, rfl, r1, r2⟩ := r.two
    exact ⟨_, call_max2 hc, _, _, by rw [r1.intOf, r2.intOf], q _ H F (Xt.refl) E (.int _)⟩
  · cases h
theorem cd_min2 (hc : X.calm = true) : CallD X (.builtin "min") min2D := fun c b σ H F Γ vs ds z Q E r h q => by
  unfold min2D at h
  split at h
  · cases h
    obtain ⟨v, w, rfl, r1, r2⟩ := r.two
    exact ⟨_, call_min2 hc, _, _, by rw [r1.intOf, r2.intOf], q _ H F (Xt.refl) E (.int _)⟩
  · cases h
def boolsD : List D → Option (List Bool)
  | [] => some []
  | .bool b :: r => (boolsD r).map (b :: ·)
  | _ => none
theorem boolsD_eq : ∀ {ds : List D} {bs : List Bool}, boolsD ds = some bs → ds = bs.map .bool
  | [], _, h => by cases h; rfl
  | d :: r, bs, h => by
    cases d <;> try cases h
    obtain ⟨cs, h1, rfl⟩ := Option.map_eq_some_iff.mp (show (boolsD r).map _ = some bs from h)
    rw [boolsD_eq h1]
    rfl
def intsD : List D → Option (List Int)
  | [] => some []
  | .int b :: r => (intsD r).map (b :: ·)
  | _ => none
theorem intsD_eq : ∀ {ds : List D} {bs : List Int}, intsD ds = some bs → ds = bs.map .int
  | [], _, h => by cases h; rfl
  | d :: r, bs, h => by
    cases d <;> try cases h
    obtain ⟨cs, h1, rfl⟩ := Option.map_eq_some_iff.mp (show (intsD r).map _ = some bs from h)
    rw [intsD_eq h1]
    rfl
def allD : List D → Option D
  | [.list ds] => (boolsD ds).map fun bs => .bool (bs.all id)
  | _ => none
theorem cd_all (hc : X.calm = true) : CallD X (.builtin "all") allD := fun c b σ H F Γ vs ds z Q E r h q => by
  unfold allD at h
  split at h
  · obtain ⟨bs, h1, rfl⟩ := Option.map_eq_some_iff.mp h
    obtain ⟨v, rfl, rr⟩ := r.one
    obtain ⟨a, us, rfl, ha, ra⟩ := rr.items E
    rw [boolsD_eq h1] at ra
    rw [RpAll.blsOf ra] at ha
    exact ⟨_, cr_all hc, a, bs, rfl, .of ha, q _ H F (Xt.refl) E (.bl _)⟩
  · cases h
def sumD : List D → Option D
  | [.list ds] => (intsD ds).map fun bs => .int bs.sum
  | [.tuple ds] => (intsD ds).map fun bs => .int bs.sum
  | _ => none
theorem cr_sumT (hc : X.calm = true) : CallR X (.builtin "sum") (fun vs H Q => ∃ (a : Addr) (ns : List Int), vs = [V.ref a] ∧ SqT X.K H a (ns.map V.int) ∧ Q (.int ns.sum) H) := by
  intro pins s σ H vs us Q I r h
  obtain ⟨a, ns, rfl, hs, q⟩ := h
  obtain ⟨its, rv, hl, _⟩ := I.tuple hs
  rw [Vals.ref1 r]
  obtain ⟨xs, e⟩ := rv.ints.allInts.items
  have hn : numsOf (intItems xs).toList = ns := by rw [← e]; exact rv.ints.numsOf
  rw [nums_intItems] at hn
  rw [e] at hl
  refine PySem.W.ktm_sumG (I.ok.hd hc) hl fun h' tk t' hk => ?_
  rw [preSum_eq, List.take_of_length_le (by simp), hn]
  exact ⟨.int _, H, I.kept hk, ⟨_, rfl⟩, q⟩
theorem cd_sum (hc : X.calm = true) : CallD X (.builtin "sum") sumD := fun c b σ H F Γ vs ds z Q E r h q => by
  unfold sumD at h
  split at h
  · obtain ⟨bs, h1, rfl⟩ := Option.map_eq_some_iff.mp h
    obtain ⟨v, rfl, rr⟩ := r.one
    obtain ⟨a, us, rfl, ha, ra⟩ := rr.items E
    rw [intsD_eq h1] at ra
    rw [RpAll.intsOf ra] at ha
    exact ⟨_, cr_sum hc, a, bs, rfl, .of ha, q _ H F (Xt.refl) E (.int _)⟩
  · obtain ⟨bs, h1, rfl⟩ := Option.map_eq_some_iff.mp h
    obtain ⟨v, rfl, rr⟩ := r.one
    obtain ⟨a, us, rfl, ha, ra⟩ := rr.itemsT E
    rw [intsD_eq h1] at ra
    rw [RpAll.intsOf ra] at ha
    exact ⟨_, cr_sumT hc, a, bs, rfl, .of (E.sub _ _ ha), q _ H F (Xt.refl) E (.int _)⟩
  · cases h
def tupleD : List D → Option D
  | [.list ds] => some (.tuple ds)
  | [.tuple ds] => some (.tuple ds)
  | _ => none
theorem cd_tuple : CallD X (.type "tuple") tupleD := fun c b σ H F Γ vs ds z Q E r h q => by
  unfold tupleD at h
  split at h
  · cases h
    obtain ⟨v, rfl, rr⟩ := r.one
    obtain ⟨a, us, rfl, ha, ra⟩ := rr.items E
    refine ⟨_, call_tuple_of, a, us, rfl, .inl ⟨.of ha, fun l hl => ?_⟩⟩
    have s := Xt.upd (c := c) (o := .tup us) hl (E.sub.free hl)
    exact q _ _ _ s (E.alloc hl) (.tup upd_same (RpAll.mono s.f ra))
  · cases h
    obtain ⟨v, rfl, rr⟩ := r.one
    obtain ⟨a, us, rfl, ha, ra⟩ := rr.itemsT E
    exact ⟨_, call_tuple_of, a, us, rfl, .inr ⟨.of (E.sub _ _ ha), q _ H F (Xt.refl) E (.tup ha ra)⟩⟩
  · cases h
def listD : List D → Option (List D)
  | [.list ds] => some ds
  | [.tuple ds] => some ds
  | _ => none
theorem cn_list : CallN X (.type "list") listD := fun c b σ H F Γ vs ds z Q E r h q => by
  unfold listD at h
  split at h
  · cases h
    obtain ⟨v, rfl, rr⟩ := r.one
    obtain ⟨a, us, rfl, ha, ra⟩ := rr.items E
    exact ⟨_, call_list_of, a, us, rfl, .inl (.of ha), fun l hl => q l us hl ra⟩
  · cases h
    obtain ⟨v, rfl, rr⟩ := r.one
    obtain ⟨a, us, rfl, ha, ra⟩ := rr.itemsT E
    exact ⟨_, call_list_of, a, us, rfl, .inr (.of (E.sub _ _ ha)), fun l hl => q l us hl ra⟩
  · cases h
end
end G

end
section
set_option Elab.async false
set_option linter.all false
set_option maxRecDepth 100000
/-! G3: targets, what is walked, comprehensions. -/
namespace G
open RM (bnd)
open PySem PySem.Spec PyProof.Rows L2

/-! ### targets -/
theorem wipe_set {i : Nat} {o : Option V} : ∀ {vs : List Nat} {σ : L2.St}, i ∈ vs → wipe (σ.set i o) vs = wipe σ vs
  | [], _, h => by cases h
  | v :: vs, σ, h => by
    unfold wipe
    by_cases hi : i ∈ vs
    · rw [wipe_set hi]
    · have e : i = v := by
        rcases List.mem_cons.mp h with e | e
        · exact e
        · exact absurd e hi
      subst e
      have key : ∀ (ws : List Nat) (τ : L2.St), i ∉ ws → wipe (τ.set i o) ws = (wipe τ ws).set i o := by
        intro ws
        induction ws with
        | nil => intro τ _; rfl
        | cons w ws ih =>
          intro τ hw
          rw [List.mem_cons, not_or] at hw
          unfold wipe
          rw [ih τ hw.2, List.set_comm _ _ hw.1]
      rw [key vs σ hi, List.set_set]
section
variable {X : Cx} {c : Ct} {Γ : List Sl} {pos : Pos}
theorem Ev.setVa {K : PySem.W.Frag} {b : Nat} {σ : L2.St} {H F : Hp} {i : Nat} {v : V} {d : D} (E : Ev K c b σ H F Γ) (hi : i < σ.length) (r : Rp F v d) : Ev K c b (σ.set i (some v)) H F (Γ.set i (.va d)) := by
  refine ⟨E.sub, by rw [List.length_set, List.length_set]; exact E.len, fun j s hs => ?_, fun j k a ds es h1 h2 h3 h4 => ?_, E.stt, E.h0, E.f0, E.nw⟩
  · by_cases hj : i = j
    · subst hj
      rw [List.getElem?_set_self (by rw [E.len]; exact hi)] at hs
      cases hs
      rw [List.getElem?_set_self hi]
      exact ⟨v, rfl, r⟩
    · rw [List.getElem?_set_ne hj] at hs ⊢
      exact E.sl j s hs
  · have n1 : i ≠ j := fun e => by
      subst e
      rw [List.getElem?_set_self (by rw [E.len]; exact hi)] at h1
      cases h1
    have n2 : i ≠ k := fun e => by
      subst e
      rw [List.getElem?_set_self (by rw [E.len]; exact hi)] at h2
      cases h2
    rw [List.getElem?_set_ne n1] at h1 h3
    rw [List.getElem?_set_ne n2] at h2 h4
    exact E.apart j k a ds es h1 h2 h3 h4
theorem Ev.setOw {K : PySem.W.Frag} {b : Nat} {σ : L2.St} {H F : Hp} {i : Nat} {a : Addr} {vs : List V} {ds : List D} (E : Ev K c b σ H F Γ) (hi : i < σ.length) (ha : H a = some (.lst vs)) (fa : F a = none) (h0 : c.H0 a = none) (hs : c.ss ≠ some a)
    (ho : ∀ (j : Nat) es, Γ[j]? = some (.ow es) → j ≠ i → σ[j]? ≠ some (some (.ref a))) (r : RpAll F vs ds) : Ev K c b (σ.set i (some (.ref a))) H F (Γ.set i (.ow ds)) := by
  refine ⟨E.sub, by rw [List.length_set, List.length_set]; exact E.len, fun j s hs' => ?_, fun j k a' ds' es h1 h2 h3 h4 => ?_, E.stt, E.h0, E.f0, E.nw⟩
  · by_cases hj : i = j
    · subst hj
      rw [List.getElem?_set_self (by rw [E.len]; exact hi)] at hs'
      cases hs'
      rw [List.getElem?_set_self hi]
      exact ⟨a, vs, rfl, ha, fa, h0, hs, r⟩
    · rw [List.getElem?_set_ne hj] at hs' ⊢
      exact E.sl j s hs'
  · by_cases n1 : i = j
    · by_cases n2 : i = k
      · omega
      · exfalso
        subst n1
        rw [List.getElem?_set_self hi] at h3
        rw [List.getElem?_set_ne n2] at h2 h4
        cases h3
        exact ho k es h2 (Ne.symm n2) h4
    · by_cases n2 : i = k
      · exfalso
        subst n2
        rw [List.getElem?_set_self hi] at h4
        rw [List.getElem?_set_ne n1] at h1 h3
        cases h4
        exact ho j ds' h1 (Ne.symm n1) h3
      · rw [List.getElem?_set_ne n1] at h1 h3
        rw [List.getElem?_set_ne n2] at h2 h4
        exact E.apart j k a' ds' es h1 h2 h3 h4

/-- a target takes a value apart (δ), the names then hold the parts (υ); ks: the places of these names -/
def GG (X : Cx) (c : Ct) (tg : Expr) {T : Type} (δ : D → Option T) (υ : T → List Sl → List Sl) (ks : List Nat) : Prop :=
  ∀ (b : Nat) (σ : L2.St) (H F : Hp) (Γ : List Sl) (v : V) (d : D) (t : T) (Q : L2.St → Hp → Prop), Ev X.K c b σ H F Γ → σ.length = X.N.length → Rp F v d → δ d = some t →
    (∀ σ', σ'.length = X.N.length → (∀ vs : List Nat, (∀ k ∈ ks, k ∈ vs) → wipe σ' vs = wipe σ vs) → (∀ i : Nat, i ∉ ks → (υ t Γ)[i]? = Γ[i]?) → Ev X.K c b σ' H F (υ t Γ) → Q σ' H) → wG X tg v σ H Q
theorem gg_name {i : Nat} {x : Str} (hN : X.N.Nodup) (hi : X.N[i]? = some x) (hx : Loc X.env.scope x) (hf : X.fn x = true ∨ X.env.scope.names.lookup x = some .local := by first | exact .inl rfl | exact .inr rfl | assumption) :
    GG X c (.Name x pos) (fun d => some d) (fun d Γ => Γ.set i (.va d)) [i] := fun b σ H F Γ v d t Q E hl r h q => by
  cases h
  have hlt : i < σ.length := by
    rw [hl]
    exact (List.getElem?_eq_some_iff.mp hi).1
  refine (pg_name hN hi hx hf).w ?_
  exact q (σ.set i (some v)) (by rw [List.length_set]; exact hl) (fun vs hk => wipe_set (hk i (List.mem_singleton.mpr rfl))) (fun j hj => List.getElem?_set_ne (fun e => hj (List.mem_singleton.mpr e.symm))) (E.setVa hlt r)
def GGs (X : Cx) (c : Ct) (tgs : List Expr) {T : Type} (δ : List D → Option T) (υ : T → List Sl → List Sl) (ks : List Nat) : Prop :=
  ∀ (b : Nat) (σ : L2.St) (H F : Hp) (Γ : List Sl) (vs : List V) (ds : List D) (t : T) (Q : L2.St → Hp → Prop), Ev X.K c b σ H F Γ → σ.length = X.N.length → RpAll F vs ds → δ ds = some t →
    (∀ σ', σ'.length = X.N.length → (∀ vs : List Nat, (∀ k ∈ ks, k ∈ vs) → wipe σ' vs = wipe σ vs) → (∀ i : Nat, i ∉ ks → (υ t Γ)[i]? = Γ[i]?) → Ev X.K c b σ' H F (υ t Γ) → Q σ' H) → wGs X tgs vs σ H Q
def nilδ : List D → Option Unit
  | [] => some ()
  | _ => none
def consδ {T U : Type} (δ : D → Option T) (δ' : List D → Option U) : List D → Option (T × U)
  | d :: ds => (δ d).bind fun t => (δ' ds).bind fun u => some (t, u)
  | _ => none
theorem ggs_nil : GGs X c [] nilδ (fun _ Γ => Γ) [] := fun b σ H F Γ vs ds t Q E hl r h q => by
  cases ds with
  | nil =>
    cases r
    exact pgs_nil.w ⟨rfl, q σ hl (fun _ _ => rfl) (fun _ _ => rfl) E⟩
  | cons d ds => cases h
theorem ggs_cons {e : Expr} {es : List Expr} {T U : Type} {δ : D → Option T} {υ : T → List Sl → List Sl} {ks : List Nat} {δ' : List D → Option U} {υ' : U → List Sl → List Sl} {ks' : List Nat} (h1 : GG X c e δ υ ks) (h2 : GGs X c es δ' υ' ks')
    (hs : (assignEach (e :: es) X.env).map (·.2) = assign e X.env :: (assignEach es X.env).map (·.2) := by rfl) : GGs X c (e :: es) (consδ δ δ') (fun t Γ => υ' t.2 (υ t.1 Γ)) (ks ++ ks') := fun b σ H F Γ vs ds t Q E hl r h q => by
  cases ds with
  | nil => cases h
  | cons d ds =>
    obtain ⟨t1, e1, h⟩ := Option.bind_eq_some_iff.mp (show (δ d).bind _ = some t from h)
    obtain ⟨t2, e2, h⟩ := Option.bind_eq_some_iff.mp h
    cases h
    cases r with
    | cons r rr =>
      refine (pgs_cons pg_w pgs_w hs).w ⟨_, _, rfl, ?_⟩
      refine h1 b σ H F Γ _ d t1 _ E hl r e1 fun σ1 hl1 w1 g1 E1 => ?_
      refine h2 b σ1 H F _ _ ds t2 _ E1 hl1 rr e2 fun σ2 hl2 w2 g2 E2 => ?_
      exact q σ2 hl2 (fun vs hk => (w2 vs fun k z => hk k (List.mem_append_right _ z)).trans (w1 vs fun k z => hk k (List.mem_append_left _ z))) (fun i hi => (g2 i fun z => hi (List.mem_append_right _ z)).trans (g1 i fun z => hi (List.mem_append_left _ z))) E2
def tupδ {T : Type} (δ : List D → Option T) : D → Option T
  | .tuple ds => δ ds
  | _ => none
theorem gg_tup {es : List Expr} {k : Nat} {T : Type} {δ : List D → Option T} {υ : T → List Sl → List Sl} {ks : List Nat} (hc : X.calm = true) (hn : ∀ ds t, δ ds = some t → ds.length = es.length) (h : GGs X c es δ υ ks)
    (hl : (assignEach es X.env).length = es.length := by rfl) (hst : (assignEach es X.env).findIdx? (·.1) = none := by rfl) : GG X c (.Tuple es k pos) (tupδ δ) υ ks := fun b σ H F Γ v d t Q E hl' r hd q => by
  cases d <;> try cases hd
  rename_i ds
  obtain ⟨a, vs, rfl, ha, ra⟩ := Rp.tupOf r
  refine (pg_tup hc pgs_w hl hst).w ⟨a, vs, rfl, .of (E.sub _ _ ha), by rw [RpAll.length ra]; exact hn ds t hd, ?_⟩
  exact h b σ H F Γ vs ds t Q E hl' ra hd q
theorem len_nil : ∀ (ds : List D) t, nilδ ds = some t → ds.length = ([] : List Expr).length
  | [], _, _ => rfl
theorem len_cons {e : Expr} {es : List Expr} {T U : Type} {δ : D → Option T} {δ' : List D → Option U} (h : ∀ (ds : List D) t, δ' ds = some t → ds.length = es.length) : ∀ (ds : List D) t, consδ δ δ' ds = some t → ds.length = (e :: es).length
  | d :: ds, t, hd => by
    obtain ⟨t1, e1, hd⟩ := Option.bind_eq_some_iff.mp (show (δ d).bind _ = some t from hd)
    obtain ⟨t2, e2, hd⟩ := Option.bind_eq_some_iff.mp hd
    rw [List.length_cons, List.length_cons, h ds t2 e2]
end

/-! ### what is walked -/
structure Wk (J : It) (St : Hp → Hp → Prop) (ds : List D) : Prop where
  goes : ∀ i H F, i < ds.length → St H F → J.go i H
  stops : ∀ H F, St H F → J.stop ds.length H
  yields : ∀ i H F x H', i < ds.length → St H F → J.yld i H x H' → (H' = H ∧ ∃ d, ds[i]? = some d ∧ Rp F x d) ∨ ∃ T xs es, x = .ref T ∧ H T = none ∧ H' = upd H T (.tup xs) ∧ RpAll F xs es ∧ ds[i]? = some (.tuple es)
section
variable (X : Cx) (c : Ct) {R : Type} [RM R]
/-- .. that stands frozen -/
def GIF (tg iter : Expr) (Γ : List Sl) (w : (List D → R) → R) : Prop :=
  ∀ (P : RM.Pt R) (b : Nat) (σ : L2.St) (H F : Hp) (Q : It → Hp → Prop) (k : List D → R), Ev X.K c b σ H F Γ → RM.tr P b (w k) →
    (∀ ds J St b' H' F', Xt c H F H' F' → Ev X.K c b' σ H' F' Γ → Wk J St ds → (∀ H2 F2, L2.Same F' F2 → L2.Same F2 H2 → St H2 F2) → RM.tr P b' (k ds) → Q J H') → wI X tg iter σ H Q
/-- .. that stands while the names hold what they hold -/
def GIB (tg iter : Expr) (Γ : List Sl) (w : (List D → R) → R) : Prop :=
  ∀ (P : RM.Pt R) (b : Nat) (σ : L2.St) (H F : Hp) (Q : It → Hp → Prop) (k : List D → R), Ev X.K c b σ H F Γ → RM.tr P b (w k) →
    (∀ ds J St b' H' F', Xt c H F H' F' → Ev X.K c b' σ H' F' Γ → Wk J St ds → (∀ b2 H2 F2, L2.Same F' F2 → Ev X.K c b2 σ H2 F2 Γ → St H2 F2) → RM.tr P b' (k ds) → Q J H') → wI X tg iter σ H Q
end
section
variable {X : Cx} {c : Ct} {R : Type} [RM R] {Γ : List Sl} {tg e e1 e2 : Expr} {pos p : Pos}
theorem GIF.b {w : (List D → R) → R} (h : GIF X c tg e Γ w) : GIB X c tg e Γ w := fun P b σ H F Q k E t q =>
  h P b σ H F Q k E t fun ds J St b' H' F' s E' W hst t' => q ds J St b' H' F' s E' W (fun b2 H2 F2 s2 E2 => hst H2 F2 s2 E2.sub) t'
def seqD : D → Option (List D)
  | .list ds => some ds
  | .tuple ds => some ds
  | _ => none
def StL (a : Addr) (ds : List D) (H F : Hp) : Prop := ∃ vs, H a = some (.lst vs) ∧ RpAll F vs ds
def StT (a : Addr) (ds : List D) (H F : Hp) : Prop := ∃ vs, H a = some (.tup vs) ∧ RpAll F vs ds
theorem sq1 {K : PySem.W.Frag} {H : Hp} {a : Addr} {vs : List V} (h : H a = some (.lst vs)) : SqL K H a vs := .of h
theorem wk_list {K : PySem.W.Frag} {a : Addr} {ds : List D} : Wk (Itl K a) (StL a ds) ds where
  goes := fun i H F hi ⟨vs, h, r⟩ => by
    have hl := RpAll.length r
    exact ⟨vs, vs[i]'(by omega), .of h, List.getElem?_eq_getElem _⟩
  stops := fun H F ⟨vs, h, r⟩ => ⟨vs, .of h, by rw [RpAll.length r]; exact Nat.le_refl _⟩
  yields := fun i H F x H' hi ⟨vs, h, r⟩ ⟨e, y⟩ => by
    obtain ⟨d, h1, h2⟩ := RpAll.getV r (y vs (.of h))
    exact .inl ⟨e, d, h1, h2⟩
theorem wk_tup {K : PySem.W.Frag} {a : Addr} {ds : List D} : Wk (Itt K a) (StT a ds) ds where
  goes := fun i H F hi ⟨vs, h, r⟩ => by
    have hl := RpAll.length r
    exact ⟨vs, vs[i]'(by omega), .of h, List.getElem?_eq_getElem _⟩
  stops := fun H F ⟨vs, h, r⟩ => ⟨vs, .of h, by rw [RpAll.length r]; exact Nat.le_refl _⟩
  yields := fun i H F x H' hi ⟨vs, h, r⟩ ⟨e, y⟩ => by
    obtain ⟨d, h1, h2⟩ := RpAll.getV r (y vs (.of h))
    exact .inl ⟨e, d, h1, h2⟩
/-- for x in xs, xs a list or a tuple -/
theorem pi_seq {l : Expr} {tl : TE} (hl : PE X l tl) : PI X tg l (fun σ H R => tl σ H fun x H1 => ∃ a, x = .ref a ∧ ((∃ xs, SqL X.K H1 a xs ∧ R (Itl X.K a) H1) ∨ ∃ xs, SqT X.K H1 a xs ∧ R (Itt X.K a) H1)) := by
  refine ⟨fun pins s σ H R I h => ?_⟩
  refine thn (hl.run pins s σ H _ I h) fun v s1 ⟨x, H1, I1, r1, a, e, q⟩ => ?_
  subst e
  cases r1
  rcases q with ⟨xs, hq, q⟩ | ⟨xs, hq, q⟩
  · obtain ⟨its, rv, p, hz⟩ := I1.list hq
    refine wpAny_pyIter_list p.isList ?_
    refine ⟨s1.heap.objs.size, [s1.heap.objs.size], _, _, H1, rfl, I1.kept (t' := s1.toks) fun b o e => Heap.get?_push_of_some _ e, turn_list a _, ⟨_, Heap.get?_push_size _ rfl, rfl, rfl⟩, fun b hb => ?_, q⟩
    have e : b = s1.heap.objs.size := by simpa using hb
    subst e
    exact I1.fpOk (Nat.le_refl _) (I1.hok.fresh (Nat.le_refl _))
  · obtain ⟨its, rv, p, hz⟩ := I1.tuple hq
    refine wpAny_pyIter_tuple (show s1.heap.IsTuple a its.toArray from p) ?_
    refine ⟨s1.heap.objs.size, [s1.heap.objs.size], _, _, H1, rfl, I1.kept (t' := s1.toks) fun b o e => Heap.get?_push_of_some _ e, turn_tuple a _, ⟨_, Heap.get?_push_size _ rfl, rfl, rfl⟩, fun b hb => ?_, q⟩
    have e : b = s1.heap.objs.size := by simpa using hb
    subst e
    exact I1.fpOk (Nat.le_refl _) (I1.hok.fresh (Nat.le_refl _))
theorem gif_seq {w : (D → R) → R} (h : GC X c e Γ w) : GIF X c tg e Γ (fun k => w fun x => bnd (seqD x) k) := fun P b σ H F Q k E t q => by
  refine (pi_seq pe_w).w ?_
  refine h P b σ H F _ _ E t fun d v b' H' F' s1 E' r1 t1 => ?_
  obtain ⟨z, hz, t2⟩ := RM.bh t1
  cases d <;> cases hz
  · obtain ⟨a, vs, rfl, ha, ra⟩ := Rp.lstOf r1
    exact ⟨a, rfl, .inl ⟨vs, .of (E'.sub _ _ ha), q _ _ _ b' H' F' s1 E' wk_list (fun H2 F2 s2 s3 => ⟨vs, s3 _ _ (s2 _ _ ha), RpAll.mono s2 ra⟩) t2⟩⟩
  · obtain ⟨a, vs, rfl, ha, ra⟩ := Rp.tupOf r1
    exact ⟨a, rfl, .inr ⟨vs, .of (E'.sub _ _ ha), q _ _ _ b' H' F' s1 E' wk_tup (fun H2 F2 s2 s3 => ⟨vs, s3 _ _ (s2 _ _ ha), RpAll.mono s2 ra⟩) t2⟩⟩
theorem Rv.stands {K : PySem.W.Frag} {b b2 : Nat} {σ : L2.St} {H F H2 F2 : Hp} {a : Addr} {ds : List D} (E : Ev K c b σ H F Γ) (r : Rv K σ Γ F (.ref a) (.list ds)) (s : L2.Same F F2) (E2 : Ev K c b2 σ H2 F2 Γ) : StL a ds H2 F2 := by
  obtain ⟨a', vs, e, ha, ra⟩ := (r.mono s).items E2
  cases e
  exact ⟨vs, ha, ra⟩
theorem gib_seq {w : (D → R) → R} (h : GB X c e Γ w) : GIB X c tg e Γ (fun k => w fun x => bnd (seqD x) k) := fun P b σ H F Q k E t q => by
  refine (pi_seq pe_w).w ?_
  refine h P b σ H F _ _ E t fun d v b' H' F' s1 E' r1 t1 => ?_
  obtain ⟨z, hz, t2⟩ := RM.bh t1
  cases d <;> cases hz
  · obtain ⟨a, vs, rfl, ha, ra⟩ := r1.items E'
    exact ⟨a, rfl, .inl ⟨vs, .of ha, q _ _ _ b' H' F' s1 E' wk_list (fun b2 H2 F2 s2 E2 => r1.stands E' s2 E2) t2⟩⟩
  · obtain ⟨a, vs, rfl, ha, ra⟩ := r1.itemsT E'
    exact ⟨a, rfl, .inr ⟨vs, .of (E'.sub _ _ ha), q _ _ _ b' H' F' s1 E' wk_tup (fun b2 H2 F2 s2 E2 => ⟨vs, E2.sub _ _ (s2 _ _ ha), RpAll.mono s2 ra⟩) t2⟩⟩
/-! range -/
def rangeL (lo : Int) (n : Nat) : List D := (List.range n).map fun i => .int (lo + (i : Nat))
theorem rangeL_len {lo : Int} {n : Nat} : (rangeL lo n).length = n := by simp [rangeL]
theorem rangeL_get {lo : Int} {n i : Nat} (h : i < n) : (rangeL lo n)[i]? = some (.int (lo + (i : Nat))) := by
  simp [rangeL, h]
theorem wk_range {lo : Int} {n : Nat} : Wk (Itr lo n) (fun _ _ => True) (rangeL lo n) where
  goes := fun i H F hi _ => by rw [rangeL_len] at hi; exact hi
  stops := fun H F _ => by rw [rangeL_len]; exact Nat.le_refl _
  yields := fun i H F x H' hi _ ⟨e, y⟩ => by
    rw [rangeL_len] at hi
    subst y
    exact .inl ⟨e, _, rangeL_get hi, .int _⟩
def small62 (i : Int) : Bool := decide (-(2 ^ 62) ≤ i ∧ i < 2 ^ 62)
def rng1 : List D → Option (List D)
  | [.int j] => if small62 j = true then some (rangeL 0 j.toNat) else none
  | _ => none
def rng2 : List D → Option (List D)
  | [.int i, .int j] => if small62 i = true ∧ small62 j = true then some (rangeL i (j - i).toNat) else none
  | _ => none
theorem gif_range1 {w : (List D → R) → R} (hg : Gl X "range") (hm : X.mg "range" = none) (h : GA X c [e] Γ w) (hs : starEach [e] X.env = [(false, eval e X.env)] := by rfl) : GIF X c tg (.Call (.Name "range" p) [e] [] pos) Γ (fun k => w fun ds => bnd (rng1 ds) k) := fun P b σ H F Q k E t q => by
  refine (pi_range1 hg hm pa_w hs).w ?_
  refine h P b σ H F _ _ E t fun d v b' H' F' s1 E' r1 t1 => ?_
  obtain ⟨z, hz, t2⟩ := RM.bh t1
  unfold rng1 at hz
  split at hz
  · split at hz
    · rename_i hq
      cases hz
      obtain ⟨v, rfl, rr⟩ := r1.one
      have hq := of_decide_eq_true hq
      exact ⟨_, by rw [rr.intOf], hq.1, hq.2, q _ _ _ b' H' F' s1 E' wk_range (fun _ _ _ _ => trivial) t2⟩
    · cases hz
  · cases hz
theorem gif_range2 {w : (List D → R) → R} (hg : Gl X "range") (hm : X.mg "range" = none) (h : GA X c [e1, e2] Γ w) (hs : starEach [e1, e2] X.env = [(false, eval e1 X.env), (false, eval e2 X.env)] := by rfl) (hs2 : starEach [e2] X.env = [(false, eval e2 X.env)] := by rfl) :
    GIF X c tg (.Call (.Name "range" p) [e1, e2] [] pos) Γ (fun k => w fun ds => bnd (rng2 ds) k) := fun P b σ H F Q k E t q => by
  refine (pi_range2 hg hm pa_w hs hs2).w ?_
  refine h P b σ H F _ _ E t fun d v b' H' F' s1 E' r1 t1 => ?_
  obtain ⟨z, hz, t2⟩ := RM.bh t1
  unfold rng2 at hz
  split at hz
  · split at hz
    · rename_i hq
      cases hz
      obtain ⟨v, w, rfl, r1, r2⟩ := r1.two
      have h1 := of_decide_eq_true hq.1
      have h2 := of_decide_eq_true hq.2
      exact ⟨_, _, by rw [r1.intOf, r2.intOf], ⟨h1.1, h1.2, h2.1, h2.2⟩, q _ _ _ b' H' F' s1 E' wk_range (fun _ _ _ _ => trivial) t2⟩
    · cases hz
  · cases hz
/-- downwards: range(a, b, -1) -/
def rangeN (lo : Int) (n : Nat) : List D := (List.range n).map fun i => .int (lo - (i : Nat))
def rng3 : List D → Option (List D)
  | [.int i, .int j, .int c] => if small62 i = true ∧ small62 j = true ∧ c = -1 then some (rangeN i (i - j).toNat) else none
  | _ => none
theorem wk_rangeC {lo : Int} {n : Nat} : Wk (Itc lo (-1) n) (fun _ _ => True) (rangeN lo n) where
  goes := fun i H F hi _ => by simp only [rangeN, List.length_map, List.length_range] at hi; exact hi
  stops := fun H F _ => by simp only [rangeN, List.length_map, List.length_range]; exact Nat.le_refl _
  yields := fun i H F x H' hi _ ⟨e, y⟩ => by
    simp only [rangeN, List.length_map, List.length_range] at hi
    subst y
    refine .inl ⟨e, .int (lo + (i : Nat) * (-1)), ?_, .int _⟩
    have e1 : lo + (i : Int) * (-1) = lo - (i : Nat) := by omega
    rw [e1]
    simp [rangeN, hi]
theorem gif_range3 {e3 : Expr} {w : (List D → R) → R} (hg : Gl X "range") (hm : X.mg "range" = none) (h : GA X c [e1, e2, e3] Γ w) (hs : starEach [e1, e2, e3] X.env = (false, eval e1 X.env) :: starEach [e2, e3] X.env := by rfl) (hpl : (backTo pos (starEach [e2, e3] X.env)).any (·.1) = false := by rfl) :
    GIF X c tg (.Call (.Name "range" p) [e1, e2, e3] [] pos) Γ (fun k => w fun ds => bnd (rng3 ds) k) := fun P b σ H F Q k E t q => by
  refine (pi_range3 hg hm pa_w hs hpl).w ?_
  refine h P b σ H F _ _ E t fun d v b' H' F' s1 E' r1 t1 => ?_
  obtain ⟨z, hz, t2⟩ := RM.bh t1
  unfold rng3 at hz
  split at hz
  · split at hz
    · rename_i hq
      cases hz
      obtain ⟨h1, h2, h3⟩ := hq
      subst h3
      cases r1 with
      | cons ra t =>
        cases t with
        | cons rb t =>
          cases t with
          | cons rc t =>
            cases t
            have h1 := of_decide_eq_true h1
            have h2 := of_decide_eq_true h2
            exact ⟨_, _, _, _, by rw [ra.intOf, rb.intOf, rc.intOf], RgC.neg h1.1 h1.2 h2.1 h2.2, q _ _ _ b' H' F' s1 E' wk_rangeC (fun _ _ _ _ => trivial) t2⟩
    · cases hz
  · cases hz

/-! ### enumerate, zip: of lists and tuples in any mix -/
theorem ty_ne {a b : String} (h : a ≠ b) : Value.type a ≠ Value.type b := fun z => h (Value.type.inj z)
/-- a turn that hands out a new pair, by the library's WalksT -/
theorem turnW {P : Program} {w : World} {K : PySem.W.Frag} {elts : List Expr} {kk : Nat} {tpos : Pos} {J : It} {I : Addr} {ch : List Addr} {tn : Nat → Heap → Prop} (mem : I ∈ ch) (obj : ∀ i h, tn i h → ∀ b ∈ ch, ∃ o, h.get? b = some o ∧ ∀ v, o.data ≠ .cell v)
    (keep : ∀ i h h', tn i h → (∀ b ∈ ch, ∀ o, h.get? b = some o → h'.get? b = some o) → tn i h') (self : ∀ (A : Around) (i : Nat) (s : Shared) (Q : Value → Shared → Prop) (E : Value → Shared → Prop), tn i s.heap → Q (.ref I) s → wpAny (model P w) A (pyIter (.ref I)) Q E s)
    (hW : ∀ (X : Cx), X.prog = P → X.w = w → X.K = K → X.calm = true → ∀ (i : Nat) (pins : List (Addr × Obj)) (s : Shared) (σ : L2.St) (H : Hp), Inv X pins σ H s → (∀ b ∈ ch, H b = none) → tn i s.heap → J.go i H ∨ J.stop i H →
      ∃ (fp wr : List Addr) (n : Nat) (Pt : Nat → Array Value → Prop) (S : Nat → Heap → Prop) (Mid : Nat → Addr → Heap → Prop), WalksT P w X.A I fp wr n Pt S Mid ∧ (∀ b ∈ wr, b ∈ ch) ∧ S i s.heap ∧ (∀ h', S (i + 1) h' → (∀ b o, b ∉ wr → s.heap.get? b = some o → h'.get? b = some o) → tn (i + 1) h') ∧ (J.go i H → i < n ∧ ∀ vals, Pt i vals → ∃ x y u u2, vals = #[u, u2] ∧ RelV x u ∧ RelV y u2 ∧ ∀ T, H T = none → J.yld i H (.ref T) (upd H T (.tup [x, y]))) ∧ (J.stop i H → i = n)) :
    Turn P w K (.Tuple elts kk tpos) J ch I tn where
  mem := mem
  obj := obj
  keep := keep
  item := by
    intro X hP hw hK hc i pins s σ H E Iv hf st hg
    obtain ⟨fp, wr, n, Pt, S, Mid, W, sub, hS, next, hgo, _⟩ := hW X hP hw hK hc i pins s σ H Iv (fun b hb => (hf b hb).1) st (.inl hg)
    subst hP hw hK
    obtain ⟨hlt, hv⟩ := hgo hg
    refine W.item i s _ _ hlt hS fun T vals h' tk hPt hT hTup mid hk => ?_
    obtain ⟨x, y, u, u2, rfl, rx, ry, yl⟩ := hv vals hPt
    have nT : T ∉ wr := W.apart i T h' mid
    refine ⟨_, rfl, W.go elts kk tpos i T { s with heap := h', toks := tk } _ _ mid fun h2 hS2 hk2 => ?_⟩
    obtain ⟨oT, hoT, hcT, nT', hdT⟩ := hTup
    have tup2 : IsTup h2 T #[u, u2] := ⟨oT, hk2 T oT nT hoT, hcT, nT', hdT⟩
    have lt : ∀ b ∈ ch, b < s.heap.objs.size := fun b hb => by
      obtain ⟨o, e, _⟩ := obj _ _ st b hb
      exact Heap.lt_size e
    have hTn : H T = none := Iv.hok.fresh hT
    have new : ObjOk X.prog X.w (upd H T (.tup [x, y])) h2 T (.tup [x, y]) := ⟨by show 2 ≤ sizeLine; decide, [u, u2], .cons rx (.cons ry .nil), tup2⟩
    have kk' : ∀ b o, b ∉ wr → s.heap.get? b = some o → h2.get? b = some o := fun b o hb e => hk2 b o hb (hk b o hb e)
    have I1 : Inv X pins σ (upd H T (.tup [x, y])) { s with heap := h2, toks := tk } :=
      Iv.turnedNew (t' := tk) (ch := ch) (fun b o hb e => kk' b o (fun z => hb (sub b z)) e) hf hT new
    refine ⟨.ref T, _, I1, rfl, yl T hTn, next h2 hS2 kk', fun b hb => ?_⟩
    rw [upd_ne (Nat.ne_of_lt (Nat.lt_of_lt_of_le (lt b hb) hT))]
    exact (hf b hb).1
  done := by
    intro X hP hw hK hc i pins s σ H E Iv hf st hg
    obtain ⟨fp, wr, n, Pt, S, Mid, W, sub, hS, next, _, he⟩ := hW X hP hw hK hc i pins s σ H Iv (fun b hb => (hf b hb).1) st (.inr hg)
    subst hP hw hK
    have e := he hg
    subst e
    refine W.done s _ _ hS fun h' tk hk => ⟨rfl, Iv.turnedL (t' := tk) (ch := ch) (fun b o hb e => hk b o (fun z => hb (sub b z)) e) hf⟩
  self := self
/-- a list (false) or a tuple (true) -/
def SqK (K : PySem.W.Frag) (H : Hp) (a : Addr) (xs : List V) : Bool → Prop
  | false => SqL K H a xs
  | true => SqT K H a xs
def IsK (h : Heap) (a : Addr) (its : Array Value) : Bool → Prop
  | false => h.IsList a its
  | true => h.IsTuple a its
def ItrK (h : Heap) (it a : Addr) (i : Nat) : Bool → Prop
  | false => h.IsListIter it a i
  | true => h.IsTupleIter it a i
theorem Inv.sqK {X : Cx} {pins : List (Addr × Obj)} {σ : L2.St} {H : Hp} {s : Shared} {a : Addr} {xs : List V} (I : Inv X pins σ H s) : ∀ {t : Bool}, SqK X.K H a xs t → ∃ its : List Value, Vals xs its ∧ IsK s.heap a its.toArray t
  | false, h => by
    obtain ⟨its, r, p, _⟩ := I.list h
    exact ⟨its, r, p.isList⟩
  | true, h => by
    obtain ⟨its, r, p, _⟩ := I.tuple h
    exact ⟨its, r, p⟩
theorem Inv.sqK_inj {X : Cx} {pins : List (Addr × Obj)} {σ : L2.St} {H : Hp} {s : Shared} {a : Addr} {xs ys : List V} (I : Inv X pins σ H s) : ∀ {t : Bool}, SqK X.K H a xs t → SqK X.K H a ys t → xs = ys
  | false, h, h' => I.list_inj h h'
  | true, h, h' => I.tuple_inj h h'
theorem IsK.obj {h : Heap} {a : Addr} {its : Array Value} : ∀ {t : Bool}, IsK h a its t → ∃ o, h.get? a = some o ∧ (o.cls = .type "list" ∨ o.cls = .type "tuple")
  | false, ⟨o, e, c, _⟩ => ⟨o, e, .inl c⟩
  | true, ⟨o, e, c, _⟩ => ⟨o, e, .inr c⟩
theorem ItrK.obj {h : Heap} {it a : Addr} {i : Nat} : ∀ {t : Bool}, ItrK h it a i t → ∃ o, h.get? it = some o ∧ (o.cls = .type "list_iterator" ∨ o.cls = .type "tuple_iterator") ∧ ∃ vs, o.data = .fields vs
  | false, ⟨o, e, c, d⟩ => ⟨o, e, .inl c, _, d⟩
  | true, ⟨o, e, c, d⟩ => ⟨o, e, .inr c, _, d⟩
theorem ItrK.at {h h' : Heap} {it a : Addr} {i : Nat} (k : ∀ o, h.get? it = some o → h'.get? it = some o) : ∀ {t : Bool}, ItrK h it a i t → ItrK h' it a i t
  | false, x => Heap.IsListIter.at x fun o e => k o e
  | true, x => Heap.IsTupleIter.at x fun o e => k o e
theorem it_ne {h : Heap} {it a : Addr} {i : Nat} {its : Array Value} {t t' : Bool} (x : ItrK h it a i t) (y : IsK h a its t') : a ≠ it := fun z => by
  obtain ⟨o, e, c, _⟩ := x.obj
  obtain ⟨o', e', c'⟩ := y.obj
  rw [z, e] at e'
  cases e'
  rcases c with c | c <;> rcases c' with c' | c' <;> rw [c] at c' <;> exact absurd c' (by decide)
theorem draws_k {prog : Program} {w : World} {A : Around} (hh : A.handled = none) (it a : Addr) (hne : a ≠ it) (items : Array Value) : ∀ t : Bool,
    Draws prog w A it [it, a] items.size (fun i v => items[i]? = some v) (fun i h => ItrK h it a i t ∧ IsK h a items t)
  | false => Draws.list hh it a hne items
  | true => Draws.tuple hh it a hne items
theorem begins_k (a : Addr) (items : Array Value) : ∀ t : Bool, ∃ o, Begins (.ref a) o (fun h => IsK h a items t) ∧ (∀ h it, h.get? it = some o → ItrK h it a 0 t)
  | false => ⟨_, begins_list a items, fun h it e => ⟨_, e, rfl, rfl⟩⟩
  | true => ⟨_, begins_tuple a items, fun h it e => ⟨_, e, rfl, rfl⟩⟩

def IteK (K : PySem.W.Frag) (a : Addr) (t : Bool) : It :=
  ⟨fun i H => ∃ (xs : List V) (x : V), SqK K H a xs t ∧ xs[i]? = some x, fun i H v H' => ∃ T x, v = .ref T ∧ H T = none ∧ H' = upd H T (.tup [.int (i : Nat), x]) ∧ ∀ xs, SqK K H a xs t → xs[i]? = some x, fun i H => ∃ xs : List V, SqK K H a xs t ∧ xs.length = i⟩
theorem turn_enumK {P : Program} {w : World} {K : PySem.W.Frag} {elts : List Expr} {kk : Nat} {tpos : Pos} (a e it : Addr) (t : Bool) :
    Turn P w K (.Tuple elts kk tpos) (IteK K a t) [e, it] e (fun i h => (∃ old, IsEnum h e it ((i : Nat) : Int) old) ∧ ItrK h it a i t ∧ e ≠ it) :=
  turnW (by simp) (fun i h st b hb => by
      obtain ⟨⟨old, he⟩, x, _⟩ := st
      have e' : b = e ∨ b = it := by simpa using hb
      rcases e' with z | z
      · rw [z]; exact ⟨_, he, fun v q => nomatch q⟩
      · obtain ⟨o, ho, _, vs, hd⟩ := x.obj
        rw [z]; exact ⟨o, ho, fun v q => by rw [hd] at q; cases q⟩)
    (fun i h h' st k => let ⟨⟨old, he⟩, hi, hne⟩ := st; ⟨⟨old, k e (by simp) _ he⟩, hi.at fun o q => k it (by simp) o q, hne⟩)
    (fun A i s Q E st h => let ⟨⟨_, he⟩, _⟩ := st; wpAny_pyIter_enum he h)
    fun X hP hw hK hc i pins s σ H I hn st hg => by
      subst hP hw hK
      obtain ⟨⟨old, he⟩, hit, hne⟩ := st
      have hx : ∃ xs : List V, SqK X.K H a xs t := by
        rcases hg with ⟨xs, x, h, _⟩ | ⟨xs, h, _⟩
        · exact ⟨xs, h⟩
        · exact ⟨xs, h⟩
      obtain ⟨xs, hq⟩ := hx
      obtain ⟨its, rv, p⟩ := Inv.sqK I hq
      have nae : e ≠ a := fun z => by
        obtain ⟨o', e', c'⟩ := p.obj
        rw [← z, show s.heap.get? e = some _ from he] at e'
        cases e'
        rcases c' with c' | c' <;> exact absurd c' (ty_ne (by decide))
      have hh : X.A.in1.handled = none := I.ok.hd hc
      have e0 : (0 : Int) + (i : Int) = (i : Int) := by omega
      refine ⟨_, _, _, _, _, _, WalksT.enumFrom (prog := X.prog) (w := X.w) (A := X.A) 0 (draws_k hh it a (it_ne hit p) its.toArray t) e hne (fun z => (List.mem_cons.mp z).elim hne fun z => nae (List.mem_singleton.mp z)) (by simp), fun b hb => hb,
        ⟨⟨old, by rw [e0]; exact he⟩, hit, p⟩, fun h' z kb => ?_, fun hgo => ?_, fun hst => ?_⟩
      · obtain ⟨⟨old', he'⟩, hit', _⟩ := z
        have e1 : (0 : Int) + ((i + 1 : Nat) : Int) = ((i + 1 : Nat) : Int) := by omega
        exact ⟨⟨old', by rw [e1] at he'; exact he'⟩, hit', hne⟩
      · obtain ⟨ys, y, hy, hyi⟩ := hgo
        have ey := Inv.sqK_inj I hy hq
        subst ey
        obtain ⟨u, hu, ru⟩ := rv.get hyi
        refine ⟨by simpa using (List.getElem?_eq_some_iff.mp hu).1, fun vals hv => ?_⟩
        obtain ⟨tk, z, hz, rfl⟩ := hv
        have ez : z = u := by
          simp only [List.getElem?_toArray] at hz
          rw [hu] at hz
          exact (Option.some.inj hz).symm
        subst ez
        exact ⟨.int (i : Nat), y, _, _, rfl, ⟨tk, by rw [e0]⟩, ru, fun T hT => ⟨T, y, rfl, hT, rfl, fun zs hz => by rw [Inv.sqK_inj I hz hy]; exact hyi⟩⟩
      · obtain ⟨ys, hy, hyl⟩ := hst
        rw [← hyl, Inv.sqK_inj I hy hq, rv.length, List.size_toArray]
theorem meets_enumerate_new1 {v : Value} {o : Obj} {H : Heap → Prop} (B : Begins v o H) :
    Meets (Builtin.«enumerate.__new__» ⟨[.type "enumerate", v], []⟩) (fun _ R s => H s.heap ∧
      R (.ok (.ret (.ref (s.heap.push o).objs.size))) { s with heap := (s.heap.push o).push { cls := .type "enumerate", data := .fields #[.none, .bool false, .ref s.heap.objs.size, rawInt 0, .none, .none] } }) :=
  .of_wp fun prog w A R s h => by
    obtain ⟨hp, g, d, tk, os⟩ := s; obtain ⟨h1, h⟩ := h
    have hsub := sub_enumerate
    have q1 : ∀ {A' : Around} {E : Value → Shared → Prop} {Q : Value → Shared → Prop}, Q (.ref hp.objs.size) ⟨hp.push o, g, d, tk, os⟩ → wpAny (model prog w) A' (pyIter v) Q E ⟨hp, g, d, tk, os⟩ :=
      fun q => B.iter prog w _ _ ⟨hp, g, d, tk, os⟩ _ h1 q
    wp_walk using q1
    refine wpAny_stack_any fun st => wpAny_pure ?_
    split
    · rename_i c _ _ _ _ _
      cases (c == Value.type "enumerate")
      · wp_walk using q1
        exact ⟨_, rfl, h⟩
      · wp_walk using q1
        exact ⟨_, rfl, h⟩
    · wp_walk using q1
      exact ⟨_, rfl, h⟩
theorem enum_begins1 {prog : Program} {w : World} {A : Around} {E : Value → Shared → Prop} {s : Shared} {v : Value} {o : Obj} {H : Heap → Prop} {Q : Value → Shared → Prop} (B : Begins v o H) (h1 : H s.heap)
    (h : ∀ h', IsEnum h' (s.heap.objs.size + 1) s.heap.objs.size 0 .none → h'.get? s.heap.objs.size = some o → h'.objs.size = s.heap.objs.size + 2 →
      (∀ b o, s.heap.get? b = some o → h'.get? b = some o) → Q (.ref (s.heap.objs.size + 1)) { s with heap := h' }) :
    wpAny (model prog w) A (call (.type "enumerate") [v]) Q E s := by
  refine callType_new F.called_enumerate (by decide) (F.typeCall_enumerate_1 _) (F.newCall_enumerate_1 _) (fun obj => F.args_object_init_2 obj _) F.entry_enumerate_new
    (meets_enumerate_new1 B) ⟨h1, ?_⟩
  have hz : (s.heap.push o).objs.size = s.heap.objs.size + 1 := Heap.size_push ..
  show _ ∧ _
  rw [hz]
  have he : IsEnum ((s.heap.push o).push { cls := .type "enumerate", data := .fields #[.none, .bool false, .ref s.heap.objs.size, rawInt 0, .none, .none] }) (s.heap.objs.size + 1) s.heap.objs.size 0 .none := by
    have := Heap.get?_push_size (s.heap.push o) (o := { cls := .type "enumerate", data := .fields #[.none, .bool false, .ref s.heap.objs.size, rawInt 0, .none, .none] }) rfl
    rw [hz] at this; exact this
  refine ⟨⟨_, he, rfl⟩, h _ he (Heap.get?_push_of_some _ (Heap.get?_push_size _ B.free)) (by rw [Heap.size_push, hz]) fun b o x => Heap.get?_push_of_some _ (Heap.get?_push_of_some _ x)⟩
def iEnumK (K : PySem.W.Frag) (ta : TA) : TI := fun σ H R => ta σ H fun vs H1 => ∃ a xs t, vs = [.ref a] ∧ SqK K H1 a xs t ∧ R (IteK K a t) H1
theorem pi_enumK {e : Expr} {ta : TA} {p pos tpos : Pos} {elts : List Expr} {kk : Nat} (hg : Gl X "enumerate") (hm : X.mg "enumerate" = none) (ha : PA X [e] ta) (hs : starEach [e] X.env = [(false, eval e X.env)] := by rfl) :
    PI X (.Tuple elts kk tpos) (.Call (.Name "enumerate" p) [e] [] pos) (iEnumK X.K ta) := by
  refine ⟨fun pins s σ H R I h => ?_⟩
  refine Call_ (ld_blt I hg hm boot_enumerate (PyProof.Rows.callWith_type1 (thn (ha.run pos pins s σ H _ I h) fun us s1 ⟨vs, H1, I1, r1, q1⟩ => ?_) hs rfl))
  obtain ⟨a, xs, t, ex, hq, q⟩ := q1
  subst ex
  cases r1 with
  | cons r rr =>
    cases rr
    cases r
    obtain ⟨its, rv, p'⟩ := Inv.sqK I1 hq
    obtain ⟨o, B, hB⟩ := begins_k a its.toArray t
    refine enum_begins1 B p' fun h' he hit hsz hk => wpAny_pyIter_enum he ?_
    have I2 : Inv X pins σ H1 { s1 with heap := h' } := I1.kept (t' := s1.toks) hk
    refine ⟨s1.heap.objs.size + 1, [s1.heap.objs.size + 1, s1.heap.objs.size], _, _, H1, rfl, I2, turn_enumK a (s1.heap.objs.size + 1) s1.heap.objs.size t, ⟨⟨.none, he⟩, hB _ _ hit, Nat.succ_ne_self _⟩, fun b hb => ?_, q⟩
    have e' : b = s1.heap.objs.size + 1 ∨ b = s1.heap.objs.size := by simpa using hb
    have hle : s1.heap.objs.size ≤ b := by
      rcases e' with z | z
      · rw [z]; exact Nat.le_add_right _ _
      · rw [z]; exact Nat.le_refl _
    exact I1.fpOk hle (I1.hok.fresh hle)
def ItzK (K : PySem.W.Frag) (a b : Addr) (t u : Bool) : It :=
  ⟨fun i H => ∃ (xs ys : List V) (x y : V), SqK K H a xs t ∧ SqK K H b ys u ∧ xs[i]? = some x ∧ ys[i]? = some y,
    fun i H v H' => ∃ T x y, v = .ref T ∧ H T = none ∧ H' = upd H T (.tup [x, y]) ∧ (∀ xs, SqK K H a xs t → xs[i]? = some x) ∧ ∀ ys, SqK K H b ys u → ys[i]? = some y,
    fun i H => ∃ xs ys : List V, SqK K H a xs t ∧ SqK K H b ys u ∧ min xs.length ys.length = i⟩
theorem turn_zipK {P : Program} {w : World} {K : PySem.W.Frag} {elts : List Expr} {kk : Nat} {tpos : Pos} {a b z TI TO i1 i2 : Addr} (t u : Bool) (n1 : TI ≠ z) (n2 : TO ≠ z) (n3 : TI ≠ TO) (n4 : TI ≠ i1) (n5 : TI ≠ i2) (n6 : i1 ≠ i2) :
    Turn P w K (.Tuple elts kk tpos) (ItzK K a b t u) [z, TI, TO, i1, i2] z (fun i h => IsZip h z TI TO .none ∧ IsTupOf2 h TI (.ref i1) (.ref i2) ∧ (∃ x y, IsTupOf2 h TO x y) ∧ ItrK h i1 a i t ∧ ItrK h i2 b i u ∧ TO ≠ a ∧ TO ≠ b) :=
  turnW (by simp) (fun i h st c hc => by
      obtain ⟨hz, hTI, ⟨x, y, hTO⟩, h1, h2, _⟩ := st
      have e' : c = z ∨ c = TI ∨ c = TO ∨ c = i1 ∨ c = i2 := by simpa using hc
      rcases e' with q | q | q | q | q
      · rw [q]; exact ⟨_, hz, fun v q => nomatch q⟩
      · rw [q]; exact ⟨_, hTI, fun v q => nomatch q⟩
      · rw [q]; exact ⟨_, hTO, fun v q => nomatch q⟩
      · obtain ⟨o, ho, _, vs, hd⟩ := h1.obj
        rw [q]; exact ⟨o, ho, fun v q => by rw [hd] at q; cases q⟩
      · obtain ⟨o, ho, _, vs, hd⟩ := h2.obj
        rw [q]; exact ⟨o, ho, fun v q => by rw [hd] at q; cases q⟩)
    (fun i h h' st k => by
      obtain ⟨hz, hTI, ⟨x, y, hTO⟩, h1, h2, na⟩ := st
      exact ⟨k z (by simp) _ hz, k TI (by simp) _ hTI, ⟨x, y, k TO (by simp) _ hTO⟩, h1.at fun o q => k i1 (by simp) o q, h2.at fun o q => k i2 (by simp) o q, na⟩)
    (fun A i s Q E st h => wpAny_pyIter_zip st.1 h)
    fun X hP hw hK hc i pins s σ H I hn st hg => by
      subst hP hw hK
      obtain ⟨hz, hTI, ⟨x0, y0, hTO⟩, h1, h2, na, nb⟩ := st
      have hx : ∃ xs ys : List V, SqK X.K H a xs t ∧ SqK X.K H b ys u := by
        rcases hg with ⟨xs, ys, _, _, h, h', _⟩ | ⟨xs, ys, h, h', _⟩
        · exact ⟨xs, ys, h, h'⟩
        · exact ⟨xs, ys, h, h'⟩
      obtain ⟨xs, ys, hq1, hq2⟩ := hx
      obtain ⟨its, rv, p1⟩ := Inv.sqK I hq1
      obtain ⟨its2, rv2, p2⟩ := Inv.sqK I hq2
      have hh : X.A.in1.handled = none := I.ok.hd hc
      obtain ⟨o1, g1, c1, v1, d1⟩ := h1.obj
      obtain ⟨o2, g2, c2, v2, d2⟩ := h2.obj
      obtain ⟨oa, ga, ca⟩ := p1.obj
      obtain ⟨ob, gb, cb⟩ := p2.obj
      have apart : ∀ {p q : Addr} {o o' : Obj}, s.heap.get? p = some o → s.heap.get? q = some o' → o.cls ≠ o'.cls → p ≠ q := fun {p q o o'} e e' ne z => by
        rw [z, e'] at e
        cases e
        exact ne rfl
      have z1 : z ≠ i1 := apart hz g1 (by rcases c1 with c | c <;> rw [c] <;> exact ty_ne (by decide))
      have z2 : z ≠ i2 := apart hz g2 (by rcases c2 with c | c <;> rw [c] <;> exact ty_ne (by decide))
      have za : z ≠ a := apart hz ga (by rcases ca with c | c <;> rw [c] <;> exact ty_ne (by decide))
      have zb : z ≠ b := apart hz gb (by rcases cb with c | c <;> rw [c] <;> exact ty_ne (by decide))
      have t1 : TO ≠ i1 := apart hTO g1 (by rcases c1 with c | c <;> rw [c] <;> exact ty_ne (by decide))
      have t2 : TO ≠ i2 := apart hTO g2 (by rcases c2 with c | c <;> rw [c] <;> exact ty_ne (by decide))
      have i1b : i1 ≠ b := apart g1 gb (by rcases c1 with c | c <;> rcases cb with c' | c' <;> rw [c, c'] <;> decide)
      have i2a : i2 ≠ a := apart g2 ga (by rcases c2 with c | c <;> rcases ca with c' | c' <;> rw [c, c'] <;> decide)
      have mem2 : ∀ {x p q : Addr}, x ≠ p → x ≠ q → x ∉ [p, q] := fun {x p q} e e' m => by
        rcases List.mem_cons.mp m with m | m
        · exact e m
        · exact e' (List.mem_singleton.mp m)
      have S : ZipSep2 z TI TO i1 i2 [i1, a] [i2, b] := ⟨n1, n2, n3, n4, by simp, mem2 z1 za, mem2 t1 na, n5, by simp, mem2 z2 zb, mem2 t2 nb, mem2 n6 i1b, mem2 (Ne.symm n6) i2a⟩
      refine ⟨_, _, _, _, _, _, WalksT.zipD2 (prog := X.prog) (w := X.w) (A := X.A) S (draws_k hh i1 a (it_ne h1 p1) its.toArray t) (draws_k hh i2 b (it_ne h2 p2) its2.toArray u), fun c hc => ?_,
        ⟨hz, hTI, ⟨x0, y0, hTO⟩, ⟨h1, p1⟩, ⟨h2, p2⟩⟩, fun h' q kb => ?_, fun hgo => ?_, fun hst => ?_⟩
      · have e' : c = z ∨ c = TO ∨ c = i1 ∨ c = i2 := by simpa using hc
        rcases e' with q | q | q | q <;> rw [q] <;> simp
      · obtain ⟨a1, a2, a3, a4, a5⟩ := q
        exact ⟨a1, a2, a3, a4.1, a5.1, na, nb⟩
      · obtain ⟨xs', ys', x, y, hx, hy, hxi, hyi⟩ := hgo
        have ex := Inv.sqK_inj I hx hq1
        have ey := Inv.sqK_inj I hy hq2
        subst ex ey
        obtain ⟨v, hv, ru⟩ := rv.get hxi
        obtain ⟨v', hv', ru'⟩ := rv2.get hyi
        have l1 := (List.getElem?_eq_some_iff.mp hv).1
        have l2 := (List.getElem?_eq_some_iff.mp hv').1
        refine ⟨by simp only [List.size_toArray]; omega, fun vals hvs => ?_⟩
        obtain ⟨y1, y2, e1, e2, rfl⟩ := hvs
        simp only [List.getElem?_toArray] at e1 e2
        rw [hv] at e1
        rw [hv'] at e2
        cases e1
        cases e2
        exact ⟨x, y, _, _, rfl, ru, ru', fun T hT => ⟨T, x, y, rfl, hT, rfl, fun zs hz => by rw [Inv.sqK_inj I hz hx]; exact hxi, fun zs hz => by rw [Inv.sqK_inj I hz hy]; exact hyi⟩⟩
      · obtain ⟨xs', ys', hx, hy, hyl⟩ := hst
        rw [← hyl, Inv.sqK_inj I hx hq1, Inv.sqK_inj I hy hq2, rv.length, rv2.length, List.size_toArray, List.size_toArray]
theorem off_ne {n i j : Nat} (h : i ≠ j) : n + i ≠ n + j := fun z => h (Nat.add_left_cancel z)
theorem off_ne0 {n i : Nat} (h : i ≠ 0) : n + i ≠ n := fun z => h (Nat.add_left_cancel (z.trans (Nat.add_zero n).symm))
def iZipK (K : PySem.W.Frag) (ta : TA) : TI := fun σ H R => ta σ H fun vs H1 => ∃ a b xs ys t u, vs = [.ref a, .ref b] ∧ SqK K H1 a xs t ∧ SqK K H1 b ys u ∧ R (ItzK K a b t u) H1
theorem pi_zipK {e e2 : Expr} {ta : TA} {p pos tpos : Pos} {elts : List Expr} {kk : Nat} (hg : Gl X "zip") (hm : X.mg "zip" = none) (ha : PA X [e, e2] ta)
    (hs : starEach [e, e2] X.env = (false, eval e X.env) :: starEach [e2] X.env := by rfl) (hpl : (backTo pos (starEach [e2] X.env)).any (·.1) = false := by rfl) :
    PI X (.Tuple elts kk tpos) (.Call (.Name "zip" p) [e, e2] [] pos) (iZipK X.K ta) := by
  refine ⟨fun pins s σ H R I h => ?_⟩
  refine Call_ (ld_blt I hg hm PyProof.Rows.boot_zip (PyProof.Rows.callWith_type1 (thn (ha.run pos pins s σ H _ I h) fun us s1 ⟨vs, H1, I1, r1, q1⟩ => ?_) hs hpl))
  obtain ⟨a, b, xs, ys, t, u, ex, hq1, hq2, q⟩ := q1
  subst ex
  cases r1 with
  | cons r rr =>
    cases rr with
    | cons r' rr =>
      cases rr
      cases r
      cases r'
      obtain ⟨its, rv, p1⟩ := Inv.sqK I1 hq1
      obtain ⟨its2, rv2, p2⟩ := Inv.sqK I1 hq2
      obtain ⟨o1, B1, hB1⟩ := begins_k a its.toArray t
      obtain ⟨o2, B2, hB2⟩ := begins_k b its2.toArray u
      obtain ⟨oa, ga, _⟩ := p1.obj
      obtain ⟨ob, gb, _⟩ := p2.obj
      have la : a < s1.heap.objs.size := Heap.lt_size ga
      have lb : b < s1.heap.objs.size := Heap.lt_size gb
      refine zip_begins2 B1 B2 p1 p2 fun h' hz hTI hTO h1 h2 hsz hk => wpAny_pyIter_zip hz ?_
      have I2 : Inv X pins σ H1 { s1 with heap := h' } := I1.kept (t' := s1.toks) hk
      refine ⟨s1.heap.objs.size + 4, [s1.heap.objs.size + 4, s1.heap.objs.size + 2, s1.heap.objs.size + 3, s1.heap.objs.size, s1.heap.objs.size + 1], _, _, H1, rfl, I2,
        turn_zipK (a := a) (b := b) t u (off_ne (by decide)) (off_ne (by decide)) (off_ne (by decide)) (off_ne0 (by decide)) (off_ne (by decide)) (Ne.symm (off_ne0 (by decide))),
        ⟨hz, hTI, ⟨_, _, hTO⟩, hB1 _ _ h1, hB2 _ _ h2, Nat.ne_of_gt (Nat.lt_of_lt_of_le la (Nat.le_add_right _ _)), Nat.ne_of_gt (Nat.lt_of_lt_of_le lb (Nat.le_add_right _ _))⟩, fun c hc => ?_, q⟩
      have hle : s1.heap.objs.size ≤ c := by
        simp only [List.mem_cons, List.not_mem_nil, or_false] at hc
        rcases hc with z | z | z | z | z <;> rw [z]
        · exact Nat.le_add_right _ _
        · exact Nat.le_add_right _ _
        · exact Nat.le_add_right _ _
        · exact Nat.le_refl _
        · exact Nat.le_add_right _ _
      exact I1.fpOk hle (I1.hok.fresh hle)
end
end G

end
section
set_option Elab.async false
set_option linter.all false
set_option maxRecDepth 100000
/-! G4: enumerate, zip as data; comprehensions. -/
namespace G
open RM (bnd)
open PySem PySem.Spec PyProof.Rows L2

def enumL (ds : List D) : List D := ds.mapIdx fun i d => .tuple [.int (i : Nat), d]
def zipL (ds es : List D) : List D := List.zipWith (fun d e => .tuple [d, e]) ds es
def enumD : List D → Option (List D)
  | [x] => (seqD x).map enumL
  | _ => none
def zipD : List D → Option (List D)
  | [x, y] => (seqD x).bind fun ds => (seqD y).map fun es => zipL ds es
  | _ => none
def StK (t : Bool) (a : Addr) (ds : List D) (H F : Hp) : Prop := ∃ vs, (t = false → H a = some (.lst vs)) ∧ (t = true → H a = some (.tup vs)) ∧ RpAll F vs ds
section
variable {X : Cx} {c : Ct} {R : Type} [RM R] {Γ : List Sl} {tg e e1 e2 : Expr} {pos p tpos : Pos} {elts : List Expr} {kk : Nat}
theorem StK.sq {K : PySem.W.Frag} {t : Bool} {a : Addr} {ds : List D} {H F : Hp} (h : StK t a ds H F) : ∃ vs, SqK K H a vs t ∧ RpAll F vs ds := by
  obtain ⟨vs, h1, h2, r⟩ := h
  cases t with
  | false => exact ⟨vs, .of (h1 rfl), r⟩
  | true => exact ⟨vs, .of (h2 rfl), r⟩
theorem wk_enum {K : PySem.W.Frag} {a : Addr} {t : Bool} {ds : List D} : Wk (IteK K a t) (StK t a ds) (enumL ds) where
  goes := fun i H F hi h => by
    obtain ⟨vs, h, r⟩ := h.sq (K := K)
    have hl := RpAll.length r
    have hi' : i < ds.length := by simpa [enumL] using hi
    exact ⟨vs, vs[i]'(by omega), h, List.getElem?_eq_getElem _⟩
  stops := fun H F h => by
    obtain ⟨vs, h, r⟩ := h.sq (K := K)
    exact ⟨vs, h, by rw [RpAll.length r]; simp [enumL]⟩
  yields := fun i H F x H' hi h ⟨T, y, e1, e2, e3, y1⟩ => by
    obtain ⟨vs, h, r⟩ := h.sq (K := K)
    obtain ⟨d, h1, h2⟩ := RpAll.getV r (y1 vs h)
    refine .inr ⟨T, _, [.int (i : Nat), d], e1, e2, e3, .cons (.int _) (.cons h2 .nil), ?_⟩
    simp [enumL, h1]
theorem wk_zip {K : PySem.W.Frag} {a a' : Addr} {t u : Bool} {ds es : List D} : Wk (ItzK K a a' t u) (fun H F => StK t a ds H F ∧ StK u a' es H F) (zipL ds es) where
  goes := fun i H F hi ⟨h, h'⟩ => by
    obtain ⟨vs, h, r⟩ := h.sq (K := K)
    obtain ⟨us, h', r'⟩ := h'.sq (K := K)
    have hl := RpAll.length r
    have hl' := RpAll.length r'
    have hi' : i < ds.length ∧ i < es.length := by
      simp only [zipL, List.length_zipWith] at hi
      omega
    exact ⟨vs, us, vs[i]'(by omega), us[i]'(by omega), h, h', List.getElem?_eq_getElem _, List.getElem?_eq_getElem _⟩
  stops := fun H F ⟨h, h'⟩ => by
    obtain ⟨vs, h, r⟩ := h.sq (K := K)
    obtain ⟨us, h', r'⟩ := h'.sq (K := K)
    exact ⟨vs, us, h, h', by rw [RpAll.length r, RpAll.length r']; simp [zipL]⟩
  yields := fun i H F x H' hi ⟨h, h'⟩ ⟨T, y, z, e1, e2, e3, y1, y2⟩ => by
    obtain ⟨vs, h, r⟩ := h.sq (K := K)
    obtain ⟨us, h', r'⟩ := h'.sq (K := K)
    obtain ⟨d, h1, h2⟩ := RpAll.getV r (y1 vs h)
    obtain ⟨d', h1', h2'⟩ := RpAll.getV r' (y2 us h')
    refine .inr ⟨T, _, [d, d'], e1, e2, e3, .cons h2 (.cons h2' .nil), ?_⟩
    simp [zipL, List.getElem?_zipWith, h1, h1']
/-- a value that is walked by its place -/
theorem rp_walks {K : PySem.W.Frag} {F : Hp} {v : V} {d : D} {ds : List D} (r : Rp F v d) (h : seqD d = some ds) : ∃ a vs t, v = .ref a ∧ (t = false → F a = some (.lst vs)) ∧ (t = true → F a = some (.tup vs)) ∧ RpAll F vs ds := by
  cases d <;> cases h
  · obtain ⟨a, vs, rfl, ha, ra⟩ := Rp.lstOf r
    exact ⟨a, vs, false, rfl, fun _ => ha, (fun z => nomatch z), ra⟩
  · obtain ⟨a, vs, rfl, ha, ra⟩ := Rp.tupOf r
    exact ⟨a, vs, true, rfl, (fun z => nomatch z), fun _ => ha, ra⟩
theorem rv_walks {K : PySem.W.Frag} {b : Nat} {σ : L2.St} {H F : Hp} {v : V} {d : D} {ds : List D} (E : Ev K c b σ H F Γ) (r : Rv K σ Γ F v d) (h : seqD d = some ds) : ∃ a t, v = .ref a ∧ StK t a ds H F ∧ ∀ b2 H2 F2, L2.Same F F2 → Ev K c b2 σ H2 F2 Γ → StK t a ds H2 F2 := by
  cases d <;> cases h
  · obtain ⟨a, vs, rfl, ha, ra⟩ := r.items E
    refine ⟨a, false, rfl, ⟨vs, fun _ => ha, (fun z => nomatch z), ra⟩, fun b2 H2 F2 s E2 => ?_⟩
    obtain ⟨ws, h1, h2⟩ := r.stands E s E2
    exact ⟨ws, fun _ => h1, (fun z => nomatch z), h2⟩
  · obtain ⟨a, vs, rfl, ha, ra⟩ := r.itemsT E
    exact ⟨a, true, rfl, ⟨vs, (fun z => nomatch z), fun _ => E.sub _ _ ha, ra⟩, fun b2 H2 F2 s E2 => ⟨vs, (fun z => nomatch z), fun _ => E2.sub _ _ (s _ _ ha), RpAll.mono s ra⟩⟩
theorem gif_enum {w : (List D → R) → R} (hg : Gl X "enumerate") (hm : X.mg "enumerate" = none) (h : GAs X c [e] Γ w) (hs : starEach [e] X.env = [(false, eval e X.env)] := by rfl) :
    GIF X c (.Tuple elts kk tpos) (.Call (.Name "enumerate" p) [e] [] pos) Γ (fun k => w fun ds => bnd (enumD ds) k) := fun P b σ H F Q k E t q => by
  refine (pi_enumK hg hm pa_w hs).w ?_
  refine h P b σ H F _ _ E t fun d v b' H' F' s1 E' r1 t1 => ?_
  obtain ⟨z, hz, t2⟩ := RM.bh t1
  unfold enumD at hz
  split at hz
  · obtain ⟨ds, h1, rfl⟩ := Option.map_eq_some_iff.mp hz
    cases r1 with
    | cons r rr =>
      cases rr
      obtain ⟨a, vs, t, rfl, g1, g2, ra⟩ := rp_walks (K := X.K) r h1
      refine ⟨a, vs, t, rfl, ?_, q _ _ _ b' H' F' s1 E' wk_enum (fun H2 F2 s2 s3 => ⟨vs, fun z => s3 _ _ (s2 _ _ (g1 z)), fun z => s3 _ _ (s2 _ _ (g2 z)), RpAll.mono s2 ra⟩) t2⟩
      cases t with
      | false => exact .of (E'.sub _ _ (g1 rfl))
      | true => exact .of (E'.sub _ _ (g2 rfl))
  · cases hz
theorem gib_enum {w : (List D → R) → R} (hg : Gl X "enumerate") (hm : X.mg "enumerate" = none) (h : GA X c [e] Γ w) (hs : starEach [e] X.env = [(false, eval e X.env)] := by rfl) :
    GIB X c (.Tuple elts kk tpos) (.Call (.Name "enumerate" p) [e] [] pos) Γ (fun k => w fun ds => bnd (enumD ds) k) := fun P b σ H F Q k E t q => by
  refine (pi_enumK hg hm pa_w hs).w ?_
  refine h P b σ H F _ _ E t fun d v b' H' F' s1 E' r1 t1 => ?_
  obtain ⟨z, hz, t2⟩ := RM.bh t1
  unfold enumD at hz
  split at hz
  · obtain ⟨ds, h1, rfl⟩ := Option.map_eq_some_iff.mp hz
    obtain ⟨v, rfl, r⟩ := r1.one
    obtain ⟨a, t, rfl, g, st⟩ := rv_walks E' r h1
    obtain ⟨vs, g1, ra⟩ := g.sq (K := X.K)
    exact ⟨a, vs, t, rfl, g1, q _ _ _ b' H' F' s1 E' wk_enum st t2⟩
  · cases hz
theorem gif_zip {w : (List D → R) → R} (hg : Gl X "zip") (hm : X.mg "zip" = none) (h : GAs X c [e1, e2] Γ w) (hs : starEach [e1, e2] X.env = (false, eval e1 X.env) :: starEach [e2] X.env := by rfl) (hpl : (backTo pos (starEach [e2] X.env)).any (·.1) = false := by rfl) :
    GIF X c (.Tuple elts kk tpos) (.Call (.Name "zip" p) [e1, e2] [] pos) Γ (fun k => w fun ds => bnd (zipD ds) k) := fun P b σ H F Q k E t q => by
  refine (pi_zipK hg hm pa_w hs hpl).w ?_
  refine h P b σ H F _ _ E t fun d v b' H' F' s1 E' r1 t1 => ?_
  obtain ⟨z, hz, t2⟩ := RM.bh t1
  unfold zipD at hz
  split at hz
  · obtain ⟨ds, h1, hz⟩ := Option.bind_eq_some_iff.mp hz
    obtain ⟨es, h2, rfl⟩ := Option.map_eq_some_iff.mp hz
    cases r1 with
    | cons r rr =>
      cases rr with
      | cons r' rr =>
        cases rr
        obtain ⟨a, vs, t, rfl, g1, g2, ra⟩ := rp_walks (K := X.K) r h1
        obtain ⟨a', vs', t', rfl, g1', g2', ra'⟩ := rp_walks (K := X.K) r' h2
        refine ⟨a, a', vs, vs', t, t', rfl, ?_, ?_, q _ _ _ b' H' F' s1 E' wk_zip (fun H2 F2 s2 s3 => ⟨⟨vs, fun z => s3 _ _ (s2 _ _ (g1 z)), fun z => s3 _ _ (s2 _ _ (g2 z)), RpAll.mono s2 ra⟩, ⟨vs', fun z => s3 _ _ (s2 _ _ (g1' z)), fun z => s3 _ _ (s2 _ _ (g2' z)), RpAll.mono s2 ra'⟩⟩) t2⟩
        · cases t with
          | false => exact .of (E'.sub _ _ (g1 rfl))
          | true => exact .of (E'.sub _ _ (g2 rfl))
        · cases t' with
          | false => exact .of (E'.sub _ _ (g1' rfl))
          | true => exact .of (E'.sub _ _ (g2' rfl))
  · cases hz
theorem gib_zip {w : (List D → R) → R} (hg : Gl X "zip") (hm : X.mg "zip" = none) (h : GA X c [e1, e2] Γ w) (hs : starEach [e1, e2] X.env = (false, eval e1 X.env) :: starEach [e2] X.env := by rfl) (hpl : (backTo pos (starEach [e2] X.env)).any (·.1) = false := by rfl) :
    GIB X c (.Tuple elts kk tpos) (.Call (.Name "zip" p) [e1, e2] [] pos) Γ (fun k => w fun ds => bnd (zipD ds) k) := fun P b σ H F Q k E t q => by
  refine (pi_zipK hg hm pa_w hs hpl).w ?_
  refine h P b σ H F _ _ E t fun d v b' H' F' s1 E' r1 t1 => ?_
  obtain ⟨z, hz, t2⟩ := RM.bh t1
  unfold zipD at hz
  split at hz
  · obtain ⟨ds, h1, hz⟩ := Option.bind_eq_some_iff.mp hz
    obtain ⟨es, h2, rfl⟩ := Option.map_eq_some_iff.mp hz
    obtain ⟨v, v', rfl, r, r'⟩ := r1.two
    obtain ⟨a, t, rfl, g, st⟩ := rv_walks E' r h1
    obtain ⟨vs, g1, ra⟩ := g.sq (K := X.K)
    obtain ⟨a', t', rfl, g', st'⟩ := rv_walks E' r' h2
    obtain ⟨vs', g1', ra'⟩ := g'.sq (K := X.K)
    exact ⟨a, a', vs, vs', t, t', rfl, g1, g1', q _ _ _ b' H' F' s1 E' wk_zip (fun b2 H2 F2 s2 E2 => ⟨st b2 H2 F2 s2 E2, st' b2 H2 F2 s2 E2⟩) t2⟩
  · cases hz
end

/-! ### comprehensions -/
/-- the names of the block forgotten -/
def wipeΓ (Γ : List Sl) : List Nat → List Sl
  | [] => Γ
  | v :: vs => (wipeΓ Γ vs).set v .no
theorem wipeΓ_len (Γ : List Sl) : ∀ vs : List Nat, (wipeΓ Γ vs).length = Γ.length
  | [] => rfl
  | v :: vs => by unfold wipeΓ; rw [List.length_set, wipeΓ_len Γ vs]
theorem wipeΓ_get {Γ : List Sl} {i : Nat} {s : Sl} : ∀ {vs : List Nat}, (wipeΓ Γ vs)[i]? = some s → s = .no ∨ (i ∉ vs ∧ Γ[i]? = some s)
  | [], h => .inr ⟨by simp, h⟩
  | v :: vs, h => by
    unfold wipeΓ at h
    by_cases hi : v = i
    · subst hi
      by_cases hl : v < (wipeΓ Γ vs).length
      · rw [List.getElem?_set_self hl] at h
        cases h
        exact .inl rfl
      · rw [List.getElem?_eq_none (by simpa using hl)] at h
        cases h
    · rw [List.getElem?_set_ne hi] at h
      rcases wipeΓ_get h with h | ⟨h1, h2⟩
      · exact .inl h
      · exact .inr ⟨fun z => (List.mem_cons.mp z).elim (fun e => hi e.symm) h1, h2⟩
theorem wipe_get {σ : L2.St} {i : Nat} : ∀ {vs : List Nat}, i ∉ vs → (wipe σ vs)[i]? = σ[i]?
  | [], _ => rfl
  | v :: vs, h => by
    rw [List.mem_cons, not_or] at h
    unfold wipe
    rw [List.getElem?_set_ne (Ne.symm h.1), wipe_get h.2]
def cmpM (g : D → Option (Option D)) : List D → Option (List D)
  | [] => some []
  | x :: xs => (g x).bind fun o => (cmpM g xs).bind fun ys => some (match o with | some y => y :: ys | none => ys)
/-- .. with draws -/
def cmpC {R : Type} (f : D → (Option D → R) → R) : List D → (List D → R) → R
  | [], k => k []
  | x :: xs, k => f x fun o => cmpC f xs fun ys => k (match o with | some y => y :: ys | none => ys)
section
variable {X : Cx} {c : Ct} {Γ : List Sl} {pos : Pos}
/-- back in the def: what was known of its names is known still -/
theorem Ev.back {K : PySem.W.Frag} {b b' : Nat} {σ σ2 : L2.St} {H F H' F' : Hp} {Γ2 : List Sl} (E : Ev K c b σ H F Γ) (s : L2.Same F F') (E2 : Ev K c b' σ2 H' F' Γ2) (ho : ∀ (i : Nat) ds, Γ[i]? = some (.ow ds) → Γ2[i]? = some (.ow ds) ∧ σ2[i]? = σ[i]?) : Ev K c b' σ H' F' Γ := by
  refine ⟨E2.sub, E.len, fun i t hs => ?_, E.apart, E2.stt, E2.h0, E2.f0, E2.nw⟩
  have q := E.sl i t hs
  cases t with
  | no => trivial
  | va d => exact let ⟨v, z, r⟩ := q; ⟨v, z, Rp.mono s r⟩
  | ow ds =>
    obtain ⟨h1, h2⟩ := ho i ds hs
    have q2 := E2.sl i _ h1
    rw [h2] at q2
    exact q2
  | st => exact q
  | fn f => exact q
/-- the block's view of the names -/
theorem Ev.wiped {K : PySem.W.Frag} {b : Nat} {σ : L2.St} {H F : Hp} {vs : List Nat} (E : Ev K c b σ H F Γ) : Ev K c b (wipe σ vs) H F (wipeΓ Γ vs) := by
  refine ⟨E.sub, by rw [wipeΓ_len, wipe_length]; exact E.len, fun i s hs => ?_, fun i j a ds es h1 h2 h3 h4 => ?_, E.stt, E.h0, E.f0, E.nw⟩
  · rcases wipeΓ_get hs with rfl | ⟨n, h⟩
    · trivial
    · rw [wipe_get n]
      exact E.sl i s h
  · rcases wipeΓ_get h1 with z | ⟨n1, g1⟩
    · cases z
    · rcases wipeΓ_get h2 with z | ⟨n2, g2⟩
      · cases z
      · rw [wipe_get n1] at h3
        rw [wipe_get n2] at h4
        exact E.apart i j a ds es g1 g2 h3 h4
theorem wipeΓ_keep {Γ : List Sl} {i : Nat} : ∀ {vs : List Nat}, i ∉ vs → (wipeΓ Γ vs)[i]? = Γ[i]?
  | [], _ => rfl
  | v :: vs, h => by
    rw [List.mem_cons, not_or] at h
    unfold wipeΓ
    rw [List.getElem?_set_ne (Ne.symm h.1), wipeΓ_keep h.2]
/-- an item of what is walked is a value that stands -/
theorem Wk.item {J : It} {St : Hp → Hp → Prop} {ds : List D} {K : PySem.W.Frag} {b : Nat} {σ : L2.St} {H F H' : Hp} {i : Nat} {x : V} {d : D} (W : Wk J St ds) (E : Ev K c b σ H F Γ) (hd : ds[i]? = some d) (hs : St H F) (y : J.yld i H x H') :
    ∃ F', Xt c H F H' F' ∧ Ev K c b σ H' F' Γ ∧ Rp F' x d := by
  have hi : i < ds.length := (List.getElem?_eq_some_iff.mp hd).1
  rcases W.yields i H F x H' hi hs y with ⟨rfl, d', e, r⟩ | ⟨T, xs, es, rfl, hT, rfl, ra, e⟩
  · rw [hd] at e
    cases e
    exact ⟨F, Xt.refl, E, r⟩
  · rw [hd] at e
    cases e
    have fT := E.sub.free hT
    have s := Xt.upd (c := c) (o := .tup xs) hT fT
    exact ⟨_, s, E.alloc hT, .tup upd_same (RpAll.mono s.f ra)⟩
/-- the list that a comprehension fills: nobody knows it -/
structure Fill (K : PySem.W.Frag) (c : Ct) (σ : L2.St) (Γ : List Sl) (D0 : Addr) (H F : Hp) (ds : List D) : Prop where
  ex : ∃ vs, H D0 = some (.lst vs) ∧ RpAll F vs ds
  fr : F D0 = none
  h0 : c.H0 D0 = none
  ss : c.ss ≠ some D0
  ow : ∀ (i : Nat) es, Γ[i]? = some (.ow es) → σ[i]? ≠ some (some (.ref D0))
end
end G

end
section
set_option Elab.async false
set_option linter.all false
set_option maxRecDepth 100000
/-! G5: comprehensions. -/
namespace G
open RM (bnd)
open PySem PySem.Spec PyProof.Rows L2
section
variable {X : Cx} {c : Ct} {R : Type} [RM R] {Γ : List Sl} {tg iter elt e : Expr} {ifs : List Expr} {pos : Pos} {scope : Scope} {own : List (Str × Nat)}
def GTs (X : Cx) (c : Ct) {R : Type} [RM R] (ifs : List Expr) (Γ : List Sl) (w : (Bool → R) → R) : Prop :=
  ∀ (P : RM.Pt R) (b : Nat) (σ : L2.St) (H F : Hp) (Q : Bool → Hp → Prop) (k : Bool → R), Ev X.K c b σ H F Γ → RM.tr P b (w k) →
    (∀ t b' H' F', Xt c H F H' F' → Ev X.K c b' σ H' F' Γ → RM.tr P b' (k t) → Q t H') → wTs X ifs σ H Q
theorem gts_nil : GTs X c [] Γ (fun (k : Bool → R) => k true) := fun P b σ H F Q k E t q => pts_nil.w (q true b H F Xt.refl E t)
theorem gts_one {w : (Bool → R) → R} (h : GT X c e Γ w) : GTs X c [e] Γ w := fun P b σ H F Q k E t q => (pts_one pt_w).w (h P b σ H F Q k E t q)

abbrev Bk (X : Cx) (scope : Scope) (s : Shared) (H : Hp) (C : Addr) (cl : List (Str × Addr)) (fp : List Addr) : Cx := X.blk s H scope (compEnvC scope cl C X.env) fp
def bE (X : Cx) (scope : Scope) (e : Expr) : TE := fun σ H Q => ∀ s H0 C cl fp, wE (Bk X scope s H0 C cl fp) e σ H Q
def bTs (X : Cx) (scope : Scope) (e : List Expr) : TT := fun σ H Q => ∀ s H0 C cl fp, wTs (Bk X scope s H0 C cl fp) e σ H Q
def bG (X : Cx) (scope : Scope) (e : Expr) : TG := fun v σ H Q => ∀ s H0 C cl fp, wG (Bk X scope s H0 C cl fp) e v σ H Q

/-- the core: I tells, turn by turn, what the new list holds -/
theorem lc_run {σ : L2.St} {b : Nat} {H F : Hp} {J : It} {S : Hp → Hp → Prop} {ds : List D} {D0 : Addr} {Q : Hp → Prop} (I : Nat → List D → Nat → Prop) (vs : List Nat)
    (E : Ev X.K c b σ H F Γ) (W : Wk J S ds) (hst : ∀ b2 H2 F2, L2.Same F F2 → Ev X.K c b2 σ H2 F2 Γ → S H2 F2) (hD : H D0 = none) (hw : ∀ (i : Nat) es, Γ[i]? = some (.ow es) → i ∉ vs) (hsz : ds.length ≤ 16777216) (i0 : I 0 [] b)
    {g : TG} {tt : TT} {te : TE}
    (step : ∀ i d acc b H F x, ds[i]? = some d → I i acc b → Ev X.K c b (wipe σ vs) H F (wipeΓ Γ vs) → Rp F x d → ∀ Q : Option V → Hp → Prop,
      (∀ b' H' F' σ2 Γ2 , Xt c H F H' F' → wipe σ2 vs = wipe σ vs → (∀ j : Nat, j ∉ vs → Γ2[j]? = Γ[j]?) → Ev X.K c b' σ2 H' F' Γ2 → I (i + 1) acc b' → Q none H') →
      (∀ y z b' H' F' σ2 Γ2, Xt c H F H' F' → wipe σ2 vs = wipe σ vs → (∀ j : Nat, j ∉ vs → Γ2[j]? = Γ[j]?) → Ev X.K c b' σ2 H' F' Γ2 → Rp F' y z → I (i + 1) (acc ++ [z]) b' → Q (some y) H') →
      g x (wipe σ vs) H fun σ2 H2 => wipe σ2 vs = wipe σ vs ∧ tt σ2 H2 fun t H3 => if t = true then te σ2 H3 fun y H4 => Q (some y) H4 else Q none H3)
    (fin : ∀ acc us b' H' F', Xt c H F H' F' → Ev X.K c b' σ H' F' Γ → H' D0 = some (.lst us) → F' D0 = none → c.H0 D0 = none → c.ss ≠ some D0 → (∀ (i : Nat) es, Γ[i]? = some (.ow es) → σ[i]? ≠ some (some (.ref D0))) → RpAll F' us acc → I ds.length acc b' → Q H') :
    ∃ W : Nat → Nat → Hp → Prop, (∃ m, W 0 m (upd H D0 (.lst []))) ∧ ∀ i m H, W i m H →
      (J.stop i H ∧ Q H) ∨ (J.go i H ∧ ∃ Nx : Hp → Prop, (∀ H', Nx H' → ∃ m', m' < m ∧ W (i + 1) m' H') ∧ ∀ x H', J.yld i H x H' → g x (wipe σ vs) H' fun σ2 H2 => wipe σ2 vs = wipe σ vs ∧ tt σ2 H2 fun b H3 =>
        if b = true then te σ2 H3 fun y H4 => ∃ acc, H4 D0 = some (.lst acc) ∧ acc.length < sizeLine ∧ Nx (upd H4 D0 (.lst (acc ++ [y]))) else Nx H3) := by
  have fD : F D0 = none := E.sub.free hD
  have h0D : c.H0 D0 = none := E.h0none hD
  have ssD : c.ss ≠ some D0 := E.notSt hD
  have owD : ∀ (i : Nat) es, Γ[i]? = some (.ow es) → σ[i]? ≠ some (some (.ref D0)) := fun i es g z => by
    obtain ⟨a, us, z', ha, _⟩ := E.sl i _ g
    rw [z'] at z
    cases z
    rw [hD] at ha; cases ha
  -- what holds at turn i
  let Pv : Nat → Hp → Prop := fun i H2 => ∃ b2 F2 acc us, Xt c H F H2 F2 ∧ Ev X.K c b2 σ H2 F2 Γ ∧ H2 D0 = some (.lst us) ∧ F2 D0 = none ∧ RpAll F2 us acc ∧ acc.length ≤ i ∧ I i acc b2
  have back : ∀ {b' H' F' σ2 Γ2 Ha Fa}, Xt c H F Ha Fa → Xt c Ha Fa H' F' → wipe σ2 vs = wipe σ vs → (∀ j : Nat, j ∉ vs → Γ2[j]? = Γ[j]?) → Ev X.K c b' σ2 H' F' Γ2 → Ev X.K c b' σ H' F' Γ := fun {b' H' F' σ2 Γ2 Ha Fa} x1 x2 hw2 hg2 E2 =>
    E.back (x1.trans x2).f E2 fun i es he => by
      have n := hw i es he
      refine ⟨(hg2 i n).trans he, ?_⟩
      rw [← wipe_get (σ := σ2) n, hw2, wipe_get n]
  refine ⟨fun i m H2 => m = ds.length - i ∧ i ≤ ds.length ∧ Pv i H2, ⟨_, rfl, Nat.zero_le _, b, F, [], [], Xt.new hD, E.alloc1 hD, upd_same, fD, .nil, Nat.le_refl _, i0⟩, ?_⟩
  rintro i m H2 ⟨rfl, hi, b2, F2, acc, us, x2, E2, hu, fu, ru, hl, hI⟩
  have st := hst b2 H2 F2 x2.f E2
  by_cases hlt : i < ds.length
  · refine .inr ⟨W.goes i H2 F2 hlt st, Pv (i + 1), fun H' p => ⟨ds.length - (i + 1), by omega, rfl, hlt, p⟩, fun x H3 y => ?_⟩
    obtain ⟨F3, x3, E3, rx⟩ := W.item E2 (List.getElem?_eq_getElem hlt) st y
    refine step i ds[i] acc b2 H3 F3 x (List.getElem?_eq_getElem hlt) hI E3.wiped rx (fun o H4 => match o with | none => Pv (i + 1) H4 | some y => ∃ us, H4 D0 = some (.lst us) ∧ us.length < sizeLine ∧ Pv (i + 1) (upd H4 D0 (.lst (us ++ [y])))) ?_ ?_
    · intro b' H4 F4 σ2 Γ2 x4 w2 g2 E4 i4
      have E5 := back (x2.trans x3) x4 w2 g2 E4
      have xx := x3.trans x4
      refine ⟨b', F4, acc, us, x2.trans xx, E5, xx.h _ _ hu ssD, ?_, RpAll.mono xx.f ru, by omega, i4⟩
      cases q : F4 D0 with
      | none => rfl
      | some o => exact absurd (xx.n D0 fu (by rw [q]; exact fun z => nomatch z)) (by rw [hu]; exact fun z => nomatch z)
    · intro y z b' H4 F4 σ2 Γ2 x4 w2 g2 E4 rz i4
      have E5 := back (x2.trans x3) x4 w2 g2 E4
      have xx := x3.trans x4
      have hu4 := xx.h _ _ hu ssD
      have f4 : F4 D0 = none := by
        cases q : F4 D0 with
        | none => rfl
        | some o => exact absurd (xx.n D0 fu (by rw [q]; exact fun z => nomatch z)) (by rw [hu]; exact fun z => nomatch z)
      refine ⟨us, hu4, by rw [sizeLine_eq, RpAll.length ru]; omega, b', F4, acc ++ [z], us ++ [y], ?_, ?_, upd_same, f4, (RpAll.mono xx.f ru).append (.cons rz .nil), by rw [List.length_append, List.length_singleton]; omega, i4⟩
      · have x5 := x2.trans xx
        refine ⟨x5.f, fun a o ha hs => ?_, fun a ha => x5.k a (free_upd ha), x5.n⟩
        rw [upd_ne (ne_of_none ha hD)]
        exact x5.h a o ha hs
      · -- the list at D0 grows: nobody knows it
        refine ⟨fun a o ha => ?_, E5.len, fun j s hs => ?_, E5.apart, fun a ha => ?_, fun a o ha hs => ?_, E5.f0, E5.nw⟩
        · rw [upd_ne (fun e => by rw [e, f4] at ha; cases ha)]
          exact E5.sub a o ha
        · have q := E5.sl j s hs
          cases s with
          | no => trivial
          | va d => exact q
          | ow es =>
            obtain ⟨a, ws, z1, z2, z3⟩ := q
            refine ⟨a, ws, z1, ?_, z3⟩
            rw [upd_ne (fun e => owD j es hs (by rw [z1, e]))]
            exact z2
          | st => exact q
          | fn f => exact q
        · obtain ⟨fa, z1, cells, i1, cc, r, s, t, n, q1, q2, q3⟩ := E5.stt a ha
          refine ⟨fa, z1, cells, i1, cc, r, s, t, n, ?_, q2, q3⟩
          rw [upd_ne (fun e => ssD (by rw [← e]; exact ha))]
          exact q1
        · rw [upd_ne (fun e => by rw [e, h0D] at ha; cases ha)]
          exact E5.h0 a o ha hs
  · have e : i = ds.length := by omega
    subst e
    exact .inl ⟨W.stops H2 F2 st, fin acc us b2 H2 F2 x2 E2 hu fu h0D ssD owD ru hI⟩
def cmpL (g : D → Option (Option D)) (ds : List D) : Option (List D) := if ds.length ≤ 16777216 then cmpM g ds else none
theorem cmpM_step {g : D → Option (Option D)} : ∀ (ds : List D) (ys : List D), cmpM g ds = some ys → ∀ (i : Nat) (d : D), ds[i]? = some d → ∃ o, g d = some o
  | [], _, _, _, _, e => by simp at e
  | x :: xs, ys, h, 0, d, e => by
    obtain ⟨o, h1, h2⟩ := Option.bind_eq_some_iff.mp (show (g x).bind _ = some ys from h)
    simp only [List.getElem?_cons_zero, Option.some.injEq] at e
    subst e
    exact ⟨o, h1⟩
  | x :: xs, ys, h, i + 1, d, e => by
    obtain ⟨o, h1, h2⟩ := Option.bind_eq_some_iff.mp (show (g x).bind _ = some ys from h)
    obtain ⟨zs, h3, h4⟩ := Option.bind_eq_some_iff.mp h2
    simp only [List.getElem?_cons_succ] at e
    exact cmpM_step xs zs h3 i d e
def oadd (o : Option D) (ys : List D) : List D := match o with | some y => y :: ys | none => ys
theorem cmpM_snoc {g : D → Option (Option D)} (d : D) (o : Option D) (hg : g d = some o) : ∀ (ds ys : List D), cmpM g ds = some ys → cmpM g (ds ++ [d]) = some (ys ++ oadd o [])
  | [], ys, h => by
    cases h
    show (g d).bind _ = _
    rw [hg]
    cases o <;> rfl
  | x :: xs, ys, h => by
    obtain ⟨p, h1, h2⟩ := Option.bind_eq_some_iff.mp (show (g x).bind _ = some ys from h)
    obtain ⟨zs, h3, h4⟩ := Option.bind_eq_some_iff.mp h2
    show (g x).bind _ = _
    rw [h1]
    show (cmpM g (xs ++ [d])).bind _ = _
    rw [cmpM_snoc d o hg xs zs h3]
    cases h4
    cases p <;> rfl
theorem cmpM_take {g : D → Option (Option D)} {ds ys : List D} (h : cmpM g ds = some ys) : ∀ i, i ≤ ds.length → ∃ zs, cmpM g (ds.take i) = some zs
  | 0, _ => ⟨[], rfl⟩
  | i + 1, hi => by
    obtain ⟨zs, hz⟩ := cmpM_take h i (by omega)
    obtain ⟨o, ho⟩ := cmpM_step ds ys h i ds[i] (List.getElem?_eq_getElem (by omega))
    exact ⟨_, by rw [List.take_add_one, List.getElem?_eq_getElem (by omega)]; exact cmpM_snoc _ o ho _ zs hz⟩
/-- a comprehension's turns -/
def GLc (X : Cx) (c : Ct) {R : Type} [RM R] (scope : Scope) (own : List (Str × Nat)) (elt tg iter : Expr) (ifs : List Expr) (Γ : List Sl) (w : (List D → R) → R) : Prop :=
  ∀ (P : RM.Pt R) (b : Nat) (σ : L2.St) (H F : Hp) (Q : VK) (k : List D → R), σ.length = X.N.length → Ev X.K c b σ H F Γ → RM.tr P b (w k) →
    (∀ ds a vs b' H' F', Xt c H F H' F' → Ev X.K c b' σ H' F' Γ → H a = none → H' a = some (.lst vs) → F' a = none → c.H0 a = none → c.ss ≠ some a → (∀ (i : Nat) es, Γ[i]? = some (.ow es) → σ[i]? ≠ some (some (.ref a))) → RpAll F' vs ds → RM.tr P b' (k ds) → Q (.ref a) H') →
    tLc (wI X tg iter) (bG X scope tg) (bTs X scope ifs) (bE X scope elt) (own.map (·.2)) σ H Q
theorem gn_lcG {w : (List D → R) → R} (hc : X.calm = true) (hN : X.N.Nodup) (ok : BlkOk X.N X.env.scope scope own) (h : GLc X c scope own elt tg iter ifs Γ w) (hs : ∀ x, foldedSetIterable iter X.env x = pure x := by intro _; rfl) :
    GN X c (.ListComp elt [⟨tg, iter, ifs, 0⟩] scope pos) Γ w := fun P b σ H F Q k E t q pins s0 I0 =>
  (pe_lc (g := bG X scope tg) (tt := bTs X scope ifs) (te := bE X scope elt) hc hN pi_w ok (fun s H C cl fp => ⟨fun pins s' σ H' v u Q I r h => h s H C cl fp pins s' u I r⟩) (fun s H C cl fp => ⟨fun pins s' σ H' Q I h => h s H C cl fp pins s' I⟩) (fun s H C cl fp => ⟨fun pins s' σ H' Q I h => h s H C cl fp pins s' I⟩) hs).run pins s0 σ H Q I0 (h P b σ H F Q k I0.len E t q)
section
variable {T : Type} {δ : D → Option T} {υ : T → List Sl → List Sl} {ks : List Nat}
/-- a turn's step, from the parts' readings -/
theorem lc_step {R' : Type} [RM R'] {vs : List Nat} {wt : T → (Bool → R') → R'} {we : T → (D → R') → R'} (hk : ∀ k ∈ ks, k ∈ vs)
    (hg : ∀ s H C cl fp, GG (Bk X scope s H C cl fp) c tg δ υ ks) (ht : ∀ s H C cl fp (t : T), GTs (Bk X scope s H C cl fp) c ifs (υ t (wipeΓ Γ vs)) (wt t)) (he : ∀ s H C cl fp (t : T), GC (Bk X scope s H C cl fp) c elt (υ t (wipeΓ Γ vs)) (we t))
    {σ : L2.St} (hl : σ.length = X.N.length) {b : Nat} {H F : Hp} {x : V} {d : D} {t : T} (E : Ev X.K c b (wipe σ vs) H F (wipeΓ Γ vs)) (r : Rp F x d) (hd : δ d = some t) (P : RM.Pt R') (kk : Option D → R') (htr : RM.tr P b (wt t fun z => if z = true then we t fun y => kk (some y) else kk none)) (Q : Option V → Hp → Prop)
    (q0 : ∀ b' H' F' σ2 Γ2 , Xt c H F H' F' → wipe σ2 vs = wipe σ vs → (∀ j : Nat, j ∉ vs → Γ2[j]? = Γ[j]?) → Ev X.K c b' σ2 H' F' Γ2 → RM.tr P b' (kk none) → Q none H')
    (q1 : ∀ y z b' H' F' σ2 Γ2, Xt c H F H' F' → wipe σ2 vs = wipe σ vs → (∀ j : Nat, j ∉ vs → Γ2[j]? = Γ[j]?) → Ev X.K c b' σ2 H' F' Γ2 → Rp F' y z → RM.tr P b' (kk (some z)) → Q (some y) H') :
    bG X scope tg x (wipe σ vs) H fun σ2 H2 => wipe σ2 vs = wipe σ vs ∧ bTs X scope ifs σ2 H2 fun t H3 => if t = true then bE X scope elt σ2 H3 fun y H4 => Q (some y) H4 else Q none H3 := by
  intro s H0 C cl fp
  refine hg s H0 C cl fp b (wipe σ vs) H F (wipeΓ Γ vs) x d t _ E (by rw [wipe_length]; exact hl) r hd fun σ2 hl2 w2 g2 E2 => ⟨?_, ?_⟩
  · rw [w2 vs hk]
    have key : ∀ (ws : List Nat) (τ : L2.St), (∀ w ∈ ws, w ∈ vs) → wipe (wipe τ ws) vs = wipe τ vs := by
      intro ws
      induction ws with
      | nil => intro τ _; rfl
      | cons w ws ih =>
        intro τ h
        show wipe ((wipe τ ws).set w none) vs = _
        rw [wipe_set (h w List.mem_cons_self)]
        exact ih τ fun z hz => h z (List.mem_cons_of_mem _ hz)
    exact key vs σ fun _ h => h
  · intro s' H0' C' cl' fp'
    refine ht s' H0' C' cl' fp' t P b σ2 H F _ _ E2 htr fun z b3 H3 F3 x3 E3 t3 => ?_
    have hΓ : ∀ j : Nat, j ∉ vs → (υ t (wipeΓ Γ vs))[j]? = Γ[j]? := fun j hj => (g2 j fun z => hj (hk j z)).trans (wipeΓ_keep hj)
    have hw2 : wipe σ2 vs = wipe σ vs := by
      rw [w2 vs hk]
      have key : ∀ (ws : List Nat) (τ : L2.St), (∀ w ∈ ws, w ∈ vs) → wipe (wipe τ ws) vs = wipe τ vs := by
        intro ws
        induction ws with
        | nil => intro τ _; rfl
        | cons w ws ih =>
          intro τ h
          show wipe ((wipe τ ws).set w none) vs = _
          rw [wipe_set (h w List.mem_cons_self)]
          exact ih τ fun z hz => h z (List.mem_cons_of_mem _ hz)
      exact key vs σ fun _ h => h
    cases z with
    | true =>
      intro s4 H04 C4 cl4 fp4
      exact he s4 H04 C4 cl4 fp4 t P b3 σ2 H3 F3 _ _ E3 t3 fun dz vz b4 H4 F4 x4 E4 r4 t4 => q1 vz dz b4 H4 F4 σ2 _ (x3.trans x4) hw2 hΓ E4 r4 t4
    | false => exact q0 b3 H3 F3 σ2 _ x3 hw2 hΓ E3 t3
/-- [elt for tg in iter if ..]: a new list; nothing is drawn in it -/
theorem glc {wi : (List D → R) → R} {wt : T → (Bool → Option (Option D)) → Option (Option D)} {we : T → (D → Option (Option D)) → Option (Option D)} (hw : ∀ (i : Nat) es, Γ[i]? = some (.ow es) → i ∉ own.map (·.2))
    (hi : GIB X c tg iter Γ wi) (hk : ∀ k ∈ ks, k ∈ own.map (·.2)) (hg : ∀ s H C cl fp, GG (Bk X scope s H C cl fp) c tg δ υ ks)
    (ht : ∀ s H C cl fp (t : T), GTs (Bk X scope s H C cl fp) c ifs (υ t (wipeΓ Γ (own.map (·.2)))) (wt t)) (he : ∀ s H C cl fp (t : T), GC (Bk X scope s H C cl fp) c elt (υ t (wipeΓ Γ (own.map (·.2)))) (we t)) :
    GLc X c scope own elt tg iter ifs Γ (fun k => wi fun ds => bnd (cmpL (fun x => (δ x).bind fun t => wt t fun z => if z = true then we t fun y => some (some y) else some none) ds) k) := fun P b σ H F Q k hl E t q => by
  refine hi P b σ H F _ _ E t fun ds J S b' H' F' x1 E' W hst t1 D0 hD => ?_
  obtain ⟨ys, hys, t2⟩ := RM.bh t1
  unfold cmpL at hys
  split at hys
  · rename_i hsz
    refine lc_run (fun i acc b2 => b2 = b' ∧ cmpM (fun x => (δ x).bind fun t => wt t fun z => if z = true then we t fun y => some (some y) else some none) (ds.take i) = some acc) (own.map (·.2)) E' W hst hD hw hsz ⟨rfl, rfl⟩ ?_ ?_
    · rintro i d acc b2 H2 F2 x hd ⟨rfl, hI⟩ E2 rx Q2 q0 q1
      obtain ⟨o, ho⟩ := cmpM_step ds ys hys i d hd
      obtain ⟨tt, hδ, hgo⟩ := Option.bind_eq_some_iff.mp (show (δ d).bind _ = some o from ho)
      have htake : ∀ o', o' = o → cmpM (fun x => (δ x).bind fun t => wt t fun z => if z = true then we t fun y => some (some y) else some none) (ds.take (i + 1)) = some (acc ++ oadd o' []) := fun o' e => by
        rw [e, List.take_add_one, hd]
        exact cmpM_snoc d o ho _ acc hI
      refine lc_step (R' := Option (Option D)) hk hg ht he hl E2 rx hδ (fun a b'' => a = o ∧ b'' = b2) (fun o => some o) ⟨o, hgo, rfl, rfl⟩ Q2 ?_ ?_
      · rintro b3 H3 F3 σ2 Γ2 x3 w3 g3 E3 ⟨a, ea, eo, eb⟩
        cases ea
        have := htake none eo
        rw [show acc ++ oadd none [] = acc from List.append_nil acc] at this
        exact q0 b3 H3 F3 σ2 Γ2 x3 w3 g3 E3 ⟨eb, this⟩
      · rintro y z b3 H3 F3 σ2 Γ2 x3 w3 g3 E3 r3 ⟨a, ea, eo, eb⟩
        cases ea
        exact q1 y z b3 H3 F3 σ2 Γ2 x3 w3 g3 E3 r3 ⟨eb, htake (some z) eo⟩
    · rintro acc us b2 H2 F2 x2 E2 h1 h2 h3 h4 h5 h6 ⟨rfl, hI⟩
      rw [List.take_length, hys] at hI
      cases hI
      exact q ys D0 us b2 H2 F2 (x1.trans x2) E2 (x1.k D0 hD) h1 h2 h3 h4 h5 h6 t2
  · cases hys
/-- .. with draws in it -/
theorem glcW {wi : (List D → R) → R} {wt : T → (Bool → R) → R} {we : T → (D → R) → R} (hw : ∀ (i : Nat) es, Γ[i]? = some (.ow es) → i ∉ own.map (·.2))
    (hi : GIB X c tg iter Γ wi) (hk : ∀ k ∈ ks, k ∈ own.map (·.2)) (hg : ∀ s H C cl fp, GG (Bk X scope s H C cl fp) c tg δ υ ks)
    (ht : ∀ s H C cl fp (t : T), GTs (Bk X scope s H C cl fp) c ifs (υ t (wipeΓ Γ (own.map (·.2)))) (wt t)) (he : ∀ s H C cl fp (t : T), GC (Bk X scope s H C cl fp) c elt (υ t (wipeΓ Γ (own.map (·.2)))) (we t)) :
    GLc X c scope own elt tg iter ifs Γ (fun k => wi fun ds => bnd (szD ds) fun _ => cmpC (fun x kk => bnd (δ x) fun t => wt t fun z => if z = true then we t fun y => kk (some y) else kk none) ds k) := fun P b σ H F Q k hl E t q => by
  refine hi P b σ H F _ _ E t fun ds J S b' H' F' x1 E' W hst t1 D0 hD => ?_
  obtain ⟨_, hz, t2⟩ := RM.bh t1
  have hsz : ds.length ≤ 16777216 := by
    unfold szD at hz
    split at hz
    · assumption
    · cases hz
  refine lc_run (fun i acc b2 => RM.tr P b2 (cmpC (fun x kk => bnd (δ x) fun t => wt t fun z => if z = true then we t fun y => kk (some y) else kk none) (ds.drop i) fun ys => k (acc ++ ys))) (own.map (·.2)) E' W hst hD hw hsz t2 ?_ ?_
  · rintro i d acc b2 H2 F2 x hd hI E2 rx Q2 q0 q1
    have e : ds.drop i = d :: ds.drop (i + 1) := by
      obtain ⟨h1, h2⟩ := List.getElem?_eq_some_iff.mp hd
      rw [← h2]
      exact List.drop_eq_getElem_cons h1
    rw [e] at hI
    obtain ⟨tt, hδ, hgo⟩ := RM.bh (show RM.tr P b2 (bnd (δ d) _) from hI)
    refine lc_step (R' := R) hk hg ht he hl E2 rx hδ P (fun o => cmpC (fun x kk => bnd (δ x) fun t => wt t fun z => if z = true then we t fun y => kk (some y) else kk none) (ds.drop (i + 1)) fun ys => k (acc ++ oadd o ys)) hgo Q2 ?_ ?_
    · rintro b3 H3 F3 σ2 Γ2 x3 w3 g3 E3 t3
      exact q0 b3 H3 F3 σ2 Γ2 x3 w3 g3 E3 t3
    · rintro y z b3 H3 F3 σ2 Γ2 x3 w3 g3 E3 r3 t3
      refine q1 y z b3 H3 F3 σ2 Γ2 x3 w3 g3 E3 r3 ?_
      have e2 : ∀ ys : List D, acc ++ oadd (some z) ys = acc ++ [z] ++ ys := fun ys => by
        rw [List.append_assoc]
        rfl
      simp only [e2] at t3
      exact t3
  · rintro acc us b2 H2 F2 x2 E2 h1 h2 h3 h4 h5 h6 hI
    rw [List.drop_length] at hI
    have hI : RM.tr P b2 (k (acc ++ [])) := hI
    rw [List.append_nil] at hI
    exact q acc D0 us b2 H2 F2 (x1.trans x2) E2 (x1.k D0 hD) h1 h2 h3 h4 h5 h6 hI
end
end
end G

end
section
set_option Elab.async false
set_option linter.all false
set_option maxRecDepth 100000
/-! G6: statements. -/
namespace G
open RM (bnd)
open PySem PySem.Spec PyProof.Rows L2

/-- more stands than did; nothing of ours is touched -/
theorem Ev.more {K : PySem.W.Frag} {c : Ct} {b : Nat} {σ : L2.St} {H F H' : Hp} {Γ : List Sl} (E : Ev K c b σ H F Γ) (s : L2.Same H H') : Ev K c b σ H' F Γ := by
  refine ⟨E.sub.trans s, E.len, fun i t hs => ?_, E.apart, fun a ha => ?_, fun a o ha hs => s _ _ (E.h0 a o ha hs), E.f0, E.nw⟩
  · have q := E.sl i t hs
    cases t with
    | no => trivial
    | va d => exact q
    | ow ds => exact let ⟨a, vs, z, ha, r⟩ := q; ⟨a, vs, z, s _ _ ha, r⟩
    | st => exact q
    | fn f => exact q
  · obtain ⟨fa, z1, cells, i, cc, r, s', t, n, q1, q2, q3⟩ := E.stt a ha
    exact ⟨fa, z1, cells, i, cc, r, s', t, n, s _ _ q1, q2, q3⟩
/-- an owned list is changed -/
theorem Ev.wr {K : PySem.W.Frag} {c : Ct} {b : Nat} {σ : L2.St} {H F : Hp} {Γ : List Sl} {i : Nat} {ds es : List D} {a : Addr} {us : List V} (E : Ev K c b σ H F Γ) (g : Γ[i]? = some (.ow ds)) (hs : σ[i]? = some (some (.ref a))) (r : RpAll F us es) : Ev K c b σ (upd H a (.lst us)) F (Γ.set i (.ow es)) := by
  obtain ⟨a', vs, z, ha, fa, h0, ss, _⟩ := E.sl i _ g
  rw [hs] at z
  cases z
  have hi : i < Γ.length := (List.getElem?_eq_some_iff.mp g).1
  refine ⟨fun x o e => ?_, by rw [List.length_set]; exact E.len, fun j t ht => ?_, fun j k x d1 d2 h1 h2 h3 h4 => ?_, fun x hx => ?_, fun x o e n => ?_, E.f0, E.nw⟩
  · rw [upd_ne (fun z => by rw [z, fa] at e; cases e)]
    exact E.sub x o e
  · by_cases hj : i = j
    · subst hj
      rw [List.getElem?_set_self hi] at ht
      cases ht
      exact ⟨a, us, hs, upd_same, fa, h0, ss, r⟩
    · rw [List.getElem?_set_ne hj] at ht
      have q := E.sl j t ht
      cases t with
      | no => trivial
      | va d => exact q
      | ow d1 =>
        obtain ⟨x, ws, z1, z2, z3⟩ := q
        refine ⟨x, ws, z1, ?_, z3⟩
        rw [upd_ne (fun e => hj (E.apart i j a ds d1 g ht hs (by rw [z1, e])))]
        exact z2
      | st => exact q
      | fn f => exact q
  · have old : ∀ {j : Nat} {d1 : List D}, (Γ.set i (.ow es))[j]? = some (.ow d1) → ∃ d2, Γ[j]? = some (.ow d2) := fun {j d1} h => by
      by_cases hj : i = j
      · subst hj; exact ⟨ds, g⟩
      · rw [List.getElem?_set_ne hj] at h
        exact ⟨d1, h⟩
    obtain ⟨e1, h1⟩ := old h1
    obtain ⟨e2, h2⟩ := old h2
    exact E.apart j k x e1 e2 h1 h2 h3 h4
  · obtain ⟨f0, z1, cells, i', cc, r', s', t, n, q1, q2, q3⟩ := E.stt x hx
    exact ⟨f0, z1, cells, i', cc, r', s', t, n, by rw [upd_ne (fun e => ss (by rw [← e]; exact hx))]; exact q1, q2, q3⟩
  · rw [upd_ne (fun z => by rw [z, h0] at e; cases e)]
    exact E.h0 x o e n
/-- the view narrowed: forgotten, or an owned list frozen -/
inductive Lq : Sl → Sl → Prop
  | no (s : Sl) : Lq s .no
  | rf (s : Sl) : Lq s s
  | fz (ds : List D) : Lq (.ow ds) (.va (.list ds))
inductive Lel : List Sl → List Sl → Prop
  | nil : Lel [] []
  | cons {s t : Sl} {Γ Δ : List Sl} : Lq s t → Lel Γ Δ → Lel (s :: Γ) (t :: Δ)
theorem Lel.rf : ∀ Γ : List Sl, Lel Γ Γ
  | [] => .nil
  | s :: Γ => .cons (.rf s) (Lel.rf Γ)
theorem Lel.length {Γ Δ : List Sl} (h : Lel Γ Δ) : Γ.length = Δ.length := by
  induction h with
  | nil => rfl
  | cons _ _ ih => rw [List.length_cons, List.length_cons, ih]
theorem Lel.get {Γ Δ : List Sl} (h : Lel Γ Δ) : ∀ {i : Nat} {t : Sl}, Δ[i]? = some t → ∃ s, Γ[i]? = some s ∧ Lq s t := by
  induction h with
  | nil => intro i t e; simp at e
  | cons q _ ih =>
    intro i t e
    cases i with
    | zero =>
      simp only [List.getElem?_cons_zero, Option.some.injEq] at e
      subst e
      exact ⟨_, rfl, q⟩
    | succ i =>
      simp only [List.getElem?_cons_succ] at e ⊢
      exact ih e
section
variable {K : PySem.W.Frag} {c : Ct} {b : Nat} {σ : L2.St} {H F : Hp}
theorem Ev.frz1 {Γ : List Sl} {i : Nat} {ds : List D} (E : Ev K c b σ H F Γ) (g : Γ[i]? = some (.ow ds)) : ∃ F', L2.Same F F' ∧ Ev K c b σ H F' (Γ.set i (.va (.list ds))) := by
  obtain ⟨a, vs, z, ha, fa, h0, hs, r⟩ := E.sl i _ g
  have hi : i < Γ.length := (List.getElem?_eq_some_iff.mp g).1
  have E1 : Ev K c b σ H F (Γ.set i .no) := E.weak (by rw [List.length_set]) fun j t ht => by
    by_cases hj : i = j
    · subst hj
      rw [List.getElem?_set_self hi] at ht
      cases ht
      exact .inl rfl
    · rw [List.getElem?_set_ne hj] at ht
      exact .inr ht
  have fs := L2Same.upd (o := .lst vs) fa
  have E2 := E1.freezeAt ha fa h0 hs fun j es hj e => by
    by_cases h : i = j
    · subst h
      rw [List.getElem?_set_self hi] at hj
      cases hj
    · rw [List.getElem?_set_ne h] at hj
      exact h (E.apart i j a ds es g hj z e)
  refine ⟨_, fs, E2.sub, by rw [List.length_set]; exact E.len, fun j t ht => ?_, fun j k x d1 d2 h1 h2 h3 h4 => ?_, E2.stt, E2.h0, E2.f0, E2.nw⟩
  · by_cases hj : i = j
    · subst hj
      rw [List.getElem?_set_self hi] at ht
      cases ht
      exact ⟨.ref a, z, .lst upd_same (RpAll.mono fs r)⟩
    · rw [List.getElem?_set_ne hj] at ht
      exact E2.sl j t (by rw [List.getElem?_set_ne hj]; exact ht)
  · have old : ∀ {j : Nat} {d1 : List D}, (Γ.set i (.va (.list ds)))[j]? = some (.ow d1) → (Γ.set i .no)[j]? = some (.ow d1) := fun {j d1} h => by
      by_cases hj : i = j
      · subst hj
        rw [List.getElem?_set_self hi] at h
        cases h
      · rw [List.getElem?_set_ne hj] at h ⊢
        exact h
    exact E2.apart j k x d1 d2 (old h1) (old h2) h3 h4
theorem Ev.le' (n : Nat) : ∀ {Γ Δ : List Sl} {F : Hp}, Ev K c b σ H F Γ → Γ.length = Δ.length → (∀ (i : Nat) t, Δ[i]? = some t → ∃ s, Γ[i]? = some s ∧ Lq s t) → (∀ i, n ≤ i → ∀ t, Δ[i]? = some t → t = .no ∨ Γ[i]? = some t) → ∃ F', L2.Same F F' ∧ Ev K c b σ H F' Δ := by
  induction n with
  | zero =>
    intro Γ Δ F E hl _ h
    exact ⟨F, L2.Same.refl F, E.weak hl.symm fun i t ht => h i (Nat.zero_le _) t ht⟩
  | succ n ih =>
    intro Γ Δ F E hl hq h
    cases hn : Δ[n]? with
    | none =>
      refine ih E hl hq fun i hi t ht => ?_
      by_cases e : i = n
      · subst e
        rw [hn] at ht
        cases ht
      · exact h i (by omega) t ht
    | some t =>
      obtain ⟨s, hs, q⟩ := hq n t hn
      cases q with
      | no _ =>
        refine ih E hl hq fun i hi t ht => ?_
        by_cases e : i = n
        · subst e
          rw [hn] at ht
          cases ht
          exact .inl rfl
        · exact h i (by omega) t ht
      | rf _ =>
        refine ih E hl hq fun i hi t' ht => ?_
        by_cases e : i = n
        · subst e
          rw [hn] at ht
          cases ht
          exact .inr hs
        · exact h i (by omega) t' ht
      | fz ds =>
        obtain ⟨F1, f1, E1⟩ := E.frz1 hs
        have hi : n < Γ.length := (List.getElem?_eq_some_iff.mp hs).1
        have upd : ∀ (i : Nat), (Γ.set n (.va (.list ds)))[i]? = if i = n then some (.va (.list ds)) else Γ[i]? := fun i => by
          by_cases e : i = n
          · subst e
            rw [if_pos rfl]
            exact List.getElem?_set_self hi
          · rw [List.getElem?_set_ne (Ne.symm e), if_neg e]
        obtain ⟨F2, f2, E2⟩ := ih (Δ := Δ) E1 (by rw [List.length_set]; exact hl) (fun i t ht => by
          rw [upd i]
          by_cases e : i = n
          · subst e
            rw [hn] at ht
            cases ht
            exact ⟨_, if_pos rfl, .rf _⟩
          · rw [if_neg e]
            exact hq i t ht) (fun i hi' t ht => by
          rw [upd i]
          by_cases e : i = n
          · subst e
            rw [hn] at ht
            cases ht
            exact .inr (if_pos rfl)
          · rw [if_neg e]
            exact h i (by omega) t ht)
        exact ⟨F2, f1.trans f2, E2⟩
theorem Ev.le {Γ Δ : List Sl} (E : Ev K c b σ H F Γ) (h : Lel Γ Δ) : ∃ F', L2.Same F F' ∧ Ev K c b σ H F' Δ :=
  Ev.le' Δ.length E h.length (fun i t ht => h.get ht) fun i hi t ht => by
    rw [List.getElem?_eq_none hi] at ht
    cases ht
end

/-! ### blocks -/
structure Md (R : Type) where
  rv : List Sl → D → R
  rn : List Sl → List D → R
  ex : R
  xw : WX
  cp : Addr
  fx : L2.St → Prop := fun _ => True
abbrev Kn (R : Type) := List Sl → R → Prop
section
variable (X : Cx) (c : Ct) {R : Type} [RM R] (M : Md R)
/-- what follows, for what a block wishes; F: what stood at its start -/
structure Fol (P : RM.Pt R) (Dd : Ends) (F : Hp) (NX BK CT : Kn R) : Prop where
  nx : ∀ Γ r b σ H F', NX Γ r → L2.Same F F' → σ.length = X.N.length → M.fx σ → Ev X.K c b σ H F' Γ → RM.tr P b r → Dd.nx σ H
  bk : ∀ Γ r b σ H F', BK Γ r → L2.Same F F' → σ.length = X.N.length → M.fx σ → Ev X.K c b σ H F' Γ → RM.tr P b r → Dd.bk σ H
  ct : ∀ Γ r b σ H F', CT Γ r → L2.Same F F' → σ.length = X.N.length → M.fx σ → Ev X.K c b σ H F' Γ → RM.tr P b r → Dd.ct σ H
  rt : ∀ d v b σ Γ H F', M.fx σ → Ev X.K c b σ H F' Γ → Rp F' v d → RM.tr P b (M.rv Γ d) → Dd.rt v H
  rtN : ∀ ds a us b σ Γ H F', M.fx σ → Ev X.K c b σ H F' Γ → H a = some (.lst us) → F' a = none → c.H0 a = none → c.ss ≠ some a → RpAll F' us ds → RM.tr P b (M.rn Γ ds) → Dd.rt (.ref a) H
  ex : ∀ b σ Γ H F' (d : Option Addr), M.fx σ → Ev X.K c b σ H F' Γ → RM.tr P b M.ex → M.xw (.ref M.cp) d σ H
def GSs (sts : List Stmt) (Γ : List Sl) (NX BK CT : Kn R) (r : R) : Prop :=
  ∀ (P : RM.Pt R) (b : Nat) (σ : L2.St) (H F : Hp) (Dd : Ends), Ev X.K c b σ H F Γ → M.fx σ → RM.tr P b r → Fol X c M P Dd F NX BK CT → wSs X sts Dd σ H
end
/-- nothing goes there -/
def KNo {R : Type} : Kn R := fun _ _ => False
/-- the way on: a state's place among the names, what is done with it -/
def KTo {R S : Type} (ι : S → List Sl) (k : S → R) : Kn R := fun Γ r => ∃ s, Lel Γ (ι s) ∧ r = k s
section
variable {X : Cx} {c : Ct} {R : Type} [RM R] {M : Md R} {Γ : List Sl} {e e1 e2 : Expr} {pos pos' p : Pos} {st : Stmt} {rest body : List Stmt} {NX BK CT : Kn R} {r : R}
theorem GSs.cast {sts : List Stmt} {r' : R} (h : GSs X c M sts Γ NX BK CT r) (e : r = r') : GSs X c M sts Γ NX BK CT r' := e ▸ h
theorem Fol.mono {P : RM.Pt R} {Dd : Ends} {F F1 : Hp} (fo : Fol X c M P Dd F NX BK CT) (s : L2.Same F F1) : Fol X c M P Dd F1 NX BK CT :=
  ⟨fun Γ r b σ H F' h s2 => fo.nx Γ r b σ H F' h (s.trans s2), fun Γ r b σ H F' h s2 => fo.bk Γ r b σ H F' h (s.trans s2), fun Γ r b σ H F' h s2 => fo.ct Γ r b σ H F' h (s.trans s2), fo.rt, fo.rtN, fo.ex⟩
theorem Fol.bind {P : RM.Pt R} {Dd : Ends} {F : Hp} (fo : Fol X c M P Dd F NX BK CT) {NX' : Kn R} (t : TS) (h : ∀ Γ r b σ H F', NX' Γ r → L2.Same F F' → σ.length = X.N.length → M.fx σ → Ev X.K c b σ H F' Γ → RM.tr P b r → t Dd σ H) : Fol X c M P { Dd with nx := t Dd } F NX' BK CT :=
  ⟨h, fo.bk, fo.ct, fo.rt, fo.rtN, fo.ex⟩
/-- s1; then the rest -/
theorem seq_run {P : RM.Pt R} {b : Nat} {σ : L2.St} {H F : Hp} {Dd : Ends} (h : wS X st { Dd with nx := wSs X rest Dd } σ H) : wSs X (st :: rest) Dd σ H := (pss_cons ps_w pss_w).w h
theorem slen {pins : List (Addr × Obj)} {σ : L2.St} {H : Hp} {s : Shared} (I : Inv X pins σ H s) {i : Nat} {x : Str} (hi : X.N[i]? = some x) : i < σ.length := by
  rw [I.len]
  exact (List.getElem?_eq_some_iff.mp hi).1
theorem gs_nil (h : NX Γ r) : GSs X c M [] Γ NX BK CT r := fun P b σ H F Dd E fx t fo pins s I => pss_nil.w (fo.nx Γ r b σ H F h (L2.Same.refl F) I.len fx E t) pins s I
theorem gs_weak {sts : List Stmt} {Δ : List Sl} (hl : Lel Γ Δ) (h : GSs X c M sts Δ NX BK CT r) : GSs X c M sts Γ NX BK CT r := fun P b σ H F Dd E fx t fo => by
  obtain ⟨F', f, E'⟩ := E.le hl
  exact h P b σ H F' Dd E' fx t (fo.mono f)
/-- the block's own end goes on as said -/
theorem gs_to {S : Type} {ι : S → List Sl} {k : S → R} (s : S) (hl : Lel Γ (ι s)) : GSs X c M [] Γ (KTo ι k) BK CT (k s) := gs_nil ⟨s, hl, rfl⟩
theorem gs_pass (h : GSs X c M rest Γ NX BK CT r) : GSs X c M (.Pass pos :: rest) Γ NX BK CT r := fun P b σ H F Dd E fx t fo => seq_run (P := P) (b := b) (F := F) (ps_pass.w (h P b σ H F Dd E fx t fo))
theorem gs_break {S : Type} {ι : S → List Sl} {k : S → R} (s : S) (hl : Lel Γ (ι s)) : GSs X c M (.Break pos :: rest) Γ NX (KTo ι k) CT (k s) := fun P b σ H F Dd E fx t fo pins sh I => seq_run (P := P) (b := b) (F := F) (ps_break.w (fo.bk Γ _ b σ H F ⟨s, hl, rfl⟩ (L2.Same.refl F) I.len fx E t)) pins sh I
theorem gs_cont {S : Type} {ι : S → List Sl} {k : S → R} (s : S) (hl : Lel Γ (ι s)) : GSs X c M (.Continue pos :: rest) Γ NX BK (KTo ι k) (k s) := fun P b σ H F Dd E fx t fo pins sh I => seq_run (P := P) (b := b) (F := F) (ps_continue.w (fo.ct Γ _ b σ H F ⟨s, hl, rfl⟩ (L2.Same.refl F) I.len fx E t)) pins sh I
theorem gs_ret {w : (D → R) → R} (h : GC X c e Γ w) : GSs X c M (.Return (some e) pos :: rest) Γ NX BK CT (w (M.rv Γ)) := fun P b σ H F Dd E fx t fo =>
  seq_run (P := P) (b := b) (F := F) ((ps_ret pe_w).w (h P b σ H F _ _ E t fun d v b' H' F' s E' r t' => fo.rt d v b' σ Γ H' F' fx E' r t'))
/-- return of a new list, which nobody else knows -/
theorem gs_retL {w : (List D → R) → R} (h : GN X c e Γ w) : GSs X c M (.Return (some e) pos :: rest) Γ NX BK CT (w (M.rn Γ)) := fun P b σ H F Dd E fx t fo =>
  seq_run (P := P) (b := b) (F := F) ((ps_ret pe_w).w (h P b σ H F _ _ E t fun ds a vs b' H' F' s E' _ ha fa h0 hs _ r t' => fo.rtN ds a vs b' σ Γ H' F' fx E' ha fa h0 hs r t'))
/-- return of an owned list -/
theorem gs_retO {i : Nat} {x : Str} {ds : List D} {xpos : Pos} (hi : X.N[i]? = some x) (hv : Vis X.env.scope x) (g : Γ[i]? = some (.ow ds)) (hd : (x == ("__debug__" : Str)) = false := by decide) (hcd : (x == ("__classdict__" : Str)) = false := by decide) :
    GSs X c M (.Return (some (.Name x xpos)) pos :: rest) Γ NX BK CT (M.rn Γ ds) := fun P b σ H F Dd E fx t fo => by
  obtain ⟨a, vs, z, ha, fa, h0, hs, r⟩ := E.sl i _ g
  exact seq_run (P := P) (b := b) (F := F) ((ps_ret (pe_var hi hv hd hcd)).w ⟨.ref a, z, fo.rtN ds a vs b σ Γ H F fx E ha fa h0 hs r t⟩)
theorem gs_retN : GSs X c M (.Return none pos :: rest) Γ NX BK CT (M.rv Γ .none) := fun P b σ H F Dd E fx t fo =>
  seq_run (P := P) (b := b) (F := F) (ps_retN.w (fo.rt .none .non b σ Γ H F fx E .non t))
theorem gs_expr {w : (D → R) → R} (h : GC X c e Γ w) (hr : GSs X c M rest Γ NX BK CT r) (hs : swapsWith e none pos.line X.env = pure false := by rfl) : GSs X c M (.Expr e pos :: rest) Γ NX BK CT (w fun _ => r) := fun P b σ H F Dd E fx t fo =>
  seq_run (P := P) (b := b) (F := F) ((ps_expr pe_w hs).w (h P b σ H F _ _ E t fun d v b' H' F' s E' r' t' => hr P b' σ H' F' Dd E' fx t' (fo.mono s.f)))
/-- x = e -/
theorem gs_set {i : Nat} {x : Str} {w : (D → R) → R} {k : D → R} (hN : X.N.Nodup) (hi : X.N[i]? = some x) (hx : Loc X.env.scope x) (h : GC X c e Γ w) (hr : ∀ d, GSs X c M rest (Γ.set i (.va d)) NX BK CT (k d))
    (hs : swapsWith e (some (.Name x pos')) pos.line X.env = pure false := by rfl) (hf : X.fn x = true ∨ X.env.scope.names.lookup x = some .local := by first | exact .inl rfl | exact .inr rfl | assumption) (hfx : ∀ (σ : L2.St) (o : Option V), M.fx σ → M.fx (σ.set i o) := by exact fun _ _ _ => trivial) :
    GSs X c M (.Assign [.Name x pos'] e pos :: rest) Γ NX BK CT (w k) := fun P b σ H F Dd E fx t fo pins s I =>
  seq_run (P := P) (b := b) (F := F) ((ps_set hN hi hx pe_w hs hf).w (h P b σ H F _ _ E t fun d v b' H' F' s E' r' t' => hr d P b' _ H' F' Dd (E'.setVa (slen I hi) r') (hfx _ _ fx) t' (fo.mono s.f))) pins s I
/-- x = a new list -/
theorem gs_setN {i : Nat} {x : Str} {w : (List D → R) → R} {k : List D → R} (hN : X.N.Nodup) (hi : X.N[i]? = some x) (hx : Loc X.env.scope x) (h : GN X c e Γ w) (hr : ∀ ds, GSs X c M rest (Γ.set i (.ow ds)) NX BK CT (k ds))
    (hs : swapsWith e (some (.Name x pos')) pos.line X.env = pure false := by rfl) (hf : X.fn x = true ∨ X.env.scope.names.lookup x = some .local := by first | exact .inl rfl | exact .inr rfl | assumption) (hfx : ∀ (σ : L2.St) (o : Option V), M.fx σ → M.fx (σ.set i o) := by exact fun _ _ _ => trivial) :
    GSs X c M (.Assign [.Name x pos'] e pos :: rest) Γ NX BK CT (w k) := fun P b σ H F Dd E fx t fo pins s I =>
  seq_run (P := P) (b := b) (F := F) ((ps_set hN hi hx pe_w hs hf).w (h P b σ H F _ _ E t fun ds a vs b' H' F' s E' ga ha fa h0 hs' ho r' t' => hr ds P b' _ H' F' Dd (E'.setOw (slen I hi) ha fa h0 hs' (fun j es g _ => ho j es g) r') (hfx _ _ fx) t' (fo.mono s.f))) pins s I
/-- x = y, y an owned list, which is y's no more -/
theorem gs_move {i j : Nat} {x y : Str} {ds : List D} {ypos : Pos} (hN : X.N.Nodup) (hi : X.N[i]? = some x) (hx : Loc X.env.scope x) (hj : X.N[j]? = some y) (hv : Vis X.env.scope y) (g : Γ[j]? = some (.ow ds)) (hr : GSs X c M rest ((Γ.set j .no).set i (.ow ds)) NX BK CT r)
    (hd : (y == ("__debug__" : Str)) = false := by decide) (hcd : (y == ("__classdict__" : Str)) = false := by decide)
    (hs : swapsWith (.Name y ypos) (some (.Name x pos')) pos.line X.env = pure false := by rfl) (hf : X.fn x = true ∨ X.env.scope.names.lookup x = some .local := by first | exact .inl rfl | exact .inr rfl | assumption) (hfx : ∀ (σ : L2.St) (o : Option V), M.fx σ → M.fx (σ.set i o) := by exact fun _ _ _ => trivial) :
    GSs X c M (.Assign [.Name x pos'] (.Name y ypos) pos :: rest) Γ NX BK CT r := fun P b σ H F Dd E fx t fo pins s I => by
  obtain ⟨a, vs, z, ha, fa, h0, hss, ra⟩ := E.sl j _ g
  have hjl : j < Γ.length := (List.getElem?_eq_some_iff.mp g).1
  have E1 : Ev X.K c b σ H F (Γ.set j .no) := E.weak (by rw [List.length_set]) fun k t ht => by
    by_cases hk : j = k
    · subst hk
      rw [List.getElem?_set_self hjl] at ht
      cases ht
      exact .inl rfl
    · rw [List.getElem?_set_ne hk] at ht
      exact .inr ht
  refine seq_run (P := P) (b := b) (F := F) ((ps_set hN hi hx (pe_var hj hv hd hcd) hs hf).w ⟨.ref a, z, ?_⟩) pins s I
  exact hr P b _ H F Dd (E1.setOw (slen I hi) ha fa h0 hss (fun k es gk _ e => by
    by_cases hk : j = k
    · subst hk
      rw [List.getElem?_set_self hjl] at gk
      cases gk
    · rw [List.getElem?_set_ne hk] at gk
      exact hk (E.apart j k a ds es g gk z e)) ra) (hfx _ _ fx) t fo
/-- x = e, taken apart: a, b = e -/
theorem gs_setT {tg : Expr} {T : Type} {δ : D → Option T} {υ : T → List Sl → List Sl} {ks : List Nat} {w : (D → R) → R} {k : T → R} (h : GC X c e Γ w) (hg : GG X c tg δ υ ks) (hr : ∀ t, GSs X c M rest (υ t Γ) NX BK CT (k t))
    (hs : swapsWithSole [tg] e pos.line X.env = pure false := by rfl) (hw : swappedStores [tg] e X.env = pure none := by rfl) (h1 : (assignEach [tg] X.env).map (·.2) = [assign tg X.env] := by rfl) (hfx : ∀ (σ σ' : L2.St), (∀ i, i ∉ ks → σ'[i]? = σ[i]?) → M.fx σ → M.fx σ' := by exact fun _ _ _ _ => trivial) :
    GSs X c M (.Assign [tg] e pos :: rest) Γ NX BK CT (w fun d => bnd (δ d) k) := fun P b σ H F Dd E fx t fo pins s I =>
  seq_run (P := P) (b := b) (F := F) ((ps_asg pe_w pg_w hs hw h1).w (h P b σ H F _ _ E t fun d v b' H' F' s' E' r' t' => by
    obtain ⟨z, hz, t2⟩ := RM.bh t'
    exact hg b' σ H' F' Γ v d z _ E' I.len r' hz fun σ2 hl2 w2 g2 E2 => hr z P b' σ2 H' F' Dd E2 (hfx σ σ2 (fun i hi => by rw [← wipe_get (σ := σ2) hi, w2 ks (fun _ h => h), wipe_get hi]) fx) t2 (fo.mono s'.f))) pins s I
/-- if: both ways go on to what stands behind -/
theorem gs_if {S : Type} {ι : S → List Sl} {k : S → R} {ca : List Stmt} {cb : List Stmt} {wt : (Bool → R) → R} {ra rb : R} (ht : GT X c e Γ wt) (ha : GSs X c M ca Γ (KTo ι k) BK CT ra) (hb : GSs X c M cb Γ (KTo ι k) BK CT rb) (hr : ∀ s, GSs X c M rest (ι s) NX BK CT (k s)) :
    GSs X c M (.If e ca cb pos :: rest) Γ NX BK CT (wt fun t => if t = true then ra else rb) := fun P b σ H F Dd E fx t fo => by
  have fo' : Fol X c M P { Dd with nx := wSs X rest Dd } F (KTo ι k) BK CT := fo.bind (wSs X rest) fun Γ' r' b' σ' H' F' ⟨s, hl, e⟩ f' l' fx' E' t' => by
    obtain ⟨F2, f2, E2⟩ := E'.le hl
    rw [e] at t'
    exact hr s P b' σ' H' F2 Dd E2 fx' t' (fo.mono (f'.trans f2))
  refine seq_run (P := P) (b := b) (F := F) ((ps_if pt_w pss_w pss_w).w (ht P b σ H F _ _ E t fun z b' H' F' s E' t' => ?_))
  cases z with
  | true => exact ha P b' σ H' F' _ E' fx t' (fo'.mono s.f)
  | false => exact hb P b' σ H' F' _ E' fx t' (fo'.mono s.f)
/-- if, whose body does not come to its end -/
theorem gs_ifX {ca : List Stmt} {wt : (Bool → R) → R} {ra : R} (ht : GT X c e Γ wt) (ha : GSs X c M ca Γ KNo BK CT ra) (hr : GSs X c M rest Γ NX BK CT r) :
    GSs X c M (.If e ca [] pos :: rest) Γ NX BK CT (wt fun t => if t = true then ra else r) := fun P b σ H F Dd E fx t fo => by
  have fo' : Fol X c M P { Dd with nx := wSs X rest Dd } F KNo BK CT := fo.bind (wSs X rest) fun Γ' r' b' σ' H' F' z => z.elim
  refine seq_run (P := P) (b := b) (F := F) ((ps_if pt_w pss_w pss_w).w (ht P b σ H F _ _ E t fun z b' H' F' s E' t' => ?_))
  cases z with
  | true => exact ha P b' σ H' F' _ E' fx t' (fo'.mono s.f)
  | false => exact pss_nil.w (hr P b' σ H' F' Dd E' fx t' (fo.mono s.f))
end
end G

end
section
set_option Elab.async false
set_option linter.all false
set_option maxRecDepth 100000
/-! G7: statements that change lists; loops. -/
namespace G
open RM (bnd)
open PySem PySem.Spec PyProof.Rows L2
section
variable (X : Cx) (c : Ct) {R : Type} [RM R]
/-- a list, just looked at -/
def GL (e : Expr) (Γ : List Sl) (w : (List D → R) → R) : Prop :=
  ∀ (P : RM.Pt R) (b : Nat) (σ : L2.St) (H F : Hp) (Q : VK) (k : List D → R), Ev X.K c b σ H F Γ → RM.tr P b (w k) →
    (∀ ds a us b' H' F', Xt c H F H' F' → Ev X.K c b' σ H' F' Γ → H' a = some (.lst us) → RpAll F' us ds → RM.tr P b' (k ds) → Q (.ref a) H') → wE X e σ H Q
end
def lstD : D → Option (List D)
  | .list ds => some ds
  | _ => none
def appD (ds : List D) (d : D) : Option (List D) := if ds.length < 16777216 then some (ds ++ [d]) else none
def extD (ds es : List D) : Option (List D) := if ds.length + es.length ≤ 16777216 then some (ds ++ es) else none
def setD (ds : List D) : D → D → Option (List D)
  | .int k, d => (ixN ds.length k).map fun j => ds.set j d
  | _, _ => none
/-- the turns of a for, what is done with each and where it goes then -/
def forL {R S : Type} (f : S → D → (S → R) → (S → R) → R) : List D → S → (S → R) → R
  | [], s, k => k s
  | d :: ds, s, k => f s d (fun s' => forL f ds s' k) k
def whileL {R S : Type} [RM R] (f : S → (S → R) → (S → R) → R) : Nat → S → (S → R) → R
  | 0, _, _ => bnd (none : Option Unit) fun _ => bnd (none : Option R) id
  | n + 1, s, k => f s (fun s' => whileL f n s' k) k
section
variable {X : Cx} {c : Ct} {R : Type} [RM R] {M : Md R} {Γ : List Sl} {e e1 e2 tg iter : Expr} {pos pos' p cpos apos xpos : Pos} {st : Stmt} {rest body : List Stmt} {NX BK CT : Kn R} {r : R}
theorem GB.l {w : (D → R) → R} (h : GB X c e Γ w) : GL X c e Γ (fun k => w fun d => bnd (lstD d) k) := fun P b σ H F Q k E t q =>
  h P b σ H F Q _ E t fun d v b' H' F' x E' r t' => by
    obtain ⟨ds, e, t2⟩ := RM.bh t'
    cases d <;> cases e
    obtain ⟨a, vs, rfl, ha, ra⟩ := r.items E'
    exact q _ a vs b' H' F' x E' ha ra t2
theorem GN.l {w : (List D → R) → R} (h : GN X c e Γ w) : GL X c e Γ w := fun P b σ H F Q k E t q =>
  h P b σ H F Q _ E t fun ds a vs b' H' F' x E' _ ha _ _ _ _ r t' => q ds a vs b' H' F' x E' ha r t'
/-- nothing is known of what can't be -/
theorem gs_bot {sts : List Stmt} {α : Type} {k : α → R} : GSs X c M sts Γ NX BK CT (bnd (none : Option α) k) := fun P b σ H F Dd E fx t fo => by
  obtain ⟨a, e, _⟩ := RM.bh t
  cases e
/-- x.append(e) -/
theorem gs_append {i : Nat} {x : Str} {ds : List D} {w : (D → R) → R} {k : List D → R} (hi : X.N[i]? = some x) (hv : Vis X.env.scope x) (g : Γ[i]? = some (.ow ds)) (h : GC X c e Γ w) (hr : ∀ es, GSs X c M rest (Γ.set i (.ow es)) NX BK CT (k es))
    (hd : (x == ("__debug__" : Str)) = false := by decide) (hcd : (x == ("__classdict__" : Str)) = false := by decide)
    (hbase : attributeBase (.Name x xpos) "append" X.env (eval (.Name x xpos) X.env) = eval (.Name x xpos) X.env := by rfl)
    (hfew : ((backTo cpos (starEach [e] X.env)).all (fun x => !x.1) && (backToKw cpos (keywordEach [] X.env)).all (fun x => x.1.isSome)
      && decide ([e].length + ([] : List Keyword).length + (if ([] : List Keyword).isEmpty then 0 else 1) < 30)) = true := by rfl)
    (hline : (apos.endLine == cpos.line) = true := by rfl) (hs : starEach [e] X.env = [(false, eval e X.env)] := by rfl)
    (hsw : swapsWith (.Call (.Attribute (.Name x xpos) "append" apos) [e] [] cpos) none pos.line X.env = pure false := by rfl) :
    GSs X c M (.Expr (.Call (.Attribute (.Name x xpos) "append" apos) [e] [] cpos) pos :: rest) Γ NX BK CT (w fun d => bnd (appD ds d) k) := fun P b σ H F Dd E fx t fo => by
  refine seq_run (P := P) (b := b) (F := F) ((ps_expr (pe_bm (to := tVar i) PySem.F.plainAttrs_list PySem.F.slot_list_append PySem.F.type_list_append mt_append (pe_var hi hv hd hcd) (pa_cons pe_w pa_nil hs) hbase hfew hline hs) hsw).w ?_)
  obtain ⟨a, vs, z, ha, fa, h0, hss, rr⟩ := E.sl i _ g
  refine ⟨.ref a, z, .inl ⟨rfl, vs, .of ha⟩, ?_⟩
  refine h P b σ H F _ _ E t fun d v b' H' F' x1 E' r1 t1 => ?_
  obtain ⟨es, he, t2⟩ := RM.bh t1
  unfold appD at he
  split at he
  · rename_i hlt
    cases he
    obtain ⟨a', vs', z', ha', fa', h0', hss', rr'⟩ := E'.sl i _ g
    rw [z] at z'
    cases z'
    refine ⟨a, vs', v, rfl, rfl, ha', by rw [sizeLine_eq, RpAll.length rr']; exact hlt, ?_⟩
    exact hr _ P b' σ _ F' Dd (E'.wr g z (rr'.append (.cons r1 .nil))) fx t2 (fo.mono x1.f)
  · cases he
/-- x.extend(e) -/
theorem gs_extend {i : Nat} {x : Str} {ds : List D} {w : (List D → R) → R} {k : List D → R} (hi : X.N[i]? = some x) (hv : Vis X.env.scope x) (g : Γ[i]? = some (.ow ds)) (h : GL X c e Γ w) (hr : ∀ es, GSs X c M rest (Γ.set i (.ow es)) NX BK CT (k es))
    (hd : (x == ("__debug__" : Str)) = false := by decide) (hcd : (x == ("__classdict__" : Str)) = false := by decide)
    (hbase : attributeBase (.Name x xpos) "extend" X.env (eval (.Name x xpos) X.env) = eval (.Name x xpos) X.env := by rfl)
    (hfew : ((backTo cpos (starEach [e] X.env)).all (fun x => !x.1) && (backToKw cpos (keywordEach [] X.env)).all (fun x => x.1.isSome)
      && decide ([e].length + ([] : List Keyword).length + (if ([] : List Keyword).isEmpty then 0 else 1) < 30)) = true := by rfl)
    (hline : (apos.endLine == cpos.line) = true := by rfl) (hs : starEach [e] X.env = [(false, eval e X.env)] := by rfl)
    (hsw : swapsWith (.Call (.Attribute (.Name x xpos) "extend" apos) [e] [] cpos) none pos.line X.env = pure false := by rfl) :
    GSs X c M (.Expr (.Call (.Attribute (.Name x xpos) "extend" apos) [e] [] cpos) pos :: rest) Γ NX BK CT (w fun es => bnd (extD ds es) k) := fun P b σ H F Dd E fx t fo => by
  refine seq_run (P := P) (b := b) (F := F) ((ps_expr (pe_bm (to := tVar i) PySem.F.plainAttrs_list PySem.F.slot_list_extend PySem.F.type_list_extend mt_extend (pe_var hi hv hd hcd) (pa_cons pe_w pa_nil hs) hbase hfew hline hs) hsw).w ?_)
  obtain ⟨a, vs, z, ha, fa, h0, hss, rr⟩ := E.sl i _ g
  refine ⟨.ref a, z, .inl ⟨rfl, vs, .of ha⟩, ?_⟩
  refine h P b σ H F _ _ E t fun es a2 us b' H' F' x1 E' ha2 r1 t1 => ?_
  obtain ⟨es', he, t2⟩ := RM.bh t1
  unfold extD at he
  split at he
  · rename_i hlt
    cases he
    obtain ⟨a', vs', z', ha', fa', h0', hss', rr'⟩ := E'.sl i _ g
    rw [z] at z'
    cases z'
    refine ⟨a, a2, vs', us, rfl, rfl, ha', ha2, by rw [sizeLine_eq, RpAll.length rr', RpAll.length r1]; exact hlt, ?_⟩
    exact hr _ P b' σ _ F' Dd (E'.wr g z (rr'.append r1)) fx t2 (fo.mono x1.f)
  · cases he
/-- x[i] = e -/
theorem gs_setix {i : Nat} {x : Str} {ds : List D} {w : (D → R) → R} {wi : (D → R) → R} {k : List D → R} (hi : X.N[i]? = some x) (hv : Vis X.env.scope x) (g : Γ[i]? = some (.ow ds)) (h : GC X c e Γ w) (h1 : GC X c e1 Γ wi) (hr : ∀ es, GSs X c M rest (Γ.set i (.ow es)) NX BK CT (k es))
    (hd : (x == ("__debug__" : Str)) = false := by decide) (hcd : (x == ("__classdict__" : Str)) = false := by decide)
    (hpg : ∀ {to ti : TE} {t : TSet}, PE X (.Name x xpos) to → PE X e1 ti → PSet X t → PG X (.Subscript (.Name x xpos) e1 p) (gSub to ti t) := by intro _ _ _ a b c; exact pg_sub a b c)
    (hs : swapsWithSole [.Subscript (.Name x xpos) e1 p] e pos.line X.env = pure false := by rfl) (hw : swappedStores [.Subscript (.Name x xpos) e1 p] e X.env = pure none := by rfl)
    (ha1 : (assignEach [.Subscript (.Name x xpos) e1 p] X.env).map (·.2) = [assign (.Subscript (.Name x xpos) e1 p) X.env] := by rfl) :
    GSs X c M (.Assign [.Subscript (.Name x xpos) e1 p] e pos :: rest) Γ NX BK CT (w fun d => wi fun j => bnd (setD ds j d) k) := fun P b σ H F Dd E fx t fo => by
  refine seq_run (P := P) (b := b) (F := F) ((ps_asg (pe_w) (hpg (pe_var hi hv hd hcd) pe_w set_list) hs hw ha1).w ?_)
  refine h P b σ H F _ _ E t fun d v b1 H1 F1 x1 E1 r1 t1 => ?_
  obtain ⟨a, vs, z, ha, fa, h0, hss, rr⟩ := E1.sl i _ g
  refine ⟨.ref a, z, ?_⟩
  refine h1 P b1 σ H1 F1 _ _ E1 t1 fun j v2 b2 H2 F2 x2 E2 r2 t2 => ?_
  obtain ⟨es, he, t3⟩ := RM.bh t2
  obtain ⟨a', vs', z', ha', fa', h0', hss', rr'⟩ := E2.sl i _ g
  rw [z] at z'
  cases z'
  cases j <;> try cases he
  rename_i j
  obtain ⟨n, hn, e3⟩ := Option.map_eq_some_iff.mp (show (ixN ds.length j).map _ = some es from he)
  subst e3
  rw [Rp.intOf r2]
  refine ⟨a, vs', j, n, rfl, rfl, ha', by rw [RpAll.length rr']; exact hn, ?_⟩
  exact hr _ P b2 σ _ F2 Dd (E2.wr g z (RpAll.set (Rp.mono x2.f r1) n rr')) fx t3 (fo.mono (x1.f.trans x2.f))
/-- for tg in iter: body; iter stands frozen -/
theorem gs_for {S T : Type} {ι : S → List Sl} {δ : D → Option T} {υ : T → List Sl → List Sl} {ks : List Nat} {wi : (List D → R) → R} {fb : S → T → (S → R) → (S → R) → R} {k : S → R} (s0 : S) (hl : Lel Γ (ι s0)) (hc : X.calm = true)
    (hp : PassesOwn (model X.prog X.w) X.A X.env X.xe) (hi : GIF X c tg iter Γ wi) (hg : GG X c tg δ υ ks) (hb : ∀ s t (kc kb : S → R), GSs X c M body (υ t (ι s)) (KTo ι kc) (KTo ι kb) (KTo ι kc) (fb s t kc kb)) (hr : ∀ s, GSs X c M rest (ι s) NX BK CT (k s))
    (hs : ∀ x, foldedSetIterable iter X.env x = pure x := by intro _; rfl) (hfx : ∀ (σ σ' : L2.St), (∀ i, i ∉ ks → σ'[i]? = σ[i]?) → M.fx σ → M.fx σ' := by exact fun _ _ _ _ => trivial) :
    GSs X c M (.For tg iter body [] pos :: rest) Γ NX BK CT (wi fun ds => forL (fun s d kc kb => bnd (δ d) fun t => fb s t kc kb) ds s0 k) := fun P b σ H F Dd E fx t fo pins sh I => by
  refine seq_run (P := P) (b := b) (F := F) ((ps_for hp hc pi_w pg_w pss_w hs).w ?_) pins sh I
  have hlen := I.len
  refine hi P b σ H F _ _ E t fun ds J St b1 H1 F1 x1 E1 W hst t1 => ?_
  obtain ⟨F1', f1, E1'⟩ := E1.le hl
  -- the turns
  refine ⟨fun i m σ2 H2 => m = ds.length - i ∧ i ≤ ds.length ∧ ∃ b2 F2 s, L2.Same F1 F2 ∧ Ev X.K c b2 σ2 H2 F2 (ι s) ∧ σ2.length = X.N.length ∧ M.fx σ2 ∧ RM.tr P b2 (forL (fun s d kc kb => bnd (δ d) fun t => fb s t kc kb) (ds.drop i) s k), ⟨_, rfl, Nat.zero_le _, b1, F1', s0, f1, E1', hlen, fx, t1⟩, ?_⟩
  rintro i m σ2 H2 ⟨rfl, hi, b2, F2, s, f2, E2, hl2, fx2, t2⟩
  by_cases hlt : i < ds.length
  · refine .inr ⟨W.goes i H2 F2 hlt (hst H2 F2 f2 E2.sub), fun σ3 H3 => ∃ b3 F3 s3, L2.Same F1 F3 ∧ Ev X.K c b3 σ3 H3 F3 (ι s3) ∧ σ3.length = X.N.length ∧ M.fx σ3 ∧ RM.tr P b3 (forL (fun s d kc kb => bnd (δ d) fun t => fb s t kc kb) (ds.drop (i + 1)) s3 k), ?_, ?_⟩
    · rintro σ3 H3 ⟨b3, F3, s3, f3, E3, hl3, fx3, t3⟩
      exact ⟨ds.length - (i + 1), by omega, rfl, hlt, b3, F3, s3, f3, E3, hl3, fx3, t3⟩
    · intro x H3 y
      obtain ⟨F3, x3, E3, rx⟩ := W.item E2 (List.getElem?_eq_getElem hlt) (hst H2 F2 f2 E2.sub) y
      rw [List.drop_eq_getElem_cons hlt] at t2
      obtain ⟨tt, hδ, t4⟩ := RM.bh (show RM.tr P b2 (bnd (δ ds[i]) _) from t2)
      have f13 : L2.Same F1 F3 := f2.trans x3.f
      refine hg b2 σ2 H3 F3 (ι s) x ds[i] tt _ E3 hl2 rx hδ fun σ4 hl4 w4 g4 E4 => ?_
      refine hb s tt _ _ P b2 σ4 H3 F3 _ E4 (hfx σ2 σ4 (fun i hi => by rw [← wipe_get (σ := σ4) hi, w4 ks (fun _ h => h), wipe_get hi]) fx2) t4 ⟨?_, ?_, ?_, fo.rt, fo.rtN, fo.ex⟩
      · rintro Γ5 r5 b5 σ5 H5 F5 ⟨s5, le5, rfl⟩ f5 l5 fx5 E5 t5
        obtain ⟨F6, f6, E6⟩ := E5.le le5
        exact ⟨b5, F6, s5, (f13.trans f5).trans f6, E6, l5, fx5, t5⟩
      · rintro Γ5 r5 b5 σ5 H5 F5 ⟨s5, le5, rfl⟩ f5 l5 fx5 E5 t5
        obtain ⟨F6, f6, E6⟩ := E5.le le5
        exact hr s5 P b5 σ5 H5 F6 Dd E6 fx5 t5 (fo.mono ((x1.f.trans (f13.trans f5)).trans f6))
      · rintro Γ5 r5 b5 σ5 H5 F5 ⟨s5, le5, rfl⟩ f5 l5 fx5 E5 t5
        obtain ⟨F6, f6, E6⟩ := E5.le le5
        exact ⟨b5, F6, s5, (f13.trans f5).trans f6, E6, l5, fx5, t5⟩
  · have e : i = ds.length := by omega
    subst e
    rw [List.drop_length] at t2
    exact .inl ⟨W.stops H2 F2 (hst H2 F2 f2 E2.sub), hr s P b2 σ2 H2 F2 Dd E2 fx2 t2 (fo.mono (x1.f.trans f2))⟩
/-- while e: body -/
theorem gs_while {S : Type} {ι : S → List Sl} {wt : S → (Bool → R) → R} {fb : S → (S → R) → (S → R) → R} {k : S → R} (n : Nat) (s0 : S) (hl : Lel Γ (ι s0))
    (hp : PassesOwn (model X.prog X.w) X.A X.env X.xe) (ht : ∀ s, GT X c e (ι s) (wt s)) (hb : ∀ s (kc kb : S → R), GSs X c M body (ι s) (KTo ι kc) (KTo ι kb) (KTo ι kc) (fb s kc kb)) (hr : ∀ s, GSs X c M rest (ι s) NX BK CT (k s)) :
    GSs X c M (.While e body [] pos :: rest) Γ NX BK CT (whileL (fun s kc kb => wt s fun t => if t = true then fb s kc kb else kb s) n s0 k) := fun P b σ H F Dd E fx t fo pins sh I => by
  refine seq_run (P := P) (b := b) (F := F) ((ps_while hp pt_w pss_w).w ?_) pins sh I
  have hlen := I.len
  obtain ⟨F1, f1, E1⟩ := E.le hl
  refine ⟨fun m σ2 H2 => ∃ b2 F2 s, L2.Same F F2 ∧ Ev X.K c b2 σ2 H2 F2 (ι s) ∧ σ2.length = X.N.length ∧ M.fx σ2 ∧ RM.tr P b2 (whileL (fun s kc kb => wt s fun t => if t = true then fb s kc kb else kb s) m s k), ⟨n, b, F1, s0, f1, E1, hlen, fx, t⟩, ?_⟩
  rintro m σ2 H2 ⟨b2, F2, s, f2, E2, hl2, fx2, t2⟩
  cases m with
  | zero =>
    obtain ⟨z, e, _⟩ := RM.bh (show RM.tr P b2 (bnd none _) from t2)
    cases e
  | succ m =>
    refine ht s P b2 σ2 H2 F2 _ _ E2 t2 fun z b3 H3 F3 x3 E3 t3 => ?_
    cases z with
    | false =>
      rw [if_neg (by decide)] at t3 ⊢
      exact hr s P b3 σ2 H3 F3 Dd E3 fx2 t3 (fo.mono (f2.trans x3.f))
    | true =>
      rw [if_pos rfl] at t3 ⊢
      refine ⟨fun σ4 H4 => ∃ b4 F4 s4, L2.Same F F4 ∧ Ev X.K c b4 σ4 H4 F4 (ι s4) ∧ σ4.length = X.N.length ∧ M.fx σ4 ∧ RM.tr P b4 (whileL (fun s kc kb => wt s fun t => if t = true then fb s kc kb else kb s) m s4 k), fun σ4 H4 h4 => ⟨m, Nat.lt_succ_self m, h4⟩, ?_⟩
      refine hb s _ _ P b3 σ2 H3 F3 _ E3 fx2 t3 ⟨?_, ?_, ?_, fo.rt, fo.rtN, fo.ex⟩
      · rintro Γ5 r5 b5 σ5 H5 F5 ⟨s5, le5, rfl⟩ f5 l5 fx5 E5 t5
        obtain ⟨F6, f6, E6⟩ := E5.le le5
        exact ⟨b5, F6, s5, ((f2.trans x3.f).trans f5).trans f6, E6, l5, fx5, t5⟩
      · rintro Γ5 r5 b5 σ5 H5 F5 ⟨s5, le5, rfl⟩ f5 l5 fx5 E5 t5
        obtain ⟨F6, f6, E6⟩ := E5.le le5
        exact hr s5 P b5 σ5 H5 F6 Dd E6 fx5 t5 (fo.mono (((f2.trans x3.f).trans f5).trans f6))
      · rintro Γ5 r5 b5 σ5 H5 F5 ⟨s5, le5, rfl⟩ f5 l5 fx5 E5 t5
        obtain ⟨F6, f6, E6⟩ := E5.le le5
        exact ⟨b5, F6, s5, ((f2.trans x3.f).trans f5).trans f6, E6, l5, fx5, t5⟩
end
end G

end
section
set_option Elab.async false
set_option linter.all false
set_option maxRecDepth 100000
/-! G8: defs: their promise, their calls. -/
namespace G
open RM (bnd)
open PySem PySem.Spec PyProof.Rows L2
/-- what is handed to a def -/
inductive Ar where
  | d (x : D)
  | st
  | fn (f : Addr)
def Ar.sl : Ar → Sl
  | .d x => .va x
  | .st => .st
  | .fn f => .fn f
def ArOk (ss : Option Addr) (F : Hp) (v : V) : Ar → Prop
  | .d x => Rp F v x
  | .st => ∃ a, v = .ref a ∧ ss = some a
  | .fn f => v = .ref f
abbrev ArsOk (ss : Option Addr) (F : Hp) : List V → List Ar → Prop := Paired (ArOk ss F)
theorem ArOk.mono {ss : Option Addr} {F F' : Hp} (s : L2.Same F F') {v : V} : ∀ {a : Ar}, ArOk ss F v a → ArOk ss F' v a
  | .d x, h => Rp.mono s h
  | .st, h => h
  | .fn f, h => h
theorem ArsOk.mono {ss : Option Addr} {F F' : Hp} (s : L2.Same F F') : ∀ {vs : List V} {as : List Ar}, ArsOk ss F vs as → ArsOk ss F' vs as
  | _, _, .nil => .nil
  | _, _, .cons h t => .cons (ArOk.mono s h) (ArsOk.mono s t)
theorem ArsOk.get {ss : Option Addr} {F : Hp} : ∀ {vs : List V} {as : List Ar} {i : Nat} {a : Ar}, ArsOk ss F vs as → as[i]? = some a → ∃ v, vs[i]? = some v ∧ ArOk ss F v a
  | _, _, _, _, .nil, h => by simp at h
  | _, _, 0, _, .cons h _, e => by
    simp only [List.getElem?_cons_zero, Option.some.injEq] at e
    subst e
    exact ⟨_, rfl, h⟩
  | _, _, i + 1, _, .cons _ r, e => by
    simp only [List.getElem?_cons_succ] at e ⊢
    exact ArsOk.get r e
/-- the draws' list as the callee finds it -/
def StX (c : Ct) (b : Nat) (H F : Hp) : Prop := ∀ a, c.ss = some a → F a = none ∧ StOk b H F a
/-- how what a def does is told in R -/
structure Vw (R : Type) where
  rv : D → R
  rn : List D → R
  ex : R
abbrev Vw.md {R : Type} (V : Vw R) (xw : WX) (cp : Addr) : Md R := ⟨fun _ => V.rv, fun _ => V.rn, V.ex, xw, cp, fun _ => True⟩
/-- values -/
def vwD : Vw (Option D) := ⟨some, fun _ => none, none⟩
/-- new lists -/
def vwL : Vw (Option (List D)) := ⟨fun _ => none, some, none⟩
/-- values, or refused -/
def vwX : Vw (Option (Option D)) := ⟨fun d => some (some d), fun _ => none, some none⟩
/-- values, with draws -/
def vwW : Vw (Wp D) := ⟨fun d P b => P d b, fun _ _ _ => False, fun _ _ => False⟩
def vwWL : Vw (Wp (List D)) := ⟨fun _ _ _ => False, fun ds P b => P ds b, fun _ _ => False⟩
/-- a def's promise: g tells what it answers -/
def spR {R : Type} [RM R] (V : Vw R) (cp : Addr) (n : Nat) (g : List Ar → R) : Sp := fun vs H Q E =>
  vs.length = n ∧ ∃ (c : Ct) (as : List Ar) (P : RM.Pt R) (b : Nat), c.H0 = H ∧ L2.Same c.F0 H ∧ ArsOk c.ss c.F0 vs as ∧ StX c b H c.F0 ∧ RM.tr P b (g as) ∧
    (∀ d v b' H' F', Xt c H c.F0 H' F' → L2.Same F' H' → StX c b' H' F' → Rp F' v d → RM.tr P b' (V.rv d) → Q v H') ∧
    (∀ ds a us b' H' F', Xt c H c.F0 H' F' → L2.Same F' H' → StX c b' H' F' → H a = none → H' a = some (.lst us) → F' a = none → RpAll F' us ds → RM.tr P b' (V.rn ds) → Q (.ref a) H') ∧
    (∀ b' (d : Option Addr) H' F', Xt c H c.F0 H' F' → L2.Same F' H' → StX c b' H' F' → RM.tr P b' V.ex → E (.ref cp) d H')
def KEnd {R : Type} (V : Vw R) : Kn R := fun _ r => r = V.rv .none
/-- at a def's entry -/
theorem Ev.entry {K : PySem.W.Frag} {c : Ct} {b : Nat} {N : List Str} {vs : List V} {as : List Ar} (s : L2.Same c.F0 c.H0) (hr : ArsOk c.ss c.F0 vs as) (hl : vs.length ≤ N.length) (hs : StX c b c.H0 c.F0) :
    Ev K c b (L2.start N vs) c.H0 c.F0 (as.map Ar.sl ++ List.replicate (N.length - vs.length) .no) := by
  have el := hr.length
  refine ⟨s, by unfold L2.start; simp only [List.length_append, List.length_map, List.length_replicate, el], fun i t ht => ?_, fun i j a ds es h1 => ?_, hs, fun a o h _ => h, L2.Same.refl _, fun a h1 h2 => absurd h1 h2⟩
  · by_cases hi : i < as.length
    · rw [List.getElem?_append_left (by simpa using hi), List.getElem?_map] at ht
      obtain ⟨a, ha, e⟩ := Option.map_eq_some_iff.mp ht
      subst e
      obtain ⟨v, hv, ok⟩ := hr.get ha
      have hz : (L2.start N vs)[i]? = some (some v) := by
        unfold L2.start
        rw [List.getElem?_append_left (by simp only [List.length_map]; omega), List.getElem?_map, hv]
        rfl
      rw [hz]
      cases a with
      | d x => exact ⟨v, rfl, ok⟩
      | st =>
        obtain ⟨a, rfl, h⟩ := ok
        exact ⟨a, rfl, h⟩
      | fn f =>
        cases (show v = .ref f from ok)
        rfl
    · rw [List.getElem?_append_right (by simpa using hi), List.getElem?_replicate] at ht
      split at ht
      · cases ht; trivial
      · cases ht
  · exfalso
    by_cases hi : i < as.length
    · rw [List.getElem?_append_left (by simpa using hi), List.getElem?_map] at h1
      obtain ⟨a, ha, e⟩ := Option.map_eq_some_iff.mp h1
      cases a <;> cases e
    · rw [List.getElem?_append_right (by simpa using hi), List.getElem?_replicate] at h1
      split at h1 <;> cases h1
/-- what a def leaves, told from its entry -/
theorem Ev.left {K : PySem.W.Frag} {c : Ct} {b : Nat} {σ : L2.St} {H F : Hp} {Γ : List Sl} (E : Ev K c b σ H F Γ) : Xt c c.H0 c.F0 H F := ⟨E.f0, E.h0, fun _ h => E.h0none h, E.nw⟩
/-- behind a call -/
theorem Ev.called {K : PySem.W.Frag} {c c' : Ct} {b b' : Nat} {σ : L2.St} {H F H' F' : Hp} {Γ : List Sl} (E : Ev K c b σ H F Γ) (e : c'.ss = c.ss) (x : Xt c' H F H' F') (s : L2.Same F' H') (hs : StX c' b' H' F') : Ev K c b' σ H' F' Γ := by
  refine ⟨s, E.len, fun i t ht => ?_, E.apart, fun a ha => ?_, fun a o h n => x.h a o (E.h0 a o h n) (by rw [e]; exact n), E.f0.trans x.f, fun a h1 h2 => ?_⟩
  · have q := E.sl i t ht
    cases t with
    | no => trivial
    | va d => exact let ⟨v, z, r⟩ := q; ⟨v, z, Rp.mono x.f r⟩
    | ow ds =>
      obtain ⟨a, vs, z, ha, fa, h0, hss, r⟩ := q
      refine ⟨a, vs, z, x.h a _ ha (by rw [e]; exact hss), ?_, h0, hss, RpAll.mono x.f r⟩
      cases q : F' a with
      | none => rfl
      | some o => exact absurd (x.n a fa (by rw [q]; exact fun z => nomatch z)) (by rw [ha]; exact fun z => nomatch z)
    | st => exact q
    | fn f => exact q
  · exact hs a (by rw [e]; exact ha)
  · by_cases h3 : F a = none
    · exact E.h0none (x.n a h3 h2)
    · exact E.nw a h1 h3
section
variable {P : Program} {w : World} {K : PySem.W.Frag} {mg : Str → Option Value} {base : Heap} {x qual : Str} {st : Stmt} {f : Addr} {fd : FuncData} {N ps : List Str} {k : Nat} {R : Type} [RM R] {V : Vw R} {cp : Addr} {g : List Ar → R}
abbrev X0 (P : Program) (w : World) (K : PySem.W.Frag) (mg : Str → Option Value) (base : Heap) (N : List Str) (qual : Str) (st : Stmt) (f : Addr) (cdv : Value) (A : Around) (outer : List Env) (s : Shared) (H : Hp) (E : XK) : Cx :=
  (cxOf CX0 P w K mg base N qual (defScope st) f cdv A outer s H E).nox
abbrev X1 (P : Program) (w : World) (K : PySem.W.Frag) (mg : Str → Option Value) (base : Heap) (N : List Str) (qual : Str) (st : Stmt) (f : Addr) (cdv : Value) (A : Around) (outer : List Env) (s : Shared) (H : Hp) (E : XK) : Cx :=
  cxOf (L2.CX P w) P w K mg base N qual (defScope st) f cdv A outer s H E
theorem fol_end {X : Cx} {c : Ct} {xw : WX} {Pt : RM.Pt R} {Q : VK} {E : XK} (hxw : ∀ cls d σ H', E cls d H' → xw cls d σ H')
    (q1 : ∀ d v b' H' F', Xt c c.H0 c.F0 H' F' → L2.Same F' H' → StX c b' H' F' → Rp F' v d → RM.tr Pt b' (V.rv d) → Q v H')
    (q2 : ∀ ds a us b' H' F', Xt c c.H0 c.F0 H' F' → L2.Same F' H' → StX c b' H' F' → c.H0 a = none → H' a = some (.lst us) → F' a = none → RpAll F' us ds → RM.tr Pt b' (V.rn ds) → Q (.ref a) H')
    (q3 : ∀ b' (d : Option Addr) H' F', Xt c c.H0 c.F0 H' F' → L2.Same F' H' → StX c b' H' F' → RM.tr Pt b' V.ex → E (.ref cp) d H') (F : Hp) :
    Fol X c (V.md xw cp) Pt { nx := fun _ H' => Q .non H', rt := Q } F (KEnd V) KNo KNo := by
  refine ⟨fun Γ r b σ H F' h _ _ _ E t => ?_, fun Γ r b σ H F' h => h.elim, fun Γ r b σ H F' h => h.elim, fun d v b σ Γ H F' _ E r t => q1 d v b H F' E.left E.sub E.stt r t, fun ds a us b σ Γ H F' _ E ha fa h0 _ r t => q2 ds a us b H F' E.left E.sub E.stt h0 ha fa r t, fun b σ Γ H F' d _ E t => hxw _ _ _ _ (q3 b d H F' E.left E.sub E.stt t)⟩
  cases (show r = V.rv .none from h)
  exact q1 .none .non b H F' E.left E.sub E.stt .non t
/-- THE RULE for a def that lets nothing out -/
theorem fn_ok (F : Fun K x qual st f fd) (S : FnScope N ps (defScope st)) (hbody : ∀ (cdv : Value) (A : Around) (outer : List Env) (s : Shared) (H : Hp) (E : XK) (c : Ct) (as : List Ar), Room k (A.deeper (envOfC qual (defScope st) s.heap.objs.size f cdv)) → as.length = ps.length →
      GSs (X0 P w K mg base N qual st f cdv A outer s H E) c (V.md (fun _ _ _ _ => True) cp) (defBody st) (as.map Ar.sl ++ List.replicate (N.length - ps.length) .no) (KEnd V) KNo KNo (g as)) : FnOk P w K mg base CX0 (k + 1) f fd ps (spR V cp ps.length g) := by
  have hpl : ps.length ≤ N.length := by have := congrArg List.length S.pre; rw [List.length_take] at this; omega
  refine F.ok S (fun vs H Q E h => h.1) fun cdv A outer s H vs Q E hr h => ?_
  obtain ⟨hl, c, as, Pt, b, rfl, s1, ra, hst, t, q1, q2, q3⟩ := h
  refine ⟨_, pss_w, ?_⟩
  have el := ra.length
  have q := hbody cdv A outer s c.H0 E c as hr (by omega) Pt b (L2.start N vs) c.H0 c.F0 { nx := fun _ H' => Q .non H', rt := Q } (by rw [← hl]; exact Ev.entry s1 ra (by omega) hst) True.intro t
    (fol_end (E := fun _ _ _ => True) (fun _ _ _ _ h => h) q1 q2 (fun _ _ _ _ _ _ _ _ => trivial) c.F0)
  exact q
/-- .. for a def that may refuse -/
theorem fn_okX (F : Fun K x qual st f fd) (S : FnScope N ps (defScope st)) (hbody : ∀ (cdv : Value) (A : Around) (outer : List Env) (s : Shared) (H : Hp) (E : XK) (c : Ct) (as : List Ar), Room k (A.deeper (envOfC qual (defScope st) s.heap.objs.size f cdv)) → as.length = ps.length →
      GSs (X1 P w K mg base N qual st f cdv A outer s H E) c (V.md (fun cls d _ H => E cls d H) cp) (defBody st) (as.map Ar.sl ++ List.replicate (N.length - ps.length) .no) (KEnd V) KNo KNo (g as)) : FnOk P w K mg base (L2.CX P w) (k + 1) f fd ps (spR V cp ps.length g) := by
  have hpl : ps.length ≤ N.length := by have := congrArg List.length S.pre; rw [List.length_take] at this; omega
  refine F.okX S (fun vs H Q E h => h.1) fun cdv A outer s H vs Q E hr h => ?_
  obtain ⟨hl, c, as, Pt, b, rfl, s1, ra, hst, t, q1, q2, q3⟩ := h
  refine ⟨_, pss_w, ?_⟩
  have el := ra.length
  exact hbody cdv A outer s c.H0 E c as hr (by omega) Pt b (L2.start N vs) c.H0 c.F0 { nx := fun _ H' => Q .non H', rt := Q } (by rw [← hl]; exact Ev.entry s1 ra (by omega) hst) True.intro t
    (fol_end (fun _ _ _ _ h => h) q1 q2 q3 c.F0)
end

/-! ### calls -/
/-- arguments of a def -/
def GR (X : Cx) (c : Ct) {R : Type} [RM R] (es : List Expr) (Γ : List Sl) (w : (List Ar → R) → R) : Prop :=
  ∀ (P : RM.Pt R) (b : Nat) (σ : L2.St) (H F : Hp) (Q : List V → Hp → Prop) (k : List Ar → R), Ev X.K c b σ H F Γ → RM.tr P b (w k) →
    (∀ as vs b' H' F', Xt c H F H' F' → Ev X.K c b' σ H' F' Γ → as.length = es.length → ArsOk c.ss F' vs as → RM.tr P b' (k as) → Q vs H') → wA X es σ H Q
section
variable {X : Cx} {c : Ct} {R : Type} [RM R] {Γ : List Sl} {e : Expr} {es : List Expr} {pos p : Pos} {CX : CXT} {k : Nat} {f : Addr} {fd : FuncData} {ps : List Str} {x : Str} {cp : Addr} {g : List Ar → R}
theorem gr_nil : GR X c [] Γ (fun (k : List Ar → R) => k []) := fun P b σ H F Q k E t q => pa_nil.w (q [] [] b H F Xt.refl E rfl .nil t)
theorem gr_d {w1 : (D → R) → R} {w2 : (List Ar → R) → R} (h1 : GC X c e Γ w1) (h2 : GR X c es Γ w2) (hs : starEach (e :: es) X.env = (false, eval e X.env) :: starEach es X.env := by rfl) : GR X c (e :: es) Γ (fun k => w1 fun d => w2 fun as => k (.d d :: as)) := fun P b σ H F Q k E t q => by
  refine (pa_cons pe_w pa_w hs).w ?_
  refine h1 P b σ H F _ _ E t fun d v b1 H1 F1 x1 E1 r1 t1 => ?_
  refine h2 P b1 σ H1 F1 _ _ E1 t1 fun as vs b2 H2 F2 x2 E2 l2 r2 t2 => ?_
  exact q _ _ b2 H2 F2 (x1.trans x2) E2 (by rw [List.length_cons, List.length_cons, l2]) (.cons (show ArOk c.ss F2 v (.d d) from Rp.mono x2.f r1) r2) t2
theorem gr_st {i : Nat} {w2 : (List Ar → R) → R} (hN : X.N[i]? = some x) (hv : Vis X.env.scope x) (gi : Γ[i]? = some .st) (h2 : GR X c es Γ w2) (hd : (x == ("__debug__" : Str)) = false := by decide) (hcd : (x == ("__classdict__" : Str)) = false := by decide)
    (hs : starEach (.Name x p :: es) X.env = (false, eval (.Name x p) X.env) :: starEach es X.env := by rfl) : GR X c (.Name x p :: es) Γ (fun k => w2 fun as => k (.st :: as)) := fun P b σ H F Q k E t q => by
  refine (pa_cons (pe_var hN hv hd hcd) pa_w hs).w ?_
  obtain ⟨a, z, ha⟩ := E.sl i _ gi
  refine ⟨.ref a, z, ?_⟩
  exact h2 P b σ H F _ _ E t fun as vs b2 H2 F2 x2 E2 l2 r2 t2 => q _ _ b2 H2 F2 x2 E2 (by rw [List.length_cons, List.length_cons, l2]) (.cons (show ArOk c.ss F2 (.ref a) .st from ⟨a, rfl, ha⟩) r2) t2
/-- a def of the text, handed on -/
theorem gr_fn {w2 : (List Ar → R) → R} (hg : Gl X x) (hm : X.mg x = some (.ref f)) (h2 : GR X c es Γ w2) (hd : (x == ("__debug__" : Str)) = false := by decide)
    (hs : starEach (.Name x p :: es) X.env = (false, eval (.Name x p) X.env) :: starEach es X.env := by rfl) : GR X c (.Name x p :: es) Γ (fun k => w2 fun as => k (.fn f :: as)) := fun P b σ H F Q k E t q => by
  refine (pa_cons (pe_glob (v := .ref f) hg hm rfl hd) pa_w hs).w ?_
  exact h2 P b σ H F _ _ E t fun as vs b2 H2 F2 x2 E2 l2 r2 t2 => q _ _ b2 H2 F2 x2 E2 (by rw [List.length_cons, List.length_cons, l2]) (.cons (show ArOk c.ss F2 (.ref f) (.fn f) from rfl) r2) t2
theorem StX.of {K : PySem.W.Frag} {b : Nat} {σ : L2.St} {H F : Hp} (E : Ev K c b σ H F Γ) : StX ⟨c.ss, H, F⟩ b H F := fun a ha => E.stt a ha
theorem xt_same {c c' : Ct} {H F H' F' : Hp} (e : c'.ss = c.ss) (x : Xt c' H F H' F') : Xt c H F H' F' := ⟨x.f, fun a o h n => x.h a o h (by rw [e]; exact n), x.k, x.n⟩
/-- f(..): a value -/
theorem gc_call {g : List Ar → Option D} (F : FnOk X.prog X.w X.K X.mg X.base CX0 k f fd ps (spR vwD cp ps.length g)) (hr : Room k X.A) (hg : Gl X x) (hm : X.mg x = some (.ref f)) (hk : PySem.W.keepIn X.K (.ref f) = true) (hb : Binds X.K fd ps []) {w : (List Ar → R) → R}
    (ha : GR X c (e :: es) Γ w) (hn : (e :: es).length = ps.length := by rfl) (hdb : (x == ("__debug__" : Str)) = false := by decide) (he : starEach (e :: es) X.env = (false, eval e X.env) :: starEach es X.env := by rfl) (hpl : (backTo pos (starEach es X.env)).any (·.1) = false := by rfl) :
    GC X c (.Call (.Name x p) (e :: es) [] pos) Γ (fun k => w fun as => bnd (g as) k) := fun P b σ H F1 Q kk E t q => by
  refine (pe_call F hr hg hm hk hb .nil pass0 pa_w hdb he hpl).w ?_
  refine ha P b σ H F1 _ _ E t fun as vs b1 H1 F1 x1 E1 l1 r1 t1 => ?_
  obtain ⟨d, hd, t2⟩ := RM.bh t1
  have lv := r1.length
  refine ⟨by rw [List.append_nil]; omega, ⟨c.ss, H1, F1⟩, as, fun a b' => a = d ∧ b' = b1, b1, rfl, E1.sub, by rw [List.append_nil]; exact r1, StX.of E1, ⟨d, hd, rfl, rfl⟩, ?_, ?_, ?_⟩
  · rintro d' v b2 H2 F2 x2 s2 st2 r2 ⟨z, ez, eq, eb⟩
    cases ez
    subst eq eb
    exact q d' v b2 H2 F2 (x1.trans (xt_same (c' := ⟨c.ss, H1, F1⟩) rfl x2)) (E1.called (c' := ⟨c.ss, H1, F1⟩) rfl x2 s2 st2) r2 t2
  · rintro ds a us b2 H2 F2 _ _ _ _ _ _ _ ⟨z, ez, _⟩
    cases ez
  · rintro b2 d H2 F2 _ _ _ ⟨z, ez, _⟩
    cases ez
theorem Ev.owNot {K : PySem.W.Frag} {b : Nat} {σ : L2.St} {H F : Hp} (E : Ev K c b σ H F Γ) {a : Addr} (h : H a = none) : ∀ (i : Nat) es, Γ[i]? = some (.ow es) → σ[i]? ≠ some (some (.ref a)) := fun i es gi z => by
  obtain ⟨a', us, z', ha, _⟩ := E.sl i _ gi
  rw [z'] at z
  cases z
  rw [h] at ha; cases ha
/-- f(..): a new list -/
theorem gn_call {g : List Ar → Option (List D)} (F : FnOk X.prog X.w X.K X.mg X.base CX0 k f fd ps (spR vwL cp ps.length g)) (hr : Room k X.A) (hg : Gl X x) (hm : X.mg x = some (.ref f)) (hk : PySem.W.keepIn X.K (.ref f) = true) (hb : Binds X.K fd ps []) {w : (List Ar → R) → R}
    (ha : GR X c (e :: es) Γ w) (hn : (e :: es).length = ps.length := by rfl) (hdb : (x == ("__debug__" : Str)) = false := by decide) (he : starEach (e :: es) X.env = (false, eval e X.env) :: starEach es X.env := by rfl) (hpl : (backTo pos (starEach es X.env)).any (·.1) = false := by rfl) :
    GN X c (.Call (.Name x p) (e :: es) [] pos) Γ (fun k => w fun as => bnd (g as) k) := fun P b σ H F1 Q kk E t q => by
  refine (pe_call F hr hg hm hk hb .nil pass0 pa_w hdb he hpl).w ?_
  refine ha P b σ H F1 _ _ E t fun as vs b1 H1 F1 x1 E1 l1 r1 t1 => ?_
  obtain ⟨d, hd, t2⟩ := RM.bh t1
  have lv := r1.length
  refine ⟨by rw [List.append_nil]; omega, ⟨c.ss, H1, F1⟩, as, fun a b' => a = d ∧ b' = b1, b1, rfl, E1.sub, by rw [List.append_nil]; exact r1, StX.of E1, ⟨d, hd, rfl, rfl⟩, ?_, ?_, ?_⟩
  · rintro ds a b2 H2 F2 _ _ _ _ ⟨z, ez, _⟩
    cases ez
  · rintro ds a us b2 H2 F2 x2 s2 st2 h1 h2 h3 r2 ⟨z, ez, eq, eb⟩
    cases ez
    subst eq eb
    exact q ds a us b2 H2 F2 (x1.trans (xt_same (c' := ⟨c.ss, H1, F1⟩) rfl x2)) (E1.called (c' := ⟨c.ss, H1, F1⟩) rfl x2 s2 st2) (x1.k a h1) h2 h3 (E1.h0none h1) (E1.notSt h1) (E1.owNot h1) r2 t2
  · rintro b2 d H2 F2 _ _ _ ⟨z, ez, _⟩
    cases ez
/-- a reading with draws goes on -/
def bW {α β : Type} (g : Wp α) (k : α → Wp β) : Wp β := fun P b => g (fun d b' => k d P b') b
/-- f(..) with draws: a value -/
theorem gw_call {β : Type} {g : List Ar → Wp D} (F : FnOk X.prog X.w X.K X.mg X.base CX0 k f fd ps (spR vwW cp ps.length g)) (hr : Room k X.A) (hg : Gl X x) (hm : X.mg x = some (.ref f)) (hk : PySem.W.keepIn X.K (.ref f) = true) (hb : Binds X.K fd ps []) {w : (List Ar → Wp β) → Wp β}
    (ha : GR X c (e :: es) Γ w) (hn : (e :: es).length = ps.length := by rfl) (hdb : (x == ("__debug__" : Str)) = false := by decide) (he : starEach (e :: es) X.env = (false, eval e X.env) :: starEach es X.env := by rfl) (hpl : (backTo pos (starEach es X.env)).any (·.1) = false := by rfl) :
    GC X c (.Call (.Name x p) (e :: es) [] pos) Γ (fun k => w fun as => bW (g as) k) := fun P b σ H F1 Q kk E t q => by
  refine (pe_call F hr hg hm hk hb .nil pass0 pa_w hdb he hpl).w ?_
  refine ha P b σ H F1 _ _ E t fun as vs b1 H1 F1 x1 E1 l1 r1 t1 => ?_
  have lv := r1.length
  refine ⟨by rw [List.append_nil]; omega, ⟨c.ss, H1, F1⟩, as, fun d b' => kk d P b', b1, rfl, E1.sub, by rw [List.append_nil]; exact r1, StX.of E1, t1, ?_, ?_, ?_⟩
  · intro d' v b2 H2 F2 x2 s2 st2 r2 t2
    exact q d' v b2 H2 F2 (x1.trans (xt_same (c' := ⟨c.ss, H1, F1⟩) rfl x2)) (E1.called (c' := ⟨c.ss, H1, F1⟩) rfl x2 s2 st2) r2 t2
  · intro ds a us b2 H2 F2 _ _ _ _ _ _ _ z
    exact False.elim z
  · intro b2 d H2 F2 _ _ _ z
    exact False.elim z
/-- .. a new list -/
theorem gnw_call {β : Type} {g : List Ar → Wp (List D)} (F : FnOk X.prog X.w X.K X.mg X.base CX0 k f fd ps (spR vwWL cp ps.length g)) (hr : Room k X.A) (hg : Gl X x) (hm : X.mg x = some (.ref f)) (hk : PySem.W.keepIn X.K (.ref f) = true) (hb : Binds X.K fd ps []) {w : (List Ar → Wp β) → Wp β}
    (ha : GR X c (e :: es) Γ w) (hn : (e :: es).length = ps.length := by rfl) (hdb : (x == ("__debug__" : Str)) = false := by decide) (he : starEach (e :: es) X.env = (false, eval e X.env) :: starEach es X.env := by rfl) (hpl : (backTo pos (starEach es X.env)).any (·.1) = false := by rfl) :
    GN X c (.Call (.Name x p) (e :: es) [] pos) Γ (fun k => w fun as => bW (g as) k) := fun P b σ H F1 Q kk E t q => by
  refine (pe_call F hr hg hm hk hb .nil pass0 pa_w hdb he hpl).w ?_
  refine ha P b σ H F1 _ _ E t fun as vs b1 H1 F1 x1 E1 l1 r1 t1 => ?_
  have lv := r1.length
  refine ⟨by rw [List.append_nil]; omega, ⟨c.ss, H1, F1⟩, as, fun d b' => kk d P b', b1, rfl, E1.sub, by rw [List.append_nil]; exact r1, StX.of E1, t1, ?_, ?_, ?_⟩
  · intro ds a b2 H2 F2 _ _ _ _ z
    exact False.elim z
  · intro ds a us b2 H2 F2 x2 s2 st2 h1 h2 h3 r2 t2
    exact q ds a us b2 H2 F2 (x1.trans (xt_same (c' := ⟨c.ss, H1, F1⟩) rfl x2)) (E1.called (c' := ⟨c.ss, H1, F1⟩) rfl x2 s2 st2) (x1.k a h1) h2 h3 (E1.h0none h1) (E1.notSt h1) (E1.owNot h1) r2 t2
  · intro b2 d H2 F2 _ _ _ z
    exact False.elim z
end
end G

end
section
set_option Elab.async false
set_option linter.all false
set_option maxRecDepth 100000
/-! G9: an own exception whose __init__ says super().__init__('..'), then self.reason = reason (turned from the worked proof skel/42). -/
namespace PySem
namespace GX
open PySem.W PySem.Calls PyProof.Rows PySem.HandSPX
abbrev bmVE : List Value := [.type "ValueError", .type "Exception", .type "BaseException", .type "object"]
/-! ### the text of __init__ -/
def iA (p1 p2 : Pos) : Arguments := { posonlyargs := [], args := [{ arg := "self", annotation := none, pos := p1 }, { arg := "reason", annotation := none, pos := p2 }], vararg := none, kwonlyargs := [], kw_defaults := [], kwarg := none, defaults := [] }
def iB (x : Str) (j : Nat) (r1 r2 r3 r4 r5 r6 q1 q2 q3 q4 : Pos) : List Stmt :=
  [.Expr (.Call (.Attribute (.Call (.Name "super" r1) [] [] r2) "__init__" r3) [.Constant (.str x) j r4] [] r5) r6, .Assign [.Attribute (.Name "self" q1) "reason" q2] (.Name "reason" q3) q4]
def iS : Scope := { kind := .function, names := [(PySem.Str.ofString "self", .local), (PySem.Str.ofString "reason", .local), (PySem.Str.ofString "__class__", .free), (PySem.Str.ofString "super", .globalImplicit)], isGenerator := false, isCoroutine := false, more := [] }
/-- where the positions stand, a method is called -/
def HEv (x : Str) (j : Nat) (r1 r2 r3 r4 r5 : Pos) : Prop := ∃ pl : Sem Bool, ∀ env : Env, eval (.Call (.Attribute (.Call (.Name "super" r1) [] [] r2) "__init__" r3) [.Constant (.str x) j r4] [] r5) env = (do
      let ov ← attributeBase (.Call (.Name "super" r1) [] [] r2) "__init__" env (eval (.Call (.Name "super" r1) [] [] r2) env)
      standAt r3.atName
      let (f, first) ← holding [ov] (getMethod ov "__init__" pl)
      callWith r5 f first (backTo r5 (starEach [.Constant (.str x) j r4] env)) [])
theorem hev_test : HEv "the paper" 0 ⟨17, 8, 17, 13⟩ ⟨17, 8, 17, 15⟩ ⟨17, 8, 17, 24⟩ ⟨17, 25, 17, 47⟩ ⟨17, 8, 17, 48⟩ := ⟨_, fun _ => rfl⟩
/-- what the written part says of such a class, at C, and of its __init__, at fI -/
structure ErrTxt (prog : Program) (K : Frag) (mg : Str → Option Value) (C fI : Addr) : Prop where
  cls : ∃ nm q N bs bm sn sub ab col dd k0 k1 k2 k3 k5, K.lookup C = some (excClassObj nm q C N bs bm true sn sub ab col dd k0 k1 k2 k3 k5 "ValueError.__new__") ∧ refsVE bm = true
  sa : findIn K (.ref C) "__setattr__" = some (some (.builtin "object.__setattr__"))
  noN : findIn K (.ref C) "reason" = some none
  iC : findIn K (.ref C) "__init__" = some (some (.ref fI))
  tC : typeIn K (.ref fI) = some (.type "function")
  kC : keepIn K (.ref C) = true
  exC : subIn K (.ref C) (.type "BaseException") = some true
  veC : subIn K (.ref C) (.type "ValueError") = some true
  tyC : typeIn K (.ref C) = some (.type "type")
  mro : mroIn K C (.ref C) = some true
  tp : nsIn K cStatics "thirdparty.any" = some none
  sup : ks_superIn K C C "__init__" = some (some (.builtin "ValueError.__init__"))
  xin : excInitIn K C bmVE "ValueError.__new__" = true
  nsup : mg "super" = none
  top : (prog.main.scope.names.lookup ("super" : Str)).isSome = false
  fn : ∃ (oc : Value) (od : Option Addr) (doc pm : Value) (an : Option Addr) (cda : Addr) (ct : Value) (osl : Array (Option Value)) (q : Str) (cc : Addr) (p1 p2 : Pos) (x : Str) (j : Nat) (r1 r2 r3 r4 r5 r6 q1 q2 q3 q4 : Pos),
    K.lookup fI = some ⟨oc, od, .func (ksFn "__init__" q (iA p1 p2) (iB x j r1 r2 r3 r4 r5 r6 q1 q2 q3 q4) iS .none .none doc pm an (.ref cda) ct cc), osl⟩ ∧ codeIn K (.ref cda) q = true ∧
    (∃ ccl cdd vs ccs file tf, K.lookup cda = some ⟨ccl, cdd, .fields vs, ccs⟩ ∧ vs[2]? = some (.str file tf) ∧ ((prog.main.file : Str) == file) = true) ∧
    (∃ cl cld csl, K.lookup cc = some ⟨cl, cld, .cell (some (.ref C)), csl⟩) ∧ HEv x j r1 r2 r3 r4 r5
theorem one_size (v : Value) : [v].length ≤ sizeLine := by
  rw [sizeLine_eq]
  exact (by decide : 1 ≤ 16777216)
/-- what __init__ leaves of a fresh exception at x -/
structure InitEnd (h h' : Heap) (x C dx t1 : Addr) (v : Value) : Prop where
  keep : ∀ b o, b ≠ x → h.get? b = some o → h'.get? b = some o
  obj : h'.get? x = some { cls := .ref C, dict := some dx, data := .fields #[.ref t1, .none, .none, .none, .bool false, .none] }
  dbig : h.objs.size ≤ dx
  dne : dx ≠ x
  ns : h'.Ns1 dx (fun y => if y = "reason" then some v else none)
/-- such an exception, made -/
structure OwnMade (h h' : Heap) (e C d : Addr) (v : Value) : Prop where
  keep : ∀ b o, h.get? b = some o → h'.get? b = some o
  new : h.objs.size ≤ e
  obj : ∃ oe vs, h'.get? e = some oe ∧ oe.cls = .ref C ∧ oe.dict = some d ∧ oe.data = .fields vs ∧ vs[1]? = some .none
  dbig : h.objs.size ≤ d
  dne : d ≠ e
  ns : h'.Ns1 d (fun y => if y = "reason" then some v else none)
section
variable {prog : Program} {w : World} {A : Around} {E : Value → Shared → Prop} {R : Result → Shared → Prop} {s : Shared} {K : Frag} {mg : Str → Option Value} {C fI : Addr} {base : Heap}
theorem err_init (T : ErrTxt prog K mg C fI) (Mo : L2.Mod K mg base) (kb : ∀ b o, base.get? b = some o → s.heap.get? b = some o) (hbz : base.objs.size ≤ s.heap.objs.size) {x t0 : Addr} {v : Value} (hlim : s.heap.NoLimit) (hx : s.heap.get? x = some (excO C t0)) (hnx : base.get? x = none) (hroom : A.depth < recursionLimit)
    (hq : ∀ h' tk dx t1, InitEnd s.heap h' x C dx t1 v → R (.ok (.ret .none)) { s with heap := h', toks := tk }) :
    codeAny (model prog w) A (.call (.ref fI) ⟨[.ref x, v], []⟩) R s := by
  obtain ⟨oc, od, doc, pm, an, cda, ct, osl, q, cc, p1, p2, tx, j, r1, r2, r3, r4, r5, r6, q1, q2, q3, q4, ho, hcd, ⟨ccl, cdd, vs, ccs, file, tf, hcda, hvs, hfile⟩, ⟨cl, cld, csl, hcc⟩, pl, hev⟩ := T.fn
  obtain ⟨nm, qn, N, bs, bm, sn, sub, ab, col, dd, k0, k1, k2, k3, k5, hC, hbm⟩ := T.cls
  have hcl : clsIn K C = some { name := nm, bases := bs, mro := .ref C :: bm, ns := N, qualname := qn, hasDict := true, slotNames := sn, subclasses := sub, abstract := ab, collection := col, hasDel := false } := by unfold clsIn; rw [hC] <;> rfl
  have X : K.In s.heap := Mo.kin.keeps kb
  refine ks_codeAny_call_defAt (binds := [("self", .ref x), ("reason", v)]) hroom (X _ _ ho) rfl hlim (codeRec_of X hcd) rfl (.of_eq (by first | rfl | with_unfolding_all rfl)) (show ∀ y ∈ iS.names, y.2 ≠ .cell by decide +kernel) (by intro y hy; rcases List.mem_cons.mp hy with rfl | hy; rfl; rcases List.mem_cons.mp hy with rfl | hy; rfl; cases hy) (fun h₁ hns k => ?_)
  have hL : s.heap.objs.size ≠ x := Nat.ne_of_gt (Heap.lt_size hx)
  -- all that stood, but x
  have g0 : ∀ b o, (hideAll s.heap [x]).get? b = some o → s.heap.get? b = some o := fun b o e => of_hideAll _ e
  have g1 : ∀ b o, b ≠ x → s.heap.get? b = some o → (hideAll s.heap [x]).get? b = some o := fun b o hb e => hideAll_get _ e (by simpa using hb)
  have gb : ∀ b o, base.get? b = some o → (hideAll s.heap [x]).get? b = some o := fun b o e => g1 b o (fun z => by rw [z, hnx] at e; cases e) (kb b o e)
  have Fr1 : Fr (hideAll s.heap [x]) s.heap.objs.size h₁ (fun y => ([("self", Value.ref x), ("reason", v)] : List (Str × Value)).reverse.lookup y) := ⟨hns, fun b o e => k b o (g0 b o e), Nat.le_of_eq (hideAll_size _ _)⟩
  have X₀ : K.In (hideAll s.heap [x]) := Mo.kin.keeps gb
  have hx0 : (hideAll s.heap [x]).get? x = none := hideAll_none _ (by simp)
  have Nw : News (hideAll s.heap [x]) s.heap.objs.size h₁ [(x, excObj C t0 none .none)] := fun p hp => by
    rcases List.mem_singleton.mp hp with rfl
    exact ⟨k _ _ hx, Ne.symm hL, hx0⟩
  obtain ⟨mb, hb1, hb2⟩ := Mo.blt
  have X₁ : K.In h₁ := X₀.keeps Fr1.keep
  obtain ⟨hp, g, d, t, os⟩ := s
  -- super().__init__('..')
  refine ks_wpAt_execs_cons (ks_wpAt_Expr_any (ks_wpAt_MethodCall (pl := pl) ?_ (hev _)))
  have hD : ∃ oD cd, h₁.get? C = some oD ∧ oD.data = .cls cd := ⟨_, _, X₁ _ _ hC, rfl⟩
  obtain ⟨oD, cdD, hD1, hD2⟩ := hD
  refine ks_wpAt_super_base (env := ksEnv q iS hp.objs.size fI (.ref cda) cc) (ar := { arg := "self", annotation := none, pos := p1 }) (by first | rfl | decide +kernel) (by first | rfl | decide +kernel) (by decide +kernel) rfl (X₁ _ _ ho) rfl rfl rfl (X₁ _ _ hcda) rfl hvs hfile T.top ?_
  refine ks_loadName_global rfl (by first | rfl | decide +kernel) (loadGlobal_builtin (env := ksEnv q iS hp.objs.size fI (.ref cda) cc) ((Mo.glob.keeps gb).keeps Fr1.keep) T.nsup ((hb1.keeps gb).keeps Fr1.keep) ((hb2 _ (by decide +kernel)).trans (show bootBuiltins "super" = some (.type "super") by kernel_rfl)) ⟨rfl, ?_⟩)
  refine wpAny_loadName_free rfl (by first | rfl | decide +kernel) (by first | rfl | decide +kernel) ⟨_, X₁ _ _ hcc, rfl⟩ ?_
  refine wpAny_loadName_local rfl (by first | rfl | decide +kernel) Fr1.ns (by first | rfl | kernel_rfl) ?_
  refine ks_wpAny_isType_cls hD1 hD2 ⟨rfl, ?_⟩
  refine ks_wpAny_call_super hD1 hD2 (Nw.get (List.mem_singleton.mpr rfl)) rfl (fun c e => nomatch e) (looks_mroIn X₁ T.mro) (fun h₂ e2 k2 => ?_)
  obtain ⟨Fr2, Nw2, lt2⟩ := ks_newsPush (s := ⟨h₁, g, d, t, os⟩) (o := ks_superObj C x C) Fr1 Nw rfl e2 k2
  refine kxs_method (s := ⟨h₂, g, d, _, os⟩) kxs_ValueError Fr2 X₀ Nw2 (List.mem_cons_self ..) (InstAt.of_exc0 Nw2 (List.mem_cons_of_mem _ (List.mem_cons_self ..))) T.tp T.sup T.veC (by decide +kernel) (fun u h₃ Fr3 Nw3 lt3 => ?_)
  refine kxs_callWith1 Nw3 (List.mem_cons_self ..) (spliced_more (Constant_str (spliced_none ⟨(Nw3 _ (List.mem_cons_self ..)).1, ?_⟩)))
  have l1 := lt3 (x, excObj C t0 none .none) (List.mem_cons_of_mem _ (List.mem_cons_self ..))
  have l2 := lt2 (x, excObj C t0 none .none) (List.mem_cons_self ..)
  have U : UpdF x (excObj C t0 none .none) ((u, kxs_mw "ValueError.__init__" x) :: (h₁.objs.size, ks_superObj C x C) :: [(x, excObj C t0 none .none)]) (fun o' => (u, kxs_mw "ValueError.__init__" x) :: (h₁.objs.size, ks_superObj C x C) :: [(x, o')]) :=
    UpdF.tail (Nat.ne_of_gt l1) (UpdF.tail (Nat.ne_of_gt l2) (UpdF.head (fun p hp => by cases hp)))
  refine kxs_call (s := ⟨h₃, g, d, _, os⟩) Fr3 X₀ Nw3 F.excBase_ValueError T.xin (List.mem_cons_self ..) U (one_size _) (fun t' h₄ Fr4 Nw4 lt4 => ?_)
  -- self.reason = reason
  have X₄ : K.In h₄ := X₀.keeps Fr4.keep
  have hx₄ : h₄.get? x = some (excO C t') := (Nw4 _ (List.mem_cons_of_mem _ (List.mem_cons_of_mem _ (List.mem_cons_of_mem _ (List.mem_cons_self ..))))).1
  refine wpAt_of_wpAny (wpAny_execs_cons (plainObj_wpAny_Assign_Attribute ?_ rfl))
  refine ESX.ldL (v := v) Fr4.ns (by first | rfl | kernel_rfl) (ESX.ldL (v := .ref x) Fr4.ns (by first | rfl | kernel_rfl) ?_)
  refine set_plain X₄ (ox := excO C t') (od := none) ⟨hx₄, rfl, rfl, trivial⟩ T.sa ?_
  refine exc_osa X₄ hx₄ hcl (show refsVE (.ref C :: bm) = true from hbm) rfl T.noN (fun h₅ tk₅ dx k₅ dn dne hx₅ hn₅ => ?_)
  have z : hp.objs.size < h₄.objs.size := Fr4.ns.lt
  exact wpAny_execs_nil (hq h₅ tk₅ dx t' ⟨fun b o hb e => k₅ b o hb (Fr4.keep b o (g1 b o hb e)), hx₅, Nat.le_of_lt (Nat.lt_of_lt_of_le z dn), dne, hn₅⟩)
theorem err_made (T : ErrTxt prog K mg C fI) (Mo : L2.Mod K mg base) (kb : ∀ b o, base.get? b = some o → s.heap.get? b = some o) (hbz : base.objs.size ≤ s.heap.objs.size) {v : Value} (hlim : s.heap.NoLimit) (hroom : A.depth + 1 < recursionLimit)
    (hq : ∀ h' tk e d, OwnMade s.heap h' e C d v → R (.ok (.ret (.ref e))) { s with heap := h', toks := tk }) :
    codeAny (model prog w) A (.call (.ref C) ⟨[v], []⟩) R s := by
  obtain ⟨nm, q, N, bs, bm, sn, sub, ab, col, dd, k0, k1, k2, k3, k5, hC, hbm⟩ := T.cls
  have X : K.In s.heap := Mo.kin.keeps kb
  obtain ⟨hp, g, dr, tk, os⟩ := s
  have k : ∀ b o, hp.get? b = some o → ((hp.push (kdv_tup [v])).push (excO C hp.objs.size)).get? b = some o := fun b o e => Heap.get?_push_of_some _ (Heap.get?_push_of_some _ e)
  have hget : ((hp.push (kdv_tup [v])).push (excO C hp.objs.size)).get? (hp.objs.size + 1) = some (excO C hp.objs.size) := by heap_get
  have hnx : base.get? (hp.objs.size + 1) = none := by
    cases e : base.get? (hp.objs.size + 1) with
    | none => rfl
    | some o => exact absurd (Nat.lt_of_succ_lt (Heap.lt_size (kb _ _ e))) (Nat.lt_irrefl _)
  refine call_own F.excBase_ValueError (fun X => refsVE_contains X bm hbm) (X _ _ hC) (looks_findIn X T.iC) (fun self => bind_fn X self T.tC) (one_size v) ?_
  refine err_init (s := ⟨(hp.push (kdv_tup [v])).push (excO C hp.objs.size), g, dr, tk, os⟩) T Mo (fun b o e => k b o (kb b o e)) (by simpa only [Heap.size_push] using Nat.le_trans hbz (Nat.le_trans (Nat.le_succ _) (Nat.le_succ _))) (hlim.keeps k) hget hnx ?_ fun h' tk' dx t1 ⟨k', hx, dn, dne, hns⟩ => ?_
  · show A.depth + 1 < recursionLimit
    exact hroom
  · have old : ∀ b o, hp.get? b = some o → h'.get? b = some o := fun b o e => k' b o (Nat.ne_of_lt (Nat.lt_succ_of_lt (Heap.lt_size e))) (k b o e)
    have z : hp.objs.size + 1 + 1 ≤ dx := by simpa only [Heap.size_push] using dn
    exact ⟨rfl, hq h' tk' (hp.objs.size + 1) dx ⟨old, Nat.le_succ _, ⟨_, _, hx, rfl, rfl, rfl, rfl⟩, Nat.le_trans (Nat.le_trans (Nat.le_succ _) (Nat.le_succ _)) z, dne, hns⟩⟩
end
end GX
end PySem
namespace G
open RM (bnd)
open PySem PySem.Spec PyProof.Rows L2
theorem relO_err {v : V} {v' : Value} (r : RelV v v') (f : Str) : RelO (List.lookup f [(("reason" : Str), v)]) (if f = "reason" then some v' else none) := by
  by_cases hw : f = "reason"
  · subst hw
    rw [if_pos rfl]
    have q : List.lookup ("reason" : Str) [(("reason" : Str), v)] = some v := by simp [List.lookup]
    rw [q]
    exact r
  · rw [if_neg hw]
    have qw : (f == ("reason" : Str)) = false := by simpa using hw
    have q2 : List.lookup f [(("reason" : Str), v)] = none := by simp [List.lookup, qw]
    rw [q2]
    trivial
section
variable {X : Cx} {C fI : Addr}
/-- C(e) -/
def tMkErr (C : Addr) (ta : TA) : L2.St → Hp → XK → Prop := fun σ H Q => ta σ H fun vs H1 => ∃ v, vs = [v] ∧ ∀ d, H1 d = none → Q (.ref C) (some d) (upd H1 d (.xd [(("reason" : Str), v)]))
theorem pmk_err {x : Str} {a : Expr} {ta : TA} {p pos : Pos} {k : Nat} (T : PySem.GX.ErrTxt X.prog X.K X.mg C fI) (hr : Room k X.A) (ha : PA X [a] ta) (hg : Gl X x) (hm : X.mg x = some (.ref C)) (hdb : (x == ("__debug__" : Str)) = false := by decide)
    (he : starEach (a :: []) X.env = (false, eval a X.env) :: starEach [] X.env := by rfl) (hpl : (backTo pos (starEach [] X.env)).any (·.1) = false := by rfl) :
    PMk X (.Call (.Name x p) [a] [] pos) (tMkErr C ta) := by
  intro pins s σ H Q I h
  refine wpAny_Call_Name_kw (ld_glob I hg hm ?_ hdb)
  refine PySem.W.callWith_K (h₀ := X.base) I.ok.mod.kin T.kC (thn (ha.run pos pins s σ H _ I h) fun us s1 hh => ?_) he hpl
  obtain ⟨vs, H1, I1, r1, v, ev, q1⟩ := hh
  subst ev
  refine ⟨I1.kIn, ?_⟩
  cases r1 with
  | cons rv rn =>
    rename_i v' us'
    cases rn
    show wpAny _ _ (call (.ref C) [v']) _ _ _
    have hlim := I1.nolimit
    have hbz := Nat.le_trans I1.ok.bsz I1.sz
    have kb := fun b o e => (I1.bs b o e).1
    obtain ⟨hp, g, dr, tk, os⟩ := s1
    refine wpAny_call (PySem.GX.err_made T I1.ok.mod kb hbz hlim (by have := hr.dp; omega) fun h' tk' e d M => ?_)
    show MkP X pins σ Q (.ref e) ⟨h', g, dr, tk', os⟩
    obtain ⟨oe, fv, hoe, hc, hd, hdat, h1⟩ := M.obj
    have hns := M.ns
    obtain ⟨G', g1, g2⟩ := restrict h' fun b => decide (b ≠ e)
    have gk : ∀ b, b ≠ e → G'.get? b = h'.get? b := fun b hb => g1 b (decide_eq_true hb)
    have ge : G'.get? e = none := g2 e (by simp)
    have old : ∀ b o, hp.get? b = some o → G'.get? b = some o := fun b o q => (gk b (Nat.ne_of_lt (Nat.lt_of_lt_of_le (Heap.lt_size q) M.new))).trans (M.keep b o q)
    have ob : ObjOk X.prog X.w (upd H1 d (.xd [(("reason" : Str), v)])) G' d (.xd [(("reason" : Str), v)]) :=
      ⟨_, hns.at (fun o q => (gk d M.dne).trans q), fun f => relO_err rv f⟩
    have J : Inv X pins σ (upd H1 d (.xd [(("reason" : Str), v)])) ⟨G', g, dr, tk', os⟩ := I1.laid (t' := tk') old M.dbig ob
    refine ⟨e, oe, fv, ⟨G', g, dr, tk', os⟩, _, .ref C, some d, rfl, J, fun b o q => ?_, ge, hoe, ⟨hc, hd⟩, hdat, h1, ?_, rfl, I1.bare, raises_own T.exC T.tyC, q1 d (I1.hok.fresh M.dbig)⟩
    · by_cases hb : b = e
      · have q' : G'.get? b = some o := q
        rw [hb, ge] at q'; cases q'
      · exact (gk b hb).symm.trans q
    · rw [upd_ne (Ne.symm M.dne)]
      exact I1.hok.fresh M.new
/-- raise C('..') -/
theorem gs_raise {c : Ct} {R : Type} [RM R] {M : Md R} {Γ : List Sl} {rest : List Stmt} {NX BK CT : Kn R} {x m : Str} {j k : Nat} {p p2 pos pos' : Pos} (hc : X.calm = true) (T : PySem.GX.ErrTxt X.prog X.K X.mg M.cp fI) (hr : Room k X.A) (tk : Takes X M.xw) (hg : Gl X x) (hm : X.mg x = some (.ref M.cp)) (hdb : (x == ("__debug__" : Str)) = false := by decide)
    (he : starEach ([.Constant (.str m) j p2] : List Expr) X.env = [(false, eval (.Constant (.str m) j p2) X.env)] := by rfl) : GSs X c M (.Raise (some (.Call (.Name x p) [.Constant (.str m) j p2] [] pos)) none pos' :: rest) Γ NX BK CT M.ex := fun P b σ H F Dd E fx t fo => by
  refine seq_run (P := P) (b := b) (F := F) ((ps_raise hc tk (pmk_err T hr (pa_cons pe_str pa_nil he) hg hm hdb he)).w ?_)
  refine ⟨_, rfl, fun d hd => ?_⟩
  exact fo.ex b σ Γ _ F (some d) fx (E.more (L2Same.upd hd)) t
end
end G

end
section
set_option Elab.async false
set_option linter.all false
set_option maxRecDepth 100000
/-! G10: a, b = e1, e2; name = [comprehension]; the truth of a list. -/
namespace G
open RM (bnd)
open PySem PySem.Spec PyProof.Rows L2
/-- a value that a name will hold: known to stand, or a list that nobody knows -/
def SlNew (c : Ct) (Hs : Hp) (σ : L2.St) (Γ : List Sl) (H F : Hp) (v : V) : Sl → Prop
  | .va d => Rp F v d
  | .ow ds => ∃ a us, v = .ref a ∧ H a = some (.lst us) ∧ F a = none ∧ c.H0 a = none ∧ c.ss ≠ some a ∧ Hs a = none ∧ (∀ (i : Nat) es, Γ[i]? = some (.ow es) → σ[i]? ≠ some (some (.ref a))) ∧ RpAll F us ds
  | _ => False
def GE (X : Cx) (c : Ct) {R : Type} [RM R] (e : Expr) (Γ : List Sl) {T : Type} (sl : T → Sl) (w : (T → R) → R) : Prop :=
  ∀ (P : RM.Pt R) (b : Nat) (σ : L2.St) (H F : Hp) (Q : VK) (k : T → R), Ev X.K c b σ H F Γ → RM.tr P b (w k) →
    (∀ t v b' H' F', Xt c H F H' F' → Ev X.K c b' σ H' F' Γ → SlNew c H σ Γ H' F' v (sl t) → RM.tr P b' (k t) → Q v H') → wE X e σ H Q
theorem SlNew.mono {c : Ct} {Hs : Hp} {σ : L2.St} {Γ : List Sl} {H F H' F' : Hp} {v : V} (x : Xt c H F H' F') : ∀ {s : Sl}, SlNew c Hs σ Γ H F v s → SlNew c Hs σ Γ H' F' v s
  | .va d, h => Rp.mono x.f h
  | .ow ds, ⟨a, us, e, ha, fa, h0, hs, hn, ho, r⟩ => ⟨a, us, e, x.h _ _ ha hs, by
      cases q : F' a with
      | none => rfl
      | some o => exact absurd (x.n a fa (by rw [q]; exact fun z => nomatch z)) (by rw [ha]; exact fun z => nomatch z), h0, hs, hn, ho, RpAll.mono x.f r⟩
  | .no, h => h
  | .st, h => h
  | .fn _, h => h
theorem SlNew.more {c : Ct} {Hs : Hp} {σ : L2.St} {Γ : List Sl} {H F H' : Hp} {v : V} (s : L2.Same H H') : ∀ {t : Sl}, SlNew c Hs σ Γ H F v t → SlNew c Hs σ Γ H' F v t
  | .va d, h => h
  | .ow ds, ⟨a, us, e, ha, r⟩ => ⟨a, us, e, s _ _ ha, r⟩
  | .no, h => h
  | .st, h => h
  | .fn _, h => h
/-- a name is set -/
theorem Ev.setNew {K : PySem.W.Frag} {c : Ct} {b : Nat} {σ σ0 : L2.St} {H F Hs : Hp} {Γ Γ0 : List Sl} {i : Nat} {v : V} {s : Sl} (E : Ev K c b σ H F Γ) (hi : i < σ.length) (h : SlNew c Hs σ0 Γ0 H F v s)
    (ho : ∀ a ds, s = .ow ds → v = .ref a → ∀ (j : Nat) es, Γ[j]? = some (.ow es) → j ≠ i → σ[j]? ≠ some (some (.ref a))) : Ev K c b (σ.set i (some v)) H F (Γ.set i s) := by
  cases s with
  | va d => exact E.setVa hi h
  | ow ds =>
    obtain ⟨a, us, rfl, ha, fa, h0, hs, hn, ho', r⟩ := h
    exact E.setOw hi ha fa h0 hs (ho a ds rfl rfl) r
  | no => exact h.elim
  | st => exact h.elim
  | fn f => exact h.elim
section
variable {X : Cx} {c : Ct} {R : Type} [RM R] {M : Md R} {Γ : List Sl} {e1 e2 e3 e : Expr} {rest : List Stmt} {NX BK CT : Kn R} {r : R}
theorem GC.ge {w : (D → R) → R} (h : GC X c e Γ w) : GE X c e Γ Sl.va w := fun P b σ H F Q k E t q => h P b σ H F Q k E t fun d v b' H' F' x E' r t' => q d v b' H' F' x E' r t'
theorem GN.ge {w : (List D → R) → R} (h : GN X c e Γ w) : GE X c e Γ Sl.ow w := fun P b σ H F Q k E t q => h P b σ H F Q k E t fun ds a us b' H' F' x E' hn ha fa h0 hs ho r t' => q ds (.ref a) b' H' F' x E' ⟨a, us, rfl, ha, fa, h0, hs, hn, ho, r⟩ t'
variable {T1 T2 T3 : Type} {sl1 : T1 → Sl} {sl2 : T2 → Sl} {sl3 : T3 → Sl} {w1 : (T1 → R) → R} {w2 : (T2 → R) → R} {w3 : (T3 → R) → R} {px py pz pt pt2 pos : Pos} {kt k2 : Nat} {i j l : Nat} {x y z : Str}
/-- what the two sides hold, read together -/
theorem two_run (h1 : GE X c e1 Γ sl1 w1) (h2 : GE X c e2 Γ sl2 w2) {k : T1 → T2 → R} (P : RM.Pt R) {b : Nat} {σ : L2.St} {H F : Hp} {Q : List V → Hp → Prop} (E : Ev X.K c b σ H F Γ) (t : RM.tr P b (w1 fun a => w2 fun b => k a b))
    (q : ∀ t1 t2 v1 v2 b' H' F' H1, Xt c H F H' F' → Ev X.K c b' σ H' F' Γ → SlNew c H σ Γ H' F' v1 (sl1 t1) → SlNew c H1 σ Γ H' F' v2 (sl2 t2) → (∀ a ds, sl1 t1 = .ow ds → v1 = .ref a → H1 a ≠ none) → RM.tr P b' (k t1 t2) → Q [v1, v2] H')
    (hs : starEach [e1, e2] X.env = (false, eval e1 X.env) :: starEach [e2] X.env := by rfl) (hs2 : starEach [e2] X.env = [(false, eval e2 X.env)] := by rfl) : wA X [e1, e2] σ H Q := by
  refine (pa_cons pe_w (pa_cons pe_w pa_nil hs2) hs).w ?_
  refine h1 P b σ H F _ _ E t fun t1 v1 b1 H1 F1 x1 E1 s1 r1 => ?_
  refine h2 P b1 σ H1 F1 _ _ E1 r1 fun t2 v2 b2 H2 F2 x2 E2 s2 r2 => ?_
  refine q t1 t2 v1 v2 b2 H2 F2 H1 (x1.trans x2) E2 (s1.mono x2) s2 (fun a ds e ev => ?_) r2
  rw [e] at s1
  obtain ⟨a', us, e', ha, _⟩ := s1
  rw [ev] at e'
  cases e'
  rw [ha]
  exact fun z => nomatch z
theorem two_set {K : PySem.W.Frag} {b : Nat} {σ : L2.St} {H F Hs H1 : Hp} {v1 v2 : V} {s1 s2 : Sl} (E : Ev K c b σ H F Γ) (hi : i < σ.length) (hj : j < σ.length) (hij : i ≠ j) (n1 : SlNew c Hs σ Γ H F v1 s1) (n2 : SlNew c H1 σ Γ H F v2 s2) (d : ∀ a ds, s1 = .ow ds → v1 = .ref a → H1 a ≠ none) :
    Ev K c b ((σ.set i (some v1)).set j (some v2)) H F ((Γ.set i s1).set j s2) := by
  have E1 := E.setNew hi n1 (fun a ds e ev m es g _ => by
    rw [e] at n1
    obtain ⟨a', us, e', ha, fa, h0, hs, hn, ho, r⟩ := n1
    rw [ev] at e'
    cases e'
    exact ho m es g)
  refine E1.setNew (by rw [List.length_set]; exact hj) n2 (fun a ds e ev m es g hm => ?_)
  rw [e] at n2
  obtain ⟨a', us, e', ha, fa, h0, hs, hn, ho, r⟩ := n2
  rw [ev] at e'
  cases e'
  by_cases him : i = m
  · subst him
    rw [List.getElem?_set_self (by rw [E.len]; exact hi)] at g
    cases g
    rw [List.getElem?_set_self hi]
    intro z
    cases z
    exact d a es rfl rfl hn
  · rw [List.getElem?_set_ne him] at g ⊢
    exact ho m es g
theorem gs_par2 {k : T1 → T2 → R} (hc : X.calm = true) (hN : X.N.Nodup) (hi : X.N[i]? = some x) (hj : X.N[j]? = some y) (h1 : GE X c e1 Γ sl1 w1) (h2 : GE X c e2 Γ sl2 w2) (hr : ∀ t u, GSs X c M rest ((Γ.set i (sl1 t)).set j (sl2 u)) NX BK CT (k t u)) (hij : i ≠ j := by decide)
    (hx : X.env.scope.names.lookup x = some .local := by rfl) (hy : X.env.scope.names.lookup y = some .local := by rfl) (hw : swappedStores [.Tuple [.Name x px, .Name y py] kt pt] (.Tuple [e1, e2] k2 pt2) X.env = pure (some [x, y]) := by rfl)
    (hs : swapsWithSole [.Tuple [.Name x px, .Name y py] kt pt] (.Tuple [e1, e2] k2 pt2) pos.line X.env = pure false := by rfl) (hs1 : starEach [e1, e2] X.env = (false, eval e1 X.env) :: starEach [e2] X.env := by rfl) (hs2 : starEach [e2] X.env = [(false, eval e2 X.env)] := by rfl) (hfx2 : ∀ (σ : L2.St) (o p : Option V), M.fx σ → M.fx ((σ.set i o).set j p) := by exact fun _ _ _ _ => trivial) :
    GSs X c M (.Assign [.Tuple [.Name x px, .Name y py] kt pt] (.Tuple [e1, e2] k2 pt2) pos :: rest) Γ NX BK CT (w1 fun a => w2 fun b => k a b) := fun P b σ H F Dd E fx t fo pins s I => by
  refine seq_run (P := P) (b := b) (F := F) ((ps_par hc hN hi hj hij hx hy pa_w hw hs).w ?_) pins s I
  refine two_run h1 h2 P E t (fun t1 t2 v1 v2 b' H' F' H1 x1 E1 n1 n2 d t' => ?_) hs1 hs2
  exact ⟨v1, v2, rfl, hr t1 t2 P b' _ H' F' Dd (two_set E1 (slen I hi) (slen I hj) hij n1 n2 d) (hfx2 _ _ _ fx) t' (fo.mono x1.f)⟩
/-- .. where a name is a cell: the pair is made -/
theorem gs_par2c {k : T1 → T2 → R} (hc : X.calm = true) (hN : X.N.Nodup) (hi : X.N[i]? = some x) (hj : X.N[j]? = some y) (h1 : GE X c e1 Γ sl1 w1) (h2 : GE X c e2 Γ sl2 w2) (hr : ∀ t u, GSs X c M rest ((Γ.set i (sl1 t)).set j (sl2 u)) NX BK CT (k t u)) (hij : i ≠ j := by decide)
    (hx : Loc X.env.scope x := by first | exact .inl rfl | exact .inr rfl) (hy : Loc X.env.scope y := by first | exact .inl rfl | exact .inr rfl) (hw : swappedStores [.Tuple [.Name x px, .Name y py] kt pt] (.Tuple [e1, e2] k2 pt2) X.env = pure none := by rfl)
    (hs : swapsWithSole [.Tuple [.Name x px, .Name y py] kt pt] (.Tuple [e1, e2] k2 pt2) pos.line X.env = pure false := by rfl) (hs1 : starEach [e1, e2] X.env = (false, eval e1 X.env) :: starEach [e2] X.env := by rfl) (hs2 : starEach [e2] X.env = [(false, eval e2 X.env)] := by rfl)
    (hf : X.fn x = true ∨ X.env.scope.names.lookup x = some .local := by first | exact .inl rfl | exact .inr rfl) (hf2 : X.fn y = true ∨ X.env.scope.names.lookup y = some .local := by first | exact .inl rfl | exact .inr rfl)
    (ha : (assignEach [.Tuple [.Name x px, .Name y py] kt pt] X.env).map (·.2) = [assign (.Tuple [.Name x px, .Name y py] kt pt) X.env] := by rfl) (ha1 : (assignEach [.Name x px, .Name y py] X.env).length = 2 := by rfl) (ha2 : (assignEach [.Name x px, .Name y py] X.env).findIdx? (·.1) = none := by rfl)
    (ha3 : (assignEach [.Name x px, .Name y py] X.env).map (·.2) = assign (.Name x px) X.env :: (assignEach [.Name y py] X.env).map (·.2) := by rfl) (ha4 : (assignEach [.Name y py] X.env).map (·.2) = [assign (.Name y py) X.env] := by rfl) (hfx2 : ∀ (σ : L2.St) (o p : Option V), M.fx σ → M.fx ((σ.set i o).set j p) := by exact fun _ _ _ _ => trivial) :
    GSs X c M (.Assign [.Tuple [.Name x px, .Name y py] kt pt] (.Tuple [e1, e2] k2 pt2) pos :: rest) Γ NX BK CT (w1 fun a => w2 fun b => k a b) := fun P b σ H F Dd E fx t fo pins s I => by
  refine seq_run (P := P) (b := b) (F := F) ((ps_asg (pe_tup pa_w) (pg_tup hc (pgs_cons (pg_name hN hi hx hf) (pgs_cons (pg_name hN hj hy hf2) pgs_nil ha4) ha3) ha1 ha2) hs hw ha).w ?_) pins s I
  refine two_run h1 h2 P E t (fun t1 t2 v1 v2 b' H' F' H1 x1 E1 n1 n2 d t' => ?_) hs1 hs2
  refine ⟨by rw [sizeLine_eq]; show 2 ≤ 16777216; decide, fun p hp => ⟨p, [v1, v2], rfl, .of upd_same, rfl, v1, [v2], rfl, v2, [], rfl, rfl, ?_⟩⟩
  have sm : L2.Same H' (upd H' p (.tup [v1, v2])) := L2Same.upd hp
  exact hr t1 t2 P b' _ _ F' Dd (two_set (E1.more sm) (slen I hi) (slen I hj) hij (n1.more sm) (n2.more sm) d) (hfx2 _ _ _ fx) t' (fo.mono x1.f)
theorem three_run (h1 : GE X c e1 Γ sl1 w1) (h2 : GE X c e2 Γ sl2 w2) (h3 : GE X c e3 Γ sl3 w3) {k : T1 → T2 → T3 → R} (P : RM.Pt R) {b : Nat} {σ : L2.St} {H F : Hp} {Q : List V → Hp → Prop} (E : Ev X.K c b σ H F Γ) (t : RM.tr P b (w1 fun a => w2 fun b => w3 fun d => k a b d))
    (q : ∀ t1 t2 t3 v1 v2 v3 b' H' F' H1 H2, Xt c H F H' F' → Ev X.K c b' σ H' F' Γ → SlNew c H σ Γ H' F' v1 (sl1 t1) → SlNew c H1 σ Γ H' F' v2 (sl2 t2) → SlNew c H2 σ Γ H' F' v3 (sl3 t3) → (∀ a ds, sl1 t1 = .ow ds → v1 = .ref a → H1 a ≠ none ∧ H2 a ≠ none) → (∀ a ds, sl2 t2 = .ow ds → v2 = .ref a → H2 a ≠ none) → RM.tr P b' (k t1 t2 t3) → Q [v1, v2, v3] H')
    (hs : starEach [e1, e2, e3] X.env = (false, eval e1 X.env) :: starEach [e2, e3] X.env := by rfl) (hs2 : starEach [e2, e3] X.env = (false, eval e2 X.env) :: starEach [e3] X.env := by rfl) (hs3 : starEach [e3] X.env = [(false, eval e3 X.env)] := by rfl) : wA X [e1, e2, e3] σ H Q := by
  refine (pa_cons pe_w (pa_cons pe_w (pa_cons pe_w pa_nil hs3) hs2) hs).w ?_
  refine h1 P b σ H F _ _ E t fun t1 v1 b1 H1 F1 x1 E1 s1 r1 => ?_
  refine h2 P b1 σ H1 F1 _ _ E1 r1 fun t2 v2 b2 H2 F2 x2 E2 s2 r2 => ?_
  refine h3 P b2 σ H2 F2 _ _ E2 r2 fun t3 v3 b3 H3 F3 x3 E3 s3 r3 => ?_
  have n1 : ∀ a ds, sl1 t1 = .ow ds → v1 = .ref a → H1 a ≠ none ∧ H2 a ≠ none := fun a ds e ev => by
    have s1' := s1.mono x2
    rw [e] at s1 s1'
    obtain ⟨a', us, e', ha, _⟩ := s1
    obtain ⟨a2, us2, e2, ha2, _⟩ := s1'
    rw [ev] at e' e2
    cases e'
    cases e2
    rw [ha, ha2]
    exact ⟨fun z => (nomatch z), fun z => (nomatch z)⟩
  have n2 : ∀ a ds, sl2 t2 = .ow ds → v2 = .ref a → H2 a ≠ none := fun a ds e ev => by
    rw [e] at s2
    obtain ⟨a', us, e', ha, _⟩ := s2
    rw [ev] at e'
    cases e'
    rw [ha]
    exact fun z => (nomatch z)
  exact q t1 t2 t3 v1 v2 v3 b3 H3 F3 H1 H2 (x1.trans (x2.trans x3)) E3 (s1.mono (x2.trans x3)) (s2.mono x3) s3 n1 n2 r3
theorem three_set {K : PySem.W.Frag} {b : Nat} {σ : L2.St} {H F Hs H1 H2 : Hp} {v1 v2 v3 : V} {s1 s2 s3 : Sl} (E : Ev K c b σ H F Γ) (hi : i < σ.length) (hj : j < σ.length) (hl : l < σ.length) (hij : i ≠ j) (hil : i ≠ l) (hjl : j ≠ l) (n1 : SlNew c Hs σ Γ H F v1 s1) (n2 : SlNew c H1 σ Γ H F v2 s2) (n3 : SlNew c H2 σ Γ H F v3 s3)
    (d : ∀ a ds, s1 = .ow ds → v1 = .ref a → H1 a ≠ none ∧ H2 a ≠ none) (d2 : ∀ a ds, s2 = .ow ds → v2 = .ref a → H2 a ≠ none) :
    Ev K c b (((σ.set i (some v1)).set j (some v2)).set l (some v3)) H F (((Γ.set i s1).set j s2).set l s3) := by
  have E2 := two_set E hi hj hij n1 n2 (fun a ds e ev => (d a ds e ev).1)
  refine E2.setNew (by rw [List.length_set, List.length_set]; exact hl) n3 (fun a ds e ev m es g hm => ?_)
  rw [e] at n3
  obtain ⟨a', us, e', ha, fa, h0, hs, hn, ho, r⟩ := n3
  rw [ev] at e'
  cases e'
  by_cases hjm : j = m
  · subst hjm
    rw [List.getElem?_set_self (by rw [List.length_set, E.len]; exact hj)] at g
    cases g
    rw [List.getElem?_set_self (by rw [List.length_set]; exact hj)]
    intro z
    cases z
    exact d2 a es rfl rfl hn
  · rw [List.getElem?_set_ne hjm] at g ⊢
    by_cases him : i = m
    · subst him
      rw [List.getElem?_set_self (by rw [E.len]; exact hi)] at g
      cases g
      rw [List.getElem?_set_self hi]
      intro z
      cases z
      exact (d a es rfl rfl).2 hn
    · rw [List.getElem?_set_ne him] at g ⊢
      exact ho m es g
theorem gs_par3 {k : T1 → T2 → T3 → R} (hc : X.calm = true) (hN : X.N.Nodup) (hi : X.N[i]? = some x) (hj : X.N[j]? = some y) (hl : X.N[l]? = some z) (h1 : GE X c e1 Γ sl1 w1) (h2 : GE X c e2 Γ sl2 w2) (h3 : GE X c e3 Γ sl3 w3) (hr : ∀ t u v, GSs X c M rest (((Γ.set i (sl1 t)).set j (sl2 u)).set l (sl3 v)) NX BK CT (k t u v)) (hij : i ≠ j := by decide) (hil : i ≠ l := by decide) (hjl : j ≠ l := by decide)
    (hx : X.env.scope.names.lookup x = some .local := by rfl) (hy : X.env.scope.names.lookup y = some .local := by rfl) (hz : X.env.scope.names.lookup z = some .local := by rfl) (hw : swappedStores [.Tuple [.Name x px, .Name y py, .Name z pz] kt pt] (.Tuple [e1, e2, e3] k2 pt2) X.env = pure (some [x, y, z]) := by rfl)
    (hs : swapsWithSole [.Tuple [.Name x px, .Name y py, .Name z pz] kt pt] (.Tuple [e1, e2, e3] k2 pt2) pos.line X.env = pure false := by rfl) (hs1 : starEach [e1, e2, e3] X.env = (false, eval e1 X.env) :: starEach [e2, e3] X.env := by rfl) (hs2 : starEach [e2, e3] X.env = (false, eval e2 X.env) :: starEach [e3] X.env := by rfl) (hs3 : starEach [e3] X.env = [(false, eval e3 X.env)] := by rfl)
    (hfx3 : ∀ (σ : L2.St) (o p q : Option V), M.fx σ → M.fx (((σ.set i o).set j p).set l q) := by exact fun _ _ _ _ _ => trivial) :
    GSs X c M (.Assign [.Tuple [.Name x px, .Name y py, .Name z pz] kt pt] (.Tuple [e1, e2, e3] k2 pt2) pos :: rest) Γ NX BK CT (w1 fun a => w2 fun b => w3 fun d => k a b d) := fun P b σ H F Dd E fx t fo pins s I => by
  refine seq_run (P := P) (b := b) (F := F) ((ps_par3 hc hN hi hj hl hij hil hjl hx hy hz pa_w hw hs).w ?_) pins s I
  refine three_run h1 h2 h3 P E t (fun t1 t2 t3 v1 v2 v3 b' H' F' H1 H2 x1 E1 n1 n2 n3 d d2 t' => ?_) hs1 hs2 hs3
  exact ⟨v1, v2, v3, rfl, hr t1 t2 t3 P b' _ H' F' Dd (three_set E1 (slen I hi) (slen I hj) (slen I hl) hij hil hjl n1 n2 n3 d d2) (hfx3 _ _ _ _ fx) t' (fo.mono x1.f)⟩
theorem gs_par3c {k : T1 → T2 → T3 → R} (hc : X.calm = true) (hN : X.N.Nodup) (hi : X.N[i]? = some x) (hj : X.N[j]? = some y) (hl : X.N[l]? = some z) (h1 : GE X c e1 Γ sl1 w1) (h2 : GE X c e2 Γ sl2 w2) (h3 : GE X c e3 Γ sl3 w3) (hr : ∀ t u v, GSs X c M rest (((Γ.set i (sl1 t)).set j (sl2 u)).set l (sl3 v)) NX BK CT (k t u v)) (hij : i ≠ j := by decide) (hil : i ≠ l := by decide) (hjl : j ≠ l := by decide)
    (hx : Loc X.env.scope x := by first | exact .inl rfl | exact .inr rfl) (hy : Loc X.env.scope y := by first | exact .inl rfl | exact .inr rfl) (hz : Loc X.env.scope z := by first | exact .inl rfl | exact .inr rfl) (hw : swappedStores [.Tuple [.Name x px, .Name y py, .Name z pz] kt pt] (.Tuple [e1, e2, e3] k2 pt2) X.env = pure none := by rfl)
    (hs : swapsWithSole [.Tuple [.Name x px, .Name y py, .Name z pz] kt pt] (.Tuple [e1, e2, e3] k2 pt2) pos.line X.env = pure false := by rfl) (hs1 : starEach [e1, e2, e3] X.env = (false, eval e1 X.env) :: starEach [e2, e3] X.env := by rfl) (hs2 : starEach [e2, e3] X.env = (false, eval e2 X.env) :: starEach [e3] X.env := by rfl) (hs3 : starEach [e3] X.env = [(false, eval e3 X.env)] := by rfl)
    (hf : X.fn x = true ∨ X.env.scope.names.lookup x = some .local := by first | exact .inl rfl | exact .inr rfl) (hf2 : X.fn y = true ∨ X.env.scope.names.lookup y = some .local := by first | exact .inl rfl | exact .inr rfl) (hf3 : X.fn z = true ∨ X.env.scope.names.lookup z = some .local := by first | exact .inl rfl | exact .inr rfl)
    (ha : (assignEach [.Tuple [.Name x px, .Name y py, .Name z pz] kt pt] X.env).map (·.2) = [assign (.Tuple [.Name x px, .Name y py, .Name z pz] kt pt) X.env] := by rfl) (ha1 : (assignEach [.Name x px, .Name y py, .Name z pz] X.env).length = 3 := by rfl) (ha2 : (assignEach [.Name x px, .Name y py, .Name z pz] X.env).findIdx? (·.1) = none := by rfl)
    (ha3 : (assignEach [.Name x px, .Name y py, .Name z pz] X.env).map (·.2) = assign (.Name x px) X.env :: (assignEach [.Name y py, .Name z pz] X.env).map (·.2) := by rfl) (ha4 : (assignEach [.Name y py, .Name z pz] X.env).map (·.2) = assign (.Name y py) X.env :: (assignEach [.Name z pz] X.env).map (·.2) := by rfl) (ha5 : (assignEach [.Name z pz] X.env).map (·.2) = [assign (.Name z pz) X.env] := by rfl)
    (hfx3 : ∀ (σ : L2.St) (o p q : Option V), M.fx σ → M.fx (((σ.set i o).set j p).set l q) := by exact fun _ _ _ _ _ => trivial) :
    GSs X c M (.Assign [.Tuple [.Name x px, .Name y py, .Name z pz] kt pt] (.Tuple [e1, e2, e3] k2 pt2) pos :: rest) Γ NX BK CT (w1 fun a => w2 fun b => w3 fun d => k a b d) := fun P b σ H F Dd E fx t fo pins s I => by
  refine seq_run (P := P) (b := b) (F := F) ((ps_asg (pe_tup pa_w) (pg_tup hc (pgs_cons (pg_name hN hi hx hf) (pgs_cons (pg_name hN hj hy hf2) (pgs_cons (pg_name hN hl hz hf3) pgs_nil ha5) ha4) ha3) ha1 ha2) hs hw ha).w ?_) pins s I
  refine three_run h1 h2 h3 P E t (fun t1 t2 t3 v1 v2 v3 b' H' F' H1 H2 x1 E1 n1 n2 n3 d d2 t' => ?_) hs1 hs2 hs3
  refine ⟨by rw [sizeLine_eq]; show 3 ≤ 16777216; decide, fun p hp => ⟨p, [v1, v2, v3], rfl, .of upd_same, rfl, v1, [v2, v3], rfl, v2, [v3], rfl, v3, [], rfl, rfl, ?_⟩⟩
  have sm : L2.Same H' (upd H' p (.tup [v1, v2, v3])) := L2Same.upd hp
  exact hr t1 t2 t3 P b' _ _ F' Dd (three_set (E1.more sm) (slen I hi) (slen I hj) (slen I hl) hij hil hjl (n1.more sm) (n2.more sm) (n3.more sm) d d2) (hfx3 _ _ _ _ fx) t' (fo.mono x1.f)
end
end G

end
section
set_option Elab.async false
set_option linter.all false
set_option maxRecDepth 100000
/-! G11: name = [comprehension], isinstance, max and min of one list. -/
namespace G
open RM (bnd)
open PySem PySem.Spec PyProof.Rows L2 PySem.W
section
variable {X : Cx} {c : Ct} {R : Type} [RM R] {M : Md R} {Γ : List Sl} {e elt tg iter : Expr} {ifs : List Expr} {rest : List Stmt} {NX BK CT : Kn R} {pos spos p p2 py : Pos} {scope : Scope} {own : List (Str × Nat)}
/-- name = [..] on one line -/
theorem gs_setLc {i : Nat} {y : Str} {w : (List D → R) → R} {k : List D → R} (hc : X.calm = true) (hN : X.N.Nodup) (hy : X.N[i]? = some y) (ok : BlkOk X.N X.env.scope scope own) (h : GLc X c scope own elt tg iter ifs Γ w) (hr : ∀ ds, GSs X c M rest (Γ.set i (.ow ds)) NX BK CT (k ds))
    (hyl : X.env.scope.names.lookup y = some .local := by rfl) (hsw : swapsWith (.ListComp elt [⟨tg, iter, ifs, 0⟩] scope pos) (some (.Name y py)) spos.line X.env = pure true := by rfl) (hs : ∀ x, foldedSetIterable iter X.env x = pure x := by intro _; rfl) (hfx : ∀ (σ : L2.St) (o : Option V), M.fx σ → M.fx (σ.set i o) := by exact fun _ _ _ => trivial) :
    GSs X c M (.Assign [.Name y py] (.ListComp elt [⟨tg, iter, ifs, 0⟩] scope pos) spos :: rest) Γ NX BK CT (w k) := fun P b σ H F Dd E fx t fo pins s I => by
  refine seq_run (P := P) (b := b) (F := F) ((ps_setLc (g := bG X scope tg) (tt := bTs X scope ifs) (te := bE X scope elt) hc hN hy hyl hsw pi_w ok (fun s H C cl fp => ⟨fun pins s' σ H' v u Q I r h => h s H C cl fp pins s' u I r⟩) (fun s H C cl fp => ⟨fun pins s' σ H' Q I h => h s H C cl fp pins s' I⟩) (fun s H C cl fp => ⟨fun pins s' σ H' Q I h => h s H C cl fp pins s' I⟩) hs).w ?_) pins s I
  exact h P b σ H F _ k I.len E t fun ds a vs b' H' F' s E' ga ha fa h0 hs' ho r' t' => hr ds P b' _ H' F' Dd (E'.setOw (slen I hy) ha fa h0 hs' (fun j es g _ => ho j es g) r') (hfx _ _ fx) t' (fo.mono s.f)

/-! ### isinstance -/
def tyD : D → Option String
  | .none => some "NoneType"
  | .bool _ => some "bool"
  | .int _ => some "int"
  | .str _ => some "str"
  | .list _ => some "list"
  | .tuple _ => some "tuple"
  | _ => none
def isiS (t n : String) : Bool := t == n || (t == "bool" && n == "int")
def isiD (n : String) (d : D) : Option D := (tyD d).map fun t => .bool (isiS t n)
theorem kitB_ok {t n : String} (ht : t ∈ ["NoneType", "bool", "int", "str", "list", "tuple"]) (hn : n ∈ ["bool", "int", "str", "list", "tuple", "dict"]) : kitB t n = some (isiS t n) := by
  have key : ∀ t ∈ ["NoneType", "bool", "int", "str", "list", "tuple"], ∀ n ∈ ["bool", "int", "str", "list", "tuple", "dict"], kitB t n = some (isiS t n) := by decide +kernel
  exact key t ht n hn
theorem gc_isi {n : String} {x : Str} {w : (D → R) → R} (hg : Gl X "isinstance") (hm : X.mg "isinstance" = none) (hb : bootBuiltins "isinstance" = some (.builtin "isinstance")) (hg2 : Gl X x) (hm2 : X.mg x = none) (hv2 : bootBuiltins x = some (.type n)) (h : GB X c e Γ w)
    (hn : n ∈ ["bool", "int", "str", "list", "tuple", "dict"] := by decide) (hnn : x ≠ "__name__" := by decide) (hdb : (x == ("__debug__" : Str)) = false := by decide)
    (hs : starEach [e, .Name x p2] X.env = (false, eval e X.env) :: starEach [.Name x p2] X.env := by rfl) (hs2 : starEach [.Name x p2] X.env = [(false, eval (.Name x p2) X.env)] := by rfl) (hpl : (backTo pos (starEach [.Name x p2] X.env)).any (·.1) = false := by rfl) :
    GC X c (.Call (.Name "isinstance" p) [e, .Name x p2] [] pos) Γ (fun k => w fun d => bnd (isiD n d) k) := fun P b σ H F Q k E t q => by
  refine (pe_callB call_isi hg hm hb (pa_cons pe_w (pa_cons (pe_bltn (v := .ty n) hg2 hm2 hv2 rfl hnn hdb) pa_nil hs2) hs) (by decide) (by decide) hs hpl).w ?_
  refine h P b σ H F _ _ E t fun d v b' H' F' x1 E' r1 t1 => ?_
  obtain ⟨z, hz, t2⟩ := RM.bh t1
  obtain ⟨ty, h1, rfl⟩ := Option.map_eq_some_iff.mp hz
  have key : ∀ {t : String}, TyX X.K H' v (.type t) → t ∈ ["NoneType", "bool", "int", "str", "list", "tuple"] → tyD d = some t → rIsi X.K [v, .ty n] H' Q := fun {t} a b e => by
    rw [h1] at e
    cases e
    exact ⟨v, .ty n, .type ty, .type n, isiS ty n, rfl, .ty n, a, kit_ty (kitB_ok b hn), q (.bool (isiS ty n)) (.bl (isiS ty n)) b' H' F' x1 E' (.bl _) t2⟩
  cases d <;> try cases h1
  · rw [r1.nonOf] at key ⊢
    exact key (.base .non) (by decide) rfl
  · rw [r1.blOf] at key ⊢
    exact key (.base (.bl _)) (by decide) rfl
  · rw [r1.intOf] at key ⊢
    exact key (.base (.int _)) (by decide) rfl
  · rw [r1.strOf] at key ⊢
    exact key (.base (.str _)) (by decide) rfl
  · obtain ⟨a, vs, rfl, ha, _⟩ := r1.items E'
    exact key (.base (.lst ha)) (by decide) rfl
  · obtain ⟨a, vs, rfl, ha, _⟩ := r1.itemsT E'
    exact key (.base (.tup (E'.sub _ _ ha))) (by decide) rfl

/-! ### max(xs), min(xs): of ints -/
def maxI : List Int → Option Int
  | [] => none
  | n :: ns => some (ns.foldl max n)
def minI : List Int → Option Int
  | [] => none
  | n :: ns => some (ns.foldl min n)
def max1D : List D → Option D
  | [.list ds] => ((intsD ds).bind maxI).map .int
  | [.tuple ds] => ((intsD ds).bind maxI).map .int
  | _ => none
def min1D : List D → Option D
  | [.list ds] => ((intsD ds).bind minI).map .int
  | [.tuple ds] => ((intsD ds).bind minI).map .int
  | _ => none
theorem alike_ints : ∀ ns : List Int, AlikeAll (ns.map PyData.int) := by
  intro ns
  refine ⟨fun x hx y hy => ?_, fun x hx e => ?_⟩
  · obtain ⟨i, _, rfl⟩ := List.mem_map.mp hx
    obtain ⟨j, _, rfl⟩ := List.mem_map.mp hy
    first | rfl | (simp [alike])
  · obtain ⟨i, _, rfl⟩ := List.mem_map.mp hx
    cases e
theorem depth_ints : ∀ ns : List Int, PyData.depthAll (ns.map PyData.int) ≤ 1
  | [] => by first | exact Nat.zero_le _ | decide
  | n :: ns => by
    have := depth_ints ns
    simp only [List.map_cons, PyData.depthAll, PyData.depth]
    omega
theorem maxD_I {n : Int} {ns : List Int} : maxD (.int n) (ns.map PyData.int) = .int (ns.foldl max n) := maxD_ints n ns
theorem reads_int {h : Heap} {v : Value} {i : Int} {bs : List Addr} (r : Reads h v (.int i) bs) : RelV (.int i) v := by
  cases r with
  | int i t => exact ⟨t, rfl⟩
theorem room_depth {k : Nat} {n : Int} {ns : List Int} (hu : X.A.units + 64 < cLine) : X.A.units + 1 + PyData.depthAll (PyData.int n :: ns.map PyData.int) < cLine := by
  have := depth_ints (n :: ns)
  simp only [List.map_cons] at this
  omega
theorem cr_max1 (hc : X.calm = true) (hu : X.A.units + 64 < cLine) : CallR X (.builtin "max") (fun vs H Q => ∃ (a : Addr) (n : Int) (ns : List Int), vs = [V.ref a] ∧ (SqL X.K H a ((n :: ns).map V.int) ∨ SqT X.K H a ((n :: ns).map V.int)) ∧ Q (.int (ns.foldl max n)) H) := by
  intro pins s σ H vs us Q I r h
  obtain ⟨a, n, ns, rfl, hs | hs, q⟩ := h
  · obtain ⟨its, rv, p, hz⟩ := I.list hs
    rw [Vals.ref1 r]
    obtain ⟨as, hr⟩ := Dp.readsAll I ((n :: ns).map PyData.int) ((n :: ns).map V.int) its (RpAll.dp (RpAll.ints (n :: ns))) rv
    refine max_list_data (I.ok.hd hc) p.isList (x := .int n) (xs := ns.map PyData.int) (by simpa using hr) (alike_ints (n :: ns)) (room_depth (k := 0) hu) fun i v h' tk bs _ rd hk => ?_
    rw [maxD_I] at rd
    exact ⟨.int _, H, I.kept hk, reads_int rd, q⟩
  · obtain ⟨its, rv, p, hz⟩ := I.tuple hs
    rw [Vals.ref1 r]
    obtain ⟨as, hr⟩ := Dp.readsAll I ((n :: ns).map PyData.int) ((n :: ns).map V.int) its (RpAll.dp (RpAll.ints (n :: ns))) rv
    refine max_tuple_data (I.ok.hd hc) p (x := .int n) (xs := ns.map PyData.int) (by simpa using hr) (alike_ints (n :: ns)) (room_depth (k := 0) hu) fun i v h' tk bs _ rd hk => ?_
    rw [maxD_I] at rd
    exact ⟨.int _, H, I.kept hk, reads_int rd, q⟩
theorem cr_min1 (hc : X.calm = true) (hu : X.A.units + 64 < cLine) : CallR X (.builtin "min") (fun vs H Q => ∃ (a : Addr) (n : Int) (ns : List Int), vs = [V.ref a] ∧ (SqL X.K H a ((n :: ns).map V.int) ∨ SqT X.K H a ((n :: ns).map V.int)) ∧ Q (.int (ns.foldl min n)) H) := by
  intro pins s σ H vs us Q I r h
  obtain ⟨a, n, ns, rfl, hs | hs, q⟩ := h
  · obtain ⟨its, rv, p, hz⟩ := I.list hs
    rw [Vals.ref1 r]
    obtain ⟨as, hr⟩ := Dp.readsAll I ((n :: ns).map PyData.int) ((n :: ns).map V.int) its (RpAll.dp (RpAll.ints (n :: ns))) rv
    refine min_list_data (I.ok.hd hc) p.isList (x := .int n) (xs := ns.map PyData.int) (by simpa using hr) (alike_ints (n :: ns)) (room_depth (k := 0) hu) fun i v h' tk bs _ rd hk => ?_
    rw [minD_ints] at rd
    exact ⟨.int _, H, I.kept hk, reads_int rd, q⟩
  · obtain ⟨its, rv, p, hz⟩ := I.tuple hs
    rw [Vals.ref1 r]
    obtain ⟨as, hr⟩ := Dp.readsAll I ((n :: ns).map PyData.int) ((n :: ns).map V.int) its (RpAll.dp (RpAll.ints (n :: ns))) rv
    refine min_tuple_data (I.ok.hd hc) p (x := .int n) (xs := ns.map PyData.int) (by simpa using hr) (alike_ints (n :: ns)) (room_depth (k := 0) hu) fun i v h' tk bs _ rd hk => ?_
    rw [minD_ints] at rd
    exact ⟨.int _, H, I.kept hk, reads_int rd, q⟩
theorem cd_max1 (hc : X.calm = true) (hu : X.A.units + 64 < cLine) : CallD X (.builtin "max") max1D := fun c b σ H F Γ vs ds z Q E r h q => by
  unfold max1D at h
  split at h
  · · obtain ⟨m, h1, rfl⟩ := Option.map_eq_some_iff.mp h
      obtain ⟨ns, h2, h3⟩ := Option.bind_eq_some_iff.mp h1
      obtain ⟨v, rfl, rr⟩ := r.one
      obtain ⟨a, us, rfl, ha, ra⟩ := rr.items E
      rw [intsD_eq h2] at ra
      rw [RpAll.intsOf ra] at ha
      cases ns with
      | nil => cases h3
      | cons n ns =>
        cases h3
        exact ⟨_, cr_max1 hc hu, a, n, ns, rfl, .inl (.of ha), q _ H F (Xt.refl) E (.int _)⟩
  · · obtain ⟨m, h1, rfl⟩ := Option.map_eq_some_iff.mp h
      obtain ⟨ns, h2, h3⟩ := Option.bind_eq_some_iff.mp h1
      obtain ⟨v, rfl, rr⟩ := r.one
      obtain ⟨a, us, rfl, ha, ra⟩ := rr.itemsT E
      rw [intsD_eq h2] at ra
      rw [RpAll.intsOf ra] at ha
      cases ns with
      | nil => cases h3
      | cons n ns =>
        cases h3
        exact ⟨_, cr_max1 hc hu, a, n, ns, rfl, .inr (.of (E.sub _ _ ha)), q _ H F (Xt.refl) E (.int _)⟩
  · cases h
theorem cd_min1 (hc : X.calm = true) (hu : X.A.units + 64 < cLine) : CallD X (.builtin "min") min1D := fun c b σ H F Γ vs ds z Q E r h q => by
  unfold min1D at h
  split at h
  · · obtain ⟨m, h1, rfl⟩ := Option.map_eq_some_iff.mp h
      obtain ⟨ns, h2, h3⟩ := Option.bind_eq_some_iff.mp h1
      obtain ⟨v, rfl, rr⟩ := r.one
      obtain ⟨a, us, rfl, ha, ra⟩ := rr.items E
      rw [intsD_eq h2] at ra
      rw [RpAll.intsOf ra] at ha
      cases ns with
      | nil => cases h3
      | cons n ns =>
        cases h3
        exact ⟨_, cr_min1 hc hu, a, n, ns, rfl, .inl (.of ha), q _ H F (Xt.refl) E (.int _)⟩
  · · obtain ⟨m, h1, rfl⟩ := Option.map_eq_some_iff.mp h
      obtain ⟨ns, h2, h3⟩ := Option.bind_eq_some_iff.mp h1
      obtain ⟨v, rfl, rr⟩ := r.one
      obtain ⟨a, us, rfl, ha, ra⟩ := rr.itemsT E
      rw [intsD_eq h2] at ra
      rw [RpAll.intsOf ra] at ha
      cases ns with
      | nil => cases h3
      | cons n ns =>
        cases h3
        exact ⟨_, cr_min1 hc hu, a, n, ns, rfl, .inr (.of (E.sub _ _ ha)), q _ H F (Xt.refl) E (.int _)⟩
  · cases h
end
end G

end
section
set_option Elab.async false
set_option linter.all false
set_option maxRecDepth 100000
/-! G12: how the mirrors are written. -/
namespace G
open RM (bnd)
open PySem PySem.Spec PyProof.Rows L2
section
variable {R : Type} [RM R]
def stuck : R := bnd (none : Option R) id
def andW (w w' : (Bool → R) → R) : (Bool → R) → R := fun k => w fun t => if t = true then w' k else k false
def orW (w w' : (Bool → R) → R) : (Bool → R) → R := fun k => w fun t => if t = true then k true else w' k
def andV (w w' : (D → R) → R) : (D → R) → R := fun k => w fun x => bnd (truD x) fun t => if t = true then w' k else k x
def orV (w w' : (D → R) → R) : (D → R) → R := fun k => w fun x => bnd (truD x) fun t => if t = true then k x else w' k
def ifV (wt : (Bool → R) → R) (w w' : (D → R) → R) : (D → R) → R := fun k => wt fun t => if t = true then w k else w' k
def chT (w1 w2 : (D → R) → R) (g : D → D → Option Bool) (w3 : (D → R) → R) (g' : D → D → Option Bool) : (Bool → R) → R := fun k => w1 fun x => w2 fun y => bnd (g x y) fun t => if t = true then w3 fun z => bnd (g' y z) k else k false
def chV (w1 w2 : (D → R) → R) (g : D → D → Option Bool) (w3 : (D → R) → R) (g' : D → D → Option Bool) : (D → R) → R := fun k => w1 fun x => w2 fun y => bnd (g x y) fun t => if t = true then w3 fun z => bnd (g' y z) fun t => k (.bool t) else k (.bool false)
def jn {S : Type} (k : S → R) (f : (S → R) → R) : R := f k
def lcP {T : Type} (δ : D → Option T) (f : T → Option (Option D)) (ds : List D) : Option (List D) := cmpL (fun x => (δ x).bind f) ds
def lcW {T : Type} (δ : D → Option T) (f : T → (Option D → R) → R) (ds : List D) (k : List D → R) : R := bnd (szD ds) fun _ => cmpC (fun x kk => bnd (δ x) fun t => f t kk) ds k
def nameδ : D → Option D := fun d => some d
def forD {S T : Type} (δ : D → Option T) (f : S → T → (S → R) → (S → R) → R) (ds : List D) (s : S) (k : S → R) : R := forL (fun s d kc kb => bnd (δ d) fun t => f s t kc kb) ds s k
def whileD {S : Type} (wt : S → (Bool → R) → R) (f : S → (S → R) → (S → R) → R) (n : Nat) (s : S) (k : S → R) : R := whileL (fun s kc kb => wt s fun t => if t = true then f s kc kb else kb s) n s k
end
section
variable {X : Cx} {c : Ct} {R : Type} [RM R] {M : Md R} {Γ : List Sl} {NX BK CT : Kn R}
theorem gs_stuck {sts : List Stmt} : GSs X c M sts Γ NX BK CT (stuck : R) := gs_bot
end
/-- a draw: any number below n -/
def drawW (d : D) : Wp D := fun P b => ∃ n : Int, d = .int n ∧ 0 < n ∧ n < 1073741824 ∧ ∃ b', b = b' + 1 ∧ ∀ i : Int, 0 ≤ i → i < n → P (.int i) b'
def drawG : List Ar → Wp D
  | [.st, .d x] => drawW x
  | _ => fun _ _ => False
end G
namespace L2
theorem Room.in65 {k : Nat} {A : PySem.Around} (r : Room k A) : A.units + 65 < PySem.cLine := by have := r.un; omega
end L2
namespace G
open RM (bnd)
open PySem PySem.Spec PyProof.Rows L2
def notOw : Option Sl → Bool
  | some (.ow _) => false
  | _ => true
theorem noOwn_of {Γ : List Sl} {vs : List Nat} (h : (vs.all fun v => notOw Γ[v]?) = true) : ∀ (i : Nat) es, Γ[i]? = some (.ow es) → i ∉ vs := fun i es g hm => by
  have := List.all_eq_true.mp h i hm
  rw [g] at this
  cases this
def retW {α : Type} (x : α) : Wp α := fun P b => P x b
theorem bt_len : bootBuiltins "len" = some (.builtin "len") := by kernel_rfl
theorem bt_abs : bootBuiltins "abs" = some (.builtin "abs") := by kernel_rfl
theorem bt_sum : bootBuiltins "sum" = some (.builtin "sum") := by kernel_rfl
theorem bt_all : bootBuiltins "all" = some (.builtin "all") := by kernel_rfl
theorem bt_max : bootBuiltins "max" = some (.builtin "max") := by kernel_rfl
theorem bt_min : bootBuiltins "min" = some (.builtin "min") := by kernel_rfl
theorem bt_isinstance : bootBuiltins "isinstance" = some (.builtin "isinstance") := by kernel_rfl
theorem bt_tuple : bootBuiltins "tuple" = some (.type "tuple") := by kernel_rfl
theorem bt_list : bootBuiltins "list" = some (.type "list") := by kernel_rfl
theorem bt_int : bootBuiltins "int" = some (.type "int") := by kernel_rfl
theorem bt_bool : bootBuiltins "bool" = some (.type "bool") := by kernel_rfl
theorem bt_str : bootBuiltins "str" = some (.type "str") := by kernel_rfl
theorem bt_dict : bootBuiltins "dict" = some (.type "dict") := by kernel_rfl
end G

end
section
set_option Elab.async false
set_option linter.all false
set_option maxRecDepth 100000
/-! G13: the law's own draws. -/
namespace G
open RM (bnd)
open PySem PySem.Spec PyProof.Rows L2
def par3D (l ds : List D) (i j k : Int) : Option (List D) := match ds with
  | [a, b, c] => (setD l (.int i) a).bind fun l1 => (setD l1 (.int j) b).bind fun l2 => setD l2 (.int k) c
  | _ => none
theorem setD_int {l l' : List D} {i : Int} {d : D} (h : setD l (.int i) d = some l') : ∃ n, ixN l.length i = some n ∧ l' = l.set n d := by
  obtain ⟨n, h1, h2⟩ := Option.map_eq_some_iff.mp (show (ixN l.length i).map _ = some l' from h)
  exact ⟨n, h1, h2.symm⟩
section
variable {X : Cx} {c : Ct} {R : Type} [RM R] {M : Md R} {Γ : List Sl} {e1 e2 e3 : Expr} {rest : List Stmt} {NX BK CT : Kn R} {p1 p2 p3 q1 q2 q3 r1 r2 r3 pt pt2 pos : Pos} {kt k2 j1 j2 j3 : Nat}
theorem gs_parix3 {i : Nat} {x : Str} {ds : List D} {n1 n2 n3 : Int} {ws : (List D → R) → R} {k : List D → R} (hc : X.calm = true) (hi : X.N[i]? = some x) (hv : Vis X.env.scope x) (g : Γ[i]? = some (.ow ds)) (h : GAs X c [e1, e2, e3] Γ ws) (hr : ∀ es, GSs X c M rest (Γ.set i (.ow es)) NX BK CT (k es))
    (hd : (x == ("__debug__" : Str)) = false := by decide) (hcd : (x == ("__classdict__" : Str)) = false := by decide)
    (hp1 : ∀ {to ti : TE} {t : TSet}, PE X (.Name x p1) to → PE X (.Constant (.int n1) j1 q1) ti → PSet X t → PG X (.Subscript (.Name x p1) (.Constant (.int n1) j1 q1) r1) (gSub to ti t) := by intro _ _ _ a b c; exact pg_sub a b c)
    (hp2 : ∀ {to ti : TE} {t : TSet}, PE X (.Name x p2) to → PE X (.Constant (.int n2) j2 q2) ti → PSet X t → PG X (.Subscript (.Name x p2) (.Constant (.int n2) j2 q2) r2) (gSub to ti t) := by intro _ _ _ a b c; exact pg_sub a b c)
    (hp3 : ∀ {to ti : TE} {t : TSet}, PE X (.Name x p3) to → PE X (.Constant (.int n3) j3 q3) ti → PSet X t → PG X (.Subscript (.Name x p3) (.Constant (.int n3) j3 q3) r3) (gSub to ti t) := by intro _ _ _ a b c; exact pg_sub a b c)
    (hpg : ∀ {t1 t2 t3 : TG}, PG X (.Subscript (.Name x p1) (.Constant (.int n1) j1 q1) r1) t1 → PG X (.Subscript (.Name x p2) (.Constant (.int n2) j2 q2) r2) t2 → PG X (.Subscript (.Name x p3) (.Constant (.int n3) j3 q3) r3) t3 →
      PGs X [.Subscript (.Name x p1) (.Constant (.int n1) j1 q1) r1, .Subscript (.Name x p2) (.Constant (.int n2) j2 q2) r2, .Subscript (.Name x p3) (.Constant (.int n3) j3 q3) r3] (gCons t1 (gCons t2 (gCons t3 gNil))) := by intro _ _ _ a b c; exact pgs_cons a (pgs_cons b (pgs_cons c pgs_nil)))
    (ha1 : (assignEach [.Subscript (.Name x p1) (.Constant (.int n1) j1 q1) r1, .Subscript (.Name x p2) (.Constant (.int n2) j2 q2) r2, .Subscript (.Name x p3) (.Constant (.int n3) j3 q3) r3] X.env).length = 3 := by rfl)
    (ha2 : (assignEach [.Subscript (.Name x p1) (.Constant (.int n1) j1 q1) r1, .Subscript (.Name x p2) (.Constant (.int n2) j2 q2) r2, .Subscript (.Name x p3) (.Constant (.int n3) j3 q3) r3] X.env).findIdx? (·.1) = none := by rfl)
    (hs : swapsWithSole [.Tuple [.Subscript (.Name x p1) (.Constant (.int n1) j1 q1) r1, .Subscript (.Name x p2) (.Constant (.int n2) j2 q2) r2, .Subscript (.Name x p3) (.Constant (.int n3) j3 q3) r3] kt pt] (.Tuple [e1, e2, e3] k2 pt2) pos.line X.env = pure false := by rfl)
    (hw : swappedStores [.Tuple [.Subscript (.Name x p1) (.Constant (.int n1) j1 q1) r1, .Subscript (.Name x p2) (.Constant (.int n2) j2 q2) r2, .Subscript (.Name x p3) (.Constant (.int n3) j3 q3) r3] kt pt] (.Tuple [e1, e2, e3] k2 pt2) X.env = pure none := by rfl)
    (ha : (assignEach [.Tuple [.Subscript (.Name x p1) (.Constant (.int n1) j1 q1) r1, .Subscript (.Name x p2) (.Constant (.int n2) j2 q2) r2, .Subscript (.Name x p3) (.Constant (.int n3) j3 q3) r3] kt pt] X.env).map (·.2) = [assign (.Tuple [.Subscript (.Name x p1) (.Constant (.int n1) j1 q1) r1, .Subscript (.Name x p2) (.Constant (.int n2) j2 q2) r2, .Subscript (.Name x p3) (.Constant (.int n3) j3 q3) r3] kt pt) X.env] := by rfl) :
    GSs X c M (.Assign [.Tuple [.Subscript (.Name x p1) (.Constant (.int n1) j1 q1) r1, .Subscript (.Name x p2) (.Constant (.int n2) j2 q2) r2, .Subscript (.Name x p3) (.Constant (.int n3) j3 q3) r3] kt pt] (.Tuple [e1, e2, e3] k2 pt2) pos :: rest) Γ NX BK CT (ws fun vs => bnd (par3D ds vs n1 n2 n3) k) := fun P b σ H F Dd E fx t fo => by
  have pn : ∀ {p : Pos}, PE X (.Name x p) (tVar i) := pe_var hi hv hd hcd
  refine seq_run (P := P) (b := b) (F := F) ((ps_asg (pe_tup pa_w) (pg_tup hc (hpg (hp1 pn pe_int set_list) (hp2 pn pe_int set_list) (hp3 pn pe_int set_list)) ha1 ha2) hs hw ha).w ?_)
  refine h P b σ H F _ _ E t fun vs us b1 H1 F1 x1 E1 rr t1 => ?_
  obtain ⟨es, he, t2⟩ := RM.bh t1
  unfold par3D at he
  split at he
  · rename_i d1 d2 d3
    obtain ⟨l1, h1, he⟩ := Option.bind_eq_some_iff.mp he
    obtain ⟨l2, h2, h3⟩ := Option.bind_eq_some_iff.mp he
    obtain ⟨m1, g1, rfl⟩ := setD_int h1
    obtain ⟨m2, g2, rfl⟩ := setD_int h2
    obtain ⟨m3, g3, rfl⟩ := setD_int h3
    cases rr with
    | cons v1 rr =>
      cases rr with
      | cons v2 rr =>
        cases rr with
        | cons v3 rr =>
          cases rr
          rename_i u1 u2 u3
          refine ⟨by rw [sizeLine_eq]; show 3 ≤ 16777216; decide, fun p hp => ⟨p, [u1, u2, u3], rfl, .of upd_same, rfl, ?_⟩⟩
          have E2 := E1.more (L2Same.upd (o := .tup [u1, u2, u3]) hp)
          obtain ⟨a, ws', z, ha', fa, h0, hss, r0⟩ := E2.sl i _ g
          have hl := RpAll.length r0
          have il : i < Γ.length := (List.getElem?_eq_some_iff.mp g).1
          have E3 := E2.wr g z (RpAll.set v1 m1 r0)
          have g3' : (Γ.set i (.ow (ds.set m1 d1)))[i]? = some (.ow (ds.set m1 d1)) := List.getElem?_set_self il
          have E4 := E3.wr g3' z (RpAll.set v2 m2 (RpAll.set v1 m1 r0))
          rw [List.set_set] at E4
          have g4' : (Γ.set i (.ow ((ds.set m1 d1).set m2 d2)))[i]? = some (.ow ((ds.set m1 d1).set m2 d2)) := List.getElem?_set_self il
          have E5 := E4.wr g4' z (RpAll.set v3 m3 (RpAll.set v2 m2 (RpAll.set v1 m1 r0)))
          rw [List.set_set] at E5
          refine ⟨u1, [u2, u3], rfl, .ref a, z, a, ws', n1, m1, rfl, rfl, ha', by rw [hl]; exact g1, ?_⟩
          refine ⟨u2, [u3], rfl, .ref a, z, a, ws'.set m1 u1, n2, m2, rfl, rfl, upd_same, by rw [List.length_set, hl]; rw [List.length_set] at g2; exact g2, ?_⟩
          refine ⟨u3, [], rfl, .ref a, z, a, (ws'.set m1 u1).set m2 u2, n3, m3, rfl, rfl, upd_same, by rw [List.length_set, List.length_set, hl]; rw [List.length_set, List.length_set] at g3; exact g3, ?_⟩
          exact ⟨rfl, hr _ P b1 σ _ F1 Dd E5 fx t2 (fo.mono x1.f)⟩
  · cases he
end
/-- as the draws' own def is read: its list is its own -/
def ow0 : List Sl → D → Option (D × List D)
  | .ow l :: _, d => some (d, l)
  | _, _ => none
theorem ow0_some {Γ : List Sl} {d : D} {z : D × List D} (h : ow0 Γ d = some z) : Γ[0]? = some (.ow z.2) ∧ d = z.1 := by
  unfold ow0 at h
  split at h
  · cases h; exact ⟨rfl, rfl⟩
  · cases h
def MdO (a : Addr) : Md (Option (D × List D)) where
  rv := ow0
  rn := fun _ _ => none
  ex := none
  xw := fun _ _ _ _ => True
  cp := 0
  fx := fun σ => σ[0]? = some (some (.ref a))
theorem MdO_set {a : Addr} {i : Nat} (hi : i ≠ 0) : ∀ (σ : L2.St) (o : Option V), (MdO a).fx σ → (MdO a).fx (σ.set i o) := fun σ o h => (List.getElem?_set_ne hi).trans h
/-- the cells of the draws' list, as data -/
def stL (cells : List Int) (i c r s t : Int) : List D := [.list (cells.map .int), .int i, .int c, .int r, .int s, .int t]
def StV (b : Nat) (cells : List Int) (i c r s t : Int) : Prop := (∀ z ∈ cells, 0 ≤ z) ∧ 0 ≤ i ∧ i ≤ cells.length ∧ 0 ≤ c ∧ 0 ≤ r ∧ 0 ≤ s ∧ s < 2 ^ 32 ∧ 0 ≤ t ∧ t + b < 2 ^ 60
section
variable {P : Program} {w : World} {K : PySem.W.Frag} {mg : Str → Option Value} {base : Heap} {x qual : Str} {st : Stmt} {f : Addr} {fd : FuncData} {k : Nat} {cp : Addr}
theorem fn_draw (F : Fun K x qual st f fd) (S : FnScope ["state", "many", "found"] ["state", "many"] (defScope st)) (g : List D → D → Option (D × List D))
    (hbody : ∀ (cdv : Value) (A : Around) (outer : List Env) (s : Shared) (H : Hp) (E : XK) (c : Ct) (a : Addr) (l : List D) (n : D), Room k (A.deeper (envOfC qual (defScope st) s.heap.objs.size f cdv)) →
      GSs (X0 P w K mg base ["state", "many", "found"] qual st f cdv A outer s H E) c (MdO a) (defBody st) [.ow l, .va n, .no] KNo KNo KNo (g l n))
    (hg : ∀ (cells : List Int) (i c r s t : Int) (b : Nat) (n : Int), StV (b + 1) cells i c r s t → 0 < n → n < 1073741824 → ∃ z i' c' r' s' t', g (stL cells i c r s t) (.int n) = some (.int z, stL cells i' c' r' s' t') ∧ 0 ≤ z ∧ z < n ∧ StV b cells i' c' r' s' t') :
    FnOk P w K mg base CX0 (k + 1) f fd ["state", "many"] (spR vwW cp 2 drawG) := by
  refine F.ok S (fun vs H Q E h => h.1) fun cdv A outer s H vs Q E hr h => ?_
  obtain ⟨hl, c, as, Pt, b, rfl, s1, ra, hst, t, q1, q2, q3⟩ := h
  refine ⟨_, pss_w, ?_⟩
  cases ra with
  | nil => exact t.elim
  | cons r1 ra =>
    cases ra with
    | nil => cases hl
    | cons r2 ra =>
      cases ra with
      | cons => simp at hl
      | nil =>
        rename_i v1 a1 v2 a2
        cases a1 with
        | d _ => exact t.elim
        | fn _ => exact t.elim
        | st =>
          cases a2 with
          | st => exact t.elim
          | fn _ => exact t.elim
          | d n =>
            obtain ⟨a, rfl, ea⟩ := r1
            obtain ⟨n', rfl, hn0, hn1, b', rfl, hq⟩ := t
            obtain ⟨fa, a1, cells, i, cc, r, s', t', hne, ha, ha1, hv⟩ := hst a ea
            have r2' : Rp c.F0 v2 (.int n') := r2
            have e2 := Rp.intOf r2'
            subst e2
            obtain ⟨z, i2, c2, r2, s2, t2, hgz, hz0, hz1, hv2⟩ := hg cells i cc r s' t' b' n' hv hn0 hn1
            -- all that stood, but the draws' list
            let H0 : Hp := fun y => if y = a then none else c.H0 y
            let c' : Ct := ⟨none, H0, c.F0⟩
            have rr : RpAll c.F0 [.ref a1, .int i, .int cc, .int r, .int s', .int t'] (stL cells i cc r s' t') :=
              .cons (.lst ha1 (RpAll.ints cells)) (.cons (.int _) (.cons (.int _) (.cons (.int _) (.cons (.int _) (.cons (.int _) .nil)))))
            have E0 : Ev K c' 0 (L2.start ["state", "many", "found"] [.ref a, .int n']) c.H0 c.F0 [.ow (stL cells i cc r s' t'), .va (.int n'), .no] := by
              refine ⟨s1, rfl, fun j sl hj => ?_, fun j k x d e h1 h2 h3 h4 => ?_, (fun x hx => nomatch hx), fun x o e _ => ?_, L2.Same.refl _, fun x e n => absurd e n⟩
              · match j, hj with
                | 0, hj => cases hj; exact ⟨a, _, rfl, ha, fa, if_pos rfl, (fun z => nomatch z), rr⟩
                | 1, hj => cases hj; exact ⟨.int n', rfl, .int _⟩
                | 2, hj => cases hj; trivial
                | j + 3, hj => simp at hj
              · match j, k, h1, h2 with
                | 0, 0, _, _ => rfl
                | 0, 1, _, h => cases h
                | 0, 2, _, h => cases h
                | 0, k + 3, _, h => simp at h
                | 1, _, h, _ => cases h
                | 2, _, h, _ => cases h
                | j + 3, _, h, _ => simp at h
              · have e' : (if x = a then none else c.H0 x) = some o := e
                by_cases hx : x = a
                · rw [if_pos hx] at e'; cases e'
                · rw [if_neg hx] at e'; exact e'
            refine hbody cdv A outer s c.H0 E c' a (stL cells i cc r s' t') (.int n') hr (fun z' _ => z' = (PyData.int z, stL cells i2 c2 r2 s2 t2)) 0 _ c.H0 c.F0 _ E0 rfl ⟨_, hgz, rfl⟩ ⟨fun _ _ _ _ _ _ h => h.elim, fun _ _ _ _ _ _ h => h.elim, fun _ _ _ _ _ _ h => h.elim, ?_, ?_, fun _ _ _ _ _ _ _ _ _ => trivial⟩
            · rintro d v b2 σ Γ H2 F2 fx E2 rd ⟨z2, ez, eq⟩
              subst eq
              obtain ⟨g0, ed⟩ := ow0_some (show ow0 Γ d = some _ from ez)
              have ed : d = .int z := ed
              subst ed
              obtain ⟨a', us, z3, ha', fa', h0', _, ru⟩ := E2.sl 0 _ g0
              rw [show σ[0]? = some (some (.ref a)) from fx] at z3
              cases z3
              have keep : ∀ y o, c.H0 y = some o → y ≠ a → H2 y = some o := fun y o e hy => E2.h0 y o ((if_neg hy).trans e) (fun z => nomatch z)
              have hfree : ∀ y, H2 y = none → c.H0 y = none := fun y e => by
                by_cases hy : y = a
                · rw [hy, ha'] at e; cases e
                · cases q : c.H0 y with
                  | none => rfl
                  | some o => rw [keep y o q hy] at e; cases e
              have ru : RpAll F2 us (stL cells i2 c2 r2 s2 t2) := ru
              have nw : ∀ y, c.F0 y = none → F2 y ≠ none → c.H0 y = none := fun y e n => by
                have q : (if y = a then none else c.H0 y) = none := E2.nw y e n
                by_cases hy : y = a
                · rw [hy] at n
                  exact absurd fa' n
                · rw [if_neg hy] at q; exact q
              cases ru with
              | cons w1 ru =>
                cases ru with
                | cons w2 ru =>
                  cases ru with
                  | cons w3 ru =>
                    cases ru with
                    | cons w4 ru =>
                      cases ru with
                      | cons w5 ru =>
                        cases ru with
                        | cons w6 ru =>
                          cases ru
                          rw [Rp.intOf w2, Rp.intOf w3, Rp.intOf w4, Rp.intOf w5, Rp.intOf w6] at ha'
                          obtain ⟨b1, xs, e1, hb1, rx⟩ := Rp.lstOf w1
                          rw [e1] at ha'
                          rw [RpAll.intsOf rx] at hb1
                          refine q1 (.int z) v b' H2 F2 ⟨E2.f0, fun y o e hn => keep y o e (fun h => hn (by rw [h]; exact ea)), hfree, nw⟩ E2.sub (fun y hy => ?_) rd (hq z hz0 hz1)
                          rw [ea] at hy
                          cases hy
                          exact ⟨fa', b1, cells, i2, c2, r2, s2, t2, (fun h => by rw [h, fa'] at hb1; cases hb1), ha', hb1, hv2⟩
            · rintro ds a2 us b2 σ Γ H2 F2 _ _ _ _ _ _ _ ⟨z2, ez, _⟩
              cases ez
end
end G

end
section
set_option Elab.async false
set_option linter.all false
set_option maxRecDepth 100000
/-! G14: mirrors evaluated. -/
namespace G
open RM (bnd)
open PySem PySem.Spec PyProof.Rows L2
/-! ### what the words say -/
theorem ob {α β : Type} (x : α) (k : α → Option β) : bnd (R := Option β) (some x) k = k x := by
  have h : ∀ y : Option α, y = some x → bnd (R := Option β) y k = k x := fun y e => by subst e; rfl
  exact h _ rfl
theorem on {α β : Type} (k : α → Option β) : bnd (R := Option β) none k = none := rfl
theorem addI (i j : Int) : addD (.int i) (.int j) = some (.int (i + j)) := rfl
theorem subI (i j : Int) : subD (.int i) (.int j) = some (.int (i - j)) := rfl
theorem negI (i : Int) : negD (.int i) = some (.int (-i)) := rfl
theorem ltI (i j : Int) : ltD (.int i) (.int j) = some (decide (i < j)) := rfl
theorem leI (i j : Int) : leD (.int i) (.int j) = some (decide (i ≤ j)) := rfl
theorem gtI (i j : Int) : gtD (.int i) (.int j) = some (decide (j < i)) := rfl
theorem geI (i j : Int) : geD (.int i) (.int j) = some (decide (j ≤ i)) := rfl
theorem eqI (i j : Int) : eqD (.int i) (.int j) = some (decide (i = j)) := by
  unfold eqD
  rw [if_pos ⟨by rfl, by rfl⟩]
  congr 1
theorem neI (i j : Int) : neD (.int i) (.int j) = some (!decide (i = j)) := by
  unfold neD
  rw [if_pos ⟨by rfl, by rfl⟩]
  congr 2
theorem truB (b : Bool) : truD (.bool b) = some b := rfl
theorem truN : truD .none = some false := rfl
theorem truI (i : Int) : truD (.int i) = some (i != 0) := rfl
theorem int1 (i : Int) : int1D [.int i] = some (.int i) := rfl
theorem abs1 (i : Int) : absD [.int i] = some (.int i.natAbs) := by
  show some (PyData.int (if i < 0 then -i else i)) = _
  congr 2
  split <;> omega
theorem mulI {i j : Int} (h : isSmall i = true ∨ isSmall j = true) : mulD (.int i) (.int j) = some (.int (i * j)) := by
  show (if isSmall i || isSmall j then some (PyData.int (i * j)) else none) = _
  rw [if_pos (by rw [Bool.or_eq_true]; exact h)]
theorem small_of {i : Int} (h : -(2 ^ 64) < i ∧ i < 2 ^ 64) : isSmall i = true := decide_eq_true h
theorem modI {i j : Int} (h : j ≠ 0) : modD (.int i) (.int j) = some (.int (i.fmod j)) := by
  show (if j ≠ 0 then some (PyData.int (i.fmod j)) else none) = _
  rw [if_pos h]
theorem fdivI {i j : Int} (h : j ≠ 0 ∧ j.natAbs < 1073741824) : fdivD (.int i) (.int j) = some (.int (i.fdiv j)) := by
  show (if j ≠ 0 ∧ j.natAbs < 1073741824 then some (PyData.int (i.fdiv j)) else none) = _
  rw [if_pos h]

/-! ### the draws -/
def drawJ (n : D) (s7 : List D) : Option (D × List D) :=
  bnd (ixD (.list s7) (.int 3)) fun t47 => bnd (gtD t47 (.int 0)) fun b46 => if b46 = true then bnd (ixD (.list s7) (.int 2)) fun t27 => bnd (int1D [t27]) fun t26 => bnd (modD t26 n) fun t25 => bnd (ixD (.list s7) (.int 2)) fun t24 => bnd (fdivD t24 n) fun t23 => bnd (setD s7 (.int 2) t23) fun l16 => ifV (fun k => bnd (ixD (.list l16) (.int 2)) fun t18 => bnd (gtD t18 (.int 0)) fun b17 => k b17) (fun k => bnd (ixD (.list l16) (.int 3)) fun t20 => bnd (subD t20 (.int 1)) fun t19 => k t19) (fun k => k (.int 0)) fun t22 => bnd (setD l16 (.int 3) t22) fun l21 => some (t25, l21) else bnd (ixD (.list s7) (.int 5)) fun t45 => bnd (addD t45 (.int 1)) fun t44 => bnd (setD s7 (.int 5) t44) fun l28 => bnd (ixD (.list l28) (.int 4)) fun t39 => bnd (mulD t39 (.int 48271)) fun t38 => bnd (ixD (.list l28) (.int 5)) fun t42 => bnd (ixD (.list l28) (.int 5)) fun t43 => bnd (mulD t42 t43) fun t41 => bnd (mulD t41 (.int 69621)) fun t40 => bnd (addD t38 t40) fun t37 => bnd (addD t37 (.int 11)) fun t36 => bnd (int1D [t36]) fun t35 => bnd (modD t35 (.int 2147483647)) fun t34 => bnd (setD l28 (.int 4) t34) fun l29 => bnd (ixD (.list l29) (.int 4)) fun t33 => bnd (fdivD t33 (.int 13)) fun t32 => bnd (int1D [t32]) fun t31 => bnd (modD t31 n) fun t30 => some (t30, l29)
def drawM (l : List D) (n : D) : Option (D × List D) :=
  (andW (fun k => bnd (ixD (.list l) (.int 3)) fun t6 => bnd (eqD t6 (.int 0)) fun b5 => k b5) (fun k => bnd (ixD (.list l) (.int 1)) fun t2 => bnd (ixD (.list l) (.int 0)) fun t4 => bnd (lenD [t4]) fun t3 => bnd (ltD t2 t3) fun b1 => k b1)) fun b48 => if b48 = true then bnd (ixD (.list l) (.int 0)) fun t11 => bnd (ixD (.list l) (.int 1)) fun t12 => bnd (ixD t11 t12) fun t10 => bnd (ixD (.list l) (.int 1)) fun t14 => bnd (addD t14 (.int 1)) fun t13 => bnd (par3D l [t10, (.int 60), t13] 2 3 1) fun l9 => (drawJ n) l9 else (drawJ n) l
section
variable {cells : List Int} {i c r s t : Int}
theorem st0 : ixD (.list (stL cells i c r s t)) (.int 0) = some (.list (cells.map .int)) := rfl
theorem st1 : ixD (.list (stL cells i c r s t)) (.int 1) = some (.int i) := rfl
theorem st2 : ixD (.list (stL cells i c r s t)) (.int 2) = some (.int c) := rfl
theorem st3 : ixD (.list (stL cells i c r s t)) (.int 3) = some (.int r) := rfl
theorem st4 : ixD (.list (stL cells i c r s t)) (.int 4) = some (.int s) := rfl
theorem st5 : ixD (.list (stL cells i c r s t)) (.int 5) = some (.int t) := rfl
theorem ss2 (v : Int) : setD (stL cells i c r s t) (.int 2) (.int v) = some (stL cells i v r s t) := rfl
theorem ss3 (v : Int) : setD (stL cells i c r s t) (.int 3) (.int v) = some (stL cells i c v s t) := rfl
theorem ss4 (v : Int) : setD (stL cells i c r s t) (.int 4) (.int v) = some (stL cells i c r v t) := rfl
theorem ss5 (v : Int) : setD (stL cells i c r s t) (.int 5) (.int v) = some (stL cells i c r s v) := rfl
theorem par3 (x y z : Int) : par3D (stL cells i c r s t) [.int x, .int y, .int z] 2 3 1 = some (stL cells z x y s t) := rfl
theorem fdiv_nn {x n : Int} (h : 0 ≤ x) (hn : 0 < n) : 0 ≤ x.fdiv n := by
  rw [Int.fdiv_eq_ediv_of_nonneg _ (Int.le_of_lt hn)]
  exact Int.ediv_nonneg h (Int.le_of_lt hn)
theorem fmod_lt {x n : Int} (hn : 0 < n) : 0 ≤ x.fmod n ∧ x.fmod n < n := ⟨Int.fmod_nonneg_of_pos x hn, Int.fmod_lt_of_pos x hn⟩
theorem drawJ_ok {b : Nat} {n : Int} (h : StV (b + 1) cells i c r s t) (h0 : 0 < n) (h1 : n < 1073741824) : ∃ z i' c' r' s' t', drawJ (.int n) (stL cells i c r s t) = some (.int z, stL cells i' c' r' s' t') ∧ 0 ≤ z ∧ z < n ∧ StV b cells i' c' r' s' t' := by
  obtain ⟨hz, hi0, hi1, hc0, hr0, hs0, hs1, ht0, ht1⟩ := h
  have hn : n ≠ 0 := by omega
  have hnn : n ≠ 0 ∧ n.natAbs < 1073741824 := ⟨hn, by omega⟩
  by_cases hr : 0 < r
  · have hq := fdiv_nn hc0 h0
    by_cases hc : 0 < c.fdiv n
    · refine ⟨c.fmod n, i, c.fdiv n, r - 1, s, t, ?_, (fmod_lt h0).1, (fmod_lt h0).2, hz, hi0, hi1, hq, by omega, hs0, hs1, ht0, by omega⟩
      unfold drawJ ifV
      simp only [st3, ob, gtI, hr, decide_true, if_true, st2, int1, modI hn, fdivI hnn, ss2, hc, subI, ss3]
    · refine ⟨c.fmod n, i, c.fdiv n, 0, s, t, ?_, (fmod_lt h0).1, (fmod_lt h0).2, hz, hi0, hi1, hq, Int.le_refl 0, hs0, hs1, ht0, by omega⟩
      unfold drawJ ifV
      simp only [st3, ob, gtI, hr, decide_true, if_true, st2, int1, modI hn, fdivI hnn, ss2, hc, subI, ss3, decide_false, Bool.false_eq_true, if_false]
  · have e13 : (13 : Int) ≠ 0 ∧ (13 : Int).natAbs < 1073741824 := by decide
    have eM : (2147483647 : Int) ≠ 0 := by decide
    have m1 : mulD (.int s) (.int 48271) = some (.int (s * 48271)) := mulI (.inr (small_of (by decide)))
    have m2 : mulD (.int (t + 1)) (.int (t + 1)) = some (.int ((t + 1) * (t + 1))) := mulI (.inl (small_of (by constructor <;> omega)))
    have m3 : mulD (.int ((t + 1) * (t + 1))) (.int 69621) = some (.int ((t + 1) * (t + 1) * 69621)) := mulI (.inr (small_of (by decide)))
    have hm := fmod_lt (x := s * 48271 + (t + 1) * (t + 1) * 69621 + 11) (n := 2147483647) (by decide)
    refine ⟨((s * 48271 + (t + 1) * (t + 1) * 69621 + 11).fmod 2147483647 |>.fdiv 13).fmod n, i, c, r, (s * 48271 + (t + 1) * (t + 1) * 69621 + 11).fmod 2147483647, t + 1, ?_, (fmod_lt h0).1, (fmod_lt h0).2, hz, hi0, hi1, hc0, hr0, hm.1, by omega, by omega, by omega⟩
    unfold drawJ ifV
    simp only [st3, ob, gtI, hr, decide_false, Bool.false_eq_true, if_false, st5, addI, ss5, st4, m1, m2, m3, int1, modI eM, ss4, fdivI e13, modI hn]
theorem draw_ok {b : Nat} {n : Int} (h : StV (b + 1) cells i c r s t) (h0 : 0 < n) (h1 : n < 1073741824) : ∃ z i' c' r' s' t', drawM (stL cells i c r s t) (.int n) = some (.int z, stL cells i' c' r' s' t') ∧ 0 ≤ z ∧ z < n ∧ StV b cells i' c' r' s' t' := by
  have ln : lenD [.list (cells.map PyData.int)] = some (.int cells.length) := by
    show some (PyData.int ((cells.map PyData.int).length : Int)) = _
    rw [List.length_map]
  have h' := h
  obtain ⟨hz, hi0, hi1, hc0, hr0, hs0, hs1, ht0, ht1⟩ := h
  by_cases hr : r = 0
  · by_cases hl : i < cells.length
    · have hx : ∃ z, cells[i.toNat]? = some z ∧ 0 ≤ z := by
        have : i.toNat < cells.length := by omega
        exact ⟨cells[i.toNat], List.getElem?_eq_getElem this, hz _ (List.getElem_mem this)⟩
      obtain ⟨z, ez, hz0⟩ := hx
      have ex : ixD (.list (cells.map PyData.int)) (.int i) = some (.int z) := by
        show atI (cells.map PyData.int) i = _
        unfold atI ixN
        rw [if_pos hi0, List.length_map, if_pos hl]
        show (cells.map PyData.int)[i.toNat]? = _
        rw [List.getElem?_map, ez]
        rfl
      have h2 : StV (b + 1) cells (i + 1) z 60 s t := ⟨hz, by omega, by omega, hz0, by omega, hs0, hs1, ht0, ht1⟩
      obtain ⟨z', i', c', r', s', t', e, q⟩ := drawJ_ok h2 h0 h1
      refine ⟨z', i', c', r', s', t', ?_, q⟩
      unfold drawM andW
      simp only [st3, ob, eqI, hr, decide_true, if_true, st1, st0, ln, ltI, hl, ex, addI, par3, e]
    · obtain ⟨z', i', c', r', s', t', e, q⟩ := drawJ_ok h' h0 h1
      refine ⟨z', i', c', r', s', t', ?_, q⟩
      unfold drawM andW
      subst hr
      simp only [st3, ob, eqI, decide_true, if_true, st1, st0, ln, ltI, hl, decide_false, Bool.false_eq_true, if_false, e]
  · obtain ⟨z', i', c', r', s', t', e, q⟩ := drawJ_ok h' h0 h1
    refine ⟨z', i', c', r', s', t', ?_, q⟩
    unfold drawM andW
    simp only [st3, ob, eqI, hr, decide_false, Bool.false_eq_true, if_false, e]
end
end G

end
section
set_option Elab.async false
set_option linter.all false
set_option maxRecDepth 100000
/-! G15: calls that may refuse; try .. except PaperError: return False. -/
namespace G
open RM (bnd)
open PySem PySem.Spec PyProof.Rows L2
def arD (n : Nat) (as : List Ar) : Option Unit := if as.length = n then some () else none
/-- a refusing def's answer goes on -/
def bX {R : Type} [RM R] (ex : R) (g : Option (Option D)) (k : D → R) : R := bnd g fun o => match o with | some d => k d | none => ex
/-- an expression that may refuse -/
def GX (X : Cx) (c : Ct) {R : Type} [RM R] (M : Md R) (e : Expr) (Γ : List Sl) (w : (D → R) → R) : Prop :=
  ∀ (P : RM.Pt R) (b : Nat) (σ : L2.St) (H F : Hp) (Q : VK) (k : D → R), Ev X.K c b σ H F Γ → RM.tr P b (w k) →
    (∀ b' (d : Option Addr) H' F', Xt c H F H' F' → Ev X.K c b' σ H' F' Γ → RM.tr P b' M.ex → M.xw (.ref M.cp) d σ H') →
    (∀ d v b' H' F', Xt c H F H' F' → Ev X.K c b' σ H' F' Γ → Rp F' v d → RM.tr P b' (k d) → Q v H') → wE X e σ H Q
section
variable {X : Cx} {c : Ct} {R : Type} [RM R] {M : Md R} {Γ : List Sl} {e : Expr} {es : List Expr} {pos p cpos : Pos} {k : Nat} {f : Addr} {fd : FuncData} {ps : List Str} {x : Str} {rest : List Stmt} {NX BK CT : Kn R} {r : R}
/-- f(..), f a local name -/
theorem gx_callL {i : Nat} {g : List Ar → Option (Option D)} (F : FnOk X.prog X.w X.K X.mg X.base (L2.CX X.prog X.w) k f fd ps (spR vwX M.cp ps.length g)) (hr : Room k X.A) (hN : X.N[i]? = some x) (hv : Vis X.env.scope x) (gi : Γ[i]? = some (.fn f)) (hk : PySem.W.keepIn X.K (.ref f) = true) (hb : Binds X.K fd ps [])
    (tk : Takes X M.xw) (hxw : ∀ cls d σ σ' H, M.xw cls d σ H → M.xw cls d σ' H) {w : (List Ar → R) → R} (ha : GR X c (e :: es) Γ w) (hdb : (x == ("__debug__" : Str)) = false := by decide) (hcd : (x == ("__classdict__" : Str)) = false := by decide)
    (he : starEach (e :: es) X.env = (false, eval e X.env) :: starEach es X.env := by rfl) (hpl : (backTo pos (starEach es X.env)).any (·.1) = false := by rfl) :
    GX X c M (.Call (.Name x p) (e :: es) [] pos) Γ (fun k => w fun as => bnd (arD ps.length as) fun _ => bX M.ex (g as) k) := fun P b σ H F1 Q kk E t qx q => by
  refine (pe_callL F hr hN hv hk hb .nil (passes_call (W := M.xw) (E := fun cls d H => ∀ σ, M.xw cls d σ H) tk (fun cls d σ H h => h σ)) pa_w hdb hcd he hpl).w ⟨E.sl i _ gi, ?_⟩
  refine ha P b σ H F1 _ _ E t fun as vs b1 H1 F1 x1 E1 l1 r1 t1 => ?_
  obtain ⟨_, hl, t2⟩ := RM.bh t1
  have hl : as.length = ps.length := by
    unfold arD at hl
    split at hl
    · assumption
    · cases hl
  obtain ⟨o, hd, t3⟩ := RM.bh (show RM.tr P b1 (bnd (g as) _) from t2)
  have lv := r1.length
  refine ⟨by rw [List.append_nil]; omega, ⟨c.ss, H1, F1⟩, as, fun a b' => a = o ∧ b' = b1, b1, rfl, E1.sub, by rw [List.append_nil]; exact r1, StX.of E1, ⟨o, hd, rfl, rfl⟩, ?_, ?_, ?_⟩
  · rintro d' v b2 H2 F2 x2 s2 st2 r2 ⟨z, ez, eq, eb⟩
    cases ez
    subst eq eb
    exact q d' v b2 H2 F2 (x1.trans (xt_same (c' := ⟨c.ss, H1, F1⟩) rfl x2)) (E1.called (c' := ⟨c.ss, H1, F1⟩) rfl x2 s2 st2) r2 t3
  · rintro ds a us b2 H2 F2 _ _ _ _ _ _ _ ⟨z, ez, _⟩
    cases ez
  · rintro b2 d H2 F2 x2 s2 st2 ⟨z, ez, eq, eb⟩
    cases ez
    subst eq eb
    exact fun σ' => hxw _ _ σ _ _ (qx b2 d H2 F2 (x1.trans (xt_same (c' := ⟨c.ss, H1, F1⟩) rfl x2)) (E1.called (c' := ⟨c.ss, H1, F1⟩) rfl x2 s2 st2) t3)
/-- f(..), f a def of the text -/
theorem gx_call {g : List Ar → Option (Option D)} (F : FnOk X.prog X.w X.K X.mg X.base (L2.CX X.prog X.w) k f fd ps (spR vwX M.cp ps.length g)) (hr : Room k X.A) (hg : Gl X x) (hm : X.mg x = some (.ref f)) (hk : PySem.W.keepIn X.K (.ref f) = true) (hb : Binds X.K fd ps [])
    (tk : Takes X M.xw) (hxw : ∀ cls d σ σ' H, M.xw cls d σ H → M.xw cls d σ' H) {w : (List Ar → R) → R} (ha : GR X c (e :: es) Γ w) (hn : (e :: es).length = ps.length := by rfl) (hdb : (x == ("__debug__" : Str)) = false := by decide)
    (he : starEach (e :: es) X.env = (false, eval e X.env) :: starEach es X.env := by rfl) (hpl : (backTo pos (starEach es X.env)).any (·.1) = false := by rfl) :
    GX X c M (.Call (.Name x p) (e :: es) [] pos) Γ (fun k => w fun as => bX M.ex (g as) k) := fun P b σ H F1 Q kk E t qx q => by
  refine (pe_call F hr hg hm hk hb .nil (passes_call (W := M.xw) (E := fun cls d H => ∀ σ, M.xw cls d σ H) tk (fun cls d σ H h => h σ)) pa_w hdb he hpl).w ?_
  refine ha P b σ H F1 _ _ E t fun as vs b1 H1 F1 x1 E1 l1 r1 t1 => ?_
  obtain ⟨o, hd, t3⟩ := RM.bh (show RM.tr P b1 (bnd (g as) _) from t1)
  have lv := r1.length
  refine ⟨by rw [List.append_nil]; omega, ⟨c.ss, H1, F1⟩, as, fun a b' => a = o ∧ b' = b1, b1, rfl, E1.sub, by rw [List.append_nil]; exact r1, StX.of E1, ⟨o, hd, rfl, rfl⟩, ?_, ?_, ?_⟩
  · rintro d' v b2 H2 F2 x2 s2 st2 r2 ⟨z, ez, eq, eb⟩
    cases ez
    subst eq eb
    exact q d' v b2 H2 F2 (x1.trans (xt_same (c' := ⟨c.ss, H1, F1⟩) rfl x2)) (E1.called (c' := ⟨c.ss, H1, F1⟩) rfl x2 s2 st2) r2 t3
  · rintro ds a us b2 H2 F2 _ _ _ _ _ _ _ ⟨z, ez, _⟩
    cases ez
  · rintro b2 d H2 F2 x2 s2 st2 ⟨z, ez, eq, eb⟩
    cases ez
    subst eq eb
    exact fun σ' => hxw _ _ σ _ _ (qx b2 d H2 F2 (x1.trans (xt_same (c' := ⟨c.ss, H1, F1⟩) rfl x2)) (E1.called (c' := ⟨c.ss, H1, F1⟩) rfl x2 s2 st2) t3)
theorem gs_exprX {w : (D → R) → R} (h : GX X c M e Γ w) (hr : GSs X c M rest Γ NX BK CT r) (hs : swapsWith e none pos.line X.env = pure false := by rfl) : GSs X c M (.Expr e pos :: rest) Γ NX BK CT (w fun _ => r) := fun P b σ H F Dd E fx t fo =>
  seq_run (P := P) (b := b) (F := F) ((ps_expr pe_w hs).w (h P b σ H F _ _ E t (fun b' d H' F' s E' t' => fo.ex b' σ Γ H' F' d fx E' t') fun d v b' H' F' s E' r' t' => hr P b' σ H' F' Dd E' fx t' (fo.mono s.f)))
theorem gs_setX {i : Nat} {pos' : Pos} {w : (D → R) → R} {k : D → R} (hN : X.N.Nodup) (hi : X.N[i]? = some x) (hx : Loc X.env.scope x) (h : GX X c M e Γ w) (hr : ∀ d, GSs X c M rest (Γ.set i (.va d)) NX BK CT (k d))
    (hs : swapsWith e (some (.Name x pos')) pos.line X.env = pure false := by rfl) (hf : X.fn x = true ∨ X.env.scope.names.lookup x = some .local := by first | exact .inl rfl | exact .inr rfl | assumption) (hfx : ∀ (σ : L2.St) (o : Option V), M.fx σ → M.fx (σ.set i o) := by exact fun _ _ _ => trivial) :
    GSs X c M (.Assign [.Name x pos'] e pos :: rest) Γ NX BK CT (w k) := fun P b σ H F Dd E fx t fo pins s I =>
  seq_run (P := P) (b := b) (F := F) ((ps_set hN hi hx pe_w hs hf).w (h P b σ H F _ _ E t (fun b' d H' F' s E' t' => fo.ex b' σ Γ H' F' d fx E' t') fun d v b' H' F' s E' r' t' => hr d P b' _ H' F' Dd (E'.setVa (slen I hi) r') (hfx _ _ fx) t' (fo.mono s.f))) pins s I
theorem gs_retX {w : (D → R) → R} (h : GX X c M e Γ w) : GSs X c M (.Return (some e) pos :: rest) Γ NX BK CT (w (M.rv Γ)) := fun P b σ H F Dd E fx t fo =>
  seq_run (P := P) (b := b) (F := F) ((ps_ret pe_w).w (h P b σ H F _ _ E t (fun b' d H' F' s E' t' => fo.ex b' σ Γ H' F' d fx E' t') fun d v b' H' F' s E' r t' => fo.rt d v b' σ Γ H' F' fx E' r t'))
/-- return e is None -/
theorem gs_retIsN {j : Nat} {npos : Pos} {w : (D → R) → R} (h : GX X c M e Γ w) (hm : behindInMarks .Is (.Constant .none j npos) = false := by first | exact nomark _ | rfl) :
    GSs X c M (.Return (some (.Compare e [.Is] [.Constant .none j npos] cpos)) pos :: rest) Γ NX BK CT (w fun d => bnd (isD d .none) fun t => M.rv Γ (.bool t)) := fun P b σ H F Dd E fx t fo => by
  refine seq_run (P := P) (b := b) (F := F) ((ps_ret (pe_cmpR op_ex pe_w pe_w hm)).w ?_)
  refine h P b σ H F _ _ E t (fun b' d H' F' s E' t' => fo.ex b' σ Γ H' F' d fx E' t') fun d v b' H' F' s E' r t' => ?_
  refine pe_non.w ?_
  obtain ⟨z, hz, t2⟩ := RM.bh t'
  exact c2_is c b' σ H' F' Γ v .non d .none z _ E' (.inl r) (.inl .non) hz (fo.rt (.bool z) (.bl z) b' σ Γ H' F' fx E' (.bl z) t2)
/-- try: .. except PaperError: return False; the body doesn't come to its end -/
theorem gs_try0 {body : List Stmt} {np p1 p2 pos' : Pos} {j : Nat} {V0 : Vw R} {xw0 : WX} {cp0 cp : Addr} (hs : X.stack = X.env :: X.outer) (hf : X.env.frame = some X.env.locals) (hg : Gl X x) (hm : X.mg x = some (.ref cp)) (hxm : PySem.W.exmOne X.K (.ref cp) (.ref cp) = some true)
    (hb : ∀ (W : WX) (pn : List (Addr × Obj)) (xe : Value → Shared → Prop), Takes (X.tr pn xe) W → PassesOwn (model X.prog X.w) X.A X.env xe → (∀ cls d σ σ' H, W cls d σ H → W cls d σ' H) → GSs (X.tr pn xe) c (Vw.md ⟨V0.rv, V0.rn, V0.rv (.bool false)⟩ W cp) body Γ KNo KNo KNo r) (hdb : (x == ("__debug__" : Str)) = false := by decide) :
    GSs X c (V0.md xw0 cp0) (.Try body [.ExceptHandler (some (.Name x np)) none [.Return (some (.Constant (.bool false) j p1)) p2] pos'] [] [] pos :: rest) Γ NX BK CT r := fun P b σ H F Dd E fx t fo => by
  refine seq_run (P := P) (b := b) (F := F) ((ps_try_only (tb := fun W D σ H => ∀ (pn : List (Addr × Obj)) (xe : Value → Shared → Prop), Takes (X.tr pn xe) W → PassesOwn (model X.prog X.w) X.A X.env xe → wSs (X.tr pn xe) body D σ H) (ts := fun _ _ _ => tRet (tC (.bl false))) (Wout := fun _ _ _ _ => False) hs hf ⟨hg, hdb, .inl hm⟩ takes0
    (fun W pn xe tk po => ⟨fun pins s σ H D I h => h pn xe tk po pins s I⟩) (fun a oe cls d pn _ _ => pss_one (ps_ret pe_bl))).w ?_)
  intro pn xe tk po
  refine hb _ pn xe tk po (fun cls d σ σ' H h => ?_) P b σ H F _ E True.intro t ⟨fun _ _ _ _ _ _ h => h.elim, fun _ _ _ _ _ _ h => h.elim, fun _ _ _ _ _ _ h => h.elim, fun d v b σ Γ H F' fx E r t => fo.rt d v b σ Γ H F' True.intro E r t, fun ds a us b σ Γ H F' fx E ha fa h0 hs r t => fo.rtN ds a us b σ Γ H F' True.intro E ha fa h0 hs r t, fun b σ Γ H F' d fx E t => ?_⟩
  · exact h
  · exact ⟨true, hxm, fun _ a ha => fo.rt (.bool false) (.bl false) b σ Γ H F' True.intro E (.bl false) t, fun z => nomatch z⟩
end
/-! ### _law_is_taken -/
def takenM (n : Nat) (g : List Ar → Option (Option D)) (s : D) : Option D :=
  bnd (lenD [s]) fun l => bnd (eqD l (.int 2)) fun b => if b = true then bnd (ixD s (.int 0)) fun t0 => bnd (ixD s (.int 1)) fun t1 => bnd (arD n [.d t0, .d t1]) fun _ => bX (some (.bool false)) (g [.d t0, .d t1]) fun d => bnd (isD d .none) fun t => some (.bool t) else
  bnd (lenD [s]) fun l => bnd (eqD l (.int 3)) fun b => if b = true then bnd (ixD s (.int 0)) fun t0 => bnd (ixD s (.int 1)) fun t1 => bnd (ixD s (.int 2)) fun t2 => bnd (arD n [.d t0, .d t1, .d t2]) fun _ => bX (some (.bool false)) (g [.d t0, .d t1, .d t2]) fun d => bnd (isD d .none) fun t => some (.bool t) else
  bnd (lenD [s]) fun l => bnd (eqD l (.int 4)) fun b => if b = true then bnd (ixD s (.int 0)) fun t0 => bnd (ixD s (.int 1)) fun t1 => bnd (ixD s (.int 2)) fun t2 => bnd (ixD s (.int 3)) fun t3 => bnd (arD n [.d t0, .d t1, .d t2, .d t3]) fun _ => bX (some (.bool false)) (g [.d t0, .d t1, .d t2, .d t3]) fun d => bnd (isD d .none) fun t => some (.bool t) else
  bnd (lenD [s]) fun l => bnd (eqD l (.int 5)) fun b => if b = true then bnd (ixD s (.int 0)) fun t0 => bnd (ixD s (.int 1)) fun t1 => bnd (ixD s (.int 2)) fun t2 => bnd (ixD s (.int 3)) fun t3 => bnd (ixD s (.int 4)) fun t4 => bnd (arD n [.d t0, .d t1, .d t2, .d t3, .d t4]) fun _ => bX (some (.bool false)) (g [.d t0, .d t1, .d t2, .d t3, .d t4]) fun d => bnd (isD d .none) fun t => some (.bool t) else
  bnd (lenD [s]) fun l => bnd (eqD l (.int 6)) fun b => if b = true then bnd (ixD s (.int 0)) fun t0 => bnd (ixD s (.int 1)) fun t1 => bnd (ixD s (.int 2)) fun t2 => bnd (ixD s (.int 3)) fun t3 => bnd (ixD s (.int 4)) fun t4 => bnd (ixD s (.int 5)) fun t5 => bnd (arD n [.d t0, .d t1, .d t2, .d t3, .d t4, .d t5]) fun _ => bX (some (.bool false)) (g [.d t0, .d t1, .d t2, .d t3, .d t4, .d t5]) fun d => bnd (isD d .none) fun t => some (.bool t) else
  bnd (ixD s (.int 0)) fun t0 => bnd (ixD s (.int 1)) fun t1 => bnd (ixD s (.int 2)) fun t2 => bnd (ixD s (.int 3)) fun t3 => bnd (ixD s (.int 4)) fun t4 => bnd (ixD s (.int 5)) fun t5 => bnd (ixD s (.int 6)) fun t6 => bnd (arD n [.d t0, .d t1, .d t2, .d t3, .d t4, .d t5, .d t6]) fun _ => bX (some (.bool false)) (g [.d t0, .d t1, .d t2, .d t3, .d t4, .d t5, .d t6]) fun d => bnd (isD d .none) fun t => some (.bool t)
def takenV (r : Option (Option D)) : Option D := bX (some (.bool false)) r fun d => bnd (isD d .none) fun t => some (.bool t)
theorem takenM2 (g : List Ar → Option (Option D)) (x0 x1 : D) : takenM 2 g (.list [x0, x1]) = takenV (g [.d x0, .d x1]) := rfl
theorem takenM3 (g : List Ar → Option (Option D)) (x0 x1 x2 : D) : takenM 3 g (.list [x0, x1, x2]) = takenV (g [.d x0, .d x1, .d x2]) := rfl
theorem takenM4 (g : List Ar → Option (Option D)) (x0 x1 x2 x3 : D) : takenM 4 g (.list [x0, x1, x2, x3]) = takenV (g [.d x0, .d x1, .d x2, .d x3]) := rfl
theorem takenM5 (g : List Ar → Option (Option D)) (x0 x1 x2 x3 x4 : D) : takenM 5 g (.list [x0, x1, x2, x3, x4]) = takenV (g [.d x0, .d x1, .d x2, .d x3, .d x4]) := rfl
theorem takenM6 (g : List Ar → Option (Option D)) (x0 x1 x2 x3 x4 x5 : D) : takenM 6 g (.list [x0, x1, x2, x3, x4, x5]) = takenV (g [.d x0, .d x1, .d x2, .d x3, .d x4, .d x5]) := rfl
theorem takenM7 (g : List Ar → Option (Option D)) (x0 x1 x2 x3 x4 x5 x6 : D) : takenM 7 g (.list [x0, x1, x2, x3, x4, x5, x6]) = takenV (g [.d x0, .d x1, .d x2, .d x3, .d x4, .d x5, .d x6]) := rfl

def takenG (f : Addr) (t : D → Option D) : List Ar → Option D
  | [.fn f', .d s] => if f' = f then t s else none
  | _ => none
def spT (cp f : Addr) (t : D → Option D) : Sp := fun vs H Q E => ∃ v d0, vs = [.ref f, v] ∧ ∃ (c : Ct) (P : D → Nat → Prop) (b : Nat), c.H0 = H ∧ L2.Same c.F0 H ∧ Rp c.F0 v d0 ∧ StX c b H c.F0 ∧ RM.tr P b (t d0) ∧
    (∀ d v b' H' F', Xt c H c.F0 H' F' → L2.Same F' H' → StX c b' H' F' → Rp F' v d → P d b' → Q v H')
theorem spT_imp {cp f : Addr} {t : D → Option D} : ∀ vs H Q E, spT cp f t vs H Q E → spR vwD cp 2 (takenG f t) vs H Q E := fun vs H Q E ⟨v, d0, e, c, P, b, h0, s, r, st, tr, q⟩ => by
  subst e
  refine ⟨rfl, c, [.fn f, .d d0], P, b, h0, s, .cons (show ArOk c.ss c.F0 (.ref f) (.fn f) from rfl) (.cons (show ArOk c.ss c.F0 v (.d d0) from r) .nil), st, ?_, ?_, ?_, ?_⟩
  · have e : takenG f t [.fn f, .d d0] = t d0 := if_pos rfl
    rw [e]
    exact tr
  · rintro d v b' H' F' x1 x2 x3 x4 ⟨z, ez, p⟩
    cases ez
    exact q d v b' H' F' x1 x2 x3 x4 p
  · rintro ds a us b' H' F' _ _ _ _ _ _ _ ⟨z, ez, _⟩
    cases ez
  · rintro b' d H' F' _ _ _ ⟨z, ez, _⟩
    cases ez
section
variable {X : Cx} {c : Ct} {R : Type} [RM R] {Γ : List Sl} {e : Expr} {pos p p2 : Pos} {k : Nat} {f fa cp : Addr} {fd : FuncData} {ps : List Str} {x acc : Str} {t : D → Option D}
/-- _law_is_taken(f, e) -/
theorem gc_taken (F0 : FnOk X.prog X.w X.K X.mg X.base CX0 k f fd ps (spR vwD cp 2 (takenG fa t))) (hr : Room k X.A) (hg : Gl X x) (hm : X.mg x = some (.ref f)) (hk : PySem.W.keepIn X.K (.ref f) = true) (hb : Binds X.K fd ps []) (hg2 : Gl X acc) (hm2 : X.mg acc = some (.ref fa)) {w : (D → R) → R} (ha : GC X c e Γ w)
    (hdb : (x == ("__debug__" : Str)) = false := by decide) (hdb2 : (acc == ("__debug__" : Str)) = false := by decide)
    (he : starEach [.Name acc p2, e] X.env = (false, eval (.Name acc p2) X.env) :: starEach [e] X.env := by rfl) (he2 : starEach [e] X.env = [(false, eval e X.env)] := by rfl) (hpl : (backTo pos (starEach [e] X.env)).any (·.1) = false := by rfl) :
    GC X c (.Call (.Name x p) [.Name acc p2, e] [] pos) Γ (fun k => w fun d => bnd (t d) k) := fun P b σ H F1 Q kk E tr q => by
  have F := F0.imp (sp' := spT cp fa t) spT_imp
  refine (pe_call F hr hg hm hk hb .nil pass0 (pa_cons (pe_glob (v := .ref fa) hg2 hm2 rfl hdb2) (pa_cons pe_w pa_nil he2) he) hdb he hpl).w ?_
  refine ha P b σ H F1 _ _ E tr fun d v b1 H1 F1 x1 E1 r1 t1 => ?_
  obtain ⟨d', hd, t2⟩ := RM.bh t1
  refine ⟨v, d, rfl, ⟨c.ss, H1, F1⟩, fun a b' => a = d' ∧ b' = b1, b1, rfl, E1.sub, r1, StX.of E1, ⟨d', hd, rfl, rfl⟩, ?_⟩
  rintro d2 v2 b2 H2 F2 x2 s2 st2 r2 ⟨eq, eb⟩
  subst eq eb
  exact q d2 v2 b2 H2 F2 (x1.trans (xt_same (c' := ⟨c.ss, H1, F1⟩) rfl x2)) (E1.called (c' := ⟨c.ss, H1, F1⟩) rfl x2 s2 st2) r2 t2
end
theorem gs_none {X : Cx} {c : Ct} {α : Type} {M : Md (Option α)} {sts : List Stmt} {Γ : List Sl} {NX BK CT : Kn (Option α)} : GSs X c M sts Γ NX BK CT none := fun P b σ H F Dd E fx t fo => by
  obtain ⟨a, e, _⟩ := t
  cases e
end G

end
section
set_option Elab.async false
set_option linter.all false
set_option maxRecDepth 100000
/-! G16: list(range(..)). -/
namespace G
open RM (bnd)
open PySem PySem.Spec PyProof.Rows L2
theorem vals_range {lo : Int} {n : Nat} {acc : Array Value} (h : ItemsOf (fun i v => ∃ t, v = Value.int (lo + (i : Nat) * 1) t) acc n) : Vals ((List.range n).map fun i => V.int (lo + (i : Nat))) acc.toList := by
  obtain ⟨hs, hv⟩ := h
  have key : ∀ (k : Nat) (l : List Value) (b : Nat), l.length = k → (∀ j v, l[j]? = some v → ∃ t, v = Value.int (lo + ((b + j : Nat) : Int)) t) → Vals ((List.range' b k).map fun i => V.int (lo + (i : Nat))) l := by
    intro k
    induction k with
    | zero =>
      intro l b hl _
      cases l with
      | nil => exact .nil
      | cons => simp at hl
    | succ k ih =>
      intro l b hl h
      cases l with
      | nil => simp at hl
      | cons v l =>
        rw [List.range'_succ, List.map_cons]
        obtain ⟨t, rfl⟩ := h 0 v rfl
        refine .cons ⟨t, rfl⟩ (ih l (b + 1) (by simpa using hl) fun j v hj => ?_)
        obtain ⟨t, e⟩ := h (j + 1) v (by simpa using hj)
        exact ⟨t, by rw [e]; congr 2; omega⟩
  rw [List.range_eq_range']
  refine key n acc.toList 0 (by simpa using hs) fun j v hj => ?_
  obtain ⟨t, e⟩ := hv j v (by simpa using hj)
  exact ⟨t, by rw [e]; congr 1 <;> simp⟩
theorem rp_range {F : Hp} {lo : Int} : ∀ {n : Nat}, RpAll F ((List.range n).map fun i => V.int (lo + (i : Nat))) (rangeL lo n) := by
  intro n
  unfold rangeL
  have key : ∀ l : List Nat, RpAll F (l.map fun i => V.int (lo + (i : Nat))) (l.map fun i => PyData.int (lo + (i : Nat))) := by
    intro l
    induction l with
    | nil => exact .nil
    | cons x l ih => exact .cons (.int _) ih
  exact key _
def rngL2 : List D → Option (List D)
  | [.int i, .int j] => if small62 i = true ∧ small62 j = true ∧ (j - i).toNat ≤ 16777216 then some (rangeL i (j - i).toNat) else none
  | _ => none
def rngL1 : List D → Option (List D)
  | [.int j] => if small62 j = true ∧ j.toNat ≤ 16777216 then some (rangeL 0 j.toNat) else none
  | _ => none
section
variable {X : Cx} {c : Ct} {R : Type} [RM R] {Γ : List Sl} {e1 e2 : Expr} {pos p p2 pos2 : Pos}
theorem list_of_range {pins : List (Addr × Obj)} {σ : L2.St} {H : Hp} {s : Shared} {Q : VK} {lo hi : Int} {t u v : Tok} {tk : Nat} (I : Inv X pins σ H s) (hc : X.calm = true) (h1 : -(2 ^ 62) ≤ lo) (h2 : lo < 2 ^ 62) (h3 : -(2 ^ 62) ≤ hi) (h4 : hi < 2 ^ 62) (h5 : (hi - lo).toNat ≤ 16777216)
    (q : ∀ l, H l = none → Q (.ref l) (upd H l (.lst ((List.range (hi - lo).toNat).map fun i => V.int (lo + (i : Nat)))))) :
    wpAny (model X.prog X.w) X.A (call (.type "list") [.ref s.heap.objs.size]) (EP X pins σ Q) X.xe { s with heap := s.heap.push { cls := .type "range", data := .fields #[.int lo t, .int hi u, .int 1 v] }, toks := tk } := by
  refine call_list_range (I.ok.hd hc) (IsRange.new ..) (small_one h1 h2 h3 h4) (n := (hi - lo).toNat) (by rw [rangeSize_one]; split <;> omega) h5 fun h' tk' acc c' kp e it => ?_
  have I1 : Inv X pins σ H { s with heap := s.heap.push { cls := .type "range", data := .fields #[.int lo t, .int hi u, .int 1 v] }, toks := tk } := I.kept fun b o e => Heap.get?_push_of_some _ e
  have vv := vals_range it
  refine ⟨.ref _, _, I1.laid (t' := tk') kp (Nat.le_refl _) (show ObjOk X.prog X.w _ h' _ (.lst ((List.range (hi - lo).toNat).map fun i => V.int (lo + (i : Nat)))) from ⟨by rw [sizeLine_eq, List.length_map, List.length_range]; exact h5, acc.toList, c', vv, e⟩), rfl, q _ (I1.hok.fresh (Nat.le_refl _))⟩
theorem gn_listRange2 {w : (List D → R) → R} (hc : X.calm = true) (hg0 : Gl X "list") (hm0 : X.mg "list" = none) (hg : Gl X "range") (hm : X.mg "range" = none) (h : GA X c [e1, e2] Γ w)
    (hs : starEach [e1, e2] X.env = [(false, eval e1 X.env), (false, eval e2 X.env)] := by rfl) (hs2 : starEach [e2] X.env = [(false, eval e2 X.env)] := by rfl)
    (hl : starEach [.Call (.Name "range" p2) [e1, e2] [] pos2] X.env = [(false, eval (.Call (.Name "range" p2) [e1, e2] [] pos2) X.env)] := by rfl) :
    GN X c (.Call (.Name "list" p) [.Call (.Name "range" p2) [e1, e2] [] pos2] [] pos) Γ (fun k => w fun ds => bnd (rngL2 ds) k) := fun P b σ H F Q k E t q pins s I => by
  refine Call_ (ld_blt I hg0 hm0 (show bootBuiltins "list" = some (.type "list") by kernel_rfl) ?_)
  refine PyProof.Rows.callWith_type1 (e := .Call (.Name "range" p2) [e1, e2] [] pos2) (rest := []) ?_ hl rfl
  refine spliced_more ?_ hl
  refine Call_ (ld_blt I hg hm boot_range ?_)
  refine PyProof.Rows.callWith_type1 (e := e1) (rest := [e2]) ?_ (by rw [hs, hs2]) (by rw [hs2]; rfl)
  refine thn (pa_w.run pos2 pins s σ H (fun vs H' => ∃ i j : Int, vs = [V.int i, V.int j] ∧ -(2 ^ 62) ≤ i ∧ i < 2 ^ 62 ∧ -(2 ^ 62) ≤ j ∧ j < 2 ^ 62 ∧ (j - i).toNat ≤ 16777216 ∧ ∀ l, H' l = none → Q (.ref l) (upd H' l (.lst ((List.range (j - i).toNat).map fun n => V.int (i + (n : Nat)))))) I
    (h P b σ H F _ _ E t fun ds vs b' H' F' x1 E' r1 t1 => ?_)) fun us s1 ⟨vs, H1, I1, r1, i, j, e, h1, h2, h3, h4, h5, q1⟩ => ?_
  · obtain ⟨z, hz, t2⟩ := RM.bh t1
    unfold rngL2 at hz
    split at hz
    · split at hz
      · rename_i hq
        cases hz
        obtain ⟨v, w, rfl, r1, r2⟩ := r1.two
        have g1 := of_decide_eq_true hq.1
        have g2 := of_decide_eq_true hq.2.1
        refine ⟨_, _, by rw [r1.intOf, r2.intOf], g1.1, g1.2, g2.1, g2.2, hq.2.2, fun l hn => ?_⟩
        have hf := E'.sub.free hn
        refine q _ l _ b' _ F' (x1.trans (Xt.new hn)) (E'.alloc1 hn) (x1.k l hn) upd_same hf (E'.h0none hn) (E'.notSt hn) (fun n es g z => ?_) rp_range t2
        obtain ⟨a, us, z', ha, _⟩ := E'.sl n _ g
        rw [z'] at z
        cases z
        rw [hn] at ha; cases ha
      · cases hz
    · cases hz
  · subst e
    cases r1 with
    | cons r rr =>
      cases rr with
      | cons r' rr =>
        cases rr
        obtain ⟨t, rfl⟩ := r
        obtain ⟨t', rfl⟩ := r'
        refine call_range_2 ?_
        exact spliced_none (list_of_range I1 hc h1 h2 h3 h4 h5 q1)
theorem gn_listRange1 {w : (List D → R) → R} (hc : X.calm = true) (hg0 : Gl X "list") (hm0 : X.mg "list" = none) (hg : Gl X "range") (hm : X.mg "range" = none) (h : GA X c [e1] Γ w)
    (hs : starEach [e1] X.env = [(false, eval e1 X.env)] := by rfl)
    (hl : starEach [.Call (.Name "range" p2) [e1] [] pos2] X.env = [(false, eval (.Call (.Name "range" p2) [e1] [] pos2) X.env)] := by rfl) :
    GN X c (.Call (.Name "list" p) [.Call (.Name "range" p2) [e1] [] pos2] [] pos) Γ (fun k => w fun ds => bnd (rngL1 ds) k) := fun P b σ H F Q k E t q pins s I => by
  refine Call_ (ld_blt I hg0 hm0 (show bootBuiltins "list" = some (.type "list") by kernel_rfl) ?_)
  refine PyProof.Rows.callWith_type1 (e := .Call (.Name "range" p2) [e1] [] pos2) (rest := []) ?_ hl rfl
  refine spliced_more ?_ hl
  refine Call_ (ld_blt I hg hm boot_range ?_)
  refine PyProof.Rows.callWith_type1 (e := e1) (rest := []) ?_ hs rfl
  refine thn (pa_w.run pos2 pins s σ H (fun vs H' => ∃ j : Int, vs = [V.int j] ∧ -(2 ^ 62) ≤ j ∧ j < 2 ^ 62 ∧ j.toNat ≤ 16777216 ∧ ∀ l, H' l = none → Q (.ref l) (upd H' l (.lst ((List.range j.toNat).map fun n => V.int (0 + (n : Nat)))))) I
    (h P b σ H F _ _ E t fun ds vs b' H' F' x1 E' r1 t1 => ?_)) fun us s1 ⟨vs, H1, I1, r1, j, e, h3, h4, h5, q1⟩ => ?_
  · obtain ⟨z, hz, t2⟩ := RM.bh t1
    unfold rngL1 at hz
    split at hz
    · split at hz
      · rename_i hq
        cases hz
        obtain ⟨v, rfl, r3⟩ := r1.one
        have g2 := of_decide_eq_true hq.1
        refine ⟨_, by rw [r3.intOf], g2.1, g2.2, hq.2, fun l hn => ?_⟩
        have hf := E'.sub.free hn
        refine q _ l _ b' _ F' (x1.trans (Xt.new hn)) (E'.alloc1 hn) (x1.k l hn) upd_same hf (E'.h0none hn) (E'.notSt hn) (fun n es g z => ?_) rp_range t2
        obtain ⟨a, us, z', ha, _⟩ := E'.sl n _ g
        rw [z'] at z
        cases z
        rw [hn] at ha; cases ha
      · cases hz
    · cases hz
  · subst e
    cases r1 with
    | cons r rr =>
      cases rr
      obtain ⟨t, rfl⟩ := r
      refine call_range_1 ?_
      have e0 : j - 0 = j := by omega
      exact spliced_none (list_of_range (lo := 0) (hi := j) I1 hc (by decide) (by decide) h3 h4 (by rw [e0]; exact h5) (by rw [e0]; exact q1))
end
end G

end
section
set_option Elab.async false
set_option linter.all false
set_option maxRecDepth 100000
/-! G17: how the law begins: the script, the draws' list. -/
namespace G
open RM (bnd)
open PySem PySem.Spec PyProof.Rows L2
section
variable {X : Cx} {c : Ct} {R : Type} [RM R] {Γ : List Sl} {p q p2 pos pos' : Pos} {j : Nat}
theorem sq_keep {K : PySem.W.Frag} {H H' : Hp} {a : Addr} {xs : List V} (h : SqL K H a xs) (s : ∀ o, H a = some o → H' a = some o) : SqL K H' a xs := by
  rcases h with (h | ⟨o, h⟩) | h
  · exact .inl (.inl (s _ h))
  · exact .inl (.inr ⟨o, s _ h⟩)
  · exact .inr h
theorem gc_script {i : Nat} {x : Str} {a : Addr} {ns : List Int} {n : Int} (hN : X.N[i]? = some x) (hv : Vis X.env.scope x) (g : Γ[i]? = some (.fn a)) (hS : SqL X.K c.H0 a (ns.map V.int)) (hss : c.ss = none) (hd : (x == ("__debug__" : Str)) = false := by decide) (hcd : (x == ("__classdict__" : Str)) = false := by decide) :
    GC X c (.Subscript (.Name x p) (.Slice none (some (.Constant (.int n) j q)) none p2) pos) Γ (fun (k : D → R) => k (.list (cutL (ns.map PyData.int) none (some n)))) := fun P b σ H F Q k E t qq => by
  refine (pe_slice sl_list (pe_var hN hv hd hcd) po_none (po_some pe_int)).w ?_
  have hS' : SqL X.K H a (ns.map V.int) := sq_keep hS fun o e => E.h0 a o e (by rw [hss]; exact fun z => nomatch z)
  refine ⟨.ref a, E.sl i _ g, n, rfl, a, _, rfl, hS', fun l hl => ?_⟩
  have s3 := Xt.upd (c := c) (F := F) (o := .lst (cutV (ns.map V.int) none (some n))) hl (E.sub.free hl)
  exact qq _ _ b _ _ s3 (E.alloc hl) (.lst upd_same (RpAll.mono s3.f (RpAll.cut (RpAll.ints ns)))) t
end
def startL (s2 : D) (x5 : D) (kc3 kb4 : D → Option (List D)) : Option (List D) :=
  bnd (mulD s2 (.int 48271)) fun t11 => bnd (addD t11 x5) fun t10 => bnd (int1D [t10]) fun t9 => bnd (modD t9 (.int 2147483629)) fun t8 => bnd (addD t8 (.int 1)) fun t7 => kc3 t7
def startM (zs : List D) : Option (List D) :=
  bnd (seqD (.list zs)) fun ds19 => forD nameδ startL ds19 (.int 7) fun s2 => bnd (seqD (.list zs)) fun ds16 => bnd (lcP nameδ (fun x12 => if true = true then bnd (int1D [x12]) fun t14 => bnd (absD [t14]) fun t13 => some (some t13) else some none) ds16) fun l15 => bnd (szD [(.list l15), (.int 0), (.int 0), (.int 0), s2, (.int 0)]) fun _ => some [(.list l15), (.int 0), (.int 0), (.int 0), s2, (.int 0)]
def validSt (ds : List D) : Prop := ∃ cells s, ds = stL cells 0 0 0 s 0 ∧ (∀ z ∈ cells, 0 ≤ z) ∧ 0 ≤ s ∧ s < 2 ^ 32
theorem start_for (k : D → Option (List D)) : ∀ (ns : List Int) (s : Int), 0 ≤ s → s < 2 ^ 32 → ∃ s', 0 ≤ s' ∧ s' < 2 ^ 32 ∧ forD nameδ startL (ns.map PyData.int) (.int s) k = k (.int s')
  | [], s, h0, h1 => ⟨s, h0, h1, rfl⟩
  | n :: ns, s, h0, h1 => by
    have hm := fmod_lt (x := s * 48271 + n) (n := 2147483629) (by decide)
    obtain ⟨s', h2, h3, e⟩ := start_for k ns ((s * 48271 + n).fmod 2147483629 + 1) (by omega) (by omega)
    refine ⟨s', h2, h3, ?_⟩
    rw [← e]
    show startL (.int s) (.int n) (fun s' => forD nameδ startL (ns.map PyData.int) s' k) k = _
    unfold startL
    rw [mulI (.inr (small_of (by decide))), ob, addI, ob, int1, ob, modI (by decide), ob, addI, ob]
theorem start_lc : ∀ ns : List Int, cmpM (fun x => (nameδ x).bind fun x12 => if true = true then bnd (int1D [x12]) fun t14 => bnd (absD [t14]) fun t13 => some (some t13) else some none) (ns.map PyData.int) = some ((ns.map fun n => ((n.natAbs : Nat) : Int)).map PyData.int)
  | [] => rfl
  | n :: ns => by
    show Option.bind _ _ = _
    have e : (nameδ (.int n)).bind (fun x12 => if true = true then bnd (R := Option (Option D)) (int1D [x12]) fun t14 => bnd (absD [t14]) fun t13 => some (some t13) else some none) = some (some (.int n.natAbs)) := by
      show (if true = true then bnd (R := Option (Option D)) (int1D [PyData.int n]) fun t14 => bnd (absD [t14]) fun t13 => some (some t13) else some none) = _
      rw [if_pos rfl, int1, ob, abs1, ob]
    show Option.bind ((nameδ (.int n)).bind fun x12 => if true = true then bnd (R := Option (Option D)) (int1D [x12]) fun t14 => bnd (absD [t14]) fun t13 => some (some t13) else some none) (fun o => (cmpM _ (ns.map PyData.int)).bind fun ys => some (match o with | some y => y :: ys | none => ys)) = _
    rw [e]
    show Option.bind (cmpM _ (ns.map PyData.int)) _ = _
    rw [start_lc ns]
    rfl
theorem start_ok {ns : List Int} (hl : ns.length ≤ 1000) : ∃ ds, startM (cutL (ns.map PyData.int) none (some 63)) = some ds ∧ validSt ds := by
  have hc : ∃ ms : List Int, ms.length ≤ 1000 ∧ cutL (ns.map PyData.int) none (some 63) = ms.map PyData.int := by
    have key : ∀ a b : Nat, ∃ ms : List Int, ms.length ≤ 1000 ∧ ((ns.map PyData.int).drop a).take b = ms.map PyData.int := fun a b =>
      ⟨(ns.drop a).take b, by rw [List.length_take, List.length_drop]; omega, by rw [List.map_take, List.map_drop]⟩
    exact key _ _
  obtain ⟨ms, hm, e⟩ := hc
  rw [e]
  unfold startM
  have sq : seqD (.list (ms.map PyData.int)) = some (ms.map PyData.int) := rfl
  rw [sq, ob]
  obtain ⟨s', h0, h1, e2⟩ := start_for (fun s2 => bnd (some (ms.map PyData.int)) fun ds16 => bnd (lcP nameδ (fun x12 => if true = true then bnd (int1D [x12]) fun t14 => bnd (absD [t14]) fun t13 => some (some t13) else some none) ds16) fun l15 => bnd (szD [(.list l15), (.int 0), (.int 0), (.int 0), s2, (.int 0)]) fun _ => some [(.list l15), (.int 0), (.int 0), (.int 0), s2, (.int 0)]) ms 7 (by decide) (by decide)
  rw [e2, ob]
  have lc : lcP nameδ (fun x12 => if true = true then bnd (int1D [x12]) fun t14 => bnd (absD [t14]) fun t13 => some (some t13) else some none) (ms.map PyData.int) = some ((ms.map fun n => ((n.natAbs : Nat) : Int)).map PyData.int) := by
    unfold lcP cmpL
    rw [if_pos (by rw [List.length_map]; omega), start_lc]
  rw [lc, ob]
  refine ⟨_, rfl, ms.map fun n => ((n.natAbs : Nat) : Int), s', rfl, fun z hz => ?_, h0, h1⟩
  obtain ⟨m, _, rfl⟩ := List.mem_map.mp hz
  omega
/-! ### _law_start's promise -/
def spStart : Sp := fun vs H Q E => ∃ (a : Addr) (ns : List Int) (K : PySem.W.Frag) (F : Hp) (l : List D), vs = [.ref a] ∧ SqL K H a (ns.map V.int) ∧ L2.Same F H ∧ startM (cutL (ns.map PyData.int) none (some 63)) = some l ∧
  ∀ p us H' F', L2.Same H H' → L2.Same F F' → L2.Same F' H' → (∀ y, F y = none → F' y ≠ none → H y = none) → H p = none → H' p = some (.lst us) → F' p = none → RpAll F' us l → Q (.ref p) H'
section
variable {P : Program} {w : World} {K : PySem.W.Frag} {mg : Str → Option Value} {base : Heap} {x qual : Str} {st : Stmt} {f : Addr} {fd : FuncData} {N : List Str} {k : Nat} {cp : Addr}
/-- spStart at the frag that the def is run with -/
def spStartK (K : PySem.W.Frag) : Sp := fun vs H Q E => ∃ (a : Addr) (ns : List Int) (F : Hp) (l : List D), vs = [.ref a] ∧ SqL K H a (ns.map V.int) ∧ L2.Same F H ∧ startM (cutL (ns.map PyData.int) none (some 63)) = some l ∧
  ∀ p us H' F', L2.Same H H' → L2.Same F F' → L2.Same F' H' → (∀ y, F y = none → F' y ≠ none → H y = none) → H p = none → H' p = some (.lst us) → F' p = none → RpAll F' us l → Q (.ref p) H'
theorem fn_start (F : Fun K x qual st f fd) (S : FnScope ["script", "seed", "cell"] ["script"] (defScope st))
    (hbody : ∀ (cdv : Value) (A : Around) (outer : List Env) (s : Shared) (H : Hp) (E : XK) (c : Ct) (a : Addr) (ns : List Int), SqL K c.H0 a (ns.map V.int) → c.ss = none → Room k (A.deeper (envOfC qual (defScope st) s.heap.objs.size f cdv)) →
      GSs (X0 P w K mg base ["script", "seed", "cell"] qual st f cdv A outer s H E) c (vwL.md (fun _ _ _ _ => True) cp) (defBody st) [.fn a, .no, .no] (KEnd vwL) KNo KNo (startM (cutL (ns.map PyData.int) none (some 63)))) : FnOk P w K mg base CX0 (k + 1) f fd ["script"] (spStartK K) := by
  refine F.ok S (fun vs H Q E h => by obtain ⟨a, ns, F, l, e, _⟩ := h; rw [e]; rfl) fun cdv A outer s H vs Q E hr h => ?_
  obtain ⟨a, ns, F0, l, rfl, hS, s1, hst, q⟩ := h
  refine ⟨_, pss_w, ?_⟩
  let c : Ct := ⟨none, H, F0⟩
  have E0 : Ev K c 0 (L2.start ["script", "seed", "cell"] [.ref a]) H F0 [.fn a, .no, .no] :=
    Ev.entry (c := c) (as := [.fn a]) (N := ["script", "seed", "cell"]) (vs := [.ref a]) s1 (.cons (show ArOk none F0 (.ref a) (.fn a) from rfl) .nil) (show 1 ≤ 3 by decide) (fun x hx => nomatch hx)
  refine hbody cdv A outer s H E c a ns hS rfl hr (fun ds _ => ds = l) 0 _ H F0 _ E0 True.intro ⟨l, hst, rfl⟩ (fol_end (E := fun _ _ _ => True) (fun _ _ _ _ h => h) ?_ ?_ (fun _ _ _ _ _ _ _ _ => trivial) F0)
  · rintro d v b' H' F' _ _ _ _ ⟨z, ez, _⟩
    cases ez
  · rintro ds p us b' H' F' x1 s2 _ h1 h2 h3 r ⟨z, ez, eq⟩
    cases ez
    subst eq
    exact q p us H' F' (fun y o e => x1.h y o e (fun z => nomatch z)) x1.f s2 x1.n h1 h2 h3 r
end
/-! ### the law's own body: state = _law_start(script) -/
def beginW {α : Type} (zs : List D) (r : Wp α) : Wp α := fun P _ => (∃ l, startM zs = some l ∧ validSt l) ∧ r P 576460752303423488
section
variable {X : Cx} {c : Ct} {α : Type} {V0 : Vw (Wp α)} {xw : WX} {cp : Addr} {Γ : List Sl} {rest : List Stmt} {r : Wp α} {i j k : Nat} {x y z : Str} {f : Addr} {fd : FuncData} {ps : List Str} {p1 p2 p3 pos cpos : Pos}
def noSt : List Sl → Bool
  | [] => true
  | .st :: _ => false
  | .ow _ :: _ => false
  | _ :: r => noSt r
theorem noSt_get : ∀ {Γ : List Sl}, noSt Γ = true → ∀ (i : Nat) (s : Sl), Γ[i]? = some s → s ≠ .st ∧ ∀ ds, s ≠ .ow ds
  | [], _, i, s, h => by simp at h
  | t :: Γ, hn, 0, s, h => by
    simp only [List.getElem?_cons_zero, Option.some.injEq] at h
    subst h
    cases t with
    | no => exact ⟨(fun z => nomatch z), fun _ z => (nomatch z)⟩
    | va _ => exact ⟨(fun z => nomatch z), fun _ z => (nomatch z)⟩
    | fn _ => exact ⟨(fun z => nomatch z), fun _ z => (nomatch z)⟩
    | st => cases (show false = true from hn)
    | ow _ => cases (show false = true from hn)
  | t :: Γ, hn, i + 1, s, h => by
    simp only [List.getElem?_cons_succ] at h
    have : noSt Γ = true := by
      cases t with
      | no => exact hn
      | va _ => exact hn
      | fn _ => exact hn
      | st => cases (show false = true from hn)
      | ow _ => cases (show false = true from hn)
    exact noSt_get this i s h
theorem gs_begin {a : Addr} {ns : List Int} (F : FnOk X.prog X.w X.K X.mg X.base CX0 k f fd ps (spStartK X.K)) (hr : Room k X.A) (hN : X.N.Nodup) (hi : X.N[i]? = some x) (hx : Loc X.env.scope x) (hj : X.N[j]? = some y) (hv : Vis X.env.scope y) (g : Γ[j]? = some (.fn a)) (hS : SqL X.K c.H0 a (ns.map V.int)) (hss : c.ss = none) (hno : noSt Γ = true)
    (hg : Gl X z) (hm : X.mg z = some (.ref f)) (hk : PySem.W.keepIn X.K (.ref f) = true) (hb : Binds X.K fd ps []) (hrest : ∀ c', GSs X c' (V0.md xw cp) rest (Γ.set i .st) (KEnd V0) KNo KNo r)
    (hd : (y == ("__debug__" : Str)) = false := by decide) (hcd : (y == ("__classdict__" : Str)) = false := by decide) (hdb : (z == ("__debug__" : Str)) = false := by decide)
    (he : starEach [.Name y p3] X.env = [(false, eval (.Name y p3) X.env)] := by rfl)
    (hs : swapsWith (.Call (.Name z p2) [.Name y p3] [] cpos) (some (.Name x p1)) pos.line X.env = pure false := by rfl) (hf : X.fn x = true ∨ X.env.scope.names.lookup x = some .local := by first | exact .inl rfl | exact .inr rfl) :
    GSs X c (V0.md xw cp) (.Assign [.Name x p1] (.Call (.Name z p2) [.Name y p3] [] cpos) pos :: rest) Γ (KEnd V0) KNo KNo (beginW (cutL (ns.map PyData.int) none (some 63)) r) := fun P b σ H F0 Dd E fx t fo pins s I => by
  obtain ⟨⟨l, hl, cells, sd, rfl, hc0, hs0, hs1⟩, t2⟩ := t
  refine seq_run (P := P) (b := b) (F := F0) ((ps_set hN hi hx (pe_call F hr hg hm hk hb .nil pass0 (pa_cons (pe_var hj hv hd hcd) pa_nil he) hdb he rfl) hs hf).w ?_) pins s I
  have hS' : SqL X.K H a (ns.map V.int) := sq_keep hS fun o e => E.h0 a o e (by rw [hss]; exact fun z => nomatch z)
  refine ⟨.ref a, E.sl j _ g, a, ns, F0, _, rfl, hS', E.sub, hl, fun p us H' F' s1 s2 s3 nw hp hp' fp r0 => ?_⟩
  let c' : Ct := ⟨some p, H', F'⟩
  have len : i < σ.length := slen I hi
  have lenΓ : i < Γ.length := by rw [E.len]; exact len
  have E' : Ev X.K c' 576460752303423488 (σ.set i (some (.ref p))) H' F' (Γ.set i .st) := by
    refine ⟨s3, by rw [List.length_set, List.length_set]; exact E.len, fun n t ht => ?_, fun n m x d e h1 => ?_, fun x hx => ?_, fun x o h _ => h, L2.Same.refl _, fun x h1 h2 => absurd h1 h2⟩
    · by_cases hn : i = n
      · subst hn
        rw [List.getElem?_set_self lenΓ] at ht
        cases ht
        rw [List.getElem?_set_self len]
        exact ⟨p, rfl, rfl⟩
      · rw [List.getElem?_set_ne hn] at ht ⊢
        have q := E.sl n t ht
        have q0 := noSt_get hno n t ht
        cases t with
        | no => trivial
        | va d => exact let ⟨v, z, r⟩ := q; ⟨v, z, Rp.mono s2 r⟩
        | ow ds => exact absurd rfl (q0.2 ds)
        | st => exact absurd rfl q0.1
        | fn f => exact q
    · exfalso
      by_cases hn : i = n
      · subst hn
        rw [List.getElem?_set_self lenΓ] at h1
        cases h1
      · rw [List.getElem?_set_ne hn] at h1
        exact (noSt_get hno n _ h1).2 d rfl
    · cases hx
      have r0 : RpAll F' us (stL cells 0 0 0 sd 0) := r0
      cases r0 with
      | cons w1 ru =>
        cases ru with
        | cons w2 ru =>
          cases ru with
          | cons w3 ru =>
            cases ru with
            | cons w4 ru =>
              cases ru with
              | cons w5 ru =>
                cases ru with
                | cons w6 ru =>
                  cases ru
                  obtain ⟨b1, xs, e1, hb1, rx⟩ := Rp.lstOf w1
                  rw [e1, Rp.intOf w2, Rp.intOf w3, Rp.intOf w4, Rp.intOf w5, Rp.intOf w6] at hp'
                  rw [RpAll.intsOf rx] at hb1
                  exact ⟨fp, b1, cells, 0, 0, 0, sd, 0, (fun h => by rw [h, fp] at hb1; cases hb1), hp', hb1, hc0, by decide, by omega, by decide, by decide, hs0, hs1, by decide, by decide⟩
  -- what is told of c', told of c
  have back : ∀ {b2 : Nat} {τ : L2.St} {H2 F2 : Hp} {Δ : List Sl}, Ev X.K c' b2 τ H2 F2 Δ → Ev X.K c b2 τ H2 F2 (List.replicate τ.length .no) := fun {b2 τ H2 F2 Δ} E2 => by
    refine ⟨E2.sub, by rw [List.length_replicate], fun n t ht => ?_, fun n m x d e h1 => ?_, (fun x hx => by rw [hss] at hx; cases hx), fun x o h n => ?_, E.f0.trans (s2.trans E2.f0), fun x h1 h2 => ?_⟩
    · rw [List.getElem?_replicate] at ht
      split at ht
      · cases ht; trivial
      · cases ht
    · rw [List.getElem?_replicate] at h1
      split at h1 <;> cases h1
    · have hx := E.h0 x o h n
      exact E2.h0 x o (s1 _ _ hx) (fun z => by cases z; rw [hp] at hx; cases hx)
    · by_cases h3 : F' x = none
      · have this : H' x = none := E2.nw x h3 h2
        have h4 : H x = none := by
          cases q : H x with
          | none => rfl
          | some o => rw [s1 _ _ q] at this; cases this
        exact E.h0none h4
      · by_cases h5 : F0 x = none
        · exact E.h0none (nw x h5 h3)
        · exact E.nw x h1 h5
  refine hrest c' P 576460752303423488 _ H' F' Dd E' True.intro t2 ⟨fun Δ r2 b2 τ H2 F2 h s5 l5 _ E2 t5 => fo.nx (List.replicate τ.length .no) r2 b2 τ H2 F2 h (s2.trans s5) l5 True.intro (back E2) t5, fun _ _ _ _ _ _ h => h.elim, fun _ _ _ _ _ _ h => h.elim, fun d v b2 τ Δ H2 F2 _ E2 r2 t5 => fo.rt d v b2 τ _ H2 F2 True.intro (back E2) r2 t5, fun ds q us b2 τ Δ H2 F2 _ E2 ha fa h0 hq r2 t5 => ?_, fun b2 τ Δ H2 F2 d _ E2 t5 => fo.ex b2 τ _ H2 F2 d True.intro (back E2) t5⟩
  refine fo.rtN ds q us b2 τ _ H2 F2 True.intro (back E2) ha fa ?_ (by rw [hss]; exact fun z => nomatch z) r2 t5
  cases qq : c.H0 q with
  | none => rfl
  | some o =>
    have := s1 _ _ (E.h0 q o qq (by rw [hss]; exact fun z => nomatch z))
    have h0 : H' q = none := h0
    rw [h0] at this; cases this
end
section
variable {P : Program} {w : World} {K : PySem.W.Frag} {mg : Str → Option Value} {base : Heap} {x qual : Str} {st : Stmt} {f : Addr} {fd : FuncData} {N : List Str} {k : Nat} {cp : Addr}
def spLaw (K : PySem.W.Frag) : Sp := fun vs H Q E => ∃ (a : Addr) (ns : List Int), vs = [.ref a] ∧ ns.length ≤ 63 ∧ SqL K H a (ns.map V.int) ∧ ∀ H', Q (.bl true) H'
/-- the law's own def -/
theorem fn_law (F : Fun K x qual st f fd) (S : FnScope N ["script"] (defScope st)) (g : List D → Wp D)
    (hbody : ∀ (cdv : Value) (A : Around) (outer : List Env) (s : Shared) (H : Hp) (E : XK) (c : Ct) (a : Addr) (ns : List Int), SqL K c.H0 a (ns.map V.int) → c.ss = none → Room k (A.deeper (envOfC qual (defScope st) s.heap.objs.size f cdv)) →
      GSs (X0 P w K mg base N qual st f cdv A outer s H E) c (vwW.md (fun _ _ _ _ => True) cp) (defBody st) (.fn a :: List.replicate (N.length - 1) .no) (KEnd vwW) KNo KNo (g (cutL (ns.map PyData.int) none (some 63))))
    (hg : ∀ ns : List Int, ns.length ≤ 63 → g (cutL (ns.map PyData.int) none (some 63)) (fun d _ => d = .bool true) 0) : FnOk P w K mg base CX0 (k + 1) f fd ["script"] (spLaw K) := by
  have hpl : 1 ≤ N.length := by have := congrArg List.length S.pre; rw [List.length_take] at this; simp only [List.length_cons, List.length_nil] at this; omega
  refine F.ok S (fun vs H Q E h => by obtain ⟨a, ns, e, _⟩ := h; rw [e]; rfl) fun cdv A outer s H vs Q E hr h => ?_
  obtain ⟨a, ns, rfl, hl, hS, q⟩ := h
  refine ⟨_, pss_w, ?_⟩
  let c : Ct := ⟨none, H, fun _ => none⟩
  have E0 : Ev K c 0 (L2.start N [.ref a]) H (fun _ => none) (.fn a :: List.replicate (N.length - 1) .no) :=
    Ev.entry (c := c) (as := [.fn a]) (N := N) (vs := [.ref a]) (fun x o e => nomatch e) (.cons (show ArOk none _ (.ref a) (.fn a) from rfl) .nil) hpl (fun x hx => nomatch hx)
  refine hbody cdv A outer s H E c a ns hS rfl hr (fun d _ => d = .bool true) 0 _ H _ _ E0 True.intro (hg ns hl) (fol_end (E := fun _ _ _ => True) (fun _ _ _ _ h => h) ?_ ?_ (fun _ _ _ _ _ _ _ _ => trivial) _)
  · intro d v b' H' F' _ _ _ r e
    have e : d = .bool true := e
    subst e
    rw [Rp.blOf r]
    exact q H'
  · intro ds p us b' H' F' _ _ _ _ _ _ _ z
    exact False.elim z
end
end G

end
section
set_option Elab.async false
set_option linter.all false
set_option maxRecDepth 100000
/-! G18: what the top left, gathered. -/
namespace G
open RM (bnd)
open PySem PySem.Spec PyProof.Rows L2
theorem exm_self {K : PySem.W.Frag} {S : Addr} (h1 : PySem.W.subIn K (.ref S) (.type "BaseException") = some true) (h2 : PySem.W.isClsIn K S = true) (h3 : PySem.W.typeIn K (.ref S) = some (.type "type")) (h4 : PySem.W.subIn K (.ref S) (.ref S) = some true) : PySem.W.exmOne K (.ref S) (.ref S) = some true := by
  have e1 : (PySem.W.subIn K (.ref S) (.type "BaseException") == some true) = true := by rw [h1] <;> rfl
  have e2 : ((PySem.W.clsIn K S).isSome && PySem.W.typeIn K (.ref S) == some (.type "type")) = true := by
    have h2' : (PySem.W.clsIn K S).isSome = true := h2
    rw [h2', h3] <;> rfl
  show (if (PySem.W.subIn K (.ref S) (.type "BaseException") == some true) = true then (if ((PySem.W.clsIn K S).isSome && PySem.W.typeIn K (.ref S) == some (.type "type")) = true then PySem.W.subIn K (.ref S) (.ref S) else none) else none) = some true
  rw [if_pos e1, if_pos e2]
  exact h4
theorem err_mk {prog : Program} {K : PySem.W.Frag} {h : Heap} {mg : Str → Option Value} {C fI cda cc : Addr} (X : K.In h) (G : h.Ns mainGlobals mg)
    {nm q q2 : Str} {N : Addr} {bs bm : List Value} {sn : List Str} {sub : List Value} {ab : Bool} {col : Option Bool} {dd : Option Addr} {m0 m1 m2 m3 m5 : Option Value}
    {od an cdd cld : Option Addr} {sl ccs csl : Array (Option Value)} {oc dc pm ct ccl cl : Value} {vs : Array Value} {file tx : Str} {tf : Tok} {j : Nat} {p1 p2 r1 r2 r3 r4 r5 r6 q1 qq2 q3 q4 : Pos}
    (xL : K.lookup C = some (excClassObj nm q C N bs bm true sn sub ab col dd m0 m1 m2 m3 m5 "ValueError.__new__")) (hbm : PySem.HandSPX.refsVE bm = true)
    (sa : PySem.W.findIn K (.ref C) "__setattr__" = some (some (.builtin "object.__setattr__"))) (nb : PySem.W.findIn K (.ref C) "reason" = some none)
    (iC : PySem.W.findIn K (.ref C) "__init__" = some (some (.ref fI))) (tC : PySem.W.typeIn K (.ref fI) = some (.type "function"))
    (l1 : K.lookup fI = some ⟨oc, od, .func (PySem.W.ksFn "__init__" q2 (PySem.GX.iA p1 p2) (PySem.GX.iB tx j r1 r2 r3 r4 r5 r6 q1 qq2 q3 q4) PySem.GX.iS .none .none dc pm an (.ref cda) ct cc), sl⟩) (c1 : PySem.W.codeIn K (.ref cda) q2 = true)
    (lc : K.lookup cda = some ⟨ccl, cdd, .fields vs, ccs⟩) (hv : vs[2]? = some (.str file tf)) (hf : ((prog.main.file : Str) == file) = true) (lcc : K.lookup cc = some ⟨cl, cld, .cell (some (.ref C)), csl⟩) (he : PySem.GX.HEv tx j r1 r2 r3 r4 r5)
    (kC : PySem.W.keepIn K (.ref C) = true) (eC : PySem.W.subIn K (.ref C) (.type "BaseException") = some true) (vC : PySem.W.subIn K (.ref C) (.type "ValueError") = some true) (tyC : PySem.W.typeIn K (.ref C) = some (.type "type"))
    (mC : PySem.W.mroIn K C (.ref C) = some true) (tp : PySem.W.nsIn K cStatics "thirdparty.any" = some none) (su : PySem.W.ks_superIn K C C "__init__" = some (some (.builtin "ValueError.__init__"))) (xi : PySem.W.excInitIn K C PySem.GX.bmVE "ValueError.__new__" = true)
    (ns : PySem.W.nsIn K mainGlobals "super" = some none) (tt : (prog.main.scope.names.lookup ("super" : Str)).isSome = false) : PySem.GX.ErrTxt prog K mg C fI :=
  { cls := ⟨nm, q, N, bs, bm, sn, sub, ab, col, dd, m0, m1, m2, m3, m5, xL, hbm⟩, sa := sa, noN := nb, iC := iC, tC := tC, kC := kC, exC := eC, veC := vC, tyC := tyC, mro := mC, tp := tp, sup := su, xin := xi, nsup := PySem.W.mg_none_of X G ns, top := tt,
    fn := ⟨oc, od, dc, pm, an, cda, ct, sl, q2, cc, p1, p2, tx, j, r1, r2, r3, r4, r5, r6, q1, qq2, q3, q4, l1, c1, ⟨ccl, cdd, vs, ccs, file, tf, lc, hv, hf⟩, ⟨cl, cld, csl, lcc⟩, he⟩ }
theorem const_mk {K : PySem.W.Frag} {h : Heap} {mg : Str → Option Value} {x : Str} {i : Int} {t : Tok} (X : K.In h) (G : h.Ns mainGlobals mg) (c : PySem.W.nsIn K mainGlobals x = some (some (.int i t))) : ∃ u, mg x = some u ∧ RelV (.int i) u := ⟨_, PySem.W.mg_of X G c, ⟨t, rfl⟩⟩
end G

end
section
set_option Elab.async false
set_option linter.all false
set_option maxRecDepth 100000
/-! G19: evaluation of mirrors: the rewriting rules. -/
namespace G
open RM (bnd)
open PySem PySem.Spec PyProof.Rows L2
section
variable {R : Type} [RM R]
theorem andW_p (a b : Bool) (k : Bool → R) : andW (fun k => k a) (fun k => k b) k = k (a && b) := by cases a <;> rfl
theorem orW_p (a b : Bool) (k : Bool → R) : orW (fun k => k a) (fun k => k b) k = k (a || b) := by cases a <;> rfl
end
theorem andV_p {β : Type} (a : Bool) (x : D) (k : D → Option β) : andV (R := Option β) (fun k => k (.bool a)) (fun k => k x) k = k (if a = true then x else .bool a) := by cases a <;> rfl
theorem orV_p {β : Type} (a : Bool) (x : D) (k : D → Option β) : orV (R := Option β) (fun k => k (.bool a)) (fun k => k x) k = k (if a = true then .bool a else x) := by cases a <;> rfl
theorem ifV_p {R : Type} [RM R] (t : Bool) (x y : D) (k : D → R) : ifV (fun k => k t) (fun k => k x) (fun k => k y) k = k (if t = true then x else y) := by cases t <;> rfl
theorem if_bool (a b : Bool) : (if a = true then PyData.bool b else .bool a) = .bool (a && b) := by cases a <;> rfl
theorem if_bool' (a b : Bool) : (if a = true then PyData.bool a else .bool b) = .bool (a || b) := by cases a <;> rfl
theorem chT_ll {β : Type} (a b c : Int) (k : Bool → Option β) : chT (R := Option β) (fun k => k (.int a)) (fun k => k (.int b)) leD (fun k => k (.int c)) leD k = k (decide (a ≤ b) && decide (b ≤ c)) := by
  show (if decide (a ≤ b) = true then _ else k false) = _
  cases decide (a ≤ b) <;> rfl
theorem chT_lt {β : Type} (a b c : Int) (k : Bool → Option β) : chT (R := Option β) (fun k => k (.int a)) (fun k => k (.int b)) leD (fun k => k (.int c)) ltD k = k (decide (a ≤ b) && decide (b < c)) := by
  show (if decide (a ≤ b) = true then _ else k false) = _
  cases decide (a ≤ b) <;> rfl
theorem chT_tl {β : Type} (a b c : Int) (k : Bool → Option β) : chT (R := Option β) (fun k => k (.int a)) (fun k => k (.int b)) ltD (fun k => k (.int c)) leD k = k (decide (a < b) && decide (b ≤ c)) := by
  show (if decide (a < b) = true then _ else k false) = _
  cases decide (a < b) <;> rfl
theorem chV_ll {β : Type} (a b c : Int) (k : D → Option β) : chV (R := Option β) (fun k => k (.int a)) (fun k => k (.int b)) leD (fun k => k (.int c)) leD k = k (.bool (decide (a ≤ b) && decide (b ≤ c))) := by
  show (if decide (a ≤ b) = true then _ else k (.bool false)) = _
  cases decide (a ≤ b) <;> rfl
theorem chV_lt {β : Type} (a b c : Int) (k : D → Option β) : chV (R := Option β) (fun k => k (.int a)) (fun k => k (.int b)) leD (fun k => k (.int c)) ltD k = k (.bool (decide (a ≤ b) && decide (b < c))) := by
  show (if decide (a ≤ b) = true then _ else k (.bool false)) = _
  cases decide (a ≤ b) <;> rfl
theorem andW_u {R : Type} [RM R] (a b : Bool) : andW (R := R) (fun k => k a) (fun k => k b) = fun k => k (a && b) := funext (andW_p a b)
theorem orW_u {R : Type} [RM R] (a b : Bool) : orW (R := R) (fun k => k a) (fun k => k b) = fun k => k (a || b) := funext (orW_p a b)
theorem andV_u {β : Type} (a b : Bool) : andV (R := Option β) (fun k => k (.bool a)) (fun k => k (.bool b)) = fun k => k (.bool (a && b)) := funext fun k => by rw [andV_p, if_bool]
theorem orV_u {β : Type} (a b : Bool) : orV (R := Option β) (fun k => k (.bool a)) (fun k => k (.bool b)) = fun k => k (.bool (a || b)) := funext fun k => by rw [orV_p, if_bool']
theorem forD_nil {R S T : Type} [RM R] (δ : D → Option T) (f : S → T → (S → R) → (S → R) → R) (s : S) (k : S → R) : forD δ f [] s k = k s := rfl
theorem forD_cons {β S T : Type} (δ : D → Option T) (f : S → T → (S → Option β) → (S → Option β) → Option β) (d : D) (ds : List D) (s : S) (k : S → Option β) : forD δ f (d :: ds) s k = bnd (R := Option β) (δ d) fun t => f s t (fun s' => forD δ f ds s' k) k := rfl
theorem nameδ_eq (d : D) : nameδ d = some d := rfl
/-- the turns, each of which goes on -/
theorem forD_fold {β S T : Type} {δ : D → Option T} {f : S → T → (S → Option β) → (S → Option β) → Option β} (g : S → D → S) (I : S → Prop) (k : S → Option β) : ∀ (ds : List D) (s : S), I s → (∀ s d, d ∈ ds → I s → ∃ t, δ d = some t ∧ (∀ kc : S → Option β, f s t kc k = kc (g s d)) ∧ I (g s d)) → forD δ f ds s k = k (ds.foldl g s)
  | [], s, _, _ => rfl
  | d :: ds, s, hI, h => by
    obtain ⟨t, ht, hf, hI'⟩ := h s d List.mem_cons_self hI
    rw [forD_cons, ht, ob, hf, forD_fold g I k ds (g s d) hI' fun s d hd hI => h s d (List.mem_cons_of_mem _ hd) hI]
    rfl
/-- a comprehension whose turns all go -/
theorem lcP_map {T : Type} {δ : D → Option T} {f : T → Option (Option D)} (g : D → Option D) {ds : List D} (hl : ds.length ≤ 16777216) (h : ∀ d ∈ ds, (δ d).bind f = some (g d)) : lcP δ f ds = some (ds.filterMap g) := by
  unfold lcP cmpL
  rw [if_pos hl]
  have key : ∀ l : List D, (∀ d ∈ l, (δ d).bind f = some (g d)) → cmpM (fun x => (δ x).bind f) l = some (l.filterMap g) := by
    intro l
    induction l with
    | nil => intro _; rfl
    | cons d l ih =>
      intro h
      show Option.bind ((δ d).bind f) _ = _
      rw [h d List.mem_cons_self]
      show Option.bind (cmpM _ l) _ = _
      rw [ih fun d hd => h d (List.mem_cons_of_mem _ hd)]
      cases e : g d with
      | none => simp only [List.filterMap_cons, e]; rfl
      | some y => simp only [List.filterMap_cons, e]; rfl
  exact key ds h
theorem intsD_map (ns : List Int) : intsD (ns.map PyData.int) = some ns := by
  induction ns with
  | nil => rfl
  | cons n ns ih =>
    show (intsD (ns.map PyData.int)).map _ = _ 
    rw [ih]
    rfl
theorem boolsD_map (ns : List Bool) : boolsD (ns.map PyData.bool) = some ns := by
  induction ns with
  | nil => rfl
  | cons n ns ih =>
    show (boolsD (ns.map PyData.bool)).map _ = _
    rw [ih]
    rfl
theorem minI_iff {l : List Int} {m : Int} : minI l = some m ↔ m ∈ l ∧ ∀ x ∈ l, m ≤ x := by
  have key : ∀ (l : List Int) (n : Int), (l.foldl min n ∈ n :: l) ∧ ∀ x ∈ n :: l, l.foldl min n ≤ x := by
    intro l
    induction l with
    | nil => intro n; simp
    | cons y l ih =>
      intro n
      obtain ⟨h1, h2⟩ := ih (min n y)
      refine ⟨?_, fun x hx => ?_⟩
      · rw [List.foldl_cons]
        rcases List.mem_cons.mp h1 with h | h
        · rw [h]
          by_cases hny : n ≤ y
          · rw [Int.min_eq_left hny]; exact List.mem_cons_self
          · rw [Int.min_eq_right (by omega)]; exact List.mem_cons_of_mem _ List.mem_cons_self
        · exact List.mem_cons_of_mem _ (List.mem_cons_of_mem _ h)
      · rw [List.foldl_cons]
        have hm := h2 (min n y) List.mem_cons_self
        rcases List.mem_cons.mp hx with rfl | hx
        · exact Int.le_trans hm (Int.min_le_left _ _)
        · rcases List.mem_cons.mp hx with rfl | hx
          · exact Int.le_trans hm (Int.min_le_right _ _)
          · exact h2 x (List.mem_cons_of_mem _ hx)
  cases l with
  | nil => simp [minI]
  | cons n l =>
    obtain ⟨h1, h2⟩ := key l n
    show some (l.foldl min n) = some m ↔ _
    constructor
    · intro e
      cases e
      exact ⟨h1, h2⟩
    · rintro ⟨h3, h4⟩
      congr 1
      exact Int.le_antisymm (h2 m h3) (h4 _ h1)
theorem maxI_iff {l : List Int} {m : Int} : maxI l = some m ↔ m ∈ l ∧ ∀ x ∈ l, x ≤ m := by
  have key : ∀ (l : List Int) (n : Int), (l.foldl max n ∈ n :: l) ∧ ∀ x ∈ n :: l, x ≤ l.foldl max n := by
    intro l
    induction l with
    | nil => intro n; simp
    | cons y l ih =>
      intro n
      obtain ⟨h1, h2⟩ := ih (max n y)
      refine ⟨?_, fun x hx => ?_⟩
      · rw [List.foldl_cons]
        rcases List.mem_cons.mp h1 with h | h
        · rw [h]
          by_cases hny : y ≤ n
          · rw [Int.max_eq_left hny]; exact List.mem_cons_self
          · rw [Int.max_eq_right (by omega)]; exact List.mem_cons_of_mem _ List.mem_cons_self
        · exact List.mem_cons_of_mem _ (List.mem_cons_of_mem _ h)
      · rw [List.foldl_cons]
        have hm := h2 (max n y) List.mem_cons_self
        rcases List.mem_cons.mp hx with rfl | hx
        · exact Int.le_trans (Int.le_max_left _ _) hm
        · rcases List.mem_cons.mp hx with rfl | hx
          · exact Int.le_trans (Int.le_max_right _ _) hm
          · exact h2 x (List.mem_cons_of_mem _ hx)
  cases l with
  | nil => simp [maxI]
  | cons n l =>
    obtain ⟨h1, h2⟩ := key l n
    show some (l.foldl max n) = some m ↔ _
    constructor
    · intro e
      cases e
      exact ⟨h1, h2⟩
    · rintro ⟨h3, h4⟩
      congr 1
      exact Int.le_antisymm (h4 _ h1) (h2 m h3)
theorem max1L (ns : List Int) : max1D [.list (ns.map .int)] = (maxI ns).map .int := by
  show ((intsD (ns.map PyData.int)).bind maxI).map PyData.int = _
  rw [intsD_map]
  rfl
theorem min1L (ns : List Int) : min1D [.list (ns.map .int)] = (minI ns).map .int := by
  show ((intsD (ns.map PyData.int)).bind minI).map PyData.int = _
  rw [intsD_map]
  rfl
theorem max2 (a b : Int) : max2D [.int a, .int b] = some (.int (if b > a then b else a)) := rfl
theorem min2 (a b : Int) : min2D [.int a, .int b] = some (.int (if b < a then b else a)) := rfl
theorem lstL (ds : List D) : lstD (.list ds) = some ds := rfl
/-! items of written lists -/
theorem tx1_m1 (x0 : D) : ixD (.tuple [x0]) (.int (-1)) = some x0 := rfl
theorem tx1_0 (x0 : D) : ixD (.tuple [x0]) (.int 0) = some x0 := rfl
theorem tx2_m2 (x0 x1 : D) : ixD (.tuple [x0, x1]) (.int (-2)) = some x0 := rfl
theorem tx2_m1 (x0 x1 : D) : ixD (.tuple [x0, x1]) (.int (-1)) = some x1 := rfl
theorem tx2_0 (x0 x1 : D) : ixD (.tuple [x0, x1]) (.int 0) = some x0 := rfl
theorem tx2_1 (x0 x1 : D) : ixD (.tuple [x0, x1]) (.int 1) = some x1 := rfl
theorem tx3_m2 (x0 x1 x2 : D) : ixD (.tuple [x0, x1, x2]) (.int (-2)) = some x1 := rfl
theorem tx3_m1 (x0 x1 x2 : D) : ixD (.tuple [x0, x1, x2]) (.int (-1)) = some x2 := rfl
theorem tx3_0 (x0 x1 x2 : D) : ixD (.tuple [x0, x1, x2]) (.int 0) = some x0 := rfl
theorem tx3_1 (x0 x1 x2 : D) : ixD (.tuple [x0, x1, x2]) (.int 1) = some x1 := rfl
theorem tx3_2 (x0 x1 x2 : D) : ixD (.tuple [x0, x1, x2]) (.int 2) = some x2 := rfl
theorem tx4_m2 (x0 x1 x2 x3 : D) : ixD (.tuple [x0, x1, x2, x3]) (.int (-2)) = some x2 := rfl
theorem tx4_m1 (x0 x1 x2 x3 : D) : ixD (.tuple [x0, x1, x2, x3]) (.int (-1)) = some x3 := rfl
theorem tx4_0 (x0 x1 x2 x3 : D) : ixD (.tuple [x0, x1, x2, x3]) (.int 0) = some x0 := rfl
theorem tx4_1 (x0 x1 x2 x3 : D) : ixD (.tuple [x0, x1, x2, x3]) (.int 1) = some x1 := rfl
theorem tx4_2 (x0 x1 x2 x3 : D) : ixD (.tuple [x0, x1, x2, x3]) (.int 2) = some x2 := rfl
theorem tx4_3 (x0 x1 x2 x3 : D) : ixD (.tuple [x0, x1, x2, x3]) (.int 3) = some x3 := rfl
theorem tx5_m2 (x0 x1 x2 x3 x4 : D) : ixD (.tuple [x0, x1, x2, x3, x4]) (.int (-2)) = some x3 := rfl
theorem tx5_m1 (x0 x1 x2 x3 x4 : D) : ixD (.tuple [x0, x1, x2, x3, x4]) (.int (-1)) = some x4 := rfl
theorem tx5_0 (x0 x1 x2 x3 x4 : D) : ixD (.tuple [x0, x1, x2, x3, x4]) (.int 0) = some x0 := rfl
theorem tx5_1 (x0 x1 x2 x3 x4 : D) : ixD (.tuple [x0, x1, x2, x3, x4]) (.int 1) = some x1 := rfl
theorem tx5_2 (x0 x1 x2 x3 x4 : D) : ixD (.tuple [x0, x1, x2, x3, x4]) (.int 2) = some x2 := rfl
theorem tx5_3 (x0 x1 x2 x3 x4 : D) : ixD (.tuple [x0, x1, x2, x3, x4]) (.int 3) = some x3 := rfl
theorem tx5_4 (x0 x1 x2 x3 x4 : D) : ixD (.tuple [x0, x1, x2, x3, x4]) (.int 4) = some x4 := rfl
theorem tx6_m2 (x0 x1 x2 x3 x4 x5 : D) : ixD (.tuple [x0, x1, x2, x3, x4, x5]) (.int (-2)) = some x4 := rfl
theorem tx6_m1 (x0 x1 x2 x3 x4 x5 : D) : ixD (.tuple [x0, x1, x2, x3, x4, x5]) (.int (-1)) = some x5 := rfl
theorem tx6_0 (x0 x1 x2 x3 x4 x5 : D) : ixD (.tuple [x0, x1, x2, x3, x4, x5]) (.int 0) = some x0 := rfl
theorem tx6_1 (x0 x1 x2 x3 x4 x5 : D) : ixD (.tuple [x0, x1, x2, x3, x4, x5]) (.int 1) = some x1 := rfl
theorem tx6_2 (x0 x1 x2 x3 x4 x5 : D) : ixD (.tuple [x0, x1, x2, x3, x4, x5]) (.int 2) = some x2 := rfl
theorem tx6_3 (x0 x1 x2 x3 x4 x5 : D) : ixD (.tuple [x0, x1, x2, x3, x4, x5]) (.int 3) = some x3 := rfl
theorem tx6_4 (x0 x1 x2 x3 x4 x5 : D) : ixD (.tuple [x0, x1, x2, x3, x4, x5]) (.int 4) = some x4 := rfl
theorem tx6_5 (x0 x1 x2 x3 x4 x5 : D) : ixD (.tuple [x0, x1, x2, x3, x4, x5]) (.int 5) = some x5 := rfl
theorem lx1_m1 (x0 : D) : ixD (.list [x0]) (.int (-1)) = some x0 := rfl
theorem lx1_0 (x0 : D) : ixD (.list [x0]) (.int 0) = some x0 := rfl
theorem lx2_m2 (x0 x1 : D) : ixD (.list [x0, x1]) (.int (-2)) = some x0 := rfl
theorem lx2_m1 (x0 x1 : D) : ixD (.list [x0, x1]) (.int (-1)) = some x1 := rfl
theorem lx2_0 (x0 x1 : D) : ixD (.list [x0, x1]) (.int 0) = some x0 := rfl
theorem lx2_1 (x0 x1 : D) : ixD (.list [x0, x1]) (.int 1) = some x1 := rfl
theorem lx3_m2 (x0 x1 x2 : D) : ixD (.list [x0, x1, x2]) (.int (-2)) = some x1 := rfl
theorem lx3_m1 (x0 x1 x2 : D) : ixD (.list [x0, x1, x2]) (.int (-1)) = some x2 := rfl
theorem lx3_0 (x0 x1 x2 : D) : ixD (.list [x0, x1, x2]) (.int 0) = some x0 := rfl
theorem lx3_1 (x0 x1 x2 : D) : ixD (.list [x0, x1, x2]) (.int 1) = some x1 := rfl
theorem lx3_2 (x0 x1 x2 : D) : ixD (.list [x0, x1, x2]) (.int 2) = some x2 := rfl
theorem lx4_m2 (x0 x1 x2 x3 : D) : ixD (.list [x0, x1, x2, x3]) (.int (-2)) = some x2 := rfl
theorem lx4_m1 (x0 x1 x2 x3 : D) : ixD (.list [x0, x1, x2, x3]) (.int (-1)) = some x3 := rfl
theorem lx4_0 (x0 x1 x2 x3 : D) : ixD (.list [x0, x1, x2, x3]) (.int 0) = some x0 := rfl
theorem lx4_1 (x0 x1 x2 x3 : D) : ixD (.list [x0, x1, x2, x3]) (.int 1) = some x1 := rfl
theorem lx4_2 (x0 x1 x2 x3 : D) : ixD (.list [x0, x1, x2, x3]) (.int 2) = some x2 := rfl
theorem lx4_3 (x0 x1 x2 x3 : D) : ixD (.list [x0, x1, x2, x3]) (.int 3) = some x3 := rfl
theorem lx5_m2 (x0 x1 x2 x3 x4 : D) : ixD (.list [x0, x1, x2, x3, x4]) (.int (-2)) = some x3 := rfl
theorem lx5_m1 (x0 x1 x2 x3 x4 : D) : ixD (.list [x0, x1, x2, x3, x4]) (.int (-1)) = some x4 := rfl
theorem lx5_0 (x0 x1 x2 x3 x4 : D) : ixD (.list [x0, x1, x2, x3, x4]) (.int 0) = some x0 := rfl
theorem lx5_1 (x0 x1 x2 x3 x4 : D) : ixD (.list [x0, x1, x2, x3, x4]) (.int 1) = some x1 := rfl
theorem lx5_2 (x0 x1 x2 x3 x4 : D) : ixD (.list [x0, x1, x2, x3, x4]) (.int 2) = some x2 := rfl
theorem lx5_3 (x0 x1 x2 x3 x4 : D) : ixD (.list [x0, x1, x2, x3, x4]) (.int 3) = some x3 := rfl
theorem lx5_4 (x0 x1 x2 x3 x4 : D) : ixD (.list [x0, x1, x2, x3, x4]) (.int 4) = some x4 := rfl
theorem lx6_m2 (x0 x1 x2 x3 x4 x5 : D) : ixD (.list [x0, x1, x2, x3, x4, x5]) (.int (-2)) = some x4 := rfl
theorem lx6_m1 (x0 x1 x2 x3 x4 x5 : D) : ixD (.list [x0, x1, x2, x3, x4, x5]) (.int (-1)) = some x5 := rfl
theorem lx6_0 (x0 x1 x2 x3 x4 x5 : D) : ixD (.list [x0, x1, x2, x3, x4, x5]) (.int 0) = some x0 := rfl
theorem lx6_1 (x0 x1 x2 x3 x4 x5 : D) : ixD (.list [x0, x1, x2, x3, x4, x5]) (.int 1) = some x1 := rfl
theorem lx6_2 (x0 x1 x2 x3 x4 x5 : D) : ixD (.list [x0, x1, x2, x3, x4, x5]) (.int 2) = some x2 := rfl
theorem lx6_3 (x0 x1 x2 x3 x4 x5 : D) : ixD (.list [x0, x1, x2, x3, x4, x5]) (.int 3) = some x3 := rfl
theorem lx6_4 (x0 x1 x2 x3 x4 x5 : D) : ixD (.list [x0, x1, x2, x3, x4, x5]) (.int 4) = some x4 := rfl
theorem lx6_5 (x0 x1 x2 x3 x4 x5 : D) : ixD (.list [x0, x1, x2, x3, x4, x5]) (.int 5) = some x5 := rfl
theorem isiT (n : String) (ds : List D) : isiD n (.tuple ds) = some (.bool (isiS "tuple" n)) := rfl
theorem isiI (n : String) (i : Int) : isiD n (.int i) = some (.bool (isiS "int" n)) := rfl
theorem isiB (n : String) (i : Bool) : isiD n (.bool i) = some (.bool (isiS "bool" n)) := rfl
theorem isiL (n : String) (ds : List D) : isiD n (.list ds) = some (.bool (isiS "list" n)) := rfl
theorem is_tt : isiS "tuple" "tuple" = true := by decide
theorem is_ii : isiS "int" "int" = true := by decide
theorem is_ib : isiS "int" "bool" = false := by decide
theorem is_ti : isiS "tuple" "int" = false := by decide
theorem lenT (ds : List D) : lenD [.tuple ds] = some (.int ds.length) := rfl
theorem lenL (ds : List D) : lenD [.list ds] = some (.int ds.length) := rfl
theorem seqT (ds : List D) : seqD (.tuple ds) = some ds := rfl
theorem seqL (ds : List D) : seqD (.list ds) = some ds := rfl
theorem tupL (ds : List D) : tupleD [.list ds] = some (.tuple ds) := rfl
theorem truL (ds : List D) : truD (.list ds) = some (!ds.isEmpty) := rfl
theorem truT (ds : List D) : truD (.tuple ds) = some (!ds.isEmpty) := rfl
theorem appL {ds : List D} {d : D} (h : ds.length < 16777216) : appD ds d = some (ds ++ [d]) := if_pos h
theorem extL {ds es : List D} (h : ds.length + es.length ≤ 16777216) : extD ds es = some (ds ++ es) := if_pos h
theorem isN_N : isD .none .none = some true := rfl
theorem cmpM_nil (g : D → Option (Option D)) : cmpM g [] = some [] := rfl
theorem cmpM_cons (g : D → Option (Option D)) (x : D) (xs : List D) : cmpM g (x :: xs) = (g x).bind fun o => (cmpM g xs).bind fun ys => some (oadd o ys) := rfl
theorem if_so (b : Bool) (y : D) : (if b = true then some (some y) else some none : Option (Option D)) = some (if b = true then some y else none) := by cases b <;> rfl
theorem oadd_if (b : Bool) (y : D) (ys : List D) : oadd (if b = true then some y else none) ys = if b = true then y :: ys else ys := by cases b <;> rfl
theorem oadd_s (y : D) (ys : List D) : oadd (some y) ys = y :: ys := rfl
theorem oadd_n (ys : List D) : oadd none ys = ys := rfl
theorem emp_if (b : Bool) (y : D) (ys zs : List D) : (if b = true then y :: ys else zs).isEmpty = (!b && zs.isEmpty) := by cases b <;> rfl
theorem lcP_eq {T : Type} (δ : D → Option T) (f : T → Option (Option D)) {ds : List D} (h : ds.length ≤ 16777216) : lcP δ f ds = cmpM (fun x => (δ x).bind f) ds := if_pos h
theorem lcP0 {T : Type} (δ : D → Option T) (f : T → Option (Option D)) : lcP δ f [] = cmpM (fun x => (δ x).bind f) [] := lcP_eq δ f (show 0 ≤ 16777216 by decide)
theorem sz0 : szD [] = some () := if_pos (show 0 ≤ 16777216 by decide)
theorem ap0 (y : D) : appD [] y = some [y] := if_pos (show 0 < 16777216 by decide)
theorem lcP1 {T : Type} (δ : D → Option T) (f : T → Option (Option D)) (x0 : D) : lcP δ f [x0] = cmpM (fun x => (δ x).bind f) [x0] := lcP_eq δ f (show 1 ≤ 16777216 by decide)
theorem sz1 (x0 : D) : szD [x0] = some () := if_pos (show 1 ≤ 16777216 by decide)
theorem ap1 (x0 : D) (y : D) : appD [x0] y = some [x0, y] := if_pos (show 1 < 16777216 by decide)
theorem lcP2 {T : Type} (δ : D → Option T) (f : T → Option (Option D)) (x0 x1 : D) : lcP δ f [x0, x1] = cmpM (fun x => (δ x).bind f) [x0, x1] := lcP_eq δ f (show 2 ≤ 16777216 by decide)
theorem sz2 (x0 x1 : D) : szD [x0, x1] = some () := if_pos (show 2 ≤ 16777216 by decide)
theorem ap2 (x0 x1 : D) (y : D) : appD [x0, x1] y = some [x0, x1, y] := if_pos (show 2 < 16777216 by decide)
theorem lcP3 {T : Type} (δ : D → Option T) (f : T → Option (Option D)) (x0 x1 x2 : D) : lcP δ f [x0, x1, x2] = cmpM (fun x => (δ x).bind f) [x0, x1, x2] := lcP_eq δ f (show 3 ≤ 16777216 by decide)
theorem sz3 (x0 x1 x2 : D) : szD [x0, x1, x2] = some () := if_pos (show 3 ≤ 16777216 by decide)
theorem ap3 (x0 x1 x2 : D) (y : D) : appD [x0, x1, x2] y = some [x0, x1, x2, y] := if_pos (show 3 < 16777216 by decide)
theorem lcP4 {T : Type} (δ : D → Option T) (f : T → Option (Option D)) (x0 x1 x2 x3 : D) : lcP δ f [x0, x1, x2, x3] = cmpM (fun x => (δ x).bind f) [x0, x1, x2, x3] := lcP_eq δ f (show 4 ≤ 16777216 by decide)
theorem sz4 (x0 x1 x2 x3 : D) : szD [x0, x1, x2, x3] = some () := if_pos (show 4 ≤ 16777216 by decide)
theorem ap4 (x0 x1 x2 x3 : D) (y : D) : appD [x0, x1, x2, x3] y = some [x0, x1, x2, x3, y] := if_pos (show 4 < 16777216 by decide)
theorem lcP5 {T : Type} (δ : D → Option T) (f : T → Option (Option D)) (x0 x1 x2 x3 x4 : D) : lcP δ f [x0, x1, x2, x3, x4] = cmpM (fun x => (δ x).bind f) [x0, x1, x2, x3, x4] := lcP_eq δ f (show 5 ≤ 16777216 by decide)
theorem sz5 (x0 x1 x2 x3 x4 : D) : szD [x0, x1, x2, x3, x4] = some () := if_pos (show 5 ≤ 16777216 by decide)
theorem ap5 (x0 x1 x2 x3 x4 : D) (y : D) : appD [x0, x1, x2, x3, x4] y = some [x0, x1, x2, x3, x4, y] := if_pos (show 5 < 16777216 by decide)
theorem lcP6 {T : Type} (δ : D → Option T) (f : T → Option (Option D)) (x0 x1 x2 x3 x4 x5 : D) : lcP δ f [x0, x1, x2, x3, x4, x5] = cmpM (fun x => (δ x).bind f) [x0, x1, x2, x3, x4, x5] := lcP_eq δ f (show 6 ≤ 16777216 by decide)
theorem sz6 (x0 x1 x2 x3 x4 x5 : D) : szD [x0, x1, x2, x3, x4, x5] = some () := if_pos (show 6 ≤ 16777216 by decide)
theorem ap6 (x0 x1 x2 x3 x4 x5 : D) (y : D) : appD [x0, x1, x2, x3, x4, x5] y = some [x0, x1, x2, x3, x4, x5, y] := if_pos (show 6 < 16777216 by decide)
theorem lcP7 {T : Type} (δ : D → Option T) (f : T → Option (Option D)) (x0 x1 x2 x3 x4 x5 x6 : D) : lcP δ f [x0, x1, x2, x3, x4, x5, x6] = cmpM (fun x => (δ x).bind f) [x0, x1, x2, x3, x4, x5, x6] := lcP_eq δ f (show 7 ≤ 16777216 by decide)
theorem sz7 (x0 x1 x2 x3 x4 x5 x6 : D) : szD [x0, x1, x2, x3, x4, x5, x6] = some () := if_pos (show 7 ≤ 16777216 by decide)
theorem ap7 (x0 x1 x2 x3 x4 x5 x6 : D) (y : D) : appD [x0, x1, x2, x3, x4, x5, x6] y = some [x0, x1, x2, x3, x4, x5, x6, y] := if_pos (show 7 < 16777216 by decide)
theorem lcP8 {T : Type} (δ : D → Option T) (f : T → Option (Option D)) (x0 x1 x2 x3 x4 x5 x6 x7 : D) : lcP δ f [x0, x1, x2, x3, x4, x5, x6, x7] = cmpM (fun x => (δ x).bind f) [x0, x1, x2, x3, x4, x5, x6, x7] := lcP_eq δ f (show 8 ≤ 16777216 by decide)
theorem sz8 (x0 x1 x2 x3 x4 x5 x6 x7 : D) : szD [x0, x1, x2, x3, x4, x5, x6, x7] = some () := if_pos (show 8 ≤ 16777216 by decide)
theorem ap8 (x0 x1 x2 x3 x4 x5 x6 x7 : D) (y : D) : appD [x0, x1, x2, x3, x4, x5, x6, x7] y = some [x0, x1, x2, x3, x4, x5, x6, x7, y] := if_pos (show 8 < 16777216 by decide)
theorem lT0 : lenD [.tuple []] = some (.int 0) := rfl
theorem lL0 : lenD [.list []] = some (.int 0) := rfl
theorem lT1 (x0 : D) : lenD [.tuple [x0]] = some (.int 1) := rfl
theorem lL1 (x0 : D) : lenD [.list [x0]] = some (.int 1) := rfl
theorem al1 (b0 : Bool) : allD [.list [.bool b0]] = some (.bool (b0)) := by cases b0 <;> rfl
theorem lT2 (x0 x1 : D) : lenD [.tuple [x0, x1]] = some (.int 2) := rfl
theorem lL2 (x0 x1 : D) : lenD [.list [x0, x1]] = some (.int 2) := rfl
theorem al2 (b0 b1 : Bool) : allD [.list [.bool b0, .bool b1]] = some (.bool (b0 && b1)) := by cases b0 <;> cases b1 <;> rfl
theorem lT3 (x0 x1 x2 : D) : lenD [.tuple [x0, x1, x2]] = some (.int 3) := rfl
theorem lL3 (x0 x1 x2 : D) : lenD [.list [x0, x1, x2]] = some (.int 3) := rfl
theorem al3 (b0 b1 b2 : Bool) : allD [.list [.bool b0, .bool b1, .bool b2]] = some (.bool (b0 && b1 && b2)) := by cases b0 <;> cases b1 <;> cases b2 <;> rfl
theorem lT4 (x0 x1 x2 x3 : D) : lenD [.tuple [x0, x1, x2, x3]] = some (.int 4) := rfl
theorem lL4 (x0 x1 x2 x3 : D) : lenD [.list [x0, x1, x2, x3]] = some (.int 4) := rfl
theorem al4 (b0 b1 b2 b3 : Bool) : allD [.list [.bool b0, .bool b1, .bool b2, .bool b3]] = some (.bool (b0 && b1 && b2 && b3)) := by cases b0 <;> cases b1 <;> cases b2 <;> cases b3 <;> rfl
theorem lT5 (x0 x1 x2 x3 x4 : D) : lenD [.tuple [x0, x1, x2, x3, x4]] = some (.int 5) := rfl
theorem lL5 (x0 x1 x2 x3 x4 : D) : lenD [.list [x0, x1, x2, x3, x4]] = some (.int 5) := rfl
theorem al5 (b0 b1 b2 b3 b4 : Bool) : allD [.list [.bool b0, .bool b1, .bool b2, .bool b3, .bool b4]] = some (.bool (b0 && b1 && b2 && b3 && b4)) := by cases b0 <;> cases b1 <;> cases b2 <;> cases b3 <;> cases b4 <;> rfl
theorem lT6 (x0 x1 x2 x3 x4 x5 : D) : lenD [.tuple [x0, x1, x2, x3, x4, x5]] = some (.int 6) := rfl
theorem lL6 (x0 x1 x2 x3 x4 x5 : D) : lenD [.list [x0, x1, x2, x3, x4, x5]] = some (.int 6) := rfl
theorem al6 (b0 b1 b2 b3 b4 b5 : Bool) : allD [.list [.bool b0, .bool b1, .bool b2, .bool b3, .bool b4, .bool b5]] = some (.bool (b0 && b1 && b2 && b3 && b4 && b5)) := by cases b0 <;> cases b1 <;> cases b2 <;> cases b3 <;> cases b4 <;> cases b5 <;> rfl
theorem rg0 : rng1 [.int 0] = some [] := rfl
theorem rg1 : rng1 [.int 1] = some [.int 0] := rfl
theorem rg2 : rng1 [.int 2] = some [.int 0, .int 1] := rfl
theorem rg3 : rng1 [.int 3] = some [.int 0, .int 1, .int 2] := rfl
theorem rg4 : rng1 [.int 4] = some [.int 0, .int 1, .int 2, .int 3] := rfl
theorem rh0_0 : rng2 [.int 0, .int 0] = some [] := rfl
theorem rh0_1 : rng2 [.int 0, .int 1] = some [.int 0] := rfl
theorem rh0_2 : rng2 [.int 0, .int 2] = some [.int 0, .int 1] := rfl
theorem rh0_3 : rng2 [.int 0, .int 3] = some [.int 0, .int 1, .int 2] := rfl
theorem rh0_4 : rng2 [.int 0, .int 4] = some [.int 0, .int 1, .int 2, .int 3] := rfl
theorem rh1_1 : rng2 [.int 1, .int 1] = some [] := rfl
theorem rh1_2 : rng2 [.int 1, .int 2] = some [.int 1] := rfl
theorem rh1_3 : rng2 [.int 1, .int 3] = some [.int 1, .int 2] := rfl
theorem rh1_4 : rng2 [.int 1, .int 4] = some [.int 1, .int 2, .int 3] := rfl
theorem rh2_2 : rng2 [.int 2, .int 2] = some [] := rfl
theorem rh2_3 : rng2 [.int 2, .int 3] = some [.int 2] := rfl
theorem rh2_4 : rng2 [.int 2, .int 4] = some [.int 2, .int 3] := rfl
theorem rh3_3 : rng2 [.int 3, .int 3] = some [] := rfl
theorem rh3_4 : rng2 [.int 3, .int 4] = some [.int 3] := rfl
theorem rdm1 : rng3 [.int (-1), .int (-1), .int (-1)] = some [] := rfl
theorem rd0 : rng3 [.int 0, .int (-1), .int (-1)] = some [.int 0] := rfl
theorem rd1 : rng3 [.int 1, .int (-1), .int (-1)] = some [.int 1, .int 0] := rfl
theorem rd2 : rng3 [.int 2, .int (-1), .int (-1)] = some [.int 2, .int 1, .int 0] := rfl
theorem rd3 : rng3 [.int 3, .int (-1), .int (-1)] = some [.int 3, .int 2, .int 1, .int 0] := rfl
theorem en0t : enumD [.tuple []] = some [] := rfl
theorem zp0tt : zipD [.tuple [], .tuple []] = some [] := rfl
theorem zp0tl : zipD [.tuple [], .list []] = some [] := rfl
theorem en0l : enumD [.list []] = some [] := rfl
theorem zp0lt : zipD [.list [], .tuple []] = some [] := rfl
theorem zp0ll : zipD [.list [], .list []] = some [] := rfl
theorem en1t (x0 : D) : enumD [.tuple [x0]] = some [.tuple [.int 0, x0]] := rfl
theorem zp1tt (x0 y0 : D) : zipD [.tuple [x0], .tuple [y0]] = some [.tuple [x0, y0]] := rfl
theorem zp1tl (x0 y0 : D) : zipD [.tuple [x0], .list [y0]] = some [.tuple [x0, y0]] := rfl
theorem en1l (x0 : D) : enumD [.list [x0]] = some [.tuple [.int 0, x0]] := rfl
theorem zp1lt (x0 y0 : D) : zipD [.list [x0], .tuple [y0]] = some [.tuple [x0, y0]] := rfl
theorem zp1ll (x0 y0 : D) : zipD [.list [x0], .list [y0]] = some [.tuple [x0, y0]] := rfl
theorem en2t (x0 x1 : D) : enumD [.tuple [x0, x1]] = some [.tuple [.int 0, x0], .tuple [.int 1, x1]] := rfl
theorem zp2tt (x0 x1 y0 y1 : D) : zipD [.tuple [x0, x1], .tuple [y0, y1]] = some [.tuple [x0, y0], .tuple [x1, y1]] := rfl
theorem zp2tl (x0 x1 y0 y1 : D) : zipD [.tuple [x0, x1], .list [y0, y1]] = some [.tuple [x0, y0], .tuple [x1, y1]] := rfl
theorem en2l (x0 x1 : D) : enumD [.list [x0, x1]] = some [.tuple [.int 0, x0], .tuple [.int 1, x1]] := rfl
theorem zp2lt (x0 x1 y0 y1 : D) : zipD [.list [x0, x1], .tuple [y0, y1]] = some [.tuple [x0, y0], .tuple [x1, y1]] := rfl
theorem zp2ll (x0 x1 y0 y1 : D) : zipD [.list [x0, x1], .list [y0, y1]] = some [.tuple [x0, y0], .tuple [x1, y1]] := rfl
theorem en3t (x0 x1 x2 : D) : enumD [.tuple [x0, x1, x2]] = some [.tuple [.int 0, x0], .tuple [.int 1, x1], .tuple [.int 2, x2]] := rfl
theorem zp3tt (x0 x1 x2 y0 y1 y2 : D) : zipD [.tuple [x0, x1, x2], .tuple [y0, y1, y2]] = some [.tuple [x0, y0], .tuple [x1, y1], .tuple [x2, y2]] := rfl
theorem zp3tl (x0 x1 x2 y0 y1 y2 : D) : zipD [.tuple [x0, x1, x2], .list [y0, y1, y2]] = some [.tuple [x0, y0], .tuple [x1, y1], .tuple [x2, y2]] := rfl
theorem en3l (x0 x1 x2 : D) : enumD [.list [x0, x1, x2]] = some [.tuple [.int 0, x0], .tuple [.int 1, x1], .tuple [.int 2, x2]] := rfl
theorem zp3lt (x0 x1 x2 y0 y1 y2 : D) : zipD [.list [x0, x1, x2], .tuple [y0, y1, y2]] = some [.tuple [x0, y0], .tuple [x1, y1], .tuple [x2, y2]] := rfl
theorem zp3ll (x0 x1 x2 y0 y1 y2 : D) : zipD [.list [x0, x1, x2], .list [y0, y1, y2]] = some [.tuple [x0, y0], .tuple [x1, y1], .tuple [x2, y2]] := rfl
theorem en4t (x0 x1 x2 x3 : D) : enumD [.tuple [x0, x1, x2, x3]] = some [.tuple [.int 0, x0], .tuple [.int 1, x1], .tuple [.int 2, x2], .tuple [.int 3, x3]] := rfl
theorem zp4tt (x0 x1 x2 x3 y0 y1 y2 y3 : D) : zipD [.tuple [x0, x1, x2, x3], .tuple [y0, y1, y2, y3]] = some [.tuple [x0, y0], .tuple [x1, y1], .tuple [x2, y2], .tuple [x3, y3]] := rfl
theorem zp4tl (x0 x1 x2 x3 y0 y1 y2 y3 : D) : zipD [.tuple [x0, x1, x2, x3], .list [y0, y1, y2, y3]] = some [.tuple [x0, y0], .tuple [x1, y1], .tuple [x2, y2], .tuple [x3, y3]] := rfl
theorem en4l (x0 x1 x2 x3 : D) : enumD [.list [x0, x1, x2, x3]] = some [.tuple [.int 0, x0], .tuple [.int 1, x1], .tuple [.int 2, x2], .tuple [.int 3, x3]] := rfl
theorem zp4lt (x0 x1 x2 x3 y0 y1 y2 y3 : D) : zipD [.list [x0, x1, x2, x3], .tuple [y0, y1, y2, y3]] = some [.tuple [x0, y0], .tuple [x1, y1], .tuple [x2, y2], .tuple [x3, y3]] := rfl
theorem zp4ll (x0 x1 x2 x3 y0 y1 y2 y3 : D) : zipD [.list [x0, x1, x2, x3], .list [y0, y1, y2, y3]] = some [.tuple [x0, y0], .tuple [x1, y1], .tuple [x2, y2], .tuple [x3, y3]] := rfl
theorem tupδ_t {T : Type} (δ : List D → Option T) (ds : List D) : tupδ δ (.tuple ds) = δ ds := rfl
theorem consδ_c {T U : Type} (δ : D → Option T) (δ' : List D → Option U) (d : D) (ds : List D) : consδ δ δ' (d :: ds) = (δ d).bind fun t => (δ' ds).bind fun u => some (t, u) := rfl
theorem nilδ_n : nilδ [] = some () := rfl
/-- a refusing def's answer: taken or not -/
def acc (b : Bool) : Option (Option D) := some (if b = true then some .none else none)
theorem acc_1 (b : Bool) : (if (!b) = true then some none else some (some PyData.none) : Option (Option D)) = acc b := by cases b <;> rfl
theorem acc_2 (b c : Bool) : (if (!b) = true then some none else acc c) = acc (b && c) := by cases b <;> rfl
theorem acc_3 (b : Bool) : (if b = true then some none else some (some PyData.none) : Option (Option D)) = acc (!b) := by cases b <;> rfl
theorem acc_4 (b c : Bool) : (if b = true then some none else acc c) = acc (!b && c) := by cases b <;> rfl
theorem taken_acc (b : Bool) : takenV (acc b) = some (.bool b) := by cases b <;> rfl
def mx (a b : Int) : Int := if b > a then b else a
def mn (a b : Int) : Int := if b < a then b else a
theorem max2m (a b : Int) : max2D [.int a, .int b] = some (.int (mx a b)) := rfl
theorem min2m (a b : Int) : min2D [.int a, .int b] = some (.int (mn a b)) := rfl
theorem sl1_0 (x0 y : D) : setD [x0] (.int 0) y = some [y] := rfl
theorem sl2_0 (x0 x1 y : D) : setD [x0, x1] (.int 0) y = some [y, x1] := rfl
theorem sl2_1 (x0 x1 y : D) : setD [x0, x1] (.int 1) y = some [x0, y] := rfl
theorem sl3_0 (x0 x1 x2 y : D) : setD [x0, x1, x2] (.int 0) y = some [y, x1, x2] := rfl
theorem sl3_1 (x0 x1 x2 y : D) : setD [x0, x1, x2] (.int 1) y = some [x0, y, x2] := rfl
theorem sl3_2 (x0 x1 x2 y : D) : setD [x0, x1, x2] (.int 2) y = some [x0, x1, y] := rfl
theorem sl4_0 (x0 x1 x2 x3 y : D) : setD [x0, x1, x2, x3] (.int 0) y = some [y, x1, x2, x3] := rfl
theorem sl4_1 (x0 x1 x2 x3 y : D) : setD [x0, x1, x2, x3] (.int 1) y = some [x0, y, x2, x3] := rfl
theorem sl4_2 (x0 x1 x2 x3 y : D) : setD [x0, x1, x2, x3] (.int 2) y = some [x0, x1, y, x3] := rfl
theorem sl4_3 (x0 x1 x2 x3 y : D) : setD [x0, x1, x2, x3] (.int 3) y = some [x0, x1, x2, y] := rfl
theorem sl5_0 (x0 x1 x2 x3 x4 y : D) : setD [x0, x1, x2, x3, x4] (.int 0) y = some [y, x1, x2, x3, x4] := rfl
theorem sl5_1 (x0 x1 x2 x3 x4 y : D) : setD [x0, x1, x2, x3, x4] (.int 1) y = some [x0, y, x2, x3, x4] := rfl
theorem sl5_2 (x0 x1 x2 x3 x4 y : D) : setD [x0, x1, x2, x3, x4] (.int 2) y = some [x0, x1, y, x3, x4] := rfl
theorem sl5_3 (x0 x1 x2 x3 x4 y : D) : setD [x0, x1, x2, x3, x4] (.int 3) y = some [x0, x1, x2, y, x4] := rfl
theorem sl5_4 (x0 x1 x2 x3 x4 y : D) : setD [x0, x1, x2, x3, x4] (.int 4) y = some [x0, x1, x2, x3, y] := rfl
theorem sl6_0 (x0 x1 x2 x3 x4 x5 y : D) : setD [x0, x1, x2, x3, x4, x5] (.int 0) y = some [y, x1, x2, x3, x4, x5] := rfl
theorem sl6_1 (x0 x1 x2 x3 x4 x5 y : D) : setD [x0, x1, x2, x3, x4, x5] (.int 1) y = some [x0, y, x2, x3, x4, x5] := rfl
theorem sl6_2 (x0 x1 x2 x3 x4 x5 y : D) : setD [x0, x1, x2, x3, x4, x5] (.int 2) y = some [x0, x1, y, x3, x4, x5] := rfl
theorem sl6_3 (x0 x1 x2 x3 x4 x5 y : D) : setD [x0, x1, x2, x3, x4, x5] (.int 3) y = some [x0, x1, x2, y, x4, x5] := rfl
theorem sl6_4 (x0 x1 x2 x3 x4 x5 y : D) : setD [x0, x1, x2, x3, x4, x5] (.int 4) y = some [x0, x1, x2, x3, y, x5] := rfl
theorem sl6_5 (x0 x1 x2 x3 x4 x5 y : D) : setD [x0, x1, x2, x3, x4, x5] (.int 5) y = some [x0, x1, x2, x3, x4, y] := rfl
theorem tru0 : truD (.int 0) = some false := rfl
theorem tru1 : truD (.int 1) = some true := rfl
theorem tru2 : truD (.int 2) = some true := rfl
theorem tru3 : truD (.int 3) = some true := rfl
theorem tru4 : truD (.int 4) = some true := rfl
theorem tru5 : truD (.int 5) = some true := rfl
theorem bnd_ite {α β : Type} (c : Bool) (x y : Option α) (k : α → Option β) : bnd (R := Option β) (if c = true then x else y) k = if c = true then bnd x k else bnd y k := by cases c <;> rfl
theorem ite_same {α : Type} (c : Bool) (x : α) : (if c = true then x else x) = x := by cases c <;> rfl
theorem eqB (a b : Bool) : eqD (.bool a) (.bool b) = some (a == b) := by cases a <;> cases b <;> rfl
theorem neB (a b : Bool) : neD (.bool a) (.bool b) = some (!(a == b)) := by cases a <;> cases b <;> rfl
theorem eqLn : eqD (.list []) (.list []) = some true := rfl
theorem neLn : neD (.list []) (.list []) = some false := rfl
theorem ext0 {S : List D} (h : S.length < 16777216) : extD S [] = some (S ++ []) := extL (by show S.length + 0 ≤ _; omega)
theorem ext1 {S : List D} (h : S.length < 16777216) (y : D) : extD S [y] = some (S ++ [y]) := extL (by show S.length + 1 ≤ _; omega)
/-! data that a comparison takes -/
structure Gd (n : Nat) (d : D) : Prop where
  c : d.canLay0 = true
  k : d.depth ≤ n
theorem Gd.sh {n : Nat} {d : D} (h : Gd n d) (hn : n ≤ 64 := by decide) : SeqAt.shaped d = true := by
  unfold SeqAt.shaped
  rw [h.c, Bool.true_and]
  exact decide_eq_true (Nat.le_trans h.k hn)
theorem gd_int (n : Nat) (i : Int) : Gd n (.int i) := ⟨by simp only [PyData.canLay0], by simp only [PyData.depth]; exact Nat.zero_le _⟩
theorem gd_bool (n : Nat) (i : Bool) : Gd n (.bool i) := ⟨by simp only [PyData.canLay0], by simp only [PyData.depth]; exact Nat.zero_le _⟩
theorem gd_none (n : Nat) : Gd n .none := ⟨by simp only [PyData.canLay0], by simp only [PyData.depth]; exact Nat.zero_le _⟩
theorem gd_str (n : Nat) (x : Str) (h : (PyData.str x).canLay0 = true := by decide +kernel) : Gd n (.str x) := ⟨h, by simp only [PyData.depth]; exact Nat.zero_le _⟩
theorem gd_all {n : Nat} : ∀ {ds : List D}, (∀ d ∈ ds, Gd n d) → PyData.canLayAll0 ds = true ∧ PyData.depthAll ds ≤ n
  | [], _ => ⟨by simp only [PyData.canLayAll0], by simp only [PyData.depthAll]; exact Nat.zero_le _⟩
  | d :: ds, h => by
    obtain ⟨h1, h2⟩ := gd_all fun x hx => h x (List.mem_cons_of_mem _ hx)
    have h3 := h d List.mem_cons_self
    refine ⟨by simp only [PyData.canLayAll0, h3.c, h1, Bool.and_self], ?_⟩
    simp only [PyData.depthAll]
    exact Nat.max_le.mpr ⟨h3.k, h2⟩
theorem gd_tup {n : Nat} {ds : List D} (h : ∀ d ∈ ds, Gd n d) : Gd (n + 1) (.tuple ds) := ⟨by simp only [PyData.canLay0]; exact (gd_all h).1, by simp only [PyData.depth]; exact Nat.succ_le_succ (gd_all h).2⟩
theorem gd_list {n : Nat} {ds : List D} (h : ∀ d ∈ ds, Gd n d) : Gd (n + 1) (.list ds) := ⟨by simp only [PyData.canLay0]; exact (gd_all h).1, by simp only [PyData.depth]; exact Nat.succ_le_succ (gd_all h).2⟩
theorem gd_nil {n : Nat} : ∀ d ∈ ([] : List D), Gd n d := fun _ h => by cases h
theorem gd_cons {n : Nat} {d : D} {ds : List D} (h : Gd n d) (t : ∀ d ∈ ds, Gd n d) : ∀ x ∈ d :: ds, Gd n x := fun x hx => by
  rcases List.mem_cons.mp hx with rfl | hx
  · exact h
  · exact t x hx
theorem gd_ints (n : Nat) (ns : List Int) : ∀ d ∈ ns.map PyData.int, Gd n d := fun d hd => by
  obtain ⟨i, _, rfl⟩ := List.mem_map.mp hd
  exact gd_int n i
theorem eqD_of {d e : D} (h : SeqAt.shaped d = true) (h' : SeqAt.shaped e = true) : eqD d e = some (PyData.eqv d e) := if_pos ⟨h, h'⟩
theorem neD_of {d e : D} (h : SeqAt.shaped d = true) (h' : SeqAt.shaped e = true) : neD d e = some (!PyData.eqv d e) := if_pos ⟨h, h'⟩
theorem eqv_self {n : Nat} {d : D} (h : Gd n d) : PyData.eqv d d = true := PySem.SeqAt.eqv_refl d h.c
theorem eqD_self {n : Nat} {d : D} (h : Gd n d) (hn : n ≤ 64 := by decide) : eqD d d = some true := by rw [eqD_of (h.sh hn) (h.sh hn), eqv_self h]
theorem neD_self {n : Nat} {d : D} (h : Gd n d) (hn : n ≤ 64 := by decide) : neD d d = some false := by rw [neD_of (h.sh hn) (h.sh hn), eqv_self h]; rfl
theorem eq_nil {n : Nat} {x : D} {xs : List D} (h : Gd n (.list (x :: xs))) (hn : n ≤ 64 := by decide) : eqD (.list (x :: xs)) (.list []) = some false := by
  rw [eqD_of (h.sh hn) (by rfl)]
  simp only [PyData.eqv, PyData.eqvAll]
theorem ne_nil {n : Nat} {x : D} {xs : List D} (h : Gd n (.list (x :: xs))) (hn : n ≤ 64 := by decide) : neD (.list (x :: xs)) (.list []) = some true := by
  rw [neD_of (h.sh hn) (by rfl)]
  simp only [PyData.eqv, PyData.eqvAll]
  rfl
end G

end
section
set_option Elab.async false
set_option linter.all false
set_option maxRecDepth 100000
/-! G20: comparisons of three links; comprehensions of two clauses. -/
namespace G
open RM (bnd)
open PySem PySem.Spec PyProof.Rows L2
def tChain3 (r r' r'' : R2) (ta tb tc td : TE) : TE := fun σ H Q => ta σ H fun x H1 => tb σ H1 fun y H2 => r x y H2 fun z H3 => ∃ k, z = .bl k ∧
  (if k = true then tc σ H3 fun w' H4 => r' y w' H4 fun z' H5 => ∃ k', z' = .bl k' ∧ (if k' = true then td σ H5 fun v' H6 => r'' w' v' H6 Q else Q (.bl false) H5) else Q (.bl false) H3)
section
variable {X : Cx} {a b c d : Expr} {ta tb tc td : TE} {pos : Pos}
theorem pe_chain3 {op op' op'' : CmpOp} {r r' r'' : R2} (ho : OpR X (compareOp op) r) (ho' : OpR X (compareOp op') r') (ho'' : OpR X (compareOp op'') r'') (ha : PE X a ta) (hb : PE X b tb) (hc : PE X c tc) (hd : PE X d td)
    (hm : lastMarks [op, op', op''] [b, c, d] = false := by with_unfolding_all rfl) : PE X (.Compare a [op, op', op''] [b, c, d] pos) (tChain3 r r' r'' ta tb tc td) := by
  refine ⟨fun pins s σ H Q I h => ?_⟩
  refine Compare_chain (thn (ha.run pins s σ H _ I h) fun v s1 ⟨x, H1, I1, r1, q1⟩ => chain_link (thn (hb.run pins s1 σ H1 _ I1 q1) fun u s2 ⟨y, H2, I2, r2, q2⟩ =>
    thn (ho pins s2 σ H2 x y v u _ I2 r1 r2 q2) fun d s3 ⟨z, H3, I3, r3, k, e, q3⟩ => ?_)) hm
  subst e
  cases r3
  refine wpAny_truthy_bool ?_
  cases k with
  | false => exact ite_ff ⟨.bl false, H3, I3, rfl, q3⟩
  | true =>
    refine ite_tt (chain_link (thn (hc.run pins s3 σ H3 _ I3 q3) fun w' s4 ⟨z', H4, I4, r4, q4⟩ => thn (ho' pins s4 σ H4 y z' u w' _ I4 r2 r4 q4) fun d' s5 ⟨z2, H5, I5, r5, k2, e2, q5⟩ => ?_))
    subst e2
    cases r5
    refine wpAny_truthy_bool ?_
    cases k2 with
    | false => exact ite_ff ⟨.bl false, H5, I5, rfl, q5⟩
    | true => exact ite_tt (chain_last (thn (hd.run pins s5 σ H5 _ I5 q5) fun w2 s6 ⟨z3, H6, I6, r6, q6⟩ => ho'' pins s6 σ H6 z' z3 w' w2 Q I6 r4 r6 q6))
theorem pt_chain3 {op op' op'' : CmpOp} {r r' r'' : R2} (ho : OpR X (compareOp op) r) (ho' : OpR X (compareOp op') r') (ho'' : OpR X (compareOp op'') r'') (ha : PE X a ta) (hb : PE X b tb) (hc : PE X c tc) (hd : PE X d td)
    (hm : lastMarks [op, op', op''] [b, c, d] = false := by with_unfolding_all rfl) : PT X (.Compare a [op, op', op''] [b, c, d] pos) (tTest (tChain3 r r' r'' ta tb tc td)) := by
  refine ⟨fun pins s σ H Q I h => ?_⟩
  refine isTrue_chain (thn (ha.run pins s σ H _ I h) fun v s1 ⟨x, H1, I1, r1, q1⟩ => test_link (thn (hb.run pins s1 σ H1 _ I1 q1) fun u s2 ⟨y, H2, I2, r2, q2⟩ =>
    thn (ho pins s2 σ H2 x y v u _ I2 r1 r2 q2) fun d s3 ⟨z, H3, I3, r3, k, e, q3⟩ => ?_)) hm
  subst e
  cases r3
  refine wpAny_truthy_bool ?_
  cases k with
  | false =>
    obtain ⟨k', e', q'⟩ := q3
    cases e'
    exact ite_ff ⟨H3, I3, q'⟩
  | true =>
    refine ite_tt (test_link (thn (hc.run pins s3 σ H3 _ I3 q3) fun w' s4 ⟨z', H4, I4, r4, q4⟩ => thn (ho' pins s4 σ H4 y z' u w' _ I4 r2 r4 q4) fun d' s5 ⟨z2, H5, I5, r5, k2, e2, q5⟩ => ?_))
    subst e2
    cases r5
    refine wpAny_truthy_bool ?_
    cases k2 with
    | false =>
      obtain ⟨k', e', q'⟩ := q5
      cases e'
      exact ite_ff ⟨H5, I5, q'⟩
    | true =>
      refine ite_tt (test_last (thn (hd.run pins s5 σ H5 _ I5 q5) fun w2 s6 ⟨z3, H6, I6, r6, q6⟩ => thn (ho'' pins s6 σ H6 z' z3 w' w2 _ I6 r4 r6 q6) fun d2 s7 ⟨z4, H7, I7, r7, k3, e3, q7⟩ => ?_))
      subst e3
      cases r7
      exact wpAny_truthy_bool ⟨H7, I7, q7⟩
end
section
variable {X : Cx} {c : Ct} {R : Type} [RM R] {Γ : List Sl} {e1 e2 e3 e4 : Expr} {pos : Pos}
theorem chain3_run {op op' op'' : CmpOp} {g g' g'' : D → D → Option Bool} {w1 w2 w3 w4 : (D → R) → R} (ho : Cp2 X (compareOp op) g) (ho' : Cp2 X (compareOp op') g') (ho'' : Cp2 X (compareOp op'') g'') (h1 : GB X c e1 Γ w1) (h2 : GB X c e2 Γ w2) (h3 : GB X c e3 Γ w3) (h4 : GB X c e4 Γ w4) {P : RM.Pt R} {b : Nat} {σ : L2.St} {H F : Hp} {Q : VK} {k : Bool → R}
    (E : Ev X.K c b σ H F Γ) (t : RM.tr P b (w1 fun x => w2 fun y => bnd (g x y) fun t => if t = true then w3 fun z => bnd (g' y z) fun t' => if t' = true then w4 fun u => bnd (g'' z u) k else k false else k false)) (q : ∀ t b' H' F', Xt c H F H' F' → Ev X.K c b' σ H' F' Γ → RM.tr P b' (k t) → Q (.bl t) H') :
    tChain3 (fun x y H Q => ∃ r, OpR X (compareOp op) r ∧ r x y H Q) (fun x y H Q => ∃ r, OpR X (compareOp op') r ∧ r x y H Q) (fun x y H Q => ∃ r, OpR X (compareOp op'') r ∧ r x y H Q) (wE X e1) (wE X e2) (wE X e3) (wE X e4) σ H Q := by
  refine h1 P b σ H F _ _ E t fun d v b' H' F' s1 E' r1 t1 => h2 P b' σ H' F' _ _ E' t1 fun d2 v2 b2 H2 F2 s2 E2 r2 t2 => ?_
  obtain ⟨z, hz, t3⟩ := RM.bh t2
  refine ho c b2 σ H2 F2 Γ v v2 d d2 z _ E2 (r1.mono s2.f) r2 hz ⟨z, rfl, ?_⟩
  cases z with
  | false => exact q false b2 H2 F2 (s1.trans s2) E2 t3
  | true =>
    refine h3 P b2 σ H2 F2 _ _ E2 t3 fun d3 v3 b3 H3 F3 s3 E3 r3 t4 => ?_
    obtain ⟨z', hz', t5⟩ := RM.bh t4
    refine ho' c b3 σ H3 F3 Γ v2 v3 d2 d3 z' _ E3 (r2.mono s3.f) r3 hz' ⟨z', rfl, ?_⟩
    cases z' with
    | false => exact q false b3 H3 F3 ((s1.trans s2).trans s3) E3 t5
    | true =>
      refine h4 P b3 σ H3 F3 _ _ E3 t5 fun d4 v4 b4 H4 F4 s4 E4 r4 t6 => ?_
      obtain ⟨z2, hz2, t7⟩ := RM.bh t6
      exact ho'' c b4 σ H4 F4 Γ v3 v4 d3 d4 z2 Q E4 (r3.mono s4.f) r4 hz2 (q z2 b4 H4 F4 (((s1.trans s2).trans s3).trans s4) E4 t7)
def ch3T (w1 w2 : (D → R) → R) (g : D → D → Option Bool) (w3 : (D → R) → R) (g' : D → D → Option Bool) (w4 : (D → R) → R) (g'' : D → D → Option Bool) : (Bool → R) → R := fun k => w1 fun x => w2 fun y => bnd (g x y) fun t => if t = true then w3 fun z => bnd (g' y z) fun t' => if t' = true then w4 fun u => bnd (g'' z u) k else k false else k false
def ch3V (w1 w2 : (D → R) → R) (g : D → D → Option Bool) (w3 : (D → R) → R) (g' : D → D → Option Bool) (w4 : (D → R) → R) (g'' : D → D → Option Bool) : (D → R) → R := fun k => ch3T w1 w2 g w3 g' w4 g'' fun t => k (.bool t)
theorem gc_chain3 {op op' op'' : CmpOp} {g g' g'' : D → D → Option Bool} {w1 w2 w3 w4 : (D → R) → R} (ho : Cp2 X (compareOp op) g) (ho' : Cp2 X (compareOp op') g') (ho'' : Cp2 X (compareOp op'') g'') (h1 : GB X c e1 Γ w1) (h2 : GB X c e2 Γ w2) (h3 : GB X c e3 Γ w3) (h4 : GB X c e4 Γ w4)
    (hm : lastMarks [op, op', op''] [e2, e3, e4] = false := by with_unfolding_all rfl) :
    GC X c (.Compare e1 [op, op', op''] [e2, e3, e4] pos) Γ (ch3V w1 w2 g w3 g' w4 g'') := fun P b σ H F Q k E t q =>
  (pe_chain3 op_ex op_ex op_ex pe_w pe_w pe_w pe_w hm).w (chain3_run (k := fun t => k (.bool t)) ho ho' ho'' h1 h2 h3 h4 E t fun z b' H' F' s E' t' => q (.bool z) _ b' H' F' s E' (.bl z) t')
theorem gt_chain3 {op op' op'' : CmpOp} {g g' g'' : D → D → Option Bool} {w1 w2 w3 w4 : (D → R) → R} (ho : Cp2 X (compareOp op) g) (ho' : Cp2 X (compareOp op') g') (ho'' : Cp2 X (compareOp op'') g'') (h1 : GB X c e1 Γ w1) (h2 : GB X c e2 Γ w2) (h3 : GB X c e3 Γ w3) (h4 : GB X c e4 Γ w4)
    (hm : lastMarks [op, op', op''] [e2, e3, e4] = false := by with_unfolding_all rfl) :
    GT X c (.Compare e1 [op, op', op''] [e2, e3, e4] pos) Γ (ch3T w1 w2 g w3 g' w4 g'') := fun P b σ H F Q k E t q =>
  (pt_chain3 op_ex op_ex op_ex pe_w pe_w pe_w pe_w hm).w (chain3_run ho ho' ho'' h1 h2 h3 h4 E t fun z b' H' F' s E' t' => ⟨z, rfl, q z b' H' F' s E' t'⟩)
end
/-! ### two clauses -/
section
variable {X : Cx} {c : Ct} {R : Type} [RM R] {Γ : List Sl} {tg iter tg1 iter1 elt e : Expr} {ifs ifs1 : List Expr} {pos : Pos} {scope : Scope} {own : List (Str × Nat)}
/-- the list under the hand grows: nobody else knows it -/
theorem grow {σ : L2.St} {b : Nat} {Hb Fb H F : Hp} {D0 : Addr} {us us' : List V} (hD : Hb D0 = none) (h0D : c.H0 D0 = none) (ssD : c.ss ≠ some D0) (owD : ∀ (i : Nat) es, Γ[i]? = some (.ow es) → σ[i]? ≠ some (some (.ref D0)))
    (x : Xt c Hb Fb H F) (E : Ev X.K c b σ H F Γ) (hu : H D0 = some (.lst us)) (fD : F D0 = none) : Xt c Hb Fb (upd H D0 (.lst us')) F ∧ Ev X.K c b σ (upd H D0 (.lst us')) F Γ := by
  refine ⟨⟨x.f, fun a o ha hs => ?_, fun a ha => x.k a (free_upd ha), x.n⟩, fun a o ha => ?_, E.len, fun j s hs => ?_, E.apart, fun a ha => ?_, fun a o ha hs => ?_, E.f0, E.nw⟩
  · rw [upd_ne (ne_of_none ha hD)]
    exact x.h a o ha hs
  · rw [upd_ne (fun e => by rw [e, fD] at ha; cases ha)]
    exact E.sub a o ha
  · have q := E.sl j s hs
    cases s with
    | no => trivial
    | va d => exact q
    | ow es =>
      obtain ⟨a, ws, z1, z2, z3⟩ := q
      refine ⟨a, ws, z1, ?_, z3⟩
      rw [upd_ne (fun e => owD j es hs (by rw [z1, e]))]
      exact z2
    | st => exact q
    | fn f => exact q
  · obtain ⟨fa, z1, cells, i1, cc, r, s, t, n, q1, q2, q3⟩ := E.stt a ha
    refine ⟨fa, z1, cells, i1, cc, r, s, t, n, ?_, q2, q3⟩
    rw [upd_ne (fun e => ssD (by rw [← e]; exact ha))]
    exact q1
  · rw [upd_ne (fun e => by rw [e, h0D] at ha; cases ha)]
    exact E.h0 a o ha hs
theorem still {Hb Fb H F H' F' : Hp} {D0 : Addr} {us : List V} (ssD : c.ss ≠ some D0) (x : Xt c H F H' F') (hu : H D0 = some (.lst us)) (fD : F D0 = none) : H' D0 = some (.lst us) ∧ F' D0 = none := by
  refine ⟨x.h _ _ hu ssD, ?_⟩
  cases q : F' D0 with
  | none => rfl
  | some o => exact absurd (x.n D0 fD (by rw [q]; exact fun z => nomatch z)) (by rw [hu]; exact fun z => nomatch z)
/-- a block's loop, whatever its turns do with the list at D0 -/
theorem lp_run {σ : L2.St} {Hb Fb : Hp} {J : It} {S : Hp → Hp → Prop} {ds : List D} {D0 : Addr} {Q : Hp → Prop} (I : Nat → List D → Nat → Prop) (vs : List Nat) (ssD : c.ss ≠ some D0)
    (W : Wk J S ds) {F0 : Hp} (hst : ∀ b2 H2 F2, L2.Same F0 F2 → Ev X.K c b2 σ H2 F2 Γ → S H2 F2)
    {g : TG} {tt : TT} {body : L2.St → Hp → (Hp → Prop) → Prop}
    (step : ∀ i d acc us b H F x, ds[i]? = some d → I i acc b → Xt c Hb Fb H F → Ev X.K c b σ H F Γ → H D0 = some (.lst us) → F D0 = none → RpAll F us acc → Rp F x d → ∀ Nx : Hp → Prop,
      (∀ acc' us' b' H' F', Xt c Hb Fb H' F' → L2.Same F F' → Ev X.K c b' σ H' F' Γ → H' D0 = some (.lst us') → F' D0 = none → RpAll F' us' acc' → I (i + 1) acc' b' → Nx H') →
      g x (wipe σ vs) H fun σ2 H2 => wipe σ2 vs = wipe σ vs ∧ tt σ2 H2 fun t H3 => if t = true then body σ2 H3 Nx else Nx H3)
    (fin : ∀ acc us b' H' F', Xt c Hb Fb H' F' → L2.Same F0 F' → Ev X.K c b' σ H' F' Γ → H' D0 = some (.lst us) → F' D0 = none → RpAll F' us acc → I ds.length acc b' → Q H')
    {b : Nat} {H F : Hp} {acc0 : List D} {us0 : List V} (x0 : Xt c Hb Fb H F) (m0 : L2.Same F0 F) (E : Ev X.K c b σ H F Γ) (hu : H D0 = some (.lst us0)) (fD : F D0 = none) (r0 : RpAll F us0 acc0) (i0 : I 0 acc0 b) :
    ∃ W : Nat → Nat → Hp → Prop, (∃ m, W 0 m H) ∧ ∀ i m H, W i m H →
      (J.stop i H ∧ Q H) ∨ (J.go i H ∧ ∃ Nx : Hp → Prop, (∀ H', Nx H' → ∃ m', m' < m ∧ W (i + 1) m' H') ∧ ∀ x H', J.yld i H x H' → g x (wipe σ vs) H' fun σ2 H2 => wipe σ2 vs = wipe σ vs ∧ tt σ2 H2 fun b H3 => if b = true then body σ2 H3 Nx else Nx H3) := by
  let Pv : Nat → Hp → Prop := fun i H2 => ∃ b2 F2 acc us, Xt c Hb Fb H2 F2 ∧ L2.Same F0 F2 ∧ Ev X.K c b2 σ H2 F2 Γ ∧ H2 D0 = some (.lst us) ∧ F2 D0 = none ∧ RpAll F2 us acc ∧ I i acc b2
  refine ⟨fun i m H2 => m = ds.length - i ∧ i ≤ ds.length ∧ Pv i H2, ⟨_, rfl, Nat.zero_le _, b, F, acc0, us0, x0, m0, E, hu, fD, r0, i0⟩, ?_⟩
  rintro i m H2 ⟨rfl, hi, b2, F2, acc, us, x2, m2, E2, hu, fu, ru, hI⟩
  have st := hst b2 H2 F2 m2 E2
  by_cases hlt : i < ds.length
  · refine .inr ⟨W.goes i H2 F2 hlt st, Pv (i + 1), fun H' p => ⟨ds.length - (i + 1), by omega, rfl, hlt, p⟩, fun x H3 y => ?_⟩
    obtain ⟨F3, x3, E3, rx⟩ := W.item E2 (List.getElem?_eq_getElem hlt) st y
    obtain ⟨hu3, fu3⟩ := still (Hb := Hb) (Fb := Fb) ssD x3 hu fu
    exact step i ds[i] acc us b2 H3 F3 x (List.getElem?_eq_getElem hlt) hI (x2.trans x3) E3 hu3 fu3 (RpAll.mono x3.f ru) rx (Pv (i + 1)) fun acc' us' b' H' F' z1 z0 z2 z3 z4 z5 z6 => ⟨b', F', acc', us', z1, (m2.trans x3.f).trans z0, z2, z3, z4, z5, z6⟩
  · have e : i = ds.length := by omega
    subst e
    exact .inl ⟨W.stops H2 F2 st, fin acc us b2 H2 F2 x2 m2 E2 hu fu ru hI⟩
def bI (X : Cx) (scope : Scope) (tg iter : Expr) : TI := fun σ H R => ∀ s H0 C cl fp, wI (Bk X scope s H0 C cl fp) tg iter σ H R
def catM (g : D → Option (List D)) : List D → Option (List D)
  | [] => some []
  | d :: ds => (g d).bind fun ys => (catM g ds).bind fun zs => some (ys ++ zs)
theorem catM_app {g : D → Option (List D)} : ∀ (a b : List D), catM g (a ++ b) = (catM g a).bind fun x => (catM g b).bind fun y => some (x ++ y)
  | [], b => by
    show catM g b = (catM g b).bind fun y => some ([] ++ y)
    cases catM g b <;> rfl
  | d :: a, b => by
    show (g d).bind _ = ((g d).bind _).bind _
    cases g d with
    | none => rfl
    | some ys =>
      show (catM g (a ++ b)).bind _ = ((catM g a).bind _).bind _
      rw [catM_app a b]
      cases catM g a with
      | none => rfl
      | some x =>
        show ((catM g b).bind _).bind _ = (catM g b).bind _
        cases catM g b with
        | none => rfl
        | some y =>
          show some (ys ++ (x ++ y)) = some (ys ++ x ++ y)
          rw [List.append_assoc]
/-- behind i turns: what there is, what turn i adds, and that it is part of all -/
theorem catM_at {g : D → Option (List D)} {ds ys : List D} (h : catM g ds = some ys) {i : Nat} {d : D} (hd : ds[i]? = some d) {acc : List D} (ha : catM g (ds.take i) = some acc) :
    ∃ o, g d = some o ∧ catM g (ds.take (i + 1)) = some (acc ++ o) ∧ (acc ++ o).length ≤ ys.length := by
  have e : ds = ds.take i ++ d :: ds.drop (i + 1) := by
    obtain ⟨h1, h2⟩ := List.getElem?_eq_some_iff.mp hd
    rw [← h2, ← List.drop_eq_getElem_cons h1, List.take_append_drop]
  rw [e, catM_app, ha] at h
  have h : (((g d).bind fun z => (catM g (ds.drop (i + 1))).bind fun w => some (z ++ w))).bind (fun y => some (acc ++ y)) = some ys := h
  cases q : g d with
  | none => rw [q] at h; cases h
  | some o =>
    rw [q] at h
    have h : ((catM g (ds.drop (i + 1))).bind fun w => some (o ++ w)).bind (fun y => some (acc ++ y)) = some ys := h
    cases q2 : catM g (ds.drop (i + 1)) with
    | none => rw [q2] at h; cases h
    | some w =>
      rw [q2] at h
      have h : some (acc ++ (o ++ w)) = some ys := h
      cases h
      refine ⟨o, rfl, ?_, by simp only [List.length_append]; omega⟩
      rw [List.take_add_one, hd, catM_app, ha]
      show ((g d).bind fun z => some (z ++ [])).bind (fun y => some (acc ++ y)) = _
      rw [q]
      show some (acc ++ (o ++ [])) = _
      rw [List.append_nil]
def catL (g : D → Option (List D)) (ds : List D) : Option (List D) := (catM g ds).bind fun ys => if ys.length ≤ 16777216 then some ys else none
theorem cmpM_drop {g : D → Option (Option D)} : ∀ (ds ys : List D), cmpM g ds = some ys → ∀ (i : Nat) (zs : List D), cmpM g (ds.take i) = some zs → ∃ _ : True, zs.length ≤ ys.length
  | [], ys, h, i, zs, hz => by
    rw [List.take_nil] at hz
    rw [h] at hz
    cases hz
    exact ⟨trivial, Nat.le_refl _⟩
  | x :: xs, ys, h, 0, zs, hz => by
    cases hz
    exact ⟨trivial, Nat.zero_le _⟩
  | x :: xs, ys, h, i + 1, zs, hz => by
    obtain ⟨o, h1, h2⟩ := Option.bind_eq_some_iff.mp (show (g x).bind _ = some ys from h)
    obtain ⟨w, h3, h4⟩ := Option.bind_eq_some_iff.mp h2
    obtain ⟨o', h1', h2'⟩ := Option.bind_eq_some_iff.mp (show (g x).bind _ = some zs from hz)
    obtain ⟨w', h3', h4'⟩ := Option.bind_eq_some_iff.mp h2'
    rw [h1] at h1'
    cases h1'
    obtain ⟨_, hl⟩ := cmpM_drop xs w h3 i w' h3'
    cases h4
    cases h4'
    cases o with
    | none => exact ⟨trivial, hl⟩
    | some y => exact ⟨trivial, Nat.succ_le_succ hl⟩
def GLc2 (X : Cx) (c : Ct) {R : Type} [RM R] (scope : Scope) (own : List (Str × Nat)) (vs1 : List Nat) (elt tg iter : Expr) (ifs : List Expr) (tg1 iter1 : Expr) (ifs1 : List Expr) (Γ : List Sl) (w : (List D → R) → R) : Prop :=
  ∀ (P : RM.Pt R) (b : Nat) (σ : L2.St) (H F : Hp) (Q : VK) (k : List D → R), σ.length = X.N.length → Ev X.K c b σ H F Γ → RM.tr P b (w k) →
    (∀ ds a vs b' H' F', Xt c H F H' F' → Ev X.K c b' σ H' F' Γ → H a = none → H' a = some (.lst vs) → F' a = none → c.H0 a = none → c.ss ≠ some a → (∀ (i : Nat) es, Γ[i]? = some (.ow es) → σ[i]? ≠ some (some (.ref a))) → RpAll F' vs ds → RM.tr P b' (k ds) → Q (.ref a) H') →
    tLc2 (wI X tg iter) (bG X scope tg) (bTs X scope ifs) (bI X scope tg1 iter1) (bG X scope tg1) (bTs X scope ifs1) (bE X scope elt) (own.map (·.2)) vs1 σ H Q
theorem gn_lc2G {vs1 : List Nat} {w : (List D → R) → R} (hc : X.calm = true) (hN : X.N.Nodup) (ok : BlkOk X.N X.env.scope scope own) (hv : ∀ i ∈ vs1, i ∈ own.map (·.2)) (h : GLc2 X c scope own vs1 elt tg iter ifs tg1 iter1 ifs1 Γ w) (hs : ∀ x, foldedSetIterable iter X.env x = pure x := by intro _; rfl) (hs1 : ∀ env x, foldedSetIterable iter1 env x = pure x := by intro _ _; rfl) :
    GN X c (.ListComp elt [⟨tg, iter, ifs, 0⟩, ⟨tg1, iter1, ifs1, 0⟩] scope pos) Γ w := fun P b σ H F Q k E t q pins s0 I0 =>
  (pe_lc2 (g := bG X scope tg) (tt := bTs X scope ifs) (wi1 := bI X scope tg1 iter1) (g1 := bG X scope tg1) (tt1 := bTs X scope ifs1) (te := bE X scope elt) hc hN pi_w ok hv (fun s H C cl fp => ⟨fun pins s' σ H' v u Q I r h => h s H C cl fp pins s' u I r⟩) (fun s H C cl fp => ⟨fun pins s' σ H' Q I h => h s H C cl fp pins s' I⟩)
    (fun s H C cl fp => ⟨fun pins s' σ H' R I h => h s H C cl fp pins s' I⟩) (fun s H C cl fp => ⟨fun pins s' σ H' v u Q I r h => h s H C cl fp pins s' u I r⟩) (fun s H C cl fp => ⟨fun pins s' σ H' Q I h => h s H C cl fp pins s' I⟩) (fun s H C cl fp => ⟨fun pins s' σ H' Q I h => h s H C cl fp pins s' I⟩) hs hs1).run pins s0 σ H Q I0 (h P b σ H F Q k I0.len E t q)
theorem wipe_of {σ σ2 : L2.St} {vs ks : List Nat} (hk : ∀ k ∈ ks, k ∈ vs) (w2 : ∀ vs' : List Nat, (∀ k ∈ ks, k ∈ vs') → wipe σ2 vs' = wipe (wipe σ vs) vs') : wipe σ2 vs = wipe σ vs := by
  rw [w2 vs hk]
  have key : ∀ (ws : List Nat) (τ : L2.St), (∀ w ∈ ws, w ∈ vs) → wipe (wipe τ ws) vs = wipe τ vs := by
    intro ws
    induction ws with
    | nil => intro τ _; rfl
    | cons w ws ih =>
      intro τ h
      show wipe ((wipe τ ws).set w none) vs = _
      rw [wipe_set (h w List.mem_cons_self)]
      exact ih τ fun z hz => h z (List.mem_cons_of_mem _ hz)
  exact key vs σ fun _ h => h
theorem wipeΓ_in {Γ : List Sl} {i : Nat} {es : List D} : ∀ {vs : List Nat}, i ∈ vs → (wipeΓ Γ vs)[i]? ≠ some (.ow es) := fun {vs} hm h => by
  rcases wipeΓ_get h with e | ⟨n, _⟩
  · cases e
  · exact n hm
theorem glc2 {T U : Type} {δ : D → Option T} {υ : T → List Sl → List Sl} {ks : List Nat} {δ1 : D → Option U} {υ1 : U → List Sl → List Sl} {ks1 vs1 : List Nat} {wi : (List D → R) → R} {wt : T → (Bool → Option (List D)) → Option (List D)} {wi1 : T → (List D → Option (List D)) → Option (List D)}
    {wt1 : T → U → (Bool → Option (Option D)) → Option (Option D)} {we : T → U → (D → Option (Option D)) → Option (Option D)}
    (hw : ∀ (i : Nat) es, Γ[i]? = some (.ow es) → i ∉ own.map (·.2)) (hi : GIB X c tg iter Γ wi) (hk : ∀ k ∈ ks, k ∈ own.map (·.2)) (hv : ∀ i ∈ vs1, i ∈ own.map (·.2)) (hd1 : ∀ i ∈ vs1, i ∉ ks) (hk1 : ∀ k ∈ ks1, k ∈ vs1) (hno : ∀ (t : T) (i : Nat) (es : List D), (υ t (wipeΓ Γ (own.map (·.2))))[i]? = some (.ow es) → i ∉ ks)
    (hg : ∀ s H C cl fp, GG (Bk X scope s H C cl fp) c tg δ υ ks)
    (ht : ∀ s H C cl fp (t : T), GTs (Bk X scope s H C cl fp) c ifs (υ t (wipeΓ Γ (own.map (·.2)))) (wt t))
    (hi1 : ∀ s H C cl fp (t : T), GIB (Bk X scope s H C cl fp) c tg1 iter1 (υ t (wipeΓ Γ (own.map (·.2)))) (wi1 t))
    (hg1 : ∀ s H C cl fp, GG (Bk X scope s H C cl fp) c tg1 δ1 υ1 ks1)
    (ht1 : ∀ s H C cl fp (t : T) (u : U), GTs (Bk X scope s H C cl fp) c ifs1 (υ1 u (wipeΓ (υ t (wipeΓ Γ (own.map (·.2)))) vs1)) (wt1 t u))
    (he : ∀ s H C cl fp (t : T) (u : U), GC (Bk X scope s H C cl fp) c elt (υ1 u (wipeΓ (υ t (wipeΓ Γ (own.map (·.2)))) vs1)) (we t u)) :
    GLc2 X c scope own vs1 elt tg iter ifs tg1 iter1 ifs1 Γ (fun k => wi fun ds => bnd (catL (fun x => (δ x).bind fun t => wt t fun z => if z = true then wi1 t fun ds1 => cmpM (fun x => (δ1 x).bind fun u => wt1 t u fun z => if z = true then we t u fun y => some (some y) else some none) ds1 else some []) ds) k) := fun P b σ H F Q k hl E t q => by
  refine hi P b σ H F _ _ E t fun ds J S b' H1 F1 x1 E1 W hst t1 D0 hD => ?_
  obtain ⟨ys, hys, t2⟩ := RM.bh t1
  obtain ⟨ys', hcat, hsz⟩ := Option.bind_eq_some_iff.mp (show (catM _ ds).bind _ = some ys from hys)
  have hys2 : ys' = ys ∧ ys'.length ≤ 16777216 := by
    split at hsz
    · rename_i hz
      cases hsz
      exact ⟨rfl, hz⟩
    · cases hsz
  obtain ⟨rfl, hlen⟩ := hys2
  have fD : F1 D0 = none := E1.sub.free hD
  have h0D : c.H0 D0 = none := E1.h0none hD
  have ssD : c.ss ≠ some D0 := E1.notSt hD
  have owD : ∀ (i : Nat) es, Γ[i]? = some (.ow es) → σ[i]? ≠ some (some (.ref D0)) := fun i es g z => by
    obtain ⟨a, us, z', ha, _⟩ := E1.sl i _ g
    rw [z'] at z
    cases z
    rw [hD] at ha; cases ha
  refine lp_run (Hb := H1) (Fb := F1) (F0 := F1) (fun i acc b2 => b2 = b' ∧ catM (fun x => (δ x).bind fun t => wt t fun z => if z = true then wi1 t fun ds1 => cmpM (fun x => (δ1 x).bind fun u => wt1 t u fun z => if z = true then we t u fun y => some (some y) else some none) ds1 else some []) (ds.take i) = some acc) (own.map (·.2)) ssD W hst
    (body := fun σ2 H3 Nx => bI X scope tg1 iter1 σ2 H3 fun J1 H4 => ∃ W1 : Nat → Nat → Hp → Prop, (∃ m, W1 0 m H4) ∧ ∀ j k H, W1 j k H →
      (J1.stop j H ∧ Nx H) ∨ (J1.go j H ∧ ∃ Nx1 : Hp → Prop, (∀ H', Nx1 H' → ∃ k', k' < k ∧ W1 (j + 1) k' H') ∧ ∀ x H', J1.yld j H x H' → bG X scope tg1 x (wipe σ2 vs1) H' fun σ3 H5 => wipe σ3 vs1 = wipe σ2 vs1 ∧ bTs X scope ifs1 σ3 H5 fun b H6 =>
        if b = true then bE X scope elt σ3 H6 fun y H7 => ∃ acc, H7 D0 = some (.lst acc) ∧ acc.length < sizeLine ∧ Nx1 (upd H7 D0 (.lst (acc ++ [y]))) else Nx1 H6))
    ?_ ?_ (Xt.new hD) (L2.Same.refl _) (E1.alloc1 hD) upd_same fD .nil ⟨rfl, rfl⟩
  · -- a turn
    rintro i d acc us b2 H2 F2 x hd ⟨rfl, hI⟩ x2 E2 hu fu ru rx Nx hNx
    obtain ⟨o, ho, htake, hlo⟩ := catM_at hcat hd hI
    obtain ⟨t, hδ, hgo⟩ := Option.bind_eq_some_iff.mp (show (δ d).bind _ = some o from ho)
    intro s0 H0 C0 cl0 fp0
    refine hg s0 H0 C0 cl0 fp0 b2 (wipe σ (own.map (·.2))) H2 F2 (wipeΓ Γ (own.map (·.2))) x d t _ E2.wiped (by rw [wipe_length]; exact hl) rx hδ ?_
    intro σ2 hl2 w2 g2 E3
    refine ⟨wipe_of hk w2, ?_⟩
    have hw2 : wipe σ2 (own.map (·.2)) = wipe σ (own.map (·.2)) := wipe_of hk w2
    have hΓ : ∀ j : Nat, j ∉ own.map (·.2) → (υ t (wipeΓ Γ (own.map (·.2))))[j]? = Γ[j]? := fun j hj => (g2 j fun z => hj (hk j z)).trans (wipeΓ_keep hj)
    have back : ∀ {b' H' F'}, L2.Same F2 F' → Ev X.K c b' σ2 H' F' (υ t (wipeΓ Γ (own.map (·.2)))) → Ev X.K c b' σ H' F' Γ := fun {b' H' F'} m E' =>
      E2.back m E' fun i es he => by
        have n := hw i es he
        refine ⟨(hΓ i n).trans he, ?_⟩
        rw [← wipe_get (σ := σ2) n, hw2, wipe_get n]
    intro s4 H04 C4 cl4 fp4
    refine ht s4 H04 C4 cl4 fp4 t (fun a b'' => a = o ∧ b'' = b2) b2 σ2 H2 F2 _ _ E3 ⟨o, hgo, rfl, rfl⟩ fun z b3 H3 F3 x3 E4 t3 => ?_
    obtain ⟨hu3, fu3⟩ := still (Hb := H1) (Fb := F1) ssD x3 hu fu
    cases z with
    | false =>
      obtain ⟨a, ea, eo, eb⟩ := t3
      cases ea
      have h2 := htake
      rw [← eo, List.append_nil] at h2
      exact hNx acc us b3 H3 F3 (x2.trans x3) x3.f (back x3.f E4) hu3 fu3 (RpAll.mono x3.f ru) ⟨eb, h2⟩
    | true =>
      intro s5 H05 C5 cl5 fp5
      refine hi1 s5 H05 C5 cl5 fp5 t (fun a b'' => a = o ∧ b'' = b2) b3 σ2 H3 F3 _ _ E4 t3 fun ds1 J1 S1 b4 H4 F4 x4 E5 W1 hst1 t4 => ?_
      obtain ⟨a, hin, eo, eb⟩ := t4
      cases eo
      subst eb
      obtain ⟨hu4, fu4⟩ := still (Hb := H1) (Fb := F1) ssD x4 hu3 fu3
      have ow2 : ∀ (i : Nat) es, (υ t (wipeΓ Γ (own.map (·.2))))[i]? = some (.ow es) → i ∉ vs1 := fun i es he hm => by
        rw [g2 i (hd1 i hm)] at he
        exact wipeΓ_in (hv i hm) he
      have owD2 : ∀ (i : Nat) es, (υ t (wipeΓ Γ (own.map (·.2))))[i]? = some (.ow es) → σ2[i]? ≠ some (some (.ref D0)) := fun i es g z => by
        obtain ⟨p, us', z', ha, hfa, h0, hs, rr⟩ := E3.sl i _ g
        by_cases hi2 : i ∈ own.map (·.2)
        · by_cases hik : i ∈ ks
          · exact absurd hik (hno t i es g)
          · rw [g2 i hik] at g
            exact wipeΓ_in hi2 g
        · rw [hΓ i hi2] at g
          refine owD i es g ?_
          rw [← wipe_get (σ := σ2) hi2, hw2, wipe_get hi2] at z
          exact z
      have fin1 : ∀ acc' us' b5 H5 F5, Xt c H1 F1 H5 F5 → L2.Same F4 F5 → Ev X.K c b5 σ2 H5 F5 (υ t (wipeΓ Γ (own.map (·.2)))) → H5 D0 = some (.lst us') → F5 D0 = none → RpAll F5 us' acc' → (b5 = b4 ∧ ∃ zs, cmpM (fun x => (δ1 x).bind fun u => wt1 t u fun z => if z = true then we t u fun y => some (some y) else some none) (ds1.take ds1.length) = some zs ∧ acc' = acc ++ zs) → Nx H5 := by
        rintro acc' us' b5 H5 F5 x5 m5 E6 hu5 fu5 ru5 ⟨rfl, zs, hz, rfl⟩
        rw [List.take_length, hin] at hz
        cases hz
        have mm := (x3.f.trans x4.f).trans m5
        exact hNx _ us' _ H5 F5 x5 mm (back mm E6) hu5 fu5 ru5 ⟨rfl, htake⟩
      refine lp_run (Hb := H1) (Fb := F1) (F0 := F4) (fun j acc' b5 => b5 = b4 ∧ ∃ zs, cmpM (fun x => (δ1 x).bind fun u => wt1 t u fun z => if z = true then we t u fun y => some (some y) else some none) (ds1.take j) = some zs ∧ acc' = acc ++ zs) vs1 ssD W1 hst1
        (body := fun σ3 H6 Nx1 => bE X scope elt σ3 H6 fun y H7 => ∃ acc, H7 D0 = some (.lst acc) ∧ acc.length < sizeLine ∧ Nx1 (upd H7 D0 (.lst (acc ++ [y]))))
        ?_ fin1 ((x2.trans x3).trans x4) (L2.Same.refl _) E5 hu4 fu4 (RpAll.mono (x3.f.trans x4.f) ru) ⟨rfl, [], rfl, (List.append_nil acc).symm⟩
      rintro j d1 acc' us' b5 H5 F5 y1 hd1' ⟨rfl, zs, hzs, rfl⟩ x5 E6 hu5 fu5 ru5 rx5 Nx1 hNx1
      obtain ⟨o1, ho1⟩ := cmpM_step ds1 _ hin j d1 hd1'
      obtain ⟨u, hδ1, hgo1⟩ := Option.bind_eq_some_iff.mp (show (δ1 d1).bind _ = some o1 from ho1)
      have htk : cmpM (fun x => (δ1 x).bind fun u => wt1 t u fun z => if z = true then we t u fun y => some (some y) else some none) (ds1.take (j + 1)) = some (zs ++ oadd o1 []) := by
        rw [List.take_add_one, hd1']
        exact cmpM_snoc d1 o1 ho1 _ zs hzs
      have hlz : ∀ y, o1 = some y → (acc ++ zs).length < 16777216 := fun y ey => by
        obtain ⟨z2, hz2⟩ := cmpM_drop ds1 _ hin (j + 1) _ htk
        rw [ey] at hz2
        have l2 : (zs ++ [y]).length ≤ o.length := hz2
        simp only [List.length_append, List.length_singleton] at l2 hlo ⊢
        omega
      have back1 : ∀ {b' H' F' σ3 Γ3}, L2.Same F5 F' → wipe σ3 vs1 = wipe σ2 vs1 → (∀ j : Nat, j ∉ vs1 → Γ3[j]? = (υ t (wipeΓ Γ (own.map (·.2))))[j]?) → Ev X.K c b' σ3 H' F' Γ3 → Ev X.K c b' σ2 H' F' (υ t (wipeΓ Γ (own.map (·.2)))) := fun {b' H' F' σ3 Γ3} m w3 g3 E' =>
        E6.back m E' fun i es he => by
          have n := ow2 i es he
          refine ⟨(g3 i n).trans he, ?_⟩
          rw [← wipe_get (σ := σ3) n, w3, wipe_get n]
      refine lc_step (R' := Option (Option D)) hk1 hg1 (fun s H C cl fp u => ht1 s H C cl fp t u) (fun s H C cl fp u => he s H C cl fp t u) hl2 E6.wiped rx5 hδ1 (fun a b'' => a = o1 ∧ b'' = b5) (fun o => some o) ⟨o1, hgo1, rfl, rfl⟩ (fun o H7 => match o with | none => Nx1 H7 | some y => ∃ acc, H7 D0 = some (.lst acc) ∧ acc.length < sizeLine ∧ Nx1 (upd H7 D0 (.lst (acc ++ [y])))) ?_ ?_
      · rintro b6 H6 F6 σ3 Γ3 x6 w3 g3 E7 ⟨a6, ea, eo, eb⟩
        cases ea
        cases eo
        obtain ⟨hu6, fu6⟩ := still (Hb := H1) (Fb := F1) ssD x6 hu5 fu5
        refine hNx1 (acc ++ zs) us' b6 H6 F6 (x5.trans x6) x6.f (back1 x6.f w3 g3 E7) hu6 fu6 (RpAll.mono x6.f ru5) ⟨eb, zs, ?_, rfl⟩
        rw [htk]
        exact congrArg some (List.append_nil zs)
      · rintro y z b6 H6 F6 σ3 Γ3 x6 w3 g3 E7 r6 ⟨a6, ea, eo, eb⟩
        cases ea
        cases eo
        obtain ⟨hu6, fu6⟩ := still (Hb := H1) (Fb := F1) ssD x6 hu5 fu5
        obtain ⟨x7, E8⟩ := grow (us' := us' ++ [y]) hD h0D ssD owD2 (x5.trans x6) (back1 x6.f w3 g3 E7) hu6 fu6
        refine ⟨us', hu6, ?_, hNx1 (acc ++ zs ++ [z]) (us' ++ [y]) b6 _ F6 x7 x6.f E8 upd_same fu6 ((RpAll.mono x6.f ru5).append (.cons r6 .nil)) ⟨eb, zs ++ [z], htk, List.append_assoc _ _ _⟩⟩
        rw [sizeLine_eq, RpAll.length ru5]
        exact hlz z rfl
  · rintro acc us b2 H2 F2 x2 m2 E2 h1 h2 ru ⟨rfl, hI⟩
    rw [List.take_length, hcat] at hI
    cases hI
    exact q ys' D0 us b2 H2 F2 (x1.trans x2) E2 (x1.k D0 hD) h1 h2 h0D ssD owD ru t2
end
end G
namespace G
open RM (bnd)
open L2 in
def lcI {T : Type} (δ : D → Option T) (f : T → Option (Option D)) (ds : List D) : Option (List D) := cmpM (fun x => (δ x).bind f) ds
open L2 in
def lcPP {T : Type} (δ : D → Option T) (f : T → Option (List D)) (ds : List D) : Option (List D) := catL (fun x => (δ x).bind f) ds
end G

end
section
set_option Elab.async false
set_option linter.all false
set_option maxRecDepth 100000
/-! G21: a refusing def called where nothing is caught: it must not refuse. -/
namespace G
open RM (bnd)
open PySem PySem.Spec PyProof.Rows L2
section
variable {X : Cx} {c : Ct} {R : Type} [RM R] {Γ : List Sl} {e : Expr} {es : List Expr} {pos p : Pos} {k : Nat} {f : Addr} {fd : FuncData} {ps : List Str} {x : Str} {cp : Addr}
theorem passF {P : Program} {w : World} : Passes (L2.CX P w) X (fun _ _ _ => False) := fun _ _ _ _ _ _ _ ⟨_, _, _, _, _, _, _, _, _, _, _, _, h⟩ => h.elim
theorem gc_callX {g : List Ar → Option (Option D)} (F : FnOk X.prog X.w X.K X.mg X.base (L2.CX X.prog X.w) k f fd ps (spR vwX cp ps.length g)) (hr : Room k X.A) (hg : Gl X x) (hm : X.mg x = some (.ref f)) (hk : PySem.W.keepIn X.K (.ref f) = true) (hb : Binds X.K fd ps []) {w : (List Ar → R) → R}
    (ha : GR X c (e :: es) Γ w) (hn : (e :: es).length = ps.length := by rfl) (hdb : (x == ("__debug__" : Str)) = false := by decide) (he : starEach (e :: es) X.env = (false, eval e X.env) :: starEach es X.env := by rfl) (hpl : (backTo pos (starEach es X.env)).any (·.1) = false := by rfl) :
    GC X c (.Call (.Name x p) (e :: es) [] pos) Γ (fun k => w fun as => bnd (g as) fun o => bnd o k) := fun P b σ H F1 Q kk E t q => by
  refine (pe_call F hr hg hm hk hb .nil passF pa_w hdb he hpl).w ?_
  refine ha P b σ H F1 _ _ E t fun as vs b1 H1 F1 x1 E1 l1 r1 t1 => ?_
  obtain ⟨o, ho, t2⟩ := RM.bh t1
  obtain ⟨d, hd, t3⟩ := RM.bh t2
  subst hd
  have lv := r1.length
  refine ⟨by rw [List.append_nil]; omega, ⟨c.ss, H1, F1⟩, as, fun a b' => a = some d ∧ b' = b1, b1, rfl, E1.sub, by rw [List.append_nil]; exact r1, StX.of E1, ⟨some d, ho, rfl, rfl⟩, ?_, ?_, ?_⟩
  · rintro d' v b2 H2 F2 x2 s2 st2 r2 ⟨z, ez, eq, eb⟩
    cases ez
    cases eq
    subst eb
    exact q _ v b2 H2 F2 (x1.trans (xt_same (c' := ⟨c.ss, H1, F1⟩) rfl x2)) (E1.called (c' := ⟨c.ss, H1, F1⟩) rfl x2 s2 st2) r2 t3
  · rintro ds a us b2 H2 F2 _ _ _ _ _ _ _ ⟨z, ez, _⟩
    cases ez
  · rintro b2 d H2 F2 _ _ _ ⟨z, ez, eq, _⟩
    cases ez
    cases eq
end
end G

end
section
set_option Elab.async false
set_option linter.all false
set_option maxRecDepth 100000
/-! G22: lists told by place (tab), lists of those that pass (fil), loops by what holds behind each turn; draws counted (WP). -/
namespace G
open RM (bnd)
open PySem PySem.Spec PyProof.Rows L2
def tab {α : Type} (n : Nat) (f : Int → α) : List α := (List.range n).map fun (i : Nat) => f (i : Int)
def anyB (n : Nat) (p : Int → Bool) : Bool := (List.range n).any fun (i : Nat) => p (i : Int)
def allB (n : Nat) (p : Int → Bool) : Bool := (List.range n).all fun (i : Nat) => p (i : Int)
def fil {α : Type} (n : Nat) (p : Int → Bool) (o : Int → α) : List α := ((List.range n).filter fun (i : Nat) => p (i : Int)).map fun (i : Nat) => o (i : Int)
section
variable {α : Type} {n : Nat} {f g : Int → α} {p : Int → Bool}
theorem tab_len : (tab n f).length = n := by simp [tab]
theorem tab_get {i : Nat} (h : i < n) : (tab n f)[i]? = some (f i) := by simp [tab, h]
theorem tab_zero : tab 0 f = [] := rfl
theorem tab_succ : tab (n + 1) f = tab n f ++ [f n] := by simp [tab, List.range_succ]
theorem tab_cons : tab (n + 1) f = f 0 :: tab n fun i => f (i + 1) := by
  simp only [tab, List.range_succ_eq_map, List.map_cons, List.map_map]
  rfl
theorem tab_congr (h : ∀ i : Int, 0 ≤ i → i < n → f i = g i) : tab n f = tab n g := by
  unfold tab
  refine List.map_congr_left fun i hi => ?_
  have := List.mem_range.mp hi
  exact h i (by omega) (by omega)
theorem mem_tab {x : α} : x ∈ tab n f ↔ ∃ i : Int, 0 ≤ i ∧ i < n ∧ f i = x := by
  unfold tab
  rw [List.mem_map]
  constructor
  · rintro ⟨i, hi, e⟩
    have := List.mem_range.mp hi
    exact ⟨i, by omega, by omega, e⟩
  · rintro ⟨i, h0, h1, e⟩
    refine ⟨i.toNat, List.mem_range.mpr (by omega), ?_⟩
    rw [Int.toNat_of_nonneg h0]
    exact e
theorem tab_map {β : Type} (h : α → β) : (tab n f).map h = tab n fun i => h (f i) := by
  unfold tab
  rw [List.map_map]
  rfl
theorem anyB_iff : anyB n p = true ↔ ∃ i : Int, 0 ≤ i ∧ i < n ∧ p i = true := by
  unfold anyB
  rw [List.any_eq_true]
  constructor
  · rintro ⟨i, hi, e⟩
    have := List.mem_range.mp hi
    exact ⟨i, by omega, by omega, e⟩
  · rintro ⟨i, h0, h1, e⟩
    refine ⟨i.toNat, List.mem_range.mpr (by omega), ?_⟩
    rw [Int.toNat_of_nonneg h0]
    exact e
theorem allB_iff : allB n p = true ↔ ∀ i : Int, 0 ≤ i → i < n → p i = true := by
  unfold allB
  rw [List.all_eq_true]
  constructor
  · intro h i h0 h1
    have := h i.toNat (List.mem_range.mpr (by omega))
    rw [Int.toNat_of_nonneg h0] at this
    exact this
  · intro h i hi
    have := List.mem_range.mp hi
    exact h i (by omega) (by omega)
theorem mem_fil {x : α} : x ∈ fil n p f ↔ ∃ i : Int, 0 ≤ i ∧ i < n ∧ p i = true ∧ f i = x := by
  unfold fil
  rw [List.mem_map]
  constructor
  · rintro ⟨i, hi, e⟩
    obtain ⟨h1, h2⟩ := List.mem_filter.mp hi
    have := List.mem_range.mp h1
    exact ⟨i, by omega, by omega, h2, e⟩
  · rintro ⟨i, h0, h1, h2, e⟩
    refine ⟨i.toNat, List.mem_filter.mpr ⟨List.mem_range.mpr (by omega), ?_⟩, ?_⟩
    · rw [Int.toNat_of_nonneg h0]; exact h2
    · rw [Int.toNat_of_nonneg h0]; exact e
theorem fil_len : (fil n p f).length ≤ n := by
  unfold fil
  rw [List.length_map]
  exact Nat.le_trans (List.length_filter_le _ _) (by simp)
theorem fil_nil (h : ∀ i : Int, 0 ≤ i → i < n → p i = false) : fil n p f = [] := by
  apply List.eq_nil_iff_forall_not_mem.mpr
  intro x hx
  obtain ⟨i, h0, h1, h2, _⟩ := mem_fil.mp hx
  rw [h i h0 h1] at h2
  cases h2
/-- none that passes, or a first one -/
theorem fil_cases (n : Nat) (p : Int → Bool) (f : Int → α) : (fil n p f = [] ∧ ∀ i : Int, 0 ≤ i → i < n → p i = false) ∨ ∃ (j : Int) (r : List α), 0 ≤ j ∧ j < n ∧ p j = true ∧ (∀ i : Int, 0 ≤ i → i < j → p i = false) ∧ fil n p f = f j :: r := by
  have key : ∀ (l : List Nat), l.Pairwise (· < ·) → (l.filter fun (i : Nat) => p (i : Int)) = [] ∧ (∀ i ∈ l, p (i : Int) = false) ∨ ∃ (j : Nat) (r : List Nat), j ∈ l ∧ p j = true ∧ (∀ i ∈ l, i < j → p (i : Int) = false) ∧ (l.filter fun (i : Nat) => p (i : Int)) = j :: r := by
    intro l
    induction l with
    | nil => intro _; exact .inl ⟨rfl, fun _ h => by cases h⟩
    | cons x l ih =>
      intro hp
      obtain ⟨h1, h2⟩ := List.pairwise_cons.mp hp
      cases e : p (x : Int) with
      | true =>
        refine .inr ⟨x, l.filter fun (i : Nat) => p (i : Int), List.mem_cons_self, e, fun i hi hlt => ?_, by rw [List.filter_cons, if_pos e]⟩
        rcases List.mem_cons.mp hi with rfl | hi
        · omega
        · have := h1 i hi; omega
      | false =>
        rcases ih h2 with ⟨a, b⟩ | ⟨j, r, a, b, c, d⟩
        · refine .inl ⟨by rw [List.filter_cons, if_neg (by rw [e]; decide)]; exact a, fun i hi => ?_⟩
          rcases List.mem_cons.mp hi with rfl | hi
          · exact e
          · exact b i hi
        · refine .inr ⟨j, r, List.mem_cons_of_mem _ a, b, fun i hi hlt => ?_, by rw [List.filter_cons, if_neg (by rw [e]; decide)]; exact d⟩
          rcases List.mem_cons.mp hi with rfl | hi
          · exact e
          · exact c i hi hlt
  rcases key (List.range n) (List.pairwise_lt_range) with ⟨a, b⟩ | ⟨j, r, a, b, c, d⟩
  · refine .inl ⟨by unfold fil; rw [a]; rfl, fun i h0 h1 => ?_⟩
    have := b i.toNat (List.mem_range.mpr (by omega))
    rw [Int.toNat_of_nonneg h0] at this
    exact this
  · have hj := List.mem_range.mp a
    refine .inr ⟨j, r.map fun (i : Nat) => f (i : Int), by omega, by omega, b, fun i h0 h1 => ?_, by unfold fil; rw [d]; rfl⟩
    have := c i.toNat (List.mem_range.mpr (by omega)) (by omega)
    rw [Int.toNat_of_nonneg h0] at this
    exact this
theorem fil_congr {q : Int → Bool} (h : ∀ i : Int, 0 ≤ i → i < n → p i = q i) (h' : ∀ i : Int, 0 ≤ i → i < n → p i = true → f i = g i) : fil n p f = fil n q g := by
  unfold fil
  have e : ((List.range n).filter fun (i : Nat) => p (i : Int)) = (List.range n).filter fun (i : Nat) => q (i : Int) := List.filter_congr fun i hi => by
    have := List.mem_range.mp hi
    exact h i (by omega) (by omega)
  rw [← e]
  refine List.map_congr_left fun i hi => ?_
  obtain ⟨h1, h2⟩ := List.mem_filter.mp hi
  have := List.mem_range.mp h1
  exact h' i (by omega) (by omega) h2
end
section
variable {n : Nat} {f : Int → D}
/-! ### what the mirrors' words say of such lists -/
theorem ixN_in {n : Nat} {z : Int} (h0 : 0 ≤ z) (h1 : z < n) : ixN n z = some z.toNat := by
  unfold ixN
  rw [if_pos h0, if_pos h1]
theorem ixN_neg {n : Nat} {z : Int} (h0 : z < 0) (h1 : 0 ≤ z + n) : ixN n z = some (z + n).toNat := by
  unfold ixN
  rw [if_neg (by omega)]
  first | rw [if_pos h1] | (rw [if_pos (by omega)])
theorem atI_tab {z : Int} (h0 : 0 ≤ z) (h1 : z < n) : atI (tab n f) z = some (f z) := by
  show (ixN (tab n f).length z).bind _ = _
  rw [tab_len, ixN_in h0 h1]
  show (tab n f)[z.toNat]? = _
  rw [tab_get (by omega), Int.toNat_of_nonneg h0]
theorem ixT {z : Int} (h : 0 ≤ z ∧ z < n) : ixD (.tuple (tab n f)) (.int z) = some (f z) := atI_tab h.1 h.2
theorem ixL {z : Int} (h : 0 ≤ z ∧ z < n) : ixD (.list (tab n f)) (.int z) = some (f z) := atI_tab h.1 h.2
theorem atI_last (h : 0 < n) : atI (tab n f) (-1) = some (f (n - 1)) := by
  show (ixN (tab n f).length (-1)).bind _ = _
  rw [tab_len, ixN_neg (by omega) (by omega)]
  show (tab n f)[_]? = _
  rw [tab_get (by omega), Int.toNat_of_nonneg (by omega)]
  congr 2
theorem ixTm {n : Nat} {f : Int → D} (h : 0 < n) : ixD (.tuple (tab n f)) (.int (-1)) = some (f (n - 1)) := atI_last h
theorem ixLm {n : Nat} {f : Int → D} (h : 0 < n) : ixD (.list (tab n f)) (.int (-1)) = some (f (n - 1)) := atI_last h
theorem lenTt : lenD [.tuple (tab n f)] = some (.int n) := by
  show some (PyData.int ((tab n f).length : Int)) = _
  rw [tab_len]
theorem lenLt : lenD [.list (tab n f)] = some (.int n) := by
  show some (PyData.int ((tab n f).length : Int)) = _
  rw [tab_len]
theorem sm62 {z : Int} (h : -1000000000000 ≤ z ∧ z ≤ 1000000000000) : small62 z = true := decide_eq_true (by omega)
theorem rgT {z : Int} (h : z ≤ 1000000000000 ∧ -1000000000000 ≤ z) : rng1 [.int z] = some (tab z.toNat .int) := by
  show (if small62 z = true then some (rangeL 0 z.toNat) else none) = _
  rw [if_pos (sm62 ⟨h.2, h.1⟩)]
  congr 1
  unfold rangeL tab
  refine List.map_congr_left fun i _ => ?_
  rw [Int.zero_add]
theorem rgT2 {a z : Int} (h : (-1000000000000 ≤ a ∧ a ≤ 1000000000000) ∧ -1000000000000 ≤ z ∧ z ≤ 1000000000000) : rng2 [.int a, .int z] = some (tab (z - a).toNat fun i => .int (a + i)) := by
  show (if small62 a = true ∧ small62 z = true then some (rangeL a (z - a).toNat) else none) = _
  rw [if_pos ⟨sm62 h.1, sm62 h.2⟩]
  rfl
theorem rgT3 {a z : Int} (h : (-1000000000000 ≤ a ∧ a ≤ 1000000000000) ∧ -1000000000000 ≤ z ∧ z ≤ 1000000000000) : rng3 [.int a, .int z, .int (-1)] = some (tab (a - z).toNat fun i => .int (a - i)) := by
  show (if small62 a = true ∧ small62 z = true ∧ (-1 : Int) = -1 then some (rangeN a (a - z).toNat) else none) = _
  rw [if_pos ⟨sm62 h.1, sm62 h.2, rfl⟩]
  rfl
theorem enumL_tab : enumL (tab n f) = tab n fun i => .tuple [.int i, f i] := by
  unfold enumL tab
  apply List.ext_getElem?
  intro i
  rw [List.getElem?_mapIdx, List.getElem?_map, List.getElem?_map]
  by_cases h : i < n
  · rw [List.getElem?_range h]
    rfl
  · rw [List.getElem?_eq_none (by simpa using h)]
    rfl
theorem enT : enumD [.tuple (tab n f)] = some (tab n fun i => .tuple [.int i, f i]) := congrArg some enumL_tab
theorem enL : enumD [.list (tab n f)] = some (tab n fun i => .tuple [.int i, f i]) := congrArg some enumL_tab
theorem zipL_tab {m : Nat} {g : Int → D} : zipL (tab n f) (tab m g) = tab (min n m) fun i => .tuple [f i, g i] := by
  unfold zipL tab
  apply List.ext_getElem?
  intro i
  rw [List.getElem?_zipWith, List.getElem?_map, List.getElem?_map, List.getElem?_map]
  by_cases h : i < n
  · by_cases h' : i < m
    · rw [List.getElem?_range h, List.getElem?_range h', List.getElem?_range (by omega)]
      rfl
    · rw [List.getElem?_range h, List.getElem?_eq_none (l := List.range m) (by simpa using h'), List.getElem?_eq_none (l := List.range (min n m)) (by simp; omega)]
      rfl
  · rw [List.getElem?_eq_none (l := List.range n) (by simpa using h), List.getElem?_eq_none (l := List.range (min n m)) (by simp; omega)]
    rfl
theorem zpTT {m : Nat} {g : Int → D} : zipD [.tuple (tab n f), .tuple (tab m g)] = some (tab (min n m) fun i => .tuple [f i, g i]) := congrArg some zipL_tab
theorem zpTL {m : Nat} {g : Int → D} : zipD [.tuple (tab n f), .list (tab m g)] = some (tab (min n m) fun i => .tuple [f i, g i]) := congrArg some zipL_tab
theorem zpLT {m : Nat} {g : Int → D} : zipD [.list (tab n f), .tuple (tab m g)] = some (tab (min n m) fun i => .tuple [f i, g i]) := congrArg some zipL_tab
theorem zpLL {m : Nat} {g : Int → D} : zipD [.list (tab n f), .list (tab m g)] = some (tab (min n m) fun i => .tuple [f i, g i]) := congrArg some zipL_tab
theorem seT : seqD (.tuple (tab n f)) = some (tab n f) := rfl
theorem cmpM_map {T : Type} {δ : D → Option T} {F : T → Option (Option D)} {ds : List D} (g : D → Option D) (h : ∀ d ∈ ds, (δ d).bind F = some (g d)) : cmpM (fun x => (δ x).bind F) ds = some (ds.filterMap g) := by
  induction ds with
  | nil => rfl
  | cons d l ih =>
    show Option.bind ((δ d).bind F) _ = _
    rw [h d List.mem_cons_self]
    show Option.bind (cmpM _ l) _ = _
    rw [ih fun d hd => h d (List.mem_cons_of_mem _ hd)]
    cases e : g d with
    | none => simp only [List.filterMap_cons, e]; rfl
    | some y => simp only [List.filterMap_cons, e]; rfl
/-- a comprehension over such a list: those that pass -/
theorem cmpM_fil {T : Type} {δ : D → Option T} {F : T → Option (Option D)} {h : Int → D} (p : Int → Bool) (o : Int → D) (hf : ∀ i : Int, 0 ≤ i → i < n → (δ (h i)).bind F = some (if p i = true then some (o i) else none)) : cmpM (fun x => (δ x).bind F) (tab n h) = some (fil n p o) := by
  have key : ∀ l : List Nat, (∀ i ∈ l, i < n) → cmpM (fun x => (δ x).bind F) (l.map fun (i : Nat) => h (i : Int)) = some ((l.filter fun (i : Nat) => p (i : Int)).map fun (i : Nat) => o (i : Int)) := by
    intro l
    induction l with
    | nil => intro _; rfl
    | cons x l ih =>
      intro hl
      have hx := hl x List.mem_cons_self
      show Option.bind ((δ (h x)).bind F) _ = _
      rw [hf x (by omega) (by omega)]
      show Option.bind (cmpM _ _) _ = _
      rw [ih fun i hi => hl i (List.mem_cons_of_mem _ hi)]
      cases e : p (x : Int) with
      | true => simp only [List.filter_cons, e]; rfl
      | false => simp only [List.filter_cons, e]; rfl
  exact key (List.range n) fun i hi => List.mem_range.mp hi
theorem lcF {T : Type} {δ : D → Option T} {F : T → Option (Option D)} {h : Int → D} (p : Int → Bool) (o : Int → D) (hn : n ≤ 16777216) (hf : ∀ i : Int, 0 ≤ i → i < n → (δ (h i)).bind F = some (if p i = true then some (o i) else none)) : lcP δ F (tab n h) = some (fil n p o) := by
  unfold lcP cmpL
  rw [if_pos (by rw [tab_len]; exact hn)]
  exact cmpM_fil p o hf
theorem fil_all {α : Type} {p : Int → Bool} {o : Int → α} (h : ∀ i : Int, 0 ≤ i → i < n → p i = true) : fil n p o = tab n o := by
  unfold fil tab
  congr 1
  exact List.filter_eq_self.mpr fun i hi => by
    have := List.mem_range.mp hi
    exact h i (by omega) (by omega)
/-- .. of all -/
theorem lcT {T : Type} {δ : D → Option T} {F : T → Option (Option D)} {h : Int → D} (o : Int → D) (hn : n ≤ 16777216) (hf : ∀ i : Int, 0 ≤ i → i < n → (δ (h i)).bind F = some (some (o i))) : lcP δ F (tab n h) = some (tab n o) := by
  rw [lcF (fun _ => true) o hn fun i h0 h1 => by rw [hf i h0 h1, if_pos rfl]]
  exact congrArg some (fil_all fun _ _ _ => rfl)
/-- .. of none -/
theorem lcN {T : Type} {δ : D → Option T} {F : T → Option (Option D)} {h : Int → D} (hn : n ≤ 16777216) (hf : ∀ i : Int, 0 ≤ i → i < n → (δ (h i)).bind F = some none) : lcP δ F (tab n h) = some [] := by
  rw [lcF (fun _ => false) (fun _ => .none) hn fun i h0 h1 => by rw [hf i h0 h1]; rfl]
  exact congrArg some (fil_nil fun _ _ _ => rfl)
theorem boolsD_tab {p : Int → Bool} : boolsD (tab n fun i => .bool (p i)) = some (tab n p) := by
  have : tab n (fun i => PyData.bool (p i)) = (tab n p).map .bool := (tab_map _).symm
  rw [this]
  exact boolsD_map _
theorem intsD_tab {p : Int → Int} : intsD (tab n fun i => .int (p i)) = some (tab n p) := by
  have : tab n (fun i => PyData.int (p i)) = (tab n p).map .int := (tab_map _).symm
  rw [this]
  exact intsD_map _
theorem tab_all {p : Int → Bool} : (tab n p).all id = allB n p := by
  unfold tab allB
  rw [List.all_map]
  rfl
theorem allT {p : Int → Bool} : allD [.list (tab n fun i => .bool (p i))] = some (.bool (allB n p)) := by
  show (boolsD _).map _ = _
  rw [boolsD_tab]
  show some (PyData.bool ((tab n p).all id)) = _
  rw [tab_all]
theorem allTt (h : ∀ i : Int, 0 ≤ i → i < n → f i = .bool true) : allD [.list (tab n f)] = some (.bool true) := by
  rw [tab_congr (g := fun _ => PyData.bool true) h, allT, show allB n (fun _ => true) = true from allB_iff.mpr fun _ _ _ => rfl]
theorem maxT {p : Int → Int} (h : 0 < n) : ∃ m, max1D [.list (tab n fun i => .int (p i))] = some (.int m) ∧ (∃ j : Int, 0 ≤ j ∧ j < n ∧ p j = m) ∧ ∀ i : Int, 0 ≤ i → i < n → p i ≤ m := by
  have e : max1D [.list (tab n fun i => .int (p i))] = (maxI (tab n p)).map .int := by
    show ((intsD _).bind maxI).map _ = _
    rw [intsD_tab]
    rfl
  cases q : maxI (tab n p) with
  | none =>
    cases w : tab n p with
    | nil => have := congrArg List.length w; rw [tab_len] at this; simp at this; omega
    | cons x l => rw [w] at q; cases q
  | some m =>
    obtain ⟨h1, h2⟩ := maxI_iff.mp q
    refine ⟨m, by rw [e, q]; rfl, mem_tab.mp h1, fun i h0 hn => h2 _ (mem_tab.mpr ⟨i, h0, hn, rfl⟩)⟩
theorem minT {p : Int → Int} (h : 0 < n) : ∃ m, min1D [.list (tab n fun i => .int (p i))] = some (.int m) ∧ (∃ j : Int, 0 ≤ j ∧ j < n ∧ p j = m) ∧ ∀ i : Int, 0 ≤ i → i < n → m ≤ p i := by
  have e : min1D [.list (tab n fun i => .int (p i))] = (minI (tab n p)).map .int := by
    show ((intsD _).bind minI).map _ = _
    rw [intsD_tab]
    rfl
  cases q : minI (tab n p) with
  | none =>
    cases w : tab n p with
    | nil => have := congrArg List.length w; rw [tab_len] at this; simp at this; omega
    | cons x l => rw [w] at q; cases q
  | some m =>
    obtain ⟨h1, h2⟩ := minI_iff.mp q
    refine ⟨m, by rw [e, q]; rfl, mem_tab.mp h1, fun i h0 hn => h2 _ (mem_tab.mpr ⟨i, h0, hn, rfl⟩)⟩
end
theorem ob_of {α β : Type} {m : Option α} {a : α} {k : α → Option β} {r : Option β} (e : m = some a) (h : k a = r) : bnd (R := Option β) m k = r := by rw [e]; exact h
theorem mulS {i j : Int} (h : (-1000000000000 ≤ i ∧ i ≤ 1000000000000) ∨ (-1000000000000 ≤ j ∧ j ≤ 1000000000000)) : mulD (.int i) (.int j) = some (.int (i * j)) := mulI (h.elim (fun h => .inl (small_of (by omega))) (fun h => .inr (small_of (by omega))))
theorem fdivS {i j : Int} (h : 0 < j ∧ j ≤ 1000000000) : fdivD (.int i) (.int j) = some (.int (i.fdiv j)) := fdivI (by omega)
theorem mn_l {a b : Int} (h : a ≤ b) : mn a b = a := by unfold mn; rw [if_neg (by omega)]
theorem mn_r {a b : Int} (h : b < a) : mn a b = b := by unfold mn; rw [if_pos h]
theorem mx_l {a b : Int} (h : b ≤ a) : mx a b = a := by unfold mx; rw [if_neg (by omega)]
theorem mx_r {a b : Int} (h : a < b) : mx a b = b := by unfold mx; rw [if_pos h]
theorem mpos {w x : Int} (hw : 0 < w) : 0 < w * x ↔ 0 < x := ⟨fun h => by
  rcases Int.lt_or_le 0 x with h' | h'
  · exact h'
  · exfalso
    have := Int.mul_le_mul_of_nonneg_left h' (Int.le_of_lt hw)
    rw [Int.mul_zero] at this
    omega, fun h => Int.mul_pos hw h⟩
theorem le_fdiv {c x b : Int} (hb : 0 < b) : c ≤ x.fdiv b ↔ c * b ≤ x := by
  rw [Int.fdiv_eq_ediv_of_nonneg _ (Int.le_of_lt hb)]
  exact Int.le_ediv_iff_mul_le hb
theorem fdiv_lt {c x b : Int} (hb : 0 < b) : x.fdiv b < c ↔ x < c * b := by
  have := le_fdiv (c := c) (x := x) hb
  omega
theorem fdiv_mul {c b : Int} (hb : 0 < b) : (c * b).fdiv b = c := by
  have h1 := (le_fdiv (c := c) (x := c * b) hb).mpr (Int.le_refl _)
  have h2 := (fdiv_lt (c := c + 1) (x := c * b) hb).mpr (by rw [Int.add_mul]; omega)
  omega
theorem appT {n : Nat} {f : Int → D} {d : D} (h : n < 16777216) (e : f n = d) : appD (tab n f) d = some (tab (n + 1) f) := by
  unfold appD
  rw [tab_len, if_pos h, tab_succ, e]
theorem setT {n : Nat} {f : Int → D} {z : Int} {d : D} (h : 0 ≤ z ∧ z < n) : setD (tab n f) (.int z) d = some (tab n fun i => if i = z then d else f i) := by
  show (ixN (tab n f).length z).map _ = _
  rw [tab_len, ixN_in h.1 h.2]
  show some ((tab n f).set z.toNat d) = _
  congr 1
  apply List.ext_getElem?
  intro i
  rw [List.getElem?_set, tab_len]
  by_cases hi : i < n
  · rw [tab_get hi, tab_get hi]
    by_cases he : z.toNat = i
    · rw [if_pos he, if_pos (by omega), if_pos (by omega)]
    · rw [if_neg he, if_neg (by omega)]
  · rw [List.getElem?_eq_none (l := tab n f) (by rw [tab_len]; omega), List.getElem?_eq_none (l := tab n _) (by rw [tab_len]; omega), if_neg (by omega)]
/-- one turn more at the front, at the back -/
theorem fil_front {α : Type} {n : Nat} {p : Int → Bool} {f : Int → α} : fil (n + 1) p f = (if p 0 = true then [f 0] else []) ++ fil n (fun i => p (i + 1)) fun i => f (i + 1) := by
  unfold fil
  rw [List.range_succ_eq_map, List.filter_cons, List.filter_map]
  show List.map _ (if p ((0 : Nat) : Int) = true then _ else _) = _
  by_cases h : p 0 = true
  · rw [if_pos h, if_pos (by exact h), List.map_cons, List.map_map]
    rfl
  · rw [if_neg h, if_neg (by exact h), List.map_map]
    rfl
theorem fil_back {α : Type} {n : Nat} {p : Int → Bool} {f : Int → α} : fil (n + 1) p f = fil n p f ++ if p n = true then [f n] else [] := by
  unfold fil
  rw [List.range_succ, List.filter_append, List.map_append]
  congr 1
  rw [List.filter_cons, List.filter_nil]
  by_cases h : p n = true
  · rw [if_pos h, if_pos h]; rfl
  · rw [if_neg h, if_neg h]; rfl
theorem fil_emp {α : Type} {n : Nat} {p : Int → Bool} {f : Int → α} : (fil n p f).isEmpty = !anyB n p := by
  rcases fil_cases n p f with ⟨e, h⟩ | ⟨j, r, h0, h1, h2, _, e⟩
  · rw [e]
    cases q : anyB n p with
    | false => rfl
    | true =>
      obtain ⟨i, a, b, c⟩ := anyB_iff.mp q
      rw [h i a b] at c
      cases c
  · rw [e, anyB_iff.mpr ⟨j, h0, h1, h2⟩]
    rfl
/-! ### loops -/
section
variable {S T β : Type} {δ : D → Option T} {F : S → T → (S → Option β) → (S → Option β) → Option β} {n : Nat} {g : Int → D}
/-- all turns go on: I holds behind each -/
theorem forI (I : Int → S → Prop) (hf : ∀ (i : Int) s, 0 ≤ i → i < n → I i s → ∃ t s', δ (g i) = some t ∧ I (i + 1) s' ∧ ∀ kc kb, F s t kc kb = kc s') {s0 : S} (h0 : I 0 s0) : ∃ s, I n s ∧ ∀ k : S → Option β, forD (R := Option β) δ F (tab n g) s0 k = k s := by
  have key : ∀ (m : Nat) (j : Int) (g' : Int → D) (s : S), (∀ i, g' i = g (j + i)) → 0 ≤ j → j + m = n → I j s → ∃ s', I n s' ∧ ∀ k : S → Option β, forD (R := Option β) δ F (tab m g') s k = k s' := by
    intro m
    induction m with
    | zero => intro j g' s _ _ e hI; exact ⟨s, by rw [← e]; simpa using hI, fun _ => rfl⟩
    | succ m ih =>
      intro j g' s hg hj e hI
      rw [tab_cons]
      obtain ⟨t, s1, ht, hI1, hF⟩ := hf j s hj (by omega) hI
      have e0 : g' 0 = g j := by rw [hg, Int.add_zero]
      obtain ⟨s2, hI2, h2⟩ := ih (j + 1) (fun i => g' (i + 1)) s1 (fun i => by rw [hg]; congr 1; omega) (by omega) (by omega) hI1
      refine ⟨s2, hI2, fun k => ?_⟩
      rw [forD_cons, e0, ht]
      show F s t _ _ = _
      rw [hF]
      exact h2 k
  exact key n 0 g s0 (fun i => by rw [Int.zero_add]) (by omega) (by omega) h0
/-- .. or one ends the def with r, of which X is known -/
theorem forX (I : Int → S → Prop) (X : Option β → Prop) (hf : ∀ (i : Int) s, 0 ≤ i → i < n → I i s → ∃ t, δ (g i) = some t ∧ ((∃ s', I (i + 1) s' ∧ ∀ kc kb, F s t kc kb = kc s') ∨ ∃ r, X r ∧ ∀ kc kb, F s t kc kb = r)) {s0 : S} (h0 : I 0 s0) :
    (∃ s, I n s ∧ ∀ k : S → Option β, forD (R := Option β) δ F (tab n g) s0 k = k s) ∨ ∃ r, X r ∧ ∀ k : S → Option β, forD (R := Option β) δ F (tab n g) s0 k = r := by
  have key : ∀ (m : Nat) (j : Int) (g' : Int → D) (s : S), (∀ i, g' i = g (j + i)) → 0 ≤ j → j + m = n → I j s → (∃ s', I n s' ∧ ∀ k : S → Option β, forD (R := Option β) δ F (tab m g') s k = k s') ∨ ∃ r, X r ∧ ∀ k : S → Option β, forD (R := Option β) δ F (tab m g') s k = r := by
    intro m
    induction m with
    | zero => intro j g' s _ _ e hI; exact .inl ⟨s, by rw [← e]; simpa using hI, fun _ => rfl⟩
    | succ m ih =>
      intro j g' s hg hj e hI
      rw [tab_cons]
      obtain ⟨t, ht, hc⟩ := hf j s hj (by omega) hI
      have e0 : g' 0 = g j := by rw [hg, Int.add_zero]
      rcases hc with ⟨s1, hI1, hF⟩ | ⟨r, hX, hF⟩
      · have e1 : ∀ k : S → Option β, forD (R := Option β) δ F (g' 0 :: tab m fun i => g' (i + 1)) s k = forD (R := Option β) δ F (tab m fun i => g' (i + 1)) s1 k := fun k => by
          rw [forD_cons, e0, ht]
          show F s t _ _ = _
          rw [hF]
        simp only [e1]
        exact ih (j + 1) (fun i => g' (i + 1)) s1 (fun i => by rw [hg]; congr 1; omega) (by omega) (by omega) hI1
      · refine .inr ⟨r, hX, fun k => ?_⟩
        rw [forD_cons, e0, ht]
        show F s t _ _ = _
        rw [hF]
  exact key n 0 g s0 (fun i => by rw [Int.zero_add]) (by omega) (by omega) h0
end
section
variable {S T β : Type} {δ : D → Option T} {F : S → T → (S → Option β) → (S → Option β) → Option β} {n : Nat} {g : Int → D}
/-- turns that go on or break off, then with B -/
theorem forB (I : Int → S → Prop) (B : S → Prop) (hf : ∀ (i : Int) s, 0 ≤ i → i < n → I i s → ∃ t s', δ (g i) = some t ∧ ((I (i + 1) s' ∧ ∀ kc kb, F s t kc kb = kc s') ∨ (B s' ∧ ∀ kc kb, F s t kc kb = kb s'))) {s0 : S} (h0 : I 0 s0) : ∃ s, (I n s ∨ B s) ∧ ∀ k : S → Option β, forD (R := Option β) δ F (tab n g) s0 k = k s := by
  have key : ∀ (m : Nat) (j : Int) (g' : Int → D) (s : S), (∀ i, g' i = g (j + i)) → 0 ≤ j → j + m = n → I j s → ∃ s', (I n s' ∨ B s') ∧ ∀ k : S → Option β, forD (R := Option β) δ F (tab m g') s k = k s' := by
    intro m
    induction m with
    | zero => intro j g' s _ _ e hI; exact ⟨s, .inl (by rw [← e]; simpa using hI), fun _ => rfl⟩
    | succ m ih =>
      intro j g' s hg hj e hI
      rw [tab_cons]
      obtain ⟨t, s1, ht, hc⟩ := hf j s hj (by omega) hI
      have e0 : g' 0 = g j := by rw [hg, Int.add_zero]
      rcases hc with ⟨hI1, hF⟩ | ⟨hB, hF⟩
      · have e1 : ∀ k : S → Option β, forD (R := Option β) δ F (g' 0 :: tab m fun i => g' (i + 1)) s k = forD (R := Option β) δ F (tab m fun i => g' (i + 1)) s1 k := fun k => by
          rw [forD_cons, e0, ht]
          show F s t _ _ = _
          rw [hF]
        simp only [e1]
        exact ih (j + 1) (fun i => g' (i + 1)) s1 (fun i => by rw [hg]; congr 1; omega) (by omega) (by omega) hI1
      · refine ⟨s1, .inr hB, fun k => ?_⟩
        rw [forD_cons, e0, ht]
        show F s t _ _ = _
        rw [hF]
  exact key n 0 g s0 (fun i => by rw [Int.zero_add]) (by omega) (by omega) h0
end
/-! ### draws, counted -/
def WP {α : Type} (r : Wp α) (N : Nat) (Q : α → Prop) : Prop := ∀ (P : α → Nat → Prop) (b : Nat), (∀ a b', b ≤ b' → Q a → P a b') → r P (b + N)
section
variable {α β : Type} {N M : Nat} {Q : β → Prop}
theorem wp_ret {a : β} (h : Q a) : WP (retW a) N Q := fun P b hP => hP a _ (by omega) h
theorem wp_bnd {m : Option α} {a : α} {k : α → Wp β} (e : m = some a) (h : WP (k a) N Q) : WP (bnd m k) N Q := fun P b hP => ⟨a, e, h P b hP⟩
theorem wp_draw {n : Int} {k : D → Wp β} (h : 0 < n ∧ n < 1073741824) (hk : ∀ i : Int, 0 ≤ i → i < n → WP (k (.int i)) N Q) : WP (bW (drawW (.int n)) k) (N + 1) Q := fun P b hP =>
  ⟨n, rfl, h.1, h.2, b + N, by omega, fun i h0 h1 => hk i h0 h1 P b hP⟩
theorem wp_call {r : Wp α} {k : α → Wp β} {Q' : α → Prop} (h : WP r M Q') (hk : ∀ a, Q' a → WP (k a) N Q) : WP (bW r k) (N + M) Q := fun P b hP => by
  have := h (fun d b' => k d P b') (b + N) fun a b' hb hq => by
    obtain ⟨c, rfl⟩ : ∃ c, b' = (b + c) + N := ⟨b' - b - N, by omega⟩
    exact hk a hq P (b + c) fun a b'' hb' hQ => hP a b'' (by omega) hQ
  rw [Nat.add_assoc] at this
  exact this
theorem wp_le {r : Wp β} (h : WP r M Q) (hM : M ≤ N := by omega) : WP r N Q := fun P b hP => by
  have := h P (b + (N - M)) fun a b' hb hq => hP a b' (by omega) hq
  rw [show b + (N - M) + M = b + N by omega] at this
  exact this
theorem wp_mono {r : Wp β} {Q' : β → Prop} (h : WP r N Q') (hq : ∀ a, Q' a → Q a) : WP r N Q := fun P b hP => h P b fun a b' hb q => hP a b' hb (hq a q)
variable {S T : Type} {δ : D → Option T} {F : S → T → (S → Wp β) → (S → Wp β) → Wp β} {n : Nat} {g : Int → D}
/-- a loop with draws: at most M a turn; B holds where a turn breaks off -/
theorem wp_for (I : Int → S → Prop) (B : S → Prop) (M : Nat) {tot : Nat} {k : S → Wp β} {s0 : S} (h0 : I 0 s0)
    (hf : ∀ (i : Int) s, 0 ≤ i → i < n → I i s → ∃ t, δ (g i) = some t ∧ ∀ (kc kb : S → Wp β) (N' : Nat), (∀ s', I (i + 1) s' → WP (kc s') N' Q) → (∀ s', B s' → WP (kb s') N' Q) → WP (F s t kc kb) (N' + M) Q)
    (hk : ∀ s, I n s ∨ B s → WP (k s) N Q) (ht : n * M ≤ tot) : WP (forD δ F (tab n g) s0 k) (N + tot) Q := by
  have key : ∀ (m : Nat) (j : Int) (g' : Int → D) (s : S), (∀ i, g' i = g (j + i)) → 0 ≤ j → j + m = n → I j s → WP (forD δ F (tab m g') s k) (N + m * M) Q := by
    intro m
    induction m with
    | zero => intro j g' s _ _ e hI; exact wp_le (hk s (.inl (by rw [← e]; simpa using hI))) (by omega)
    | succ m ih =>
      intro j g' s hg hj e hI
      rw [tab_cons]
      obtain ⟨t, ht, hF⟩ := hf j s hj (by omega) hI
      have e0 : g' 0 = g j := by rw [hg, Int.add_zero]
      refine wp_bnd (a := t) (by rw [e0]; exact ht) ?_
      have := hF (fun s' => forD δ F (tab m fun i => g' (i + 1)) s' k) k (N + m * M) (fun s' hI' => ih (j + 1) (fun i => g' (i + 1)) s' (fun i => by rw [hg]; congr 1; omega) (by omega) (by omega) hI') fun s' hB => wp_le (hk s' (.inr hB)) (by omega)
      rw [Nat.succ_mul, ← Nat.add_assoc]
      exact this
  exact wp_le (key n 0 g s0 (fun i => by rw [Int.zero_add]) (by omega) (by omega) h0) (by omega)
theorem law_of {r : Wp D} {zs : List D} (h : WP r N (fun d => d = .bool true)) (hN : N ≤ 576460752303423488 := by decide) (hs : ∃ l, startM zs = some l ∧ validSt l) : beginW zs r (fun d _ => d = .bool true) 0 := ⟨hs, by
  have := h (fun d _ => d = .bool true) (576460752303423488 - N) fun a _ _ q => q
  rw [show 576460752303423488 - N + N = 576460752303423488 by omega] at this
  exact this⟩
end
end G

end
section
set_option Elab.async false
set_option linter.all false
set_option maxRecDepth 100000
/-! G23: more of the same: comprehensions with draws, of two clauses; membership. -/
namespace G
open RM (bnd)
open PySem PySem.Spec PyProof.Rows L2
theorem obW {α β : Type} (x : α) (k : α → Wp β) : bnd (R := Wp β) (some x) k = k x := by
  funext P b
  exact propext ⟨fun ⟨a, e, h⟩ => by cases e; exact h, fun h => ⟨x, rfl, h⟩⟩
theorem ix_head (x : D) (l : List D) : ixD (.list (x :: l)) (.int 0) = some x := by
  show (ixN (l.length + 1) 0).bind _ = _
  rw [ixN_in (by omega) (by omega)]
  rfl
theorem mulB {s w a b : Int} (hs : -a ≤ s ∧ s ≤ a) (ha : 0 ≤ a) (hw : 0 ≤ w ∧ w ≤ b) : -(a * b) ≤ s * w ∧ s * w ≤ a * b := by
  have h1 := Int.mul_le_mul_of_nonneg_right hs.2 hw.1
  have h2 := Int.mul_le_mul_of_nonneg_left hw.2 ha
  have h3 := Int.mul_le_mul_of_nonneg_right hs.1 hw.1
  rw [Int.neg_mul] at h3
  omega
theorem taken_ok {g : List Ar → Option (Option D)} {x0 x1 x2 x3 : D} {b : Bool} (h : g [.d x0, .d x1, .d x2, .d x3] = acc b) : takenM 4 g (.list [x0, x1, x2, x3]) = some (.bool b) := by
  rw [takenM4, h, taken_acc]
section
variable {β : Type} {N M : Nat} {Q : β → Prop} {n : Nat}
/-- a comprehension whose turns draw: V tells what each is -/
theorem wp_lcW {T : Type} {δ : D → Option T} {F : T → (Option D → Wp β) → Wp β} {h : Int → D} (V : Int → D → Prop) (M : Nat) {tot : Nat} {k : List D → Wp β} (hn : n ≤ 16777216)
    (hf : ∀ i : Int, 0 ≤ i → i < n → ∃ t, δ (h i) = some t ∧ ∀ (kk : Option D → Wp β) (N' : Nat), (∀ x, V i x → WP (kk (some x)) N' Q) → WP (F t kk) (N' + M) Q)
    (hk : ∀ v : Int → D, (∀ i : Int, 0 ≤ i → i < n → V i (v i)) → WP (k (tab n v)) N Q) (ht : n * M ≤ tot) : WP (lcW δ F (tab n h) k) (N + tot) Q := by
  have key : ∀ (m : Nat) (j : Int) (h' : Int → D), (∀ i, h' i = h (j + i)) → 0 ≤ j → j + m = n → ∀ (k : List D → Wp β), (∀ v : Int → D, (∀ i : Int, 0 ≤ i → i < m → V (j + i) (v i)) → WP (k (tab m v)) N Q) → WP (cmpC (fun x kk => bnd (δ x) fun t => F t kk) (tab m h') k) (N + m * M) Q := by
    intro m
    induction m with
    | zero => intro j h' _ _ _ k hk; exact wp_le (hk (fun _ => .none) fun i i0 i1 => by omega) (by omega)
    | succ m ih =>
      intro j h' hg hj e k hk
      rw [tab_cons]
      obtain ⟨t, ht, hF⟩ := hf j hj (by omega)
      have e0 : h' 0 = h j := by rw [hg, Int.add_zero]
      refine wp_bnd (a := t) (by rw [e0]; exact ht) ?_
      rw [Nat.succ_mul, ← Nat.add_assoc]
      refine hF _ _ fun x hx => ?_
      refine ih (j + 1) (fun i => h' (i + 1)) (fun i => by rw [hg]; congr 1; omega) (by omega) (by omega) _ fun v hv => ?_
      have := hk (fun i => if i = 0 then x else v (i - 1)) fun i i0 i1 => by
        by_cases hi : i = 0
        · subst hi
          rw [if_pos rfl, Int.add_zero]
          exact hx
        · rw [if_neg hi]
          have := hv (i - 1) (by omega) (by omega)
          rw [show j + 1 + (i - 1) = j + i by omega] at this
          exact this
      rw [tab_cons, if_pos rfl, tab_congr (g := v) fun i i0 i1 => by rw [if_neg (by omega), show i + 1 - 1 = i by omega]] at this
      exact this
  refine wp_bnd (a := ()) (by unfold szD; rw [if_pos (by rw [tab_len]; exact hn)]) ?_
  exact wp_le (key n 0 h (fun i => by rw [Int.zero_add]) (by omega) (by omega) k fun v hv => hk v fun i i0 i1 => by have := hv i i0 i1; rw [Int.zero_add] at this; exact this) (by omega)
/-- a loop over any list, with nothing carried and nothing drawn -/
theorem wp_each {T : Type} {δ : D → Option T} {F : Unit → T → (Unit → Wp β) → (Unit → Wp β) → Wp β} {ds : List D} {k : Unit → Wp β} (hf : ∀ d ∈ ds, ∃ t, δ d = some t ∧ ∀ kc kb, F () t kc kb = kc ()) (hk : WP (k ()) N Q) : WP (forD δ F ds () k) N Q := by
  induction ds with
  | nil => exact hk
  | cons d ds ih =>
    obtain ⟨t, ht, hF⟩ := hf d List.mem_cons_self
    refine wp_bnd (a := t) ht ?_
    rw [hF]
    exact ih fun d hd => hf d (List.mem_cons_of_mem _ hd)
end
section
variable {n : Nat}
/-- two clauses: all that the outer turns give -/
theorem lcPP_tab {T : Type} {δ : D → Option T} {F : T → Option (List D)} {h : Int → D} (L : Int → List D) (m : Nat) (hf : ∀ i : Int, 0 ≤ i → i < n → (δ (h i)).bind F = some (L i)) (hl : ∀ i : Int, 0 ≤ i → i < n → (L i).length ≤ m) (hm : n * m ≤ 16777216) : lcPP δ F (tab n h) = some (tab n L).flatten := by
  have key : ∀ l : List Nat, (∀ i ∈ l, i < n) → catM (fun x => (δ x).bind F) (l.map fun (i : Nat) => h (i : Int)) = some (l.map fun (i : Nat) => L (i : Int)).flatten ∧ (l.map fun (i : Nat) => L (i : Int)).flatten.length ≤ l.length * m := by
    intro l
    induction l with
    | nil => intro _; exact ⟨rfl, Nat.zero_le _⟩
    | cons x l ih =>
      intro hx
      have h1 := hx x List.mem_cons_self
      obtain ⟨e, q⟩ := ih fun i hi => hx i (List.mem_cons_of_mem _ hi)
      refine ⟨?_, ?_⟩
      · show Option.bind ((δ (h x)).bind F) _ = _
        rw [hf x (by omega) (by omega)]
        show Option.bind (catM _ _) _ = _
        rw [e]
        rfl
      · rw [List.map_cons, List.flatten_cons, List.length_append, List.length_cons, Nat.succ_mul]
        have := hl x (by omega) (by omega)
        omega
  obtain ⟨e, q⟩ := key (List.range n) fun i hi => List.mem_range.mp hi
  unfold lcPP catL tab
  rw [e]
  show (if _ then _ else _) = _
  rw [if_pos]
  rw [List.length_range] at q
  omega
theorem mem_flat {L : Int → List D} {x : D} : x ∈ (tab n L).flatten ↔ ∃ i : Int, 0 ≤ i ∧ i < n ∧ x ∈ L i := by
  rw [List.mem_flatten]
  constructor
  · rintro ⟨l, hl, hx⟩
    obtain ⟨i, h0, h1, rfl⟩ := mem_tab.mp hl
    exact ⟨i, h0, h1, hx⟩
  · rintro ⟨i, h0, h1, hx⟩
    exact ⟨L i, mem_tab.mpr ⟨i, h0, h1, rfl⟩, hx⟩
theorem lcI_fil {T : Type} {δ : D → Option T} {F : T → Option (Option D)} {h : Int → D} (p : Int → Bool) (o : Int → D) (hf : ∀ i : Int, 0 ≤ i → i < n → (δ (h i)).bind F = some (if p i = true then some (o i) else none)) : lcI δ F (tab n h) = some (fil n p o) := cmpM_fil p o hf
theorem inT_mem {m : Nat} {d : D} {ds : List D} (h : d ∈ ds) (g : ∀ x ∈ ds, Gd m x) (hm : m + 1 ≤ 64 := by decide) : inD d (.tuple ds) = some true := by
  show (if _ then _ else _) = _
  rw [if_pos ⟨(g d h).sh (by omega), (gd_tup g).sh hm⟩]
  congr 1
  rw [List.any_eq_true]
  exact ⟨d, h, eqv_self (g d h)⟩
theorem min1_2 (a b : Int) : min1D [.list [.int a, .int b]] = some (.int (min a b)) := rfl
theorem max1_2 (a b : Int) : max1D [.list [.int a, .int b]] = some (.int (max a b)) := rfl
end
end G

end
section
set_option Elab.async false
set_option linter.all false
set_option maxRecDepth 100000
/-! G24: sorted(..) of a list or a tuple of alike data. -/
namespace PySem.W
open PySem PySem.Calls PyProof.Rows
section
variable {prog : Program} {w : World} {A : Around} {E : Value → Shared → Prop} {s : Shared}
/-- a sequence's items as a new list -/
theorem gather {l : Addr} {o : Obj} {vs : List Value} {n : Nat} {T : String} {Q : List Value → Shared → Prop} (hT : T = "list" ∨ T = "tuple") (ho : s.heap.get? l = some o) (hc : o.cls = .type T) (hd : o.data = .seq vs.toArray n) (hsz : vs.length ≤ sizeLine)
    (h : Q vs { s with heap := (s.heap.push (seqObj "list" #[] 0)).update s.heap.objs.size (Obj.mapSeq (· ++ vs.toArray)) }) : wpAny (model prog w) A (collect (.ref l)) Q E s := by
  have ho2 : (s.heap.push (seqObj "list" #[] 0)).get? l = some o := Heap.get?_push_of_some _ ho
  have hnew : (s.heap.push (seqObj "list" #[] 0)).get? s.heap.objs.size = some (seqObj "list" #[] 0) := Heap.get?_push_size _ rfl
  unfold collect
  refine wpAny_bind (wpAny_runValue (codeAny_builtin entry_proto_collect' (show wpAny _ _ (do again (.builtin "list.__iadd__" ⟨[← newList [], .ref l], []⟩)) _ _ s from wpAny_bind (wpAny_newList (wpAny_pure ⟨Code.quiet_builtin _ (by decide +kernel), codeAny_builtin entry_list_iadd' ?_⟩)))))
  show wpAny _ _ (Builtin.List.listExtendWith (.ref s.heap.objs.size) (.ref l) (.ref s.heap.objs.size)) _ _ { s with heap := s.heap.push (seqObj "list" #[] 0) }
  unfold Builtin.List.listExtendWith
  refine wpAny_bind (wpAny_typeOf (T := T) ⟨o, ho2, hc⟩ ?_)
  have ht : (Builtin.List.listSameRef (.ref s.heap.objs.size) (.ref l) || Value.type T == .type "list" || Value.type T == .type "tuple") = true := by
    rcases hT with rfl | rfl <;> simp
  rw [if_pos ht]
  refine wpAny_bind (listItems_at ho2 hd (wpAny_bind (listItems_at (xs := #[]) (n := 0) hnew rfl ?_)))
  rw [if_neg (by simp)]
  refine wpAny_bind (listUpdate_at (xs := #[]) (n := 0) hnew rfl (wpAny_pure ?_) (Nat.zero_le _) (by show (#[] ++ vs.toArray).size ≤ sizeLine + 1; simp only [Array.size_append, List.size_toArray, List.length_nil]; omega))
  show wpAny (model prog w) A (do
      let o ← load s.heap.objs.size
      match o.data with
      | .seq xs _ => pure xs.toList
      | _ => unsupported "internal:collect") Q E { s with heap := (s.heap.push (seqObj "list" #[] 0)).update s.heap.objs.size (Obj.mapSeq (· ++ vs.toArray)) }
  refine wpAny_bind (wpAny_load (get?_update_seq hnew _) ?_)
  show wpAny _ _ (pure ((#[] : Array Value) ++ vs.toArray).toList) Q E _
  have e : ((#[] : Array Value) ++ vs.toArray).toList = vs := by simp
  rw [e]
  exact wpAny_pure h
/-- sorted(xs), xs a list or a tuple of alike data -/
theorem sortedG {β : Type} {R : Value → β → Prop} {enc : β → PyData} {bs : List β} {l : Addr} {o : Obj} {vs : List Value} {n : Nat} {T : String} {Q : Value → Shared → Prop} (hT : T = "list" ∨ T = "tuple") (ho : s.heap.get? l = some o) (hc : o.cls = .type T) (hd : o.data = .seq vs.toArray n)
    (e : EachIs R vs bs) (er : EachIs (fun v b => ∃ as, Reads s.heap v (enc b) as) vs bs) (hal : AllAlike (bs.map enc)) (hk : Sortable (bs.map enc)) (hL : bs.length ≤ sizeLine) (hu : ∀ b, b ∈ bs → A.units + 2 + (enc b).depth < cLine)
    (h : ∀ out, out.length = bs.length → EachIs R out (bs.mergeSort (dataLe false enc)) → Q (.ref (s.heap.objs.size + 1)) { s with heap := sortedAll s.heap vs (List.toArray out) }) :
    wpAny (model prog w) A (call (.builtin "sorted") [.ref l]) Q E s := by
  have hL' : vs.length ≤ sizeLine := by rw [e.length]; exact hL
  have er' : EachIs (fun v b => ∃ as, Reads (sortingHeap (copyHeap s.heap vs) (s.heap.objs.size + 1) vs) v (enc b) as) vs bs := er.mono fun _ _ ⟨as, r⟩ => ⟨as, PyProof.Rows.Reads.keeps (fun _ _ => sorting_copy_old) r⟩
  have S := SortsAt.data (prog := prog) (w := w) (A := A.in1.in1) (s := { s with heap := sortingHeap (copyHeap s.heap vs) (s.heap.objs.size + 1) vs }) (each_map (R := fun v d => ∃ as, Reads (sortingHeap (copyHeap s.heap vs) (s.heap.objs.size + 1) vs) v d as) enc er') hal hk (bound_map hu)
  refine call_function_entry_kw kind_sorted plain_sorted entry_sorted (args_sorted1 _) ?_
  unfold Builtin.«sorted»
  refine wpAny_bind (m := checkCount "sorted" 1 1 _) (wpAny_pure (wpAny_bind (gather hT ho hc hd hL' (wpAny_bind (wpAny_newList ?_ hL')))))
  have hsz : ((s.heap.push (seqObj "list" #[] 0)).update s.heap.objs.size (Obj.mapSeq (· ++ vs.toArray))).objs.size = s.heap.objs.size + 1 := by rw [Heap.size_update, size_push']
  show wpAny _ _ _ _ _ { s with heap := copyHeap s.heap vs }
  rw [hsz]
  refine wpAny_bind (wpAny_holding (wpAny_call_entry_kw slot_list_sort ⟨_, copyHeap_at s.heap vs, rfl⟩ entry_list_sort ?body (args_list_sort _)))
  case body =>
    show wpAny (model prog w) A.in1.in1 (Builtin.«list.sort» ⟨[.ref (s.heap.objs.size + 1)], []⟩) _ _ _
    refine wpAny_mono (list_sort_vals (P := fun f s' => f = .done (.ret .none) ∧ Q (.ref (s.heap.objs.size + 1)) s') (s := { s with heap := copyHeap s.heap vs }) (copyHeap_at s.heap vs) S hL' ⟨rfl, h _ (by rw [sortVals_length false rfl]; exact e.length) (sortVals_data false e er' hal)⟩) (fun f s' hf => ?_) fun _ _ e => e
    obtain ⟨rfl, hq⟩ := hf
    exact ⟨_, rfl, wpAny_pure ⟨_, rfl, hq⟩⟩
end
end PySem.W
namespace G
open RM (bnd)
open PySem PySem.Spec PyProof.Rows L2
/-- what sorted tells of plain data -/
def SortOk (ds : List D) : Prop := PySem.W.AllAlike ds ∧ PySem.W.Sortable ds ∧ ds.length ≤ 16777216 ∧ ∀ d ∈ ds, d.depth ≤ 60
def srt (ds : List D) : List D := ds.mergeSort (PySem.W.dataLe false fun d => d)
open Classical in
noncomputable def sortD : List D → Option (List D)
  | [.list ds] => if SortOk ds then some (srt ds) else none
  | [.tuple ds] => if SortOk ds then some (srt ds) else none
  | _ => none
section
variable {X : Cx}
def rSort (K : PySem.W.Frag) : List V → Hp → VK → Prop := fun xs H Q => ∃ (p : Addr) (ys : List V) (ds : List D) (F : Hp), xs = [.ref p] ∧ (SqL K H p ys ∨ SqT K H p ys) ∧ L2.Same F H ∧ RpAll F ys ds ∧ SortOk ds ∧ ∀ (a : Addr) (zs : List V), H a = none → RpAll F zs (srt ds) → Q (.ref a) (upd H a (.lst zs))
theorem each_of {s : Shared} {F H : Hp} {pins : List (Addr × Obj)} {σ : L2.St} (I : Inv X pins σ H s) (m : L2.Same F H) : ∀ {ys : List V} {us : List Value} {ds : List D}, Vals ys us → RpAll F ys ds → PySem.W.EachIs (fun v d => ∃ x, RelV x v ∧ Rp F x d) us ds ∧ PySem.W.EachIs (fun v d => ∃ as, Reads s.heap v d as) us ds
  | [], [], [], _, _ => ⟨.nil, .nil⟩
  | y :: ys, u :: us, d :: ds, .cons hv vs, .cons hr rs => by
    obtain ⟨e1, e2⟩ := each_of I m vs rs
    exact ⟨.cons ⟨y, hv, hr⟩ e1, .cons (Dp.reads I d y u ((Rp.mono m hr).dp) hv) e2⟩
theorem each_back {F : Hp} : ∀ {us : List Value} {ds : List D}, PySem.W.EachIs (fun v d => ∃ x, RelV x v ∧ Rp F x d) us ds → ∃ zs : List V, Vals zs us ∧ RpAll F zs ds
  | [], [], _ => ⟨[], .nil, .nil⟩
  | u :: us, d :: ds, .cons ⟨x, h1, h2⟩ t => by
    obtain ⟨zs, k1, k2⟩ := each_back t
    exact ⟨x :: zs, .cons h1 k1, .cons h2 k2⟩
theorem cr_sort (hu : X.A.units + 65 < cLine) : CallR X (.builtin "sorted") (rSort X.K) := by
  intro pins s σ H vs us Q I r h
  obtain ⟨p, ys, ds, F, rfl, hs, m, ra, ⟨hal, hk, hl, hdp⟩, q⟩ := h
  rw [Vals.ref1 r]
  have go : ∀ (its : List Value) (o : Obj) (n : Nat) (T : String), (T = "list" ∨ T = "tuple") → s.heap.get? p = some o → o.cls = .type T → o.data = .seq its.toArray n → Vals ys its → wpAny (model X.prog X.w) X.A (call (.builtin "sorted") [.ref p]) (EP X pins σ Q) X.xe s := by
    intro its o n T hT ho hc hd rv
    obtain ⟨e1, e2⟩ := each_of I m rv ra
    refine PySem.W.sortedG (enc := fun d : D => d) (bs := ds) hT ho hc hd e1 e2 (by rw [List.map_id']; exact hal) (by rw [List.map_id']; exact hk) (by rw [sizeLine_eq]; exact hl) (fun b hb => by have := hdp b hb; omega) fun out h1 h2 => ?_
    obtain ⟨zs, k1, k2⟩ := each_back h2
    obtain ⟨ep, he'⟩ := PyProof.Rows.sortedAll_at s.heap its out.toArray
    refine ⟨.ref _, upd H (s.heap.objs.size + 1) (.lst zs), I.laid (t' := s.toks) (fun _ _ => PyProof.Rows.sortedAll_old) (Nat.le_succ _) ⟨?_, out, ep, k1, he'⟩, rfl, q _ _ (I.hok.fresh (Nat.le_succ _)) k2⟩
    rw [k1.length, h1, sizeLine_eq]
    exact hl
  rcases hs with hs | hs
  · obtain ⟨its, rv, hl2, hz⟩ := I.list hs
    obtain ⟨o, ho, hc, n, hd⟩ := hl2.isList
    exact go its o n "list" (.inl rfl) ho hc hd rv
  · obtain ⟨its, rv, hl2, hz⟩ := I.tuple hs
    obtain ⟨o, ho, hc, n, hd⟩ := hl2
    exact go its o n "tuple" (.inr rfl) ho hc hd rv
theorem cn_sorted (hu : X.A.units + 65 < cLine) : CallN X (.builtin "sorted") sortD := fun c b σ H F Γ vs ds z Q E r h q => by
  unfold sortD at h
  split at h
  · split at h
    · rename_i hok
      cases h
      obtain ⟨v, rfl, rr⟩ := r.one
      obtain ⟨a, us, rfl, ha, ra⟩ := rr.items E
      exact ⟨_, cr_sort hu, a, us, _, F, rfl, .inl (.of ha), E.sub, ra, hok, fun a zs hl rz => q a zs hl rz⟩
    · cases h
  · split at h
    · rename_i hok
      cases h
      obtain ⟨v, rfl, rr⟩ := r.one
      obtain ⟨a, us, rfl, ha, ra⟩ := rr.itemsT E
      exact ⟨_, cr_sort hu, a, us, _, F, rfl, .inr (.of (E.sub _ _ ha)), E.sub, ra, hok, fun a zs hl rz => q a zs hl rz⟩
    · cases h
  · cases h
theorem bt_sorted : bootBuiltins "sorted" = some (.builtin "sorted") := by kernel_rfl
end
/-! ### of whole numbers -/
theorem sortOk_ints {l : List Int} (h : l.length ≤ 16777216) : SortOk (l.map PyData.int) := by
  refine ⟨?_, .inr ?_, by rw [List.length_map]; exact h, ?_⟩
  · intro d hd d' hd'
    obtain ⟨i, _, rfl⟩ := List.mem_map.mp hd
    obtain ⟨j, _, rfl⟩ := List.mem_map.mp hd'
    rfl
  · intro d hd
    obtain ⟨i, _, rfl⟩ := List.mem_map.mp hd
    exact ⟨fun z => (nomatch z), fun xs z => (nomatch z)⟩
  · intro d hd
    obtain ⟨i, _, rfl⟩ := List.mem_map.mp hd
    simp only [PyData.depth]
    exact Nat.zero_le _
def srtI (l : List Int) : List Int := l.mergeSort fun a b => decide (a ≤ b)
theorem srt_ints (l : List Int) : srt (l.map PyData.int) = (srtI l).map PyData.int := by
  unfold srt srtI
  have hle : ∀ a b : Int, PySem.W.dataLe false (fun d : D => d) (.int a) (.int b) = decide (a ≤ b) := fun a b => congrFun (congrFun (PySem.W.dataLe_int (fun i : Int => i)) a) b
  exact (List.map_mergeSort (fun a _ b _ => (hle a b).symm)).symm
theorem srtI_perm (l : List Int) : (srtI l).Perm l := List.mergeSort_perm _ _
theorem srtI_sorted (l : List Int) : (srtI l).Pairwise (· ≤ ·) := by
  have := List.pairwise_mergeSort (le := fun a b : Int => decide (a ≤ b)) (fun a b c h1 h2 => by simp only [decide_eq_true_eq] at h1 h2 ⊢; omega) (fun a b => by simp only [Bool.or_eq_true, decide_eq_true_eq]; omega) l
  exact this.imp fun h => of_decide_eq_true h
theorem sortD_ints {l : List Int} (h : l.length ≤ 16777216) : sortD [.list (l.map PyData.int)] = some ((srtI l).map PyData.int) := by
  unfold sortD
  exact (if_pos (sortOk_ints h)).trans (by rw [srt_ints])
theorem sortD_intsT {l : List Int} (h : l.length ≤ 16777216) : sortD [.tuple (l.map PyData.int)] = some ((srtI l).map PyData.int) := by
  unfold sortD
  exact (if_pos (sortOk_ints h)).trans (by rw [srt_ints])
end G

end
section
set_option Elab.async false
set_option linter.all false
set_option maxRecDepth 100000
/-! G25: x += e of whole numbers; texts at the top. -/
namespace G
open RM (bnd)
open PySem PySem.Spec PyProof.Rows L2
def augD (f : Int → Int → Int) : D → D → Option D
  | .int i, .int j => some (.int (f i j))
  | _, _ => none
section
variable {X : Cx} {c : Ct} {R : Type} [RM R] {M : Md R} {Γ : List Sl} {e : Expr} {pos pos' : Pos} {rest : List Stmt} {NX BK CT : Kn R}
theorem gs_aug {i : Nat} {x : Str} {d : D} {op : Operator} {f : Int → Int → Int} {w : (D → R) → R} {k : D → R} (ho : PIp X op (ipI f)) (hN : X.N.Nodup) (hi : X.N[i]? = some x) (hx : Loc X.env.scope x) (gi : Γ[i]? = some (.va d)) (h : GB X c e Γ w) (hr : ∀ d', GSs X c M rest (Γ.set i (.va d')) NX BK CT (k d'))
    (hf : X.fn x = true ∨ X.env.scope.names.lookup x = some .local := by first | exact .inl rfl | exact .inr rfl | assumption) (hfx : ∀ (σ : L2.St) (o : Option V), M.fx σ → M.fx (σ.set i o) := by exact fun _ _ _ => trivial) :
    GSs X c M (.AugAssign (.Name x pos') op e pos :: rest) Γ NX BK CT (w fun y => bnd (augD f d y) k) := fun P b σ H F Dd E fx t fo pins s I => by
  refine seq_run (P := P) (b := b) (F := F) ((ps_aug hN hi hx pe_w ho hf).w ?_) pins s I
  obtain ⟨v, z, r⟩ := E.sl i _ gi
  refine ⟨v, z, h P b σ H F _ _ E t fun y u b' H' F' s E' r' t' => ?_⟩
  obtain ⟨q, hq, t2⟩ := RM.bh t'
  cases d with
  | int a =>
    cases y with
    | int a2 =>
      cases hq
      exact ⟨a, a2, Rp.intOf r, r'.intOf, hr _ P b' _ H' F' Dd (E'.setVa (slen I hi) (.int _)) (hfx _ _ fx) t2 (fo.mono s.f)⟩
    | _ => cases hq
  | _ => cases hq
theorem gc_globV {p : Pos} {x : Str} {d : D} {v : V} {u : Value} (hg : Gl X x) (hm : X.mg x = some u) (r : RelV v u) (hd' : ∀ F, Rp F v d) (hd : (x == ("__debug__" : Str)) = false := by decide) :
    GC X c (.Name x p) Γ (fun (k : D → R) => k d) := fun P b σ H F Q k E t q => (pe_glob hg hm r hd).w (q d v b H F (Xt.refl) E (hd' F) t)
end
theorem sconst_mk {K : PySem.W.Frag} {h : Heap} {mg : Str → Option Value} {x i : Str} {t : Tok} (X : K.In h) (G : h.Ns mainGlobals mg) (c : PySem.W.nsIn K mainGlobals x = some (some (.str i t))) : ∃ u, mg x = some u ∧ RelV (.str i) u := ⟨_, PySem.W.mg_of X G c, ⟨t, rfl⟩⟩
end G

end
section
set_option Elab.async false
set_option linter.all false
set_option maxRecDepth 100000
set_option maxHeartbeats 4000000
/-! G26: list + list; tuple * int. -/
namespace L2
open PySem PySem.Spec PyProof.Rows
/-- an empty tuple, or one that is taken once: itself -/
theorem tuple_once (l : Addr) (items : Array Value) (n : Nat) (dd : Option Addr) (sl : Array (Option Value)) (x : Int) (u : Tok) (b0 : (decide (x < -(2 ^ 63)) || decide (x ≥ 2 ^ 63)) = false) (b1 : (items.isEmpty || x == 1) = true) :
    Meets (Builtin.«tuple.__mul__» ⟨[.ref l, .int x u], []⟩) (fun _ R s => s.heap.get? l = some { cls := .type "tuple", dict := dd, data := .seq items n, slots := sl } ∧ R (.ok (.ret (Value.ref l))) s) :=
  .of_wp fun prog w A R s h => by
    obtain ⟨hp, g, d, tk, os⟩ := s
    obtain ⟨hl, h⟩ := h
    have f1 := AutoSeq1.idx_int
    wp_walk using wpAny_loadPart' hl
    repeat (first
      | (refine wpAny_ite_false (decide_eq_false (by rw [b0]; exact Bool.false_ne_true)) ?_; wp_walk using wpAny_loadPart' hl)
      | (refine wpAny_ite_true (decide_eq_true b1) ?_; wp_walk using wpAny_loadPart' hl))
    exact ⟨_, rfl, h⟩
/-- taken no time: empty -/
theorem tuple_never (l : Addr) (items : Array Value) (n : Nat) (dd : Option Addr) (sl : Array (Option Value)) (x : Int) (u : Tok) (b0 : (decide (x < -(2 ^ 63)) || decide (x ≥ 2 ^ 63)) = false) (b1 : (items.isEmpty || x == 1) = false) (b2 : (decide (x ≤ 0) || items.isEmpty) = true) :
    Meets (Builtin.«tuple.__mul__» ⟨[.ref l, .int x u], []⟩) (fun _ R s => s.heap.get? l = some { cls := .type "tuple", dict := dd, data := .seq items n, slots := sl } ∧ R (.ok (.ret (Value.ref s.heap.objs.size))) { s with heap := s.heap.push { cls := Value.type "tuple", data := Data.seq #[] }, toks := s.toks }) :=
  .of_wp fun prog w A R s h => by
    obtain ⟨hp, g, d, tk, os⟩ := s
    obtain ⟨hl, h⟩ := h
    have f1 := AutoSeq1.idx_int
    wp_walk using wpAny_loadPart' hl
    repeat (first
      | (refine wpAny_ite_false (decide_eq_false (by rw [b0]; exact Bool.false_ne_true)) ?_; wp_walk using wpAny_loadPart' hl)
      | (refine wpAny_ite_false (decide_eq_false (by rw [b1]; exact Bool.false_ne_true)) ?_; wp_walk using wpAny_loadPart' hl)
      | (refine wpAny_ite_true (decide_eq_true b2) ?_; wp_walk using wpAny_loadPart' hl))
    exact ⟨_, rfl, h⟩
def rRepA (K : PySem.W.Frag) : R2 := fun x y H Q => ∃ l k xs, x = .ref l ∧ y = .int k ∧ SqT K H l xs ∧ (-(2 ^ 63) ≤ k ∧ k < 2 ^ 63) ∧ (((xs = [] ∨ k = 1) ∧ Q (.ref l) H) ∨ (xs ≠ [] ∧ k ≤ 0 ∧ ∀ p, H p = none → Q (.ref p) (upd H p (.tup []))))
theorem op_repA {X : Cx} : OpR X (binaryOp .Mult) (rRepA X.K) := by
  intro pins s σ H x y v u Q I rx ry h
  obtain ⟨l, k, xs, rfl, rfl, hT, ⟨k0, k1⟩, h⟩ := h
  cases rx
  obtain ⟨t, rfl⟩ := ry
  obtain ⟨its, r, ⟨⟨cls, dd, data, sl⟩, ho, hc, n, hd⟩, hs⟩ := I.tuple hT
  simp only at hc hd
  subst hc hd
  have hle : its.length = xs.length := r.length.symm
  have b0 : (decide (k < -(2 ^ 63)) || decide (k ≥ 2 ^ 63)) = false := by
    rw [decide_eq_false (by omega), decide_eq_false (by omega)]
    rfl
  refine wpAny_binaryOp_repeat_ref (T := "tuple") (U := "int") (by decide) ⟨_, ho, rfl⟩ (fun s' => typeIs_int s' k t) noFill_tuple_mul F.fills_int_mul F.slot_int_rmul repeat_tuple F.slot_int_index.lookup (call_meets F.slot_int_rmul (typeIs_int s k t) F.entry_int_rmul (F.args_int_rmul_2 _ _) (int_rmul_tuple k t l its.toArray n dd sl) ⟨ho, rfl, ⟨_, ho, rfl⟩, ?_⟩)
  rcases h with ⟨h1, q⟩ | ⟨h1, h2, q⟩
  · have b1 : (its.toArray.isEmpty || k == 1) = true := by
      rcases h1 with h1 | h1
      · rw [h1] at hle
        have : its = [] := List.eq_nil_of_length_eq_zero hle
        rw [this]
        rfl
      · rw [h1]
        simp
    exact call_meets F.slot_tuple_mul ⟨_, ho, rfl⟩ F.entry_tuple_mul (F.args_tuple_mul_2 _ _) (tuple_once l its.toArray n dd sl k t b0 b1) ⟨ho, ⟨.ref l, H, I, rfl, q⟩⟩
  · have hi : its.toArray.isEmpty = false := by
      cases its with
      | nil => exact absurd (List.eq_nil_of_length_eq_zero hle.symm) h1
      | cons a b => rfl
    have b1 : (its.toArray.isEmpty || k == 1) = false := by
      rw [hi, Bool.false_or]
      exact beq_eq_false_iff_ne.mpr (by omega)
    have b2 : (decide (k ≤ 0) || its.toArray.isEmpty) = true := by
      rw [decide_eq_true h2]
      rfl
    refine call_meets F.slot_tuple_mul ⟨_, ho, rfl⟩ F.entry_tuple_mul (F.args_tuple_mul_2 _ _) (tuple_never l its.toArray n dd sl k t b0 b1 b2) ⟨ho, ?_⟩
    refine ⟨.ref s.heap.objs.size, _, I.laid (t' := s.toks) (o := .tup []) (fun b ob q => Heap.get?_push_of_some _ q) (Nat.le_refl _) ?_, rfl, q _ (I.hok.fresh (Nat.le_refl _))⟩
    exact ⟨by rw [sizeLine_eq]; exact Nat.zero_le _, [], .nil, IsTup.new _ _⟩
end L2
namespace G
open RM (bnd)
open PySem PySem.Spec PyProof.Rows L2
def catD : D → D → Option D
  | .int i, .int j => some (.int (i + j))
  | .tuple xs, .tuple ys => if xs.length + ys.length ≤ 16777216 then some (.tuple (xs ++ ys)) else none
  | .list xs, .list ys => if xs.length + ys.length ≤ 16777216 then some (.list (xs ++ ys)) else none
  | _, _ => none
def repD : D → D → Option D
  | .tuple xs, .int k => if (xs = [] ∨ k = 1) ∧ -1000000 ≤ k ∧ k ≤ 1000000 then some (.tuple xs) else if xs ≠ [] ∧ k ≤ 0 ∧ -1000000 ≤ k then some (.tuple []) else if xs ≠ [] ∧ 2 ≤ k ∧ k ≤ 1000 ∧ xs.length ≤ 1000 then some (.tuple (List.replicate k.toNat xs).flatten) else none
  | _, _ => none
theorem RpAll.rep {F : Hp} {vs : List V} {ds : List D} (r : RpAll F vs ds) : ∀ m : Nat, RpAll F (List.replicate m vs).flatten (List.replicate m ds).flatten
  | 0 => .nil
  | m + 1 => by
    rw [List.replicate_succ, List.replicate_succ, List.flatten_cons, List.flatten_cons]
    exact r.append (RpAll.rep r m)
section
variable {X : Cx}
theorem o2_cat : Op2 X (binaryOp .Add) catD := fun c b σ H F Γ x y d e z Q E r1 r2 h q => by
  have key : addD d e = some z → ∃ r, OpR X (binaryOp .Add) r ∧ r x y H Q := fun h => o2_add c b σ H F Γ x y d e z Q E r1 r2 h q
  cases d <;> cases e <;> try cases h
  case int.int i j => exact key rfl
  case tuple.tuple xs ys => exact key h
  case list.list xs ys =>
    change (if xs.length + ys.length ≤ 16777216 then some (PyData.list (xs ++ ys)) else none) = some z at h
    split at h
    · rename_i hz
      cases h
      obtain ⟨a, vs, rfl, h1, q1⟩ := r1.items E
      obtain ⟨a2, vs2, rfl, h2, q2⟩ := r2.items E
      have l1 := RpAll.length q1
      have l2 := RpAll.length q2
      refine ⟨_, op_cat, a, a2, vs, vs2, rfl, rfl, h1, h2, by rw [sizeLine_eq, l1, l2]; exact hz, fun p hp => ?_⟩
      have s := Xt.upd (c := c) (o := .lst (vs ++ vs2)) hp (E.sub.free hp)
      exact q _ _ _ s (E.alloc hp) (.lst upd_same (RpAll.mono s.f (q1.append q2)))
    · cases h
theorem o2_rep : Op2 X (binaryOp .Mult) repD := fun c b σ H F Γ x y d e z Q E r1 r2 h q => by
  cases d <;> cases e <;> try cases h
  case tuple.int xs k =>
    change (if (xs = [] ∨ k = 1) ∧ -1000000 ≤ k ∧ k ≤ 1000000 then some (PyData.tuple xs) else if xs ≠ [] ∧ k ≤ 0 ∧ -1000000 ≤ k then some (.tuple []) else if xs ≠ [] ∧ 2 ≤ k ∧ k ≤ 1000 ∧ xs.length ≤ 1000 then some (.tuple (List.replicate k.toNat xs).flatten) else none) = some z at h
    have go : ∀ {k : Int}, xs = [] ∨ k = 1 → -(2 ^ 63) ≤ k ∧ k < 2 ^ 63 → Rv X.K σ Γ F y (.int k) → z = .tuple xs → ∃ r, OpR X (binaryOp .Mult) r ∧ r x y H Q := fun {k} h1 hk r2 ez => by
      subst ez
      obtain ⟨a, vs, rfl, h2, q1⟩ := r1.itemsT E
      have l1 := RpAll.length q1
      refine ⟨_, op_repA, a, k, vs, rfl, r2.intOf, .of (E.sub _ _ h2), hk, .inl ⟨h1.imp_left fun e => ?_, q _ H F (Xt.refl) E (.tup h2 q1)⟩⟩
      rw [e] at l1
      exact List.eq_nil_of_length_eq_zero l1
    split at h
    · rename_i h1
      cases h
      exact go h1.1 (by omega) r2 rfl
    · split at h
      · rename_i h2
        have hne := h2.1
        cases h
        obtain ⟨a, vs, rfl, h3, q1⟩ := r1.itemsT E
        have l1 := RpAll.length q1
        refine ⟨_, op_repA, a, k, vs, rfl, r2.intOf, .of (E.sub _ _ h3), by omega, .inr ⟨fun e => hne ?_, h2.2.1, fun p hp => ?_⟩⟩
        · rw [e] at l1
          exact List.eq_nil_of_length_eq_zero l1.symm
        · have s := Xt.upd (c := c) (o := .tup []) hp (E.sub.free hp)
          exact q _ _ _ s (E.alloc hp) (.tup upd_same .nil)
      · split at h
        · rename_i h2
          have hne := h2.1
          cases h
          obtain ⟨a, vs, rfl, h3, q1⟩ := r1.itemsT E
          have l1 := RpAll.length q1
          refine ⟨_, op_repT, a, k, vs, rfl, r2.intOf, .of (E.sub _ _ h3), fun e => hne ?_, h2.2.1, h2.2.2.1, by rw [l1]; exact h2.2.2.2, fun p hp => ?_⟩
          · rw [e] at l1
            exact List.eq_nil_of_length_eq_zero l1.symm
          · have s := Xt.upd (c := c) (o := .tup (List.replicate k.toNat vs).flatten) hp (E.sub.free hp)
            exact q _ _ _ s (E.alloc hp) (.tup upd_same (RpAll.mono s.f (RpAll.rep q1 _)))
        · cases h
end
end G

end
section
set_option Elab.async false
set_option linter.all false
set_option maxRecDepth 100000
/-! G27: lists as lists by place; rows of values. -/
namespace G
open RM (bnd)
open PySem PySem.Spec PyProof.Rows L2
theorem list_tab {α β : Type} (d : α) (f : α → β) (l : List α) : l.map f = tab l.length fun i => f (l.getD i.toNat d) := by
  apply List.ext_getElem?
  intro i
  by_cases h : i < l.length
  · rw [tab_get h, List.getElem?_map, List.getElem?_eq_getElem h]
    show some (f l[i]) = some (f (l.getD (i : Int).toNat d))
    rw [Int.toNat_natCast, List.getD_eq_getElem?_getD, List.getElem?_eq_getElem h]
    rfl
  · rw [List.getElem?_eq_none (by rw [List.length_map]; omega), List.getElem?_eq_none (by rw [tab_len]; omega)]
/-- a list of whole numbers, by place -/
def at0 (l : List Int) (i : Int) : Int := l.getD i.toNat 0
theorem at0_mem {l : List Int} {i : Int} (h0 : 0 ≤ i) (h1 : i < l.length) : at0 l i ∈ l := by
  unfold at0
  have : i.toNat < l.length := by omega
  rw [List.getD_eq_getElem?_getD, List.getElem?_eq_getElem this]
  exact List.getElem_mem this
theorem at0_of {l : List Int} {x : Int} (h : x ∈ l) : ∃ i : Int, 0 ≤ i ∧ i < l.length ∧ at0 l i = x := by
  obtain ⟨n, hn, e⟩ := List.getElem_of_mem h
  refine ⟨n, by omega, by omega, ?_⟩
  unfold at0
  rw [Int.toNat_natCast, List.getD_eq_getElem?_getD, List.getElem?_eq_getElem hn]
  exact e
theorem at0_le {l : List Int} (h : l.Pairwise (· ≤ ·)) {i j : Int} (h0 : 0 ≤ i) (h1 : i ≤ j) (h2 : j < l.length) : at0 l i ≤ at0 l j := by
  by_cases e : i = j
  · rw [e]; exact Int.le_refl _
  · unfold at0
    have a : i.toNat < l.length := by omega
    have b : j.toNat < l.length := by omega
    rw [List.getD_eq_getElem?_getD, List.getElem?_eq_getElem a, List.getD_eq_getElem?_getD, List.getElem?_eq_getElem b]
    exact List.pairwise_iff_getElem.mp h _ _ a b (by omega)
theorem at0_ext {l m : List Int} (hl : l.length = m.length) (h : ∀ i : Int, 0 ≤ i → i < l.length → at0 l i = at0 m i) : l = m := by
  apply List.ext_getElem hl
  intro i h1 h2
  have := h i (by omega) (by omega)
  unfold at0 at this
  rw [Int.toNat_natCast, List.getD_eq_getElem?_getD, List.getElem?_eq_getElem h1, List.getD_eq_getElem?_getD, List.getElem?_eq_getElem h2] at this
  exact this
theorem at0_tab {n : Nat} {f : Int → Int} {i : Int} (h0 : 0 ≤ i) (h1 : i < n) : at0 (tab n f) i = f i := by
  unfold at0
  rw [List.getD_eq_getElem?_getD, tab_get (by omega), Int.toNat_of_nonneg h0]
  rfl
def tupI (l : List Int) : D := .tuple (l.map .int)
theorem tupI_tab (l : List Int) : tupI l = .tuple (tab l.length fun i => .int (at0 l i)) := congrArg PyData.tuple (list_tab 0 PyData.int l)
theorem tab_ints {n : Nat} {f : Int → Int} : (tab n fun i => PyData.int (f i)) = (tab n f).map PyData.int := (tab_map _).symm
def exts (vs : List Int) (ls : List (List Int)) : List (List Int) := ls.flatMap fun l => vs.map fun v => l ++ [v]
def rowsP (vs : List Int) : Nat → List (List Int)
  | 0 => [[]]
  | n + 1 => exts vs (rowsP vs n)
theorem mem_rowsP {vs : List Int} : ∀ {n : Nat} {l : List Int}, l ∈ rowsP vs n ↔ l.length = n ∧ ∀ x ∈ l, x ∈ vs
  | 0, l => by
    show l ∈ [[]] ↔ _
    rw [List.mem_singleton]
    constructor
    · rintro rfl; simp
    · rintro ⟨h, _⟩; exact List.eq_nil_of_length_eq_zero h
  | n + 1, l => by
    show l ∈ exts vs (rowsP vs n) ↔ _
    unfold exts
    rw [List.mem_flatMap]
    constructor
    · rintro ⟨m, hm, h⟩
      obtain ⟨v, hv, rfl⟩ := List.mem_map.mp h
      obtain ⟨h1, h2⟩ := mem_rowsP.mp hm
      refine ⟨by rw [List.length_append, List.length_singleton, h1], fun x hx => ?_⟩
      rcases List.mem_append.mp hx with hx | hx
      · exact h2 x hx
      · rw [List.mem_singleton.mp hx]; exact hv
    · rintro ⟨h1, h2⟩
      have hne : l ≠ [] := fun e => by rw [e] at h1; cases h1
      refine ⟨l.dropLast, mem_rowsP.mpr ⟨by rw [List.length_dropLast]; omega, fun x hx => h2 x (List.dropLast_subset _ hx)⟩, List.mem_map.mpr ⟨l.getLast hne, h2 _ (List.getLast_mem hne), List.dropLast_concat_getLast hne⟩⟩
theorem exts_len {vs : List Int} : ∀ ls : List (List Int), (exts vs ls).length = vs.length * ls.length
  | [] => rfl
  | l :: ls => by
    have := exts_len (vs := vs) ls
    unfold exts at this ⊢
    rw [List.flatMap_cons, List.length_append, List.length_map, this, List.length_cons, Nat.mul_succ]
    omega
theorem rowsP_len {vs : List Int} : ∀ n : Nat, (rowsP vs n).length = vs.length ^ n
  | 0 => rfl
  | n + 1 => by
    show (exts vs (rowsP vs n)).length = _
    rw [exts_len, rowsP_len n, Nat.pow_succ, Nat.mul_comm]
end G

end
section
set_option Elab.async false
set_option linter.all false
set_option maxRecDepth 100000
/-! G28: membership, emptiness, least and greatest of lists told by place. -/
namespace G
open RM (bnd)
open PySem PySem.Spec PyProof.Rows L2
theorem anyB_false {n : Nat} {p : Int → Bool} : anyB n p = false ↔ ∀ i : Int, 0 ≤ i → i < n → p i = false := by
  rw [← Bool.not_eq_true, anyB_iff]
  constructor
  · intro h i h0 h1
    cases q : p i with
    | false => rfl
    | true => exact absurd ⟨i, h0, h1, q⟩ h
  · rintro h ⟨i, h0, h1, h2⟩
    rw [h i h0 h1] at h2
    cases h2
theorem gd_filI {m n : Nat} {p : Int → Bool} {o : Int → Int} : ∀ d ∈ fil n p (fun i => PyData.int (o i)), Gd m d := fun d hd => by
  obtain ⟨i, _, _, _, rfl⟩ := mem_fil.mp hd
  exact gd_int _ _
/-- a list that a comparison takes, against the empty one -/
theorem eq_emp {m : Nat} {l : List D} (h : ∀ d ∈ l, Gd m d) (hm : m + 1 ≤ 64 := by decide) : eqD (.list l) (.list []) = some l.isEmpty := by
  cases l with
  | nil => exact eqLn
  | cons x r => exact eq_nil (gd_list h) hm
theorem ne_emp {m : Nat} {l : List D} (h : ∀ d ∈ l, Gd m d) (hm : m + 1 ≤ 64 := by decide) : neD (.list l) (.list []) = some (!l.isEmpty) := by
  cases l with
  | nil => exact neLn
  | cons x r => exact ne_nil (gd_list h) hm
theorem eqFil {n : Nat} {p : Int → Bool} {o : Int → Int} : eqD (.list (fil n p fun i => .int (o i))) (.list []) = some (!anyB n p) := by
  rw [eq_emp (m := 1) gd_filI, fil_emp]
theorem eqv_int (i j : Int) : PyData.eqv (.int i) (.int j) = decide (i = j) := by
  have h := eqI i j
  rw [eqD_of ((gd_int 0 _).sh) ((gd_int 0 _).sh)] at h
  exact Option.some.inj h
theorem inL_ints (l : List Int) (v : Int) : inD (.int v) (.list (l.map .int)) = some (decide (v ∈ l)) := by
  have g : ∀ d ∈ l.map PyData.int, Gd 1 d := fun d hd => by
    obtain ⟨i, _, rfl⟩ := List.mem_map.mp hd
    exact gd_int _ _
  show (if _ then _ else _) = _
  rw [if_pos ⟨(gd_int 1 _).sh, (gd_list g).sh⟩]
  congr 1
  rw [List.any_map, Bool.eq_iff_iff, List.any_eq_true, decide_eq_true_eq]
  constructor
  · rintro ⟨x, hx, e⟩
    have e : PyData.eqv (.int x) (.int v) = true := e
    rw [eqv_int, decide_eq_true_eq] at e
    rw [← e]; exact hx
  · intro h
    exact ⟨v, h, by show PyData.eqv (.int v) (.int v) = true; rw [eqv_int, decide_eq_true_eq]⟩
theorem fil_map {α β : Type} {n : Nat} {p : Int → Bool} {f : Int → α} (h : α → β) : (fil n p f).map h = fil n p fun i => h (f i) := by
  unfold fil
  rw [List.map_map]
  rfl
/-- a comprehension over any list -/
theorem lcM {T α : Type} {δ : D → Option T} {F : T → Option (Option D)} {e : α → D} {l : List α} (p : α → Bool) (o : α → D) (hl : l.length ≤ 16777216) (h : ∀ x ∈ l, (δ (e x)).bind F = some (if p x = true then some (o x) else none)) : lcP δ F (l.map e) = some ((l.filter p).map o) := by
  unfold lcP cmpL
  rw [if_pos (by rw [List.length_map]; exact hl)]
  clear hl
  induction l with
  | nil => rfl
  | cons x l ih =>
    show Option.bind ((δ (e x)).bind F) _ = _
    rw [h x List.mem_cons_self]
    show Option.bind (cmpM _ _) _ = _
    rw [ih fun y hy => h y (List.mem_cons_of_mem _ hy)]
    cases q : p x with
    | true => simp only [List.filter_cons, q]; rfl
    | false => simp only [List.filter_cons, q]; rfl
theorem lcMa {T α : Type} {δ : D → Option T} {F : T → Option (Option D)} {e : α → D} {l : List α} (o : α → D) (hl : l.length ≤ 16777216) (h : ∀ x ∈ l, (δ (e x)).bind F = some (some (o x))) : lcP δ F (l.map e) = some (l.map o) := by
  rw [lcM (fun _ => true) o hl fun x hx => by rw [h x hx, if_pos rfl]]
  congr 2
  exact List.filter_eq_self.mpr fun _ _ => rfl
/-- a loop over any list that gathers what passes -/
theorem forF {α β : Type} {δ : D → Option D} {F : List D → D → (List D → Option β) → (List D → Option β) → Option β} {e : α → D} (p : α → Bool) (o : α → D) {k : List D → Option β} : ∀ (l acc : List α), acc.length + l.length ≤ 16777216 →
    (∀ x ∈ l, ∀ s : List D, s.length < 16777216 → ∀ kc kb, bnd (R := Option β) (δ (e x)) (fun t => F s t kc kb) = kc (if p x = true then s ++ [o x] else s)) → forD (R := Option β) δ F (l.map e) (acc.map o) k = k ((acc ++ l.filter p).map o)
  | [], acc, _, _ => by
    show k _ = _
    rw [List.filter_nil, List.append_nil]
  | x :: l, acc, hs, h => by
    rw [List.length_cons] at hs
    rw [List.map_cons, forD_cons, h x List.mem_cons_self _ (by rw [List.length_map]; omega)]
    cases q : p x with
    | true =>
      rw [if_pos rfl, show acc.map o ++ [o x] = (acc ++ [x]).map o by rw [List.map_append]; rfl]
      refine (forF p o l (acc ++ [x]) (by rw [List.length_append, List.length_singleton]; omega) fun y hy => h y (List.mem_cons_of_mem _ hy)).trans ?_
      rw [List.filter_cons, if_pos q, List.append_assoc]
      rfl
    | false =>
      rw [if_neg (by decide)]
      refine (forF p o l acc (by omega) fun y hy => h y (List.mem_cons_of_mem _ hy)).trans ?_
      rw [List.filter_cons, if_neg (by rw [q]; decide)]
theorem maxD_of {l : List Int} {a : Int} (h : a ∈ l ∧ ∀ x ∈ l, x ≤ a) : max1D [.list (l.map .int)] = some (.int a) := by
  rw [max1L, maxI_iff.mpr h]
  rfl
theorem minD_of {l : List Int} {a : Int} (h : a ∈ l ∧ ∀ x ∈ l, a ≤ x) : min1D [.list (l.map .int)] = some (.int a) := by
  rw [min1L, minI_iff.mpr h]
  rfl
theorem maxI_ex {l : List Int} (h : l ≠ []) : ∃ a, a ∈ l ∧ ∀ x ∈ l, x ≤ a := by
  cases q : maxI l with
  | none =>
    cases l with
    | nil => exact absurd rfl h
    | cons x r => cases q
  | some a => exact ⟨a, maxI_iff.mp q⟩
theorem minI_ex {l : List Int} (h : l ≠ []) : ∃ a, a ∈ l ∧ ∀ x ∈ l, a ≤ x := by
  cases q : minI l with
  | none =>
    cases l with
    | nil => exact absurd rfl h
    | cons x r => cases q
  | some a => exact ⟨a, minI_iff.mp q⟩
theorem catLL {xs ys : List D} (h : xs.length + ys.length ≤ 16777216) : catD (.list xs) (.list ys) = some (.list (xs ++ ys)) := if_pos h
theorem catTT {xs ys : List D} (h : xs.length + ys.length ≤ 16777216) : catD (.tuple xs) (.tuple ys) = some (.tuple (xs ++ ys)) := if_pos h
theorem addTT {xs ys : List D} (h : xs.length + ys.length ≤ 16777216) : addD (.tuple xs) (.tuple ys) = some (.tuple (xs ++ ys)) := if_pos h
theorem cut_to {xs : List D} {z : Int} (h : 0 ≤ z ∧ z ≤ xs.length) : cutL xs none (some z) = xs.take z.toNat := by
  unfold cutL
  show (xs.drop 0).take ((if z < 0 then _ else min z.toNat xs.length) - 0) = _
  rw [if_neg (by omega), List.drop_zero, Nat.sub_zero, Nat.min_eq_left (by omega)]
theorem cut_from {xs : List D} {z : Int} (h : 0 ≤ z ∧ z ≤ xs.length) : cutL xs (some z) none = xs.drop z.toNat := by
  unfold cutL
  show (xs.drop (if z < 0 then _ else min z.toNat xs.length)).take (xs.length - (if z < 0 then _ else min z.toNat xs.length)) = _
  rw [if_neg (by omega), Nat.min_eq_left (by omega), List.take_of_length_le (by rw [List.length_drop]; omega)]
theorem tab_take {α : Type} {n k : Nat} {f : Int → α} (h : k ≤ n) : (tab n f).take k = tab k f := by
  apply List.ext_getElem?
  intro i
  rw [List.getElem?_take]
  by_cases hi : i < k
  · rw [if_pos hi, tab_get (by omega), tab_get hi]
  · rw [if_neg hi, List.getElem?_eq_none (by rw [tab_len]; omega)]
theorem tab_drop {α : Type} {n k : Nat} {f : Int → α} (h : k ≤ n) : (tab n f).drop k = tab (n - k) fun i => f (i + k) := by
  apply List.ext_getElem?
  intro i
  rw [List.getElem?_drop]
  by_cases hi : i < n - k
  · rw [tab_get (by omega), tab_get hi]
    congr 2
    omega
  · rw [List.getElem?_eq_none (by rw [tab_len]; omega), List.getElem?_eq_none (by rw [tab_len]; omega)]
theorem cutT_to {n : Nat} {f : Int → D} {z : Int} (h : 0 ≤ z ∧ z ≤ n) : cutD (.tuple (tab n f)) none (some z) = some (.tuple (tab z.toNat f)) := by
  show some (PyData.tuple (cutL _ _ _)) = _
  rw [cut_to (by rw [tab_len]; exact h), tab_take (by omega)]
theorem cutT_from {n : Nat} {f : Int → D} {z : Int} (h : 0 ≤ z ∧ z ≤ n) : cutD (.tuple (tab n f)) (some z) none = some (.tuple (tab (n - z.toNat) fun i => f (i + z))) := by
  show some (PyData.tuple (cutL _ _ _)) = _
  rw [cut_from (by rw [tab_len]; exact h), tab_drop (by omega), Int.toNat_of_nonneg h.1]
theorem cutA_from {xs ys : List D} {z : Int} (h : 0 ≤ z ∧ z = xs.length) : cutD (.tuple (xs ++ ys)) (some z) none = some (.tuple ys) := by
  show some (PyData.tuple (cutL _ _ _)) = _
  rw [cut_from (by rw [List.length_append]; omega), show z.toNat = xs.length by omega, List.drop_left]
theorem intDI (z : Int) : intD (.int z) = some z := rfl
theorem rep_tab {d : D} {z : Int} (h : 1 ≤ z ∧ z ≤ 1000) : repD (.tuple [d]) (.int z) = some (.tuple (tab z.toNat fun _ => d)) := by
  have e : tab z.toNat (fun _ => d) = (List.replicate z.toNat [d]).flatten := by
    have : ∀ k : Nat, tab k (fun _ => d) = (List.replicate k [d]).flatten := by
      intro k
      induction k with
      | zero => rfl
      | succ k ih => rw [tab_cons, List.replicate_succ, List.flatten_cons, ← ih]; rfl
    exact this _
  show (if ([d] = [] ∨ z = 1) ∧ -1000000 ≤ z ∧ z ≤ 1000000 then some (PyData.tuple [d]) else if [d] ≠ [] ∧ z ≤ 0 ∧ -1000000 ≤ z then some (.tuple []) else if [d] ≠ [] ∧ 2 ≤ z ∧ z ≤ 1000 ∧ [d].length ≤ 1000 then some (.tuple (List.replicate z.toNat [d]).flatten) else none) = _
  by_cases h1 : z = 1
  · rw [if_pos ⟨.inr h1, by omega, by omega⟩, h1]
    rfl
  · rw [if_neg (by rintro ⟨h2 | h2, _⟩; cases h2; omega), if_neg (by rintro ⟨_, h2, _⟩; omega), if_pos ⟨by simp, by omega, by omega, by simp⟩, e]
theorem inLm {m : Nat} {d : D} {ds : List D} (h : d ∈ ds) (g : ∀ x ∈ ds, Gd m x) (hm : m + 1 ≤ 64 := by decide) : inD d (.list ds) = some true := by
  show (if _ then _ else _) = _
  rw [if_pos ⟨(g d h).sh (by omega), (gd_list g).sh hm⟩]
  congr 1
  rw [List.any_eq_true]
  exact ⟨d, h, eqv_self (g d h)⟩
end G

end
section
set_option Elab.async false
set_option linter.all false
set_option maxRecDepth 100000
set_option maxHeartbeats 4000000
/-! G29: x[::-1] of a list or a tuple; own.remove(int); list * int. -/
namespace L2
open PySem PySem.Spec PyProof.Rows
theorem pick_rev (xs : Array Value) : ((List.range xs.size).filterMap fun (k : Nat) => xs[(((xs.size : Int) - 1) + (k : Int) * (-1)).toNat]?) = xs.toList.reverse := by
  have e : ((List.range xs.size).filterMap fun (k : Nat) => xs[(((xs.size : Int) - 1) + (k : Int) * (-1)).toNat]?) = ((List.range xs.size).map fun k => xs.size - 1 - k).filterMap (xs[·]?) := by
    rw [List.filterMap_map]
    have e3 : ∀ l : List Nat, (∀ k ∈ l, k < xs.size) → (l.filterMap fun (k : Nat) => xs[(((xs.size : Int) - 1) + (k : Int) * (-1)).toNat]?) = l.filterMap ((fun x => xs[x]?) ∘ fun k => xs.size - 1 - k) := by
      intro l
      induction l with
      | nil => intro _; rfl
      | cons k l ih =>
        intro h
        have h1 := h k (List.mem_cons_self ..)
        have e2 : (((xs.size : Int) - 1) + (k : Int) * (-1)).toNat = xs.size - 1 - k := by omega
        rw [List.filterMap_cons, List.filterMap_cons, ih fun m hm => h m (List.mem_cons_of_mem _ hm), e2]
        rfl
    exact e3 _ fun k hk => List.mem_range.mp hk
  rw [e, PySem.W.krv_range, List.filterMap_reverse, PySem.W.krv_all]
theorem getItem_tuple_rev {prog : Program} {w : World} {A : Around} {E : Value → Shared → Prop} {s : Shared} {t sl : Addr} {items : Array Value} {vk : Value} {Q : Value → Shared → Prop} (ht : IsTup s.heap t items) (hs : s.heap.IsSliceOf sl .none .none vk) (pk : IsPart vk (some (-1)))
    (h : Q (.ref s.heap.objs.size) { s with heap := s.heap.push { cls := .type "tuple", data := .seq items.toList.reverse.toArray } })
    (hsz : items.size ≤ sizeLine) : wpAny (model prog w) A (getItem (.ref t) (.ref sl)) Q E s := by
  have htake : sizeOk (.seq items.toList.reverse.toArray) := by
    show items.toList.reverse.toArray.size ≤ sizeLine
    rw [List.size_toArray, List.length_reverse, Array.length_toList]
    exact hsz
  obtain ⟨os, hos, hcs, hds⟩ := id hs
  have hTs : s.TypeIs (.ref sl) "slice" := ⟨os, hos, hcs⟩
  unfold getItem
  try with_reducible refine wpAny_holding ?_
  first | refine wpAny_bind (wpAny_pure ?_) | skip
  refine wpAny_bind (wpAny_sequenceKey ht.typeIs (by decide) ?_)
  refine wpAny_bind (wpAny_callSpecial?_slot (name := Str.ofString "__getitem__") ht.typeIs PyProof.Rows.slot_tuple_getitem
    (wpAny_call_entry PyProof.Rows.slot_tuple_getitem ht.typeIs entry_tuple_getitem ?_ (args_tuple_getitem _ _)))
  show wpAny _ _ (Builtin.Tuple.tupleItemsOf (.ref t) >>= _) _ _ s
  refine wpAny_bind (PyProof.Rows.tupleItemsOf_ ht ?_)
  refine wpAny_bind (wpAny_typeOf hTs ?_)
  rw [if_pos (by decide)]
  have hap : ∀ {A : Around} {E : Value → Shared → Prop} {Q : Int × Int × Nat → Shared → Prop}, Q ((items.size : Int) - 1, -1, items.size) s → wpAny (model prog w) A (Builtin.Slice.sliceApplied (.ref sl) (pure (items.size : Int))) Q E s := fun {A E Q} h => by
    unfold Builtin.Slice.sliceApplied Builtin.Slice.sliceFields
    refine wpAny_bind (wpAny_bind (wpAny_field hos hds (x := .none) rfl (wpAny_bind (wpAny_field hos hds (x := .none) rfl (wpAny_bind (wpAny_field hos hds (x := vk) rfl (wpAny_pure ?_)))))))
    refine wpAny_bind (HT.slicePart_ pk ?_)
    show wpAny _ _ (if ((-1 : Int) == 0) = true then _ else _) _ _ s
    rw [if_neg (by decide)]
    refine wpAny_bind (HT.slicePart_ .none (wpAny_bind (HT.slicePart_ .none (wpAny_bind (wpAny_pure ?_)))))
    have e : Builtin.Slice.slicePlaces ((items.size : Int) - 1) (-1) (-1) = items.size := by
      unfold Builtin.Slice.slicePlaces
      rw [if_neg (by decide)]
      split <;> rename_i hh
      · rw [show (- (-1) : Int) = 1 by decide, Int.ediv_one]
        omega
      · omega
    show wpAny _ _ (pure ((items.size : Int) - 1, (-1 : Int), Builtin.Slice.slicePlaces ((items.size : Int) - 1) (-1) (-1))) _ _ s
    rw [e]
    exact wpAny_pure h
  refine wpAny_bind (hap ?_)
  have hno : ¬ ((((items.size : Int) - 1) == 0 && (-1 : Int) == 1 && items.size == items.size) = true) := by
    rw [show ((-1 : Int) == 1) = false from rfl, Bool.and_false, Bool.false_and]
    exact Bool.false_ne_true
  show wpAny _ _ (if (((items.size : Int) - 1) == 0 && (-1 : Int) == 1 && items.size == items.size) = true then _ else _) _ _ s
  rw [if_neg hno, pick_rev]
  first
    | exact wpAny_bind (m := Builtin.Tuple.tupleExact _) (wpAny_newObj_type (wpAny_pure ⟨_, rfl, wpAny_pure h⟩) htake)
    | exact wpAny_bind (m := Builtin.Tuple.tupleExact _) (wpAny_newObj_type (wpAny_bind (wpAny_pure (wpAny_pure ⟨_, rfl, wpAny_pure h⟩))) htake)
    | exact wpAny_bind (wpAny_bind (m := Builtin.Tuple.tupleExact _) (wpAny_newObj_type (wpAny_pure (wpAny_pure ⟨_, rfl, wpAny_pure h⟩)) htake))
    | exact wpAny_bind (wpAny_bind (m := Builtin.Tuple.tupleExact _) (wpAny_newObj_type (wpAny_pure ⟨_, rfl, wpAny_pure h⟩) htake))
section
variable {X : Cx}
/-- what x[::-1] is, by values -/
def SlRv (X : Cx) (r : V → Hp → VK → Prop) : Prop :=
  ∀ (pins : List (Addr × Obj)) (s : Shared) (σ : St) (H : Hp) (x : V) (v vk : Value) (sl : Addr) (Q : VK), Inv X pins σ H s → RelV x v → s.heap.IsSliceOf sl .none .none vk → IsPart vk (some (-1)) → r x H Q →
    ∃ T id, typeLookup (.type T) "__getitem__" = pure (some (.builtin id)) ∧ s.TypeIs v T ∧ wpAny (model X.prog X.w) X.A (getItem v (.ref sl)) (EP X pins σ Q) X.xe s
theorem pe_rev {r : V → Hp → VK → Prop} {e st : Expr} {te : TE} {tk : TO} {pos p2 : Pos} (hr : SlRv X r) (he : PE X e te) (hk : PO X (some st) tk) (hsb : ∀ o i, subscripted (.Slice none none (some st) p2) false o i = operate [o, i] (getItem o i)) :
    PE X (.Subscript e (.Slice none none (some st) p2) pos) (fun σ H Q => te σ H fun x H1 => tk σ H1 fun o H2 => o = some (-1) ∧ r x H2 Q) := by
  refine ⟨fun pins s σ H Q I h => ?_⟩
  refine Subscript_ (thn (he.run pins s σ H _ I h) fun v s1 ⟨x, H1, I1, r1, q1⟩ => ?_)
  refine wpAny_Slice ?_
  rw [evalPart_none]
  refine wpAny_pure (wpAny_pure (thn (hk.run pins s1 σ H1 _ I1 q1) fun vk s2 ⟨o, H2, I2, pk, ho, q2⟩ => ?_))
  subst ho
  have I4 : Inv X pins σ H2 { s2 with heap := s2.heap.push { cls := .type "slice", data := .fields #[.none, .none, vk] } } := I2.kept (t' := s2.toks) fun b ob q => Heap.get?_push_of_some _ q
  obtain ⟨T, id, hT, ht, hg⟩ := hr pins { s2 with heap := s2.heap.push { cls := .type "slice", data := .fields #[.none, .none, vk] } } σ H2 x v vk s2.heap.objs.size Q I4 r1 (Heap.IsSliceOf.new ..) pk q2
  show wpAny (model X.prog X.w) X.A (subscriptTail e (.Slice none none (some st) p2) v (.ref s2.heap.objs.size)) (EP X pins σ Q) X.xe { s2 with heap := s2.heap.push { cls := .type "slice", data := .fields #[.none, .none, vk] } }
  exact tail_any (ops := [v, .ref s2.heap.objs.size]) ht hT hg (hsb _ _)
def rRvL (K : PySem.W.Frag) : V → Hp → VK → Prop := fun x H Q => ∃ a xs, x = .ref a ∧ SqL K H a xs ∧ ∀ p, H p = none → Q (.ref p) (upd H p (.lst xs.reverse))
def rRvT (K : PySem.W.Frag) : V → Hp → VK → Prop := fun x H Q => ∃ a xs, x = .ref a ∧ SqT K H a xs ∧ ∀ p, H p = none → Q (.ref p) (upd H p (.tup xs.reverse))
theorem rv_list : SlRv X (rRvL X.K) := by
  intro pins s σ H x v vk sl Q I rx hs pk h
  obtain ⟨a, xs, rfl, hx, q⟩ := h
  cases rx
  obtain ⟨its, r, ht, hz⟩ := I.list hx
  have hlen := r.length
  refine ⟨"list", _, slot_list_getitem.lookup, ht.isList.typeIs, ?_⟩
  refine wpAny_getItem_list_slice ht.isList hs .none .none pk (by decide) ?_ (by rw [List.size_toArray] <;> omega)
  rw [PySem.W.krv_pick]
  refine ⟨.ref s.heap.objs.size, _, I.laid (t' := s.toks) (o := .lst xs.reverse) (fun b ob q => Heap.get?_push_of_some _ q) (Nat.le_refl _) ?_, rfl, q _ (I.hok.fresh (Nat.le_refl _))⟩
  exact ⟨by rw [List.length_reverse]; exact hz, _, 0, r.reverse, Heap.get?_push_size _ rfl⟩
theorem rv_tup : SlRv X (rRvT X.K) := by
  intro pins s σ H x v vk sl Q I rx hs pk h
  obtain ⟨a, xs, rfl, hx, q⟩ := h
  cases rx
  obtain ⟨its, r, ht, hz⟩ := I.tuple hx
  have hlen : its.toArray.size = xs.length := by rw [List.size_toArray]; exact r.length.symm
  refine ⟨"tuple", _, PyProof.Rows.slot_tuple_getitem.lookup, ht.typeIs, ?_⟩
  refine getItem_tuple_rev ht hs pk ?_ (by rw [hlen]; exact hz)
  refine ⟨.ref s.heap.objs.size, _, I.laid (t' := s.toks) (o := .tup xs.reverse) (fun b ob q => Heap.get?_push_of_some _ q) (Nat.le_refl _) ?_, rfl, q _ (I.hok.fresh (Nat.le_refl _))⟩
  exact ⟨by rw [List.length_reverse]; exact hz, _, r.reverse, IsTup.new _ _⟩
end
end L2
namespace G
open RM (bnd)
open PySem PySem.Spec PyProof.Rows L2
theorem RpAll.eraseIdx {F : Hp} : ∀ {vs : List V} {ds : List D} (j : Nat), RpAll F vs ds → RpAll F (vs.eraseIdx j) (ds.eraseIdx j)
  | _, _, _, .nil => .nil
  | _, _, 0, .cons r t => t
  | _, _, j + 1, .cons r t => .cons r (RpAll.eraseIdx j t)
def revD : D → Option D
  | .list ds => some (.list ds.reverse)
  | .tuple ds => some (.tuple ds.reverse)
  | _ => none
def negOne : Option Int → Option Unit
  | some (-1) => some ()
  | _ => none
section
variable {X : Cx} {c : Ct} {R : Type} [RM R] {Γ : List Sl} {e1 st : Expr} {pos p2 : Pos}
theorem gc_rev {w : (D → R) → R} {wk : (Option Int → R) → R} (h1 : GB X c e1 Γ w) (hk : GO X c (some st) Γ wk) (hsb : ∀ o i, subscripted (.Slice none none (some st) p2) false o i = operate [o, i] (getItem o i) := by intro _ _; with_unfolding_all rfl) :
    GC X c (.Subscript e1 (.Slice none none (some st) p2) pos) Γ (fun k => w fun x => wk fun i => bnd (negOne i) fun _ => bnd (revD x) k) := fun P b σ H F Q k E t q => by
  have key : ∀ (x : V) (d : D) (b2 : Nat) (H2 F2 : Hp), Xt c H F H2 F2 → Ev X.K c b2 σ H2 F2 Γ → Rv X.K σ Γ F2 x d → RM.tr P b2 (bnd (revD d) k) → ∃ r, SlRv X r ∧ r x H2 Q := fun x d b2 H2 F2 s2 E2 r1 t2 => by
    obtain ⟨z, hz, t3⟩ := RM.bh t2
    cases d <;> try cases hz
    case list ds =>
      obtain ⟨a, vs, rfl, ha, ra⟩ := r1.items E2
      refine ⟨_, rv_list, a, vs, rfl, .of ha, fun p hp => ?_⟩
      have s3 := Xt.upd (c := c) (o := .lst vs.reverse) hp (E2.sub.free hp)
      exact q _ _ b2 _ _ (s2.trans s3) (E2.alloc hp) (.lst upd_same (RpAll.mono s3.f (RpAll.reverse ra))) t3
    case tuple ds =>
      obtain ⟨a, vs, rfl, ha, ra⟩ := r1.itemsT E2
      refine ⟨_, rv_tup, a, vs, rfl, .of (E2.sub _ _ ha), fun p hp => ?_⟩
      have s3 := Xt.upd (c := c) (o := .tup vs.reverse) hp (E2.sub.free hp)
      exact q _ _ b2 _ _ (s2.trans s3) (E2.alloc hp) (.tup upd_same (RpAll.mono s3.f (RpAll.reverse ra))) t3
  refine (pe_rev (r := fun x H Q => ∃ r, SlRv X r ∧ r x H Q) (fun pins s σ H x v vk sl Q I rx hs pk h => let ⟨r, p, q⟩ := h; p pins s σ H x v vk sl Q I rx hs pk q) pe_w po_w hsb).w ?_
  refine h1 P b σ H F _ _ E t fun d v b' H' F' s1 E' r1 t1 => ?_
  refine hk P b' σ H' F' _ _ E' t1 fun i b2 H2 F2 s2 E2 t2 => ?_
  obtain ⟨z, hz, t3⟩ := RM.bh t2
  unfold negOne at hz
  split at hz
  · exact ⟨rfl, key v d b2 H2 F2 (s1.trans s2) E2 (r1.mono s2.f) t3⟩
  · cases hz
end
/-! ### list * int -/
def repLD : D → D → Option D
  | .list xs, .int k => if -1000000 ≤ k ∧ k ≤ 1000000 ∧ xs.length * k.toNat ≤ 16777216 then some (.list (List.replicate k.toNat xs).flatten) else none
  | _, _ => none
section
variable {X : Cx}
theorem o2_repL : Op2 X (binaryOp .Mult) repLD := fun c b σ H F Γ x y d e z Q E r1 r2 h q => by
  cases d <;> cases e <;> try cases h
  case list.int xs k =>
    change (if -1000000 ≤ k ∧ k ≤ 1000000 ∧ xs.length * k.toNat ≤ 16777216 then some (PyData.list (List.replicate k.toNat xs).flatten) else none) = some z at h
    split at h
    · rename_i h1
      cases h
      obtain ⟨a, vs, rfl, h3, q1⟩ := r1.items E
      have l1 := RpAll.length q1
      refine ⟨_, op_rep, a, k, vs, rfl, r2.intOf, h3, by omega, by omega, by rw [l1, sizeLine_eq]; exact h1.2.2, fun p hp => ?_⟩
      have s := Xt.upd (c := c) (o := .lst (List.replicate k.toNat vs).flatten) hp (E.sub.free hp)
      exact q _ _ _ s (E.alloc hp) (.lst upd_same (RpAll.mono s.f (RpAll.rep q1 _)))
    · cases h
end
/-! ### own.remove(int) -/
def isI : D → Bool
  | .int _ => true
  | _ => false
def remD (ds : List D) (d : D) : Option (List D) := if ds.all isI = true ∧ isI d = true then (PySem.SeqAt.dataPlace ds d).map fun j => ds.eraseIdx j else none
theorem isI_plain : ∀ (ds : List D), ds.all isI = true → PyData.plainAll ds = true ∧ PyData.depthAll ds = 0
  | [], _ => ⟨rfl, rfl⟩
  | d :: ds, h => by
    rw [List.all_cons, Bool.and_eq_true] at h
    obtain ⟨h1, h2⟩ := isI_plain ds h.2
    cases d <;> try exact absurd h.1 Bool.false_ne_true
    case int i => exact ⟨by simp [PyData.plainAll, PyData.plain, h1], by simp [PyData.depthAll, PyData.depth, h2]⟩
def rRem (K : PySem.W.Frag) : V → List V → Hp → VK → Prop := fun x vs H Q => ∃ (l : Addr) (xs : List V) (y : V) (ds : List D) (d : D) (j : Nat) (F : Hp), x = .ref l ∧ vs = [y] ∧ H l = some (.lst xs) ∧ L2.Same F H ∧ RpAll F xs ds ∧ Rp F y d ∧ ds.all isI = true ∧ isI d = true ∧ PySem.SeqAt.dataPlace ds d = some j ∧ Q .non (upd H l (.lst (xs.eraseIdx j)))
theorem mt_rem {X : Cx} (hu : X.A.units + 65 < cLine) : MtM X "list.remove" (rRem X.K) := by
  intro pins s σ H x vs v us Q I rx rv h
  obtain ⟨l, xs, y, ds, d, j, F, rfl, rfl, hH, m, ra, rd, h1, h2, hj, q⟩ := h
  cases rx
  obtain ⟨u, rfl, ru⟩ := rv.one
  obtain ⟨z, its, n, r, hl, e⟩ := I.lstM hH
  obtain ⟨as, hr⟩ := Dp.readsAll I ds xs its (RpAll.mono m ra).dp r
  obtain ⟨bs, hr2⟩ := Dp.reads I d y u (Rp.mono m rd).dp ru
  obtain ⟨p1, p2⟩ := isI_plain ds h1
  have hd : d.plain = true ∧ d.depth = 0 := by
    cases d <;> try exact absurd h2 Bool.false_ne_true
    case int i => exact ⟨rfl, rfl⟩
  refine SeqAt.remove_list_data (vs := its.toArray) ⟨_, e, rfl, n, rfl⟩ (by simpa using hr) hr2 p1 hd.1 (by rw [p2, hd.2]; simp; omega) hj (by rw [List.size_toArray]; omega) ?_
  refine ⟨.non, _, I.lset (its' := its.eraseIdx j) hH e ?_ (r.eraseIdx j) ?_, rfl, q⟩
  · show its.toArray.eraseIdxIfInBounds j = (its.eraseIdx j).toArray
    rw [List.eraseIdxIfInBounds_toArray]
  · have := len_erase xs j
    omega
section
variable {X : Cx} {c : Ct} {R : Type} [RM R] {M : Md R} {Γ : List Sl} {e : Expr} {pos cpos apos xpos : Pos} {rest : List Stmt} {NX BK CT : Kn R}
/-- x.remove(e) -/
theorem gs_remove {i : Nat} {x : Str} {ds : List D} {w : (D → R) → R} {k : List D → R} (hu : X.A.units + 65 < cLine) (hi : X.N[i]? = some x) (hv : Vis X.env.scope x) (g : Γ[i]? = some (.ow ds)) (h : GC X c e Γ w) (hr : ∀ es, GSs X c M rest (Γ.set i (.ow es)) NX BK CT (k es))
    (hd : (x == ("__debug__" : Str)) = false := by decide) (hcd : (x == ("__classdict__" : Str)) = false := by decide)
    (hbase : attributeBase (.Name x xpos) "remove" X.env (eval (.Name x xpos) X.env) = eval (.Name x xpos) X.env := by rfl)
    (hfew : ((backTo cpos (starEach [e] X.env)).all (fun x => !x.1) && (backToKw cpos (keywordEach [] X.env)).all (fun x => x.1.isSome)
      && decide ([e].length + ([] : List Keyword).length + (if ([] : List Keyword).isEmpty then 0 else 1) < 30)) = true := by rfl)
    (hline : (apos.endLine == cpos.line) = true := by rfl) (hs : starEach [e] X.env = [(false, eval e X.env)] := by rfl)
    (hsw : swapsWith (.Call (.Attribute (.Name x xpos) "remove" apos) [e] [] cpos) none pos.line X.env = pure false := by rfl) :
    GSs X c M (.Expr (.Call (.Attribute (.Name x xpos) "remove" apos) [e] [] cpos) pos :: rest) Γ NX BK CT (w fun d => bnd (remD ds d) k) := fun P b σ H F Dd E fx t fo => by
  refine seq_run (P := P) (b := b) (F := F) ((ps_expr (pe_bm (to := tVar i) PySem.F.plainAttrs_list PySem.F.slot_list_remove PySem.F.type_list_remove (mt_rem hu) (pe_var hi hv hd hcd) (pa_cons pe_w pa_nil hs) hbase hfew hline hs) hsw).w ?_)
  obtain ⟨a, vs, z, ha, fa, h0, hss, rr⟩ := E.sl i _ g
  refine ⟨.ref a, z, .inl ⟨rfl, vs, .of ha⟩, ?_⟩
  refine h P b σ H F _ _ E t fun d v b' H' F' x1 E' r1 t1 => ?_
  obtain ⟨es, he, t2⟩ := RM.bh t1
  unfold remD at he
  split at he
  · rename_i hlt
    obtain ⟨j, hj, rfl⟩ := Option.map_eq_some_iff.mp he
    obtain ⟨a', vs', z', ha', fa', h0', hss', rr'⟩ := E'.sl i _ g
    rw [z] at z'
    cases z'
    refine ⟨a, vs', v, ds, d, j, F', rfl, rfl, ha', E'.sub, rr', r1, hlt.1, hlt.2, hj, ?_⟩
    exact hr _ P b' σ _ F' Dd (E'.wr g z (RpAll.eraseIdx j rr')) fx t2 (fo.mono x1.f)
  · cases he
end
end G

end
section
set_option Elab.async false
set_option linter.all false
set_option maxRecDepth 100000
set_option maxHeartbeats 4000000
/-! G30: sorted of one empty tuple; min of a list of tuples of ints. -/
namespace PySem.W
open PySem PySem.Calls PyProof.Rows
section
variable {prog : Program} {w : World} {A : Around} {E : Value → Shared → Prop} {s : Shared}
theorem SortsAt.one {vs : List Value} (e : EachIs (fun v d => ∃ as, Reads s.heap v d as) vs [.tuple []]) (hu : A.units + 2 < cLine) : SortsAt prog w A s (dataKind s.heap [.tuple []]) vs := by
  have hal : AllAlike [PyData.tuple []] := by
    intro d hd d' hd'
    rw [List.mem_singleton] at hd hd'
    subst hd hd'
    simp [alike, alikeAll]
  refine ⟨fun v hv => ?_, ?_⟩
  · obtain ⟨d, hd, as, r⟩ := e.left v hv
    exact ⟨_, dataKind_some hal hd r⟩
  · refine ⟨tuples' false, ?_, fun h2 => ?_⟩
    · intro E x y a b Q ha hb hq
      obtain ⟨d, as, hd, ra, rfl⟩ := dataKind_inv ha
      obtain ⟨d', as', hd', rb, rfl⟩ := dataKind_inv hb
      rw [List.mem_singleton] at hd hd'
      subst hd hd'
      have hq' : Q (dataLt (.tuple []) (.tuple [])) s := hq
      rw [dataLt_tuple] at hq'
      cases ra with
      | @tuple l o xs n _ _ h1 h2 h3 h4 =>
        cases rb with
        | @tuple l' o' xs' n' _ _ k1 k2 k3 k4 =>
          have n1 : xs.size = 0 := by simpa using SeqAt.ReadsAll.length _ _ _ h4
          have n2 : xs'.size = 0 := by simpa using SeqAt.ReadsAll.length _ _ _ k4
          refine kat_lt h1 h3 k1 k3 (katLex_alike [] [] 0 _ _ _ _ h4 k4 (by simp [alikeAll]) (by simp [PyData.depthAll]; omega) (fun hb => absurd hb Bool.false_ne_true) (by rw [n1, n2]; rfl) hq')
    · cases e with
      | cons _ t =>
        cases t
        exact absurd h2 (by simp)
/-- sorted(xs), xs one empty tuple -/
theorem sortedG1 {R : Value → PyData → Prop} {l : Addr} {o : Obj} {vs : List Value} {n : Nat} {T : String} {Q : Value → Shared → Prop} (hT : T = "list" ∨ T = "tuple") (ho : s.heap.get? l = some o) (hc : o.cls = .type T) (hd : o.data = .seq vs.toArray n)
    (e : EachIs R vs [.tuple []]) (er : EachIs (fun v b => ∃ as, Reads s.heap v b as) vs [.tuple []]) (hu : A.units + 65 < cLine)
    (h : ∀ out, out.length = 1 → EachIs R out [.tuple []] → Q (.ref (s.heap.objs.size + 1)) { s with heap := sortedAll s.heap vs (List.toArray out) }) :
    wpAny (model prog w) A (call (.builtin "sorted") [.ref l]) Q E s := by
  have hL' : vs.length ≤ sizeLine := by rw [e.length, sizeLine_eq]; decide
  have hal : AllAlike [PyData.tuple []] := by
    intro d hd d' hd'
    rw [List.mem_singleton] at hd hd'
    subst hd hd'
    simp [alike, alikeAll]
  have er' : EachIs (fun v b => ∃ as, Reads (sortingHeap (copyHeap s.heap vs) (s.heap.objs.size + 1) vs) v b as) vs [.tuple []] := er.mono fun _ _ ⟨as, r⟩ => ⟨as, PyProof.Rows.Reads.keeps (fun _ _ => sorting_copy_old) r⟩
  have S := SortsAt.one (prog := prog) (w := w) (A := A.in1.in1) (s := { s with heap := sortingHeap (copyHeap s.heap vs) (s.heap.objs.size + 1) vs }) er' (by show A.units + 2 + 2 < _; omega)
  refine call_function_entry_kw kind_sorted plain_sorted entry_sorted (args_sorted1 _) ?_
  unfold Builtin.«sorted»
  refine wpAny_bind (m := checkCount "sorted" 1 1 _) (wpAny_pure (wpAny_bind (gather hT ho hc hd hL' (wpAny_bind (wpAny_newList ?_ hL')))))
  have hsz : ((s.heap.push (seqObj "list" #[] 0)).update s.heap.objs.size (Obj.mapSeq (· ++ vs.toArray))).objs.size = s.heap.objs.size + 1 := by rw [Heap.size_update, size_push']
  show wpAny _ _ _ _ _ { s with heap := copyHeap s.heap vs }
  rw [hsz]
  refine wpAny_bind (wpAny_holding (wpAny_call_entry_kw slot_list_sort ⟨_, copyHeap_at s.heap vs, rfl⟩ entry_list_sort ?body (args_list_sort _)))
  case body =>
    show wpAny (model prog w) A.in1.in1 (Builtin.«list.sort» ⟨[.ref (s.heap.objs.size + 1)], []⟩) _ _ _
    refine wpAny_mono (list_sort_vals (P := fun f s' => f = .done (.ret .none) ∧ Q (.ref (s.heap.objs.size + 1)) s') (s := { s with heap := copyHeap s.heap vs }) (copyHeap_at s.heap vs) S hL' ⟨rfl, h _ (by rw [sortVals_length false rfl]; exact e.length) (by have q := sortVals_data (enc := fun d => d) false e er' (by rw [List.map_id']; exact hal); simpa using q)⟩) (fun f s' hf => ?_) fun _ _ e => e
    obtain ⟨rfl, hq⟩ := hf
    exact ⟨_, rfl, wpAny_pure ⟨_, rfl, hq⟩⟩
end
end PySem.W
namespace G
open RM (bnd)
open PySem PySem.Spec PyProof.Rows L2 PySem.W
open Classical in
noncomputable def sortE : List D → Option (List D)
  | [.list ds] => if ds = [.tuple []] then some ds else sortD [.list ds]
  | ds => sortD ds
section
variable {X : Cx}
def rSort1 : List V → Hp → VK → Prop := fun xs H Q => ∃ (p : Addr) (ys : List V) (F : Hp), xs = [.ref p] ∧ H p = some (.lst ys) ∧ L2.Same F H ∧ RpAll F ys [.tuple []] ∧ ∀ (a : Addr) (zs : List V), H a = none → RpAll F zs [.tuple []] → Q (.ref a) (upd H a (.lst zs))
theorem cr_sort1 (hu : X.A.units + 65 < cLine) : CallR X (.builtin "sorted") rSort1 := by
  intro pins s σ H vs us Q I r h
  obtain ⟨p, ys, F, rfl, hs, m, ra, q⟩ := h
  rw [Vals.ref1 r]
  obtain ⟨its, rv, hl2, hz⟩ := I.list (.of hs)
  obtain ⟨o, ho, hc, n, hd⟩ := hl2.isList
  obtain ⟨e1, e2⟩ := each_of I m rv ra
  refine PySem.W.sortedG1 (.inl rfl) ho hc hd e1 e2 hu fun out h1 h2 => ?_
  obtain ⟨zs, k1, k2⟩ := each_back h2
  obtain ⟨ep, he'⟩ := PyProof.Rows.sortedAll_at s.heap its out.toArray
  refine ⟨.ref _, upd H (s.heap.objs.size + 1) (.lst zs), I.laid (t' := s.toks) (fun _ _ => PyProof.Rows.sortedAll_old) (Nat.le_succ _) ⟨?_, out, ep, k1, he'⟩, rfl, q _ _ (I.hok.fresh (Nat.le_succ _)) k2⟩
  rw [k1.length, h1, sizeLine_eq]
  decide
theorem cn_sortedE (hu : X.A.units + 65 < cLine) : CallN X (.builtin "sorted") sortE := fun c b σ H F Γ vs ds z Q E r h q => by
  unfold sortE at h
  split at h
  · split at h
    · rename_i h1
      cases h
      subst h1
      obtain ⟨v, rfl, rr⟩ := r.one
      obtain ⟨a, us, rfl, ha, ra⟩ := rr.items E
      exact ⟨_, cr_sort1 hu, a, us, F, rfl, ha, E.sub, ra, fun a zs hl rz => q a zs hl rz⟩
    · exact cn_sorted hu c b σ H F Γ vs _ z Q E r h q
  · exact cn_sorted hu c b σ H F Γ vs _ z Q E r h q
end
/-! ### min of tuples of ints -/
def tupsD : List D → Option (List (List Int))
  | [] => some []
  | .tuple ds :: r => (intsD ds).bind fun l => (tupsD r).map fun ls => l :: ls
  | _ :: _ => none
theorem tupsD_map : ∀ l : List (List Int), tupsD (l.map fun t => .tuple (t.map .int)) = some l
  | [] => rfl
  | t :: l => by
    show (intsD (t.map .int)).bind _ = _
    rw [show intsD (t.map PyData.int) = some t from intsD_map t]
    show (tupsD (l.map fun t => .tuple (t.map .int))).map _ = _
    rw [tupsD_map l]
    rfl
theorem tupsD_eq : ∀ {ds : List D} {l : List (List Int)}, tupsD ds = some l → ds = l.map fun t => .tuple (t.map .int)
  | [], l, h => by cases h; rfl
  | .tuple ds :: r, l, h => by
    obtain ⟨t, h1, h2⟩ := Option.bind_eq_some_iff.mp (show (intsD ds).bind _ = some l from h)
    obtain ⟨ls, h3, rfl⟩ := Option.map_eq_some_iff.mp h2
    rw [tupsD_eq h3, intsD_eq h1]
    rfl
  | .none :: r, l, h => by cases h
  | .bool _ :: r, l, h => by cases h
  | .int _ :: r, l, h => by cases h
  | .str _ :: r, l, h => by cases h
  | .list _ :: r, l, h => by cases h
  | .dict _ :: r, l, h => by cases h
/-- the least, the first of the equal ones -/
def minLx (t : List Int) : List (List Int) → List Int
  | [] => t
  | u :: us => minLx (if u < t then u else t) us
theorem minLx_mem : ∀ (us : List (List Int)) (t : List Int), minLx t us ∈ t :: us
  | [], t => List.mem_cons_self ..
  | u :: us, t => by
    have := minLx_mem us (if u < t then u else t)
    rw [show minLx t (u :: us) = minLx (if u < t then u else t) us from rfl]
    rcases List.mem_cons.mp this with h | h
    · rw [h]
      split <;> simp
    · exact List.mem_cons_of_mem _ (List.mem_cons_of_mem _ h)
theorem minLx_le : ∀ (us : List (List Int)) (t : List Int), ∀ u ∈ t :: us, minLx t us ≤ u
  | [], t, u, h => by
    rw [List.mem_singleton] at h
    subst h
    exact List.le_refl _
  | v :: us, t, u, h => by
    rw [show minLx t (v :: us) = minLx (if v < t then v else t) us from rfl]
    have hh := minLx_le us (if v < t then v else t)
    have h0 := hh _ (List.mem_cons_self ..)
    rcases List.mem_cons.mp h with rfl | h
    · refine List.le_trans h0 ?_
      split
      · rename_i h1
        exact List.le_of_lt h1
      · exact List.le_refl _
    · rcases List.mem_cons.mp h with rfl | h
      · refine List.le_trans h0 ?_
        split
        · exact List.le_refl _
        · rename_i h1
          exact List.not_lt.mp h1
      · exact hh u (List.mem_cons_of_mem _ h)
theorem minD_lx : ∀ (us : List (List Int)) (t : List Int), minD (.tuple (t.map .int)) (us.map fun t => .tuple (t.map .int)) = .tuple ((minLx t us).map .int)
  | [], t => rfl
  | u :: us, t => by
    have e : dataLt (PyData.tuple (u.map .int)) (.tuple (t.map .int)) = decide (u < t) := by
      rw [dataLt_tuple]
      exact PySem.W.dataLt_ints u t
    show minD (if dataLt (PyData.tuple (u.map .int)) (.tuple (t.map .int)) then PyData.tuple (u.map .int) else .tuple (t.map .int)) (us.map fun t => .tuple (t.map .int)) = _
    rw [e]
    have := minD_lx us (if u < t then u else t)
    show _ = PyData.tuple ((minLx (if u < t then u else t) us).map .int)
    rw [← this]
    congr 1
    by_cases h : u < t <;> simp [h]
def minE : List D → Option D
  | [.list ds] => match min1D [.list ds] with
    | some z => some z
    | none => match tupsD ds with
      | some (t :: ts) => some (.tuple ((minLx t ts).map .int))
      | _ => none
  | ds => min1D ds
theorem alike_tups : ∀ l : List (List Int), AlikeAll (l.map fun t => PyData.tuple (t.map PyData.int)) := by
  intro l
  refine ⟨fun x hx y hy => ?_, fun x hx e => ?_⟩
  · obtain ⟨i, _, rfl⟩ := List.mem_map.mp hx
    obtain ⟨j, _, rfl⟩ := List.mem_map.mp hy
    show alike (.tuple (i.map .int)) (.tuple (j.map .int)) = true
    simp [alike, PySem.W.alike_ints]
  · obtain ⟨i, _, rfl⟩ := List.mem_map.mp hx
    cases e
theorem depth_tups : ∀ l : List (List Int), PyData.depthAll (l.map fun t => PyData.tuple (t.map PyData.int)) ≤ 2
  | [] => by first | exact Nat.zero_le _ | decide
  | n :: ns => by
    have := depth_tups ns
    have := PySem.W.depth_ints n
    simp only [List.map_cons, PyData.depthAll, PyData.depth]
    omega
section
variable {X : Cx}
theorem cr_minL (hc : X.calm = true) (hu : X.A.units + 64 < cLine) : CallR X (.builtin "min") (fun vs H Q => ∃ (a : Addr) (ys : List V) (t : List Int) (ts : List (List Int)) (F : Hp), vs = [V.ref a] ∧ H a = some (.lst ys) ∧ L2.Same F H ∧ RpAll F ys ((t :: ts).map fun (t : List Int) => PyData.tuple (t.map PyData.int)) ∧ ∀ x, Rp F x (.tuple ((minLx t ts).map .int)) → Q x H) := by
  intro pins s σ H vs us Q I r h
  obtain ⟨a, ys, t, ts, F, rfl, hs, m, ra, q⟩ := h
  obtain ⟨its, rv, p, hz⟩ := I.list (.of hs)
  rw [Vals.ref1 r]
  obtain ⟨as, hr⟩ := Dp.readsAll I _ ys its (RpAll.mono m ra).dp rv
  have hd : X.A.units + 1 + PyData.depthAll ((t :: ts).map fun (t : List Int) => PyData.tuple (t.map PyData.int)) < cLine := by
    have := depth_tups (t :: ts)
    omega
  refine min_list_data (I.ok.hd hc) p.isList (x := .tuple (t.map .int)) (xs := ts.map fun (t : List Int) => PyData.tuple (t.map PyData.int)) (by simpa using hr) (alike_tups (t :: ts)) hd fun i v h' tk bs hi rd hk => ?_
  rw [minD_lx] at rd
  have hi2 : its[i]? = some v := by simpa using hi
  obtain ⟨hil, _⟩ := List.getElem?_eq_some_iff.mp hi2
  have hly : i < ys.length := by rw [rv.length]; exact hil
  obtain ⟨u, hu1, ru⟩ := rv.get (List.getElem?_eq_getElem hly)
  rw [hi2] at hu1
  cases hu1
  obtain ⟨d, hd1, rpd⟩ := RpAll.getV ra (List.getElem?_eq_getElem hly)
  obtain ⟨cs, rdd⟩ := Dp.reads I d _ v (Rp.mono m rpd).dp ru
  have e := (PySem.Reads.unique (PyProof.Rows.Reads.keeps hk rdd) _ _ rd).1
  subst e
  exact ⟨_, H, I.kept hk, ru, q _ rpd⟩
theorem cd_minE (hc : X.calm = true) (hu : X.A.units + 64 < cLine) : CallD X (.builtin "min") minE := fun c b σ H F Γ vs ds z Q E r h q => by
  unfold minE at h
  split at h
  · split at h
    · rename_i z' h1
      cases h
      exact cd_min1 hc hu c b σ H F Γ vs _ z Q E r h1 q
    · split at h
      · rename_i t ts h2
        cases h
        obtain ⟨v, rfl, rr⟩ := r.one
        obtain ⟨a, us, rfl, ha, ra⟩ := rr.items E
        rw [tupsD_eq h2] at ra
        exact ⟨_, cr_minL hc hu, a, us, t, ts, F, rfl, ha, E.sub, ra, fun x rx => q x H F (Xt.refl) E rx⟩
      · cases h
  · exact cd_min1 hc hu c b σ H F Γ vs _ z Q E r h q
end
end G

end
section
set_option Elab.async false
set_option linter.all false
set_option maxRecDepth 100000
/-! G31: what sorted and min tell of pairs and of tuples of ints. -/
namespace G
open RM (bnd)
open PySem PySem.Spec PyProof.Rows L2
theorem srt_perm (ds : List D) : (srt ds).Perm ds := List.mergeSort_perm _ _
theorem srt_map {α : Type} (f : α → D) (l : List α) : srt (l.map f) = (l.mergeSort fun a b => PySem.W.dataLe false (fun d : D => d) (f a) (f b)).map f := by
  unfold srt
  exact (List.map_mergeSort (f := f) (r := fun a b => PySem.W.dataLe false (fun d : D => d) (f a) (f b)) (s := PySem.W.dataLe false fun d : D => d) fun a _ b _ => rfl).symm
theorem sortE_of {ds : List D} (h : SortOk ds) : sortE [.list ds] = some (srt ds) := by
  have e : sortD [.list ds] = some (srt ds) := if_pos h
  unfold sortE
  by_cases c : ds = [.tuple []]
  · refine (if_pos c).trans ?_
    rw [c]
    unfold srt
    rw [List.mergeSort_singleton]
  · exact (if_neg c).trans e
theorem sortE_one : sortE [.list [.tuple []]] = some [.tuple []] := if_pos rfl
theorem sortE_ints {l : List Int} (h : l.length ≤ 16777216) : sortE [.list (l.map PyData.int)] = some ((srtI l).map PyData.int) := by
  rw [sortE_of (sortOk_ints h), srt_ints]
theorem sortE_intsT {l : List Int} (h : l.length ≤ 16777216) : sortE [.tuple (l.map PyData.int)] = some ((srtI l).map PyData.int) := by
  have e : sortE [.tuple (l.map PyData.int)] = sortD [.tuple (l.map PyData.int)] := rfl
  rw [e, sortD_intsT h]
theorem srtI_self {l : List Int} (h : l.Pairwise (· ≤ ·)) : srtI l = l := by
  unfold srtI
  exact List.mergeSort_of_pairwise (h.imp fun h => decide_eq_true h)
/-! ### pairs -/
def prI (p : Int × Int) : D := .tuple [.int p.1, .int p.2]
def prLe (p q : Int × Int) : Prop := p.1 < q.1 ∨ (p.1 = q.1 ∧ p.2 ≤ q.2)
instance (p q : Int × Int) : Decidable (prLe p q) := by unfold prLe; infer_instance
theorem sortOk_prs {l : List (Int × Int)} (h : l.length ≤ 16777216) : SortOk (l.map prI) := by
  refine ⟨PySem.W.AllAlike.of fun a b => by simp [prI, PySem.W.alike, PySem.W.alikeAll], PySem.W.Sortable.tuples fun b => ⟨_, _, rfl⟩, by rw [List.length_map]; exact h, fun d hd => ?_⟩
  obtain ⟨p, _, rfl⟩ := List.mem_map.mp hd
  simp [prI, PyData.depth, PyData.depthAll]
theorem srt_prs (l : List (Int × Int)) : srt (l.map prI) = (l.mergeSort fun p q => decide (prLe p q)).map prI := by
  rw [srt_map]
  have e : (fun a b : Int × Int => PySem.W.dataLe false (fun d : D => d) (prI a) (prI b)) = fun p q => decide (prLe p q) := by
    funext a b
    exact congrFun (congrFun (PySem.W.dataLe_ii (β := Int × Int) (·.1) (·.2)) a) b
  rw [e]
theorem prs_sorted (l : List (Int × Int)) : (l.mergeSort fun p q => decide (prLe p q)).Pairwise prLe := by
  have := List.pairwise_mergeSort (le := fun p q : Int × Int => decide (prLe p q)) (fun a b c h1 h2 => by simp only [decide_eq_true_eq] at h1 h2 ⊢; unfold prLe at *; omega) (fun a b => by simp only [Bool.or_eq_true, decide_eq_true_eq]; unfold prLe; omega) l
  exact this.imp fun h => of_decide_eq_true h
theorem srt_prs_self {l : List (Int × Int)} (h : l.Pairwise prLe) : srt (l.map prI) = l.map prI := by
  rw [srt_prs, List.mergeSort_of_pairwise (h.imp fun h => decide_eq_true h)]
/-! ### tuples -/
theorem leTup (a b : List Int) : PySem.W.dataLe false (fun d : D => d) (tupI a) (tupI b) = decide (a ≤ b) := by
  show (!PySem.W.dataLt (.tuple (b.map .int)) (.tuple (a.map .int))) = _
  rw [PySem.W.dataLt_tuple]
  show (!PySem.W.rowLt (b.map .int) (a.map .int)) = _
  rw [PySem.W.dataLt_ints]
  by_cases h : b < a
  · have h' : ¬ a ≤ b := fun r => List.not_lt.mpr r h
    simp [h, h']
  · have h' : a ≤ b := List.not_lt.mp h
    simp [h, h']
theorem sortOk_tups {l : List (List Int)} (h : l.length ≤ 16777216) (hn : ∀ t ∈ l, t ≠ []) : SortOk (l.map tupI) := by
  refine ⟨PySem.W.AllAlike.of fun a b => by simp [tupI, PySem.W.alike, PySem.W.alike_ints], .inl fun d hd => ?_, by rw [List.length_map]; exact h, fun d hd => ?_⟩
  · obtain ⟨t, ht, rfl⟩ := List.mem_map.mp hd
    cases t with
    | nil => exact absurd rfl (hn _ ht)
    | cons a t => exact ⟨_, _, rfl⟩
  · obtain ⟨p, _, rfl⟩ := List.mem_map.mp hd
    simp [tupI, PyData.depth, PySem.W.depth_ints]
theorem tups_head {l : List (List Int)} {a : List Int} (ha : a ∈ l) (hle : ∀ t ∈ l, a ≤ t) : ∃ r, srt (l.map tupI) = tupI a :: r := by
  have e : (fun a b : List Int => PySem.W.dataLe false (fun d : D => d) (tupI a) (tupI b)) = fun a b => decide (a ≤ b) := by
    funext a b
    exact leTup a b
  rw [srt_map, e]
  have hp := List.pairwise_mergeSort (le := fun p q : List Int => decide (p ≤ q)) (fun a b c h1 h2 => by simp only [decide_eq_true_eq] at h1 h2 ⊢; exact List.le_trans h1 h2) (fun a b => by simp only [Bool.or_eq_true, decide_eq_true_eq]; exact List.le_total a b) l
  have hm := List.mergeSort_perm l fun p q : List Int => decide (p ≤ q)
  cases q : l.mergeSort fun p q : List Int => decide (p ≤ q) with
  | nil =>
    rw [q] at hm
    have := hm.mem_iff.mpr ha
    cases this
  | cons b r =>
    rw [q] at hp hm
    have h1 : a ≤ b := hle b (hm.mem_iff.mp (List.mem_cons_self ..))
    have h2 : b ≤ a := by
      rcases List.mem_cons.mp (hm.mem_iff.mpr ha) with e | hr
      · rw [e]; exact List.le_refl _
      · exact of_decide_eq_true ((List.pairwise_cons.mp hp).1 a hr)
    exact ⟨r.map tupI, by rw [List.map_cons, List.le_antisymm h2 h1]⟩
theorem sortE_tups {l : List (List Int)} (h : l.length ≤ 16777216) {a : List Int} (ha : a ∈ l) (hle : ∀ t ∈ l, a ≤ t) (hn : (∀ t ∈ l, t ≠ []) ∨ l = [[]]) : ∃ r, sortE [.list (l.map tupI)] = some (tupI a :: r) := by
  rcases hn with hn | hn
  · obtain ⟨r, e⟩ := tups_head ha hle
    exact ⟨r, by rw [sortE_of (sortOk_tups h hn), e]⟩
  · subst hn
    rw [List.mem_singleton] at ha
    subst ha
    exact ⟨[], sortE_one⟩
theorem minE_tups {l : List (List Int)} {a : List Int} (ha : a ∈ l) (hle : ∀ t ∈ l, a ≤ t) : minE [.list (l.map tupI)] = some (tupI a) := by
  cases l with
  | nil => cases ha
  | cons t ts =>
    have e1 : min1D [.list ((t :: ts).map tupI)] = none := rfl
    have e2 : tupsD ((t :: ts).map tupI) = some (t :: ts) := tupsD_map (t :: ts)
    have e3 : minLx t ts = a := List.le_antisymm (minLx_le ts t a ha) (hle _ (minLx_mem ts t))
    unfold minE
    simp only [e1, e2, e3]
    rfl
/-! ### a number and a tuple -/
def lpI (t : List Int) : D := .tuple [.int t.length, tupI t]
theorem sortOk_lps {l : List (List Int)} (h : l.length ≤ 16777216) : SortOk (l.map lpI) := by
  refine ⟨PySem.W.AllAlike.of fun a b => by simp [lpI, tupI, PySem.W.alike, PySem.W.alikeAll, PySem.W.alike_ints], PySem.W.Sortable.tuples fun b => ⟨_, _, rfl⟩, by rw [List.length_map]; exact h, fun d hd => ?_⟩
  obtain ⟨p, _, rfl⟩ := List.mem_map.mp hd
  simp [lpI, tupI, PyData.depth, PyData.depthAll, PySem.W.depth_ints]
theorem sortE_lps {l : List (List Int)} (h : l.length ≤ 16777216) : ∃ l' : List (List Int), l'.Perm l ∧ sortE [.list (l.map lpI)] = some (l'.map lpI) := by
  refine ⟨l.mergeSort fun a b => PySem.W.dataLe false (fun d : D => d) (lpI a) (lpI b), List.mergeSort_perm _ _, ?_⟩
  rw [sortE_of (sortOk_lps h), srt_map]
end G

end
section
set_option Elab.async false
set_option linter.all false
set_option maxRecDepth 100000
/-! printed by gen.py: mirrors of the law's defs. -/
namespace G
open RM (bnd)
open PySem PySem.Spec PyProof.Rows L2
noncomputable section
def m_is_integer (a_value : D) : Option D :=
  (andV (fun k => bnd (isiD "int" a_value) fun t3 => k t3) (fun k => bnd (isiD "bool" a_value) fun t2 => bnd (truD t2) fun b1 => k (.bool (!b1)))) fun t4 => some t4
def m_is_integer_g : List Ar → Option D
  | [.d a_value] => m_is_integer a_value
  | _ => stuck
def m_check_boats_c1  (x9 : D) : Option (Option D) :=
  if true = true then bnd (m_is_integer x9) fun t10 => some (some t10) else some none
def m_check_boats_c2  (x19 : D) : Option (Option D) :=
  if true = true then chV (fun k => k (.int 0)) (fun k => k x19) leD (fun k => k (.int 1000)) leD fun t20 => some (some t20) else some none
def m_check_boats_l1  (s5 : Unit) (x8 : D) (kc6 kb7 : Unit → Option D) : Option D :=
  (orW (fun k => bnd (isiD "tuple" x8) fun t18 => bnd (truD t18) fun b17 => k (!b17)) (orW (fun k => bnd (lenD [x8]) fun t16 => bnd (neD t16 (.int 3)) fun b15 => k b15) (fun k => bnd (seqD x8) fun ds14 => bnd (lcP nameδ m_check_boats_c1 ds14) fun l13 => bnd (allD [(.list l13)]) fun t12 => bnd (truD t12) fun b11 => k (!b11)))) fun b28 => if b28 = true then stuck else (orW (fun k => bnd (seqD x8) fun ds26 => bnd (lcP nameδ m_check_boats_c2 ds26) fun l25 => bnd (allD [(.list l25)]) fun t24 => bnd (truD t24) fun b23 => k (!b23)) (fun k => bnd (ixD x8 (.int 1)) fun t22 => bnd (ltD t22 (.int 1)) fun b21 => k b21)) fun b27 => if b27 = true then stuck else kc6 ()
def m_check_boats (a_boats : D) : Option D :=
  (orW (fun k => bnd (isiD "tuple" a_boats) fun t4 => bnd (truD t4) fun b3 => k (!b3)) (fun k => bnd (lenD [a_boats]) fun t2 => bnd (gtD t2 (.int 40)) fun b1 => k b1)) fun b30 => if b30 = true then stuck else bnd (seqD a_boats) fun ds29 => forD nameδ m_check_boats_l1 ds29 () fun s5 => some .none
def m_check_boats_g : List Ar → Option D
  | [.d a_boats] => m_check_boats a_boats
  | _ => stuck
def m_check_order_c1  (x1 : D) : Option (Option D) :=
  if true = true then bnd (m_is_integer x1) fun t2 => some (some t2) else some none
def m_check_order (a_boats a_order : D) : Option D :=
  (orW (fun k => bnd (isiD "tuple" a_order) fun t8 => bnd (truD t8) fun b7 => k (!b7)) (fun k => bnd (seqD a_order) fun ds6 => bnd (lcP nameδ m_check_order_c1 ds6) fun l5 => bnd (allD [(.list l5)]) fun t4 => bnd (truD t4) fun b3 => k (!b3))) fun b13 => if b13 = true then stuck else bnd (sortE [a_order]) fun l10 => bnd (lenD [a_boats]) fun t12 => bnd (rngL1 [t12]) fun t11 => bnd (neD (.list l10) (.list t11)) fun b9 => if b9 = true then stuck else some .none
def m_check_order_g : List Ar → Option D
  | [.d a_boats, .d a_order] => m_check_order a_boats a_order
  | _ => stuck
def m_ends_in_l1 (a_boats : D) (s3 : D × List D) (x6 : D) (kc4 kb5 : D × List D → Option (List D)) : Option (List D) :=
  bnd (ixD a_boats x6) fun t12 => bnd ((tupδ (consδ nameδ (consδ nameδ (consδ nameδ nilδ)))) t12) fun x7 => bnd (max2D [s3.1, x7.1]) fun t11 => bnd (addD t11 x7.2.1) fun t10 => bnd (appD s3.2 t10) fun l9 => kc4 (t10, l9)
def m_ends_in (a_boats a_order : D) : Option (List D) :=
  bnd (szD []) fun _ => bnd (seqD a_order) fun ds13 => forD nameδ (m_ends_in_l1 a_boats) ds13 ((.int 0), []) fun s3 => some s3.2
def m_ends_in_g : List Ar → Option (List D)
  | [.d a_boats, .d a_order] => m_ends_in a_boats a_order
  | _ => stuck
def m_judge_order_l1 (a_boats : D) (s2 : Unit) (x5 : (D × (D × Unit))) (kc3 kb4 : Unit → Option D) : Option D :=
  bnd (ixD a_boats x5.1) fun t11 => bnd (ixD t11 (.int 2)) fun t10 => bnd (gtD x5.2.1 t10) fun b9 => if b9 = true then bnd (ixD a_boats x5.1) fun t8 => bnd (ixD t8 (.int 2)) fun t7 => bnd (subD x5.2.1 t7) fun t6 => bnd (szD [(.str "late"), x5.1, t6]) fun _ => some (.tuple [(.str "late"), x5.1, t6]) else kc3 ()
def m_judge_order (a_boats a_order : D) : Option D :=
  bnd (m_check_boats a_boats) fun t19 => bnd (m_check_order a_boats a_order) fun t18 => bnd (m_ends_in a_boats a_order) fun t17 => bnd (zipD [a_order, (.list t17)]) fun ds16 => forD (tupδ (consδ nameδ (consδ nameδ nilδ))) (m_judge_order_l1 a_boats) ds16 () fun s2 => ifV (fun k => bnd (truD (.list t17)) fun b12 => k b12) (fun k => bnd (negD (.int 1)) fun t14 => bnd (ixD (.list t17) t14) fun t13 => k t13) (fun k => k (.int 0)) fun t15 => bnd (szD [(.str "home"), t15]) fun _ => some (.tuple [(.str "home"), t15])
def m_judge_order_g : List Ar → Option D
  | [.d a_boats, .d a_order] => m_judge_order a_boats a_order
  | _ => stuck
def m_fewest_late_c1  (x1 : (D × (D × (D × Unit)))) : Option (Option D) :=
  bnd (truD x1.1) fun b2 => if b2 = true then some (some (.int 1)) else some none
def m_fewest_late_c2  (x6 : (D × (D × Unit))) : Option (Option D) :=
  if true = true then bnd (ixD x6.2.1 (.int 2)) fun t7 => bnd (szD [t7, x6.1]) fun _ => some (some (.tuple [t7, x6.1])) else some none
def m_fewest_late_c3 (a_boats : D) (x16 : D) : Option (Option D) :=
  if true = true then bnd (ixD a_boats x16) fun t19 => bnd (ixD t19 (.int 1)) fun t18 => bnd (negD t18) fun t17 => bnd (szD [t17, x16]) fun _ => some (some (.tuple [t17, x16])) else some none
def m_fewest_late_j2 (kc9 : (List D × List D × D → Option D)) (s14 : List D × List D × D) : Option D :=
  kc9 (s14.1, s14.2.1, s14.2.2)
def m_fewest_late_l1 (a_boats : D) (s8 : List D × List D × D) (x11 : (D × (D × Unit))) (kc9 kb10 : List D × List D × D → Option D) : Option D :=
  bnd (appD s8.1 x11.2.1) fun l12 => bnd (ixD a_boats x11.2.1) fun t33 => bnd (ixD t33 (.int 1)) fun t32 => bnd (augD (fun i j => i + j) s8.2.2 t32) fun whole13 => bnd (gtD whole13 x11.1) fun b31 => if b31 = true then bnd (seqD (.list l12)) fun ds30 => bnd (lcP nameδ (m_fewest_late_c3 a_boats) ds30) fun l29 => bnd (sortE [(.list l29)]) fun l28 => bnd (ixD (.list l28) (.int 0)) fun t27 => bnd (ixD t27 (.int 1)) fun t26 => bnd (remD l12 t26) fun l21 => bnd (appD s8.2.1 t26) fun l22 => bnd (ixD a_boats t26) fun t25 => bnd (ixD t25 (.int 1)) fun t24 => bnd (augD (fun i j => i - j) whole13 t24) fun whole23 => (m_fewest_late_j2 kc9) (l21, l22, whole23) else (m_fewest_late_j2 kc9) (l12, s8.2.1, whole13)
def m_fewest_late (a_boats : D) : Option D :=
  bnd (m_check_boats a_boats) fun t43 => bnd (seqD a_boats) fun ds42 => bnd (lcP (tupδ (consδ nameδ (consδ nameδ (consδ nameδ nilδ)))) m_fewest_late_c1 ds42) fun l41 => bnd (truD (.list l41)) fun b40 => if b40 = true then stuck else bnd (szD []) fun _ => bnd (szD []) fun _ => bnd (enumD [a_boats]) fun ds39 => bnd (lcP (tupδ (consδ nameδ (consδ nameδ nilδ))) m_fewest_late_c2 ds39) fun l38 => bnd (sortE [(.list l38)]) fun l37 => bnd (seqD (.list l37)) fun ds36 => forD (tupδ (consδ nameδ (consδ nameδ nilδ))) (m_fewest_late_l1 a_boats) ds36 ([], [], (.int 0)) fun s8 => bnd (sortE [(.list s8.2.1)]) fun l35 => bnd (tupleD [(.list l35)]) fun t34 => some t34
def m_fewest_late_g : List Ar → Option D
  | [.d a_boats] => m_fewest_late a_boats
  | _ => stuck
def m_accept_left_c1 (a_boats : D) (x1 : D) : Option (Option D) :=
  if true = true then (andV (fun k => bnd (m_is_integer x1) fun t4 => k t4) (fun k => chV (fun k => k (.int 0)) (fun k => k x1) leD (fun k => bnd (lenD [a_boats]) fun t2 => k t2) ltD fun t3 => k t3)) fun t5 => some (some t5) else some none
def m_accept_left_c2 (a_lost : D) (x12 : D) : Option (Option D) :=
  bnd (ixD a_lost x12) fun t14 => bnd (addD x12 (.int 1)) fun t16 => bnd (ixD a_lost t16) fun t15 => bnd (geD t14 t15) fun b13 => if b13 = true then some (some (.int 1)) else some none
def m_accept_left_c3  (x24 : (D × (D × Unit))) : Option (Option D) :=
  if true = true then bnd (ixD x24.2.1 (.int 2)) fun t25 => bnd (szD [t25, x24.1]) fun _ => some (some (.tuple [t25, x24.1])) else some none
def m_accept_left_c4 (a_lost : D) (x26 : (D × (D × Unit))) : Option (Option D) :=
  bnd (notInD x26.2.1 a_lost) fun b27 => if b27 = true then some (some x26.2.1) else some none
def m_accept_left_c5 (a_boats : D) (x29 : (D × (D × Unit))) : Option (Option D) :=
  bnd (ixD a_boats x29.1) fun t32 => bnd (ixD t32 (.int 2)) fun t31 => bnd (gtD x29.2.1 t31) fun b30 => if b30 = true then some (some (.int 1)) else some none
def m_accept_left (a_boats a_lost a_many : D) : Option (Option D) :=
  bnd (m_check_boats a_boats) fun t46 => (orW (fun k => bnd (isiD "tuple" a_lost) fun t11 => bnd (truD t11) fun b10 => k (!b10)) (fun k => bnd (seqD a_lost) fun ds9 => bnd (lcP nameδ (m_accept_left_c1 a_boats) ds9) fun l8 => bnd (allD [(.list l8)]) fun t7 => bnd (truD t7) fun b6 => k (!b6))) fun b45 => if b45 = true then some none else (orW (fun k => bnd (lenD [a_lost]) fun t23 => bnd (subD t23 (.int 1)) fun t22 => bnd (rng1 [t22]) fun ds21 => bnd (lcP nameδ (m_accept_left_c2 a_lost) ds21) fun l20 => bnd (truD (.list l20)) fun b19 => k b19) (fun k => bnd (m_is_integer a_many) fun t18 => bnd (truD t18) fun b17 => k (!b17))) fun b44 => if b44 = true then some none else bnd (enumD [a_boats]) fun ds43 => bnd (lcP (tupδ (consδ nameδ (consδ nameδ nilδ))) m_accept_left_c3 ds43) fun l42 => bnd (sortE [(.list l42)]) fun l41 => bnd (seqD (.list l41)) fun ds40 => bnd (lcP (tupδ (consδ nameδ (consδ nameδ nilδ))) (m_accept_left_c4 a_lost) ds40) fun l39 => bnd (m_ends_in a_boats (.list l39)) fun t38 => bnd (zipD [(.list l39), (.list t38)]) fun ds37 => bnd (lcP (tupδ (consδ nameδ (consδ nameδ nilδ))) (m_accept_left_c5 a_boats) ds37) fun l36 => bnd (truD (.list l36)) fun b35 => if b35 = true then some none else bnd (lenD [a_lost]) fun t34 => bnd (gtD t34 a_many) fun b33 => if b33 = true then some none else some (some .none)
def m_accept_left_g : List Ar → Option (Option D)
  | [.d a_boats, .d a_lost, .d a_many] => m_accept_left a_boats a_lost a_many
  | _ => stuck
def m_least_lateness_c1  (x1 : (D × (D × (D × Unit)))) : Option (Option D) :=
  bnd (truD x1.1) fun b2 => if b2 = true then some (some (.int 1)) else some none
def m_least_lateness_c2  (x3 : (D × (D × Unit))) : Option (Option D) :=
  if true = true then bnd (ixD x3.2.1 (.int 2)) fun t4 => bnd (szD [t4, x3.1]) fun _ => some (some (.tuple [t4, x3.1])) else some none
def m_least_lateness_c3  (x5 : (D × (D × Unit))) : Option (Option D) :=
  if true = true then some (some x5.2.1) else some none
def m_least_lateness_c4 (a_boats : D) (x7 : (D × (D × Unit))) : Option (Option D) :=
  if true = true then bnd (ixD a_boats x7.1) fun t10 => bnd (ixD t10 (.int 2)) fun t9 => bnd (subD x7.2.1 t9) fun t8 => some (some t8) else some none
def m_least_lateness (a_boats : D) : Option D :=
  bnd (m_check_boats a_boats) fun t26 => bnd (seqD a_boats) fun ds25 => bnd (lcP (tupδ (consδ nameδ (consδ nameδ (consδ nameδ nilδ)))) m_least_lateness_c1 ds25) fun l24 => bnd (truD (.list l24)) fun b23 => if b23 = true then stuck else bnd (enumD [a_boats]) fun ds22 => bnd (lcP (tupδ (consδ nameδ (consδ nameδ nilδ))) m_least_lateness_c2 ds22) fun l21 => bnd (sortE [(.list l21)]) fun l20 => bnd (seqD (.list l20)) fun ds19 => bnd (lcP (tupδ (consδ nameδ (consδ nameδ nilδ))) m_least_lateness_c3 ds19) fun l18 => bnd (m_ends_in a_boats (.list l18)) fun t17 => bnd (zipD [(.list l18), (.list t17)]) fun ds16 => bnd (lcP (tupδ (consδ nameδ (consδ nameδ nilδ))) (m_least_lateness_c4 a_boats) ds16) fun l15 => bnd (szD [(.int 0)]) fun _ => bnd (catD (.list l15) (.list [(.int 0)])) fun t13 => bnd (max1D [t13]) fun t12 => bnd (tupleD [(.list l18)]) fun t14 => bnd (szD [t12, t14]) fun _ => some (.tuple [t12, t14])
def m_least_lateness_g : List Ar → Option D
  | [.d a_boats] => m_least_lateness a_boats
  | _ => stuck
def m_check_lamps_c1  (x13 : D) : Option (Option D) :=
  if true = true then (andV (fun k => bnd (m_is_integer x13) fun t15 => k t15) (fun k => chV (fun k => k (.int 0)) (fun k => k x13) leD (fun k => k (.int 1000)) leD fun t14 => k t14)) fun t16 => some (some t16) else some none
def m_check_lamps_l1  (s5 : Unit) (x8 : D) (kc6 kb7 : Unit → Option D) : Option D :=
  (orW (fun k => bnd (isiD "tuple" x8) fun t12 => bnd (truD t12) fun b11 => k (!b11)) (fun k => bnd (lenD [x8]) fun t10 => bnd (neD t10 (.int 2)) fun b9 => k b9)) fun b21 => if b21 = true then stuck else bnd (seqD x8) fun ds20 => bnd (lcP nameδ m_check_lamps_c1 ds20) fun l19 => bnd (allD [(.list l19)]) fun t18 => bnd (truD t18) fun b17 => if (!b17) = true then stuck else kc6 ()
def m_check_lamps (a_lamps : D) : Option D :=
  (orW (fun k => bnd (isiD "tuple" a_lamps) fun t4 => bnd (truD t4) fun b3 => k (!b3)) (fun k => chT (fun k => k (.int 1)) (fun k => bnd (lenD [a_lamps]) fun t1 => k t1) leD (fun k => k (.int 30)) leD fun b2 => k (!b2))) fun b23 => if b23 = true then stuck else bnd (seqD a_lamps) fun ds22 => forD nameδ m_check_lamps_l1 ds22 () fun s5 => some .none
def m_check_lamps_g : List Ar → Option D
  | [.d a_lamps] => m_check_lamps a_lamps
  | _ => stuck
def m_check_oil (a_oil : D) : Option D :=
  (orW (fun k => bnd (m_is_integer a_oil) fun t3 => bnd (truD t3) fun b2 => k (!b2)) (fun k => chT (fun k => k (.int 0)) (fun k => k a_oil) leD (fun k => k (.int 1000)) leD fun b1 => k (!b1))) fun b4 => if b4 = true then stuck else some .none
def m_check_oil_g : List Ar → Option D
  | [.d a_oil] => m_check_oil a_oil
  | _ => stuck
def m_best_lamps_c1 (x5 : (D × (D × Unit))) (ahead6 : D) (x8 : D) : Option (Option D) :=
  if true = true then bnd (ixD ahead6 x8) fun t14 => ifV (fun k => bnd (geD x8 x5.2.1) fun b9 => k b9) (fun k => bnd (subD x8 x5.2.1) fun t12 => bnd (ixD ahead6 t12) fun t11 => bnd (addD t11 x5.1) fun t10 => k t10) (fun k => k (.int 0)) fun t15 => bnd (max2D [t14, t15]) fun t13 => some (some t13) else some none
def m_best_lamps_j3 (kc25 : (List D × D → Option D)) (s37 : List D × D) : Option D :=
  kc25 (s37.1, s37.2)
def m_best_lamps_l2 (rows21 : D) (s24 : List D × D) (x27 : (D × ((D × (D × Unit)) × Unit))) (kc25 kb26 : List D × D → Option D) : Option D :=
  bnd (ixD rows21 x27.1) fun t44 => bnd (ixD t44 s24.2) fun t43 => bnd (eqD t43 (.int 0)) fun b42 => if b42 = true then kb26 (s24.1, s24.2) else (andW (fun k => bnd (geD s24.2 x27.2.1.2.1) fun b36 => k b36) (fun k => bnd (addD x27.1 (.int 1)) fun t32 => bnd (ixD rows21 t32) fun t31 => bnd (subD s24.2 x27.2.1.2.1) fun t33 => bnd (ixD t31 t33) fun t30 => bnd (addD t30 x27.2.1.1) fun t29 => bnd (ixD rows21 x27.1) fun t35 => bnd (ixD t35 s24.2) fun t34 => bnd (eqD t29 t34) fun b28 => k b28)) fun b41 => if b41 = true then bnd (appD s24.1 x27.1) fun l39 => bnd (augD (fun i j => i - j) s24.2 x27.2.1.2.1) fun left40 => (m_best_lamps_j3 kc25) (l39, left40) else (m_best_lamps_j3 kc25) (s24.1, s24.2)
def m_best_lamps_l1 (a_oil : D) (s2 : List D) (x5 : (D × (D × Unit))) (kc3 kb4 : List D → Option D) : Option D :=
  bnd (negD (.int 1)) fun t20 => bnd (ixD (.list s2) t20) fun t19 => bnd (addD a_oil (.int 1)) fun t18 => bnd (rng1 [t18]) fun ds17 => bnd (lcP nameδ (m_best_lamps_c1 x5 t19) ds17) fun l16 => bnd (appD s2 (.list l16)) fun l7 => kc3 l7
def m_best_lamps (a_lamps a_oil : D) : Option D :=
  bnd (m_check_lamps a_lamps) fun t59 => bnd (m_check_oil a_oil) fun t58 => bnd (szD [(.int 0)]) fun _ => bnd (addD a_oil (.int 1)) fun t57 => bnd (repLD (.list [(.int 0)]) t57) fun t56 => bnd (szD [t56]) fun _ => bnd (negD (.int 1)) fun t55 => bnd (intD t55) fun o54 => bnd (negOne (some o54)) fun _ => bnd (revD a_lamps) fun t53 => bnd (seqD t53) fun ds52 => forD (tupδ (consδ nameδ (consδ nameδ nilδ))) (m_best_lamps_l1 a_oil) ds52 [t56] fun s2 => bnd (negD (.int 1)) fun t51 => bnd (intD t51) fun o50 => bnd (negOne (some o50)) fun _ => bnd (revD (.list s2)) fun t49 => bnd (szD []) fun _ => bnd (enumD [a_lamps]) fun ds48 => forD (tupδ (consδ nameδ (consδ (tupδ (consδ nameδ (consδ nameδ nilδ))) nilδ))) (m_best_lamps_l2 t49) ds48 ([], a_oil) fun s24 => bnd (ixD t49 (.int 0)) fun t46 => bnd (ixD t46 a_oil) fun t45 => bnd (tupleD [(.list s24.1)]) fun t47 => bnd (szD [t45, t47]) fun _ => some (.tuple [t45, t47])
def m_best_lamps_g : List Ar → Option D
  | [.d a_lamps, .d a_oil] => m_best_lamps a_lamps a_oil
  | _ => stuck
def m_accept_lamps_c1 (a_lamps : D) (x1 : D) : Option (Option D) :=
  if true = true then (andV (fun k => bnd (m_is_integer x1) fun t4 => k t4) (fun k => chV (fun k => k (.int 0)) (fun k => k x1) leD (fun k => bnd (lenD [a_lamps]) fun t2 => k t2) ltD fun t3 => k t3)) fun t5 => some (some t5) else some none
def m_accept_lamps_c2 (a_numbers : D) (x12 : D) : Option (Option D) :=
  bnd (ixD a_numbers x12) fun t14 => bnd (addD x12 (.int 1)) fun t16 => bnd (ixD a_numbers t16) fun t15 => bnd (geD t14 t15) fun b13 => if b13 = true then some (some (.int 1)) else some none
def m_accept_lamps_c3 (a_lamps : D) (x24 : D) : Option (Option D) :=
  if true = true then bnd (ixD a_lamps x24) fun t26 => bnd (ixD t26 (.int 1)) fun t25 => some (some t25) else some none
def m_accept_lamps_c4 (a_lamps : D) (x27 : D) : Option (Option D) :=
  if true = true then bnd (ixD a_lamps x27) fun t29 => bnd (ixD t29 (.int 0)) fun t28 => some (some t28) else some none
def m_accept_lamps (a_lamps a_oil a_numbers a_worth : D) : Option (Option D) :=
  bnd (m_check_lamps a_lamps) fun t41 => bnd (m_check_oil a_oil) fun t40 => (orW (fun k => bnd (isiD "tuple" a_numbers) fun t11 => bnd (truD t11) fun b10 => k (!b10)) (fun k => bnd (seqD a_numbers) fun ds9 => bnd (lcP nameδ (m_accept_lamps_c1 a_lamps) ds9) fun l8 => bnd (allD [(.list l8)]) fun t7 => bnd (truD t7) fun b6 => k (!b6))) fun b39 => if b39 = true then some none else (orW (fun k => bnd (lenD [a_numbers]) fun t23 => bnd (subD t23 (.int 1)) fun t22 => bnd (rng1 [t22]) fun ds21 => bnd (lcP nameδ (m_accept_lamps_c2 a_numbers) ds21) fun l20 => bnd (truD (.list l20)) fun b19 => k b19) (fun k => bnd (m_is_integer a_worth) fun t18 => bnd (truD t18) fun b17 => k (!b17))) fun b38 => if b38 = true then some none else bnd (seqD a_numbers) fun ds37 => bnd (lcP nameδ (m_accept_lamps_c3 a_lamps) ds37) fun l36 => bnd (sumD [(.list l36)]) fun t35 => bnd (gtD t35 a_oil) fun b34 => if b34 = true then some none else bnd (seqD a_numbers) fun ds33 => bnd (lcP nameδ (m_accept_lamps_c4 a_lamps) ds33) fun l32 => bnd (sumD [(.list l32)]) fun t31 => bnd (ltD t31 a_worth) fun b30 => if b30 = true then some none else some (some .none)
def m_accept_lamps_g : List Ar → Option (Option D)
  | [.d a_lamps, .d a_oil, .d a_numbers, .d a_worth] => m_accept_lamps a_lamps a_oil a_numbers a_worth
  | _ => stuck
def m_accept_price_c1  (x1 : D) : Option (Option D) :=
  if true = true then bnd (m_is_integer x1) fun t2 => some (some t2) else some none
def m_accept_price_c2 (a_up : D) (a_down : D) (x9 : (D × (D × Unit))) : Option (Option D) :=
  if true = true then bnd (mulD x9.1 a_down) fun t12 => bnd (mulD x9.2.1 a_up) fun t13 => bnd (subD t12 t13) fun t11 => bnd (max2D [(.int 0), t11]) fun t10 => some (some t10) else some none
def m_accept_price (a_lamps a_oil a_up a_down a_worth : D) : Option (Option D) :=
  bnd (m_check_lamps a_lamps) fun t24 => bnd (m_check_oil a_oil) fun t23 => (orW (fun k => bnd (szD [a_up, a_down, a_worth]) fun _ => bnd (seqD (.tuple [a_up, a_down, a_worth])) fun ds8 => bnd (lcP nameδ m_accept_price_c1 ds8) fun l7 => bnd (allD [(.list l7)]) fun t6 => bnd (truD t6) fun b5 => k (!b5)) (orW (fun k => bnd (ltD a_up (.int 0)) fun b4 => k b4) (fun k => bnd (ltD a_down (.int 1)) fun b3 => k b3))) fun b22 => if b22 = true then some none else bnd (mulD a_oil a_up) fun t16 => bnd (seqD a_lamps) fun ds19 => bnd (lcP (tupδ (consδ nameδ (consδ nameδ nilδ))) (m_accept_price_c2 a_up a_down) ds19) fun l18 => bnd (sumD [(.list l18)]) fun t17 => bnd (addD t16 t17) fun t15 => bnd (addD a_worth (.int 1)) fun t21 => bnd (mulD t21 a_down) fun t20 => bnd (geD t15 t20) fun b14 => if b14 = true then some none else some (some .none)
def m_accept_price_g : List Ar → Option (Option D)
  | [.d a_lamps, .d a_oil, .d a_up, .d a_down, .d a_worth] => m_accept_price a_lamps a_oil a_up a_down a_worth
  | _ => stuck
def m__law_pick (a_some : D) : Wp D :=
  bnd (lenD [a_some]) fun t3 => bW (drawW t3) fun t2 => bnd (ixD a_some t2) fun t1 => retW t1
def m__law_pick_g : List Ar → Wp D
  | [.st, .d a_some] => m__law_pick a_some
  | _ => stuck
def m__law_sets_c1 (x5 : D) (x6 : D) : Option (Option D) :=
  if true = true then bnd (szD [x5]) fun _ => bnd (addD x6 (.tuple [x5])) fun t7 => some (some t7) else some none
def m__law_sets_c2  (x12 : D) : Option (Option D) :=
  if true = true then bnd (lenD [x12]) fun t13 => bnd (szD [t13, x12]) fun _ => some (some (.tuple [t13, x12])) else some none
def m__law_sets_c3  (x14 : (D × (D × Unit))) : Option (Option D) :=
  if true = true then some (some x14.2.1) else some none
def m__law_sets_l1  (s2 : D) (x5 : D) (kc3 kb4 : D → Option (List D)) : Option (List D) :=
  bnd (seqD s2) fun ds11 => bnd (lcP nameδ (m__law_sets_c1 x5) ds11) fun l10 => bnd (catD s2 (.list l10)) fun t9 => kc3 t9
def m__law_sets (a_many : D) : Option (List D) :=
  bnd (szD []) fun _ => bnd (szD [(.tuple [])]) fun _ => bnd (rng1 [a_many]) fun ds20 => forD nameδ m__law_sets_l1 ds20 (.list [(.tuple [])]) fun s2 => bnd (seqD s2) fun ds19 => bnd (lcP nameδ m__law_sets_c2 ds19) fun l18 => bnd (sortE [(.list l18)]) fun l17 => bnd (seqD (.list l17)) fun ds16 => bnd (lcP (tupδ (consδ nameδ (consδ nameδ nilδ))) m__law_sets_c3 ds16) fun l15 => some l15
def m__law_sets_g : List Ar → Option (List D)
  | [.d a_many] => m__law_sets a_many
  | _ => stuck
def m__law_kept_c1 (a_left : D) (x1 : D) : Option (Option D) :=
  bnd (notInD x1 a_left) fun b2 => if b2 = true then some (some x1) else some none
def m__law_kept (a_many a_left : D) : Option D :=
  bnd (rng1 [a_many]) fun ds5 => bnd (lcP nameδ (m__law_kept_c1 a_left) ds5) fun l4 => bnd (tupleD [(.list l4)]) fun t3 => some t3
def m__law_kept_g : List Ar → Option D
  | [.d a_many, .d a_left] => m__law_kept a_many a_left
  | _ => stuck
def m__law_boats_hold_c1 (a_storm : D) (x2 : D) : Option (Option D) :=
  if true = true then bnd (szD [(.int 0), x2, a_storm]) fun _ => some (some (.tuple [(.int 0), x2, a_storm])) else some none
def m__law_boats_hold_c2  (x3 : D) : Option (Option D) :=
  if true = true then bnd (szD [(.int 1), x3]) fun _ => some (some (.tuple [(.int 1), x3])) else some none
def m__law_boats_hold_c3 (a_longs : D) (x32 : D) : Option (Option D) :=
  if true = true then bnd (ixD a_longs x32) fun t33 => some (some t33) else some none
def m__law_boats_hold_c4 (a_longs : D) (a_storm : D) (best7 : D) (x31 : D) : Option (Option D) :=
  (andW (fun k => bnd (lenD [x31]) fun t39 => bnd (ixD best7 (.int 0)) fun t40 => bnd (eqD t39 t40) fun b38 => k b38) (fun k => bnd (seqD x31) fun ds37 => bnd (lcP nameδ (m__law_boats_hold_c3 a_longs) ds37) fun l36 => bnd (sumD [(.list l36)]) fun t35 => bnd (leD t35 a_storm) fun b34 => k b34)) fun b41 => if b41 = true then some (some x31) else some none
def m__law_boats_hold_c5 (a_storm : D) (x54 : D) : Option (Option D) :=
  if true = true then bnd (addD a_storm (.int 1)) fun t55 => bnd (szD [(.int 0), x54, t55]) fun _ => some (some (.tuple [(.int 0), x54, t55])) else some none
def m__law_boats_hold_l1 (a_storm : D) (many1 : D) (boats4 : D) (lamps5 : D) (s20 : Unit) (x23 : D) (kc21 kb22 : Unit → Option D) : Option D :=
  bnd (m__law_kept many1 x23) fun t30 => bnd (lenD [x23]) fun t27 => bnd (szD [boats4, x23, t27]) fun _ => bnd (takenM 3 m_accept_left_g (.list [boats4, x23, t27])) fun t26 => bnd (lenD [t30]) fun t29 => bnd (szD [lamps5, a_storm, t30, t29]) fun _ => bnd (takenM 4 m_accept_lamps_g (.list [lamps5, a_storm, t30, t29])) fun t28 => bnd (neD t26 t28) fun b25 => if b25 = true then some (.bool false) else kc21 ()
def m__law_boats_hold (a_longs a_storm : D) : Option D :=
  bnd (lenD [a_longs]) fun t90 => bnd (seqD a_longs) fun ds86 => bnd (lcP nameδ (m__law_boats_hold_c1 a_storm) ds86) fun l85 => bnd (tupleD [(.list l85)]) fun t84 => bnd (seqD a_longs) fun ds89 => bnd (lcP nameδ m__law_boats_hold_c2 ds89) fun l88 => bnd (tupleD [(.list l88)]) fun t87 => bnd (m_fewest_late t84) fun t82 => bnd (m_best_lamps t87 a_storm) fun t83 => (orW (fun k => bnd (lenD [t82]) fun t18 => bnd (subD t90 t18) fun t17 => bnd (ixD t83 (.int 0)) fun t19 => bnd (neD t17 t19) fun b16 => k b16) (orW (fun k => bnd (ixD t83 (.int 1)) fun t14 => bnd (lenD [t14]) fun t13 => bnd (ixD t83 (.int 0)) fun t15 => bnd (neD t13 t15) fun b12 => k b12) (fun k => bnd (lenD [t82]) fun t11 => bnd (m_accept_left t84 t82 t11) fun q10 => bnd q10 fun t9 => bnd (isnotD t9 .none) fun b8 => k b8))) fun b81 => if b81 = true then some (.bool false) else bnd (m__law_sets t90) fun t80 => bnd (seqD (.list t80)) fun ds79 => forD nameδ (m__law_boats_hold_l1 a_storm t90 t84 t87) ds79 () fun s20 => bnd (m__law_sets t90) fun t78 => bnd (seqD (.list t78)) fun ds77 => bnd (lcP nameδ (m__law_boats_hold_c4 a_longs a_storm t83) ds77) fun l76 => bnd (sortE [(.list l76)]) fun l75 => bnd (ixD (.list l75) (.int 0)) fun t73 => bnd (ixD t83 (.int 1)) fun t74 => bnd (neD t73 t74) fun b72 => if b72 = true then some (.bool false) else bnd (rngL1 [t90]) fun t71 => bnd (tupleD [(.list t71)]) fun t70 => (orW (fun k => bnd (m_judge_order t84 t70) fun t52 => bnd (ixD t52 (.int 0)) fun t51 => bnd (eqD t51 (.str "home")) fun b50 => bnd (szD []) fun _ => bnd (eqD t82 (.tuple [])) fun b53 => bnd (neD (.bool b50) (.bool b53)) fun b49 => k b49) (fun k => bnd (m_least_lateness t84) fun t45 => bnd (sumD [a_longs]) fun t48 => bnd (subD t48 a_storm) fun t47 => bnd (szD [(.int 0), t47]) fun _ => bnd (max1D [(.list [(.int 0), t47])]) fun t46 => bnd (szD [t46, t70]) fun _ => bnd (neD t45 (.tuple [t46, t70])) fun b44 => k b44)) fun b69 => if b69 = true then some (.bool false) else (andV (fun k => bnd (seqD a_longs) fun ds66 => bnd (lcP nameδ (m__law_boats_hold_c5 a_storm) ds66) fun l65 => bnd (tupleD [(.list l65)]) fun t64 => bnd (m_fewest_late t64) fun t63 => bnd (lenD [t63]) fun t62 => bnd (lenD [t82]) fun t67 => bnd (leD t62 t67) fun b61 => k (.bool b61)) (fun k => bnd (addD a_storm (.int 1)) fun t59 => bnd (m_best_lamps t87 t59) fun t58 => bnd (ixD t58 (.int 0)) fun t57 => bnd (ixD t83 (.int 0)) fun t60 => bnd (geD t57 t60) fun b56 => k (.bool b56))) fun t68 => some t68
def m__law_boats_hold_g : List Ar → Option D
  | [.d a_longs, .d a_storm] => m__law_boats_hold a_longs a_storm
  | _ => stuck
def m__law_lamps_hold_c1  (x1 : D) (kk : Option D → Wp D) : Wp D :=
  if true = true then bW (drawW (.int 9)) fun t2 => bW (drawW (.int 9)) fun t3 => bnd (szD [t2, t3]) fun _ => kk (some (.tuple [t2, t3])) else kk none
def m__law_lamps_hold_c2 (lamps4 : D) (x8 : D) : Option (Option D) :=
  if true = true then bnd (ixD lamps4 x8) fun t10 => bnd (ixD t10 (.int 1)) fun t9 => some (some t9) else some none
def m__law_lamps_hold_c3 (lamps4 : D) (x11 : D) : Option (Option D) :=
  if true = true then bnd (ixD lamps4 x11) fun t13 => bnd (ixD t13 (.int 0)) fun t12 => some (some t12) else some none
def m__law_lamps_hold_c4 (lamps4 : D) (oil5 : D) (x7 : D) : Option (Option D) :=
  bnd (seqD x7) fun ds17 => bnd (lcP nameδ (m__law_lamps_hold_c2 lamps4) ds17) fun l16 => bnd (sumD [(.list l16)]) fun t15 => bnd (leD t15 oil5) fun b14 => if b14 = true then bnd (seqD x7) fun ds20 => bnd (lcP nameδ (m__law_lamps_hold_c3 lamps4) ds20) fun l19 => bnd (sumD [(.list l19)]) fun t18 => bnd (szD [t18, x7]) fun _ => some (some (.tuple [t18, x7])) else some none
def m__law_lamps_hold_c5  (x22 : D) : Option (Option D) :=
  if true = true then bnd (ixD x22 (.int 0)) fun t23 => some (some t23) else some none
def m__law_lamps_hold_c6 (most24 : D) (x25 : (D × (D × Unit))) : Option (Option D) :=
  bnd (eqD x25.1 most24) fun b26 => if b26 = true then some (some x25.2.1) else some none
def m__law_lamps_hold_c7 (x35 : D) (x39 : D) (x40 : D) : Option (Option D) :=
  if true = true then bnd (ixD x40 (.int 0)) fun t44 => bnd (mulD t44 x39) fun t43 => bnd (ixD x40 (.int 1)) fun t46 => bnd (mulD t46 x35) fun t45 => bnd (subD t43 t45) fun t42 => bnd (szD [(.int 0), t42]) fun _ => bnd (max1D [(.list [(.int 0), t42])]) fun t41 => some (some t41) else some none
def m__law_lamps_hold_l2 (lamps4 : D) (oil5 : D) (most24 : D) (x35 : D) (s36 : Unit) (x39 : D) (kc37 kb38 : Unit → Wp D) : Wp D :=
  bnd (subD most24 (.int 1)) fun t58 => bnd (szD [lamps4, oil5, x35, x39, t58]) fun _ => bnd (takenM 5 m_accept_price_g (.list [lamps4, oil5, x35, x39, t58])) fun t57 => bnd (truD t57) fun b56 => if b56 = true then retW (.bool false) else bnd (mulD oil5 x35) fun t52 => bnd (seqD lamps4) fun ds55 => bnd (lcP nameδ (m__law_lamps_hold_c7 x35 x39) ds55) fun l54 => bnd (sumD [(.list l54)]) fun t53 => bnd (addD t52 t53) fun t51 => bnd (fdivD t51 x39) fun t50 => bnd (szD [lamps4, oil5, x35, x39, t50]) fun _ => bnd (takenM 5 m_accept_price_g (.list [lamps4, oil5, x35, x39, t50])) fun t49 => bnd (truD t49) fun b48 => if (!b48) = true then retW (.bool false) else kc37 ()
def m__law_lamps_hold_l1 (lamps4 : D) (oil5 : D) (most24 : D) (s32 : Unit) (x35 : D) (kc33 kb34 : Unit → Wp D) : Wp D :=
  bnd (rng2 [(.int 1), (.int 4)]) fun ds59 => forD nameδ (m__law_lamps_hold_l2 lamps4 oil5 most24 x35) ds59 () fun s36 => kc33 ()
def m__law_lamps_hold  : Wp D :=
  bW (drawW (.int 6)) fun t81 => bnd (addD (.int 1) t81) fun t80 => bnd (rng1 [t80]) fun ds79 => lcW nameδ m__law_lamps_hold_c1 ds79 fun l78 => bnd (tupleD [(.list l78)]) fun t77 => bW (drawW (.int 20)) fun t82 => bnd (m_best_lamps t77 t82) fun t76 => bnd ((tupδ (consδ nameδ (consδ nameδ nilδ))) t76) fun x6 => bnd (lenD [t77]) fun t75 => bnd (m__law_sets t75) fun t74 => bnd (seqD (.list t74)) fun ds73 => bnd (lcP nameδ (m__law_lamps_hold_c4 t77 t82) ds73) fun l72 => bnd (seqD (.list l72)) fun ds71 => bnd (lcP nameδ m__law_lamps_hold_c5 ds71) fun l70 => bnd (max1D [(.list l70)]) fun t69 => (orW (fun k => bnd (neD x6.1 t69) fun b31 => k b31) (fun k => bnd (seqD (.list l72)) fun ds30 => bnd (lcP (tupδ (consδ nameδ (consδ nameδ nilδ))) (m__law_lamps_hold_c6 t69) ds30) fun l29 => bnd (minE [(.list l29)]) fun t28 => bnd (neD x6.2.1 t28) fun b27 => k b27)) fun b68 => if b68 = true then retW (.bool false) else bnd (rng1 [(.int 4)]) fun ds67 => forD nameδ (m__law_lamps_hold_l1 t77 t82 t69) ds67 () fun s32 => (andV (fun k => bnd (m_accept_lamps t77 t82 x6.2.1 x6.1) fun q65 => bnd q65 fun t64 => bnd (isD t64 .none) fun b63 => k (.bool b63)) (fun k => bnd (addD x6.1 (.int 1)) fun t62 => bnd (szD [t77, t82, x6.2.1, t62]) fun _ => bnd (takenM 4 m_accept_lamps_g (.list [t77, t82, x6.2.1, t62])) fun t61 => bnd (truD t61) fun b60 => k (.bool (!b60)))) fun t66 => retW t66
def m__law_lamps_hold_g : List Ar → Wp D
  | [.st] => m__law_lamps_hold 
  | _ => stuck
def m_law_c1  (x5 : D) (kk : Option D → Wp D) : Wp D :=
  if true = true then bnd (szD [(.int 3), (.int 9)]) fun _ => bW (m__law_pick (.list [(.int 3), (.int 9)])) fun t8 => bW (drawW t8) fun t7 => bnd (addD (.int 1) t7) fun t6 => kk (some t6) else kk none
def m_law_l1  (s1 : Unit) (x4 : D) (kc2 kb3 : Unit → Wp D) : Wp D :=
  bW (drawW (.int 6)) fun t22 => bnd (addD (.int 1) t22) fun t21 => bnd (rng1 [t21]) fun ds20 => lcW nameδ m_law_c1 ds20 fun l19 => bnd (tupleD [(.list l19)]) fun t18 => (orW (fun k => bnd (sumD [t18]) fun t16 => bnd (addD t16 (.int 3)) fun t15 => bW (drawW t15) fun t14 => bnd (m__law_boats_hold t18 t14) fun t13 => bnd (truD t13) fun b12 => k (!b12)) (fun k => bW (m__law_lamps_hold ) fun t11 => bnd (truD t11) fun b10 => k (!b10))) fun b17 => if b17 = true then retW (.bool false) else kc2 ()
def m_law (zs : List D) : Wp D :=
  beginW zs (bnd (rng1 [(.int 4)]) fun ds23 => forD nameδ m_law_l1 ds23 () fun s1 => retW (.bool true))
end
end G

end
section
set_option Elab.async false
set_option linter.all false
set_option maxRecDepth 100000
set_option maxHeartbeats 16000000
/-! printed by gen.py: mirrors of the law's defs, and what ties them to the text. -/
namespace G
open RM (bnd)
open PySem PySem.Spec PyProof.Rows L2
def top (i : Nat) : Stmt := PySem.Challenge.pw_coneshoisted_k08_most_boats_are_best_lam.main.body.getD i (.Pass ⟨0, 0, 0, 0⟩)
/-- where the defs stand -/
structure Fs where
  (f_is_integer f_check_boats f_check_order f_ends_in f_judge_order f_fewest_late f_accept_left f_least_lateness f_check_lamps f_check_oil f_best_lamps f_accept_lamps f_accept_price f__law_pick f__law_sets f__law_kept f__law_boats_hold f__law_lamps_hold f_law f__law_draw f__law_start f__law_is_taken PE fI : Addr)
structure Fds where
  (d_is_integer d_check_boats d_check_order d_ends_in d_judge_order d_fewest_late d_accept_left d_least_lateness d_check_lamps d_check_oil d_best_lamps d_accept_lamps d_accept_price d__law_pick d__law_sets d__law_kept d__law_boats_hold d__law_lamps_hold d_law d__law_draw d__law_start d__law_is_taken : FuncData)
def N_is_integer : List Str := ["value"]
def P_is_integer : List Str := ["value"]
def N_check_boats : List Str := ["boats", "boat", "own"]
def P_check_boats : List Str := ["boats"]
def N_check_order : List Str := ["boats", "order", "at"]
def P_check_order : List Str := ["boats", "order"]
def N_ends_in : List Str := ["boats", "order", "minute", "found", "at", "there", "long", "storm"]
def P_ends_in : List Str := ["boats", "order"]
def N_judge_order : List Str := ["boats", "order", "rows", "at", "end"]
def P_judge_order : List Str := ["boats", "order"]
def N_fewest_late : List Str := ["boats", "kept", "lost", "whole", "storm", "at", "out", "there", "long", "boat", "own"]
def P_fewest_late : List Str := ["boats"]
def N_accept_left : List Str := ["boats", "lost", "many", "order", "at", "storm", "boat", "end"]
def P_accept_left : List Str := ["boats", "lost", "many"]
def N_least_lateness : List Str := ["boats", "order", "late", "there", "long", "storm", "at", "boat", "end"]
def P_least_lateness : List Str := ["boats"]
def N_check_lamps : List Str := ["lamps", "row", "own"]
def P_check_lamps : List Str := ["lamps"]
def N_check_oil : List Str := ["oil"]
def P_check_oil : List Str := ["oil"]
def N_best_lamps : List Str := ["lamps", "oil", "rows", "worth", "hour", "ahead", "found", "left", "at", "own"]
def P_best_lamps : List Str := ["lamps", "oil"]
def N_accept_lamps : List Str := ["lamps", "oil", "numbers", "worth", "at"]
def P_accept_lamps : List Str := ["lamps", "oil", "numbers", "worth"]
def N_accept_price : List Str := ["lamps", "oil", "up", "down", "worth", "own", "hour"]
def P_accept_price : List Str := ["lamps", "oil", "up", "down", "worth"]
def N__law_pick : List Str := ["state", "some"]
def P__law_pick : List Str := ["state", "some"]
def N__law_sets : List Str := ["many", "found", "own", "one", "size"]
def P__law_sets : List Str := ["many"]
def N__law_kept : List Str := ["many", "left", "k"]
def P__law_kept : List Str := ["many", "left"]
def N__law_boats_hold : List Str := ["longs", "storm", "many", "boats", "lamps", "left", "best", "own", "kept", "good", "order", "k"]
def P__law_boats_hold : List Str := ["longs", "storm"]
def N__law_lamps_hold : List Str := ["state", "lamps", "oil", "worth", "told", "worths", "most", "up", "down", "bound", "k", "own", "made"]
def P__law_lamps_hold : List Str := ["state"]
def N_law : List Str := ["script", "state", "turn", "longs", "k"]
def P_law : List Str := ["script"]
def P__law_draw : List Str := ["state", "many"]
def P__law_start : List Str := ["script"]
def P__law_is_taken : List Str := ["accept", "some"]
/-- what stands at the top -/
structure Tx (prog : Program) (K : PySem.W.Frag) (mg : Str → Option Value) (a : Fs) (d : Fds) : Prop where
  b_abs : mg "abs" = none
  b_all : mg "all" = none
  b_bool : mg "bool" = none
  b_enumerate : mg "enumerate" = none
  b_int : mg "int" = none
  b_isinstance : mg "isinstance" = none
  b_len : mg "len" = none
  b_list : mg "list" = none
  b_max : mg "max" = none
  b_min : mg "min" = none
  b_range : mg "range" = none
  b_sorted : mg "sorted" = none
  b_sum : mg "sum" = none
  b_tuple : mg "tuple" = none
  b_zip : mg "zip" = none
  c_MAX_BOATS : ∃ u, mg "MAX_BOATS" = some u ∧ RelV (.int 40) u
  c_MAX_HOURS : ∃ u, mg "MAX_HOURS" = some u ∧ RelV (.int 1000) u
  c_MAX_PLACES : ∃ u, mg "MAX_PLACES" = some u ∧ RelV (.int 30) u
  g_is_integer : mg "is_integer" = some (.ref a.f_is_integer)
  F_is_integer : Fun K "is_integer" "is_integer" (top 6) a.f_is_integer d.d_is_integer
  bi_is_integer : Binds K d.d_is_integer P_is_integer []
  g_check_boats : mg "check_boats" = some (.ref a.f_check_boats)
  F_check_boats : Fun K "check_boats" "check_boats" (top 11) a.f_check_boats d.d_check_boats
  bi_check_boats : Binds K d.d_check_boats P_check_boats []
  g_check_order : mg "check_order" = some (.ref a.f_check_order)
  F_check_order : Fun K "check_order" "check_order" (top 12) a.f_check_order d.d_check_order
  bi_check_order : Binds K d.d_check_order P_check_order []
  g_ends_in : mg "ends_in" = some (.ref a.f_ends_in)
  F_ends_in : Fun K "ends_in" "ends_in" (top 13) a.f_ends_in d.d_ends_in
  bi_ends_in : Binds K d.d_ends_in P_ends_in []
  g_judge_order : mg "judge_order" = some (.ref a.f_judge_order)
  F_judge_order : Fun K "judge_order" "judge_order" (top 14) a.f_judge_order d.d_judge_order
  bi_judge_order : Binds K d.d_judge_order P_judge_order []
  g_fewest_late : mg "fewest_late" = some (.ref a.f_fewest_late)
  F_fewest_late : Fun K "fewest_late" "fewest_late" (top 15) a.f_fewest_late d.d_fewest_late
  bi_fewest_late : Binds K d.d_fewest_late P_fewest_late []
  g_accept_left : mg "accept_left" = some (.ref a.f_accept_left)
  F_accept_left : Fun K "accept_left" "accept_left" (top 16) a.f_accept_left d.d_accept_left
  bi_accept_left : Binds K d.d_accept_left P_accept_left []
  g_least_lateness : mg "least_lateness" = some (.ref a.f_least_lateness)
  F_least_lateness : Fun K "least_lateness" "least_lateness" (top 17) a.f_least_lateness d.d_least_lateness
  bi_least_lateness : Binds K d.d_least_lateness P_least_lateness []
  g_check_lamps : mg "check_lamps" = some (.ref a.f_check_lamps)
  F_check_lamps : Fun K "check_lamps" "check_lamps" (top 19) a.f_check_lamps d.d_check_lamps
  bi_check_lamps : Binds K d.d_check_lamps P_check_lamps []
  g_check_oil : mg "check_oil" = some (.ref a.f_check_oil)
  F_check_oil : Fun K "check_oil" "check_oil" (top 21) a.f_check_oil d.d_check_oil
  bi_check_oil : Binds K d.d_check_oil P_check_oil []
  g_best_lamps : mg "best_lamps" = some (.ref a.f_best_lamps)
  F_best_lamps : Fun K "best_lamps" "best_lamps" (top 20) a.f_best_lamps d.d_best_lamps
  bi_best_lamps : Binds K d.d_best_lamps P_best_lamps []
  g_accept_lamps : mg "accept_lamps" = some (.ref a.f_accept_lamps)
  F_accept_lamps : Fun K "accept_lamps" "accept_lamps" (top 22) a.f_accept_lamps d.d_accept_lamps
  bi_accept_lamps : Binds K d.d_accept_lamps P_accept_lamps []
  g_accept_price : mg "accept_price" = some (.ref a.f_accept_price)
  F_accept_price : Fun K "accept_price" "accept_price" (top 23) a.f_accept_price d.d_accept_price
  bi_accept_price : Binds K d.d_accept_price P_accept_price []
  g__law_pick : mg "_law_pick" = some (.ref a.f__law_pick)
  F__law_pick : Fun K "_law_pick" "_law_pick" (top 27) a.f__law_pick d.d__law_pick
  bi__law_pick : Binds K d.d__law_pick P__law_pick []
  g__law_sets : mg "_law_sets" = some (.ref a.f__law_sets)
  F__law_sets : Fun K "_law_sets" "_law_sets" (top 28) a.f__law_sets d.d__law_sets
  bi__law_sets : Binds K d.d__law_sets P__law_sets []
  g__law_kept : mg "_law_kept" = some (.ref a.f__law_kept)
  F__law_kept : Fun K "_law_kept" "_law_kept" (top 30) a.f__law_kept d.d__law_kept
  bi__law_kept : Binds K d.d__law_kept P__law_kept []
  g__law_boats_hold : mg "_law_boats_hold" = some (.ref a.f__law_boats_hold)
  F__law_boats_hold : Fun K "_law_boats_hold" "_law_boats_hold" (top 31) a.f__law_boats_hold d.d__law_boats_hold
  bi__law_boats_hold : Binds K d.d__law_boats_hold P__law_boats_hold []
  g__law_lamps_hold : mg "_law_lamps_hold" = some (.ref a.f__law_lamps_hold)
  F__law_lamps_hold : Fun K "_law_lamps_hold" "_law_lamps_hold" (top 32) a.f__law_lamps_hold d.d__law_lamps_hold
  bi__law_lamps_hold : Binds K d.d__law_lamps_hold P__law_lamps_hold []
  g_law : mg "law" = some (.ref a.f_law)
  F_law : Fun K "law" "law" (top 33) a.f_law d.d_law
  bi_law : Binds K d.d_law P_law []
  g__law_draw : mg "_law_draw" = some (.ref a.f__law_draw)
  F__law_draw : Fun K "_law_draw" "_law_draw" (top 26) a.f__law_draw d.d__law_draw
  bi__law_draw : Binds K d.d__law_draw P__law_draw []
  g__law_start : mg "_law_start" = some (.ref a.f__law_start)
  F__law_start : Fun K "_law_start" "_law_start" (top 25) a.f__law_start d.d__law_start
  bi__law_start : Binds K d.d__law_start P__law_start []
  g__law_is_taken : mg "_law_is_taken" = some (.ref a.f__law_is_taken)
  F__law_is_taken : Fun K "_law_is_taken" "_law_is_taken" (top 29) a.f__law_is_taken d.d__law_is_taken
  bi__law_is_taken : Binds K d.d__law_is_taken P__law_is_taken []
  bind_law : ∀ (s : Shared) (v : Value), BindsTo s d.d_law ⟨[v], []⟩ [("script", v)]
  xm : PySem.W.exmOne K (.ref a.PE) (.ref a.PE) = some true
  g_PaperError : mg "PaperError" = some (.ref a.PE)
  err : PySem.GX.ErrTxt prog K mg a.PE a.fI
variable {P : Program} {w : World} {K : PySem.W.Frag} {mg : Str → Option Value} {base : Heap} {a : Fs} {d : Fds}
/-! ### _law_draw -/
theorem nd__law_draw : (["state", "many", "found"] : List Str).Nodup := by decide +kernel
theorem d__law_draw (T : Tx P K mg a d) (l : List D) (n : D) (cdv : Value) (A : Around) (outer : List Env) (s : Shared) (H : Hp) (E : XK) (c : Ct) (x : Addr) (hr : Room 0 (A.deeper (envOfC "_law_draw" (defScope (top 26)) s.heap.objs.size a.f__law_draw cdv))) :
    GSs (X0 P w K mg base ["state", "many", "found"] "_law_draw" (top 26) a.f__law_draw cdv A outer s H E) c (MdO x) (defBody (top 26)) [.ow l, .va n, .no] KNo KNo KNo (drawM l n) :=
  GSs.cast (gs_if (S := List D) (ι := (fun s7 => [.ow s7, .va n, .no])) (k := (drawJ n)) (GW.t (gw_and (gt_cmp (c2_eq hr.units) (GC.b (gc_ix (gb_own (i := 0) rfl (by first | exact .inl rfl | exact .inr (.inl rfl) | exact .inr (.inr rfl)) rfl) (GC.b gc_int))) (GC.b gc_int)) (gw_and1 (gt_cmp c2_lt (GC.b (gc_ix (gb_own (i := 0) rfl (by first | exact .inl rfl | exact .inr (.inl rfl) | exact .inr (.inr rfl)) rfl) (GC.b gc_int))) (GC.b (gc_callB (cd_len) rfl T.b_len bt_len (ga_cons (GC.b (gc_ix (gb_own (i := 0) rfl (by first | exact .inl rfl | exact .inr (.inl rfl) | exact .inr (.inr rfl)) rfl) (GC.b gc_int))) ga_nil))))))) (gs_parix3 (i := 0) rfl rfl (by first | exact .inl rfl | exact .inr (.inl rfl) | exact .inr (.inr rfl)) rfl (gas_cons (gc_ix (GC.b (gc_ix (gb_own (i := 0) rfl (by first | exact .inl rfl | exact .inr (.inl rfl) | exact .inr (.inr rfl)) rfl) (GC.b gc_int))) (GC.b (gc_ix (gb_own (i := 0) rfl (by first | exact .inl rfl | exact .inr (.inl rfl) | exact .inr (.inr rfl)) rfl) (GC.b gc_int)))) (gas_cons gc_int (gas_cons (gc_op o2_add (GC.b (gc_ix (gb_own (i := 0) rfl (by first | exact .inl rfl | exact .inr (.inl rfl) | exact .inr (.inr rfl)) rfl) (GC.b gc_int))) (GC.b gc_int)) gas_nil))) fun l9 => gs_to l9 (.cons (.rf _) (.cons (.rf _) (.cons (.no _) Lel.nil)))) (gs_to l (.cons (.rf _) (.cons (.rf _) (.cons (.no _) Lel.nil)))) fun s7 => GSs.cast (gs_ifX (gt_cmp c2_gt (GC.b (gc_ix (gb_own (i := 0) rfl (by first | exact .inl rfl | exact .inr (.inl rfl) | exact .inr (.inr rfl)) rfl) (GC.b gc_int))) (GC.b gc_int)) (gs_set (hfx := MdO_set (by decide)) (i := 2) nd__law_draw rfl (by first | exact .inl rfl | exact .inr rfl) (gc_op o2_mod (GC.b (gc_callTy (cd_int) rfl T.b_int bt_int (ga_cons (GC.b (gc_ix (gb_own (i := 0) rfl (by first | exact .inl rfl | exact .inr (.inl rfl) | exact .inr (.inr rfl)) rfl) (GC.b gc_int))) ga_nil))) (GC.b (gc_var (i := 1) rfl (by first | exact .inl rfl | exact .inr (.inl rfl) | exact .inr (.inr rfl)) rfl))) fun found15 => gs_setix (i := 0) rfl (by first | exact .inl rfl | exact .inr (.inl rfl) | exact .inr (.inr rfl)) rfl (gc_op o2_fdiv (GC.b (gc_ix (gb_own (i := 0) rfl (by first | exact .inl rfl | exact .inr (.inl rfl) | exact .inr (.inr rfl)) rfl) (GC.b gc_int))) (GC.b (gc_var (i := 1) rfl (by first | exact .inl rfl | exact .inr (.inl rfl) | exact .inr (.inr rfl)) rfl))) gc_int fun l16 => gs_setix (i := 0) rfl (by first | exact .inl rfl | exact .inr (.inl rfl) | exact .inr (.inr rfl)) rfl (gc_ifx (gt_cmp c2_gt (GC.b (gc_ix (gb_own (i := 0) rfl (by first | exact .inl rfl | exact .inr (.inl rfl) | exact .inr (.inr rfl)) rfl) (GC.b gc_int))) (GC.b gc_int)) (gc_op o2_sub (GC.b (gc_ix (gb_own (i := 0) rfl (by first | exact .inl rfl | exact .inr (.inl rfl) | exact .inr (.inr rfl)) rfl) (GC.b gc_int))) (GC.b gc_int)) gc_int) gc_int fun l21 => gs_ret (gc_var (i := 2) rfl (by first | exact .inl rfl | exact .inr (.inl rfl) | exact .inr (.inr rfl)) rfl)) (gs_setix (i := 0) rfl (by first | exact .inl rfl | exact .inr (.inl rfl) | exact .inr (.inr rfl)) rfl (gc_op o2_add (GC.b (gc_ix (gb_own (i := 0) rfl (by first | exact .inl rfl | exact .inr (.inl rfl) | exact .inr (.inr rfl)) rfl) (GC.b gc_int))) (GC.b gc_int)) gc_int fun l28 => gs_setix (i := 0) rfl (by first | exact .inl rfl | exact .inr (.inl rfl) | exact .inr (.inr rfl)) rfl (gc_op o2_mod (GC.b (gc_callTy (cd_int) rfl T.b_int bt_int (ga_cons (GC.b (gc_op o2_add (GC.b (gc_op o2_add (GC.b (gc_op o2_mul (GC.b (gc_ix (gb_own (i := 0) rfl (by first | exact .inl rfl | exact .inr (.inl rfl) | exact .inr (.inr rfl)) rfl) (GC.b gc_int))) (GC.b gc_int))) (GC.b (gc_op o2_mul (GC.b (gc_op o2_mul (GC.b (gc_ix (gb_own (i := 0) rfl (by first | exact .inl rfl | exact .inr (.inl rfl) | exact .inr (.inr rfl)) rfl) (GC.b gc_int))) (GC.b (gc_ix (gb_own (i := 0) rfl (by first | exact .inl rfl | exact .inr (.inl rfl) | exact .inr (.inr rfl)) rfl) (GC.b gc_int))))) (GC.b gc_int))))) (GC.b gc_int))) ga_nil))) (GC.b gc_int)) gc_int fun l29 => gs_ret (gc_op o2_mod (GC.b (gc_callTy (cd_int) rfl T.b_int bt_int (ga_cons (GC.b (gc_op o2_fdiv (GC.b (gc_ix (gb_own (i := 0) rfl (by first | exact .inl rfl | exact .inr (.inl rfl) | exact .inr (.inr rfl)) rfl) (GC.b gc_int))) (GC.b gc_int))) ga_nil))) (GC.b (gc_var (i := 1) rfl (by first | exact .inl rfl | exact .inr (.inl rfl) | exact .inr (.inr rfl)) rfl))))) rfl) rfl
theorem ok__law_draw (T : Tx P K mg a d) : FnOk P w K mg base CX0 1 a.f__law_draw d.d__law_draw P__law_draw (spR vwW a.PE P__law_draw.length drawG) :=
  fn_draw T.F__law_draw ⟨rfl, rfl, rfl, nd__law_draw, rfl, by decide +kernel, by decide +kernel⟩ drawM (fun cdv A outer s H E c x l n hr => d__law_draw T l n cdv A outer s H E c x hr) (fun cells i c r s t b n h h0 h1 => draw_ok h h0 h1)
/-! ### _law_start -/
theorem nd__law_start : (["script", "seed", "cell"] : List Str).Nodup := by decide +kernel
theorem d__law_start (T : Tx P K mg a d) (cdv : Value) (A : Around) (outer : List Env) (s : Shared) (H : Hp) (E : XK) (c : Ct) (z : Addr) (ns : List Int) (hS : SqL K c.H0 z (ns.map V.int)) (hss : c.ss = none) (hr : Room 0 (A.deeper (envOfC "_law_start" (defScope (top 25)) s.heap.objs.size a.f__law_start cdv))) :
    GSs (X0 P w K mg base ["script", "seed", "cell"] "_law_start" (top 25) a.f__law_start cdv A outer s H E) c (vwL.md (fun _ _ _ _ => True) a.PE) (defBody (top 25)) [.fn z, .no, .no] (KEnd vwL) KNo KNo (startM (cutL (ns.map PyData.int) none (some 63))) :=
  GSs.cast (gs_set (i := 1) nd__law_start rfl (by first | exact .inl rfl | exact .inr rfl) gc_int fun seed1 => gs_for (S := D) (ι := (fun s2 => [.fn z, .va s2, .no])) (fb := startL) seed1 (.cons (.rf _) (.cons (.rf _) (.cons (.no _) Lel.nil))) rfl PassesOwn.never (gif_seq (gc_script (i := 0) rfl (by first | exact .inl rfl | exact .inr (.inl rfl) | exact .inr (.inr rfl)) rfl hS hss)) (gg_name (i := 2) nd__law_start rfl (by first | exact .inl rfl | exact .inr rfl)) (fun s2 x5 kc3 kb4 => GSs.cast (gs_set (i := 1) nd__law_start rfl (by first | exact .inl rfl | exact .inr rfl) (gc_op o2_add (GC.b (gc_op o2_mod (GC.b (gc_callTy (cd_int) rfl T.b_int bt_int (ga_cons (GC.b (gc_op o2_add (GC.b (gc_op o2_mul (GC.b (gc_var (i := 1) rfl (by first | exact .inl rfl | exact .inr (.inl rfl) | exact .inr (.inr rfl)) rfl)) (GC.b gc_int))) (GC.b (gc_var (i := 2) rfl (by first | exact .inl rfl | exact .inr (.inl rfl) | exact .inr (.inr rfl)) rfl)))) ga_nil))) (GC.b gc_int))) (GC.b gc_int)) fun seed6 => gs_to seed6 (.cons (.rf _) (.cons (.rf _) (.cons (.no _) Lel.nil)))) rfl) fun s2 => gs_retL (gn_lst (gas_cons (GN.fz (gn_lcG rfl nd__law_start (blkOk_by (by kernel_rfl)) (glc (own := [("cell", 2)]) (noOwn_of rfl) (gib_seq (GC.b (gc_script (i := 0) rfl (by first | exact .inl rfl | exact .inr (.inl rfl) | exact .inr (.inr rfl)) rfl hS hss))) (by decide) (fun _ _ _ _ _ => (gg_name (i := 2) nd__law_start rfl (by first | exact .inl rfl | exact .inr rfl))) (fun _ _ _ _ _ x12 => gts_nil) (fun _ _ _ _ _ x12 => (gc_callB (cd_abs) rfl T.b_abs bt_abs (ga_cons (GC.b (gc_callTy (cd_int) rfl T.b_int bt_int (ga_cons (GC.b (gc_var (i := 2) rfl (by first | exact .inl rfl | exact .inr (.inl rfl) | exact .inr (.inr rfl)) rfl)) ga_nil))) ga_nil)))))) (gas_cons gc_int (gas_cons gc_int (gas_cons gc_int (gas_cons (gc_var (i := 1) rfl (by first | exact .inl rfl | exact .inr (.inl rfl) | exact .inr (.inr rfl)) rfl) (gas_cons gc_int gas_nil)))))))) rfl
theorem ok__law_start (T : Tx P K mg a d) : FnOk P w K mg base CX0 1 a.f__law_start d.d__law_start P__law_start (spStartK K) :=
  fn_start (cp := a.PE) T.F__law_start ⟨rfl, rfl, rfl, nd__law_start, rfl, by decide +kernel, by decide +kernel⟩ (fun cdv A outer s H E c z ns hS hss hr => d__law_start T cdv A outer s H E c z ns hS hss hr)
/-! ### is_integer -/
theorem nd_is_integer : N_is_integer.Nodup := by decide +kernel
theorem sc_is_integer : FnScope N_is_integer P_is_integer (defScope (top 6)) := ⟨rfl, rfl, rfl, nd_is_integer, rfl, by decide +kernel, by decide +kernel⟩
theorem d_is_integer (T : Tx P K mg a d) (a_value : D) (cdv : Value) (A : Around) (outer : List Env) (s : Shared) (H : Hp) (E : XK) (c : Ct) (hr : Room 0 (A.deeper (envOfC "is_integer" (defScope (top 6)) s.heap.objs.size a.f_is_integer cdv))) :
    GSs (X0 P w K mg base N_is_integer "is_integer" (top 6) a.f_is_integer cdv A outer s H E) c (vwD.md (fun _ _ _ _ => True) a.PE) (defBody (top 6)) [.va a_value] (KEnd vwD) KNo KNo (m_is_integer a_value) :=
  GSs.cast (gs_ret (gc_and (gc_isi rfl T.b_isinstance bt_isinstance rfl T.b_int bt_int (GC.b (gc_var (i := 0) rfl (by first | exact .inl rfl | exact .inr (.inl rfl) | exact .inr (.inr rfl)) rfl))) (gc_one (gc_not (GC.b (gc_isi rfl T.b_isinstance bt_isinstance rfl T.b_bool bt_bool (GC.b (gc_var (i := 0) rfl (by first | exact .inl rfl | exact .inr (.inl rfl) | exact .inr (.inr rfl)) rfl)))))))) rfl
theorem ok_is_integer (T : Tx P K mg a d) : FnOk P w K mg base CX0 1 a.f_is_integer d.d_is_integer P_is_integer (spR vwD a.PE P_is_integer.length m_is_integer_g) := by
  refine fn_ok T.F_is_integer sc_is_integer (fun cdv A outer s H E c as hr hl => ?_)
  match as, hl with
  | [x0], _ =>
    match x0 with
    | .d y0 => exact d_is_integer T y0 cdv A outer s H E c hr
    | .st => exact gs_stuck
    | .fn _ => exact gs_stuck
/-! ### check_boats -/
theorem nd_check_boats : N_check_boats.Nodup := by decide +kernel
theorem sc_check_boats : FnScope N_check_boats P_check_boats (defScope (top 11)) := ⟨rfl, rfl, rfl, nd_check_boats, rfl, by decide +kernel, by decide +kernel⟩
theorem d_check_boats (T : Tx P K mg a d) (a_boats : D) (cdv : Value) (A : Around) (outer : List Env) (s : Shared) (H : Hp) (E : XK) (c : Ct) (hr : Room 1 (A.deeper (envOfC "check_boats" (defScope (top 11)) s.heap.objs.size a.f_check_boats cdv))) :
    GSs (X0 P w K mg base N_check_boats "check_boats" (top 11) a.f_check_boats cdv A outer s H E) c (vwD.md (fun _ _ _ _ => True) a.PE) (defBody (top 11)) [.va a_boats, .no, .no] (KEnd vwD) KNo KNo (m_check_boats a_boats) :=
  GSs.cast (gs_ifX (GW.t (gw_or (gt_not (gt_val (GC.b (gc_isi rfl T.b_isinstance bt_isinstance rfl T.b_tuple bt_tuple (GC.b (gc_var (i := 0) rfl (by first | exact .inl rfl | exact .inr (.inl rfl) | exact .inr (.inr rfl)) rfl)))))) (gw_or1 (gt_cmp c2_gt (GC.b (gc_callB (cd_len) rfl T.b_len bt_len (ga_cons (GC.b (gc_var (i := 0) rfl (by first | exact .inl rfl | exact .inr (.inl rfl) | exact .inr (.inr rfl)) rfl)) ga_nil))) (GC.b (gc_glob (by rfl) T.c_MAX_BOATS.choose_spec.1 T.c_MAX_BOATS.choose_spec.2)))))) (gs_stuck) (gs_for (S := Unit) (ι := (fun s5 => [.va a_boats, .no, .no])) (fb := m_check_boats_l1) () (.cons (.rf _) (.cons (.no _) (.cons (.no _) Lel.nil))) rfl PassesOwn.never (gif_seq (gc_var (i := 0) rfl (by first | exact .inl rfl | exact .inr (.inl rfl) | exact .inr (.inr rfl)) rfl)) (gg_name (i := 1) nd_check_boats rfl (by first | exact .inl rfl | exact .inr rfl)) (fun s5 x8 kc6 kb7 => GSs.cast (gs_ifX (GW.t (gw_or (gt_not (gt_val (GC.b (gc_isi rfl T.b_isinstance bt_isinstance rfl T.b_tuple bt_tuple (GC.b (gc_var (i := 1) rfl (by first | exact .inl rfl | exact .inr (.inl rfl) | exact .inr (.inr rfl)) rfl)))))) (gw_or (gt_cmp (c2_ne hr.units) (GC.b (gc_callB (cd_len) rfl T.b_len bt_len (ga_cons (GC.b (gc_var (i := 1) rfl (by first | exact .inl rfl | exact .inr (.inl rfl) | exact .inr (.inr rfl)) rfl)) ga_nil))) (GC.b gc_int)) (gw_or1 (gt_not (gt_val (GC.b (gc_callB (cd_all rfl) rfl T.b_all bt_all (ga_cons (GC.b (GN.fz (gn_lcG rfl nd_check_boats (blkOk_by (by kernel_rfl)) (glc (own := [("own", 2)]) (noOwn_of rfl) (gib_seq (GC.b (gc_var (i := 1) rfl (by first | exact .inl rfl | exact .inr (.inl rfl) | exact .inr (.inr rfl)) rfl))) (by decide) (fun _ _ _ _ _ => (gg_name (i := 2) nd_check_boats rfl (by first | exact .inl rfl | exact .inr rfl))) (fun _ _ _ _ _ x9 => gts_nil) (fun _ _ _ _ _ x9 => (gc_call (g := m_is_integer_g) (ok_is_integer T) (hr.mono (by decide)) (by rfl) T.g_is_integer T.F_is_integer.kp T.bi_is_integer (gr_d (gc_var (i := 2) rfl (by first | exact .inl rfl | exact .inr (.inl rfl) | exact .inr (.inr rfl)) rfl) gr_nil))))))) ga_nil))))))))) (gs_stuck) (gs_ifX (GW.t (gw_or (gt_not (gt_val (GC.b (gc_callB (cd_all rfl) rfl T.b_all bt_all (ga_cons (GC.b (GN.fz (gn_lcG rfl nd_check_boats (blkOk_by (by kernel_rfl)) (glc (own := [("own", 2)]) (noOwn_of rfl) (gib_seq (GC.b (gc_var (i := 1) rfl (by first | exact .inl rfl | exact .inr (.inl rfl) | exact .inr (.inr rfl)) rfl))) (by decide) (fun _ _ _ _ _ => (gg_name (i := 2) nd_check_boats rfl (by first | exact .inl rfl | exact .inr rfl))) (fun _ _ _ _ _ x19 => gts_nil) (fun _ _ _ _ _ x19 => (gc_chain c2_le c2_le (GC.b gc_int) (GC.b (gc_var (i := 2) rfl (by first | exact .inl rfl | exact .inr (.inl rfl) | exact .inr (.inr rfl)) rfl)) (GC.b (gc_glob (by rfl) T.c_MAX_HOURS.choose_spec.1 T.c_MAX_HOURS.choose_spec.2)))))))) ga_nil))))) (gw_or1 (gt_cmp c2_lt (GC.b (gc_ix (GC.b (gc_var (i := 1) rfl (by first | exact .inl rfl | exact .inr (.inl rfl) | exact .inr (.inr rfl)) rfl)) (GC.b gc_int))) (GC.b gc_int))))) (gs_stuck) (gs_to () (.cons (.rf _) (.cons (.no _) (.cons (.no _) Lel.nil)))))) rfl) fun s5 => gs_nil rfl)) rfl
theorem ok_check_boats (T : Tx P K mg a d) : FnOk P w K mg base CX0 2 a.f_check_boats d.d_check_boats P_check_boats (spR vwD a.PE P_check_boats.length m_check_boats_g) := by
  refine fn_ok T.F_check_boats sc_check_boats (fun cdv A outer s H E c as hr hl => ?_)
  match as, hl with
  | [x0], _ =>
    match x0 with
    | .d y0 => exact d_check_boats T y0 cdv A outer s H E c hr
    | .st => exact gs_stuck
    | .fn _ => exact gs_stuck
/-! ### check_order -/
theorem nd_check_order : N_check_order.Nodup := by decide +kernel
theorem sc_check_order : FnScope N_check_order P_check_order (defScope (top 12)) := ⟨rfl, rfl, rfl, nd_check_order, rfl, by decide +kernel, by decide +kernel⟩
theorem d_check_order (T : Tx P K mg a d) (a_boats a_order : D) (cdv : Value) (A : Around) (outer : List Env) (s : Shared) (H : Hp) (E : XK) (c : Ct) (hr : Room 1 (A.deeper (envOfC "check_order" (defScope (top 12)) s.heap.objs.size a.f_check_order cdv))) :
    GSs (X0 P w K mg base N_check_order "check_order" (top 12) a.f_check_order cdv A outer s H E) c (vwD.md (fun _ _ _ _ => True) a.PE) (defBody (top 12)) [.va a_boats, .va a_order, .no] (KEnd vwD) KNo KNo (m_check_order a_boats a_order) :=
  GSs.cast (gs_ifX (GW.t (gw_or (gt_not (gt_val (GC.b (gc_isi rfl T.b_isinstance bt_isinstance rfl T.b_tuple bt_tuple (GC.b (gc_var (i := 1) rfl (by first | exact .inl rfl | exact .inr (.inl rfl) | exact .inr (.inr rfl)) rfl)))))) (gw_or1 (gt_not (gt_val (GC.b (gc_callB (cd_all rfl) rfl T.b_all bt_all (ga_cons (GC.b (GN.fz (gn_lcG rfl nd_check_order (blkOk_by (by kernel_rfl)) (glc (own := [("at", 2)]) (noOwn_of rfl) (gib_seq (GC.b (gc_var (i := 1) rfl (by first | exact .inl rfl | exact .inr (.inl rfl) | exact .inr (.inr rfl)) rfl))) (by decide) (fun _ _ _ _ _ => (gg_name (i := 2) nd_check_order rfl (by first | exact .inl rfl | exact .inr rfl))) (fun _ _ _ _ _ x1 => gts_nil) (fun _ _ _ _ _ x1 => (gc_call (g := m_is_integer_g) (ok_is_integer T) (hr.mono (by decide)) (by rfl) T.g_is_integer T.F_is_integer.kp T.bi_is_integer (gr_d (gc_var (i := 2) rfl (by first | exact .inl rfl | exact .inr (.inl rfl) | exact .inr (.inr rfl)) rfl) gr_nil))))))) ga_nil)))))))) (gs_stuck) (gs_ifX (gt_cmp (c2_ne hr.units) (GC.b (GN.fz (gn_callB (cn_sortedE hr.in65) rfl T.b_sorted bt_sorted (ga_cons (GC.b (gc_var (i := 1) rfl (by first | exact .inl rfl | exact .inr (.inl rfl) | exact .inr (.inr rfl)) rfl)) ga_nil)))) (GC.b (GN.fz (gn_listRange1 rfl (by rfl) T.b_list (by rfl) T.b_range (ga_cons (GC.b (gc_callB (cd_len) rfl T.b_len bt_len (ga_cons (GC.b (gc_var (i := 0) rfl (by first | exact .inl rfl | exact .inr (.inl rfl) | exact .inr (.inr rfl)) rfl)) ga_nil))) ga_nil))))) (gs_stuck) (gs_nil rfl))) rfl
theorem ok_check_order (T : Tx P K mg a d) : FnOk P w K mg base CX0 2 a.f_check_order d.d_check_order P_check_order (spR vwD a.PE P_check_order.length m_check_order_g) := by
  refine fn_ok T.F_check_order sc_check_order (fun cdv A outer s H E c as hr hl => ?_)
  match as, hl with
  | [x0, x1], _ =>
    match x0, x1 with
    | .d y0, .d y1 => exact d_check_order T y0 y1 cdv A outer s H E c hr
    | .st, _ => exact gs_stuck
    | .fn _, _ => exact gs_stuck
    | .d _, .st => exact gs_stuck
    | .d _, .fn _ => exact gs_stuck
/-! ### ends_in -/
theorem nd_ends_in : N_ends_in.Nodup := by decide +kernel
theorem sc_ends_in : FnScope N_ends_in P_ends_in (defScope (top 13)) := ⟨rfl, rfl, rfl, nd_ends_in, rfl, by decide +kernel, by decide +kernel⟩
theorem d_ends_in (T : Tx P K mg a d) (a_boats a_order : D) (cdv : Value) (A : Around) (outer : List Env) (s : Shared) (H : Hp) (E : XK) (c : Ct) (hr : Room 0 (A.deeper (envOfC "ends_in" (defScope (top 13)) s.heap.objs.size a.f_ends_in cdv))) :
    GSs (X0 P w K mg base N_ends_in "ends_in" (top 13) a.f_ends_in cdv A outer s H E) c (vwL.md (fun _ _ _ _ => True) a.PE) (defBody (top 13)) [.va a_boats, .va a_order, .no, .no, .no, .no, .no, .no] (KEnd vwL) KNo KNo (m_ends_in a_boats a_order) :=
  GSs.cast (gs_set (i := 2) nd_ends_in rfl (by first | exact .inl rfl | exact .inr rfl) gc_int fun minute1 => gs_setN (i := 3) nd_ends_in rfl (by first | exact .inl rfl | exact .inr rfl) (gn_lst gas_nil) fun l2 => gs_for (S := D × List D) (ι := (fun s3 => [.va a_boats, .va a_order, .va s3.1, .ow s3.2, .no, .no, .no, .no])) (fb := (m_ends_in_l1 a_boats)) (minute1, l2) (.cons (.rf _) (.cons (.rf _) (.cons (.rf _) (.cons (.rf _) (.cons (.no _) (.cons (.no _) (.cons (.no _) (.cons (.no _) Lel.nil)))))))) rfl PassesOwn.never (gif_seq (gc_var (i := 1) rfl (by first | exact .inl rfl | exact .inr (.inl rfl) | exact .inr (.inr rfl)) rfl)) (gg_name (i := 4) nd_ends_in rfl (by first | exact .inl rfl | exact .inr rfl)) (fun s3 x6 kc4 kb5 => GSs.cast (gs_setT (gc_ix (GC.b (gc_var (i := 0) rfl (by first | exact .inl rfl | exact .inr (.inl rfl) | exact .inr (.inr rfl)) rfl)) (GC.b (gc_var (i := 4) rfl (by first | exact .inl rfl | exact .inr (.inl rfl) | exact .inr (.inr rfl)) rfl))) (gg_tup rfl (len_cons (len_cons (len_cons len_nil))) (ggs_cons (gg_name (i := 5) nd_ends_in rfl (by first | exact .inl rfl | exact .inr rfl)) (ggs_cons (gg_name (i := 6) nd_ends_in rfl (by first | exact .inl rfl | exact .inr rfl)) (ggs_cons (gg_name (i := 7) nd_ends_in rfl (by first | exact .inl rfl | exact .inr rfl)) ggs_nil)))) fun x7 => gs_set (i := 2) nd_ends_in rfl (by first | exact .inl rfl | exact .inr rfl) (gc_op o2_add (GC.b (gc_callB (cd_max2 rfl) rfl T.b_max bt_max (ga_cons (GC.b (gc_var (i := 2) rfl (by first | exact .inl rfl | exact .inr (.inl rfl) | exact .inr (.inr rfl)) rfl)) (ga_cons (GC.b (gc_var (i := 5) rfl (by first | exact .inl rfl | exact .inr (.inl rfl) | exact .inr (.inr rfl)) rfl)) ga_nil)))) (GC.b (gc_var (i := 6) rfl (by first | exact .inl rfl | exact .inr (.inl rfl) | exact .inr (.inr rfl)) rfl))) fun minute8 => gs_append (i := 3) rfl (by first | exact .inl rfl | exact .inr (.inl rfl) | exact .inr (.inr rfl)) rfl (gc_var (i := 2) rfl (by first | exact .inl rfl | exact .inr (.inl rfl) | exact .inr (.inr rfl)) rfl) fun l9 => gs_to (minute8, l9) (.cons (.rf _) (.cons (.rf _) (.cons (.rf _) (.cons (.rf _) (.cons (.no _) (.cons (.no _) (.cons (.no _) (.cons (.no _) Lel.nil))))))))) rfl) fun s3 => gs_retO (i := 3) rfl (by first | exact .inl rfl | exact .inr (.inl rfl) | exact .inr (.inr rfl)) rfl) rfl
theorem ok_ends_in (T : Tx P K mg a d) : FnOk P w K mg base CX0 1 a.f_ends_in d.d_ends_in P_ends_in (spR vwL a.PE P_ends_in.length m_ends_in_g) := by
  refine fn_ok T.F_ends_in sc_ends_in (fun cdv A outer s H E c as hr hl => ?_)
  match as, hl with
  | [x0, x1], _ =>
    match x0, x1 with
    | .d y0, .d y1 => exact d_ends_in T y0 y1 cdv A outer s H E c hr
    | .st, _ => exact gs_stuck
    | .fn _, _ => exact gs_stuck
    | .d _, .st => exact gs_stuck
    | .d _, .fn _ => exact gs_stuck
/-! ### judge_order -/
theorem nd_judge_order : N_judge_order.Nodup := by decide +kernel
theorem sc_judge_order : FnScope N_judge_order P_judge_order (defScope (top 14)) := ⟨rfl, rfl, rfl, nd_judge_order, rfl, by decide +kernel, by decide +kernel⟩
theorem d_judge_order (T : Tx P K mg a d) (a_boats a_order : D) (cdv : Value) (A : Around) (outer : List Env) (s : Shared) (H : Hp) (E : XK) (c : Ct) (hr : Room 2 (A.deeper (envOfC "judge_order" (defScope (top 14)) s.heap.objs.size a.f_judge_order cdv))) :
    GSs (X0 P w K mg base N_judge_order "judge_order" (top 14) a.f_judge_order cdv A outer s H E) c (vwD.md (fun _ _ _ _ => True) a.PE) (defBody (top 14)) [.va a_boats, .va a_order, .no, .no, .no] (KEnd vwD) KNo KNo (m_judge_order a_boats a_order) :=
  GSs.cast (gs_expr (gc_call (g := m_check_boats_g) (ok_check_boats T) (hr.mono (by decide)) (by rfl) T.g_check_boats T.F_check_boats.kp T.bi_check_boats (gr_d (gc_var (i := 0) rfl (by first | exact .inl rfl | exact .inr (.inl rfl) | exact .inr (.inr rfl)) rfl) gr_nil)) (gs_expr (gc_call (g := m_check_order_g) (ok_check_order T) (hr.mono (by decide)) (by rfl) T.g_check_order T.F_check_order.kp T.bi_check_order (gr_d (gc_var (i := 0) rfl (by first | exact .inl rfl | exact .inr (.inl rfl) | exact .inr (.inr rfl)) rfl) (gr_d (gc_var (i := 1) rfl (by first | exact .inl rfl | exact .inr (.inl rfl) | exact .inr (.inr rfl)) rfl) gr_nil))) (gs_setN (i := 2) nd_judge_order rfl (by first | exact .inl rfl | exact .inr rfl) (gn_call (g := m_ends_in_g) (ok_ends_in T) (hr.mono (by decide)) (by rfl) T.g_ends_in T.F_ends_in.kp T.bi_ends_in (gr_d (gc_var (i := 0) rfl (by first | exact .inl rfl | exact .inr (.inl rfl) | exact .inr (.inr rfl)) rfl) (gr_d (gc_var (i := 1) rfl (by first | exact .inl rfl | exact .inr (.inl rfl) | exact .inr (.inr rfl)) rfl) gr_nil))) fun l1 => gs_weak (.cons (.rf _) (.cons (.rf _) (.cons (.fz _) (.cons (.no _) (.cons (.no _) Lel.nil))))) (gs_for (S := Unit) (ι := (fun s2 => [.va a_boats, .va a_order, .va (.list l1), .no, .no])) (fb := (m_judge_order_l1 a_boats)) () (.cons (.rf _) (.cons (.rf _) (.cons (.rf _) (.cons (.no _) (.cons (.no _) Lel.nil))))) rfl PassesOwn.never (gif_zip (by rfl) T.b_zip (gas_cons (gc_var (i := 1) rfl (by first | exact .inl rfl | exact .inr (.inl rfl) | exact .inr (.inr rfl)) rfl) (gas_cons (gc_var (i := 2) rfl (by first | exact .inl rfl | exact .inr (.inl rfl) | exact .inr (.inr rfl)) rfl) gas_nil))) (gg_tup rfl (len_cons (len_cons len_nil)) (ggs_cons (gg_name (i := 3) nd_judge_order rfl (by first | exact .inl rfl | exact .inr rfl)) (ggs_cons (gg_name (i := 4) nd_judge_order rfl (by first | exact .inl rfl | exact .inr rfl)) ggs_nil))) (fun s2 x5 kc3 kb4 => GSs.cast (gs_ifX (gt_cmp c2_gt (GC.b (gc_var (i := 4) rfl (by first | exact .inl rfl | exact .inr (.inl rfl) | exact .inr (.inr rfl)) rfl)) (GC.b (gc_ix (GC.b (gc_ix (GC.b (gc_var (i := 0) rfl (by first | exact .inl rfl | exact .inr (.inl rfl) | exact .inr (.inr rfl)) rfl)) (GC.b (gc_var (i := 3) rfl (by first | exact .inl rfl | exact .inr (.inl rfl) | exact .inr (.inr rfl)) rfl)))) (GC.b gc_int)))) (gs_ret (gc_tup (gas_cons gc_str (gas_cons (gc_var (i := 3) rfl (by first | exact .inl rfl | exact .inr (.inl rfl) | exact .inr (.inr rfl)) rfl) (gas_cons (gc_op o2_sub (GC.b (gc_var (i := 4) rfl (by first | exact .inl rfl | exact .inr (.inl rfl) | exact .inr (.inr rfl)) rfl)) (GC.b (gc_ix (GC.b (gc_ix (GC.b (gc_var (i := 0) rfl (by first | exact .inl rfl | exact .inr (.inl rfl) | exact .inr (.inr rfl)) rfl)) (GC.b (gc_var (i := 3) rfl (by first | exact .inl rfl | exact .inr (.inl rfl) | exact .inr (.inr rfl)) rfl)))) (GC.b gc_int)))) gas_nil))))) (gs_to () (.cons (.rf _) (.cons (.rf _) (.cons (.rf _) (.cons (.no _) (.cons (.no _) Lel.nil))))))) rfl) fun s2 => gs_ret (gc_tup (gas_cons gc_str (gas_cons (gc_ifx (gt_val (GC.b (gc_var (i := 2) rfl (by first | exact .inl rfl | exact .inr (.inl rfl) | exact .inr (.inr rfl)) rfl))) (gc_ix (GC.b (gc_var (i := 2) rfl (by first | exact .inl rfl | exact .inr (.inl rfl) | exact .inr (.inr rfl)) rfl)) (GC.b (gc_neg (GC.b gc_int)))) gc_int) gas_nil))))))) rfl
theorem ok_judge_order (T : Tx P K mg a d) : FnOk P w K mg base CX0 3 a.f_judge_order d.d_judge_order P_judge_order (spR vwD a.PE P_judge_order.length m_judge_order_g) := by
  refine fn_ok T.F_judge_order sc_judge_order (fun cdv A outer s H E c as hr hl => ?_)
  match as, hl with
  | [x0, x1], _ =>
    match x0, x1 with
    | .d y0, .d y1 => exact d_judge_order T y0 y1 cdv A outer s H E c hr
    | .st, _ => exact gs_stuck
    | .fn _, _ => exact gs_stuck
    | .d _, .st => exact gs_stuck
    | .d _, .fn _ => exact gs_stuck
/-! ### fewest_late -/
theorem nd_fewest_late : N_fewest_late.Nodup := by decide +kernel
theorem sc_fewest_late : FnScope N_fewest_late P_fewest_late (defScope (top 15)) := ⟨rfl, rfl, rfl, nd_fewest_late, rfl, by decide +kernel, by decide +kernel⟩
theorem d_fewest_late (T : Tx P K mg a d) (a_boats : D) (cdv : Value) (A : Around) (outer : List Env) (s : Shared) (H : Hp) (E : XK) (c : Ct) (hr : Room 2 (A.deeper (envOfC "fewest_late" (defScope (top 15)) s.heap.objs.size a.f_fewest_late cdv))) :
    GSs (X0 P w K mg base N_fewest_late "fewest_late" (top 15) a.f_fewest_late cdv A outer s H E) c (vwD.md (fun _ _ _ _ => True) a.PE) (defBody (top 15)) [.va a_boats, .no, .no, .no, .no, .no, .no, .no, .no, .no, .no] (KEnd vwD) KNo KNo (m_fewest_late a_boats) :=
  GSs.cast (gs_expr (gc_call (g := m_check_boats_g) (ok_check_boats T) (hr.mono (by decide)) (by rfl) T.g_check_boats T.F_check_boats.kp T.bi_check_boats (gr_d (gc_var (i := 0) rfl (by first | exact .inl rfl | exact .inr (.inl rfl) | exact .inr (.inr rfl)) rfl) gr_nil)) (gs_ifX (gt_val (GC.b (GN.fz (gn_lcG rfl nd_fewest_late (blkOk_by (by kernel_rfl)) (glc (own := [("there", 7), ("long", 8), ("storm", 4)]) (noOwn_of rfl) (gib_seq (GC.b (gc_var (i := 0) rfl (by first | exact .inl rfl | exact .inr (.inl rfl) | exact .inr (.inr rfl)) rfl))) (by decide) (fun _ _ _ _ _ => (gg_tup rfl (len_cons (len_cons (len_cons len_nil))) (ggs_cons (gg_name (i := 7) nd_fewest_late rfl (by first | exact .inl rfl | exact .inr rfl)) (ggs_cons (gg_name (i := 8) nd_fewest_late rfl (by first | exact .inl rfl | exact .inr rfl)) (ggs_cons (gg_name (i := 4) nd_fewest_late rfl (by first | exact .inl rfl | exact .inr rfl)) ggs_nil))))) (fun _ _ _ _ _ x1 => (gts_one (gt_val (GC.b (gc_var (i := 7) rfl (by first | exact .inl rfl | exact .inr (.inl rfl) | exact .inr (.inr rfl)) rfl))))) (fun _ _ _ _ _ x1 => gc_int)))))) (gs_stuck) (gs_par2 (i := 1) (j := 2) rfl nd_fewest_late rfl rfl (GN.ge (gn_lst gas_nil)) (GN.ge (gn_lst gas_nil)) fun l3 l4 => gs_set (i := 3) nd_fewest_late rfl (by first | exact .inl rfl | exact .inr rfl) gc_int fun whole5 => gs_for (S := List D × List D × D) (ι := (fun s8 => [.va a_boats, .ow s8.1, .ow s8.2.1, .va s8.2.2, .no, .no, .no, .no, .no, .no, .no])) (fb := (m_fewest_late_l1 a_boats)) (l3, l4, whole5) (.cons (.rf _) (.cons (.rf _) (.cons (.rf _) (.cons (.rf _) (.cons (.no _) (.cons (.no _) (.cons (.no _) (.cons (.no _) (.cons (.no _) (.cons (.no _) (.cons (.no _) Lel.nil))))))))))) rfl PassesOwn.never (gif_seq (GN.fz (gn_callB (cn_sortedE hr.in65) rfl T.b_sorted bt_sorted (ga_cons (GC.b (GN.fz (gn_lcG rfl nd_fewest_late (blkOk_by (by kernel_rfl)) (glc (own := [("at", 5), ("boat", 9)]) (noOwn_of rfl) (gib_enum (by rfl) T.b_enumerate (ga_cons (GC.b (gc_var (i := 0) rfl (by first | exact .inl rfl | exact .inr (.inl rfl) | exact .inr (.inr rfl)) rfl)) ga_nil)) (by decide) (fun _ _ _ _ _ => (gg_tup rfl (len_cons (len_cons len_nil)) (ggs_cons (gg_name (i := 5) nd_fewest_late rfl (by first | exact .inl rfl | exact .inr rfl)) (ggs_cons (gg_name (i := 9) nd_fewest_late rfl (by first | exact .inl rfl | exact .inr rfl)) ggs_nil)))) (fun _ _ _ _ _ x6 => gts_nil) (fun _ _ _ _ _ x6 => (gc_tup (gas_cons (gc_ix (GC.b (gc_var (i := 9) rfl (by first | exact .inl rfl | exact .inr (.inl rfl) | exact .inr (.inr rfl)) rfl)) (GC.b gc_int)) (gas_cons (gc_var (i := 5) rfl (by first | exact .inl rfl | exact .inr (.inl rfl) | exact .inr (.inr rfl)) rfl) gas_nil)))))))) ga_nil)))) (gg_tup rfl (len_cons (len_cons len_nil)) (ggs_cons (gg_name (i := 4) nd_fewest_late rfl (by first | exact .inl rfl | exact .inr rfl)) (ggs_cons (gg_name (i := 5) nd_fewest_late rfl (by first | exact .inl rfl | exact .inr rfl)) ggs_nil))) (fun s8 x11 kc9 kb10 => GSs.cast (gs_append (i := 1) rfl (by first | exact .inl rfl | exact .inr (.inl rfl) | exact .inr (.inr rfl)) rfl (gc_var (i := 5) rfl (by first | exact .inl rfl | exact .inr (.inl rfl) | exact .inr (.inr rfl)) rfl) fun l12 => gs_aug (i := 3) ip_add nd_fewest_late rfl (by first | exact .inl rfl | exact .inr rfl) rfl (GC.b (gc_ix (GC.b (gc_ix (GC.b (gc_var (i := 0) rfl (by first | exact .inl rfl | exact .inr (.inl rfl) | exact .inr (.inr rfl)) rfl)) (GC.b (gc_var (i := 5) rfl (by first | exact .inl rfl | exact .inr (.inl rfl) | exact .inr (.inr rfl)) rfl)))) (GC.b gc_int))) fun whole13 => gs_if (S := List D × List D × D) (ι := (fun s14 => [.va a_boats, .ow s14.1, .ow s14.2.1, .va s14.2.2, .va x11.1, .va x11.2.1, .no, .no, .no, .no, .no])) (k := (m_fewest_late_j2 kc9)) (gt_cmp c2_gt (GC.b (gc_var (i := 3) rfl (by first | exact .inl rfl | exact .inr (.inl rfl) | exact .inr (.inr rfl)) rfl)) (GC.b (gc_var (i := 4) rfl (by first | exact .inl rfl | exact .inr (.inl rfl) | exact .inr (.inr rfl)) rfl))) (gs_set (i := 6) nd_fewest_late rfl (by first | exact .inl rfl | exact .inr rfl) (gc_ix (GC.b (gc_ix (GC.b (GN.fz (gn_callB (cn_sortedE hr.in65) rfl T.b_sorted bt_sorted (ga_cons (GC.b (GN.fz (gn_lcG rfl nd_fewest_late (blkOk_by (by kernel_rfl)) (glc (own := [("own", 10)]) (noOwn_of rfl) (gib_seq (gb_own (i := 1) rfl (by first | exact .inl rfl | exact .inr (.inl rfl) | exact .inr (.inr rfl)) rfl)) (by decide) (fun _ _ _ _ _ => (gg_name (i := 10) nd_fewest_late rfl (by first | exact .inl rfl | exact .inr rfl))) (fun _ _ _ _ _ x16 => gts_nil) (fun _ _ _ _ _ x16 => (gc_tup (gas_cons (gc_neg (GC.b (gc_ix (GC.b (gc_ix (GC.b (gc_var (i := 0) rfl (by first | exact .inl rfl | exact .inr (.inl rfl) | exact .inr (.inr rfl)) rfl)) (GC.b (gc_var (i := 10) rfl (by first | exact .inl rfl | exact .inr (.inl rfl) | exact .inr (.inr rfl)) rfl)))) (GC.b gc_int)))) (gas_cons (gc_var (i := 10) rfl (by first | exact .inl rfl | exact .inr (.inl rfl) | exact .inr (.inr rfl)) rfl) gas_nil)))))))) ga_nil)))) (GC.b gc_int))) (GC.b gc_int)) fun out20 => gs_remove (i := 1) hr.in65 rfl (by first | exact .inl rfl | exact .inr (.inl rfl) | exact .inr (.inr rfl)) rfl (gc_var (i := 6) rfl (by first | exact .inl rfl | exact .inr (.inl rfl) | exact .inr (.inr rfl)) rfl) fun l21 => gs_append (i := 2) rfl (by first | exact .inl rfl | exact .inr (.inl rfl) | exact .inr (.inr rfl)) rfl (gc_var (i := 6) rfl (by first | exact .inl rfl | exact .inr (.inl rfl) | exact .inr (.inr rfl)) rfl) fun l22 => gs_aug (i := 3) ip_sub nd_fewest_late rfl (by first | exact .inl rfl | exact .inr rfl) rfl (GC.b (gc_ix (GC.b (gc_ix (GC.b (gc_var (i := 0) rfl (by first | exact .inl rfl | exact .inr (.inl rfl) | exact .inr (.inr rfl)) rfl)) (GC.b (gc_var (i := 6) rfl (by first | exact .inl rfl | exact .inr (.inl rfl) | exact .inr (.inr rfl)) rfl)))) (GC.b gc_int))) fun whole23 => gs_to (l21, l22, whole23) (.cons (.rf _) (.cons (.rf _) (.cons (.rf _) (.cons (.rf _) (.cons (.rf _) (.cons (.rf _) (.cons (.no _) (.cons (.no _) (.cons (.no _) (.cons (.no _) (.cons (.no _) Lel.nil)))))))))))) (gs_to (l12, s8.2.1, whole13) (.cons (.rf _) (.cons (.rf _) (.cons (.rf _) (.cons (.rf _) (.cons (.rf _) (.cons (.rf _) (.cons (.no _) (.cons (.no _) (.cons (.no _) (.cons (.no _) (.cons (.no _) Lel.nil)))))))))))) fun s14 => GSs.cast (gs_to (s14.1, s14.2.1, s14.2.2) (.cons (.rf _) (.cons (.rf _) (.cons (.rf _) (.cons (.rf _) (.cons (.no _) (.cons (.no _) (.cons (.no _) (.cons (.no _) (.cons (.no _) (.cons (.no _) (.cons (.no _) Lel.nil)))))))))))) rfl) rfl) fun s8 => gs_ret (gc_callTy (cd_tuple) rfl T.b_tuple bt_tuple (ga_cons (GC.b (GN.fz (gn_callB (cn_sortedE hr.in65) rfl T.b_sorted bt_sorted (ga_cons (gb_own (i := 2) rfl (by first | exact .inl rfl | exact .inr (.inl rfl) | exact .inr (.inr rfl)) rfl) ga_nil)))) ga_nil))))) rfl
theorem ok_fewest_late (T : Tx P K mg a d) : FnOk P w K mg base CX0 3 a.f_fewest_late d.d_fewest_late P_fewest_late (spR vwD a.PE P_fewest_late.length m_fewest_late_g) := by
  refine fn_ok T.F_fewest_late sc_fewest_late (fun cdv A outer s H E c as hr hl => ?_)
  match as, hl with
  | [x0], _ =>
    match x0 with
    | .d y0 => exact d_fewest_late T y0 cdv A outer s H E c hr
    | .st => exact gs_stuck
    | .fn _ => exact gs_stuck
/-! ### accept_left -/
theorem nd_accept_left : N_accept_left.Nodup := by decide +kernel
theorem sc_accept_left : FnScope N_accept_left P_accept_left (defScope (top 16)) := ⟨rfl, rfl, rfl, nd_accept_left, rfl, by decide +kernel, by decide +kernel⟩
theorem d_accept_left (T : Tx P K mg a d) (a_boats a_lost a_many : D) (cdv : Value) (A : Around) (outer : List Env) (s : Shared) (H : Hp) (E : XK) (c : Ct) (hr : Room 2 (A.deeper (envOfC "accept_left" (defScope (top 16)) s.heap.objs.size a.f_accept_left cdv))) :
    GSs (X1 P w K mg base N_accept_left "accept_left" (top 16) a.f_accept_left cdv A outer s H E) c (vwX.md (fun cls d _ H => E cls d H) a.PE) (defBody (top 16)) [.va a_boats, .va a_lost, .va a_many, .no, .no, .no, .no, .no] (KEnd vwX) KNo KNo (m_accept_left a_boats a_lost a_many) :=
  GSs.cast (gs_expr (gc_call (g := m_check_boats_g) (ok_check_boats T) (hr.mono (by decide)) (by rfl) T.g_check_boats T.F_check_boats.kp T.bi_check_boats (gr_d (gc_var (i := 0) rfl (by first | exact .inl rfl | exact .inr (.inl rfl) | exact .inr (.inr rfl)) rfl) gr_nil)) (gs_ifX (GW.t (gw_or (gt_not (gt_val (GC.b (gc_isi rfl T.b_isinstance bt_isinstance rfl T.b_tuple bt_tuple (GC.b (gc_var (i := 1) rfl (by first | exact .inl rfl | exact .inr (.inl rfl) | exact .inr (.inr rfl)) rfl)))))) (gw_or1 (gt_not (gt_val (GC.b (gc_callB (cd_all rfl) rfl T.b_all bt_all (ga_cons (GC.b (GN.fz (gn_lcG rfl nd_accept_left (blkOk_by (by kernel_rfl)) (glc (own := [("at", 4)]) (noOwn_of rfl) (gib_seq (GC.b (gc_var (i := 1) rfl (by first | exact .inl rfl | exact .inr (.inl rfl) | exact .inr (.inr rfl)) rfl))) (by decide) (fun _ _ _ _ _ => (gg_name (i := 4) nd_accept_left rfl (by first | exact .inl rfl | exact .inr rfl))) (fun _ _ _ _ _ x1 => gts_nil) (fun _ _ _ _ _ x1 => (gc_and (gc_call (g := m_is_integer_g) (ok_is_integer T) (hr.mono (by decide)) (by rfl) T.g_is_integer T.F_is_integer.kp T.bi_is_integer (gr_d (gc_var (i := 4) rfl (by first | exact .inl rfl | exact .inr (.inl rfl) | exact .inr (.inr rfl)) rfl) gr_nil)) (gc_one (gc_chain c2_le c2_lt (GC.b gc_int) (GC.b (gc_var (i := 4) rfl (by first | exact .inl rfl | exact .inr (.inl rfl) | exact .inr (.inr rfl)) rfl)) (GC.b (gc_callB (cd_len) rfl T.b_len bt_len (ga_cons (GC.b (gc_var (i := 0) rfl (by first | exact .inl rfl | exact .inr (.inl rfl) | exact .inr (.inr rfl)) rfl)) ga_nil))))))))))) ga_nil)))))))) (gs_raise (M := vwX.md _ _) rfl T.err hr (takes_of rfl rfl rfl rfl) rfl T.g_PaperError) (gs_ifX (GW.t (gw_or (gt_val (GC.b (GN.fz (gn_lcG rfl nd_accept_left (blkOk_by (by kernel_rfl)) (glc (own := [("at", 4)]) (noOwn_of rfl) (GIF.b (gif_range1 rfl T.b_range (ga_cons (GC.b (gc_op o2_sub (GC.b (gc_callB (cd_len) rfl T.b_len bt_len (ga_cons (GC.b (gc_var (i := 1) rfl (by first | exact .inl rfl | exact .inr (.inl rfl) | exact .inr (.inr rfl)) rfl)) ga_nil))) (GC.b gc_int))) ga_nil))) (by decide) (fun _ _ _ _ _ => (gg_name (i := 4) nd_accept_left rfl (by first | exact .inl rfl | exact .inr rfl))) (fun _ _ _ _ _ x12 => (gts_one (gt_cmp c2_ge (GC.b (gc_ix (GC.b (gc_var (i := 1) rfl (by first | exact .inl rfl | exact .inr (.inl rfl) | exact .inr (.inr rfl)) rfl)) (GC.b (gc_var (i := 4) rfl (by first | exact .inl rfl | exact .inr (.inl rfl) | exact .inr (.inr rfl)) rfl)))) (GC.b (gc_ix (GC.b (gc_var (i := 1) rfl (by first | exact .inl rfl | exact .inr (.inl rfl) | exact .inr (.inr rfl)) rfl)) (GC.b (gc_op o2_add (GC.b (gc_var (i := 4) rfl (by first | exact .inl rfl | exact .inr (.inl rfl) | exact .inr (.inr rfl)) rfl)) (GC.b gc_int)))))))) (fun _ _ _ _ _ x12 => gc_int)))))) (gw_or1 (gt_not (gt_val (GC.b (gc_call (g := m_is_integer_g) (ok_is_integer T) (hr.mono (by decide)) (by rfl) T.g_is_integer T.F_is_integer.kp T.bi_is_integer (gr_d (gc_var (i := 2) rfl (by first | exact .inl rfl | exact .inr (.inl rfl) | exact .inr (.inr rfl)) rfl) gr_nil)))))))) (gs_raise (M := vwX.md _ _) rfl T.err hr (takes_of rfl rfl rfl rfl) rfl T.g_PaperError) (gs_setLc (i := 3) rfl nd_accept_left rfl (blkOk_by (by kernel_rfl)) (glc (own := [("storm", 5), ("at", 4)]) (noOwn_of rfl) (gib_seq (GC.b (GN.fz (gn_callB (cn_sortedE hr.in65) rfl T.b_sorted bt_sorted (ga_cons (GC.b (GN.fz (gn_lcG rfl nd_accept_left (blkOk_by (by kernel_rfl)) (glc (own := [("at", 4), ("boat", 6)]) (noOwn_of rfl) (gib_enum (by rfl) T.b_enumerate (ga_cons (GC.b (gc_var (i := 0) rfl (by first | exact .inl rfl | exact .inr (.inl rfl) | exact .inr (.inr rfl)) rfl)) ga_nil)) (by decide) (fun _ _ _ _ _ => (gg_tup rfl (len_cons (len_cons len_nil)) (ggs_cons (gg_name (i := 4) nd_accept_left rfl (by first | exact .inl rfl | exact .inr rfl)) (ggs_cons (gg_name (i := 6) nd_accept_left rfl (by first | exact .inl rfl | exact .inr rfl)) ggs_nil)))) (fun _ _ _ _ _ x24 => gts_nil) (fun _ _ _ _ _ x24 => (gc_tup (gas_cons (gc_ix (GC.b (gc_var (i := 6) rfl (by first | exact .inl rfl | exact .inr (.inl rfl) | exact .inr (.inr rfl)) rfl)) (GC.b gc_int)) (gas_cons (gc_var (i := 4) rfl (by first | exact .inl rfl | exact .inr (.inl rfl) | exact .inr (.inr rfl)) rfl) gas_nil)))))))) ga_nil))))) (by decide) (fun _ _ _ _ _ => (gg_tup rfl (len_cons (len_cons len_nil)) (ggs_cons (gg_name (i := 5) nd_accept_left rfl (by first | exact .inl rfl | exact .inr rfl)) (ggs_cons (gg_name (i := 4) nd_accept_left rfl (by first | exact .inl rfl | exact .inr rfl)) ggs_nil)))) (fun _ _ _ _ _ x26 => (gts_one (gt_cmp (c2_notIn hr.in65) (GC.b (gc_var (i := 4) rfl (by first | exact .inl rfl | exact .inr (.inl rfl) | exact .inr (.inr rfl)) rfl)) (GC.b (gc_var (i := 1) rfl (by first | exact .inl rfl | exact .inr (.inl rfl) | exact .inr (.inr rfl)) rfl))))) (fun _ _ _ _ _ x26 => (gc_var (i := 4) rfl (by first | exact .inl rfl | exact .inr (.inl rfl) | exact .inr (.inr rfl)) rfl))) fun l28 => gs_weak (.cons (.rf _) (.cons (.rf _) (.cons (.rf _) (.cons (.fz _) (.cons (.no _) (.cons (.no _) (.cons (.no _) (.cons (.no _) Lel.nil)))))))) (gs_ifX (gt_val (GC.b (GN.fz (gn_lcG rfl nd_accept_left (blkOk_by (by kernel_rfl)) (glc (own := [("at", 4), ("end", 7)]) (noOwn_of rfl) (gib_zip (by rfl) T.b_zip (ga_cons (GC.b (gc_var (i := 3) rfl (by first | exact .inl rfl | exact .inr (.inl rfl) | exact .inr (.inr rfl)) rfl)) (ga_cons (GC.b (GN.fz (gn_call (g := m_ends_in_g) (ok_ends_in T) (hr.mono (by decide)) (by rfl) T.g_ends_in T.F_ends_in.kp T.bi_ends_in (gr_d (gc_var (i := 0) rfl (by first | exact .inl rfl | exact .inr (.inl rfl) | exact .inr (.inr rfl)) rfl) (gr_d (gc_var (i := 3) rfl (by first | exact .inl rfl | exact .inr (.inl rfl) | exact .inr (.inr rfl)) rfl) gr_nil))))) ga_nil))) (by decide) (fun _ _ _ _ _ => (gg_tup rfl (len_cons (len_cons len_nil)) (ggs_cons (gg_name (i := 4) nd_accept_left rfl (by first | exact .inl rfl | exact .inr rfl)) (ggs_cons (gg_name (i := 7) nd_accept_left rfl (by first | exact .inl rfl | exact .inr rfl)) ggs_nil)))) (fun _ _ _ _ _ x29 => (gts_one (gt_cmp c2_gt (GC.b (gc_var (i := 7) rfl (by first | exact .inl rfl | exact .inr (.inl rfl) | exact .inr (.inr rfl)) rfl)) (GC.b (gc_ix (GC.b (gc_ix (GC.b (gc_var (i := 0) rfl (by first | exact .inl rfl | exact .inr (.inl rfl) | exact .inr (.inr rfl)) rfl)) (GC.b (gc_var (i := 4) rfl (by first | exact .inl rfl | exact .inr (.inl rfl) | exact .inr (.inr rfl)) rfl)))) (GC.b gc_int)))))) (fun _ _ _ _ _ x29 => gc_int)))))) (gs_raise (M := vwX.md _ _) rfl T.err hr (takes_of rfl rfl rfl rfl) rfl T.g_PaperError) (gs_ifX (gt_cmp c2_gt (GC.b (gc_callB (cd_len) rfl T.b_len bt_len (ga_cons (GC.b (gc_var (i := 1) rfl (by first | exact .inl rfl | exact .inr (.inl rfl) | exact .inr (.inr rfl)) rfl)) ga_nil))) (GC.b (gc_var (i := 2) rfl (by first | exact .inl rfl | exact .inr (.inl rfl) | exact .inr (.inr rfl)) rfl))) (gs_raise (M := vwX.md _ _) rfl T.err hr (takes_of rfl rfl rfl rfl) rfl T.g_PaperError) (gs_nil rfl))))))) rfl
theorem ok_accept_left (T : Tx P K mg a d) : FnOk P w K mg base (L2.CX P w) 3 a.f_accept_left d.d_accept_left P_accept_left (spR vwX a.PE P_accept_left.length m_accept_left_g) := by
  refine fn_okX T.F_accept_left sc_accept_left (fun cdv A outer s H E c as hr hl => ?_)
  match as, hl with
  | [x0, x1, x2], _ =>
    match x0, x1, x2 with
    | .d y0, .d y1, .d y2 => exact d_accept_left T y0 y1 y2 cdv A outer s H E c hr
    | .st, _, _ => exact gs_stuck
    | .fn _, _, _ => exact gs_stuck
    | .d _, .st, _ => exact gs_stuck
    | .d _, .fn _, _ => exact gs_stuck
    | .d _, .d _, .st => exact gs_stuck
    | .d _, .d _, .fn _ => exact gs_stuck
/-! ### least_lateness -/
theorem nd_least_lateness : N_least_lateness.Nodup := by decide +kernel
theorem sc_least_lateness : FnScope N_least_lateness P_least_lateness (defScope (top 17)) := ⟨rfl, rfl, rfl, nd_least_lateness, rfl, by decide +kernel, by decide +kernel⟩
theorem d_least_lateness (T : Tx P K mg a d) (a_boats : D) (cdv : Value) (A : Around) (outer : List Env) (s : Shared) (H : Hp) (E : XK) (c : Ct) (hr : Room 2 (A.deeper (envOfC "least_lateness" (defScope (top 17)) s.heap.objs.size a.f_least_lateness cdv))) :
    GSs (X0 P w K mg base N_least_lateness "least_lateness" (top 17) a.f_least_lateness cdv A outer s H E) c (vwD.md (fun _ _ _ _ => True) a.PE) (defBody (top 17)) [.va a_boats, .no, .no, .no, .no, .no, .no, .no, .no] (KEnd vwD) KNo KNo (m_least_lateness a_boats) :=
  GSs.cast (gs_expr (gc_call (g := m_check_boats_g) (ok_check_boats T) (hr.mono (by decide)) (by rfl) T.g_check_boats T.F_check_boats.kp T.bi_check_boats (gr_d (gc_var (i := 0) rfl (by first | exact .inl rfl | exact .inr (.inl rfl) | exact .inr (.inr rfl)) rfl) gr_nil)) (gs_ifX (gt_val (GC.b (GN.fz (gn_lcG rfl nd_least_lateness (blkOk_by (by kernel_rfl)) (glc (own := [("there", 3), ("long", 4), ("storm", 5)]) (noOwn_of rfl) (gib_seq (GC.b (gc_var (i := 0) rfl (by first | exact .inl rfl | exact .inr (.inl rfl) | exact .inr (.inr rfl)) rfl))) (by decide) (fun _ _ _ _ _ => (gg_tup rfl (len_cons (len_cons (len_cons len_nil))) (ggs_cons (gg_name (i := 3) nd_least_lateness rfl (by first | exact .inl rfl | exact .inr rfl)) (ggs_cons (gg_name (i := 4) nd_least_lateness rfl (by first | exact .inl rfl | exact .inr rfl)) (ggs_cons (gg_name (i := 5) nd_least_lateness rfl (by first | exact .inl rfl | exact .inr rfl)) ggs_nil))))) (fun _ _ _ _ _ x1 => (gts_one (gt_val (GC.b (gc_var (i := 3) rfl (by first | exact .inl rfl | exact .inr (.inl rfl) | exact .inr (.inr rfl)) rfl))))) (fun _ _ _ _ _ x1 => gc_int)))))) (gs_stuck) (gs_setLc (i := 1) rfl nd_least_lateness rfl (blkOk_by (by kernel_rfl)) (glc (own := [("storm", 5), ("at", 6)]) (noOwn_of rfl) (gib_seq (GC.b (GN.fz (gn_callB (cn_sortedE hr.in65) rfl T.b_sorted bt_sorted (ga_cons (GC.b (GN.fz (gn_lcG rfl nd_least_lateness (blkOk_by (by kernel_rfl)) (glc (own := [("at", 6), ("boat", 7)]) (noOwn_of rfl) (gib_enum (by rfl) T.b_enumerate (ga_cons (GC.b (gc_var (i := 0) rfl (by first | exact .inl rfl | exact .inr (.inl rfl) | exact .inr (.inr rfl)) rfl)) ga_nil)) (by decide) (fun _ _ _ _ _ => (gg_tup rfl (len_cons (len_cons len_nil)) (ggs_cons (gg_name (i := 6) nd_least_lateness rfl (by first | exact .inl rfl | exact .inr rfl)) (ggs_cons (gg_name (i := 7) nd_least_lateness rfl (by first | exact .inl rfl | exact .inr rfl)) ggs_nil)))) (fun _ _ _ _ _ x3 => gts_nil) (fun _ _ _ _ _ x3 => (gc_tup (gas_cons (gc_ix (GC.b (gc_var (i := 7) rfl (by first | exact .inl rfl | exact .inr (.inl rfl) | exact .inr (.inr rfl)) rfl)) (GC.b gc_int)) (gas_cons (gc_var (i := 6) rfl (by first | exact .inl rfl | exact .inr (.inl rfl) | exact .inr (.inr rfl)) rfl) gas_nil)))))))) ga_nil))))) (by decide) (fun _ _ _ _ _ => (gg_tup rfl (len_cons (len_cons len_nil)) (ggs_cons (gg_name (i := 5) nd_least_lateness rfl (by first | exact .inl rfl | exact .inr rfl)) (ggs_cons (gg_name (i := 6) nd_least_lateness rfl (by first | exact .inl rfl | exact .inr rfl)) ggs_nil)))) (fun _ _ _ _ _ x5 => gts_nil) (fun _ _ _ _ _ x5 => (gc_var (i := 6) rfl (by first | exact .inl rfl | exact .inr (.inl rfl) | exact .inr (.inr rfl)) rfl))) fun l6 => gs_weak (.cons (.rf _) (.cons (.fz _) (.cons (.no _) (.cons (.no _) (.cons (.no _) (.cons (.no _) (.cons (.no _) (.cons (.no _) (.cons (.no _) Lel.nil))))))))) (gs_setLc (i := 2) rfl nd_least_lateness rfl (blkOk_by (by kernel_rfl)) (glc (own := [("at", 6), ("end", 8)]) (noOwn_of rfl) (gib_zip (by rfl) T.b_zip (ga_cons (GC.b (gc_var (i := 1) rfl (by first | exact .inl rfl | exact .inr (.inl rfl) | exact .inr (.inr rfl)) rfl)) (ga_cons (GC.b (GN.fz (gn_call (g := m_ends_in_g) (ok_ends_in T) (hr.mono (by decide)) (by rfl) T.g_ends_in T.F_ends_in.kp T.bi_ends_in (gr_d (gc_var (i := 0) rfl (by first | exact .inl rfl | exact .inr (.inl rfl) | exact .inr (.inr rfl)) rfl) (gr_d (gc_var (i := 1) rfl (by first | exact .inl rfl | exact .inr (.inl rfl) | exact .inr (.inr rfl)) rfl) gr_nil))))) ga_nil))) (by decide) (fun _ _ _ _ _ => (gg_tup rfl (len_cons (len_cons len_nil)) (ggs_cons (gg_name (i := 6) nd_least_lateness rfl (by first | exact .inl rfl | exact .inr rfl)) (ggs_cons (gg_name (i := 8) nd_least_lateness rfl (by first | exact .inl rfl | exact .inr rfl)) ggs_nil)))) (fun _ _ _ _ _ x7 => gts_nil) (fun _ _ _ _ _ x7 => (gc_op o2_sub (GC.b (gc_var (i := 8) rfl (by first | exact .inl rfl | exact .inr (.inl rfl) | exact .inr (.inr rfl)) rfl)) (GC.b (gc_ix (GC.b (gc_ix (GC.b (gc_var (i := 0) rfl (by first | exact .inl rfl | exact .inr (.inl rfl) | exact .inr (.inr rfl)) rfl)) (GC.b (gc_var (i := 6) rfl (by first | exact .inl rfl | exact .inr (.inl rfl) | exact .inr (.inr rfl)) rfl)))) (GC.b gc_int)))))) fun l11 => gs_ret (gc_tup (gas_cons (gc_callB (cd_max1 rfl (hr.units)) rfl T.b_max bt_max (ga_cons (GC.b (gc_op o2_cat (gb_own (i := 2) rfl (by first | exact .inl rfl | exact .inr (.inl rfl) | exact .inr (.inr rfl)) rfl) (GC.b (GN.fz (gn_lst (gas_cons gc_int gas_nil)))))) ga_nil)) (gas_cons (gc_callTy (cd_tuple) rfl T.b_tuple bt_tuple (ga_cons (GC.b (gc_var (i := 1) rfl (by first | exact .inl rfl | exact .inr (.inl rfl) | exact .inr (.inr rfl)) rfl)) ga_nil)) gas_nil))))))) rfl
theorem ok_least_lateness (T : Tx P K mg a d) : FnOk P w K mg base CX0 3 a.f_least_lateness d.d_least_lateness P_least_lateness (spR vwD a.PE P_least_lateness.length m_least_lateness_g) := by
  refine fn_ok T.F_least_lateness sc_least_lateness (fun cdv A outer s H E c as hr hl => ?_)
  match as, hl with
  | [x0], _ =>
    match x0 with
    | .d y0 => exact d_least_lateness T y0 cdv A outer s H E c hr
    | .st => exact gs_stuck
    | .fn _ => exact gs_stuck
/-! ### check_lamps -/
theorem nd_check_lamps : N_check_lamps.Nodup := by decide +kernel
theorem sc_check_lamps : FnScope N_check_lamps P_check_lamps (defScope (top 19)) := ⟨rfl, rfl, rfl, nd_check_lamps, rfl, by decide +kernel, by decide +kernel⟩
theorem d_check_lamps (T : Tx P K mg a d) (a_lamps : D) (cdv : Value) (A : Around) (outer : List Env) (s : Shared) (H : Hp) (E : XK) (c : Ct) (hr : Room 1 (A.deeper (envOfC "check_lamps" (defScope (top 19)) s.heap.objs.size a.f_check_lamps cdv))) :
    GSs (X0 P w K mg base N_check_lamps "check_lamps" (top 19) a.f_check_lamps cdv A outer s H E) c (vwD.md (fun _ _ _ _ => True) a.PE) (defBody (top 19)) [.va a_lamps, .no, .no] (KEnd vwD) KNo KNo (m_check_lamps a_lamps) :=
  GSs.cast (gs_ifX (GW.t (gw_or (gt_not (gt_val (GC.b (gc_isi rfl T.b_isinstance bt_isinstance rfl T.b_tuple bt_tuple (GC.b (gc_var (i := 0) rfl (by first | exact .inl rfl | exact .inr (.inl rfl) | exact .inr (.inr rfl)) rfl)))))) (gw_or1 (gt_not (gt_chain c2_le c2_le (GC.b gc_int) (GC.b (gc_callB (cd_len) rfl T.b_len bt_len (ga_cons (GC.b (gc_var (i := 0) rfl (by first | exact .inl rfl | exact .inr (.inl rfl) | exact .inr (.inr rfl)) rfl)) ga_nil))) (GC.b (gc_glob (by rfl) T.c_MAX_PLACES.choose_spec.1 T.c_MAX_PLACES.choose_spec.2))))))) (gs_stuck) (gs_for (S := Unit) (ι := (fun s5 => [.va a_lamps, .no, .no])) (fb := m_check_lamps_l1) () (.cons (.rf _) (.cons (.no _) (.cons (.no _) Lel.nil))) rfl PassesOwn.never (gif_seq (gc_var (i := 0) rfl (by first | exact .inl rfl | exact .inr (.inl rfl) | exact .inr (.inr rfl)) rfl)) (gg_name (i := 1) nd_check_lamps rfl (by first | exact .inl rfl | exact .inr rfl)) (fun s5 x8 kc6 kb7 => GSs.cast (gs_ifX (GW.t (gw_or (gt_not (gt_val (GC.b (gc_isi rfl T.b_isinstance bt_isinstance rfl T.b_tuple bt_tuple (GC.b (gc_var (i := 1) rfl (by first | exact .inl rfl | exact .inr (.inl rfl) | exact .inr (.inr rfl)) rfl)))))) (gw_or1 (gt_cmp (c2_ne hr.units) (GC.b (gc_callB (cd_len) rfl T.b_len bt_len (ga_cons (GC.b (gc_var (i := 1) rfl (by first | exact .inl rfl | exact .inr (.inl rfl) | exact .inr (.inr rfl)) rfl)) ga_nil))) (GC.b gc_int))))) (gs_stuck) (gs_ifX (gt_not (gt_val (GC.b (gc_callB (cd_all rfl) rfl T.b_all bt_all (ga_cons (GC.b (GN.fz (gn_lcG rfl nd_check_lamps (blkOk_by (by kernel_rfl)) (glc (own := [("own", 2)]) (noOwn_of rfl) (gib_seq (GC.b (gc_var (i := 1) rfl (by first | exact .inl rfl | exact .inr (.inl rfl) | exact .inr (.inr rfl)) rfl))) (by decide) (fun _ _ _ _ _ => (gg_name (i := 2) nd_check_lamps rfl (by first | exact .inl rfl | exact .inr rfl))) (fun _ _ _ _ _ x13 => gts_nil) (fun _ _ _ _ _ x13 => (gc_and (gc_call (g := m_is_integer_g) (ok_is_integer T) (hr.mono (by decide)) (by rfl) T.g_is_integer T.F_is_integer.kp T.bi_is_integer (gr_d (gc_var (i := 2) rfl (by first | exact .inl rfl | exact .inr (.inl rfl) | exact .inr (.inr rfl)) rfl) gr_nil)) (gc_one (gc_chain c2_le c2_le (GC.b gc_int) (GC.b (gc_var (i := 2) rfl (by first | exact .inl rfl | exact .inr (.inl rfl) | exact .inr (.inr rfl)) rfl)) (GC.b gc_int))))))))) ga_nil))))) (gs_stuck) (gs_to () (.cons (.rf _) (.cons (.no _) (.cons (.no _) Lel.nil)))))) rfl) fun s5 => gs_nil rfl)) rfl
theorem ok_check_lamps (T : Tx P K mg a d) : FnOk P w K mg base CX0 2 a.f_check_lamps d.d_check_lamps P_check_lamps (spR vwD a.PE P_check_lamps.length m_check_lamps_g) := by
  refine fn_ok T.F_check_lamps sc_check_lamps (fun cdv A outer s H E c as hr hl => ?_)
  match as, hl with
  | [x0], _ =>
    match x0 with
    | .d y0 => exact d_check_lamps T y0 cdv A outer s H E c hr
    | .st => exact gs_stuck
    | .fn _ => exact gs_stuck
/-! ### check_oil -/
theorem nd_check_oil : N_check_oil.Nodup := by decide +kernel
theorem sc_check_oil : FnScope N_check_oil P_check_oil (defScope (top 21)) := ⟨rfl, rfl, rfl, nd_check_oil, rfl, by decide +kernel, by decide +kernel⟩
theorem d_check_oil (T : Tx P K mg a d) (a_oil : D) (cdv : Value) (A : Around) (outer : List Env) (s : Shared) (H : Hp) (E : XK) (c : Ct) (hr : Room 1 (A.deeper (envOfC "check_oil" (defScope (top 21)) s.heap.objs.size a.f_check_oil cdv))) :
    GSs (X0 P w K mg base N_check_oil "check_oil" (top 21) a.f_check_oil cdv A outer s H E) c (vwD.md (fun _ _ _ _ => True) a.PE) (defBody (top 21)) [.va a_oil] (KEnd vwD) KNo KNo (m_check_oil a_oil) :=
  GSs.cast (gs_ifX (GW.t (gw_or (gt_not (gt_val (GC.b (gc_call (g := m_is_integer_g) (ok_is_integer T) (hr.mono (by decide)) (by rfl) T.g_is_integer T.F_is_integer.kp T.bi_is_integer (gr_d (gc_var (i := 0) rfl (by first | exact .inl rfl | exact .inr (.inl rfl) | exact .inr (.inr rfl)) rfl) gr_nil))))) (gw_or1 (gt_not (gt_chain c2_le c2_le (GC.b gc_int) (GC.b (gc_var (i := 0) rfl (by first | exact .inl rfl | exact .inr (.inl rfl) | exact .inr (.inr rfl)) rfl)) (GC.b (gc_glob (by rfl) T.c_MAX_HOURS.choose_spec.1 T.c_MAX_HOURS.choose_spec.2))))))) (gs_stuck) (gs_nil rfl)) rfl
theorem ok_check_oil (T : Tx P K mg a d) : FnOk P w K mg base CX0 2 a.f_check_oil d.d_check_oil P_check_oil (spR vwD a.PE P_check_oil.length m_check_oil_g) := by
  refine fn_ok T.F_check_oil sc_check_oil (fun cdv A outer s H E c as hr hl => ?_)
  match as, hl with
  | [x0], _ =>
    match x0 with
    | .d y0 => exact d_check_oil T y0 cdv A outer s H E c hr
    | .st => exact gs_stuck
    | .fn _ => exact gs_stuck
/-! ### best_lamps -/
theorem nd_best_lamps : N_best_lamps.Nodup := by decide +kernel
theorem sc_best_lamps : FnScope N_best_lamps P_best_lamps (defScope (top 20)) := ⟨rfl, rfl, rfl, nd_best_lamps, rfl, by decide +kernel, by decide +kernel⟩
theorem d_best_lamps (T : Tx P K mg a d) (a_lamps a_oil : D) (cdv : Value) (A : Around) (outer : List Env) (s : Shared) (H : Hp) (E : XK) (c : Ct) (hr : Room 2 (A.deeper (envOfC "best_lamps" (defScope (top 20)) s.heap.objs.size a.f_best_lamps cdv))) :
    GSs (X0 P w K mg base N_best_lamps "best_lamps" (top 20) a.f_best_lamps cdv A outer s H E) c (vwD.md (fun _ _ _ _ => True) a.PE) (defBody (top 20)) [.va a_lamps, .va a_oil, .no, .no, .no, .no, .no, .no, .no, .no] (KEnd vwD) KNo KNo (m_best_lamps a_lamps a_oil) :=
  GSs.cast (gs_expr (gc_call (g := m_check_lamps_g) (ok_check_lamps T) (hr.mono (by decide)) (by rfl) T.g_check_lamps T.F_check_lamps.kp T.bi_check_lamps (gr_d (gc_var (i := 0) rfl (by first | exact .inl rfl | exact .inr (.inl rfl) | exact .inr (.inr rfl)) rfl) gr_nil)) (gs_expr (gc_call (g := m_check_oil_g) (ok_check_oil T) (hr.mono (by decide)) (by rfl) T.g_check_oil T.F_check_oil.kp T.bi_check_oil (gr_d (gc_var (i := 1) rfl (by first | exact .inl rfl | exact .inr (.inl rfl) | exact .inr (.inr rfl)) rfl) gr_nil)) (gs_setN (i := 2) nd_best_lamps rfl (by first | exact .inl rfl | exact .inr rfl) (gn_lst (gas_cons (gc_op o2_repL (GC.b (GN.fz (gn_lst (gas_cons gc_int gas_nil)))) (GC.b (gc_op o2_add (GC.b (gc_var (i := 1) rfl (by first | exact .inl rfl | exact .inr (.inl rfl) | exact .inr (.inr rfl)) rfl)) (GC.b gc_int)))) gas_nil)) fun l1 => gs_for (S := List D) (ι := (fun s2 => [.va a_lamps, .va a_oil, .ow s2, .no, .no, .no, .no, .no, .no, .no])) (fb := (m_best_lamps_l1 a_oil)) l1 (.cons (.rf _) (.cons (.rf _) (.cons (.rf _) (.cons (.no _) (.cons (.no _) (.cons (.no _) (.cons (.no _) (.cons (.no _) (.cons (.no _) (.cons (.no _) Lel.nil)))))))))) rfl PassesOwn.never (gif_seq (gc_rev (GC.b (gc_var (i := 0) rfl (by first | exact .inl rfl | exact .inr (.inl rfl) | exact .inr (.inr rfl)) rfl)) (go_some (GC.b (gc_neg (GC.b gc_int)))))) (gg_tup rfl (len_cons (len_cons len_nil)) (ggs_cons (gg_name (i := 3) nd_best_lamps rfl (by first | exact .inl rfl | exact .inr rfl)) (ggs_cons (gg_name (i := 4) nd_best_lamps rfl (by first | exact .inl rfl | exact .inr rfl)) ggs_nil))) (fun s2 x5 kc3 kb4 => GSs.cast (gs_set (i := 5) nd_best_lamps rfl (by first | exact .inl rfl | exact .inr rfl) (gc_ix (gb_own (i := 2) rfl (by first | exact .inl rfl | exact .inr (.inl rfl) | exact .inr (.inr rfl)) rfl) (GC.b (gc_neg (GC.b gc_int)))) fun ahead6 => gs_append (i := 2) rfl (by first | exact .inl rfl | exact .inr (.inl rfl) | exact .inr (.inr rfl)) rfl (GN.fz (gn_lcG rfl nd_best_lamps (blkOk_by (by kernel_rfl)) (glc (own := [("own", 9)]) (noOwn_of rfl) (GIF.b (gif_range1 rfl T.b_range (ga_cons (GC.b (gc_op o2_add (GC.b (gc_var (i := 1) rfl (by first | exact .inl rfl | exact .inr (.inl rfl) | exact .inr (.inr rfl)) rfl)) (GC.b gc_int))) ga_nil))) (by decide) (fun _ _ _ _ _ => (gg_name (i := 9) nd_best_lamps rfl (by first | exact .inl rfl | exact .inr rfl))) (fun _ _ _ _ _ x8 => gts_nil) (fun _ _ _ _ _ x8 => (gc_callB (cd_max2 rfl) rfl T.b_max bt_max (ga_cons (GC.b (gc_ix (GC.b (gc_var (i := 5) rfl (by first | exact .inl rfl | exact .inr (.inl rfl) | exact .inr (.inr rfl)) rfl)) (GC.b (gc_var (i := 9) rfl (by first | exact .inl rfl | exact .inr (.inl rfl) | exact .inr (.inr rfl)) rfl)))) (ga_cons (GC.b (gc_ifx (gt_cmp c2_ge (GC.b (gc_var (i := 9) rfl (by first | exact .inl rfl | exact .inr (.inl rfl) | exact .inr (.inr rfl)) rfl)) (GC.b (gc_var (i := 4) rfl (by first | exact .inl rfl | exact .inr (.inl rfl) | exact .inr (.inr rfl)) rfl))) (gc_op o2_add (GC.b (gc_ix (GC.b (gc_var (i := 5) rfl (by first | exact .inl rfl | exact .inr (.inl rfl) | exact .inr (.inr rfl)) rfl)) (GC.b (gc_op o2_sub (GC.b (gc_var (i := 9) rfl (by first | exact .inl rfl | exact .inr (.inl rfl) | exact .inr (.inr rfl)) rfl)) (GC.b (gc_var (i := 4) rfl (by first | exact .inl rfl | exact .inr (.inl rfl) | exact .inr (.inr rfl)) rfl)))))) (GC.b (gc_var (i := 3) rfl (by first | exact .inl rfl | exact .inr (.inl rfl) | exact .inr (.inr rfl)) rfl))) gc_int)) ga_nil))))))) fun l7 => gs_to l7 (.cons (.rf _) (.cons (.rf _) (.cons (.rf _) (.cons (.no _) (.cons (.no _) (.cons (.no _) (.cons (.no _) (.cons (.no _) (.cons (.no _) (.cons (.no _) Lel.nil))))))))))) rfl) fun s2 => gs_set (i := 2) nd_best_lamps rfl (by first | exact .inl rfl | exact .inr rfl) (gc_rev (gb_own (i := 2) rfl (by first | exact .inl rfl | exact .inr (.inl rfl) | exact .inr (.inr rfl)) rfl) (go_some (GC.b (gc_neg (GC.b gc_int))))) fun rows21 => gs_par2 (i := 6) (j := 7) rfl nd_best_lamps rfl rfl (GN.ge (gn_lst gas_nil)) (GC.ge (gc_var (i := 1) rfl (by first | exact .inl rfl | exact .inr (.inl rfl) | exact .inr (.inr rfl)) rfl)) fun l22 left23 => gs_for (S := List D × D) (ι := (fun s24 => [.va a_lamps, .va a_oil, .va rows21, .no, .no, .no, .ow s24.1, .va s24.2, .no, .no])) (fb := (m_best_lamps_l2 rows21)) (l22, left23) (.cons (.rf _) (.cons (.rf _) (.cons (.rf _) (.cons (.no _) (.cons (.no _) (.cons (.no _) (.cons (.rf _) (.cons (.rf _) (.cons (.no _) (.cons (.no _) Lel.nil)))))))))) rfl PassesOwn.never (gif_enum (by rfl) T.b_enumerate (gas_cons (gc_var (i := 0) rfl (by first | exact .inl rfl | exact .inr (.inl rfl) | exact .inr (.inr rfl)) rfl) gas_nil)) (gg_tup rfl (len_cons (len_cons len_nil)) (ggs_cons (gg_name (i := 8) nd_best_lamps rfl (by first | exact .inl rfl | exact .inr rfl)) (ggs_cons (gg_tup rfl (len_cons (len_cons len_nil)) (ggs_cons (gg_name (i := 3) nd_best_lamps rfl (by first | exact .inl rfl | exact .inr rfl)) (ggs_cons (gg_name (i := 4) nd_best_lamps rfl (by first | exact .inl rfl | exact .inr rfl)) ggs_nil))) ggs_nil))) (fun s24 x27 kc25 kb26 => GSs.cast (gs_ifX (gt_cmp (c2_eq hr.units) (GC.b (gc_ix (GC.b (gc_ix (GC.b (gc_var (i := 2) rfl (by first | exact .inl rfl | exact .inr (.inl rfl) | exact .inr (.inr rfl)) rfl)) (GC.b (gc_var (i := 8) rfl (by first | exact .inl rfl | exact .inr (.inl rfl) | exact .inr (.inr rfl)) rfl)))) (GC.b (gc_var (i := 7) rfl (by first | exact .inl rfl | exact .inr (.inl rfl) | exact .inr (.inr rfl)) rfl)))) (GC.b gc_int)) (gs_break (s24.1, s24.2) (.cons (.rf _) (.cons (.rf _) (.cons (.rf _) (.cons (.no _) (.cons (.no _) (.cons (.no _) (.cons (.rf _) (.cons (.rf _) (.cons (.no _) (.cons (.no _) Lel.nil))))))))))) (gs_if (S := List D × D) (ι := (fun s37 => [.va a_lamps, .va a_oil, .va rows21, .va x27.2.1.1, .va x27.2.1.2.1, .no, .ow s37.1, .va s37.2, .va x27.1, .no])) (k := (m_best_lamps_j3 kc25)) (GW.t (gw_and (gt_cmp c2_ge (GC.b (gc_var (i := 7) rfl (by first | exact .inl rfl | exact .inr (.inl rfl) | exact .inr (.inr rfl)) rfl)) (GC.b (gc_var (i := 4) rfl (by first | exact .inl rfl | exact .inr (.inl rfl) | exact .inr (.inr rfl)) rfl))) (gw_and1 (gt_cmp (c2_eq hr.units) (GC.b (gc_op o2_add (GC.b (gc_ix (GC.b (gc_ix (GC.b (gc_var (i := 2) rfl (by first | exact .inl rfl | exact .inr (.inl rfl) | exact .inr (.inr rfl)) rfl)) (GC.b (gc_op o2_add (GC.b (gc_var (i := 8) rfl (by first | exact .inl rfl | exact .inr (.inl rfl) | exact .inr (.inr rfl)) rfl)) (GC.b gc_int))))) (GC.b (gc_op o2_sub (GC.b (gc_var (i := 7) rfl (by first | exact .inl rfl | exact .inr (.inl rfl) | exact .inr (.inr rfl)) rfl)) (GC.b (gc_var (i := 4) rfl (by first | exact .inl rfl | exact .inr (.inl rfl) | exact .inr (.inr rfl)) rfl)))))) (GC.b (gc_var (i := 3) rfl (by first | exact .inl rfl | exact .inr (.inl rfl) | exact .inr (.inr rfl)) rfl)))) (GC.b (gc_ix (GC.b (gc_ix (GC.b (gc_var (i := 2) rfl (by first | exact .inl rfl | exact .inr (.inl rfl) | exact .inr (.inr rfl)) rfl)) (GC.b (gc_var (i := 8) rfl (by first | exact .inl rfl | exact .inr (.inl rfl) | exact .inr (.inr rfl)) rfl)))) (GC.b (gc_var (i := 7) rfl (by first | exact .inl rfl | exact .inr (.inl rfl) | exact .inr (.inr rfl)) rfl)))))))) (gs_append (i := 6) rfl (by first | exact .inl rfl | exact .inr (.inl rfl) | exact .inr (.inr rfl)) rfl (gc_var (i := 8) rfl (by first | exact .inl rfl | exact .inr (.inl rfl) | exact .inr (.inr rfl)) rfl) fun l39 => gs_aug (i := 7) ip_sub nd_best_lamps rfl (by first | exact .inl rfl | exact .inr rfl) rfl (GC.b (gc_var (i := 4) rfl (by first | exact .inl rfl | exact .inr (.inl rfl) | exact .inr (.inr rfl)) rfl)) fun left40 => gs_to (l39, left40) (.cons (.rf _) (.cons (.rf _) (.cons (.rf _) (.cons (.rf _) (.cons (.rf _) (.cons (.no _) (.cons (.rf _) (.cons (.rf _) (.cons (.rf _) (.cons (.no _) Lel.nil))))))))))) (gs_to (s24.1, s24.2) (.cons (.rf _) (.cons (.rf _) (.cons (.rf _) (.cons (.rf _) (.cons (.rf _) (.cons (.no _) (.cons (.rf _) (.cons (.rf _) (.cons (.rf _) (.cons (.no _) Lel.nil))))))))))) fun s37 => GSs.cast (gs_to (s37.1, s37.2) (.cons (.rf _) (.cons (.rf _) (.cons (.rf _) (.cons (.no _) (.cons (.no _) (.cons (.no _) (.cons (.rf _) (.cons (.rf _) (.cons (.no _) (.cons (.no _) Lel.nil))))))))))) rfl)) rfl) fun s24 => gs_ret (gc_tup (gas_cons (gc_ix (GC.b (gc_ix (GC.b (gc_var (i := 2) rfl (by first | exact .inl rfl | exact .inr (.inl rfl) | exact .inr (.inr rfl)) rfl)) (GC.b gc_int))) (GC.b (gc_var (i := 1) rfl (by first | exact .inl rfl | exact .inr (.inl rfl) | exact .inr (.inr rfl)) rfl))) (gas_cons (gc_callTy (cd_tuple) rfl T.b_tuple bt_tuple (ga_cons (gb_own (i := 6) rfl (by first | exact .inl rfl | exact .inr (.inl rfl) | exact .inr (.inr rfl)) rfl) ga_nil)) gas_nil)))))) rfl
theorem ok_best_lamps (T : Tx P K mg a d) : FnOk P w K mg base CX0 3 a.f_best_lamps d.d_best_lamps P_best_lamps (spR vwD a.PE P_best_lamps.length m_best_lamps_g) := by
  refine fn_ok T.F_best_lamps sc_best_lamps (fun cdv A outer s H E c as hr hl => ?_)
  match as, hl with
  | [x0, x1], _ =>
    match x0, x1 with
    | .d y0, .d y1 => exact d_best_lamps T y0 y1 cdv A outer s H E c hr
    | .st, _ => exact gs_stuck
    | .fn _, _ => exact gs_stuck
    | .d _, .st => exact gs_stuck
    | .d _, .fn _ => exact gs_stuck
/-! ### accept_lamps -/
theorem nd_accept_lamps : N_accept_lamps.Nodup := by decide +kernel
theorem sc_accept_lamps : FnScope N_accept_lamps P_accept_lamps (defScope (top 22)) := ⟨rfl, rfl, rfl, nd_accept_lamps, rfl, by decide +kernel, by decide +kernel⟩
theorem d_accept_lamps (T : Tx P K mg a d) (a_lamps a_oil a_numbers a_worth : D) (cdv : Value) (A : Around) (outer : List Env) (s : Shared) (H : Hp) (E : XK) (c : Ct) (hr : Room 2 (A.deeper (envOfC "accept_lamps" (defScope (top 22)) s.heap.objs.size a.f_accept_lamps cdv))) :
    GSs (X1 P w K mg base N_accept_lamps "accept_lamps" (top 22) a.f_accept_lamps cdv A outer s H E) c (vwX.md (fun cls d _ H => E cls d H) a.PE) (defBody (top 22)) [.va a_lamps, .va a_oil, .va a_numbers, .va a_worth, .no] (KEnd vwX) KNo KNo (m_accept_lamps a_lamps a_oil a_numbers a_worth) :=
  GSs.cast (gs_expr (gc_call (g := m_check_lamps_g) (ok_check_lamps T) (hr.mono (by decide)) (by rfl) T.g_check_lamps T.F_check_lamps.kp T.bi_check_lamps (gr_d (gc_var (i := 0) rfl (by first | exact .inl rfl | exact .inr (.inl rfl) | exact .inr (.inr rfl)) rfl) gr_nil)) (gs_expr (gc_call (g := m_check_oil_g) (ok_check_oil T) (hr.mono (by decide)) (by rfl) T.g_check_oil T.F_check_oil.kp T.bi_check_oil (gr_d (gc_var (i := 1) rfl (by first | exact .inl rfl | exact .inr (.inl rfl) | exact .inr (.inr rfl)) rfl) gr_nil)) (gs_ifX (GW.t (gw_or (gt_not (gt_val (GC.b (gc_isi rfl T.b_isinstance bt_isinstance rfl T.b_tuple bt_tuple (GC.b (gc_var (i := 2) rfl (by first | exact .inl rfl | exact .inr (.inl rfl) | exact .inr (.inr rfl)) rfl)))))) (gw_or1 (gt_not (gt_val (GC.b (gc_callB (cd_all rfl) rfl T.b_all bt_all (ga_cons (GC.b (GN.fz (gn_lcG rfl nd_accept_lamps (blkOk_by (by kernel_rfl)) (glc (own := [("at", 4)]) (noOwn_of rfl) (gib_seq (GC.b (gc_var (i := 2) rfl (by first | exact .inl rfl | exact .inr (.inl rfl) | exact .inr (.inr rfl)) rfl))) (by decide) (fun _ _ _ _ _ => (gg_name (i := 4) nd_accept_lamps rfl (by first | exact .inl rfl | exact .inr rfl))) (fun _ _ _ _ _ x1 => gts_nil) (fun _ _ _ _ _ x1 => (gc_and (gc_call (g := m_is_integer_g) (ok_is_integer T) (hr.mono (by decide)) (by rfl) T.g_is_integer T.F_is_integer.kp T.bi_is_integer (gr_d (gc_var (i := 4) rfl (by first | exact .inl rfl | exact .inr (.inl rfl) | exact .inr (.inr rfl)) rfl) gr_nil)) (gc_one (gc_chain c2_le c2_lt (GC.b gc_int) (GC.b (gc_var (i := 4) rfl (by first | exact .inl rfl | exact .inr (.inl rfl) | exact .inr (.inr rfl)) rfl)) (GC.b (gc_callB (cd_len) rfl T.b_len bt_len (ga_cons (GC.b (gc_var (i := 0) rfl (by first | exact .inl rfl | exact .inr (.inl rfl) | exact .inr (.inr rfl)) rfl)) ga_nil))))))))))) ga_nil)))))))) (gs_raise (M := vwX.md _ _) rfl T.err hr (takes_of rfl rfl rfl rfl) rfl T.g_PaperError) (gs_ifX (GW.t (gw_or (gt_val (GC.b (GN.fz (gn_lcG rfl nd_accept_lamps (blkOk_by (by kernel_rfl)) (glc (own := [("at", 4)]) (noOwn_of rfl) (GIF.b (gif_range1 rfl T.b_range (ga_cons (GC.b (gc_op o2_sub (GC.b (gc_callB (cd_len) rfl T.b_len bt_len (ga_cons (GC.b (gc_var (i := 2) rfl (by first | exact .inl rfl | exact .inr (.inl rfl) | exact .inr (.inr rfl)) rfl)) ga_nil))) (GC.b gc_int))) ga_nil))) (by decide) (fun _ _ _ _ _ => (gg_name (i := 4) nd_accept_lamps rfl (by first | exact .inl rfl | exact .inr rfl))) (fun _ _ _ _ _ x12 => (gts_one (gt_cmp c2_ge (GC.b (gc_ix (GC.b (gc_var (i := 2) rfl (by first | exact .inl rfl | exact .inr (.inl rfl) | exact .inr (.inr rfl)) rfl)) (GC.b (gc_var (i := 4) rfl (by first | exact .inl rfl | exact .inr (.inl rfl) | exact .inr (.inr rfl)) rfl)))) (GC.b (gc_ix (GC.b (gc_var (i := 2) rfl (by first | exact .inl rfl | exact .inr (.inl rfl) | exact .inr (.inr rfl)) rfl)) (GC.b (gc_op o2_add (GC.b (gc_var (i := 4) rfl (by first | exact .inl rfl | exact .inr (.inl rfl) | exact .inr (.inr rfl)) rfl)) (GC.b gc_int)))))))) (fun _ _ _ _ _ x12 => gc_int)))))) (gw_or1 (gt_not (gt_val (GC.b (gc_call (g := m_is_integer_g) (ok_is_integer T) (hr.mono (by decide)) (by rfl) T.g_is_integer T.F_is_integer.kp T.bi_is_integer (gr_d (gc_var (i := 3) rfl (by first | exact .inl rfl | exact .inr (.inl rfl) | exact .inr (.inr rfl)) rfl) gr_nil)))))))) (gs_raise (M := vwX.md _ _) rfl T.err hr (takes_of rfl rfl rfl rfl) rfl T.g_PaperError) (gs_ifX (gt_cmp c2_gt (GC.b (gc_callB (cd_sum rfl) rfl T.b_sum bt_sum (ga_cons (GC.b (GN.fz (gn_lcG rfl nd_accept_lamps (blkOk_by (by kernel_rfl)) (glc (own := [("at", 4)]) (noOwn_of rfl) (gib_seq (GC.b (gc_var (i := 2) rfl (by first | exact .inl rfl | exact .inr (.inl rfl) | exact .inr (.inr rfl)) rfl))) (by decide) (fun _ _ _ _ _ => (gg_name (i := 4) nd_accept_lamps rfl (by first | exact .inl rfl | exact .inr rfl))) (fun _ _ _ _ _ x24 => gts_nil) (fun _ _ _ _ _ x24 => (gc_ix (GC.b (gc_ix (GC.b (gc_var (i := 0) rfl (by first | exact .inl rfl | exact .inr (.inl rfl) | exact .inr (.inr rfl)) rfl)) (GC.b (gc_var (i := 4) rfl (by first | exact .inl rfl | exact .inr (.inl rfl) | exact .inr (.inr rfl)) rfl)))) (GC.b gc_int))))))) ga_nil))) (GC.b (gc_var (i := 1) rfl (by first | exact .inl rfl | exact .inr (.inl rfl) | exact .inr (.inr rfl)) rfl))) (gs_raise (M := vwX.md _ _) rfl T.err hr (takes_of rfl rfl rfl rfl) rfl T.g_PaperError) (gs_ifX (gt_cmp c2_lt (GC.b (gc_callB (cd_sum rfl) rfl T.b_sum bt_sum (ga_cons (GC.b (GN.fz (gn_lcG rfl nd_accept_lamps (blkOk_by (by kernel_rfl)) (glc (own := [("at", 4)]) (noOwn_of rfl) (gib_seq (GC.b (gc_var (i := 2) rfl (by first | exact .inl rfl | exact .inr (.inl rfl) | exact .inr (.inr rfl)) rfl))) (by decide) (fun _ _ _ _ _ => (gg_name (i := 4) nd_accept_lamps rfl (by first | exact .inl rfl | exact .inr rfl))) (fun _ _ _ _ _ x27 => gts_nil) (fun _ _ _ _ _ x27 => (gc_ix (GC.b (gc_ix (GC.b (gc_var (i := 0) rfl (by first | exact .inl rfl | exact .inr (.inl rfl) | exact .inr (.inr rfl)) rfl)) (GC.b (gc_var (i := 4) rfl (by first | exact .inl rfl | exact .inr (.inl rfl) | exact .inr (.inr rfl)) rfl)))) (GC.b gc_int))))))) ga_nil))) (GC.b (gc_var (i := 3) rfl (by first | exact .inl rfl | exact .inr (.inl rfl) | exact .inr (.inr rfl)) rfl))) (gs_raise (M := vwX.md _ _) rfl T.err hr (takes_of rfl rfl rfl rfl) rfl T.g_PaperError) (gs_nil rfl))))))) rfl
theorem ok_accept_lamps (T : Tx P K mg a d) : FnOk P w K mg base (L2.CX P w) 3 a.f_accept_lamps d.d_accept_lamps P_accept_lamps (spR vwX a.PE P_accept_lamps.length m_accept_lamps_g) := by
  refine fn_okX T.F_accept_lamps sc_accept_lamps (fun cdv A outer s H E c as hr hl => ?_)
  match as, hl with
  | [x0, x1, x2, x3], _ =>
    match x0, x1, x2, x3 with
    | .d y0, .d y1, .d y2, .d y3 => exact d_accept_lamps T y0 y1 y2 y3 cdv A outer s H E c hr
    | .st, _, _, _ => exact gs_stuck
    | .fn _, _, _, _ => exact gs_stuck
    | .d _, .st, _, _ => exact gs_stuck
    | .d _, .fn _, _, _ => exact gs_stuck
    | .d _, .d _, .st, _ => exact gs_stuck
    | .d _, .d _, .fn _, _ => exact gs_stuck
    | .d _, .d _, .d _, .st => exact gs_stuck
    | .d _, .d _, .d _, .fn _ => exact gs_stuck
/-! ### accept_price -/
theorem nd_accept_price : N_accept_price.Nodup := by decide +kernel
theorem sc_accept_price : FnScope N_accept_price P_accept_price (defScope (top 23)) := ⟨rfl, rfl, rfl, nd_accept_price, rfl, by decide +kernel, by decide +kernel⟩
theorem d_accept_price (T : Tx P K mg a d) (a_lamps a_oil a_up a_down a_worth : D) (cdv : Value) (A : Around) (outer : List Env) (s : Shared) (H : Hp) (E : XK) (c : Ct) (hr : Room 2 (A.deeper (envOfC "accept_price" (defScope (top 23)) s.heap.objs.size a.f_accept_price cdv))) :
    GSs (X1 P w K mg base N_accept_price "accept_price" (top 23) a.f_accept_price cdv A outer s H E) c (vwX.md (fun cls d _ H => E cls d H) a.PE) (defBody (top 23)) [.va a_lamps, .va a_oil, .va a_up, .va a_down, .va a_worth, .no, .no] (KEnd vwX) KNo KNo (m_accept_price a_lamps a_oil a_up a_down a_worth) :=
  GSs.cast (gs_expr (gc_call (g := m_check_lamps_g) (ok_check_lamps T) (hr.mono (by decide)) (by rfl) T.g_check_lamps T.F_check_lamps.kp T.bi_check_lamps (gr_d (gc_var (i := 0) rfl (by first | exact .inl rfl | exact .inr (.inl rfl) | exact .inr (.inr rfl)) rfl) gr_nil)) (gs_expr (gc_call (g := m_check_oil_g) (ok_check_oil T) (hr.mono (by decide)) (by rfl) T.g_check_oil T.F_check_oil.kp T.bi_check_oil (gr_d (gc_var (i := 1) rfl (by first | exact .inl rfl | exact .inr (.inl rfl) | exact .inr (.inr rfl)) rfl) gr_nil)) (gs_ifX (GW.t (gw_or (gt_not (gt_val (GC.b (gc_callB (cd_all rfl) rfl T.b_all bt_all (ga_cons (GC.b (GN.fz (gn_lcG rfl nd_accept_price (blkOk_by (by kernel_rfl)) (glc (own := [("own", 5)]) (noOwn_of rfl) (gib_seq (GC.b (gc_tup (gas_cons (gc_var (i := 2) rfl (by first | exact .inl rfl | exact .inr (.inl rfl) | exact .inr (.inr rfl)) rfl) (gas_cons (gc_var (i := 3) rfl (by first | exact .inl rfl | exact .inr (.inl rfl) | exact .inr (.inr rfl)) rfl) (gas_cons (gc_var (i := 4) rfl (by first | exact .inl rfl | exact .inr (.inl rfl) | exact .inr (.inr rfl)) rfl) gas_nil)))))) (by decide) (fun _ _ _ _ _ => (gg_name (i := 5) nd_accept_price rfl (by first | exact .inl rfl | exact .inr rfl))) (fun _ _ _ _ _ x1 => gts_nil) (fun _ _ _ _ _ x1 => (gc_call (g := m_is_integer_g) (ok_is_integer T) (hr.mono (by decide)) (by rfl) T.g_is_integer T.F_is_integer.kp T.bi_is_integer (gr_d (gc_var (i := 5) rfl (by first | exact .inl rfl | exact .inr (.inl rfl) | exact .inr (.inr rfl)) rfl) gr_nil))))))) ga_nil))))) (gw_or (gt_cmp c2_lt (GC.b (gc_var (i := 2) rfl (by first | exact .inl rfl | exact .inr (.inl rfl) | exact .inr (.inr rfl)) rfl)) (GC.b gc_int)) (gw_or1 (gt_cmp c2_lt (GC.b (gc_var (i := 3) rfl (by first | exact .inl rfl | exact .inr (.inl rfl) | exact .inr (.inr rfl)) rfl)) (GC.b gc_int)))))) (gs_raise (M := vwX.md _ _) rfl T.err hr (takes_of rfl rfl rfl rfl) rfl T.g_PaperError) (gs_ifX (gt_cmp c2_ge (GC.b (gc_op o2_add (GC.b (gc_op o2_mul (GC.b (gc_var (i := 1) rfl (by first | exact .inl rfl | exact .inr (.inl rfl) | exact .inr (.inr rfl)) rfl)) (GC.b (gc_var (i := 2) rfl (by first | exact .inl rfl | exact .inr (.inl rfl) | exact .inr (.inr rfl)) rfl)))) (GC.b (gc_callB (cd_sum rfl) rfl T.b_sum bt_sum (ga_cons (GC.b (GN.fz (gn_lcG rfl nd_accept_price (blkOk_by (by kernel_rfl)) (glc (own := [("own", 5), ("hour", 6)]) (noOwn_of rfl) (gib_seq (GC.b (gc_var (i := 0) rfl (by first | exact .inl rfl | exact .inr (.inl rfl) | exact .inr (.inr rfl)) rfl))) (by decide) (fun _ _ _ _ _ => (gg_tup rfl (len_cons (len_cons len_nil)) (ggs_cons (gg_name (i := 5) nd_accept_price rfl (by first | exact .inl rfl | exact .inr rfl)) (ggs_cons (gg_name (i := 6) nd_accept_price rfl (by first | exact .inl rfl | exact .inr rfl)) ggs_nil)))) (fun _ _ _ _ _ x9 => gts_nil) (fun _ _ _ _ _ x9 => (gc_callB (cd_max2 rfl) rfl T.b_max bt_max (ga_cons (GC.b gc_int) (ga_cons (GC.b (gc_op o2_sub (GC.b (gc_op o2_mul (GC.b (gc_var (i := 5) rfl (by first | exact .inl rfl | exact .inr (.inl rfl) | exact .inr (.inr rfl)) rfl)) (GC.b (gc_var (i := 3) rfl (by first | exact .inl rfl | exact .inr (.inl rfl) | exact .inr (.inr rfl)) rfl)))) (GC.b (gc_op o2_mul (GC.b (gc_var (i := 6) rfl (by first | exact .inl rfl | exact .inr (.inl rfl) | exact .inr (.inr rfl)) rfl)) (GC.b (gc_var (i := 2) rfl (by first | exact .inl rfl | exact .inr (.inl rfl) | exact .inr (.inr rfl)) rfl)))))) ga_nil)))))))) ga_nil))))) (GC.b (gc_op o2_mul (GC.b (gc_op o2_add (GC.b (gc_var (i := 4) rfl (by first | exact .inl rfl | exact .inr (.inl rfl) | exact .inr (.inr rfl)) rfl)) (GC.b gc_int))) (GC.b (gc_var (i := 3) rfl (by first | exact .inl rfl | exact .inr (.inl rfl) | exact .inr (.inr rfl)) rfl))))) (gs_raise (M := vwX.md _ _) rfl T.err hr (takes_of rfl rfl rfl rfl) rfl T.g_PaperError) (gs_nil rfl))))) rfl
theorem ok_accept_price (T : Tx P K mg a d) : FnOk P w K mg base (L2.CX P w) 3 a.f_accept_price d.d_accept_price P_accept_price (spR vwX a.PE P_accept_price.length m_accept_price_g) := by
  refine fn_okX T.F_accept_price sc_accept_price (fun cdv A outer s H E c as hr hl => ?_)
  match as, hl with
  | [x0, x1, x2, x3, x4], _ =>
    match x0, x1, x2, x3, x4 with
    | .d y0, .d y1, .d y2, .d y3, .d y4 => exact d_accept_price T y0 y1 y2 y3 y4 cdv A outer s H E c hr
    | .st, _, _, _, _ => exact gs_stuck
    | .fn _, _, _, _, _ => exact gs_stuck
    | .d _, .st, _, _, _ => exact gs_stuck
    | .d _, .fn _, _, _, _ => exact gs_stuck
    | .d _, .d _, .st, _, _ => exact gs_stuck
    | .d _, .d _, .fn _, _, _ => exact gs_stuck
    | .d _, .d _, .d _, .st, _ => exact gs_stuck
    | .d _, .d _, .d _, .fn _, _ => exact gs_stuck
    | .d _, .d _, .d _, .d _, .st => exact gs_stuck
    | .d _, .d _, .d _, .d _, .fn _ => exact gs_stuck
/-! ### _law_pick -/
theorem nd__law_pick : N__law_pick.Nodup := by decide +kernel
theorem sc__law_pick : FnScope N__law_pick P__law_pick (defScope (top 27)) := ⟨rfl, rfl, rfl, nd__law_pick, rfl, by decide +kernel, by decide +kernel⟩
theorem d__law_pick (T : Tx P K mg a d) (a_some : D) (cdv : Value) (A : Around) (outer : List Env) (s : Shared) (H : Hp) (E : XK) (c : Ct) (hr : Room 1 (A.deeper (envOfC "_law_pick" (defScope (top 27)) s.heap.objs.size a.f__law_pick cdv))) :
    GSs (X0 P w K mg base N__law_pick "_law_pick" (top 27) a.f__law_pick cdv A outer s H E) c (vwW.md (fun _ _ _ _ => True) a.PE) (defBody (top 27)) [.st, .va a_some] (KEnd vwW) KNo KNo (m__law_pick a_some) :=
  GSs.cast (gs_ret (gc_ix (GC.b (gc_var (i := 1) rfl (by first | exact .inl rfl | exact .inr (.inl rfl) | exact .inr (.inr rfl)) rfl)) (GC.b (gw_call (g := drawG) (ok__law_draw T) (hr.mono (by decide)) (by rfl) T.g__law_draw T.F__law_draw.kp T.bi__law_draw (gr_st (i := 0) rfl (by first | exact .inl rfl | exact .inr (.inl rfl) | exact .inr (.inr rfl)) rfl (gr_d (gc_callB (cd_len) rfl T.b_len bt_len (ga_cons (GC.b (gc_var (i := 1) rfl (by first | exact .inl rfl | exact .inr (.inl rfl) | exact .inr (.inr rfl)) rfl)) ga_nil)) gr_nil)))))) rfl
theorem ok__law_pick (T : Tx P K mg a d) : FnOk P w K mg base CX0 2 a.f__law_pick d.d__law_pick P__law_pick (spR vwW a.PE P__law_pick.length m__law_pick_g) := by
  refine fn_ok T.F__law_pick sc__law_pick (fun cdv A outer s H E c as hr hl => ?_)
  match as, hl with
  | [x0, x1], _ =>
    match x0, x1 with
    | .st, .d y1 => exact d__law_pick T y1 cdv A outer s H E c hr
    | .d _, _ => exact gs_stuck
    | .fn _, _ => exact gs_stuck
    | .st, .st => exact gs_stuck
    | .st, .fn _ => exact gs_stuck
/-! ### _law_sets -/
theorem nd__law_sets : N__law_sets.Nodup := by decide +kernel
theorem sc__law_sets : FnScope N__law_sets P__law_sets (defScope (top 28)) := ⟨rfl, rfl, rfl, nd__law_sets, rfl, by decide +kernel, by decide +kernel⟩
theorem d__law_sets (T : Tx P K mg a d) (a_many : D) (cdv : Value) (A : Around) (outer : List Env) (s : Shared) (H : Hp) (E : XK) (c : Ct) (hr : Room 0 (A.deeper (envOfC "_law_sets" (defScope (top 28)) s.heap.objs.size a.f__law_sets cdv))) :
    GSs (X0 P w K mg base N__law_sets "_law_sets" (top 28) a.f__law_sets cdv A outer s H E) c (vwL.md (fun _ _ _ _ => True) a.PE) (defBody (top 28)) [.va a_many, .no, .no, .no, .no] (KEnd vwL) KNo KNo (m__law_sets a_many) :=
  GSs.cast (gs_setN (i := 1) nd__law_sets rfl (by first | exact .inl rfl | exact .inr rfl) (gn_lst (gas_cons (gc_tup gas_nil) gas_nil)) fun l1 => gs_weak (.cons (.rf _) (.cons (.fz _) (.cons (.no _) (.cons (.no _) (.cons (.no _) Lel.nil))))) (gs_for (S := D) (ι := (fun s2 => [.va a_many, .va s2, .no, .no, .no])) (fb := m__law_sets_l1) (.list l1) (.cons (.rf _) (.cons (.rf _) (.cons (.no _) (.cons (.no _) (.cons (.no _) Lel.nil))))) rfl PassesOwn.never (gif_range1 rfl T.b_range (ga_cons (GC.b (gc_var (i := 0) rfl (by first | exact .inl rfl | exact .inr (.inl rfl) | exact .inr (.inr rfl)) rfl)) ga_nil)) (gg_name (i := 2) nd__law_sets rfl (by first | exact .inl rfl | exact .inr rfl)) (fun s2 x5 kc3 kb4 => GSs.cast (gs_set (i := 1) nd__law_sets rfl (by first | exact .inl rfl | exact .inr rfl) (gc_op o2_cat (GC.b (gc_var (i := 1) rfl (by first | exact .inl rfl | exact .inr (.inl rfl) | exact .inr (.inr rfl)) rfl)) (GC.b (GN.fz (gn_lcG rfl nd__law_sets (blkOk_by (by kernel_rfl)) (glc (own := [("one", 3)]) (noOwn_of rfl) (gib_seq (GC.b (gc_var (i := 1) rfl (by first | exact .inl rfl | exact .inr (.inl rfl) | exact .inr (.inr rfl)) rfl))) (by decide) (fun _ _ _ _ _ => (gg_name (i := 3) nd__law_sets rfl (by first | exact .inl rfl | exact .inr rfl))) (fun _ _ _ _ _ x6 => gts_nil) (fun _ _ _ _ _ x6 => (gc_op o2_add (GC.b (gc_var (i := 3) rfl (by first | exact .inl rfl | exact .inr (.inl rfl) | exact .inr (.inr rfl)) rfl)) (GC.b (gc_tup (gas_cons (gc_var (i := 2) rfl (by first | exact .inl rfl | exact .inr (.inl rfl) | exact .inr (.inr rfl)) rfl) gas_nil)))))))))) fun found8 => gs_to found8 (.cons (.rf _) (.cons (.rf _) (.cons (.no _) (.cons (.no _) (.cons (.no _) Lel.nil)))))) rfl) fun s2 => gs_retL (gn_lcG rfl nd__law_sets (blkOk_by (by kernel_rfl)) (glc (own := [("size", 4), ("own", 2)]) (noOwn_of rfl) (gib_seq (GC.b (GN.fz (gn_callB (cn_sortedE hr.in65) rfl T.b_sorted bt_sorted (ga_cons (GC.b (GN.fz (gn_lcG rfl nd__law_sets (blkOk_by (by kernel_rfl)) (glc (own := [("own", 2)]) (noOwn_of rfl) (gib_seq (GC.b (gc_var (i := 1) rfl (by first | exact .inl rfl | exact .inr (.inl rfl) | exact .inr (.inr rfl)) rfl))) (by decide) (fun _ _ _ _ _ => (gg_name (i := 2) nd__law_sets rfl (by first | exact .inl rfl | exact .inr rfl))) (fun _ _ _ _ _ x12 => gts_nil) (fun _ _ _ _ _ x12 => (gc_tup (gas_cons (gc_callB (cd_len) rfl T.b_len bt_len (ga_cons (GC.b (gc_var (i := 2) rfl (by first | exact .inl rfl | exact .inr (.inl rfl) | exact .inr (.inr rfl)) rfl)) ga_nil)) (gas_cons (gc_var (i := 2) rfl (by first | exact .inl rfl | exact .inr (.inl rfl) | exact .inr (.inr rfl)) rfl) gas_nil)))))))) ga_nil))))) (by decide) (fun _ _ _ _ _ => (gg_tup rfl (len_cons (len_cons len_nil)) (ggs_cons (gg_name (i := 4) nd__law_sets rfl (by first | exact .inl rfl | exact .inr rfl)) (ggs_cons (gg_name (i := 2) nd__law_sets rfl (by first | exact .inl rfl | exact .inr rfl)) ggs_nil)))) (fun _ _ _ _ _ x14 => gts_nil) (fun _ _ _ _ _ x14 => (gc_var (i := 2) rfl (by first | exact .inl rfl | exact .inr (.inl rfl) | exact .inr (.inr rfl)) rfl)))))) rfl
theorem ok__law_sets (T : Tx P K mg a d) : FnOk P w K mg base CX0 1 a.f__law_sets d.d__law_sets P__law_sets (spR vwL a.PE P__law_sets.length m__law_sets_g) := by
  refine fn_ok T.F__law_sets sc__law_sets (fun cdv A outer s H E c as hr hl => ?_)
  match as, hl with
  | [x0], _ =>
    match x0 with
    | .d y0 => exact d__law_sets T y0 cdv A outer s H E c hr
    | .st => exact gs_stuck
    | .fn _ => exact gs_stuck
/-! ### _law_kept -/
theorem nd__law_kept : N__law_kept.Nodup := by decide +kernel
theorem sc__law_kept : FnScope N__law_kept P__law_kept (defScope (top 30)) := ⟨rfl, rfl, rfl, nd__law_kept, rfl, by decide +kernel, by decide +kernel⟩
theorem d__law_kept (T : Tx P K mg a d) (a_many a_left : D) (cdv : Value) (A : Around) (outer : List Env) (s : Shared) (H : Hp) (E : XK) (c : Ct) (hr : Room 0 (A.deeper (envOfC "_law_kept" (defScope (top 30)) s.heap.objs.size a.f__law_kept cdv))) :
    GSs (X0 P w K mg base N__law_kept "_law_kept" (top 30) a.f__law_kept cdv A outer s H E) c (vwD.md (fun _ _ _ _ => True) a.PE) (defBody (top 30)) [.va a_many, .va a_left, .no] (KEnd vwD) KNo KNo (m__law_kept a_many a_left) :=
  GSs.cast (gs_ret (gc_callTy (cd_tuple) rfl T.b_tuple bt_tuple (ga_cons (GC.b (GN.fz (gn_lcG rfl nd__law_kept (blkOk_by (by kernel_rfl)) (glc (own := [("k", 2)]) (noOwn_of rfl) (GIF.b (gif_range1 rfl T.b_range (ga_cons (GC.b (gc_var (i := 0) rfl (by first | exact .inl rfl | exact .inr (.inl rfl) | exact .inr (.inr rfl)) rfl)) ga_nil))) (by decide) (fun _ _ _ _ _ => (gg_name (i := 2) nd__law_kept rfl (by first | exact .inl rfl | exact .inr rfl))) (fun _ _ _ _ _ x1 => (gts_one (gt_cmp (c2_notIn hr.in65) (GC.b (gc_var (i := 2) rfl (by first | exact .inl rfl | exact .inr (.inl rfl) | exact .inr (.inr rfl)) rfl)) (GC.b (gc_var (i := 1) rfl (by first | exact .inl rfl | exact .inr (.inl rfl) | exact .inr (.inr rfl)) rfl))))) (fun _ _ _ _ _ x1 => (gc_var (i := 2) rfl (by first | exact .inl rfl | exact .inr (.inl rfl) | exact .inr (.inr rfl)) rfl)))))) ga_nil))) rfl
theorem ok__law_kept (T : Tx P K mg a d) : FnOk P w K mg base CX0 1 a.f__law_kept d.d__law_kept P__law_kept (spR vwD a.PE P__law_kept.length m__law_kept_g) := by
  refine fn_ok T.F__law_kept sc__law_kept (fun cdv A outer s H E c as hr hl => ?_)
  match as, hl with
  | [x0, x1], _ =>
    match x0, x1 with
    | .d y0, .d y1 => exact d__law_kept T y0 y1 cdv A outer s H E c hr
    | .st, _ => exact gs_stuck
    | .fn _, _ => exact gs_stuck
    | .d _, .st => exact gs_stuck
    | .d _, .fn _ => exact gs_stuck
/-! ### _law_is_taken -/
theorem nd__law_is_taken : P__law_is_taken.Nodup := by decide +kernel
theorem sc__law_is_taken : FnScope P__law_is_taken P__law_is_taken (defScope (top 29)) := ⟨rfl, rfl, rfl, nd__law_is_taken, rfl, by decide +kernel, by decide +kernel⟩
theorem d__law_is_taken (T : Tx P K mg a d) {f : Addr} {fd : FuncData} {ps : List Str} {g : List Ar → Option (Option D)} (F : FnOk P w K mg base (L2.CX P w) 3 f fd ps (spR vwX a.PE ps.length g)) (hk : PySem.W.keepIn K (.ref f) = true) (hb : Binds K fd ps []) (z : D) (cdv : Value) (A : Around) (outer : List Env) (s : Shared) (H : Hp) (E : XK) (c : Ct) (hr : Room 3 (A.deeper (envOfC "_law_is_taken" (defScope (top 29)) s.heap.objs.size a.f__law_is_taken cdv))) :
    GSs (X0 P w K mg base P__law_is_taken "_law_is_taken" (top 29) a.f__law_is_taken cdv A outer s H E) c (vwD.md (fun _ _ _ _ => True) a.PE) (defBody (top 29)) [.fn f, .va z] (KEnd vwD) KNo KNo (takenM ps.length g z) :=
  GSs.cast (gs_try0 (V0 := vwD) rfl rfl (by rfl) T.g_PaperError T.xm (fun W pn xe tk po hxw => GSs.cast (gs_ifX (gt_cmp (c2_eq hr.units) (GC.b (gc_callB cd_len (by rfl) T.b_len bt_len (ga_cons (GC.b (gc_var (i := 1) rfl (by first | exact .inl rfl | exact .inr (.inl rfl) | exact .inr (.inr rfl)) rfl)) ga_nil))) (GC.b gc_int)) (gs_retIsN (gx_callL (i := 0) (g := g) F (hr.mono (by decide)) rfl (by first | exact .inl rfl | exact .inr (.inl rfl) | exact .inr (.inr rfl)) rfl hk hb tk hxw (gr_d (gc_ix (GC.b (gc_var (i := 1) rfl (by first | exact .inl rfl | exact .inr (.inl rfl) | exact .inr (.inr rfl)) rfl)) (GC.b gc_int)) (gr_d (gc_ix (GC.b (gc_var (i := 1) rfl (by first | exact .inl rfl | exact .inr (.inl rfl) | exact .inr (.inr rfl)) rfl)) (GC.b gc_int)) gr_nil)))) (gs_ifX (gt_cmp (c2_eq hr.units) (GC.b (gc_callB cd_len (by rfl) T.b_len bt_len (ga_cons (GC.b (gc_var (i := 1) rfl (by first | exact .inl rfl | exact .inr (.inl rfl) | exact .inr (.inr rfl)) rfl)) ga_nil))) (GC.b gc_int)) (gs_retIsN (gx_callL (i := 0) (g := g) F (hr.mono (by decide)) rfl (by first | exact .inl rfl | exact .inr (.inl rfl) | exact .inr (.inr rfl)) rfl hk hb tk hxw (gr_d (gc_ix (GC.b (gc_var (i := 1) rfl (by first | exact .inl rfl | exact .inr (.inl rfl) | exact .inr (.inr rfl)) rfl)) (GC.b gc_int)) (gr_d (gc_ix (GC.b (gc_var (i := 1) rfl (by first | exact .inl rfl | exact .inr (.inl rfl) | exact .inr (.inr rfl)) rfl)) (GC.b gc_int)) (gr_d (gc_ix (GC.b (gc_var (i := 1) rfl (by first | exact .inl rfl | exact .inr (.inl rfl) | exact .inr (.inr rfl)) rfl)) (GC.b gc_int)) gr_nil))))) (gs_ifX (gt_cmp (c2_eq hr.units) (GC.b (gc_callB cd_len (by rfl) T.b_len bt_len (ga_cons (GC.b (gc_var (i := 1) rfl (by first | exact .inl rfl | exact .inr (.inl rfl) | exact .inr (.inr rfl)) rfl)) ga_nil))) (GC.b gc_int)) (gs_retIsN (gx_callL (i := 0) (g := g) F (hr.mono (by decide)) rfl (by first | exact .inl rfl | exact .inr (.inl rfl) | exact .inr (.inr rfl)) rfl hk hb tk hxw (gr_d (gc_ix (GC.b (gc_var (i := 1) rfl (by first | exact .inl rfl | exact .inr (.inl rfl) | exact .inr (.inr rfl)) rfl)) (GC.b gc_int)) (gr_d (gc_ix (GC.b (gc_var (i := 1) rfl (by first | exact .inl rfl | exact .inr (.inl rfl) | exact .inr (.inr rfl)) rfl)) (GC.b gc_int)) (gr_d (gc_ix (GC.b (gc_var (i := 1) rfl (by first | exact .inl rfl | exact .inr (.inl rfl) | exact .inr (.inr rfl)) rfl)) (GC.b gc_int)) (gr_d (gc_ix (GC.b (gc_var (i := 1) rfl (by first | exact .inl rfl | exact .inr (.inl rfl) | exact .inr (.inr rfl)) rfl)) (GC.b gc_int)) gr_nil)))))) (gs_ifX (gt_cmp (c2_eq hr.units) (GC.b (gc_callB cd_len (by rfl) T.b_len bt_len (ga_cons (GC.b (gc_var (i := 1) rfl (by first | exact .inl rfl | exact .inr (.inl rfl) | exact .inr (.inr rfl)) rfl)) ga_nil))) (GC.b gc_int)) (gs_retIsN (gx_callL (i := 0) (g := g) F (hr.mono (by decide)) rfl (by first | exact .inl rfl | exact .inr (.inl rfl) | exact .inr (.inr rfl)) rfl hk hb tk hxw (gr_d (gc_ix (GC.b (gc_var (i := 1) rfl (by first | exact .inl rfl | exact .inr (.inl rfl) | exact .inr (.inr rfl)) rfl)) (GC.b gc_int)) (gr_d (gc_ix (GC.b (gc_var (i := 1) rfl (by first | exact .inl rfl | exact .inr (.inl rfl) | exact .inr (.inr rfl)) rfl)) (GC.b gc_int)) (gr_d (gc_ix (GC.b (gc_var (i := 1) rfl (by first | exact .inl rfl | exact .inr (.inl rfl) | exact .inr (.inr rfl)) rfl)) (GC.b gc_int)) (gr_d (gc_ix (GC.b (gc_var (i := 1) rfl (by first | exact .inl rfl | exact .inr (.inl rfl) | exact .inr (.inr rfl)) rfl)) (GC.b gc_int)) (gr_d (gc_ix (GC.b (gc_var (i := 1) rfl (by first | exact .inl rfl | exact .inr (.inl rfl) | exact .inr (.inr rfl)) rfl)) (GC.b gc_int)) gr_nil))))))) (gs_ifX (gt_cmp (c2_eq hr.units) (GC.b (gc_callB cd_len (by rfl) T.b_len bt_len (ga_cons (GC.b (gc_var (i := 1) rfl (by first | exact .inl rfl | exact .inr (.inl rfl) | exact .inr (.inr rfl)) rfl)) ga_nil))) (GC.b gc_int)) (gs_retIsN (gx_callL (i := 0) (g := g) F (hr.mono (by decide)) rfl (by first | exact .inl rfl | exact .inr (.inl rfl) | exact .inr (.inr rfl)) rfl hk hb tk hxw (gr_d (gc_ix (GC.b (gc_var (i := 1) rfl (by first | exact .inl rfl | exact .inr (.inl rfl) | exact .inr (.inr rfl)) rfl)) (GC.b gc_int)) (gr_d (gc_ix (GC.b (gc_var (i := 1) rfl (by first | exact .inl rfl | exact .inr (.inl rfl) | exact .inr (.inr rfl)) rfl)) (GC.b gc_int)) (gr_d (gc_ix (GC.b (gc_var (i := 1) rfl (by first | exact .inl rfl | exact .inr (.inl rfl) | exact .inr (.inr rfl)) rfl)) (GC.b gc_int)) (gr_d (gc_ix (GC.b (gc_var (i := 1) rfl (by first | exact .inl rfl | exact .inr (.inl rfl) | exact .inr (.inr rfl)) rfl)) (GC.b gc_int)) (gr_d (gc_ix (GC.b (gc_var (i := 1) rfl (by first | exact .inl rfl | exact .inr (.inl rfl) | exact .inr (.inr rfl)) rfl)) (GC.b gc_int)) (gr_d (gc_ix (GC.b (gc_var (i := 1) rfl (by first | exact .inl rfl | exact .inr (.inl rfl) | exact .inr (.inr rfl)) rfl)) (GC.b gc_int)) gr_nil)))))))) (gs_retIsN (gx_callL (i := 0) (g := g) F (hr.mono (by decide)) rfl (by first | exact .inl rfl | exact .inr (.inl rfl) | exact .inr (.inr rfl)) rfl hk hb tk hxw (gr_d (gc_ix (GC.b (gc_var (i := 1) rfl (by first | exact .inl rfl | exact .inr (.inl rfl) | exact .inr (.inr rfl)) rfl)) (GC.b gc_int)) (gr_d (gc_ix (GC.b (gc_var (i := 1) rfl (by first | exact .inl rfl | exact .inr (.inl rfl) | exact .inr (.inr rfl)) rfl)) (GC.b gc_int)) (gr_d (gc_ix (GC.b (gc_var (i := 1) rfl (by first | exact .inl rfl | exact .inr (.inl rfl) | exact .inr (.inr rfl)) rfl)) (GC.b gc_int)) (gr_d (gc_ix (GC.b (gc_var (i := 1) rfl (by first | exact .inl rfl | exact .inr (.inl rfl) | exact .inr (.inr rfl)) rfl)) (GC.b gc_int)) (gr_d (gc_ix (GC.b (gc_var (i := 1) rfl (by first | exact .inl rfl | exact .inr (.inl rfl) | exact .inr (.inr rfl)) rfl)) (GC.b gc_int)) (gr_d (gc_ix (GC.b (gc_var (i := 1) rfl (by first | exact .inl rfl | exact .inr (.inl rfl) | exact .inr (.inr rfl)) rfl)) (GC.b gc_int)) (gr_d (gc_ix (GC.b (gc_var (i := 1) rfl (by first | exact .inl rfl | exact .inr (.inl rfl) | exact .inr (.inr rfl)) rfl)) (GC.b gc_int)) gr_nil)))))))))))))) rfl)) rfl
theorem ok_taken_accept_lamps (T : Tx P K mg a d) : FnOk P w K mg base CX0 4 a.f__law_is_taken d.d__law_is_taken P__law_is_taken (spR vwD a.PE P__law_is_taken.length (takenG a.f_accept_lamps (takenM 4 m_accept_lamps_g))) := by
  refine fn_ok T.F__law_is_taken sc__law_is_taken (fun cdv A outer s H E c as hr hl => ?_)
  match as, hl with
  | [x0, x1], _ =>
    match x0, x1 with
    | .fn f, .d z =>
      by_cases e : f = a.f_accept_lamps
      · subst e
        rw [show takenG a.f_accept_lamps (takenM 4 m_accept_lamps_g) [.fn a.f_accept_lamps, .d z] = takenM 4 m_accept_lamps_g z from if_pos rfl]
        exact d__law_is_taken T ((ok_accept_lamps T).mono (by decide)) T.F_accept_lamps.kp T.bi_accept_lamps z cdv A outer s H E c hr
      · rw [show takenG a.f_accept_lamps (takenM 4 m_accept_lamps_g) [.fn f, .d z] = none from if_neg e]
        exact gs_none
    | .d _, _ => exact gs_none
    | .st, _ => exact gs_none
    | .fn _, .st => exact gs_none
    | .fn _, .fn _ => exact gs_none
theorem ok_taken_accept_left (T : Tx P K mg a d) : FnOk P w K mg base CX0 4 a.f__law_is_taken d.d__law_is_taken P__law_is_taken (spR vwD a.PE P__law_is_taken.length (takenG a.f_accept_left (takenM 3 m_accept_left_g))) := by
  refine fn_ok T.F__law_is_taken sc__law_is_taken (fun cdv A outer s H E c as hr hl => ?_)
  match as, hl with
  | [x0, x1], _ =>
    match x0, x1 with
    | .fn f, .d z =>
      by_cases e : f = a.f_accept_left
      · subst e
        rw [show takenG a.f_accept_left (takenM 3 m_accept_left_g) [.fn a.f_accept_left, .d z] = takenM 3 m_accept_left_g z from if_pos rfl]
        exact d__law_is_taken T ((ok_accept_left T).mono (by decide)) T.F_accept_left.kp T.bi_accept_left z cdv A outer s H E c hr
      · rw [show takenG a.f_accept_left (takenM 3 m_accept_left_g) [.fn f, .d z] = none from if_neg e]
        exact gs_none
    | .d _, _ => exact gs_none
    | .st, _ => exact gs_none
    | .fn _, .st => exact gs_none
    | .fn _, .fn _ => exact gs_none
theorem ok_taken_accept_price (T : Tx P K mg a d) : FnOk P w K mg base CX0 4 a.f__law_is_taken d.d__law_is_taken P__law_is_taken (spR vwD a.PE P__law_is_taken.length (takenG a.f_accept_price (takenM 5 m_accept_price_g))) := by
  refine fn_ok T.F__law_is_taken sc__law_is_taken (fun cdv A outer s H E c as hr hl => ?_)
  match as, hl with
  | [x0, x1], _ =>
    match x0, x1 with
    | .fn f, .d z =>
      by_cases e : f = a.f_accept_price
      · subst e
        rw [show takenG a.f_accept_price (takenM 5 m_accept_price_g) [.fn a.f_accept_price, .d z] = takenM 5 m_accept_price_g z from if_pos rfl]
        exact d__law_is_taken T ((ok_accept_price T).mono (by decide)) T.F_accept_price.kp T.bi_accept_price z cdv A outer s H E c hr
      · rw [show takenG a.f_accept_price (takenM 5 m_accept_price_g) [.fn f, .d z] = none from if_neg e]
        exact gs_none
    | .d _, _ => exact gs_none
    | .st, _ => exact gs_none
    | .fn _, .st => exact gs_none
    | .fn _, .fn _ => exact gs_none
/-! ### _law_boats_hold -/
theorem nd__law_boats_hold : N__law_boats_hold.Nodup := by decide +kernel
theorem sc__law_boats_hold : FnScope N__law_boats_hold P__law_boats_hold (defScope (top 31)) := ⟨rfl, rfl, rfl, nd__law_boats_hold, rfl, by decide +kernel, by decide +kernel⟩
theorem d__law_boats_hold (T : Tx P K mg a d) (a_longs a_storm : D) (cdv : Value) (A : Around) (outer : List Env) (s : Shared) (H : Hp) (E : XK) (c : Ct) (hr : Room 4 (A.deeper (envOfC "_law_boats_hold" (defScope (top 31)) s.heap.objs.size a.f__law_boats_hold cdv))) :
    GSs (X0 P w K mg base N__law_boats_hold "_law_boats_hold" (top 31) a.f__law_boats_hold cdv A outer s H E) c (vwD.md (fun _ _ _ _ => True) a.PE) (defBody (top 31)) [.va a_longs, .va a_storm, .no, .no, .no, .no, .no, .no, .no, .no, .no, .no] (KEnd vwD) KNo KNo (m__law_boats_hold a_longs a_storm) :=
  GSs.cast (gs_set (i := 2) nd__law_boats_hold rfl (by first | exact .inl rfl | exact .inr rfl) (gc_callB (cd_len) rfl T.b_len bt_len (ga_cons (GC.b (gc_var (i := 0) rfl (by first | exact .inl rfl | exact .inr (.inl rfl) | exact .inr (.inr rfl)) rfl)) ga_nil)) fun many1 => gs_par2 (i := 3) (j := 4) rfl nd__law_boats_hold rfl rfl (GC.ge (gc_callTy (cd_tuple) rfl T.b_tuple bt_tuple (ga_cons (GC.b (GN.fz (gn_lcG rfl nd__law_boats_hold (blkOk_by (by kernel_rfl)) (glc (own := [("own", 7)]) (noOwn_of rfl) (gib_seq (GC.b (gc_var (i := 0) rfl (by first | exact .inl rfl | exact .inr (.inl rfl) | exact .inr (.inr rfl)) rfl))) (by decide) (fun _ _ _ _ _ => (gg_name (i := 7) nd__law_boats_hold rfl (by first | exact .inl rfl | exact .inr rfl))) (fun _ _ _ _ _ x2 => gts_nil) (fun _ _ _ _ _ x2 => (gc_tup (gas_cons gc_int (gas_cons (gc_var (i := 7) rfl (by first | exact .inl rfl | exact .inr (.inl rfl) | exact .inr (.inr rfl)) rfl) (gas_cons (gc_var (i := 1) rfl (by first | exact .inl rfl | exact .inr (.inl rfl) | exact .inr (.inr rfl)) rfl) gas_nil))))))))) ga_nil))) (GC.ge (gc_callTy (cd_tuple) rfl T.b_tuple bt_tuple (ga_cons (GC.b (GN.fz (gn_lcG rfl nd__law_boats_hold (blkOk_by (by kernel_rfl)) (glc (own := [("own", 7)]) (noOwn_of rfl) (gib_seq (GC.b (gc_var (i := 0) rfl (by first | exact .inl rfl | exact .inr (.inl rfl) | exact .inr (.inr rfl)) rfl))) (by decide) (fun _ _ _ _ _ => (gg_name (i := 7) nd__law_boats_hold rfl (by first | exact .inl rfl | exact .inr rfl))) (fun _ _ _ _ _ x3 => gts_nil) (fun _ _ _ _ _ x3 => (gc_tup (gas_cons gc_int (gas_cons (gc_var (i := 7) rfl (by first | exact .inl rfl | exact .inr (.inl rfl) | exact .inr (.inr rfl)) rfl) gas_nil)))))))) ga_nil))) fun boats4 lamps5 => gs_par2c (i := 5) (j := 6) rfl nd__law_boats_hold rfl rfl (GC.ge (gc_call (g := m_fewest_late_g) (ok_fewest_late T) (hr.mono (by decide)) (by rfl) T.g_fewest_late T.F_fewest_late.kp T.bi_fewest_late (gr_d (gc_var (i := 3) rfl (by first | exact .inl rfl | exact .inr (.inl rfl) | exact .inr (.inr rfl)) rfl) gr_nil))) (GC.ge (gc_call (g := m_best_lamps_g) (ok_best_lamps T) (hr.mono (by decide)) (by rfl) T.g_best_lamps T.F_best_lamps.kp T.bi_best_lamps (gr_d (gc_var (i := 4) rfl (by first | exact .inl rfl | exact .inr (.inl rfl) | exact .inr (.inr rfl)) rfl) (gr_d (gc_var (i := 1) rfl (by first | exact .inl rfl | exact .inr (.inl rfl) | exact .inr (.inr rfl)) rfl) gr_nil)))) fun left6 best7 => gs_ifX (GW.t (gw_or (gt_cmp (c2_ne hr.units) (GC.b (gc_op o2_sub (GC.b (gc_var (i := 2) rfl (by first | exact .inl rfl | exact .inr (.inl rfl) | exact .inr (.inr rfl)) rfl)) (GC.b (gc_callB (cd_len) rfl T.b_len bt_len (ga_cons (GC.b (gc_var (i := 5) rfl (by first | exact .inl rfl | exact .inr (.inl rfl) | exact .inr (.inr rfl)) rfl)) ga_nil))))) (GC.b (gc_ix (GC.b (gc_var (i := 6) rfl (by first | exact .inl rfl | exact .inr (.inl rfl) | exact .inr (.inr rfl)) rfl)) (GC.b gc_int)))) (gw_or (gt_cmp (c2_ne hr.units) (GC.b (gc_callB (cd_len) rfl T.b_len bt_len (ga_cons (GC.b (gc_ix (GC.b (gc_var (i := 6) rfl (by first | exact .inl rfl | exact .inr (.inl rfl) | exact .inr (.inr rfl)) rfl)) (GC.b gc_int))) ga_nil))) (GC.b (gc_ix (GC.b (gc_var (i := 6) rfl (by first | exact .inl rfl | exact .inr (.inl rfl) | exact .inr (.inr rfl)) rfl)) (GC.b gc_int)))) (gw_or1 (gt_cmp c2_isnot (GC.b (gc_callX (g := m_accept_left_g) (ok_accept_left T) (hr.mono (by decide)) (by rfl) T.g_accept_left T.F_accept_left.kp T.bi_accept_left (gr_d (gc_var (i := 3) rfl (by first | exact .inl rfl | exact .inr (.inl rfl) | exact .inr (.inr rfl)) rfl) (gr_d (gc_var (i := 5) rfl (by first | exact .inl rfl | exact .inr (.inl rfl) | exact .inr (.inr rfl)) rfl) (gr_d (gc_callB (cd_len) rfl T.b_len bt_len (ga_cons (GC.b (gc_var (i := 5) rfl (by first | exact .inl rfl | exact .inr (.inl rfl) | exact .inr (.inr rfl)) rfl)) ga_nil)) gr_nil))))) (GC.b gc_non)))))) (gs_ret gc_bl) (gs_for (S := Unit) (ι := (fun s20 => [.va a_longs, .va a_storm, .va many1, .va boats4, .va lamps5, .va left6, .va best7, .no, .no, .no, .no, .no])) (fb := (m__law_boats_hold_l1 a_storm many1 boats4 lamps5)) () (.cons (.rf _) (.cons (.rf _) (.cons (.rf _) (.cons (.rf _) (.cons (.rf _) (.cons (.rf _) (.cons (.rf _) (.cons (.no _) (.cons (.no _) (.cons (.no _) (.cons (.no _) (.cons (.no _) Lel.nil)))))))))))) rfl PassesOwn.never (gif_seq (GN.fz (gn_call (g := m__law_sets_g) (ok__law_sets T) (hr.mono (by decide)) (by rfl) T.g__law_sets T.F__law_sets.kp T.bi__law_sets (gr_d (gc_var (i := 2) rfl (by first | exact .inl rfl | exact .inr (.inl rfl) | exact .inr (.inr rfl)) rfl) gr_nil)))) (gg_name (i := 7) nd__law_boats_hold rfl (by first | exact .inl rfl | exact .inr rfl)) (fun s20 x23 kc21 kb22 => GSs.cast (gs_set (i := 8) nd__law_boats_hold rfl (by first | exact .inl rfl | exact .inr rfl) (gc_call (g := m__law_kept_g) (ok__law_kept T) (hr.mono (by decide)) (by rfl) T.g__law_kept T.F__law_kept.kp T.bi__law_kept (gr_d (gc_var (i := 2) rfl (by first | exact .inl rfl | exact .inr (.inl rfl) | exact .inr (.inr rfl)) rfl) (gr_d (gc_var (i := 7) rfl (by first | exact .inl rfl | exact .inr (.inl rfl) | exact .inr (.inr rfl)) rfl) gr_nil))) fun kept24 => gs_ifX (gt_cmp (c2_ne hr.units) (GC.b (gc_taken (ok_taken_accept_left T) (hr.mono (by decide)) (by rfl) T.g__law_is_taken T.F__law_is_taken.kp T.bi__law_is_taken (by rfl) T.g_accept_left (GN.fz (gn_lst (gas_cons (gc_var (i := 3) rfl (by first | exact .inl rfl | exact .inr (.inl rfl) | exact .inr (.inr rfl)) rfl) (gas_cons (gc_var (i := 7) rfl (by first | exact .inl rfl | exact .inr (.inl rfl) | exact .inr (.inr rfl)) rfl) (gas_cons (gc_callB (cd_len) rfl T.b_len bt_len (ga_cons (GC.b (gc_var (i := 7) rfl (by first | exact .inl rfl | exact .inr (.inl rfl) | exact .inr (.inr rfl)) rfl)) ga_nil)) gas_nil))))))) (GC.b (gc_taken (ok_taken_accept_lamps T) (hr.mono (by decide)) (by rfl) T.g__law_is_taken T.F__law_is_taken.kp T.bi__law_is_taken (by rfl) T.g_accept_lamps (GN.fz (gn_lst (gas_cons (gc_var (i := 4) rfl (by first | exact .inl rfl | exact .inr (.inl rfl) | exact .inr (.inr rfl)) rfl) (gas_cons (gc_var (i := 1) rfl (by first | exact .inl rfl | exact .inr (.inl rfl) | exact .inr (.inr rfl)) rfl) (gas_cons (gc_var (i := 8) rfl (by first | exact .inl rfl | exact .inr (.inl rfl) | exact .inr (.inr rfl)) rfl) (gas_cons (gc_callB (cd_len) rfl T.b_len bt_len (ga_cons (GC.b (gc_var (i := 8) rfl (by first | exact .inl rfl | exact .inr (.inl rfl) | exact .inr (.inr rfl)) rfl)) ga_nil)) gas_nil))))))))) (gs_ret gc_bl) (gs_to () (.cons (.rf _) (.cons (.rf _) (.cons (.rf _) (.cons (.rf _) (.cons (.rf _) (.cons (.rf _) (.cons (.rf _) (.cons (.no _) (.cons (.no _) (.cons (.no _) (.cons (.no _) (.cons (.no _) Lel.nil)))))))))))))) rfl) fun s20 => gs_setN (i := 9) nd__law_boats_hold rfl (by first | exact .inl rfl | exact .inr rfl) (gn_callB (cn_sortedE hr.in65) rfl T.b_sorted bt_sorted (ga_cons (GC.b (GN.fz (gn_lcG rfl nd__law_boats_hold (blkOk_by (by kernel_rfl)) (glc (own := [("own", 7)]) (noOwn_of rfl) (gib_seq (GC.b (GN.fz (gn_call (g := m__law_sets_g) (ok__law_sets T) (hr.mono (by decide)) (by rfl) T.g__law_sets T.F__law_sets.kp T.bi__law_sets (gr_d (gc_var (i := 2) rfl (by first | exact .inl rfl | exact .inr (.inl rfl) | exact .inr (.inr rfl)) rfl) gr_nil))))) (by decide) (fun _ _ _ _ _ => (gg_name (i := 7) nd__law_boats_hold rfl (by first | exact .inl rfl | exact .inr rfl))) (fun _ _ _ _ _ x31 => (gts_one (GW.t (gw_and (gt_cmp (c2_eq hr.units) (GC.b (gc_callB (cd_len) rfl T.b_len bt_len (ga_cons (GC.b (gc_var (i := 7) rfl (by first | exact .inl rfl | exact .inr (.inl rfl) | exact .inr (.inr rfl)) rfl)) ga_nil))) (GC.b (gc_ix (GC.b (gc_var (i := 6) rfl (by first | exact .inl rfl | exact .inr (.inl rfl) | exact .inr (.inr rfl)) rfl)) (GC.b gc_int)))) (gw_and1 (gt_cmp c2_le (GC.b (gc_callB (cd_sum rfl) rfl T.b_sum bt_sum (ga_cons (GC.b (GN.fz (gn_lcG rfl nd__law_boats_hold (blkOk_by (by kernel_rfl)) (glc (own := [("k", 11)]) (noOwn_of rfl) (gib_seq (GC.b (gc_var (i := 7) rfl (by first | exact .inl rfl | exact .inr (.inl rfl) | exact .inr (.inr rfl)) rfl))) (by decide) (fun _ _ _ _ _ => (gg_name (i := 11) nd__law_boats_hold rfl (by first | exact .inl rfl | exact .inr rfl))) (fun _ _ _ _ _ x32 => gts_nil) (fun _ _ _ _ _ x32 => (gc_ix (GC.b (gc_var (i := 0) rfl (by first | exact .inl rfl | exact .inr (.inl rfl) | exact .inr (.inr rfl)) rfl)) (GC.b (gc_var (i := 11) rfl (by first | exact .inl rfl | exact .inr (.inl rfl) | exact .inr (.inr rfl)) rfl)))))))) ga_nil))) (GC.b (gc_var (i := 1) rfl (by first | exact .inl rfl | exact .inr (.inl rfl) | exact .inr (.inr rfl)) rfl)))))))) (fun _ _ _ _ _ x31 => (gc_var (i := 7) rfl (by first | exact .inl rfl | exact .inr (.inl rfl) | exact .inr (.inr rfl)) rfl)))))) ga_nil)) fun l42 => gs_ifX (gt_cmp (c2_ne hr.units) (GC.b (gc_ix (gb_own (i := 9) rfl (by first | exact .inl rfl | exact .inr (.inl rfl) | exact .inr (.inr rfl)) rfl) (GC.b gc_int))) (GC.b (gc_ix (GC.b (gc_var (i := 6) rfl (by first | exact .inl rfl | exact .inr (.inl rfl) | exact .inr (.inr rfl)) rfl)) (GC.b gc_int)))) (gs_ret gc_bl) (gs_set (i := 10) nd__law_boats_hold rfl (by first | exact .inl rfl | exact .inr rfl) (gc_callTy (cd_tuple) rfl T.b_tuple bt_tuple (ga_cons (GC.b (GN.fz (gn_listRange1 rfl (by rfl) T.b_list (by rfl) T.b_range (ga_cons (GC.b (gc_var (i := 2) rfl (by first | exact .inl rfl | exact .inr (.inl rfl) | exact .inr (.inr rfl)) rfl)) ga_nil)))) ga_nil)) fun order43 => gs_ifX (GW.t (gw_or (gt_cmp (c2_ne hr.units) (GC.b (gc_cmp (c2_eq hr.units) (GC.b (gc_ix (GC.b (gc_call (g := m_judge_order_g) (ok_judge_order T) (hr.mono (by decide)) (by rfl) T.g_judge_order T.F_judge_order.kp T.bi_judge_order (gr_d (gc_var (i := 3) rfl (by first | exact .inl rfl | exact .inr (.inl rfl) | exact .inr (.inr rfl)) rfl) (gr_d (gc_var (i := 10) rfl (by first | exact .inl rfl | exact .inr (.inl rfl) | exact .inr (.inr rfl)) rfl) gr_nil)))) (GC.b gc_int))) (GC.b gc_str))) (GC.b (gc_cmp (c2_eq hr.units) (GC.b (gc_var (i := 5) rfl (by first | exact .inl rfl | exact .inr (.inl rfl) | exact .inr (.inr rfl)) rfl)) (GC.b (gc_tup gas_nil))))) (gw_or1 (gt_cmp (c2_ne hr.units) (GC.b (gc_call (g := m_least_lateness_g) (ok_least_lateness T) (hr.mono (by decide)) (by rfl) T.g_least_lateness T.F_least_lateness.kp T.bi_least_lateness (gr_d (gc_var (i := 3) rfl (by first | exact .inl rfl | exact .inr (.inl rfl) | exact .inr (.inr rfl)) rfl) gr_nil))) (GC.b (gc_tup (gas_cons (gc_callB (cd_max1 rfl (hr.units)) rfl T.b_max bt_max (ga_cons (GC.b (GN.fz (gn_lst (gas_cons gc_int (gas_cons (gc_op o2_sub (GC.b (gc_callB (cd_sum rfl) rfl T.b_sum bt_sum (ga_cons (GC.b (gc_var (i := 0) rfl (by first | exact .inl rfl | exact .inr (.inl rfl) | exact .inr (.inr rfl)) rfl)) ga_nil))) (GC.b (gc_var (i := 1) rfl (by first | exact .inl rfl | exact .inr (.inl rfl) | exact .inr (.inr rfl)) rfl))) gas_nil))))) ga_nil)) (gas_cons (gc_var (i := 10) rfl (by first | exact .inl rfl | exact .inr (.inl rfl) | exact .inr (.inr rfl)) rfl) gas_nil)))))))) (gs_ret gc_bl) (gs_ret (gc_and (gc_cmp c2_le (GC.b (gc_callB (cd_len) rfl T.b_len bt_len (ga_cons (GC.b (gc_call (g := m_fewest_late_g) (ok_fewest_late T) (hr.mono (by decide)) (by rfl) T.g_fewest_late T.F_fewest_late.kp T.bi_fewest_late (gr_d (gc_callTy (cd_tuple) rfl T.b_tuple bt_tuple (ga_cons (GC.b (GN.fz (gn_lcG rfl nd__law_boats_hold (blkOk_by (by kernel_rfl)) (glc (own := [("own", 7)]) (noOwn_of rfl) (gib_seq (GC.b (gc_var (i := 0) rfl (by first | exact .inl rfl | exact .inr (.inl rfl) | exact .inr (.inr rfl)) rfl))) (by decide) (fun _ _ _ _ _ => (gg_name (i := 7) nd__law_boats_hold rfl (by first | exact .inl rfl | exact .inr rfl))) (fun _ _ _ _ _ x54 => gts_nil) (fun _ _ _ _ _ x54 => (gc_tup (gas_cons gc_int (gas_cons (gc_var (i := 7) rfl (by first | exact .inl rfl | exact .inr (.inl rfl) | exact .inr (.inr rfl)) rfl) (gas_cons (gc_op o2_add (GC.b (gc_var (i := 1) rfl (by first | exact .inl rfl | exact .inr (.inl rfl) | exact .inr (.inr rfl)) rfl)) (GC.b gc_int)) gas_nil))))))))) ga_nil)) gr_nil))) ga_nil))) (GC.b (gc_callB (cd_len) rfl T.b_len bt_len (ga_cons (GC.b (gc_var (i := 5) rfl (by first | exact .inl rfl | exact .inr (.inl rfl) | exact .inr (.inr rfl)) rfl)) ga_nil)))) (gc_one (gc_cmp c2_ge (GC.b (gc_ix (GC.b (gc_call (g := m_best_lamps_g) (ok_best_lamps T) (hr.mono (by decide)) (by rfl) T.g_best_lamps T.F_best_lamps.kp T.bi_best_lamps (gr_d (gc_var (i := 4) rfl (by first | exact .inl rfl | exact .inr (.inl rfl) | exact .inr (.inr rfl)) rfl) (gr_d (gc_op o2_add (GC.b (gc_var (i := 1) rfl (by first | exact .inl rfl | exact .inr (.inl rfl) | exact .inr (.inr rfl)) rfl)) (GC.b gc_int)) gr_nil)))) (GC.b gc_int))) (GC.b (gc_ix (GC.b (gc_var (i := 6) rfl (by first | exact .inl rfl | exact .inr (.inl rfl) | exact .inr (.inr rfl)) rfl)) (GC.b gc_int)))))))))) rfl
theorem ok__law_boats_hold (T : Tx P K mg a d) : FnOk P w K mg base CX0 5 a.f__law_boats_hold d.d__law_boats_hold P__law_boats_hold (spR vwD a.PE P__law_boats_hold.length m__law_boats_hold_g) := by
  refine fn_ok T.F__law_boats_hold sc__law_boats_hold (fun cdv A outer s H E c as hr hl => ?_)
  match as, hl with
  | [x0, x1], _ =>
    match x0, x1 with
    | .d y0, .d y1 => exact d__law_boats_hold T y0 y1 cdv A outer s H E c hr
    | .st, _ => exact gs_stuck
    | .fn _, _ => exact gs_stuck
    | .d _, .st => exact gs_stuck
    | .d _, .fn _ => exact gs_stuck
/-! ### _law_lamps_hold -/
theorem nd__law_lamps_hold : N__law_lamps_hold.Nodup := by decide +kernel
theorem sc__law_lamps_hold : FnScope N__law_lamps_hold P__law_lamps_hold (defScope (top 32)) := ⟨rfl, rfl, rfl, nd__law_lamps_hold, rfl, by decide +kernel, by decide +kernel⟩
theorem d__law_lamps_hold (T : Tx P K mg a d)  (cdv : Value) (A : Around) (outer : List Env) (s : Shared) (H : Hp) (E : XK) (c : Ct) (hr : Room 4 (A.deeper (envOfC "_law_lamps_hold" (defScope (top 32)) s.heap.objs.size a.f__law_lamps_hold cdv))) :
    GSs (X0 P w K mg base N__law_lamps_hold "_law_lamps_hold" (top 32) a.f__law_lamps_hold cdv A outer s H E) c (vwW.md (fun _ _ _ _ => True) a.PE) (defBody (top 32)) [.st, .no, .no, .no, .no, .no, .no, .no, .no, .no, .no, .no, .no] (KEnd vwW) KNo KNo (m__law_lamps_hold ) :=
  GSs.cast (gs_par2c (i := 1) (j := 2) rfl nd__law_lamps_hold rfl rfl (GC.ge (gc_callTy (cd_tuple) rfl T.b_tuple bt_tuple (ga_cons (GC.b (GN.fz (gn_lcG rfl nd__law_lamps_hold (blkOk_by (by kernel_rfl)) (glcW (own := [("k", 10)]) (noOwn_of rfl) (GIF.b (gif_range1 rfl T.b_range (ga_cons (GC.b (gc_op o2_add (GC.b gc_int) (GC.b (gw_call (g := drawG) (ok__law_draw T) (hr.mono (by decide)) (by rfl) T.g__law_draw T.F__law_draw.kp T.bi__law_draw (gr_st (i := 0) rfl (by first | exact .inl rfl | exact .inr (.inl rfl) | exact .inr (.inr rfl)) rfl (gr_d gc_int gr_nil)))))) ga_nil))) (by decide) (fun _ _ _ _ _ => (gg_name (i := 10) nd__law_lamps_hold rfl (by first | exact .inl rfl | exact .inr rfl))) (fun _ _ _ _ _ x1 => gts_nil) (fun _ _ _ _ _ x1 => (gc_tup (gas_cons (gw_call (g := drawG) (ok__law_draw T) (hr.mono (by decide)) (by rfl) T.g__law_draw T.F__law_draw.kp T.bi__law_draw (gr_st (i := 0) rfl (by first | exact .inl rfl | exact .inr (.inl rfl) | exact .inr (.inr rfl)) rfl (gr_d gc_int gr_nil))) (gas_cons (gw_call (g := drawG) (ok__law_draw T) (hr.mono (by decide)) (by rfl) T.g__law_draw T.F__law_draw.kp T.bi__law_draw (gr_st (i := 0) rfl (by first | exact .inl rfl | exact .inr (.inl rfl) | exact .inr (.inr rfl)) rfl (gr_d gc_int gr_nil))) gas_nil)))))))) ga_nil))) (GC.ge (gw_call (g := drawG) (ok__law_draw T) (hr.mono (by decide)) (by rfl) T.g__law_draw T.F__law_draw.kp T.bi__law_draw (gr_st (i := 0) rfl (by first | exact .inl rfl | exact .inr (.inl rfl) | exact .inr (.inr rfl)) rfl (gr_d gc_int gr_nil)))) fun lamps4 oil5 => gs_setT (gc_call (g := m_best_lamps_g) (ok_best_lamps T) (hr.mono (by decide)) (by rfl) T.g_best_lamps T.F_best_lamps.kp T.bi_best_lamps (gr_d (gc_var (i := 1) rfl (by first | exact .inl rfl | exact .inr (.inl rfl) | exact .inr (.inr rfl)) rfl) (gr_d (gc_var (i := 2) rfl (by first | exact .inl rfl | exact .inr (.inl rfl) | exact .inr (.inr rfl)) rfl) gr_nil))) (gg_tup rfl (len_cons (len_cons len_nil)) (ggs_cons (gg_name (i := 3) nd__law_lamps_hold rfl (by first | exact .inl rfl | exact .inr rfl)) (ggs_cons (gg_name (i := 4) nd__law_lamps_hold rfl (by first | exact .inl rfl | exact .inr rfl)) ggs_nil))) fun x6 => gs_setLc (i := 5) rfl nd__law_lamps_hold rfl (blkOk_by (by kernel_rfl)) (glc (own := [("own", 11)]) (noOwn_of rfl) (gib_seq (GC.b (GN.fz (gn_call (g := m__law_sets_g) (ok__law_sets T) (hr.mono (by decide)) (by rfl) T.g__law_sets T.F__law_sets.kp T.bi__law_sets (gr_d (gc_callB (cd_len) rfl T.b_len bt_len (ga_cons (GC.b (gc_var (i := 1) rfl (by first | exact .inl rfl | exact .inr (.inl rfl) | exact .inr (.inr rfl)) rfl)) ga_nil)) gr_nil))))) (by decide) (fun _ _ _ _ _ => (gg_name (i := 11) nd__law_lamps_hold rfl (by first | exact .inl rfl | exact .inr rfl))) (fun _ _ _ _ _ x7 => (gts_one (gt_cmp c2_le (GC.b (gc_callB (cd_sum rfl) rfl T.b_sum bt_sum (ga_cons (GC.b (GN.fz (gn_lcG rfl nd__law_lamps_hold (blkOk_by (by kernel_rfl)) (glc (own := [("k", 10)]) (noOwn_of rfl) (gib_seq (GC.b (gc_var (i := 11) rfl (by first | exact .inl rfl | exact .inr (.inl rfl) | exact .inr (.inr rfl)) rfl))) (by decide) (fun _ _ _ _ _ => (gg_name (i := 10) nd__law_lamps_hold rfl (by first | exact .inl rfl | exact .inr rfl))) (fun _ _ _ _ _ x8 => gts_nil) (fun _ _ _ _ _ x8 => (gc_ix (GC.b (gc_ix (GC.b (gc_var (i := 1) rfl (by first | exact .inl rfl | exact .inr (.inl rfl) | exact .inr (.inr rfl)) rfl)) (GC.b (gc_var (i := 10) rfl (by first | exact .inl rfl | exact .inr (.inl rfl) | exact .inr (.inr rfl)) rfl)))) (GC.b gc_int))))))) ga_nil))) (GC.b (gc_var (i := 2) rfl (by first | exact .inl rfl | exact .inr (.inl rfl) | exact .inr (.inr rfl)) rfl))))) (fun _ _ _ _ _ x7 => (gc_tup (gas_cons (gc_callB (cd_sum rfl) rfl T.b_sum bt_sum (ga_cons (GC.b (GN.fz (gn_lcG rfl nd__law_lamps_hold (blkOk_by (by kernel_rfl)) (glc (own := [("k", 10)]) (noOwn_of rfl) (gib_seq (GC.b (gc_var (i := 11) rfl (by first | exact .inl rfl | exact .inr (.inl rfl) | exact .inr (.inr rfl)) rfl))) (by decide) (fun _ _ _ _ _ => (gg_name (i := 10) nd__law_lamps_hold rfl (by first | exact .inl rfl | exact .inr rfl))) (fun _ _ _ _ _ x11 => gts_nil) (fun _ _ _ _ _ x11 => (gc_ix (GC.b (gc_ix (GC.b (gc_var (i := 1) rfl (by first | exact .inl rfl | exact .inr (.inl rfl) | exact .inr (.inr rfl)) rfl)) (GC.b (gc_var (i := 10) rfl (by first | exact .inl rfl | exact .inr (.inl rfl) | exact .inr (.inr rfl)) rfl)))) (GC.b gc_int))))))) ga_nil)) (gas_cons (gc_var (i := 11) rfl (by first | exact .inl rfl | exact .inr (.inl rfl) | exact .inr (.inr rfl)) rfl) gas_nil))))) fun l21 => gs_set (i := 6) nd__law_lamps_hold rfl (by first | exact .inl rfl | exact .inr rfl) (gc_callB (cd_max1 rfl (hr.units)) rfl T.b_max bt_max (ga_cons (GC.b (GN.fz (gn_lcG rfl nd__law_lamps_hold (blkOk_by (by kernel_rfl)) (glc (own := [("own", 11)]) (noOwn_of rfl) (gib_seq (gb_own (i := 5) rfl (by first | exact .inl rfl | exact .inr (.inl rfl) | exact .inr (.inr rfl)) rfl)) (by decide) (fun _ _ _ _ _ => (gg_name (i := 11) nd__law_lamps_hold rfl (by first | exact .inl rfl | exact .inr rfl))) (fun _ _ _ _ _ x22 => gts_nil) (fun _ _ _ _ _ x22 => (gc_ix (GC.b (gc_var (i := 11) rfl (by first | exact .inl rfl | exact .inr (.inl rfl) | exact .inr (.inr rfl)) rfl)) (GC.b gc_int))))))) ga_nil)) fun most24 => gs_ifX (GW.t (gw_or (gt_cmp (c2_ne hr.units) (GC.b (gc_var (i := 3) rfl (by first | exact .inl rfl | exact .inr (.inl rfl) | exact .inr (.inr rfl)) rfl)) (GC.b (gc_var (i := 6) rfl (by first | exact .inl rfl | exact .inr (.inl rfl) | exact .inr (.inr rfl)) rfl))) (gw_or1 (gt_cmp (c2_ne hr.units) (GC.b (gc_var (i := 4) rfl (by first | exact .inl rfl | exact .inr (.inl rfl) | exact .inr (.inr rfl)) rfl)) (GC.b (gc_callB (cd_minE rfl (hr.units)) rfl T.b_min bt_min (ga_cons (GC.b (GN.fz (gn_lcG rfl nd__law_lamps_hold (blkOk_by (by kernel_rfl)) (glc (own := [("made", 12), ("own", 11)]) (noOwn_of rfl) (gib_seq (gb_own (i := 5) rfl (by first | exact .inl rfl | exact .inr (.inl rfl) | exact .inr (.inr rfl)) rfl)) (by decide) (fun _ _ _ _ _ => (gg_tup rfl (len_cons (len_cons len_nil)) (ggs_cons (gg_name (i := 12) nd__law_lamps_hold rfl (by first | exact .inl rfl | exact .inr rfl)) (ggs_cons (gg_name (i := 11) nd__law_lamps_hold rfl (by first | exact .inl rfl | exact .inr rfl)) ggs_nil)))) (fun _ _ _ _ _ x25 => (gts_one (gt_cmp (c2_eq hr.units) (GC.b (gc_var (i := 12) rfl (by first | exact .inl rfl | exact .inr (.inl rfl) | exact .inr (.inr rfl)) rfl)) (GC.b (gc_var (i := 6) rfl (by first | exact .inl rfl | exact .inr (.inl rfl) | exact .inr (.inr rfl)) rfl))))) (fun _ _ _ _ _ x25 => (gc_var (i := 11) rfl (by first | exact .inl rfl | exact .inr (.inl rfl) | exact .inr (.inr rfl)) rfl)))))) ga_nil))))))) (gs_ret gc_bl) (gs_for (S := Unit) (ι := (fun s32 => [.st, .va lamps4, .va oil5, .va x6.1, .va x6.2.1, .ow l21, .va most24, .no, .no, .no, .no, .no, .no])) (fb := (m__law_lamps_hold_l1 lamps4 oil5 most24)) () (.cons (.rf _) (.cons (.rf _) (.cons (.rf _) (.cons (.rf _) (.cons (.rf _) (.cons (.rf _) (.cons (.rf _) (.cons (.no _) (.cons (.no _) (.cons (.no _) (.cons (.no _) (.cons (.no _) (.cons (.no _) Lel.nil))))))))))))) rfl PassesOwn.never (gif_range1 rfl T.b_range (ga_cons (GC.b gc_int) ga_nil)) (gg_name (i := 7) nd__law_lamps_hold rfl (by first | exact .inl rfl | exact .inr rfl)) (fun s32 x35 kc33 kb34 => GSs.cast (gs_for (S := Unit) (ι := (fun s36 => [.st, .va lamps4, .va oil5, .va x6.1, .va x6.2.1, .ow l21, .va most24, .va x35, .no, .no, .no, .no, .no])) (fb := (m__law_lamps_hold_l2 lamps4 oil5 most24 x35)) () (.cons (.rf _) (.cons (.rf _) (.cons (.rf _) (.cons (.rf _) (.cons (.rf _) (.cons (.rf _) (.cons (.rf _) (.cons (.rf _) (.cons (.no _) (.cons (.no _) (.cons (.no _) (.cons (.no _) (.cons (.no _) Lel.nil))))))))))))) rfl PassesOwn.never (gif_range2 rfl T.b_range (ga_cons (GC.b gc_int) (ga_cons (GC.b gc_int) ga_nil))) (gg_name (i := 8) nd__law_lamps_hold rfl (by first | exact .inl rfl | exact .inr rfl)) (fun s36 x39 kc37 kb38 => GSs.cast (gs_ifX (gt_val (GC.b (gc_taken (ok_taken_accept_price T) (hr.mono (by decide)) (by rfl) T.g__law_is_taken T.F__law_is_taken.kp T.bi__law_is_taken (by rfl) T.g_accept_price (GN.fz (gn_lst (gas_cons (gc_var (i := 1) rfl (by first | exact .inl rfl | exact .inr (.inl rfl) | exact .inr (.inr rfl)) rfl) (gas_cons (gc_var (i := 2) rfl (by first | exact .inl rfl | exact .inr (.inl rfl) | exact .inr (.inr rfl)) rfl) (gas_cons (gc_var (i := 7) rfl (by first | exact .inl rfl | exact .inr (.inl rfl) | exact .inr (.inr rfl)) rfl) (gas_cons (gc_var (i := 8) rfl (by first | exact .inl rfl | exact .inr (.inl rfl) | exact .inr (.inr rfl)) rfl) (gas_cons (gc_op o2_sub (GC.b (gc_var (i := 6) rfl (by first | exact .inl rfl | exact .inr (.inl rfl) | exact .inr (.inr rfl)) rfl)) (GC.b gc_int)) gas_nil)))))))))) (gs_ret gc_bl) (gs_set (i := 9) nd__law_lamps_hold rfl (by first | exact .inl rfl | exact .inr rfl) (gc_op o2_add (GC.b (gc_op o2_mul (GC.b (gc_var (i := 2) rfl (by first | exact .inl rfl | exact .inr (.inl rfl) | exact .inr (.inr rfl)) rfl)) (GC.b (gc_var (i := 7) rfl (by first | exact .inl rfl | exact .inr (.inl rfl) | exact .inr (.inr rfl)) rfl)))) (GC.b (gc_callB (cd_sum rfl) rfl T.b_sum bt_sum (ga_cons (GC.b (GN.fz (gn_lcG rfl nd__law_lamps_hold (blkOk_by (by kernel_rfl)) (glc (own := [("own", 11)]) (noOwn_of rfl) (gib_seq (GC.b (gc_var (i := 1) rfl (by first | exact .inl rfl | exact .inr (.inl rfl) | exact .inr (.inr rfl)) rfl))) (by decide) (fun _ _ _ _ _ => (gg_name (i := 11) nd__law_lamps_hold rfl (by first | exact .inl rfl | exact .inr rfl))) (fun _ _ _ _ _ x40 => gts_nil) (fun _ _ _ _ _ x40 => (gc_callB (cd_max1 rfl (hr.units)) rfl T.b_max bt_max (ga_cons (GC.b (GN.fz (gn_lst (gas_cons gc_int (gas_cons (gc_op o2_sub (GC.b (gc_op o2_mul (GC.b (gc_ix (GC.b (gc_var (i := 11) rfl (by first | exact .inl rfl | exact .inr (.inl rfl) | exact .inr (.inr rfl)) rfl)) (GC.b gc_int))) (GC.b (gc_var (i := 8) rfl (by first | exact .inl rfl | exact .inr (.inl rfl) | exact .inr (.inr rfl)) rfl)))) (GC.b (gc_op o2_mul (GC.b (gc_ix (GC.b (gc_var (i := 11) rfl (by first | exact .inl rfl | exact .inr (.inl rfl) | exact .inr (.inr rfl)) rfl)) (GC.b gc_int))) (GC.b (gc_var (i := 7) rfl (by first | exact .inl rfl | exact .inr (.inl rfl) | exact .inr (.inr rfl)) rfl))))) gas_nil))))) ga_nil))))))) ga_nil)))) fun bound47 => gs_ifX (gt_not (gt_val (GC.b (gc_taken (ok_taken_accept_price T) (hr.mono (by decide)) (by rfl) T.g__law_is_taken T.F__law_is_taken.kp T.bi__law_is_taken (by rfl) T.g_accept_price (GN.fz (gn_lst (gas_cons (gc_var (i := 1) rfl (by first | exact .inl rfl | exact .inr (.inl rfl) | exact .inr (.inr rfl)) rfl) (gas_cons (gc_var (i := 2) rfl (by first | exact .inl rfl | exact .inr (.inl rfl) | exact .inr (.inr rfl)) rfl) (gas_cons (gc_var (i := 7) rfl (by first | exact .inl rfl | exact .inr (.inl rfl) | exact .inr (.inr rfl)) rfl) (gas_cons (gc_var (i := 8) rfl (by first | exact .inl rfl | exact .inr (.inl rfl) | exact .inr (.inr rfl)) rfl) (gas_cons (gc_op o2_fdiv (GC.b (gc_var (i := 9) rfl (by first | exact .inl rfl | exact .inr (.inl rfl) | exact .inr (.inr rfl)) rfl)) (GC.b (gc_var (i := 8) rfl (by first | exact .inl rfl | exact .inr (.inl rfl) | exact .inr (.inr rfl)) rfl))) gas_nil))))))))))) (gs_ret gc_bl) (gs_to () (.cons (.rf _) (.cons (.rf _) (.cons (.rf _) (.cons (.rf _) (.cons (.rf _) (.cons (.rf _) (.cons (.rf _) (.cons (.rf _) (.cons (.no _) (.cons (.no _) (.cons (.no _) (.cons (.no _) (.cons (.no _) Lel.nil)))))))))))))))) rfl) fun s36 => gs_to () (.cons (.rf _) (.cons (.rf _) (.cons (.rf _) (.cons (.rf _) (.cons (.rf _) (.cons (.rf _) (.cons (.rf _) (.cons (.no _) (.cons (.no _) (.cons (.no _) (.cons (.no _) (.cons (.no _) (.cons (.no _) Lel.nil)))))))))))))) rfl) fun s32 => gs_ret (gc_and (gc_cmp c2_is (GC.b (gc_callX (g := m_accept_lamps_g) (ok_accept_lamps T) (hr.mono (by decide)) (by rfl) T.g_accept_lamps T.F_accept_lamps.kp T.bi_accept_lamps (gr_d (gc_var (i := 1) rfl (by first | exact .inl rfl | exact .inr (.inl rfl) | exact .inr (.inr rfl)) rfl) (gr_d (gc_var (i := 2) rfl (by first | exact .inl rfl | exact .inr (.inl rfl) | exact .inr (.inr rfl)) rfl) (gr_d (gc_var (i := 4) rfl (by first | exact .inl rfl | exact .inr (.inl rfl) | exact .inr (.inr rfl)) rfl) (gr_d (gc_var (i := 3) rfl (by first | exact .inl rfl | exact .inr (.inl rfl) | exact .inr (.inr rfl)) rfl) gr_nil)))))) (GC.b gc_non)) (gc_one (gc_not (GC.b (gc_taken (ok_taken_accept_lamps T) (hr.mono (by decide)) (by rfl) T.g__law_is_taken T.F__law_is_taken.kp T.bi__law_is_taken (by rfl) T.g_accept_lamps (GN.fz (gn_lst (gas_cons (gc_var (i := 1) rfl (by first | exact .inl rfl | exact .inr (.inl rfl) | exact .inr (.inr rfl)) rfl) (gas_cons (gc_var (i := 2) rfl (by first | exact .inl rfl | exact .inr (.inl rfl) | exact .inr (.inr rfl)) rfl) (gas_cons (gc_var (i := 4) rfl (by first | exact .inl rfl | exact .inr (.inl rfl) | exact .inr (.inr rfl)) rfl) (gas_cons (gc_op o2_add (GC.b (gc_var (i := 3) rfl (by first | exact .inl rfl | exact .inr (.inl rfl) | exact .inr (.inr rfl)) rfl)) (GC.b gc_int)) gas_nil))))))))))))) rfl
theorem ok__law_lamps_hold (T : Tx P K mg a d) : FnOk P w K mg base CX0 5 a.f__law_lamps_hold d.d__law_lamps_hold P__law_lamps_hold (spR vwW a.PE P__law_lamps_hold.length m__law_lamps_hold_g) := by
  refine fn_ok T.F__law_lamps_hold sc__law_lamps_hold (fun cdv A outer s H E c as hr hl => ?_)
  match as, hl with
  | [x0], _ =>
    match x0 with
    | .st => exact d__law_lamps_hold T  cdv A outer s H E c hr
    | .d _ => exact gs_stuck
    | .fn _ => exact gs_stuck
/-! ### law -/
theorem nd_law : N_law.Nodup := by decide +kernel
theorem sc_law : FnScope N_law P_law (defScope (top 33)) := ⟨rfl, rfl, rfl, nd_law, rfl, by decide +kernel, by decide +kernel⟩
theorem d_law (T : Tx P K mg a d) (cdv : Value) (A : Around) (outer : List Env) (s : Shared) (H : Hp) (E : XK) (c : Ct) (z : Addr) (ns : List Int) (hS : SqL K c.H0 z (ns.map V.int)) (hss : c.ss = none) (hr : Room 5 (A.deeper (envOfC "law" (defScope (top 33)) s.heap.objs.size a.f_law cdv))) :
    GSs (X0 P w K mg base N_law "law" (top 33) a.f_law cdv A outer s H E) c (vwW.md (fun _ _ _ _ => True) a.PE) (defBody (top 33)) [.fn z, .no, .no, .no, .no] (KEnd vwW) KNo KNo (m_law (cutL (ns.map PyData.int) none (some 63))) :=
  GSs.cast (gs_begin (i := 1) (j := 0) (ok__law_start T) (hr.mono (by decide)) nd_law rfl (by first | exact .inl rfl | exact .inr rfl) rfl (by first | exact .inl rfl | exact .inr (.inl rfl) | exact .inr (.inr rfl)) rfl hS hss rfl (by rfl) T.g__law_start T.F__law_start.kp T.bi__law_start (fun c => gs_for (S := Unit) (ι := (fun s1 => [.fn z, .st, .no, .no, .no])) (fb := m_law_l1) () (.cons (.rf _) (.cons (.rf _) (.cons (.no _) (.cons (.no _) (.cons (.no _) Lel.nil))))) rfl PassesOwn.never (gif_range1 rfl T.b_range (ga_cons (GC.b gc_int) ga_nil)) (gg_name (i := 2) nd_law rfl (by first | exact .inl rfl | exact .inr rfl)) (fun s1 x4 kc2 kb3 => GSs.cast (gs_set (i := 3) nd_law rfl (by first | exact .inl rfl | exact .inr rfl) (gc_callTy (cd_tuple) rfl T.b_tuple bt_tuple (ga_cons (GC.b (GN.fz (gn_lcG rfl nd_law (blkOk_by (by kernel_rfl)) (glcW (own := [("k", 4)]) (noOwn_of rfl) (GIF.b (gif_range1 rfl T.b_range (ga_cons (GC.b (gc_op o2_add (GC.b gc_int) (GC.b (gw_call (g := drawG) (ok__law_draw T) (hr.mono (by decide)) (by rfl) T.g__law_draw T.F__law_draw.kp T.bi__law_draw (gr_st (i := 1) rfl (by first | exact .inl rfl | exact .inr (.inl rfl) | exact .inr (.inr rfl)) rfl (gr_d gc_int gr_nil)))))) ga_nil))) (by decide) (fun _ _ _ _ _ => (gg_name (i := 4) nd_law rfl (by first | exact .inl rfl | exact .inr rfl))) (fun _ _ _ _ _ x5 => gts_nil) (fun _ _ _ _ _ x5 => (gc_op o2_add (GC.b gc_int) (GC.b (gw_call (g := drawG) (ok__law_draw T) (hr.mono (by decide)) (by rfl) T.g__law_draw T.F__law_draw.kp T.bi__law_draw (gr_st (i := 1) rfl (by first | exact .inl rfl | exact .inr (.inl rfl) | exact .inr (.inr rfl)) rfl (gr_d (gw_call (g := m__law_pick_g) (ok__law_pick T) (hr.mono (by decide)) (by rfl) T.g__law_pick T.F__law_pick.kp T.bi__law_pick (gr_st (i := 1) rfl (by first | exact .inl rfl | exact .inr (.inl rfl) | exact .inr (.inr rfl)) rfl (gr_d (GN.fz (gn_lst (gas_cons gc_int (gas_cons gc_int gas_nil)))) gr_nil))) gr_nil)))))))))) ga_nil)) fun longs9 => gs_ifX (GW.t (gw_or (gt_not (gt_val (GC.b (gc_call (g := m__law_boats_hold_g) (ok__law_boats_hold T) (hr.mono (by decide)) (by rfl) T.g__law_boats_hold T.F__law_boats_hold.kp T.bi__law_boats_hold (gr_d (gc_var (i := 3) rfl (by first | exact .inl rfl | exact .inr (.inl rfl) | exact .inr (.inr rfl)) rfl) (gr_d (gw_call (g := drawG) (ok__law_draw T) (hr.mono (by decide)) (by rfl) T.g__law_draw T.F__law_draw.kp T.bi__law_draw (gr_st (i := 1) rfl (by first | exact .inl rfl | exact .inr (.inl rfl) | exact .inr (.inr rfl)) rfl (gr_d (gc_op o2_add (GC.b (gc_callB (cd_sum rfl) rfl T.b_sum bt_sum (ga_cons (GC.b (gc_var (i := 3) rfl (by first | exact .inl rfl | exact .inr (.inl rfl) | exact .inr (.inr rfl)) rfl)) ga_nil))) (GC.b gc_int)) gr_nil))) gr_nil)))))) (gw_or1 (gt_not (gt_val (GC.b (gw_call (g := m__law_lamps_hold_g) (ok__law_lamps_hold T) (hr.mono (by decide)) (by rfl) T.g__law_lamps_hold T.F__law_lamps_hold.kp T.bi__law_lamps_hold (gr_st (i := 1) rfl (by first | exact .inl rfl | exact .inr (.inl rfl) | exact .inr (.inr rfl)) rfl gr_nil)))))))) (gs_ret gc_bl) (gs_to () (.cons (.rf _) (.cons (.rf _) (.cons (.no _) (.cons (.no _) (.cons (.no _) Lel.nil))))))) rfl) fun s1 => gs_ret gc_bl)) rfl
theorem ok_law (T : Tx P K mg a d) (hg : ∀ ns : List Int, ns.length ≤ 63 → m_law (cutL (ns.map PyData.int) none (some 63)) (fun d _ => d = .bool true) 0) : FnOk P w K mg base CX0 6 a.f_law d.d_law P_law (spLaw K) :=
  fn_law (cp := a.PE) T.F_law sc_law m_law (fun cdv A outer s H E c z ns hS hss hr => d_law T cdv A outer s H E c z ns hS hss hr) hg
theorem tx_mk {P : Program} {K : PySem.W.Frag} {h : Heap} {mg : Str → Option Value} (X : K.In h) (G : h.Ns mainGlobals mg) {fa PE fI : Addr} (hfa : mg "law" = some (.ref fa)) {t0 : Tok} {t1 : Tok} {t2 : Tok} {f0 : Addr} {od0 an0 : Option Addr} {sl0 : Array (Option Value)} {oc0 kV0 dc0 pm0 cd0 ct0 : Value} {f1 : Addr} {od1 an1 : Option Addr} {sl1 : Array (Option Value)} {oc1 kV1 dc1 pm1 cd1 ct1 : Value} {f2 : Addr} {od2 an2 : Option Addr} {sl2 : Array (Option Value)} {oc2 kV2 dc2 pm2 cd2 ct2 : Value} {f3 : Addr} {od3 an3 : Option Addr} {sl3 : Array (Option Value)} {oc3 kV3 dc3 pm3 cd3 ct3 : Value} {f4 : Addr} {od4 an4 : Option Addr} {sl4 : Array (Option Value)} {oc4 kV4 dc4 pm4 cd4 ct4 : Value} {f5 : Addr} {od5 an5 : Option Addr} {sl5 : Array (Option Value)} {oc5 kV5 dc5 pm5 cd5 ct5 : Value} {f6 : Addr} {od6 an6 : Option Addr} {sl6 : Array (Option Value)} {oc6 kV6 dc6 pm6 cd6 ct6 : Value} {f7 : Addr} {od7 an7 : Option Addr} {sl7 : Array (Option Value)} {oc7 kV7 dc7 pm7 cd7 ct7 : Value} {f8 : Addr} {od8 an8 : Option Addr} {sl8 : Array (Option Value)} {oc8 kV8 dc8 pm8 cd8 ct8 : Value} {f9 : Addr} {od9 an9 : Option Addr} {sl9 : Array (Option Value)} {oc9 kV9 dc9 pm9 cd9 ct9 : Value} {f10 : Addr} {od10 an10 : Option Addr} {sl10 : Array (Option Value)} {oc10 kV10 dc10 pm10 cd10 ct10 : Value} {f11 : Addr} {od11 an11 : Option Addr} {sl11 : Array (Option Value)} {oc11 kV11 dc11 pm11 cd11 ct11 : Value} {f12 : Addr} {od12 an12 : Option Addr} {sl12 : Array (Option Value)} {oc12 kV12 dc12 pm12 cd12 ct12 : Value} {f13 : Addr} {od13 an13 : Option Addr} {sl13 : Array (Option Value)} {oc13 kV13 dc13 pm13 cd13 ct13 : Value} {f14 : Addr} {od14 an14 : Option Addr} {sl14 : Array (Option Value)} {oc14 kV14 dc14 pm14 cd14 ct14 : Value} {f15 : Addr} {od15 an15 : Option Addr} {sl15 : Array (Option Value)} {oc15 kV15 dc15 pm15 cd15 ct15 : Value} {f16 : Addr} {od16 an16 : Option Addr} {sl16 : Array (Option Value)} {oc16 kV16 dc16 pm16 cd16 ct16 : Value} {f17 : Addr} {od17 an17 : Option Addr} {sl17 : Array (Option Value)} {oc17 kV17 dc17 pm17 cd17 ct17 : Value} {f18 : Addr} {od18 an18 : Option Addr} {sl18 : Array (Option Value)} {oc18 kV18 dc18 pm18 cd18 ct18 : Value} {f19 : Addr} {od19 an19 : Option Addr} {sl19 : Array (Option Value)} {oc19 kV19 dc19 pm19 cd19 ct19 : Value} {f20 : Addr} {od20 an20 : Option Addr} {sl20 : Array (Option Value)} {oc20 kV20 dc20 pm20 cd20 ct20 : Value} {f21 : Addr} {od21 an21 : Option Addr} {sl21 : Array (Option Value)} {oc21 kV21 dc21 pm21 cd21 ct21 : Value}
    (z0 : PySem.W.nsIn K mainGlobals "abs" = some none)
    (z1 : PySem.W.nsIn K mainGlobals "all" = some none)
    (z2 : PySem.W.nsIn K mainGlobals "bool" = some none)
    (z3 : PySem.W.nsIn K mainGlobals "enumerate" = some none)
    (z4 : PySem.W.nsIn K mainGlobals "int" = some none)
    (z5 : PySem.W.nsIn K mainGlobals "isinstance" = some none)
    (z6 : PySem.W.nsIn K mainGlobals "len" = some none)
    (z7 : PySem.W.nsIn K mainGlobals "list" = some none)
    (z8 : PySem.W.nsIn K mainGlobals "max" = some none)
    (z9 : PySem.W.nsIn K mainGlobals "min" = some none)
    (z10 : PySem.W.nsIn K mainGlobals "range" = some none)
    (z11 : PySem.W.nsIn K mainGlobals "sorted" = some none)
    (z12 : PySem.W.nsIn K mainGlobals "sum" = some none)
    (z13 : PySem.W.nsIn K mainGlobals "tuple" = some none)
    (z14 : PySem.W.nsIn K mainGlobals "zip" = some none)
    (k0 : PySem.W.nsIn K mainGlobals "MAX_BOATS" = some (some (.int 40 t0)))
    (k1 : PySem.W.nsIn K mainGlobals "MAX_HOURS" = some (some (.int 1000 t1)))
    (k2 : PySem.W.nsIn K mainGlobals "MAX_PLACES" = some (some (.int 30 t2)))
    (a0 : PySem.W.nsIn K mainGlobals "is_integer" = some (some (.ref f0)))
    (l0 : K.lookup f0 = some ⟨oc0, od0, .func (PySem.W.fnOf "is_integer" "is_integer" (defArgs (top 6)) (defBody (top 6)) (defScope (top 6)) .none kV0 dc0 pm0 an0 cd0 ct0), sl0⟩)
    (c0 : PySem.W.codeIn K cd0 "is_integer" = true)
    (w0 : PySem.W.keepIn K (.ref f0) = true)
    (a1 : PySem.W.nsIn K mainGlobals "check_boats" = some (some (.ref f1)))
    (l1 : K.lookup f1 = some ⟨oc1, od1, .func (PySem.W.fnOf "check_boats" "check_boats" (defArgs (top 11)) (defBody (top 11)) (defScope (top 11)) .none kV1 dc1 pm1 an1 cd1 ct1), sl1⟩)
    (c1 : PySem.W.codeIn K cd1 "check_boats" = true)
    (w1 : PySem.W.keepIn K (.ref f1) = true)
    (a2 : PySem.W.nsIn K mainGlobals "check_order" = some (some (.ref f2)))
    (l2 : K.lookup f2 = some ⟨oc2, od2, .func (PySem.W.fnOf "check_order" "check_order" (defArgs (top 12)) (defBody (top 12)) (defScope (top 12)) .none kV2 dc2 pm2 an2 cd2 ct2), sl2⟩)
    (c2 : PySem.W.codeIn K cd2 "check_order" = true)
    (w2 : PySem.W.keepIn K (.ref f2) = true)
    (a3 : PySem.W.nsIn K mainGlobals "ends_in" = some (some (.ref f3)))
    (l3 : K.lookup f3 = some ⟨oc3, od3, .func (PySem.W.fnOf "ends_in" "ends_in" (defArgs (top 13)) (defBody (top 13)) (defScope (top 13)) .none kV3 dc3 pm3 an3 cd3 ct3), sl3⟩)
    (c3 : PySem.W.codeIn K cd3 "ends_in" = true)
    (w3 : PySem.W.keepIn K (.ref f3) = true)
    (a4 : PySem.W.nsIn K mainGlobals "judge_order" = some (some (.ref f4)))
    (l4 : K.lookup f4 = some ⟨oc4, od4, .func (PySem.W.fnOf "judge_order" "judge_order" (defArgs (top 14)) (defBody (top 14)) (defScope (top 14)) .none kV4 dc4 pm4 an4 cd4 ct4), sl4⟩)
    (c4 : PySem.W.codeIn K cd4 "judge_order" = true)
    (w4 : PySem.W.keepIn K (.ref f4) = true)
    (a5 : PySem.W.nsIn K mainGlobals "fewest_late" = some (some (.ref f5)))
    (l5 : K.lookup f5 = some ⟨oc5, od5, .func (PySem.W.fnOf "fewest_late" "fewest_late" (defArgs (top 15)) (defBody (top 15)) (defScope (top 15)) .none kV5 dc5 pm5 an5 cd5 ct5), sl5⟩)
    (c5 : PySem.W.codeIn K cd5 "fewest_late" = true)
    (w5 : PySem.W.keepIn K (.ref f5) = true)
    (a6 : PySem.W.nsIn K mainGlobals "accept_left" = some (some (.ref f6)))
    (l6 : K.lookup f6 = some ⟨oc6, od6, .func (PySem.W.fnOf "accept_left" "accept_left" (defArgs (top 16)) (defBody (top 16)) (defScope (top 16)) .none kV6 dc6 pm6 an6 cd6 ct6), sl6⟩)
    (c6 : PySem.W.codeIn K cd6 "accept_left" = true)
    (w6 : PySem.W.keepIn K (.ref f6) = true)
    (a7 : PySem.W.nsIn K mainGlobals "least_lateness" = some (some (.ref f7)))
    (l7 : K.lookup f7 = some ⟨oc7, od7, .func (PySem.W.fnOf "least_lateness" "least_lateness" (defArgs (top 17)) (defBody (top 17)) (defScope (top 17)) .none kV7 dc7 pm7 an7 cd7 ct7), sl7⟩)
    (c7 : PySem.W.codeIn K cd7 "least_lateness" = true)
    (w7 : PySem.W.keepIn K (.ref f7) = true)
    (a8 : PySem.W.nsIn K mainGlobals "check_lamps" = some (some (.ref f8)))
    (l8 : K.lookup f8 = some ⟨oc8, od8, .func (PySem.W.fnOf "check_lamps" "check_lamps" (defArgs (top 19)) (defBody (top 19)) (defScope (top 19)) .none kV8 dc8 pm8 an8 cd8 ct8), sl8⟩)
    (c8 : PySem.W.codeIn K cd8 "check_lamps" = true)
    (w8 : PySem.W.keepIn K (.ref f8) = true)
    (a9 : PySem.W.nsIn K mainGlobals "check_oil" = some (some (.ref f9)))
    (l9 : K.lookup f9 = some ⟨oc9, od9, .func (PySem.W.fnOf "check_oil" "check_oil" (defArgs (top 21)) (defBody (top 21)) (defScope (top 21)) .none kV9 dc9 pm9 an9 cd9 ct9), sl9⟩)
    (c9 : PySem.W.codeIn K cd9 "check_oil" = true)
    (w9 : PySem.W.keepIn K (.ref f9) = true)
    (a10 : PySem.W.nsIn K mainGlobals "best_lamps" = some (some (.ref f10)))
    (l10 : K.lookup f10 = some ⟨oc10, od10, .func (PySem.W.fnOf "best_lamps" "best_lamps" (defArgs (top 20)) (defBody (top 20)) (defScope (top 20)) .none kV10 dc10 pm10 an10 cd10 ct10), sl10⟩)
    (c10 : PySem.W.codeIn K cd10 "best_lamps" = true)
    (w10 : PySem.W.keepIn K (.ref f10) = true)
    (a11 : PySem.W.nsIn K mainGlobals "accept_lamps" = some (some (.ref f11)))
    (l11 : K.lookup f11 = some ⟨oc11, od11, .func (PySem.W.fnOf "accept_lamps" "accept_lamps" (defArgs (top 22)) (defBody (top 22)) (defScope (top 22)) .none kV11 dc11 pm11 an11 cd11 ct11), sl11⟩)
    (c11 : PySem.W.codeIn K cd11 "accept_lamps" = true)
    (w11 : PySem.W.keepIn K (.ref f11) = true)
    (a12 : PySem.W.nsIn K mainGlobals "accept_price" = some (some (.ref f12)))
    (l12 : K.lookup f12 = some ⟨oc12, od12, .func (PySem.W.fnOf "accept_price" "accept_price" (defArgs (top 23)) (defBody (top 23)) (defScope (top 23)) .none kV12 dc12 pm12 an12 cd12 ct12), sl12⟩)
    (c12 : PySem.W.codeIn K cd12 "accept_price" = true)
    (w12 : PySem.W.keepIn K (.ref f12) = true)
    (a13 : PySem.W.nsIn K mainGlobals "_law_pick" = some (some (.ref f13)))
    (l13 : K.lookup f13 = some ⟨oc13, od13, .func (PySem.W.fnOf "_law_pick" "_law_pick" (defArgs (top 27)) (defBody (top 27)) (defScope (top 27)) .none kV13 dc13 pm13 an13 cd13 ct13), sl13⟩)
    (c13 : PySem.W.codeIn K cd13 "_law_pick" = true)
    (w13 : PySem.W.keepIn K (.ref f13) = true)
    (a14 : PySem.W.nsIn K mainGlobals "_law_sets" = some (some (.ref f14)))
    (l14 : K.lookup f14 = some ⟨oc14, od14, .func (PySem.W.fnOf "_law_sets" "_law_sets" (defArgs (top 28)) (defBody (top 28)) (defScope (top 28)) .none kV14 dc14 pm14 an14 cd14 ct14), sl14⟩)
    (c14 : PySem.W.codeIn K cd14 "_law_sets" = true)
    (w14 : PySem.W.keepIn K (.ref f14) = true)
    (a15 : PySem.W.nsIn K mainGlobals "_law_kept" = some (some (.ref f15)))
    (l15 : K.lookup f15 = some ⟨oc15, od15, .func (PySem.W.fnOf "_law_kept" "_law_kept" (defArgs (top 30)) (defBody (top 30)) (defScope (top 30)) .none kV15 dc15 pm15 an15 cd15 ct15), sl15⟩)
    (c15 : PySem.W.codeIn K cd15 "_law_kept" = true)
    (w15 : PySem.W.keepIn K (.ref f15) = true)
    (a16 : PySem.W.nsIn K mainGlobals "_law_boats_hold" = some (some (.ref f16)))
    (l16 : K.lookup f16 = some ⟨oc16, od16, .func (PySem.W.fnOf "_law_boats_hold" "_law_boats_hold" (defArgs (top 31)) (defBody (top 31)) (defScope (top 31)) .none kV16 dc16 pm16 an16 cd16 ct16), sl16⟩)
    (c16 : PySem.W.codeIn K cd16 "_law_boats_hold" = true)
    (w16 : PySem.W.keepIn K (.ref f16) = true)
    (a17 : PySem.W.nsIn K mainGlobals "_law_lamps_hold" = some (some (.ref f17)))
    (l17 : K.lookup f17 = some ⟨oc17, od17, .func (PySem.W.fnOf "_law_lamps_hold" "_law_lamps_hold" (defArgs (top 32)) (defBody (top 32)) (defScope (top 32)) .none kV17 dc17 pm17 an17 cd17 ct17), sl17⟩)
    (c17 : PySem.W.codeIn K cd17 "_law_lamps_hold" = true)
    (w17 : PySem.W.keepIn K (.ref f17) = true)
    (a18 : PySem.W.nsIn K mainGlobals "law" = some (some (.ref f18)))
    (l18 : K.lookup f18 = some ⟨oc18, od18, .func (PySem.W.fnOf "law" "law" (defArgs (top 33)) (defBody (top 33)) (defScope (top 33)) .none kV18 dc18 pm18 an18 cd18 ct18), sl18⟩)
    (c18 : PySem.W.codeIn K cd18 "law" = true)
    (w18 : PySem.W.keepIn K (.ref f18) = true)
    (a19 : PySem.W.nsIn K mainGlobals "_law_draw" = some (some (.ref f19)))
    (l19 : K.lookup f19 = some ⟨oc19, od19, .func (PySem.W.fnOf "_law_draw" "_law_draw" (defArgs (top 26)) (defBody (top 26)) (defScope (top 26)) .none kV19 dc19 pm19 an19 cd19 ct19), sl19⟩)
    (c19 : PySem.W.codeIn K cd19 "_law_draw" = true)
    (w19 : PySem.W.keepIn K (.ref f19) = true)
    (a20 : PySem.W.nsIn K mainGlobals "_law_start" = some (some (.ref f20)))
    (l20 : K.lookup f20 = some ⟨oc20, od20, .func (PySem.W.fnOf "_law_start" "_law_start" (defArgs (top 25)) (defBody (top 25)) (defScope (top 25)) .none kV20 dc20 pm20 an20 cd20 ct20), sl20⟩)
    (c20 : PySem.W.codeIn K cd20 "_law_start" = true)
    (w20 : PySem.W.keepIn K (.ref f20) = true)
    (a21 : PySem.W.nsIn K mainGlobals "_law_is_taken" = some (some (.ref f21)))
    (l21 : K.lookup f21 = some ⟨oc21, od21, .func (PySem.W.fnOf "_law_is_taken" "_law_is_taken" (defArgs (top 29)) (defBody (top 29)) (defScope (top 29)) .none kV21 dc21 pm21 an21 cd21 ct21), sl21⟩)
    (c21 : PySem.W.codeIn K cd21 "_law_is_taken" = true)
    (w21 : PySem.W.keepIn K (.ref f21) = true)
    (aE : PySem.W.nsIn K mainGlobals "PaperError" = some (some (.ref PE))) (er : PySem.GX.ErrTxt P K mg PE fI) (xm : PySem.W.exmOne K (.ref PE) (.ref PE) = some true) :
    ∃ (a : Fs) (d : Fds), Tx P K mg a d ∧ a.f_law = fa := by
  have e := hfa.symm.trans (PySem.W.mg_of X G a18)
  have e2 : f18 = fa := by
    cases e
    rfl
  subst e2
  refine ⟨{ f_is_integer := f0, f_check_boats := f1, f_check_order := f2, f_ends_in := f3, f_judge_order := f4, f_fewest_late := f5, f_accept_left := f6, f_least_lateness := f7, f_check_lamps := f8, f_check_oil := f9, f_best_lamps := f10, f_accept_lamps := f11, f_accept_price := f12, f__law_pick := f13, f__law_sets := f14, f__law_kept := f15, f__law_boats_hold := f16, f__law_lamps_hold := f17, f_law := f18, f__law_draw := f19, f__law_start := f20, f__law_is_taken := f21, PE := PE, fI := fI }, { d_is_integer := PySem.W.fnOf "is_integer" "is_integer" (defArgs (top 6)) (defBody (top 6)) (defScope (top 6)) .none kV0 dc0 pm0 an0 cd0 ct0, d_check_boats := PySem.W.fnOf "check_boats" "check_boats" (defArgs (top 11)) (defBody (top 11)) (defScope (top 11)) .none kV1 dc1 pm1 an1 cd1 ct1, d_check_order := PySem.W.fnOf "check_order" "check_order" (defArgs (top 12)) (defBody (top 12)) (defScope (top 12)) .none kV2 dc2 pm2 an2 cd2 ct2, d_ends_in := PySem.W.fnOf "ends_in" "ends_in" (defArgs (top 13)) (defBody (top 13)) (defScope (top 13)) .none kV3 dc3 pm3 an3 cd3 ct3, d_judge_order := PySem.W.fnOf "judge_order" "judge_order" (defArgs (top 14)) (defBody (top 14)) (defScope (top 14)) .none kV4 dc4 pm4 an4 cd4 ct4, d_fewest_late := PySem.W.fnOf "fewest_late" "fewest_late" (defArgs (top 15)) (defBody (top 15)) (defScope (top 15)) .none kV5 dc5 pm5 an5 cd5 ct5, d_accept_left := PySem.W.fnOf "accept_left" "accept_left" (defArgs (top 16)) (defBody (top 16)) (defScope (top 16)) .none kV6 dc6 pm6 an6 cd6 ct6, d_least_lateness := PySem.W.fnOf "least_lateness" "least_lateness" (defArgs (top 17)) (defBody (top 17)) (defScope (top 17)) .none kV7 dc7 pm7 an7 cd7 ct7, d_check_lamps := PySem.W.fnOf "check_lamps" "check_lamps" (defArgs (top 19)) (defBody (top 19)) (defScope (top 19)) .none kV8 dc8 pm8 an8 cd8 ct8, d_check_oil := PySem.W.fnOf "check_oil" "check_oil" (defArgs (top 21)) (defBody (top 21)) (defScope (top 21)) .none kV9 dc9 pm9 an9 cd9 ct9, d_best_lamps := PySem.W.fnOf "best_lamps" "best_lamps" (defArgs (top 20)) (defBody (top 20)) (defScope (top 20)) .none kV10 dc10 pm10 an10 cd10 ct10, d_accept_lamps := PySem.W.fnOf "accept_lamps" "accept_lamps" (defArgs (top 22)) (defBody (top 22)) (defScope (top 22)) .none kV11 dc11 pm11 an11 cd11 ct11, d_accept_price := PySem.W.fnOf "accept_price" "accept_price" (defArgs (top 23)) (defBody (top 23)) (defScope (top 23)) .none kV12 dc12 pm12 an12 cd12 ct12, d__law_pick := PySem.W.fnOf "_law_pick" "_law_pick" (defArgs (top 27)) (defBody (top 27)) (defScope (top 27)) .none kV13 dc13 pm13 an13 cd13 ct13, d__law_sets := PySem.W.fnOf "_law_sets" "_law_sets" (defArgs (top 28)) (defBody (top 28)) (defScope (top 28)) .none kV14 dc14 pm14 an14 cd14 ct14, d__law_kept := PySem.W.fnOf "_law_kept" "_law_kept" (defArgs (top 30)) (defBody (top 30)) (defScope (top 30)) .none kV15 dc15 pm15 an15 cd15 ct15, d__law_boats_hold := PySem.W.fnOf "_law_boats_hold" "_law_boats_hold" (defArgs (top 31)) (defBody (top 31)) (defScope (top 31)) .none kV16 dc16 pm16 an16 cd16 ct16, d__law_lamps_hold := PySem.W.fnOf "_law_lamps_hold" "_law_lamps_hold" (defArgs (top 32)) (defBody (top 32)) (defScope (top 32)) .none kV17 dc17 pm17 an17 cd17 ct17, d_law := PySem.W.fnOf "law" "law" (defArgs (top 33)) (defBody (top 33)) (defScope (top 33)) .none kV18 dc18 pm18 an18 cd18 ct18, d__law_draw := PySem.W.fnOf "_law_draw" "_law_draw" (defArgs (top 26)) (defBody (top 26)) (defScope (top 26)) .none kV19 dc19 pm19 an19 cd19 ct19, d__law_start := PySem.W.fnOf "_law_start" "_law_start" (defArgs (top 25)) (defBody (top 25)) (defScope (top 25)) .none kV20 dc20 pm20 an20 cd20 ct20, d__law_is_taken := PySem.W.fnOf "_law_is_taken" "_law_is_taken" (defArgs (top 29)) (defBody (top 29)) (defScope (top 29)) .none kV21 dc21 pm21 an21 cd21 ct21 }, { b_abs := PySem.W.mg_none_of X G z0, b_all := PySem.W.mg_none_of X G z1, b_bool := PySem.W.mg_none_of X G z2, b_enumerate := PySem.W.mg_none_of X G z3, b_int := PySem.W.mg_none_of X G z4, b_isinstance := PySem.W.mg_none_of X G z5, b_len := PySem.W.mg_none_of X G z6, b_list := PySem.W.mg_none_of X G z7, b_max := PySem.W.mg_none_of X G z8, b_min := PySem.W.mg_none_of X G z9, b_range := PySem.W.mg_none_of X G z10, b_sorted := PySem.W.mg_none_of X G z11, b_sum := PySem.W.mg_none_of X G z12, b_tuple := PySem.W.mg_none_of X G z13, b_zip := PySem.W.mg_none_of X G z14, c_MAX_BOATS := const_mk X G k0, c_MAX_HOURS := const_mk X G k1, c_MAX_PLACES := const_mk X G k2, g_is_integer := PySem.W.mg_of X G a0, F_is_integer := fun_mk (st := top 6) l0 c0 w0, bi_is_integer := (fun_mk (st := top 6) l0 c0 w0).binds (ps := P_is_integer) fun _ _ _ _ _ _ us hl => match us, hl with | [_], _ => rfl, g_check_boats := PySem.W.mg_of X G a1, F_check_boats := fun_mk (st := top 11) l1 c1 w1, bi_check_boats := (fun_mk (st := top 11) l1 c1 w1).binds (ps := P_check_boats) fun _ _ _ _ _ _ us hl => match us, hl with | [_], _ => rfl, g_check_order := PySem.W.mg_of X G a2, F_check_order := fun_mk (st := top 12) l2 c2 w2, bi_check_order := (fun_mk (st := top 12) l2 c2 w2).binds (ps := P_check_order) fun _ _ _ _ _ _ us hl => match us, hl with | [_, _], _ => rfl, g_ends_in := PySem.W.mg_of X G a3, F_ends_in := fun_mk (st := top 13) l3 c3 w3, bi_ends_in := (fun_mk (st := top 13) l3 c3 w3).binds (ps := P_ends_in) fun _ _ _ _ _ _ us hl => match us, hl with | [_, _], _ => rfl, g_judge_order := PySem.W.mg_of X G a4, F_judge_order := fun_mk (st := top 14) l4 c4 w4, bi_judge_order := (fun_mk (st := top 14) l4 c4 w4).binds (ps := P_judge_order) fun _ _ _ _ _ _ us hl => match us, hl with | [_, _], _ => rfl, g_fewest_late := PySem.W.mg_of X G a5, F_fewest_late := fun_mk (st := top 15) l5 c5 w5, bi_fewest_late := (fun_mk (st := top 15) l5 c5 w5).binds (ps := P_fewest_late) fun _ _ _ _ _ _ us hl => match us, hl with | [_], _ => rfl, g_accept_left := PySem.W.mg_of X G a6, F_accept_left := fun_mk (st := top 16) l6 c6 w6, bi_accept_left := (fun_mk (st := top 16) l6 c6 w6).binds (ps := P_accept_left) fun _ _ _ _ _ _ us hl => match us, hl with | [_, _, _], _ => rfl, g_least_lateness := PySem.W.mg_of X G a7, F_least_lateness := fun_mk (st := top 17) l7 c7 w7, bi_least_lateness := (fun_mk (st := top 17) l7 c7 w7).binds (ps := P_least_lateness) fun _ _ _ _ _ _ us hl => match us, hl with | [_], _ => rfl, g_check_lamps := PySem.W.mg_of X G a8, F_check_lamps := fun_mk (st := top 19) l8 c8 w8, bi_check_lamps := (fun_mk (st := top 19) l8 c8 w8).binds (ps := P_check_lamps) fun _ _ _ _ _ _ us hl => match us, hl with | [_], _ => rfl, g_check_oil := PySem.W.mg_of X G a9, F_check_oil := fun_mk (st := top 21) l9 c9 w9, bi_check_oil := (fun_mk (st := top 21) l9 c9 w9).binds (ps := P_check_oil) fun _ _ _ _ _ _ us hl => match us, hl with | [_], _ => rfl, g_best_lamps := PySem.W.mg_of X G a10, F_best_lamps := fun_mk (st := top 20) l10 c10 w10, bi_best_lamps := (fun_mk (st := top 20) l10 c10 w10).binds (ps := P_best_lamps) fun _ _ _ _ _ _ us hl => match us, hl with | [_, _], _ => rfl, g_accept_lamps := PySem.W.mg_of X G a11, F_accept_lamps := fun_mk (st := top 22) l11 c11 w11, bi_accept_lamps := (fun_mk (st := top 22) l11 c11 w11).binds (ps := P_accept_lamps) fun _ _ _ _ _ _ us hl => match us, hl with | [_, _, _, _], _ => rfl, g_accept_price := PySem.W.mg_of X G a12, F_accept_price := fun_mk (st := top 23) l12 c12 w12, bi_accept_price := (fun_mk (st := top 23) l12 c12 w12).binds (ps := P_accept_price) fun _ _ _ _ _ _ us hl => match us, hl with | [_, _, _, _, _], _ => rfl, g__law_pick := PySem.W.mg_of X G a13, F__law_pick := fun_mk (st := top 27) l13 c13 w13, bi__law_pick := (fun_mk (st := top 27) l13 c13 w13).binds (ps := P__law_pick) fun _ _ _ _ _ _ us hl => match us, hl with | [_, _], _ => rfl, g__law_sets := PySem.W.mg_of X G a14, F__law_sets := fun_mk (st := top 28) l14 c14 w14, bi__law_sets := (fun_mk (st := top 28) l14 c14 w14).binds (ps := P__law_sets) fun _ _ _ _ _ _ us hl => match us, hl with | [_], _ => rfl, g__law_kept := PySem.W.mg_of X G a15, F__law_kept := fun_mk (st := top 30) l15 c15 w15, bi__law_kept := (fun_mk (st := top 30) l15 c15 w15).binds (ps := P__law_kept) fun _ _ _ _ _ _ us hl => match us, hl with | [_, _], _ => rfl, g__law_boats_hold := PySem.W.mg_of X G a16, F__law_boats_hold := fun_mk (st := top 31) l16 c16 w16, bi__law_boats_hold := (fun_mk (st := top 31) l16 c16 w16).binds (ps := P__law_boats_hold) fun _ _ _ _ _ _ us hl => match us, hl with | [_, _], _ => rfl, g__law_lamps_hold := PySem.W.mg_of X G a17, F__law_lamps_hold := fun_mk (st := top 32) l17 c17 w17, bi__law_lamps_hold := (fun_mk (st := top 32) l17 c17 w17).binds (ps := P__law_lamps_hold) fun _ _ _ _ _ _ us hl => match us, hl with | [_], _ => rfl, g_law := PySem.W.mg_of X G a18, F_law := fun_mk (st := top 33) l18 c18 w18, bi_law := (fun_mk (st := top 33) l18 c18 w18).binds (ps := P_law) fun _ _ _ _ _ _ us hl => match us, hl with | [_], _ => rfl, g__law_draw := PySem.W.mg_of X G a19, F__law_draw := fun_mk (st := top 26) l19 c19 w19, bi__law_draw := (fun_mk (st := top 26) l19 c19 w19).binds (ps := P__law_draw) fun _ _ _ _ _ _ us hl => match us, hl with | [_, _], _ => rfl, g__law_start := PySem.W.mg_of X G a20, F__law_start := fun_mk (st := top 25) l20 c20 w20, bi__law_start := (fun_mk (st := top 25) l20 c20 w20).binds (ps := P__law_start) fun _ _ _ _ _ _ us hl => match us, hl with | [_], _ => rfl, g__law_is_taken := PySem.W.mg_of X G a21, F__law_is_taken := fun_mk (st := top 29) l21 c21 w21, bi__law_is_taken := (fun_mk (st := top 29) l21 c21 w21).binds (ps := P__law_is_taken) fun _ _ _ _ _ _ us hl => match us, hl with | [_, _], _ => rfl, bind_law := fun s v => .of_eq rfl, xm := xm, g_PaperError := PySem.W.mg_of X G aE, err := er }, rfl⟩
end G

end
section
set_option Elab.async false
set_option linter.all false
set_option maxRecDepth 100000
/-! plain: sets of places as rising lists, what they weigh, the best of them -/
namespace G
open RM (bnd)
open PySem PySem.Spec PyProof.Rows L2
/-- rising, from lo on, below n -/
def Inc (lo n : Int) : List Int → Prop
  | [] => True
  | a :: t => lo ≤ a ∧ a < n ∧ Inc (a + 1) n t
def sm (f : Int → Int) : List Int → Int
  | [] => 0
  | a :: t => f a + sm f t
theorem Inc.lo {n : Int} : ∀ {T : List Int} {lo lo' : Int}, lo' ≤ lo → Inc lo n T → Inc lo' n T
  | [], _, _, _, _ => trivial
  | a :: t, lo, lo', h, ⟨h1, h2, h3⟩ => ⟨by omega, h2, h3⟩
theorem Inc.mem {n : Int} : ∀ {T : List Int} {lo x : Int}, Inc lo n T → x ∈ T → lo ≤ x ∧ x < n
  | [], _, _, _, h => by cases h
  | a :: t, lo, x, ⟨h1, h2, h3⟩, h => by
    rcases List.mem_cons.mp h with rfl | h
    · exact ⟨h1, h2⟩
    · have := Inc.mem h3 h
      omega
theorem Inc.empty {n : Int} {T : List Int} (h : Inc n n T) : T = [] := by
  cases T with
  | nil => rfl
  | cons a t =>
    obtain ⟨h1, h2, _⟩ := h
    omega
theorem Inc.snoc {n k : Int} : ∀ {T : List Int} {lo : Int}, Inc lo k T → lo ≤ k → k < n → Inc lo n (T ++ [k])
  | [], lo, _, h1, h2 => ⟨h1, h2, trivial⟩
  | a :: t, lo, ⟨h1, h2, h3⟩, h4, h5 => ⟨h1, by omega, Inc.snoc h3 (by omega) h5⟩
theorem Inc.hi {n m : Int} : ∀ {T : List Int} {lo : Int}, Inc lo n T → n ≤ m → Inc lo m T
  | [], _, _, _ => trivial
  | a :: t, lo, ⟨h1, h2, h3⟩, h => ⟨h1, by omega, Inc.hi h3 h⟩
theorem Inc.split {k : Int} : ∀ {T : List Int} {lo : Int}, Inc lo (k + 1) T → Inc lo k T ∨ ∃ U, T = U ++ [k] ∧ Inc lo k U
  | [], _, _ => .inl trivial
  | a :: t, lo, ⟨h1, h2, h3⟩ => by
    by_cases h : a = k
    · subst h
      have := Inc.empty h3
      subst this
      exact .inr ⟨[], rfl, trivial⟩
    · rcases Inc.split h3 with h4 | ⟨U, rfl, h4⟩
      · exact .inl ⟨h1, by omega, h4⟩
      · exact .inr ⟨a :: U, rfl, h1, by omega, h4⟩
/-- all sets of the first k -/
def sets : Nat → List (List Int)
  | 0 => [[]]
  | k + 1 => sets k ++ (sets k).map fun T => T ++ [(k : Int)]
theorem mem_sets : ∀ (k : Nat) (T : List Int), T ∈ sets k ↔ Inc 0 k T
  | 0, T => by
    unfold sets
    rw [List.mem_singleton]
    exact ⟨fun h => by rw [h]; trivial, fun h => Inc.empty h⟩
  | k + 1, T => by
    unfold sets
    rw [List.mem_append, List.mem_map]
    have e : ((k + 1 : Nat) : Int) = (k : Int) + 1 := by omega
    rw [e]
    constructor
    · rintro (h | ⟨U, h, rfl⟩)
      · exact ((mem_sets k T).mp h).hi (by omega)
      · exact ((mem_sets k U).mp h).snoc (by omega) (by omega)
    · intro h
      rcases Inc.split h with h1 | ⟨U, e1, h1⟩
      · exact .inl ((mem_sets k T).mpr h1)
      · exact .inr ⟨U, (mem_sets k U).mpr h1, e1.symm⟩
theorem sets_len : ∀ k : Nat, (sets k).length = 2 ^ k
  | 0 => rfl
  | k + 1 => by
    unfold sets
    rw [List.length_append, List.length_map, sets_len k, Nat.pow_succ]
    omega
theorem Inc.len {n : Int} : ∀ {T : List Int} {lo : Int}, Inc lo n T → lo ≤ n → (T.length : Int) ≤ n - lo
  | [], lo, _, h => by simp; omega
  | a :: t, lo, ⟨h1, h2, h3⟩, h => by
    have := Inc.len h3 (by omega)
    rw [List.length_cons]
    omega
theorem sm_nonneg {f : Int → Int} : ∀ {T : List Int}, (∀ x ∈ T, 0 ≤ f x) → 0 ≤ sm f T
  | [], _ => Int.le_refl _
  | a :: t, h => by
    have h1 := h a (List.mem_cons_self ..)
    have h2 := sm_nonneg (f := f) (T := t) fun x hx => h x (List.mem_cons_of_mem _ hx)
    show 0 ≤ f a + sm f t
    omega
theorem sm_pos {f : Int → Int} {T : List Int} (h : ∀ x ∈ T, 1 ≤ f x) : (T.length : Int) ≤ sm f T := by
  induction T with
  | nil => exact Int.le_refl _
  | cons a t ih =>
    have h1 := h a (List.mem_cons_self ..)
    have h2 := ih fun x hx => h x (List.mem_cons_of_mem _ hx)
    show ((t.length + 1 : Nat) : Int) ≤ f a + sm f t
    omega
theorem sm_one : ∀ T : List Int, sm (fun _ => 1) T = T.length
  | [] => rfl
  | a :: t => by
    show 1 + sm (fun _ => 1) t = ((t.length + 1 : Nat) : Int)
    rw [sm_one t]
    omega
theorem sm_congr {f g : Int → Int} : ∀ {T : List Int}, (∀ x ∈ T, f x = g x) → sm f T = sm g T
  | [], _ => rfl
  | a :: t, h => by
    show f a + sm f t = g a + sm g t
    rw [h a (List.mem_cons_self ..), sm_congr fun x hx => h x (List.mem_cons_of_mem _ hx)]
theorem sm_le {f g : Int → Int} : ∀ {T : List Int}, (∀ x ∈ T, f x ≤ g x) → sm f T ≤ sm g T
  | [], _ => Int.le_refl _
  | a :: t, h => by
    have h1 := h a (List.mem_cons_self ..)
    have h2 := sm_le (f := f) (g := g) (T := t) fun x hx => h x (List.mem_cons_of_mem _ hx)
    show f a + sm f t ≤ g a + sm g t
    omega
theorem sm_add {f g : Int → Int} : ∀ T : List Int, sm (fun x => f x + g x) T = sm f T + sm g T
  | [] => rfl
  | a :: t => by
    show f a + g a + sm (fun x => f x + g x) t = f a + sm f t + (g a + sm g t)
    rw [sm_add t]
    omega
theorem sm_append {f : Int → Int} : ∀ T U : List Int, sm f (T ++ U) = sm f T + sm f U
  | [], U => by show sm f U = 0 + sm f U; omega
  | a :: t, U => by
    show f a + sm f (t ++ U) = f a + sm f t + sm f U
    rw [sm_append t U]
    omega
theorem sm_eq_sum {f : Int → Int} : ∀ T : List Int, (T.map f).sum = sm f T
  | [] => rfl
  | a :: t => by
    rw [List.map_cons, List.sum_cons, sm_eq_sum t]
    rfl
theorem sm_mulr {f : Int → Int} {c : Int} : ∀ T : List Int, sm (fun x => f x * c) T = sm f T * c
  | [] => by show (0 : Int) = 0 * c; omega
  | a :: t => by
    show f a * c + sm (fun x => f x * c) t = (f a + sm f t) * c
    rw [sm_mulr t, Int.add_mul]
/-- all places from lo on -/
def al (lo : Int) : Nat → List Int
  | 0 => []
  | k + 1 => lo :: al (lo + 1) k
theorem al_inc : ∀ (k : Nat) (lo : Int), Inc lo (lo + k) (al lo k)
  | 0, _ => trivial
  | k + 1, lo => ⟨Int.le_refl _, by omega, by
    have := al_inc k (lo + 1)
    rw [show lo + 1 + (k : Int) = lo + ((k + 1 : Nat) : Int) by omega] at this
    exact this⟩
/-- a set weighs no more than all, where nothing weighs less than 0 -/
theorem sm_all {f : Int → Int} : ∀ (k : Nat) (lo : Int) (T : List Int), (∀ x, lo ≤ x → x < lo + k → 0 ≤ f x) → Inc lo (lo + k) T → sm f T ≤ sm f (al lo k)
  | 0, lo, T, _, h => by
    have e : lo + ((0 : Nat) : Int) = lo := by omega
    rw [e] at h
    rw [Inc.empty h]
    exact Int.le_refl _
  | k + 1, lo, T, hf, h => by
    have e : lo + ((k + 1 : Nat) : Int) = lo + 1 + (k : Int) := by omega
    rw [e] at h
    have h0 := hf lo (Int.le_refl _) (by omega)
    have ih := fun U hU => sm_all (f := f) k (lo + 1) U (fun x h1 h2 => hf x (by omega) (by omega)) hU
    cases T with
    | nil =>
      have := ih [] trivial
      show (0 : Int) ≤ f lo + sm f (al (lo + 1) k)
      have h2 : (0 : Int) ≤ sm f (al (lo + 1) k) := this
      omega
    | cons a t =>
      obtain ⟨h1, h2, h3⟩ := h
      show f a + sm f t ≤ f lo + sm f (al (lo + 1) k)
      by_cases ha : a = lo
      · subst ha
        have := ih t h3
        omega
      · have := ih (a :: t) ⟨by omega, h2, h3⟩
        have h4 : f a + sm f t ≤ sm f (al (lo + 1) k) := this
        omega
/-! ### the best of what is left -/
section
variable (W H : Int → Int) (n : Int)
/-- the most worth of the last k with c -/
def op : Nat → Int → Int
  | 0, _ => 0
  | k + 1, c => mx (op k c) (if H (n - k - 1) ≤ c then op k (c - H (n - k - 1)) + W (n - k - 1) else 0)
def tl : Nat → Int → List Int
  | 0, _ => []
  | k + 1, c => if op W H n (k + 1) c = 0 then [] else if H (n - k - 1) ≤ c ∧ op W H n k (c - H (n - k - 1)) + W (n - k - 1) = op W H n (k + 1) c then (n - k - 1) :: tl k (c - H (n - k - 1)) else tl k c
end
section
variable {W H : Int → Int} {n : Int}
theorem mx_ge (a b : Int) : a ≤ mx a b ∧ b ≤ mx a b ∧ (mx a b = a ∨ mx a b = b) := by
  unfold mx
  split <;> omega
theorem op_step (k : Nat) (c : Int) : op W H n k c ≤ op W H n (k + 1) c := (mx_ge _ _).1
theorem op_nonneg : ∀ (k : Nat) (c : Int), 0 ≤ op W H n k c
  | 0, _ => Int.le_refl _
  | k + 1, c => Int.le_trans (op_nonneg k c) (op_step k c)
theorem op_ge (hH : ∀ x, 0 ≤ x → x < n → 0 ≤ H x) : ∀ (k : Nat) (c : Int) (T : List Int), (k : Int) ≤ n → Inc (n - k) n T → sm H T ≤ c → sm W T ≤ op W H n k c
  | 0, c, T, _, h, _ => by
    have e : n - ((0 : Nat) : Int) = n := by omega
    rw [e] at h
    rw [Inc.empty h]
    exact Int.le_refl _
  | k + 1, c, T, hk, h, hc => by
    have e : n - ((k + 1 : Nat) : Int) = n - k - 1 := by omega
    rw [e] at h
    cases T with
    | nil => exact op_nonneg _ _
    | cons a t =>
      obtain ⟨h1, h2, h3⟩ := h
      have hc' : H a + sm H t ≤ c := hc
      by_cases ha : a = n - k - 1
      · subst ha
        have h3' : Inc (n - k) n t := h3.lo (by omega)
        have hp : 0 ≤ sm H t := sm_nonneg fun x hx => by
          have := h3.mem hx
          exact hH x (by omega) (by omega)
        have ih := op_ge hH k (c - H (n - k - 1)) t (by omega) h3' (by omega)
        have hcond : H (n - k - 1) ≤ c := by omega
        have := (mx_ge (op W H n k c) (if H (n - k - 1) ≤ c then op W H n k (c - H (n - k - 1)) + W (n - k - 1) else 0)).2.1
        rw [if_pos hcond] at this
        show W (n - k - 1) + sm W t ≤ mx (op W H n k c) (if H (n - k - 1) ≤ c then op W H n k (c - H (n - k - 1)) + W (n - k - 1) else 0)
        rw [if_pos hcond]
        omega
      · exact Int.le_trans (op_ge hH k c (a :: t) (by omega) ⟨by omega, h2, h3⟩ hc) (op_step k c)
theorem tl_ok : ∀ (k : Nat) (c : Int), 0 ≤ c → (k : Int) ≤ n → Inc (n - k) n (tl W H n k c) ∧ sm H (tl W H n k c) ≤ c ∧ sm W (tl W H n k c) = op W H n k c
  | 0, c, hc, _ => ⟨trivial, hc, rfl⟩
  | k + 1, c, hc, hk => by
    have e : n - ((k + 1 : Nat) : Int) = n - k - 1 := by omega
    rw [e]
    unfold tl
    by_cases h0 : op W H n (k + 1) c = 0
    · rw [if_pos h0]
      exact ⟨trivial, hc, h0.symm⟩
    · rw [if_neg h0]
      by_cases h1 : H (n - k - 1) ≤ c ∧ op W H n k (c - H (n - k - 1)) + W (n - k - 1) = op W H n (k + 1) c
      · rw [if_pos h1]
        obtain ⟨i1, i2, i3⟩ := tl_ok k (c - H (n - k - 1)) (by omega) (by omega)
        refine ⟨⟨Int.le_refl _, by omega, i1.lo (by omega)⟩, ?_, ?_⟩
        · show H (n - k - 1) + sm H (tl W H n k (c - H (n - k - 1))) ≤ c
          omega
        · show W (n - k - 1) + sm W (tl W H n k (c - H (n - k - 1))) = _
          rw [i3]
          omega
      · rw [if_neg h1]
        obtain ⟨i1, i2, i3⟩ := tl_ok k c hc (by omega)
        refine ⟨i1.lo (by omega), i2, i3.trans ?_⟩
        have h2 := (mx_ge (op W H n k c) (if H (n - k - 1) ≤ c then op W H n k (c - H (n - k - 1)) + W (n - k - 1) else 0)).2.2
        have h3 : op W H n (k + 1) c = mx (op W H n k c) (if H (n - k - 1) ≤ c then op W H n k (c - H (n - k - 1)) + W (n - k - 1) else 0) := rfl
        rw [← h3] at h2
        rcases h2 with h2 | h2
        · exact h2.symm
        · by_cases h4 : H (n - k - 1) ≤ c
          · rw [if_pos h4] at h2
            exact absurd ⟨h4, h2.symm⟩ h1
          · rw [if_neg h4] at h2
            exact absurd h2 h0
theorem tl_least (hH : ∀ x, 0 ≤ x → x < n → 0 ≤ H x) : ∀ (k : Nat) (c : Int) (T : List Int), 0 ≤ c → (k : Int) ≤ n → Inc (n - k) n T → sm H T ≤ c → sm W T = op W H n k c → tl W H n k c ≤ T
  | 0, c, T, _, _, _, _, _ => List.nil_le _
  | k + 1, c, T, hc0, hk, h, hc, hw => by
    have e : n - ((k + 1 : Nat) : Int) = n - k - 1 := by omega
    rw [e] at h
    unfold tl
    by_cases h0 : op W H n (k + 1) c = 0
    · rw [if_pos h0]
      exact List.nil_le _
    · rw [if_neg h0]
      cases T with
      | nil => exact absurd hw.symm h0
      | cons a t =>
        obtain ⟨h1, h2, h3⟩ := h
        have hc' : H a + sm H t ≤ c := hc
        have hw' : W a + sm W t = op W H n (k + 1) c := hw
        by_cases ha : a = n - k - 1
        · subst ha
          have h3' : Inc (n - k) n t := h3.lo (by omega)
          have hp : 0 ≤ sm H t := sm_nonneg fun x hx => by
            have := h3.mem hx
            exact hH x (by omega) (by omega)
          have i1 := op_ge (W := W) hH k (c - H (n - k - 1)) t (by omega) h3' (by omega)
          have hcond : H (n - k - 1) ≤ c := by omega
          have i2 : op W H n k (c - H (n - k - 1)) + W (n - k - 1) ≤ op W H n (k + 1) c := by
            have := (mx_ge (op W H n k c) (if H (n - k - 1) ≤ c then op W H n k (c - H (n - k - 1)) + W (n - k - 1) else 0)).2.1
            rw [if_pos hcond] at this
            show _ ≤ mx (op W H n k c) (if H (n - k - 1) ≤ c then op W H n k (c - H (n - k - 1)) + W (n - k - 1) else 0)
            rw [if_pos hcond]
            exact this
          rw [if_pos ⟨hcond, by omega⟩]
          have := tl_least hH k (c - H (n - k - 1)) t (by omega) (by omega) h3' (by omega) (by omega)
          exact List.cons_le_cons_iff.mpr (.inr ⟨rfl, this⟩)
        · have hT : Inc (n - k) n (a :: t) := ⟨by omega, h2, h3⟩
          by_cases h1c : H (n - k - 1) ≤ c ∧ op W H n k (c - H (n - k - 1)) + W (n - k - 1) = op W H n (k + 1) c
          · rw [if_pos h1c]
            refine List.le_of_lt (List.cons_lt_cons_iff.mpr (.inl ?_))
            omega
          · rw [if_neg h1c]
            have i1 := op_ge (W := W) hH k c (a :: t) (by omega) hT hc
            have i2 := op_step (W := W) (H := H) (n := n) k c
            have hwT : sm W (a :: t) = W a + sm W t := rfl
            exact tl_least hH k c (a :: t) hc0 (by omega) hT hc (by omega)
theorem op_mono (hH : ∀ x, 0 ≤ x → x < n → 0 ≤ H x) {k : Nat} {c c' : Int} (hk : (k : Int) ≤ n) (h0 : 0 ≤ c) (h : c ≤ c') : op W H n k c ≤ op W H n k c' := by
  obtain ⟨i1, i2, i3⟩ := tl_ok (W := W) (H := H) k c h0 hk
  rw [← i3]
  exact op_ge hH k c' _ hk i1 (by omega)
end
end G

end
section
set_option Elab.async false
set_option linter.all false
set_option maxRecDepth 100000
/-! plain: who is kept, one by one; what is left over -/
namespace G
open RM (bnd)
open PySem PySem.Spec PyProof.Rows L2
theorem sm_perm {f : Int → Int} {T U : List Int} (h : T.Perm U) : sm f T = sm f U := by
  induction h with
  | nil => rfl
  | cons x _ ih =>
    show f x + sm f _ = f x + sm f _
    rw [ih]
  | swap x y l =>
    show f y + (f x + sm f l) = f x + (f y + sm f l)
    omega
  | trans _ _ h1 h2 => exact h1.trans h2
theorem Inc.erase {n x : Int} : ∀ {T : List Int} {lo : Int}, Inc lo n T → Inc lo n (T.erase x)
  | [], _, _ => trivial
  | a :: t, lo, ⟨h1, h2, h3⟩ => by
    rw [List.erase_cons]
    split
    · exact h3.lo (by omega)
    · exact ⟨h1, h2, h3.erase⟩
theorem Inc.nodup {n : Int} : ∀ {T : List Int} {lo : Int}, Inc lo n T → T.Nodup
  | [], _, _ => List.nodup_nil
  | a :: t, lo, ⟨h1, h2, h3⟩ => List.nodup_cons.mpr ⟨fun h => by have := h3.mem h; omega, h3.nodup⟩
theorem inc_of {n : Int} : ∀ {T : List Int} {lo : Int}, T.Pairwise (· ≤ ·) → T.Nodup → (∀ x ∈ T, lo ≤ x ∧ x < n) → Inc lo n T
  | [], _, _, _, _ => trivial
  | a :: t, lo, hp, hn, hm => by
    obtain ⟨p1, p2⟩ := List.pairwise_cons.mp hp
    obtain ⟨q1, q2⟩ := List.nodup_cons.mp hn
    refine ⟨(hm a (List.mem_cons_self ..)).1, (hm a (List.mem_cons_self ..)).2, inc_of p2 q2 fun x hx => ?_⟩
    have := p1 x hx
    have h3 := (hm x (List.mem_cons_of_mem _ hx)).2
    have : x ≠ a := fun e => q1 (e ▸ hx)
    omega
theorem mem_al : ∀ (k : Nat) (lo x : Int), x ∈ al lo k ↔ lo ≤ x ∧ x < lo + k
  | 0, lo, x => by
    unfold al
    simp only [List.not_mem_nil, false_iff]
    omega
  | k + 1, lo, x => by
    unfold al
    rw [List.mem_cons, mem_al k (lo + 1) x]
    omega
theorem al_len : ∀ (k : Nat) (lo : Int), (al lo k).length = k
  | 0, _ => rfl
  | k + 1, lo => by
    unfold al
    rw [List.length_cons, al_len k (lo + 1)]
theorem al_snoc : ∀ (k : Nat) (lo : Int), al lo (k + 1) = al lo k ++ [lo + k]
  | 0, lo => by
    show [lo] = [lo + ((0 : Nat) : Int)]
    congr 1
    omega
  | k + 1, lo => by
    show lo :: al (lo + 1) (k + 1) = lo :: (al (lo + 1) k ++ [lo + ((k + 1 : Nat) : Int)])
    rw [al_snoc k (lo + 1)]
    congr 3
    omega
theorem al_tab : ∀ n : Nat, al 0 n = tab n fun i => i
  | 0 => rfl
  | n + 1 => by
    rw [al_snoc, al_tab n, tab_succ]
    congr 2
    omega
/-- m looked at: K kept, Z lost, w what is kept weighs -/
structure Gr (L : Int → Int) (s : Int) (m : Nat) (K Z : List Int) (w : Int) : Prop where
  inc : Inc 0 m K
  perm : (K ++ Z).Perm (al 0 m)
  sum : w = sm L K
  fits : w ≤ s
  le : ∀ l ∈ Z, ∀ k ∈ K, L k ≤ L l
  no : ∀ l ∈ Z, s < w + L l
section
variable {L : Int → Int} {s : Int} {m n : Nat} {K Z : List Int} {w : Int}
theorem gr0 (hs : 0 ≤ s) : Gr L s 0 [] [] 0 := ⟨trivial, .refl _, rfl, hs, fun _ h => (nomatch h), fun _ h => (nomatch h)⟩
theorem gr_fit (g : Gr L s m K Z w) (h0 : 0 ≤ L m) (h : w + L m ≤ s) : Gr L s (m + 1) (K ++ [(m : Int)]) Z (w + L m) := by
  have e : ((m + 1 : Nat) : Int) = (m : Int) + 1 := by omega
  refine ⟨?_, ?_, ?_, h, ?_, ?_⟩
  · rw [e]
    exact Inc.snoc g.inc (by omega) (by omega)
  · rw [al_snoc, show (0 : Int) + (m : Int) = m by omega]
    refine List.Perm.trans ?_ (g.perm.append (.refl [(m : Int)]))
    rw [List.append_assoc, List.append_assoc]
    exact (List.perm_append_comm).append_left K
  · rw [sm_append, g.sum]
    show _ = _ + (L m + 0)
    omega
  · intro l hl k hk
    rcases List.mem_append.mp hk with hk | hk
    · exact g.le l hl k hk
    · rw [List.mem_singleton] at hk
      subst hk
      have := g.no l hl
      omega
  · intro l hl
    have := g.no l hl
    omega
theorem gr_out (g : Gr L s m K Z w) (h : s < w + L m) {o : Int} (ho : o ∈ K ++ [(m : Int)]) (hmax : ∀ x ∈ K ++ [(m : Int)], L x ≤ L o) : Gr L s (m + 1) ((K ++ [(m : Int)]).erase o) (Z ++ [o]) (w + L m - L o) := by
  have e : ((m + 1 : Nat) : Int) = (m : Int) + 1 := by omega
  have hi : Inc 0 ((m : Int) + 1) (K ++ [(m : Int)]) := Inc.snoc g.inc (by omega) (by omega)
  have hp := List.perm_cons_erase ho
  have hs : sm L (K ++ [(m : Int)]) = L o + sm L ((K ++ [(m : Int)]).erase o) := sm_perm hp
  have hs2 : sm L (K ++ [(m : Int)]) = w + L m := by
    rw [sm_append, g.sum]
    show _ + (L m + 0) = _
    omega
  have hm := hmax m (List.mem_append_right _ (List.mem_singleton.mpr rfl))
  have hf := g.fits
  refine ⟨?_, ?_, by omega, by omega, ?_, ?_⟩
  · rw [e]
    exact hi.erase
  · rw [al_snoc, show (0 : Int) + (m : Int) = m by omega]
    refine List.Perm.trans ?_ (g.perm.append (.refl [(m : Int)]))
    have q1 : ((K ++ [(m : Int)]).erase o ++ (Z ++ [o])).Perm ((o :: (K ++ [(m : Int)]).erase o) ++ Z) := by
      refine List.Perm.trans (List.Perm.append_left _ List.perm_append_comm) ?_
      show ((K ++ [(m : Int)]).erase o ++ o :: Z).Perm (o :: ((K ++ [(m : Int)]).erase o ++ Z))
      exact List.perm_middle
    refine q1.trans ((hp.symm.append_right Z).trans ?_)
    rw [List.append_assoc, List.append_assoc]
    exact (List.perm_append_comm).append_left K
  · intro l hl k hk
    have hk' : k ∈ K ++ [(m : Int)] := List.mem_of_mem_erase hk
    rcases List.mem_append.mp hl with hl | hl
    · rcases List.mem_append.mp hk' with hk2 | hk2
      · exact g.le l hl k hk2
      · rw [List.mem_singleton] at hk2
        subst hk2
        rcases List.mem_append.mp ho with ho | ho
        · exact Int.le_trans hm (g.le l hl o ho)
        · rw [List.mem_singleton] at ho
          subst ho
          exact absurd hk (List.Nodup.not_mem_erase hi.nodup)
    · rw [List.mem_singleton] at hl
      subst hl
      exact hmax k hk'
  · intro l hl
    rcases List.mem_append.mp hl with hl | hl
    · have h2 := g.no l hl
      rcases List.mem_append.mp ho with ho | ho
      · have := g.le l hl o ho
        omega
      · rw [List.mem_singleton] at ho
        subst ho
        omega
    · rw [List.mem_singleton] at hl
      subst hl
      omega
/-- none that fits is more than what is kept -/
theorem gr_most (g : Gr L s n K Z w) (hL : ∀ x : Int, 0 ≤ x → x < n → 1 ≤ L x) {T : List Int} (hT : Inc 0 n T) (hs : sm L T ≤ s) : T.length ≤ K.length := by
  cases Z with
  | nil =>
    have h1 := g.perm.length_eq
    rw [al_len, List.append_nil] at h1
    have h2 := hT.len (by omega)
    omega
  | cons z Z' =>
    obtain ⟨l0, hl0, hmin⟩ : ∃ l0 ∈ z :: Z', ∀ l ∈ z :: Z', L l0 ≤ L l := by
      have : ∀ (Y : List Int) (y : Int), ∃ l0 ∈ y :: Y, ∀ l ∈ y :: Y, L l0 ≤ L l := by
        intro Y
        induction Y with
        | nil => exact fun y => ⟨y, List.mem_cons_self .., fun l hl => by rw [List.mem_singleton] at hl; rw [hl]; exact Int.le_refl _⟩
        | cons x Y ih =>
          intro y
          obtain ⟨l0, h1, h2⟩ := ih x
          by_cases c : L y ≤ L l0
          · refine ⟨y, List.mem_cons_self .., fun l hl => ?_⟩
            rcases List.mem_cons.mp hl with rfl | hl
            · exact Int.le_refl _
            · exact Int.le_trans c (h2 l hl)
          · refine ⟨l0, List.mem_cons_of_mem _ h1, fun l hl => ?_⟩
            rcases List.mem_cons.mp hl with rfl | hl
            · omega
            · exact h2 l hl
      exact this Z' z
    have hall : ∀ x, x ∈ K ++ (z :: Z') ↔ 0 ≤ x ∧ x < n := fun x => by
      rw [g.perm.mem_iff, mem_al]
      omega
    have hc : 1 ≤ L l0 := by
      have := (hall l0).mp (List.mem_append_right _ hl0)
      exact hL l0 this.1 this.2
    have hno := g.no l0 hl0
    -- what a place weighs beyond l0
    let f : Int → Int := fun x => if L x ≤ L l0 then L x - L l0 else 0
    have f0 : ∀ x, f x ≤ 0 := fun x => by
      show (if L x ≤ L l0 then L x - L l0 else 0) ≤ 0
      split <;> omega
    have f1 : ∀ x, f x + L l0 ≤ L x := fun x => by
      show (if L x ≤ L l0 then L x - L l0 else 0) + L l0 ≤ L x
      split <;> omega
    have a1 : sm f (al 0 n) ≤ sm f T := by
      have h := sm_all (f := fun x => - f x) n 0 T (fun x _ _ => by have := f0 x; omega) (by rw [show (0 : Int) + (n : Int) = n by omega]; exact hT)
      have e1 : ∀ U : List Int, sm (fun x => - f x) U = - sm f U := fun U => by
        induction U with
        | nil => rfl
        | cons a t ih =>
          show - f a + sm (fun x => - f x) t = - (f a + sm f t)
          rw [ih]
          omega
      rw [e1, e1] at h
      omega
    have a2 : sm f (al 0 n) = sm f K + sm f (z :: Z') := by
      rw [← sm_append]
      exact (sm_perm g.perm).symm
    have a3 : sm f (z :: Z') = 0 := by
      have : ∀ Y : List Int, (∀ l ∈ Y, L l0 ≤ L l) → sm f Y = 0 := by
        intro Y
        induction Y with
        | nil => intro _; rfl
        | cons a t ih =>
          intro h
          have h1 := h a (List.mem_cons_self ..)
          have h2 : f a = 0 := by
            show (if L a ≤ L l0 then L a - L l0 else 0) = 0
            split <;> omega
          show f a + sm f t = 0
          rw [h2, ih fun l hl => h l (List.mem_cons_of_mem _ hl)]
          rfl
      exact this _ hmin
    have a4 : sm f K + L l0 * K.length = sm L K := by
      have : ∀ Y : List Int, (∀ l ∈ Y, L l ≤ L l0) → sm f Y + L l0 * Y.length = sm L Y := by
        intro Y
        induction Y with
        | nil => intro _; show (0 : Int) + L l0 * ((0 : Nat) : Int) = 0; omega
        | cons a t ih =>
          intro h
          have h1 := h a (List.mem_cons_self ..)
          have h2 : f a = L a - L l0 := if_pos h1
          have h3 := ih fun l hl => h l (List.mem_cons_of_mem _ hl)
          show f a + sm f t + L l0 * ((t.length + 1 : Nat) : Int) = L a + sm L t
          rw [h2, Int.natCast_add, Int.mul_add]
          omega
      exact this K fun k hk => g.le l0 hl0 k hk
    have a5 : sm f T + L l0 * T.length ≤ sm L T := by
      have : ∀ Y : List Int, sm f Y + L l0 * Y.length ≤ sm L Y := by
        intro Y
        induction Y with
        | nil => show (0 : Int) + L l0 * ((0 : Nat) : Int) ≤ 0; omega
        | cons a t ih =>
          have h1 := f1 a
          show f a + sm f t + L l0 * ((t.length + 1 : Nat) : Int) ≤ L a + sm L t
          rw [Int.natCast_add, Int.mul_add]
          omega
      exact this T
    have a6 := g.sum
    refine Classical.byContradiction fun hcon => ?_
    have h7 : L l0 * 1 ≤ L l0 * ((T.length : Int) - K.length) := Int.mul_le_mul_of_nonneg_left (by omega) (by omega)
    rw [Int.mul_sub] at h7
    omega
/-- what is kept is as many as the best of lamps of worth 1 -/
theorem gr_op (g : Gr L s n K Z w) (hL : ∀ x : Int, 0 ≤ x → x < n → 1 ≤ L x) (h0 : 0 ≤ s) : op (fun _ => 1) L n n s = K.length := by
  have hH : ∀ x, 0 ≤ x → x < (n : Int) → 0 ≤ L x := fun x a b => by have := hL x a b; omega
  have hin : Inc ((n : Int) - n) n K := by
    rw [show (n : Int) - n = 0 by omega]
    exact g.inc
  have h1 := op_ge (W := fun _ => 1) hH n s K (Int.le_refl _) hin (by rw [← g.sum]; exact g.fits)
  obtain ⟨i1, i2, i3⟩ := tl_ok (W := fun _ => 1) (H := L) n s h0 (Int.le_refl _)
  rw [show (n : Int) - n = 0 by omega] at i1
  have h2 := gr_most g hL i1 i2
  rw [sm_one] at h1 i3
  omega
theorem gr_all (g : Gr L s n K Z w) (hL : ∀ x : Int, 0 ≤ x → x < n → 1 ≤ L x) : Z = [] ↔ sm L (al 0 n) ≤ s := by
  have h := sm_perm (f := L) g.perm
  rw [sm_append] at h
  have h1 := g.sum
  have h2 := g.fits
  constructor
  · intro e
    rw [e] at h
    have : sm L K + 0 = sm L (al 0 n) := h
    omega
  · intro e
    cases Z with
    | nil => rfl
    | cons z Z' =>
      have h3 := g.no z (List.mem_cons_self ..)
      have h4 : 0 ≤ sm L Z' := sm_nonneg fun x hx => by
        have : x ∈ al 0 n := g.perm.mem_iff.mp (List.mem_append_right _ (List.mem_cons_of_mem _ hx))
        rw [mem_al] at this
        have := hL x this.1 (by omega)
        omega
      have h5 : sm L K + (L z + sm L Z') = sm L (al 0 n) := h
      omega
end
end G

end
section
set_option Elab.async false
set_option linter.all false
set_option maxRecDepth 100000
namespace G
open RM (bnd)
open PySem PySem.Spec PyProof.Rows L2
theorem e_int (x : Int) : m_is_integer (.int x) = some (.bool true) := by
  simp only [m_is_integer, andW_p, orW_p, andW_u, orW_u, andV_u, orV_u, andV_p, orV_p, ifV_p, if_bool, if_bool, chT_ll, chT_lt, chT_tl, chV_ll, chV_lt, nameδ_eq, lstL, tx1_m1, tx1_0, tx2_m2, tx2_m1, tx2_0, tx2_1, tx3_m2, tx3_m1, tx3_0, tx3_1, tx3_2, tx4_m2, tx4_m1, tx4_0, tx4_1, tx4_2, tx4_3, tx5_m2, tx5_m1, tx5_0, tx5_1, tx5_2, tx5_3, tx5_4, tx6_m2, tx6_m1, tx6_0, tx6_1, tx6_2, tx6_3, tx6_4, tx6_5, lx1_m1, lx1_0, lx2_m2, lx2_m1, lx2_0, lx2_1, lx3_m2, lx3_m1, lx3_0, lx3_1, lx3_2, lx4_m2, lx4_m1, lx4_0, lx4_1, lx4_2, lx4_3, lx5_m2, lx5_m1, lx5_0, lx5_1, lx5_2, lx5_3, lx5_4, lx6_m2, lx6_m1, lx6_0, lx6_1, lx6_2, lx6_3, lx6_4, lx6_5, isiT, isiI, isiB, isiL, is_tt, is_ii, is_ib, is_ti, seqT, seqL, tupL, truL, truT, isN_N, lcP0, sz0, ap0, lcP1, sz1, ap1, lcP2, sz2, ap2, lcP3, sz3, ap3, lcP4, sz4, ap4, lcP5, sz5, ap5, lcP6, sz6, ap6, lcP7, sz7, ap7, lcP8, sz8, ap8, lT0, lL0, lT1, lL1, al1, lT2, lL2, al2, lT3, lL3, al3, lT4, lL4, al4, lT5, lL5, al5, lT6, lL6, al6, rg0, rg1, rg2, rg3, rg4, rh0_0, rh0_1, rh0_2, rh0_3, rh0_4, rh1_1, rh1_2, rh1_3, rh1_4, rh2_2, rh2_3, rh2_4, rh3_3, rh3_4, rdm1, rd0, rd1, rd2, rd3, ob, addI, subI, negI, ltI, leI, gtI, geI, eqI, neI, truB, truN, int1, nameδ_eq, Option.bind_some, if_true, decide_true, decide_false, Bool.not_true, Bool.not_false, Bool.and_true, Bool.true_and, Bool.and_false, Bool.false_and, Bool.or_false, Bool.false_or, Bool.or_true, Bool.true_or, Bool.false_eq_true, if_false, cmpM_nil, cmpM_cons, forD_nil, forD_cons, Int.reduceSub, Int.reduceAdd, Int.reduceLE, Int.reduceLT, Int.reduceNeg, Int.reduceMul, Int.reduceEq, Nat.reduceAdd, Nat.reduceLeDiff, Bool.and_self, Bool.or_self, List.isEmpty_nil, List.isEmpty_cons, en0t, zp0tt, zp0tl, en0l, zp0lt, zp0ll, en1t, zp1tt, zp1tl, en1l, zp1lt, zp1ll, en2t, zp2tt, zp2tl, en2l, zp2lt, zp2ll, en3t, zp3tt, zp3tl, en3l, zp3lt, zp3ll, en4t, zp4tt, zp4tl, en4l, zp4lt, zp4ll, tupδ_t, consδ_c, nilδ_n, if_so, oadd_if, oadd_s, oadd_n, emp_if, Bool.not_not, acc_1, acc_2, acc_3, acc_4, max2m, min2m, sl1_0, sl2_0, sl2_1, sl3_0, sl3_1, sl3_2, sl4_0, sl4_1, sl4_2, sl4_3, sl5_0, sl5_1, sl5_2, sl5_3, sl5_4, sl6_0, sl6_1, sl6_2, sl6_3, sl6_4, sl6_5, tru0, tru1, tru2, tru3, tru4, tru5, bnd_ite, ite_same]
theorem inc_lt {n : Int} : ∀ {T : List Int} {lo : Int}, Inc lo n T → T.Pairwise (· < ·)
  | [], _, _ => .nil
  | a :: t, lo, ⟨h1, h2, h3⟩ => List.pairwise_cons.mpr ⟨fun x hx => by have := h3.mem hx; omega, inc_lt h3⟩
theorem inc_at {n lo : Int} {T : List Int} (h : Inc lo n T) {i : Int} (h0 : 0 ≤ i) (h1 : i + 1 < T.length) : at0 T i < at0 T (i + 1) := by
  have hp := List.pairwise_iff_getElem.mp (inc_lt h) i.toNat (i + 1).toNat (by omega) (by omega) (by omega)
  unfold at0
  rw [List.getD_eq_getElem?_getD, List.getD_eq_getElem?_getD, List.getElem?_eq_getElem (by omega), List.getElem?_eq_getElem (by omega)]
  exact hp
/-! ### boats -/
structure Bo (n : Nat) (L : Int → Int) (s : Int) : Prop where
  n1 : 1 ≤ n
  n6 : n ≤ 6
  le : ∀ i : Int, 0 ≤ i → i < n → 1 ≤ L i ∧ L i ≤ 9
  s0 : 0 ≤ s
  s9 : s ≤ 100
def bt (L : Int → Int) (s i : Int) : D := .tuple [.int 0, .int (L i), .int s]
def bts (n : Nat) (L : Int → Int) (s : Int) : D := .tuple (tab n (bt L s))
section
variable {n : Nat} {L : Int → Int} {s : Int}
theorem bt0 (i : Int) : ixD (bt L s i) (.int 0) = some (.int 0) := rfl
theorem bt1 (i : Int) : ixD (bt L s i) (.int 1) = some (.int (L i)) := rfl
theorem bt2 (i : Int) : ixD (bt L s i) (.int 2) = some (.int s) := rfl
theorem btsI {z : Int} (h : 0 ≤ z ∧ z < n) : ixD (bts n L s) (.int z) = some (bt L s z) := ixT h
theorem ck_boats (g : Bo n L s) : m_check_boats (bts n L s) = some .none := by
  have n6 := g.n6
  have a2 : ¬ 40 < (n : Int) := by omega
  obtain ⟨_, _, e⟩ := forI (β := D) (δ := nameδ) (F := m_check_boats_l1) (n := n) (g := bt L s) (fun _ _ => True) (fun i st i0 i1 _ => ⟨_, (), rfl, trivial, fun kc kb => by
    have := g.le i i0 i1
    have s0 := g.s0
    have s9 := g.s9
    have b1 : ¬ L i < 1 := by omega
    have b2 : 0 ≤ L i := by omega
    have b3 : L i ≤ 1000 := by omega
    have b4 : s ≤ 1000 := by omega
    simp only [m_check_boats_l1, m_check_boats_c1, m_check_boats_c2, bt, e_int, b1, b2, b3, b4, s0, andW_p, orW_p, andW_u, orW_u, andV_u, orV_u, andV_p, orV_p, ifV_p, if_bool, if_bool, chT_ll, chT_lt, chT_tl, chV_ll, chV_lt, nameδ_eq, lstL, tx1_m1, tx1_0, tx2_m2, tx2_m1, tx2_0, tx2_1, tx3_m2, tx3_m1, tx3_0, tx3_1, tx3_2, tx4_m2, tx4_m1, tx4_0, tx4_1, tx4_2, tx4_3, tx5_m2, tx5_m1, tx5_0, tx5_1, tx5_2, tx5_3, tx5_4, tx6_m2, tx6_m1, tx6_0, tx6_1, tx6_2, tx6_3, tx6_4, tx6_5, lx1_m1, lx1_0, lx2_m2, lx2_m1, lx2_0, lx2_1, lx3_m2, lx3_m1, lx3_0, lx3_1, lx3_2, lx4_m2, lx4_m1, lx4_0, lx4_1, lx4_2, lx4_3, lx5_m2, lx5_m1, lx5_0, lx5_1, lx5_2, lx5_3, lx5_4, lx6_m2, lx6_m1, lx6_0, lx6_1, lx6_2, lx6_3, lx6_4, lx6_5, isiT, isiI, isiB, isiL, is_tt, is_ii, is_ib, is_ti, seqT, seqL, tupL, truL, truT, isN_N, lcP0, sz0, ap0, lcP1, sz1, ap1, lcP2, sz2, ap2, lcP3, sz3, ap3, lcP4, sz4, ap4, lcP5, sz5, ap5, lcP6, sz6, ap6, lcP7, sz7, ap7, lcP8, sz8, ap8, lT0, lL0, lT1, lL1, al1, lT2, lL2, al2, lT3, lL3, al3, lT4, lL4, al4, lT5, lL5, al5, lT6, lL6, al6, rg0, rg1, rg2, rg3, rg4, rh0_0, rh0_1, rh0_2, rh0_3, rh0_4, rh1_1, rh1_2, rh1_3, rh1_4, rh2_2, rh2_3, rh2_4, rh3_3, rh3_4, rdm1, rd0, rd1, rd2, rd3, ob, addI, subI, negI, ltI, leI, gtI, geI, eqI, neI, truB, truN, int1, nameδ_eq, Option.bind_some, if_true, decide_true, decide_false, Bool.not_true, Bool.not_false, Bool.and_true, Bool.true_and, Bool.and_false, Bool.false_and, Bool.or_false, Bool.false_or, Bool.or_true, Bool.true_or, Bool.false_eq_true, if_false, cmpM_nil, cmpM_cons, forD_nil, forD_cons, Int.reduceSub, Int.reduceAdd, Int.reduceLE, Int.reduceLT, Int.reduceNeg, Int.reduceMul, Int.reduceEq, Nat.reduceAdd, Nat.reduceLeDiff, Bool.and_self, Bool.or_self, List.isEmpty_nil, List.isEmpty_cons, en0t, zp0tt, zp0tl, en0l, zp0lt, zp0ll, en1t, zp1tt, zp1tl, en1l, zp1lt, zp1ll, en2t, zp2tt, zp2tl, en2l, zp2lt, zp2ll, en3t, zp3tt, zp3tl, en3l, zp3lt, zp3ll, en4t, zp4tt, zp4tl, en4l, zp4lt, zp4ll, tupδ_t, consδ_c, nilδ_n, if_so, oadd_if, oadd_s, oadd_n, emp_if, Bool.not_not, acc_1, acc_2, acc_3, acc_4, max2m, min2m, sl1_0, sl2_0, sl2_1, sl3_0, sl3_1, sl3_2, sl4_0, sl4_1, sl4_2, sl4_3, sl5_0, sl5_1, sl5_2, sl5_3, sl5_4, sl6_0, sl6_1, sl6_2, sl6_3, sl6_4, sl6_5, tru0, tru1, tru2, tru3, tru4, tru5, bnd_ite, ite_same]⟩) (s0 := ()) trivial
  have e4 : lenD [bts n L s] = some (.int n) := lenTt
  have e5 : seqD (bts n L s) = some (tab n (bt L s)) := rfl
  have e6 : isiD "tuple" (bts n L s) = some (.bool true) := rfl
  simp only [m_check_boats, e4, e5, e6, e, a2, andW_p, orW_p, andW_u, orW_u, andV_u, orV_u, andV_p, orV_p, ifV_p, if_bool, if_bool, chT_ll, chT_lt, chT_tl, chV_ll, chV_lt, nameδ_eq, lstL, tx1_m1, tx1_0, tx2_m2, tx2_m1, tx2_0, tx2_1, tx3_m2, tx3_m1, tx3_0, tx3_1, tx3_2, tx4_m2, tx4_m1, tx4_0, tx4_1, tx4_2, tx4_3, tx5_m2, tx5_m1, tx5_0, tx5_1, tx5_2, tx5_3, tx5_4, tx6_m2, tx6_m1, tx6_0, tx6_1, tx6_2, tx6_3, tx6_4, tx6_5, lx1_m1, lx1_0, lx2_m2, lx2_m1, lx2_0, lx2_1, lx3_m2, lx3_m1, lx3_0, lx3_1, lx3_2, lx4_m2, lx4_m1, lx4_0, lx4_1, lx4_2, lx4_3, lx5_m2, lx5_m1, lx5_0, lx5_1, lx5_2, lx5_3, lx5_4, lx6_m2, lx6_m1, lx6_0, lx6_1, lx6_2, lx6_3, lx6_4, lx6_5, isiT, isiI, isiB, isiL, is_tt, is_ii, is_ib, is_ti, seqT, seqL, tupL, truL, truT, isN_N, lcP0, sz0, ap0, lcP1, sz1, ap1, lcP2, sz2, ap2, lcP3, sz3, ap3, lcP4, sz4, ap4, lcP5, sz5, ap5, lcP6, sz6, ap6, lcP7, sz7, ap7, lcP8, sz8, ap8, lT0, lL0, lT1, lL1, al1, lT2, lL2, al2, lT3, lL3, al3, lT4, lL4, al4, lT5, lL5, al5, lT6, lL6, al6, rg0, rg1, rg2, rg3, rg4, rh0_0, rh0_1, rh0_2, rh0_3, rh0_4, rh1_1, rh1_2, rh1_3, rh1_4, rh2_2, rh2_3, rh2_4, rh3_3, rh3_4, rdm1, rd0, rd1, rd2, rd3, ob, addI, subI, negI, ltI, leI, gtI, geI, eqI, neI, truB, truN, int1, nameδ_eq, Option.bind_some, if_true, decide_true, decide_false, Bool.not_true, Bool.not_false, Bool.and_true, Bool.true_and, Bool.and_false, Bool.false_and, Bool.or_false, Bool.false_or, Bool.or_true, Bool.true_or, Bool.false_eq_true, if_false, cmpM_nil, cmpM_cons, forD_nil, forD_cons, Int.reduceSub, Int.reduceAdd, Int.reduceLE, Int.reduceLT, Int.reduceNeg, Int.reduceMul, Int.reduceEq, Nat.reduceAdd, Nat.reduceLeDiff, Bool.and_self, Bool.or_self, List.isEmpty_nil, List.isEmpty_cons, en0t, zp0tt, zp0tl, en0l, zp0lt, zp0ll, en1t, zp1tt, zp1tl, en1l, zp1lt, zp1ll, en2t, zp2tt, zp2tl, en2l, zp2lt, zp2ll, en3t, zp3tt, zp3tl, en3l, zp3lt, zp3ll, en4t, zp4tt, zp4tl, en4l, zp4lt, zp4ll, tupδ_t, consδ_c, nilδ_n, if_so, oadd_if, oadd_s, oadd_n, emp_if, Bool.not_not, acc_1, acc_2, acc_3, acc_4, max2m, min2m, sl1_0, sl2_0, sl2_1, sl3_0, sl3_1, sl3_2, sl4_0, sl4_1, sl4_2, sl4_3, sl5_0, sl5_1, sl5_2, sl5_3, sl5_4, sl6_0, sl6_1, sl6_2, sl6_3, sl6_4, sl6_5, tru0, tru1, tru2, tru3, tru4, tru5, bnd_ite, ite_same]
/-- how long it takes to each -/
def cs (L : Int → Int) (m : Int) : List Int → List Int
  | [] => []
  | a :: t => (m + L a) :: cs L (m + L a) t
theorem cs_len : ∀ (T : List Int) (m : Int), (cs L m T).length = T.length
  | [], _ => rfl
  | a :: t, m => by
    show (cs L (m + L a) t).length + 1 = t.length + 1
    rw [cs_len t]
theorem cs_le : ∀ (T : List Int) (m x : Int), (∀ y ∈ T, 1 ≤ L y) → x ∈ cs L m T → x ≤ m + sm L T
  | [], _, _, _, h => by cases h
  | a :: t, m, x, hL, h => by
    have h1 := hL a (List.mem_cons_self ..)
    have h2 : 0 ≤ sm L t := sm_nonneg fun y hy => by have := hL y (List.mem_cons_of_mem _ hy); omega
    show x ≤ m + (L a + sm L t)
    rcases List.mem_cons.mp h with rfl | h
    · omega
    · have := cs_le t (m + L a) x (fun y hy => hL y (List.mem_cons_of_mem _ hy)) h
      omega
theorem cs_last : ∀ (T : List Int) (m : Int), T ≠ [] → (m + sm L T) ∈ cs L m T
  | [], _, h => absurd rfl h
  | [a], m, _ => by
    show m + (L a + 0) ∈ [m + L a]
    rw [List.mem_singleton]
    omega
  | a :: b :: t, m, _ => by
    have := cs_last (b :: t) (m + L a) (fun e => nomatch e)
    show m + (L a + sm L (b :: t)) ∈ (m + L a) :: cs L (m + L a) (b :: t)
    rw [← Int.add_assoc]
    exact List.mem_cons_of_mem _ this
theorem ends_go (g : Bo n L s) (k : D × List D → Option (List D)) : ∀ (T acc : List Int) (m : Int), (∀ x ∈ T, 0 ≤ x ∧ x < n) → 0 ≤ m → acc.length + T.length ≤ 1000 →
    forD nameδ (m_ends_in_l1 (bts n L s)) (T.map .int) (.int m, acc.map .int) k = k (.int (m + sm L T), (acc ++ cs L m T).map .int)
  | [], acc, m, _, _, _ => by
    show k _ = _
    rw [show m + sm L [] = m by show m + 0 = m; omega, show cs L m [] = [] from rfl, List.append_nil]
  | a :: t, acc, m, h, hm, hl => by
    have ha := h a (List.mem_cons_self ..)
    have hL := g.le a ha.1 ha.2
    rw [List.length_cons] at hl
    have e1 : mx m 0 = m := mx_l hm
    have e2 : appD (acc.map .int) (.int (m + L a)) = some ((acc ++ [m + L a]).map PyData.int) := by
      rw [List.map_append]
      exact if_pos (by rw [List.length_map]; omega)
    have e3 : tupδ (consδ nameδ (consδ nameδ (consδ nameδ nilδ))) (bt L s a) = some (.int 0, .int (L a), .int s, ()) := rfl
    rw [List.map_cons, forD_cons]
    show bnd (R := Option (List D)) (nameδ (PyData.int a)) _ = _
    simp only [m_ends_in_l1, btsI ha, e3, e1, e2, andW_p, orW_p, andW_u, orW_u, andV_u, orV_u, andV_p, orV_p, ifV_p, if_bool, if_bool, chT_ll, chT_lt, chT_tl, chV_ll, chV_lt, nameδ_eq, lstL, tx1_m1, tx1_0, tx2_m2, tx2_m1, tx2_0, tx2_1, tx3_m2, tx3_m1, tx3_0, tx3_1, tx3_2, tx4_m2, tx4_m1, tx4_0, tx4_1, tx4_2, tx4_3, tx5_m2, tx5_m1, tx5_0, tx5_1, tx5_2, tx5_3, tx5_4, tx6_m2, tx6_m1, tx6_0, tx6_1, tx6_2, tx6_3, tx6_4, tx6_5, lx1_m1, lx1_0, lx2_m2, lx2_m1, lx2_0, lx2_1, lx3_m2, lx3_m1, lx3_0, lx3_1, lx3_2, lx4_m2, lx4_m1, lx4_0, lx4_1, lx4_2, lx4_3, lx5_m2, lx5_m1, lx5_0, lx5_1, lx5_2, lx5_3, lx5_4, lx6_m2, lx6_m1, lx6_0, lx6_1, lx6_2, lx6_3, lx6_4, lx6_5, isiT, isiI, isiB, isiL, is_tt, is_ii, is_ib, is_ti, seqT, seqL, tupL, truL, truT, isN_N, lcP0, sz0, ap0, lcP1, sz1, ap1, lcP2, sz2, ap2, lcP3, sz3, ap3, lcP4, sz4, ap4, lcP5, sz5, ap5, lcP6, sz6, ap6, lcP7, sz7, ap7, lcP8, sz8, ap8, lT0, lL0, lT1, lL1, al1, lT2, lL2, al2, lT3, lL3, al3, lT4, lL4, al4, lT5, lL5, al5, lT6, lL6, al6, rg0, rg1, rg2, rg3, rg4, rh0_0, rh0_1, rh0_2, rh0_3, rh0_4, rh1_1, rh1_2, rh1_3, rh1_4, rh2_2, rh2_3, rh2_4, rh3_3, rh3_4, rdm1, rd0, rd1, rd2, rd3, ob, addI, subI, negI, ltI, leI, gtI, geI, eqI, neI, truB, truN, int1, nameδ_eq, Option.bind_some, if_true, decide_true, decide_false, Bool.not_true, Bool.not_false, Bool.and_true, Bool.true_and, Bool.and_false, Bool.false_and, Bool.or_false, Bool.false_or, Bool.or_true, Bool.true_or, Bool.false_eq_true, if_false, cmpM_nil, cmpM_cons, forD_nil, forD_cons, Int.reduceSub, Int.reduceAdd, Int.reduceLE, Int.reduceLT, Int.reduceNeg, Int.reduceMul, Int.reduceEq, Nat.reduceAdd, Nat.reduceLeDiff, Bool.and_self, Bool.or_self, List.isEmpty_nil, List.isEmpty_cons, en0t, zp0tt, zp0tl, en0l, zp0lt, zp0ll, en1t, zp1tt, zp1tl, en1l, zp1lt, zp1ll, en2t, zp2tt, zp2tl, en2l, zp2lt, zp2ll, en3t, zp3tt, zp3tl, en3l, zp3lt, zp3ll, en4t, zp4tt, zp4tl, en4l, zp4lt, zp4ll, tupδ_t, consδ_c, nilδ_n, if_so, oadd_if, oadd_s, oadd_n, emp_if, Bool.not_not, acc_1, acc_2, acc_3, acc_4, max2m, min2m, sl1_0, sl2_0, sl2_1, sl3_0, sl3_1, sl3_2, sl4_0, sl4_1, sl4_2, sl4_3, sl5_0, sl5_1, sl5_2, sl5_3, sl5_4, sl6_0, sl6_1, sl6_2, sl6_3, sl6_4, sl6_5, tru0, tru1, tru2, tru3, tru4, tru5, bnd_ite, ite_same]
    rw [ends_go g k t (acc ++ [m + L a]) (m + L a) (fun x hx => h x (List.mem_cons_of_mem _ hx)) (by omega) (by rw [List.length_append, List.length_singleton]; omega)]
    show k _ = k _
    rw [show m + L a + sm L t = m + sm L (a :: t) by show _ = m + (L a + sm L t); omega, List.append_assoc]
    rfl
theorem ends_ok (g : Bo n L s) {o : D} {T : List Int} (ho : seqD o = some (T.map .int)) (h : ∀ x ∈ T, 0 ≤ x ∧ x < n) (hl : T.length ≤ 1000) : m_ends_in (bts n L s) o = some ((cs L 0 T).map .int) := by
  have e := ends_go g (fun s3 => some s3.2) T [] 0 h (Int.le_refl _) (by simpa using hl)
  have e' : forD nameδ (m_ends_in_l1 (bts n L s)) (T.map .int) (.int 0, []) (fun s3 => some s3.2) = some ((cs L 0 T).map PyData.int) := e
  simp only [m_ends_in, ho, e', andW_p, orW_p, andW_u, orW_u, andV_u, orV_u, andV_p, orV_p, ifV_p, if_bool, if_bool, chT_ll, chT_lt, chT_tl, chV_ll, chV_lt, nameδ_eq, lstL, tx1_m1, tx1_0, tx2_m2, tx2_m1, tx2_0, tx2_1, tx3_m2, tx3_m1, tx3_0, tx3_1, tx3_2, tx4_m2, tx4_m1, tx4_0, tx4_1, tx4_2, tx4_3, tx5_m2, tx5_m1, tx5_0, tx5_1, tx5_2, tx5_3, tx5_4, tx6_m2, tx6_m1, tx6_0, tx6_1, tx6_2, tx6_3, tx6_4, tx6_5, lx1_m1, lx1_0, lx2_m2, lx2_m1, lx2_0, lx2_1, lx3_m2, lx3_m1, lx3_0, lx3_1, lx3_2, lx4_m2, lx4_m1, lx4_0, lx4_1, lx4_2, lx4_3, lx5_m2, lx5_m1, lx5_0, lx5_1, lx5_2, lx5_3, lx5_4, lx6_m2, lx6_m1, lx6_0, lx6_1, lx6_2, lx6_3, lx6_4, lx6_5, isiT, isiI, isiB, isiL, is_tt, is_ii, is_ib, is_ti, seqT, seqL, tupL, truL, truT, isN_N, lcP0, sz0, ap0, lcP1, sz1, ap1, lcP2, sz2, ap2, lcP3, sz3, ap3, lcP4, sz4, ap4, lcP5, sz5, ap5, lcP6, sz6, ap6, lcP7, sz7, ap7, lcP8, sz8, ap8, lT0, lL0, lT1, lL1, al1, lT2, lL2, al2, lT3, lL3, al3, lT4, lL4, al4, lT5, lL5, al5, lT6, lL6, al6, rg0, rg1, rg2, rg3, rg4, rh0_0, rh0_1, rh0_2, rh0_3, rh0_4, rh1_1, rh1_2, rh1_3, rh1_4, rh2_2, rh2_3, rh2_4, rh3_3, rh3_4, rdm1, rd0, rd1, rd2, rd3, ob, addI, subI, negI, ltI, leI, gtI, geI, eqI, neI, truB, truN, int1, nameδ_eq, Option.bind_some, if_true, decide_true, decide_false, Bool.not_true, Bool.not_false, Bool.and_true, Bool.true_and, Bool.and_false, Bool.false_and, Bool.or_false, Bool.false_or, Bool.or_true, Bool.true_or, Bool.false_eq_true, if_false, cmpM_nil, cmpM_cons, forD_nil, forD_cons, Int.reduceSub, Int.reduceAdd, Int.reduceLE, Int.reduceLT, Int.reduceNeg, Int.reduceMul, Int.reduceEq, Nat.reduceAdd, Nat.reduceLeDiff, Bool.and_self, Bool.or_self, List.isEmpty_nil, List.isEmpty_cons, en0t, zp0tt, zp0tl, en0l, zp0lt, zp0ll, en1t, zp1tt, zp1tl, en1l, zp1lt, zp1ll, en2t, zp2tt, zp2tl, en2l, zp2lt, zp2ll, en3t, zp3tt, zp3tl, en3l, zp3lt, zp3ll, en4t, zp4tt, zp4tl, en4l, zp4lt, zp4ll, tupδ_t, consδ_c, nilδ_n, if_so, oadd_if, oadd_s, oadd_n, emp_if, Bool.not_not, acc_1, acc_2, acc_3, acc_4, max2m, min2m, sl1_0, sl2_0, sl2_1, sl3_0, sl3_1, sl3_2, sl4_0, sl4_1, sl4_2, sl4_3, sl5_0, sl5_1, sl5_2, sl5_3, sl5_4, sl6_0, sl6_1, sl6_2, sl6_3, sl6_4, sl6_5, tru0, tru1, tru2, tru3, tru4, tru5, bnd_ite, ite_same]
/-- all boats by their storms: one behind the other -/
theorem by_storm (n : Nat) (hn : n ≤ 1000) (s : Int) : sortE [.list (tab n fun i => .tuple [.int s, .int i])] = some (tab n fun i => .tuple [.int s, .int i]) := by
  have e : (tab n fun i => PyData.tuple [.int s, .int i]) = (tab n fun i => (s, i)).map prI := by
    rw [tab_map]
    rfl
  have hp : (tab n fun i : Int => (s, i)).Pairwise prLe := by
    have : ∀ m : Nat, (tab m fun i : Int => (s, i)).Pairwise prLe := by
      intro m
      induction m with
      | zero => exact .nil
      | succ m ih =>
        rw [tab_succ]
        refine List.pairwise_append.mpr ⟨ih, List.pairwise_singleton .., fun a ha b hb => ?_⟩
        obtain ⟨i, i0, i1, rfl⟩ := mem_tab.mp ha
        rw [List.mem_singleton] at hb
        subst hb
        exact .inr ⟨rfl, by show i ≤ (m : Int); omega⟩
    exact this n
  rw [e, sortE_of (sortOk_prs (by rw [tab_len]; omega)), srt_prs_self hp]
theorem enBts (n : Nat) (L : Int → Int) (s : Int) : enumD [bts n L s] = some (tab n fun i => .tuple [.int i, bt L s i]) := enT
end
end G

end
section
set_option Elab.async false
set_option linter.all false
set_option maxRecDepth 100000
namespace G
open RM (bnd)
open PySem PySem.Spec PyProof.Rows L2
theorem inT_ints (l : List Int) (v : Int) : inD (.int v) (tupI l) = some (decide (v ∈ l)) := by
  have g : ∀ d ∈ l.map PyData.int, Gd 1 d := fun d hd => by
    obtain ⟨i, _, rfl⟩ := List.mem_map.mp hd
    exact gd_int _ _
  show (if _ then _ else _) = _
  rw [if_pos ⟨(gd_int 1 _).sh, (gd_tup g).sh⟩]
  congr 1
  rw [List.any_map, Bool.eq_iff_iff, List.any_eq_true, decide_eq_true_eq]
  constructor
  · rintro ⟨x, hx, e⟩
    have e : PyData.eqv (.int x) (.int v) = true := e
    rw [eqv_int, decide_eq_true_eq] at e
    rw [← e]; exact hx
  · intro h
    exact ⟨v, h, by show PyData.eqv (.int v) (.int v) = true; rw [eqv_int, decide_eq_true_eq]⟩
theorem ninT_ints (l : List Int) (v : Int) : notInD (.int v) (tupI l) = some (!decide (v ∈ l)) := by
  unfold notInD
  rw [inT_ints]
  rfl
theorem lenI (l : List Int) : lenD [tupI l] = some (.int l.length) := by
  show some (PyData.int ((l.map PyData.int).length : Nat)) = _
  rw [List.length_map]
theorem lenLI (l : List Int) : lenD [.list (l.map .int)] = some (.int l.length) := by
  show some (PyData.int ((l.map PyData.int).length : Nat)) = _
  rw [List.length_map]
theorem allM {α : Type} (l : List α) : allD [.list (l.map fun _ => PyData.bool true)] = some (.bool true) := by
  have : ∀ l : List α, boolsD (l.map fun _ => PyData.bool true) = some (l.map fun _ => true) := by
    intro l
    induction l with
    | nil => rfl
    | cons a t ih =>
      show (boolsD (t.map fun _ => PyData.bool true)).map _ = _
      rw [ih]
      rfl
  show ((boolsD (l.map fun _ => PyData.bool true)).map fun bs => PyData.bool (bs.all id)) = _
  rw [this]
  show some (PyData.bool ((l.map fun _ => true).all id)) = _
  congr 2
  rw [List.all_map, List.all_eq_true]
  intro x _
  rfl
/-- those that are not in T -/
def kp (n : Nat) (T : List Int) : List Int := fil n (fun i => !decide (i ∈ T)) fun i => i
theorem mem_kp {n : Nat} {T : List Int} {x : Int} : x ∈ kp n T ↔ (0 ≤ x ∧ x < n) ∧ x ∉ T := by
  unfold kp
  rw [mem_fil]
  constructor
  · rintro ⟨i, h0, h1, h2, rfl⟩
    rw [Bool.not_eq_true', decide_eq_false_iff_not] at h2
    exact ⟨⟨h0, h1⟩, h2⟩
  · rintro ⟨⟨h0, h1⟩, h2⟩
    exact ⟨x, h0, h1, by rw [Bool.not_eq_true', decide_eq_false_iff_not]; exact h2, rfl⟩
theorem kp_inc (n : Nat) (T : List Int) : Inc 0 n (kp n T) := by
  have : ∀ m : Nat, Inc 0 m (fil m (fun i => !decide (i ∈ T)) fun i => i) := by
    intro m
    induction m with
    | zero => exact trivial
    | succ m ih =>
      rw [fil_back]
      have e : ((m + 1 : Nat) : Int) = (m : Int) + 1 := by omega
      rw [e]
      split
      · exact Inc.snoc ih (by omega) (by omega)
      · rw [List.append_nil]
        exact ih.hi (by omega)
  exact this n
theorem kp_perm {n : Nat} {T : List Int} (h : Inc 0 n T) : (kp n T ++ T).Perm (al 0 n) := by
  refine (List.perm_ext_iff_of_nodup (List.nodup_append.mpr ⟨(kp_inc n T).nodup, h.nodup, fun a ha b hb e => ?_⟩) (by have := al_inc n 0; exact this.nodup)).mpr fun x => ?_
  · subst e
    exact (mem_kp.mp ha).2 hb
  · rw [List.mem_append, mem_kp, mem_al]
    constructor
    · rintro (⟨h1, _⟩ | h1)
      · omega
      · have := h.mem h1
        omega
    · intro h1
      by_cases c : x ∈ T
      · exact .inr c
      · exact .inl ⟨by omega, c⟩
theorem kp_sm {n : Nat} {T : List Int} (h : Inc 0 n T) (f : Int → Int) : sm f (kp n T) + sm f T = sm f (al 0 n) := by
  rw [← sm_append]
  exact sm_perm (kp_perm h)
theorem kp_len {n : Nat} {T : List Int} (h : Inc 0 n T) : (kp n T).length + T.length = n := by
  have := (kp_perm h).length_eq
  rwa [List.length_append, al_len] at this
theorem kp_D (n : Nat) (T : List Int) : (fil n (fun i => !decide (i ∈ T)) fun i => PyData.int i) = (kp n T).map .int := (fil_map PyData.int).symm
section
variable {n : Nat} {L : Int → Int} {s : Int}
/-- is any late -/
theorem late_any (g : Bo n L s) {T : List Int} (h : ∀ x ∈ T, 0 ≤ x ∧ x < n) : anyB T.length (fun i => decide (s < at0 (cs L 0 T) i)) = decide (s < sm L T) := by
  have hL : ∀ y ∈ T, 1 ≤ L y := fun y hy => (g.le y (h y hy).1 (h y hy).2).1
  rw [Bool.eq_iff_iff, anyB_iff, decide_eq_true_eq]
  constructor
  · rintro ⟨i, h0, h1, h2⟩
    rw [decide_eq_true_eq] at h2
    have := cs_le T 0 _ hL (at0_mem (l := cs L 0 T) h0 (by rw [cs_len]; exact h1))
    omega
  · intro h2
    have hne : T ≠ [] := fun e => by
      rw [e] at h2
      have h3 : s < 0 := h2
      have := g.s0
      omega
    have h3 := cs_last T 0 hne (L := L)
    rw [show 0 + sm L T = sm L T by omega] at h3
    obtain ⟨i, h0, h1, h4⟩ := at0_of h3
    rw [cs_len] at h1
    exact ⟨i, h0, h1, by rw [decide_eq_true_eq, h4]; exact h2⟩
theorem acc_left (g : Bo n L s) {T : List Int} (hT : Inc 0 n T) (m : Int) : m_accept_left (bts n L s) (tupI T) (.int m) = acc (!decide (s < sm L (kp n T)) && !decide (m < T.length)) := by
  have n6 := g.n6
  have hTl := hT.len (by omega)
  have e1 : lcP nameδ (m_accept_left_c1 (bts n L s)) (T.map .int) = some (T.map fun _ => .bool true) := lcMa _ (by omega) fun x hx => by
    have hm := hT.mem hx
    have e2 : lenD [bts n L s] = some (.int n) := lenTt
    have b1 := hm.1
    have b2 := hm.2
    show bnd (R := Option (Option D)) (nameδ (PyData.int x)) _ = _
    simp only [m_accept_left_c1, e_int, e2, b1, b2, andW_p, orW_p, andW_u, orW_u, andV_u, orV_u, andV_p, orV_p, ifV_p, if_bool, if_bool, chT_ll, chT_lt, chT_tl, chV_ll, chV_lt, nameδ_eq, lstL, tx1_m1, tx1_0, tx2_m2, tx2_m1, tx2_0, tx2_1, tx3_m2, tx3_m1, tx3_0, tx3_1, tx3_2, tx4_m2, tx4_m1, tx4_0, tx4_1, tx4_2, tx4_3, tx5_m2, tx5_m1, tx5_0, tx5_1, tx5_2, tx5_3, tx5_4, tx6_m2, tx6_m1, tx6_0, tx6_1, tx6_2, tx6_3, tx6_4, tx6_5, lx1_m1, lx1_0, lx2_m2, lx2_m1, lx2_0, lx2_1, lx3_m2, lx3_m1, lx3_0, lx3_1, lx3_2, lx4_m2, lx4_m1, lx4_0, lx4_1, lx4_2, lx4_3, lx5_m2, lx5_m1, lx5_0, lx5_1, lx5_2, lx5_3, lx5_4, lx6_m2, lx6_m1, lx6_0, lx6_1, lx6_2, lx6_3, lx6_4, lx6_5, isiT, isiI, isiB, isiL, is_tt, is_ii, is_ib, is_ti, seqT, seqL, tupL, truL, truT, isN_N, lcP0, sz0, ap0, lcP1, sz1, ap1, lcP2, sz2, ap2, lcP3, sz3, ap3, lcP4, sz4, ap4, lcP5, sz5, ap5, lcP6, sz6, ap6, lcP7, sz7, ap7, lcP8, sz8, ap8, lT0, lL0, lT1, lL1, al1, lT2, lL2, al2, lT3, lL3, al3, lT4, lL4, al4, lT5, lL5, al5, lT6, lL6, al6, rg0, rg1, rg2, rg3, rg4, rh0_0, rh0_1, rh0_2, rh0_3, rh0_4, rh1_1, rh1_2, rh1_3, rh1_4, rh2_2, rh2_3, rh2_4, rh3_3, rh3_4, rdm1, rd0, rd1, rd2, rd3, ob, addI, subI, negI, ltI, leI, gtI, geI, eqI, neI, truB, truN, int1, nameδ_eq, Option.bind_some, if_true, decide_true, decide_false, Bool.not_true, Bool.not_false, Bool.and_true, Bool.true_and, Bool.and_false, Bool.false_and, Bool.or_false, Bool.false_or, Bool.or_true, Bool.true_or, Bool.false_eq_true, if_false, cmpM_nil, cmpM_cons, forD_nil, forD_cons, Int.reduceSub, Int.reduceAdd, Int.reduceLE, Int.reduceLT, Int.reduceNeg, Int.reduceMul, Int.reduceEq, Nat.reduceAdd, Nat.reduceLeDiff, Bool.and_self, Bool.or_self, List.isEmpty_nil, List.isEmpty_cons, en0t, zp0tt, zp0tl, en0l, zp0lt, zp0ll, en1t, zp1tt, zp1tl, en1l, zp1lt, zp1ll, en2t, zp2tt, zp2tl, en2l, zp2lt, zp2ll, en3t, zp3tt, zp3tl, en3l, zp3lt, zp3ll, en4t, zp4tt, zp4tl, en4l, zp4lt, zp4ll, tupδ_t, consδ_c, nilδ_n, if_so, oadd_if, oadd_s, oadd_n, emp_if, Bool.not_not, acc_1, acc_2, acc_3, acc_4, max2m, min2m, sl1_0, sl2_0, sl2_1, sl3_0, sl3_1, sl3_2, sl4_0, sl4_1, sl4_2, sl4_3, sl5_0, sl5_1, sl5_2, sl5_3, sl5_4, sl6_0, sl6_1, sl6_2, sl6_3, sl6_4, sl6_5, tru0, tru1, tru2, tru3, tru4, tru5, bnd_ite, ite_same]
  have e2 : seqD (tupI T) = some (T.map .int) := rfl
  have e3 : isiD "tuple" (tupI T) = some (.bool true) := rfl
  have e4 : rng1 [.int ((T.length : Int) - 1)] = some (tab ((T.length : Int) - 1).toNat .int) := rgT (by omega)
  have e5 : lcP nameδ (m_accept_left_c2 (tupI T)) (tab ((T.length : Int) - 1).toNat .int) = some [] := lcN (by omega) fun i h0 h1 => by
    have hlt := inc_at hT h0 (by omega)
    have b1 : ¬ at0 T (i + 1) ≤ at0 T i := by omega
    have x1 : ixD (tupI T) (.int i) = some (.int (at0 T i)) := by rw [tupI_tab]; exact ixT (by omega)
    have x2 : ixD (tupI T) (.int (i + 1)) = some (.int (at0 T (i + 1))) := by rw [tupI_tab]; exact ixT (by omega)
    simp only [m_accept_left_c2, x1, x2, b1, andW_p, orW_p, andW_u, orW_u, andV_u, orV_u, andV_p, orV_p, ifV_p, if_bool, if_bool, chT_ll, chT_lt, chT_tl, chV_ll, chV_lt, nameδ_eq, lstL, tx1_m1, tx1_0, tx2_m2, tx2_m1, tx2_0, tx2_1, tx3_m2, tx3_m1, tx3_0, tx3_1, tx3_2, tx4_m2, tx4_m1, tx4_0, tx4_1, tx4_2, tx4_3, tx5_m2, tx5_m1, tx5_0, tx5_1, tx5_2, tx5_3, tx5_4, tx6_m2, tx6_m1, tx6_0, tx6_1, tx6_2, tx6_3, tx6_4, tx6_5, lx1_m1, lx1_0, lx2_m2, lx2_m1, lx2_0, lx2_1, lx3_m2, lx3_m1, lx3_0, lx3_1, lx3_2, lx4_m2, lx4_m1, lx4_0, lx4_1, lx4_2, lx4_3, lx5_m2, lx5_m1, lx5_0, lx5_1, lx5_2, lx5_3, lx5_4, lx6_m2, lx6_m1, lx6_0, lx6_1, lx6_2, lx6_3, lx6_4, lx6_5, isiT, isiI, isiB, isiL, is_tt, is_ii, is_ib, is_ti, seqT, seqL, tupL, truL, truT, isN_N, lcP0, sz0, ap0, lcP1, sz1, ap1, lcP2, sz2, ap2, lcP3, sz3, ap3, lcP4, sz4, ap4, lcP5, sz5, ap5, lcP6, sz6, ap6, lcP7, sz7, ap7, lcP8, sz8, ap8, lT0, lL0, lT1, lL1, al1, lT2, lL2, al2, lT3, lL3, al3, lT4, lL4, al4, lT5, lL5, al5, lT6, lL6, al6, rg0, rg1, rg2, rg3, rg4, rh0_0, rh0_1, rh0_2, rh0_3, rh0_4, rh1_1, rh1_2, rh1_3, rh1_4, rh2_2, rh2_3, rh2_4, rh3_3, rh3_4, rdm1, rd0, rd1, rd2, rd3, ob, addI, subI, negI, ltI, leI, gtI, geI, eqI, neI, truB, truN, int1, nameδ_eq, Option.bind_some, if_true, decide_true, decide_false, Bool.not_true, Bool.not_false, Bool.and_true, Bool.true_and, Bool.and_false, Bool.false_and, Bool.or_false, Bool.false_or, Bool.or_true, Bool.true_or, Bool.false_eq_true, if_false, cmpM_nil, cmpM_cons, forD_nil, forD_cons, Int.reduceSub, Int.reduceAdd, Int.reduceLE, Int.reduceLT, Int.reduceNeg, Int.reduceMul, Int.reduceEq, Nat.reduceAdd, Nat.reduceLeDiff, Bool.and_self, Bool.or_self, List.isEmpty_nil, List.isEmpty_cons, en0t, zp0tt, zp0tl, en0l, zp0lt, zp0ll, en1t, zp1tt, zp1tl, en1l, zp1lt, zp1ll, en2t, zp2tt, zp2tl, en2l, zp2lt, zp2ll, en3t, zp3tt, zp3tl, en3l, zp3lt, zp3ll, en4t, zp4tt, zp4tl, en4l, zp4lt, zp4ll, tupδ_t, consδ_c, nilδ_n, if_so, oadd_if, oadd_s, oadd_n, emp_if, Bool.not_not, acc_1, acc_2, acc_3, acc_4, max2m, min2m, sl1_0, sl2_0, sl2_1, sl3_0, sl3_1, sl3_2, sl4_0, sl4_1, sl4_2, sl4_3, sl5_0, sl5_1, sl5_2, sl5_3, sl5_4, sl6_0, sl6_1, sl6_2, sl6_3, sl6_4, sl6_5, tru0, tru1, tru2, tru3, tru4, tru5, bnd_ite, ite_same]
  have e6 : lcP (tupδ (consδ nameδ (consδ nameδ nilδ))) m_accept_left_c3 (tab n fun i => .tuple [.int i, bt L s i]) = some (tab n fun i => .tuple [.int s, .int i]) := lcT _ (by omega) fun i h0 h1 => by
    show bnd (R := Option (Option D)) (tupδ (consδ nameδ (consδ nameδ nilδ)) (.tuple [.int i, bt L s i])) _ = _
    simp only [m_accept_left_c3, bt2, andW_p, orW_p, andW_u, orW_u, andV_u, orV_u, andV_p, orV_p, ifV_p, if_bool, if_bool, chT_ll, chT_lt, chT_tl, chV_ll, chV_lt, nameδ_eq, lstL, tx1_m1, tx1_0, tx2_m2, tx2_m1, tx2_0, tx2_1, tx3_m2, tx3_m1, tx3_0, tx3_1, tx3_2, tx4_m2, tx4_m1, tx4_0, tx4_1, tx4_2, tx4_3, tx5_m2, tx5_m1, tx5_0, tx5_1, tx5_2, tx5_3, tx5_4, tx6_m2, tx6_m1, tx6_0, tx6_1, tx6_2, tx6_3, tx6_4, tx6_5, lx1_m1, lx1_0, lx2_m2, lx2_m1, lx2_0, lx2_1, lx3_m2, lx3_m1, lx3_0, lx3_1, lx3_2, lx4_m2, lx4_m1, lx4_0, lx4_1, lx4_2, lx4_3, lx5_m2, lx5_m1, lx5_0, lx5_1, lx5_2, lx5_3, lx5_4, lx6_m2, lx6_m1, lx6_0, lx6_1, lx6_2, lx6_3, lx6_4, lx6_5, isiT, isiI, isiB, isiL, is_tt, is_ii, is_ib, is_ti, seqT, seqL, tupL, truL, truT, isN_N, lcP0, sz0, ap0, lcP1, sz1, ap1, lcP2, sz2, ap2, lcP3, sz3, ap3, lcP4, sz4, ap4, lcP5, sz5, ap5, lcP6, sz6, ap6, lcP7, sz7, ap7, lcP8, sz8, ap8, lT0, lL0, lT1, lL1, al1, lT2, lL2, al2, lT3, lL3, al3, lT4, lL4, al4, lT5, lL5, al5, lT6, lL6, al6, rg0, rg1, rg2, rg3, rg4, rh0_0, rh0_1, rh0_2, rh0_3, rh0_4, rh1_1, rh1_2, rh1_3, rh1_4, rh2_2, rh2_3, rh2_4, rh3_3, rh3_4, rdm1, rd0, rd1, rd2, rd3, ob, addI, subI, negI, ltI, leI, gtI, geI, eqI, neI, truB, truN, int1, nameδ_eq, Option.bind_some, if_true, decide_true, decide_false, Bool.not_true, Bool.not_false, Bool.and_true, Bool.true_and, Bool.and_false, Bool.false_and, Bool.or_false, Bool.false_or, Bool.or_true, Bool.true_or, Bool.false_eq_true, if_false, cmpM_nil, cmpM_cons, forD_nil, forD_cons, Int.reduceSub, Int.reduceAdd, Int.reduceLE, Int.reduceLT, Int.reduceNeg, Int.reduceMul, Int.reduceEq, Nat.reduceAdd, Nat.reduceLeDiff, Bool.and_self, Bool.or_self, List.isEmpty_nil, List.isEmpty_cons, en0t, zp0tt, zp0tl, en0l, zp0lt, zp0ll, en1t, zp1tt, zp1tl, en1l, zp1lt, zp1ll, en2t, zp2tt, zp2tl, en2l, zp2lt, zp2ll, en3t, zp3tt, zp3tl, en3l, zp3lt, zp3ll, en4t, zp4tt, zp4tl, en4l, zp4lt, zp4ll, tupδ_t, consδ_c, nilδ_n, if_so, oadd_if, oadd_s, oadd_n, emp_if, Bool.not_not, acc_1, acc_2, acc_3, acc_4, max2m, min2m, sl1_0, sl2_0, sl2_1, sl3_0, sl3_1, sl3_2, sl4_0, sl4_1, sl4_2, sl4_3, sl5_0, sl5_1, sl5_2, sl5_3, sl5_4, sl6_0, sl6_1, sl6_2, sl6_3, sl6_4, sl6_5, tru0, tru1, tru2, tru3, tru4, tru5, bnd_ite, ite_same]
  have e7 := by_storm n (by omega) s
  have e8 : lcP (tupδ (consδ nameδ (consδ nameδ nilδ))) (m_accept_left_c4 (tupI T)) (tab n fun i => .tuple [.int s, .int i]) = some ((kp n T).map .int) := by
    rw [← kp_D]
    refine lcF _ _ (by omega) fun i h0 h1 => ?_
    show bnd (R := Option (Option D)) (tupδ (consδ nameδ (consδ nameδ nilδ)) (.tuple [.int s, .int i])) _ = _
    simp only [m_accept_left_c4, ninT_ints, andW_p, orW_p, andW_u, orW_u, andV_u, orV_u, andV_p, orV_p, ifV_p, if_bool, if_bool, chT_ll, chT_lt, chT_tl, chV_ll, chV_lt, nameδ_eq, lstL, tx1_m1, tx1_0, tx2_m2, tx2_m1, tx2_0, tx2_1, tx3_m2, tx3_m1, tx3_0, tx3_1, tx3_2, tx4_m2, tx4_m1, tx4_0, tx4_1, tx4_2, tx4_3, tx5_m2, tx5_m1, tx5_0, tx5_1, tx5_2, tx5_3, tx5_4, tx6_m2, tx6_m1, tx6_0, tx6_1, tx6_2, tx6_3, tx6_4, tx6_5, lx1_m1, lx1_0, lx2_m2, lx2_m1, lx2_0, lx2_1, lx3_m2, lx3_m1, lx3_0, lx3_1, lx3_2, lx4_m2, lx4_m1, lx4_0, lx4_1, lx4_2, lx4_3, lx5_m2, lx5_m1, lx5_0, lx5_1, lx5_2, lx5_3, lx5_4, lx6_m2, lx6_m1, lx6_0, lx6_1, lx6_2, lx6_3, lx6_4, lx6_5, isiT, isiI, isiB, isiL, is_tt, is_ii, is_ib, is_ti, seqT, seqL, tupL, truL, truT, isN_N, lcP0, sz0, ap0, lcP1, sz1, ap1, lcP2, sz2, ap2, lcP3, sz3, ap3, lcP4, sz4, ap4, lcP5, sz5, ap5, lcP6, sz6, ap6, lcP7, sz7, ap7, lcP8, sz8, ap8, lT0, lL0, lT1, lL1, al1, lT2, lL2, al2, lT3, lL3, al3, lT4, lL4, al4, lT5, lL5, al5, lT6, lL6, al6, rg0, rg1, rg2, rg3, rg4, rh0_0, rh0_1, rh0_2, rh0_3, rh0_4, rh1_1, rh1_2, rh1_3, rh1_4, rh2_2, rh2_3, rh2_4, rh3_3, rh3_4, rdm1, rd0, rd1, rd2, rd3, ob, addI, subI, negI, ltI, leI, gtI, geI, eqI, neI, truB, truN, int1, nameδ_eq, Option.bind_some, if_true, decide_true, decide_false, Bool.not_true, Bool.not_false, Bool.and_true, Bool.true_and, Bool.and_false, Bool.false_and, Bool.or_false, Bool.false_or, Bool.or_true, Bool.true_or, Bool.false_eq_true, if_false, cmpM_nil, cmpM_cons, forD_nil, forD_cons, Int.reduceSub, Int.reduceAdd, Int.reduceLE, Int.reduceLT, Int.reduceNeg, Int.reduceMul, Int.reduceEq, Nat.reduceAdd, Nat.reduceLeDiff, Bool.and_self, Bool.or_self, List.isEmpty_nil, List.isEmpty_cons, en0t, zp0tt, zp0tl, en0l, zp0lt, zp0ll, en1t, zp1tt, zp1tl, en1l, zp1lt, zp1ll, en2t, zp2tt, zp2tl, en2l, zp2lt, zp2ll, en3t, zp3tt, zp3tl, en3l, zp3lt, zp3ll, en4t, zp4tt, zp4tl, en4l, zp4lt, zp4ll, tupδ_t, consδ_c, nilδ_n, if_so, oadd_if, oadd_s, oadd_n, emp_if, Bool.not_not, acc_1, acc_2, acc_3, acc_4, max2m, min2m, sl1_0, sl2_0, sl2_1, sl3_0, sl3_1, sl3_2, sl4_0, sl4_1, sl4_2, sl4_3, sl5_0, sl5_1, sl5_2, sl5_3, sl5_4, sl6_0, sl6_1, sl6_2, sl6_3, sl6_4, sl6_5, tru0, tru1, tru2, tru3, tru4, tru5, bnd_ite, ite_same]
  have hK : ∀ x ∈ kp n T, 0 ≤ x ∧ x < n := fun x hx => (mem_kp.mp hx).1
  have hKl := kp_len hT
  have e9 := ends_ok g (o := .list ((kp n T).map .int)) rfl hK (by omega)
  have e10 : zipD [.list ((kp n T).map .int), .list ((cs L 0 (kp n T)).map .int)] = some (tab (kp n T).length fun i => .tuple [.int (at0 (kp n T) i), .int (at0 (cs L 0 (kp n T)) i)]) := by
    rw [list_tab 0 PyData.int (kp n T), list_tab 0 PyData.int (cs L 0 (kp n T)), cs_len, zpLL, Nat.min_self]
    rfl
  have e11 : lcP (tupδ (consδ nameδ (consδ nameδ nilδ))) (m_accept_left_c5 (bts n L s)) (tab (kp n T).length fun i => .tuple [.int (at0 (kp n T) i), .int (at0 (cs L 0 (kp n T)) i)]) = some (fil (kp n T).length (fun i => decide (s < at0 (cs L 0 (kp n T)) i)) fun _ => .int 1) := lcF _ _ (by omega) fun i h0 h1 => by
    have hz := hK _ (at0_mem h0 h1)
    show bnd (R := Option (Option D)) (tupδ (consδ nameδ (consδ nameδ nilδ)) (.tuple [.int (at0 (kp n T) i), .int (at0 (cs L 0 (kp n T)) i)])) _ = _
    simp only [m_accept_left_c5, btsI hz, bt2, andW_p, orW_p, andW_u, orW_u, andV_u, orV_u, andV_p, orV_p, ifV_p, if_bool, if_bool, chT_ll, chT_lt, chT_tl, chV_ll, chV_lt, nameδ_eq, lstL, tx1_m1, tx1_0, tx2_m2, tx2_m1, tx2_0, tx2_1, tx3_m2, tx3_m1, tx3_0, tx3_1, tx3_2, tx4_m2, tx4_m1, tx4_0, tx4_1, tx4_2, tx4_3, tx5_m2, tx5_m1, tx5_0, tx5_1, tx5_2, tx5_3, tx5_4, tx6_m2, tx6_m1, tx6_0, tx6_1, tx6_2, tx6_3, tx6_4, tx6_5, lx1_m1, lx1_0, lx2_m2, lx2_m1, lx2_0, lx2_1, lx3_m2, lx3_m1, lx3_0, lx3_1, lx3_2, lx4_m2, lx4_m1, lx4_0, lx4_1, lx4_2, lx4_3, lx5_m2, lx5_m1, lx5_0, lx5_1, lx5_2, lx5_3, lx5_4, lx6_m2, lx6_m1, lx6_0, lx6_1, lx6_2, lx6_3, lx6_4, lx6_5, isiT, isiI, isiB, isiL, is_tt, is_ii, is_ib, is_ti, seqT, seqL, tupL, truL, truT, isN_N, lcP0, sz0, ap0, lcP1, sz1, ap1, lcP2, sz2, ap2, lcP3, sz3, ap3, lcP4, sz4, ap4, lcP5, sz5, ap5, lcP6, sz6, ap6, lcP7, sz7, ap7, lcP8, sz8, ap8, lT0, lL0, lT1, lL1, al1, lT2, lL2, al2, lT3, lL3, al3, lT4, lL4, al4, lT5, lL5, al5, lT6, lL6, al6, rg0, rg1, rg2, rg3, rg4, rh0_0, rh0_1, rh0_2, rh0_3, rh0_4, rh1_1, rh1_2, rh1_3, rh1_4, rh2_2, rh2_3, rh2_4, rh3_3, rh3_4, rdm1, rd0, rd1, rd2, rd3, ob, addI, subI, negI, ltI, leI, gtI, geI, eqI, neI, truB, truN, int1, nameδ_eq, Option.bind_some, if_true, decide_true, decide_false, Bool.not_true, Bool.not_false, Bool.and_true, Bool.true_and, Bool.and_false, Bool.false_and, Bool.or_false, Bool.false_or, Bool.or_true, Bool.true_or, Bool.false_eq_true, if_false, cmpM_nil, cmpM_cons, forD_nil, forD_cons, Int.reduceSub, Int.reduceAdd, Int.reduceLE, Int.reduceLT, Int.reduceNeg, Int.reduceMul, Int.reduceEq, Nat.reduceAdd, Nat.reduceLeDiff, Bool.and_self, Bool.or_self, List.isEmpty_nil, List.isEmpty_cons, en0t, zp0tt, zp0tl, en0l, zp0lt, zp0ll, en1t, zp1tt, zp1tl, en1l, zp1lt, zp1ll, en2t, zp2tt, zp2tl, en2l, zp2lt, zp2ll, en3t, zp3tt, zp3tl, en3l, zp3lt, zp3ll, en4t, zp4tt, zp4tl, en4l, zp4lt, zp4ll, tupδ_t, consδ_c, nilδ_n, if_so, oadd_if, oadd_s, oadd_n, emp_if, Bool.not_not, acc_1, acc_2, acc_3, acc_4, max2m, min2m, sl1_0, sl2_0, sl2_1, sl3_0, sl3_1, sl3_2, sl4_0, sl4_1, sl4_2, sl4_3, sl5_0, sl5_1, sl5_2, sl5_3, sl5_4, sl6_0, sl6_1, sl6_2, sl6_3, sl6_4, sl6_5, tru0, tru1, tru2, tru3, tru4, tru5, bnd_ite, ite_same]
  have e12 := late_any g hK
  simp only [m_accept_left, ck_boats g, e1, e2, e3, e4, e5, e_int, lenI, allM, enBts, e6, e7, e8, e9, e10, e11, fil_emp, e12, andW_p, orW_p, andW_u, orW_u, andV_u, orV_u, andV_p, orV_p, ifV_p, if_bool, if_bool, chT_ll, chT_lt, chT_tl, chV_ll, chV_lt, nameδ_eq, lstL, tx1_m1, tx1_0, tx2_m2, tx2_m1, tx2_0, tx2_1, tx3_m2, tx3_m1, tx3_0, tx3_1, tx3_2, tx4_m2, tx4_m1, tx4_0, tx4_1, tx4_2, tx4_3, tx5_m2, tx5_m1, tx5_0, tx5_1, tx5_2, tx5_3, tx5_4, tx6_m2, tx6_m1, tx6_0, tx6_1, tx6_2, tx6_3, tx6_4, tx6_5, lx1_m1, lx1_0, lx2_m2, lx2_m1, lx2_0, lx2_1, lx3_m2, lx3_m1, lx3_0, lx3_1, lx3_2, lx4_m2, lx4_m1, lx4_0, lx4_1, lx4_2, lx4_3, lx5_m2, lx5_m1, lx5_0, lx5_1, lx5_2, lx5_3, lx5_4, lx6_m2, lx6_m1, lx6_0, lx6_1, lx6_2, lx6_3, lx6_4, lx6_5, isiT, isiI, isiB, isiL, is_tt, is_ii, is_ib, is_ti, seqT, seqL, tupL, truL, truT, isN_N, lcP0, sz0, ap0, lcP1, sz1, ap1, lcP2, sz2, ap2, lcP3, sz3, ap3, lcP4, sz4, ap4, lcP5, sz5, ap5, lcP6, sz6, ap6, lcP7, sz7, ap7, lcP8, sz8, ap8, lT0, lL0, lT1, lL1, al1, lT2, lL2, al2, lT3, lL3, al3, lT4, lL4, al4, lT5, lL5, al5, lT6, lL6, al6, rg0, rg1, rg2, rg3, rg4, rh0_0, rh0_1, rh0_2, rh0_3, rh0_4, rh1_1, rh1_2, rh1_3, rh1_4, rh2_2, rh2_3, rh2_4, rh3_3, rh3_4, rdm1, rd0, rd1, rd2, rd3, ob, addI, subI, negI, ltI, leI, gtI, geI, eqI, neI, truB, truN, int1, nameδ_eq, Option.bind_some, if_true, decide_true, decide_false, Bool.not_true, Bool.not_false, Bool.and_true, Bool.true_and, Bool.and_false, Bool.false_and, Bool.or_false, Bool.false_or, Bool.or_true, Bool.true_or, Bool.false_eq_true, if_false, cmpM_nil, cmpM_cons, forD_nil, forD_cons, Int.reduceSub, Int.reduceAdd, Int.reduceLE, Int.reduceLT, Int.reduceNeg, Int.reduceMul, Int.reduceEq, Nat.reduceAdd, Nat.reduceLeDiff, Bool.and_self, Bool.or_self, List.isEmpty_nil, List.isEmpty_cons, en0t, zp0tt, zp0tl, en0l, zp0lt, zp0ll, en1t, zp1tt, zp1tl, en1l, zp1lt, zp1ll, en2t, zp2tt, zp2tl, en2l, zp2lt, zp2ll, en3t, zp3tt, zp3tl, en3l, zp3lt, zp3ll, en4t, zp4tt, zp4tl, en4l, zp4lt, zp4ll, tupδ_t, consδ_c, nilδ_n, if_so, oadd_if, oadd_s, oadd_n, emp_if, Bool.not_not, acc_1, acc_2, acc_3, acc_4, max2m, min2m, sl1_0, sl2_0, sl2_1, sl3_0, sl3_1, sl3_2, sl4_0, sl4_1, sl4_2, sl4_3, sl5_0, sl5_1, sl5_2, sl5_3, sl5_4, sl6_0, sl6_1, sl6_2, sl6_3, sl6_4, sl6_5, tru0, tru1, tru2, tru3, tru4, tru5, bnd_ite, ite_same]
end
end G

end
section
set_option Elab.async false
set_option linter.all false
set_option maxRecDepth 100000
namespace G
open RM (bnd)
open PySem PySem.Spec PyProof.Rows L2
theorem isI_all (l : List Int) : (l.map PyData.int).all isI = true := by
  rw [List.all_map, List.all_eq_true]
  intro x _
  rfl
theorem place_int : ∀ (l : List Int) (x : Int), x ∈ l → ∃ j, PySem.SeqAt.dataPlace (l.map .int) (.int x) = some j ∧ (l.map PyData.int).eraseIdx j = (l.erase x).map .int
  | [], x, h => by cases h
  | a :: t, x, h => by
    unfold PySem.SeqAt.dataPlace
    rw [List.map_cons, List.findIdx?_cons, eqv_int]
    by_cases c : a = x
    · refine ⟨0, by simp [c], ?_⟩
      subst c
      rw [List.erase_cons_head]
      rfl
    · have h' : x ∈ t := by
        rcases List.mem_cons.mp h with e | h'
        · exact absurd e.symm c
        · exact h'
      obtain ⟨j, h1, h2⟩ := place_int t x h'
      unfold PySem.SeqAt.dataPlace at h1
      refine ⟨j + 1, by rw [h1]; simp [c], ?_⟩
      rw [List.erase_cons_tail (by simpa using c), List.eraseIdx_cons_succ, h2]
      rfl
theorem remI {l : List Int} {x : Int} (h : x ∈ l) : remD (l.map .int) (.int x) = some ((l.erase x).map .int) := by
  obtain ⟨j, h1, h2⟩ := place_int l x h
  unfold remD
  rw [if_pos ⟨isI_all l, rfl⟩, h1]
  show some ((l.map PyData.int).eraseIdx j) = _
  rw [h2]
theorem appI {l : List Int} {x : Int} (h : l.length < 1000) : appD (l.map .int) (.int x) = some ((l ++ [x]).map .int) := by
  rw [List.map_append]
  exact if_pos (by rw [List.length_map]; omega)
theorem augI (f : Int → Int → Int) (i j : Int) : augD f (.int i) (.int j) = some (.int (f i j)) := rfl
section
variable {n : Nat} {L : Int → Int} {s : Int}
/-- the longest of those, by its place in the sorted pairs -/
theorem longest_out {K : List Int} (hne : K ≠ []) (hl : K.length ≤ 1000) : ∃ o r, o ∈ K ∧ (∀ x ∈ K, L x ≤ L o) ∧ sortE [.list (K.map fun x => .tuple [.int (-L x), .int x])] = some (prI (-L o, o) :: r) := by
  have e : (K.map fun x => PyData.tuple [.int (-L x), .int x]) = (K.map fun x => (-L x, x)).map prI := by
    rw [List.map_map]
    rfl
  rw [e, sortE_of (sortOk_prs (by rw [List.length_map]; omega)), srt_prs]
  have hp := prs_sorted (K.map fun x => (-L x, x))
  have hm := List.mergeSort_perm (K.map fun x => (-L x, x)) fun p q => decide (prLe p q)
  cases q : (K.map fun x => (-L x, x)).mergeSort fun p q => decide (prLe p q) with
  | nil =>
    rw [q] at hm
    have := hm.length_eq
    rw [List.length_map] at this
    exact absurd (List.eq_nil_of_length_eq_zero this.symm) hne
  | cons b r =>
    rw [q] at hp hm
    obtain ⟨o, ho, hb⟩ := List.mem_map.mp (hm.mem_iff.mp (List.mem_cons_self ..))
    subst hb
    refine ⟨o, r.map prI, ho, fun x hx => ?_, rfl⟩
    have hx' := hm.mem_iff.mpr (List.mem_map.mpr ⟨x, hx, rfl⟩)
    rcases List.mem_cons.mp hx' with e | h
    · have e1 : -L x = -L o := congrArg Prod.fst e
      omega
    · have := (List.pairwise_cons.mp hp).1 _ h
      have h2 : -L o < -L x ∨ (-L o = -L x ∧ o ≤ x) := this
      omega
theorem few_ok (g : Bo n L s) : ∃ K Z w, Gr L s n K Z w ∧ m_fewest_late (bts n L s) = some (tupI (srtI Z)) := by
  have n6 := g.n6
  have e1 : lcP (tupδ (consδ nameδ (consδ nameδ (consδ nameδ nilδ)))) m_fewest_late_c1 (tab n (bt L s)) = some [] := lcN (by omega) fun i h0 h1 => by
    show bnd (R := Option (Option D)) (tupδ (consδ nameδ (consδ nameδ (consδ nameδ nilδ))) (.tuple [.int 0, .int (L i), .int s])) _ = _
    have t0 : truD (.int 0) = some false := rfl
    simp only [m_fewest_late_c1, t0, andW_p, orW_p, andW_u, orW_u, andV_u, orV_u, andV_p, orV_p, ifV_p, if_bool, if_bool, chT_ll, chT_lt, chT_tl, chV_ll, chV_lt, nameδ_eq, lstL, tx1_m1, tx1_0, tx2_m2, tx2_m1, tx2_0, tx2_1, tx3_m2, tx3_m1, tx3_0, tx3_1, tx3_2, tx4_m2, tx4_m1, tx4_0, tx4_1, tx4_2, tx4_3, tx5_m2, tx5_m1, tx5_0, tx5_1, tx5_2, tx5_3, tx5_4, tx6_m2, tx6_m1, tx6_0, tx6_1, tx6_2, tx6_3, tx6_4, tx6_5, lx1_m1, lx1_0, lx2_m2, lx2_m1, lx2_0, lx2_1, lx3_m2, lx3_m1, lx3_0, lx3_1, lx3_2, lx4_m2, lx4_m1, lx4_0, lx4_1, lx4_2, lx4_3, lx5_m2, lx5_m1, lx5_0, lx5_1, lx5_2, lx5_3, lx5_4, lx6_m2, lx6_m1, lx6_0, lx6_1, lx6_2, lx6_3, lx6_4, lx6_5, isiT, isiI, isiB, isiL, is_tt, is_ii, is_ib, is_ti, seqT, seqL, tupL, truL, truT, isN_N, lcP0, sz0, ap0, lcP1, sz1, ap1, lcP2, sz2, ap2, lcP3, sz3, ap3, lcP4, sz4, ap4, lcP5, sz5, ap5, lcP6, sz6, ap6, lcP7, sz7, ap7, lcP8, sz8, ap8, lT0, lL0, lT1, lL1, al1, lT2, lL2, al2, lT3, lL3, al3, lT4, lL4, al4, lT5, lL5, al5, lT6, lL6, al6, rg0, rg1, rg2, rg3, rg4, rh0_0, rh0_1, rh0_2, rh0_3, rh0_4, rh1_1, rh1_2, rh1_3, rh1_4, rh2_2, rh2_3, rh2_4, rh3_3, rh3_4, rdm1, rd0, rd1, rd2, rd3, ob, addI, subI, negI, ltI, leI, gtI, geI, eqI, neI, truB, truN, int1, nameδ_eq, Option.bind_some, if_true, decide_true, decide_false, Bool.not_true, Bool.not_false, Bool.and_true, Bool.true_and, Bool.and_false, Bool.false_and, Bool.or_false, Bool.false_or, Bool.or_true, Bool.true_or, Bool.false_eq_true, if_false, cmpM_nil, cmpM_cons, forD_nil, forD_cons, Int.reduceSub, Int.reduceAdd, Int.reduceLE, Int.reduceLT, Int.reduceNeg, Int.reduceMul, Int.reduceEq, Nat.reduceAdd, Nat.reduceLeDiff, Bool.and_self, Bool.or_self, List.isEmpty_nil, List.isEmpty_cons, en0t, zp0tt, zp0tl, en0l, zp0lt, zp0ll, en1t, zp1tt, zp1tl, en1l, zp1lt, zp1ll, en2t, zp2tt, zp2tl, en2l, zp2lt, zp2ll, en3t, zp3tt, zp3tl, en3l, zp3lt, zp3ll, en4t, zp4tt, zp4tl, en4l, zp4lt, zp4ll, tupδ_t, consδ_c, nilδ_n, if_so, oadd_if, oadd_s, oadd_n, emp_if, Bool.not_not, acc_1, acc_2, acc_3, acc_4, max2m, min2m, sl1_0, sl2_0, sl2_1, sl3_0, sl3_1, sl3_2, sl4_0, sl4_1, sl4_2, sl4_3, sl5_0, sl5_1, sl5_2, sl5_3, sl5_4, sl6_0, sl6_1, sl6_2, sl6_3, sl6_4, sl6_5, tru0, tru1, tru2, tru3, tru4, tru5, bnd_ite, ite_same]
  have e2 : lcP (tupδ (consδ nameδ (consδ nameδ nilδ))) m_fewest_late_c2 (tab n fun i => .tuple [.int i, bt L s i]) = some (tab n fun i => .tuple [.int s, .int i]) := lcT _ (by omega) fun i h0 h1 => by
    show bnd (R := Option (Option D)) (tupδ (consδ nameδ (consδ nameδ nilδ)) (.tuple [.int i, bt L s i])) _ = _
    simp only [m_fewest_late_c2, bt2, andW_p, orW_p, andW_u, orW_u, andV_u, orV_u, andV_p, orV_p, ifV_p, if_bool, if_bool, chT_ll, chT_lt, chT_tl, chV_ll, chV_lt, nameδ_eq, lstL, tx1_m1, tx1_0, tx2_m2, tx2_m1, tx2_0, tx2_1, tx3_m2, tx3_m1, tx3_0, tx3_1, tx3_2, tx4_m2, tx4_m1, tx4_0, tx4_1, tx4_2, tx4_3, tx5_m2, tx5_m1, tx5_0, tx5_1, tx5_2, tx5_3, tx5_4, tx6_m2, tx6_m1, tx6_0, tx6_1, tx6_2, tx6_3, tx6_4, tx6_5, lx1_m1, lx1_0, lx2_m2, lx2_m1, lx2_0, lx2_1, lx3_m2, lx3_m1, lx3_0, lx3_1, lx3_2, lx4_m2, lx4_m1, lx4_0, lx4_1, lx4_2, lx4_3, lx5_m2, lx5_m1, lx5_0, lx5_1, lx5_2, lx5_3, lx5_4, lx6_m2, lx6_m1, lx6_0, lx6_1, lx6_2, lx6_3, lx6_4, lx6_5, isiT, isiI, isiB, isiL, is_tt, is_ii, is_ib, is_ti, seqT, seqL, tupL, truL, truT, isN_N, lcP0, sz0, ap0, lcP1, sz1, ap1, lcP2, sz2, ap2, lcP3, sz3, ap3, lcP4, sz4, ap4, lcP5, sz5, ap5, lcP6, sz6, ap6, lcP7, sz7, ap7, lcP8, sz8, ap8, lT0, lL0, lT1, lL1, al1, lT2, lL2, al2, lT3, lL3, al3, lT4, lL4, al4, lT5, lL5, al5, lT6, lL6, al6, rg0, rg1, rg2, rg3, rg4, rh0_0, rh0_1, rh0_2, rh0_3, rh0_4, rh1_1, rh1_2, rh1_3, rh1_4, rh2_2, rh2_3, rh2_4, rh3_3, rh3_4, rdm1, rd0, rd1, rd2, rd3, ob, addI, subI, negI, ltI, leI, gtI, geI, eqI, neI, truB, truN, int1, nameδ_eq, Option.bind_some, if_true, decide_true, decide_false, Bool.not_true, Bool.not_false, Bool.and_true, Bool.true_and, Bool.and_false, Bool.false_and, Bool.or_false, Bool.false_or, Bool.or_true, Bool.true_or, Bool.false_eq_true, if_false, cmpM_nil, cmpM_cons, forD_nil, forD_cons, Int.reduceSub, Int.reduceAdd, Int.reduceLE, Int.reduceLT, Int.reduceNeg, Int.reduceMul, Int.reduceEq, Nat.reduceAdd, Nat.reduceLeDiff, Bool.and_self, Bool.or_self, List.isEmpty_nil, List.isEmpty_cons, en0t, zp0tt, zp0tl, en0l, zp0lt, zp0ll, en1t, zp1tt, zp1tl, en1l, zp1lt, zp1ll, en2t, zp2tt, zp2tl, en2l, zp2lt, zp2ll, en3t, zp3tt, zp3tl, en3l, zp3lt, zp3ll, en4t, zp4tt, zp4tl, en4l, zp4lt, zp4ll, tupδ_t, consδ_c, nilδ_n, if_so, oadd_if, oadd_s, oadd_n, emp_if, Bool.not_not, acc_1, acc_2, acc_3, acc_4, max2m, min2m, sl1_0, sl2_0, sl2_1, sl3_0, sl3_1, sl3_2, sl4_0, sl4_1, sl4_2, sl4_3, sl5_0, sl5_1, sl5_2, sl5_3, sl5_4, sl6_0, sl6_1, sl6_2, sl6_3, sl6_4, sl6_5, tru0, tru1, tru2, tru3, tru4, tru5, bnd_ite, ite_same]
  have e3 := by_storm n (by omega) s
  obtain ⟨st, ⟨K, Z, w, hG, hst⟩, e4⟩ := forI (β := D) (δ := tupδ (consδ nameδ (consδ nameδ nilδ))) (F := m_fewest_late_l1 (bts n L s)) (n := n) (g := fun i => .tuple [.int s, .int i])
    (fun i st => ∃ K Z w, Gr L s i.toNat K Z w ∧ st = (K.map PyData.int, Z.map PyData.int, PyData.int w)) (fun i st i0 i1 hI => by
      obtain ⟨K, Z, w, hG, rfl⟩ := hI
      have hi : ((i.toNat : Nat) : Int) = i := Int.toNat_of_nonneg i0
      have hLi := g.le i i0 i1
      have hKl := hG.inc.len (by omega)
      have hZl := hG.perm.length_eq
      rw [List.length_append, al_len] at hZl
      have a1 := appI (l := K) (x := i) (by omega)
      have hgi : Gr L s i.toNat K Z w := hG
      refine ⟨(.int s, .int i, ()), ?_⟩
      by_cases c : s < w + L i
      · have hK' : ∀ x ∈ K ++ [i], 0 ≤ x ∧ x < n := fun x hx => by
          rcases List.mem_append.mp hx with hx | hx
          · have := hG.inc.mem hx
            omega
          · rw [List.mem_singleton] at hx
            omega
        obtain ⟨o, r, ho, hmax, es⟩ := longest_out (L := L) (K := K ++ [i]) (by simp) (by rw [List.length_append, List.length_singleton]; omega)
        have c3 : lcP nameδ (m_fewest_late_c3 (bts n L s)) ((K ++ [i]).map .int) = some ((K ++ [i]).map fun x => .tuple [.int (-L x), .int x]) := lcMa _ (by rw [List.length_append, List.length_singleton]; omega) fun x hx => by
          show bnd (R := Option (Option D)) (nameδ (PyData.int x)) _ = _
          simp only [m_fewest_late_c3, btsI (hK' x hx), bt1, andW_p, orW_p, andW_u, orW_u, andV_u, orV_u, andV_p, orV_p, ifV_p, if_bool, if_bool, chT_ll, chT_lt, chT_tl, chV_ll, chV_lt, nameδ_eq, lstL, tx1_m1, tx1_0, tx2_m2, tx2_m1, tx2_0, tx2_1, tx3_m2, tx3_m1, tx3_0, tx3_1, tx3_2, tx4_m2, tx4_m1, tx4_0, tx4_1, tx4_2, tx4_3, tx5_m2, tx5_m1, tx5_0, tx5_1, tx5_2, tx5_3, tx5_4, tx6_m2, tx6_m1, tx6_0, tx6_1, tx6_2, tx6_3, tx6_4, tx6_5, lx1_m1, lx1_0, lx2_m2, lx2_m1, lx2_0, lx2_1, lx3_m2, lx3_m1, lx3_0, lx3_1, lx3_2, lx4_m2, lx4_m1, lx4_0, lx4_1, lx4_2, lx4_3, lx5_m2, lx5_m1, lx5_0, lx5_1, lx5_2, lx5_3, lx5_4, lx6_m2, lx6_m1, lx6_0, lx6_1, lx6_2, lx6_3, lx6_4, lx6_5, isiT, isiI, isiB, isiL, is_tt, is_ii, is_ib, is_ti, seqT, seqL, tupL, truL, truT, isN_N, lcP0, sz0, ap0, lcP1, sz1, ap1, lcP2, sz2, ap2, lcP3, sz3, ap3, lcP4, sz4, ap4, lcP5, sz5, ap5, lcP6, sz6, ap6, lcP7, sz7, ap7, lcP8, sz8, ap8, lT0, lL0, lT1, lL1, al1, lT2, lL2, al2, lT3, lL3, al3, lT4, lL4, al4, lT5, lL5, al5, lT6, lL6, al6, rg0, rg1, rg2, rg3, rg4, rh0_0, rh0_1, rh0_2, rh0_3, rh0_4, rh1_1, rh1_2, rh1_3, rh1_4, rh2_2, rh2_3, rh2_4, rh3_3, rh3_4, rdm1, rd0, rd1, rd2, rd3, ob, addI, subI, negI, ltI, leI, gtI, geI, eqI, neI, truB, truN, int1, nameδ_eq, Option.bind_some, if_true, decide_true, decide_false, Bool.not_true, Bool.not_false, Bool.and_true, Bool.true_and, Bool.and_false, Bool.false_and, Bool.or_false, Bool.false_or, Bool.or_true, Bool.true_or, Bool.false_eq_true, if_false, cmpM_nil, cmpM_cons, forD_nil, forD_cons, Int.reduceSub, Int.reduceAdd, Int.reduceLE, Int.reduceLT, Int.reduceNeg, Int.reduceMul, Int.reduceEq, Nat.reduceAdd, Nat.reduceLeDiff, Bool.and_self, Bool.or_self, List.isEmpty_nil, List.isEmpty_cons, en0t, zp0tt, zp0tl, en0l, zp0lt, zp0ll, en1t, zp1tt, zp1tl, en1l, zp1lt, zp1ll, en2t, zp2tt, zp2tl, en2l, zp2lt, zp2ll, en3t, zp3tt, zp3tl, en3l, zp3lt, zp3ll, en4t, zp4tt, zp4tl, en4l, zp4lt, zp4ll, tupδ_t, consδ_c, nilδ_n, if_so, oadd_if, oadd_s, oadd_n, emp_if, Bool.not_not, acc_1, acc_2, acc_3, acc_4, max2m, min2m, sl1_0, sl2_0, sl2_1, sl3_0, sl3_1, sl3_2, sl4_0, sl4_1, sl4_2, sl4_3, sl5_0, sl5_1, sl5_2, sl5_3, sl5_4, sl6_0, sl6_1, sl6_2, sl6_3, sl6_4, sl6_5, tru0, tru1, tru2, tru3, tru4, tru5, bnd_ite, ite_same]
        have hg := gr_out (L := L) (s := s) hG (by rw [hi]; exact c) (o := o) (by rw [hi]; exact ho) (by rw [hi]; exact hmax)
        rw [hi] at hg
        have x1 : ixD (.list (prI (-L o, o) :: r)) (.int 0) = some (prI (-L o, o)) := ix_head _ _
        have x2 : ixD (prI (-L o, o)) (.int 1) = some (.int o) := rfl
        have a2 := remI ho
        have a3 := appI (l := Z) (x := o) (by omega)
        have c' : decide (s < w + L i) = true := decide_eq_true c
        refine ⟨(((K ++ [i]).erase o).map PyData.int, (Z ++ [o]).map PyData.int, .int (w + L i - L o)), rfl, ⟨_, _, _, ?_, rfl⟩, fun kc kb => ?_⟩
        · rw [show (i + 1).toNat = i.toNat + 1 by omega]
          exact hg
        · simp only [m_fewest_late_l1, m_fewest_late_j2, a1, btsI (n := n) (z := i) ⟨i0, i1⟩, bt1, augI, c', c3, es, x1, x2, a2, a3, btsI (hK' o ho), andW_p, orW_p, andW_u, orW_u, andV_u, orV_u, andV_p, orV_p, ifV_p, if_bool, if_bool, chT_ll, chT_lt, chT_tl, chV_ll, chV_lt, nameδ_eq, lstL, tx1_m1, tx1_0, tx2_m2, tx2_m1, tx2_0, tx2_1, tx3_m2, tx3_m1, tx3_0, tx3_1, tx3_2, tx4_m2, tx4_m1, tx4_0, tx4_1, tx4_2, tx4_3, tx5_m2, tx5_m1, tx5_0, tx5_1, tx5_2, tx5_3, tx5_4, tx6_m2, tx6_m1, tx6_0, tx6_1, tx6_2, tx6_3, tx6_4, tx6_5, lx1_m1, lx1_0, lx2_m2, lx2_m1, lx2_0, lx2_1, lx3_m2, lx3_m1, lx3_0, lx3_1, lx3_2, lx4_m2, lx4_m1, lx4_0, lx4_1, lx4_2, lx4_3, lx5_m2, lx5_m1, lx5_0, lx5_1, lx5_2, lx5_3, lx5_4, lx6_m2, lx6_m1, lx6_0, lx6_1, lx6_2, lx6_3, lx6_4, lx6_5, isiT, isiI, isiB, isiL, is_tt, is_ii, is_ib, is_ti, seqT, seqL, tupL, truL, truT, isN_N, lcP0, sz0, ap0, lcP1, sz1, ap1, lcP2, sz2, ap2, lcP3, sz3, ap3, lcP4, sz4, ap4, lcP5, sz5, ap5, lcP6, sz6, ap6, lcP7, sz7, ap7, lcP8, sz8, ap8, lT0, lL0, lT1, lL1, al1, lT2, lL2, al2, lT3, lL3, al3, lT4, lL4, al4, lT5, lL5, al5, lT6, lL6, al6, rg0, rg1, rg2, rg3, rg4, rh0_0, rh0_1, rh0_2, rh0_3, rh0_4, rh1_1, rh1_2, rh1_3, rh1_4, rh2_2, rh2_3, rh2_4, rh3_3, rh3_4, rdm1, rd0, rd1, rd2, rd3, ob, addI, subI, negI, ltI, leI, gtI, geI, eqI, neI, truB, truN, int1, nameδ_eq, Option.bind_some, if_true, decide_true, decide_false, Bool.not_true, Bool.not_false, Bool.and_true, Bool.true_and, Bool.and_false, Bool.false_and, Bool.or_false, Bool.false_or, Bool.or_true, Bool.true_or, Bool.false_eq_true, if_false, cmpM_nil, cmpM_cons, forD_nil, forD_cons, Int.reduceSub, Int.reduceAdd, Int.reduceLE, Int.reduceLT, Int.reduceNeg, Int.reduceMul, Int.reduceEq, Nat.reduceAdd, Nat.reduceLeDiff, Bool.and_self, Bool.or_self, List.isEmpty_nil, List.isEmpty_cons, en0t, zp0tt, zp0tl, en0l, zp0lt, zp0ll, en1t, zp1tt, zp1tl, en1l, zp1lt, zp1ll, en2t, zp2tt, zp2tl, en2l, zp2lt, zp2ll, en3t, zp3tt, zp3tl, en3l, zp3lt, zp3ll, en4t, zp4tt, zp4tl, en4l, zp4lt, zp4ll, tupδ_t, consδ_c, nilδ_n, if_so, oadd_if, oadd_s, oadd_n, emp_if, Bool.not_not, acc_1, acc_2, acc_3, acc_4, max2m, min2m, sl1_0, sl2_0, sl2_1, sl3_0, sl3_1, sl3_2, sl4_0, sl4_1, sl4_2, sl4_3, sl5_0, sl5_1, sl5_2, sl5_3, sl5_4, sl6_0, sl6_1, sl6_2, sl6_3, sl6_4, sl6_5, tru0, tru1, tru2, tru3, tru4, tru5, bnd_ite, ite_same]
      · have c' : decide (s < w + L i) = false := decide_eq_false c
        refine ⟨((K ++ [i]).map PyData.int, Z.map PyData.int, .int (w + L i)), rfl, ⟨_, _, _, ?_, rfl⟩, fun kc kb => ?_⟩
        · rw [show (i + 1).toNat = i.toNat + 1 by omega]
          have := gr_fit hG (by rw [hi]; omega) (by rw [hi]; omega)
          rw [hi] at this
          exact this
        · simp only [m_fewest_late_l1, m_fewest_late_j2, a1, btsI (n := n) (z := i) ⟨i0, i1⟩, bt1, augI, c', andW_p, orW_p, andW_u, orW_u, andV_u, orV_u, andV_p, orV_p, ifV_p, if_bool, if_bool, chT_ll, chT_lt, chT_tl, chV_ll, chV_lt, nameδ_eq, lstL, tx1_m1, tx1_0, tx2_m2, tx2_m1, tx2_0, tx2_1, tx3_m2, tx3_m1, tx3_0, tx3_1, tx3_2, tx4_m2, tx4_m1, tx4_0, tx4_1, tx4_2, tx4_3, tx5_m2, tx5_m1, tx5_0, tx5_1, tx5_2, tx5_3, tx5_4, tx6_m2, tx6_m1, tx6_0, tx6_1, tx6_2, tx6_3, tx6_4, tx6_5, lx1_m1, lx1_0, lx2_m2, lx2_m1, lx2_0, lx2_1, lx3_m2, lx3_m1, lx3_0, lx3_1, lx3_2, lx4_m2, lx4_m1, lx4_0, lx4_1, lx4_2, lx4_3, lx5_m2, lx5_m1, lx5_0, lx5_1, lx5_2, lx5_3, lx5_4, lx6_m2, lx6_m1, lx6_0, lx6_1, lx6_2, lx6_3, lx6_4, lx6_5, isiT, isiI, isiB, isiL, is_tt, is_ii, is_ib, is_ti, seqT, seqL, tupL, truL, truT, isN_N, lcP0, sz0, ap0, lcP1, sz1, ap1, lcP2, sz2, ap2, lcP3, sz3, ap3, lcP4, sz4, ap4, lcP5, sz5, ap5, lcP6, sz6, ap6, lcP7, sz7, ap7, lcP8, sz8, ap8, lT0, lL0, lT1, lL1, al1, lT2, lL2, al2, lT3, lL3, al3, lT4, lL4, al4, lT5, lL5, al5, lT6, lL6, al6, rg0, rg1, rg2, rg3, rg4, rh0_0, rh0_1, rh0_2, rh0_3, rh0_4, rh1_1, rh1_2, rh1_3, rh1_4, rh2_2, rh2_3, rh2_4, rh3_3, rh3_4, rdm1, rd0, rd1, rd2, rd3, ob, addI, subI, negI, ltI, leI, gtI, geI, eqI, neI, truB, truN, int1, nameδ_eq, Option.bind_some, if_true, decide_true, decide_false, Bool.not_true, Bool.not_false, Bool.and_true, Bool.true_and, Bool.and_false, Bool.false_and, Bool.or_false, Bool.false_or, Bool.or_true, Bool.true_or, Bool.false_eq_true, if_false, cmpM_nil, cmpM_cons, forD_nil, forD_cons, Int.reduceSub, Int.reduceAdd, Int.reduceLE, Int.reduceLT, Int.reduceNeg, Int.reduceMul, Int.reduceEq, Nat.reduceAdd, Nat.reduceLeDiff, Bool.and_self, Bool.or_self, List.isEmpty_nil, List.isEmpty_cons, en0t, zp0tt, zp0tl, en0l, zp0lt, zp0ll, en1t, zp1tt, zp1tl, en1l, zp1lt, zp1ll, en2t, zp2tt, zp2tl, en2l, zp2lt, zp2ll, en3t, zp3tt, zp3tl, en3l, zp3lt, zp3ll, en4t, zp4tt, zp4tl, en4l, zp4lt, zp4ll, tupδ_t, consδ_c, nilδ_n, if_so, oadd_if, oadd_s, oadd_n, emp_if, Bool.not_not, acc_1, acc_2, acc_3, acc_4, max2m, min2m, sl1_0, sl2_0, sl2_1, sl3_0, sl3_1, sl3_2, sl4_0, sl4_1, sl4_2, sl4_3, sl5_0, sl5_1, sl5_2, sl5_3, sl5_4, sl6_0, sl6_1, sl6_2, sl6_3, sl6_4, sl6_5, tru0, tru1, tru2, tru3, tru4, tru5, bnd_ite, ite_same]) (s0 := ([], [], .int 0)) ⟨[], [], 0, gr0 g.s0, rfl⟩
  rw [Int.toNat_natCast] at hG
  subst hst
  have hZl := hG.perm.length_eq
  rw [List.length_append, al_len] at hZl
  have e5 := sortE_ints (l := Z) (by omega)
  have e6 : seqD (bts n L s) = some (tab n (bt L s)) := rfl
  refine ⟨K, Z, w, hG, ?_⟩
  simp only [m_fewest_late, ck_boats g, e6, e1, enBts, e2, e3, e4, e5, andW_p, orW_p, andW_u, orW_u, andV_u, orV_u, andV_p, orV_p, ifV_p, if_bool, if_bool, chT_ll, chT_lt, chT_tl, chV_ll, chV_lt, nameδ_eq, lstL, tx1_m1, tx1_0, tx2_m2, tx2_m1, tx2_0, tx2_1, tx3_m2, tx3_m1, tx3_0, tx3_1, tx3_2, tx4_m2, tx4_m1, tx4_0, tx4_1, tx4_2, tx4_3, tx5_m2, tx5_m1, tx5_0, tx5_1, tx5_2, tx5_3, tx5_4, tx6_m2, tx6_m1, tx6_0, tx6_1, tx6_2, tx6_3, tx6_4, tx6_5, lx1_m1, lx1_0, lx2_m2, lx2_m1, lx2_0, lx2_1, lx3_m2, lx3_m1, lx3_0, lx3_1, lx3_2, lx4_m2, lx4_m1, lx4_0, lx4_1, lx4_2, lx4_3, lx5_m2, lx5_m1, lx5_0, lx5_1, lx5_2, lx5_3, lx5_4, lx6_m2, lx6_m1, lx6_0, lx6_1, lx6_2, lx6_3, lx6_4, lx6_5, isiT, isiI, isiB, isiL, is_tt, is_ii, is_ib, is_ti, seqT, seqL, tupL, truL, truT, isN_N, lcP0, sz0, ap0, lcP1, sz1, ap1, lcP2, sz2, ap2, lcP3, sz3, ap3, lcP4, sz4, ap4, lcP5, sz5, ap5, lcP6, sz6, ap6, lcP7, sz7, ap7, lcP8, sz8, ap8, lT0, lL0, lT1, lL1, al1, lT2, lL2, al2, lT3, lL3, al3, lT4, lL4, al4, lT5, lL5, al5, lT6, lL6, al6, rg0, rg1, rg2, rg3, rg4, rh0_0, rh0_1, rh0_2, rh0_3, rh0_4, rh1_1, rh1_2, rh1_3, rh1_4, rh2_2, rh2_3, rh2_4, rh3_3, rh3_4, rdm1, rd0, rd1, rd2, rd3, ob, addI, subI, negI, ltI, leI, gtI, geI, eqI, neI, truB, truN, int1, nameδ_eq, Option.bind_some, if_true, decide_true, decide_false, Bool.not_true, Bool.not_false, Bool.and_true, Bool.true_and, Bool.and_false, Bool.false_and, Bool.or_false, Bool.false_or, Bool.or_true, Bool.true_or, Bool.false_eq_true, if_false, cmpM_nil, cmpM_cons, forD_nil, forD_cons, Int.reduceSub, Int.reduceAdd, Int.reduceLE, Int.reduceLT, Int.reduceNeg, Int.reduceMul, Int.reduceEq, Nat.reduceAdd, Nat.reduceLeDiff, Bool.and_self, Bool.or_self, List.isEmpty_nil, List.isEmpty_cons, en0t, zp0tt, zp0tl, en0l, zp0lt, zp0ll, en1t, zp1tt, zp1tl, en1l, zp1lt, zp1ll, en2t, zp2tt, zp2tl, en2l, zp2lt, zp2ll, en3t, zp3tt, zp3tl, en3l, zp3lt, zp3ll, en4t, zp4tt, zp4tl, en4l, zp4lt, zp4ll, tupδ_t, consδ_c, nilδ_n, if_so, oadd_if, oadd_s, oadd_n, emp_if, Bool.not_not, acc_1, acc_2, acc_3, acc_4, max2m, min2m, sl1_0, sl2_0, sl2_1, sl3_0, sl3_1, sl3_2, sl4_0, sl4_1, sl4_2, sl4_3, sl5_0, sl5_1, sl5_2, sl5_3, sl5_4, sl6_0, sl6_1, sl6_2, sl6_3, sl6_4, sl6_5, tru0, tru1, tru2, tru3, tru4, tru5, bnd_ite, ite_same]
  rfl
theorem srt_inc {K Z : List Int} {w : Int} (g : Gr L s n K Z w) : Inc 0 n (srtI Z) := by
  have hn : (K ++ Z).Nodup := (g.perm.nodup_iff).mpr (by have := al_inc n 0; exact this.nodup)
  refine inc_of (srtI_sorted Z) (((srtI_perm Z).nodup_iff).mpr (List.nodup_append.mp hn).2.1) fun x hx => ?_
  have h1 := g.perm.mem_iff.mp (List.mem_append_right _ ((srtI_perm Z).mem_iff.mp hx))
  rw [mem_al] at h1
  omega
theorem srt_len {K Z : List Int} {w : Int} (g : Gr L s n K Z w) : K.length + (srtI Z).length = n := by
  have := g.perm.length_eq
  rw [List.length_append, al_len] at this
  rw [(srtI_perm Z).length_eq]
  exact this
theorem srt_kept {K Z : List Int} {w : Int} (g : Gr L s n K Z w) : sm L (kp n (srtI Z)) = sm L K := by
  have h1 := kp_sm (srt_inc g) L
  have h2 := sm_perm (f := L) g.perm
  rw [sm_append] at h2
  rw [sm_perm (f := L) (srtI_perm Z)] at h1
  omega
end
end G

end
section
set_option Elab.async false
set_option linter.all false
set_option maxRecDepth 100000
namespace G
open RM (bnd)
open PySem PySem.Spec PyProof.Rows L2
theorem gdI (l : List Int) : Gd 1 (tupI l) := gd_tup (gd_ints 0 l)
theorem rgL (n : Nat) (h : n ≤ 1000) : rngL1 [.int (n : Int)] = some ((al 0 n).map .int) := by
  refine (if_pos ⟨sm62 (by omega), by omega⟩ : (if small62 (n : Int) = true ∧ (n : Int).toNat ≤ 16777216 then some (rangeL 0 (n : Int).toNat) else none) = some (rangeL 0 (n : Int).toNat)).trans ?_
  rw [Int.toNat_natCast, al_tab, tab_map]
  congr 1
  unfold rangeL tab
  apply List.map_congr_left
  intro i _
  show PyData.int (0 + (i : Int)) = _
  rw [Int.zero_add]
theorem al_self (n : Nat) : srtI (al 0 n) = al 0 n := srtI_self ((inc_lt (by have := al_inc n 0; exact this)).imp fun h => Int.le_of_lt h)
section
variable {n : Nat} {L : Int → Int} {s : Int}
theorem al_in {n : Nat} : ∀ x ∈ al 0 n, 0 ≤ x ∧ x < (n : Int) := fun x hx => by
  rw [mem_al] at hx
  omega
theorem judge_ok (g : Bo n L s) : ∃ (r : List D) (b : Bool), m_judge_order (bts n L s) (tupI (al 0 n)) = some (.tuple (.str (if b = true then "home" else "late") :: r)) ∧ b = decide (sm L (al 0 n) ≤ s) := by
  have n6 := g.n6
  have n1 := g.n1
  have hal := al_len n 0
  have e0 : seqD (tupI (al 0 n)) = some ((al 0 n).map .int) := rfl
  have e1 : isiD "tuple" (tupI (al 0 n)) = some (.bool true) := rfl
  have e2 : lcP nameδ m_check_order_c1 ((al 0 n).map .int) = some ((al 0 n).map fun _ => .bool true) := lcMa _ (by omega) fun x hx => by
    show bnd (R := Option (Option D)) (nameδ (PyData.int x)) _ = _
    simp only [m_check_order_c1, e_int, andW_p, orW_p, andW_u, orW_u, andV_u, orV_u, andV_p, orV_p, ifV_p, if_bool, if_bool, chT_ll, chT_lt, chT_tl, chV_ll, chV_lt, nameδ_eq, lstL, tx1_m1, tx1_0, tx2_m2, tx2_m1, tx2_0, tx2_1, tx3_m2, tx3_m1, tx3_0, tx3_1, tx3_2, tx4_m2, tx4_m1, tx4_0, tx4_1, tx4_2, tx4_3, tx5_m2, tx5_m1, tx5_0, tx5_1, tx5_2, tx5_3, tx5_4, tx6_m2, tx6_m1, tx6_0, tx6_1, tx6_2, tx6_3, tx6_4, tx6_5, lx1_m1, lx1_0, lx2_m2, lx2_m1, lx2_0, lx2_1, lx3_m2, lx3_m1, lx3_0, lx3_1, lx3_2, lx4_m2, lx4_m1, lx4_0, lx4_1, lx4_2, lx4_3, lx5_m2, lx5_m1, lx5_0, lx5_1, lx5_2, lx5_3, lx5_4, lx6_m2, lx6_m1, lx6_0, lx6_1, lx6_2, lx6_3, lx6_4, lx6_5, isiT, isiI, isiB, isiL, is_tt, is_ii, is_ib, is_ti, seqT, seqL, tupL, truL, truT, isN_N, lcP0, sz0, ap0, lcP1, sz1, ap1, lcP2, sz2, ap2, lcP3, sz3, ap3, lcP4, sz4, ap4, lcP5, sz5, ap5, lcP6, sz6, ap6, lcP7, sz7, ap7, lcP8, sz8, ap8, lT0, lL0, lT1, lL1, al1, lT2, lL2, al2, lT3, lL3, al3, lT4, lL4, al4, lT5, lL5, al5, lT6, lL6, al6, rg0, rg1, rg2, rg3, rg4, rh0_0, rh0_1, rh0_2, rh0_3, rh0_4, rh1_1, rh1_2, rh1_3, rh1_4, rh2_2, rh2_3, rh2_4, rh3_3, rh3_4, rdm1, rd0, rd1, rd2, rd3, ob, addI, subI, negI, ltI, leI, gtI, geI, eqI, neI, truB, truN, int1, nameδ_eq, Option.bind_some, if_true, decide_true, decide_false, Bool.not_true, Bool.not_false, Bool.and_true, Bool.true_and, Bool.and_false, Bool.false_and, Bool.or_false, Bool.false_or, Bool.or_true, Bool.true_or, Bool.false_eq_true, if_false, cmpM_nil, cmpM_cons, forD_nil, forD_cons, Int.reduceSub, Int.reduceAdd, Int.reduceLE, Int.reduceLT, Int.reduceNeg, Int.reduceMul, Int.reduceEq, Nat.reduceAdd, Nat.reduceLeDiff, Bool.and_self, Bool.or_self, List.isEmpty_nil, List.isEmpty_cons, en0t, zp0tt, zp0tl, en0l, zp0lt, zp0ll, en1t, zp1tt, zp1tl, en1l, zp1lt, zp1ll, en2t, zp2tt, zp2tl, en2l, zp2lt, zp2ll, en3t, zp3tt, zp3tl, en3l, zp3lt, zp3ll, en4t, zp4tt, zp4tl, en4l, zp4lt, zp4ll, tupδ_t, consδ_c, nilδ_n, if_so, oadd_if, oadd_s, oadd_n, emp_if, Bool.not_not, acc_1, acc_2, acc_3, acc_4, max2m, min2m, sl1_0, sl2_0, sl2_1, sl3_0, sl3_1, sl3_2, sl4_0, sl4_1, sl4_2, sl4_3, sl5_0, sl5_1, sl5_2, sl5_3, sl5_4, sl6_0, sl6_1, sl6_2, sl6_3, sl6_4, sl6_5, tru0, tru1, tru2, tru3, tru4, tru5, bnd_ite, ite_same]
  have e3 : sortE [tupI (al 0 n)] = some ((al 0 n).map .int) := by
    have := sortE_intsT (l := al 0 n) (by omega)
    rw [al_self] at this
    exact this
  have e4 : lenD [bts n L s] = some (.int n) := lenTt
  have e5 := rgL n (by omega)
  have e6 : neD (.list ((al 0 n).map .int)) (.list ((al 0 n).map .int)) = some false := neD_self (gd_list (gd_ints 0 _))
  have ck : m_check_order (bts n L s) (tupI (al 0 n)) = some .none := by
    simp only [m_check_order, e0, e1, e2, allM, e3, e4, e5, e6, andW_p, orW_p, andW_u, orW_u, andV_u, orV_u, andV_p, orV_p, ifV_p, if_bool, if_bool, chT_ll, chT_lt, chT_tl, chV_ll, chV_lt, nameδ_eq, lstL, tx1_m1, tx1_0, tx2_m2, tx2_m1, tx2_0, tx2_1, tx3_m2, tx3_m1, tx3_0, tx3_1, tx3_2, tx4_m2, tx4_m1, tx4_0, tx4_1, tx4_2, tx4_3, tx5_m2, tx5_m1, tx5_0, tx5_1, tx5_2, tx5_3, tx5_4, tx6_m2, tx6_m1, tx6_0, tx6_1, tx6_2, tx6_3, tx6_4, tx6_5, lx1_m1, lx1_0, lx2_m2, lx2_m1, lx2_0, lx2_1, lx3_m2, lx3_m1, lx3_0, lx3_1, lx3_2, lx4_m2, lx4_m1, lx4_0, lx4_1, lx4_2, lx4_3, lx5_m2, lx5_m1, lx5_0, lx5_1, lx5_2, lx5_3, lx5_4, lx6_m2, lx6_m1, lx6_0, lx6_1, lx6_2, lx6_3, lx6_4, lx6_5, isiT, isiI, isiB, isiL, is_tt, is_ii, is_ib, is_ti, seqT, seqL, tupL, truL, truT, isN_N, lcP0, sz0, ap0, lcP1, sz1, ap1, lcP2, sz2, ap2, lcP3, sz3, ap3, lcP4, sz4, ap4, lcP5, sz5, ap5, lcP6, sz6, ap6, lcP7, sz7, ap7, lcP8, sz8, ap8, lT0, lL0, lT1, lL1, al1, lT2, lL2, al2, lT3, lL3, al3, lT4, lL4, al4, lT5, lL5, al5, lT6, lL6, al6, rg0, rg1, rg2, rg3, rg4, rh0_0, rh0_1, rh0_2, rh0_3, rh0_4, rh1_1, rh1_2, rh1_3, rh1_4, rh2_2, rh2_3, rh2_4, rh3_3, rh3_4, rdm1, rd0, rd1, rd2, rd3, ob, addI, subI, negI, ltI, leI, gtI, geI, eqI, neI, truB, truN, int1, nameδ_eq, Option.bind_some, if_true, decide_true, decide_false, Bool.not_true, Bool.not_false, Bool.and_true, Bool.true_and, Bool.and_false, Bool.false_and, Bool.or_false, Bool.false_or, Bool.or_true, Bool.true_or, Bool.false_eq_true, if_false, cmpM_nil, cmpM_cons, forD_nil, forD_cons, Int.reduceSub, Int.reduceAdd, Int.reduceLE, Int.reduceLT, Int.reduceNeg, Int.reduceMul, Int.reduceEq, Nat.reduceAdd, Nat.reduceLeDiff, Bool.and_self, Bool.or_self, List.isEmpty_nil, List.isEmpty_cons, en0t, zp0tt, zp0tl, en0l, zp0lt, zp0ll, en1t, zp1tt, zp1tl, en1l, zp1lt, zp1ll, en2t, zp2tt, zp2tl, en2l, zp2lt, zp2ll, en3t, zp3tt, zp3tl, en3l, zp3lt, zp3ll, en4t, zp4tt, zp4tl, en4l, zp4lt, zp4ll, tupδ_t, consδ_c, nilδ_n, if_so, oadd_if, oadd_s, oadd_n, emp_if, Bool.not_not, acc_1, acc_2, acc_3, acc_4, max2m, min2m, sl1_0, sl2_0, sl2_1, sl3_0, sl3_1, sl3_2, sl4_0, sl4_1, sl4_2, sl4_3, sl5_0, sl5_1, sl5_2, sl5_3, sl5_4, sl6_0, sl6_1, sl6_2, sl6_3, sl6_4, sl6_5, tru0, tru1, tru2, tru3, tru4, tru5, bnd_ite, ite_same]
  have e7 := ends_ok g (o := tupI (al 0 n)) rfl al_in (by omega)
  have e8 : zipD [tupI (al 0 n), .list ((cs L 0 (al 0 n)).map .int)] = some (tab n fun i => .tuple [.int (at0 (al 0 n) i), .int (at0 (cs L 0 (al 0 n)) i)]) := by
    rw [tupI_tab, list_tab 0 PyData.int (cs L 0 (al 0 n)), cs_len, zpTL, Nat.min_self, al_len]
    rfl
  have hla := late_any g (T := al 0 n) al_in
  rw [hal] at hla
  have hf := forX (β := D) (δ := tupδ (consδ nameδ (consδ nameδ nilδ))) (F := m_judge_order_l1 (bts n L s)) (n := n) (g := fun i => .tuple [.int (at0 (al 0 n) i), .int (at0 (cs L 0 (al 0 n)) i)])
    (fun i _ => ∀ j : Int, 0 ≤ j → j < i → ¬ s < at0 (cs L 0 (al 0 n)) j) (fun r => (∃ t, r = some (.tuple (.str "late" :: t))) ∧ s < sm L (al 0 n)) (fun i st i0 i1 hI => by
      refine ⟨(.int (at0 (al 0 n) i), .int (at0 (cs L 0 (al 0 n)) i), ()), rfl, ?_⟩
      have hz := al_in _ (at0_mem (l := al 0 n) i0 (by omega))
      by_cases c : s < at0 (cs L 0 (al 0 n)) i
      · right
        have c' : decide (s < at0 (cs L 0 (al 0 n)) i) = true := decide_eq_true c
        refine ⟨_, ⟨⟨[.int (at0 (al 0 n) i), .int (at0 (cs L 0 (al 0 n)) i - s)], rfl⟩, ?_⟩, fun kc kb => by
          simp only [m_judge_order_l1, btsI hz, bt2, c', andW_p, orW_p, andW_u, orW_u, andV_u, orV_u, andV_p, orV_p, ifV_p, if_bool, if_bool, chT_ll, chT_lt, chT_tl, chV_ll, chV_lt, nameδ_eq, lstL, tx1_m1, tx1_0, tx2_m2, tx2_m1, tx2_0, tx2_1, tx3_m2, tx3_m1, tx3_0, tx3_1, tx3_2, tx4_m2, tx4_m1, tx4_0, tx4_1, tx4_2, tx4_3, tx5_m2, tx5_m1, tx5_0, tx5_1, tx5_2, tx5_3, tx5_4, tx6_m2, tx6_m1, tx6_0, tx6_1, tx6_2, tx6_3, tx6_4, tx6_5, lx1_m1, lx1_0, lx2_m2, lx2_m1, lx2_0, lx2_1, lx3_m2, lx3_m1, lx3_0, lx3_1, lx3_2, lx4_m2, lx4_m1, lx4_0, lx4_1, lx4_2, lx4_3, lx5_m2, lx5_m1, lx5_0, lx5_1, lx5_2, lx5_3, lx5_4, lx6_m2, lx6_m1, lx6_0, lx6_1, lx6_2, lx6_3, lx6_4, lx6_5, isiT, isiI, isiB, isiL, is_tt, is_ii, is_ib, is_ti, seqT, seqL, tupL, truL, truT, isN_N, lcP0, sz0, ap0, lcP1, sz1, ap1, lcP2, sz2, ap2, lcP3, sz3, ap3, lcP4, sz4, ap4, lcP5, sz5, ap5, lcP6, sz6, ap6, lcP7, sz7, ap7, lcP8, sz8, ap8, lT0, lL0, lT1, lL1, al1, lT2, lL2, al2, lT3, lL3, al3, lT4, lL4, al4, lT5, lL5, al5, lT6, lL6, al6, rg0, rg1, rg2, rg3, rg4, rh0_0, rh0_1, rh0_2, rh0_3, rh0_4, rh1_1, rh1_2, rh1_3, rh1_4, rh2_2, rh2_3, rh2_4, rh3_3, rh3_4, rdm1, rd0, rd1, rd2, rd3, ob, addI, subI, negI, ltI, leI, gtI, geI, eqI, neI, truB, truN, int1, nameδ_eq, Option.bind_some, if_true, decide_true, decide_false, Bool.not_true, Bool.not_false, Bool.and_true, Bool.true_and, Bool.and_false, Bool.false_and, Bool.or_false, Bool.false_or, Bool.or_true, Bool.true_or, Bool.false_eq_true, if_false, cmpM_nil, cmpM_cons, forD_nil, forD_cons, Int.reduceSub, Int.reduceAdd, Int.reduceLE, Int.reduceLT, Int.reduceNeg, Int.reduceMul, Int.reduceEq, Nat.reduceAdd, Nat.reduceLeDiff, Bool.and_self, Bool.or_self, List.isEmpty_nil, List.isEmpty_cons, en0t, zp0tt, zp0tl, en0l, zp0lt, zp0ll, en1t, zp1tt, zp1tl, en1l, zp1lt, zp1ll, en2t, zp2tt, zp2tl, en2l, zp2lt, zp2ll, en3t, zp3tt, zp3tl, en3l, zp3lt, zp3ll, en4t, zp4tt, zp4tl, en4l, zp4lt, zp4ll, tupδ_t, consδ_c, nilδ_n, if_so, oadd_if, oadd_s, oadd_n, emp_if, Bool.not_not, acc_1, acc_2, acc_3, acc_4, max2m, min2m, sl1_0, sl2_0, sl2_1, sl3_0, sl3_1, sl3_2, sl4_0, sl4_1, sl4_2, sl4_3, sl5_0, sl5_1, sl5_2, sl5_3, sl5_4, sl6_0, sl6_1, sl6_2, sl6_3, sl6_4, sl6_5, tru0, tru1, tru2, tru3, tru4, tru5, bnd_ite, ite_same]⟩
        have : anyB n (fun i => decide (s < at0 (cs L 0 (al 0 n)) i)) = true := anyB_iff.mpr ⟨i, i0, i1, c'⟩
        rw [hla] at this
        exact of_decide_eq_true this
      · left
        have c' : decide (s < at0 (cs L 0 (al 0 n)) i) = false := decide_eq_false c
        refine ⟨(), fun j j0 j1 => ?_, fun kc kb => by
          simp only [m_judge_order_l1, btsI hz, bt2, c', andW_p, orW_p, andW_u, orW_u, andV_u, orV_u, andV_p, orV_p, ifV_p, if_bool, if_bool, chT_ll, chT_lt, chT_tl, chV_ll, chV_lt, nameδ_eq, lstL, tx1_m1, tx1_0, tx2_m2, tx2_m1, tx2_0, tx2_1, tx3_m2, tx3_m1, tx3_0, tx3_1, tx3_2, tx4_m2, tx4_m1, tx4_0, tx4_1, tx4_2, tx4_3, tx5_m2, tx5_m1, tx5_0, tx5_1, tx5_2, tx5_3, tx5_4, tx6_m2, tx6_m1, tx6_0, tx6_1, tx6_2, tx6_3, tx6_4, tx6_5, lx1_m1, lx1_0, lx2_m2, lx2_m1, lx2_0, lx2_1, lx3_m2, lx3_m1, lx3_0, lx3_1, lx3_2, lx4_m2, lx4_m1, lx4_0, lx4_1, lx4_2, lx4_3, lx5_m2, lx5_m1, lx5_0, lx5_1, lx5_2, lx5_3, lx5_4, lx6_m2, lx6_m1, lx6_0, lx6_1, lx6_2, lx6_3, lx6_4, lx6_5, isiT, isiI, isiB, isiL, is_tt, is_ii, is_ib, is_ti, seqT, seqL, tupL, truL, truT, isN_N, lcP0, sz0, ap0, lcP1, sz1, ap1, lcP2, sz2, ap2, lcP3, sz3, ap3, lcP4, sz4, ap4, lcP5, sz5, ap5, lcP6, sz6, ap6, lcP7, sz7, ap7, lcP8, sz8, ap8, lT0, lL0, lT1, lL1, al1, lT2, lL2, al2, lT3, lL3, al3, lT4, lL4, al4, lT5, lL5, al5, lT6, lL6, al6, rg0, rg1, rg2, rg3, rg4, rh0_0, rh0_1, rh0_2, rh0_3, rh0_4, rh1_1, rh1_2, rh1_3, rh1_4, rh2_2, rh2_3, rh2_4, rh3_3, rh3_4, rdm1, rd0, rd1, rd2, rd3, ob, addI, subI, negI, ltI, leI, gtI, geI, eqI, neI, truB, truN, int1, nameδ_eq, Option.bind_some, if_true, decide_true, decide_false, Bool.not_true, Bool.not_false, Bool.and_true, Bool.true_and, Bool.and_false, Bool.false_and, Bool.or_false, Bool.false_or, Bool.or_true, Bool.true_or, Bool.false_eq_true, if_false, cmpM_nil, cmpM_cons, forD_nil, forD_cons, Int.reduceSub, Int.reduceAdd, Int.reduceLE, Int.reduceLT, Int.reduceNeg, Int.reduceMul, Int.reduceEq, Nat.reduceAdd, Nat.reduceLeDiff, Bool.and_self, Bool.or_self, List.isEmpty_nil, List.isEmpty_cons, en0t, zp0tt, zp0tl, en0l, zp0lt, zp0ll, en1t, zp1tt, zp1tl, en1l, zp1lt, zp1ll, en2t, zp2tt, zp2tl, en2l, zp2lt, zp2ll, en3t, zp3tt, zp3tl, en3l, zp3lt, zp3ll, en4t, zp4tt, zp4tl, en4l, zp4lt, zp4ll, tupδ_t, consδ_c, nilδ_n, if_so, oadd_if, oadd_s, oadd_n, emp_if, Bool.not_not, acc_1, acc_2, acc_3, acc_4, max2m, min2m, sl1_0, sl2_0, sl2_1, sl3_0, sl3_1, sl3_2, sl4_0, sl4_1, sl4_2, sl4_3, sl5_0, sl5_1, sl5_2, sl5_3, sl5_4, sl6_0, sl6_1, sl6_2, sl6_3, sl6_4, sl6_5, tru0, tru1, tru2, tru3, tru4, tru5, bnd_ite, ite_same]⟩
        by_cases e : j = i
        · rw [e]; exact c
        · exact hI j j0 (by omega)) (s0 := ()) (fun j j0 j1 => by omega)
  rcases hf with ⟨_, hI, hk⟩ | ⟨r, ⟨⟨t, rfl⟩, hX⟩, hk⟩
  · have hn : ¬ s < sm L (al 0 n) := fun h => by
      rw [← decide_eq_true_iff (p := s < sm L (al 0 n)), ← hla] at h
      obtain ⟨i, i0, i1, h2⟩ := anyB_iff.mp h
      exact hI i i0 i1 (of_decide_eq_true h2)
    have hlen : (cs L 0 (al 0 n)).length = n := by rw [cs_len, hal]
    have e9 : ((cs L 0 (al 0 n)).map PyData.int).isEmpty = false := by
      cases q : cs L 0 (al 0 n) with
      | nil => rw [q] at hlen; simp at hlen; omega
      | cons a b => rfl
    have e10 : ixD (.list ((cs L 0 (al 0 n)).map .int)) (.int (-1)) = some (.int (at0 (cs L 0 (al 0 n)) ((cs L 0 (al 0 n)).length - 1))) := by
      rw [list_tab 0 PyData.int (cs L 0 (al 0 n))]
      exact ixLm (by omega)
    refine ⟨[.int (at0 (cs L 0 (al 0 n)) ((cs L 0 (al 0 n)).length - 1))], true, ?_, by rw [eq_comm, decide_eq_true_eq]; omega⟩
    have sz : szD [PyData.str "home", .int (at0 (cs L 0 (al 0 n)) ((cs L 0 (al 0 n)).length - 1))] = some () := sz2 _ _
    simp only [m_judge_order, ck_boats g, ck, e7, e8, hk, e9, e10, ifV, andW_p, orW_p, andW_u, orW_u, andV_u, orV_u, andV_p, orV_p, ifV_p, if_bool, if_bool, chT_ll, chT_lt, chT_tl, chV_ll, chV_lt, nameδ_eq, lstL, tx1_m1, tx1_0, tx2_m2, tx2_m1, tx2_0, tx2_1, tx3_m2, tx3_m1, tx3_0, tx3_1, tx3_2, tx4_m2, tx4_m1, tx4_0, tx4_1, tx4_2, tx4_3, tx5_m2, tx5_m1, tx5_0, tx5_1, tx5_2, tx5_3, tx5_4, tx6_m2, tx6_m1, tx6_0, tx6_1, tx6_2, tx6_3, tx6_4, tx6_5, lx1_m1, lx1_0, lx2_m2, lx2_m1, lx2_0, lx2_1, lx3_m2, lx3_m1, lx3_0, lx3_1, lx3_2, lx4_m2, lx4_m1, lx4_0, lx4_1, lx4_2, lx4_3, lx5_m2, lx5_m1, lx5_0, lx5_1, lx5_2, lx5_3, lx5_4, lx6_m2, lx6_m1, lx6_0, lx6_1, lx6_2, lx6_3, lx6_4, lx6_5, isiT, isiI, isiB, isiL, is_tt, is_ii, is_ib, is_ti, seqT, seqL, tupL, truL, truT, isN_N, lcP0, sz0, ap0, lcP1, sz1, ap1, lcP2, sz2, ap2, lcP3, sz3, ap3, lcP4, sz4, ap4, lcP5, sz5, ap5, lcP6, sz6, ap6, lcP7, sz7, ap7, lcP8, sz8, ap8, lT0, lL0, lT1, lL1, al1, lT2, lL2, al2, lT3, lL3, al3, lT4, lL4, al4, lT5, lL5, al5, lT6, lL6, al6, rg0, rg1, rg2, rg3, rg4, rh0_0, rh0_1, rh0_2, rh0_3, rh0_4, rh1_1, rh1_2, rh1_3, rh1_4, rh2_2, rh2_3, rh2_4, rh3_3, rh3_4, rdm1, rd0, rd1, rd2, rd3, ob, addI, subI, negI, ltI, leI, gtI, geI, eqI, neI, truB, truN, int1, nameδ_eq, Option.bind_some, if_true, decide_true, decide_false, Bool.not_true, Bool.not_false, Bool.and_true, Bool.true_and, Bool.and_false, Bool.false_and, Bool.or_false, Bool.false_or, Bool.or_true, Bool.true_or, Bool.false_eq_true, if_false, cmpM_nil, cmpM_cons, forD_nil, forD_cons, Int.reduceSub, Int.reduceAdd, Int.reduceLE, Int.reduceLT, Int.reduceNeg, Int.reduceMul, Int.reduceEq, Nat.reduceAdd, Nat.reduceLeDiff, Bool.and_self, Bool.or_self, List.isEmpty_nil, List.isEmpty_cons, en0t, zp0tt, zp0tl, en0l, zp0lt, zp0ll, en1t, zp1tt, zp1tl, en1l, zp1lt, zp1ll, en2t, zp2tt, zp2tl, en2l, zp2lt, zp2ll, en3t, zp3tt, zp3tl, en3l, zp3lt, zp3ll, en4t, zp4tt, zp4tl, en4l, zp4lt, zp4ll, tupδ_t, consδ_c, nilδ_n, if_so, oadd_if, oadd_s, oadd_n, emp_if, Bool.not_not, acc_1, acc_2, acc_3, acc_4, max2m, min2m, sl1_0, sl2_0, sl2_1, sl3_0, sl3_1, sl3_2, sl4_0, sl4_1, sl4_2, sl4_3, sl5_0, sl5_1, sl5_2, sl5_3, sl5_4, sl6_0, sl6_1, sl6_2, sl6_3, sl6_4, sl6_5, tru0, tru1, tru2, tru3, tru4, tru5, bnd_ite, ite_same]
  · refine ⟨t, false, ?_, by rw [eq_comm, decide_eq_false_iff_not]; omega⟩
    simp only [m_judge_order, ck_boats g, ck, e7, e8, hk, andW_p, orW_p, andW_u, orW_u, andV_u, orV_u, andV_p, orV_p, ifV_p, if_bool, if_bool, chT_ll, chT_lt, chT_tl, chV_ll, chV_lt, nameδ_eq, lstL, tx1_m1, tx1_0, tx2_m2, tx2_m1, tx2_0, tx2_1, tx3_m2, tx3_m1, tx3_0, tx3_1, tx3_2, tx4_m2, tx4_m1, tx4_0, tx4_1, tx4_2, tx4_3, tx5_m2, tx5_m1, tx5_0, tx5_1, tx5_2, tx5_3, tx5_4, tx6_m2, tx6_m1, tx6_0, tx6_1, tx6_2, tx6_3, tx6_4, tx6_5, lx1_m1, lx1_0, lx2_m2, lx2_m1, lx2_0, lx2_1, lx3_m2, lx3_m1, lx3_0, lx3_1, lx3_2, lx4_m2, lx4_m1, lx4_0, lx4_1, lx4_2, lx4_3, lx5_m2, lx5_m1, lx5_0, lx5_1, lx5_2, lx5_3, lx5_4, lx6_m2, lx6_m1, lx6_0, lx6_1, lx6_2, lx6_3, lx6_4, lx6_5, isiT, isiI, isiB, isiL, is_tt, is_ii, is_ib, is_ti, seqT, seqL, tupL, truL, truT, isN_N, lcP0, sz0, ap0, lcP1, sz1, ap1, lcP2, sz2, ap2, lcP3, sz3, ap3, lcP4, sz4, ap4, lcP5, sz5, ap5, lcP6, sz6, ap6, lcP7, sz7, ap7, lcP8, sz8, ap8, lT0, lL0, lT1, lL1, al1, lT2, lL2, al2, lT3, lL3, al3, lT4, lL4, al4, lT5, lL5, al5, lT6, lL6, al6, rg0, rg1, rg2, rg3, rg4, rh0_0, rh0_1, rh0_2, rh0_3, rh0_4, rh1_1, rh1_2, rh1_3, rh1_4, rh2_2, rh2_3, rh2_4, rh3_3, rh3_4, rdm1, rd0, rd1, rd2, rd3, ob, addI, subI, negI, ltI, leI, gtI, geI, eqI, neI, truB, truN, int1, nameδ_eq, Option.bind_some, if_true, decide_true, decide_false, Bool.not_true, Bool.not_false, Bool.and_true, Bool.true_and, Bool.and_false, Bool.false_and, Bool.or_false, Bool.false_or, Bool.or_true, Bool.true_or, Bool.false_eq_true, if_false, cmpM_nil, cmpM_cons, forD_nil, forD_cons, Int.reduceSub, Int.reduceAdd, Int.reduceLE, Int.reduceLT, Int.reduceNeg, Int.reduceMul, Int.reduceEq, Nat.reduceAdd, Nat.reduceLeDiff, Bool.and_self, Bool.or_self, List.isEmpty_nil, List.isEmpty_cons, en0t, zp0tt, zp0tl, en0l, zp0lt, zp0ll, en1t, zp1tt, zp1tl, en1l, zp1lt, zp1ll, en2t, zp2tt, zp2tl, en2l, zp2lt, zp2ll, en3t, zp3tt, zp3tl, en3l, zp3lt, zp3ll, en4t, zp4tt, zp4tl, en4l, zp4lt, zp4ll, tupδ_t, consδ_c, nilδ_n, if_so, oadd_if, oadd_s, oadd_n, emp_if, Bool.not_not, acc_1, acc_2, acc_3, acc_4, max2m, min2m, sl1_0, sl2_0, sl2_1, sl3_0, sl3_1, sl3_2, sl4_0, sl4_1, sl4_2, sl4_3, sl5_0, sl5_1, sl5_2, sl5_3, sl5_4, sl6_0, sl6_1, sl6_2, sl6_3, sl6_4, sl6_5, tru0, tru1, tru2, tru3, tru4, tru5, bnd_ite, ite_same]
theorem lateness_ok (g : Bo n L s) : m_least_lateness (bts n L s) = some (.tuple [.int (max 0 (sm L (al 0 n) - s)), tupI (al 0 n)]) := by
  have n6 := g.n6
  have n1 := g.n1
  have hal := al_len n 0
  have e1 : lcP (tupδ (consδ nameδ (consδ nameδ (consδ nameδ nilδ)))) m_least_lateness_c1 (tab n (bt L s)) = some [] := lcN (by omega) fun i h0 h1 => by
    show bnd (R := Option (Option D)) (tupδ (consδ nameδ (consδ nameδ (consδ nameδ nilδ))) (.tuple [.int 0, .int (L i), .int s])) _ = _
    have t0 : truD (.int 0) = some false := rfl
    simp only [m_least_lateness_c1, t0, andW_p, orW_p, andW_u, orW_u, andV_u, orV_u, andV_p, orV_p, ifV_p, if_bool, if_bool, chT_ll, chT_lt, chT_tl, chV_ll, chV_lt, nameδ_eq, lstL, tx1_m1, tx1_0, tx2_m2, tx2_m1, tx2_0, tx2_1, tx3_m2, tx3_m1, tx3_0, tx3_1, tx3_2, tx4_m2, tx4_m1, tx4_0, tx4_1, tx4_2, tx4_3, tx5_m2, tx5_m1, tx5_0, tx5_1, tx5_2, tx5_3, tx5_4, tx6_m2, tx6_m1, tx6_0, tx6_1, tx6_2, tx6_3, tx6_4, tx6_5, lx1_m1, lx1_0, lx2_m2, lx2_m1, lx2_0, lx2_1, lx3_m2, lx3_m1, lx3_0, lx3_1, lx3_2, lx4_m2, lx4_m1, lx4_0, lx4_1, lx4_2, lx4_3, lx5_m2, lx5_m1, lx5_0, lx5_1, lx5_2, lx5_3, lx5_4, lx6_m2, lx6_m1, lx6_0, lx6_1, lx6_2, lx6_3, lx6_4, lx6_5, isiT, isiI, isiB, isiL, is_tt, is_ii, is_ib, is_ti, seqT, seqL, tupL, truL, truT, isN_N, lcP0, sz0, ap0, lcP1, sz1, ap1, lcP2, sz2, ap2, lcP3, sz3, ap3, lcP4, sz4, ap4, lcP5, sz5, ap5, lcP6, sz6, ap6, lcP7, sz7, ap7, lcP8, sz8, ap8, lT0, lL0, lT1, lL1, al1, lT2, lL2, al2, lT3, lL3, al3, lT4, lL4, al4, lT5, lL5, al5, lT6, lL6, al6, rg0, rg1, rg2, rg3, rg4, rh0_0, rh0_1, rh0_2, rh0_3, rh0_4, rh1_1, rh1_2, rh1_3, rh1_4, rh2_2, rh2_3, rh2_4, rh3_3, rh3_4, rdm1, rd0, rd1, rd2, rd3, ob, addI, subI, negI, ltI, leI, gtI, geI, eqI, neI, truB, truN, int1, nameδ_eq, Option.bind_some, if_true, decide_true, decide_false, Bool.not_true, Bool.not_false, Bool.and_true, Bool.true_and, Bool.and_false, Bool.false_and, Bool.or_false, Bool.false_or, Bool.or_true, Bool.true_or, Bool.false_eq_true, if_false, cmpM_nil, cmpM_cons, forD_nil, forD_cons, Int.reduceSub, Int.reduceAdd, Int.reduceLE, Int.reduceLT, Int.reduceNeg, Int.reduceMul, Int.reduceEq, Nat.reduceAdd, Nat.reduceLeDiff, Bool.and_self, Bool.or_self, List.isEmpty_nil, List.isEmpty_cons, en0t, zp0tt, zp0tl, en0l, zp0lt, zp0ll, en1t, zp1tt, zp1tl, en1l, zp1lt, zp1ll, en2t, zp2tt, zp2tl, en2l, zp2lt, zp2ll, en3t, zp3tt, zp3tl, en3l, zp3lt, zp3ll, en4t, zp4tt, zp4tl, en4l, zp4lt, zp4ll, tupδ_t, consδ_c, nilδ_n, if_so, oadd_if, oadd_s, oadd_n, emp_if, Bool.not_not, acc_1, acc_2, acc_3, acc_4, max2m, min2m, sl1_0, sl2_0, sl2_1, sl3_0, sl3_1, sl3_2, sl4_0, sl4_1, sl4_2, sl4_3, sl5_0, sl5_1, sl5_2, sl5_3, sl5_4, sl6_0, sl6_1, sl6_2, sl6_3, sl6_4, sl6_5, tru0, tru1, tru2, tru3, tru4, tru5, bnd_ite, ite_same]
  have e2 : lcP (tupδ (consδ nameδ (consδ nameδ nilδ))) m_least_lateness_c2 (tab n fun i => .tuple [.int i, bt L s i]) = some (tab n fun i => .tuple [.int s, .int i]) := lcT _ (by omega) fun i h0 h1 => by
    show bnd (R := Option (Option D)) (tupδ (consδ nameδ (consδ nameδ nilδ)) (.tuple [.int i, bt L s i])) _ = _
    simp only [m_least_lateness_c2, bt2, andW_p, orW_p, andW_u, orW_u, andV_u, orV_u, andV_p, orV_p, ifV_p, if_bool, if_bool, chT_ll, chT_lt, chT_tl, chV_ll, chV_lt, nameδ_eq, lstL, tx1_m1, tx1_0, tx2_m2, tx2_m1, tx2_0, tx2_1, tx3_m2, tx3_m1, tx3_0, tx3_1, tx3_2, tx4_m2, tx4_m1, tx4_0, tx4_1, tx4_2, tx4_3, tx5_m2, tx5_m1, tx5_0, tx5_1, tx5_2, tx5_3, tx5_4, tx6_m2, tx6_m1, tx6_0, tx6_1, tx6_2, tx6_3, tx6_4, tx6_5, lx1_m1, lx1_0, lx2_m2, lx2_m1, lx2_0, lx2_1, lx3_m2, lx3_m1, lx3_0, lx3_1, lx3_2, lx4_m2, lx4_m1, lx4_0, lx4_1, lx4_2, lx4_3, lx5_m2, lx5_m1, lx5_0, lx5_1, lx5_2, lx5_3, lx5_4, lx6_m2, lx6_m1, lx6_0, lx6_1, lx6_2, lx6_3, lx6_4, lx6_5, isiT, isiI, isiB, isiL, is_tt, is_ii, is_ib, is_ti, seqT, seqL, tupL, truL, truT, isN_N, lcP0, sz0, ap0, lcP1, sz1, ap1, lcP2, sz2, ap2, lcP3, sz3, ap3, lcP4, sz4, ap4, lcP5, sz5, ap5, lcP6, sz6, ap6, lcP7, sz7, ap7, lcP8, sz8, ap8, lT0, lL0, lT1, lL1, al1, lT2, lL2, al2, lT3, lL3, al3, lT4, lL4, al4, lT5, lL5, al5, lT6, lL6, al6, rg0, rg1, rg2, rg3, rg4, rh0_0, rh0_1, rh0_2, rh0_3, rh0_4, rh1_1, rh1_2, rh1_3, rh1_4, rh2_2, rh2_3, rh2_4, rh3_3, rh3_4, rdm1, rd0, rd1, rd2, rd3, ob, addI, subI, negI, ltI, leI, gtI, geI, eqI, neI, truB, truN, int1, nameδ_eq, Option.bind_some, if_true, decide_true, decide_false, Bool.not_true, Bool.not_false, Bool.and_true, Bool.true_and, Bool.and_false, Bool.false_and, Bool.or_false, Bool.false_or, Bool.or_true, Bool.true_or, Bool.false_eq_true, if_false, cmpM_nil, cmpM_cons, forD_nil, forD_cons, Int.reduceSub, Int.reduceAdd, Int.reduceLE, Int.reduceLT, Int.reduceNeg, Int.reduceMul, Int.reduceEq, Nat.reduceAdd, Nat.reduceLeDiff, Bool.and_self, Bool.or_self, List.isEmpty_nil, List.isEmpty_cons, en0t, zp0tt, zp0tl, en0l, zp0lt, zp0ll, en1t, zp1tt, zp1tl, en1l, zp1lt, zp1ll, en2t, zp2tt, zp2tl, en2l, zp2lt, zp2ll, en3t, zp3tt, zp3tl, en3l, zp3lt, zp3ll, en4t, zp4tt, zp4tl, en4l, zp4lt, zp4ll, tupδ_t, consδ_c, nilδ_n, if_so, oadd_if, oadd_s, oadd_n, emp_if, Bool.not_not, acc_1, acc_2, acc_3, acc_4, max2m, min2m, sl1_0, sl2_0, sl2_1, sl3_0, sl3_1, sl3_2, sl4_0, sl4_1, sl4_2, sl4_3, sl5_0, sl5_1, sl5_2, sl5_3, sl5_4, sl6_0, sl6_1, sl6_2, sl6_3, sl6_4, sl6_5, tru0, tru1, tru2, tru3, tru4, tru5, bnd_ite, ite_same]
  have e3 := by_storm n (by omega) s
  have e4 : lcP (tupδ (consδ nameδ (consδ nameδ nilδ))) m_least_lateness_c3 (tab n fun i => .tuple [.int s, .int i]) = some ((al 0 n).map .int) := by
    rw [al_tab, tab_map]
    refine lcT _ (by omega) fun i h0 h1 => ?_
    show bnd (R := Option (Option D)) (tupδ (consδ nameδ (consδ nameδ nilδ)) (.tuple [.int s, .int i])) _ = _
    simp only [m_least_lateness_c3, andW_p, orW_p, andW_u, orW_u, andV_u, orV_u, andV_p, orV_p, ifV_p, if_bool, if_bool, chT_ll, chT_lt, chT_tl, chV_ll, chV_lt, nameδ_eq, lstL, tx1_m1, tx1_0, tx2_m2, tx2_m1, tx2_0, tx2_1, tx3_m2, tx3_m1, tx3_0, tx3_1, tx3_2, tx4_m2, tx4_m1, tx4_0, tx4_1, tx4_2, tx4_3, tx5_m2, tx5_m1, tx5_0, tx5_1, tx5_2, tx5_3, tx5_4, tx6_m2, tx6_m1, tx6_0, tx6_1, tx6_2, tx6_3, tx6_4, tx6_5, lx1_m1, lx1_0, lx2_m2, lx2_m1, lx2_0, lx2_1, lx3_m2, lx3_m1, lx3_0, lx3_1, lx3_2, lx4_m2, lx4_m1, lx4_0, lx4_1, lx4_2, lx4_3, lx5_m2, lx5_m1, lx5_0, lx5_1, lx5_2, lx5_3, lx5_4, lx6_m2, lx6_m1, lx6_0, lx6_1, lx6_2, lx6_3, lx6_4, lx6_5, isiT, isiI, isiB, isiL, is_tt, is_ii, is_ib, is_ti, seqT, seqL, tupL, truL, truT, isN_N, lcP0, sz0, ap0, lcP1, sz1, ap1, lcP2, sz2, ap2, lcP3, sz3, ap3, lcP4, sz4, ap4, lcP5, sz5, ap5, lcP6, sz6, ap6, lcP7, sz7, ap7, lcP8, sz8, ap8, lT0, lL0, lT1, lL1, al1, lT2, lL2, al2, lT3, lL3, al3, lT4, lL4, al4, lT5, lL5, al5, lT6, lL6, al6, rg0, rg1, rg2, rg3, rg4, rh0_0, rh0_1, rh0_2, rh0_3, rh0_4, rh1_1, rh1_2, rh1_3, rh1_4, rh2_2, rh2_3, rh2_4, rh3_3, rh3_4, rdm1, rd0, rd1, rd2, rd3, ob, addI, subI, negI, ltI, leI, gtI, geI, eqI, neI, truB, truN, int1, nameδ_eq, Option.bind_some, if_true, decide_true, decide_false, Bool.not_true, Bool.not_false, Bool.and_true, Bool.true_and, Bool.and_false, Bool.false_and, Bool.or_false, Bool.false_or, Bool.or_true, Bool.true_or, Bool.false_eq_true, if_false, cmpM_nil, cmpM_cons, forD_nil, forD_cons, Int.reduceSub, Int.reduceAdd, Int.reduceLE, Int.reduceLT, Int.reduceNeg, Int.reduceMul, Int.reduceEq, Nat.reduceAdd, Nat.reduceLeDiff, Bool.and_self, Bool.or_self, List.isEmpty_nil, List.isEmpty_cons, en0t, zp0tt, zp0tl, en0l, zp0lt, zp0ll, en1t, zp1tt, zp1tl, en1l, zp1lt, zp1ll, en2t, zp2tt, zp2tl, en2l, zp2lt, zp2ll, en3t, zp3tt, zp3tl, en3l, zp3lt, zp3ll, en4t, zp4tt, zp4tl, en4l, zp4lt, zp4ll, tupδ_t, consδ_c, nilδ_n, if_so, oadd_if, oadd_s, oadd_n, emp_if, Bool.not_not, acc_1, acc_2, acc_3, acc_4, max2m, min2m, sl1_0, sl2_0, sl2_1, sl3_0, sl3_1, sl3_2, sl4_0, sl4_1, sl4_2, sl4_3, sl5_0, sl5_1, sl5_2, sl5_3, sl5_4, sl6_0, sl6_1, sl6_2, sl6_3, sl6_4, sl6_5, tru0, tru1, tru2, tru3, tru4, tru5, bnd_ite, ite_same]
  have e5 := ends_ok g (o := .list ((al 0 n).map .int)) rfl al_in (by omega)
  have e6 : zipD [.list ((al 0 n).map .int), .list ((cs L 0 (al 0 n)).map .int)] = some (tab n fun i => .tuple [.int (at0 (al 0 n) i), .int (at0 (cs L 0 (al 0 n)) i)]) := by
    rw [list_tab 0 PyData.int (al 0 n), list_tab 0 PyData.int (cs L 0 (al 0 n)), cs_len, zpLL, Nat.min_self, al_len]
    rfl
  have e7 : lcP (tupδ (consδ nameδ (consδ nameδ nilδ))) (m_least_lateness_c4 (bts n L s)) (tab n fun i => .tuple [.int (at0 (al 0 n) i), .int (at0 (cs L 0 (al 0 n)) i)]) = some ((tab n fun i => at0 (cs L 0 (al 0 n)) i - s).map .int) := by
    rw [tab_map]
    refine lcT _ (by omega) fun i h0 h1 => ?_
    have hz := al_in _ (at0_mem (l := al 0 n) h0 (by omega))
    show bnd (R := Option (Option D)) (tupδ (consδ nameδ (consδ nameδ nilδ)) (.tuple [.int (at0 (al 0 n) i), .int (at0 (cs L 0 (al 0 n)) i)])) _ = _
    simp only [m_least_lateness_c4, btsI hz, bt2, andW_p, orW_p, andW_u, orW_u, andV_u, orV_u, andV_p, orV_p, ifV_p, if_bool, if_bool, chT_ll, chT_lt, chT_tl, chV_ll, chV_lt, nameδ_eq, lstL, tx1_m1, tx1_0, tx2_m2, tx2_m1, tx2_0, tx2_1, tx3_m2, tx3_m1, tx3_0, tx3_1, tx3_2, tx4_m2, tx4_m1, tx4_0, tx4_1, tx4_2, tx4_3, tx5_m2, tx5_m1, tx5_0, tx5_1, tx5_2, tx5_3, tx5_4, tx6_m2, tx6_m1, tx6_0, tx6_1, tx6_2, tx6_3, tx6_4, tx6_5, lx1_m1, lx1_0, lx2_m2, lx2_m1, lx2_0, lx2_1, lx3_m2, lx3_m1, lx3_0, lx3_1, lx3_2, lx4_m2, lx4_m1, lx4_0, lx4_1, lx4_2, lx4_3, lx5_m2, lx5_m1, lx5_0, lx5_1, lx5_2, lx5_3, lx5_4, lx6_m2, lx6_m1, lx6_0, lx6_1, lx6_2, lx6_3, lx6_4, lx6_5, isiT, isiI, isiB, isiL, is_tt, is_ii, is_ib, is_ti, seqT, seqL, tupL, truL, truT, isN_N, lcP0, sz0, ap0, lcP1, sz1, ap1, lcP2, sz2, ap2, lcP3, sz3, ap3, lcP4, sz4, ap4, lcP5, sz5, ap5, lcP6, sz6, ap6, lcP7, sz7, ap7, lcP8, sz8, ap8, lT0, lL0, lT1, lL1, al1, lT2, lL2, al2, lT3, lL3, al3, lT4, lL4, al4, lT5, lL5, al5, lT6, lL6, al6, rg0, rg1, rg2, rg3, rg4, rh0_0, rh0_1, rh0_2, rh0_3, rh0_4, rh1_1, rh1_2, rh1_3, rh1_4, rh2_2, rh2_3, rh2_4, rh3_3, rh3_4, rdm1, rd0, rd1, rd2, rd3, ob, addI, subI, negI, ltI, leI, gtI, geI, eqI, neI, truB, truN, int1, nameδ_eq, Option.bind_some, if_true, decide_true, decide_false, Bool.not_true, Bool.not_false, Bool.and_true, Bool.true_and, Bool.and_false, Bool.false_and, Bool.or_false, Bool.false_or, Bool.or_true, Bool.true_or, Bool.false_eq_true, if_false, cmpM_nil, cmpM_cons, forD_nil, forD_cons, Int.reduceSub, Int.reduceAdd, Int.reduceLE, Int.reduceLT, Int.reduceNeg, Int.reduceMul, Int.reduceEq, Nat.reduceAdd, Nat.reduceLeDiff, Bool.and_self, Bool.or_self, List.isEmpty_nil, List.isEmpty_cons, en0t, zp0tt, zp0tl, en0l, zp0lt, zp0ll, en1t, zp1tt, zp1tl, en1l, zp1lt, zp1ll, en2t, zp2tt, zp2tl, en2l, zp2lt, zp2ll, en3t, zp3tt, zp3tl, en3l, zp3lt, zp3ll, en4t, zp4tt, zp4tl, en4l, zp4lt, zp4ll, tupδ_t, consδ_c, nilδ_n, if_so, oadd_if, oadd_s, oadd_n, emp_if, Bool.not_not, acc_1, acc_2, acc_3, acc_4, max2m, min2m, sl1_0, sl2_0, sl2_1, sl3_0, sl3_1, sl3_2, sl4_0, sl4_1, sl4_2, sl4_3, sl5_0, sl5_1, sl5_2, sl5_3, sl5_4, sl6_0, sl6_1, sl6_2, sl6_3, sl6_4, sl6_5, tru0, tru1, tru2, tru3, tru4, tru5, bnd_ite, ite_same]
  have e8 : catD (.list ((tab n fun i => at0 (cs L 0 (al 0 n)) i - s).map .int)) (.list [.int 0]) = some (.list (((tab n fun i => at0 (cs L 0 (al 0 n)) i - s) ++ [0]).map .int)) := by
    rw [catLL (by rw [List.length_map, tab_len]; show n + 1 ≤ _; omega), List.map_append]
    rfl
  have hlen : (cs L 0 (al 0 n)).length = n := by rw [cs_len, hal]
  have hL : ∀ y ∈ al 0 n, 1 ≤ L y := fun y hy => (g.le y (al_in y hy).1 (al_in y hy).2).1
  have e9 : max1D [.list (((tab n fun i => at0 (cs L 0 (al 0 n)) i - s) ++ [0]).map .int)] = some (.int (max 0 (sm L (al 0 n) - s))) := by
    refine maxD_of ⟨?_, fun x hx => ?_⟩
    · rw [List.mem_append]
      by_cases c : sm L (al 0 n) - s ≤ 0
      · right
        rw [List.mem_singleton]
        omega
      · left
        have h3 := cs_last (L := L) (al 0 n) 0 (fun e => by rw [e] at hal; simp at hal; omega)
        rw [show 0 + sm L (al 0 n) = sm L (al 0 n) by omega] at h3
        obtain ⟨i, h0, h1, h4⟩ := at0_of h3
        exact mem_tab.mpr ⟨i, h0, by omega, by rw [h4]; omega⟩
    · rcases List.mem_append.mp hx with hx | hx
      · obtain ⟨i, h0, h1, rfl⟩ := mem_tab.mp hx
        have := cs_le (L := L) (al 0 n) 0 _ hL (at0_mem (l := cs L 0 (al 0 n)) h0 (by omega))
        omega
      · rw [List.mem_singleton] at hx
        omega
  have e10 : seqD (bts n L s) = some (tab n (bt L s)) := rfl
  simp only [m_least_lateness, ck_boats g, e10, e1, enBts, e2, e3, e4, e5, e6, e7, e8, e9, andW_p, orW_p, andW_u, orW_u, andV_u, orV_u, andV_p, orV_p, ifV_p, if_bool, if_bool, chT_ll, chT_lt, chT_tl, chV_ll, chV_lt, nameδ_eq, lstL, tx1_m1, tx1_0, tx2_m2, tx2_m1, tx2_0, tx2_1, tx3_m2, tx3_m1, tx3_0, tx3_1, tx3_2, tx4_m2, tx4_m1, tx4_0, tx4_1, tx4_2, tx4_3, tx5_m2, tx5_m1, tx5_0, tx5_1, tx5_2, tx5_3, tx5_4, tx6_m2, tx6_m1, tx6_0, tx6_1, tx6_2, tx6_3, tx6_4, tx6_5, lx1_m1, lx1_0, lx2_m2, lx2_m1, lx2_0, lx2_1, lx3_m2, lx3_m1, lx3_0, lx3_1, lx3_2, lx4_m2, lx4_m1, lx4_0, lx4_1, lx4_2, lx4_3, lx5_m2, lx5_m1, lx5_0, lx5_1, lx5_2, lx5_3, lx5_4, lx6_m2, lx6_m1, lx6_0, lx6_1, lx6_2, lx6_3, lx6_4, lx6_5, isiT, isiI, isiB, isiL, is_tt, is_ii, is_ib, is_ti, seqT, seqL, tupL, truL, truT, isN_N, lcP0, sz0, ap0, lcP1, sz1, ap1, lcP2, sz2, ap2, lcP3, sz3, ap3, lcP4, sz4, ap4, lcP5, sz5, ap5, lcP6, sz6, ap6, lcP7, sz7, ap7, lcP8, sz8, ap8, lT0, lL0, lT1, lL1, al1, lT2, lL2, al2, lT3, lL3, al3, lT4, lL4, al4, lT5, lL5, al5, lT6, lL6, al6, rg0, rg1, rg2, rg3, rg4, rh0_0, rh0_1, rh0_2, rh0_3, rh0_4, rh1_1, rh1_2, rh1_3, rh1_4, rh2_2, rh2_3, rh2_4, rh3_3, rh3_4, rdm1, rd0, rd1, rd2, rd3, ob, addI, subI, negI, ltI, leI, gtI, geI, eqI, neI, truB, truN, int1, nameδ_eq, Option.bind_some, if_true, decide_true, decide_false, Bool.not_true, Bool.not_false, Bool.and_true, Bool.true_and, Bool.and_false, Bool.false_and, Bool.or_false, Bool.false_or, Bool.or_true, Bool.true_or, Bool.false_eq_true, if_false, cmpM_nil, cmpM_cons, forD_nil, forD_cons, Int.reduceSub, Int.reduceAdd, Int.reduceLE, Int.reduceLT, Int.reduceNeg, Int.reduceMul, Int.reduceEq, Nat.reduceAdd, Nat.reduceLeDiff, Bool.and_self, Bool.or_self, List.isEmpty_nil, List.isEmpty_cons, en0t, zp0tt, zp0tl, en0l, zp0lt, zp0ll, en1t, zp1tt, zp1tl, en1l, zp1lt, zp1ll, en2t, zp2tt, zp2tl, en2l, zp2lt, zp2ll, en3t, zp3tt, zp3tl, en3l, zp3lt, zp3ll, en4t, zp4tt, zp4tl, en4l, zp4lt, zp4ll, tupδ_t, consδ_c, nilδ_n, if_so, oadd_if, oadd_s, oadd_n, emp_if, Bool.not_not, acc_1, acc_2, acc_3, acc_4, max2m, min2m, sl1_0, sl2_0, sl2_1, sl3_0, sl3_1, sl3_2, sl4_0, sl4_1, sl4_2, sl4_3, sl5_0, sl5_1, sl5_2, sl5_3, sl5_4, sl6_0, sl6_1, sl6_2, sl6_3, sl6_4, sl6_5, tru0, tru1, tru2, tru3, tru4, tru5, bnd_ite, ite_same]
  rfl
end
end G

end
section
set_option Elab.async false
set_option linter.all false
set_option maxRecDepth 100000
namespace G
open RM (bnd)
open PySem PySem.Spec PyProof.Rows L2
theorem tab_rev {α : Type} : ∀ (n : Nat) (f : Int → α), (tab n f).reverse = tab n fun i => f (n - 1 - i)
  | 0, f => rfl
  | n + 1, f => by
    rw [tab_succ, List.reverse_append, List.reverse_singleton, List.singleton_append, tab_rev n f, tab_cons]
    congr 1
    · congr 1
      omega
    · exact tab_congr fun i h0 h1 => by congr 1; omega
theorem sumM (T : List Int) (f : Int → Int) : sumD [.list (T.map fun x => .int (f x))] = some (.int (sm f T)) := by
  have e : (T.map fun x => PyData.int (f x)) = (T.map f).map .int := by rw [List.map_map]; rfl
  show ((intsD _).map fun bs => PyData.int bs.sum) = _
  rw [e, intsD_map, ← sm_eq_sum]
  rfl
theorem sumMt (T : List Int) : sumD [tupI T] = some (.int (sm (fun x => x) T)) := by
  show ((intsD (T.map .int)).map fun bs => PyData.int bs.sum) = _
  rw [intsD_map, ← sm_eq_sum, List.map_id']
  rfl
theorem sumTab (n : Nat) (f : Int → Int) : sumD [.list (tab n fun i => .int (f i))] = some (.int (sm f (al 0 n))) := by
  rw [← sumM, al_tab, tab_map]
theorem mx_max (a b : Int) : mx a b = max a b := by
  unfold mx
  rw [Int.max_def]
  split <;> split <;> omega
/-! ### lamps -/
structure La (n : Nat) (W H : Int → Int) : Prop where
  n1 : 1 ≤ n
  n6 : n ≤ 6
  le : ∀ i : Int, 0 ≤ i → i < n → 0 ≤ W i ∧ W i ≤ 10 ∧ 0 ≤ H i ∧ H i ≤ 10
def lm (W H : Int → Int) (i : Int) : D := .tuple [.int (W i), .int (H i)]
def lms (n : Nat) (W H : Int → Int) : D := .tuple (tab n (lm W H))
section
variable {n : Nat} {W H : Int → Int} {c : Int}
theorem lm0 (i : Int) : ixD (lm W H i) (.int 0) = some (.int (W i)) := rfl
theorem lm1 (i : Int) : ixD (lm W H i) (.int 1) = some (.int (H i)) := rfl
theorem lmsI {z : Int} (h : 0 ≤ z ∧ z < n) : ixD (lms n W H) (.int z) = some (lm W H z) := ixT h
theorem ck_lamps (g : La n W H) : m_check_lamps (lms n W H) = some .none := by
  have n6 := g.n6
  have n1 := g.n1
  have a1 : (n : Int) ≤ 30 := by omega
  have a2 : 1 ≤ (n : Int) := by omega
  obtain ⟨_, _, e⟩ := forI (β := D) (δ := nameδ) (F := m_check_lamps_l1) (n := n) (g := lm W H) (fun _ _ => True) (fun i st i0 i1 _ => ⟨_, (), rfl, trivial, fun kc kb => by
    have hh := g.le i i0 i1
    have b1 := hh.1
    have b2 : W i ≤ 1000 := by omega
    have b3 := hh.2.2.1
    have b4 : H i ≤ 1000 := by omega
    simp only [m_check_lamps_l1, m_check_lamps_c1, lm, e_int, b1, b2, b3, b4, andW_p, orW_p, andW_u, orW_u, andV_u, orV_u, andV_p, orV_p, ifV_p, if_bool, if_bool, chT_ll, chT_lt, chT_tl, chV_ll, chV_lt, nameδ_eq, lstL, tx1_m1, tx1_0, tx2_m2, tx2_m1, tx2_0, tx2_1, tx3_m2, tx3_m1, tx3_0, tx3_1, tx3_2, tx4_m2, tx4_m1, tx4_0, tx4_1, tx4_2, tx4_3, tx5_m2, tx5_m1, tx5_0, tx5_1, tx5_2, tx5_3, tx5_4, tx6_m2, tx6_m1, tx6_0, tx6_1, tx6_2, tx6_3, tx6_4, tx6_5, lx1_m1, lx1_0, lx2_m2, lx2_m1, lx2_0, lx2_1, lx3_m2, lx3_m1, lx3_0, lx3_1, lx3_2, lx4_m2, lx4_m1, lx4_0, lx4_1, lx4_2, lx4_3, lx5_m2, lx5_m1, lx5_0, lx5_1, lx5_2, lx5_3, lx5_4, lx6_m2, lx6_m1, lx6_0, lx6_1, lx6_2, lx6_3, lx6_4, lx6_5, isiT, isiI, isiB, isiL, is_tt, is_ii, is_ib, is_ti, seqT, seqL, tupL, truL, truT, isN_N, lcP0, sz0, ap0, lcP1, sz1, ap1, lcP2, sz2, ap2, lcP3, sz3, ap3, lcP4, sz4, ap4, lcP5, sz5, ap5, lcP6, sz6, ap6, lcP7, sz7, ap7, lcP8, sz8, ap8, lT0, lL0, lT1, lL1, al1, lT2, lL2, al2, lT3, lL3, al3, lT4, lL4, al4, lT5, lL5, al5, lT6, lL6, al6, rg0, rg1, rg2, rg3, rg4, rh0_0, rh0_1, rh0_2, rh0_3, rh0_4, rh1_1, rh1_2, rh1_3, rh1_4, rh2_2, rh2_3, rh2_4, rh3_3, rh3_4, rdm1, rd0, rd1, rd2, rd3, ob, addI, subI, negI, ltI, leI, gtI, geI, eqI, neI, truB, truN, int1, nameδ_eq, Option.bind_some, if_true, decide_true, decide_false, Bool.not_true, Bool.not_false, Bool.and_true, Bool.true_and, Bool.and_false, Bool.false_and, Bool.or_false, Bool.false_or, Bool.or_true, Bool.true_or, Bool.false_eq_true, if_false, cmpM_nil, cmpM_cons, forD_nil, forD_cons, Int.reduceSub, Int.reduceAdd, Int.reduceLE, Int.reduceLT, Int.reduceNeg, Int.reduceMul, Int.reduceEq, Nat.reduceAdd, Nat.reduceLeDiff, Bool.and_self, Bool.or_self, List.isEmpty_nil, List.isEmpty_cons, en0t, zp0tt, zp0tl, en0l, zp0lt, zp0ll, en1t, zp1tt, zp1tl, en1l, zp1lt, zp1ll, en2t, zp2tt, zp2tl, en2l, zp2lt, zp2ll, en3t, zp3tt, zp3tl, en3l, zp3lt, zp3ll, en4t, zp4tt, zp4tl, en4l, zp4lt, zp4ll, tupδ_t, consδ_c, nilδ_n, if_so, oadd_if, oadd_s, oadd_n, emp_if, Bool.not_not, acc_1, acc_2, acc_3, acc_4, max2m, min2m, sl1_0, sl2_0, sl2_1, sl3_0, sl3_1, sl3_2, sl4_0, sl4_1, sl4_2, sl4_3, sl5_0, sl5_1, sl5_2, sl5_3, sl5_4, sl6_0, sl6_1, sl6_2, sl6_3, sl6_4, sl6_5, tru0, tru1, tru2, tru3, tru4, tru5, bnd_ite, ite_same]⟩) (s0 := ()) trivial
  have e4 : lenD [lms n W H] = some (.int n) := lenTt
  have e5 : seqD (lms n W H) = some (tab n (lm W H)) := rfl
  have e6 : isiD "tuple" (lms n W H) = some (.bool true) := rfl
  simp only [m_check_lamps, e4, e5, e6, e, a1, a2, andW_p, orW_p, andW_u, orW_u, andV_u, orV_u, andV_p, orV_p, ifV_p, if_bool, if_bool, chT_ll, chT_lt, chT_tl, chV_ll, chV_lt, nameδ_eq, lstL, tx1_m1, tx1_0, tx2_m2, tx2_m1, tx2_0, tx2_1, tx3_m2, tx3_m1, tx3_0, tx3_1, tx3_2, tx4_m2, tx4_m1, tx4_0, tx4_1, tx4_2, tx4_3, tx5_m2, tx5_m1, tx5_0, tx5_1, tx5_2, tx5_3, tx5_4, tx6_m2, tx6_m1, tx6_0, tx6_1, tx6_2, tx6_3, tx6_4, tx6_5, lx1_m1, lx1_0, lx2_m2, lx2_m1, lx2_0, lx2_1, lx3_m2, lx3_m1, lx3_0, lx3_1, lx3_2, lx4_m2, lx4_m1, lx4_0, lx4_1, lx4_2, lx4_3, lx5_m2, lx5_m1, lx5_0, lx5_1, lx5_2, lx5_3, lx5_4, lx6_m2, lx6_m1, lx6_0, lx6_1, lx6_2, lx6_3, lx6_4, lx6_5, isiT, isiI, isiB, isiL, is_tt, is_ii, is_ib, is_ti, seqT, seqL, tupL, truL, truT, isN_N, lcP0, sz0, ap0, lcP1, sz1, ap1, lcP2, sz2, ap2, lcP3, sz3, ap3, lcP4, sz4, ap4, lcP5, sz5, ap5, lcP6, sz6, ap6, lcP7, sz7, ap7, lcP8, sz8, ap8, lT0, lL0, lT1, lL1, al1, lT2, lL2, al2, lT3, lL3, al3, lT4, lL4, al4, lT5, lL5, al5, lT6, lL6, al6, rg0, rg1, rg2, rg3, rg4, rh0_0, rh0_1, rh0_2, rh0_3, rh0_4, rh1_1, rh1_2, rh1_3, rh1_4, rh2_2, rh2_3, rh2_4, rh3_3, rh3_4, rdm1, rd0, rd1, rd2, rd3, ob, addI, subI, negI, ltI, leI, gtI, geI, eqI, neI, truB, truN, int1, nameδ_eq, Option.bind_some, if_true, decide_true, decide_false, Bool.not_true, Bool.not_false, Bool.and_true, Bool.true_and, Bool.and_false, Bool.false_and, Bool.or_false, Bool.false_or, Bool.or_true, Bool.true_or, Bool.false_eq_true, if_false, cmpM_nil, cmpM_cons, forD_nil, forD_cons, Int.reduceSub, Int.reduceAdd, Int.reduceLE, Int.reduceLT, Int.reduceNeg, Int.reduceMul, Int.reduceEq, Nat.reduceAdd, Nat.reduceLeDiff, Bool.and_self, Bool.or_self, List.isEmpty_nil, List.isEmpty_cons, en0t, zp0tt, zp0tl, en0l, zp0lt, zp0ll, en1t, zp1tt, zp1tl, en1l, zp1lt, zp1ll, en2t, zp2tt, zp2tl, en2l, zp2lt, zp2ll, en3t, zp3tt, zp3tl, en3l, zp3lt, zp3ll, en4t, zp4tt, zp4tl, en4l, zp4lt, zp4ll, tupδ_t, consδ_c, nilδ_n, if_so, oadd_if, oadd_s, oadd_n, emp_if, Bool.not_not, acc_1, acc_2, acc_3, acc_4, max2m, min2m, sl1_0, sl2_0, sl2_1, sl3_0, sl3_1, sl3_2, sl4_0, sl4_1, sl4_2, sl4_3, sl5_0, sl5_1, sl5_2, sl5_3, sl5_4, sl6_0, sl6_1, sl6_2, sl6_3, sl6_4, sl6_5, tru0, tru1, tru2, tru3, tru4, tru5, bnd_ite, ite_same]
theorem ck_oil (h : 0 ≤ c ∧ c ≤ 101) : m_check_oil (.int c) = some .none := by
  have a1 : c ≤ 1000 := by omega
  simp only [m_check_oil, e_int, h.1, a1, andW_p, orW_p, andW_u, orW_u, andV_u, orV_u, andV_p, orV_p, ifV_p, if_bool, if_bool, chT_ll, chT_lt, chT_tl, chV_ll, chV_lt, nameδ_eq, lstL, tx1_m1, tx1_0, tx2_m2, tx2_m1, tx2_0, tx2_1, tx3_m2, tx3_m1, tx3_0, tx3_1, tx3_2, tx4_m2, tx4_m1, tx4_0, tx4_1, tx4_2, tx4_3, tx5_m2, tx5_m1, tx5_0, tx5_1, tx5_2, tx5_3, tx5_4, tx6_m2, tx6_m1, tx6_0, tx6_1, tx6_2, tx6_3, tx6_4, tx6_5, lx1_m1, lx1_0, lx2_m2, lx2_m1, lx2_0, lx2_1, lx3_m2, lx3_m1, lx3_0, lx3_1, lx3_2, lx4_m2, lx4_m1, lx4_0, lx4_1, lx4_2, lx4_3, lx5_m2, lx5_m1, lx5_0, lx5_1, lx5_2, lx5_3, lx5_4, lx6_m2, lx6_m1, lx6_0, lx6_1, lx6_2, lx6_3, lx6_4, lx6_5, isiT, isiI, isiB, isiL, is_tt, is_ii, is_ib, is_ti, seqT, seqL, tupL, truL, truT, isN_N, lcP0, sz0, ap0, lcP1, sz1, ap1, lcP2, sz2, ap2, lcP3, sz3, ap3, lcP4, sz4, ap4, lcP5, sz5, ap5, lcP6, sz6, ap6, lcP7, sz7, ap7, lcP8, sz8, ap8, lT0, lL0, lT1, lL1, al1, lT2, lL2, al2, lT3, lL3, al3, lT4, lL4, al4, lT5, lL5, al5, lT6, lL6, al6, rg0, rg1, rg2, rg3, rg4, rh0_0, rh0_1, rh0_2, rh0_3, rh0_4, rh1_1, rh1_2, rh1_3, rh1_4, rh2_2, rh2_3, rh2_4, rh3_3, rh3_4, rdm1, rd0, rd1, rd2, rd3, ob, addI, subI, negI, ltI, leI, gtI, geI, eqI, neI, truB, truN, int1, nameδ_eq, Option.bind_some, if_true, decide_true, decide_false, Bool.not_true, Bool.not_false, Bool.and_true, Bool.true_and, Bool.and_false, Bool.false_and, Bool.or_false, Bool.false_or, Bool.or_true, Bool.true_or, Bool.false_eq_true, if_false, cmpM_nil, cmpM_cons, forD_nil, forD_cons, Int.reduceSub, Int.reduceAdd, Int.reduceLE, Int.reduceLT, Int.reduceNeg, Int.reduceMul, Int.reduceEq, Nat.reduceAdd, Nat.reduceLeDiff, Bool.and_self, Bool.or_self, List.isEmpty_nil, List.isEmpty_cons, en0t, zp0tt, zp0tl, en0l, zp0lt, zp0ll, en1t, zp1tt, zp1tl, en1l, zp1lt, zp1ll, en2t, zp2tt, zp2tl, en2l, zp2lt, zp2ll, en3t, zp3tt, zp3tl, en3l, zp3lt, zp3ll, en4t, zp4tt, zp4tl, en4l, zp4lt, zp4ll, tupδ_t, consδ_c, nilδ_n, if_so, oadd_if, oadd_s, oadd_n, emp_if, Bool.not_not, acc_1, acc_2, acc_3, acc_4, max2m, min2m, sl1_0, sl2_0, sl2_1, sl3_0, sl3_1, sl3_2, sl4_0, sl4_1, sl4_2, sl4_3, sl5_0, sl5_1, sl5_2, sl5_3, sl5_4, sl6_0, sl6_1, sl6_2, sl6_3, sl6_4, sl6_5, tru0, tru1, tru2, tru3, tru4, tru5, bnd_ite, ite_same]
/-- what the last k can be worth, for each rest of oil -/
def rw' (n : Nat) (W H : Int → Int) (c k : Int) : D := .list (tab (c + 1).toNat fun i => .int (op W H n k.toNat i))
theorem rwI {k z : Int} (h : 0 ≤ z ∧ z ≤ c) : ixD (rw' n W H c k) (.int z) = some (.int (op W H n k.toNat z)) := ixL (by omega)
theorem rows_ok (g : La n W H) (h : 0 ≤ c ∧ c ≤ 101) : ∃ s : List D, s = tab (n + 1) (rw' n W H c) ∧ ∀ k : List D → Option D, forD (R := Option D) (tupδ (consδ nameδ (consδ nameδ nilδ))) (m_best_lamps_l1 (.int c)) (tab n fun i => lm W H (n - 1 - i)) [rw' n W H c 0] k = k s := by
  have n6 := g.n6
  obtain ⟨s, hs, e⟩ := forI (β := D) (δ := tupδ (consδ nameδ (consδ nameδ nilδ))) (F := m_best_lamps_l1 (.int c)) (n := n) (g := fun i => lm W H (n - 1 - i)) (fun i s => s = tab (i.toNat + 1) (rw' n W H c)) (fun i s i0 i1 hI => by
    subst hI
    have hi : ((i.toNat : Nat) : Int) = i := Int.toNat_of_nonneg i0
    have e1 : ixD (.list (tab (i.toNat + 1) (rw' n W H c))) (.int (-1)) = some (rw' n W H c i) := by
      rw [ixLm (by omega)]
      congr 2
      omega
    have e2 : rng1 [.int (c + 1)] = some (tab (c + 1).toNat .int) := rgT (by omega)
    have e3 : lcP nameδ (m_best_lamps_c1 (.int (W (n - 1 - i)), .int (H (n - 1 - i)), ()) (rw' n W H c i)) (tab (c + 1).toNat .int) = some (tab (c + 1).toNat fun z => .int (op W H n (i + 1).toNat z)) := lcT _ (by omega) fun z z0 z1 => by
      have hh := g.le (n - 1 - i) (by omega) (by omega)
      have x1 : ixD (rw' n W H c i) (.int z) = some (.int (op W H n i.toNat z)) := rwI (by omega)
      have x3 : op W H n (i + 1).toNat z = mx (op W H n i.toNat z) (if H (n - 1 - i) ≤ z then op W H n i.toNat (z - H (n - 1 - i)) + W (n - 1 - i) else 0) := by
        rw [show (i + 1).toNat = i.toNat + 1 by omega]
        show mx _ _ = _
        rw [hi, show (n : Int) - i - 1 = n - 1 - i by omega]
      rw [x3]
      show bnd (R := Option (Option D)) (nameδ (PyData.int z)) _ = _
      by_cases q : H (n - 1 - i) ≤ z
      · have x2 : ixD (rw' n W H c i) (.int (z - H (n - 1 - i))) = some (.int (op W H n i.toNat (z - H (n - 1 - i)))) := rwI (by omega)
        simp only [m_best_lamps_c1, x1, x2, q, ifV, andW_p, orW_p, andW_u, orW_u, andV_u, orV_u, andV_p, orV_p, ifV_p, if_bool, if_bool, chT_ll, chT_lt, chT_tl, chV_ll, chV_lt, nameδ_eq, lstL, tx1_m1, tx1_0, tx2_m2, tx2_m1, tx2_0, tx2_1, tx3_m2, tx3_m1, tx3_0, tx3_1, tx3_2, tx4_m2, tx4_m1, tx4_0, tx4_1, tx4_2, tx4_3, tx5_m2, tx5_m1, tx5_0, tx5_1, tx5_2, tx5_3, tx5_4, tx6_m2, tx6_m1, tx6_0, tx6_1, tx6_2, tx6_3, tx6_4, tx6_5, lx1_m1, lx1_0, lx2_m2, lx2_m1, lx2_0, lx2_1, lx3_m2, lx3_m1, lx3_0, lx3_1, lx3_2, lx4_m2, lx4_m1, lx4_0, lx4_1, lx4_2, lx4_3, lx5_m2, lx5_m1, lx5_0, lx5_1, lx5_2, lx5_3, lx5_4, lx6_m2, lx6_m1, lx6_0, lx6_1, lx6_2, lx6_3, lx6_4, lx6_5, isiT, isiI, isiB, isiL, is_tt, is_ii, is_ib, is_ti, seqT, seqL, tupL, truL, truT, isN_N, lcP0, sz0, ap0, lcP1, sz1, ap1, lcP2, sz2, ap2, lcP3, sz3, ap3, lcP4, sz4, ap4, lcP5, sz5, ap5, lcP6, sz6, ap6, lcP7, sz7, ap7, lcP8, sz8, ap8, lT0, lL0, lT1, lL1, al1, lT2, lL2, al2, lT3, lL3, al3, lT4, lL4, al4, lT5, lL5, al5, lT6, lL6, al6, rg0, rg1, rg2, rg3, rg4, rh0_0, rh0_1, rh0_2, rh0_3, rh0_4, rh1_1, rh1_2, rh1_3, rh1_4, rh2_2, rh2_3, rh2_4, rh3_3, rh3_4, rdm1, rd0, rd1, rd2, rd3, ob, addI, subI, negI, ltI, leI, gtI, geI, eqI, neI, truB, truN, int1, nameδ_eq, Option.bind_some, if_true, decide_true, decide_false, Bool.not_true, Bool.not_false, Bool.and_true, Bool.true_and, Bool.and_false, Bool.false_and, Bool.or_false, Bool.false_or, Bool.or_true, Bool.true_or, Bool.false_eq_true, if_false, cmpM_nil, cmpM_cons, forD_nil, forD_cons, Int.reduceSub, Int.reduceAdd, Int.reduceLE, Int.reduceLT, Int.reduceNeg, Int.reduceMul, Int.reduceEq, Nat.reduceAdd, Nat.reduceLeDiff, Bool.and_self, Bool.or_self, List.isEmpty_nil, List.isEmpty_cons, en0t, zp0tt, zp0tl, en0l, zp0lt, zp0ll, en1t, zp1tt, zp1tl, en1l, zp1lt, zp1ll, en2t, zp2tt, zp2tl, en2l, zp2lt, zp2ll, en3t, zp3tt, zp3tl, en3l, zp3lt, zp3ll, en4t, zp4tt, zp4tl, en4l, zp4lt, zp4ll, tupδ_t, consδ_c, nilδ_n, if_so, oadd_if, oadd_s, oadd_n, emp_if, Bool.not_not, acc_1, acc_2, acc_3, acc_4, max2m, min2m, sl1_0, sl2_0, sl2_1, sl3_0, sl3_1, sl3_2, sl4_0, sl4_1, sl4_2, sl4_3, sl5_0, sl5_1, sl5_2, sl5_3, sl5_4, sl6_0, sl6_1, sl6_2, sl6_3, sl6_4, sl6_5, tru0, tru1, tru2, tru3, tru4, tru5, bnd_ite, ite_same]
      · simp only [m_best_lamps_c1, x1, q, ifV, andW_p, orW_p, andW_u, orW_u, andV_u, orV_u, andV_p, orV_p, ifV_p, if_bool, if_bool, chT_ll, chT_lt, chT_tl, chV_ll, chV_lt, nameδ_eq, lstL, tx1_m1, tx1_0, tx2_m2, tx2_m1, tx2_0, tx2_1, tx3_m2, tx3_m1, tx3_0, tx3_1, tx3_2, tx4_m2, tx4_m1, tx4_0, tx4_1, tx4_2, tx4_3, tx5_m2, tx5_m1, tx5_0, tx5_1, tx5_2, tx5_3, tx5_4, tx6_m2, tx6_m1, tx6_0, tx6_1, tx6_2, tx6_3, tx6_4, tx6_5, lx1_m1, lx1_0, lx2_m2, lx2_m1, lx2_0, lx2_1, lx3_m2, lx3_m1, lx3_0, lx3_1, lx3_2, lx4_m2, lx4_m1, lx4_0, lx4_1, lx4_2, lx4_3, lx5_m2, lx5_m1, lx5_0, lx5_1, lx5_2, lx5_3, lx5_4, lx6_m2, lx6_m1, lx6_0, lx6_1, lx6_2, lx6_3, lx6_4, lx6_5, isiT, isiI, isiB, isiL, is_tt, is_ii, is_ib, is_ti, seqT, seqL, tupL, truL, truT, isN_N, lcP0, sz0, ap0, lcP1, sz1, ap1, lcP2, sz2, ap2, lcP3, sz3, ap3, lcP4, sz4, ap4, lcP5, sz5, ap5, lcP6, sz6, ap6, lcP7, sz7, ap7, lcP8, sz8, ap8, lT0, lL0, lT1, lL1, al1, lT2, lL2, al2, lT3, lL3, al3, lT4, lL4, al4, lT5, lL5, al5, lT6, lL6, al6, rg0, rg1, rg2, rg3, rg4, rh0_0, rh0_1, rh0_2, rh0_3, rh0_4, rh1_1, rh1_2, rh1_3, rh1_4, rh2_2, rh2_3, rh2_4, rh3_3, rh3_4, rdm1, rd0, rd1, rd2, rd3, ob, addI, subI, negI, ltI, leI, gtI, geI, eqI, neI, truB, truN, int1, nameδ_eq, Option.bind_some, if_true, decide_true, decide_false, Bool.not_true, Bool.not_false, Bool.and_true, Bool.true_and, Bool.and_false, Bool.false_and, Bool.or_false, Bool.false_or, Bool.or_true, Bool.true_or, Bool.false_eq_true, if_false, cmpM_nil, cmpM_cons, forD_nil, forD_cons, Int.reduceSub, Int.reduceAdd, Int.reduceLE, Int.reduceLT, Int.reduceNeg, Int.reduceMul, Int.reduceEq, Nat.reduceAdd, Nat.reduceLeDiff, Bool.and_self, Bool.or_self, List.isEmpty_nil, List.isEmpty_cons, en0t, zp0tt, zp0tl, en0l, zp0lt, zp0ll, en1t, zp1tt, zp1tl, en1l, zp1lt, zp1ll, en2t, zp2tt, zp2tl, en2l, zp2lt, zp2ll, en3t, zp3tt, zp3tl, en3l, zp3lt, zp3ll, en4t, zp4tt, zp4tl, en4l, zp4lt, zp4ll, tupδ_t, consδ_c, nilδ_n, if_so, oadd_if, oadd_s, oadd_n, emp_if, Bool.not_not, acc_1, acc_2, acc_3, acc_4, max2m, min2m, sl1_0, sl2_0, sl2_1, sl3_0, sl3_1, sl3_2, sl4_0, sl4_1, sl4_2, sl4_3, sl5_0, sl5_1, sl5_2, sl5_3, sl5_4, sl6_0, sl6_1, sl6_2, sl6_3, sl6_4, sl6_5, tru0, tru1, tru2, tru3, tru4, tru5, bnd_ite, ite_same]
    have e4 : appD (tab (i.toNat + 1) (rw' n W H c)) (.list (tab (c + 1).toNat fun z => .int (op W H n (i + 1).toNat z))) = some (tab (i.toNat + 1 + 1) (rw' n W H c)) := appT (by omega) (by
      show rw' n W H c _ = _
      rw [show ((i.toNat + 1 : Nat) : Int) = i + 1 by omega]
      rfl)
    refine ⟨(.int (W (n - 1 - i)), .int (H (n - 1 - i)), ()), tab (i.toNat + 1 + 1) (rw' n W H c), rfl, by rw [show (i + 1).toNat = i.toNat + 1 by omega], fun kc kb => ?_⟩
    simp only [m_best_lamps_l1, e1, e2, e3, e4, andW_p, orW_p, andW_u, orW_u, andV_u, orV_u, andV_p, orV_p, ifV_p, if_bool, if_bool, chT_ll, chT_lt, chT_tl, chV_ll, chV_lt, nameδ_eq, lstL, tx1_m1, tx1_0, tx2_m2, tx2_m1, tx2_0, tx2_1, tx3_m2, tx3_m1, tx3_0, tx3_1, tx3_2, tx4_m2, tx4_m1, tx4_0, tx4_1, tx4_2, tx4_3, tx5_m2, tx5_m1, tx5_0, tx5_1, tx5_2, tx5_3, tx5_4, tx6_m2, tx6_m1, tx6_0, tx6_1, tx6_2, tx6_3, tx6_4, tx6_5, lx1_m1, lx1_0, lx2_m2, lx2_m1, lx2_0, lx2_1, lx3_m2, lx3_m1, lx3_0, lx3_1, lx3_2, lx4_m2, lx4_m1, lx4_0, lx4_1, lx4_2, lx4_3, lx5_m2, lx5_m1, lx5_0, lx5_1, lx5_2, lx5_3, lx5_4, lx6_m2, lx6_m1, lx6_0, lx6_1, lx6_2, lx6_3, lx6_4, lx6_5, isiT, isiI, isiB, isiL, is_tt, is_ii, is_ib, is_ti, seqT, seqL, tupL, truL, truT, isN_N, lcP0, sz0, ap0, lcP1, sz1, ap1, lcP2, sz2, ap2, lcP3, sz3, ap3, lcP4, sz4, ap4, lcP5, sz5, ap5, lcP6, sz6, ap6, lcP7, sz7, ap7, lcP8, sz8, ap8, lT0, lL0, lT1, lL1, al1, lT2, lL2, al2, lT3, lL3, al3, lT4, lL4, al4, lT5, lL5, al5, lT6, lL6, al6, rg0, rg1, rg2, rg3, rg4, rh0_0, rh0_1, rh0_2, rh0_3, rh0_4, rh1_1, rh1_2, rh1_3, rh1_4, rh2_2, rh2_3, rh2_4, rh3_3, rh3_4, rdm1, rd0, rd1, rd2, rd3, ob, addI, subI, negI, ltI, leI, gtI, geI, eqI, neI, truB, truN, int1, nameδ_eq, Option.bind_some, if_true, decide_true, decide_false, Bool.not_true, Bool.not_false, Bool.and_true, Bool.true_and, Bool.and_false, Bool.false_and, Bool.or_false, Bool.false_or, Bool.or_true, Bool.true_or, Bool.false_eq_true, if_false, cmpM_nil, cmpM_cons, forD_nil, forD_cons, Int.reduceSub, Int.reduceAdd, Int.reduceLE, Int.reduceLT, Int.reduceNeg, Int.reduceMul, Int.reduceEq, Nat.reduceAdd, Nat.reduceLeDiff, Bool.and_self, Bool.or_self, List.isEmpty_nil, List.isEmpty_cons, en0t, zp0tt, zp0tl, en0l, zp0lt, zp0ll, en1t, zp1tt, zp1tl, en1l, zp1lt, zp1ll, en2t, zp2tt, zp2tl, en2l, zp2lt, zp2ll, en3t, zp3tt, zp3tl, en3l, zp3lt, zp3ll, en4t, zp4tt, zp4tl, en4l, zp4lt, zp4ll, tupδ_t, consδ_c, nilδ_n, if_so, oadd_if, oadd_s, oadd_n, emp_if, Bool.not_not, acc_1, acc_2, acc_3, acc_4, max2m, min2m, sl1_0, sl2_0, sl2_1, sl3_0, sl3_1, sl3_2, sl4_0, sl4_1, sl4_2, sl4_3, sl5_0, sl5_1, sl5_2, sl5_3, sl5_4, sl6_0, sl6_1, sl6_2, sl6_3, sl6_4, sl6_5, tru0, tru1, tru2, tru3, tru4, tru5, bnd_ite, ite_same]) (s0 := [rw' n W H c 0]) rfl
  exact ⟨s, by rw [hs, Int.toNat_natCast], e⟩
theorem pick_ok (g : La n W H) (k' : List D × D → Option D) (hc : c ≤ 101) : ∀ (k : Nat) (acc : List Int) (z : Int), k ≤ n → 0 ≤ z → z ≤ c → acc.length + k ≤ 100 →
    ∃ z', forD (R := Option D) (tupδ (consδ nameδ (consδ (tupδ (consδ nameδ (consδ nameδ nilδ))) nilδ))) (m_best_lamps_l2 (.list (tab (n + 1) fun i => rw' n W H c (n - i)))) (tab k fun i => .tuple [.int (n - k + i), lm W H (n - k + i)]) (acc.map .int, .int z) k' = k' ((acc ++ tl W H n k z).map .int, .int z')
  | 0, acc, z, _, _, _, _ => ⟨z, by
    rw [show acc ++ tl W H n 0 z = acc from List.append_nil acc]
    rfl⟩
  | k + 1, acc, z, hk, h0, h1, hl => by
    have e : (n : Int) - ((k + 1 : Nat) : Int) = n - k - 1 := by omega
    have hh := g.le (n - k - 1) (by omega) (by omega)
    have x1 : ixD (.list (tab (n + 1) fun i => rw' n W H c (n - i))) (.int (n - k - 1)) = some (rw' n W H c (k + 1 : Nat)) := by
      rw [ixL (by omega)]
      congr 2
      omega
    have x2 : ixD (.list (tab (n + 1) fun i => rw' n W H c (n - i))) (.int (n - k - 1 + 1)) = some (rw' n W H c k) := by
      rw [ixL (by omega)]
      congr 2
      omega
    have x3 : ixD (rw' n W H c (k + 1 : Nat)) (.int z) = some (.int (op W H n (k + 1) z)) := rwI ⟨h0, h1⟩
    have x4 : tupδ (consδ nameδ (consδ (tupδ (consδ nameδ (consδ nameδ nilδ))) nilδ)) (.tuple [.int (n - k - 1), lm W H (n - k - 1)]) = some (.int (n - k - 1), (.int (W (n - k - 1)), .int (H (n - k - 1)), ()), ()) := rfl
    have x5 : (tab k fun i => PyData.tuple [.int (n - ((k + 1 : Nat) : Int) + (i + 1)), lm W H (n - ((k + 1 : Nat) : Int) + (i + 1))]) = tab k fun i => PyData.tuple [.int (n - k + i), lm W H (n - k + i)] := tab_congr fun i _ _ => by
      rw [show (n : Int) - ((k + 1 : Nat) : Int) + (i + 1) = n - k + i by omega]
    have x6 := appI (l := acc) (x := n - k - 1) (by omega)
    rw [tab_cons (n := k), forD_cons, x5, show (n : Int) - ((k + 1 : Nat) : Int) + 0 = n - k - 1 by omega, x4]
    unfold tl
    by_cases c0 : op W H n (k + 1) z = 0
    · refine ⟨z, ?_⟩
      rw [if_pos c0, List.append_nil]
      have d0 : decide (op W H n (k + 1) z = 0) = true := decide_eq_true c0
      simp only [m_best_lamps_l2, x1, x3, d0, andW_p, orW_p, andW_u, orW_u, andV_u, orV_u, andV_p, orV_p, ifV_p, if_bool, if_bool, chT_ll, chT_lt, chT_tl, chV_ll, chV_lt, nameδ_eq, lstL, tx1_m1, tx1_0, tx2_m2, tx2_m1, tx2_0, tx2_1, tx3_m2, tx3_m1, tx3_0, tx3_1, tx3_2, tx4_m2, tx4_m1, tx4_0, tx4_1, tx4_2, tx4_3, tx5_m2, tx5_m1, tx5_0, tx5_1, tx5_2, tx5_3, tx5_4, tx6_m2, tx6_m1, tx6_0, tx6_1, tx6_2, tx6_3, tx6_4, tx6_5, lx1_m1, lx1_0, lx2_m2, lx2_m1, lx2_0, lx2_1, lx3_m2, lx3_m1, lx3_0, lx3_1, lx3_2, lx4_m2, lx4_m1, lx4_0, lx4_1, lx4_2, lx4_3, lx5_m2, lx5_m1, lx5_0, lx5_1, lx5_2, lx5_3, lx5_4, lx6_m2, lx6_m1, lx6_0, lx6_1, lx6_2, lx6_3, lx6_4, lx6_5, isiT, isiI, isiB, isiL, is_tt, is_ii, is_ib, is_ti, seqT, seqL, tupL, truL, truT, isN_N, lcP0, sz0, ap0, lcP1, sz1, ap1, lcP2, sz2, ap2, lcP3, sz3, ap3, lcP4, sz4, ap4, lcP5, sz5, ap5, lcP6, sz6, ap6, lcP7, sz7, ap7, lcP8, sz8, ap8, lT0, lL0, lT1, lL1, al1, lT2, lL2, al2, lT3, lL3, al3, lT4, lL4, al4, lT5, lL5, al5, lT6, lL6, al6, rg0, rg1, rg2, rg3, rg4, rh0_0, rh0_1, rh0_2, rh0_3, rh0_4, rh1_1, rh1_2, rh1_3, rh1_4, rh2_2, rh2_3, rh2_4, rh3_3, rh3_4, rdm1, rd0, rd1, rd2, rd3, ob, addI, subI, negI, ltI, leI, gtI, geI, eqI, neI, truB, truN, int1, nameδ_eq, Option.bind_some, if_true, decide_true, decide_false, Bool.not_true, Bool.not_false, Bool.and_true, Bool.true_and, Bool.and_false, Bool.false_and, Bool.or_false, Bool.false_or, Bool.or_true, Bool.true_or, Bool.false_eq_true, if_false, cmpM_nil, cmpM_cons, forD_nil, forD_cons, Int.reduceSub, Int.reduceAdd, Int.reduceLE, Int.reduceLT, Int.reduceNeg, Int.reduceMul, Int.reduceEq, Nat.reduceAdd, Nat.reduceLeDiff, Bool.and_self, Bool.or_self, List.isEmpty_nil, List.isEmpty_cons, en0t, zp0tt, zp0tl, en0l, zp0lt, zp0ll, en1t, zp1tt, zp1tl, en1l, zp1lt, zp1ll, en2t, zp2tt, zp2tl, en2l, zp2lt, zp2ll, en3t, zp3tt, zp3tl, en3l, zp3lt, zp3ll, en4t, zp4tt, zp4tl, en4l, zp4lt, zp4ll, tupδ_t, consδ_c, nilδ_n, if_so, oadd_if, oadd_s, oadd_n, emp_if, Bool.not_not, acc_1, acc_2, acc_3, acc_4, max2m, min2m, sl1_0, sl2_0, sl2_1, sl3_0, sl3_1, sl3_2, sl4_0, sl4_1, sl4_2, sl4_3, sl5_0, sl5_1, sl5_2, sl5_3, sl5_4, sl6_0, sl6_1, sl6_2, sl6_3, sl6_4, sl6_5, tru0, tru1, tru2, tru3, tru4, tru5, bnd_ite, ite_same]
    · rw [if_neg c0]
      have d0 : decide (op W H n (k + 1) z = 0) = false := decide_eq_false c0
      by_cases c1 : H (n - k - 1) ≤ z
      · have x7 : ixD (rw' n W H c k) (.int (z - H (n - k - 1))) = some (.int (op W H n k (z - H (n - k - 1)))) := rwI (by omega)
        have d1 : decide (H (n - k - 1) ≤ z) = true := decide_eq_true c1
        by_cases c2 : op W H n k (z - H (n - k - 1)) + W (n - k - 1) = op W H n (k + 1) z
        · have d2 : decide (op W H n k (z - H (n - k - 1)) + W (n - k - 1) = op W H n (k + 1) z) = true := decide_eq_true c2
          obtain ⟨z', hz⟩ := pick_ok g k' hc k (acc ++ [(n : Int) - k - 1]) (z - H (n - k - 1)) (by omega) (by omega) (by omega) (by rw [List.length_append, List.length_singleton]; omega)
          refine ⟨z', ?_⟩
          rw [if_pos ⟨c1, c2⟩]
          rw [List.append_assoc] at hz
          simp only [m_best_lamps_l2, m_best_lamps_j3, x1, x2, x3, x7, x6, d0, d1, d2, augI, andW_p, orW_p, andW_u, orW_u, andV_u, orV_u, andV_p, orV_p, ifV_p, if_bool, if_bool, chT_ll, chT_lt, chT_tl, chV_ll, chV_lt, nameδ_eq, lstL, tx1_m1, tx1_0, tx2_m2, tx2_m1, tx2_0, tx2_1, tx3_m2, tx3_m1, tx3_0, tx3_1, tx3_2, tx4_m2, tx4_m1, tx4_0, tx4_1, tx4_2, tx4_3, tx5_m2, tx5_m1, tx5_0, tx5_1, tx5_2, tx5_3, tx5_4, tx6_m2, tx6_m1, tx6_0, tx6_1, tx6_2, tx6_3, tx6_4, tx6_5, lx1_m1, lx1_0, lx2_m2, lx2_m1, lx2_0, lx2_1, lx3_m2, lx3_m1, lx3_0, lx3_1, lx3_2, lx4_m2, lx4_m1, lx4_0, lx4_1, lx4_2, lx4_3, lx5_m2, lx5_m1, lx5_0, lx5_1, lx5_2, lx5_3, lx5_4, lx6_m2, lx6_m1, lx6_0, lx6_1, lx6_2, lx6_3, lx6_4, lx6_5, isiT, isiI, isiB, isiL, is_tt, is_ii, is_ib, is_ti, seqT, seqL, tupL, truL, truT, isN_N, lcP0, sz0, ap0, lcP1, sz1, ap1, lcP2, sz2, ap2, lcP3, sz3, ap3, lcP4, sz4, ap4, lcP5, sz5, ap5, lcP6, sz6, ap6, lcP7, sz7, ap7, lcP8, sz8, ap8, lT0, lL0, lT1, lL1, al1, lT2, lL2, al2, lT3, lL3, al3, lT4, lL4, al4, lT5, lL5, al5, lT6, lL6, al6, rg0, rg1, rg2, rg3, rg4, rh0_0, rh0_1, rh0_2, rh0_3, rh0_4, rh1_1, rh1_2, rh1_3, rh1_4, rh2_2, rh2_3, rh2_4, rh3_3, rh3_4, rdm1, rd0, rd1, rd2, rd3, ob, addI, subI, negI, ltI, leI, gtI, geI, eqI, neI, truB, truN, int1, nameδ_eq, Option.bind_some, if_true, decide_true, decide_false, Bool.not_true, Bool.not_false, Bool.and_true, Bool.true_and, Bool.and_false, Bool.false_and, Bool.or_false, Bool.false_or, Bool.or_true, Bool.true_or, Bool.false_eq_true, if_false, cmpM_nil, cmpM_cons, forD_nil, forD_cons, Int.reduceSub, Int.reduceAdd, Int.reduceLE, Int.reduceLT, Int.reduceNeg, Int.reduceMul, Int.reduceEq, Nat.reduceAdd, Nat.reduceLeDiff, Bool.and_self, Bool.or_self, List.isEmpty_nil, List.isEmpty_cons, en0t, zp0tt, zp0tl, en0l, zp0lt, zp0ll, en1t, zp1tt, zp1tl, en1l, zp1lt, zp1ll, en2t, zp2tt, zp2tl, en2l, zp2lt, zp2ll, en3t, zp3tt, zp3tl, en3l, zp3lt, zp3ll, en4t, zp4tt, zp4tl, en4l, zp4lt, zp4ll, tupδ_t, consδ_c, nilδ_n, if_so, oadd_if, oadd_s, oadd_n, emp_if, Bool.not_not, acc_1, acc_2, acc_3, acc_4, max2m, min2m, sl1_0, sl2_0, sl2_1, sl3_0, sl3_1, sl3_2, sl4_0, sl4_1, sl4_2, sl4_3, sl5_0, sl5_1, sl5_2, sl5_3, sl5_4, sl6_0, sl6_1, sl6_2, sl6_3, sl6_4, sl6_5, tru0, tru1, tru2, tru3, tru4, tru5, bnd_ite, ite_same]
          exact hz
        · have d2 : decide (op W H n k (z - H (n - k - 1)) + W (n - k - 1) = op W H n (k + 1) z) = false := decide_eq_false c2
          obtain ⟨z', hz⟩ := pick_ok g k' hc k acc z (by omega) h0 h1 (by omega)
          refine ⟨z', ?_⟩
          rw [if_neg (fun q => c2 q.2)]
          simp only [m_best_lamps_l2, m_best_lamps_j3, x1, x2, x3, x7, x6, d0, d1, d2, augI, andW_p, orW_p, andW_u, orW_u, andV_u, orV_u, andV_p, orV_p, ifV_p, if_bool, if_bool, chT_ll, chT_lt, chT_tl, chV_ll, chV_lt, nameδ_eq, lstL, tx1_m1, tx1_0, tx2_m2, tx2_m1, tx2_0, tx2_1, tx3_m2, tx3_m1, tx3_0, tx3_1, tx3_2, tx4_m2, tx4_m1, tx4_0, tx4_1, tx4_2, tx4_3, tx5_m2, tx5_m1, tx5_0, tx5_1, tx5_2, tx5_3, tx5_4, tx6_m2, tx6_m1, tx6_0, tx6_1, tx6_2, tx6_3, tx6_4, tx6_5, lx1_m1, lx1_0, lx2_m2, lx2_m1, lx2_0, lx2_1, lx3_m2, lx3_m1, lx3_0, lx3_1, lx3_2, lx4_m2, lx4_m1, lx4_0, lx4_1, lx4_2, lx4_3, lx5_m2, lx5_m1, lx5_0, lx5_1, lx5_2, lx5_3, lx5_4, lx6_m2, lx6_m1, lx6_0, lx6_1, lx6_2, lx6_3, lx6_4, lx6_5, isiT, isiI, isiB, isiL, is_tt, is_ii, is_ib, is_ti, seqT, seqL, tupL, truL, truT, isN_N, lcP0, sz0, ap0, lcP1, sz1, ap1, lcP2, sz2, ap2, lcP3, sz3, ap3, lcP4, sz4, ap4, lcP5, sz5, ap5, lcP6, sz6, ap6, lcP7, sz7, ap7, lcP8, sz8, ap8, lT0, lL0, lT1, lL1, al1, lT2, lL2, al2, lT3, lL3, al3, lT4, lL4, al4, lT5, lL5, al5, lT6, lL6, al6, rg0, rg1, rg2, rg3, rg4, rh0_0, rh0_1, rh0_2, rh0_3, rh0_4, rh1_1, rh1_2, rh1_3, rh1_4, rh2_2, rh2_3, rh2_4, rh3_3, rh3_4, rdm1, rd0, rd1, rd2, rd3, ob, addI, subI, negI, ltI, leI, gtI, geI, eqI, neI, truB, truN, int1, nameδ_eq, Option.bind_some, if_true, decide_true, decide_false, Bool.not_true, Bool.not_false, Bool.and_true, Bool.true_and, Bool.and_false, Bool.false_and, Bool.or_false, Bool.false_or, Bool.or_true, Bool.true_or, Bool.false_eq_true, if_false, cmpM_nil, cmpM_cons, forD_nil, forD_cons, Int.reduceSub, Int.reduceAdd, Int.reduceLE, Int.reduceLT, Int.reduceNeg, Int.reduceMul, Int.reduceEq, Nat.reduceAdd, Nat.reduceLeDiff, Bool.and_self, Bool.or_self, List.isEmpty_nil, List.isEmpty_cons, en0t, zp0tt, zp0tl, en0l, zp0lt, zp0ll, en1t, zp1tt, zp1tl, en1l, zp1lt, zp1ll, en2t, zp2tt, zp2tl, en2l, zp2lt, zp2ll, en3t, zp3tt, zp3tl, en3l, zp3lt, zp3ll, en4t, zp4tt, zp4tl, en4l, zp4lt, zp4ll, tupδ_t, consδ_c, nilδ_n, if_so, oadd_if, oadd_s, oadd_n, emp_if, Bool.not_not, acc_1, acc_2, acc_3, acc_4, max2m, min2m, sl1_0, sl2_0, sl2_1, sl3_0, sl3_1, sl3_2, sl4_0, sl4_1, sl4_2, sl4_3, sl5_0, sl5_1, sl5_2, sl5_3, sl5_4, sl6_0, sl6_1, sl6_2, sl6_3, sl6_4, sl6_5, tru0, tru1, tru2, tru3, tru4, tru5, bnd_ite, ite_same]
          exact hz
      · have d1 : decide (H (n - k - 1) ≤ z) = false := decide_eq_false c1
        obtain ⟨z', hz⟩ := pick_ok g k' hc k acc z (by omega) h0 h1 (by omega)
        refine ⟨z', ?_⟩
        rw [if_neg (fun q => c1 q.1)]
        simp only [m_best_lamps_l2, m_best_lamps_j3, x1, x2, x3, x6, d0, d1, augI, andW_p, orW_p, andW_u, orW_u, andV_u, orV_u, andV_p, orV_p, ifV_p, if_bool, if_bool, chT_ll, chT_lt, chT_tl, chV_ll, chV_lt, nameδ_eq, lstL, tx1_m1, tx1_0, tx2_m2, tx2_m1, tx2_0, tx2_1, tx3_m2, tx3_m1, tx3_0, tx3_1, tx3_2, tx4_m2, tx4_m1, tx4_0, tx4_1, tx4_2, tx4_3, tx5_m2, tx5_m1, tx5_0, tx5_1, tx5_2, tx5_3, tx5_4, tx6_m2, tx6_m1, tx6_0, tx6_1, tx6_2, tx6_3, tx6_4, tx6_5, lx1_m1, lx1_0, lx2_m2, lx2_m1, lx2_0, lx2_1, lx3_m2, lx3_m1, lx3_0, lx3_1, lx3_2, lx4_m2, lx4_m1, lx4_0, lx4_1, lx4_2, lx4_3, lx5_m2, lx5_m1, lx5_0, lx5_1, lx5_2, lx5_3, lx5_4, lx6_m2, lx6_m1, lx6_0, lx6_1, lx6_2, lx6_3, lx6_4, lx6_5, isiT, isiI, isiB, isiL, is_tt, is_ii, is_ib, is_ti, seqT, seqL, tupL, truL, truT, isN_N, lcP0, sz0, ap0, lcP1, sz1, ap1, lcP2, sz2, ap2, lcP3, sz3, ap3, lcP4, sz4, ap4, lcP5, sz5, ap5, lcP6, sz6, ap6, lcP7, sz7, ap7, lcP8, sz8, ap8, lT0, lL0, lT1, lL1, al1, lT2, lL2, al2, lT3, lL3, al3, lT4, lL4, al4, lT5, lL5, al5, lT6, lL6, al6, rg0, rg1, rg2, rg3, rg4, rh0_0, rh0_1, rh0_2, rh0_3, rh0_4, rh1_1, rh1_2, rh1_3, rh1_4, rh2_2, rh2_3, rh2_4, rh3_3, rh3_4, rdm1, rd0, rd1, rd2, rd3, ob, addI, subI, negI, ltI, leI, gtI, geI, eqI, neI, truB, truN, int1, nameδ_eq, Option.bind_some, if_true, decide_true, decide_false, Bool.not_true, Bool.not_false, Bool.and_true, Bool.true_and, Bool.and_false, Bool.false_and, Bool.or_false, Bool.false_or, Bool.or_true, Bool.true_or, Bool.false_eq_true, if_false, cmpM_nil, cmpM_cons, forD_nil, forD_cons, Int.reduceSub, Int.reduceAdd, Int.reduceLE, Int.reduceLT, Int.reduceNeg, Int.reduceMul, Int.reduceEq, Nat.reduceAdd, Nat.reduceLeDiff, Bool.and_self, Bool.or_self, List.isEmpty_nil, List.isEmpty_cons, en0t, zp0tt, zp0tl, en0l, zp0lt, zp0ll, en1t, zp1tt, zp1tl, en1l, zp1lt, zp1ll, en2t, zp2tt, zp2tl, en2l, zp2lt, zp2ll, en3t, zp3tt, zp3tl, en3l, zp3lt, zp3ll, en4t, zp4tt, zp4tl, en4l, zp4lt, zp4ll, tupδ_t, consδ_c, nilδ_n, if_so, oadd_if, oadd_s, oadd_n, emp_if, Bool.not_not, acc_1, acc_2, acc_3, acc_4, max2m, min2m, sl1_0, sl2_0, sl2_1, sl3_0, sl3_1, sl3_2, sl4_0, sl4_1, sl4_2, sl4_3, sl5_0, sl5_1, sl5_2, sl5_3, sl5_4, sl6_0, sl6_1, sl6_2, sl6_3, sl6_4, sl6_5, tru0, tru1, tru2, tru3, tru4, tru5, bnd_ite, ite_same]
        exact hz
theorem best_ok (g : La n W H) (h : 0 ≤ c ∧ c ≤ 101) : m_best_lamps (lms n W H) (.int c) = some (.tuple [.int (op W H n n c), tupI (tl W H n n c)]) := by
  have n6 := g.n6
  obtain ⟨s, hs, e1⟩ := rows_ok g h
  subst hs
  have e2 : repLD (.list [.int 0]) (.int (c + 1)) = some (rw' n W H c 0) := by
    show (if -1000000 ≤ c + 1 ∧ c + 1 ≤ 1000000 ∧ 1 * (c + 1).toNat ≤ 16777216 then some (PyData.list (List.replicate (c + 1).toNat [PyData.int 0]).flatten) else none) = _
    rw [if_pos (by omega)]
    unfold rw'
    congr 2
    have : ∀ m : Nat, (List.replicate m [PyData.int 0]).flatten = tab m fun i => .int (op W H n (0 : Int).toNat i) := by
      intro m
      induction m with
      | zero => rfl
      | succ m ih =>
        rw [List.replicate_succ', List.flatten_append, ih, tab_succ]
        rfl
    exact this _
  have e3 : revD (lms n W H) = some (.tuple (tab n fun i => lm W H (n - 1 - i))) := by
    show some (PyData.tuple (tab n (lm W H)).reverse) = _
    rw [tab_rev]
  have e4 : revD (.list (tab (n + 1) (rw' n W H c))) = some (.list (tab (n + 1) fun i => rw' n W H c (n - i))) := by
    show some (PyData.list (tab (n + 1) (rw' n W H c)).reverse) = _
    rw [tab_rev]
    congr 2
    exact tab_congr fun i _ _ => by congr 1; omega
  have e5 : enumD [lms n W H] = some (tab n fun i => .tuple [.int (n - n + i), lm W H (n - n + i)]) := by
    have : enumD [lms n W H] = some (tab n fun i => .tuple [.int i, lm W H i]) := enT
    rw [this]
    congr 1
    exact tab_congr fun i _ _ => by rw [show (n : Int) - n + i = i by omega]
  have e6 : ixD (.list (tab (n + 1) fun i => rw' n W H c (n - i))) (.int 0) = some (rw' n W H c n) := by
    rw [ixL (by omega)]
    congr 2
  have e7 : ixD (rw' n W H c n) (.int c) = some (.int (op W H n n c)) := by
    have := rwI (n := n) (W := W) (H := H) (k := (n : Int)) (c := c) (z := c) (by omega)
    rw [Int.toNat_natCast] at this
    exact this
  obtain ⟨z', e8⟩ := pick_ok g (fun s24 => bnd (ixD (.list (tab (n + 1) fun i => rw' n W H c (n - i))) (.int 0)) fun t46 => bnd (ixD t46 (.int c)) fun t45 => bnd (tupleD [(.list s24.1)]) fun t47 => bnd (szD [t45, t47]) fun _ => some (.tuple [t45, t47])) h.2 n [] c (Nat.le_refl _) h.1 (Int.le_refl _) (by simp; omega)
  have e8' := e8
  rw [List.map_nil, List.nil_append] at e8'
  have e9 : negOne (some (-1)) = some () := rfl
  simp only [m_best_lamps, ck_lamps g, ck_oil h, e2, e3, e1, e4, e5, e9, intDI, andW_p, orW_p, andW_u, orW_u, andV_u, orV_u, andV_p, orV_p, ifV_p, if_bool, if_bool, chT_ll, chT_lt, chT_tl, chV_ll, chV_lt, nameδ_eq, lstL, tx1_m1, tx1_0, tx2_m2, tx2_m1, tx2_0, tx2_1, tx3_m2, tx3_m1, tx3_0, tx3_1, tx3_2, tx4_m2, tx4_m1, tx4_0, tx4_1, tx4_2, tx4_3, tx5_m2, tx5_m1, tx5_0, tx5_1, tx5_2, tx5_3, tx5_4, tx6_m2, tx6_m1, tx6_0, tx6_1, tx6_2, tx6_3, tx6_4, tx6_5, lx1_m1, lx1_0, lx2_m2, lx2_m1, lx2_0, lx2_1, lx3_m2, lx3_m1, lx3_0, lx3_1, lx3_2, lx4_m2, lx4_m1, lx4_0, lx4_1, lx4_2, lx4_3, lx5_m2, lx5_m1, lx5_0, lx5_1, lx5_2, lx5_3, lx5_4, lx6_m2, lx6_m1, lx6_0, lx6_1, lx6_2, lx6_3, lx6_4, lx6_5, isiT, isiI, isiB, isiL, is_tt, is_ii, is_ib, is_ti, seqT, seqL, tupL, truL, truT, isN_N, lcP0, sz0, ap0, lcP1, sz1, ap1, lcP2, sz2, ap2, lcP3, sz3, ap3, lcP4, sz4, ap4, lcP5, sz5, ap5, lcP6, sz6, ap6, lcP7, sz7, ap7, lcP8, sz8, ap8, lT0, lL0, lT1, lL1, al1, lT2, lL2, al2, lT3, lL3, al3, lT4, lL4, al4, lT5, lL5, al5, lT6, lL6, al6, rg0, rg1, rg2, rg3, rg4, rh0_0, rh0_1, rh0_2, rh0_3, rh0_4, rh1_1, rh1_2, rh1_3, rh1_4, rh2_2, rh2_3, rh2_4, rh3_3, rh3_4, rdm1, rd0, rd1, rd2, rd3, ob, addI, subI, negI, ltI, leI, gtI, geI, eqI, neI, truB, truN, int1, nameδ_eq, Option.bind_some, if_true, decide_true, decide_false, Bool.not_true, Bool.not_false, Bool.and_true, Bool.true_and, Bool.and_false, Bool.false_and, Bool.or_false, Bool.false_or, Bool.or_true, Bool.true_or, Bool.false_eq_true, if_false, cmpM_nil, cmpM_cons, forD_nil, forD_cons, Int.reduceSub, Int.reduceAdd, Int.reduceLE, Int.reduceLT, Int.reduceNeg, Int.reduceMul, Int.reduceEq, Nat.reduceAdd, Nat.reduceLeDiff, Bool.and_self, Bool.or_self, List.isEmpty_nil, List.isEmpty_cons, en0t, zp0tt, zp0tl, en0l, zp0lt, zp0ll, en1t, zp1tt, zp1tl, en1l, zp1lt, zp1ll, en2t, zp2tt, zp2tl, en2l, zp2lt, zp2ll, en3t, zp3tt, zp3tl, en3l, zp3lt, zp3ll, en4t, zp4tt, zp4tl, en4l, zp4lt, zp4ll, tupδ_t, consδ_c, nilδ_n, if_so, oadd_if, oadd_s, oadd_n, emp_if, Bool.not_not, acc_1, acc_2, acc_3, acc_4, max2m, min2m, sl1_0, sl2_0, sl2_1, sl3_0, sl3_1, sl3_2, sl4_0, sl4_1, sl4_2, sl4_3, sl5_0, sl5_1, sl5_2, sl5_3, sl5_4, sl6_0, sl6_1, sl6_2, sl6_3, sl6_4, sl6_5, tru0, tru1, tru2, tru3, tru4, tru5, bnd_ite, ite_same]
  refine e8'.trans ?_
  simp only [e6, e7, andW_p, orW_p, andW_u, orW_u, andV_u, orV_u, andV_p, orV_p, ifV_p, if_bool, if_bool, chT_ll, chT_lt, chT_tl, chV_ll, chV_lt, nameδ_eq, lstL, tx1_m1, tx1_0, tx2_m2, tx2_m1, tx2_0, tx2_1, tx3_m2, tx3_m1, tx3_0, tx3_1, tx3_2, tx4_m2, tx4_m1, tx4_0, tx4_1, tx4_2, tx4_3, tx5_m2, tx5_m1, tx5_0, tx5_1, tx5_2, tx5_3, tx5_4, tx6_m2, tx6_m1, tx6_0, tx6_1, tx6_2, tx6_3, tx6_4, tx6_5, lx1_m1, lx1_0, lx2_m2, lx2_m1, lx2_0, lx2_1, lx3_m2, lx3_m1, lx3_0, lx3_1, lx3_2, lx4_m2, lx4_m1, lx4_0, lx4_1, lx4_2, lx4_3, lx5_m2, lx5_m1, lx5_0, lx5_1, lx5_2, lx5_3, lx5_4, lx6_m2, lx6_m1, lx6_0, lx6_1, lx6_2, lx6_3, lx6_4, lx6_5, isiT, isiI, isiB, isiL, is_tt, is_ii, is_ib, is_ti, seqT, seqL, tupL, truL, truT, isN_N, lcP0, sz0, ap0, lcP1, sz1, ap1, lcP2, sz2, ap2, lcP3, sz3, ap3, lcP4, sz4, ap4, lcP5, sz5, ap5, lcP6, sz6, ap6, lcP7, sz7, ap7, lcP8, sz8, ap8, lT0, lL0, lT1, lL1, al1, lT2, lL2, al2, lT3, lL3, al3, lT4, lL4, al4, lT5, lL5, al5, lT6, lL6, al6, rg0, rg1, rg2, rg3, rg4, rh0_0, rh0_1, rh0_2, rh0_3, rh0_4, rh1_1, rh1_2, rh1_3, rh1_4, rh2_2, rh2_3, rh2_4, rh3_3, rh3_4, rdm1, rd0, rd1, rd2, rd3, ob, addI, subI, negI, ltI, leI, gtI, geI, eqI, neI, truB, truN, int1, nameδ_eq, Option.bind_some, if_true, decide_true, decide_false, Bool.not_true, Bool.not_false, Bool.and_true, Bool.true_and, Bool.and_false, Bool.false_and, Bool.or_false, Bool.false_or, Bool.or_true, Bool.true_or, Bool.false_eq_true, if_false, cmpM_nil, cmpM_cons, forD_nil, forD_cons, Int.reduceSub, Int.reduceAdd, Int.reduceLE, Int.reduceLT, Int.reduceNeg, Int.reduceMul, Int.reduceEq, Nat.reduceAdd, Nat.reduceLeDiff, Bool.and_self, Bool.or_self, List.isEmpty_nil, List.isEmpty_cons, en0t, zp0tt, zp0tl, en0l, zp0lt, zp0ll, en1t, zp1tt, zp1tl, en1l, zp1lt, zp1ll, en2t, zp2tt, zp2tl, en2l, zp2lt, zp2ll, en3t, zp3tt, zp3tl, en3l, zp3lt, zp3ll, en4t, zp4tt, zp4tl, en4l, zp4lt, zp4ll, tupδ_t, consδ_c, nilδ_n, if_so, oadd_if, oadd_s, oadd_n, emp_if, Bool.not_not, acc_1, acc_2, acc_3, acc_4, max2m, min2m, sl1_0, sl2_0, sl2_1, sl3_0, sl3_1, sl3_2, sl4_0, sl4_1, sl4_2, sl4_3, sl5_0, sl5_1, sl5_2, sl5_3, sl5_4, sl6_0, sl6_1, sl6_2, sl6_3, sl6_4, sl6_5, tru0, tru1, tru2, tru3, tru4, tru5, bnd_ite, ite_same]
  rfl
theorem acc_lamps (g : La n W H) (h : 0 ≤ c ∧ c ≤ 101) {T : List Int} (hT : Inc 0 n T) (m : Int) : m_accept_lamps (lms n W H) (.int c) (tupI T) (.int m) = acc (!decide (c < sm H T) && !decide (sm W T < m)) := by
  have n6 := g.n6
  have hTl := hT.len (by omega)
  have e1 : lcP nameδ (m_accept_lamps_c1 (lms n W H)) (T.map .int) = some (T.map fun _ => .bool true) := lcMa _ (by omega) fun x hx => by
    have hm := hT.mem hx
    have e2 : lenD [lms n W H] = some (.int n) := lenTt
    have b1 := hm.1
    have b2 := hm.2
    show bnd (R := Option (Option D)) (nameδ (PyData.int x)) _ = _
    simp only [m_accept_lamps_c1, e_int, e2, b1, b2, andW_p, orW_p, andW_u, orW_u, andV_u, orV_u, andV_p, orV_p, ifV_p, if_bool, if_bool, chT_ll, chT_lt, chT_tl, chV_ll, chV_lt, nameδ_eq, lstL, tx1_m1, tx1_0, tx2_m2, tx2_m1, tx2_0, tx2_1, tx3_m2, tx3_m1, tx3_0, tx3_1, tx3_2, tx4_m2, tx4_m1, tx4_0, tx4_1, tx4_2, tx4_3, tx5_m2, tx5_m1, tx5_0, tx5_1, tx5_2, tx5_3, tx5_4, tx6_m2, tx6_m1, tx6_0, tx6_1, tx6_2, tx6_3, tx6_4, tx6_5, lx1_m1, lx1_0, lx2_m2, lx2_m1, lx2_0, lx2_1, lx3_m2, lx3_m1, lx3_0, lx3_1, lx3_2, lx4_m2, lx4_m1, lx4_0, lx4_1, lx4_2, lx4_3, lx5_m2, lx5_m1, lx5_0, lx5_1, lx5_2, lx5_3, lx5_4, lx6_m2, lx6_m1, lx6_0, lx6_1, lx6_2, lx6_3, lx6_4, lx6_5, isiT, isiI, isiB, isiL, is_tt, is_ii, is_ib, is_ti, seqT, seqL, tupL, truL, truT, isN_N, lcP0, sz0, ap0, lcP1, sz1, ap1, lcP2, sz2, ap2, lcP3, sz3, ap3, lcP4, sz4, ap4, lcP5, sz5, ap5, lcP6, sz6, ap6, lcP7, sz7, ap7, lcP8, sz8, ap8, lT0, lL0, lT1, lL1, al1, lT2, lL2, al2, lT3, lL3, al3, lT4, lL4, al4, lT5, lL5, al5, lT6, lL6, al6, rg0, rg1, rg2, rg3, rg4, rh0_0, rh0_1, rh0_2, rh0_3, rh0_4, rh1_1, rh1_2, rh1_3, rh1_4, rh2_2, rh2_3, rh2_4, rh3_3, rh3_4, rdm1, rd0, rd1, rd2, rd3, ob, addI, subI, negI, ltI, leI, gtI, geI, eqI, neI, truB, truN, int1, nameδ_eq, Option.bind_some, if_true, decide_true, decide_false, Bool.not_true, Bool.not_false, Bool.and_true, Bool.true_and, Bool.and_false, Bool.false_and, Bool.or_false, Bool.false_or, Bool.or_true, Bool.true_or, Bool.false_eq_true, if_false, cmpM_nil, cmpM_cons, forD_nil, forD_cons, Int.reduceSub, Int.reduceAdd, Int.reduceLE, Int.reduceLT, Int.reduceNeg, Int.reduceMul, Int.reduceEq, Nat.reduceAdd, Nat.reduceLeDiff, Bool.and_self, Bool.or_self, List.isEmpty_nil, List.isEmpty_cons, en0t, zp0tt, zp0tl, en0l, zp0lt, zp0ll, en1t, zp1tt, zp1tl, en1l, zp1lt, zp1ll, en2t, zp2tt, zp2tl, en2l, zp2lt, zp2ll, en3t, zp3tt, zp3tl, en3l, zp3lt, zp3ll, en4t, zp4tt, zp4tl, en4l, zp4lt, zp4ll, tupδ_t, consδ_c, nilδ_n, if_so, oadd_if, oadd_s, oadd_n, emp_if, Bool.not_not, acc_1, acc_2, acc_3, acc_4, max2m, min2m, sl1_0, sl2_0, sl2_1, sl3_0, sl3_1, sl3_2, sl4_0, sl4_1, sl4_2, sl4_3, sl5_0, sl5_1, sl5_2, sl5_3, sl5_4, sl6_0, sl6_1, sl6_2, sl6_3, sl6_4, sl6_5, tru0, tru1, tru2, tru3, tru4, tru5, bnd_ite, ite_same]
  have e2 : seqD (tupI T) = some (T.map .int) := rfl
  have e3 : isiD "tuple" (tupI T) = some (.bool true) := rfl
  have e4 : rng1 [.int ((T.length : Int) - 1)] = some (tab ((T.length : Int) - 1).toNat .int) := rgT (by omega)
  have e5 : lcP nameδ (m_accept_lamps_c2 (tupI T)) (tab ((T.length : Int) - 1).toNat .int) = some [] := lcN (by omega) fun i h0 h1 => by
    have hlt := inc_at hT h0 (by omega)
    have b1 : ¬ at0 T (i + 1) ≤ at0 T i := by omega
    have x1 : ixD (tupI T) (.int i) = some (.int (at0 T i)) := by rw [tupI_tab]; exact ixT (by omega)
    have x2 : ixD (tupI T) (.int (i + 1)) = some (.int (at0 T (i + 1))) := by rw [tupI_tab]; exact ixT (by omega)
    simp only [m_accept_lamps_c2, x1, x2, b1, andW_p, orW_p, andW_u, orW_u, andV_u, orV_u, andV_p, orV_p, ifV_p, if_bool, if_bool, chT_ll, chT_lt, chT_tl, chV_ll, chV_lt, nameδ_eq, lstL, tx1_m1, tx1_0, tx2_m2, tx2_m1, tx2_0, tx2_1, tx3_m2, tx3_m1, tx3_0, tx3_1, tx3_2, tx4_m2, tx4_m1, tx4_0, tx4_1, tx4_2, tx4_3, tx5_m2, tx5_m1, tx5_0, tx5_1, tx5_2, tx5_3, tx5_4, tx6_m2, tx6_m1, tx6_0, tx6_1, tx6_2, tx6_3, tx6_4, tx6_5, lx1_m1, lx1_0, lx2_m2, lx2_m1, lx2_0, lx2_1, lx3_m2, lx3_m1, lx3_0, lx3_1, lx3_2, lx4_m2, lx4_m1, lx4_0, lx4_1, lx4_2, lx4_3, lx5_m2, lx5_m1, lx5_0, lx5_1, lx5_2, lx5_3, lx5_4, lx6_m2, lx6_m1, lx6_0, lx6_1, lx6_2, lx6_3, lx6_4, lx6_5, isiT, isiI, isiB, isiL, is_tt, is_ii, is_ib, is_ti, seqT, seqL, tupL, truL, truT, isN_N, lcP0, sz0, ap0, lcP1, sz1, ap1, lcP2, sz2, ap2, lcP3, sz3, ap3, lcP4, sz4, ap4, lcP5, sz5, ap5, lcP6, sz6, ap6, lcP7, sz7, ap7, lcP8, sz8, ap8, lT0, lL0, lT1, lL1, al1, lT2, lL2, al2, lT3, lL3, al3, lT4, lL4, al4, lT5, lL5, al5, lT6, lL6, al6, rg0, rg1, rg2, rg3, rg4, rh0_0, rh0_1, rh0_2, rh0_3, rh0_4, rh1_1, rh1_2, rh1_3, rh1_4, rh2_2, rh2_3, rh2_4, rh3_3, rh3_4, rdm1, rd0, rd1, rd2, rd3, ob, addI, subI, negI, ltI, leI, gtI, geI, eqI, neI, truB, truN, int1, nameδ_eq, Option.bind_some, if_true, decide_true, decide_false, Bool.not_true, Bool.not_false, Bool.and_true, Bool.true_and, Bool.and_false, Bool.false_and, Bool.or_false, Bool.false_or, Bool.or_true, Bool.true_or, Bool.false_eq_true, if_false, cmpM_nil, cmpM_cons, forD_nil, forD_cons, Int.reduceSub, Int.reduceAdd, Int.reduceLE, Int.reduceLT, Int.reduceNeg, Int.reduceMul, Int.reduceEq, Nat.reduceAdd, Nat.reduceLeDiff, Bool.and_self, Bool.or_self, List.isEmpty_nil, List.isEmpty_cons, en0t, zp0tt, zp0tl, en0l, zp0lt, zp0ll, en1t, zp1tt, zp1tl, en1l, zp1lt, zp1ll, en2t, zp2tt, zp2tl, en2l, zp2lt, zp2ll, en3t, zp3tt, zp3tl, en3l, zp3lt, zp3ll, en4t, zp4tt, zp4tl, en4l, zp4lt, zp4ll, tupδ_t, consδ_c, nilδ_n, if_so, oadd_if, oadd_s, oadd_n, emp_if, Bool.not_not, acc_1, acc_2, acc_3, acc_4, max2m, min2m, sl1_0, sl2_0, sl2_1, sl3_0, sl3_1, sl3_2, sl4_0, sl4_1, sl4_2, sl4_3, sl5_0, sl5_1, sl5_2, sl5_3, sl5_4, sl6_0, sl6_1, sl6_2, sl6_3, sl6_4, sl6_5, tru0, tru1, tru2, tru3, tru4, tru5, bnd_ite, ite_same]
  have e6 : lcP nameδ (m_accept_lamps_c3 (lms n W H)) (T.map .int) = some (T.map fun x => .int (H x)) := lcMa _ (by omega) fun x hx => by
    show bnd (R := Option (Option D)) (nameδ (PyData.int x)) _ = _
    simp only [m_accept_lamps_c3, lmsI (hT.mem hx), lm1, andW_p, orW_p, andW_u, orW_u, andV_u, orV_u, andV_p, orV_p, ifV_p, if_bool, if_bool, chT_ll, chT_lt, chT_tl, chV_ll, chV_lt, nameδ_eq, lstL, tx1_m1, tx1_0, tx2_m2, tx2_m1, tx2_0, tx2_1, tx3_m2, tx3_m1, tx3_0, tx3_1, tx3_2, tx4_m2, tx4_m1, tx4_0, tx4_1, tx4_2, tx4_3, tx5_m2, tx5_m1, tx5_0, tx5_1, tx5_2, tx5_3, tx5_4, tx6_m2, tx6_m1, tx6_0, tx6_1, tx6_2, tx6_3, tx6_4, tx6_5, lx1_m1, lx1_0, lx2_m2, lx2_m1, lx2_0, lx2_1, lx3_m2, lx3_m1, lx3_0, lx3_1, lx3_2, lx4_m2, lx4_m1, lx4_0, lx4_1, lx4_2, lx4_3, lx5_m2, lx5_m1, lx5_0, lx5_1, lx5_2, lx5_3, lx5_4, lx6_m2, lx6_m1, lx6_0, lx6_1, lx6_2, lx6_3, lx6_4, lx6_5, isiT, isiI, isiB, isiL, is_tt, is_ii, is_ib, is_ti, seqT, seqL, tupL, truL, truT, isN_N, lcP0, sz0, ap0, lcP1, sz1, ap1, lcP2, sz2, ap2, lcP3, sz3, ap3, lcP4, sz4, ap4, lcP5, sz5, ap5, lcP6, sz6, ap6, lcP7, sz7, ap7, lcP8, sz8, ap8, lT0, lL0, lT1, lL1, al1, lT2, lL2, al2, lT3, lL3, al3, lT4, lL4, al4, lT5, lL5, al5, lT6, lL6, al6, rg0, rg1, rg2, rg3, rg4, rh0_0, rh0_1, rh0_2, rh0_3, rh0_4, rh1_1, rh1_2, rh1_3, rh1_4, rh2_2, rh2_3, rh2_4, rh3_3, rh3_4, rdm1, rd0, rd1, rd2, rd3, ob, addI, subI, negI, ltI, leI, gtI, geI, eqI, neI, truB, truN, int1, nameδ_eq, Option.bind_some, if_true, decide_true, decide_false, Bool.not_true, Bool.not_false, Bool.and_true, Bool.true_and, Bool.and_false, Bool.false_and, Bool.or_false, Bool.false_or, Bool.or_true, Bool.true_or, Bool.false_eq_true, if_false, cmpM_nil, cmpM_cons, forD_nil, forD_cons, Int.reduceSub, Int.reduceAdd, Int.reduceLE, Int.reduceLT, Int.reduceNeg, Int.reduceMul, Int.reduceEq, Nat.reduceAdd, Nat.reduceLeDiff, Bool.and_self, Bool.or_self, List.isEmpty_nil, List.isEmpty_cons, en0t, zp0tt, zp0tl, en0l, zp0lt, zp0ll, en1t, zp1tt, zp1tl, en1l, zp1lt, zp1ll, en2t, zp2tt, zp2tl, en2l, zp2lt, zp2ll, en3t, zp3tt, zp3tl, en3l, zp3lt, zp3ll, en4t, zp4tt, zp4tl, en4l, zp4lt, zp4ll, tupδ_t, consδ_c, nilδ_n, if_so, oadd_if, oadd_s, oadd_n, emp_if, Bool.not_not, acc_1, acc_2, acc_3, acc_4, max2m, min2m, sl1_0, sl2_0, sl2_1, sl3_0, sl3_1, sl3_2, sl4_0, sl4_1, sl4_2, sl4_3, sl5_0, sl5_1, sl5_2, sl5_3, sl5_4, sl6_0, sl6_1, sl6_2, sl6_3, sl6_4, sl6_5, tru0, tru1, tru2, tru3, tru4, tru5, bnd_ite, ite_same]
  have e7 : lcP nameδ (m_accept_lamps_c4 (lms n W H)) (T.map .int) = some (T.map fun x => .int (W x)) := lcMa _ (by omega) fun x hx => by
    show bnd (R := Option (Option D)) (nameδ (PyData.int x)) _ = _
    simp only [m_accept_lamps_c4, lmsI (hT.mem hx), lm0, andW_p, orW_p, andW_u, orW_u, andV_u, orV_u, andV_p, orV_p, ifV_p, if_bool, if_bool, chT_ll, chT_lt, chT_tl, chV_ll, chV_lt, nameδ_eq, lstL, tx1_m1, tx1_0, tx2_m2, tx2_m1, tx2_0, tx2_1, tx3_m2, tx3_m1, tx3_0, tx3_1, tx3_2, tx4_m2, tx4_m1, tx4_0, tx4_1, tx4_2, tx4_3, tx5_m2, tx5_m1, tx5_0, tx5_1, tx5_2, tx5_3, tx5_4, tx6_m2, tx6_m1, tx6_0, tx6_1, tx6_2, tx6_3, tx6_4, tx6_5, lx1_m1, lx1_0, lx2_m2, lx2_m1, lx2_0, lx2_1, lx3_m2, lx3_m1, lx3_0, lx3_1, lx3_2, lx4_m2, lx4_m1, lx4_0, lx4_1, lx4_2, lx4_3, lx5_m2, lx5_m1, lx5_0, lx5_1, lx5_2, lx5_3, lx5_4, lx6_m2, lx6_m1, lx6_0, lx6_1, lx6_2, lx6_3, lx6_4, lx6_5, isiT, isiI, isiB, isiL, is_tt, is_ii, is_ib, is_ti, seqT, seqL, tupL, truL, truT, isN_N, lcP0, sz0, ap0, lcP1, sz1, ap1, lcP2, sz2, ap2, lcP3, sz3, ap3, lcP4, sz4, ap4, lcP5, sz5, ap5, lcP6, sz6, ap6, lcP7, sz7, ap7, lcP8, sz8, ap8, lT0, lL0, lT1, lL1, al1, lT2, lL2, al2, lT3, lL3, al3, lT4, lL4, al4, lT5, lL5, al5, lT6, lL6, al6, rg0, rg1, rg2, rg3, rg4, rh0_0, rh0_1, rh0_2, rh0_3, rh0_4, rh1_1, rh1_2, rh1_3, rh1_4, rh2_2, rh2_3, rh2_4, rh3_3, rh3_4, rdm1, rd0, rd1, rd2, rd3, ob, addI, subI, negI, ltI, leI, gtI, geI, eqI, neI, truB, truN, int1, nameδ_eq, Option.bind_some, if_true, decide_true, decide_false, Bool.not_true, Bool.not_false, Bool.and_true, Bool.true_and, Bool.and_false, Bool.false_and, Bool.or_false, Bool.false_or, Bool.or_true, Bool.true_or, Bool.false_eq_true, if_false, cmpM_nil, cmpM_cons, forD_nil, forD_cons, Int.reduceSub, Int.reduceAdd, Int.reduceLE, Int.reduceLT, Int.reduceNeg, Int.reduceMul, Int.reduceEq, Nat.reduceAdd, Nat.reduceLeDiff, Bool.and_self, Bool.or_self, List.isEmpty_nil, List.isEmpty_cons, en0t, zp0tt, zp0tl, en0l, zp0lt, zp0ll, en1t, zp1tt, zp1tl, en1l, zp1lt, zp1ll, en2t, zp2tt, zp2tl, en2l, zp2lt, zp2ll, en3t, zp3tt, zp3tl, en3l, zp3lt, zp3ll, en4t, zp4tt, zp4tl, en4l, zp4lt, zp4ll, tupδ_t, consδ_c, nilδ_n, if_so, oadd_if, oadd_s, oadd_n, emp_if, Bool.not_not, acc_1, acc_2, acc_3, acc_4, max2m, min2m, sl1_0, sl2_0, sl2_1, sl3_0, sl3_1, sl3_2, sl4_0, sl4_1, sl4_2, sl4_3, sl5_0, sl5_1, sl5_2, sl5_3, sl5_4, sl6_0, sl6_1, sl6_2, sl6_3, sl6_4, sl6_5, tru0, tru1, tru2, tru3, tru4, tru5, bnd_ite, ite_same]
  simp only [m_accept_lamps, ck_lamps g, ck_oil h, e1, e2, e3, e4, e5, e_int, lenI, allM, e6, e7, sumM, andW_p, orW_p, andW_u, orW_u, andV_u, orV_u, andV_p, orV_p, ifV_p, if_bool, if_bool, chT_ll, chT_lt, chT_tl, chV_ll, chV_lt, nameδ_eq, lstL, tx1_m1, tx1_0, tx2_m2, tx2_m1, tx2_0, tx2_1, tx3_m2, tx3_m1, tx3_0, tx3_1, tx3_2, tx4_m2, tx4_m1, tx4_0, tx4_1, tx4_2, tx4_3, tx5_m2, tx5_m1, tx5_0, tx5_1, tx5_2, tx5_3, tx5_4, tx6_m2, tx6_m1, tx6_0, tx6_1, tx6_2, tx6_3, tx6_4, tx6_5, lx1_m1, lx1_0, lx2_m2, lx2_m1, lx2_0, lx2_1, lx3_m2, lx3_m1, lx3_0, lx3_1, lx3_2, lx4_m2, lx4_m1, lx4_0, lx4_1, lx4_2, lx4_3, lx5_m2, lx5_m1, lx5_0, lx5_1, lx5_2, lx5_3, lx5_4, lx6_m2, lx6_m1, lx6_0, lx6_1, lx6_2, lx6_3, lx6_4, lx6_5, isiT, isiI, isiB, isiL, is_tt, is_ii, is_ib, is_ti, seqT, seqL, tupL, truL, truT, isN_N, lcP0, sz0, ap0, lcP1, sz1, ap1, lcP2, sz2, ap2, lcP3, sz3, ap3, lcP4, sz4, ap4, lcP5, sz5, ap5, lcP6, sz6, ap6, lcP7, sz7, ap7, lcP8, sz8, ap8, lT0, lL0, lT1, lL1, al1, lT2, lL2, al2, lT3, lL3, al3, lT4, lL4, al4, lT5, lL5, al5, lT6, lL6, al6, rg0, rg1, rg2, rg3, rg4, rh0_0, rh0_1, rh0_2, rh0_3, rh0_4, rh1_1, rh1_2, rh1_3, rh1_4, rh2_2, rh2_3, rh2_4, rh3_3, rh3_4, rdm1, rd0, rd1, rd2, rd3, ob, addI, subI, negI, ltI, leI, gtI, geI, eqI, neI, truB, truN, int1, nameδ_eq, Option.bind_some, if_true, decide_true, decide_false, Bool.not_true, Bool.not_false, Bool.and_true, Bool.true_and, Bool.and_false, Bool.false_and, Bool.or_false, Bool.false_or, Bool.or_true, Bool.true_or, Bool.false_eq_true, if_false, cmpM_nil, cmpM_cons, forD_nil, forD_cons, Int.reduceSub, Int.reduceAdd, Int.reduceLE, Int.reduceLT, Int.reduceNeg, Int.reduceMul, Int.reduceEq, Nat.reduceAdd, Nat.reduceLeDiff, Bool.and_self, Bool.or_self, List.isEmpty_nil, List.isEmpty_cons, en0t, zp0tt, zp0tl, en0l, zp0lt, zp0ll, en1t, zp1tt, zp1tl, en1l, zp1lt, zp1ll, en2t, zp2tt, zp2tl, en2l, zp2lt, zp2ll, en3t, zp3tt, zp3tl, en3l, zp3lt, zp3ll, en4t, zp4tt, zp4tl, en4l, zp4lt, zp4ll, tupδ_t, consδ_c, nilδ_n, if_so, oadd_if, oadd_s, oadd_n, emp_if, Bool.not_not, acc_1, acc_2, acc_3, acc_4, max2m, min2m, sl1_0, sl2_0, sl2_1, sl3_0, sl3_1, sl3_2, sl4_0, sl4_1, sl4_2, sl4_3, sl5_0, sl5_1, sl5_2, sl5_3, sl5_4, sl6_0, sl6_1, sl6_2, sl6_3, sl6_4, sl6_5, tru0, tru1, tru2, tru3, tru4, tru5, bnd_ite, ite_same]
end
end G

end
section
set_option Elab.async false
set_option linter.all false
set_option maxRecDepth 100000
namespace G
open RM (bnd)
open PySem PySem.Spec PyProof.Rows L2
theorem sets_ok (n : Nat) (hn : n ≤ 6) : ∃ ls : List (List Int), ls.Perm (sets n) ∧ m__law_sets (.int n) = some (ls.map tupI) := by
  obtain ⟨s, hs, e⟩ := forI (β := List D) (δ := nameδ) (F := m__law_sets_l1) (n := n) (g := .int) (fun i s => s = .list ((sets i.toNat).map tupI)) (fun i s i0 i1 hI => by
    subst hI
    have hi : ((i.toNat : Nat) : Int) = i := Int.toNat_of_nonneg i0
    have hl : (sets i.toNat).length ≤ 64 := by
      rw [sets_len]
      exact Nat.pow_le_pow_right (n := 2) (by decide) (show i.toNat ≤ 6 by omega)
    have e1 : lcP nameδ (m__law_sets_c1 (.int i)) ((sets i.toNat).map tupI) = some ((sets i.toNat).map fun T => tupI (T ++ [i])) := lcMa _ (by omega) fun T hT => by
      have hT' := ((mem_sets i.toNat T).mp hT).len (by omega)
      have e2 : addD (tupI T) (.tuple [.int i]) = some (tupI (T ++ [i])) := by
        unfold tupI
        rw [addTT (by rw [List.length_map]; show T.length + 1 ≤ _; omega), List.map_append]
        rfl
      show bnd (R := Option (Option D)) (nameδ (tupI T)) _ = _
      simp only [m__law_sets_c1, e2, andW_p, orW_p, andW_u, orW_u, andV_u, orV_u, andV_p, orV_p, ifV_p, if_bool, if_bool, chT_ll, chT_lt, chT_tl, chV_ll, chV_lt, nameδ_eq, lstL, tx1_m1, tx1_0, tx2_m2, tx2_m1, tx2_0, tx2_1, tx3_m2, tx3_m1, tx3_0, tx3_1, tx3_2, tx4_m2, tx4_m1, tx4_0, tx4_1, tx4_2, tx4_3, tx5_m2, tx5_m1, tx5_0, tx5_1, tx5_2, tx5_3, tx5_4, tx6_m2, tx6_m1, tx6_0, tx6_1, tx6_2, tx6_3, tx6_4, tx6_5, lx1_m1, lx1_0, lx2_m2, lx2_m1, lx2_0, lx2_1, lx3_m2, lx3_m1, lx3_0, lx3_1, lx3_2, lx4_m2, lx4_m1, lx4_0, lx4_1, lx4_2, lx4_3, lx5_m2, lx5_m1, lx5_0, lx5_1, lx5_2, lx5_3, lx5_4, lx6_m2, lx6_m1, lx6_0, lx6_1, lx6_2, lx6_3, lx6_4, lx6_5, isiT, isiI, isiB, isiL, is_tt, is_ii, is_ib, is_ti, seqT, seqL, tupL, truL, truT, isN_N, lcP0, sz0, ap0, lcP1, sz1, ap1, lcP2, sz2, ap2, lcP3, sz3, ap3, lcP4, sz4, ap4, lcP5, sz5, ap5, lcP6, sz6, ap6, lcP7, sz7, ap7, lcP8, sz8, ap8, lT0, lL0, lT1, lL1, al1, lT2, lL2, al2, lT3, lL3, al3, lT4, lL4, al4, lT5, lL5, al5, lT6, lL6, al6, rg0, rg1, rg2, rg3, rg4, rh0_0, rh0_1, rh0_2, rh0_3, rh0_4, rh1_1, rh1_2, rh1_3, rh1_4, rh2_2, rh2_3, rh2_4, rh3_3, rh3_4, rdm1, rd0, rd1, rd2, rd3, ob, addI, subI, negI, ltI, leI, gtI, geI, eqI, neI, truB, truN, int1, nameδ_eq, Option.bind_some, if_true, decide_true, decide_false, Bool.not_true, Bool.not_false, Bool.and_true, Bool.true_and, Bool.and_false, Bool.false_and, Bool.or_false, Bool.false_or, Bool.or_true, Bool.true_or, Bool.false_eq_true, if_false, cmpM_nil, cmpM_cons, forD_nil, forD_cons, Int.reduceSub, Int.reduceAdd, Int.reduceLE, Int.reduceLT, Int.reduceNeg, Int.reduceMul, Int.reduceEq, Nat.reduceAdd, Nat.reduceLeDiff, Bool.and_self, Bool.or_self, List.isEmpty_nil, List.isEmpty_cons, en0t, zp0tt, zp0tl, en0l, zp0lt, zp0ll, en1t, zp1tt, zp1tl, en1l, zp1lt, zp1ll, en2t, zp2tt, zp2tl, en2l, zp2lt, zp2ll, en3t, zp3tt, zp3tl, en3l, zp3lt, zp3ll, en4t, zp4tt, zp4tl, en4l, zp4lt, zp4ll, tupδ_t, consδ_c, nilδ_n, if_so, oadd_if, oadd_s, oadd_n, emp_if, Bool.not_not, acc_1, acc_2, acc_3, acc_4, max2m, min2m, sl1_0, sl2_0, sl2_1, sl3_0, sl3_1, sl3_2, sl4_0, sl4_1, sl4_2, sl4_3, sl5_0, sl5_1, sl5_2, sl5_3, sl5_4, sl6_0, sl6_1, sl6_2, sl6_3, sl6_4, sl6_5, tru0, tru1, tru2, tru3, tru4, tru5, bnd_ite, ite_same]
    have e2 : catD (.list ((sets i.toNat).map tupI)) (.list ((sets i.toNat).map fun T => tupI (T ++ [i]))) = some (.list ((sets (i.toNat + 1)).map tupI)) := by
      rw [catLL (by rw [List.length_map, List.length_map]; omega)]
      congr 2
      show _ = (sets i.toNat ++ (sets i.toNat).map fun T => T ++ [((i.toNat : Nat) : Int)]).map tupI
      rw [List.map_append, List.map_map, hi]
      rfl
    refine ⟨.int i, .list ((sets (i.toNat + 1)).map tupI), rfl, by rw [show (i + 1).toNat = i.toNat + 1 by omega], fun kc kb => ?_⟩
    simp only [m__law_sets_l1, e1, e2, andW_p, orW_p, andW_u, orW_u, andV_u, orV_u, andV_p, orV_p, ifV_p, if_bool, if_bool, chT_ll, chT_lt, chT_tl, chV_ll, chV_lt, nameδ_eq, lstL, tx1_m1, tx1_0, tx2_m2, tx2_m1, tx2_0, tx2_1, tx3_m2, tx3_m1, tx3_0, tx3_1, tx3_2, tx4_m2, tx4_m1, tx4_0, tx4_1, tx4_2, tx4_3, tx5_m2, tx5_m1, tx5_0, tx5_1, tx5_2, tx5_3, tx5_4, tx6_m2, tx6_m1, tx6_0, tx6_1, tx6_2, tx6_3, tx6_4, tx6_5, lx1_m1, lx1_0, lx2_m2, lx2_m1, lx2_0, lx2_1, lx3_m2, lx3_m1, lx3_0, lx3_1, lx3_2, lx4_m2, lx4_m1, lx4_0, lx4_1, lx4_2, lx4_3, lx5_m2, lx5_m1, lx5_0, lx5_1, lx5_2, lx5_3, lx5_4, lx6_m2, lx6_m1, lx6_0, lx6_1, lx6_2, lx6_3, lx6_4, lx6_5, isiT, isiI, isiB, isiL, is_tt, is_ii, is_ib, is_ti, seqT, seqL, tupL, truL, truT, isN_N, lcP0, sz0, ap0, lcP1, sz1, ap1, lcP2, sz2, ap2, lcP3, sz3, ap3, lcP4, sz4, ap4, lcP5, sz5, ap5, lcP6, sz6, ap6, lcP7, sz7, ap7, lcP8, sz8, ap8, lT0, lL0, lT1, lL1, al1, lT2, lL2, al2, lT3, lL3, al3, lT4, lL4, al4, lT5, lL5, al5, lT6, lL6, al6, rg0, rg1, rg2, rg3, rg4, rh0_0, rh0_1, rh0_2, rh0_3, rh0_4, rh1_1, rh1_2, rh1_3, rh1_4, rh2_2, rh2_3, rh2_4, rh3_3, rh3_4, rdm1, rd0, rd1, rd2, rd3, ob, addI, subI, negI, ltI, leI, gtI, geI, eqI, neI, truB, truN, int1, nameδ_eq, Option.bind_some, if_true, decide_true, decide_false, Bool.not_true, Bool.not_false, Bool.and_true, Bool.true_and, Bool.and_false, Bool.false_and, Bool.or_false, Bool.false_or, Bool.or_true, Bool.true_or, Bool.false_eq_true, if_false, cmpM_nil, cmpM_cons, forD_nil, forD_cons, Int.reduceSub, Int.reduceAdd, Int.reduceLE, Int.reduceLT, Int.reduceNeg, Int.reduceMul, Int.reduceEq, Nat.reduceAdd, Nat.reduceLeDiff, Bool.and_self, Bool.or_self, List.isEmpty_nil, List.isEmpty_cons, en0t, zp0tt, zp0tl, en0l, zp0lt, zp0ll, en1t, zp1tt, zp1tl, en1l, zp1lt, zp1ll, en2t, zp2tt, zp2tl, en2l, zp2lt, zp2ll, en3t, zp3tt, zp3tl, en3l, zp3lt, zp3ll, en4t, zp4tt, zp4tl, en4l, zp4lt, zp4ll, tupδ_t, consδ_c, nilδ_n, if_so, oadd_if, oadd_s, oadd_n, emp_if, Bool.not_not, acc_1, acc_2, acc_3, acc_4, max2m, min2m, sl1_0, sl2_0, sl2_1, sl3_0, sl3_1, sl3_2, sl4_0, sl4_1, sl4_2, sl4_3, sl5_0, sl5_1, sl5_2, sl5_3, sl5_4, sl6_0, sl6_1, sl6_2, sl6_3, sl6_4, sl6_5, tru0, tru1, tru2, tru3, tru4, tru5, bnd_ite, ite_same]) (s0 := .list [.tuple []]) rfl
  rw [Int.toNat_natCast] at hs
  subst hs
  have hl : (sets n).length ≤ 64 := by
    rw [sets_len]
    exact Nat.pow_le_pow_right (n := 2) (by decide) (show n ≤ 6 by omega)
  obtain ⟨ls, hp, e3⟩ := sortE_lps (l := sets n) (by omega)
  have e1 : rng1 [.int (n : Int)] = some (tab n .int) := by
    rw [rgT (by omega), Int.toNat_natCast]
  have e2 : lcP nameδ m__law_sets_c2 ((sets n).map tupI) = some ((sets n).map lpI) := lcMa _ (by omega) fun T hT => by
    show bnd (R := Option (Option D)) (nameδ (tupI T)) _ = _
    simp only [m__law_sets_c2, lenI, andW_p, orW_p, andW_u, orW_u, andV_u, orV_u, andV_p, orV_p, ifV_p, if_bool, if_bool, chT_ll, chT_lt, chT_tl, chV_ll, chV_lt, nameδ_eq, lstL, tx1_m1, tx1_0, tx2_m2, tx2_m1, tx2_0, tx2_1, tx3_m2, tx3_m1, tx3_0, tx3_1, tx3_2, tx4_m2, tx4_m1, tx4_0, tx4_1, tx4_2, tx4_3, tx5_m2, tx5_m1, tx5_0, tx5_1, tx5_2, tx5_3, tx5_4, tx6_m2, tx6_m1, tx6_0, tx6_1, tx6_2, tx6_3, tx6_4, tx6_5, lx1_m1, lx1_0, lx2_m2, lx2_m1, lx2_0, lx2_1, lx3_m2, lx3_m1, lx3_0, lx3_1, lx3_2, lx4_m2, lx4_m1, lx4_0, lx4_1, lx4_2, lx4_3, lx5_m2, lx5_m1, lx5_0, lx5_1, lx5_2, lx5_3, lx5_4, lx6_m2, lx6_m1, lx6_0, lx6_1, lx6_2, lx6_3, lx6_4, lx6_5, isiT, isiI, isiB, isiL, is_tt, is_ii, is_ib, is_ti, seqT, seqL, tupL, truL, truT, isN_N, lcP0, sz0, ap0, lcP1, sz1, ap1, lcP2, sz2, ap2, lcP3, sz3, ap3, lcP4, sz4, ap4, lcP5, sz5, ap5, lcP6, sz6, ap6, lcP7, sz7, ap7, lcP8, sz8, ap8, lT0, lL0, lT1, lL1, al1, lT2, lL2, al2, lT3, lL3, al3, lT4, lL4, al4, lT5, lL5, al5, lT6, lL6, al6, rg0, rg1, rg2, rg3, rg4, rh0_0, rh0_1, rh0_2, rh0_3, rh0_4, rh1_1, rh1_2, rh1_3, rh1_4, rh2_2, rh2_3, rh2_4, rh3_3, rh3_4, rdm1, rd0, rd1, rd2, rd3, ob, addI, subI, negI, ltI, leI, gtI, geI, eqI, neI, truB, truN, int1, nameδ_eq, Option.bind_some, if_true, decide_true, decide_false, Bool.not_true, Bool.not_false, Bool.and_true, Bool.true_and, Bool.and_false, Bool.false_and, Bool.or_false, Bool.false_or, Bool.or_true, Bool.true_or, Bool.false_eq_true, if_false, cmpM_nil, cmpM_cons, forD_nil, forD_cons, Int.reduceSub, Int.reduceAdd, Int.reduceLE, Int.reduceLT, Int.reduceNeg, Int.reduceMul, Int.reduceEq, Nat.reduceAdd, Nat.reduceLeDiff, Bool.and_self, Bool.or_self, List.isEmpty_nil, List.isEmpty_cons, en0t, zp0tt, zp0tl, en0l, zp0lt, zp0ll, en1t, zp1tt, zp1tl, en1l, zp1lt, zp1ll, en2t, zp2tt, zp2tl, en2l, zp2lt, zp2ll, en3t, zp3tt, zp3tl, en3l, zp3lt, zp3ll, en4t, zp4tt, zp4tl, en4l, zp4lt, zp4ll, tupδ_t, consδ_c, nilδ_n, if_so, oadd_if, oadd_s, oadd_n, emp_if, Bool.not_not, acc_1, acc_2, acc_3, acc_4, max2m, min2m, sl1_0, sl2_0, sl2_1, sl3_0, sl3_1, sl3_2, sl4_0, sl4_1, sl4_2, sl4_3, sl5_0, sl5_1, sl5_2, sl5_3, sl5_4, sl6_0, sl6_1, sl6_2, sl6_3, sl6_4, sl6_5, tru0, tru1, tru2, tru3, tru4, tru5, bnd_ite, ite_same]
    rfl
  have e4 : lcP (tupδ (consδ nameδ (consδ nameδ nilδ))) m__law_sets_c3 (ls.map lpI) = some (ls.map tupI) := lcMa _ (by rw [hp.length_eq]; omega) fun T hT => by
    show bnd (R := Option (Option D)) (tupδ (consδ nameδ (consδ nameδ nilδ)) (.tuple [.int T.length, tupI T])) _ = _
    simp only [m__law_sets_c3, andW_p, orW_p, andW_u, orW_u, andV_u, orV_u, andV_p, orV_p, ifV_p, if_bool, if_bool, chT_ll, chT_lt, chT_tl, chV_ll, chV_lt, nameδ_eq, lstL, tx1_m1, tx1_0, tx2_m2, tx2_m1, tx2_0, tx2_1, tx3_m2, tx3_m1, tx3_0, tx3_1, tx3_2, tx4_m2, tx4_m1, tx4_0, tx4_1, tx4_2, tx4_3, tx5_m2, tx5_m1, tx5_0, tx5_1, tx5_2, tx5_3, tx5_4, tx6_m2, tx6_m1, tx6_0, tx6_1, tx6_2, tx6_3, tx6_4, tx6_5, lx1_m1, lx1_0, lx2_m2, lx2_m1, lx2_0, lx2_1, lx3_m2, lx3_m1, lx3_0, lx3_1, lx3_2, lx4_m2, lx4_m1, lx4_0, lx4_1, lx4_2, lx4_3, lx5_m2, lx5_m1, lx5_0, lx5_1, lx5_2, lx5_3, lx5_4, lx6_m2, lx6_m1, lx6_0, lx6_1, lx6_2, lx6_3, lx6_4, lx6_5, isiT, isiI, isiB, isiL, is_tt, is_ii, is_ib, is_ti, seqT, seqL, tupL, truL, truT, isN_N, lcP0, sz0, ap0, lcP1, sz1, ap1, lcP2, sz2, ap2, lcP3, sz3, ap3, lcP4, sz4, ap4, lcP5, sz5, ap5, lcP6, sz6, ap6, lcP7, sz7, ap7, lcP8, sz8, ap8, lT0, lL0, lT1, lL1, al1, lT2, lL2, al2, lT3, lL3, al3, lT4, lL4, al4, lT5, lL5, al5, lT6, lL6, al6, rg0, rg1, rg2, rg3, rg4, rh0_0, rh0_1, rh0_2, rh0_3, rh0_4, rh1_1, rh1_2, rh1_3, rh1_4, rh2_2, rh2_3, rh2_4, rh3_3, rh3_4, rdm1, rd0, rd1, rd2, rd3, ob, addI, subI, negI, ltI, leI, gtI, geI, eqI, neI, truB, truN, int1, nameδ_eq, Option.bind_some, if_true, decide_true, decide_false, Bool.not_true, Bool.not_false, Bool.and_true, Bool.true_and, Bool.and_false, Bool.false_and, Bool.or_false, Bool.false_or, Bool.or_true, Bool.true_or, Bool.false_eq_true, if_false, cmpM_nil, cmpM_cons, forD_nil, forD_cons, Int.reduceSub, Int.reduceAdd, Int.reduceLE, Int.reduceLT, Int.reduceNeg, Int.reduceMul, Int.reduceEq, Nat.reduceAdd, Nat.reduceLeDiff, Bool.and_self, Bool.or_self, List.isEmpty_nil, List.isEmpty_cons, en0t, zp0tt, zp0tl, en0l, zp0lt, zp0ll, en1t, zp1tt, zp1tl, en1l, zp1lt, zp1ll, en2t, zp2tt, zp2tl, en2l, zp2lt, zp2ll, en3t, zp3tt, zp3tl, en3l, zp3lt, zp3ll, en4t, zp4tt, zp4tl, en4l, zp4lt, zp4ll, tupδ_t, consδ_c, nilδ_n, if_so, oadd_if, oadd_s, oadd_n, emp_if, Bool.not_not, acc_1, acc_2, acc_3, acc_4, max2m, min2m, sl1_0, sl2_0, sl2_1, sl3_0, sl3_1, sl3_2, sl4_0, sl4_1, sl4_2, sl4_3, sl5_0, sl5_1, sl5_2, sl5_3, sl5_4, sl6_0, sl6_1, sl6_2, sl6_3, sl6_4, sl6_5, tru0, tru1, tru2, tru3, tru4, tru5, bnd_ite, ite_same]
  refine ⟨ls, hp, ?_⟩
  simp only [m__law_sets, e1, e, e2, e3, e4, andW_p, orW_p, andW_u, orW_u, andV_u, orV_u, andV_p, orV_p, ifV_p, if_bool, if_bool, chT_ll, chT_lt, chT_tl, chV_ll, chV_lt, nameδ_eq, lstL, tx1_m1, tx1_0, tx2_m2, tx2_m1, tx2_0, tx2_1, tx3_m2, tx3_m1, tx3_0, tx3_1, tx3_2, tx4_m2, tx4_m1, tx4_0, tx4_1, tx4_2, tx4_3, tx5_m2, tx5_m1, tx5_0, tx5_1, tx5_2, tx5_3, tx5_4, tx6_m2, tx6_m1, tx6_0, tx6_1, tx6_2, tx6_3, tx6_4, tx6_5, lx1_m1, lx1_0, lx2_m2, lx2_m1, lx2_0, lx2_1, lx3_m2, lx3_m1, lx3_0, lx3_1, lx3_2, lx4_m2, lx4_m1, lx4_0, lx4_1, lx4_2, lx4_3, lx5_m2, lx5_m1, lx5_0, lx5_1, lx5_2, lx5_3, lx5_4, lx6_m2, lx6_m1, lx6_0, lx6_1, lx6_2, lx6_3, lx6_4, lx6_5, isiT, isiI, isiB, isiL, is_tt, is_ii, is_ib, is_ti, seqT, seqL, tupL, truL, truT, isN_N, lcP0, sz0, ap0, lcP1, sz1, ap1, lcP2, sz2, ap2, lcP3, sz3, ap3, lcP4, sz4, ap4, lcP5, sz5, ap5, lcP6, sz6, ap6, lcP7, sz7, ap7, lcP8, sz8, ap8, lT0, lL0, lT1, lL1, al1, lT2, lL2, al2, lT3, lL3, al3, lT4, lL4, al4, lT5, lL5, al5, lT6, lL6, al6, rg0, rg1, rg2, rg3, rg4, rh0_0, rh0_1, rh0_2, rh0_3, rh0_4, rh1_1, rh1_2, rh1_3, rh1_4, rh2_2, rh2_3, rh2_4, rh3_3, rh3_4, rdm1, rd0, rd1, rd2, rd3, ob, addI, subI, negI, ltI, leI, gtI, geI, eqI, neI, truB, truN, int1, nameδ_eq, Option.bind_some, if_true, decide_true, decide_false, Bool.not_true, Bool.not_false, Bool.and_true, Bool.true_and, Bool.and_false, Bool.false_and, Bool.or_false, Bool.false_or, Bool.or_true, Bool.true_or, Bool.false_eq_true, if_false, cmpM_nil, cmpM_cons, forD_nil, forD_cons, Int.reduceSub, Int.reduceAdd, Int.reduceLE, Int.reduceLT, Int.reduceNeg, Int.reduceMul, Int.reduceEq, Nat.reduceAdd, Nat.reduceLeDiff, Bool.and_self, Bool.or_self, List.isEmpty_nil, List.isEmpty_cons, en0t, zp0tt, zp0tl, en0l, zp0lt, zp0ll, en1t, zp1tt, zp1tl, en1l, zp1lt, zp1ll, en2t, zp2tt, zp2tl, en2l, zp2lt, zp2ll, en3t, zp3tt, zp3tl, en3l, zp3lt, zp3ll, en4t, zp4tt, zp4tl, en4l, zp4lt, zp4ll, tupδ_t, consδ_c, nilδ_n, if_so, oadd_if, oadd_s, oadd_n, emp_if, Bool.not_not, acc_1, acc_2, acc_3, acc_4, max2m, min2m, sl1_0, sl2_0, sl2_1, sl3_0, sl3_1, sl3_2, sl4_0, sl4_1, sl4_2, sl4_3, sl5_0, sl5_1, sl5_2, sl5_3, sl5_4, sl6_0, sl6_1, sl6_2, sl6_3, sl6_4, sl6_5, tru0, tru1, tru2, tru3, tru4, tru5, bnd_ite, ite_same]
theorem kept_ok {n : Nat} (hn : n ≤ 6) (T : List Int) : m__law_kept (.int n) (tupI T) = some (tupI (kp n T)) := by
  have e1 : rng1 [.int (n : Int)] = some (tab n .int) := by
    rw [rgT (by omega), Int.toNat_natCast]
  have e2 : lcP nameδ (m__law_kept_c1 (tupI T)) (tab n .int) = some ((kp n T).map .int) := by
    rw [← kp_D]
    refine lcF _ _ (by omega) fun i h0 h1 => ?_
    show bnd (R := Option (Option D)) (nameδ (PyData.int i)) _ = _
    simp only [m__law_kept_c1, ninT_ints, andW_p, orW_p, andW_u, orW_u, andV_u, orV_u, andV_p, orV_p, ifV_p, if_bool, if_bool, chT_ll, chT_lt, chT_tl, chV_ll, chV_lt, nameδ_eq, lstL, tx1_m1, tx1_0, tx2_m2, tx2_m1, tx2_0, tx2_1, tx3_m2, tx3_m1, tx3_0, tx3_1, tx3_2, tx4_m2, tx4_m1, tx4_0, tx4_1, tx4_2, tx4_3, tx5_m2, tx5_m1, tx5_0, tx5_1, tx5_2, tx5_3, tx5_4, tx6_m2, tx6_m1, tx6_0, tx6_1, tx6_2, tx6_3, tx6_4, tx6_5, lx1_m1, lx1_0, lx2_m2, lx2_m1, lx2_0, lx2_1, lx3_m2, lx3_m1, lx3_0, lx3_1, lx3_2, lx4_m2, lx4_m1, lx4_0, lx4_1, lx4_2, lx4_3, lx5_m2, lx5_m1, lx5_0, lx5_1, lx5_2, lx5_3, lx5_4, lx6_m2, lx6_m1, lx6_0, lx6_1, lx6_2, lx6_3, lx6_4, lx6_5, isiT, isiI, isiB, isiL, is_tt, is_ii, is_ib, is_ti, seqT, seqL, tupL, truL, truT, isN_N, lcP0, sz0, ap0, lcP1, sz1, ap1, lcP2, sz2, ap2, lcP3, sz3, ap3, lcP4, sz4, ap4, lcP5, sz5, ap5, lcP6, sz6, ap6, lcP7, sz7, ap7, lcP8, sz8, ap8, lT0, lL0, lT1, lL1, al1, lT2, lL2, al2, lT3, lL3, al3, lT4, lL4, al4, lT5, lL5, al5, lT6, lL6, al6, rg0, rg1, rg2, rg3, rg4, rh0_0, rh0_1, rh0_2, rh0_3, rh0_4, rh1_1, rh1_2, rh1_3, rh1_4, rh2_2, rh2_3, rh2_4, rh3_3, rh3_4, rdm1, rd0, rd1, rd2, rd3, ob, addI, subI, negI, ltI, leI, gtI, geI, eqI, neI, truB, truN, int1, nameδ_eq, Option.bind_some, if_true, decide_true, decide_false, Bool.not_true, Bool.not_false, Bool.and_true, Bool.true_and, Bool.and_false, Bool.false_and, Bool.or_false, Bool.false_or, Bool.or_true, Bool.true_or, Bool.false_eq_true, if_false, cmpM_nil, cmpM_cons, forD_nil, forD_cons, Int.reduceSub, Int.reduceAdd, Int.reduceLE, Int.reduceLT, Int.reduceNeg, Int.reduceMul, Int.reduceEq, Nat.reduceAdd, Nat.reduceLeDiff, Bool.and_self, Bool.or_self, List.isEmpty_nil, List.isEmpty_cons, en0t, zp0tt, zp0tl, en0l, zp0lt, zp0ll, en1t, zp1tt, zp1tl, en1l, zp1lt, zp1ll, en2t, zp2tt, zp2tl, en2l, zp2lt, zp2ll, en3t, zp3tt, zp3tl, en3l, zp3lt, zp3ll, en4t, zp4tt, zp4tl, en4l, zp4lt, zp4ll, tupδ_t, consδ_c, nilδ_n, if_so, oadd_if, oadd_s, oadd_n, emp_if, Bool.not_not, acc_1, acc_2, acc_3, acc_4, max2m, min2m, sl1_0, sl2_0, sl2_1, sl3_0, sl3_1, sl3_2, sl4_0, sl4_1, sl4_2, sl4_3, sl5_0, sl5_1, sl5_2, sl5_3, sl5_4, sl6_0, sl6_1, sl6_2, sl6_3, sl6_4, sl6_5, tru0, tru1, tru2, tru3, tru4, tru5, bnd_ite, ite_same]
  simp only [m__law_kept, e1, e2, andW_p, orW_p, andW_u, orW_u, andV_u, orV_u, andV_p, orV_p, ifV_p, if_bool, if_bool, chT_ll, chT_lt, chT_tl, chV_ll, chV_lt, nameδ_eq, lstL, tx1_m1, tx1_0, tx2_m2, tx2_m1, tx2_0, tx2_1, tx3_m2, tx3_m1, tx3_0, tx3_1, tx3_2, tx4_m2, tx4_m1, tx4_0, tx4_1, tx4_2, tx4_3, tx5_m2, tx5_m1, tx5_0, tx5_1, tx5_2, tx5_3, tx5_4, tx6_m2, tx6_m1, tx6_0, tx6_1, tx6_2, tx6_3, tx6_4, tx6_5, lx1_m1, lx1_0, lx2_m2, lx2_m1, lx2_0, lx2_1, lx3_m2, lx3_m1, lx3_0, lx3_1, lx3_2, lx4_m2, lx4_m1, lx4_0, lx4_1, lx4_2, lx4_3, lx5_m2, lx5_m1, lx5_0, lx5_1, lx5_2, lx5_3, lx5_4, lx6_m2, lx6_m1, lx6_0, lx6_1, lx6_2, lx6_3, lx6_4, lx6_5, isiT, isiI, isiB, isiL, is_tt, is_ii, is_ib, is_ti, seqT, seqL, tupL, truL, truT, isN_N, lcP0, sz0, ap0, lcP1, sz1, ap1, lcP2, sz2, ap2, lcP3, sz3, ap3, lcP4, sz4, ap4, lcP5, sz5, ap5, lcP6, sz6, ap6, lcP7, sz7, ap7, lcP8, sz8, ap8, lT0, lL0, lT1, lL1, al1, lT2, lL2, al2, lT3, lL3, al3, lT4, lL4, al4, lT5, lL5, al5, lT6, lL6, al6, rg0, rg1, rg2, rg3, rg4, rh0_0, rh0_1, rh0_2, rh0_3, rh0_4, rh1_1, rh1_2, rh1_3, rh1_4, rh2_2, rh2_3, rh2_4, rh3_3, rh3_4, rdm1, rd0, rd1, rd2, rd3, ob, addI, subI, negI, ltI, leI, gtI, geI, eqI, neI, truB, truN, int1, nameδ_eq, Option.bind_some, if_true, decide_true, decide_false, Bool.not_true, Bool.not_false, Bool.and_true, Bool.true_and, Bool.and_false, Bool.false_and, Bool.or_false, Bool.false_or, Bool.or_true, Bool.true_or, Bool.false_eq_true, if_false, cmpM_nil, cmpM_cons, forD_nil, forD_cons, Int.reduceSub, Int.reduceAdd, Int.reduceLE, Int.reduceLT, Int.reduceNeg, Int.reduceMul, Int.reduceEq, Nat.reduceAdd, Nat.reduceLeDiff, Bool.and_self, Bool.or_self, List.isEmpty_nil, List.isEmpty_cons, en0t, zp0tt, zp0tl, en0l, zp0lt, zp0ll, en1t, zp1tt, zp1tl, en1l, zp1lt, zp1ll, en2t, zp2tt, zp2tl, en2l, zp2lt, zp2ll, en3t, zp3tt, zp3tl, en3l, zp3lt, zp3ll, en4t, zp4tt, zp4tl, en4l, zp4lt, zp4ll, tupδ_t, consδ_c, nilδ_n, if_so, oadd_if, oadd_s, oadd_n, emp_if, Bool.not_not, acc_1, acc_2, acc_3, acc_4, max2m, min2m, sl1_0, sl2_0, sl2_1, sl3_0, sl3_1, sl3_2, sl4_0, sl4_1, sl4_2, sl4_3, sl5_0, sl5_1, sl5_2, sl5_3, sl5_4, sl6_0, sl6_1, sl6_2, sl6_3, sl6_4, sl6_5, tru0, tru1, tru2, tru3, tru4, tru5, bnd_ite, ite_same]
  rfl
theorem taken3 {g : List Ar → Option (Option D)} {x0 x1 x2 : D} {b : Bool} (h : g [.d x0, .d x1, .d x2] = acc b) : takenM 3 g (.list [x0, x1, x2]) = some (.bool b) := by
  rw [takenM3, h, taken_acc]
theorem taken5 {g : List Ar → Option (Option D)} {x0 x1 x2 x3 x4 : D} {b : Bool} (h : g [.d x0, .d x1, .d x2, .d x3, .d x4] = acc b) : takenM 5 g (.list [x0, x1, x2, x3, x4]) = some (.bool b) := by
  rw [takenM5, h, taken_acc]
section
variable {n : Nat} {W H : Int → Int} {c : Int}
/-- what a price leaves to each lamp -/
def prf (W H : Int → Int) (u d x : Int) : Int := max 0 (W x * d - H x * u)
theorem acc_price (g : La n W H) (h : 0 ≤ c ∧ c ≤ 101) {u d m : Int} (hu : 0 ≤ u ∧ u ≤ 3) (hd : 1 ≤ d ∧ d ≤ 3) : m_accept_price (lms n W H) (.int c) (.int u) (.int d) (.int m) = acc (!decide ((m + 1) * d ≤ c * u + sm (prf W H u d) (al 0 n))) := by
  have n6 := g.n6
  have e1 : lcP nameδ m_accept_price_c1 [.int u, .int d, .int m] = some [.bool true, .bool true, .bool true] := by
    simp only [m_accept_price_c1, e_int, andW_p, orW_p, andW_u, orW_u, andV_u, orV_u, andV_p, orV_p, ifV_p, if_bool, if_bool, chT_ll, chT_lt, chT_tl, chV_ll, chV_lt, nameδ_eq, lstL, tx1_m1, tx1_0, tx2_m2, tx2_m1, tx2_0, tx2_1, tx3_m2, tx3_m1, tx3_0, tx3_1, tx3_2, tx4_m2, tx4_m1, tx4_0, tx4_1, tx4_2, tx4_3, tx5_m2, tx5_m1, tx5_0, tx5_1, tx5_2, tx5_3, tx5_4, tx6_m2, tx6_m1, tx6_0, tx6_1, tx6_2, tx6_3, tx6_4, tx6_5, lx1_m1, lx1_0, lx2_m2, lx2_m1, lx2_0, lx2_1, lx3_m2, lx3_m1, lx3_0, lx3_1, lx3_2, lx4_m2, lx4_m1, lx4_0, lx4_1, lx4_2, lx4_3, lx5_m2, lx5_m1, lx5_0, lx5_1, lx5_2, lx5_3, lx5_4, lx6_m2, lx6_m1, lx6_0, lx6_1, lx6_2, lx6_3, lx6_4, lx6_5, isiT, isiI, isiB, isiL, is_tt, is_ii, is_ib, is_ti, seqT, seqL, tupL, truL, truT, isN_N, lcP0, sz0, ap0, lcP1, sz1, ap1, lcP2, sz2, ap2, lcP3, sz3, ap3, lcP4, sz4, ap4, lcP5, sz5, ap5, lcP6, sz6, ap6, lcP7, sz7, ap7, lcP8, sz8, ap8, lT0, lL0, lT1, lL1, al1, lT2, lL2, al2, lT3, lL3, al3, lT4, lL4, al4, lT5, lL5, al5, lT6, lL6, al6, rg0, rg1, rg2, rg3, rg4, rh0_0, rh0_1, rh0_2, rh0_3, rh0_4, rh1_1, rh1_2, rh1_3, rh1_4, rh2_2, rh2_3, rh2_4, rh3_3, rh3_4, rdm1, rd0, rd1, rd2, rd3, ob, addI, subI, negI, ltI, leI, gtI, geI, eqI, neI, truB, truN, int1, nameδ_eq, Option.bind_some, if_true, decide_true, decide_false, Bool.not_true, Bool.not_false, Bool.and_true, Bool.true_and, Bool.and_false, Bool.false_and, Bool.or_false, Bool.false_or, Bool.or_true, Bool.true_or, Bool.false_eq_true, if_false, cmpM_nil, cmpM_cons, forD_nil, forD_cons, Int.reduceSub, Int.reduceAdd, Int.reduceLE, Int.reduceLT, Int.reduceNeg, Int.reduceMul, Int.reduceEq, Nat.reduceAdd, Nat.reduceLeDiff, Bool.and_self, Bool.or_self, List.isEmpty_nil, List.isEmpty_cons, en0t, zp0tt, zp0tl, en0l, zp0lt, zp0ll, en1t, zp1tt, zp1tl, en1l, zp1lt, zp1ll, en2t, zp2tt, zp2tl, en2l, zp2lt, zp2ll, en3t, zp3tt, zp3tl, en3l, zp3lt, zp3ll, en4t, zp4tt, zp4tl, en4l, zp4lt, zp4ll, tupδ_t, consδ_c, nilδ_n, if_so, oadd_if, oadd_s, oadd_n, emp_if, Bool.not_not, acc_1, acc_2, acc_3, acc_4, max2m, min2m, sl1_0, sl2_0, sl2_1, sl3_0, sl3_1, sl3_2, sl4_0, sl4_1, sl4_2, sl4_3, sl5_0, sl5_1, sl5_2, sl5_3, sl5_4, sl6_0, sl6_1, sl6_2, sl6_3, sl6_4, sl6_5, tru0, tru1, tru2, tru3, tru4, tru5, bnd_ite, ite_same]
  have e2 : lcP (tupδ (consδ nameδ (consδ nameδ nilδ))) (m_accept_price_c2 (.int u) (.int d)) (tab n (lm W H)) = some (tab n fun i => .int (prf W H u d i)) := lcT _ (by omega) fun i h0 h1 => by
    have x1 : mulD (.int (W i)) (.int d) = some (.int (W i * d)) := mulS (.inr (by omega))
    have x2 : mulD (.int (H i)) (.int u) = some (.int (H i * u)) := mulS (.inr (by omega))
    show bnd (R := Option (Option D)) (tupδ (consδ nameδ (consδ nameδ nilδ)) (.tuple [.int (W i), .int (H i)])) _ = _
    simp only [m_accept_price_c2, x1, x2, prf, ← mx_max, andW_p, orW_p, andW_u, orW_u, andV_u, orV_u, andV_p, orV_p, ifV_p, if_bool, if_bool, chT_ll, chT_lt, chT_tl, chV_ll, chV_lt, nameδ_eq, lstL, tx1_m1, tx1_0, tx2_m2, tx2_m1, tx2_0, tx2_1, tx3_m2, tx3_m1, tx3_0, tx3_1, tx3_2, tx4_m2, tx4_m1, tx4_0, tx4_1, tx4_2, tx4_3, tx5_m2, tx5_m1, tx5_0, tx5_1, tx5_2, tx5_3, tx5_4, tx6_m2, tx6_m1, tx6_0, tx6_1, tx6_2, tx6_3, tx6_4, tx6_5, lx1_m1, lx1_0, lx2_m2, lx2_m1, lx2_0, lx2_1, lx3_m2, lx3_m1, lx3_0, lx3_1, lx3_2, lx4_m2, lx4_m1, lx4_0, lx4_1, lx4_2, lx4_3, lx5_m2, lx5_m1, lx5_0, lx5_1, lx5_2, lx5_3, lx5_4, lx6_m2, lx6_m1, lx6_0, lx6_1, lx6_2, lx6_3, lx6_4, lx6_5, isiT, isiI, isiB, isiL, is_tt, is_ii, is_ib, is_ti, seqT, seqL, tupL, truL, truT, isN_N, lcP0, sz0, ap0, lcP1, sz1, ap1, lcP2, sz2, ap2, lcP3, sz3, ap3, lcP4, sz4, ap4, lcP5, sz5, ap5, lcP6, sz6, ap6, lcP7, sz7, ap7, lcP8, sz8, ap8, lT0, lL0, lT1, lL1, al1, lT2, lL2, al2, lT3, lL3, al3, lT4, lL4, al4, lT5, lL5, al5, lT6, lL6, al6, rg0, rg1, rg2, rg3, rg4, rh0_0, rh0_1, rh0_2, rh0_3, rh0_4, rh1_1, rh1_2, rh1_3, rh1_4, rh2_2, rh2_3, rh2_4, rh3_3, rh3_4, rdm1, rd0, rd1, rd2, rd3, ob, addI, subI, negI, ltI, leI, gtI, geI, eqI, neI, truB, truN, int1, nameδ_eq, Option.bind_some, if_true, decide_true, decide_false, Bool.not_true, Bool.not_false, Bool.and_true, Bool.true_and, Bool.and_false, Bool.false_and, Bool.or_false, Bool.false_or, Bool.or_true, Bool.true_or, Bool.false_eq_true, if_false, cmpM_nil, cmpM_cons, forD_nil, forD_cons, Int.reduceSub, Int.reduceAdd, Int.reduceLE, Int.reduceLT, Int.reduceNeg, Int.reduceMul, Int.reduceEq, Nat.reduceAdd, Nat.reduceLeDiff, Bool.and_self, Bool.or_self, List.isEmpty_nil, List.isEmpty_cons, en0t, zp0tt, zp0tl, en0l, zp0lt, zp0ll, en1t, zp1tt, zp1tl, en1l, zp1lt, zp1ll, en2t, zp2tt, zp2tl, en2l, zp2lt, zp2ll, en3t, zp3tt, zp3tl, en3l, zp3lt, zp3ll, en4t, zp4tt, zp4tl, en4l, zp4lt, zp4ll, tupδ_t, consδ_c, nilδ_n, if_so, oadd_if, oadd_s, oadd_n, emp_if, Bool.not_not, acc_1, acc_2, acc_3, acc_4, max2m, min2m, sl1_0, sl2_0, sl2_1, sl3_0, sl3_1, sl3_2, sl4_0, sl4_1, sl4_2, sl4_3, sl5_0, sl5_1, sl5_2, sl5_3, sl5_4, sl6_0, sl6_1, sl6_2, sl6_3, sl6_4, sl6_5, tru0, tru1, tru2, tru3, tru4, tru5, bnd_ite, ite_same]
  have e3 : mulD (.int c) (.int u) = some (.int (c * u)) := mulS (.inr (by omega))
  have e4 : mulD (.int (m + 1)) (.int d) = some (.int ((m + 1) * d)) := mulS (.inr (by omega))
  have e5 : seqD (lms n W H) = some (tab n (lm W H)) := rfl
  have b1 : ¬ u < 0 := by omega
  have b2 : ¬ d < 1 := by omega
  have al3 : allD [.list [.bool true, .bool true, .bool true]] = some (.bool true) := rfl
  have sq : seqD (.tuple [.int u, .int d, .int m]) = some [.int u, .int d, .int m] := rfl
  simp only [m_accept_price, ck_lamps g, ck_oil h, sq, e1, e2, e3, e4, e5, al3, b1, b2, sumTab, andW_p, orW_p, andW_u, orW_u, andV_u, orV_u, andV_p, orV_p, ifV_p, if_bool, if_bool, chT_ll, chT_lt, chT_tl, chV_ll, chV_lt, nameδ_eq, lstL, tx1_m1, tx1_0, tx2_m2, tx2_m1, tx2_0, tx2_1, tx3_m2, tx3_m1, tx3_0, tx3_1, tx3_2, tx4_m2, tx4_m1, tx4_0, tx4_1, tx4_2, tx4_3, tx5_m2, tx5_m1, tx5_0, tx5_1, tx5_2, tx5_3, tx5_4, tx6_m2, tx6_m1, tx6_0, tx6_1, tx6_2, tx6_3, tx6_4, tx6_5, lx1_m1, lx1_0, lx2_m2, lx2_m1, lx2_0, lx2_1, lx3_m2, lx3_m1, lx3_0, lx3_1, lx3_2, lx4_m2, lx4_m1, lx4_0, lx4_1, lx4_2, lx4_3, lx5_m2, lx5_m1, lx5_0, lx5_1, lx5_2, lx5_3, lx5_4, lx6_m2, lx6_m1, lx6_0, lx6_1, lx6_2, lx6_3, lx6_4, lx6_5, isiT, isiI, isiB, isiL, is_tt, is_ii, is_ib, is_ti, seqT, seqL, tupL, truL, truT, isN_N, lcP0, sz0, ap0, lcP1, sz1, ap1, lcP2, sz2, ap2, lcP3, sz3, ap3, lcP4, sz4, ap4, lcP5, sz5, ap5, lcP6, sz6, ap6, lcP7, sz7, ap7, lcP8, sz8, ap8, lT0, lL0, lT1, lL1, al1, lT2, lL2, al2, lT3, lL3, al3, lT4, lL4, al4, lT5, lL5, al5, lT6, lL6, al6, rg0, rg1, rg2, rg3, rg4, rh0_0, rh0_1, rh0_2, rh0_3, rh0_4, rh1_1, rh1_2, rh1_3, rh1_4, rh2_2, rh2_3, rh2_4, rh3_3, rh3_4, rdm1, rd0, rd1, rd2, rd3, ob, addI, subI, negI, ltI, leI, gtI, geI, eqI, neI, truB, truN, int1, nameδ_eq, Option.bind_some, if_true, decide_true, decide_false, Bool.not_true, Bool.not_false, Bool.and_true, Bool.true_and, Bool.and_false, Bool.false_and, Bool.or_false, Bool.false_or, Bool.or_true, Bool.true_or, Bool.false_eq_true, if_false, cmpM_nil, cmpM_cons, forD_nil, forD_cons, Int.reduceSub, Int.reduceAdd, Int.reduceLE, Int.reduceLT, Int.reduceNeg, Int.reduceMul, Int.reduceEq, Nat.reduceAdd, Nat.reduceLeDiff, Bool.and_self, Bool.or_self, List.isEmpty_nil, List.isEmpty_cons, en0t, zp0tt, zp0tl, en0l, zp0lt, zp0ll, en1t, zp1tt, zp1tl, en1l, zp1lt, zp1ll, en2t, zp2tt, zp2tl, en2l, zp2lt, zp2ll, en3t, zp3tt, zp3tl, en3l, zp3lt, zp3ll, en4t, zp4tt, zp4tl, en4l, zp4lt, zp4ll, tupδ_t, consδ_c, nilδ_n, if_so, oadd_if, oadd_s, oadd_n, emp_if, Bool.not_not, acc_1, acc_2, acc_3, acc_4, max2m, min2m, sl1_0, sl2_0, sl2_1, sl3_0, sl3_1, sl3_2, sl4_0, sl4_1, sl4_2, sl4_3, sl5_0, sl5_1, sl5_2, sl5_3, sl5_4, sl6_0, sl6_1, sl6_2, sl6_3, sl6_4, sl6_5, tru0, tru1, tru2, tru3, tru4, tru5, bnd_ite, ite_same]
/-- no price tells less than the best -/
theorem price_most (g : La n W H) (h : 0 ≤ c) {u d : Int} (hu : 0 ≤ u) (hd : 0 ≤ d) : op W H n n c * d ≤ c * u + sm (prf W H u d) (al 0 n) := by
  obtain ⟨i1, i2, i3⟩ := tl_ok (W := W) (H := H) (n := n) n c h (Int.le_refl _)
  rw [show (n : Int) - n = 0 by omega] at i1
  rw [← i3, ← sm_mulr]
  have h1 : sm (fun x => W x * d) (tl W H n n c) ≤ sm (fun x => H x * u + prf W H u d x) (tl W H n n c) := sm_le fun x _ => by
    show W x * d ≤ H x * u + max 0 (W x * d - H x * u)
    omega
  rw [sm_add, sm_mulr (f := H)] at h1
  have h2 := sm_all (f := prf W H u d) n 0 (tl W H n n c) (fun x _ _ => by show 0 ≤ max 0 (W x * d - H x * u); omega) (by rw [show (0 : Int) + (n : Int) = n by omega]; exact i1)
  have h3 : sm H (tl W H n n c) * u ≤ c * u := Int.mul_le_mul_of_nonneg_right i2 hu
  omega
end
end G

end
section
set_option Elab.async false
set_option linter.all false
set_option maxRecDepth 100000
namespace G
open RM (bnd)
open PySem PySem.Spec PyProof.Rows L2
theorem forAll {β α : Type} {δ : D → Option D} {F : Unit → D → (Unit → Option β) → (Unit → Option β) → Option β} {e : α → D} {k : Unit → Option β} : ∀ (l : List α), (∀ x ∈ l, δ (e x) = some (e x) ∧ ∀ kc kb, F () (e x) kc kb = kc ()) → forD (R := Option β) δ F (l.map e) () k = k ()
  | [], _ => rfl
  | x :: l, h => by
    obtain ⟨h1, h2⟩ := h x (List.mem_cons_self ..)
    rw [List.map_cons, forD_cons, h1]
    show F () (e x) _ _ = _
    rw [h2]
    exact forAll l fun y hy => h y (List.mem_cons_of_mem _ hy)
theorem ixT_head (x : D) (l : List D) : ixD (.tuple (x :: l)) (.int 0) = some x := by
  have h : ixN (x :: l).length 0 = some 0 := ixN_in (Int.le_refl _) (by rw [List.length_cons]; omega)
  show (ixN (x :: l).length 0).bind _ = _
  rw [h]
  rfl
theorem eq_empT (l : List Int) : eqD (tupI l) (.tuple []) = some l.isEmpty := by
  have g0 : Gd 1 (.tuple []) := gd_tup gd_nil
  rw [eqD_of ((gdI l).sh) (g0.sh)]
  cases l with
  | nil => rw [show tupI [] = .tuple [] from rfl, eqv_self g0]; rfl
  | cons x l => simp [tupI, PyData.eqv, PyData.eqvAll]
theorem sets_nodup : ∀ k : Nat, (sets k).Nodup
  | 0 => List.nodup_cons.mpr ⟨List.not_mem_nil, List.nodup_nil⟩
  | k + 1 => by
    unfold sets
    refine List.nodup_append.mpr ⟨sets_nodup k, ?_, fun a ha b hb e => ?_⟩
    · have hn := sets_nodup k
      rw [List.nodup_iff_pairwise_ne, List.pairwise_map]
      exact (List.nodup_iff_pairwise_ne.mp hn).imp fun h e => h (List.append_cancel_right e)
    · subst e
      obtain ⟨T, _, rfl⟩ := List.mem_map.mp hb
      have := ((mem_sets k _).mp ha).mem (List.mem_append_right T (List.mem_singleton.mpr rfl))
      omega
theorem only_nil {l : List (List Int)} (hn : l.Nodup) (h : ∀ t ∈ l, t = []) (h0 : [] ∈ l) : l = [[]] := by
  cases l with
  | nil => cases h0
  | cons a t =>
    have ha := h a (List.mem_cons_self ..)
    cases t with
    | nil => rw [ha]
    | cons b t =>
      have hb := h b (List.mem_cons_of_mem _ (List.mem_cons_self ..))
      have := (List.nodup_cons.mp hn).1
      rw [ha, hb] at this
      exact absurd (List.mem_cons_self ..) this
theorem home_t : eqD (.str "home") (.str "home") = some true := by decide +kernel
theorem home_f : eqD (.str "late") (.str "home") = some false := by decide +kernel
section
variable {n : Nat} {L : Int → Int} {s : Int}
theorem sets_turn (g : Bo n L s) (T : List Int) (hT : Inc 0 n T) (kc kb : Unit → Option D) : m__law_boats_hold_l1 (.int s) (.int n) (bts n L s) (lms n (fun _ => 1) L) () (tupI T) kc kb = kc () := by
  have n6 := g.n6
  have s0 := g.s0
  have s9 := g.s9
  have gl : La n (fun _ => 1) L := ⟨g.n1, g.n6, fun i h0 h1 => by have := g.le i h0 h1; omega⟩
  have e1 := kept_ok n6 T
  have hk := kp_inc n T
  have e2 : takenM 3 m_accept_left_g (.list [bts n L s, tupI T, .int T.length]) = some (.bool (!decide (s < sm L (kp n T)))) := by
    refine taken3 ((acc_left g hT T.length).trans ?_)
    rw [decide_eq_false (show ¬ (T.length : Int) < T.length by omega), Bool.not_false, Bool.and_true]
  have e3 : takenM 4 m_accept_lamps_g (.list [lms n (fun _ => 1) L, .int s, tupI (kp n T), .int (kp n T).length]) = some (.bool (!decide (s < sm L (kp n T)))) := by
    refine taken_ok ((acc_lamps gl ⟨s0, by omega⟩ hk (kp n T).length).trans ?_)
    rw [sm_one, decide_eq_false (show ¬ ((kp n T).length : Int) < (kp n T).length by omega), Bool.not_false, Bool.and_true]
  have z3 : ∀ a b c : D, szD [a, b, c] = some () := sz3
  have z4 : ∀ a b c d : D, szD [a, b, c, d] = some () := sz4
  simp only [m__law_boats_hold_l1, e1, lenI, e2, e3, neB, beq_self_eq_true, andW_p, orW_p, andW_u, orW_u, andV_u, orV_u, andV_p, orV_p, ifV_p, if_bool, if_bool, chT_ll, chT_lt, chT_tl, chV_ll, chV_lt, nameδ_eq, lstL, tx1_m1, tx1_0, tx2_m2, tx2_m1, tx2_0, tx2_1, tx3_m2, tx3_m1, tx3_0, tx3_1, tx3_2, tx4_m2, tx4_m1, tx4_0, tx4_1, tx4_2, tx4_3, tx5_m2, tx5_m1, tx5_0, tx5_1, tx5_2, tx5_3, tx5_4, tx6_m2, tx6_m1, tx6_0, tx6_1, tx6_2, tx6_3, tx6_4, tx6_5, lx1_m1, lx1_0, lx2_m2, lx2_m1, lx2_0, lx2_1, lx3_m2, lx3_m1, lx3_0, lx3_1, lx3_2, lx4_m2, lx4_m1, lx4_0, lx4_1, lx4_2, lx4_3, lx5_m2, lx5_m1, lx5_0, lx5_1, lx5_2, lx5_3, lx5_4, lx6_m2, lx6_m1, lx6_0, lx6_1, lx6_2, lx6_3, lx6_4, lx6_5, isiT, isiI, isiB, isiL, is_tt, is_ii, is_ib, is_ti, seqT, seqL, tupL, truL, truT, isN_N, lcP0, sz0, ap0, lcP1, sz1, ap1, lcP2, sz2, ap2, lcP3, sz3, ap3, lcP4, sz4, ap4, lcP5, sz5, ap5, lcP6, sz6, ap6, lcP7, sz7, ap7, lcP8, sz8, ap8, lT0, lL0, lT1, lL1, al1, lT2, lL2, al2, lT3, lL3, al3, lT4, lL4, al4, lT5, lL5, al5, lT6, lL6, al6, rg0, rg1, rg2, rg3, rg4, rh0_0, rh0_1, rh0_2, rh0_3, rh0_4, rh1_1, rh1_2, rh1_3, rh1_4, rh2_2, rh2_3, rh2_4, rh3_3, rh3_4, rdm1, rd0, rd1, rd2, rd3, ob, addI, subI, negI, ltI, leI, gtI, geI, eqI, neI, truB, truN, int1, nameδ_eq, Option.bind_some, if_true, decide_true, decide_false, Bool.not_true, Bool.not_false, Bool.and_true, Bool.true_and, Bool.and_false, Bool.false_and, Bool.or_false, Bool.false_or, Bool.or_true, Bool.true_or, Bool.false_eq_true, if_false, cmpM_nil, cmpM_cons, forD_nil, forD_cons, Int.reduceSub, Int.reduceAdd, Int.reduceLE, Int.reduceLT, Int.reduceNeg, Int.reduceMul, Int.reduceEq, Nat.reduceAdd, Nat.reduceLeDiff, Bool.and_self, Bool.or_self, List.isEmpty_nil, List.isEmpty_cons, en0t, zp0tt, zp0tl, en0l, zp0lt, zp0ll, en1t, zp1tt, zp1tl, en1l, zp1lt, zp1ll, en2t, zp2tt, zp2tl, en2l, zp2lt, zp2ll, en3t, zp3tt, zp3tl, en3l, zp3lt, zp3ll, en4t, zp4tt, zp4tl, en4l, zp4lt, zp4ll, tupδ_t, consδ_c, nilδ_n, if_so, oadd_if, oadd_s, oadd_n, emp_if, Bool.not_not, acc_1, acc_2, acc_3, acc_4, max2m, min2m, sl1_0, sl2_0, sl2_1, sl3_0, sl3_1, sl3_2, sl4_0, sl4_1, sl4_2, sl4_3, sl5_0, sl5_1, sl5_2, sl5_3, sl5_4, sl6_0, sl6_1, sl6_2, sl6_3, sl6_4, sl6_5, tru0, tru1, tru2, tru3, tru4, tru5, bnd_ite, ite_same]
def lgs (n : Nat) (L : Int → Int) : D := .tuple (tab n fun i => .int (L i))
theorem boats_ok (g : Bo n L s) (g' : Bo n L (s + 1)) : m__law_boats_hold (lgs n L) (.int s) = some (.bool true) := by
  have n6 := g.n6
  have n1 := g.n1
  have s0 := g.s0
  have s9 := g.s9
  have gl : La n (fun _ => 1) L := ⟨g.n1, g.n6, fun i h0 h1 => by have := g.le i h0 h1; omega⟩
  have hL : ∀ x : Int, 0 ≤ x → x < n → 1 ≤ L x := fun x a b => (g.le x a b).1
  have hH : ∀ x : Int, 0 ≤ x → x < n → 0 ≤ L x := fun x a b => by have := hL x a b; omega
  obtain ⟨K, Z, w, hG, ef⟩ := few_ok g
  obtain ⟨K', Z', w', hG', ef'⟩ := few_ok g'
  have eb := best_ok gl (c := s) ⟨s0, by omega⟩
  have eb' := best_ok gl (c := s + 1) ⟨by omega, by omega⟩
  have ho := gr_op hG hL s0
  have ho' := gr_op hG' hL (by omega)
  have hmono := op_mono (W := fun _ => 1) (H := L) (n := (n : Int)) hH (k := n) (c := s) (c' := s + 1) (Int.le_refl _) s0 (by omega)
  have hlen := srt_len hG
  have hlen' := srt_len hG'
  have hinc := srt_inc hG
  obtain ⟨t1, t2, t3⟩ := tl_ok (W := fun _ => 1) (H := L) (n := (n : Int)) n s s0 (Int.le_refl _)
  rw [show (n : Int) - n = 0 by omega] at t1
  rw [sm_one] at t3
  have x1 : lenD [lgs n L] = some (.int n) := lenTt
  have x2 : seqD (lgs n L) = some (tab n fun i => .int (L i)) := rfl
  have x3 : lcP nameδ (m__law_boats_hold_c1 (.int s)) (tab n fun i => .int (L i)) = some (tab n (bt L s)) := lcT _ (by omega) fun i h0 h1 => by
    show bnd (R := Option (Option D)) (nameδ (PyData.int (L i))) _ = _
    simp only [m__law_boats_hold_c1, bt, andW_p, orW_p, andW_u, orW_u, andV_u, orV_u, andV_p, orV_p, ifV_p, if_bool, if_bool, chT_ll, chT_lt, chT_tl, chV_ll, chV_lt, nameδ_eq, lstL, tx1_m1, tx1_0, tx2_m2, tx2_m1, tx2_0, tx2_1, tx3_m2, tx3_m1, tx3_0, tx3_1, tx3_2, tx4_m2, tx4_m1, tx4_0, tx4_1, tx4_2, tx4_3, tx5_m2, tx5_m1, tx5_0, tx5_1, tx5_2, tx5_3, tx5_4, tx6_m2, tx6_m1, tx6_0, tx6_1, tx6_2, tx6_3, tx6_4, tx6_5, lx1_m1, lx1_0, lx2_m2, lx2_m1, lx2_0, lx2_1, lx3_m2, lx3_m1, lx3_0, lx3_1, lx3_2, lx4_m2, lx4_m1, lx4_0, lx4_1, lx4_2, lx4_3, lx5_m2, lx5_m1, lx5_0, lx5_1, lx5_2, lx5_3, lx5_4, lx6_m2, lx6_m1, lx6_0, lx6_1, lx6_2, lx6_3, lx6_4, lx6_5, isiT, isiI, isiB, isiL, is_tt, is_ii, is_ib, is_ti, seqT, seqL, tupL, truL, truT, isN_N, lcP0, sz0, ap0, lcP1, sz1, ap1, lcP2, sz2, ap2, lcP3, sz3, ap3, lcP4, sz4, ap4, lcP5, sz5, ap5, lcP6, sz6, ap6, lcP7, sz7, ap7, lcP8, sz8, ap8, lT0, lL0, lT1, lL1, al1, lT2, lL2, al2, lT3, lL3, al3, lT4, lL4, al4, lT5, lL5, al5, lT6, lL6, al6, rg0, rg1, rg2, rg3, rg4, rh0_0, rh0_1, rh0_2, rh0_3, rh0_4, rh1_1, rh1_2, rh1_3, rh1_4, rh2_2, rh2_3, rh2_4, rh3_3, rh3_4, rdm1, rd0, rd1, rd2, rd3, ob, addI, subI, negI, ltI, leI, gtI, geI, eqI, neI, truB, truN, int1, nameδ_eq, Option.bind_some, if_true, decide_true, decide_false, Bool.not_true, Bool.not_false, Bool.and_true, Bool.true_and, Bool.and_false, Bool.false_and, Bool.or_false, Bool.false_or, Bool.or_true, Bool.true_or, Bool.false_eq_true, if_false, cmpM_nil, cmpM_cons, forD_nil, forD_cons, Int.reduceSub, Int.reduceAdd, Int.reduceLE, Int.reduceLT, Int.reduceNeg, Int.reduceMul, Int.reduceEq, Nat.reduceAdd, Nat.reduceLeDiff, Bool.and_self, Bool.or_self, List.isEmpty_nil, List.isEmpty_cons, en0t, zp0tt, zp0tl, en0l, zp0lt, zp0ll, en1t, zp1tt, zp1tl, en1l, zp1lt, zp1ll, en2t, zp2tt, zp2tl, en2l, zp2lt, zp2ll, en3t, zp3tt, zp3tl, en3l, zp3lt, zp3ll, en4t, zp4tt, zp4tl, en4l, zp4lt, zp4ll, tupδ_t, consδ_c, nilδ_n, if_so, oadd_if, oadd_s, oadd_n, emp_if, Bool.not_not, acc_1, acc_2, acc_3, acc_4, max2m, min2m, sl1_0, sl2_0, sl2_1, sl3_0, sl3_1, sl3_2, sl4_0, sl4_1, sl4_2, sl4_3, sl5_0, sl5_1, sl5_2, sl5_3, sl5_4, sl6_0, sl6_1, sl6_2, sl6_3, sl6_4, sl6_5, tru0, tru1, tru2, tru3, tru4, tru5, bnd_ite, ite_same]
  have x4 : lcP nameδ m__law_boats_hold_c2 (tab n fun i => .int (L i)) = some (tab n (lm (fun _ => 1) L)) := lcT _ (by omega) fun i h0 h1 => by
    show bnd (R := Option (Option D)) (nameδ (PyData.int (L i))) _ = _
    simp only [m__law_boats_hold_c2, lm, andW_p, orW_p, andW_u, orW_u, andV_u, orV_u, andV_p, orV_p, ifV_p, if_bool, if_bool, chT_ll, chT_lt, chT_tl, chV_ll, chV_lt, nameδ_eq, lstL, tx1_m1, tx1_0, tx2_m2, tx2_m1, tx2_0, tx2_1, tx3_m2, tx3_m1, tx3_0, tx3_1, tx3_2, tx4_m2, tx4_m1, tx4_0, tx4_1, tx4_2, tx4_3, tx5_m2, tx5_m1, tx5_0, tx5_1, tx5_2, tx5_3, tx5_4, tx6_m2, tx6_m1, tx6_0, tx6_1, tx6_2, tx6_3, tx6_4, tx6_5, lx1_m1, lx1_0, lx2_m2, lx2_m1, lx2_0, lx2_1, lx3_m2, lx3_m1, lx3_0, lx3_1, lx3_2, lx4_m2, lx4_m1, lx4_0, lx4_1, lx4_2, lx4_3, lx5_m2, lx5_m1, lx5_0, lx5_1, lx5_2, lx5_3, lx5_4, lx6_m2, lx6_m1, lx6_0, lx6_1, lx6_2, lx6_3, lx6_4, lx6_5, isiT, isiI, isiB, isiL, is_tt, is_ii, is_ib, is_ti, seqT, seqL, tupL, truL, truT, isN_N, lcP0, sz0, ap0, lcP1, sz1, ap1, lcP2, sz2, ap2, lcP3, sz3, ap3, lcP4, sz4, ap4, lcP5, sz5, ap5, lcP6, sz6, ap6, lcP7, sz7, ap7, lcP8, sz8, ap8, lT0, lL0, lT1, lL1, al1, lT2, lL2, al2, lT3, lL3, al3, lT4, lL4, al4, lT5, lL5, al5, lT6, lL6, al6, rg0, rg1, rg2, rg3, rg4, rh0_0, rh0_1, rh0_2, rh0_3, rh0_4, rh1_1, rh1_2, rh1_3, rh1_4, rh2_2, rh2_3, rh2_4, rh3_3, rh3_4, rdm1, rd0, rd1, rd2, rd3, ob, addI, subI, negI, ltI, leI, gtI, geI, eqI, neI, truB, truN, int1, nameδ_eq, Option.bind_some, if_true, decide_true, decide_false, Bool.not_true, Bool.not_false, Bool.and_true, Bool.true_and, Bool.and_false, Bool.false_and, Bool.or_false, Bool.false_or, Bool.or_true, Bool.true_or, Bool.false_eq_true, if_false, cmpM_nil, cmpM_cons, forD_nil, forD_cons, Int.reduceSub, Int.reduceAdd, Int.reduceLE, Int.reduceLT, Int.reduceNeg, Int.reduceMul, Int.reduceEq, Nat.reduceAdd, Nat.reduceLeDiff, Bool.and_self, Bool.or_self, List.isEmpty_nil, List.isEmpty_cons, en0t, zp0tt, zp0tl, en0l, zp0lt, zp0ll, en1t, zp1tt, zp1tl, en1l, zp1lt, zp1ll, en2t, zp2tt, zp2tl, en2l, zp2lt, zp2ll, en3t, zp3tt, zp3tl, en3l, zp3lt, zp3ll, en4t, zp4tt, zp4tl, en4l, zp4lt, zp4ll, tupδ_t, consδ_c, nilδ_n, if_so, oadd_if, oadd_s, oadd_n, emp_if, Bool.not_not, acc_1, acc_2, acc_3, acc_4, max2m, min2m, sl1_0, sl2_0, sl2_1, sl3_0, sl3_1, sl3_2, sl4_0, sl4_1, sl4_2, sl4_3, sl5_0, sl5_1, sl5_2, sl5_3, sl5_4, sl6_0, sl6_1, sl6_2, sl6_3, sl6_4, sl6_5, tru0, tru1, tru2, tru3, tru4, tru5, bnd_ite, ite_same]
  have x5 : lcP nameδ (m__law_boats_hold_c5 (.int s)) (tab n fun i => .int (L i)) = some (tab n (bt L (s + 1))) := lcT _ (by omega) fun i h0 h1 => by
    show bnd (R := Option (Option D)) (nameδ (PyData.int (L i))) _ = _
    simp only [m__law_boats_hold_c5, bt, andW_p, orW_p, andW_u, orW_u, andV_u, orV_u, andV_p, orV_p, ifV_p, if_bool, if_bool, chT_ll, chT_lt, chT_tl, chV_ll, chV_lt, nameδ_eq, lstL, tx1_m1, tx1_0, tx2_m2, tx2_m1, tx2_0, tx2_1, tx3_m2, tx3_m1, tx3_0, tx3_1, tx3_2, tx4_m2, tx4_m1, tx4_0, tx4_1, tx4_2, tx4_3, tx5_m2, tx5_m1, tx5_0, tx5_1, tx5_2, tx5_3, tx5_4, tx6_m2, tx6_m1, tx6_0, tx6_1, tx6_2, tx6_3, tx6_4, tx6_5, lx1_m1, lx1_0, lx2_m2, lx2_m1, lx2_0, lx2_1, lx3_m2, lx3_m1, lx3_0, lx3_1, lx3_2, lx4_m2, lx4_m1, lx4_0, lx4_1, lx4_2, lx4_3, lx5_m2, lx5_m1, lx5_0, lx5_1, lx5_2, lx5_3, lx5_4, lx6_m2, lx6_m1, lx6_0, lx6_1, lx6_2, lx6_3, lx6_4, lx6_5, isiT, isiI, isiB, isiL, is_tt, is_ii, is_ib, is_ti, seqT, seqL, tupL, truL, truT, isN_N, lcP0, sz0, ap0, lcP1, sz1, ap1, lcP2, sz2, ap2, lcP3, sz3, ap3, lcP4, sz4, ap4, lcP5, sz5, ap5, lcP6, sz6, ap6, lcP7, sz7, ap7, lcP8, sz8, ap8, lT0, lL0, lT1, lL1, al1, lT2, lL2, al2, lT3, lL3, al3, lT4, lL4, al4, lT5, lL5, al5, lT6, lL6, al6, rg0, rg1, rg2, rg3, rg4, rh0_0, rh0_1, rh0_2, rh0_3, rh0_4, rh1_1, rh1_2, rh1_3, rh1_4, rh2_2, rh2_3, rh2_4, rh3_3, rh3_4, rdm1, rd0, rd1, rd2, rd3, ob, addI, subI, negI, ltI, leI, gtI, geI, eqI, neI, truB, truN, int1, nameδ_eq, Option.bind_some, if_true, decide_true, decide_false, Bool.not_true, Bool.not_false, Bool.and_true, Bool.true_and, Bool.and_false, Bool.false_and, Bool.or_false, Bool.false_or, Bool.or_true, Bool.true_or, Bool.false_eq_true, if_false, cmpM_nil, cmpM_cons, forD_nil, forD_cons, Int.reduceSub, Int.reduceAdd, Int.reduceLE, Int.reduceLT, Int.reduceNeg, Int.reduceMul, Int.reduceEq, Nat.reduceAdd, Nat.reduceLeDiff, Bool.and_self, Bool.or_self, List.isEmpty_nil, List.isEmpty_cons, en0t, zp0tt, zp0tl, en0l, zp0lt, zp0ll, en1t, zp1tt, zp1tl, en1l, zp1lt, zp1ll, en2t, zp2tt, zp2tl, en2l, zp2lt, zp2ll, en3t, zp3tt, zp3tl, en3l, zp3lt, zp3ll, en4t, zp4tt, zp4tl, en4l, zp4lt, zp4ll, tupδ_t, consδ_c, nilδ_n, if_so, oadd_if, oadd_s, oadd_n, emp_if, Bool.not_not, acc_1, acc_2, acc_3, acc_4, max2m, min2m, sl1_0, sl2_0, sl2_1, sl3_0, sl3_1, sl3_2, sl4_0, sl4_1, sl4_2, sl4_3, sl5_0, sl5_1, sl5_2, sl5_3, sl5_4, sl6_0, sl6_1, sl6_2, sl6_3, sl6_4, sl6_5, tru0, tru1, tru2, tru3, tru4, tru5, bnd_ite, ite_same]
  have x6 : PyData.tuple (tab n (bt L s)) = bts n L s := rfl
  have x7 : PyData.tuple (tab n (lm (fun _ => 1) L)) = lms n (fun _ => 1) L := rfl
  have x8 : PyData.tuple (tab n (bt L (s + 1))) = bts n L (s + 1) := rfl
  have y0 : ixD (.tuple [.int (op (fun _ => 1) L n n s), tupI (tl (fun _ => 1) L n n s)]) (.int 0) = some (.int (op (fun _ => 1) L n n s)) := rfl
  have y1 : ixD (.tuple [.int (op (fun _ => 1) L n n s), tupI (tl (fun _ => 1) L n n s)]) (.int 1) = some (tupI (tl (fun _ => 1) L n n s)) := rfl
  have y2 : ixD (.tuple [.int (op (fun _ => 1) L n n (s + 1)), tupI (tl (fun _ => 1) L n n (s + 1))]) (.int 0) = some (.int (op (fun _ => 1) L n n (s + 1))) := rfl
  have y3 : m_accept_left (bts n L s) (tupI (srtI Z)) (.int (srtI Z).length) = some (some .none) := by
    rw [acc_left g hinc, srt_kept hG, ← hG.sum, decide_eq_false (show ¬ s < w by have := hG.fits; omega), decide_eq_false (show ¬ ((srtI Z).length : Int) < (srtI Z).length by omega)]
    rfl
  have y4 : isnotD .none .none = some false := rfl
  obtain ⟨ls, hp, es⟩ := sets_ok n n6
  have hls : ∀ T, T ∈ ls ↔ Inc 0 n T := fun T => hp.mem_iff.trans (mem_sets n T)
  have e1 := fun k : Unit → Option D => forAll (δ := nameδ) (F := m__law_boats_hold_l1 (.int s) (.int n) (bts n L s) (lms n (fun _ => 1) L)) (e := tupI) (k := k) ls (fun T hT => ⟨rfl, sets_turn g T ((hls T).mp hT)⟩)
  have hlsl : ls.length ≤ 64 := by
    rw [hp.length_eq, sets_len]
    exact Nat.pow_le_pow_right (n := 2) (by decide) n6
  -- the best of those sets
  have e2 : lcP nameδ (m__law_boats_hold_c4 (lgs n L) (.int s) (.tuple [.int (op (fun _ => 1) L n n s), tupI (tl (fun _ => 1) L n n s)])) (ls.map tupI) = some ((ls.filter fun T => decide ((T.length : Int) = op (fun _ => 1) L n n s) && decide (sm L T ≤ s)).map tupI) := lcM _ _ (by omega) fun T hT => by
    have hi := (hls T).mp hT
    have hTl := hi.len (by omega)
    have e3 : lcP nameδ (m__law_boats_hold_c3 (lgs n L)) (T.map .int) = some (T.map fun x => .int (L x)) := lcMa _ (by omega) fun x hx => by
      have q : ixD (lgs n L) (.int x) = some (.int (L x)) := ixT (hi.mem hx)
      show bnd (R := Option (Option D)) (nameδ (PyData.int x)) _ = _
      simp only [m__law_boats_hold_c3, q, andW_p, orW_p, andW_u, orW_u, andV_u, orV_u, andV_p, orV_p, ifV_p, if_bool, if_bool, chT_ll, chT_lt, chT_tl, chV_ll, chV_lt, nameδ_eq, lstL, tx1_m1, tx1_0, tx2_m2, tx2_m1, tx2_0, tx2_1, tx3_m2, tx3_m1, tx3_0, tx3_1, tx3_2, tx4_m2, tx4_m1, tx4_0, tx4_1, tx4_2, tx4_3, tx5_m2, tx5_m1, tx5_0, tx5_1, tx5_2, tx5_3, tx5_4, tx6_m2, tx6_m1, tx6_0, tx6_1, tx6_2, tx6_3, tx6_4, tx6_5, lx1_m1, lx1_0, lx2_m2, lx2_m1, lx2_0, lx2_1, lx3_m2, lx3_m1, lx3_0, lx3_1, lx3_2, lx4_m2, lx4_m1, lx4_0, lx4_1, lx4_2, lx4_3, lx5_m2, lx5_m1, lx5_0, lx5_1, lx5_2, lx5_3, lx5_4, lx6_m2, lx6_m1, lx6_0, lx6_1, lx6_2, lx6_3, lx6_4, lx6_5, isiT, isiI, isiB, isiL, is_tt, is_ii, is_ib, is_ti, seqT, seqL, tupL, truL, truT, isN_N, lcP0, sz0, ap0, lcP1, sz1, ap1, lcP2, sz2, ap2, lcP3, sz3, ap3, lcP4, sz4, ap4, lcP5, sz5, ap5, lcP6, sz6, ap6, lcP7, sz7, ap7, lcP8, sz8, ap8, lT0, lL0, lT1, lL1, al1, lT2, lL2, al2, lT3, lL3, al3, lT4, lL4, al4, lT5, lL5, al5, lT6, lL6, al6, rg0, rg1, rg2, rg3, rg4, rh0_0, rh0_1, rh0_2, rh0_3, rh0_4, rh1_1, rh1_2, rh1_3, rh1_4, rh2_2, rh2_3, rh2_4, rh3_3, rh3_4, rdm1, rd0, rd1, rd2, rd3, ob, addI, subI, negI, ltI, leI, gtI, geI, eqI, neI, truB, truN, int1, nameδ_eq, Option.bind_some, if_true, decide_true, decide_false, Bool.not_true, Bool.not_false, Bool.and_true, Bool.true_and, Bool.and_false, Bool.false_and, Bool.or_false, Bool.false_or, Bool.or_true, Bool.true_or, Bool.false_eq_true, if_false, cmpM_nil, cmpM_cons, forD_nil, forD_cons, Int.reduceSub, Int.reduceAdd, Int.reduceLE, Int.reduceLT, Int.reduceNeg, Int.reduceMul, Int.reduceEq, Nat.reduceAdd, Nat.reduceLeDiff, Bool.and_self, Bool.or_self, List.isEmpty_nil, List.isEmpty_cons, en0t, zp0tt, zp0tl, en0l, zp0lt, zp0ll, en1t, zp1tt, zp1tl, en1l, zp1lt, zp1ll, en2t, zp2tt, zp2tl, en2l, zp2lt, zp2ll, en3t, zp3tt, zp3tl, en3l, zp3lt, zp3ll, en4t, zp4tt, zp4tl, en4l, zp4lt, zp4ll, tupδ_t, consδ_c, nilδ_n, if_so, oadd_if, oadd_s, oadd_n, emp_if, Bool.not_not, acc_1, acc_2, acc_3, acc_4, max2m, min2m, sl1_0, sl2_0, sl2_1, sl3_0, sl3_1, sl3_2, sl4_0, sl4_1, sl4_2, sl4_3, sl5_0, sl5_1, sl5_2, sl5_3, sl5_4, sl6_0, sl6_1, sl6_2, sl6_3, sl6_4, sl6_5, tru0, tru1, tru2, tru3, tru4, tru5, bnd_ite, ite_same]
    have e4 : seqD (tupI T) = some (T.map .int) := rfl
    show bnd (R := Option (Option D)) (nameδ (tupI T)) _ = _
    simp only [m__law_boats_hold_c4, lenI, y0, e4, e3, sumM, andW_p, orW_p, andW_u, orW_u, andV_u, orV_u, andV_p, orV_p, ifV_p, if_bool, if_bool, chT_ll, chT_lt, chT_tl, chV_ll, chV_lt, nameδ_eq, lstL, tx1_m1, tx1_0, tx2_m2, tx2_m1, tx2_0, tx2_1, tx3_m2, tx3_m1, tx3_0, tx3_1, tx3_2, tx4_m2, tx4_m1, tx4_0, tx4_1, tx4_2, tx4_3, tx5_m2, tx5_m1, tx5_0, tx5_1, tx5_2, tx5_3, tx5_4, tx6_m2, tx6_m1, tx6_0, tx6_1, tx6_2, tx6_3, tx6_4, tx6_5, lx1_m1, lx1_0, lx2_m2, lx2_m1, lx2_0, lx2_1, lx3_m2, lx3_m1, lx3_0, lx3_1, lx3_2, lx4_m2, lx4_m1, lx4_0, lx4_1, lx4_2, lx4_3, lx5_m2, lx5_m1, lx5_0, lx5_1, lx5_2, lx5_3, lx5_4, lx6_m2, lx6_m1, lx6_0, lx6_1, lx6_2, lx6_3, lx6_4, lx6_5, isiT, isiI, isiB, isiL, is_tt, is_ii, is_ib, is_ti, seqT, seqL, tupL, truL, truT, isN_N, lcP0, sz0, ap0, lcP1, sz1, ap1, lcP2, sz2, ap2, lcP3, sz3, ap3, lcP4, sz4, ap4, lcP5, sz5, ap5, lcP6, sz6, ap6, lcP7, sz7, ap7, lcP8, sz8, ap8, lT0, lL0, lT1, lL1, al1, lT2, lL2, al2, lT3, lL3, al3, lT4, lL4, al4, lT5, lL5, al5, lT6, lL6, al6, rg0, rg1, rg2, rg3, rg4, rh0_0, rh0_1, rh0_2, rh0_3, rh0_4, rh1_1, rh1_2, rh1_3, rh1_4, rh2_2, rh2_3, rh2_4, rh3_3, rh3_4, rdm1, rd0, rd1, rd2, rd3, ob, addI, subI, negI, ltI, leI, gtI, geI, eqI, neI, truB, truN, int1, nameδ_eq, Option.bind_some, if_true, decide_true, decide_false, Bool.not_true, Bool.not_false, Bool.and_true, Bool.true_and, Bool.and_false, Bool.false_and, Bool.or_false, Bool.false_or, Bool.or_true, Bool.true_or, Bool.false_eq_true, if_false, cmpM_nil, cmpM_cons, forD_nil, forD_cons, Int.reduceSub, Int.reduceAdd, Int.reduceLE, Int.reduceLT, Int.reduceNeg, Int.reduceMul, Int.reduceEq, Nat.reduceAdd, Nat.reduceLeDiff, Bool.and_self, Bool.or_self, List.isEmpty_nil, List.isEmpty_cons, en0t, zp0tt, zp0tl, en0l, zp0lt, zp0ll, en1t, zp1tt, zp1tl, en1l, zp1lt, zp1ll, en2t, zp2tt, zp2tl, en2l, zp2lt, zp2ll, en3t, zp3tt, zp3tl, en3l, zp3lt, zp3ll, en4t, zp4tt, zp4tl, en4l, zp4lt, zp4ll, tupδ_t, consδ_c, nilδ_n, if_so, oadd_if, oadd_s, oadd_n, emp_if, Bool.not_not, acc_1, acc_2, acc_3, acc_4, max2m, min2m, sl1_0, sl2_0, sl2_1, sl3_0, sl3_1, sl3_2, sl4_0, sl4_1, sl4_2, sl4_3, sl5_0, sl5_1, sl5_2, sl5_3, sl5_4, sl6_0, sl6_1, sl6_2, sl6_3, sl6_4, sl6_5, tru0, tru1, tru2, tru3, tru4, tru5, bnd_ite, ite_same]
  have hmem : ∀ T, T ∈ (ls.filter fun T => decide ((T.length : Int) = op (fun _ => 1) L n n s) && decide (sm L T ≤ s)) ↔ Inc 0 n T ∧ (T.length : Int) = op (fun _ => 1) L n n s ∧ sm L T ≤ s := fun T => by
    rw [List.mem_filter, hls, Bool.and_eq_true, decide_eq_true_eq, decide_eq_true_eq]
  obtain ⟨r, e5⟩ := sortE_tups (l := ls.filter fun T => decide ((T.length : Int) = op (fun _ => 1) L n n s) && decide (sm L T ≤ s)) (Nat.le_trans (List.length_filter_le _ _) (by omega)) (a := tl (fun _ => 1) L n n s) ((hmem _).mpr ⟨t1, t3, t2⟩) (fun T hT => by
    obtain ⟨q1, q2, q3⟩ := (hmem T).mp hT
    exact tl_least (W := fun _ => 1) (H := L) hH n s T s0 (Int.le_refl _) (by rw [show (n : Int) - n = 0 by omega]; exact q1) q3 (by rw [sm_one]; exact q2)) (by
    by_cases c0 : op (fun _ => 1) L n n s = 0
    · right
      refine only_nil (List.Nodup.sublist List.filter_sublist ((hp.nodup_iff).mpr (sets_nodup n))) (fun T hT => ?_) ?_
      · have := ((hmem T).mp hT).2.1
        exact List.eq_nil_of_length_eq_zero (by omega)
      · exact (hmem []).mpr ⟨trivial, by rw [c0]; rfl, s0⟩
    · left
      intro T hT e
      have := ((hmem T).mp hT).2.1
      rw [e] at this
      exact c0 this.symm)
  have e6 : ixD (.list (tupI (tl (fun _ => 1) L n n s) :: r)) (.int 0) = some (tupI (tl (fun _ => 1) L n n s)) := ix_head _ _
  have e7 := neD_self (gdI (tl (fun _ => 1) L n n s))
  have e8 := rgL n (by omega)
  obtain ⟨r2, b, ej, hb⟩ := judge_ok g
  have e9 : ixD (.tuple (.str (if b = true then "home" else "late") :: r2)) (.int 0) = some (.str (if b = true then "home" else "late")) := ixT_head _ _
  have e10 : eqD (.str (if b = true then "home" else "late")) (.str "home") = some b := by
    cases b with
    | true => exact home_t
    | false => exact home_f
  have e11 : (srtI Z).isEmpty = b := by
    have h1 := gr_all hG hL
    have h2 := (srtI_perm Z).length_eq
    rw [hb]
    by_cases c : sm L (al 0 n) ≤ s
    · rw [decide_eq_true c]
      have h3 := h1.mpr c
      have h4 : (srtI Z).length = 0 := by rw [h2, h3]; rfl
      rw [List.eq_nil_of_length_eq_zero h4]
      rfl
    · rw [decide_eq_false c]
      cases q : srtI Z with
      | nil =>
        rw [q] at h2
        exact absurd (h1.mp (List.eq_nil_of_length_eq_zero h2.symm)) c
      | cons a t => rfl
  have e12 := lateness_ok g
  have e13 : sumD [lgs n L] = some (.int (sm L (al 0 n))) := by
    have : lgs n L = .tuple ((al 0 n).map fun x => .int (L x)) := by
      unfold lgs
      rw [al_tab, tab_map]
    rw [this]
    have e : ((al 0 n).map fun x => PyData.int (L x)) = ((al 0 n).map L).map .int := by rw [List.map_map]; rfl
    show ((intsD _).map fun bs => PyData.int bs.sum) = _
    rw [e, intsD_map, ← sm_eq_sum]
    rfl
  have e14 : neD (.tuple [.int (max 0 (sm L (al 0 n) - s)), tupI (al 0 n)]) (.tuple [.int (max 0 (sm L (al 0 n) - s)), tupI (al 0 n)]) = some false := neD_self (n := 2) (gd_tup (gd_cons (gd_int _ _) (gd_cons (gdI _) gd_nil)))
  have v1 : decide ((n : Int) - (srtI Z).length = op (fun _ => 1) L n n s) = true := decide_eq_true (by rw [ho]; omega)
  have v2 : decide (((tl (fun _ => 1) L n n s).length : Int) = op (fun _ => 1) L n n s) = true := decide_eq_true t3
  have v3 : decide (((srtI Z').length : Int) ≤ (srtI Z).length) = true := decide_eq_true (by omega)
  have v4 : decide (op (fun _ => 1) L n n s ≤ op (fun _ => 1) L n n (s + 1)) = true := decide_eq_true hmono
  have tt : PyData.tuple ((al 0 n).map .int) = tupI (al 0 n) := rfl
  simp only [m__law_boats_hold, x1, x2, x3, x4, x5, x6, x7, x8, ef, ef', eb, eb', lenI, y0, y1, y2, y3, y4, es, e1, e2, e5, e6, e7, e8, tt, ej, e9, e10, eq_empT, e11, neB, e12, e13, max1_2, e14, v1, v2, v3, v4, beq_self_eq_true, andW_p, orW_p, andW_u, orW_u, andV_u, orV_u, andV_p, orV_p, ifV_p, if_bool, if_bool, chT_ll, chT_lt, chT_tl, chV_ll, chV_lt, nameδ_eq, lstL, tx1_m1, tx1_0, tx2_m2, tx2_m1, tx2_0, tx2_1, tx3_m2, tx3_m1, tx3_0, tx3_1, tx3_2, tx4_m2, tx4_m1, tx4_0, tx4_1, tx4_2, tx4_3, tx5_m2, tx5_m1, tx5_0, tx5_1, tx5_2, tx5_3, tx5_4, tx6_m2, tx6_m1, tx6_0, tx6_1, tx6_2, tx6_3, tx6_4, tx6_5, lx1_m1, lx1_0, lx2_m2, lx2_m1, lx2_0, lx2_1, lx3_m2, lx3_m1, lx3_0, lx3_1, lx3_2, lx4_m2, lx4_m1, lx4_0, lx4_1, lx4_2, lx4_3, lx5_m2, lx5_m1, lx5_0, lx5_1, lx5_2, lx5_3, lx5_4, lx6_m2, lx6_m1, lx6_0, lx6_1, lx6_2, lx6_3, lx6_4, lx6_5, isiT, isiI, isiB, isiL, is_tt, is_ii, is_ib, is_ti, seqT, seqL, tupL, truL, truT, isN_N, lcP0, sz0, ap0, lcP1, sz1, ap1, lcP2, sz2, ap2, lcP3, sz3, ap3, lcP4, sz4, ap4, lcP5, sz5, ap5, lcP6, sz6, ap6, lcP7, sz7, ap7, lcP8, sz8, ap8, lT0, lL0, lT1, lL1, al1, lT2, lL2, al2, lT3, lL3, al3, lT4, lL4, al4, lT5, lL5, al5, lT6, lL6, al6, rg0, rg1, rg2, rg3, rg4, rh0_0, rh0_1, rh0_2, rh0_3, rh0_4, rh1_1, rh1_2, rh1_3, rh1_4, rh2_2, rh2_3, rh2_4, rh3_3, rh3_4, rdm1, rd0, rd1, rd2, rd3, ob, addI, subI, negI, ltI, leI, gtI, geI, eqI, neI, truB, truN, int1, nameδ_eq, Option.bind_some, if_true, decide_true, decide_false, Bool.not_true, Bool.not_false, Bool.and_true, Bool.true_and, Bool.and_false, Bool.false_and, Bool.or_false, Bool.false_or, Bool.or_true, Bool.true_or, Bool.false_eq_true, if_false, cmpM_nil, cmpM_cons, forD_nil, forD_cons, Int.reduceSub, Int.reduceAdd, Int.reduceLE, Int.reduceLT, Int.reduceNeg, Int.reduceMul, Int.reduceEq, Nat.reduceAdd, Nat.reduceLeDiff, Bool.and_self, Bool.or_self, List.isEmpty_nil, List.isEmpty_cons, en0t, zp0tt, zp0tl, en0l, zp0lt, zp0ll, en1t, zp1tt, zp1tl, en1l, zp1lt, zp1ll, en2t, zp2tt, zp2tl, en2l, zp2lt, zp2ll, en3t, zp3tt, zp3tl, en3l, zp3lt, zp3ll, en4t, zp4tt, zp4tl, en4l, zp4lt, zp4ll, tupδ_t, consδ_c, nilδ_n, if_so, oadd_if, oadd_s, oadd_n, emp_if, Bool.not_not, acc_1, acc_2, acc_3, acc_4, max2m, min2m, sl1_0, sl2_0, sl2_1, sl3_0, sl3_1, sl3_2, sl4_0, sl4_1, sl4_2, sl4_3, sl5_0, sl5_1, sl5_2, sl5_3, sl5_4, sl6_0, sl6_1, sl6_2, sl6_3, sl6_4, sl6_5, tru0, tru1, tru2, tru3, tru4, tru5, bnd_ite, ite_same]
end
end G

end
section
set_option Elab.async false
set_option linter.all false
set_option maxRecDepth 100000
namespace G
open RM (bnd)
open PySem PySem.Spec PyProof.Rows L2
theorem forD_w {β S : Type} (F : S → D → (S → Wp β) → (S → Wp β) → Wp β) (d : D) (ds : List D) (s : S) (k : S → Wp β) : forD nameδ F (d :: ds) s k = F s d (fun s' => forD nameδ F ds s' k) k := by
  show bnd (R := Wp β) (some d) _ = _
  rw [obW]
  rfl
theorem forD_wn {β S : Type} (F : S → D → (S → Wp β) → (S → Wp β) → Wp β) (s : S) (k : S → Wp β) : forD nameδ F [] s k = k s := rfl
def dInt : D → Int
  | .int z => z
  | _ => 0
section
variable {n : Nat} {W H : Int → Int} {c : Int}
theorem price_turn (g : La n W H) (h : 0 ≤ c ∧ c ≤ 101) {u d : Int} (hu : 0 ≤ u ∧ u ≤ 3) (hd : 1 ≤ d ∧ d ≤ 3) (kc kb : Unit → Wp D) : m__law_lamps_hold_l2 (lms n W H) (.int c) (.int (op W H n n c)) (.int u) () (.int d) kc kb = kc () := by
  have n6 := g.n6
  have e1 : takenM 5 m_accept_price_g (.list [lms n W H, .int c, .int u, .int d, .int (op W H n n c - 1)]) = some (.bool false) := by
    refine taken5 ((acc_price g h hu hd).trans ?_)
    rw [show op W H n n c - 1 + 1 = op W H n n c by omega, decide_eq_true (price_most g h.1 hu.1 (by omega))]
    rfl
  have e2 : mulD (.int c) (.int u) = some (.int (c * u)) := mulS (.inr (by omega))
  have e3 : lcP nameδ (m__law_lamps_hold_c7 (.int u) (.int d)) (tab n (lm W H)) = some (tab n fun i => .int (prf W H u d i)) := lcT _ (by omega) fun i h0 h1 => by
    have x1 : mulD (.int (W i)) (.int d) = some (.int (W i * d)) := mulS (.inr (by omega))
    have x2 : mulD (.int (H i)) (.int u) = some (.int (H i * u)) := mulS (.inr (by omega))
    show bnd (R := Option (Option D)) (nameδ (lm W H i)) _ = _
    simp only [m__law_lamps_hold_c7, lm0, lm1, x1, x2, max1_2, andW_p, orW_p, andW_u, orW_u, andV_u, orV_u, andV_p, orV_p, ifV_p, if_bool, if_bool, chT_ll, chT_lt, chT_tl, chV_ll, chV_lt, nameδ_eq, lstL, tx1_m1, tx1_0, tx2_m2, tx2_m1, tx2_0, tx2_1, tx3_m2, tx3_m1, tx3_0, tx3_1, tx3_2, tx4_m2, tx4_m1, tx4_0, tx4_1, tx4_2, tx4_3, tx5_m2, tx5_m1, tx5_0, tx5_1, tx5_2, tx5_3, tx5_4, tx6_m2, tx6_m1, tx6_0, tx6_1, tx6_2, tx6_3, tx6_4, tx6_5, lx1_m1, lx1_0, lx2_m2, lx2_m1, lx2_0, lx2_1, lx3_m2, lx3_m1, lx3_0, lx3_1, lx3_2, lx4_m2, lx4_m1, lx4_0, lx4_1, lx4_2, lx4_3, lx5_m2, lx5_m1, lx5_0, lx5_1, lx5_2, lx5_3, lx5_4, lx6_m2, lx6_m1, lx6_0, lx6_1, lx6_2, lx6_3, lx6_4, lx6_5, isiT, isiI, isiB, isiL, is_tt, is_ii, is_ib, is_ti, seqT, seqL, tupL, truL, truT, isN_N, lcP0, sz0, ap0, lcP1, sz1, ap1, lcP2, sz2, ap2, lcP3, sz3, ap3, lcP4, sz4, ap4, lcP5, sz5, ap5, lcP6, sz6, ap6, lcP7, sz7, ap7, lcP8, sz8, ap8, lT0, lL0, lT1, lL1, al1, lT2, lL2, al2, lT3, lL3, al3, lT4, lL4, al4, lT5, lL5, al5, lT6, lL6, al6, rg0, rg1, rg2, rg3, rg4, rh0_0, rh0_1, rh0_2, rh0_3, rh0_4, rh1_1, rh1_2, rh1_3, rh1_4, rh2_2, rh2_3, rh2_4, rh3_3, rh3_4, rdm1, rd0, rd1, rd2, rd3, ob, addI, subI, negI, ltI, leI, gtI, geI, eqI, neI, truB, truN, int1, nameδ_eq, Option.bind_some, if_true, decide_true, decide_false, Bool.not_true, Bool.not_false, Bool.and_true, Bool.true_and, Bool.and_false, Bool.false_and, Bool.or_false, Bool.false_or, Bool.or_true, Bool.true_or, Bool.false_eq_true, if_false, cmpM_nil, cmpM_cons, forD_nil, forD_cons, Int.reduceSub, Int.reduceAdd, Int.reduceLE, Int.reduceLT, Int.reduceNeg, Int.reduceMul, Int.reduceEq, Nat.reduceAdd, Nat.reduceLeDiff, Bool.and_self, Bool.or_self, List.isEmpty_nil, List.isEmpty_cons, en0t, zp0tt, zp0tl, en0l, zp0lt, zp0ll, en1t, zp1tt, zp1tl, en1l, zp1lt, zp1ll, en2t, zp2tt, zp2tl, en2l, zp2lt, zp2ll, en3t, zp3tt, zp3tl, en3l, zp3lt, zp3ll, en4t, zp4tt, zp4tl, en4l, zp4lt, zp4ll, tupδ_t, consδ_c, nilδ_n, if_so, oadd_if, oadd_s, oadd_n, emp_if, Bool.not_not, acc_1, acc_2, acc_3, acc_4, max2m, min2m, sl1_0, sl2_0, sl2_1, sl3_0, sl3_1, sl3_2, sl4_0, sl4_1, sl4_2, sl4_3, sl5_0, sl5_1, sl5_2, sl5_3, sl5_4, sl6_0, sl6_1, sl6_2, sl6_3, sl6_4, sl6_5, tru0, tru1, tru2, tru3, tru4, tru5, bnd_ite, ite_same]
    rfl
  have e4 : seqD (lms n W H) = some (tab n (lm W H)) := rfl
  have e5 : fdivD (.int (c * u + sm (prf W H u d) (al 0 n))) (.int d) = some (.int ((c * u + sm (prf W H u d) (al 0 n)).fdiv d)) := fdivS (by omega)
  have e6 : takenM 5 m_accept_price_g (.list [lms n W H, .int c, .int u, .int d, .int ((c * u + sm (prf W H u d) (al 0 n)).fdiv d)]) = some (.bool true) := by
    refine taken5 ((acc_price g h hu hd).trans ?_)
    have : ¬ ((c * u + sm (prf W H u d) (al 0 n)).fdiv d + 1) * d ≤ c * u + sm (prf W H u d) (al 0 n) := fun q => by
      have := (le_fdiv (by omega)).mpr q
      omega
    rw [decide_eq_false this]
    rfl
  simp only [m__law_lamps_hold_l2, subI, sz5, e1, truB, e2, e3, e4, sumTab, addI, e5, e6, obW, Bool.not_true, Bool.false_eq_true, if_false]
theorem prices_turn (g : La n W H) (h : 0 ≤ c ∧ c ≤ 101) {u : Int} (hu : 0 ≤ u ∧ u ≤ 3) (kc kb : Unit → Wp D) : m__law_lamps_hold_l1 (lms n W H) (.int c) (.int (op W H n n c)) () (.int u) kc kb = kc () := by
  have e1 : rng2 [.int 1, .int 4] = some [.int 1, .int 2, .int 3] := rfl
  simp only [m__law_lamps_hold_l1, e1, obW, forD_w, forD_wn, price_turn g h hu (d := 1) (by omega), price_turn g h hu (d := 2) (by omega), price_turn g h hu (d := 3) (by omega)]
theorem lamps_rest (g : La n W H) (h : 0 ≤ c ∧ c ≤ 19) : WP (bnd (R := Wp D) (m_best_lamps (lms n W H) (.int c)) fun t76 => bnd ((tupδ (consδ nameδ (consδ nameδ nilδ))) t76) fun x6 => bnd (lenD [lms n W H]) fun t75 => bnd (m__law_sets t75) fun t74 => bnd (seqD (.list t74)) fun ds73 => bnd (lcP nameδ (m__law_lamps_hold_c4 (lms n W H) (.int c)) ds73) fun l72 => bnd (seqD (.list l72)) fun ds71 => bnd (lcP nameδ m__law_lamps_hold_c5 ds71) fun l70 => bnd (max1D [(.list l70)]) fun t69 => (orW (fun k => bnd (neD x6.1 t69) fun b31 => k b31) (fun k => bnd (seqD (.list l72)) fun ds30 => bnd (lcP (tupδ (consδ nameδ (consδ nameδ nilδ))) (m__law_lamps_hold_c6 t69) ds30) fun l29 => bnd (minE [(.list l29)]) fun t28 => bnd (neD x6.2.1 t28) fun b27 => k b27)) fun b68 => if b68 = true then retW (.bool false) else bnd (rng1 [(.int 4)]) fun ds67 => forD nameδ (m__law_lamps_hold_l1 (lms n W H) (.int c) t69) ds67 () fun s32 => (andV (fun k => bnd (m_accept_lamps (lms n W H) (.int c) x6.2.1 x6.1) fun q65 => bnd q65 fun t64 => bnd (isD t64 .none) fun b63 => k (.bool b63)) (fun k => bnd (addD x6.1 (.int 1)) fun t62 => bnd (szD [lms n W H, (.int c), x6.2.1, t62]) fun _ => bnd (takenM 4 m_accept_lamps_g (.list [lms n W H, (.int c), x6.2.1, t62])) fun t61 => bnd (truD t61) fun b60 => k (.bool (!b60)))) fun t66 => retW t66) 0 (fun d => d = .bool true) := by
  have n6 := g.n6
  have n1 := g.n1
  have hc : 0 ≤ c ∧ c ≤ 101 := by omega
  have hH : ∀ x : Int, 0 ≤ x → x < n → 0 ≤ H x := fun x a b => (g.le x a b).2.2.1
  have eb := best_ok g hc
  obtain ⟨t1, t2, t3⟩ := tl_ok (W := W) (H := H) (n := (n : Int)) n c h.1 (Int.le_refl _)
  rw [show (n : Int) - n = 0 by omega] at t1
  have x0 : tupδ (consδ nameδ (consδ nameδ nilδ)) (.tuple [.int (op W H n n c), tupI (tl W H n n c)]) = some (.int (op W H n n c), tupI (tl W H n n c), ()) := rfl
  have x1 : lenD [lms n W H] = some (.int n) := lenTt
  obtain ⟨ls, hp, es⟩ := sets_ok n n6
  have hls : ∀ T, T ∈ ls ↔ Inc 0 n T := fun T => hp.mem_iff.trans (mem_sets n T)
  have hlsl : ls.length ≤ 64 := by
    rw [hp.length_eq, sets_len]
    exact Nat.pow_le_pow_right (n := 2) (by decide) n6
  let G1 := ls.filter fun T => decide (sm H T ≤ c)
  have hG1 : ∀ T, T ∈ G1 ↔ Inc 0 n T ∧ sm H T ≤ c := fun T => by
    show T ∈ ls.filter _ ↔ _
    rw [List.mem_filter, hls, decide_eq_true_eq]
  have hG1l : G1.length ≤ 64 := Nat.le_trans (List.length_filter_le _ _) hlsl
  have hub : ∀ T ∈ G1, sm W T ≤ op W H n n c := fun T hT => by
    obtain ⟨q1, q2⟩ := (hG1 T).mp hT
    exact op_ge hH n c T (Int.le_refl _) (by rw [show (n : Int) - n = 0 by omega]; exact q1) q2
  have hin : tl W H n n c ∈ G1 := (hG1 _).mpr ⟨t1, t2⟩
  have e2 : lcP nameδ (m__law_lamps_hold_c4 (lms n W H) (.int c)) (ls.map tupI) = some (G1.map fun T => .tuple [.int (sm W T), tupI T]) := lcM _ _ (by omega) fun T hT => by
    have hi := (hls T).mp hT
    have hTl := hi.len (by omega)
    have y1 : lcP nameδ (m__law_lamps_hold_c2 (lms n W H)) (T.map .int) = some (T.map fun x => .int (H x)) := lcMa _ (by omega) fun x hx => by
      show bnd (R := Option (Option D)) (nameδ (PyData.int x)) _ = _
      simp only [m__law_lamps_hold_c2, lmsI (hi.mem hx), lm1, andW_p, orW_p, andW_u, orW_u, andV_u, orV_u, andV_p, orV_p, ifV_p, if_bool, if_bool, chT_ll, chT_lt, chT_tl, chV_ll, chV_lt, nameδ_eq, lstL, tx1_m1, tx1_0, tx2_m2, tx2_m1, tx2_0, tx2_1, tx3_m2, tx3_m1, tx3_0, tx3_1, tx3_2, tx4_m2, tx4_m1, tx4_0, tx4_1, tx4_2, tx4_3, tx5_m2, tx5_m1, tx5_0, tx5_1, tx5_2, tx5_3, tx5_4, tx6_m2, tx6_m1, tx6_0, tx6_1, tx6_2, tx6_3, tx6_4, tx6_5, lx1_m1, lx1_0, lx2_m2, lx2_m1, lx2_0, lx2_1, lx3_m2, lx3_m1, lx3_0, lx3_1, lx3_2, lx4_m2, lx4_m1, lx4_0, lx4_1, lx4_2, lx4_3, lx5_m2, lx5_m1, lx5_0, lx5_1, lx5_2, lx5_3, lx5_4, lx6_m2, lx6_m1, lx6_0, lx6_1, lx6_2, lx6_3, lx6_4, lx6_5, isiT, isiI, isiB, isiL, is_tt, is_ii, is_ib, is_ti, seqT, seqL, tupL, truL, truT, isN_N, lcP0, sz0, ap0, lcP1, sz1, ap1, lcP2, sz2, ap2, lcP3, sz3, ap3, lcP4, sz4, ap4, lcP5, sz5, ap5, lcP6, sz6, ap6, lcP7, sz7, ap7, lcP8, sz8, ap8, lT0, lL0, lT1, lL1, al1, lT2, lL2, al2, lT3, lL3, al3, lT4, lL4, al4, lT5, lL5, al5, lT6, lL6, al6, rg0, rg1, rg2, rg3, rg4, rh0_0, rh0_1, rh0_2, rh0_3, rh0_4, rh1_1, rh1_2, rh1_3, rh1_4, rh2_2, rh2_3, rh2_4, rh3_3, rh3_4, rdm1, rd0, rd1, rd2, rd3, ob, addI, subI, negI, ltI, leI, gtI, geI, eqI, neI, truB, truN, int1, nameδ_eq, Option.bind_some, if_true, decide_true, decide_false, Bool.not_true, Bool.not_false, Bool.and_true, Bool.true_and, Bool.and_false, Bool.false_and, Bool.or_false, Bool.false_or, Bool.or_true, Bool.true_or, Bool.false_eq_true, if_false, cmpM_nil, cmpM_cons, forD_nil, forD_cons, Int.reduceSub, Int.reduceAdd, Int.reduceLE, Int.reduceLT, Int.reduceNeg, Int.reduceMul, Int.reduceEq, Nat.reduceAdd, Nat.reduceLeDiff, Bool.and_self, Bool.or_self, List.isEmpty_nil, List.isEmpty_cons, en0t, zp0tt, zp0tl, en0l, zp0lt, zp0ll, en1t, zp1tt, zp1tl, en1l, zp1lt, zp1ll, en2t, zp2tt, zp2tl, en2l, zp2lt, zp2ll, en3t, zp3tt, zp3tl, en3l, zp3lt, zp3ll, en4t, zp4tt, zp4tl, en4l, zp4lt, zp4ll, tupδ_t, consδ_c, nilδ_n, if_so, oadd_if, oadd_s, oadd_n, emp_if, Bool.not_not, acc_1, acc_2, acc_3, acc_4, max2m, min2m, sl1_0, sl2_0, sl2_1, sl3_0, sl3_1, sl3_2, sl4_0, sl4_1, sl4_2, sl4_3, sl5_0, sl5_1, sl5_2, sl5_3, sl5_4, sl6_0, sl6_1, sl6_2, sl6_3, sl6_4, sl6_5, tru0, tru1, tru2, tru3, tru4, tru5, bnd_ite, ite_same]
    have y2 : lcP nameδ (m__law_lamps_hold_c3 (lms n W H)) (T.map .int) = some (T.map fun x => .int (W x)) := lcMa _ (by omega) fun x hx => by
      show bnd (R := Option (Option D)) (nameδ (PyData.int x)) _ = _
      simp only [m__law_lamps_hold_c3, lmsI (hi.mem hx), lm0, andW_p, orW_p, andW_u, orW_u, andV_u, orV_u, andV_p, orV_p, ifV_p, if_bool, if_bool, chT_ll, chT_lt, chT_tl, chV_ll, chV_lt, nameδ_eq, lstL, tx1_m1, tx1_0, tx2_m2, tx2_m1, tx2_0, tx2_1, tx3_m2, tx3_m1, tx3_0, tx3_1, tx3_2, tx4_m2, tx4_m1, tx4_0, tx4_1, tx4_2, tx4_3, tx5_m2, tx5_m1, tx5_0, tx5_1, tx5_2, tx5_3, tx5_4, tx6_m2, tx6_m1, tx6_0, tx6_1, tx6_2, tx6_3, tx6_4, tx6_5, lx1_m1, lx1_0, lx2_m2, lx2_m1, lx2_0, lx2_1, lx3_m2, lx3_m1, lx3_0, lx3_1, lx3_2, lx4_m2, lx4_m1, lx4_0, lx4_1, lx4_2, lx4_3, lx5_m2, lx5_m1, lx5_0, lx5_1, lx5_2, lx5_3, lx5_4, lx6_m2, lx6_m1, lx6_0, lx6_1, lx6_2, lx6_3, lx6_4, lx6_5, isiT, isiI, isiB, isiL, is_tt, is_ii, is_ib, is_ti, seqT, seqL, tupL, truL, truT, isN_N, lcP0, sz0, ap0, lcP1, sz1, ap1, lcP2, sz2, ap2, lcP3, sz3, ap3, lcP4, sz4, ap4, lcP5, sz5, ap5, lcP6, sz6, ap6, lcP7, sz7, ap7, lcP8, sz8, ap8, lT0, lL0, lT1, lL1, al1, lT2, lL2, al2, lT3, lL3, al3, lT4, lL4, al4, lT5, lL5, al5, lT6, lL6, al6, rg0, rg1, rg2, rg3, rg4, rh0_0, rh0_1, rh0_2, rh0_3, rh0_4, rh1_1, rh1_2, rh1_3, rh1_4, rh2_2, rh2_3, rh2_4, rh3_3, rh3_4, rdm1, rd0, rd1, rd2, rd3, ob, addI, subI, negI, ltI, leI, gtI, geI, eqI, neI, truB, truN, int1, nameδ_eq, Option.bind_some, if_true, decide_true, decide_false, Bool.not_true, Bool.not_false, Bool.and_true, Bool.true_and, Bool.and_false, Bool.false_and, Bool.or_false, Bool.false_or, Bool.or_true, Bool.true_or, Bool.false_eq_true, if_false, cmpM_nil, cmpM_cons, forD_nil, forD_cons, Int.reduceSub, Int.reduceAdd, Int.reduceLE, Int.reduceLT, Int.reduceNeg, Int.reduceMul, Int.reduceEq, Nat.reduceAdd, Nat.reduceLeDiff, Bool.and_self, Bool.or_self, List.isEmpty_nil, List.isEmpty_cons, en0t, zp0tt, zp0tl, en0l, zp0lt, zp0ll, en1t, zp1tt, zp1tl, en1l, zp1lt, zp1ll, en2t, zp2tt, zp2tl, en2l, zp2lt, zp2ll, en3t, zp3tt, zp3tl, en3l, zp3lt, zp3ll, en4t, zp4tt, zp4tl, en4l, zp4lt, zp4ll, tupδ_t, consδ_c, nilδ_n, if_so, oadd_if, oadd_s, oadd_n, emp_if, Bool.not_not, acc_1, acc_2, acc_3, acc_4, max2m, min2m, sl1_0, sl2_0, sl2_1, sl3_0, sl3_1, sl3_2, sl4_0, sl4_1, sl4_2, sl4_3, sl5_0, sl5_1, sl5_2, sl5_3, sl5_4, sl6_0, sl6_1, sl6_2, sl6_3, sl6_4, sl6_5, tru0, tru1, tru2, tru3, tru4, tru5, bnd_ite, ite_same]
    have y3 : seqD (tupI T) = some (T.map .int) := rfl
    show bnd (R := Option (Option D)) (nameδ (tupI T)) _ = _
    simp only [m__law_lamps_hold_c4, y3, y1, y2, sumM, andW_p, orW_p, andW_u, orW_u, andV_u, orV_u, andV_p, orV_p, ifV_p, if_bool, if_bool, chT_ll, chT_lt, chT_tl, chV_ll, chV_lt, nameδ_eq, lstL, tx1_m1, tx1_0, tx2_m2, tx2_m1, tx2_0, tx2_1, tx3_m2, tx3_m1, tx3_0, tx3_1, tx3_2, tx4_m2, tx4_m1, tx4_0, tx4_1, tx4_2, tx4_3, tx5_m2, tx5_m1, tx5_0, tx5_1, tx5_2, tx5_3, tx5_4, tx6_m2, tx6_m1, tx6_0, tx6_1, tx6_2, tx6_3, tx6_4, tx6_5, lx1_m1, lx1_0, lx2_m2, lx2_m1, lx2_0, lx2_1, lx3_m2, lx3_m1, lx3_0, lx3_1, lx3_2, lx4_m2, lx4_m1, lx4_0, lx4_1, lx4_2, lx4_3, lx5_m2, lx5_m1, lx5_0, lx5_1, lx5_2, lx5_3, lx5_4, lx6_m2, lx6_m1, lx6_0, lx6_1, lx6_2, lx6_3, lx6_4, lx6_5, isiT, isiI, isiB, isiL, is_tt, is_ii, is_ib, is_ti, seqT, seqL, tupL, truL, truT, isN_N, lcP0, sz0, ap0, lcP1, sz1, ap1, lcP2, sz2, ap2, lcP3, sz3, ap3, lcP4, sz4, ap4, lcP5, sz5, ap5, lcP6, sz6, ap6, lcP7, sz7, ap7, lcP8, sz8, ap8, lT0, lL0, lT1, lL1, al1, lT2, lL2, al2, lT3, lL3, al3, lT4, lL4, al4, lT5, lL5, al5, lT6, lL6, al6, rg0, rg1, rg2, rg3, rg4, rh0_0, rh0_1, rh0_2, rh0_3, rh0_4, rh1_1, rh1_2, rh1_3, rh1_4, rh2_2, rh2_3, rh2_4, rh3_3, rh3_4, rdm1, rd0, rd1, rd2, rd3, ob, addI, subI, negI, ltI, leI, gtI, geI, eqI, neI, truB, truN, int1, nameδ_eq, Option.bind_some, if_true, decide_true, decide_false, Bool.not_true, Bool.not_false, Bool.and_true, Bool.true_and, Bool.and_false, Bool.false_and, Bool.or_false, Bool.false_or, Bool.or_true, Bool.true_or, Bool.false_eq_true, if_false, cmpM_nil, cmpM_cons, forD_nil, forD_cons, Int.reduceSub, Int.reduceAdd, Int.reduceLE, Int.reduceLT, Int.reduceNeg, Int.reduceMul, Int.reduceEq, Nat.reduceAdd, Nat.reduceLeDiff, Bool.and_self, Bool.or_self, List.isEmpty_nil, List.isEmpty_cons, en0t, zp0tt, zp0tl, en0l, zp0lt, zp0ll, en1t, zp1tt, zp1tl, en1l, zp1lt, zp1ll, en2t, zp2tt, zp2tl, en2l, zp2lt, zp2ll, en3t, zp3tt, zp3tl, en3l, zp3lt, zp3ll, en4t, zp4tt, zp4tl, en4l, zp4lt, zp4ll, tupδ_t, consδ_c, nilδ_n, if_so, oadd_if, oadd_s, oadd_n, emp_if, Bool.not_not, acc_1, acc_2, acc_3, acc_4, max2m, min2m, sl1_0, sl2_0, sl2_1, sl3_0, sl3_1, sl3_2, sl4_0, sl4_1, sl4_2, sl4_3, sl5_0, sl5_1, sl5_2, sl5_3, sl5_4, sl6_0, sl6_1, sl6_2, sl6_3, sl6_4, sl6_5, tru0, tru1, tru2, tru3, tru4, tru5, bnd_ite, ite_same]
  have e3 : lcP nameδ m__law_lamps_hold_c5 (G1.map fun T => .tuple [.int (sm W T), tupI T]) = some ((G1.map fun T => sm W T).map .int) := by
    rw [List.map_map]
    refine lcMa _ (by omega) fun T hT => ?_
    show bnd (R := Option (Option D)) (nameδ (.tuple [.int (sm W T), tupI T])) _ = _
    simp only [m__law_lamps_hold_c5, andW_p, orW_p, andW_u, orW_u, andV_u, orV_u, andV_p, orV_p, ifV_p, if_bool, if_bool, chT_ll, chT_lt, chT_tl, chV_ll, chV_lt, nameδ_eq, lstL, tx1_m1, tx1_0, tx2_m2, tx2_m1, tx2_0, tx2_1, tx3_m2, tx3_m1, tx3_0, tx3_1, tx3_2, tx4_m2, tx4_m1, tx4_0, tx4_1, tx4_2, tx4_3, tx5_m2, tx5_m1, tx5_0, tx5_1, tx5_2, tx5_3, tx5_4, tx6_m2, tx6_m1, tx6_0, tx6_1, tx6_2, tx6_3, tx6_4, tx6_5, lx1_m1, lx1_0, lx2_m2, lx2_m1, lx2_0, lx2_1, lx3_m2, lx3_m1, lx3_0, lx3_1, lx3_2, lx4_m2, lx4_m1, lx4_0, lx4_1, lx4_2, lx4_3, lx5_m2, lx5_m1, lx5_0, lx5_1, lx5_2, lx5_3, lx5_4, lx6_m2, lx6_m1, lx6_0, lx6_1, lx6_2, lx6_3, lx6_4, lx6_5, isiT, isiI, isiB, isiL, is_tt, is_ii, is_ib, is_ti, seqT, seqL, tupL, truL, truT, isN_N, lcP0, sz0, ap0, lcP1, sz1, ap1, lcP2, sz2, ap2, lcP3, sz3, ap3, lcP4, sz4, ap4, lcP5, sz5, ap5, lcP6, sz6, ap6, lcP7, sz7, ap7, lcP8, sz8, ap8, lT0, lL0, lT1, lL1, al1, lT2, lL2, al2, lT3, lL3, al3, lT4, lL4, al4, lT5, lL5, al5, lT6, lL6, al6, rg0, rg1, rg2, rg3, rg4, rh0_0, rh0_1, rh0_2, rh0_3, rh0_4, rh1_1, rh1_2, rh1_3, rh1_4, rh2_2, rh2_3, rh2_4, rh3_3, rh3_4, rdm1, rd0, rd1, rd2, rd3, ob, addI, subI, negI, ltI, leI, gtI, geI, eqI, neI, truB, truN, int1, nameδ_eq, Option.bind_some, if_true, decide_true, decide_false, Bool.not_true, Bool.not_false, Bool.and_true, Bool.true_and, Bool.and_false, Bool.false_and, Bool.or_false, Bool.false_or, Bool.or_true, Bool.true_or, Bool.false_eq_true, if_false, cmpM_nil, cmpM_cons, forD_nil, forD_cons, Int.reduceSub, Int.reduceAdd, Int.reduceLE, Int.reduceLT, Int.reduceNeg, Int.reduceMul, Int.reduceEq, Nat.reduceAdd, Nat.reduceLeDiff, Bool.and_self, Bool.or_self, List.isEmpty_nil, List.isEmpty_cons, en0t, zp0tt, zp0tl, en0l, zp0lt, zp0ll, en1t, zp1tt, zp1tl, en1l, zp1lt, zp1ll, en2t, zp2tt, zp2tl, en2l, zp2lt, zp2ll, en3t, zp3tt, zp3tl, en3l, zp3lt, zp3ll, en4t, zp4tt, zp4tl, en4l, zp4lt, zp4ll, tupδ_t, consδ_c, nilδ_n, if_so, oadd_if, oadd_s, oadd_n, emp_if, Bool.not_not, acc_1, acc_2, acc_3, acc_4, max2m, min2m, sl1_0, sl2_0, sl2_1, sl3_0, sl3_1, sl3_2, sl4_0, sl4_1, sl4_2, sl4_3, sl5_0, sl5_1, sl5_2, sl5_3, sl5_4, sl6_0, sl6_1, sl6_2, sl6_3, sl6_4, sl6_5, tru0, tru1, tru2, tru3, tru4, tru5, bnd_ite, ite_same]
    rfl
  have e4 : max1D [.list ((G1.map fun T => sm W T).map .int)] = some (.int (op W H n n c)) := maxD_of ⟨List.mem_map.mpr ⟨_, hin, t3⟩, fun x hx => by
    obtain ⟨T, hT, rfl⟩ := List.mem_map.mp hx
    exact hub T hT⟩
  have e5 : lcP (tupδ (consδ nameδ (consδ nameδ nilδ))) (m__law_lamps_hold_c6 (.int (op W H n n c))) (G1.map fun T => .tuple [.int (sm W T), tupI T]) = some ((G1.filter fun T => decide (sm W T = op W H n n c)).map tupI) := lcM _ _ (by omega) fun T hT => by
    show bnd (R := Option (Option D)) (tupδ (consδ nameδ (consδ nameδ nilδ)) (.tuple [.int (sm W T), tupI T])) _ = _
    simp only [m__law_lamps_hold_c6, andW_p, orW_p, andW_u, orW_u, andV_u, orV_u, andV_p, orV_p, ifV_p, if_bool, if_bool, chT_ll, chT_lt, chT_tl, chV_ll, chV_lt, nameδ_eq, lstL, tx1_m1, tx1_0, tx2_m2, tx2_m1, tx2_0, tx2_1, tx3_m2, tx3_m1, tx3_0, tx3_1, tx3_2, tx4_m2, tx4_m1, tx4_0, tx4_1, tx4_2, tx4_3, tx5_m2, tx5_m1, tx5_0, tx5_1, tx5_2, tx5_3, tx5_4, tx6_m2, tx6_m1, tx6_0, tx6_1, tx6_2, tx6_3, tx6_4, tx6_5, lx1_m1, lx1_0, lx2_m2, lx2_m1, lx2_0, lx2_1, lx3_m2, lx3_m1, lx3_0, lx3_1, lx3_2, lx4_m2, lx4_m1, lx4_0, lx4_1, lx4_2, lx4_3, lx5_m2, lx5_m1, lx5_0, lx5_1, lx5_2, lx5_3, lx5_4, lx6_m2, lx6_m1, lx6_0, lx6_1, lx6_2, lx6_3, lx6_4, lx6_5, isiT, isiI, isiB, isiL, is_tt, is_ii, is_ib, is_ti, seqT, seqL, tupL, truL, truT, isN_N, lcP0, sz0, ap0, lcP1, sz1, ap1, lcP2, sz2, ap2, lcP3, sz3, ap3, lcP4, sz4, ap4, lcP5, sz5, ap5, lcP6, sz6, ap6, lcP7, sz7, ap7, lcP8, sz8, ap8, lT0, lL0, lT1, lL1, al1, lT2, lL2, al2, lT3, lL3, al3, lT4, lL4, al4, lT5, lL5, al5, lT6, lL6, al6, rg0, rg1, rg2, rg3, rg4, rh0_0, rh0_1, rh0_2, rh0_3, rh0_4, rh1_1, rh1_2, rh1_3, rh1_4, rh2_2, rh2_3, rh2_4, rh3_3, rh3_4, rdm1, rd0, rd1, rd2, rd3, ob, addI, subI, negI, ltI, leI, gtI, geI, eqI, neI, truB, truN, int1, nameδ_eq, Option.bind_some, if_true, decide_true, decide_false, Bool.not_true, Bool.not_false, Bool.and_true, Bool.true_and, Bool.and_false, Bool.false_and, Bool.or_false, Bool.false_or, Bool.or_true, Bool.true_or, Bool.false_eq_true, if_false, cmpM_nil, cmpM_cons, forD_nil, forD_cons, Int.reduceSub, Int.reduceAdd, Int.reduceLE, Int.reduceLT, Int.reduceNeg, Int.reduceMul, Int.reduceEq, Nat.reduceAdd, Nat.reduceLeDiff, Bool.and_self, Bool.or_self, List.isEmpty_nil, List.isEmpty_cons, en0t, zp0tt, zp0tl, en0l, zp0lt, zp0ll, en1t, zp1tt, zp1tl, en1l, zp1lt, zp1ll, en2t, zp2tt, zp2tl, en2l, zp2lt, zp2ll, en3t, zp3tt, zp3tl, en3l, zp3lt, zp3ll, en4t, zp4tt, zp4tl, en4l, zp4lt, zp4ll, tupδ_t, consδ_c, nilδ_n, if_so, oadd_if, oadd_s, oadd_n, emp_if, Bool.not_not, acc_1, acc_2, acc_3, acc_4, max2m, min2m, sl1_0, sl2_0, sl2_1, sl3_0, sl3_1, sl3_2, sl4_0, sl4_1, sl4_2, sl4_3, sl5_0, sl5_1, sl5_2, sl5_3, sl5_4, sl6_0, sl6_1, sl6_2, sl6_3, sl6_4, sl6_5, tru0, tru1, tru2, tru3, tru4, tru5, bnd_ite, ite_same]
  have e6 : minE [.list ((G1.filter fun T => decide (sm W T = op W H n n c)).map tupI)] = some (tupI (tl W H n n c)) := minE_tups (List.mem_filter.mpr ⟨hin, decide_eq_true t3⟩) fun T hT => by
    obtain ⟨q1, q2⟩ := List.mem_filter.mp hT
    obtain ⟨q3, q4⟩ := (hG1 T).mp q1
    exact tl_least hH n c T h.1 (Int.le_refl _) (by rw [show (n : Int) - n = 0 by omega]; exact q3) q4 (of_decide_eq_true q2)
  have e7 := neD_self (gdI (tl W H n n c))
  have e8 : rng1 [.int 4] = some [.int 0, .int 1, .int 2, .int 3] := rfl
  have e9 : m_accept_lamps (lms n W H) (.int c) (tupI (tl W H n n c)) (.int (op W H n n c)) = some (some .none) := by
    rw [acc_lamps g hc t1, t3, decide_eq_false (show ¬ c < sm H (tl W H n n c) by omega), decide_eq_false (show ¬ op W H n n c < op W H n n c by omega)]
    rfl
  have e10 : takenM 4 m_accept_lamps_g (.list [lms n W H, .int c, tupI (tl W H n n c), .int (op W H n n c + 1)]) = some (.bool false) := by
    refine taken_ok ((acc_lamps g hc t1 (op W H n n c + 1)).trans ?_)
    rw [t3, decide_eq_true (show op W H n n c < op W H n n c + 1 by omega), Bool.not_true, Bool.and_false]
  have e11 : isD .none .none = some true := rfl
  have z4 : ∀ a b c d : D, szD [a, b, c, d] = some () := sz4
  simp only [eb, x0, x1, es, seqL, e2, e3, e4, e5, e6, e7, e8, e9, e10, e11, z4, orW, andV, neI, decide_true, truB, addI, obW, Bool.not_true, Bool.not_false, Bool.false_eq_true, if_false, if_true, forD_w, forD_wn, prices_turn g hc (u := 0) (by omega), prices_turn g hc (u := 1) (by omega), prices_turn g hc (u := 2) (by omega), prices_turn g hc (u := 3) (by omega)]
  exact wp_ret rfl
end
theorem lamps_ok : WP m__law_lamps_hold 20 (fun d => d = .bool true) := by
  unfold m__law_lamps_hold
  refine wp_draw (N := 19) (by decide) fun a a0 a1 => ?_
  have e1 : rng1 [.int (1 + a)] = some (tab (1 + a).toNat .int) := rgT (by omega)
  simp only [addI, obW, e1]
  refine wp_lcW (N := 1) (fun _ x => ∃ w h : Int, x = .tuple [.int w, .int h] ∧ 0 ≤ w ∧ w ≤ 8 ∧ 0 ≤ h ∧ h ≤ 8) 2 (tot := 18) (by omega) (fun i i0 i1 => ⟨_, rfl, fun kk N' hkk => ?_⟩) (fun v hv => ?_) (by omega)
  · unfold m__law_lamps_hold_c1
    rw [if_pos rfl]
    refine wp_draw (N := N' + 1) (by decide) fun w w0 w1 => ?_
    refine wp_draw (by decide) fun h h0 h1 => ?_
    simp only [sz2, obW]
    exact hkk _ ⟨w, h, rfl, w0, by omega, h0, by omega⟩
  · have hv' : ∀ i : Int, ∃ w h : Int, (0 ≤ i → i < ((1 + a).toNat : Nat) → v i = .tuple [.int w, .int h] ∧ 0 ≤ w ∧ w ≤ 8 ∧ 0 ≤ h ∧ h ≤ 8) := fun i => by
      by_cases q : 0 ≤ i ∧ i < ((1 + a).toNat : Nat)
      · obtain ⟨w, h, e, hh⟩ := hv i q.1 q.2
        exact ⟨w, h, fun _ _ => ⟨e, hh⟩⟩
      · exact ⟨0, 0, fun p1 p2 => absurd ⟨p1, p2⟩ q⟩
    obtain ⟨W, hW⟩ := Classical.axiomOfChoice hv'
    obtain ⟨H, hH⟩ := Classical.axiomOfChoice hW
    have ev : tab (1 + a).toNat v = tab (1 + a).toNat (lm W H) := tab_congr fun i i0 i1 => (hH i i0 i1).1
    have e2 : tupleD [.list (tab (1 + a).toNat (lm W H))] = some (lms (1 + a).toNat W H) := rfl
    have g : La (1 + a).toNat W H := ⟨by omega, by omega, fun i i0 i1 => by have := hH i i0 i1; omega⟩
    rw [ev]
    simp only [e2, obW]
    refine wp_draw (N := 0) (by decide) fun c c0 c1 => ?_
    exact lamps_rest g ⟨c0, by omega⟩
theorem turn_ok {x : D} {kc kb : Unit → Wp D} {N : Nat} {Q : D → Prop} (hk : WP (kc ()) N Q) : WP (m_law_l1 () x kc kb) (N + 60) Q := by
  unfold m_law_l1
  refine wp_draw (N := N + 59) (by decide) fun a a0 a1 => ?_
  have e1 : rng1 [.int (1 + a)] = some (tab (1 + a).toNat .int) := rgT (by omega)
  simp only [addI, obW, e1]
  refine wp_le (M := N + 21 + 18) (wp_lcW (N := N + 21) (fun _ x => ∃ z : Int, x = .int z ∧ 1 ≤ z ∧ z ≤ 9) 2 (tot := 18) (by omega) (fun i i0 i1 => ⟨_, rfl, fun kk N' hkk => ?_⟩) (fun v hv => ?_) (by omega)) (by omega)
  · unfold m_law_c1 m__law_pick
    rw [if_pos rfl]
    have e2 : lenD [.list [.int 3, .int 9]] = some (.int 2) := rfl
    simp only [sz2, obW]
    refine wp_call (N := N' + 1) (M := 1) (Q' := fun d => d = .int 3 ∨ d = .int 9) ?_ fun d hd => ?_
    · simp only [e2, obW]
      refine wp_draw (N := 0) (by decide) fun b b0 b1 => ?_
      have hb : b = 0 ∨ b = 1 := by omega
      rcases hb with rfl | rfl
      · have e3 : ixD (.list [.int 3, .int 9]) (.int 0) = some (.int 3) := rfl
        simp only [e3, obW]
        exact wp_ret (.inl rfl)
      · have e3 : ixD (.list [.int 3, .int 9]) (.int 1) = some (.int 9) := rfl
        simp only [e3, obW]
        exact wp_ret (.inr rfl)
    · rcases hd with rfl | rfl
      · refine wp_draw (by decide) fun z z0 z1 => ?_
        simp only [addI, obW]
        exact hkk _ ⟨1 + z, rfl, by omega, by omega⟩
      · refine wp_draw (by decide) fun z z0 z1 => ?_
        simp only [addI, obW]
        exact hkk _ ⟨1 + z, rfl, by omega, by omega⟩
  · have hh : ∀ i : Int, 0 ≤ i → i < ((1 + a).toNat : Nat) → v i = .int (dInt (v i)) ∧ 1 ≤ dInt (v i) ∧ dInt (v i) ≤ 9 := fun i i0 i1 => by
      obtain ⟨z, e, z0, z1⟩ := hv i i0 i1
      rw [e]
      exact ⟨rfl, z0, z1⟩
    have ev : tab (1 + a).toNat v = tab (1 + a).toNat fun i => .int (dInt (v i)) := tab_congr fun i i0 i1 => (hh i i0 i1).1
    rw [ev]
    generalize hLd : (fun i => dInt (v i)) = L at hh
    have hL : ∀ i : Int, 0 ≤ i → i < ((1 + a).toNat : Nat) → 1 ≤ L i ∧ L i ≤ 9 := fun i i0 i1 => by
      rw [← hLd]
      exact (hh i i0 i1).2
    have e2 : tupleD [.list (tab (1 + a).toNat fun i => .int (dInt (v i)))] = some (lgs (1 + a).toNat L) := by
      rw [← hLd]
      rfl
    have e3 : sumD [lgs (1 + a).toNat L] = some (.int (sm L (al 0 (1 + a).toNat))) := by
      have : lgs (1 + a).toNat L = .tuple ((al 0 (1 + a).toNat).map fun x => .int (L x)) := by
        unfold lgs
        rw [al_tab, tab_map]
      rw [this]
      have e : ((al 0 (1 + a).toNat).map fun x => PyData.int (L x)) = ((al 0 (1 + a).toNat).map L).map .int := by rw [List.map_map]; rfl
      show ((intsD _).map fun bs => PyData.int bs.sum) = _
      rw [e, intsD_map, ← sm_eq_sum]
      rfl
    have hs0 : 0 ≤ sm L (al 0 (1 + a).toNat) := sm_nonneg fun x hx => by
      have h1 := al_in x hx
      have := hL x h1.1 h1.2
      omega
    have hs1 : sm L (al 0 (1 + a).toNat) ≤ 54 := by
      have h1 : sm L (al 0 (1 + a).toNat) ≤ sm (fun _ => 1 * 9) (al 0 (1 + a).toNat) := sm_le fun x hx => by
        have h1 := al_in x hx
        have := hL x h1.1 h1.2
        omega
      rw [sm_mulr (f := fun _ => 1), sm_one, al_len] at h1
      omega
    simp only [e2, e3, addI, orW, obW]
    refine wp_draw (N := N + 20) (by omega) fun s s0 s1 => ?_
    have g : Bo (1 + a).toNat L s := ⟨by omega, by omega, hL, s0, by omega⟩
    have g' : Bo (1 + a).toNat L (s + 1) := ⟨by omega, by omega, hL, by omega, by omega⟩
    simp only [boats_ok g g', truB, obW, Bool.not_true, Bool.false_eq_true, if_false]
    refine wp_call (N := N) (M := 20) lamps_ok fun d hd => ?_
    subst hd
    simp only [truB, obW, Bool.not_true, Bool.false_eq_true, if_false]
    exact hk
theorem law_ok : ∀ ns : List Int, ns.length ≤ 63 → m_law (cutL (ns.map .int) none (some 63)) (fun d _ => d = .bool true) 0 := fun ns hl => by
  refine law_of (N := 240) ?_ (by decide) (start_ok (by omega))
  have e1 : rng1 [.int 4] = some (tab 4 .int) := rfl
  simp only [e1, obW]
  exact wp_for (N := 0) (fun _ _ => True) (fun _ => False) 60 (tot := 240) (s0 := ()) trivial (fun i s i0 i1 _ => ⟨_, rfl, fun kc kb N' hkc _ => turn_ok (hkc () trivial)⟩) (fun s _ => wp_ret rfl) (by decide)
end G

end
section
namespace G
open RM (bnd)
open PySem PySem.Spec PyProof.Rows L2
theorem end_mk {w : World} {P : Program} {K : PySem.W.Frag} {h : Heap} {mg : Str → Option Value} (X : K.In h) (G : h.Ns mainGlobals mg) {fa PE fI cda cc : Addr} (hfa : mg "law" = some (.ref fa)) {t0 : Tok} {t1 : Tok} {t2 : Tok} {f0 : Addr} {od0 an0 : Option Addr} {sl0 : Array (Option Value)} {oc0 kV0 dc0 pm0 cd0 ct0 : Value} {f1 : Addr} {od1 an1 : Option Addr} {sl1 : Array (Option Value)} {oc1 kV1 dc1 pm1 cd1 ct1 : Value} {f2 : Addr} {od2 an2 : Option Addr} {sl2 : Array (Option Value)} {oc2 kV2 dc2 pm2 cd2 ct2 : Value} {f3 : Addr} {od3 an3 : Option Addr} {sl3 : Array (Option Value)} {oc3 kV3 dc3 pm3 cd3 ct3 : Value} {f4 : Addr} {od4 an4 : Option Addr} {sl4 : Array (Option Value)} {oc4 kV4 dc4 pm4 cd4 ct4 : Value} {f5 : Addr} {od5 an5 : Option Addr} {sl5 : Array (Option Value)} {oc5 kV5 dc5 pm5 cd5 ct5 : Value} {f6 : Addr} {od6 an6 : Option Addr} {sl6 : Array (Option Value)} {oc6 kV6 dc6 pm6 cd6 ct6 : Value} {f7 : Addr} {od7 an7 : Option Addr} {sl7 : Array (Option Value)} {oc7 kV7 dc7 pm7 cd7 ct7 : Value} {f8 : Addr} {od8 an8 : Option Addr} {sl8 : Array (Option Value)} {oc8 kV8 dc8 pm8 cd8 ct8 : Value} {f9 : Addr} {od9 an9 : Option Addr} {sl9 : Array (Option Value)} {oc9 kV9 dc9 pm9 cd9 ct9 : Value} {f10 : Addr} {od10 an10 : Option Addr} {sl10 : Array (Option Value)} {oc10 kV10 dc10 pm10 cd10 ct10 : Value} {f11 : Addr} {od11 an11 : Option Addr} {sl11 : Array (Option Value)} {oc11 kV11 dc11 pm11 cd11 ct11 : Value} {f12 : Addr} {od12 an12 : Option Addr} {sl12 : Array (Option Value)} {oc12 kV12 dc12 pm12 cd12 ct12 : Value} {f13 : Addr} {od13 an13 : Option Addr} {sl13 : Array (Option Value)} {oc13 kV13 dc13 pm13 cd13 ct13 : Value} {f14 : Addr} {od14 an14 : Option Addr} {sl14 : Array (Option Value)} {oc14 kV14 dc14 pm14 cd14 ct14 : Value} {f15 : Addr} {od15 an15 : Option Addr} {sl15 : Array (Option Value)} {oc15 kV15 dc15 pm15 cd15 ct15 : Value} {f16 : Addr} {od16 an16 : Option Addr} {sl16 : Array (Option Value)} {oc16 kV16 dc16 pm16 cd16 ct16 : Value} {f17 : Addr} {od17 an17 : Option Addr} {sl17 : Array (Option Value)} {oc17 kV17 dc17 pm17 cd17 ct17 : Value} {f18 : Addr} {od18 an18 : Option Addr} {sl18 : Array (Option Value)} {oc18 kV18 dc18 pm18 cd18 ct18 : Value} {f19 : Addr} {od19 an19 : Option Addr} {sl19 : Array (Option Value)} {oc19 kV19 dc19 pm19 cd19 ct19 : Value} {f20 : Addr} {od20 an20 : Option Addr} {sl20 : Array (Option Value)} {oc20 kV20 dc20 pm20 cd20 ct20 : Value} {f21 : Addr} {od21 an21 : Option Addr} {sl21 : Array (Option Value)} {oc21 kV21 dc21 pm21 cd21 ct21 : Value}
    {nm q q2 : Str} {N : Addr} {bs bm : List Value} {sn : List Str} {sub : List Value} {ab : Bool} {col : Option Bool} {dd : Option Addr} {m0 m1 m2 m3 m5 : Option Value} {od an cdd cld : Option Addr} {sl ccs csl : Array (Option Value)} {oc dc pm ct ccl cl : Value} {vs : Array Value} {file tx : Str} {tf : Tok} {j : Nat} {p1 p2 r1 r2 r3 r4 r5 r6 q1 qq2 q3 q4 : Pos}
    (z0 : PySem.W.nsIn K mainGlobals "abs" = some none)
    (z1 : PySem.W.nsIn K mainGlobals "all" = some none)
    (z2 : PySem.W.nsIn K mainGlobals "bool" = some none)
    (z3 : PySem.W.nsIn K mainGlobals "enumerate" = some none)
    (z4 : PySem.W.nsIn K mainGlobals "int" = some none)
    (z5 : PySem.W.nsIn K mainGlobals "isinstance" = some none)
    (z6 : PySem.W.nsIn K mainGlobals "len" = some none)
    (z7 : PySem.W.nsIn K mainGlobals "list" = some none)
    (z8 : PySem.W.nsIn K mainGlobals "max" = some none)
    (z9 : PySem.W.nsIn K mainGlobals "min" = some none)
    (z10 : PySem.W.nsIn K mainGlobals "range" = some none)
    (z11 : PySem.W.nsIn K mainGlobals "sorted" = some none)
    (z12 : PySem.W.nsIn K mainGlobals "sum" = some none)
    (z13 : PySem.W.nsIn K mainGlobals "tuple" = some none)
    (z14 : PySem.W.nsIn K mainGlobals "zip" = some none)
    (k0 : PySem.W.nsIn K mainGlobals "MAX_BOATS" = some (some (.int 40 t0)))
    (k1 : PySem.W.nsIn K mainGlobals "MAX_HOURS" = some (some (.int 1000 t1)))
    (k2 : PySem.W.nsIn K mainGlobals "MAX_PLACES" = some (some (.int 30 t2)))
    (a0 : PySem.W.nsIn K mainGlobals "is_integer" = some (some (.ref f0)))
    (l0 : K.lookup f0 = some ⟨oc0, od0, .func (PySem.W.fnOf "is_integer" "is_integer" (defArgs (top 6)) (defBody (top 6)) (defScope (top 6)) .none kV0 dc0 pm0 an0 cd0 ct0), sl0⟩)
    (c0 : PySem.W.codeIn K cd0 "is_integer" = true)
    (w0 : PySem.W.keepIn K (.ref f0) = true)
    (a1 : PySem.W.nsIn K mainGlobals "check_boats" = some (some (.ref f1)))
    (l1 : K.lookup f1 = some ⟨oc1, od1, .func (PySem.W.fnOf "check_boats" "check_boats" (defArgs (top 11)) (defBody (top 11)) (defScope (top 11)) .none kV1 dc1 pm1 an1 cd1 ct1), sl1⟩)
    (c1 : PySem.W.codeIn K cd1 "check_boats" = true)
    (w1 : PySem.W.keepIn K (.ref f1) = true)
    (a2 : PySem.W.nsIn K mainGlobals "check_order" = some (some (.ref f2)))
    (l2 : K.lookup f2 = some ⟨oc2, od2, .func (PySem.W.fnOf "check_order" "check_order" (defArgs (top 12)) (defBody (top 12)) (defScope (top 12)) .none kV2 dc2 pm2 an2 cd2 ct2), sl2⟩)
    (c2 : PySem.W.codeIn K cd2 "check_order" = true)
    (w2 : PySem.W.keepIn K (.ref f2) = true)
    (a3 : PySem.W.nsIn K mainGlobals "ends_in" = some (some (.ref f3)))
    (l3 : K.lookup f3 = some ⟨oc3, od3, .func (PySem.W.fnOf "ends_in" "ends_in" (defArgs (top 13)) (defBody (top 13)) (defScope (top 13)) .none kV3 dc3 pm3 an3 cd3 ct3), sl3⟩)
    (c3 : PySem.W.codeIn K cd3 "ends_in" = true)
    (w3 : PySem.W.keepIn K (.ref f3) = true)
    (a4 : PySem.W.nsIn K mainGlobals "judge_order" = some (some (.ref f4)))
    (l4 : K.lookup f4 = some ⟨oc4, od4, .func (PySem.W.fnOf "judge_order" "judge_order" (defArgs (top 14)) (defBody (top 14)) (defScope (top 14)) .none kV4 dc4 pm4 an4 cd4 ct4), sl4⟩)
    (c4 : PySem.W.codeIn K cd4 "judge_order" = true)
    (w4 : PySem.W.keepIn K (.ref f4) = true)
    (a5 : PySem.W.nsIn K mainGlobals "fewest_late" = some (some (.ref f5)))
    (l5 : K.lookup f5 = some ⟨oc5, od5, .func (PySem.W.fnOf "fewest_late" "fewest_late" (defArgs (top 15)) (defBody (top 15)) (defScope (top 15)) .none kV5 dc5 pm5 an5 cd5 ct5), sl5⟩)
    (c5 : PySem.W.codeIn K cd5 "fewest_late" = true)
    (w5 : PySem.W.keepIn K (.ref f5) = true)
    (a6 : PySem.W.nsIn K mainGlobals "accept_left" = some (some (.ref f6)))
    (l6 : K.lookup f6 = some ⟨oc6, od6, .func (PySem.W.fnOf "accept_left" "accept_left" (defArgs (top 16)) (defBody (top 16)) (defScope (top 16)) .none kV6 dc6 pm6 an6 cd6 ct6), sl6⟩)
    (c6 : PySem.W.codeIn K cd6 "accept_left" = true)
    (w6 : PySem.W.keepIn K (.ref f6) = true)
    (a7 : PySem.W.nsIn K mainGlobals "least_lateness" = some (some (.ref f7)))
    (l7 : K.lookup f7 = some ⟨oc7, od7, .func (PySem.W.fnOf "least_lateness" "least_lateness" (defArgs (top 17)) (defBody (top 17)) (defScope (top 17)) .none kV7 dc7 pm7 an7 cd7 ct7), sl7⟩)
    (c7 : PySem.W.codeIn K cd7 "least_lateness" = true)
    (w7 : PySem.W.keepIn K (.ref f7) = true)
    (a8 : PySem.W.nsIn K mainGlobals "check_lamps" = some (some (.ref f8)))
    (l8 : K.lookup f8 = some ⟨oc8, od8, .func (PySem.W.fnOf "check_lamps" "check_lamps" (defArgs (top 19)) (defBody (top 19)) (defScope (top 19)) .none kV8 dc8 pm8 an8 cd8 ct8), sl8⟩)
    (c8 : PySem.W.codeIn K cd8 "check_lamps" = true)
    (w8 : PySem.W.keepIn K (.ref f8) = true)
    (a9 : PySem.W.nsIn K mainGlobals "check_oil" = some (some (.ref f9)))
    (l9 : K.lookup f9 = some ⟨oc9, od9, .func (PySem.W.fnOf "check_oil" "check_oil" (defArgs (top 21)) (defBody (top 21)) (defScope (top 21)) .none kV9 dc9 pm9 an9 cd9 ct9), sl9⟩)
    (c9 : PySem.W.codeIn K cd9 "check_oil" = true)
    (w9 : PySem.W.keepIn K (.ref f9) = true)
    (a10 : PySem.W.nsIn K mainGlobals "best_lamps" = some (some (.ref f10)))
    (l10 : K.lookup f10 = some ⟨oc10, od10, .func (PySem.W.fnOf "best_lamps" "best_lamps" (defArgs (top 20)) (defBody (top 20)) (defScope (top 20)) .none kV10 dc10 pm10 an10 cd10 ct10), sl10⟩)
    (c10 : PySem.W.codeIn K cd10 "best_lamps" = true)
    (w10 : PySem.W.keepIn K (.ref f10) = true)
    (a11 : PySem.W.nsIn K mainGlobals "accept_lamps" = some (some (.ref f11)))
    (l11 : K.lookup f11 = some ⟨oc11, od11, .func (PySem.W.fnOf "accept_lamps" "accept_lamps" (defArgs (top 22)) (defBody (top 22)) (defScope (top 22)) .none kV11 dc11 pm11 an11 cd11 ct11), sl11⟩)
    (c11 : PySem.W.codeIn K cd11 "accept_lamps" = true)
    (w11 : PySem.W.keepIn K (.ref f11) = true)
    (a12 : PySem.W.nsIn K mainGlobals "accept_price" = some (some (.ref f12)))
    (l12 : K.lookup f12 = some ⟨oc12, od12, .func (PySem.W.fnOf "accept_price" "accept_price" (defArgs (top 23)) (defBody (top 23)) (defScope (top 23)) .none kV12 dc12 pm12 an12 cd12 ct12), sl12⟩)
    (c12 : PySem.W.codeIn K cd12 "accept_price" = true)
    (w12 : PySem.W.keepIn K (.ref f12) = true)
    (a13 : PySem.W.nsIn K mainGlobals "_law_pick" = some (some (.ref f13)))
    (l13 : K.lookup f13 = some ⟨oc13, od13, .func (PySem.W.fnOf "_law_pick" "_law_pick" (defArgs (top 27)) (defBody (top 27)) (defScope (top 27)) .none kV13 dc13 pm13 an13 cd13 ct13), sl13⟩)
    (c13 : PySem.W.codeIn K cd13 "_law_pick" = true)
    (w13 : PySem.W.keepIn K (.ref f13) = true)
    (a14 : PySem.W.nsIn K mainGlobals "_law_sets" = some (some (.ref f14)))
    (l14 : K.lookup f14 = some ⟨oc14, od14, .func (PySem.W.fnOf "_law_sets" "_law_sets" (defArgs (top 28)) (defBody (top 28)) (defScope (top 28)) .none kV14 dc14 pm14 an14 cd14 ct14), sl14⟩)
    (c14 : PySem.W.codeIn K cd14 "_law_sets" = true)
    (w14 : PySem.W.keepIn K (.ref f14) = true)
    (a15 : PySem.W.nsIn K mainGlobals "_law_kept" = some (some (.ref f15)))
    (l15 : K.lookup f15 = some ⟨oc15, od15, .func (PySem.W.fnOf "_law_kept" "_law_kept" (defArgs (top 30)) (defBody (top 30)) (defScope (top 30)) .none kV15 dc15 pm15 an15 cd15 ct15), sl15⟩)
    (c15 : PySem.W.codeIn K cd15 "_law_kept" = true)
    (w15 : PySem.W.keepIn K (.ref f15) = true)
    (a16 : PySem.W.nsIn K mainGlobals "_law_boats_hold" = some (some (.ref f16)))
    (l16 : K.lookup f16 = some ⟨oc16, od16, .func (PySem.W.fnOf "_law_boats_hold" "_law_boats_hold" (defArgs (top 31)) (defBody (top 31)) (defScope (top 31)) .none kV16 dc16 pm16 an16 cd16 ct16), sl16⟩)
    (c16 : PySem.W.codeIn K cd16 "_law_boats_hold" = true)
    (w16 : PySem.W.keepIn K (.ref f16) = true)
    (a17 : PySem.W.nsIn K mainGlobals "_law_lamps_hold" = some (some (.ref f17)))
    (l17 : K.lookup f17 = some ⟨oc17, od17, .func (PySem.W.fnOf "_law_lamps_hold" "_law_lamps_hold" (defArgs (top 32)) (defBody (top 32)) (defScope (top 32)) .none kV17 dc17 pm17 an17 cd17 ct17), sl17⟩)
    (c17 : PySem.W.codeIn K cd17 "_law_lamps_hold" = true)
    (w17 : PySem.W.keepIn K (.ref f17) = true)
    (a18 : PySem.W.nsIn K mainGlobals "law" = some (some (.ref f18)))
    (l18 : K.lookup f18 = some ⟨oc18, od18, .func (PySem.W.fnOf "law" "law" (defArgs (top 33)) (defBody (top 33)) (defScope (top 33)) .none kV18 dc18 pm18 an18 cd18 ct18), sl18⟩)
    (c18 : PySem.W.codeIn K cd18 "law" = true)
    (w18 : PySem.W.keepIn K (.ref f18) = true)
    (a19 : PySem.W.nsIn K mainGlobals "_law_draw" = some (some (.ref f19)))
    (l19 : K.lookup f19 = some ⟨oc19, od19, .func (PySem.W.fnOf "_law_draw" "_law_draw" (defArgs (top 26)) (defBody (top 26)) (defScope (top 26)) .none kV19 dc19 pm19 an19 cd19 ct19), sl19⟩)
    (c19 : PySem.W.codeIn K cd19 "_law_draw" = true)
    (w19 : PySem.W.keepIn K (.ref f19) = true)
    (a20 : PySem.W.nsIn K mainGlobals "_law_start" = some (some (.ref f20)))
    (l20 : K.lookup f20 = some ⟨oc20, od20, .func (PySem.W.fnOf "_law_start" "_law_start" (defArgs (top 25)) (defBody (top 25)) (defScope (top 25)) .none kV20 dc20 pm20 an20 cd20 ct20), sl20⟩)
    (c20 : PySem.W.codeIn K cd20 "_law_start" = true)
    (w20 : PySem.W.keepIn K (.ref f20) = true)
    (a21 : PySem.W.nsIn K mainGlobals "_law_is_taken" = some (some (.ref f21)))
    (l21 : K.lookup f21 = some ⟨oc21, od21, .func (PySem.W.fnOf "_law_is_taken" "_law_is_taken" (defArgs (top 29)) (defBody (top 29)) (defScope (top 29)) .none kV21 dc21 pm21 an21 cd21 ct21), sl21⟩)
    (c21 : PySem.W.codeIn K cd21 "_law_is_taken" = true)
    (w21 : PySem.W.keepIn K (.ref f21) = true)
    (aE : PySem.W.nsIn K mainGlobals "PaperError" = some (some (.ref PE)))
    (exL : K.lookup PE = some (excClassObj nm q PE N bs bm true sn sub ab col dd m0 m1 m2 m3 m5 "ValueError.__new__"))
    (ebm : PySem.HandSPX.refsVE bm = true)
    (esa : PySem.W.findIn K (.ref PE) "__setattr__" = some (some (.builtin "object.__setattr__")))
    (enb : PySem.W.findIn K (.ref PE) "reason" = some none)
    (eiC : PySem.W.findIn K (.ref PE) "__init__" = some (some (.ref fI)))
    (etC : PySem.W.typeIn K (.ref fI) = some (.type "function"))
    (el1 : K.lookup fI = some ⟨oc, od, .func (PySem.W.ksFn "__init__" q2 (PySem.GX.iA p1 p2) (PySem.GX.iB tx j r1 r2 r3 r4 r5 r6 q1 qq2 q3 q4) PySem.GX.iS .none .none dc pm an (.ref cda) ct cc), sl⟩)
    (ec1 : PySem.W.codeIn K (.ref cda) q2 = true)
    (elc : K.lookup cda = some ⟨ccl, cdd, .fields vs, ccs⟩)
    (ehv : vs[2]? = some (.str file tf))
    (ehf : ((P.main.file : Str) == file) = true)
    (elcc : K.lookup cc = some ⟨cl, cld, .cell (some (.ref PE)), csl⟩)
    (ehe : PySem.GX.HEv tx j r1 r2 r3 r4 r5)
    (ekC : PySem.W.keepIn K (.ref PE) = true)
    (eeC : PySem.W.subIn K (.ref PE) (.type "BaseException") = some true)
    (evC : PySem.W.subIn K (.ref PE) (.type "ValueError") = some true)
    (ety : PySem.W.typeIn K (.ref PE) = some (.type "type"))
    (emC : PySem.W.mroIn K PE (.ref PE) = some true)
    (etp : PySem.W.nsIn K cStatics "thirdparty.any" = some none)
    (esu : PySem.W.ks_superIn K PE PE "__init__" = some (some (.builtin "ValueError.__init__")))
    (exi : PySem.W.excInitIn K PE PySem.GX.bmVE "ValueError.__new__" = true)
    (ens : PySem.W.nsIn K mainGlobals "super" = some none)
    (ett : (P.main.scope.names.lookup ("super" : Str)).isSome = false)
    (xi2 : PySem.W.isClsIn K PE = true) (xi4 : PySem.W.subIn K (.ref PE) (.ref PE) = some true) :
    ∃ fd : FuncData, (∀ (s : Shared) (v : Value), BindsTo s fd ⟨[v], []⟩ [("script", v)]) ∧ ∀ base : Heap, K.In base → base.Ns mainGlobals mg → FnOk P w K mg base CX0 6 fa fd ["script"] (spLaw K) := by
  obtain ⟨a, d, T, rfl⟩ := tx_mk X G hfa z0 z1 z2 z3 z4 z5 z6 z7 z8 z9 z10 z11 z12 z13 z14 k0 k1 k2 a0 l0 c0 w0 a1 l1 c1 w1 a2 l2 c2 w2 a3 l3 c3 w3 a4 l4 c4 w4 a5 l5 c5 w5 a6 l6 c6 w6 a7 l7 c7 w7 a8 l8 c8 w8 a9 l9 c9 w9 a10 l10 c10 w10 a11 l11 c11 w11 a12 l12 c12 w12 a13 l13 c13 w13 a14 l14 c14 w14 a15 l15 c15 w15 a16 l16 c16 w16 a17 l17 c17 w17 a18 l18 c18 w18 a19 l19 c19 w19 a20 l20 c20 w20 a21 l21 c21 w21 aE (err_mk X G exL ebm esa enb eiC etC el1 ec1 elc ehv ehf elcc ehe ekC eeC evC ety emC etp esu exi ens ett) (exm_self eeC xi2 ety xi4)
  exact ⟨d.d_law, fun s v => T.bind_law s v, fun base _ _ => ok_law T law_ok⟩
end G
open PySem PySem.W PyProof.Rows
set_option maxHeartbeats 0 in
theorem PySem.Challenge.cw_coneshoisted_k08_most_boats_are_best_lam_holds : PySem.Challenge.rw_coneshoisted_k08_most_boats_are_best_lam.Holds := by
  w_on; o_law; k_head; (case hw => w_witness2)
  k_fill
  refine L2.walk_of (l := PySem.Challenge.rw_coneshoisted_k08_most_boats_are_best_lam) (n := 63) (k := 6) (x := "script") (CX := fun _ => L2.CX0) (sp := fun w => G.spLaw _) rfl (by decide) rfl ⟨rfl, by decide, by decide⟩ (fun w h Y => PySem.W.kIn_of Y) ?F (fun _ _ a ns hl _ hS => ⟨a, ns, rfl, hl, hS, fun _ => rfl⟩) (fun _ _ _ _ _ h => h)
  case F =>
    intro w mg fa h KX G0 hmg
    refine' G.end_mk KX G0 hmg ?z0 ?z1 ?z2 ?z3 ?z4 ?z5 ?z6 ?z7 ?z8 ?z9 ?z10 ?z11 ?z12 ?z13 ?z14 ?k0 ?k1 ?k2 ?a0 ?l0 ?c0 ?w0 ?a1 ?l1 ?c1 ?w1 ?a2 ?l2 ?c2 ?w2 ?a3 ?l3 ?c3 ?w3 ?a4 ?l4 ?c4 ?w4 ?a5 ?l5 ?c5 ?w5 ?a6 ?l6 ?c6 ?w6 ?a7 ?l7 ?c7 ?w7 ?a8 ?l8 ?c8 ?w8 ?a9 ?l9 ?c9 ?w9 ?a10 ?l10 ?c10 ?w10 ?a11 ?l11 ?c11 ?w11 ?a12 ?l12 ?c12 ?w12 ?a13 ?l13 ?c13 ?w13 ?a14 ?l14 ?c14 ?w14 ?a15 ?l15 ?c15 ?w15 ?a16 ?l16 ?c16 ?w16 ?a17 ?l17 ?c17 ?w17 ?a18 ?l18 ?c18 ?w18 ?a19 ?l19 ?c19 ?w19 ?a20 ?l20 ?c20 ?w20 ?a21 ?l21 ?c21 ?w21 ?aE ?exL ?ebm ?esa ?enb ?eiC ?etC ?el1 ?ec1 ?elc ?ehv ?ehf ?elcc ?ehe ?ekC ?eeC ?evC ?ety ?emC ?etp ?esu ?exi ?ens ?ett ?xi2 ?xi4
    (case z0 => k_is); (case z1 => k_is); (case z2 => k_is); (case z3 => k_is); (case z4 => k_is); (case z5 => k_is); (case z6 => k_is); (case z7 => k_is); (case z8 => k_is); (case z9 => k_is); (case z10 => k_is); (case z11 => k_is); (case z12 => k_is); (case z13 => k_is); (case z14 => k_is); (case k0 => k_is); (case k1 => k_is); (case k2 => k_is); (case a0 => k_is); (case l0 => k_is); (case c0 => k_is); (case w0 => k_is); (case a1 => k_is); (case l1 => k_is); (case c1 => k_is); (case w1 => k_is); (case a2 => k_is); (case l2 => k_is); (case c2 => k_is); (case w2 => k_is); (case a3 => k_is); (case l3 => k_is); (case c3 => k_is); (case w3 => k_is); (case a4 => k_is); (case l4 => k_is); (case c4 => k_is); (case w4 => k_is); (case a5 => k_is); (case l5 => k_is); (case c5 => k_is); (case w5 => k_is); (case a6 => k_is); (case l6 => k_is); (case c6 => k_is); (case w6 => k_is); (case a7 => k_is); (case l7 => k_is); (case c7 => k_is); (case w7 => k_is); (case a8 => k_is); (case l8 => k_is); (case c8 => k_is); (case w8 => k_is); (case a9 => k_is); (case l9 => k_is); (case c9 => k_is); (case w9 => k_is); (case a10 => k_is); (case l10 => k_is); (case c10 => k_is); (case w10 => k_is); (case a11 => k_is); (case l11 => k_is); (case c11 => k_is); (case w11 => k_is); (case a12 => k_is); (case l12 => k_is); (case c12 => k_is); (case w12 => k_is); (case a13 => k_is); (case l13 => k_is); (case c13 => k_is); (case w13 => k_is); (case a14 => k_is); (case l14 => k_is); (case c14 => k_is); (case w14 => k_is); (case a15 => k_is); (case l15 => k_is); (case c15 => k_is); (case w15 => k_is); (case a16 => k_is); (case l16 => k_is); (case c16 => k_is); (case w16 => k_is); (case a17 => k_is); (case l17 => k_is); (case c17 => k_is); (case w17 => k_is); (case a18 => k_is); (case l18 => k_is); (case c18 => k_is); (case w18 => k_is); (case a19 => k_is); (case l19 => k_is); (case c19 => k_is); (case w19 => k_is); (case a20 => k_is); (case l20 => k_is); (case c20 => k_is); (case w20 => k_is); (case a21 => k_is); (case l21 => k_is); (case c21 => k_is); (case w21 => k_is)
    (case aE => k_is)
    (case exL => k_is); (case ebm => decide +kernel); (case esa => k_is); (case enb => k_is); (case eiC => k_is); (case etC => k_is); (case el1 => k_is); (case ec1 => k_is); (case elc => k_is); (case ehv => rfl); (case ehf => rfl); (case elcc => k_is); (case ehe => exact ⟨_, fun _ => rfl⟩)
    (case ekC => k_is); (case eeC => k_is); (case evC => k_is); (case ety => k_is); (case emC => k_is); (case etp => k_is); (case esu => first | kx_is | kernel_rfl | rfl | decide +kernel); (case exi => first | kx_is | k_is | decide +kernel); (case ens => k_is); (case ett => decide +kernel)
    (case xi2 => k_is); (case xi4 => k_is)

end
